import PyProof.Rows.All
import Wide.All
import OpenK.AllK
import Wide.FinOn
import HandS.ForExc
import HandS.Comp
import HandS.Dict
import HandS.Iter
import HandS.IsInst
import HandS.ExcIs
import HandS.TupLe
import HandS.TupAny
import HandS.Zip
import HandS.Evl
import HandS.Style
import HandS.Conv
import PySem.Challenge.RW_ringcrown_k05_every_history
set_option Elab.async false
set_option linter.all false
set_option maxRecDepth 100000
set_option maxHeartbeats 4000000
/-! # RcMirror: the program as plain Lean functions (hand, ring), no Python in sight -/
namespace RC

inductive Wd where | ask | answer | crown
  deriving DecidableEq

/-- a letter -/
structure Lt where
  way : Int
  word : Wd
  num : Int
  stg : Int
  stp : Int

/-- a hand -/
structure Hd where
  num : Int
  awake : Bool
  beaten : Bool
  crowned : Bool
  stage : Int
  far : Int
  came : Int
  known : Option Int

def Hd.new (k : Int) : Hd := ⟨k, false, false, false, 0, 1, 0, none⟩
def Hd.asks (h : Hd) : List Lt := [⟨1, .ask, h.num, h.stage, h.far⟩, ⟨-1, .ask, h.num, h.stage, h.far⟩]
def Hd.wk (h : Hd) : Hd := { h with awake := true }
def Hd.wls (h : Hd) : List Lt := if h.awake then [] else h.asks
def Hd.up (h : Hd) : Hd := { h with came := 0, stage := h.stage + 1, far := 2 * h.far }
def Hd.asked (h : Hd) (l : Lt) : Hd × List Lt :=
  if l.num = h.num ∧ h.crowned = false then ({ h with crowned := true, known := some l.num }, [⟨1, .crown, l.num, 0, 0⟩])
  else if l.num ≤ h.num then (h, [])
  else if 1 < l.stp then ({ h with beaten := true }, [⟨l.way, l.word, l.num, l.stg, l.stp - 1⟩])
  else ({ h with beaten := true }, [⟨-l.way, .answer, l.num, l.stg, 0⟩])
def Hd.answered (h : Hd) (l : Lt) : Hd × List Lt :=
  if l.num ≠ h.num then (h, [l])
  else if h.came + 1 < 2 ∨ h.beaten = true then ({ h with came := h.came + 1 }, [])
  else (h.up, h.up.asks)
def Hd.told (h : Hd) (l : Lt) : Hd × List Lt :=
  if l.num = h.num then (h, []) else ({ h with known := some l.num }, [l])
def Hd.proc (h : Hd) (l : Lt) : Hd × List Lt :=
  match l.word with
  | .ask => h.asked l
  | .answer => h.answered l
  | .crown => h.told l
def Hd.take (h : Hd) (l : Lt) : Hd × List Lt := ((h.wk.proc l).1, h.wls ++ (h.wk.proc l).2)

/-- a ring: its hands by places, the mails under way (each with its place), how many letters were sent -/
structure Rg where
  hands : List Hd
  post : List (Nat × Lt)
  many : Nat

def nxt (n p : Nat) (way : Int) : Nat := (((p : Int) + way) % (n : Int)).toNat
def Rg.new (ks : List Int) : Rg := ⟨ks.map Hd.new, [], 0⟩
def Rg.h (S : Rg) (p : Nat) : Hd := S.hands.getD p (Hd.new 0)
def Rg.put (S : Rg) (q : Nat) (ls : List Lt) : Rg :=
  { S with post := S.post ++ ls.map (fun l => (nxt S.hands.length q l.way, l)), many := S.many + ls.length }
def Rg.setH (S : Rg) (q : Nat) (h : Hd) : Rg := { S with hands := S.hands.set q h }
def Rg.wake (S : Rg) (q : Nat) : Rg := (S.setH q (S.h q).wk).put q (S.h q).wls
def Rg.drop (S : Rg) (i : Nat) : Rg := { S with post := S.post.eraseIdx i }
/-- the hand at q takes the letter l -/
def Rg.give (S : Rg) (q : Nat) (l : Lt) : Rg := (S.setH q ((S.h q).take l).1).put q ((S.h q).take l).2
/-- the hand at q, awake already, takes the letter l -/
def Rg.give1 (S : Rg) (q : Nat) (l : Lt) : Rg := (S.setH q ((S.h q).proc l).1).put q ((S.h q).proc l).2
def Rg.mail (S : Rg) (i : Nat) : Nat × Lt := S.post.getD i (0, ⟨1, .crown, 0, 0, 0⟩)
def Rg.bring (S : Rg) (i : Nat) : Rg := (S.drop i).give (S.mail i).1 (S.mail i).2

theorem h_setH {S : Rg} {q : Nat} {x : Hd} (hq : q < S.hands.length) (p : Nat) : (S.setH q x).h p = if p = q then x else S.h p := by
  unfold Rg.setH Rg.h
  show (S.hands.set q x).getD p _ = _
  rw [List.getD_eq_getElem?_getD, List.getD_eq_getElem?_getD, List.getElem?_set]
  by_cases e : p = q
  · subst e
    simp [hq]
  · rw [if_neg (fun z => e z.symm), if_neg e]
theorem h_put {S : Rg} {q : Nat} {ls : List Lt} (p : Nat) : (S.put q ls).h p = S.h p := rfl
theorem wk_awake {h : Hd} (e : h.awake = true) : h.wk = h := by
  cases h
  simp only [Hd.wk] at *
  subst e
  rfl

/-- bringing a mail: the hand is woken first, then it takes the letter -/
theorem bring_eq {S : Rg} {i : Nat} (hi : i < S.post.length) (hq : (S.mail i).1 < S.hands.length) :
    S.bring i = ((S.wake (S.mail i).1).drop i).give1 (S.mail i).1 (S.mail i).2 := by
  have hl : ((S.setH (S.mail i).1 (S.h (S.mail i).1).wk).hands).length = S.hands.length := by unfold Rg.setH; simp
  have e1 : ((S.wake (S.mail i).1).drop i).h (S.mail i).1 = (S.h (S.mail i).1).wk := by
    show (S.setH (S.mail i).1 (S.h (S.mail i).1).wk).h (S.mail i).1 = _
    rw [h_setH hq, if_pos rfl]
  unfold Rg.give1
  rw [e1]
  unfold Rg.bring Rg.give Rg.wake Rg.drop Rg.put Rg.setH Hd.take
  simp only [List.length_set, List.map_append, List.length_append, List.set_set]
  have e2 : ({ hands := S.hands, post := S.post.eraseIdx i, many := S.many } : Rg).h (S.mail i).1 = S.h (S.mail i).1 := rfl
  rw [e2]
  congr 1
  · rw [List.eraseIdx_append_of_lt_length hi, List.append_assoc]
  · omega

theorem proc_len (h : Hd) (l : Lt) : (h.proc l).2.length ≤ 2 := by
  unfold Hd.proc
  cases l.word with
  | ask =>
    show (h.asked l).2.length ≤ 2
    unfold Hd.asked
    repeat' split
    all_goals simp
  | answer =>
    show (h.answered l).2.length ≤ 2
    unfold Hd.answered Hd.asks
    repeat' split
    all_goals simp
  | crown =>
    show (h.told l).2.length ≤ 2
    unfold Hd.told
    split
    all_goals simp
end RC
/-! # RcMath1: places of the ring, tokens, the invariant -/
namespace RC

def sg (w : Bool) : Int := if w then 1 else -1
/-- the place d steps from p, to the right (w) or to the left -/
def pt (n : Nat) (w : Bool) (p d : Nat) : Nat :=
  if w then (if p + d < n then p + d else p + d - n) else (if d ≤ p then p - d else p + n - d)
theorem pt_lt {n p d : Nat} {w : Bool} (hp : p < n) (hd : d ≤ n) : pt n w p d < n := by
  unfold pt
  cases w <;> simp <;> split <;> omega
theorem pt_zero {n p : Nat} {w : Bool} (hp : p < n) : pt n w p 0 = p := by
  unfold pt
  cases w <;> simp <;> omega
theorem pt_n {n p : Nat} {w : Bool} (hp : p < n) : pt n w p n = p := by
  unfold pt
  cases w <;> simp <;> omega
theorem pt_self {n p d : Nat} {w : Bool} (hp : p < n) (h1 : 1 ≤ d) (hd : d ≤ n) (e : pt n w p d = p) : d = n := by
  unfold pt at e
  cases w <;> simp at e <;> split at e <;> omega
theorem pt_inj {n p d e : Nat} {w : Bool} (hp : p < n) (hd : d < n) (he : e < n) (h : pt n w p d = pt n w p e) : d = e := by
  unfold pt at h
  cases w <;> simp at h <;> split at h <;> split at h <;> omega
/-- every other place is met within n - 1 steps -/
theorem pt_all {n p q : Nat} (w : Bool) (hp : p < n) (hq : q < n) (hne : q ≠ p) : ∃ j, 1 ≤ j ∧ j ≤ n - 1 ∧ pt n w p j = q := by
  cases w with
  | true =>
    by_cases h : p < q
    · exact ⟨q - p, by omega, by omega, by unfold pt; simp; split <;> omega⟩
    · exact ⟨q + n - p, by omega, by omega, by unfold pt; simp; split <;> omega⟩
  | false =>
    by_cases h : p < q
    · exact ⟨p + n - q, by omega, by omega, by unfold pt; simp; split <;> omega⟩
    · exact ⟨p - q, by omega, by omega, by unfold pt; simp; omega⟩
theorem nxt_right {n q : Nat} (hq : q < n) : nxt n q 1 = pt n true q 1 := by
  unfold nxt pt
  simp
  by_cases h : q + 1 < n
  · rw [if_pos h, Int.emod_eq_of_lt (by omega) (by omega)]
    omega
  · have e : (q : Int) + 1 = (n : Int) := by omega
    rw [if_neg h, e, Int.emod_self]
    omega
theorem nxt_left {n q : Nat} (hq : q < n) : nxt n q (-1) = pt n false q 1 := by
  unfold nxt pt
  simp
  by_cases h : 1 ≤ q
  · rw [if_pos h, Int.emod_eq_of_lt (by omega) (by omega)]
    omega
  · have e0 : q = 0 := by omega
    subst e0
    have e1 : (((0 : Nat) : Int) + -1) % (n : Int) = (n : Int) - 1 := by
      have : (((0 : Nat) : Int) + -1) = ((n : Int) - 1) + (n : Int) * (-1) := by omega
      rw [this, Int.add_mul_emod_self_left, Int.emod_eq_of_lt (by omega) (by omega)]
    rw [e1]
    simp
theorem nxt_sg {n q : Nat} (w : Bool) (hq : q < n) : nxt n q (sg w) = pt n w q 1 := by
  cases w with
  | true => exact nxt_right hq
  | false => exact nxt_left hq
theorem nxt_nsg {n q : Nat} (w : Bool) (hq : q < n) : nxt n q (- sg w) = pt n (!w) q 1 := by
  cases w with
  | true => exact nxt_left hq
  | false => exact nxt_right hq
theorem pt_on {n p d : Nat} {w : Bool} (hp : p < n) (hd : d + 1 ≤ n) : pt n w (pt n w p d) 1 = pt n w p (d + 1) := by
  unfold pt
  cases w <;> simp <;> (repeat' split) <;> omega
theorem pt_back {n p d : Nat} {w : Bool} (hp : p < n) (hd : d + 1 ≤ n) : pt n (!w) (pt n w p (d + 1)) 1 = pt n w p d := by
  unfold pt
  cases w <;> simp <;> (repeat' split) <;> omega

/-- the numbers up to d places from p, on the side w, are lesser -/
def low (n : Nat) (nums : Nat → Int) (w : Bool) (p d : Nat) : Prop := ∀ j, 1 ≤ j → j ≤ d → nums (pt n w p j) < nums p
theorem low.mono {n : Nat} {nums : Nat → Int} {w : Bool} {p d e : Nat} (h : low n nums w p d) (he : e ≤ d) : low n nums w p e := fun j h1 h2 => h j h1 (Nat.le_trans h2 he)
theorem low.all {n : Nat} {nums : Nat → Int} {w : Bool} {p : Nat} (hp : p < n) (h : low n nums w p (n - 1)) {q : Nat} (hq : q < n) (hne : q ≠ p) : nums q < nums p := by
  obtain ⟨j, h1, h2, e⟩ := pt_all w hp hq hne
  have := h j h1 h2
  rwa [e] at this

/-- what is under way, told by whose it is: an ask (or its answer) of the hand at p on the side w, of stage s, d places away from p; a crown d places from p -/
structure Tk where
  kind : Wd
  p : Nat
  w : Bool
  s : Nat
  d : Nat
def Tk.mail (n : Nat) (nums : Nat → Int) (t : Tk) : Nat × Lt :=
  match t.kind with
  | .ask => (pt n t.w t.p t.d, ⟨sg t.w, .ask, nums t.p, (t.s : Int), ((2 ^ t.s : Nat) : Int) - (t.d : Int) + 1⟩)
  | .answer => (pt n t.w t.p t.d, ⟨- sg t.w, .answer, nums t.p, (t.s : Int), 0⟩)
  | .crown => (pt n true t.p t.d, ⟨1, .crown, nums t.p, 0, 0⟩)
def Tk.tok (p : Nat) (w : Bool) (t : Tk) : Bool := decide (t.kind ≠ .crown) && decide (t.p = p) && decide (t.w = w)
def Tk.rem (n : Nat) (t : Tk) : Nat :=
  match t.kind with
  | .ask => if 2 ^ t.s < n then 2 ^ t.s - t.d + 2 ^ t.s else n - t.d
  | .answer => t.d
  | .crown => n - t.d
def Good (n : Nat) (nums : Nat → Int) (h : Nat → Hd) (t : Tk) : Prop :=
  match t.kind with
  | .ask => t.p < n ∧ (h t.p).awake = true ∧ (h t.p).stage = (t.s : Int) ∧ 1 ≤ t.d ∧ t.d ≤ 2 ^ t.s ∧ t.d ≤ n ∧ low n nums t.w t.p (t.d - 1)
  | .answer => t.p < n ∧ (h t.p).awake = true ∧ (h t.p).stage = (t.s : Int) ∧ t.d < 2 ^ t.s ∧ 2 ^ t.s < n ∧ low n nums t.w t.p (2 ^ t.s)
  | .crown => t.p < n ∧ (h t.p).crowned = true ∧ 1 ≤ t.d ∧ t.d ≤ n ∧ ∀ j, 1 ≤ j → j < t.d → (h (pt n true t.p j)).known ≠ none

def b2i (b : Bool) : Int := if b then 1 else 0
/-- the letters that one ask of stage s may cost -/
def cS (n s : Nat) : Nat := if 2 ^ s < n then 2 * 2 ^ s else n
def costUp (n : Nat) : Nat → Nat
  | 0 => 2 * cS n 0
  | s + 1 => costUp n s + 2 * cS n (s + 1)
def costH (n : Nat) (h : Hd) : Nat := if h.awake then costUp n h.stage.toNat else 0
def sumTo (f : Nat → Nat) : Nat → Nat
  | 0 => 0
  | k + 1 => sumTo f k + f k
theorem sumTo_congr {f g : Nat → Nat} : ∀ {n : Nat}, (∀ p, p < n → f p = g p) → sumTo f n = sumTo g n
  | 0, _ => rfl
  | n + 1, h => by
    show sumTo f n + f n = sumTo g n + g n
    rw [sumTo_congr (n := n) fun p hp => h p (by omega), h n (by omega)]
theorem sumTo_upd {f g : Nat → Nat} {q : Nat} : ∀ {n : Nat}, q < n → (∀ p, p < n → p ≠ q → g p = f p) → sumTo g n + f q = sumTo f n + g q
  | 0, hq, _ => by omega
  | n + 1, hq, h => by
    show sumTo g n + g n + f q = sumTo f n + f n + g q
    by_cases e : q = n
    · subst e
      rw [sumTo_congr (f := g) (g := f) fun p hp => h p (by omega) (by omega)]
      omega
    · have := sumTo_upd (f := f) (g := g) (q := q) (n := n) (by omega) fun p hp hne => h p (by omega) hne
      have e2 := h n (by omega) (fun z => e z.symm)
      omega
theorem sumTo_le {f g : Nat → Nat} : ∀ {n : Nat}, (∀ p, p < n → f p ≤ g p) → sumTo f n ≤ sumTo g n
  | 0, _ => Nat.le_refl _
  | n + 1, h => by
    have a := sumTo_le (n := n) fun p hp => h p (by omega)
    have b := h n (by omega)
    show sumTo f n + f n ≤ sumTo g n + g n
    omega

/-- THE INVARIANT. gs: the mails under way by their owners; dn p w: whether the answer of the side w has come at the stage of p -/
structure Inv (n : Nat) (nums : Nat → Int) (S : Rg) (gs : List Tk) (dn : Nat → Bool → Bool) : Prop where
  len : S.hands.length = n
  num : ∀ p, p < n → (S.h p).num = nums p
  post : S.post = gs.map (Tk.mail n nums)
  good : ∀ t, t ∈ gs → Good n nums S.h t
  one : ∀ p w, gs.countP (Tk.tok p w) ≤ 1
  dn0 : ∀ p, p < n → ∀ w, dn p w = true → gs.countP (Tk.tok p w) = 0 ∧ (S.h p).awake = true ∧ ∃ s : Nat, (S.h p).stage = (s : Int) ∧ 2 ^ s < n ∧ low n nums w p (2 ^ s)
  came : ∀ p, p < n → (S.h p).came = b2i (dn p true) + b2i (dn p false)
  ndn : ∀ p, p < n → (S.h p).beaten = false → ¬ (dn p true = true ∧ dn p false = true)
  stg : ∀ p, p < n → ∃ s : Nat, (S.h p).stage = (s : Int) ∧ (S.h p).far = ((2 ^ s : Nat) : Int) ∧ (s = 0 ∨ (2 ^ (s - 1) < n ∧ ∀ w, low n nums w p (2 ^ (s - 1))))
  slp : ∀ p, p < n → (S.h p).awake = false → (S.h p).stage = 0 ∧ (S.h p).crowned = false ∧ (S.h p).known = none ∧ (S.h p).beaten = false
  top : ∀ p, p < n → (S.h p).crowned = true → ∀ q, q < n → nums q ≤ nums p
  ckn : ∀ p, p < n → (S.h p).crowned = true → (S.h p).known = some (nums p)
  kn : ∀ p, p < n → ∀ x, (S.h p).known = some x → ∃ m, m < n ∧ (S.h m).crowned = true ∧ x = nums m
  bt : ∀ p, p < n → (S.h p).beaten = true → ∃ q, q < n ∧ nums p < nums q
  live : ∀ p, p < n → (S.h p).awake = true → (∀ q, q < n → nums q ≤ nums p) → (S.h p).crowned = false → ∀ w, dn p w = false → gs.countP (Tk.tok p w) = 1
  crn : ∀ p, p < n → (S.h p).crowned = true → (∃ t, t ∈ gs ∧ t.kind = .crown) ∨ ∀ q, q < n → (S.h q).known ≠ none
  nei : ∀ p, p < n → (S.h p).awake = true → ∀ w, (S.h (pt n w p 1)).awake = true ∨ ∃ t, t ∈ gs ∧ (t.mail n nums).1 = pt n w p 1
  pot : ∃ c : Nat, S.many + (gs.map (Tk.rem n)).sum ≤ sumTo (fun p => costH n (S.h p)) n + c ∧ (c = 0 ∨ (c = n ∧ ∃ p, p < n ∧ (S.h p).crowned = true))
end RC
/-! # RcMath2: the invariant at the start, behind a waking, behind a mail that comes -/
namespace RC
variable {n : Nat} {nums : Nat → Int} {S S' : Rg} {gs A B ns : List Tk} {dn : Nat → Bool → Bool} {t : Tk} {q : Nat} {x' : Hd}

theorem sumTo_zero {f : Nat → Nat} : ∀ {n : Nat}, (∀ p, p < n → f p = 0) → sumTo f n = 0
  | 0, _ => rfl
  | n + 1, h => by
    show sumTo f n + f n = 0
    rw [sumTo_zero (n := n) fun p hp => h p (by omega), h n (by omega)]

theorem inv_new {ks : List Int} (hn : ks.length = n) (hk : ∀ p, p < n → ks.getD p 0 = nums p) : Inv n nums (Rg.new ks) [] (fun _ _ => false) := by
  have hh : ∀ p, p < n → (Rg.new ks).h p = Hd.new (nums p) := fun p hp => by
    rw [← hk p hp]
    unfold Rg.h Rg.new
    simp only [List.getD_eq_getElem?_getD, List.getElem?_map]
    have e : ks[p]? = some ks[p] := List.getElem?_eq_getElem (by omega)
    rw [e]
    rfl
  have tp : ∀ p, p < n → pt n true p 1 < n ∧ pt n false p 1 < n := fun p hp => ⟨pt_lt hp (by omega), pt_lt hp (by omega)⟩
  constructor
  · unfold Rg.new; simp [hn]
  · intro p hp; rw [hh p hp]; rfl
  · rfl
  · intro t ht; cases ht
  · intro p w; exact Nat.zero_le _
  · intro p hp w h; cases h
  · intro p hp; rw [hh p hp]; rfl
  · intro p hp _ h; cases h.1
  · intro p hp; rw [hh p hp]; exact ⟨0, rfl, rfl, Or.inl rfl⟩
  · intro p hp _; rw [hh p hp]; exact ⟨rfl, rfl, rfl, rfl⟩
  · intro p hp h; rw [hh p hp] at h; cases h
  · intro p hp h; rw [hh p hp] at h; cases h
  · intro p hp x h; rw [hh p hp] at h; cases h
  · intro p hp h; rw [hh p hp] at h; cases h
  · intro p hp h; rw [hh p hp] at h; cases h
  · intro p hp h; rw [hh p hp] at h; cases h
  · intro p hp h; rw [hh p hp] at h; cases h
  · exact ⟨0, by
      rw [sumTo_zero fun p hp => by rw [hh p hp]; rfl]
      exact Nat.le_refl _, Or.inl rfl⟩

/-- a greatest one is nobody's lesser -/
theorem not_beaten_top (I : Inv n nums S gs dn) {p : Nat} (hp : p < n) (h : ∀ q, q < n → nums q ≤ nums p) : (S.h p).beaten = false := by
  cases e : (S.h p).beaten with
  | false => rfl
  | true =>
    obtain ⟨q, hq, hl⟩ := I.bt p hp e
    have := h q hq
    omega

theorem mem_mid {α : Type} {A B : List α} {t x : α} : x ∈ A ++ t :: B ↔ x = t ∨ x ∈ A ++ B := by
  simp only [List.mem_append, List.mem_cons]
  constructor
  · rintro (h | h | h)
    · exact Or.inr (Or.inl h)
    · exact Or.inl h
    · exact Or.inr (Or.inr h)
  · rintro (h | h | h)
    · exact Or.inr (Or.inl h)
    · exact Or.inl h
    · exact Or.inr (Or.inr h)
theorem cp_mid {α : Type} {f : α → Bool} {A B : List α} {t : α} : (A ++ t :: B).countP f = (A ++ B).countP f + (if f t = true then 1 else 0) := by
  simp only [List.countP_append, List.countP_cons]
  omega
theorem rem_mid {f : Tk → Nat} {A B : List Tk} {t : Tk} : ((A ++ t :: B).map f).sum = ((A ++ B).map f).sum + f t := by
  simp only [List.map_append, List.map_cons, List.sum_append, List.sum_cons]
  omega

/-- A MOVE: the token t becomes ns (none or one), the hand at q keeps all but «beaten» and «known» -/
theorem Inv.move (I : Inv n nums S (A ++ t :: B) dn) (hq : q < n) (ha : (S.h q).awake = true) (htq : (t.mail n nums).1 = q)
    (len' : S'.hands.length = n) (h' : ∀ p, S'.h p = if p = q then x' else S.h p) (post' : S'.post = (A ++ B ++ ns).map (Tk.mail n nums)) (many' : S'.many = S.many + ns.length)
    (xnum : x'.num = (S.h q).num) (xaw : x'.awake = (S.h q).awake) (xcr : x'.crowned = (S.h q).crowned) (xst : x'.stage = (S.h q).stage) (xfar : x'.far = (S.h q).far) (xcame : x'.came = (S.h q).came)
    (xbt : x'.beaten = (S.h q).beaten ∨ (x'.beaten = true ∧ ∃ p, p < n ∧ nums q < nums p))
    (xkn : x'.known = (S.h q).known ∨ ∃ m, m < n ∧ (S.h m).crowned = true ∧ x'.known = some (nums m))
    (gns : ∀ u, u ∈ ns → Good n nums S'.h u) (cns : ∀ p w, ns.countP (Tk.tok p w) ≤ if Tk.tok p w t = true then 1 else 0)
    (lns : ∀ w, (∀ z, z < n → nums z ≤ nums t.p) → (S.h t.p).crowned = false → Tk.tok t.p w t = true → ns.countP (Tk.tok t.p w) = 1)
    (kns : t.kind = .crown → (∃ u, u ∈ ns ∧ u.kind = .crown) ∨ ∀ z, z < n → (S'.h z).known ≠ none)
    (rns : (ns.map (Tk.rem n)).sum + ns.length ≤ t.rem n) : Inv n nums S' (A ++ B ++ ns) dn := by
  have fld : ∀ {α : Type} (f : Hd → α), f x' = f (S.h q) → ∀ p, f (S'.h p) = f (S.h p) := fun f e p => by
    rw [h' p]
    by_cases hp : p = q
    · rw [if_pos hp, e, hp]
    · rw [if_neg hp]
  have fnum := fld (·.num) xnum
  have faw := fld (·.awake) xaw
  have fcr := fld (·.crowned) xcr
  have fst := fld (·.stage) xst
  have ffar := fld (·.far) xfar
  have fcame := fld (·.came) xcame
  have tp : t.p < n := by
    have g := I.good t (mem_mid.mpr (Or.inl rfl))
    unfold Good at g
    cases e : t.kind <;> rw [e] at g <;> exact g.1
  -- who knew knows
  have knm : ∀ p, (S.h p).known ≠ none → (S'.h p).known ≠ none := fun p hk => by
    rw [h' p]
    by_cases hp : p = q
    · rw [if_pos hp]
      rcases xkn with e | ⟨m, _, _, e⟩
      · rw [e, ← hp]; exact hk
      · rw [e]; simp
    · rw [if_neg hp]; exact hk
  have old : ∀ u, u ∈ A ++ B → Good n nums S'.h u := fun u hu => by
    have g := I.good u (mem_mid.mpr (Or.inr hu))
    unfold Good at *
    cases e : u.kind <;> simp only [e] at g ⊢
    · rw [faw, fst]; exact g
    · rw [faw, fst]; exact g
    · rw [fcr]
      exact ⟨g.1, g.2.1, g.2.2.1, g.2.2.2.1, fun j h1 h2 => knm _ (g.2.2.2.2 j h1 h2)⟩
  have cnt : ∀ p w, (A ++ B ++ ns).countP (Tk.tok p w) ≤ (A ++ t :: B).countP (Tk.tok p w) := fun p w => by
    rw [List.countP_append, cp_mid]
    have := cns p w
    omega
  constructor
  · exact len'
  · intro p hp; rw [fnum]; exact I.num p hp
  · exact post'
  · intro u hu
    rcases List.mem_append.mp hu with hu | hu
    · exact old u hu
    · exact gns u hu
  · intro p w
    exact Nat.le_trans (cnt p w) (I.one p w)
  · intro p hp w hd
    obtain ⟨h1, h2, h3⟩ := I.dn0 p hp w hd
    refine ⟨?_, by rw [faw]; exact h2, by rw [fst]; exact h3⟩
    have := cnt p w
    omega
  · intro p hp; rw [fcame]; exact I.came p hp
  · intro p hp hb
    refine I.ndn p hp ?_
    rw [h' p] at hb
    by_cases e : p = q
    · rw [if_pos e] at hb
      rw [e]
      rcases xbt with z | ⟨z, _⟩
      · rw [← z]; exact hb
      · rw [z] at hb; cases hb
    · rw [if_neg e] at hb; exact hb
  · intro p hp; rw [fst, ffar]; exact I.stg p hp
  · intro p hp hw
    rw [faw] at hw
    have e : p ≠ q := fun z => by rw [z, ha] at hw; cases hw
    rw [h' p, if_neg e]
    exact I.slp p hp hw
  · intro p hp; rw [fcr]; exact I.top p hp
  · intro p hp hc
    rw [fcr] at hc
    have k := I.ckn p hp hc
    rw [h' p]
    by_cases e : p = q
    · rw [if_pos e]
      rcases xkn with z | ⟨m, hm, hmc, z⟩
      · rw [z, ← e]; exact k
      · rw [z]
        have a := I.top p hp hc m hm
        have b := I.top m hm hmc p hp
        have : nums m = nums p := by omega
        rw [this]
    · rw [if_neg e]; exact k
  · intro p hp x hx
    rw [h' p] at hx
    by_cases e : p = q
    · rw [if_pos e] at hx
      rcases xkn with z | ⟨m, hm, hmc, z⟩
      · rw [z, ← e] at hx
        obtain ⟨m, hm, hc, ex⟩ := I.kn p hp x hx
        exact ⟨m, hm, by rw [fcr]; exact hc, ex⟩
      · rw [z] at hx
        exact ⟨m, hm, by rw [fcr]; exact hmc, (Option.some.inj hx).symm⟩
    · rw [if_neg e] at hx
      obtain ⟨m, hm, hc, ex⟩ := I.kn p hp x hx
      exact ⟨m, hm, by rw [fcr]; exact hc, ex⟩
  · intro p hp hb
    rw [h' p] at hb
    by_cases e : p = q
    · rw [if_pos e] at hb
      rcases xbt with z | ⟨_, m, hm, hl⟩
      · rw [z, ← e] at hb; exact I.bt p hp hb
      · rw [e]; exact ⟨m, hm, hl⟩
    · rw [if_neg e] at hb; exact I.bt p hp hb
  · intro p hp hw ht hc w hd
    rw [faw] at hw
    rw [fcr] at hc
    have a := I.live p hp hw ht hc w hd
    rw [cp_mid] at a
    rw [List.countP_append]
    by_cases z : Tk.tok p w t = true
    · rw [if_pos z] at a
      have e : t.p = p := by
        unfold Tk.tok at z
        simp at z
        exact z.1.2
      have b := lns w (by rw [e]; exact ht) (by rw [e]; exact hc) (by rw [e]; exact z)
      rw [e] at b
      omega
    · rw [if_neg z] at a
      have b := cns p w
      rw [if_neg z] at b
      omega
  · intro p hp hc
    rw [fcr] at hc
    rcases I.crn p hp hc with ⟨u, hu, ek⟩ | hk
    · rcases mem_mid.mp hu with e | hu
      · rw [e] at ek
        rcases kns ek with ⟨v, hv, ev⟩ | hk
        · exact Or.inl ⟨v, List.mem_append.mpr (Or.inr hv), ev⟩
        · exact Or.inr hk
      · exact Or.inl ⟨u, List.mem_append.mpr (Or.inl hu), ek⟩
    · exact Or.inr fun z hz => knm z (hk z hz)
  · intro p hp hw w
    rw [faw] at hw
    rw [faw]
    rcases I.nei p hp hw w with h | ⟨u, hu, eu⟩
    · exact Or.inl h
    · rcases mem_mid.mp hu with e | hu
      · rw [e, htq] at eu
        rw [← eu]
        exact Or.inl ha
      · exact Or.inr ⟨u, List.mem_append.mpr (Or.inl hu), eu⟩
  · obtain ⟨c, hc, ho⟩ := I.pot
    refine ⟨c, ?_, ?_⟩
    · rw [rem_mid] at hc
      rw [many', List.map_append, List.sum_append]
      have e : sumTo (fun p => costH n (S'.h p)) n = sumTo (fun p => costH n (S.h p)) n := sumTo_congr fun p _ => by
        show costH n (S'.h p) = costH n (S.h p)
        unfold costH
        rw [faw, fst]
      rw [e]
      omega
    · rcases ho with h | ⟨h, m, hm, hmc⟩
      · exact Or.inl h
      · exact Or.inr ⟨h, m, hm, by rw [fcr]; exact hmc⟩
end RC
/-! # RcMath3: the other three deeds: a crown is made, an answer is counted, a stage is gone up; waking -/
namespace RC
variable {n : Nat} {nums : Nat → Int} {S S' : Rg} {gs A B ns : List Tk} {dn : Nat → Bool → Bool} {t : Tk} {q : Nat} {x' : Hd}

/-- the crown as the hand at q sends it -/
def crown1 (q : Nat) : List Tk := [⟨.crown, q, true, 0, 1⟩]
/-- its own ask has come round: the hand at q is the first -/
theorem Inv.crown (inj : ∀ p q, p < n → q < n → nums p = nums q → p = q) (I : Inv n nums S (A ++ t :: B) dn) (hq : q < n) (ha : (S.h q).awake = true) (hc : (S.h q).crowned = false)
    (tk : t.kind = .ask) (tp : t.p = q) (td : t.d = n)
    (len' : S'.hands.length = n) (h' : ∀ p, S'.h p = if p = q then x' else S.h p) (post' : S'.post = (A ++ B ++ crown1 q).map (Tk.mail n nums)) (many' : S'.many = S.many + 1)
    (ex : x' = { S.h q with crowned := true, known := some (nums q) }) : Inv n nums S' (A ++ B ++ crown1 q) dn := by
  have g := I.good t (mem_mid.mpr (Or.inl rfl))
  unfold Good at g
  rw [tk] at g
  simp only at g
  obtain ⟨g1, g2, g3, g4, g5, g6, g7⟩ := g
  rw [td, tp] at g7
  have htop : ∀ z, z < n → nums z ≤ nums q := fun z hz => by
    by_cases e : z = q
    · rw [e]; exact Int.le_refl _
    · have := low.all hq g7 hz e; omega
  have noc : ∀ p, p < n → (S.h p).crowned = false := fun p hp => by
    cases e : (S.h p).crowned with
    | false => rfl
    | true =>
      have a := I.top p hp e q hq
      have b := htop p hp
      have : p = q := inj p q hp hq (by omega)
      rw [this, hc] at e; cases e
  have nok : ∀ p, p < n → (S.h p).known = none := fun p hp => by
    cases e : (S.h p).known with
    | none => rfl
    | some x =>
      obtain ⟨m, hm, hmc, _⟩ := I.kn p hp x e
      rw [noc m hm] at hmc; cases hmc
  have fld : ∀ {α : Type} (f : Hd → α), f x' = f (S.h q) → ∀ p, f (S'.h p) = f (S.h p) := fun f e p => by
    rw [h' p]
    by_cases hp : p = q
    · rw [if_pos hp, e, hp]
    · rw [if_neg hp]
  have fnum := fld (·.num) (by rw [ex])
  have faw := fld (·.awake) (by rw [ex])
  have fst := fld (·.stage) (by rw [ex])
  have ffar := fld (·.far) (by rw [ex])
  have fcame := fld (·.came) (by rw [ex])
  have fbt := fld (·.beaten) (by rw [ex])
  have hqq : S'.h q = x' := by rw [h' q, if_pos rfl]
  have cq : (S'.h q).crowned = true := by rw [hqq, ex]
  have cn : ∀ p, p < n → (S'.h p).crowned = true → p = q := fun p hp h => by
    by_cases e : p = q
    · exact e
    · rw [h' p, if_neg e, noc p hp] at h; cases h
  have kn' : ∀ p, p < n → ∀ x, (S'.h p).known = some x → p = q ∧ x = nums q := fun p hp x h => by
    by_cases e : p = q
    · rw [e, hqq, ex] at h
      exact ⟨e, (Option.some.inj h).symm⟩
    · rw [h' p, if_neg e, nok p hp] at h; cases h
  have hcp : ∀ p w, (A ++ B ++ crown1 q).countP (Tk.tok p w) = (A ++ B).countP (Tk.tok p w) := fun p w => by
    rw [List.countP_append]; rfl
  have nocr : ∀ u, u ∈ A ++ B → u.kind ≠ .crown := fun u hu e => by
    have g := I.good u (mem_mid.mpr (Or.inr hu))
    unfold Good at g
    rw [e] at g
    simp only at g
    rw [noc u.p g.1] at g
    cases g.2.1
  constructor
  · exact len'
  · intro p hp; rw [fnum]; exact I.num p hp
  · exact post'
  · intro u hu
    rcases List.mem_append.mp hu with hu | hu
    · have g := I.good u (mem_mid.mpr (Or.inr hu))
      have ne := nocr u hu
      unfold Good at *
      cases e : u.kind <;> simp only [e] at g ⊢
      · rw [faw, fst]; exact g
      · rw [faw, fst]; exact g
      · exact absurd e ne
    · unfold crown1 at hu
      rw [List.mem_singleton] at hu
      rw [hu]
      refine ⟨hq, cq, Nat.le_refl _, ?_, fun j h1 h2 => absurd h2 (by show ¬ j < 1; omega)⟩
      show 1 ≤ n
      omega
  · intro p w
    have := I.one p w
    rw [cp_mid] at this
    rw [hcp]
    omega
  · intro p hp w hd
    obtain ⟨h1, h2, h3⟩ := I.dn0 p hp w hd
    refine ⟨?_, by rw [faw]; exact h2, by rw [fst]; exact h3⟩
    rw [cp_mid] at h1
    rw [hcp]
    omega
  · intro p hp; rw [fcame]; exact I.came p hp
  · intro p hp hb; rw [fbt] at hb; exact I.ndn p hp hb
  · intro p hp; rw [fst, ffar]; exact I.stg p hp
  · intro p hp hw
    rw [faw] at hw
    have e : p ≠ q := fun z => by rw [z, ha] at hw; cases hw
    rw [h' p, if_neg e]
    exact I.slp p hp hw
  · intro p hp h; rw [cn p hp h]; exact htop
  · intro p hp h; rw [cn p hp h, hqq, ex]
  · intro p hp x hx
    exact ⟨q, hq, cq, (kn' p hp x hx).2⟩
  · intro p hp hb; rw [fbt] at hb; exact I.bt p hp hb
  · intro p hp hw ht h w hd
    have : p ≠ q := fun e => by rw [e, cq] at h; cases h
    exact absurd (inj p q hp hq (by have a := ht q hq; have b := htop p hp; omega)) this
  · intro p hp h
    exact Or.inl ⟨_, List.mem_append.mpr (Or.inr (List.mem_singleton.mpr rfl)), rfl⟩
  · intro p hp hw w
    rw [faw] at hw
    rw [faw]
    rcases I.nei p hp hw w with h | ⟨u, hu, eu⟩
    · exact Or.inl h
    · rcases mem_mid.mp hu with e | hu
      · have : (t.mail n nums).1 = q := by
          unfold Tk.mail
          rw [tk]
          show pt n t.w t.p t.d = q
          rw [tp, td]
          exact pt_n hq
        rw [e, this] at eu
        rw [← eu]
        exact Or.inl ha
      · exact Or.inr ⟨u, List.mem_append.mpr (Or.inl hu), eu⟩
  · obtain ⟨c, hc', ho⟩ := I.pot
    refine ⟨n, ?_, Or.inr ⟨rfl, q, hq, cq⟩⟩
    have c0 : c = 0 := by
      rcases ho with h | ⟨_, m, hm, hmc⟩
      · exact h
      · rw [noc m hm] at hmc; cases hmc
    rw [rem_mid] at hc'
    rw [many', List.map_append, List.sum_append]
    have e : sumTo (fun p => costH n (S'.h p)) n = sumTo (fun p => costH n (S.h p)) n := sumTo_congr fun p _ => by
      show costH n (S'.h p) = costH n (S.h p)
      unfold costH
      rw [faw, fst]
    have er : (List.map (Tk.rem n) (crown1 q)).sum = n - 1 := by
      show n - 1 + 0 = n - 1
      omega
    rw [e, er]
    omega

/-- an answer to an ask of its own has come and is counted, no more -/
theorem Inv.count (I : Inv n nums S (A ++ t :: B) dn) (hq : q < n) (ha : (S.h q).awake = true)
    (tk : t.kind = .answer) (tp : t.p = q) (td : t.d = 0) (hb : (S.h q).came + 1 < 2 ∨ (S.h q).beaten = true)
    (len' : S'.hands.length = n) (h' : ∀ p, S'.h p = if p = q then x' else S.h p) (post' : S'.post = (A ++ B).map (Tk.mail n nums)) (many' : S'.many = S.many)
    (ex : x' = { S.h q with came := (S.h q).came + 1 }) : Inv n nums S' (A ++ B) (fun p w => if p = q ∧ w = t.w then true else dn p w) := by
  have g := I.good t (mem_mid.mpr (Or.inl rfl))
  unfold Good at g
  rw [tk] at g
  simp only at g
  obtain ⟨g1, g2, g3, g4, g5, g6⟩ := g
  rw [tp] at g3 g6
  have fld : ∀ {α : Type} (f : Hd → α), f x' = f (S.h q) → ∀ p, f (S'.h p) = f (S.h p) := fun f e p => by
    rw [h' p]
    by_cases hp : p = q
    · rw [if_pos hp, e, hp]
    · rw [if_neg hp]
  have fnum := fld (·.num) (by rw [ex])
  have faw := fld (·.awake) (by rw [ex])
  have fcr := fld (·.crowned) (by rw [ex])
  have fst := fld (·.stage) (by rw [ex])
  have ffar := fld (·.far) (by rw [ex])
  have fkn := fld (·.known) (by rw [ex])
  have fbt := fld (·.beaten) (by rw [ex])
  have hqq : S'.h q = x' := by rw [h' q, if_pos rfl]
  have ttok : Tk.tok q t.w t = true := by
    unfold Tk.tok
    rw [tk, tp]
    simp
  have c0 : (A ++ B).countP (Tk.tok q t.w) = 0 := by
    have := I.one q t.w
    rw [cp_mid, if_pos ttok] at this
    omega
  have dnt : dn q t.w = false := by
    cases e : dn q t.w with
    | false => rfl
    | true =>
      have := (I.dn0 q hq t.w e).1
      rw [cp_mid, if_pos ttok] at this
      omega
  have came0 : (S.h q).came = b2i (dn q (!t.w)) := by
    have := I.came q hq
    cases e : t.w <;> rw [e] at dnt <;> rw [dnt] at this <;> rw [this] <;> unfold b2i <;> simp
  constructor
  · exact len'
  · intro p hp; rw [fnum]; exact I.num p hp
  · exact post'
  · intro u hu
    have g := I.good u (mem_mid.mpr (Or.inr hu))
    unfold Good at *
    cases e : u.kind <;> simp only [e] at g ⊢
    · rw [faw, fst]; exact g
    · rw [faw, fst]; exact g
    · rw [fcr]
      exact ⟨g.1, g.2.1, g.2.2.1, g.2.2.2.1, fun j h1 h2 => by rw [fkn]; exact g.2.2.2.2 j h1 h2⟩
  · intro p w
    have := I.one p w
    rw [cp_mid] at this
    omega
  · intro p hp w hd
    by_cases e : p = q ∧ w = t.w
    · rw [e.1, e.2]
      exact ⟨c0, by rw [faw]; exact ha, t.s, by rw [fst]; exact g3, g5, g6⟩
    · rw [if_neg e] at hd
      obtain ⟨h1, h2, h3⟩ := I.dn0 p hp w hd
      refine ⟨?_, by rw [faw]; exact h2, by rw [fst]; exact h3⟩
      rw [cp_mid] at h1
      omega
  · intro p hp
    by_cases e : p = q
    · rw [e, hqq, ex]
      show (S.h q).came + 1 = _
      rw [came0]
      cases ew : t.w <;> rw [ew] at dnt <;> simp [dnt, b2i] <;> omega
    · rw [h' p, if_neg e, I.came p hp]
      simp [e]
  · intro p hp hbt
    rw [fbt] at hbt
    by_cases e : p = q
    · intro ⟨h1, h2⟩
      rw [e] at hbt
      rcases hb with hb | hb
      · rw [came0] at hb
        cases ew : t.w <;> rw [ew] at hb <;> rw [e] at h1 h2 <;> simp [ew] at h1 h2 hb
        · rw [h1] at hb; exact absurd hb (by decide)
        · rw [h2] at hb; exact absurd hb (by decide)
      · rw [hb] at hbt; cases hbt
    · intro ⟨h1, h2⟩
      rw [if_neg (fun z => e z.1)] at h1 h2
      exact I.ndn p hp hbt ⟨h1, h2⟩
  · intro p hp; rw [fst, ffar]; exact I.stg p hp
  · intro p hp hw
    rw [faw] at hw
    have e : p ≠ q := fun z => by rw [z, ha] at hw; cases hw
    rw [h' p, if_neg e]
    exact I.slp p hp hw
  · intro p hp; rw [fcr]; exact I.top p hp
  · intro p hp; rw [fcr, fkn]; exact I.ckn p hp
  · intro p hp x hx
    rw [fkn] at hx
    obtain ⟨m, hm, hc, e⟩ := I.kn p hp x hx
    exact ⟨m, hm, by rw [fcr]; exact hc, e⟩
  · intro p hp hb; rw [fbt] at hb; exact I.bt p hp hb
  · intro p hp hw ht hc w hd
    rw [faw] at hw
    rw [fcr] at hc
    by_cases e : p = q ∧ w = t.w
    · rw [if_pos e] at hd; cases hd
    · rw [if_neg e] at hd
      have a := I.live p hp hw ht hc w hd
      rw [cp_mid] at a
      have z : ¬ Tk.tok p w t = true := fun z => by
        unfold Tk.tok at z
        simp at z
        exact e ⟨by rw [← z.1.2]; exact tp, z.2.symm⟩
      rw [if_neg z] at a
      omega
  · intro p hp hc
    rw [fcr] at hc
    rcases I.crn p hp hc with ⟨u, hu, ek⟩ | hk
    · rcases mem_mid.mp hu with e | hu
      · rw [e, tk] at ek; cases ek
      · exact Or.inl ⟨u, hu, ek⟩
    · exact Or.inr fun z hz => by rw [fkn]; exact hk z hz
  · intro p hp hw w
    rw [faw] at hw
    rw [faw]
    rcases I.nei p hp hw w with h | ⟨u, hu, eu⟩
    · exact Or.inl h
    · rcases mem_mid.mp hu with e | hu
      · have : (t.mail n nums).1 = q := by
          unfold Tk.mail
          rw [tk]
          show pt n t.w t.p t.d = q
          rw [tp, td]
          exact pt_zero hq
        rw [e, this] at eu
        rw [← eu]
        exact Or.inl ha
      · exact Or.inr ⟨u, hu, eu⟩
  · obtain ⟨c, hc, ho⟩ := I.pot
    refine ⟨c, ?_, ?_⟩
    · rw [rem_mid] at hc
      rw [many']
      have e : sumTo (fun p => costH n (S'.h p)) n = sumTo (fun p => costH n (S.h p)) n := sumTo_congr fun p _ => by
        show costH n (S'.h p) = costH n (S.h p)
        unfold costH
        rw [faw, fst]
      rw [e]
      omega
    · rcases ho with h | ⟨h, m, hm, hmc⟩
      · exact Or.inl h
      · exact Or.inr ⟨h, m, hm, by rw [fcr]; exact hmc⟩

/-- the two asks of the hand at q, of the stage s -/
def asks2 (q s : Nat) : List Tk := [⟨.ask, q, true, s, 1⟩, ⟨.ask, q, false, s, 1⟩]
theorem asks2_tok (q s p : Nat) (w : Bool) : (asks2 q s).countP (Tk.tok p w) = if p = q then 1 else 0 := by
  unfold asks2
  simp only [List.countP_cons, List.countP_nil, Tk.tok]
  by_cases e : p = q
  · subst e
    cases w <;> simp
  · have e' : ¬ q = p := fun z => e z.symm
    simp [e, e']
theorem asks2_rem (q s : Nat) (hn : 0 < n) : ((asks2 q s).map (Tk.rem n)).sum + 2 ≤ 2 * cS n s := by
  unfold asks2 cS
  have h2 : 1 ≤ 2 ^ s := Nat.one_le_two_pow
  simp only [List.map_cons, List.map_nil, List.sum_cons, List.sum_nil, Tk.rem]
  split <;> omega
theorem asks2_good {h : Nat → Hd} (hq : q < n) (ha : (h q).awake = true) {s : Nat} (hs : (h q).stage = (s : Int)) : ∀ u, u ∈ asks2 q s → Good n nums h u := by
  intro u hu
  have h2 : 1 ≤ 2 ^ s := Nat.one_le_two_pow
  unfold asks2 at hu
  simp only [List.mem_cons, List.not_mem_nil, or_false] at hu
  rcases hu with e | e <;> rw [e] <;> exact ⟨hq, ha, hs, Nat.le_refl _, h2, by show 1 ≤ n; omega, fun j h1 h3 => absurd h3 (by show ¬ j ≤ 1 - 1; omega)⟩
theorem asks2_mail {h : Hd} (hq : q < n) (hnum : h.num = nums q) {s : Nat} (hs : h.stage = (s : Int)) (hf : h.far = ((2 ^ s : Nat) : Int)) :
    h.asks.map (fun l => (nxt n q l.way, l)) = (asks2 q s).map (Tk.mail n nums) := by
  unfold Hd.asks asks2
  simp only [List.map_cons, List.map_nil, Tk.mail, hnum, hs, hf]
  have e : ((2 ^ s : Nat) : Int) - ((1 : Nat) : Int) + 1 = ((2 ^ s : Nat) : Int) := by omega
  rw [nxt_right hq, nxt_left hq, e]
  rfl

/-- the second answer has come, nobody greater has: a stage up -/
theorem Inv.climb (I : Inv n nums S (A ++ t :: B) dn) (hq : q < n) (ha : (S.h q).awake = true)
    (tk : t.kind = .answer) (tp : t.p = q) (td : t.d = 0) (hb : ¬ ((S.h q).came + 1 < 2 ∨ (S.h q).beaten = true))
    (len' : S'.hands.length = n) (h' : ∀ p, S'.h p = if p = q then x' else S.h p) (post' : S'.post = (A ++ B ++ asks2 q (t.s + 1)).map (Tk.mail n nums)) (many' : S'.many = S.many + 2)
    (ex : x' = (S.h q).up) : Inv n nums S' (A ++ B ++ asks2 q (t.s + 1)) (fun p w => if p = q then false else dn p w) := by
  have g := I.good t (mem_mid.mpr (Or.inl rfl))
  unfold Good at g
  rw [tk] at g
  simp only at g
  obtain ⟨g1, g2, g3, g4, g5, g6⟩ := g
  rw [tp] at g3 g6
  have fld : ∀ {α : Type} (f : Hd → α), f x' = f (S.h q) → ∀ p, f (S'.h p) = f (S.h p) := fun f e p => by
    rw [h' p]
    by_cases hp : p = q
    · rw [if_pos hp, e, hp]
    · rw [if_neg hp]
  have fnum := fld (·.num) (by rw [ex]; rfl)
  have faw := fld (·.awake) (by rw [ex]; rfl)
  have fcr := fld (·.crowned) (by rw [ex]; rfl)
  have fkn := fld (·.known) (by rw [ex]; rfl)
  have fbt := fld (·.beaten) (by rw [ex]; rfl)
  have hqq : S'.h q = x' := by rw [h' q, if_pos rfl]
  have hne : ∀ p, p ≠ q → S'.h p = S.h p := fun p e => by rw [h' p, if_neg e]
  have st' : (S'.h q).stage = ((t.s + 1 : Nat) : Int) := by
    rw [hqq, ex]
    show (S.h q).stage + 1 = _
    rw [g3]; rfl
  have ttok : Tk.tok q t.w t = true := by
    unfold Tk.tok
    rw [tk, tp]
    simp
  have c0 : (A ++ B).countP (Tk.tok q t.w) = 0 := by
    have := I.one q t.w
    rw [cp_mid, if_pos ttok] at this
    omega
  have dnt : dn q t.w = false := by
    cases e : dn q t.w with
    | false => rfl
    | true =>
      have := (I.dn0 q hq t.w e).1
      rw [cp_mid, if_pos ttok] at this
      omega
  have came0 : (S.h q).came = b2i (dn q (!t.w)) := by
    have := I.came q hq
    cases e : t.w <;> rw [e] at dnt <;> rw [dnt] at this <;> rw [this] <;> unfold b2i <;> simp
  have nlt : ¬ (S.h q).came + 1 < 2 := fun z => hb (Or.inl z)
  have nbt : (S.h q).beaten = false := by
    cases e : (S.h q).beaten with
    | false => rfl
    | true => exact absurd (Or.inr e) hb
  have dno : dn q (!t.w) = true := by
    cases e : dn q (!t.w) with
    | true => rfl
    | false => rw [e] at came0; rw [came0] at nlt; exact absurd (by decide) nlt
  obtain ⟨z1, z2, s', z3, z4, z5⟩ := I.dn0 q hq (!t.w) dno
  have ess : s' = t.s := by rw [g3] at z3; exact (Int.ofNat_inj.mp z3).symm
  rw [ess] at z5
  have nt0 : ∀ w, (A ++ B).countP (Tk.tok q w) = 0 := fun w => by
    by_cases e : w = t.w
    · rw [e]; exact c0
    · have e' : w = !t.w := by cases w <;> cases h : t.w <;> simp [h] at e ⊢
      rw [e']
      rw [cp_mid] at z1
      omega
  have lows : ∀ w, low n nums w q (2 ^ t.s) := fun w => by
    by_cases e : w = t.w
    · rw [e]; exact g6
    · have e' : w = !t.w := by cases w <;> cases h : t.w <;> simp [h] at e ⊢
      rw [e']; exact z5
  have own : ∀ u, u ∈ A ++ B → u.kind ≠ .crown → u.p ≠ q := fun u hu k e => by
    have := nt0 u.w
    rw [List.countP_eq_zero] at this
    have := this u hu
    unfold Tk.tok at this
    simp [k, e] at this
  constructor
  · exact len'
  · intro p hp; rw [fnum]; exact I.num p hp
  · exact post'
  · intro u hu
    rcases List.mem_append.mp hu with hu | hu
    · have g := I.good u (mem_mid.mpr (Or.inr hu))
      unfold Good at *
      cases e : u.kind <;> simp only [e] at g ⊢
      · rw [hne _ (own u hu (by rw [e]; decide))]; exact g
      · rw [hne _ (own u hu (by rw [e]; decide))]; exact g
      · rw [fcr]
        exact ⟨g.1, g.2.1, g.2.2.1, g.2.2.2.1, fun j h1 h2 => by rw [fkn]; exact g.2.2.2.2 j h1 h2⟩
    · exact asks2_good hq (by rw [faw]; exact ha) st' u hu
  · intro p w
    rw [List.countP_append, asks2_tok]
    by_cases e : p = q
    · rw [e, nt0, if_pos rfl]; exact Nat.le_refl _
    · have := I.one p w
      rw [cp_mid] at this
      rw [if_neg e]
      omega
  · intro p hp w hd
    by_cases e : p = q
    · rw [if_pos e] at hd; cases hd
    · rw [if_neg e] at hd
      obtain ⟨h1, h2, h3⟩ := I.dn0 p hp w hd
      rw [hne p e]
      refine ⟨?_, h2, h3⟩
      rw [cp_mid] at h1
      rw [List.countP_append, asks2_tok, if_neg e]
      omega
  · intro p hp
    by_cases e : p = q
    · rw [e, hqq, ex, if_pos rfl, if_pos rfl]; rfl
    · rw [hne p e, if_neg e, if_neg e]; exact I.came p hp
  · intro p hp hbt
    by_cases e : p = q
    · rw [if_pos e, if_pos e]; intro z; cases z.1
    · rw [if_neg e, if_neg e]; rw [hne p e] at hbt; exact I.ndn p hp hbt
  · intro p hp
    by_cases e : p = q
    · rw [e]
      obtain ⟨s, h1, h2, _⟩ := I.stg q hq
      have es : s = t.s := by rw [g3] at h1; exact (Int.ofNat_inj.mp h1).symm
      refine ⟨t.s + 1, st', ?_, Or.inr ⟨g5, lows⟩⟩
      rw [hqq, ex]
      show 2 * (S.h q).far = _
      rw [h2, es, Nat.pow_succ]
      omega
    · rw [hne p e]; exact I.stg p hp
  · intro p hp hw
    rw [faw] at hw
    have e : p ≠ q := fun z => by rw [z, ha] at hw; cases hw
    rw [hne p e]
    exact I.slp p hp hw
  · intro p hp; rw [fcr]; exact I.top p hp
  · intro p hp; rw [fcr, fkn]; exact I.ckn p hp
  · intro p hp x hx
    rw [fkn] at hx
    obtain ⟨m, hm, hc, e⟩ := I.kn p hp x hx
    exact ⟨m, hm, by rw [fcr]; exact hc, e⟩
  · intro p hp hb; rw [fbt] at hb; exact I.bt p hp hb
  · intro p hp hw ht hc w hd
    rw [List.countP_append, asks2_tok]
    by_cases e : p = q
    · rw [if_pos e, e, nt0]
    · rw [if_neg e] at hd
      rw [hne p e] at hw hc
      have a := I.live p hp hw ht hc w hd
      rw [cp_mid] at a
      have z : ¬ Tk.tok p w t = true := fun z => by
        unfold Tk.tok at z
        simp at z
        exact e (by rw [← z.1.2]; exact tp)
      rw [if_neg z] at a
      rw [if_neg e]
      omega
  · intro p hp hc
    rw [fcr] at hc
    rcases I.crn p hp hc with ⟨u, hu, ek⟩ | hk
    · rcases mem_mid.mp hu with e | hu
      · rw [e, tk] at ek; cases ek
      · exact Or.inl ⟨u, List.mem_append.mpr (Or.inl hu), ek⟩
    · exact Or.inr fun z hz => by rw [fkn]; exact hk z hz
  · intro p hp hw w
    rw [faw] at hw
    rw [faw]
    rcases I.nei p hp hw w with h | ⟨u, hu, eu⟩
    · exact Or.inl h
    · rcases mem_mid.mp hu with e | hu
      · have : (t.mail n nums).1 = q := by
          unfold Tk.mail
          rw [tk]
          show pt n t.w t.p t.d = q
          rw [tp, td]
          exact pt_zero hq
        rw [e, this] at eu
        rw [← eu]
        exact Or.inl ha
      · exact Or.inr ⟨u, List.mem_append.mpr (Or.inl hu), eu⟩
  · obtain ⟨c, hc, ho⟩ := I.pot
    refine ⟨c, ?_, ?_⟩
    · rw [rem_mid] at hc
      rw [many', List.map_append, List.sum_append]
      have hsum := sumTo_upd (f := fun p => costH n (S.h p)) (g := fun p => costH n (S'.h p)) (q := q) (n := n) hq fun p hp e => by
        show costH n (S'.h p) = costH n (S.h p)
        rw [hne p e]
      have c1 : costH n (S.h q) = costUp n t.s := by
        unfold costH
        rw [ha, if_pos rfl, g3]; rfl
      have c2 : costH n (S'.h q) = costUp n t.s + 2 * cS n (t.s + 1) := by
        unfold costH
        rw [faw, ha, if_pos rfl, st']; rfl
      have hr := asks2_rem (n := n) q (t.s + 1) (by omega)
      rw [c1, c2] at hsum
      omega
    · rcases ho with h | ⟨h, m, hm, hmc⟩
      · exact Or.inl h
      · exact Or.inr ⟨h, m, hm, by rw [fcr]; exact hmc⟩

/-- a sleeping hand is woken -/
theorem Inv.woken (I : Inv n nums S gs dn) (hq : q < n) (ha : (S.h q).awake = false)
    (len' : S'.hands.length = n) (h' : ∀ p, S'.h p = if p = q then x' else S.h p) (post' : S'.post = (gs ++ asks2 q 0).map (Tk.mail n nums)) (many' : S'.many = S.many + 2)
    (ex : x' = (S.h q).wk) : Inv n nums S' (gs ++ asks2 q 0) dn := by
  obtain ⟨sl1, sl2, sl3, sl4⟩ := I.slp q hq ha
  have fld : ∀ {α : Type} (f : Hd → α), f x' = f (S.h q) → ∀ p, f (S'.h p) = f (S.h p) := fun f e p => by
    rw [h' p]
    by_cases hp : p = q
    · rw [if_pos hp, e, hp]
    · rw [if_neg hp]
  have fnum := fld (·.num) (by rw [ex]; rfl)
  have fcr := fld (·.crowned) (by rw [ex]; rfl)
  have fkn := fld (·.known) (by rw [ex]; rfl)
  have fbt := fld (·.beaten) (by rw [ex]; rfl)
  have fst := fld (·.stage) (by rw [ex]; rfl)
  have ffar := fld (·.far) (by rw [ex]; rfl)
  have fcame := fld (·.came) (by rw [ex]; rfl)
  have hqq : S'.h q = x' := by rw [h' q, if_pos rfl]
  have hne : ∀ p, p ≠ q → S'.h p = S.h p := fun p e => by rw [h' p, if_neg e]
  have aq : (S'.h q).awake = true := by rw [hqq, ex]; rfl
  have aw : ∀ p, (S.h p).awake = true → (S'.h p).awake = true := fun p h => by
    by_cases e : p = q
    · rw [e]; exact aq
    · rw [hne p e]; exact h
  have dnq : ∀ w, dn q w = false := fun w => by
    cases e : dn q w with
    | false => rfl
    | true =>
      have := (I.dn0 q hq w e).2.1
      rw [ha] at this; cases this
  have own : ∀ u, u ∈ gs → u.kind ≠ .crown → u.p ≠ q := fun u hu k e => by
    have g := I.good u hu
    unfold Good at g
    cases ek : u.kind <;> simp only [ek] at g
    · rw [e, ha] at g; cases g.2.1
    · rw [e, ha] at g; cases g.2.1
    · exact k ek
  have nt0 : ∀ w, gs.countP (Tk.tok q w) = 0 := fun w => by
    rw [List.countP_eq_zero]
    intro u hu z
    unfold Tk.tok at z
    simp at z
    exact own u hu z.1.1 z.1.2
  constructor
  · exact len'
  · intro p hp; rw [fnum]; exact I.num p hp
  · exact post'
  · intro u hu
    rcases List.mem_append.mp hu with hu | hu
    · have g := I.good u hu
      unfold Good at *
      cases e : u.kind <;> simp only [e] at g ⊢
      · exact ⟨g.1, aw _ g.2.1, by rw [fst]; exact g.2.2.1, g.2.2.2⟩
      · exact ⟨g.1, aw _ g.2.1, by rw [fst]; exact g.2.2.1, g.2.2.2⟩
      · rw [fcr]
        exact ⟨g.1, g.2.1, g.2.2.1, g.2.2.2.1, fun j h1 h2 => by rw [fkn]; exact g.2.2.2.2 j h1 h2⟩
    · exact asks2_good hq aq (by rw [fst]; exact sl1) u hu
  · intro p w
    rw [List.countP_append, asks2_tok]
    by_cases e : p = q
    · rw [e, nt0, if_pos rfl]; exact Nat.le_refl _
    · have := I.one p w
      rw [if_neg e]
      omega
  · intro p hp w hd
    have e : p ≠ q := fun z => by rw [z, dnq] at hd; cases hd
    obtain ⟨h1, h2, h3⟩ := I.dn0 p hp w hd
    rw [hne p e]
    refine ⟨?_, h2, h3⟩
    rw [List.countP_append, asks2_tok, if_neg e]
    omega
  · intro p hp; rw [fcame]; exact I.came p hp
  · intro p hp hbt; rw [fbt] at hbt; exact I.ndn p hp hbt
  · intro p hp; rw [fst, ffar]; exact I.stg p hp
  · intro p hp hw
    have e : p ≠ q := fun z => by rw [z, aq] at hw; cases hw
    rw [hne p e] at hw ⊢
    exact I.slp p hp hw
  · intro p hp; rw [fcr]; exact I.top p hp
  · intro p hp; rw [fcr, fkn]; exact I.ckn p hp
  · intro p hp x hx
    rw [fkn] at hx
    obtain ⟨m, hm, hc, e⟩ := I.kn p hp x hx
    exact ⟨m, hm, by rw [fcr]; exact hc, e⟩
  · intro p hp hb; rw [fbt] at hb; exact I.bt p hp hb
  · intro p hp hw ht hc w hd
    rw [List.countP_append, asks2_tok]
    by_cases e : p = q
    · rw [if_pos e, e, nt0]
    · rw [hne p e] at hw hc
      have a := I.live p hp hw ht hc w hd
      rw [if_neg e]
      omega
  · intro p hp hc
    rw [fcr] at hc
    rcases I.crn p hp hc with ⟨u, hu, ek⟩ | hk
    · exact Or.inl ⟨u, List.mem_append.mpr (Or.inl hu), ek⟩
    · exact Or.inr fun z hz => by rw [fkn]; exact hk z hz
  · intro p hp hw w
    by_cases e : p = q
    · refine Or.inr ⟨⟨.ask, q, w, 0, 1⟩, List.mem_append.mpr (Or.inr ?_), ?_⟩
      · unfold asks2
        cases w <;> simp
      · rw [e]; rfl
    · rw [hne p e] at hw
      rcases I.nei p hp hw w with h | ⟨u, hu, eu⟩
      · exact Or.inl (aw _ h)
      · exact Or.inr ⟨u, List.mem_append.mpr (Or.inl hu), eu⟩
  · obtain ⟨c, hc, ho⟩ := I.pot
    refine ⟨c, ?_, ?_⟩
    · rw [many', List.map_append, List.sum_append]
      have hsum := sumTo_upd (f := fun p => costH n (S.h p)) (g := fun p => costH n (S'.h p)) (q := q) (n := n) hq fun p hp e => by
        show costH n (S'.h p) = costH n (S.h p)
        rw [hne p e]
      have c1 : costH n (S.h q) = 0 := by
        unfold costH
        rw [ha]; rfl
      have c2 : costH n (S'.h q) = 2 * cS n 0 := by
        unfold costH
        rw [aq, if_pos rfl, fst, sl1]; rfl
      have hr := asks2_rem (n := n) q 0 (by omega)
      rw [c1, c2] at hsum
      omega
    · rcases ho with h | ⟨h, m, hm, hmc⟩
      · exact Or.inl h
      · exact Or.inr ⟨h, m, hm, by rw [fcr]; exact hmc⟩
end RC
/-! # RcMath4: every deed keeps the invariant -/
namespace RC
variable {n : Nat} {nums : Nat → Int} {S S' : Rg} {gs A B ns : List Tk} {dn : Nat → Bool → Bool} {t : Tk} {q : Nat}

theorem getD_set_self {α : Type} {l : List α} {i : Nat} {d : α} : l.set i (l.getD i d) = l := by
  apply List.ext_getElem
  · simp
  · intro j h1 h2
    rw [List.getElem_set]
    split
    · rename_i e
      subst e
      rw [List.getD_eq_getElem?_getD, List.getElem?_eq_getElem h2]
      rfl
    · rfl
theorem wake_awake {S : Rg} {q : Nat} (h : (S.h q).awake = true) : S.wake q = S := by
  unfold Rg.wake Rg.setH Rg.put Hd.wls
  rw [if_pos h, wk_awake h]
  unfold Rg.h
  rw [getD_set_self]
  cases S
  simp
theorem wake_h {S : Rg} {q : Nat} (hq : q < S.hands.length) (p : Nat) : (S.wake q).h p = if p = q then (S.h q).wk else S.h p := h_setH hq p
theorem wake_aw {S : Rg} {q : Nat} (hq : q < S.hands.length) : ((S.wake q).h q).awake = true := by
  rw [wake_h hq, if_pos rfl]; rfl
theorem wake_len {S : Rg} {q : Nat} : (S.wake q).hands.length = S.hands.length := by
  unfold Rg.wake Rg.setH Rg.put; simp

theorem Inv.wake (I : Inv n nums S gs dn) (hq : q < n) : ∃ gs', Inv n nums (S.wake q) (gs ++ gs') dn := by
  cases ha : (S.h q).awake with
  | true => exact ⟨[], by rw [wake_awake ha, List.append_nil]; exact I⟩
  | false =>
    have sl := I.slp q hq ha
    obtain ⟨s, h1, h2, h3⟩ := I.stg q hq
    have s0 : s = 0 := by
      have := sl.1
      rw [h1] at this
      exact Int.ofNat_inj.mp this
    subst s0
    refine ⟨asks2 q 0, I.woken hq ha (x' := (S.h q).wk) (by rw [wake_len]; exact I.len) (fun p => wake_h (by rw [I.len]; exact hq) p) ?_ ?_ rfl⟩
    · show S.post ++ (S.h q).wls.map (fun l => (nxt (S.setH q (S.h q).wk).hands.length q l.way, l)) = _
      have e : (S.setH q (S.h q).wk).hands.length = n := by unfold Rg.setH; simp; exact I.len
      unfold Hd.wls
      rw [ha, e, List.map_append, I.post]
      rw [if_neg (by decide), asks2_mail hq (I.num q hq) h1 h2]
    · show S.many + (S.h q).wls.length = _
      unfold Hd.wls
      rw [ha]; rfl

theorem erase_mid {α : Type} : ∀ {l : List α} {i : Nat} {t : α}, l[i]? = some t → ∃ A B, l = A ++ t :: B ∧ l.eraseIdx i = A ++ B ∧ A.length = i
  | [], i, t, h => by simp at h
  | a :: l, 0, t, h => by
    have : a = t := by simpa using h
    subst this
    exact ⟨[], l, rfl, rfl, rfl⟩
  | a :: l, i + 1, t, h => by
    obtain ⟨A, B, e1, e2, e3⟩ := erase_mid (l := l) (i := i) (t := t) (by simpa using h)
    refine ⟨a :: A, B, by rw [e1]; rfl, ?_, by simp [e3]⟩
    show a :: l.eraseIdx i = a :: (A ++ B)
    rw [e2]

theorem map_erase {α β : Type} {f : α → β} : ∀ {l : List α} {i : Nat}, (l.map f).eraseIdx i = (l.eraseIdx i).map f
  | [], i => by simp
  | a :: l, 0 => rfl
  | a :: l, i + 1 => by
    show f a :: (l.map f).eraseIdx i = f a :: (l.eraseIdx i).map f
    rw [map_erase]
/-- a letter comes to a hand that is awake -/
theorem Inv.deliver (inj : ∀ p q, p < n → q < n → nums p = nums q → p = q) (I : Inv n nums S gs dn) {i : Nat} (hi : gs[i]? = some t) (ha : (S.h (t.mail n nums).1).awake = true) :
    ∃ gs' dn', Inv n nums ((S.drop i).give1 (t.mail n nums).1 (t.mail n nums).2) gs' dn' := by
  obtain ⟨A, B, eg, ee, _⟩ := erase_mid hi
  have g := I.good t (List.mem_of_getElem? hi)
  generalize hqq : (t.mail n nums).1 = q at ha ⊢
  generalize hll : (t.mail n nums).2 = l at ⊢
  have hdp : (S.drop i).post = (A ++ B).map (Tk.mail n nums) := by
    show S.post.eraseIdx i = _
    rw [I.post, map_erase, ee]
  -- what the deed leaves, told once
  have key : ∀ (hq : q < n) (x' : Hd) (ls : List Lt), (S.h q).proc l = (x', ls) →
      ((S.drop i).give1 q l).hands.length = n ∧ (∀ p, ((S.drop i).give1 q l).h p = if p = q then x' else S.h p) ∧
      ((S.drop i).give1 q l).post = (A ++ B).map (Tk.mail n nums) ++ ls.map (fun l => (nxt n q l.way, l)) ∧ ((S.drop i).give1 q l).many = S.many + ls.length := by
    intro hq x' ls e
    have e1 : (S.drop i).h q = S.h q := rfl
    unfold Rg.give1
    rw [e1, e]
    refine ⟨?_, ?_, ?_, rfl⟩
    · unfold Rg.put Rg.setH Rg.drop; simp; exact I.len
    · intro p
      show ((S.drop i).setH q x').h p = _
      rw [h_setH (by show q < S.hands.length; rw [I.len]; exact hq)]
      rfl
    · show (S.drop i).post ++ ls.map (fun l => (nxt ((S.drop i).setH q x').hands.length q l.way, l)) = _
      have : ((S.drop i).setH q x').hands.length = n := by unfold Rg.setH Rg.drop; simp; exact I.len
      rw [this, hdp]
  have e1 : (A ++ B).map (Tk.mail n nums) ++ ([] : List Lt).map (fun l => (nxt n q l.way, l)) = (A ++ B ++ []).map (Tk.mail n nums) := by simp
  subst eg
  cases tk : t.kind with
  | ask =>
    unfold Good at g
    rw [tk] at g
    simp only at g
    obtain ⟨g1, g2, g3, g4, g5, g6, g7⟩ := g
    have em : t.mail n nums = (pt n t.w t.p t.d, ⟨sg t.w, .ask, nums t.p, (t.s : Int), ((2 ^ t.s : Nat) : Int) - (t.d : Int) + 1⟩) := by unfold Tk.mail; rw [tk]
    rw [em] at hqq hll
    simp only at hqq hll
    have hq : q < n := by rw [← hqq]; exact pt_lt g1 g6
    have epr : (S.h q).proc l = (S.h q).asked l := by rw [← hll]; rfl
    have eln : l.num = nums t.p := by rw [← hll]
    have ehn : (S.h q).num = nums q := I.num q hq
    by_cases c1 : l.num = (S.h q).num ∧ (S.h q).crowned = false
    · have ep : t.p = q := inj _ _ g1 hq (by rw [← eln, c1.1, ehn])
      have ed : t.d = n := pt_self g1 g4 g6 (by rw [hqq, ep])
      have epr' : (S.h q).proc l = ({ S.h q with crowned := true, known := some l.num }, [⟨1, .crown, l.num, 0, 0⟩]) := by
        rw [epr]; unfold Hd.asked; rw [if_pos c1]
      obtain ⟨k1, k2, k3, k4⟩ := key hq _ _ epr'
      refine ⟨_, _, I.crown inj hq ha c1.2 tk ep ed k1 k2 ?_ k4 (by rw [c1.1, ehn])⟩
      rw [k3, List.map_append (l₁ := A ++ B)]
      congr 1
      show [(nxt n q 1, (⟨1, .crown, l.num, 0, 0⟩ : Lt))] = [(pt n true q 1, (⟨1, .crown, nums q, 0, 0⟩ : Lt))]
      rw [nxt_right hq, c1.1, ehn]
    · by_cases c2 : l.num ≤ (S.h q).num
      · have epr' : (S.h q).proc l = (S.h q, []) := by
          rw [epr]; unfold Hd.asked; rw [if_neg c1, if_pos c2]
        obtain ⟨k1, k2, k3, k4⟩ := key hq _ _ epr'
        refine ⟨_, _, I.move (ns := []) (x' := S.h q) hq ha (by rw [em]; exact hqq) k1 k2 (by rw [k3]; exact e1) k4 rfl rfl rfl rfl rfl rfl (Or.inl rfl) (Or.inl rfl) (fun u hu => by cases hu) (fun _ _ => Nat.zero_le _) ?_ (fun z => by rw [tk] at z; cases z) (Nat.zero_le _)⟩
        intro w htop hcr _
        exfalso
        rw [eln, ehn] at c2
        have := htop q hq
        have ep : t.p = q := inj _ _ g1 hq (by omega)
        exact c1 ⟨by rw [eln, ehn, ep], by rw [← ep]; exact hcr⟩
      · have hlt : nums q < nums t.p := by rw [eln, ehn] at c2; omega
        have hpq : t.d < n := by
          rcases Nat.lt_or_eq_of_le g6 with h | h
          · exact h
          · rw [h, pt_n g1] at hqq; rw [hqq] at hlt; omega
        by_cases c3 : 1 < l.stp
        · have epr' : (S.h q).proc l = ({ S.h q with beaten := true }, [⟨l.way, l.word, l.num, l.stg, l.stp - 1⟩]) := by
            rw [epr]; unfold Hd.asked; rw [if_neg c1, if_neg c2, if_pos c3]
          obtain ⟨k1, k2, k3, k4⟩ := key hq _ _ epr'
          have hd2 : t.d + 1 ≤ 2 ^ t.s := by rw [← hll] at c3; simp only at c3; omega
          refine ⟨_, _, I.move (ns := [⟨.ask, t.p, t.w, t.s, t.d + 1⟩]) (x' := { S.h q with beaten := true }) hq ha (by rw [em]; exact hqq) k1 k2 ?_ k4 rfl rfl rfl rfl rfl rfl (Or.inr ⟨rfl, t.p, g1, hlt⟩) (Or.inl rfl) ?_ ?_ ?_ (fun z => by rw [tk] at z; cases z) ?_⟩
          · rw [k3, List.map_append (l₁ := A ++ B)]
            congr 1
            show [(nxt n q l.way, (⟨l.way, l.word, l.num, l.stg, l.stp - 1⟩ : Lt))] = [(pt n t.w t.p (t.d + 1), (⟨sg t.w, .ask, nums t.p, (t.s : Int), ((2 ^ t.s : Nat) : Int) - ((t.d + 1 : Nat) : Int) + 1⟩ : Lt))]
            rw [← hll]
            simp only
            rw [nxt_sg _ hq, ← hqq, pt_on g1 (by omega)]
            have : ((2 ^ t.s : Nat) : Int) - (t.d : Int) + 1 - 1 = ((2 ^ t.s : Nat) : Int) - ((t.d + 1 : Nat) : Int) + 1 := by omega
            rw [this]
          · intro u hu
            rw [List.mem_singleton] at hu
            rw [hu]
            have fw : (((S.drop i).give1 q l).h t.p).awake = true := by
              rw [k2]
              by_cases e : t.p = q
              · rw [if_pos e]; exact ha
              · rw [if_neg e]; exact g2
            have fs : (((S.drop i).give1 q l).h t.p).stage = (t.s : Int) := by
              rw [k2]
              by_cases e : t.p = q
              · rw [if_pos e]; rw [e] at g3; exact g3
              · rw [if_neg e]; exact g3
            refine ⟨g1, fw, fs, by show 1 ≤ t.d + 1; omega, hd2, by show t.d + 1 ≤ n; omega, ?_⟩
            intro j h1 h2
            by_cases e : j ≤ t.d - 1
            · exact g7 j h1 e
            · have : j = t.d := by have : j ≤ t.d + 1 - 1 := h2; omega
              show nums (pt n t.w t.p j) < nums t.p
              rw [this, hqq]; exact hlt
          · intro p w
            rw [List.countP_cons, List.countP_nil]
            have : Tk.tok p w ⟨.ask, t.p, t.w, t.s, t.d + 1⟩ = Tk.tok p w t := by unfold Tk.tok; rw [tk]
            rw [this]
            omega
          · intro w _ _ z
            rw [List.countP_cons, List.countP_nil]
            have : Tk.tok t.p w ⟨.ask, t.p, t.w, t.s, t.d + 1⟩ = Tk.tok t.p w t := by unfold Tk.tok; rw [tk]
            rw [this, if_pos z]
          · simp only [List.map_cons, List.map_nil, List.sum_cons, List.sum_nil, List.length_cons, List.length_nil]
            unfold Tk.rem
            rw [tk]
            simp only
            split <;> omega
        · have epr' : (S.h q).proc l = ({ S.h q with beaten := true }, [⟨-l.way, .answer, l.num, l.stg, 0⟩]) := by
            rw [epr]; unfold Hd.asked; rw [if_neg c1, if_neg c2, if_neg c3]
          obtain ⟨k1, k2, k3, k4⟩ := key hq _ _ epr'
          have hd2 : t.d = 2 ^ t.s := by rw [← hll] at c3; simp only at c3; omega
          obtain ⟨e, he⟩ : ∃ e, t.d = e + 1 := ⟨t.d - 1, by omega⟩
          refine ⟨_, _, I.move (ns := [⟨.answer, t.p, t.w, t.s, e⟩]) (x' := { S.h q with beaten := true }) hq ha (by rw [em]; exact hqq) k1 k2 ?_ k4 rfl rfl rfl rfl rfl rfl (Or.inr ⟨rfl, t.p, g1, hlt⟩) (Or.inl rfl) ?_ ?_ ?_ (fun z => by rw [tk] at z; cases z) ?_⟩
          · rw [k3, List.map_append (l₁ := A ++ B)]
            congr 1
            show [(nxt n q (-l.way), (⟨-l.way, .answer, l.num, l.stg, 0⟩ : Lt))] = [(pt n t.w t.p e, (⟨- sg t.w, .answer, nums t.p, (t.s : Int), 0⟩ : Lt))]
            rw [← hll]
            simp only
            rw [nxt_nsg _ hq, ← hqq, he, pt_back g1 (by omega)]
          · intro u hu
            rw [List.mem_singleton] at hu
            rw [hu]
            have fw : (((S.drop i).give1 q l).h t.p).awake = true := by
              rw [k2]
              by_cases e : t.p = q
              · rw [if_pos e]; exact ha
              · rw [if_neg e]; exact g2
            have fs : (((S.drop i).give1 q l).h t.p).stage = (t.s : Int) := by
              rw [k2]
              by_cases e : t.p = q
              · rw [if_pos e]; rw [e] at g3; exact g3
              · rw [if_neg e]; exact g3
            refine ⟨g1, fw, fs, by show e < 2 ^ t.s; omega, by show 2 ^ t.s < n; omega, ?_⟩
            intro j h1 h2
            have h2' : j ≤ 2 ^ t.s := h2
            by_cases e : j ≤ t.d - 1
            · exact g7 j h1 e
            · have : j = t.d := by omega
              show nums (pt n t.w t.p j) < nums t.p
              rw [this, hqq]; exact hlt
          · intro p w
            rw [List.countP_cons, List.countP_nil]
            have : Tk.tok p w ⟨.answer, t.p, t.w, t.s, e⟩ = Tk.tok p w t := by unfold Tk.tok; rw [tk]; rfl
            rw [this]
            omega
          · intro w _ _ z
            rw [List.countP_cons, List.countP_nil]
            have : Tk.tok t.p w ⟨.answer, t.p, t.w, t.s, e⟩ = Tk.tok t.p w t := by unfold Tk.tok; rw [tk]; rfl
            rw [this, if_pos z]
          · simp only [List.map_cons, List.map_nil, List.sum_cons, List.sum_nil, List.length_cons, List.length_nil]
            unfold Tk.rem
            rw [tk]
            simp only
            split <;> omega
  | answer =>
    unfold Good at g
    rw [tk] at g
    simp only at g
    obtain ⟨g1, g2, g3, g4, g5, g6⟩ := g
    have em : t.mail n nums = (pt n t.w t.p t.d, ⟨- sg t.w, .answer, nums t.p, (t.s : Int), 0⟩) := by unfold Tk.mail; rw [tk]
    rw [em] at hqq hll
    simp only at hqq hll
    have hq : q < n := by rw [← hqq]; exact pt_lt g1 (by omega)
    have epr : (S.h q).proc l = (S.h q).answered l := by rw [← hll]; rfl
    have eln : l.num = nums t.p := by rw [← hll]
    have ehn : (S.h q).num = nums q := I.num q hq
    by_cases c1 : l.num ≠ (S.h q).num
    · have epr' : (S.h q).proc l = (S.h q, [l]) := by
        rw [epr]; unfold Hd.answered; rw [if_pos c1]
      obtain ⟨k1, k2, k3, k4⟩ := key hq _ _ epr'
      have hd0 : t.d ≠ 0 := fun z => by
        rw [z, pt_zero g1] at hqq
        exact c1 (by rw [eln, ehn, hqq])
      obtain ⟨e, he⟩ : ∃ e, t.d = e + 1 := ⟨t.d - 1, by omega⟩
      refine ⟨_, _, I.move (ns := [⟨.answer, t.p, t.w, t.s, e⟩]) (x' := S.h q) hq ha (by rw [em]; exact hqq) k1 k2 ?_ k4 rfl rfl rfl rfl rfl rfl (Or.inl rfl) (Or.inl rfl) ?_ ?_ ?_ (fun z => by rw [tk] at z; cases z) ?_⟩
      · rw [k3, List.map_append (l₁ := A ++ B)]
        congr 1
        show [(nxt n q l.way, l)] = [(pt n t.w t.p e, (⟨- sg t.w, .answer, nums t.p, (t.s : Int), 0⟩ : Lt))]
        rw [← hll]
        simp only
        rw [nxt_nsg _ hq, ← hqq, he, pt_back g1 (by omega)]
      · intro u hu
        rw [List.mem_singleton] at hu
        rw [hu]
        have fh : ((S.drop i).give1 q l).h t.p = S.h t.p := by
          rw [k2]
          by_cases e : t.p = q
          · rw [if_pos e, e]
          · rw [if_neg e]
        refine ⟨g1, by rw [fh]; exact g2, by rw [fh]; exact g3, by show e < 2 ^ t.s; omega, g5, g6⟩
      · intro p w
        rw [List.countP_cons, List.countP_nil]
        have : Tk.tok p w ⟨.answer, t.p, t.w, t.s, e⟩ = Tk.tok p w t := by unfold Tk.tok; rw [tk]
        rw [this]
        omega
      · intro w _ _ z
        rw [List.countP_cons, List.countP_nil]
        have : Tk.tok t.p w ⟨.answer, t.p, t.w, t.s, e⟩ = Tk.tok t.p w t := by unfold Tk.tok; rw [tk]
        rw [this, if_pos z]
      · simp only [List.map_cons, List.map_nil, List.sum_cons, List.sum_nil, List.length_cons, List.length_nil]
        unfold Tk.rem
        rw [tk]
        simp only
        omega
    · have ep : t.p = q := inj _ _ g1 hq (by rw [← eln, ← ehn]; exact Decidable.of_not_not c1)
      have ed : t.d = 0 := by
        by_cases z : t.d = 0
        · exact z
        · have : t.d = n := pt_self (w := t.w) g1 (by omega) (by omega) (by rw [hqq, ep])
          omega
      by_cases c2 : (S.h q).came + 1 < 2 ∨ (S.h q).beaten = true
      · have epr' : (S.h q).proc l = ({ S.h q with came := (S.h q).came + 1 }, []) := by
          rw [epr]; unfold Hd.answered; rw [if_neg c1, if_pos c2]
        obtain ⟨k1, k2, k3, k4⟩ := key hq _ _ epr'
        exact ⟨_, _, I.count hq ha tk ep ed c2 k1 k2 (by rw [k3]; simp) k4 rfl⟩
      · have epr' : (S.h q).proc l = ((S.h q).up, (S.h q).up.asks) := by
          rw [epr]; unfold Hd.answered; rw [if_neg c1, if_neg c2]
        obtain ⟨k1, k2, k3, k4⟩ := key hq _ _ epr'
        obtain ⟨s, h1, h2, _⟩ := I.stg q hq
        have es : s = t.s := by
          rw [ep, h1] at g3
          exact Int.ofNat_inj.mp g3
        subst es
        refine ⟨_, _, I.climb hq ha tk ep ed c2 k1 k2 ?_ k4 rfl⟩
        rw [k3, List.map_append (l₁ := A ++ B)]
        congr 1
        refine asks2_mail (h := (S.h q).up) hq ehn ?_ ?_
        · show (S.h q).stage + 1 = _
          rw [h1]; rfl
        · show 2 * (S.h q).far = _
          rw [h2, Nat.pow_succ]; omega
  | crown =>
    unfold Good at g
    rw [tk] at g
    simp only at g
    obtain ⟨g1, g2, g3, g4, g5⟩ := g
    have em : t.mail n nums = (pt n true t.p t.d, ⟨1, .crown, nums t.p, 0, 0⟩) := by unfold Tk.mail; rw [tk]
    rw [em] at hqq hll
    simp only at hqq hll
    have hq : q < n := by rw [← hqq]; exact pt_lt g1 g4
    have epr : (S.h q).proc l = (S.h q).told l := by rw [← hll]; rfl
    have eln : l.num = nums t.p := by rw [← hll]
    have ehn : (S.h q).num = nums q := I.num q hq
    have ntok : ∀ p w, Tk.tok p w t = false := fun p w => by unfold Tk.tok; rw [tk]; rfl
    by_cases c1 : l.num = (S.h q).num
    · have ep : t.p = q := inj _ _ g1 hq (by rw [← eln, ← ehn]; exact c1)
      have ed : t.d = n := pt_self g1 g3 g4 (by rw [hqq, ep])
      have epr' : (S.h q).proc l = (S.h q, []) := by
        rw [epr]; unfold Hd.told; rw [if_pos c1]
      obtain ⟨k1, k2, k3, k4⟩ := key hq _ _ epr'
      have fh : ∀ p, ((S.drop i).give1 q l).h p = S.h p := fun p => by
        rw [k2]
        by_cases e : p = q
        · rw [if_pos e, e]
        · rw [if_neg e]
      refine ⟨_, _, I.move (ns := []) (x' := S.h q) hq ha (by rw [em]; exact hqq) k1 k2 (by rw [k3]; exact e1) k4 rfl rfl rfl rfl rfl rfl (Or.inl rfl) (Or.inl rfl) (fun u hu => by cases hu) (fun _ _ => Nat.zero_le _) (fun w _ _ z => by rw [ntok] at z; cases z) (fun _ => Or.inr fun z hz => ?_) (Nat.zero_le _)⟩
      rw [fh]
      by_cases e : z = t.p
      · rw [e, I.ckn _ g1 g2]; simp
      · obtain ⟨j, h1, h2, e'⟩ := pt_all true g1 hz e
        have := g5 j h1 (by omega)
        rw [e'] at this; exact this
    · have epr' : (S.h q).proc l = ({ S.h q with known := some l.num }, [l]) := by
        rw [epr]; unfold Hd.told; rw [if_neg c1]
      obtain ⟨k1, k2, k3, k4⟩ := key hq _ _ epr'
      have hdn : t.d < n := by
        rcases Nat.lt_or_eq_of_le g4 with h | h
        · exact h
        · rw [h, pt_n g1] at hqq; exact absurd (by rw [eln, ehn, hqq]) c1
      refine ⟨_, _, I.move (ns := [⟨.crown, t.p, t.w, t.s, t.d + 1⟩]) (x' := { S.h q with known := some l.num }) hq ha (by rw [em]; exact hqq) k1 k2 ?_ k4 rfl rfl rfl rfl rfl rfl (Or.inl rfl) (Or.inr ⟨t.p, g1, g2, by rw [eln]⟩) ?_ ?_ (fun w _ _ z => by rw [ntok] at z; cases z) (fun _ => Or.inl ⟨_, List.mem_singleton.mpr rfl, rfl⟩) ?_⟩
      · rw [k3, List.map_append (l₁ := A ++ B)]
        congr 1
        show [(nxt n q l.way, l)] = [(pt n true t.p (t.d + 1), (⟨1, .crown, nums t.p, 0, 0⟩ : Lt))]
        rw [← hll]
        simp only
        rw [nxt_right hq, ← hqq, pt_on g1 (by omega)]
      · intro u hu
        rw [List.mem_singleton] at hu
        rw [hu]
        refine ⟨g1, ?_, by show 1 ≤ t.d + 1; omega, by show t.d + 1 ≤ n; omega, ?_⟩
        · rw [k2]
          by_cases e : t.p = q
          · rw [if_pos e]; rw [e] at g2; exact g2
          · rw [if_neg e]; exact g2
        · intro j h1 h2
          have h2' : j < t.d + 1 := h2
          show (((S.drop i).give1 q l).h (pt n true t.p j)).known ≠ none
          rw [k2]
          by_cases e : pt n true t.p j = q
          · rw [if_pos e]; simp
          · rw [if_neg e]
            refine g5 j h1 ?_
            have : j ≠ t.d := fun z => e (by rw [z]; exact hqq)
            omega
      · intro p w
        rw [ntok, List.countP_cons, List.countP_nil]
        exact Nat.le_refl _
      · simp only [List.map_cons, List.map_nil, List.sum_cons, List.sum_nil, List.length_cons, List.length_nil]
        unfold Tk.rem
        rw [tk]
        simp only
        omega

theorem Inv.place (I : Inv n nums S gs dn) {i : Nat} (hi : i < S.post.length) : (S.mail i).1 < n := by
  have hg : i < gs.length := by have := hi; rw [I.post, List.length_map] at this; exact this
  have g := I.good gs[i] (List.getElem_mem hg)
  have e : S.mail i = (gs[i]).mail n nums := by
    unfold Rg.mail
    rw [I.post, List.getD_eq_getElem?_getD, List.getElem?_map, List.getElem?_eq_getElem hg]
    rfl
  rw [e]
  unfold Good at g
  unfold Tk.mail
  cases k : gs[i].kind <;> simp only [k] at g ⊢
  · exact pt_lt g.1 g.2.2.2.2.2.1
  · exact pt_lt g.1 (by omega)
  · exact pt_lt g.1 g.2.2.2.1

theorem Inv.bring (inj : ∀ p q, p < n → q < n → nums p = nums q → p = q) (I : Inv n nums S gs dn) {i : Nat} (hi : i < S.post.length) : ∃ gs' dn', Inv n nums (S.bring i) gs' dn' := by
  have hq := I.place hi
  rw [bring_eq hi (by rw [I.len]; exact hq)]
  obtain ⟨gs', J⟩ := I.wake hq
  have hg : i < gs.length := by have := hi; rw [I.post, List.length_map] at this; exact this
  have e : S.mail i = (gs[i]).mail n nums := by
    unfold Rg.mail
    rw [I.post, List.getD_eq_getElem?_getD, List.getElem?_map, List.getElem?_eq_getElem hg]
    rfl
  have ei : (gs ++ gs')[i]? = some gs[i] := by rw [List.getElem?_append_left hg, List.getElem?_eq_getElem hg]
  have := J.deliver inj ei (by rw [← e]; exact wake_aw (by rw [I.len]; exact hq))
  rw [← e] at this
  exact this
end RC
/-! # RcMath5: what follows from the invariant: the bound, the end, who is the first -/
namespace RC
variable {n : Nat} {nums : Nat → Int} {S S' : Rg} {gs : List Tk} {dn : Nat → Bool → Bool}

/-! ### as many as go round the ring -/
def ind (f : Nat → Bool) (p : Nat) : Nat := if f p then 1 else 0
theorem pack_go {f : Nat → Bool} {g : Nat} (hs : ∀ p q, f p = true → f q = true → p < q → q < n → g < q - p ∧ g < n - (q - p)) :
    ∀ k, k ≤ n → sumTo (ind f) k = 0 ∨ ∃ a b, a ≤ b ∧ b < k ∧ f a = true ∧ f b = true ∧ sumTo (ind f) k * (g + 1) ≤ b - a + (g + 1)
  | 0, _ => Or.inl rfl
  | k + 1, hk => by
    have ih := pack_go hs k (by omega)
    have e : sumTo (ind f) (k + 1) = sumTo (ind f) k + ind f k := rfl
    cases hf : f k with
    | false =>
      have z : ind f k = 0 := by unfold ind; rw [hf]; rfl
      rw [e, z, Nat.add_zero]
      rcases ih with h | ⟨a, b, h1, h2, h3⟩
      · exact Or.inl h
      · exact Or.inr ⟨a, b, h1, by omega, h3⟩
    | true =>
      have z : ind f k = 1 := by unfold ind; rw [hf]; rfl
      rw [e, z]
      right
      rcases ih with h | ⟨a, b, h1, h2, h3, h4, h5⟩
      · exact ⟨k, k, Nat.le_refl _, by omega, hf, hf, by rw [h]; omega⟩
      · refine ⟨a, k, by omega, by omega, h3, hf, ?_⟩
        have := (hs b k h4 hf h2 (by omega)).1
        rw [Nat.add_mul, Nat.one_mul]
        omega
theorem pack {f : Nat → Bool} {g : Nat} (hg : g < n) (hs : ∀ p q, f p = true → f q = true → p < q → q < n → g < q - p ∧ g < n - (q - p)) : sumTo (ind f) n ≤ n / (g + 1) := by
  rw [Nat.le_div_iff_mul_le (by omega)]
  rcases pack_go hs n (Nat.le_refl _) with h | ⟨a, b, h1, h2, h3, h4, h5⟩
  · rw [h, Nat.zero_mul]; exact Nat.zero_le _
  · by_cases e : a = b
    · subst e; omega
    · have := (hs a b h3 h4 (by omega) h2).2
      omega

theorem pow_low {s : Nat} (hn : n ≤ 64) (h : 2 ^ (s - 1) < n) : s ≤ 6 := by
  by_cases c : s ≤ 6
  · exact c
  · have : 2 ^ 6 ≤ 2 ^ (s - 1) := Nat.pow_le_pow_right (by decide) (by omega)
    have e : 2 ^ 6 = 64 := rfl
    omega
theorem Inv.stage6 (I : Inv n nums S gs dn) (hn : n ≤ 64) {p : Nat} (hp : p < n) : ∃ s : Nat, (S.h p).stage = (s : Int) ∧ s ≤ 6 ∧ (s = 0 ∨ (2 ^ (s - 1) < n ∧ ∀ w, low n nums w p (2 ^ (s - 1)))) := by
  obtain ⟨s, h1, _, h3⟩ := I.stg p hp
  refine ⟨s, h1, ?_, h3⟩
  rcases h3 with h | h
  · omega
  · exact pow_low hn h.1

/-- who is awake at the stage s or beyond -/
def atS (S : Rg) (s : Nat) (p : Nat) : Bool := (S.h p).awake && decide ((s : Int) ≤ (S.h p).stage)
theorem Inv.sep (I : Inv n nums S gs dn) {s : Nat} {p q : Nat} (hp : p < n) (hq : q < n) (ap : atS S (s + 1) p = true) (aq : atS S (s + 1) q = true) (h : p < q) : 2 ^ s < q - p ∧ 2 ^ s < n - (q - p) := by
  have lo : ∀ x, x < n → atS S (s + 1) x = true → ∀ w, low n nums w x (2 ^ s) := fun x hx ax w => by
    unfold atS at ax
    simp at ax
    obtain ⟨s', h1, _, h3⟩ := I.stg x hx
    have l : s + 1 ≤ s' := by rw [h1] at ax; omega
    rcases h3 with h | h
    · omega
    · exact (h.2 w).mono (Nat.pow_le_pow_right (by decide) (by omega))
  constructor
  · by_cases c : 2 ^ s < q - p
    · exact c
    · exfalso
      have a := lo p hp ap true (q - p) (by omega) (by omega)
      have b := lo q hq aq false (q - p) (by omega) (by omega)
      have e1 : pt n true p (q - p) = q := by unfold pt; simp; split <;> omega
      have e2 : pt n false q (q - p) = p := by unfold pt; simp; omega
      rw [e1] at a
      rw [e2] at b
      omega
  · by_cases c : 2 ^ s < n - (q - p)
    · exact c
    · exfalso
      have a := lo p hp ap false (n - (q - p)) (by omega) (by omega)
      have b := lo q hq aq true (n - (q - p)) (by omega) (by omega)
      have e1 : pt n false p (n - (q - p)) = q := by unfold pt; simp; split <;> omega
      have e2 : pt n true q (n - (q - p)) = p := by unfold pt; simp; split <;> omega
      rw [e1] at a
      rw [e2] at b
      omega
/-- fewer than all hands come to a stage -/
def nS (n : Nat) : Nat → Nat
  | 0 => n
  | s + 1 => if 2 ^ s < n then n / (2 ^ s + 1) else 0
theorem sumTo_ind_le {f : Nat → Bool} : ∀ k, sumTo (ind f) k ≤ k
  | 0 => Nat.le_refl _
  | k + 1 => by
    have := sumTo_ind_le (f := f) k
    show sumTo (ind f) k + ind f k ≤ k + 1
    have : ind f k ≤ 1 := by unfold ind; split <;> omega
    omega
theorem Inv.few (I : Inv n nums S gs dn) : ∀ s, sumTo (ind (atS S s)) n ≤ nS n s
  | 0 => sumTo_ind_le n
  | s + 1 => by
    show _ ≤ if 2 ^ s < n then n / (2 ^ s + 1) else 0
    by_cases c : 2 ^ s < n
    · rw [if_pos c]
      have e : sumTo (ind (atS S (s + 1))) n = sumTo (ind fun p => decide (p < n) && atS S (s + 1) p) n := sumTo_congr fun p hp => by
        unfold ind
        simp [hp]
      rw [e]
      refine pack c fun p q hp hq h hqn => ?_
      simp at hp hq
      exact I.sep hp.1 hq.1 hp.2 hq.2 h
    · rw [if_neg c]
      refine Nat.le_of_eq (sumTo_zero fun p hp => ?_)
      unfold ind
      cases e : atS S (s + 1) p with
      | false => rfl
      | true =>
        unfold atS at e
        simp at e
        obtain ⟨s', h1, _, h3⟩ := I.stg p hp
        have l : s + 1 ≤ s' := by rw [h1] at e; omega
        rcases h3 with h | h
        · omega
        · have : 2 ^ s ≤ 2 ^ (s' - 1) := Nat.pow_le_pow_right (by decide) (by omega)
          omega

theorem sumTo_add {f g : Nat → Nat} : ∀ {k : Nat}, sumTo (fun p => f p + g p) k = sumTo f k + sumTo g k
  | 0 => rfl
  | k + 1 => by
    show sumTo (fun p => f p + g p) k + (f k + g k) = sumTo f k + f k + (sumTo g k + g k)
    rw [sumTo_add]
    omega
theorem sumTo_mul {f : Nat → Nat} {c : Nat} : ∀ {k : Nat}, sumTo (fun p => c * f p) k = c * sumTo f k
  | 0 => rfl
  | k + 1 => by
    show sumTo (fun p => c * f p) k + c * f k = c * (sumTo f k + f k)
    rw [sumTo_mul, Nat.mul_add]
/-- the bound of the document -/
def bnd (n : Nat) : Nat :=
  7 * n + (if 2 < n then 4 * 2 * (n / 2) else 0) + (if 4 < n then 4 * 4 * (n / 3) else 0) + (if 8 < n then 4 * 8 * (n / 5) else 0) + (if 16 < n then 4 * 16 * (n / 9) else 0)
    + (if 32 < n then 4 * 32 * (n / 17) else 0) + (if 64 < n then 4 * 64 * (n / 33) else 0)
def upSum (n : Nat) (c : Nat → Nat) : Nat := 2 * cS n 0 * c 0 + 2 * cS n 1 * c 1 + 2 * cS n 2 * c 2 + 2 * cS n 3 * c 3 + 2 * cS n 4 * c 4 + 2 * cS n 5 * c 5 + 2 * cS n 6 * c 6
theorem upSum_le {c d : Nat → Nat} (h : ∀ s, c s ≤ d s) : upSum n c ≤ upSum n d := by
  unfold upSum
  have m : ∀ s, 2 * cS n s * c s ≤ 2 * cS n s * d s := fun s => Nat.mul_le_mul_left _ (h s)
  have := m 0; have := m 1; have := m 2; have := m 3; have := m 4; have := m 5; have := m 6
  omega
theorem cost_up (I : Inv n nums S gs dn) (hn : n ≤ 64) {p : Nat} (hp : p < n) : costH n (S.h p) = upSum n fun s => ind (atS S s) p := by
  obtain ⟨s, h1, h2, _⟩ := I.stage6 hn hp
  unfold costH upSum ind atS
  cases ha : (S.h p).awake with
  | false => simp
  | true =>
    rw [h1]
    have : s = 0 ∨ s = 1 ∨ s = 2 ∨ s = 3 ∨ s = 4 ∨ s = 5 ∨ s = 6 := by omega
    rcases this with rfl | rfl | rfl | rfl | rfl | rfl | rfl <;> simp [costUp]
theorem cost_all (I : Inv n nums S gs dn) (hn : n ≤ 64) : sumTo (fun p => costH n (S.h p)) n = upSum n fun s => sumTo (ind (atS S s)) n := by
  rw [sumTo_congr fun p hp => cost_up I hn hp]
  unfold upSum
  simp only [sumTo_add, sumTo_mul]
theorem bnd_ok : ∀ n, n < 65 → 1 ≤ n → upSum n (nS n) + n ≤ bnd n := by decide +kernel
/-- never more letters than the bound -/
theorem Inv.bound (I : Inv n nums S gs dn) (h1 : 1 ≤ n) (hn : n ≤ 64) : S.many ≤ bnd n := by
  obtain ⟨c, hc, ho⟩ := I.pot
  have a := cost_all I hn
  have b : upSum n (fun s => sumTo (ind (atS S s)) n) ≤ upSum n (nS n) := upSum_le fun s => I.few s
  have d := bnd_ok n (by omega) h1
  have : c ≤ n := by
    rcases ho with h | h <;> omega
  omega

/-! ### the end -/
/-- as many mails came as letters were sent and are not under way: the mails under way were sent -/
theorem Inv.all_awake (I : Inv n nums S gs dn) (hp : S.post = []) (h : ∃ p, p < n ∧ (S.h p).awake = true) : ∀ q, q < n → (S.h q).awake = true := by
  have hg : gs = [] := by
    have := I.post
    rw [hp] at this
    cases gs with
    | nil => rfl
    | cons a l => cases this
  obtain ⟨p, hpn, ha⟩ := h
  have nb : ∀ x, x < n → (S.h x).awake = true → (S.h (pt n true x 1)).awake = true := fun x hx h => by
    rcases I.nei x hx h true with h | ⟨t, ht, _⟩
    · exact h
    · rw [hg] at ht; cases ht
  have go : ∀ d, d ≤ n - 1 → (S.h (pt n true p d)).awake = true := by
    intro d
    induction d with
    | zero => intro _; rw [pt_zero hpn]; exact ha
    | succ d ih =>
      intro hd
      have := nb _ (pt_lt hpn (by omega)) (ih (by omega))
      rwa [pt_on hpn (by omega)] at this
  intro q hq
  by_cases e : q = p
  · rw [e]; exact ha
  · obtain ⟨j, h1, h2, e'⟩ := pt_all true hpn hq e
    rw [← e']; exact go j h2
theorem Inv.ended (I : Inv n nums S gs dn) (hp : S.post = []) (h : ∃ p, p < n ∧ (S.h p).awake = true) {m : Nat} (hm : m < n) (htop : ∀ q, q < n → nums q ≤ nums m) :
    (S.h m).crowned = true ∧ ∀ q, q < n → (S.h q).known = some (nums m) := by
  have aw := I.all_awake hp h
  have hg : gs = [] := by
    have := I.post
    rw [hp] at this
    cases gs with
    | nil => rfl
    | cons a l => cases this
  have hc : (S.h m).crowned = true := by
    cases e : (S.h m).crowned with
    | true => rfl
    | false =>
      exfalso
      have d : ∀ w, dn m w = true := fun w => by
        cases e' : dn m w with
        | true => rfl
        | false =>
          have := I.live m hm (aw m hm) htop e w e'
          rw [hg] at this; cases this
      exact I.ndn m hm (not_beaten_top I hm htop) ⟨d true, d false⟩
  refine ⟨hc, fun q hq => ?_⟩
  rcases I.crn m hm hc with ⟨t, ht, _⟩ | hk
  · rw [hg] at ht; cases ht
  · cases e : (S.h q).known with
    | none => exact absurd e (hk q hq)
    | some x =>
      obtain ⟨z, hz, hzc, ex⟩ := I.kn q hq x e
      have a := I.top z hz hzc m hm
      have b := htop z hz
      rw [ex]
      have : nums z = nums m := by omega
      rw [this]

/-! ### what never falls -/
/-- who is the first, who knows, who is awake: so behind each deed; no stage falls -/
structure Up (x y : Hd) : Prop where
  cr : x.crowned = true → y.crowned = true
  kn : x.known ≠ none → y.known ≠ none
  aw : x.awake = true → y.awake = true
  st : x.stage ≤ y.stage
theorem Up.refl (x : Hd) : Up x x := ⟨id, id, id, Int.le_refl _⟩
theorem Up.trans {x y z : Hd} (a : Up x y) (b : Up y z) : Up x z := ⟨fun h => b.cr (a.cr h), fun h => b.kn (a.kn h), fun h => b.aw (a.aw h), Int.le_trans a.st b.st⟩
theorem up_wk (x : Hd) : Up x x.wk := ⟨id, id, fun _ => rfl, Int.le_refl _⟩
theorem up_proc (x : Hd) (l : Lt) : Up x (x.proc l).1 := by
  unfold Hd.proc
  cases l.word with
  | ask =>
    show Up x (x.asked l).1
    unfold Hd.asked
    repeat' split
    · exact ⟨fun _ => rfl, fun _ => by simp, id, Int.le_refl _⟩
    · exact Up.refl x
    · exact ⟨id, id, id, Int.le_refl _⟩
    · exact ⟨id, id, id, Int.le_refl _⟩
  | answer =>
    show Up x (x.answered l).1
    unfold Hd.answered
    repeat' split
    · exact Up.refl x
    · exact ⟨id, id, id, Int.le_refl _⟩
    · exact ⟨id, id, id, by show x.stage ≤ x.stage + 1; omega⟩
  | crown =>
    show Up x (x.told l).1
    unfold Hd.told
    split
    · exact Up.refl x
    · exact ⟨id, fun _ => by simp, id, Int.le_refl _⟩
theorem up_take (x : Hd) (l : Lt) : Up x (x.take l).1 := (up_wk x).trans (up_proc x.wk l)
theorem up_wake {q : Nat} (hq : q < S.hands.length) (p : Nat) : Up (S.h p) ((S.wake q).h p) := by
  rw [wake_h hq]
  by_cases e : p = q
  · rw [if_pos e, e]; exact up_wk _
  · rw [if_neg e]; exact Up.refl _
theorem bring_h {i : Nat} (hq : (S.mail i).1 < S.hands.length) (p : Nat) : (S.bring i).h p = if p = (S.mail i).1 then ((S.h p).take (S.mail i).2).1 else S.h p := by
  show ((S.drop i).setH (S.mail i).1 (((S.drop i).h (S.mail i).1).take (S.mail i).2).1).h p = _
  rw [h_setH (by exact hq)]
  by_cases e : p = (S.mail i).1
  · rw [if_pos e, if_pos e, e]; rfl
  · rw [if_neg e, if_neg e]; rfl
theorem up_bring {i : Nat} (hq : (S.mail i).1 < S.hands.length) (p : Nat) : Up (S.h p) ((S.bring i).h p) := by
  rw [bring_h hq]
  by_cases e : p = (S.mail i).1
  · rw [if_pos e]; exact up_take _ _
  · rw [if_neg e]; exact Up.refl _

/-! ### how many mails -/
theorem wake_count {q : Nat} : (S.wake q).many + S.post.length = S.many + (S.wake q).post.length := by
  unfold Rg.wake Rg.put Rg.setH
  simp
  omega
theorem bring_count {i : Nat} (hi : i < S.post.length) : (S.bring i).many + S.post.length = S.many + (S.bring i).post.length + 1 := by
  unfold Rg.bring Rg.give Rg.put Rg.setH Rg.drop
  simp [List.length_eraseIdx]
  rw [if_pos hi]
  omega
end RC
/-! # RcKit: some rules of my own over the hand layer -/
namespace L2
open PySem PySem.Spec PyProof.Rows

/-! ### rules for a comprehension's block, where X.K is K -/
section
variable {X : Cx} {K : PySem.W.Frag}
theorem pe_fldK {e : Expr} {f : Str} {pos : Pos} {ta : TE} (hK : X.K = K) (he : PE X e ta) (hb : attributeBase e f X.env (eval e X.env) = eval e X.env) : PE X (.Attribute e f pos) (tFld K ta f) := by
  subst hK; exact pe_fld he hb
theorem ix_listK (hK : X.K = K) : IxR X (rIxL K) := by subst hK; exact ix_list
theorem ix_tupK (hK : X.K = K) : IxR X (rIxT K) := by subst hK; exact ix_tup
theorem op_neDK (hK : X.K = K) (hu : X.A.units + 64 < cLine) : OpR X (compareOp .NotEq) (rNeD K) := by subst hK; exact op_neD hu
end
/-- what an own error class must say -/
structure XCls (K : PySem.W.Frag) (C : Addr) : Prop where
  xP : PySem.W.excIn K C [.type "ValueError", .type "Exception", .type "BaseException", .type "object"] "ValueError.__new__" = true
  kP : PySem.W.keepIn K (.ref C) = true
  bP : PySem.W.subIn K (.ref C) (.type "BaseException") = some true
  tP : PySem.W.typeIn K (.ref C) = some (.type "type")
  iP : PySem.W.isClsIn K C = true
  vP : PySem.W.subIn K (.ref C) (.type "ValueError") = some true
  eC : ExcC K C
theorem XCls.raises {X : Cx} {C : Addr} (x : XCls X.K C) : Raises X (.ref C) := raises_own x.bP x.tP
/-- an error of the class at D before «except C» -/
theorem XCls.exm {K : PySem.W.Frag} {C D : Addr} {b : Bool} (x : XCls K C) (h : PySem.W.subIn K (.ref D) (.ref C) = some b) : PySem.W.exmOne K (.ref D) (.ref C) = some b :=
  PySem.W.exm_ref x.bP x.eC.hd x.tP h
/-- isinstance(an error of the class at D, C) -/
theorem XCls.kit {K : PySem.W.Frag} {C D : Addr} {b : Bool} (x : XCls K C) (h : PySem.W.subIn K (.ref D) (.ref C) = some b) (hn : D = C → b = true) : PySem.W.kitOne K (.ref D) (.ref C) = some b := by
  unfold PySem.W.kitOne
  by_cases e : D = C
  · subst e
    rw [hn rfl, if_pos (beq_self_eq_true _)]
  · have z : ¬ (Value.ref D == Value.ref C) = true := fun q => e (Value.ref.inj (beq_iff_eq.mp q))
    rw [if_neg z]
    unfold PySem.W.kitCls
    have i : ((PySem.W.clsIn K C).isSome && PySem.W.typeIn K (.ref C) == some (.type "type")) = true := by
      have i1 : (PySem.W.clsIn K C).isSome = true := x.iP
      rw [i1, x.tP] <;> rfl
    show (if ((PySem.W.clsIn K C).isSome && PySem.W.typeIn K (.ref C) == some (.type "type")) = true then PySem.W.subIn K (.ref D) (.ref C) else none) = some b
    rw [if_pos i]
    exact h
theorem XCls.kitV {K : PySem.W.Frag} {D : Addr} (x : XCls K D) : PySem.W.kitOne K (.ref D) (.type "ValueError") = some true := by
  unfold PySem.W.kitOne
  have z : ¬ (Value.ref D == Value.type "ValueError") = true := fun q => nomatch beq_iff_eq.mp q
  rw [if_neg z]
  unfold PySem.W.kitCls
  have i : PySem.W.kitMeta "ValueError" = true := by decide +kernel
  show (if PySem.W.kitMeta "ValueError" = true then PySem.W.subIn K (.ref D) (.type "ValueError") else none) = some true
  rw [if_pos i]
  exact x.vP

section
variable {X : Cx}
/-- a callee's error goes on out of a def that may raise -/
theorem passR {W : WX} {E : XK} (hW : ∀ cls d σ H, E cls d H → W cls d σ H) (tk : Takes X W) : Passes (L2.CX X.prog X.w) X E := passes_call tk hW
theorem pe_gint {x : Str} {i : Int} {pos : Pos} (hg : Gl X x) (hm : ∃ t, X.mg x = some (.int i t)) (hd : (x == ("__debug__" : Str)) = false := by decide) : PE X (.Name x pos) (tC (.int i)) := by
  obtain ⟨t, e⟩ := hm
  exact pe_glob hg e ⟨t, rfl⟩ hd
/-- a suite for an error whose class (one without a dict) is told where it is raised -/
theorem pss_err {st : List Stmt} {K : PySem.W.Frag} {cls : Value} {d : Option Addr} {oe : Obj} {t : Addr → TS} (hz : Zc cls d oe) (h : ∀ D', ExcC K D' → Zc (.ref D') none oe → PSs X st (t D')) :
    PSs X st (fun Dn σ H => ∃ D', ExcC K D' ∧ cls = .ref D' ∧ d = none ∧ t D' Dn σ H) := by
  refine ⟨fun pins s σ H Dn I hh => ?_⟩
  obtain ⟨D', hE, e1, e2, q⟩ := hh
  subst e1 e2
  exact (h D' hE hz).run pins s σ H Dn I q

variable {CX : CXT} {k : Nat} {f C : Addr} {fd : FuncData} {ps : List Str} {sp : Sp} {E : St → XK} {x m : Str} {p pos apos : Pos} {e o : Expr} {es : List Expr} {ta : TE} {t : TA}
/-- o.m(e, ..) where what is raised is wished for at the caller's slots -/
def tMethW (C : Addr) (m : Str) (sp : Sp) (E : St → XK) (ta : TE) (t : TA) : TE := fun σ H Q =>
  ta σ H fun x H1 => ∃ a dx fs, x = .ref a ∧ H1 a = some (.ins C dx fs) ∧ fs.lookup m = none ∧ t σ H1 fun vs H2 => sp (x :: vs) H2 Q (E σ)
theorem pe_methW {pl : Sem Bool} (ho : PE X o ta) (hc : Cls X.K C) (hM : Meth X.K C m f) (G : FnOk X.prog X.w X.K X.mg X.base CX k f fd ps sp) (room : Room k X.A) (bi : Binds X.K fd ps []) (hp : ∀ σ, PassesAt CX X σ (E σ)) (args : PA X (e :: es) t)
    (h1 : starEach (e :: es) X.env = (false, eval e X.env) :: starEach es X.env := by rfl) (h2 : (backTo pos (starEach es X.env)).any (·.1) = false := by rfl)
    (h3 : eval (.Call (.Attribute o m apos) (e :: es) [] pos) X.env = (do
      let obj ← eval o X.env
      standAt apos.atName
      let (fn, own) ← holding [obj] (getMethod obj m pl)
      callWith pos fn own (backTo pos (starEach (e :: es) X.env)) (backToKw pos (keywordEach [] X.env))) := by rfl) :
    PE X (.Call (.Attribute o m apos) (e :: es) [] pos) (tMethW C m sp E ta t) := ⟨fun pins s σ H Q I h => by
  refine PySem.W.methodCall_KW (pl := pl) (thn (ho.run pins s σ H _ I h) ?_) h3
  rintro w s1 ⟨v, H1, I1, rv, a, dx, fs, rfl, ea, nl, q⟩
  cases (show w = Value.ref a from rv)
  refine getmeth_ok I1 ea hc hM nl ?_
  refine PySem.W.callWith_K (first := [.ref a]) (h₀ := X.base) I.ok.mod.kin hM.kp (thn (args.run pos pins s1 σ H1 _ I1 q) ?_) h1 h2
  rintro us s2 ⟨vs, H2, I2, rs, q2⟩
  exact ⟨I2.kIn, run_fnS (us := .ref a :: us) (vs := .ref a :: vs) G room bi (hp σ) I2 (.cons rfl rs) q2⟩⟩
/-- C(e, ..) likewise -/
def tMakeW (C : Addr) (sp : Sp) (E : St → XK) (t : TA) : TE := fun σ H Q => t σ H fun vs H1 => ∀ x dx, H1 x = none → H1 dx = none → dx ≠ x →
  sp (.ref x :: vs) (upd (upd H1 dx (.own x)) x (.ins C dx [])) (fun v H2 => v = .non ∧ Q (.ref x) H2) (E σ)
theorem pe_makeW (M : Mk X.K C f) (G : FnOk X.prog X.w X.K X.mg X.base CX k f fd ps sp) (room : Room (k + 1) X.A) (hg : Gl X x) (hm : X.mg x = some (.ref C)) (bi : Binds X.K fd ps []) (hp : ∀ σ, PassesAt CX X σ (E σ)) (args : PA X (e :: es) t)
    (hdb : (x == ("__debug__" : Str)) = false := by decide) (h1 : starEach (e :: es) X.env = (false, eval e X.env) :: starEach es X.env := by rfl) (h2 : (backTo pos (starEach es X.env)).any (·.1) = false := by rfl) :
    PE X (.Call (.Name x p) (e :: es) [] pos) (tMakeW C sp E t) := ⟨fun pins s σ H Q I h => by
  refine wpAny_Call_Name_kw (ld_glob I hg hm ?_ hdb)
  refine PySem.W.callWith_K (h₀ := X.base) I.ok.mod.kin M.kp (thn (args.run pos pins s σ H _ I h) ?_) h1 h2
  rintro us s1 ⟨vs, H1, I1, r, q⟩
  refine ⟨I1.kIn, ?_⟩
  have nx : H1 (s1.heap.objs.size + 1) = none := I1.hok.fresh (Nat.le_succ _)
  have nd : H1 s1.heap.objs.size = none := I1.hok.fresh (Nat.le_refl _)
  have hq := q _ _ nx nd (Nat.ne_of_lt (Nat.lt_succ_self _))
  have J := Inv.made (C := C) I1
  have rr : Vals (V.ref (s1.heap.objs.size + 1) :: vs) (Value.ref (s1.heap.objs.size + 1) :: us) := .cons rfl r
  have hl : (Value.ref (s1.heap.objs.size + 1) :: us).length = ps.length := by rw [← rr.length]; exact G.len _ _ _ _ hq
  have hb := bi _ (Value.ref (s1.heap.objs.size + 1) :: us) J.kIn (by rw [List.append_nil]; exact hl)
  rw [List.append_nil] at hb
  refine wpAny_call (make_map (f := f) I1.kIn M.makes M.init (beq_iff_eq.mp M.fn) (codeAny_mono (G.run _ X.stack _ _ ⟨Value.ref (s1.heap.objs.size + 1) :: us, []⟩ _ _ _ (E σ) (room.make C us []) (J.env0.make C us []) hb rr hq) ?_))
  intro res s2 hres
  match res, hres with
  | .error er, hres => exact hp σ pins _ _ er s2 J hres
  | .ok (.ret u), hres =>
    obtain ⟨v, H2, J2, rv, ev, q3⟩ := J.after hres
    subst ev
    exact ⟨rv, ⟨V.ref (s1.heap.objs.size + 1), H2, J2, rfl, q3⟩⟩
  | .ok .next, hres => exact False.elim hres
  | .ok .brk, hres => exact False.elim hres
  | .ok .cont, hres => exact False.elim hres⟩
end
end L2
namespace L2
open PySem PySem.Spec PyProof.Rows
/-! ### rules under names -/
section
variable {X : Cx}
def rLen (K : PySem.W.Frag) : List V → Hp → VK → Prop := fun xs H Q => ∃ p ys, xs = [.ref p] ∧ (SqL K H p ys ∨ SqT K H p ys) ∧ Q (.int ys.length) H
theorem call_lenN : CallR X (.builtin "len") (rLen X.K) := call_len_seq
def rAbs : List V → Hp → VK → Prop := fun xs H Q => ∃ i, xs = [.int i] ∧ Q (.int (if i < 0 then -i else i)) H
theorem call_absN : CallR X (.builtin "abs") rAbs := call_abs
def rInt1 : List V → Hp → VK → Prop := fun xs H Q => (∃ i, xs = [.int i] ∧ Q (.int i) H) ∨ ∃ k, xs = [.bl k] ∧ Q (.int (if k then 1 else 0)) H
theorem call_intN : CallR X (.type "int") rInt1 := call_int1
def rListOf (K : PySem.W.Frag) : List V → Hp → VK → Prop := fun xs H Q => ∃ p ys, xs = [.ref p] ∧ (SqL K H p ys ∨ SqT K H p ys) ∧ ∀ l, H l = none → Q (.ref l) (upd H l (.lst ys))
theorem call_listN : CallR X (.type "list") (rListOf X.K) := call_list_of
def rIsNo : R2 := fun x y H Q => y = .non ∧ Q (.bl (decide (x = .non))) H
theorem op_isNo : OpR X (compareOp .Is) rIsNo := op_isN
def rNotNo : R2 := fun x y H Q => y = .non ∧ Q (.bl (!decide (x = .non))) H
theorem op_notNo : OpR X (compareOp .IsNot) rNotNo := op_notN
def rIsBo : R2 := fun x y H Q => ∃ a b, x = .bl a ∧ y = .bl b ∧ Q (.bl (decide (a = b))) H
theorem op_isBo : OpR X (compareOp .Is) rIsBo := op_is_bl
def rNotBo : R2 := fun x y H Q => ∃ a b, x = .bl a ∧ y = .bl b ∧ Q (.bl (!decide (a = b))) H
theorem op_notBo : OpR X (compareOp .IsNot) rNotBo := op_isnot_bl
def rMin2 : List V → Hp → VK → Prop := fun xs H Q => ∃ i j, xs = [.int i, .int j] ∧ Q (.int (if j < i then j else i)) H
theorem call_minN (hc : X.calm = true) : CallR X (.builtin "min") rMin2 := call_min2 hc
def rTupOf (K : PySem.W.Frag) : List V → Hp → VK → Prop := fun xs H Q => ∃ p ys, xs = [.ref p] ∧ ((SqL K H p ys ∧ ∀ l, H l = none → Q (.ref l) (upd H l (.tup ys))) ∨ (SqT K H p ys ∧ Q (.ref p) H))
theorem call_tupN : CallR X (.type "tuple") (rTupOf X.K) := call_tuple_of
end
/-- an attribute's value -/
def rFld (K : PySem.W.Frag) (f : Str) : V → Hp → VK → Prop := fun x H Q => ∃ a C dx fs v, x = .ref a ∧ H a = some (.ins C dx fs) ∧ Cls K C ∧ NoAttr K C f ∧ fs.lookup f = some v ∧ Q v H
/-- an attribute stored -/
def rPut (K : PySem.W.Frag) (f : Str) (y : V) : V → Hp → (Hp → Prop) → Prop := fun x H R => ∃ a C dx fs, x = .ref a ∧ H a = some (.ins C dx fs) ∧ Cls K C ∧ NoAttr K C f ∧ fs.length < 1000 ∧ R (upd H a (.ins C dx (putF f y fs)))
/-- the receiver of a method -/
def rRecv (C : Addr) (m : Str) : V → Hp → Prop → Prop := fun x H R => ∃ a dx fs, x = .ref a ∧ H a = some (.ins C dx fs) ∧ fs.lookup m = none ∧ R
/-! ### readings, one step each -/
section
variable {K : PySem.W.Frag} {σ : St} {H : Hp} {D : Ends} {te ta tb tc : TE} {ts tr : TS} {t u : TT} {tl : TA} {Q : VK} {x y v w : V} {i j : Int} {n : Nat} {a C dx : Addr} {fs : List (Str × V)} {f : Str}
theorem rd_seq {nx : St → Hp → Prop} {rt : VK} {bk ct : St → Hp → Prop} (h : ts ⟨tr ⟨nx, rt, bk, ct⟩, rt, bk, ct⟩ σ H) : tSeq ts tr ⟨nx, rt, bk, ct⟩ σ H := h
theorem rd_asg (h : te σ H fun x H1 => D.nx (σ.set n (some x)) H1) : tAsg te (gName n) D σ H := h
theorem rd_asgG {g : TG} (h : te σ H fun x H1 => g x σ H1 D.nx) : tAsg te g D σ H := h
theorem rd_ret (h : te σ H D.rt) : tRet te D σ H := h
theorem rd_retN (h : D.rt .non H) : tRetN D σ H := h
theorem rd_drop (h : te σ H fun _ H1 => D.nx σ H1) : tDrop te D σ H := h
theorem rd_next (h : D.nx σ H) : tNext D σ H := h
theorem rd_if {c : TT} (h : c σ H fun b H1 => if b = true then ts D σ H1 else tr D σ H1) : tIfS c ts tr D σ H := h
theorem rd_var {k : Nat} (e : σ[k]? = some (some v)) (h : Q v H) : tVar k σ H Q := ⟨v, e, h⟩
theorem rd_c (h : Q v H) : tC v σ H Q := h
theorem rd_op {r : R2} (h : ta σ H fun x H1 => tb σ H1 fun y H2 => r x y H2 Q) : tOp r ta tb σ H Q := h
theorem rd_un {r : V → Hp → VK → Prop} (h : ta σ H fun x H1 => r x H1 Q) : tUn r ta σ H Q := h
theorem rd_I0 {g : Int → Int → V} (h : Q (g i j) H) : rI0 g (.int i) (.int j) H Q := ⟨i, j, rfl, rfl, h⟩
theorem rd_I {c : Int → Int → Prop} {g : Int → Int → V} (hc : c i j) (h : Q (g i j) H) : rI c g (.int i) (.int j) H Q := ⟨i, j, rfl, rfl, hc, h⟩
theorem rd_U {g : Int → V} (h : Q (g i) H) : rU g (.int i) H Q := ⟨i, rfl, h⟩
theorem rd_eq (hs : scal x y = true) (h : Q (.bl (decide (x = y))) H) : rEq x y H Q := ⟨hs, h⟩
theorem rd_ne (hs : scal x y = true) (h : Q (.bl (!decide (x = y))) H) : rNe x y H Q := ⟨hs, h⟩
theorem rd_eqI (h : Q (.bl (decide (i = j))) H) : rEq (.int i) (.int j) H Q := ⟨rfl, by
  have e : decide (V.int i = V.int j) = decide (i = j) := by
    by_cases z : i = j
    · rw [z]; simp
    · rw [decide_eq_false z, decide_eq_false fun q => z (V.int.inj q)]
  rw [e]; exact h⟩
theorem rd_neI (h : Q (.bl (!decide (i = j))) H) : rNe (.int i) (.int j) H Q := ⟨rfl, by
  have e : decide (V.int i = V.int j) = decide (i = j) := by
    by_cases z : i = j
    · rw [z]; simp
    · rw [decide_eq_false z, decide_eq_false fun q => z (V.int.inj q)]
  rw [e]; exact h⟩
theorem rd_test {Q : Bool → Hp → Prop} (h : te σ H fun x H' => ∃ k, x = .bl k ∧ Q k H') : tTest te σ H Q := h
theorem rd_B {Q : Bool → Hp → Prop} (h : te σ H fun x H' => ∃ k, x = .bl k ∧ Q k H') : tB te σ H Q := h
theorem rd_bl {b : Bool} {P : Bool → Prop} (h : P b) : ∃ k, V.bl b = .bl k ∧ P k := ⟨b, rfl, h⟩
theorem rd_and {Q : Bool → Hp → Prop} (h : t σ H fun c H1 => if c = true then u σ H1 Q else Q false H1) : tAnd t u σ H Q := h
theorem rd_or {Q : Bool → Hp → Prop} (h : t σ H fun c H1 => if c = true then Q true H1 else u σ H1 Q) : tOr t u σ H Q := h
theorem rd_not {Q : Bool → Hp → Prop} (h : t σ H fun c H1 => Q (!c) H1) : tNot t σ H Q := h
theorem rd_andV (h : ta σ H fun x H1 => ∃ c, x = .bl c ∧ if c = true then tb σ H1 Q else Q (.bl false) H1) : tAndV ta tb σ H Q := h
theorem rd_orV (h : ta σ H fun x H1 => ∃ c, x = .bl c ∧ if c = true then Q (.bl true) H1 else tb σ H1 Q) : tOrV ta tb σ H Q := h
theorem rd_notV (h : ta σ H fun x H1 => ∃ c, x = .bl c ∧ Q (.bl (!c)) H1) : tNotV ta σ H Q := h
theorem rd_ifE {c : TT} (h : c σ H fun b H1 => if b = true then ta σ H1 Q else tb σ H1 Q) : tIf c ta tb σ H Q := h
theorem rd_nil {Q : List V → Hp → Prop} (h : Q [] H) : tNil σ H Q := h
theorem rd_cons {Q : List V → Hp → Prop} (h : ta σ H fun x H1 => tl σ H1 fun xs H2 => Q (x :: xs) H2) : tCons ta tl σ H Q := h
theorem rd_CB {r : List V → Hp → VK → Prop} (h : tl σ H fun vs H1 => r vs H1 Q) : tCB r tl σ H Q := h
theorem rd_call {sp : Sp} {E : XK} (h : tl σ H fun vs H1 => sp vs H1 Q E) : tCall sp [] E tl σ H Q := by
  have e : (fun vs H1 => sp (vs ++ []) H1 Q E) = fun vs H1 => sp vs H1 Q E := by funext vs H1; rw [List.append_nil]
  show tl σ H fun vs H1 => sp (vs ++ []) H1 Q E
  rw [e]; exact h
theorem rd_callS {sp : Sp} {E : St → XK} (h : tl σ H fun vs H1 => sp vs H1 Q (E σ)) : tCallS sp E tl σ H Q := h
theorem rd_mk {sp : Sp} {E : XK} (h : tl σ H fun vs H1 => ∀ x dx, H1 x = none → H1 dx = none → dx ≠ x → sp (.ref x :: vs) (upd (upd H1 dx (.own x)) x (.ins C dx [])) (fun v H2 => v = .non ∧ Q (.ref x) H2) E) : tMake C sp [] E tl σ H Q := by
  show tl σ H fun vs H1 => ∀ x dx, H1 x = none → H1 dx = none → dx ≠ x → sp (.ref x :: (vs ++ [])) (upd (upd H1 dx (.own x)) x (.ins C dx [])) (fun v H2 => v = .non ∧ Q (.ref x) H2) E
  simp only [List.append_nil]
  exact h
theorem rd_tFld (h : ta σ H fun x H1 => rFld K f x H1 Q) : tFld K ta f σ H Q := h
theorem rd_fld (e : H a = some (.ins C dx fs)) (c : Cls K C) (nA : NoAttr K C f) (l : fs.lookup f = some v) (h : Q v H) : rFld K f (.ref a) H Q := ⟨a, C, dx, fs, v, rfl, e, c, nA, l, h⟩
theorem rd_sFld (h : te σ H fun y H1 => ta σ H1 fun x H2 => rPut K f y x H2 fun H3 => D.nx σ H3) : sFld K ta te f D σ H := h
theorem rd_put {R : Hp → Prop} (e : H a = some (.ins C dx fs)) (c : Cls K C) (nA : NoAttr K C f) (l : fs.length < 1000) (h : R (upd H a (.ins C dx (putF f y fs)))) : rPut K f y (.ref a) H R := ⟨a, C, dx, fs, rfl, e, c, nA, l, h⟩
theorem rd_meth {m : Str} {sp : Sp} {E : XK} (h : ta σ H fun x H1 => rRecv C m x H1 (tl σ H1 fun vs H2 => sp (x :: vs) H2 Q E)) : tMeth C m sp [] E ta tl σ H Q := by
  have e : ∀ x : V, (fun vs H1 => sp (x :: (vs ++ [])) H1 Q E) = fun vs H1 => sp (x :: vs) H1 Q E := fun x => by funext vs H1; rw [List.append_nil]
  show ta σ H fun x H1 => ∃ a dx fs, x = .ref a ∧ H1 a = some (.ins C dx fs) ∧ fs.lookup m = none ∧ tl σ H1 fun vs H2 => sp (x :: (vs ++ [])) H2 Q E
  simp only [e]
  exact h
theorem rd_methW {m : Str} {sp : Sp} {E : St → XK} (h : ta σ H fun x H1 => rRecv C m x H1 (tl σ H1 fun vs H2 => sp (x :: vs) H2 Q (E σ))) : tMethW C m sp E ta tl σ H Q := h
theorem rd_recv {m : Str} {R : Prop} (e : H a = some (.ins C dx fs)) (l : fs.lookup m = none) (h : R) : rRecv C m (.ref a) H R := ⟨a, dx, fs, rfl, e, l, h⟩
theorem rd_len {xs : List V} (e : SqL K H a xs) (h : Q (.int xs.length) H) : rLen K [.ref a] H Q := ⟨a, xs, rfl, .inl e, h⟩
theorem rd_abs (h : Q (.int (if i < 0 then -i else i)) H) : rAbs [.int i] H Q := ⟨i, rfl, h⟩
theorem rd_int1 {b : Bool} (h : Q (.int (if b then 1 else 0)) H) : rInt1 [.bl b] H Q := .inr ⟨b, rfl, h⟩
theorem rd_listL {xs : List V} (e : SqL K H a xs) (h : ∀ l, H l = none → Q (.ref l) (upd H l (.lst xs))) : rListOf K [.ref a] H Q := ⟨a, xs, rfl, .inl e, h⟩
theorem rd_listT {xs : List V} (e : SqT K H a xs) (h : ∀ l, H l = none → Q (.ref l) (upd H l (.lst xs))) : rListOf K [.ref a] H Q := ⟨a, xs, rfl, .inr e, h⟩
theorem rd_min2 {i j : Int} (h : Q (.int (if j < i then j else i)) H) : rMin2 [.int i, .int j] H Q := ⟨i, j, rfl, h⟩
theorem rd_tupOf {xs : List V} (e : SqL K H a xs) (h : ∀ l, H l = none → Q (.ref l) (upd H l (.tup xs))) : rTupOf K [.ref a] H Q := ⟨a, xs, rfl, .inl ⟨e, h⟩⟩
theorem rd_makeW {sp : Sp} {E : St → XK} (h : tl σ H fun vs H1 => ∀ x dx, H1 x = none → H1 dx = none → dx ≠ x → sp (.ref x :: vs) (upd (upd H1 dx (.own x)) x (.ins C dx [])) (fun v H2 => v = .non ∧ Q (.ref x) H2) (E σ)) : tMakeW C sp E tl σ H Q := h
theorem rd_slL {xs : List V} {lo hi : Option Int} (e : SqL K H a xs) (h : ∀ p, H p = none → Q (.ref p) (upd H p (.lst (cutV xs lo hi)))) : rSlL K (.ref a) lo hi H Q := ⟨a, xs, rfl, e, h⟩
theorem rd_cat {b : Addr} {xs ys : List V} (e1 : H a = some (.lst xs)) (e2 : H b = some (.lst ys)) (hz : xs.length + ys.length ≤ 100000) (h : ∀ p, H p = none → Q (.ref p) (upd H p (.lst (xs ++ ys)))) : rCat (.ref a) (.ref b) H Q :=
  ⟨a, b, xs, ys, rfl, rfl, e1, e2, Nat.le_trans hz (by decide), h⟩
theorem rd_isNo (h : Q (.bl (decide (x = .non))) H) : rIsNo x .non H Q := ⟨rfl, h⟩
theorem rd_notNo (h : Q (.bl (!decide (x = .non))) H) : rNotNo x .non H Q := ⟨rfl, h⟩
theorem rd_isBo {b c : Bool} (h : Q (.bl (decide (b = c))) H) : rIsBo (.bl b) (.bl c) H Q := ⟨b, c, rfl, rfl, h⟩
theorem rd_notBo {b c : Bool} (h : Q (.bl (!decide (b = c))) H) : rNotBo (.bl b) (.bl c) H Q := ⟨b, c, rfl, rfl, h⟩
theorem rd_lst (h : tl σ H fun xs H1 => xs.length ≤ sizeLine ∧ ∀ p, H1 p = none → Q (.ref p) (upd H1 p (.lst xs))) : tLst tl σ H Q := h
theorem rd_tup (h : tl σ H fun xs H1 => xs.length ≤ sizeLine ∧ ∀ p, H1 p = none → Q (.ref p) (upd H1 p (.tup xs))) : tTup tl σ H Q := h
theorem rd_ixL {xs : List V} {k : Nat} (e : SqL K H a xs) (hi : i = (k : Int)) (hx : xs[k]? = some v) (h : Q v H) : rIxL K (.ref a) (.int i) H Q := ⟨a, xs, i, v, rfl, rfl, e, by rw [hi]; exact atI_nat hx, h⟩
theorem rd_ixT {xs : List V} {k : Nat} (e : SqT K H a xs) (hi : i = (k : Int)) (hx : xs[k]? = some v) (h : Q v H) : rIxT K (.ref a) (.int i) H Q := ⟨a, xs, i, v, rfl, rfl, e, by rw [hi]; exact atI_nat hx, h⟩
theorem rd_isi {m n : String} {b : Bool} (ty : TyX K H v (.type n)) (k : kitB n m = some b) (h : Q (.bl b) H) : rIsi K [v, .ty m] H Q := ⟨v, .ty m, .type n, .type m, b, rfl, .ty m, ty, kit_ty k, h⟩
theorem rd_isE {D C : Addr} {b : Bool} (k : PySem.W.kitOne K (.ref D) (.ref C) = some b) (h : Q (.bl b) H) : rIsE K D a [.ref a, .ref C] H Q := ⟨.ref C, .ref C, b, rfl, fun _ r => r, k, h⟩
theorem rd_isEV {D : Addr} {b : Bool} {m : String} (k : PySem.W.kitOne K (.ref D) (.type m) = some b) (h : Q (.bl b) H) : rIsE K D a [.ref a, .ty m] H Q := ⟨.ty m, .type m, b, rfl, fun _ r => r, k, h⟩
theorem rd_ite {b : Bool} {A B : Prop} (h1 : b = true → A) (h2 : b = false → B) : if b = true then A else B := by
  cases b with
  | true => exact (if_pos rfl).mpr (h1 rfl)
  | false => exact (if_neg Bool.false_ne_true).mpr (h2 rfl)
theorem rd_dec {p A B : Prop} [Decidable p] (h1 : p → A) (h2 : ¬ p → B) : if decide p = true then A else B := by
  by_cases h : p
  · rw [decide_eq_true h]; exact (if_pos rfl).mpr (h1 h)
  · rw [decide_eq_false h]; exact (if_neg Bool.false_ne_true).mpr (h2 h)
theorem rd_ndec {p A B : Prop} [Decidable p] (h1 : ¬ p → A) (h2 : p → B) : if (!decide p) = true then A else B := by
  by_cases h : p
  · rw [decide_eq_true h]; exact (if_neg Bool.false_ne_true).mpr (h2 h)
  · rw [decide_eq_false h]; exact (if_pos rfl).mpr (h1 h)
end
end L2

namespace L2
open PySem PySem.Spec PyProof.Rows Evl
/-! ### loops and comprehensions, one step each -/
section
variable {K : PySem.W.Frag} {σ : St} {H : Hp} {D : Ends} {te : TE} {tb : TS} {tl : TA} {tx : TE} {tt c : TT} {g : TG} {Q : VK} {x : V} {a : Addr} {xs : List V} {j : Nat} {vs : List Nat}
/-- a loop over what J gives -/
def rFor (g : TG) (tb : TS) (D : Ends) (σ : St) : It → Hp → Prop := fun J H1 => ∃ W : Nat → Nat → St → Hp → Prop, (∃ m, W 0 m σ H1) ∧ ∀ i m σ H, W i m σ H →
  (J.stop i H ∧ D.nx σ H) ∨ (J.go i H ∧ ∃ N : St → Hp → Prop, (∀ σ' H', N σ' H' → ∃ m', m' < m ∧ W (i + 1) m' σ' H') ∧ ∀ x H', J.yld i H x H' → g x σ H' fun σ2 H2 => tb { D with nx := N, ct := N, bk := D.nx } σ2 H2)
def rForL (K : PySem.W.Frag) (g : TG) (tb : TS) (D : Ends) (σ : St) : V → Hp → Prop := fun x H1 => ∃ a, x = .ref a ∧ (∃ xs, SqL K H1 a xs) ∧ rFor g tb D σ (Itl K a) H1
def rForT (K : PySem.W.Frag) (g : TG) (tb : TS) (D : Ends) (σ : St) : V → Hp → Prop := fun x H1 => ∃ a, x = .ref a ∧ (∃ xs, SqT K H1 a xs) ∧ rFor g tb D σ (Itt K a) H1
def rForR1 (g : TG) (tb : TS) (D : Ends) (σ : St) : List V → Hp → Prop := fun vs H1 => ∃ j : Int, vs = [.int j] ∧ -(2 ^ 62) ≤ j ∧ j < 2 ^ 62 ∧ rFor g tb D σ (Itr 0 j.toNat) H1
def rForR2 (g : TG) (tb : TS) (D : Ends) (σ : St) : List V → Hp → Prop := fun vs H1 => ∃ i j : Int, vs = [.int i, .int j] ∧ (-(2 ^ 62) ≤ i ∧ i < 2 ^ 62 ∧ -(2 ^ 62) ≤ j ∧ j < 2 ^ 62) ∧ rFor g tb D σ (Itr i (j - i).toNat) H1
theorem rd_forL (h : tx σ H fun x H1 => rForL K g tb D σ x H1) : tFor (iList K tx) g tb D σ H := h
theorem rd_forT (h : tx σ H fun x H1 => rForT K g tb D σ x H1) : tFor (iTup K tx) g tb D σ H := h
theorem rd_forR1 (h : tl σ H fun vs H1 => rForR1 g tb D σ vs H1) : tFor (iRng1 tl) g tb D σ H := h
theorem rd_forR2 (h : tl σ H fun vs H1 => rForR2 g tb D σ vs H1) : tFor (iRng2 tl) g tb D σ H := h
section
variable {nx : St → Hp → Prop} {rt : VK} {bk ct : St → Hp → Prop}
theorem for_L (e : SqL K H a xs) (Pv : Nat → St → Hp → Prop) (h0 : Pv 0 σ H) (hl : ∀ i σ H, i ≤ xs.length → Pv i σ H → SqL K H a xs)
    (hs : ∀ i x σ H, xs[i]? = some x → Pv i σ H → tb ⟨Pv (i + 1), rt, nx, Pv (i + 1)⟩ (σ.set j (some x)) H) (hd : ∀ σ H, Pv xs.length σ H → nx σ H) : rForL K (gName j) tb ⟨nx, rt, bk, ct⟩ σ (.ref a) H :=
  ⟨a, rfl, ⟨xs, e⟩, for_list (D := ⟨nx, rt, bk, ct⟩) (g := gName j) Pv h0 hl hs hd⟩
theorem for_T (e : SqT K H a xs) (Pv : Nat → St → Hp → Prop) (h0 : Pv 0 σ H) (hl : ∀ i σ H, i ≤ xs.length → Pv i σ H → SqT K H a xs)
    (hs : ∀ i x σ H, xs[i]? = some x → Pv i σ H → tb ⟨Pv (i + 1), rt, nx, Pv (i + 1)⟩ (σ.set j (some x)) H) (hd : ∀ σ H, Pv xs.length σ H → nx σ H) : rForT K (gName j) tb ⟨nx, rt, bk, ct⟩ σ (.ref a) H :=
  ⟨a, rfl, ⟨xs, e⟩, for_tup (D := ⟨nx, rt, bk, ct⟩) (g := gName j) Pv h0 hl hs hd⟩
theorem for_R1 {n : Nat} (hn : n < 2 ^ 62) (Pv : Nat → St → Hp → Prop) (h0 : Pv 0 σ H)
    (hs : ∀ i σ H, i < n → Pv i σ H → tb ⟨Pv (i + 1), rt, nx, Pv (i + 1)⟩ (σ.set j (some (.int ((i : Nat) : Int)))) H) (hd : ∀ σ H, Pv n σ H → nx σ H) : rForR1 (gName j) tb ⟨nx, rt, bk, ct⟩ σ [.int ((n : Nat) : Int)] H :=
  ⟨(n : Int), rfl, by omega, by omega, for_range (D := ⟨nx, rt, bk, ct⟩) (lo := 0) (n := ((n : Nat) : Int).toNat) (g := gName j) Pv h0 (fun i σ H hi p => by
    have e0 : (0 : Int) + ((i : Nat) : Int) = ((i : Nat) : Int) := Int.zero_add _
    show tb ⟨Pv (i + 1), rt, nx, Pv (i + 1)⟩ (σ.set j (some (.int ((0 : Int) + ((i : Nat) : Int))))) H
    rw [e0]
    exact hs i σ H (by simpa using hi) p) (by simpa using hd)⟩
theorem for_R2 {lo n : Nat} (hn : lo + n < 2 ^ 62) (Pv : Nat → St → Hp → Prop) (h0 : Pv 0 σ H)
    (hs : ∀ i σ H, i < n → Pv i σ H → tb ⟨Pv (i + 1), rt, nx, Pv (i + 1)⟩ (σ.set j (some (.int ((lo + i : Nat) : Int)))) H) (hd : ∀ σ H, Pv n σ H → nx σ H) : rForR2 (gName j) tb ⟨nx, rt, bk, ct⟩ σ [.int ((lo : Nat) : Int), .int ((lo + n : Nat) : Int)] H := by
  have en : (((lo + n : Nat) : Int) - ((lo : Nat) : Int)).toNat = n := by omega
  refine ⟨_, _, rfl, ⟨by omega, by omega, by omega, by omega⟩, ?_⟩
  rw [en]
  refine for_range (D := ⟨nx, rt, bk, ct⟩) (lo := ((lo : Nat) : Int)) (n := n) (g := gName j) Pv h0 (fun i σ H hi p => ?_) hd
  have e0 : ((lo : Nat) : Int) + ((i : Nat) : Int) = ((lo + i : Nat) : Int) := by omega
  show tb ⟨Pv (i + 1), rt, nx, Pv (i + 1)⟩ (σ.set j (some (.int (((lo : Nat) : Int) + ((i : Nat) : Int))))) H
  rw [e0]
  exact hs i σ H hi p
/-- a while, by a word and a number that falls -/
theorem rd_while (W : Nat → St → Hp → Prop) (m0 : Nat) (h0 : W m0 σ H)
    (hs : ∀ m σ H, W m σ H → c σ H fun b H1 => if b = true then ∃ N : St → Hp → Prop, (∀ σ' H', N σ' H' → ∃ m', m' < m ∧ W m' σ' H') ∧ tb ⟨N, rt, nx, N⟩ σ H1 else nx σ H1) : tWhile c tb ⟨nx, rt, bk, ct⟩ σ H := ⟨W, ⟨m0, h0⟩, hs⟩
/-- the next turn of a while -/
theorem rd_turn {W : Nat → St → Hp → Prop} {m : Nat} (h : tb ⟨fun σ' H' => ∃ m', m' < m ∧ W m' σ' H', rt, nx, fun σ' H' => ∃ m', m' < m ∧ W m' σ' H'⟩ σ H) :
    ∃ N : St → Hp → Prop, (∀ σ' H', N σ' H' → ∃ m', m' < m ∧ W m' σ' H') ∧ tb ⟨N, rt, nx, N⟩ σ H := ⟨_, fun _ _ z => z, h⟩
end
/-- a comprehension over what J gives -/
def rLc (g : TG) (tt : TT) (te : TE) (vs : List Nat) (σ : St) (Q : VK) : It → Hp → Prop := fun J H1 => ∀ D, H1 D = none → ∃ W : Nat → Nat → Hp → Prop, (∃ m, W 0 m (upd H1 D (.lst []))) ∧ ∀ i m H, W i m H →
  (J.stop i H ∧ Q (.ref D) H) ∨ (J.go i H ∧ ∃ Nx : Hp → Prop, (∀ H', Nx H' → ∃ m', m' < m ∧ W (i + 1) m' H') ∧ ∀ x H', J.yld i H x H' → g x (wipe σ vs) H' fun σ2 H2 => wipe σ2 vs = wipe σ vs ∧ tt σ2 H2 fun b H3 =>
    if b = true then te σ2 H3 fun y H4 => ∃ acc, H4 D = some (.lst acc) ∧ acc.length < sizeLine ∧ Nx (upd H4 D (.lst (acc ++ [y]))) else Nx H3)
def rLcL (K : PySem.W.Frag) (g : TG) (tt : TT) (te : TE) (vs : List Nat) (σ : St) (Q : VK) : V → Hp → Prop := fun x H1 => ∃ a, x = .ref a ∧ (∃ xs, SqL K H1 a xs) ∧ rLc g tt te vs σ Q (Itl K a) H1
def rLcT (K : PySem.W.Frag) (g : TG) (tt : TT) (te : TE) (vs : List Nat) (σ : St) (Q : VK) : V → Hp → Prop := fun x H1 => ∃ a, x = .ref a ∧ (∃ xs, SqT K H1 a xs) ∧ rLc g tt te vs σ Q (Itt K a) H1
def rLcR1 (g : TG) (tt : TT) (te : TE) (vs : List Nat) (σ : St) (Q : VK) : List V → Hp → Prop := fun us H1 => ∃ j : Int, us = [.int j] ∧ -(2 ^ 62) ≤ j ∧ j < 2 ^ 62 ∧ rLc g tt te vs σ Q (Itr 0 j.toNat) H1
theorem rd_lcL (h : tx σ H fun x H1 => rLcL K g tt te vs σ Q x H1) : tLc (iList K tx) g tt te vs σ H Q := h
theorem rd_lcT (h : tx σ H fun x H1 => rLcT K g tt te vs σ Q x H1) : tLc (iTup K tx) g tt te vs σ H Q := h
theorem rd_lcR1 (h : tl σ H fun us H1 => rLcR1 g tt te vs σ Q us H1) : tLc (iRng1 tl) g tt te vs σ H Q := h
theorem wipe_one (σ : St) (j : Nat) (x : V) : wipe ((wipe σ [j]).set j (some x)) [j] = wipe σ [j] := by
  show ((σ.set j none).set j (some x)).set j none = σ.set j none
  rw [List.set_set, List.set_set]
theorem given_true (n : Nat) (v : Nat → V) : given n (fun _ => true) v = (List.range n).map v := by
  unfold given
  rw [List.filter_eq_self.mpr fun _ _ => rfl]
/-- each item's value told, nothing left but new things -/
theorem lc_L (e : SqL K H a xs) (hz : xs.length ≤ 40000) (ys : Nat → V) (he : ∀ (i : Nat) (x : V) H1, Ex H H1 → xs[i]? = some x → Ev te ((σ.set j none).set j (some x)) H1 (ys i))
    (k : ∀ p H1, H p = none → Ex H H1 → H1 p = some (.lst ((List.range xs.length).map ys)) → Q (.ref p) H1) : rLcL K (gName j) tYes te [j] σ Q (.ref a) H := by
  have z := el_lcL (K := K) (σ := σ) (H := H) (te := te) (t := tYes) (a := a) (xs := xs) (tl := tC (.ref a)) (j := j) (vs := [j]) (fun _ => true) ys ev_c e hz (wipe_one σ j) (fun i x H1 _ _ => fun H2 _ Q q => q H2 (Ex.refl H2)) (fun i x H1 e1 hi _ => he i x H1 e1 hi)
  refine z H (Ex.refl H) Q fun p H2 hp e2 h2 => k p H2 hp e2 ?_
  rw [given_true] at h2
  exact h2
theorem lc_R1 {n : Nat} (hz : n ≤ 40000) (ys : Nat → V) (he : ∀ (i : Nat) H1, Ex H H1 → i < n → Ev te ((σ.set j none).set j (some (.int ((i : Nat) : Int)))) H1 (ys i))
    (k : ∀ p H1, H p = none → Ex H H1 → H1 p = some (.lst ((List.range n).map ys)) → Q (.ref p) H1) : rLcR1 (gName j) tYes te [j] σ Q [.int ((n : Nat) : Int)] H := by
  have z := el_lcR1 (σ := σ) (H := H) (te := te) (t := tYes) (ta := fun _ H Q => Q [.int ((n : Nat) : Int)] H) (j := j) (vs := [j]) (n := ((n : Nat) : Int)) (fun _ => true) ys (fun H1 _ Q q => q H1 (Ex.refl H1)) ⟨by omega, by omega⟩ (wipe_one σ j) (fun i H1 _ _ => fun H2 _ Q q => q H2 (Ex.refl H2))
    (fun i H1 e1 hi _ => he i H1 e1 (by omega))
  refine z H (Ex.refl H) Q fun p H2 hp e2 h2 => k p H2 hp e2 ?_
  rw [given_true] at h2
  simpa using h2
/-- if b: n = e, both ints, told as one way -/
theorem rd_iteset {n : Nat} {x0 x1 : Int} {b : Bool} {nx : St → Hp → Prop} {rt : VK} {bk ct : St → Hp → Prop} (h1 : b = true → Ev te σ H (.int x1)) (h0 : σ[n]? = some (some (.int x0)))
    (k : ∀ H1, Ex H H1 → nx (σ.set n (some (.int (if b = true then x1 else x0)))) H1) : if b = true then tAsg te (gName n) ⟨nx, rt, bk, ct⟩ σ H else tNext ⟨nx, rt, bk, ct⟩ σ H := by
  cases b with
  | true =>
    refine iteT ?_
    refine h1 rfl H (Ex.refl H) _ fun H2 e2 => ?_
    exact k H2 e2
  | false =>
    refine iteF ?_
    have e : σ.set n (some (.int x0)) = σ := by
      apply List.ext_getElem?
      intro j
      rw [List.getElem?_set]
      split
      · rename_i q
        subst q
        split
        · exact h0.symm
        · rename_i z
          exact absurd (List.getElem?_eq_some_iff.mp h0).1 z
      · rfl
    have z := k H (Ex.refl H)
    rw [if_neg Bool.false_ne_true, e] at z
    exact z
theorem rd_chain {r r' : R2} {ta tb' tc : TE} (h : ta σ H fun x H1 => tb' σ H1 fun y H2 => r x y H2 fun z H3 => ∃ k, z = .bl k ∧ if k = true then tc σ H3 fun w H4 => r' y w H4 Q else Q (.bl false) H3) : tChain r r' ta tb' tc σ H Q := h
theorem rd_bm0 {n : String} {r : V → List V → Hp → VK → Prop} (h : tx σ H fun x H1 => tyV K n x H1 ∧ r x [] H1 Q) : tBM0 K n r tx σ H Q := h
theorem iteNT {A B : Prop} (h : B) : if (!true) = true then A else B := h
theorem iteNF {A B : Prop} (h : A) : if (!false) = true then A else B := h
def rPart : V → Hp → (Option Int → Hp → Prop) → Prop := fun x H Q => ∃ i, x = .int i ∧ Q (some i) H
theorem rd_sl {r : V → Option Int → Option Int → Hp → VK → Prop} {lo hi : TO} (h : tx σ H fun x H1 => lo σ H1 fun l H2 => hi σ H2 fun u H3 => r x l u H3 Q) : tSl r tx lo hi σ H Q := h
theorem rd_tPart {Q : Option Int → Hp → Prop} (h : tx σ H fun x H1 => rPart x H1 Q) : tPart tx σ H Q := h
theorem rd_part {i : Int} {Q : Option Int → Hp → Prop} (h : Q (some i) H) : rPart (.int i) H Q := ⟨i, rfl, h⟩
theorem rd_nopart {Q : Option Int → Hp → Prop} (h : Q none H) : tNoPart σ H Q := h
theorem rd_popAt {xs : List V} {i : Nat} {y : V} (e : H a = some (.lst xs)) (hi : i < 100000) (hx : xs[i]? = some y) (h : Q y (upd H a (.lst (xs.eraseIdx i)))) : rPopAt (.ref a) [.int ((i : Nat) : Int)] H Q := by
  refine ⟨a, xs, _, i, y, rfl, rfl, e, by omega, by omega, ?_, hx, h⟩
  have hl : i < xs.length := (List.getElem?_eq_some_iff.mp hx).1
  rw [PySem.StrLaws.seqIndex_nonneg (by omega) (by omega)]
  simp
theorem rd_pop {n : String} {r : V → List V → Hp → VK → Prop} (h : tx σ H fun x H1 => tyV K n x H1 ∧ tl σ H1 fun us H2 => r x us H2 Q) : tBM K n r tx tl σ H Q := h
end
end L2

namespace Rc
open PySem L2 Evl
/-! ### what kind of thing a value is -/
def wholeV : V → Bool
  | .int i => decide (0 ≤ i)
  | _ => false
def isI : V → Bool
  | .int _ => true
  | _ => false
/-- a value whose kind isinstance can tell: whether it is an int, no bool -/
def Knd (K : PySem.W.Frag) (H : Hp) (v : V) : Prop := ∃ n bi bb, TyX K H v (.type n) ∧ kitB n "int" = some bi ∧ kitB n "bool" = some bb ∧ (bi && !bb) = isI v
section
variable {K : PySem.W.Frag} {H : Hp} {a : Addr}
theorem knd_int (i : Int) : Knd K H (.int i) := ⟨"int", true, false, .base (.int i), by decide +kernel, by decide +kernel, rfl⟩
theorem knd_bl (b : Bool) : Knd K H (.bl b) := ⟨"bool", true, true, .base (.bl b), by decide +kernel, by decide +kernel, rfl⟩
theorem knd_non : Knd K H .non := ⟨"NoneType", false, false, .base .non, by decide +kernel, by decide +kernel, rfl⟩
theorem knd_str (x : Str) : Knd K H (.str x) := ⟨"str", false, false, .base (.str x), by decide +kernel, by decide +kernel, rfl⟩
theorem knd_lst {xs : List V} (h : H a = some (.lst xs)) : Knd K H (.ref a) := ⟨"list", false, false, .base (.lst h), by decide +kernel, by decide +kernel, rfl⟩
theorem knd_tup {xs : List V} (h : H a = some (.tup xs)) : Knd K H (.ref a) := ⟨"tuple", false, false, .base (.tup h), by decide +kernel, by decide +kernel, rfl⟩
theorem knd_dK {kvs : List (Key × V)} (h : H a = some (.dK kvs)) : Knd K H (.ref a) := ⟨"dict", false, false, .base (.dK h), by decide +kernel, by decide +kernel, rfl⟩
theorem whole_isI {v : V} (h : isI v = false) : wholeV v = false := by cases v <;> first | rfl | cases h
theorem isI_int {v : V} (h : isI v = true) : ∃ i, v = .int i := by cases v <;> first | exact ⟨_, rfl⟩ | cases h
end
theorem TyX.ex {K : PySem.W.Frag} {H H' : Hp} {v : V} {t : Value} (h : TyX K H v t) (e : Ex H H') : TyX K H' v t := by
  cases h with
  | base b =>
    cases b with
    | non => exact .base .non
    | bl b => exact .base (.bl b)
    | int i => exact .base (.int i)
    | str x => exact .base (.str x)
    | flt x => exact .base (.flt x)
    | lst h => exact .base (.lst (e _ _ h))
    | frz h => exact .base (.frz (e _ _ h))
    | tup h => exact .base (.tup (e _ _ h))
    | dK h => exact .base (.dK (e _ _ h))
    | dT h => exact .base (.dT (e _ _ h))
    | ins h c a n t m => exact .base (.ins (e _ _ h) c a n t m)
  | byt b => exact .byt b
  | set h => exact .set (e _ _ h)
  | kList h c => exact .kList h c
  | kTuple h c => exact .kTuple h c
  | kDict h c => exact .kDict h c
  | fTuple h => exact .fTuple (e _ _ h)
  | fDict h => exact .fDict (e _ _ h)
theorem Knd.ex {K : PySem.W.Frag} {H H' : Hp} {v : V} (h : Knd K H v) (e : Ex H H') : Knd K H' v := by
  obtain ⟨n, bi, bb, ty, r⟩ := h
  exact ⟨n, bi, bb, TyX.ex ty e, r⟩
/-- is_whole(thing) -/
def spWhole (K : PySem.W.Frag) : Sp := fun vs H Q _ => ∃ v, vs = [v] ∧ Knd K H v ∧ Q (.bl (wholeV v)) H
/-- _law_whole(found) -/
def spInt (K : PySem.W.Frag) : Sp := fun vs H Q _ => ∃ v, vs = [v] ∧ Knd K H v ∧ Q (.bl (isI v)) H
/-- _law_cell_at(script, k) -/
def cell (ns : List Int) (k : Nat) : Int := ns.getD k 0
def spCell (K : PySem.W.Frag) : Sp := fun vs H Q _ => ∃ a ns k, vs = [.ref a, .int ((k : Nat) : Int)] ∧ SqL K H a (ns.map V.int) ∧ Q (.int (cell ns k)) H
end Rc
/-! # RcObj: how hands, letters and mails stand in the heap -/
namespace Rc
open PySem L2 Evl
open RC (Hd Lt Wd Rg)
def kV : Option Int → V
  | none => .non
  | some x => .int x
def hf (h : Hd) : List (Str × V) :=
  [("number", .int h.num), ("awake", .bl h.awake), ("beaten", .bl h.beaten), ("crowned", .bl h.crowned), ("at", .int h.stage), ("far", .int h.far), ("came", .int h.came), ("known", kV h.known)]
def wS : Wd → Str
  | .ask => "ask"
  | .answer => "answer"
  | .crown => "crown"
def lV (l : Lt) : List V := [.int l.way, .str (wS l.word), .int l.num, .int l.stg, .int l.stp]
def mV (m : Nat × Lt) : List V := .int ((m.1 : Nat) : Int) :: lV m.2
/-- xs: tuples, of the things ls -/
inductive Tups {α : Type} (f : α → List V) (H : Hp) : List V → List α → Prop where
  | nil : Tups f H [] []
  | cons {a : Addr} {x : α} {vs : List V} {xs : List α} (h : H a = some (.tup (f x))) (t : Tups f H vs xs) : Tups f H (.ref a :: vs) (x :: xs)
section
variable {α : Type} {f : α → List V} {H H' : Hp} {vs ws : List V} {xs ys : List α}
theorem Tups.imp (t : Tups f H vs xs) (e : ∀ a ts, H a = some (.tup ts) → H' a = some (.tup ts)) : Tups f H' vs xs := by
  induction t with
  | nil => exact .nil
  | cons h _ ih => exact .cons (e _ _ h) ih
theorem Tups.ex (t : Tups f H vs xs) (e : Ex H H') : Tups f H' vs xs := t.imp fun a ts h => e a _ h
theorem Tups.len (t : Tups f H vs xs) : vs.length = xs.length := by
  induction t with
  | nil => rfl
  | cons _ _ ih => simp [ih]
theorem Tups.app (t : Tups f H vs xs) (u : Tups f H ws ys) : Tups f H (vs ++ ws) (xs ++ ys) := by
  induction t with
  | nil => exact u
  | cons h _ ih => exact .cons h ih
theorem Tups.get (t : Tups f H vs xs) : ∀ {i : Nat} {v : V}, vs[i]? = some v → ∃ a x, v = .ref a ∧ xs[i]? = some x ∧ H a = some (.tup (f x)) := by
  induction t with
  | nil => intro i v h; cases i <;> cases h
  | cons h _ ih =>
    rename_i a x vs xs _
    intro i v e
    cases i with
    | zero => exact ⟨a, x, (Option.some.inj e).symm, rfl, h⟩
    | succ i => exact ih e
theorem Tups.erase (t : Tups f H vs xs) : ∀ i : Nat, Tups f H (vs.eraseIdx i) (xs.eraseIdx i) := by
  induction t with
  | nil => intro i; exact .nil
  | cons h t ih =>
    intro i
    cases i with
    | zero => exact t
    | succ i => exact .cons h (ih i)
theorem Tups.one {a : Addr} {x : α} (h : H a = some (.tup (f x))) : Tups f H [.ref a] [x] := .cons h .nil
end
/-- two addresses of unlike objects -/
theorem ne_ti {H : Hp} {a b C dx : Addr} {ts : List V} {fs : List (Str × V)} (h : H a = some (.tup ts)) (g : H b = some (.ins C dx fs)) : a ≠ b := ne_of h g (by intro q; cases q)
theorem ne_tl {H : Hp} {a b : Addr} {ts xs : List V} (h : H a = some (.tup ts)) (g : H b = some (.lst xs)) : a ≠ b := ne_of h g (by intro q; cases q)
theorem ne_li {H : Hp} {a b C dx : Addr} {ts : List V} {fs : List (Str × V)} (h : H a = some (.lst ts)) (g : H b = some (.ins C dx fs)) : a ≠ b := ne_of h g (by intro q; cases q)
/-- all but what stands at p is kept -/
def But (p : Addr) (H H' : Hp) : Prop := ∀ b o, H b = some o → b ≠ p → H' b = some o
theorem But.refl (p : Addr) (H : Hp) : But p H H := fun _ _ h _ => h
theorem But.trans {p : Addr} {H H1 H2 : Hp} (a : But p H H1) (b : But p H1 H2) : But p H H2 := fun c o h n => b c o (a c o h n) n
theorem But.ex {p : Addr} {H H' : Hp} (e : Ex H H') : But p H H' := fun b o h _ => e b o h
theorem But.upd {p : Addr} {H : Hp} {o : HO} : But p H (upd H p o) := fun b o' h n => by rw [upd_ne n]; exact h
theorem But.new {p q : Addr} {H H' : Hp} {o : HO} (e : But p H H') (h : H' q = none) : But p H (L2.upd H' q o) := e.trans (But.ex (Ex.new h))
/-- what is fresh behind is fresh ahead -/
theorem But.free {p q : Addr} {H H' : Hp} (e : But p H H') (h : H' q = none) (n : q ≠ p) : H q = none := by
  cases z : H q with
  | none => rfl
  | some o => rw [e q o z n] at h; cases h

/-! ### slices -/
theorem cut_to (xs : List V) (k : Nat) : cutV xs none (some ((k : Nat) : Int)) = xs.take k := by
  unfold cutV
  rw [HT.sIx_nat, HT.sIx_none, List.drop_zero, Nat.sub_zero]
  rcases Nat.le_total k xs.length with h | h
  · rw [Nat.min_eq_left h]
  · rw [Nat.min_eq_right h, List.take_of_length_le (Nat.le_refl _), List.take_of_length_le h]
theorem cut_from (xs : List V) (k : Nat) : cutV xs (some ((k : Nat) : Int)) none = xs.drop k := by
  unfold cutV
  rw [HT.sIx_nat, HT.sIx_none]
  rcases Nat.le_total k xs.length with h | h
  · rw [Nat.min_eq_left h, List.take_of_length_le (by rw [List.length_drop]; omega)]
  · rw [Nat.min_eq_right h, List.drop_eq_nil_of_le h, List.drop_eq_nil_of_le (Nat.le_refl _)]
    simp
theorem cut_mid (xs : List V) (a b : Nat) : cutV xs (some ((a : Nat) : Int)) (some ((b : Nat) : Int)) = (xs.drop a).take (b - a) := by
  unfold cutV
  rw [HT.sIx_nat, HT.sIx_nat]
  rcases Nat.le_total a xs.length with h | h
  · rw [Nat.min_eq_left h]
    rcases Nat.le_total b xs.length with h2 | h2
    · rw [Nat.min_eq_left h2]
    · rw [Nat.min_eq_right h2, List.take_of_length_le (by rw [List.length_drop]; omega), List.take_of_length_le (by rw [List.length_drop]; omega)]
  · rw [Nat.min_eq_right h, List.drop_eq_nil_of_le h, List.drop_eq_nil_of_le (Nat.le_refl _)]
    simp
/-! ### lists of tuples compared as data -/
def lD (l : Lt) : List PyData := [.int l.way, .str (wS l.word), .int l.num, .int l.stg, .int l.stp]
def mD (m : Nat × Lt) : List PyData := .int ((m.1 : Nat) : Int) :: lD m.2
/-- how things are told as data: plain ones, no list in them -/
structure Dat {α : Type} (f : α → List V) (g : α → List PyData) : Prop where
  dp : ∀ (K : PySem.W.Frag) (H : Hp) (x : α), DpAll K H (f x) (g x)
  lay : ∀ x, PyData.canLayAll0 (g x) = true
  dep : ∀ x, PyData.depthAll (g x) ≤ 1
theorem wS_ok (w : Wd) : PyData.strOk (wS w) = true := by cases w <;> decide +kernel
theorem lD_ok : Dat lV lD := ⟨fun K H x => .cons (.int _) (.cons (.str _) (.cons (.int _) (.cons (.int _) (.cons (.int _) .nil)))), fun x => by
  have e := wS_ok x.word
  unfold lD
  simp only [PyData.canLayAll0, e, PyData.canLay0, Bool.and_true, Bool.true_and], fun x => by
  unfold lD
  simp [PyData.depthAll, PyData.depth]⟩
theorem mD_ok : Dat mV mD := ⟨fun K H x => .cons (.int _) (lD_ok.dp K H x.2), fun x => by
  have e := lD_ok.lay x.2
  unfold mD
  simp only [PyData.canLayAll0, e, PyData.canLay0, Bool.and_true], fun x => by
  have e := lD_ok.dep x.2
  unfold mD
  simp only [PyData.depthAll, PyData.depth]
  omega⟩
section
variable {K : PySem.W.Frag} {H : Hp} {α : Type} {f : α → List V} {g : α → List PyData} {vs : List V} {xs : List α}
theorem Tups.dp (D : Dat f g) (t : Tups f H vs xs) : DpAll K H vs (xs.map fun x => PyData.tuple (g x)) := by
  induction t with
  | nil => exact .nil
  | cons h _ ih => exact .cons (.tup (SqT.of h) (D.dp K H _)) ih
theorem dat_lay (D : Dat f g) : ∀ xs : List α, PyData.canLayAll0 (xs.map fun x => PyData.tuple (g x)) = true
  | [] => rfl
  | x :: xs => by
    show (PyData.canLay0 (.tuple (g x)) && PyData.canLayAll0 _) = true
    rw [dat_lay D xs]
    show (PyData.canLayAll0 (g x) && true) = true
    rw [D.lay x]; rfl
theorem dat_dep (D : Dat f g) : ∀ xs : List α, PyData.depthAll (xs.map fun x => PyData.tuple (g x)) ≤ 2
  | [] => by simp [PyData.depthAll]
  | x :: xs => by
    have h1 := dat_dep D xs
    have h2 := D.dep x
    show max (PyData.depth (.tuple (g x))) (PyData.depthAll _) ≤ 2
    have : PyData.depth (.tuple (g x)) = PyData.depthAll (g x) + 1 := rfl
    omega
theorem dat_shaped (D : Dat f g) (xs : List α) : SeqAt.shaped (.list (xs.map fun x => PyData.tuple (g x))) = true := by
  unfold SeqAt.shaped
  rw [Bool.and_eq_true]
  refine ⟨dat_lay D xs, decide_eq_true ?_⟩
  have := dat_dep D xs
  show PyData.depthAll _ + 1 ≤ 64
  omega
theorem dat_eqv (D : Dat f g) (xs : List α) : PyData.eqv (.list (xs.map fun x => PyData.tuple (g x))) (.list (xs.map fun x => PyData.tuple (g x))) = true := SeqAt.eqv_refl _ (dat_lay D xs)
theorem dat_empty (xs : List α) : PyData.eqv (.list (xs.map fun x => PyData.tuple (g x))) (.list []) = xs.isEmpty := by cases xs <;> rfl
variable {Q : VK} {a b : Addr} {ws : List V}
/-- a == b, a != b: the same things -/
theorem rd_eqSame (D : Dat f g) (ha : SqL K H a vs) (hb : SqL K H b ws) (t : Tups f H vs xs) (u : Tups f H ws xs) (q : Q (.bl true) H) : rEqD K (.ref a) (.ref b) H Q :=
  ⟨_, _, .lst ha (t.dp D), .lst hb (u.dp D), dat_shaped D xs, dat_shaped D xs, by rw [dat_eqv D xs]; exact q⟩
theorem rd_neSame (D : Dat f g) (ha : SqL K H a vs) (hb : SqL K H b ws) (t : Tups f H vs xs) (u : Tups f H ws xs) (q : Q (.bl false) H) : rNeD K (.ref a) (.ref b) H Q :=
  ⟨_, _, .lst ha (t.dp D), .lst hb (u.dp D), dat_shaped D xs, dat_shaped D xs, by rw [dat_eqv D xs]; exact q⟩
/-- a == [], a != [] -/
theorem rd_eqNil (D : Dat f g) (ha : SqL K H a vs) (hb : SqL K H b []) (t : Tups f H vs xs) (q : Q (.bl xs.isEmpty) H) : rEqD K (.ref a) (.ref b) H Q :=
  ⟨_, _, .lst ha (t.dp D), .lst hb .nil, dat_shaped D xs, by decide +kernel, by rw [dat_empty]; exact q⟩
theorem rd_neNil (D : Dat f g) (ha : SqL K H a vs) (hb : SqL K H b []) (t : Tups f H vs xs) (q : Q (.bl !xs.isEmpty) H) : rNeD K (.ref a) (.ref b) H Q :=
  ⟨_, _, .lst ha (t.dp D), .lst hb .nil, dat_shaped D xs, by decide +kernel, by rw [dat_empty]; exact q⟩
end
/-! ### lists of ints compared -/
theorem ints_dp {K : PySem.W.Frag} {H : Hp} : ∀ ks : List Int, DpAll K H (ks.map V.int) (ks.map PyData.int)
  | [] => .nil
  | k :: ks => .cons (.int k) (ints_dp ks)
theorem ints_lay : ∀ ks : List Int, PyData.canLayAll0 (ks.map PyData.int) = true
  | [] => rfl
  | k :: ks => by
    show (true && PyData.canLayAll0 (ks.map PyData.int)) = true
    rw [ints_lay ks]; rfl
theorem ints_dep : ∀ ks : List Int, PyData.depthAll (ks.map PyData.int) = 0
  | [] => rfl
  | k :: ks => by
    show max 0 (PyData.depthAll (ks.map PyData.int)) = 0
    rw [ints_dep ks]; rfl
theorem ints_shaped (ks : List Int) : SeqAt.shaped (.list (ks.map PyData.int)) = true := by
  unfold SeqAt.shaped
  rw [Bool.and_eq_true]
  refine ⟨ints_lay ks, decide_eq_true ?_⟩
  show PyData.depthAll _ + 1 ≤ 64
  rw [ints_dep]; decide
theorem rd_neInts {K : PySem.W.Frag} {H : Hp} {Q : VK} {a b : Addr} {ks : List Int} (ha : SqL K H a (ks.map V.int)) (hb : SqL K H b (ks.map V.int)) (q : Q (.bl false) H) : rNeD K (.ref a) (.ref b) H Q :=
  ⟨_, _, .lst ha (ints_dp ks), .lst hb (ints_dp ks), ints_shaped ks, ints_shaped ks, by rw [SeqAt.eqv_refl (.list (ks.map PyData.int)) (ints_lay ks)]; exact q⟩
/-! ### comprehensions that make tuples -/
theorem rd_yes {σ : St} {H : Hp} {A B : Hp → Prop} (h : A H) : tYes σ H fun b H3 => if b = true then A H3 else B H3 := by
  show if true = true then A H else B H
  rw [if_pos rfl]; exact h
theorem take_more {α : Type} : ∀ {l : List α} {i : Nat} {x : α}, l[i]? = some x → l.take (i + 1) = l.take i ++ [x]
  | [], i, x, h => by simp at h
  | a :: l, 0, x, h => by
    have e : a = x := Option.some.inj h
    subst e; rfl
  | a :: l, i + 1, x, h => by
    show a :: l.take (i + 1) = a :: l.take i ++ [x]
    rw [take_more (l := l) (i := i) (x := x) h]; rfl
theorem Tups.grow {α : Type} {f : α → List V} {H : Hp} {D p : Addr} {ws ws' : List V} {zs : List α} {z : α} (hD : H D = some (.lst ws')) (t : Tups f H ws zs) (hp : H p = some (.tup (f z))) (o : List V) : Tups f (upd H D (.lst o)) (ws ++ [.ref p]) (zs ++ [z]) := by
  have im : ∀ a ts, H a = some (.tup ts) → upd H D (.lst o) a = some (.tup ts) := fun a ts h => by rw [upd_ne (ne_tl h hD)]; exact h
  exact (t.imp im).app (.one (im _ _ hp))
section
variable {K : PySem.W.Frag} {σ : St} {H : Hp} {te : TE} {Q : VK} {a : Addr} {xs : List V} {j : Nat} {α : Type} {f : α → List V} {zs : List α}
theorem lc_TU (e : SqT K H a xs) (hl : xs.length = zs.length) (hz : xs.length ≤ 40000) (he : ∀ (i : Nat) (x : V) (z : α) H1, Ex H H1 → xs[i]? = some x → zs[i]? = some z → EvU te ((σ.set j none).set j (some x)) H1 (f z))
    (k : ∀ p ws H1, H p = none → Ex H H1 → H1 p = some (.lst ws) → Tups f H1 ws zs → Q (.ref p) H1) : rLcT K (gName j) tYes te [j] σ Q (.ref a) H := by
  refine ⟨a, rfl, ⟨xs, e⟩, fun D hD => ?_⟩
  refine lc_tup (K := K) (a := a) (xs := xs) (g := gName j) (tt := tYes) (Qd := fun H => Q (.ref D) H) (fun i H' => Ex H H' ∧ ∃ ws, H' D = some (.lst ws) ∧ Tups f H' ws (zs.take i)) ⟨Ex.new hD, [], upd_same, .nil⟩ (fun i H' _ z => ex_t z.1 e) ?_ ?_
  · rintro i x H' hi ⟨e1, ws, hw, tw⟩
    refine ⟨wipe_one σ j x, ?_⟩
    refine rd_yes ?_
    have hlt : i < zs.length := by rw [← hl]; exact (List.getElem?_eq_some_iff.mp hi).1
    have hzi : zs[i]? = some zs[i] := List.getElem?_eq_getElem hlt
    refine he i x zs[i] H' e1 hi hzi H' (Ex.refl H') _ fun p H2 hp e2 h2 => ?_
    have lw : ws.length ≤ 40000 := by rw [tw.len, List.length_take]; omega
    refine ⟨ws, e2 _ _ hw, sz_lt (by omega), Ex.mut (e1.trans e2) hD, ws ++ [.ref p], upd_same, ?_⟩
    rw [take_more hzi]
    exact (tw.ex e2).grow (e2 _ _ hw) h2 _
  · rintro H' ⟨e1, ws, hw, tw⟩
    rw [hl, List.take_length] at tw
    exact k D ws H' hD e1 hw tw
end
/-! ### the promises of a hand's methods -/
def spHNew (C : Addr) : Sp := fun vs H Q _ => ∃ (p dx : Addr) (k : Int), vs = [.ref p, .int k] ∧ H p = some (.ins C dx []) ∧ Q .non (upd H p (.ins C dx (hf (Hd.new k))))
/-- a question: a value of the hand -/
def spHAsk (C : Addr) (f : Hd → V) : Sp := fun vs H Q _ => ∃ (p dx : Addr) (h : Hd), vs = [.ref p] ∧ H p = some (.ins C dx (hf h)) ∧ Q (f h) H
def stageV (h : Hd) : V := if h.awake then .int h.stage else .non
/-- a deed: the letters that it sends, in a new list -/
def Sends (C p dx : Addr) (H : Hp) (h' : Hd) (ls : List Lt) (Q : VK) : Prop := ∀ (q : Addr) (xs : List V) (H' : Hp), H q = none → H' q = some (.lst xs) → Tups lV H' xs ls → H' p = some (.ins C dx (hf h')) → But p H H' → Q (.ref q) H'
def spHAsks (C : Addr) : Sp := fun vs H Q _ => ∃ (p dx : Addr) (h : Hd), vs = [.ref p] ∧ H p = some (.ins C dx (hf h)) ∧ Sends C p dx H h h.asks Q
def spHWake (C : Addr) : Sp := fun vs H Q _ => ∃ (p dx : Addr) (h : Hd), vs = [.ref p] ∧ H p = some (.ins C dx (hf h)) ∧ Sends C p dx H h.wk h.wls Q
def spHLet (C : Addr) (f : Hd → Lt → Hd × List Lt) : Sp := fun vs H Q _ => ∃ (p dx a : Addr) (h : Hd) (l : Lt), vs = [.ref p, .ref a] ∧ H p = some (.ins C dx (hf h)) ∧ H a = some (.tup (lV l)) ∧ Sends C p dx H (f h l).1 (f h l).2 Q
theorem dec_str_ne {a b : Str} (h : (a == b) = false) : decide (V.str a = V.str b) = false := decide_eq_false fun q => by
  rw [V.str.inj q] at h
  simp at h
end Rc
/-! # RcRing: how a ring stands in the heap; the promises of its methods -/
namespace Rc
open PySem L2 Evl
open RC (Hd Lt Wd Rg)
def rf (l m : Addr) (k : Nat) : List (Str × V) := [("hands", .ref l), ("post", .ref m), ("many", .int ((k : Nat) : Int))]
/-- the ring S stands at p: its hands' list at l, the mails' list at m, the hands at as; CR, CH: the classes -/
structure RingAt (CR CH : Addr) (H : Hp) (p l m : Addr) (as : List Addr) (S : Rg) : Prop where
  ob : ∃ dx, H p = some (.ins CR dx (rf l m S.many))
  hl : H l = some (.lst (as.map V.ref))
  pl : ∃ xs, H m = some (.lst xs) ∧ Tups mV H xs S.post
  nd : as.Nodup
  len : as.length = S.hands.length
  lm : l ≠ m
  pos : 0 < S.hands.length
  top : S.hands.length ≤ 64
  pla : ∀ x, x ∈ S.post → x.1 < S.hands.length
  hn : ∀ i a, as[i]? = some a → ∃ dx, H a = some (.ins CH dx (hf (S.h i)))
  np : ¬ p ∈ as
/-- all but what the ring may change is kept -/
def Keep (p m : Addr) (as : List Addr) (H H' : Hp) : Prop := ∀ b o, H b = some o → b ≠ p → b ≠ m → ¬ b ∈ as → H' b = some o
section
variable {CR CH p l m : Addr} {as : List Addr} {S : Rg} {H H' H1 H2 : Hp}
theorem Keep.refl (p m : Addr) (as : List Addr) (H : Hp) : Keep p m as H H := fun _ _ h _ _ _ => h
theorem Keep.ex (e : Ex H H') : Keep p m as H H' := fun b o h _ _ _ => e b o h
theorem Keep.trans (a : Keep p m as H H1) (b : Keep p m as H1 H2) : Keep p m as H H2 := fun c o h x y z => b c o (a c o h x y z) x y z
theorem Keep.but {a : Addr} (ha : a ∈ as) (e : But a H H') : Keep p m as H H' := fun b o h _ _ z => e b o h fun q => z (by rw [q]; exact ha)
/-- a ring stays where only new things come -/
theorem RingAt.ex (R : RingAt CR CH H p l m as S) (e : Ex H H') : RingAt CR CH H' p l m as S where
  ob := R.ob.imp fun _ h => e _ _ h
  hl := e _ _ R.hl
  pl := R.pl.imp fun _ h => ⟨e _ _ h.1, h.2.ex e⟩
  nd := R.nd
  len := R.len
  lm := R.lm
  pos := R.pos
  top := R.top
  pla := R.pla
  hn := fun i a h => (R.hn i a h).imp fun _ h => e _ _ h
  np := R.np
theorem RingAt.at_ (R : RingAt CR CH H p l m as S) {i : Nat} (hi : i < S.hands.length) : ∃ a dx, as[i]? = some a ∧ a ∈ as ∧ H a = some (.ins CH dx (hf (S.h i))) := by
  have h : as[i]? = some (as[i]'(by rw [R.len]; exact hi)) := List.getElem?_eq_getElem _
  obtain ⟨dx, e⟩ := R.hn i _ h
  exact ⟨_, dx, h, List.getElem_mem _, e⟩
/-- a list that is none of the ring's own -/
theorem RingAt.keep_l (R : RingAt CR CH H p l m as S) {a : Addr} {xs : List V} (h : H a = some (.lst xs)) (n : a ≠ m) (k : Keep p m as H H') : H' a = some (.lst xs) := by
  obtain ⟨dx, hp⟩ := R.ob
  refine k a _ h (ne_li h hp) n fun hm => ?_
  obtain ⟨i, hi⟩ := List.mem_iff_getElem?.mp hm
  obtain ⟨dy, e⟩ := R.hn i a hi
  rw [h] at e; cases e
theorem RingAt.keep_t (R : RingAt CR CH H p l m as S) {a : Addr} {xs : List V} (h : H a = some (.tup xs)) (k : Keep p m as H H') : H' a = some (.tup xs) := by
  obtain ⟨dx, hp⟩ := R.ob
  obtain ⟨ys, hm, _⟩ := R.pl
  refine k a _ h (ne_ti h hp) (ne_tl h hm) fun z => ?_
  obtain ⟨i, hi⟩ := List.mem_iff_getElem?.mp z
  obtain ⟨dy, e⟩ := R.hn i a hi
  rw [h] at e; cases e
/-- a list that is none of the ring's own is changed -/
theorem RingAt.other (R : RingAt CR CH H p l m as S) {a : Addr} {xs : List V} (ha : H a = some (.lst xs)) (nl : a ≠ l) (nm : a ≠ m) (b : But a H H') : RingAt CR CH H' p l m as S where
  ob := R.ob.imp fun _ h => b _ _ h (ne_li ha h).symm
  hl := b _ _ R.hl nl.symm
  pl := R.pl.imp fun _ h => ⟨b _ _ h.1 nm.symm, h.2.imp fun c ts hc => b _ _ hc (ne_tl hc ha)⟩
  nd := R.nd
  len := R.len
  lm := R.lm
  pos := R.pos
  top := R.top
  pla := R.pla
  hn := fun i c h => (R.hn i c h).imp fun _ h => b _ _ h (ne_li ha h).symm
  np := R.np
/-- the hand at q is another one now -/
theorem RingAt.hand (R : RingAt CR CH H p l m as S) {q : Nat} {a dx : Addr} {h' : Hd} (ha : as[q]? = some a) (b : But a H H') (e : H' a = some (.ins CH dx (hf h'))) : RingAt CR CH H' p l m as (S.setH q h') := by
  obtain ⟨dp, hp⟩ := R.ob
  obtain ⟨xs, hm, tm⟩ := R.pl
  have mem : a ∈ as := List.mem_of_getElem? ha
  obtain ⟨da, hha⟩ := R.hn q a ha
  have hq : q < S.hands.length := by rw [← R.len]; exact (List.getElem?_eq_some_iff.mp ha).1
  have ls : (S.setH q h').hands.length = S.hands.length := by unfold Rg.setH; simp
  exact {
    ob := ⟨dp, b _ _ hp fun z => R.np (by rw [z]; exact mem)⟩
    hl := b _ _ R.hl (ne_li R.hl hha)
    pl := ⟨xs, b _ _ hm (ne_li hm hha), tm.imp fun c ts hc => b _ _ hc (ne_ti hc hha)⟩
    nd := R.nd
    len := by rw [ls]; exact R.len
    lm := R.lm
    pos := by rw [ls]; exact R.pos
    top := by rw [ls]; exact R.top
    pla := by rw [ls]; exact R.pla
    hn := fun i c hc => by
      rw [RC.h_setH hq]
      by_cases z : i = q
      · rw [if_pos z]
        rw [z, ha] at hc
        rw [← Option.some.inj hc]
        exact ⟨dx, e⟩
      · rw [if_neg z]
        obtain ⟨dc, hhc⟩ := R.hn i c hc
        exact ⟨dc, b _ _ hhc fun w => z (nd_ix R.nd hc (by rw [w]; exact ha))⟩
    np := R.np }
/-- a mail more -/
theorem RingAt.post (R : RingAt CR CH H p l m as S) {xs : List V} {t : Addr} {x : Nat × Lt} (hm : H m = some (.lst xs)) (tm : Tups mV H xs S.post) (ht : H t = some (.tup (mV x))) (hx : x.1 < S.hands.length) {dx : Addr}
    (hp : H p = some (.ins CR dx (rf l m S.many))) :
    RingAt CR CH (upd (upd H m (.lst (xs ++ [.ref t]))) p (.ins CR dx (rf l m (S.many + 1)))) p l m as { S with post := S.post ++ [x], many := S.many + 1 } := by
  have nmp : m ≠ p := ne_li hm hp
  have old : ∀ b o, H b = some o → b ≠ m → b ≠ p → upd (upd H m (.lst (xs ++ [.ref t]))) p (.ins CR dx (rf l m (S.many + 1))) b = some o := fun b o h n1 n2 => by
    rw [upd_ne n2, upd_ne n1]; exact h
  exact {
    ob := ⟨dx, upd_same⟩
    hl := old _ _ R.hl R.lm (ne_li R.hl hp)
    pl := ⟨xs ++ [.ref t], by rw [upd_ne nmp]; exact upd_same, (tm.app (.one ht)).imp fun c ts hc => old _ _ hc (ne_tl hc hm) (ne_ti hc hp)⟩
    nd := R.nd
    len := R.len
    lm := R.lm
    pos := R.pos
    top := R.top
    pla := fun y hy => by
      rcases List.mem_append.mp hy with h | h
      · exact R.pla y h
      · rw [List.mem_singleton.mp h]; exact hx
    hn := fun i c hc => by
      obtain ⟨dc, e⟩ := R.hn i c hc
      exact ⟨dc, old _ _ e (fun z => by rw [z, hm] at e; cases e) fun z => R.np (by rw [← z]; exact List.mem_of_getElem? hc)⟩
    np := R.np }
theorem put_more {S : Rg} {q i : Nat} {ls : List Lt} {y : Lt} (h : ls[i]? = some y) :
    S.put q (ls.take (i + 1)) = { S.put q (ls.take i) with post := (S.put q (ls.take i)).post ++ [(RC.nxt S.hands.length q y.way, y)], many := (S.put q (ls.take i)).many + 1 } := by
  rw [take_more h]
  unfold Rg.put
  simp only [List.map_append, List.map_cons, List.map_nil, List.append_assoc, List.length_append, List.length_cons, List.length_nil]
  congr 1
theorem nxt_cast {n q : Nat} {w : Int} (h : 0 < n) : ((RC.nxt n q w : Nat) : Int) = (((q : Nat) : Int) + w) % ((n : Nat) : Int) := by
  unfold RC.nxt
  exact Int.toNat_of_nonneg (Int.emod_nonneg _ (by omega))
theorem nxt_lt {n q : Nat} {w : Int} (h : 0 < n) : RC.nxt n q w < n := by
  have e := nxt_cast (q := q) (w := w) h
  have := Int.emod_lt_of_pos (((q : Nat) : Int) + w) (show (0 : Int) < ((n : Nat) : Int) by omega)
  omega
/-- a mail taken out -/
theorem RingAt.drop (R : RingAt CR CH H p l m as S) {xs : List V} (hm : H m = some (.lst xs)) (tm : Tups mV H xs S.post) (i : Nat) : RingAt CR CH (upd H m (.lst (xs.eraseIdx i))) p l m as (S.drop i) := by
  obtain ⟨dp, hp⟩ := R.ob
  have old : ∀ b o, H b = some o → b ≠ m → upd H m (.lst (xs.eraseIdx i)) b = some o := fun b o h n1 => by
    rw [upd_ne n1]; exact h
  exact {
    ob := ⟨dp, old _ _ hp (ne_li hm hp).symm⟩
    hl := old _ _ R.hl R.lm
    pl := ⟨_, upd_same, (tm.erase i).imp fun c ts hc => old _ _ hc (ne_tl hc hm)⟩
    nd := R.nd
    len := R.len
    lm := R.lm
    pos := R.pos
    top := R.top
    pla := fun y hy => R.pla y (List.mem_of_mem_eraseIdx hy)
    hn := fun j c hc => by
      obtain ⟨dc, e⟩ := R.hn j c hc
      exact ⟨dc, old _ _ e fun z => by rw [z, hm] at e; cases e⟩
    np := R.np }
end
/-! ### len(set(xs)) of any ints -/
section
variable {X : Cx}
theorem sd_eq (l : List Int) (z : Int) : PyProof.Rows.step_dedup l z = if l.any (· == z) then l else l ++ [z] := rfl
def dcount (ns : List Int) : Nat := (PyProof.Rows.firstMet (fun i => ns.getD i 0) ns.length).length
def rLenSet (K : PySem.W.Frag) : V → Hp → VK → Prop := fun x H Q => ∃ (l : Addr) (ns : List Int), x = .ref l ∧ SqL K H l (ns.map V.int) ∧ ns.length ≤ 4000 ∧ Q (.int ((dcount ns : Nat) : Int)) H
def tLenSet (K : PySem.W.Frag) (ta : TE) : TE := fun σ H Q => ta σ H fun x H1 => rLenSet K x H1 Q
theorem rd_tLenSet {K : PySem.W.Frag} {ta : TE} {σ : St} {H : Hp} {Q : VK} (h : ta σ H fun x H1 => rLenSet K x H1 Q) : tLenSet K ta σ H Q := h
theorem rd_lenSet {K : PySem.W.Frag} {H : Hp} {Q : VK} {a : Addr} {ns : List Int} (e : SqL K H a (ns.map V.int)) (hl : ns.length ≤ 4000) (h : Q (.int ((dcount ns : Nat) : Int)) H) : rLenSet K (.ref a) H Q := ⟨a, ns, rfl, e, hl, h⟩
theorem pe_lenSet {e : Expr} {ta : TE} {p p2 q pos : Pos} (gl : Gl X "len") (nl : X.mg "len" = none) (gs : Gl X "set") (ns : X.mg "set" = none) (he : PE X e ta) (hc : X.calm = true := by rfl)
    (h1 : starEach [e] X.env = (false, eval e X.env) :: starEach [] X.env := by rfl) : PE X (.Call (.Name "len" p) [.Call (.Name "set" p2) [e] [] q] [] pos) (tLenSet X.K ta) := ⟨fun pins s σ H Q I h => by
  refine PyProof.Rows.Call_ (ld_blt I gl nl PySem.boot_len (PyProof.Rows.callWith_builtin1 (PyProof.Rows.args_cons ?_ rfl) rfl rfl))
  refine PyProof.Rows.Call_ (ld_blt I gs ns PyProof.Rows.boot_set (PyProof.Rows.callWith_type1 (PyProof.Rows.args_cons (thn (he.run pins s σ H _ I h) ?_) h1) h1 rfl))
  rintro v s1 ⟨x, H1, I1, r1, l, zs, rfl, hq, hl, q1⟩
  refine PyProof.Rows.args_nil ?_
  cases r1
  obtain ⟨its, r, pl, hz⟩ := I1.list hq
  have hlen : its.toArray.size = zs.length := by rw [List.size_toArray, ← r.length, List.length_map]
  refine PySem.call_set_list (I1.ok.hd hc) pl.isList (by simpa using RZ.intsAre_vals r) (by rw [hlen]; unfold PySem.scanBound; omega) fun h' tk hS hk => PyProof.Rows.args_nil ?_
  rw [hlen] at hS
  obtain ⟨o, es, ep, t, ho, hex, hd, _, _, _, hf, hn⟩ := hS
  have hd4 : (PyProof.Rows.firstMet (fun i => zs.getD i 0) zs.length).length ≤ 4000 := by
    have z : ∀ k, (PyProof.Rows.firstMet (fun i => zs.getD i 0) k).length ≤ k := fun k => by
      induction k with
      | zero => exact Nat.le_refl _
      | succ k ih =>
        rw [PyProof.Rows.firstMet_succ, sd_eq]
        split
        · omega
        · rw [List.length_append, List.length_singleton]; omega
    have := z zs.length
    omega
  have I2 : Inv X pins σ H1 { s1 with heap := h', toks := tk } := I1.kept fun b o e => hk b o (Heap.lt_size e) e
  exact PySem.call_len_set ho hex hd hf (by rw [hn]; omega) ⟨.int _, H1, I2.tok _, ⟨_, by rw [hn]; rfl⟩, q1⟩⟩
theorem firstMet_mem {v : Nat → Int} : ∀ {k j : Nat}, j < k → v j ∈ PyProof.Rows.firstMet v k
  | 0, j, h => by omega
  | k + 1, j, h => by
    rw [PyProof.Rows.firstMet_succ, sd_eq]
    by_cases e : j = k
    · subst e
      split
      · rename_i c
        obtain ⟨y, hy, ey⟩ := List.any_eq_true.mp c
        rw [eq_of_beq ey] at hy
        exact hy
      · exact List.mem_append.mpr (Or.inr (List.mem_singleton.mpr rfl))
    · have := firstMet_mem (v := v) (k := k) (j := j) (by omega)
      split
      · exact this
      · exact List.mem_append.mpr (Or.inl this)
theorem firstMet_le {v : Nat → Int} : ∀ k, (PyProof.Rows.firstMet v k).length ≤ k
  | 0 => Nat.le_refl _
  | k + 1 => by
    have := firstMet_le (v := v) k
    rw [PyProof.Rows.firstMet_succ, sd_eq]
    split
    · omega
    · rw [List.length_append, List.length_singleton]; omega
theorem firstMet_lt {v : Nat → Int} {j i : Nat} (hj : j < i) (e : v j = v i) : ∀ k, i < k → (PyProof.Rows.firstMet v k).length < k
  | 0, h => by omega
  | k + 1, h => by
    rw [PyProof.Rows.firstMet_succ, sd_eq]
    by_cases z : i = k
    · subst z
      have m := firstMet_mem (v := v) hj
      have c : (PyProof.Rows.firstMet v i).any (· == v i) = true := List.any_eq_true.mpr ⟨v j, m, by rw [e]; exact beq_self_eq_true _⟩
      rw [if_pos c]
      have := firstMet_le (v := v) i
      omega
    · have := firstMet_lt hj e k (by omega)
      split
      · omega
      · rw [List.length_append, List.length_singleton]; omega
theorem dcount_nodup {ns : List Int} (h : ns.Nodup) : dcount ns = ns.length := by
  unfold dcount
  rw [RZ.firstMet_nodup h ns.length (Nat.le_refl _), List.take_length]
theorem dcount_dup {ns : List Int} (h : ¬ ns.Nodup) : dcount ns < ns.length := by
  obtain ⟨j, i, hji, hi, e⟩ : ∃ j i, j < i ∧ i < ns.length ∧ ns.getD j 0 = ns.getD i 0 := by
    by_cases c : ∃ j i, j < i ∧ i < ns.length ∧ ns.getD j 0 = ns.getD i 0
    · exact c
    · refine absurd (List.pairwise_iff_getElem.mpr fun j i hj hi hl e => c ⟨j, i, hl, hi, ?_⟩) h
      rw [List.getD_eq_getElem?_getD, List.getD_eq_getElem?_getD, List.getElem?_eq_getElem hj, List.getElem?_eq_getElem hi]
      exact e
  exact firstMet_lt hji e _ hi
end
/-! ### the numbers of a law's ring -/
/-- numbers that make a ring -/
structure Nums (ks : List Int) : Prop where
  one : 1 ≤ ks.length
  most : ks.length ≤ 64
  nd : ks.Nodup
  nn : ∀ k, k ∈ ks → 0 ≤ k
def spNums (K : PySem.W.Frag) : Sp := fun vs H Q _ => ∃ (a : Addr) (ns : List Int), vs = [.ref a] ∧ SqL K H a (ns.map V.int) ∧ ∀ (H' : Hp) (p : Addr) (ks : List Int), H p = none → Ex H H' → H' p = some (.lst (ks.map V.int)) → Nums ks → Q (.ref p) H'
/-- n numbers told by a function that tells them apart -/
theorem nums_of {n : Nat} {f : Nat → Int} (h1 : 1 ≤ n) (h64 : n ≤ 64) (inj : ∀ i j, i < n → j < n → f i = f j → i = j) (nn : ∀ i, i < n → 0 ≤ f i) : Nums ((List.range n).map f) where
  one := by simpa using h1
  most := by simpa using h64
  nd := by
    rw [List.nodup_iff_pairwise_ne, List.pairwise_map]
    refine List.Pairwise.imp_of_mem (R := fun a b => a ≠ b) ?_ (List.nodup_iff_pairwise_ne.mp List.nodup_range)
    intro i j hi hj hne e
    exact hne (inj i j (List.mem_range.mp hi) (List.mem_range.mp hj) e)
  nn := fun k hk => by
    obtain ⟨i, hi, rfl⟩ := List.mem_map.mp hk
    exact nn i (List.mem_range.mp hi)
/-- (i + s) % n tells the places apart -/
theorem rot_inj {n s : Int} (hn : 0 < n) {i j : Nat} (hi : ((i : Nat) : Int) < n) (hj : ((j : Nat) : Int) < n) (e : (((i : Nat) : Int) + s) % n = (((j : Nat) : Int) + s) % n) : i = j := by
  have h1 := Int.emod_add_mul_ediv (((i : Nat) : Int) + s) n
  have h2 := Int.emod_add_mul_ediv (((j : Nat) : Int) + s) n
  rw [e] at h1
  have h3 : ((i : Nat) : Int) - ((j : Nat) : Int) = n * ((((i : Nat) : Int) + s) / n - (((j : Nat) : Int) + s) / n) := by rw [Int.mul_sub]; omega
  generalize (((i : Nat) : Int) + s) / n - (((j : Nat) : Int) + s) / n = z at h3
  have hz : z = 0 := by
    by_cases c : z = 0
    · exact c
    · exfalso
      rcases Int.lt_or_gt_of_ne c with h | h
      · have : n * z ≤ n * (-1) := Int.mul_le_mul_of_nonneg_left (by omega) (by omega)
        omega
      · have : n * 1 ≤ n * z := Int.mul_le_mul_of_nonneg_left (by omega) (by omega)
        omega
  rw [hz, Int.mul_zero] at h3
  omega
theorem mul_inj {a b t : Int} (ht : 1 ≤ t) (e : a * t = b * t) : a = b := Int.eq_of_mul_eq_mul_right (by omega) e
/-! ### the promises -/
/-- a place of a hand, a place of a mail -/
def placeOf (n : Nat) (v : V) : Option Nat := match v with
  | .int i => if 0 ≤ i ∧ i < (n : Int) then some i.toNat else none
  | _ => none
theorem placeOf_nat {n i : Nat} (h : i < n) : placeOf n (.int ((i : Nat) : Int)) = some i := by
  show (if 0 ≤ ((i : Nat) : Int) ∧ ((i : Nat) : Int) < (n : Int) then some ((i : Nat) : Int).toNat else none) = some i
  rw [if_pos ⟨by omega, by omega⟩]
  simp
theorem placeOf_some {n i : Nat} {v : V} (h : placeOf n v = some i) : v = .int ((i : Nat) : Int) ∧ i < n := by
  unfold placeOf at h
  split at h
  · rename_i k
    split at h
    · rename_i c
      have e := Option.some.inj h
      exact ⟨by rw [show ((i : Nat) : Int) = k by omega], by omega⟩
    · cases h
  · cases h
/-- is_whole(v) and v < n, told by the place -/
theorem placeOf_none {n : Nat} {v : V} (h : placeOf n v = none) (hw : wholeV v = true) : ∃ i : Int, v = .int i ∧ (n : Int) ≤ i := by
  cases v with
  | int i =>
    have h0 : (0 : Int) ≤ i := of_decide_eq_true hw
    refine ⟨i, rfl, ?_⟩
    unfold placeOf at h
    simp only at h
    split at h
    · cases h
    · omega
  | _ => cases hw
/-- what makes no ring: no list; a list too short or too long; one with a thing that is no whole number from nought on; one with a number twice -/
def BadNums (K : PySem.W.Frag) (H : Hp) (v : V) : Prop :=
  (∃ n, TyX K H v (.type n) ∧ kitB n "list" = some false) ∨
  ∃ a xs, v = .ref a ∧ H a = some (.lst xs) ∧ (¬ (1 ≤ xs.length ∧ xs.length ≤ 64) ∨ ((∀ x, x ∈ xs → Knd K H x) ∧ xs.length ≤ 64 ∧ 1 ≤ xs.length ∧ (∃ x, x ∈ xs ∧ wholeV x = false)) ∨
    ∃ ks : List Int, xs = ks.map V.int ∧ 1 ≤ xs.length ∧ ks.length ≤ 64 ∧ ¬ ks.Nodup)
theorem BadNums.ex {K : PySem.W.Frag} {H H' : Hp} {v : V} (h : BadNums K H v) (e : Ex H H') : BadNums K H' v := by
  rcases h with ⟨n, ty, k⟩ | ⟨a, xs, ev, ha, h⟩
  · exact .inl ⟨n, TyX.ex ty e, k⟩
  · refine .inr ⟨a, xs, ev, e _ _ ha, ?_⟩
    rcases h with h | ⟨h1, h2⟩ | h
    · exact .inl h
    · exact .inr (.inl ⟨fun x hx => (h1 x hx).ex e, h2⟩)
    · exact .inr (.inr h)
section
variable (K : PySem.W.Frag) (CR CH NH NM : Addr)
/-- hand(place) -/
def spRHand : Sp := fun vs H Q E => ∃ p l m as S v, vs = [.ref p, v] ∧ RingAt CR CH H p l m as S ∧ Knd K H v ∧
  ((∃ i a, placeOf S.hands.length v = some i ∧ as[i]? = some a ∧ Q (.ref a) H) ∨ (placeOf S.hands.length v = none ∧ E (.ref NH) none H))
/-- what a thing is for isinstance(thing, list) -/
def spRNew (BR : Addr) : Sp := fun vs H Q E => ∃ p dx v, vs = [.ref p, v] ∧ H p = some (.ins CR dx []) ∧
  ((∃ a ks, v = .ref a ∧ H a = some (.lst (ks.map V.int)) ∧ 1 ≤ ks.length ∧ ks.length ≤ 64 ∧ ks.Nodup ∧ (∀ k, k ∈ ks → 0 ≤ k) ∧
      ∀ H' l m as, RingAt CR CH H' p l m as (Rg.new ks) → H l = none → H m = none → (∀ a, a ∈ as → H a = none) → But p H H' → Q .non H')
    ∨ (BadNums K H v ∧ ∀ H', Ex H H' → E (.ref BR) none H'))
/-- put(place, letters) -/
def spRPut : Sp := fun vs H Q _ => ∃ p l m as S q f xs ls, vs = [.ref p, .int ((q : Nat) : Int), .ref f] ∧ RingAt CR CH H p l m as S ∧ q < S.hands.length ∧ H f = some (.lst xs) ∧ f ≠ m ∧ Tups lV H xs ls ∧ S.post.length + ls.length ≤ 90000 ∧
  ∀ H', RingAt CR CH H' p l m as (S.put q ls) → Keep p m as H H' → Q .non H'
def spRWake : Sp := fun vs H Q E => ∃ p l m as S v, vs = [.ref p, v] ∧ RingAt CR CH H p l m as S ∧ Knd K H v ∧
  ((∃ i, placeOf S.hands.length v = some i ∧ S.post.length ≤ 80000 ∧ ∀ H', RingAt CR CH H' p l m as (S.wake i) → Keep p m as H H' → Q (.bl !(S.h i).awake) H') ∨ (placeOf S.hands.length v = none ∧ E (.ref NH) none H))
def spRMails : Sp := fun vs H Q _ => ∃ p l m as S, vs = [.ref p] ∧ RingAt CR CH H p l m as S ∧ ∀ u xs, H u = none → H m = some (.lst xs) → Tups mV H xs S.post → Q (.ref u) (upd H u (.lst xs))
def spRBring : Sp := fun vs H Q E => ∃ p l m as S v, vs = [.ref p, v] ∧ RingAt CR CH H p l m as S ∧ Knd K H v ∧
  ((∃ i, placeOf S.post.length v = some i ∧ S.post.length ≤ 80000 ∧ ∀ H' t, RingAt CR CH H' p l m as (S.bring i) → Keep p m as H H' → H' t = some (.tup (mV (S.mail i))) → Q (.ref t) H') ∨ (placeOf S.post.length v = none ∧ E (.ref NM) none H))
/-- so often the first mail is brought -/
def restN (S : Rg) : Nat → Rg
  | 0 => S
  | k + 1 => (restN S k).bring 0
def spRRest : Sp := fun vs H Q _ => ∃ p l m as S k, vs = [.ref p] ∧ RingAt CR CH H p l m as S ∧ (∀ j, j < k → (restN S j).post ≠ [] ∧ (restN S j).post.length ≤ 80000) ∧ (restN S k).post = [] ∧
  ∀ H', RingAt CR CH H' p l m as (restN S k) → Keep p m as H H' → Q (.int ((k : Nat) : Int)) H'
def spRSent : Sp := fun vs H Q _ => ∃ p l m as S, vs = [.ref p] ∧ RingAt CR CH H p l m as S ∧ Q (.int ((S.many : Nat) : Int)) H
/-- a question about the hand at a place -/
def spRAsk (f : Hd → V) : Sp := fun vs H Q E => ∃ p l m as S v, vs = [.ref p, v] ∧ RingAt CR CH H p l m as S ∧ Knd K H v ∧
  ((∃ i, placeOf S.hands.length v = some i ∧ Q (f (S.h i)) H) ∨ (placeOf S.hands.length v = none ∧ E (.ref NH) none H))
end
end Rc
/-! # RcGo: a ring that goes on: what stays true of it whatever is woken and brought -/
namespace Rc
open PySem L2 Evl
open RC (Hd Lt Wd Rg)
/-- a ring as it may come to be from the numbers ks -/
structure RG (ks : List Int) (S : Rg) : Prop where
  nums : Nums ks
  inv : ∃ gs dn, RC.Inv ks.length (fun p => ks.getD p 0) S gs dn
  posted : S.post.length ≤ S.many
theorem nums_inj {ks : List Int} (h : ks.Nodup) : ∀ p q, p < ks.length → q < ks.length → ks.getD p 0 = ks.getD q 0 → p = q := fun p q hp hq e => by
  rw [List.getD_eq_getElem?_getD, List.getD_eq_getElem?_getD, List.getElem?_eq_getElem hp, List.getElem?_eq_getElem hq] at e
  exact (List.getElem_inj h).mp e
theorem RG.new {ks : List Int} (h : Nums ks) : RG ks (Rg.new ks) := ⟨h, ⟨[], _, RC.inv_new rfl fun p _ => rfl⟩, Nat.le_refl _⟩
section
variable {ks : List Int} {S S' : Rg}
theorem RG.len (R : RG ks S) : S.hands.length = ks.length := by
  obtain ⟨_, _, I⟩ := R.inv
  exact I.len
theorem RG.wake (R : RG ks S) {q : Nat} (hq : q < ks.length) : RG ks (S.wake q) := by
  obtain ⟨gs, dn, I⟩ := R.inv
  obtain ⟨gs', J⟩ := I.wake hq
  refine ⟨R.nums, ⟨_, _, J⟩, ?_⟩
  have := RC.wake_count (S := S) (q := q)
  have := R.posted
  omega
theorem RG.bring (R : RG ks S) {i : Nat} (hi : i < S.post.length) : RG ks (S.bring i) := by
  obtain ⟨gs, dn, I⟩ := R.inv
  obtain ⟨gs', dn', J⟩ := I.bring (nums_inj R.nums.nd) hi
  refine ⟨R.nums, ⟨_, _, J⟩, ?_⟩
  have := RC.bring_count (S := S) hi
  have := R.posted
  omega
theorem RG.bound (R : RG ks S) : S.many ≤ RC.bnd ks.length := by
  obtain ⟨gs, dn, I⟩ := R.inv
  exact I.bound R.nums.one R.nums.most
theorem bnd_small : ∀ n, n < 65 → RC.bnd n ≤ 10000 := by decide +kernel
theorem RG.small (R : RG ks S) : S.post.length ≤ 10000 := by
  have h1 := R.bound
  have h2 := bnd_small ks.length (by have := R.nums.most; omega)
  have h3 := R.posted
  omega
theorem RG.place (R : RG ks S) {i : Nat} (hi : i < S.post.length) : (S.mail i).1 < S.hands.length := by
  obtain ⟨gs, dn, I⟩ := R.inv
  rw [I.len]
  exact I.place hi
/-- deeds, one behind the other -/
inductive Go : Rg → Rg → Prop where
  | refl (S : Rg) : Go S S
  | wake {S S' : Rg} (g : Go S S') (q : Nat) (hq : q < S'.hands.length) : Go S (S'.wake q)
  | bring {S S' : Rg} (g : Go S S') (i : Nat) (hi : i < S'.post.length) : Go S (S'.bring i)
theorem Go.trans {S1 S2 S3 : Rg} (a : Go S1 S2) (b : Go S2 S3) : Go S1 S3 := by
  induction b with
  | refl => exact a
  | wake _ q hq ih => exact .wake ih q hq
  | bring _ i hi ih => exact .bring ih i hi
theorem Go.rg (g : Go S S') (R : RG ks S) : RG ks S' := by
  induction g with
  | refl => exact R
  | wake _ q hq ih => exact ih.wake (by rw [← ih.len]; exact hq)
  | bring _ i hi ih => exact ih.bring hi
theorem Go.up (g : Go S S') (R : RG ks S) (p : Nat) : RC.Up (S.h p) (S'.h p) := by
  induction g with
  | refl => exact RC.Up.refl _
  | wake _ q hq ih => exact ih.trans (RC.up_wake hq p)
  | bring g i hi ih => exact ih.trans (RC.up_bring ((g.rg R).place hi) p)
/-- letters sent, somebody was woken -/
theorem RG.some_awake (R : RG ks S) (h : S.many ≠ 0) : ∃ p, p < ks.length ∧ (S.h p).awake = true := by
  by_cases c : ∃ p, p < ks.length ∧ (S.h p).awake = true
  · exact c
  · exfalso
    have no : ∀ p, p < ks.length → (S.h p).awake = false := fun p hp => by
      cases e : (S.h p).awake with
      | false => rfl
      | true => exact absurd ⟨p, hp, e⟩ c
    obtain ⟨gs, dn, I⟩ := R.inv
    obtain ⟨k, hk, ho⟩ := I.pot
    rw [RC.sumTo_zero fun p hp => by unfold RC.costH; rw [no p hp]; rfl] at hk
    rcases ho with z | ⟨_, p, hp, hc⟩
    · omega
    · have := (I.slp p hp (no p hp)).2.1
      rw [this] at hc; cases hc
/-- the number at a place -/
theorem RG.num (R : RG ks S) {p : Nat} (hp : p < ks.length) : (S.h p).num = ks.getD p 0 := by
  obtain ⟨_, _, I⟩ := R.inv
  exact I.num p hp
end
/-! ### all mails brought -/
theorem rest_rg {ks : List Int} {S : Rg} (R : RG ks S) : ∀ j, (∀ i, i < j → (restN S i).post ≠ []) → RG ks (restN S j) ∧ Go S (restN S j) ∧ (restN S j).many + S.post.length = S.many + (restN S j).post.length + j
  | 0, _ => ⟨R, .refl S, rfl⟩
  | j + 1, h => by
    obtain ⟨R1, g1, e1⟩ := rest_rg R j fun i hi => h i (by omega)
    have hne := h j (by omega)
    have hlt : 0 < (restN S j).post.length := by
      cases z : (restN S j).post with
      | nil => exact absurd z hne
      | cons _ _ => simp
    have := RC.bring_count (S := restN S j) hlt
    refine ⟨R1.bring hlt, .bring g1 0 hlt, ?_⟩
    show ((restN S j).bring 0).many + _ = _ + ((restN S j).bring 0).post.length + _
    omega
/-- the first mail again and again: in the end none is left -/
theorem rest_ends {ks : List Int} {S : Rg} (R : RG ks S) : ∃ k, (∀ j, j < k → (restN S j).post ≠ []) ∧ (restN S k).post = [] := by
  -- else so many came as the bound forbids
  have key : ∀ n, (∃ k, k ≤ n ∧ (∀ j, j < k → (restN S j).post ≠ []) ∧ (restN S k).post = []) ∨ ∀ j, j ≤ n → (restN S j).post ≠ [] := by
    intro n
    induction n with
    | zero =>
      cases z : S.post with
      | nil => exact Or.inl ⟨0, Nat.le_refl _, fun j hj => by omega, z⟩
      | cons x l =>
        refine Or.inr fun j hj => ?_
        have e : j = 0 := by omega
        rw [e]
        show S.post ≠ []
        rw [z]
        exact List.cons_ne_nil _ _
    | succ n ih =>
      rcases ih with ⟨k, hk, h1, h2⟩ | ih
      · exact Or.inl ⟨k, by omega, h1, h2⟩
      · cases z : (restN S (n + 1)).post with
        | nil => exact Or.inl ⟨n + 1, Nat.le_refl _, fun j hj => ih j (by omega), z⟩
        | cons x l =>
          refine Or.inr fun j hj => ?_
          by_cases e : j = n + 1
          · rw [e, z]; exact List.cons_ne_nil _ _
          · exact ih j (by omega)
  rcases key (RC.bnd ks.length + 1 + S.post.length) with ⟨k, _, h1, h2⟩ | h
  · exact ⟨k, h1, h2⟩
  · exfalso
    obtain ⟨R1, _, e1⟩ := rest_rg R (RC.bnd ks.length + 1 + S.post.length) fun i hi => h i (by omega)
    have := R1.bound
    omega
/-- how far from the end: falls with each mail that comes -/
def far (ks : List Int) (S : Rg) : Nat := RC.bnd ks.length + S.post.length - S.many
theorem far_bring {ks : List Int} {S : Rg} (R : RG ks S) {i : Nat} (hi : i < S.post.length) : far ks (S.bring i) < far ks S := by
  have h1 := RC.bring_count (S := S) hi
  have h2 := (R.bring hi).bound
  unfold far
  omega
/-! ### what stood before the ring -/
structure Made (H0 : Hp) (r m : Addr) (as : List Addr) : Prop where
  r : H0 r = none
  m : H0 m = none
  as : ∀ a, a ∈ as → H0 a = none
theorem Made.keep {H0 H H' : Hp} {r m : Addr} {as : List Addr} (M : Made H0 r m as) (e : Ex H0 H) (k : Keep r m as H H') : Ex H0 H' := fun b o h =>
  k b o (e b o h) (ne_of_none h M.r) (ne_of_none h M.m) fun z => by rw [M.as b z] at h; cases h
/-! ### the greatest number -/
theorem max_at {ks : List Int} {x : Int} (h : x ∈ ks) : ∃ p, p < ks.length ∧ ks.getD p 0 = x := by
  obtain ⟨p, hp⟩ := List.mem_iff_getElem?.mp h
  have hl := (List.getElem?_eq_some_iff.mp hp).1
  exact ⟨p, hl, by rw [List.getD_eq_getElem?_getD, hp]; rfl⟩
theorem getD_mem {ks : List Int} {p : Nat} (h : p < ks.length) : ks.getD p 0 ∈ ks := by
  rw [List.getD_eq_getElem?_getD, List.getElem?_eq_getElem h]
  exact List.getElem_mem h
theorem RG.first_top {ks : List Int} {S : Rg} (R : RG ks S) {x : Int} (hx : x ∈ ks) (hm : ∀ y, y ∈ ks → y ≤ x) {p : Nat} (hp : p < ks.length) (hc : (S.h p).crowned = true) : ks.getD p 0 = x := by
  obtain ⟨_, _, I⟩ := R.inv
  obtain ⟨q, hq, e⟩ := max_at hx
  have h1 := I.top p hp hc q hq
  have h2 := hm _ (getD_mem hp)
  omega
theorem RG.known_top {ks : List Int} {S : Rg} (R : RG ks S) {x : Int} (hx : x ∈ ks) (hm : ∀ y, y ∈ ks → y ≤ x) {p : Nat} (hp : p < ks.length) {z : Int} (hk : (S.h p).known = some z) : z = x := by
  obtain ⟨_, _, I⟩ := R.inv
  obtain ⟨q, hq, hc, e⟩ := I.kn p hp z hk
  rw [e]
  exact R.first_top hx hm hq hc
theorem RG.first_knows {ks : List Int} {S : Rg} (R : RG ks S) {p : Nat} (hp : p < ks.length) (hc : (S.h p).crowned = true) : (S.h p).known = some (ks.getD p 0) := by
  obtain ⟨_, _, I⟩ := R.inv
  exact I.ckn p hp hc
/-- the end: no mail is under way, somebody is awake -/
theorem RG.ended {ks : List Int} {S : Rg} (R : RG ks S) (h0 : S.post = []) (ha : ∃ p, p < ks.length ∧ (S.h p).awake = true) {x : Int} (hx : x ∈ ks) (hm : ∀ y, y ∈ ks → y ≤ x) {p : Nat} (hp : p < ks.length) :
    (S.h p).awake = true ∧ (S.h p).known = some x ∧ (S.h p).crowned = decide (ks.getD p 0 = x) := by
  obtain ⟨_, _, I⟩ := R.inv
  obtain ⟨q, hq, e⟩ := max_at hx
  have ht : ∀ y, y < ks.length → ks.getD y 0 ≤ ks.getD q 0 := fun y hy => by rw [e]; exact hm _ (getD_mem hy)
  obtain ⟨h1, h2⟩ := I.ended h0 ha hq ht
  refine ⟨I.all_awake h0 ha p hp, by rw [h2 p hp, e], ?_⟩
  cases c : (S.h p).crowned with
  | true => exact (decide_eq_true (R.first_top hx hm hp c)).symm
  | false =>
    refine (decide_eq_false fun z => ?_).symm
    have : p = q := nums_inj R.nums.nd p q hp hq (by rw [z, e])
    rw [this, h1] at c; cases c
theorem ex_two {H : Hp} {x dx : Addr} {o1 o2 : HO} (nx : H x = none) (ndx : H dx = none) : Ex H (upd (upd H dx o1) x o2) := fun b o hb => by
  rw [upd_ne (ne_of_none hb nx), upd_ne (ne_of_none hb ndx)]; exact hb
theorem ex_none {H H' : Hp} {a : Addr} (e : Ex H H') (n : H' a = none) : H a = none := by
  cases h : H a with
  | none => rfl
  | some o => rw [e a o h] at n; cases n
theorem Made.new {H H1 : Hp} {r m : Addr} {as : List Addr} (nr : H r = none) (e : Ex H H1) (nm : H1 m = none) (nas : ∀ a, a ∈ as → H1 a = none) : Made H r m as := ⟨nr, ex_none e nm, fun a ha => ex_none e (nas a ha)⟩
theorem ex_but {H H1 H2 : Hp} {r : Addr} (e : Ex H H1) (nr : H r = none) (b : But r H1 H2) : Ex H H2 := fun c o h => b c o (e c o h) (ne_of_none h nr)
theorem has_max : ∀ ks : List Int, 0 < ks.length → ∃ x, x ∈ ks ∧ ∀ y, y ∈ ks → y ≤ x
  | [k], _ => ⟨k, List.mem_singleton.mpr rfl, fun y hy => by rw [List.mem_singleton.mp hy]; exact Int.le_refl _⟩
  | k :: j :: ks, _ => by
    obtain ⟨x, h1, h2⟩ := has_max (j :: ks) (by simp)
    by_cases c : k ≤ x
    · refine ⟨x, List.mem_cons_of_mem _ h1, fun y hy => ?_⟩
      rcases List.mem_cons.mp hy with rfl | hy
      · exact c
      · exact h2 y hy
    · refine ⟨k, List.mem_cons_self, fun y hy => ?_⟩
      rcases List.mem_cons.mp hy with rfl | hy
      · exact Int.le_refl _
      · have := h2 y hy
        omega
theorem if_ne_same {a : Int} {A B : Prop} (h : B) : if (!decide (a = a)) = true then A else B := by
  rw [decide_eq_true rfl]; exact h
theorem if_eq_same {a : Int} {A B : Prop} (h : A) : if decide (a = a) = true then A else B := by
  rw [decide_eq_true rfl]; exact h
theorem ex_upd {H H' : Hp} {p : Addr} {o : HO} (n : H p = none) (e : Ex H H') : Ex H (upd H' p o) := fun b o hb => by
  rw [upd_ne (ne_of_none hb n)]; exact e b o hb
/-- an if that goes on behind it either way -/
theorem if_join {b : Bool} {ts : TS} {nx : St → Hp → Prop} {rt : VK} {bk ct : St → Hp → Prop} {σ σ' : St} {H H' : Hp} (Pv : St → Hp → Prop) (h1 : b = true → ∀ nx' : St → Hp → Prop, (∀ σ H, Pv σ H → nx' σ H) → ts ⟨nx', rt, bk, ct⟩ σ H) (h2 : b = false → Pv σ' H') (hn : ∀ σ H, Pv σ H → nx σ H) : if b = true then ts ⟨nx, rt, bk, ct⟩ σ H else nx σ' H' := by
  cases b with
  | true => exact h1 rfl nx hn
  | false => exact hn _ _ (h2 rfl)
/-- what a question about a place tells -/
theorem asked_at {K : PySem.W.Frag} {CR CH NH p l m : Addr} {as : List Addr} {S : Rg} {f : Hd → V} {i : Nat} {H : Hp} {Q : VK} {E : XK} (R : RingAt CR CH H p l m as S) (hl : i < S.hands.length) (v : V) (e : f (S.h i) = v) (h : Q v H) :
    spRAsk K CR CH NH f [.ref p, .int ((i : Nat) : Int)] H Q E := ⟨p, l, m, as, S, _, rfl, R, knd_int _, .inl ⟨i, placeOf_nat hl, e ▸ h⟩⟩
/-! ### promises of the laws' own defs -/
/-- a ring that goes on stands at r -/
structure Stands (A_R A_H : Addr) (H : Hp) (r l m : Addr) (as : List Addr) (ks : List Int) (S : Rg) : Prop where
  at_ : RingAt A_R A_H H r l m as S
  rg : RG ks S
theorem Stands.ex {A_R A_H r l m : Addr} {H H' : Hp} {as : List Addr} {ks : List Int} {S : Rg} (s : Stands A_R A_H H r l m as ks S) (e : Ex H H') : Stands A_R A_H H' r l m as ks S := ⟨s.at_.ex e, s.rg⟩
/-- _law_brought(ring, cell, turn), _law_deed(ring, many, cell) -/
def spBrought (CR CH : Addr) : Sp := fun vs H Q _ => ∃ r l m as ks S c t, vs = [.ref r, .int c, .int t] ∧ Stands CR CH H r l m as ks S ∧ ∀ H' S', Stands CR CH H' r l m as ks S' → Keep r m as H H' → Go S S' → Q .non H'
/-- _law_truth(found, due) -/
def spTruth : Sp := fun vs H Q _ => ∃ a b : Bool, vs = [.bl a, .bl b] ∧ Q (.bl (decide (a = b))) H
def spDeed (CR CH : Addr) : Sp := fun vs H Q _ => ∃ r l m as ks S c, vs = [.ref r, .int ((ks.length : Nat) : Int), .int c] ∧ Stands CR CH H r l m as ks S ∧ ∀ H' S', Stands CR CH H' r l m as ks S' → Keep r m as H H' → Go S S' → Q .non H'
end Rc
/-! # RcDict: a law's own hand, kept in a dict -/
namespace Rc
open PySem L2 Evl
open RC (Hd Lt Wd Rg)
/-! ### d[k], d[k] = v, with a text for a key -/
def rDGet (x y : V) (H : Hp) (Q : VK) : Prop := ∃ a v, x = .ref a ∧ DGet H a y (some v) ∧ Q v H
def rDPut (x y v : V) (H : Hp) (R : Hp → Prop) : Prop := ∃ a H4, x = .ref a ∧ DPut H a y v H4 ∧ R H4
section
variable {td ty tv : TE} {σ : St} {H : Hp} {Q : VK} {D : Ends} {a : Addr} {kvs kvs' : List (Key × V)} {k : Str} {v : V}
theorem rd_dget (h : td σ H fun x H1 => ty σ H1 fun y H2 => rDGet x y H2 Q) : tDGet td ty σ H Q := h
theorem rd_dput (h : tv σ H fun v H1 => td σ H1 fun x H2 => ty σ H2 fun y H3 => rDPut x y v H3 fun H4 => D.nx σ H4) : sDPut td ty tv D σ H := h
theorem rd_getS (e : H a = some (.dK kvs)) (hv : valV kvs (Sum.inr k) = some v) (h : Q v H) : rDGet (.ref a) (.str k) H Q :=
  ⟨a, v, rfl, hv ▸ DGet.k (k := Sum.inr k) e, h⟩
theorem rd_putS {R : Hp → Prop} (e : H a = some (.dK kvs)) (hl : kvs.length < sizeLine) (hp : putK kvs (Sum.inr k) v = kvs') (h : R (upd H a (.dK kvs'))) : rDPut (.ref a) (.str k) v H R :=
  ⟨a, _, rfl, DPut.k (k := Sum.inr k) e hl, by rw [hp]; exact h⟩
end
/-! ### loops over a range with a step -/
section
variable {K : PySem.W.Frag} {σ : St} {H : Hp} {D : Ends} {tb : TS} {tl : TA} {g : TG} {j : Nat}
def rForR3 (g : TG) (tb : TS) (D : Ends) (σ : St) : List V → Hp → Prop := fun vs H1 => ∃ (i j c : Int) (n : Nat), vs = [.int i, .int j, .int c] ∧ RgC i j c n ∧ rFor g tb D σ (Itc i c n) H1
theorem rd_forR3 (h : tl σ H fun vs H1 => rForR3 g tb D σ vs H1) : tFor (iRng3 tl) g tb D σ H := h
section
variable {nx : St → Hp → Prop} {rt : VK} {bk ct : St → Hp → Prop}
theorem for_R3 {lo hi c : Int} {n : Nat} (hr : RgC lo hi c n) (Pv : Nat → St → Hp → Prop) (h0 : Pv 0 σ H)
    (hs : ∀ i σ H, i < n → Pv i σ H → tb ⟨Pv (i + 1), rt, nx, Pv (i + 1)⟩ (σ.set j (some (.int (lo + ((i : Nat) : Int) * c)))) H) (hd : ∀ σ H, Pv n σ H → nx σ H) : rForR3 (gName j) tb ⟨nx, rt, bk, ct⟩ σ [.int lo, .int hi, .int c] H :=
  ⟨lo, hi, c, n, rfl, hr, for_rangeC (D := ⟨nx, rt, bk, ct⟩) (g := gName j) Pv h0 hs hd⟩
end
end
/-- range(2, n - 1, 2) -/
theorem rg_two : ∀ n, n < 64 → RgC 2 (((n : Nat) : Int) - 1) 2 ((n - 2) / 2) := by
  have z : ∀ n, n < 64 → ((2 : Int) ≠ 0 ∧ (2 : Int).natAbs < 1073741824 ∧ Builtin.Range.small 2 (((n : Nat) : Int) - 1) 2 = true ∧ Builtin.Range.rangeSize 2 (((n : Nat) : Int) - 1) 2 = (((n - 2) / 2 : Nat) : Int)) := by decide +kernel
  exact z
/-- a hand in a dict, and what stands behind -/
def d7 (h : Hd) : List (Key × V) :=
  [(Sum.inr "number", .int h.num), (Sum.inr "awake", .bl h.awake), (Sum.inr "beaten", .bl h.beaten), (Sum.inr "first", .bl h.crowned), (Sum.inr "stage", .int h.stage), (Sum.inr "came", .int h.came), (Sum.inr "known", kV h.known)]
def k7 : List Key := [Sum.inr "number", Sum.inr "awake", Sum.inr "beaten", Sum.inr "first", Sum.inr "stage", Sum.inr "came", Sum.inr "known"]
def dS (h : Hd) (t : List (Key × V)) : List (Key × V) := d7 h ++ t
theorem get_num {h : Hd} {t : List (Key × V)} : valV (dS h t) (Sum.inr "number") = some (.int h.num) := rfl
theorem get_awake {h : Hd} {t : List (Key × V)} : valV (dS h t) (Sum.inr "awake") = some (.bl h.awake) := rfl
theorem get_beaten {h : Hd} {t : List (Key × V)} : valV (dS h t) (Sum.inr "beaten") = some (.bl h.beaten) := rfl
theorem get_first {h : Hd} {t : List (Key × V)} : valV (dS h t) (Sum.inr "first") = some (.bl h.crowned) := rfl
theorem get_stage {h : Hd} {t : List (Key × V)} : valV (dS h t) (Sum.inr "stage") = some (.int h.stage) := rfl
theorem get_came {h : Hd} {t : List (Key × V)} : valV (dS h t) (Sum.inr "came") = some (.int h.came) := rfl
theorem get_known {h : Hd} {t : List (Key × V)} : valV (dS h t) (Sum.inr "known") = some (kV h.known) := rfl
/-- what stands behind has other keys -/
def Off (t : List (Key × V)) : Prop := ∀ kv, kv ∈ t → kv.1 ∉ k7
theorem off_nil : Off [] := fun kv h => by cases h
theorem off_map {t : List (Key × V)} {k : Key} {v : V} (o : Off t) (hk : k ∈ k7) : t.map (fun kv => if kv.1 = k then (kv.1, v) else kv) = t := by
  have : ∀ kv, kv ∈ t → (fun kv : Key × V => if kv.1 = k then (kv.1, v) else kv) kv = id kv := fun kv h => by
    show (if kv.1 = k then (kv.1, v) else kv) = kv
    have ne : kv.1 ≠ k := fun e => o kv h (by rw [e]; exact hk)
    rw [if_neg ne]
  rw [List.map_congr_left this, List.map_id]
theorem put_of {h h' : Hd} {t : List (Key × V)} {k : Key} {v : V} (o : Off t) (hk : k ∈ k7) (ha : ((d7 h).any fun kv => decide (kv.1 = k)) = true) (e : (d7 h).map (fun kv => if kv.1 = k then (kv.1, v) else kv) = d7 h') : putK (dS h t) k v = dS h' t := by
  unfold putK dS
  rw [List.any_append, ha, Bool.true_or, if_pos rfl, List.map_append, e, off_map o hk]
section
variable {h : Hd} {t : List (Key × V)}
theorem put_awake {b : Bool} (o : Off t) : putK (dS h t) (Sum.inr "awake") (.bl b) = dS { h with awake := b } t := put_of o (by simp [k7]) rfl rfl
theorem put_beaten {b : Bool} (o : Off t) : putK (dS h t) (Sum.inr "beaten") (.bl b) = dS { h with beaten := b } t := put_of o (by simp [k7]) rfl rfl
theorem put_first {b : Bool} (o : Off t) : putK (dS h t) (Sum.inr "first") (.bl b) = dS { h with crowned := b } t := put_of o (by simp [k7]) rfl rfl
theorem put_stage {i : Int} (o : Off t) : putK (dS h t) (Sum.inr "stage") (.int i) = dS { h with stage := i } t := put_of o (by simp [k7]) rfl rfl
theorem put_came {i : Int} (o : Off t) : putK (dS h t) (Sum.inr "came") (.int i) = dS { h with came := i } t := put_of o (by simp [k7]) rfl rfl
theorem put_known {x : Option Int} (o : Off t) : putK (dS h t) (Sum.inr "known") (kV x) = dS { h with known := x } t := put_of o (by simp [k7]) rfl rfl
theorem dS_len : (dS h t).length = 7 + t.length := by unfold dS; rw [List.length_append]; rfl
end
/-! ### promises of the law's own hand -/
/-- so far an ask goes -/
def Far (h : Hd) : Prop := ∃ s : Nat, h.stage = ((s : Nat) : Int) ∧ s ≤ 100 ∧ h.far = ((2 ^ s : Nat) : Int)
def spStart : Sp := fun vs H Q _ => ∃ n : Int, vs = [.int n] ∧ ∀ d, H d = none → Q (.ref d) (upd H d (.dK (dS (Hd.new n) [])))
def spLAsks : Sp := fun vs H Q _ => ∃ (d : Addr) (h : Hd) (t : List (Key × V)), vs = [.ref d] ∧ H d = some (.dK (dS h t)) ∧ Far h ∧ ∀ q xs H', H q = none → Ex H H' → H' q = some (.lst xs) → Tups lV H' xs h.asks → Q (.ref q) H'
def spLWoken : Sp := fun vs H Q _ => ∃ (d : Addr) (h : Hd) (t : List (Key × V)), vs = [.ref d] ∧ H d = some (.dK (dS h t)) ∧ Off t ∧ t.length ≤ 100 ∧ Far h ∧
  ∀ q xs H', H q = none → But d H H' → H' d = some (.dK (dS h.wk t)) → H' q = some (.lst xs) → Tups lV H' xs h.wls → Q (.ref q) H'
end Rc
/-! # RcHouse: the law's own ring, kept in a dict -/
namespace L2
open PySem PySem.Spec PyProof.Rows
/-! ### xs[::k], k one or minus one -/
def rSlK (K : PySem.W.Frag) (x : V) (k : Int) (H : Hp) (Q : VK) : Prop := ∃ a xs, x = .ref a ∧ (k = 1 ∨ k = -1) ∧ SqL K H a xs ∧ ∀ p, H p = none → Q (.ref p) (upd H p (.lst (if k = 1 then xs else xs.reverse)))
def tSlS (K : PySem.W.Frag) (te ts : TE) : TE := fun σ H Q => te σ H fun x H1 => ts σ H1 fun y H2 => ∃ k, y = .int k ∧ rSlK K x k H2 Q
theorem pe_slS {X : Cx} {e es : Expr} {te ts : TE} {p3 pos : Pos} (he : PE X e te) (hs : PE X es ts) : PE X (.Subscript e (.Slice none none (some es) p3) pos) (tSlS X.K te ts) := by
  constructor
  intro pins s σ H Q I h
  apply Subscript_
  refine thn (he.run pins s σ H _ I h) ?_
  rintro v s1 ⟨x, H1, I1, rx, qx⟩
  -- both ends are left out
  apply wpAny_Slice
  rw [evalPart_none]
  apply wpAny_pure
  apply wpAny_pure
  -- the step
  refine thn ((po_some hs).run pins s1 σ H1 (fun o H2 => match o with | some k => rSlK X.K x k H2 Q | none => False) I1 qx) ?_
  rintro w s2 ⟨o, H2, I2, part, z⟩
  cases o with
  | none => exact z.elim
  | some k =>
    obtain ⟨a, xs, rfl, hk, hx, q⟩ : rSlK X.K x k H2 Q := z
    cases rx
    -- the slice stands in the heap, then the list is read
    have J : Inv X pins σ H2 { s2 with heap := s2.heap.push { cls := .type "slice", data := .fields #[.none, .none, w] } } := I2.kept (t' := s2.toks) fun _ _ g => Heap.get?_push_of_some _ g
    obtain ⟨us, ru, pu, size⟩ := J.list hx
    have len : us.length ≤ sizeLine := by rw [← ru.length]; exact size
    have q' := q _ (J.hok.fresh (Nat.le_refl _))
    refine tail_any (ops := [.ref a, .ref s2.heap.objs.size]) pu.isList.typeIs PySem.slot_list_getitem.lookup ?_ (by with_unfolding_all rfl)
    refine wpAny_getItem_list_slice pu.isList (Heap.IsSliceOf.new _ .none .none w) .none .none part (by rcases hk with e | e <;> rw [e] <;> decide) ?_ (by simpa using len)
    rcases hk with rfl | rfl
    · rw [if_pos rfl] at q'
      rw [show slicePick us.toArray none none (some 1) = us.toArray from slicePick_all us.toArray]
      exact ⟨.ref _, _, J.laid (t' := s2.toks) (o := .lst xs) (fun _ _ g => Heap.get?_push_of_some _ g) (Nat.le_refl _) ⟨size, us, 0, ru, Heap.get?_push_size _ rfl⟩, rfl, q'⟩
    · rw [if_neg (by decide)] at q'
      rw [PySem.W.krv_pick]
      exact ⟨.ref _, _, J.laid (t' := s2.toks) (o := .lst xs.reverse) (fun _ _ g => Heap.get?_push_of_some _ g) (Nat.le_refl _) ⟨by simpa using size, us.reverse, 0, ru.reverse, Heap.get?_push_size _ rfl⟩, rfl, q'⟩
end L2
namespace Rc
open PySem L2 Evl
open RC (Hd Lt Wd Rg)
/-! ### steps -/
theorem rd_slS {K : PySem.W.Frag} {te ts : TE} {σ : St} {H : Hp} {Q : VK} (h : te σ H fun x H1 => ts σ H1 fun y H2 => ∃ k, y = .int k ∧ rSlK K x k H2 Q) : tSlS K te ts σ H Q := h
def rLstRg (i j : Int) (H : Hp) (Q : VK) : Prop := RgOk i j ∧ ∀ q, H q = none → Q (.ref q) (upd H q (.lst (rgV i j)))
theorem rd_lstRg {te : TE} {σ : St} {H : Hp} {Q : VK} (h : te σ H fun x H1 => ∃ n, x = .int n ∧ rLstRg 0 n H1 Q) : tLstRg (tRg1 te) σ H Q := h
theorem rgV_nat (n : Nat) : rgV 0 ((n : Nat) : Int) = (List.range n).map fun i => V.int ((i : Nat) : Int) := by
  unfold rgV
  rw [Int.sub_zero, Int.toNat_natCast]
  exact List.map_congr_left fun i _ => by rw [Int.zero_add]
section
variable {K : PySem.W.Frag} {σ : St} {H : Hp} {D : Ends} {tb : TS} {tl : TA} {g : TG} {a : Addr} {xs : List V}
def rForE (K : PySem.W.Frag) (g : TG) (tb : TS) (D : Ends) (σ : St) : List V → Hp → Prop := fun vs H1 => ∃ a xs, vs = [.ref a] ∧ SqL K H1 a xs ∧ rFor g tb D σ (Ite K a) H1
theorem rd_forE (h : tl σ H fun vs H1 => rForE K g tb D σ vs H1) : tFor (iEnum K tl) g tb D σ H := h
variable {nx : St → Hp → Prop} {rt : VK} {bk ct : St → Hp → Prop}
theorem for_E (e : SqL K H a xs) (Pv : Nat → St → Hp → Prop) (h0 : Pv 0 σ H) (hl : ∀ i σ H, i ≤ xs.length → Pv i σ H → SqL K H a xs)
    (hs : ∀ i x σ H t, xs[i]? = some x → Pv i σ H → H t = none → g (.ref t) σ (upd H t (.tup [.int ((i : Nat) : Int), x])) fun σ2 H2 => tb ⟨Pv (i + 1), rt, nx, Pv (i + 1)⟩ σ2 H2) (hd : ∀ σ H, Pv xs.length σ H → nx σ H) :
    rForE K g tb ⟨nx, rt, bk, ct⟩ σ [.ref a] H := by
  refine ⟨a, xs, rfl, e, fun i m σ H => m = xs.length - i ∧ i ≤ xs.length ∧ Pv i σ H, ⟨xs.length, by simp, Nat.zero_le _, h0⟩, ?_⟩
  rintro i m σ H ⟨rfl, hi, p⟩
  have q := hl i σ H hi p
  by_cases hlt : i < xs.length
  · refine .inr ⟨⟨xs, xs[i], q, by simp [hlt]⟩, Pv (i + 1), fun σ' H' p' => ⟨xs.length - (i + 1), by omega, rfl, hlt, p'⟩, fun v H' y => ?_⟩
    obtain ⟨t, x, rfl, ht, rfl, y⟩ := y
    exact hs i x σ H t (y xs q) p ht
  · have e : i = xs.length := by omega
    subst e
    exact .inl ⟨⟨xs, q, Nat.le_refl _⟩, hd σ H p⟩
end
/-! ### letters of a ring, as the law's own hand takes them -/
def FairR (h : Hd) (l : Lt) : Prop := (l.word = .ask → 1 ≤ l.stp) ∧ (l.word = .answer → l.num = h.num → l.stg = h.stage ∧ (h.came ≤ 1 ∨ h.beaten = true))
section
variable {ks : List Int} {S : Rg}
theorem RG.far_ (R : RG ks S) {p : Nat} (hp : p < ks.length) : Far (S.h p) ∧ (S.h p).stage ≤ 50 := by
  obtain ⟨gs, dn, I⟩ := R.inv
  obtain ⟨s, h1, h2, h3⟩ := I.stg p hp
  have s7 : s ≤ 7 := by
    rcases h3 with h3 | ⟨h3, _⟩
    · omega
    · by_cases c : s ≤ 7
      · exact c
      · exfalso
        have : 2 ^ 7 ≤ 2 ^ (s - 1) := Nat.pow_le_pow_right (by decide) (by omega)
        have := R.nums.most
        have : (2 : Nat) ^ 7 = 128 := rfl
        omega
  exact ⟨⟨s, h1, by omega, h2⟩, by omega⟩
theorem RG.fair (R : RG ks S) {i : Nat} (hi : i < S.post.length) : FairR (S.h (S.mail i).1) (S.mail i).2 := by
  have hq := R.place hi
  rw [R.len] at hq
  obtain ⟨gs, dn, I⟩ := R.inv
  have lg : i < gs.length := by have := hi; rw [I.post, List.length_map] at this; exact this
  have em : S.mail i = gs[i].mail ks.length fun p => ks.getD p 0 := by
    unfold Rg.mail
    rw [I.post, List.getD_eq_getElem?_getD, List.getElem?_map, List.getElem?_eq_getElem lg]
    rfl
  have g := I.good gs[i] (List.getElem_mem lg)
  have hnum := I.num _ hq
  have hcame := I.came _ hq
  have hndn := I.ndn _ hq
  rw [em] at hq hnum hcame hndn ⊢
  generalize gs[i] = t at g hq hnum hcame hndn ⊢
  obtain ⟨k, p, w, s, d⟩ := t
  cases k with
  | ask =>
    obtain ⟨_, _, _, _, h5, _⟩ := g
    refine ⟨fun _ => ?_, fun z => (by cases z)⟩
    show (1 : Int) ≤ ((2 ^ s : Nat) : Int) - ((d : Nat) : Int) + 1
    have h5' : d ≤ 2 ^ s := h5
    generalize 2 ^ s = z at h5' ⊢
    omega
  | answer =>
    obtain ⟨h1, _, h3, _⟩ := g
    refine ⟨fun z => (by cases z), fun _ e => ?_⟩
    have e' : ks.getD p 0 = (S.h (RC.pt ks.length w p d)).num := e
    have hnum' : (S.h (RC.pt ks.length w p d)).num = ks.getD (RC.pt ks.length w p d) 0 := hnum
    have ep : p = RC.pt ks.length w p d := nums_inj R.nums.nd _ _ h1 hq (e'.trans hnum')
    refine ⟨?_, ?_⟩
    · show ((s : Nat) : Int) = (S.h (RC.pt ks.length w p d)).stage
      rw [← ep]; exact h3.symm
    · cases hb : (S.h (RC.pt ks.length w p d)).beaten with
      | true => exact .inr hb
      | false =>
        left
        have hcame' : (S.h (RC.pt ks.length w p d)).came = RC.b2i (dn (RC.pt ks.length w p d) true) + RC.b2i (dn (RC.pt ks.length w p d) false) := hcame
        have hndn' : ¬ (dn (RC.pt ks.length w p d) true = true ∧ dn (RC.pt ks.length w p d) false = true) := hndn hb
        show (S.h (RC.pt ks.length w p d)).came ≤ 1
        rw [hcame']
        cases c1 : dn (RC.pt ks.length w p d) true <;> cases c2 : dn (RC.pt ks.length w p d) false
        · decide
        · decide
        · decide
        · exact absurd ⟨c1, c2⟩ hndn'
  | crown => exact ⟨fun z => (by cases z), fun z => (by cases z)⟩
end
/-! ### the house: a ring in a dict -/
def hD (hl ml : Addr) (k : Nat) : List (Key × V) := [(Sum.inr "hands", .ref hl), (Sum.inr "mails", .ref ml), (Sum.inr "sent", .int ((k : Nat) : Int))]
theorem get_hands {hl ml : Addr} {k : Nat} : valV (hD hl ml k) (Sum.inr "hands") = some (.ref hl) := rfl
theorem get_mails {hl ml : Addr} {k : Nat} : valV (hD hl ml k) (Sum.inr "mails") = some (.ref ml) := rfl
theorem get_sent {hl ml : Addr} {k : Nat} : valV (hD hl ml k) (Sum.inr "sent") = some (.int ((k : Nat) : Int)) := rfl
theorem put_sent {hl ml : Addr} {k : Nat} : putK (hD hl ml k) (Sum.inr "sent") (.int (((k : Nat) : Int) + 1)) = hD hl ml (k + 1) := rfl
theorem hD_len {hl ml : Addr} {k : Nat} : (hD hl ml k).length < sizeLine := by rw [sizeLine_eq]; exact Nat.lt_of_le_of_lt (m := 3) (Nat.le_of_ble_eq_true rfl) (by decide)
structure HouseAt (H : Hp) (D hl ml : Addr) (ds : List Addr) (S : Rg) : Prop where
  ob : H D = some (.dK (hD hl ml S.many))
  hs : H hl = some (.lst (ds.map V.ref))
  pl : ∃ xs, H ml = some (.lst xs) ∧ Tups mV H xs S.post
  nd : ds.Nodup
  len : ds.length = S.hands.length
  lm : hl ≠ ml
  hn : ∀ i a, ds[i]? = some a → H a = some (.dK (dS (S.h i) []))
  np : ¬ D ∈ ds
section
variable {D hl ml : Addr} {ds : List Addr} {S : Rg} {H H' H1 H2 : Hp}
theorem HouseAt.ex (W : HouseAt H D hl ml ds S) (e : Ex H H') : HouseAt H' D hl ml ds S where
  ob := e _ _ W.ob
  hs := e _ _ W.hs
  pl := W.pl.imp fun _ h => ⟨e _ _ h.1, h.2.ex e⟩
  nd := W.nd
  len := W.len
  lm := W.lm
  hn := fun i a h => e _ _ (W.hn i a h)
  np := W.np
theorem HouseAt.at_ (W : HouseAt H D hl ml ds S) {i : Nat} (hi : i < S.hands.length) : ∃ a, ds[i]? = some a ∧ a ∈ ds ∧ H a = some (.dK (dS (S.h i) [])) := by
  have h : ds[i]? = some (ds[i]'(by rw [W.len]; exact hi)) := List.getElem?_eq_getElem _
  exact ⟨_, h, List.getElem_mem _, W.hn i _ h⟩
theorem HouseAt.mem (W : HouseAt H D hl ml ds S) {a : Addr} (h : a ∈ ds) : ∃ i, H a = some (.dK (dS (S.h i) [])) := by
  obtain ⟨i, hi⟩ := List.mem_iff_getElem?.mp h
  exact ⟨i, W.hn i a hi⟩
/-- what is no dict and not the mails' list stays -/
theorem HouseAt.off (W : HouseAt H D hl ml ds S) {a : Addr} {o : HO} (h : H a = some o) (no : ∀ kvs, o ≠ .dK kvs) (n : a ≠ ml) (k : Keep D ml ds H H') : H' a = some o :=
  k a o h (ne_of h W.ob (no _)) n fun z => by
    obtain ⟨i, e⟩ := W.mem z
    rw [h] at e
    exact no _ (Option.some.inj e)
theorem HouseAt.keep_t (W : HouseAt H D hl ml ds S) {a : Addr} {xs : List V} (h : H a = some (.tup xs)) (k : Keep D ml ds H H') : H' a = some (.tup xs) := by
  obtain ⟨ys, hm, _⟩ := W.pl
  exact W.off h (fun _ z => by cases z) (ne_tl h hm) k
theorem HouseAt.keep_l (W : HouseAt H D hl ml ds S) {a : Addr} {xs : List V} (h : H a = some (.lst xs)) (n : a ≠ ml) (k : Keep D ml ds H H') : H' a = some (.lst xs) := W.off h (fun _ z => by cases z) n k
/-- a list that is none of the house's own is changed -/
theorem HouseAt.other (W : HouseAt H D hl ml ds S) {a : Addr} {xs : List V} (ha : H a = some (.lst xs)) (nl : a ≠ hl) (nm : a ≠ ml) (b : But a H H') : HouseAt H' D hl ml ds S where
  ob := b _ _ W.ob (ne_of W.ob ha (by intro z; cases z))
  hs := b _ _ W.hs nl.symm
  pl := W.pl.imp fun _ h => ⟨b _ _ h.1 nm.symm, h.2.imp fun c ts hc => b _ _ hc (ne_tl hc ha)⟩
  nd := W.nd
  len := W.len
  lm := W.lm
  hn := fun i c h => b _ _ (W.hn i c h) (ne_of (W.hn i c h) ha (by intro z; cases z))
  np := W.np
theorem HouseAt.hand (W : HouseAt H D hl ml ds S) {q : Nat} {a : Addr} {h' : Hd} (ha : ds[q]? = some a) (b : But a H H') (e : H' a = some (.dK (dS h' []))) : HouseAt H' D hl ml ds (S.setH q h') := by
  obtain ⟨xs, hm, tm⟩ := W.pl
  have mem : a ∈ ds := List.mem_of_getElem? ha
  have hha := W.hn q a ha
  have hq : q < S.hands.length := by rw [← W.len]; exact (List.getElem?_eq_some_iff.mp ha).1
  have ls : (S.setH q h').hands.length = S.hands.length := by unfold Rg.setH; simp
  exact {
    ob := b _ _ W.ob fun z => W.np (by rw [z]; exact mem)
    hs := b _ _ W.hs (ne_of W.hs hha (by intro z; cases z))
    pl := ⟨xs, b _ _ hm (ne_of hm hha (by intro z; cases z)), tm.imp fun c ts hc => b _ _ hc (ne_of hc hha (by intro z; cases z))⟩
    nd := W.nd
    len := by rw [ls]; exact W.len
    lm := W.lm
    hn := fun i c hc => by
      rw [RC.h_setH hq]
      by_cases z : i = q
      · rw [if_pos z]
        rw [z, ha] at hc
        rw [← Option.some.inj hc]
        exact e
      · rw [if_neg z]
        exact b _ _ (W.hn i c hc) fun w => z (nd_ix W.nd hc (by rw [w]; exact ha))
    np := W.np }
theorem HouseAt.post (W : HouseAt H D hl ml ds S) {xs : List V} {t : Addr} {x : Nat × Lt} (hm : H ml = some (.lst xs)) (tm : Tups mV H xs S.post) (ht : H t = some (.tup (mV x))) :
    HouseAt (upd (upd H ml (.lst (xs ++ [.ref t]))) D (.dK (hD hl ml (S.many + 1)))) D hl ml ds { S with post := S.post ++ [x], many := S.many + 1 } := by
  have nmD : ml ≠ D := ne_of hm W.ob (by intro z; cases z)
  have old : ∀ b o, H b = some o → b ≠ ml → b ≠ D → upd (upd H ml (.lst (xs ++ [.ref t]))) D (.dK (hD hl ml (S.many + 1))) b = some o := fun b o h n1 n2 => by
    rw [upd_ne n2, upd_ne n1]; exact h
  exact {
    ob := upd_same
    hs := old _ _ W.hs W.lm (ne_of W.hs W.ob (by intro z; cases z))
    pl := ⟨xs ++ [.ref t], by rw [upd_ne nmD]; exact upd_same, (tm.app (.one ht)).imp fun c ts hc => old _ _ hc (ne_tl hc hm) (ne_of hc W.ob (by intro z; cases z))⟩
    nd := W.nd
    len := W.len
    lm := W.lm
    hn := fun i c hc => by
      have e := W.hn i c hc
      exact old _ _ e (ne_of e hm (by intro z; cases z)) fun z => W.np (by rw [← z]; exact List.mem_of_getElem? hc)
    np := W.np }
theorem HouseAt.drop (W : HouseAt H D hl ml ds S) {xs : List V} (hm : H ml = some (.lst xs)) (tm : Tups mV H xs S.post) (i : Nat) : HouseAt (upd H ml (.lst (xs.eraseIdx i))) D hl ml ds (S.drop i) := by
  have old : ∀ b o, H b = some o → b ≠ ml → upd H ml (.lst (xs.eraseIdx i)) b = some o := fun b o h n1 => by
    rw [upd_ne n1]; exact h
  exact {
    ob := old _ _ W.ob (ne_of W.ob hm (by intro z; cases z))
    hs := old _ _ W.hs W.lm
    pl := ⟨_, upd_same, (tm.erase i).imp fun c ts hc => old _ _ hc (ne_tl hc hm)⟩
    nd := W.nd
    len := W.len
    lm := W.lm
    hn := fun j c hc => old _ _ (W.hn j c hc) (ne_of (W.hn j c hc) hm (by intro z; cases z))
    np := W.np }
/-! ### the ring beside the house -/
variable {CR CH p l m : Addr} {as : List Addr} {S' : Rg}
theorem RingAt.mem (R : RingAt CR CH H p l m as S) {a : Addr} (h : a ∈ as) : ∃ dx i, H a = some (.ins CH dx (hf (S.h i))) := by
  obtain ⟨i, hi⟩ := List.mem_iff_getElem?.mp h
  obtain ⟨dx, e⟩ := R.hn i a hi
  exact ⟨dx, i, e⟩
theorem RingAt.off (R : RingAt CR CH H p l m as S) {a : Addr} {o : HO} (h : H a = some o) (no : ∀ C dx fs, o ≠ .ins C dx fs) (n : a ≠ m) (k : Keep p m as H H') : H' a = some o := by
  obtain ⟨dx, hp⟩ := R.ob
  refine k a o h (ne_of h hp (no _ _ _)) n fun z => ?_
  obtain ⟨dy, i, e⟩ := R.mem z
  rw [h] at e
  exact no _ _ _ (Option.some.inj e)
theorem HouseAt.ring (W : HouseAt H D hl ml ds S') (R : RingAt CR CH H p l m as S) (nl : hl ≠ m) (nm : ml ≠ m) (k : Keep p m as H H') : HouseAt H' D hl ml ds S' where
  ob := by
    obtain ⟨ys, hm, _⟩ := R.pl
    exact R.off W.ob (fun _ _ _ z => by cases z) (ne_of W.ob hm (by intro z; cases z)) k
  hs := R.off W.hs (fun _ _ _ z => by cases z) nl k
  pl := W.pl.imp fun _ h => ⟨R.off h.1 (fun _ _ _ z => by cases z) nm k, h.2.imp fun c ts hc => R.keep_t hc k⟩
  nd := W.nd
  len := W.len
  lm := W.lm
  hn := fun i a h => by
    obtain ⟨ys, hm, _⟩ := R.pl
    exact R.off (W.hn i a h) (fun _ _ _ z => by cases z) (ne_of (W.hn i a h) hm (by intro z; cases z)) k
  np := W.np
theorem RingAt.house (R : RingAt CR CH H p l m as S) (W : HouseAt H D hl ml ds S') (nl : l ≠ ml) (nm : m ≠ ml) (k : Keep D ml ds H H') : RingAt CR CH H' p l m as S where
  ob := R.ob.imp fun _ h => by
    obtain ⟨ys, hm, _⟩ := W.pl
    exact W.off h (fun _ z => by cases z) (ne_of h hm (by intro z; cases z)) k
  hl := W.off R.hl (fun _ z => by cases z) nl k
  pl := R.pl.imp fun _ h => ⟨W.off h.1 (fun _ z => by cases z) nm k, h.2.imp fun c ts hc => W.keep_t hc k⟩
  nd := R.nd
  len := R.len
  lm := R.lm
  pos := R.pos
  top := R.top
  pla := R.pla
  hn := fun i a h => (R.hn i a h).imp fun _ h => by
    obtain ⟨ys, hm, _⟩ := W.pl
    exact W.off h (fun _ z => by cases z) (ne_of h hm (by intro z; cases z)) k
  np := R.np
end
end Rc
namespace Rc
open PySem L2 Evl
open RC (Hd Lt Wd Rg)

def top (i : Nat) : Stmt := PySem.Challenge.pw_ringcrown_k05_every_history.main.body.getD i (.Pass ⟨0, 0, 0, 0⟩)
abbrev s_Hand___init__ : Stmt := inClass (top 8) 0
abbrev s_Hand_is_awake : Stmt := inClass (top 8) 1
abbrev s_Hand_is_first : Stmt := inClass (top 8) 2
abbrev s_Hand_stage : Stmt := inClass (top 8) 3
abbrev s_Hand_knows : Stmt := inClass (top 8) 4
abbrev s_Hand_asks : Stmt := inClass (top 8) 5
abbrev s_Hand_wake : Stmt := inClass (top 8) 6
abbrev s_Hand_take : Stmt := inClass (top 8) 7
abbrev s_Hand_asked : Stmt := inClass (top 8) 8
abbrev s_Hand_answered : Stmt := inClass (top 8) 9
abbrev s_Hand_told : Stmt := inClass (top 8) 10
abbrev s_is_whole : Stmt := top 11
abbrev s_Ring___init__ : Stmt := inClass (top 12) 0
abbrev s_Ring_hand : Stmt := inClass (top 12) 1
abbrev s_Ring_put : Stmt := inClass (top 12) 2
abbrev s_Ring_wake : Stmt := inClass (top 12) 3
abbrev s_Ring_mails : Stmt := inClass (top 12) 4
abbrev s_Ring_bring : Stmt := inClass (top 12) 5
abbrev s_Ring_rest : Stmt := inClass (top 12) 6
abbrev s_Ring_sent : Stmt := inClass (top 12) 7
abbrev s_Ring_is_awake : Stmt := inClass (top 12) 8
abbrev s_Ring_is_first : Stmt := inClass (top 12) 9
abbrev s_Ring_stage : Stmt := inClass (top 12) 10
abbrev s_Ring_knows : Stmt := inClass (top 12) 11
abbrev s__law_cell_at : Stmt := top 14
abbrev s__law_whole : Stmt := top 15
abbrev s__law_letters : Stmt := top 16
abbrev s__law_truth : Stmt := top 17
abbrev s__law_numbers : Stmt := top 18
abbrev s__law_start : Stmt := top 19
abbrev s__law_asks : Stmt := top 20
abbrev s__law_woken : Stmt := top 21
abbrev s__law_taken : Stmt := top 22
abbrev s__law_put : Stmt := top 23
abbrev s__law_came : Stmt := top 24
abbrev s__law_step : Stmt := top 25
abbrev s__law_strange : Stmt := top 26
abbrev s__law_hand_told : Stmt := top 27
abbrev s__law_hands_told : Stmt := top 28
abbrev s__law_looked : Stmt := top 29
abbrev s__law_all : Stmt := top 30
abbrev s__law_rests : Stmt := top 31
abbrev s_law : Stmt := top 32
/-- where the defs and classes stand -/
structure Adr where
  c_Hand : Addr
  c_Ring : Addr
  c_RingError : Addr
  c_BadRing : Addr
  c_NoHand : Addr
  c_NoMail : Addr
  f_Hand___init__ : Addr
  fd_Hand___init__ : FuncData
  f_Hand_is_awake : Addr
  fd_Hand_is_awake : FuncData
  f_Hand_is_first : Addr
  fd_Hand_is_first : FuncData
  f_Hand_stage : Addr
  fd_Hand_stage : FuncData
  f_Hand_knows : Addr
  fd_Hand_knows : FuncData
  f_Hand_asks : Addr
  fd_Hand_asks : FuncData
  f_Hand_wake : Addr
  fd_Hand_wake : FuncData
  f_Hand_take : Addr
  fd_Hand_take : FuncData
  f_Hand_asked : Addr
  fd_Hand_asked : FuncData
  f_Hand_answered : Addr
  fd_Hand_answered : FuncData
  f_Hand_told : Addr
  fd_Hand_told : FuncData
  f_is_whole : Addr
  fd_is_whole : FuncData
  f_Ring___init__ : Addr
  fd_Ring___init__ : FuncData
  f_Ring_hand : Addr
  fd_Ring_hand : FuncData
  f_Ring_put : Addr
  fd_Ring_put : FuncData
  f_Ring_wake : Addr
  fd_Ring_wake : FuncData
  f_Ring_mails : Addr
  fd_Ring_mails : FuncData
  f_Ring_bring : Addr
  fd_Ring_bring : FuncData
  f_Ring_rest : Addr
  fd_Ring_rest : FuncData
  f_Ring_sent : Addr
  fd_Ring_sent : FuncData
  f_Ring_is_awake : Addr
  fd_Ring_is_awake : FuncData
  f_Ring_is_first : Addr
  fd_Ring_is_first : FuncData
  f_Ring_stage : Addr
  fd_Ring_stage : FuncData
  f_Ring_knows : Addr
  fd_Ring_knows : FuncData
  f__law_cell_at : Addr
  fd__law_cell_at : FuncData
  f__law_whole : Addr
  fd__law_whole : FuncData
  f__law_letters : Addr
  fd__law_letters : FuncData
  f__law_truth : Addr
  fd__law_truth : FuncData
  f__law_numbers : Addr
  fd__law_numbers : FuncData
  f__law_start : Addr
  fd__law_start : FuncData
  f__law_asks : Addr
  fd__law_asks : FuncData
  f__law_woken : Addr
  fd__law_woken : FuncData
  f__law_taken : Addr
  fd__law_taken : FuncData
  f__law_put : Addr
  fd__law_put : FuncData
  f__law_came : Addr
  fd__law_came : FuncData
  f__law_step : Addr
  fd__law_step : FuncData
  f__law_strange : Addr
  fd__law_strange : FuncData
  f__law_hand_told : Addr
  fd__law_hand_told : FuncData
  f__law_hands_told : Addr
  fd__law_hands_told : FuncData
  f__law_looked : Addr
  fd__law_looked : FuncData
  f__law_all : Addr
  fd__law_all : FuncData
  f__law_rests : Addr
  fd__law_rests : FuncData
  f_law : Addr
  fd_law : FuncData
/-- what the top has written -/
structure Txt (K : PySem.W.Frag) (mg : Str → Option Value) (A : Adr) : Prop where
  no_ValueError : mg "ValueError" = none
  no_all : mg "all" = none
  no_bool : mg "bool" = none
  no_enumerate : mg "enumerate" = none
  no_int : mg "int" = none
  no_isinstance : mg "isinstance" = none
  no_len : mg "len" = none
  no_list : mg "list" = none
  no_min : mg "min" = none
  no_range : mg "range" = none
  no_set : mg "set" = none
  no_str : mg "str" = none
  no_tuple : mg "tuple" = none
  mg_RIGHT : ∃ t, mg "RIGHT" = some (.int (1) t)
  mg_LEFT : ∃ t, mg "LEFT" = some (.int (-1) t)
  mg_MOST_HANDS : ∃ t, mg "MOST_HANDS" = some (.int (64) t)
  mg_Hand : mg "Hand" = some (.ref A.c_Hand)
  cl_Hand : Cls K A.c_Hand
  mk_Hand : Mk K A.c_Hand A.f_Hand___init__
  at_Hand_number : NoAttr K A.c_Hand "number"
  at_Hand_awake : NoAttr K A.c_Hand "awake"
  at_Hand_beaten : NoAttr K A.c_Hand "beaten"
  at_Hand_crowned : NoAttr K A.c_Hand "crowned"
  at_Hand_at : NoAttr K A.c_Hand "at"
  at_Hand_far : NoAttr K A.c_Hand "far"
  at_Hand_came : NoAttr K A.c_Hand "came"
  at_Hand_known : NoAttr K A.c_Hand "known"
  mg_Ring : mg "Ring" = some (.ref A.c_Ring)
  cl_Ring : Cls K A.c_Ring
  mk_Ring : Mk K A.c_Ring A.f_Ring___init__
  at_Ring_hands : NoAttr K A.c_Ring "hands"
  at_Ring_post : NoAttr K A.c_Ring "post"
  at_Ring_many : NoAttr K A.c_Ring "many"
  mg_RingError : mg "RingError" = some (.ref A.c_RingError)
  x_RingError : XCls K A.c_RingError
  mg_BadRing : mg "BadRing" = some (.ref A.c_BadRing)
  x_BadRing : XCls K A.c_BadRing
  mg_NoHand : mg "NoHand" = some (.ref A.c_NoHand)
  x_NoHand : XCls K A.c_NoHand
  mg_NoMail : mg "NoMail" = some (.ref A.c_NoMail)
  x_NoMail : XCls K A.c_NoMail
  sub_RingError_RingError : PySem.W.subIn K (.ref A.c_RingError) (.ref A.c_RingError) = some true
  sub_RingError_BadRing : PySem.W.subIn K (.ref A.c_RingError) (.ref A.c_BadRing) = some false
  ne_RingError_BadRing : A.c_RingError ≠ A.c_BadRing
  sub_RingError_NoHand : PySem.W.subIn K (.ref A.c_RingError) (.ref A.c_NoHand) = some false
  ne_RingError_NoHand : A.c_RingError ≠ A.c_NoHand
  sub_RingError_NoMail : PySem.W.subIn K (.ref A.c_RingError) (.ref A.c_NoMail) = some false
  ne_RingError_NoMail : A.c_RingError ≠ A.c_NoMail
  sub_BadRing_RingError : PySem.W.subIn K (.ref A.c_BadRing) (.ref A.c_RingError) = some true
  ne_BadRing_RingError : A.c_BadRing ≠ A.c_RingError
  sub_BadRing_BadRing : PySem.W.subIn K (.ref A.c_BadRing) (.ref A.c_BadRing) = some true
  sub_BadRing_NoHand : PySem.W.subIn K (.ref A.c_BadRing) (.ref A.c_NoHand) = some false
  ne_BadRing_NoHand : A.c_BadRing ≠ A.c_NoHand
  sub_BadRing_NoMail : PySem.W.subIn K (.ref A.c_BadRing) (.ref A.c_NoMail) = some false
  ne_BadRing_NoMail : A.c_BadRing ≠ A.c_NoMail
  sub_NoHand_RingError : PySem.W.subIn K (.ref A.c_NoHand) (.ref A.c_RingError) = some true
  ne_NoHand_RingError : A.c_NoHand ≠ A.c_RingError
  sub_NoHand_BadRing : PySem.W.subIn K (.ref A.c_NoHand) (.ref A.c_BadRing) = some false
  ne_NoHand_BadRing : A.c_NoHand ≠ A.c_BadRing
  sub_NoHand_NoHand : PySem.W.subIn K (.ref A.c_NoHand) (.ref A.c_NoHand) = some true
  sub_NoHand_NoMail : PySem.W.subIn K (.ref A.c_NoHand) (.ref A.c_NoMail) = some false
  ne_NoHand_NoMail : A.c_NoHand ≠ A.c_NoMail
  sub_NoMail_RingError : PySem.W.subIn K (.ref A.c_NoMail) (.ref A.c_RingError) = some true
  ne_NoMail_RingError : A.c_NoMail ≠ A.c_RingError
  sub_NoMail_BadRing : PySem.W.subIn K (.ref A.c_NoMail) (.ref A.c_BadRing) = some false
  ne_NoMail_BadRing : A.c_NoMail ≠ A.c_BadRing
  sub_NoMail_NoHand : PySem.W.subIn K (.ref A.c_NoMail) (.ref A.c_NoHand) = some false
  ne_NoMail_NoHand : A.c_NoMail ≠ A.c_NoHand
  sub_NoMail_NoMail : PySem.W.subIn K (.ref A.c_NoMail) (.ref A.c_NoMail) = some true
  fun_Hand___init__ : Fun K "__init__" "Hand.__init__" s_Hand___init__ A.f_Hand___init__ A.fd_Hand___init__
  b_Hand___init__ : Binds K A.fd_Hand___init__ ["self", "number"] []
  fun_Hand_is_awake : Fun K "is_awake" "Hand.is_awake" s_Hand_is_awake A.f_Hand_is_awake A.fd_Hand_is_awake
  b_Hand_is_awake : Binds K A.fd_Hand_is_awake ["self"] []
  mt_Hand_is_awake : Meth K A.c_Hand "is_awake" A.f_Hand_is_awake
  fun_Hand_is_first : Fun K "is_first" "Hand.is_first" s_Hand_is_first A.f_Hand_is_first A.fd_Hand_is_first
  b_Hand_is_first : Binds K A.fd_Hand_is_first ["self"] []
  mt_Hand_is_first : Meth K A.c_Hand "is_first" A.f_Hand_is_first
  fun_Hand_stage : Fun K "stage" "Hand.stage" s_Hand_stage A.f_Hand_stage A.fd_Hand_stage
  b_Hand_stage : Binds K A.fd_Hand_stage ["self"] []
  mt_Hand_stage : Meth K A.c_Hand "stage" A.f_Hand_stage
  fun_Hand_knows : Fun K "knows" "Hand.knows" s_Hand_knows A.f_Hand_knows A.fd_Hand_knows
  b_Hand_knows : Binds K A.fd_Hand_knows ["self"] []
  mt_Hand_knows : Meth K A.c_Hand "knows" A.f_Hand_knows
  fun_Hand_asks : Fun K "asks" "Hand.asks" s_Hand_asks A.f_Hand_asks A.fd_Hand_asks
  b_Hand_asks : Binds K A.fd_Hand_asks ["self"] []
  mt_Hand_asks : Meth K A.c_Hand "asks" A.f_Hand_asks
  fun_Hand_wake : Fun K "wake" "Hand.wake" s_Hand_wake A.f_Hand_wake A.fd_Hand_wake
  b_Hand_wake : Binds K A.fd_Hand_wake ["self"] []
  mt_Hand_wake : Meth K A.c_Hand "wake" A.f_Hand_wake
  fun_Hand_take : Fun K "take" "Hand.take" s_Hand_take A.f_Hand_take A.fd_Hand_take
  b_Hand_take : Binds K A.fd_Hand_take ["self", "letter"] []
  mt_Hand_take : Meth K A.c_Hand "take" A.f_Hand_take
  fun_Hand_asked : Fun K "asked" "Hand.asked" s_Hand_asked A.f_Hand_asked A.fd_Hand_asked
  b_Hand_asked : Binds K A.fd_Hand_asked ["self", "letter"] []
  mt_Hand_asked : Meth K A.c_Hand "asked" A.f_Hand_asked
  fun_Hand_answered : Fun K "answered" "Hand.answered" s_Hand_answered A.f_Hand_answered A.fd_Hand_answered
  b_Hand_answered : Binds K A.fd_Hand_answered ["self", "letter"] []
  mt_Hand_answered : Meth K A.c_Hand "answered" A.f_Hand_answered
  fun_Hand_told : Fun K "told" "Hand.told" s_Hand_told A.f_Hand_told A.fd_Hand_told
  b_Hand_told : Binds K A.fd_Hand_told ["self", "letter"] []
  mt_Hand_told : Meth K A.c_Hand "told" A.f_Hand_told
  fun_is_whole : Fun K "is_whole" "is_whole" s_is_whole A.f_is_whole A.fd_is_whole
  b_is_whole : Binds K A.fd_is_whole ["thing"] []
  mg_is_whole : mg "is_whole" = some (.ref A.f_is_whole)
  fun_Ring___init__ : Fun K "__init__" "Ring.__init__" s_Ring___init__ A.f_Ring___init__ A.fd_Ring___init__
  b_Ring___init__ : Binds K A.fd_Ring___init__ ["self", "numbers"] []
  fun_Ring_hand : Fun K "hand" "Ring.hand" s_Ring_hand A.f_Ring_hand A.fd_Ring_hand
  b_Ring_hand : Binds K A.fd_Ring_hand ["self", "place"] []
  mt_Ring_hand : Meth K A.c_Ring "hand" A.f_Ring_hand
  fun_Ring_put : Fun K "put" "Ring.put" s_Ring_put A.f_Ring_put A.fd_Ring_put
  b_Ring_put : Binds K A.fd_Ring_put ["self", "place", "letters"] []
  mt_Ring_put : Meth K A.c_Ring "put" A.f_Ring_put
  fun_Ring_wake : Fun K "wake" "Ring.wake" s_Ring_wake A.f_Ring_wake A.fd_Ring_wake
  b_Ring_wake : Binds K A.fd_Ring_wake ["self", "place"] []
  mt_Ring_wake : Meth K A.c_Ring "wake" A.f_Ring_wake
  fun_Ring_mails : Fun K "mails" "Ring.mails" s_Ring_mails A.f_Ring_mails A.fd_Ring_mails
  b_Ring_mails : Binds K A.fd_Ring_mails ["self"] []
  mt_Ring_mails : Meth K A.c_Ring "mails" A.f_Ring_mails
  fun_Ring_bring : Fun K "bring" "Ring.bring" s_Ring_bring A.f_Ring_bring A.fd_Ring_bring
  b_Ring_bring : Binds K A.fd_Ring_bring ["self", "place"] []
  mt_Ring_bring : Meth K A.c_Ring "bring" A.f_Ring_bring
  fun_Ring_rest : Fun K "rest" "Ring.rest" s_Ring_rest A.f_Ring_rest A.fd_Ring_rest
  b_Ring_rest : Binds K A.fd_Ring_rest ["self"] []
  mt_Ring_rest : Meth K A.c_Ring "rest" A.f_Ring_rest
  fun_Ring_sent : Fun K "sent" "Ring.sent" s_Ring_sent A.f_Ring_sent A.fd_Ring_sent
  b_Ring_sent : Binds K A.fd_Ring_sent ["self"] []
  mt_Ring_sent : Meth K A.c_Ring "sent" A.f_Ring_sent
  fun_Ring_is_awake : Fun K "is_awake" "Ring.is_awake" s_Ring_is_awake A.f_Ring_is_awake A.fd_Ring_is_awake
  b_Ring_is_awake : Binds K A.fd_Ring_is_awake ["self", "place"] []
  mt_Ring_is_awake : Meth K A.c_Ring "is_awake" A.f_Ring_is_awake
  fun_Ring_is_first : Fun K "is_first" "Ring.is_first" s_Ring_is_first A.f_Ring_is_first A.fd_Ring_is_first
  b_Ring_is_first : Binds K A.fd_Ring_is_first ["self", "place"] []
  mt_Ring_is_first : Meth K A.c_Ring "is_first" A.f_Ring_is_first
  fun_Ring_stage : Fun K "stage" "Ring.stage" s_Ring_stage A.f_Ring_stage A.fd_Ring_stage
  b_Ring_stage : Binds K A.fd_Ring_stage ["self", "place"] []
  mt_Ring_stage : Meth K A.c_Ring "stage" A.f_Ring_stage
  fun_Ring_knows : Fun K "knows" "Ring.knows" s_Ring_knows A.f_Ring_knows A.fd_Ring_knows
  b_Ring_knows : Binds K A.fd_Ring_knows ["self", "place"] []
  mt_Ring_knows : Meth K A.c_Ring "knows" A.f_Ring_knows
  fun__law_cell_at : Fun K "_law_cell_at" "_law_cell_at" s__law_cell_at A.f__law_cell_at A.fd__law_cell_at
  b__law_cell_at : Binds K A.fd__law_cell_at ["_law_script", "_law_k"] []
  mg__law_cell_at : mg "_law_cell_at" = some (.ref A.f__law_cell_at)
  fun__law_whole : Fun K "_law_whole" "_law_whole" s__law_whole A.f__law_whole A.fd__law_whole
  b__law_whole : Binds K A.fd__law_whole ["_law_found"] []
  mg__law_whole : mg "_law_whole" = some (.ref A.f__law_whole)
  fun__law_letters : Fun K "_law_letters" "_law_letters" s__law_letters A.f__law_letters A.fd__law_letters
  b__law_letters : Binds K A.fd__law_letters ["_law_found", "_law_due"] []
  mg__law_letters : mg "_law_letters" = some (.ref A.f__law_letters)
  fun__law_truth : Fun K "_law_truth" "_law_truth" s__law_truth A.f__law_truth A.fd__law_truth
  b__law_truth : Binds K A.fd__law_truth ["_law_found", "_law_due"] []
  mg__law_truth : mg "_law_truth" = some (.ref A.f__law_truth)
  fun__law_numbers : Fun K "_law_numbers" "_law_numbers" s__law_numbers A.f__law_numbers A.fd__law_numbers
  b__law_numbers : Binds K A.fd__law_numbers ["_law_script"] []
  mg__law_numbers : mg "_law_numbers" = some (.ref A.f__law_numbers)
  fun__law_start : Fun K "_law_start" "_law_start" s__law_start A.f__law_start A.fd__law_start
  b__law_start : Binds K A.fd__law_start ["_law_number"] []
  mg__law_start : mg "_law_start" = some (.ref A.f__law_start)
  fun__law_asks : Fun K "_law_asks" "_law_asks" s__law_asks A.f__law_asks A.fd__law_asks
  b__law_asks : Binds K A.fd__law_asks ["_law_state"] []
  mg__law_asks : mg "_law_asks" = some (.ref A.f__law_asks)
  fun__law_woken : Fun K "_law_woken" "_law_woken" s__law_woken A.f__law_woken A.fd__law_woken
  b__law_woken : Binds K A.fd__law_woken ["_law_state"] []
  mg__law_woken : mg "_law_woken" = some (.ref A.f__law_woken)
  fun__law_taken : Fun K "_law_taken" "_law_taken" s__law_taken A.f__law_taken A.fd__law_taken
  b__law_taken : Binds K A.fd__law_taken ["_law_state", "_law_letter"] []
  mg__law_taken : mg "_law_taken" = some (.ref A.f__law_taken)
  fun__law_put : Fun K "_law_put" "_law_put" s__law_put A.f__law_put A.fd__law_put
  b__law_put : Binds K A.fd__law_put ["_law_house", "_law_place", "_law_letters_here"] []
  mg__law_put : mg "_law_put" = some (.ref A.f__law_put)
  fun__law_came : Fun K "_law_came" "_law_came" s__law_came A.f__law_came A.fd__law_came
  b__law_came : Binds K A.fd__law_came ["_law_house", "_law_at"] []
  mg__law_came : mg "_law_came" = some (.ref A.f__law_came)
  fun__law_step : Fun K "_law_step" "_law_step" s__law_step A.f__law_step A.fd__law_step
  b__law_step : Binds K A.fd__law_step ["_law_ring", "_law_house", "_law_cell"] []
  mg__law_step : mg "_law_step" = some (.ref A.f__law_step)
  fun__law_strange : Fun K "_law_strange" "_law_strange" s__law_strange A.f__law_strange A.fd__law_strange
  b__law_strange : Binds K A.fd__law_strange ["_law_ring", "_law_house", "_law_many"] []
  mg__law_strange : mg "_law_strange" = some (.ref A.f__law_strange)
  fun__law_hand_told : Fun K "_law_hand_told" "_law_hand_told" s__law_hand_told A.f__law_hand_told A.fd__law_hand_told
  b__law_hand_told : Binds K A.fd__law_hand_told ["_law_ring", "_law_place", "_law_state", "_law_which"] []
  mg__law_hand_told : mg "_law_hand_told" = some (.ref A.f__law_hand_told)
  fun__law_hands_told : Fun K "_law_hands_told" "_law_hands_told" s__law_hands_told A.f__law_hands_told A.fd__law_hands_told
  b__law_hands_told : Binds K A.fd__law_hands_told ["_law_ring", "_law_house", "_law_places", "_law_turn"] []
  mg__law_hands_told : mg "_law_hands_told" = some (.ref A.f__law_hands_told)
  fun__law_looked : Fun K "_law_looked" "_law_looked" s__law_looked A.f__law_looked A.fd__law_looked
  b__law_looked : Binds K A.fd__law_looked ["_law_ring", "_law_house", "_law_turn", "_law_places"] []
  mg__law_looked : mg "_law_looked" = some (.ref A.f__law_looked)
  fun__law_all : Fun K "_law_all" "_law_all" s__law_all A.f__law_all A.fd__law_all
  b__law_all : Binds K A.fd__law_all ["_law_ring", "_law_house", "_law_turn"] []
  mg__law_all : mg "_law_all" = some (.ref A.f__law_all)
  fun__law_rests : Fun K "_law_rests" "_law_rests" s__law_rests A.f__law_rests A.fd__law_rests
  b__law_rests : Binds K A.fd__law_rests ["_law_ring", "_law_house"] []
  mg__law_rests : mg "_law_rests" = some (.ref A.f__law_rests)
  fun_law : Fun K "law" "law" s_law A.f_law A.fd_law
  b_law : Binds K A.fd_law ["_law_script"] []
  mg_law : mg "law" = some (.ref A.f_law)
theorem mkTxt {K : PySem.W.Frag} {h : Heap} {mg : Str → Option Value} {c_Hand c_Ring c_RingError c_BadRing c_NoHand c_NoMail f_Hand___init__ f_Hand_is_awake f_Hand_is_first f_Hand_stage f_Hand_knows f_Hand_asks f_Hand_wake f_Hand_take f_Hand_asked f_Hand_answered f_Hand_told f_is_whole f_Ring___init__ f_Ring_hand f_Ring_put f_Ring_wake f_Ring_mails f_Ring_bring f_Ring_rest f_Ring_sent f_Ring_is_awake f_Ring_is_first f_Ring_stage f_Ring_knows f__law_cell_at f__law_whole f__law_letters f__law_truth f__law_numbers f__law_start f__law_asks f__law_woken f__law_taken f__law_put f__law_came f__law_step f__law_strange f__law_hand_told f__law_hands_told f__law_looked f__law_all f__law_rests f_law : Addr} (X : K.In h) (G : h.Ns mainGlobals mg)
    {od6 an6 : Option Addr} {sl6 : Array (Option Value)} {oc6 kV6 dc6 pm6 cd6 ct6 : Value}
    {od7 an7 : Option Addr} {sl7 : Array (Option Value)} {oc7 kV7 dc7 pm7 cd7 ct7 : Value}
    {od8 an8 : Option Addr} {sl8 : Array (Option Value)} {oc8 kV8 dc8 pm8 cd8 ct8 : Value}
    {od9 an9 : Option Addr} {sl9 : Array (Option Value)} {oc9 kV9 dc9 pm9 cd9 ct9 : Value}
    {od10 an10 : Option Addr} {sl10 : Array (Option Value)} {oc10 kV10 dc10 pm10 cd10 ct10 : Value}
    {od11 an11 : Option Addr} {sl11 : Array (Option Value)} {oc11 kV11 dc11 pm11 cd11 ct11 : Value}
    {od12 an12 : Option Addr} {sl12 : Array (Option Value)} {oc12 kV12 dc12 pm12 cd12 ct12 : Value}
    {od13 an13 : Option Addr} {sl13 : Array (Option Value)} {oc13 kV13 dc13 pm13 cd13 ct13 : Value}
    {od14 an14 : Option Addr} {sl14 : Array (Option Value)} {oc14 kV14 dc14 pm14 cd14 ct14 : Value}
    {od15 an15 : Option Addr} {sl15 : Array (Option Value)} {oc15 kV15 dc15 pm15 cd15 ct15 : Value}
    {od16 an16 : Option Addr} {sl16 : Array (Option Value)} {oc16 kV16 dc16 pm16 cd16 ct16 : Value}
    {od17 an17 : Option Addr} {sl17 : Array (Option Value)} {oc17 kV17 dc17 pm17 cd17 ct17 : Value}
    {od18 an18 : Option Addr} {sl18 : Array (Option Value)} {oc18 kV18 dc18 pm18 cd18 ct18 : Value}
    {od19 an19 : Option Addr} {sl19 : Array (Option Value)} {oc19 kV19 dc19 pm19 cd19 ct19 : Value}
    {od20 an20 : Option Addr} {sl20 : Array (Option Value)} {oc20 kV20 dc20 pm20 cd20 ct20 : Value}
    {od21 an21 : Option Addr} {sl21 : Array (Option Value)} {oc21 kV21 dc21 pm21 cd21 ct21 : Value}
    {od22 an22 : Option Addr} {sl22 : Array (Option Value)} {oc22 kV22 dc22 pm22 cd22 ct22 : Value}
    {od23 an23 : Option Addr} {sl23 : Array (Option Value)} {oc23 kV23 dc23 pm23 cd23 ct23 : Value}
    {od24 an24 : Option Addr} {sl24 : Array (Option Value)} {oc24 kV24 dc24 pm24 cd24 ct24 : Value}
    {od25 an25 : Option Addr} {sl25 : Array (Option Value)} {oc25 kV25 dc25 pm25 cd25 ct25 : Value}
    {od26 an26 : Option Addr} {sl26 : Array (Option Value)} {oc26 kV26 dc26 pm26 cd26 ct26 : Value}
    {od27 an27 : Option Addr} {sl27 : Array (Option Value)} {oc27 kV27 dc27 pm27 cd27 ct27 : Value}
    {od28 an28 : Option Addr} {sl28 : Array (Option Value)} {oc28 kV28 dc28 pm28 cd28 ct28 : Value}
    {od29 an29 : Option Addr} {sl29 : Array (Option Value)} {oc29 kV29 dc29 pm29 cd29 ct29 : Value}
    {od30 an30 : Option Addr} {sl30 : Array (Option Value)} {oc30 kV30 dc30 pm30 cd30 ct30 : Value}
    {od31 an31 : Option Addr} {sl31 : Array (Option Value)} {oc31 kV31 dc31 pm31 cd31 ct31 : Value}
    {od32 an32 : Option Addr} {sl32 : Array (Option Value)} {oc32 kV32 dc32 pm32 cd32 ct32 : Value}
    {od33 an33 : Option Addr} {sl33 : Array (Option Value)} {oc33 kV33 dc33 pm33 cd33 ct33 : Value}
    {od34 an34 : Option Addr} {sl34 : Array (Option Value)} {oc34 kV34 dc34 pm34 cd34 ct34 : Value}
    {od35 an35 : Option Addr} {sl35 : Array (Option Value)} {oc35 kV35 dc35 pm35 cd35 ct35 : Value}
    {od36 an36 : Option Addr} {sl36 : Array (Option Value)} {oc36 kV36 dc36 pm36 cd36 ct36 : Value}
    {od37 an37 : Option Addr} {sl37 : Array (Option Value)} {oc37 kV37 dc37 pm37 cd37 ct37 : Value}
    {od38 an38 : Option Addr} {sl38 : Array (Option Value)} {oc38 kV38 dc38 pm38 cd38 ct38 : Value}
    {od39 an39 : Option Addr} {sl39 : Array (Option Value)} {oc39 kV39 dc39 pm39 cd39 ct39 : Value}
    {od40 an40 : Option Addr} {sl40 : Array (Option Value)} {oc40 kV40 dc40 pm40 cd40 ct40 : Value}
    {od41 an41 : Option Addr} {sl41 : Array (Option Value)} {oc41 kV41 dc41 pm41 cd41 ct41 : Value}
    {od42 an42 : Option Addr} {sl42 : Array (Option Value)} {oc42 kV42 dc42 pm42 cd42 ct42 : Value}
    {od43 an43 : Option Addr} {sl43 : Array (Option Value)} {oc43 kV43 dc43 pm43 cd43 ct43 : Value}
    {od44 an44 : Option Addr} {sl44 : Array (Option Value)} {oc44 kV44 dc44 pm44 cd44 ct44 : Value}
    {od45 an45 : Option Addr} {sl45 : Array (Option Value)} {oc45 kV45 dc45 pm45 cd45 ct45 : Value}
    {od46 an46 : Option Addr} {sl46 : Array (Option Value)} {oc46 kV46 dc46 pm46 cd46 ct46 : Value}
    {od47 an47 : Option Addr} {sl47 : Array (Option Value)} {oc47 kV47 dc47 pm47 cd47 ct47 : Value}
    {od48 an48 : Option Addr} {sl48 : Array (Option Value)} {oc48 kV48 dc48 pm48 cd48 ct48 : Value}
    {tc95 : Tok}
    {tc96 : Tok}
    {tc97 : Tok}
    (g0 : PySem.W.nsIn K mainGlobals "Hand" = some (some (.ref c_Hand)))
    (g1 : PySem.W.nsIn K mainGlobals "Ring" = some (some (.ref c_Ring)))
    (g2 : PySem.W.nsIn K mainGlobals "RingError" = some (some (.ref c_RingError)))
    (g3 : PySem.W.nsIn K mainGlobals "BadRing" = some (some (.ref c_BadRing)))
    (g4 : PySem.W.nsIn K mainGlobals "NoHand" = some (some (.ref c_NoHand)))
    (g5 : PySem.W.nsIn K mainGlobals "NoMail" = some (some (.ref c_NoMail)))
    (a6 : PySem.W.findIn K (.ref c_Hand) "__init__" = some (some (.ref f_Hand___init__)))
    (i6 : PySem.W.isFn K (.ref f_Hand___init__) = true)
    (l6 : K.lookup f_Hand___init__ = some ⟨oc6, od6, .func (PySem.W.fnOf "__init__" "Hand.__init__" (defArgs s_Hand___init__) (defBody s_Hand___init__) (defScope s_Hand___init__) .none kV6 dc6 pm6 an6 cd6 ct6), sl6⟩)
    (d6 : PySem.W.codeIn K cd6 "Hand.__init__" = true)
    (k6 : PySem.W.keepIn K (.ref f_Hand___init__) = true)
    (m6 : PySem.W.makesIn K c_Hand = true)
    (q6 : PySem.W.keepIn K (.ref c_Hand) = true)
    (a7 : PySem.W.findIn K (.ref c_Hand) "is_awake" = some (some (.ref f_Hand_is_awake)))
    (i7 : PySem.W.isFn K (.ref f_Hand_is_awake) = true)
    (l7 : K.lookup f_Hand_is_awake = some ⟨oc7, od7, .func (PySem.W.fnOf "is_awake" "Hand.is_awake" (defArgs s_Hand_is_awake) (defBody s_Hand_is_awake) (defScope s_Hand_is_awake) .none kV7 dc7 pm7 an7 cd7 ct7), sl7⟩)
    (d7 : PySem.W.codeIn K cd7 "Hand.is_awake" = true)
    (k7 : PySem.W.keepIn K (.ref f_Hand_is_awake) = true)
    (a8 : PySem.W.findIn K (.ref c_Hand) "is_first" = some (some (.ref f_Hand_is_first)))
    (i8 : PySem.W.isFn K (.ref f_Hand_is_first) = true)
    (l8 : K.lookup f_Hand_is_first = some ⟨oc8, od8, .func (PySem.W.fnOf "is_first" "Hand.is_first" (defArgs s_Hand_is_first) (defBody s_Hand_is_first) (defScope s_Hand_is_first) .none kV8 dc8 pm8 an8 cd8 ct8), sl8⟩)
    (d8 : PySem.W.codeIn K cd8 "Hand.is_first" = true)
    (k8 : PySem.W.keepIn K (.ref f_Hand_is_first) = true)
    (a9 : PySem.W.findIn K (.ref c_Hand) "stage" = some (some (.ref f_Hand_stage)))
    (i9 : PySem.W.isFn K (.ref f_Hand_stage) = true)
    (l9 : K.lookup f_Hand_stage = some ⟨oc9, od9, .func (PySem.W.fnOf "stage" "Hand.stage" (defArgs s_Hand_stage) (defBody s_Hand_stage) (defScope s_Hand_stage) .none kV9 dc9 pm9 an9 cd9 ct9), sl9⟩)
    (d9 : PySem.W.codeIn K cd9 "Hand.stage" = true)
    (k9 : PySem.W.keepIn K (.ref f_Hand_stage) = true)
    (a10 : PySem.W.findIn K (.ref c_Hand) "knows" = some (some (.ref f_Hand_knows)))
    (i10 : PySem.W.isFn K (.ref f_Hand_knows) = true)
    (l10 : K.lookup f_Hand_knows = some ⟨oc10, od10, .func (PySem.W.fnOf "knows" "Hand.knows" (defArgs s_Hand_knows) (defBody s_Hand_knows) (defScope s_Hand_knows) .none kV10 dc10 pm10 an10 cd10 ct10), sl10⟩)
    (d10 : PySem.W.codeIn K cd10 "Hand.knows" = true)
    (k10 : PySem.W.keepIn K (.ref f_Hand_knows) = true)
    (a11 : PySem.W.findIn K (.ref c_Hand) "asks" = some (some (.ref f_Hand_asks)))
    (i11 : PySem.W.isFn K (.ref f_Hand_asks) = true)
    (l11 : K.lookup f_Hand_asks = some ⟨oc11, od11, .func (PySem.W.fnOf "asks" "Hand.asks" (defArgs s_Hand_asks) (defBody s_Hand_asks) (defScope s_Hand_asks) .none kV11 dc11 pm11 an11 cd11 ct11), sl11⟩)
    (d11 : PySem.W.codeIn K cd11 "Hand.asks" = true)
    (k11 : PySem.W.keepIn K (.ref f_Hand_asks) = true)
    (a12 : PySem.W.findIn K (.ref c_Hand) "wake" = some (some (.ref f_Hand_wake)))
    (i12 : PySem.W.isFn K (.ref f_Hand_wake) = true)
    (l12 : K.lookup f_Hand_wake = some ⟨oc12, od12, .func (PySem.W.fnOf "wake" "Hand.wake" (defArgs s_Hand_wake) (defBody s_Hand_wake) (defScope s_Hand_wake) .none kV12 dc12 pm12 an12 cd12 ct12), sl12⟩)
    (d12 : PySem.W.codeIn K cd12 "Hand.wake" = true)
    (k12 : PySem.W.keepIn K (.ref f_Hand_wake) = true)
    (a13 : PySem.W.findIn K (.ref c_Hand) "take" = some (some (.ref f_Hand_take)))
    (i13 : PySem.W.isFn K (.ref f_Hand_take) = true)
    (l13 : K.lookup f_Hand_take = some ⟨oc13, od13, .func (PySem.W.fnOf "take" "Hand.take" (defArgs s_Hand_take) (defBody s_Hand_take) (defScope s_Hand_take) .none kV13 dc13 pm13 an13 cd13 ct13), sl13⟩)
    (d13 : PySem.W.codeIn K cd13 "Hand.take" = true)
    (k13 : PySem.W.keepIn K (.ref f_Hand_take) = true)
    (a14 : PySem.W.findIn K (.ref c_Hand) "asked" = some (some (.ref f_Hand_asked)))
    (i14 : PySem.W.isFn K (.ref f_Hand_asked) = true)
    (l14 : K.lookup f_Hand_asked = some ⟨oc14, od14, .func (PySem.W.fnOf "asked" "Hand.asked" (defArgs s_Hand_asked) (defBody s_Hand_asked) (defScope s_Hand_asked) .none kV14 dc14 pm14 an14 cd14 ct14), sl14⟩)
    (d14 : PySem.W.codeIn K cd14 "Hand.asked" = true)
    (k14 : PySem.W.keepIn K (.ref f_Hand_asked) = true)
    (a15 : PySem.W.findIn K (.ref c_Hand) "answered" = some (some (.ref f_Hand_answered)))
    (i15 : PySem.W.isFn K (.ref f_Hand_answered) = true)
    (l15 : K.lookup f_Hand_answered = some ⟨oc15, od15, .func (PySem.W.fnOf "answered" "Hand.answered" (defArgs s_Hand_answered) (defBody s_Hand_answered) (defScope s_Hand_answered) .none kV15 dc15 pm15 an15 cd15 ct15), sl15⟩)
    (d15 : PySem.W.codeIn K cd15 "Hand.answered" = true)
    (k15 : PySem.W.keepIn K (.ref f_Hand_answered) = true)
    (a16 : PySem.W.findIn K (.ref c_Hand) "told" = some (some (.ref f_Hand_told)))
    (i16 : PySem.W.isFn K (.ref f_Hand_told) = true)
    (l16 : K.lookup f_Hand_told = some ⟨oc16, od16, .func (PySem.W.fnOf "told" "Hand.told" (defArgs s_Hand_told) (defBody s_Hand_told) (defScope s_Hand_told) .none kV16 dc16 pm16 an16 cd16 ct16), sl16⟩)
    (d16 : PySem.W.codeIn K cd16 "Hand.told" = true)
    (k16 : PySem.W.keepIn K (.ref f_Hand_told) = true)
    (a17 : PySem.W.nsIn K mainGlobals "is_whole" = some (some (.ref f_is_whole)))
    (l17 : K.lookup f_is_whole = some ⟨oc17, od17, .func (PySem.W.fnOf "is_whole" "is_whole" (defArgs s_is_whole) (defBody s_is_whole) (defScope s_is_whole) .none kV17 dc17 pm17 an17 cd17 ct17), sl17⟩)
    (d17 : PySem.W.codeIn K cd17 "is_whole" = true)
    (k17 : PySem.W.keepIn K (.ref f_is_whole) = true)
    (a18 : PySem.W.findIn K (.ref c_Ring) "__init__" = some (some (.ref f_Ring___init__)))
    (i18 : PySem.W.isFn K (.ref f_Ring___init__) = true)
    (l18 : K.lookup f_Ring___init__ = some ⟨oc18, od18, .func (PySem.W.fnOf "__init__" "Ring.__init__" (defArgs s_Ring___init__) (defBody s_Ring___init__) (defScope s_Ring___init__) .none kV18 dc18 pm18 an18 cd18 ct18), sl18⟩)
    (d18 : PySem.W.codeIn K cd18 "Ring.__init__" = true)
    (k18 : PySem.W.keepIn K (.ref f_Ring___init__) = true)
    (m18 : PySem.W.makesIn K c_Ring = true)
    (q18 : PySem.W.keepIn K (.ref c_Ring) = true)
    (a19 : PySem.W.findIn K (.ref c_Ring) "hand" = some (some (.ref f_Ring_hand)))
    (i19 : PySem.W.isFn K (.ref f_Ring_hand) = true)
    (l19 : K.lookup f_Ring_hand = some ⟨oc19, od19, .func (PySem.W.fnOf "hand" "Ring.hand" (defArgs s_Ring_hand) (defBody s_Ring_hand) (defScope s_Ring_hand) .none kV19 dc19 pm19 an19 cd19 ct19), sl19⟩)
    (d19 : PySem.W.codeIn K cd19 "Ring.hand" = true)
    (k19 : PySem.W.keepIn K (.ref f_Ring_hand) = true)
    (a20 : PySem.W.findIn K (.ref c_Ring) "put" = some (some (.ref f_Ring_put)))
    (i20 : PySem.W.isFn K (.ref f_Ring_put) = true)
    (l20 : K.lookup f_Ring_put = some ⟨oc20, od20, .func (PySem.W.fnOf "put" "Ring.put" (defArgs s_Ring_put) (defBody s_Ring_put) (defScope s_Ring_put) .none kV20 dc20 pm20 an20 cd20 ct20), sl20⟩)
    (d20 : PySem.W.codeIn K cd20 "Ring.put" = true)
    (k20 : PySem.W.keepIn K (.ref f_Ring_put) = true)
    (a21 : PySem.W.findIn K (.ref c_Ring) "wake" = some (some (.ref f_Ring_wake)))
    (i21 : PySem.W.isFn K (.ref f_Ring_wake) = true)
    (l21 : K.lookup f_Ring_wake = some ⟨oc21, od21, .func (PySem.W.fnOf "wake" "Ring.wake" (defArgs s_Ring_wake) (defBody s_Ring_wake) (defScope s_Ring_wake) .none kV21 dc21 pm21 an21 cd21 ct21), sl21⟩)
    (d21 : PySem.W.codeIn K cd21 "Ring.wake" = true)
    (k21 : PySem.W.keepIn K (.ref f_Ring_wake) = true)
    (a22 : PySem.W.findIn K (.ref c_Ring) "mails" = some (some (.ref f_Ring_mails)))
    (i22 : PySem.W.isFn K (.ref f_Ring_mails) = true)
    (l22 : K.lookup f_Ring_mails = some ⟨oc22, od22, .func (PySem.W.fnOf "mails" "Ring.mails" (defArgs s_Ring_mails) (defBody s_Ring_mails) (defScope s_Ring_mails) .none kV22 dc22 pm22 an22 cd22 ct22), sl22⟩)
    (d22 : PySem.W.codeIn K cd22 "Ring.mails" = true)
    (k22 : PySem.W.keepIn K (.ref f_Ring_mails) = true)
    (a23 : PySem.W.findIn K (.ref c_Ring) "bring" = some (some (.ref f_Ring_bring)))
    (i23 : PySem.W.isFn K (.ref f_Ring_bring) = true)
    (l23 : K.lookup f_Ring_bring = some ⟨oc23, od23, .func (PySem.W.fnOf "bring" "Ring.bring" (defArgs s_Ring_bring) (defBody s_Ring_bring) (defScope s_Ring_bring) .none kV23 dc23 pm23 an23 cd23 ct23), sl23⟩)
    (d23 : PySem.W.codeIn K cd23 "Ring.bring" = true)
    (k23 : PySem.W.keepIn K (.ref f_Ring_bring) = true)
    (a24 : PySem.W.findIn K (.ref c_Ring) "rest" = some (some (.ref f_Ring_rest)))
    (i24 : PySem.W.isFn K (.ref f_Ring_rest) = true)
    (l24 : K.lookup f_Ring_rest = some ⟨oc24, od24, .func (PySem.W.fnOf "rest" "Ring.rest" (defArgs s_Ring_rest) (defBody s_Ring_rest) (defScope s_Ring_rest) .none kV24 dc24 pm24 an24 cd24 ct24), sl24⟩)
    (d24 : PySem.W.codeIn K cd24 "Ring.rest" = true)
    (k24 : PySem.W.keepIn K (.ref f_Ring_rest) = true)
    (a25 : PySem.W.findIn K (.ref c_Ring) "sent" = some (some (.ref f_Ring_sent)))
    (i25 : PySem.W.isFn K (.ref f_Ring_sent) = true)
    (l25 : K.lookup f_Ring_sent = some ⟨oc25, od25, .func (PySem.W.fnOf "sent" "Ring.sent" (defArgs s_Ring_sent) (defBody s_Ring_sent) (defScope s_Ring_sent) .none kV25 dc25 pm25 an25 cd25 ct25), sl25⟩)
    (d25 : PySem.W.codeIn K cd25 "Ring.sent" = true)
    (k25 : PySem.W.keepIn K (.ref f_Ring_sent) = true)
    (a26 : PySem.W.findIn K (.ref c_Ring) "is_awake" = some (some (.ref f_Ring_is_awake)))
    (i26 : PySem.W.isFn K (.ref f_Ring_is_awake) = true)
    (l26 : K.lookup f_Ring_is_awake = some ⟨oc26, od26, .func (PySem.W.fnOf "is_awake" "Ring.is_awake" (defArgs s_Ring_is_awake) (defBody s_Ring_is_awake) (defScope s_Ring_is_awake) .none kV26 dc26 pm26 an26 cd26 ct26), sl26⟩)
    (d26 : PySem.W.codeIn K cd26 "Ring.is_awake" = true)
    (k26 : PySem.W.keepIn K (.ref f_Ring_is_awake) = true)
    (a27 : PySem.W.findIn K (.ref c_Ring) "is_first" = some (some (.ref f_Ring_is_first)))
    (i27 : PySem.W.isFn K (.ref f_Ring_is_first) = true)
    (l27 : K.lookup f_Ring_is_first = some ⟨oc27, od27, .func (PySem.W.fnOf "is_first" "Ring.is_first" (defArgs s_Ring_is_first) (defBody s_Ring_is_first) (defScope s_Ring_is_first) .none kV27 dc27 pm27 an27 cd27 ct27), sl27⟩)
    (d27 : PySem.W.codeIn K cd27 "Ring.is_first" = true)
    (k27 : PySem.W.keepIn K (.ref f_Ring_is_first) = true)
    (a28 : PySem.W.findIn K (.ref c_Ring) "stage" = some (some (.ref f_Ring_stage)))
    (i28 : PySem.W.isFn K (.ref f_Ring_stage) = true)
    (l28 : K.lookup f_Ring_stage = some ⟨oc28, od28, .func (PySem.W.fnOf "stage" "Ring.stage" (defArgs s_Ring_stage) (defBody s_Ring_stage) (defScope s_Ring_stage) .none kV28 dc28 pm28 an28 cd28 ct28), sl28⟩)
    (d28 : PySem.W.codeIn K cd28 "Ring.stage" = true)
    (k28 : PySem.W.keepIn K (.ref f_Ring_stage) = true)
    (a29 : PySem.W.findIn K (.ref c_Ring) "knows" = some (some (.ref f_Ring_knows)))
    (i29 : PySem.W.isFn K (.ref f_Ring_knows) = true)
    (l29 : K.lookup f_Ring_knows = some ⟨oc29, od29, .func (PySem.W.fnOf "knows" "Ring.knows" (defArgs s_Ring_knows) (defBody s_Ring_knows) (defScope s_Ring_knows) .none kV29 dc29 pm29 an29 cd29 ct29), sl29⟩)
    (d29 : PySem.W.codeIn K cd29 "Ring.knows" = true)
    (k29 : PySem.W.keepIn K (.ref f_Ring_knows) = true)
    (a30 : PySem.W.nsIn K mainGlobals "_law_cell_at" = some (some (.ref f__law_cell_at)))
    (l30 : K.lookup f__law_cell_at = some ⟨oc30, od30, .func (PySem.W.fnOf "_law_cell_at" "_law_cell_at" (defArgs s__law_cell_at) (defBody s__law_cell_at) (defScope s__law_cell_at) .none kV30 dc30 pm30 an30 cd30 ct30), sl30⟩)
    (d30 : PySem.W.codeIn K cd30 "_law_cell_at" = true)
    (k30 : PySem.W.keepIn K (.ref f__law_cell_at) = true)
    (a31 : PySem.W.nsIn K mainGlobals "_law_whole" = some (some (.ref f__law_whole)))
    (l31 : K.lookup f__law_whole = some ⟨oc31, od31, .func (PySem.W.fnOf "_law_whole" "_law_whole" (defArgs s__law_whole) (defBody s__law_whole) (defScope s__law_whole) .none kV31 dc31 pm31 an31 cd31 ct31), sl31⟩)
    (d31 : PySem.W.codeIn K cd31 "_law_whole" = true)
    (k31 : PySem.W.keepIn K (.ref f__law_whole) = true)
    (a32 : PySem.W.nsIn K mainGlobals "_law_letters" = some (some (.ref f__law_letters)))
    (l32 : K.lookup f__law_letters = some ⟨oc32, od32, .func (PySem.W.fnOf "_law_letters" "_law_letters" (defArgs s__law_letters) (defBody s__law_letters) (defScope s__law_letters) .none kV32 dc32 pm32 an32 cd32 ct32), sl32⟩)
    (d32 : PySem.W.codeIn K cd32 "_law_letters" = true)
    (k32 : PySem.W.keepIn K (.ref f__law_letters) = true)
    (a33 : PySem.W.nsIn K mainGlobals "_law_truth" = some (some (.ref f__law_truth)))
    (l33 : K.lookup f__law_truth = some ⟨oc33, od33, .func (PySem.W.fnOf "_law_truth" "_law_truth" (defArgs s__law_truth) (defBody s__law_truth) (defScope s__law_truth) .none kV33 dc33 pm33 an33 cd33 ct33), sl33⟩)
    (d33 : PySem.W.codeIn K cd33 "_law_truth" = true)
    (k33 : PySem.W.keepIn K (.ref f__law_truth) = true)
    (a34 : PySem.W.nsIn K mainGlobals "_law_numbers" = some (some (.ref f__law_numbers)))
    (l34 : K.lookup f__law_numbers = some ⟨oc34, od34, .func (PySem.W.fnOf "_law_numbers" "_law_numbers" (defArgs s__law_numbers) (defBody s__law_numbers) (defScope s__law_numbers) .none kV34 dc34 pm34 an34 cd34 ct34), sl34⟩)
    (d34 : PySem.W.codeIn K cd34 "_law_numbers" = true)
    (k34 : PySem.W.keepIn K (.ref f__law_numbers) = true)
    (a35 : PySem.W.nsIn K mainGlobals "_law_start" = some (some (.ref f__law_start)))
    (l35 : K.lookup f__law_start = some ⟨oc35, od35, .func (PySem.W.fnOf "_law_start" "_law_start" (defArgs s__law_start) (defBody s__law_start) (defScope s__law_start) .none kV35 dc35 pm35 an35 cd35 ct35), sl35⟩)
    (d35 : PySem.W.codeIn K cd35 "_law_start" = true)
    (k35 : PySem.W.keepIn K (.ref f__law_start) = true)
    (a36 : PySem.W.nsIn K mainGlobals "_law_asks" = some (some (.ref f__law_asks)))
    (l36 : K.lookup f__law_asks = some ⟨oc36, od36, .func (PySem.W.fnOf "_law_asks" "_law_asks" (defArgs s__law_asks) (defBody s__law_asks) (defScope s__law_asks) .none kV36 dc36 pm36 an36 cd36 ct36), sl36⟩)
    (d36 : PySem.W.codeIn K cd36 "_law_asks" = true)
    (k36 : PySem.W.keepIn K (.ref f__law_asks) = true)
    (a37 : PySem.W.nsIn K mainGlobals "_law_woken" = some (some (.ref f__law_woken)))
    (l37 : K.lookup f__law_woken = some ⟨oc37, od37, .func (PySem.W.fnOf "_law_woken" "_law_woken" (defArgs s__law_woken) (defBody s__law_woken) (defScope s__law_woken) .none kV37 dc37 pm37 an37 cd37 ct37), sl37⟩)
    (d37 : PySem.W.codeIn K cd37 "_law_woken" = true)
    (k37 : PySem.W.keepIn K (.ref f__law_woken) = true)
    (a38 : PySem.W.nsIn K mainGlobals "_law_taken" = some (some (.ref f__law_taken)))
    (l38 : K.lookup f__law_taken = some ⟨oc38, od38, .func (PySem.W.fnOf "_law_taken" "_law_taken" (defArgs s__law_taken) (defBody s__law_taken) (defScope s__law_taken) .none kV38 dc38 pm38 an38 cd38 ct38), sl38⟩)
    (d38 : PySem.W.codeIn K cd38 "_law_taken" = true)
    (k38 : PySem.W.keepIn K (.ref f__law_taken) = true)
    (a39 : PySem.W.nsIn K mainGlobals "_law_put" = some (some (.ref f__law_put)))
    (l39 : K.lookup f__law_put = some ⟨oc39, od39, .func (PySem.W.fnOf "_law_put" "_law_put" (defArgs s__law_put) (defBody s__law_put) (defScope s__law_put) .none kV39 dc39 pm39 an39 cd39 ct39), sl39⟩)
    (d39 : PySem.W.codeIn K cd39 "_law_put" = true)
    (k39 : PySem.W.keepIn K (.ref f__law_put) = true)
    (a40 : PySem.W.nsIn K mainGlobals "_law_came" = some (some (.ref f__law_came)))
    (l40 : K.lookup f__law_came = some ⟨oc40, od40, .func (PySem.W.fnOf "_law_came" "_law_came" (defArgs s__law_came) (defBody s__law_came) (defScope s__law_came) .none kV40 dc40 pm40 an40 cd40 ct40), sl40⟩)
    (d40 : PySem.W.codeIn K cd40 "_law_came" = true)
    (k40 : PySem.W.keepIn K (.ref f__law_came) = true)
    (a41 : PySem.W.nsIn K mainGlobals "_law_step" = some (some (.ref f__law_step)))
    (l41 : K.lookup f__law_step = some ⟨oc41, od41, .func (PySem.W.fnOf "_law_step" "_law_step" (defArgs s__law_step) (defBody s__law_step) (defScope s__law_step) .none kV41 dc41 pm41 an41 cd41 ct41), sl41⟩)
    (d41 : PySem.W.codeIn K cd41 "_law_step" = true)
    (k41 : PySem.W.keepIn K (.ref f__law_step) = true)
    (a42 : PySem.W.nsIn K mainGlobals "_law_strange" = some (some (.ref f__law_strange)))
    (l42 : K.lookup f__law_strange = some ⟨oc42, od42, .func (PySem.W.fnOf "_law_strange" "_law_strange" (defArgs s__law_strange) (defBody s__law_strange) (defScope s__law_strange) .none kV42 dc42 pm42 an42 cd42 ct42), sl42⟩)
    (d42 : PySem.W.codeIn K cd42 "_law_strange" = true)
    (k42 : PySem.W.keepIn K (.ref f__law_strange) = true)
    (a43 : PySem.W.nsIn K mainGlobals "_law_hand_told" = some (some (.ref f__law_hand_told)))
    (l43 : K.lookup f__law_hand_told = some ⟨oc43, od43, .func (PySem.W.fnOf "_law_hand_told" "_law_hand_told" (defArgs s__law_hand_told) (defBody s__law_hand_told) (defScope s__law_hand_told) .none kV43 dc43 pm43 an43 cd43 ct43), sl43⟩)
    (d43 : PySem.W.codeIn K cd43 "_law_hand_told" = true)
    (k43 : PySem.W.keepIn K (.ref f__law_hand_told) = true)
    (a44 : PySem.W.nsIn K mainGlobals "_law_hands_told" = some (some (.ref f__law_hands_told)))
    (l44 : K.lookup f__law_hands_told = some ⟨oc44, od44, .func (PySem.W.fnOf "_law_hands_told" "_law_hands_told" (defArgs s__law_hands_told) (defBody s__law_hands_told) (defScope s__law_hands_told) .none kV44 dc44 pm44 an44 cd44 ct44), sl44⟩)
    (d44 : PySem.W.codeIn K cd44 "_law_hands_told" = true)
    (k44 : PySem.W.keepIn K (.ref f__law_hands_told) = true)
    (a45 : PySem.W.nsIn K mainGlobals "_law_looked" = some (some (.ref f__law_looked)))
    (l45 : K.lookup f__law_looked = some ⟨oc45, od45, .func (PySem.W.fnOf "_law_looked" "_law_looked" (defArgs s__law_looked) (defBody s__law_looked) (defScope s__law_looked) .none kV45 dc45 pm45 an45 cd45 ct45), sl45⟩)
    (d45 : PySem.W.codeIn K cd45 "_law_looked" = true)
    (k45 : PySem.W.keepIn K (.ref f__law_looked) = true)
    (a46 : PySem.W.nsIn K mainGlobals "_law_all" = some (some (.ref f__law_all)))
    (l46 : K.lookup f__law_all = some ⟨oc46, od46, .func (PySem.W.fnOf "_law_all" "_law_all" (defArgs s__law_all) (defBody s__law_all) (defScope s__law_all) .none kV46 dc46 pm46 an46 cd46 ct46), sl46⟩)
    (d46 : PySem.W.codeIn K cd46 "_law_all" = true)
    (k46 : PySem.W.keepIn K (.ref f__law_all) = true)
    (a47 : PySem.W.nsIn K mainGlobals "_law_rests" = some (some (.ref f__law_rests)))
    (l47 : K.lookup f__law_rests = some ⟨oc47, od47, .func (PySem.W.fnOf "_law_rests" "_law_rests" (defArgs s__law_rests) (defBody s__law_rests) (defScope s__law_rests) .none kV47 dc47 pm47 an47 cd47 ct47), sl47⟩)
    (d47 : PySem.W.codeIn K cd47 "_law_rests" = true)
    (k47 : PySem.W.keepIn K (.ref f__law_rests) = true)
    (a48 : PySem.W.nsIn K mainGlobals "law" = some (some (.ref f_law)))
    (l48 : K.lookup f_law = some ⟨oc48, od48, .func (PySem.W.fnOf "law" "law" (defArgs s_law) (defBody s_law) (defScope s_law) .none kV48 dc48 pm48 an48 cd48 ct48), sl48⟩)
    (d48 : PySem.W.codeIn K cd48 "law" = true)
    (k48 : PySem.W.keepIn K (.ref f_law) = true)
    (p49 : PySem.W.plainGet K c_Hand Str.empty = true)
    (h49 : PySem.W.hasDictIn K c_Hand = true)
    (o49 : PySem.W.plainOver K c_Hand = true)
    (s49 : PySem.W.findIn K (.ref c_Hand) "__setattr__" = some (some (.builtin "object.__setattr__")))
    (n50 : PySem.W.findIn K (.ref c_Hand) "number" = some none)
    (n51 : PySem.W.findIn K (.ref c_Hand) "awake" = some none)
    (n52 : PySem.W.findIn K (.ref c_Hand) "beaten" = some none)
    (n53 : PySem.W.findIn K (.ref c_Hand) "crowned" = some none)
    (n54 : PySem.W.findIn K (.ref c_Hand) "at" = some none)
    (n55 : PySem.W.findIn K (.ref c_Hand) "far" = some none)
    (n56 : PySem.W.findIn K (.ref c_Hand) "came" = some none)
    (n57 : PySem.W.findIn K (.ref c_Hand) "known" = some none)
    (p58 : PySem.W.plainGet K c_Ring Str.empty = true)
    (h58 : PySem.W.hasDictIn K c_Ring = true)
    (o58 : PySem.W.plainOver K c_Ring = true)
    (s58 : PySem.W.findIn K (.ref c_Ring) "__setattr__" = some (some (.builtin "object.__setattr__")))
    (n59 : PySem.W.findIn K (.ref c_Ring) "hands" = some none)
    (n60 : PySem.W.findIn K (.ref c_Ring) "post" = some none)
    (n61 : PySem.W.findIn K (.ref c_Ring) "many" = some none)
    (x62 : PySem.W.excIn K c_RingError [.type "ValueError", .type "Exception", .type "BaseException", .type "object"] "ValueError.__new__" = true)
    (k62 : PySem.W.keepIn K (.ref c_RingError) = true)
    (b62 : PySem.W.subIn K (.ref c_RingError) (.type "BaseException") = some true)
    (t62 : PySem.W.typeIn K (.ref c_RingError) = some (.type "type"))
    (i62 : PySem.W.isClsIn K c_RingError = true)
    (h62 : PySem.W.hasDictIn K c_RingError = true)
    (v62 : PySem.W.subIn K (.ref c_RingError) (.type "ValueError") = some true)
    (ga62 : PySem.W.findIn K (.ref c_RingError) "__getattribute__" = some (some (.builtin "BaseException.__getattribute__")))
    (gg62 : PySem.W.findIn K (.ref c_RingError) "__getattr__" = some none)
    (ca62 : PySem.W.findIn K (.ref c_RingError) "__class__" = some (some (.builtin "object.__class__")))
    (mo62 : PySem.W.mroIn K c_RingError (.type "object") = some true)
    (x63 : PySem.W.excIn K c_BadRing [.type "ValueError", .type "Exception", .type "BaseException", .type "object"] "ValueError.__new__" = true)
    (k63 : PySem.W.keepIn K (.ref c_BadRing) = true)
    (b63 : PySem.W.subIn K (.ref c_BadRing) (.type "BaseException") = some true)
    (t63 : PySem.W.typeIn K (.ref c_BadRing) = some (.type "type"))
    (i63 : PySem.W.isClsIn K c_BadRing = true)
    (h63 : PySem.W.hasDictIn K c_BadRing = true)
    (v63 : PySem.W.subIn K (.ref c_BadRing) (.type "ValueError") = some true)
    (ga63 : PySem.W.findIn K (.ref c_BadRing) "__getattribute__" = some (some (.builtin "BaseException.__getattribute__")))
    (gg63 : PySem.W.findIn K (.ref c_BadRing) "__getattr__" = some none)
    (ca63 : PySem.W.findIn K (.ref c_BadRing) "__class__" = some (some (.builtin "object.__class__")))
    (mo63 : PySem.W.mroIn K c_BadRing (.type "object") = some true)
    (x64 : PySem.W.excIn K c_NoHand [.type "ValueError", .type "Exception", .type "BaseException", .type "object"] "ValueError.__new__" = true)
    (k64 : PySem.W.keepIn K (.ref c_NoHand) = true)
    (b64 : PySem.W.subIn K (.ref c_NoHand) (.type "BaseException") = some true)
    (t64 : PySem.W.typeIn K (.ref c_NoHand) = some (.type "type"))
    (i64 : PySem.W.isClsIn K c_NoHand = true)
    (h64 : PySem.W.hasDictIn K c_NoHand = true)
    (v64 : PySem.W.subIn K (.ref c_NoHand) (.type "ValueError") = some true)
    (ga64 : PySem.W.findIn K (.ref c_NoHand) "__getattribute__" = some (some (.builtin "BaseException.__getattribute__")))
    (gg64 : PySem.W.findIn K (.ref c_NoHand) "__getattr__" = some none)
    (ca64 : PySem.W.findIn K (.ref c_NoHand) "__class__" = some (some (.builtin "object.__class__")))
    (mo64 : PySem.W.mroIn K c_NoHand (.type "object") = some true)
    (x65 : PySem.W.excIn K c_NoMail [.type "ValueError", .type "Exception", .type "BaseException", .type "object"] "ValueError.__new__" = true)
    (k65 : PySem.W.keepIn K (.ref c_NoMail) = true)
    (b65 : PySem.W.subIn K (.ref c_NoMail) (.type "BaseException") = some true)
    (t65 : PySem.W.typeIn K (.ref c_NoMail) = some (.type "type"))
    (i65 : PySem.W.isClsIn K c_NoMail = true)
    (h65 : PySem.W.hasDictIn K c_NoMail = true)
    (v65 : PySem.W.subIn K (.ref c_NoMail) (.type "ValueError") = some true)
    (ga65 : PySem.W.findIn K (.ref c_NoMail) "__getattribute__" = some (some (.builtin "BaseException.__getattribute__")))
    (gg65 : PySem.W.findIn K (.ref c_NoMail) "__getattr__" = some none)
    (ca65 : PySem.W.findIn K (.ref c_NoMail) "__class__" = some (some (.builtin "object.__class__")))
    (mo65 : PySem.W.mroIn K c_NoMail (.type "object") = some true)
    (sp1 : PySem.W.specialIn K (.builtin "object.__class__") "__get__" = some (some (.builtin "getset_descriptor.__get__")))
    (tk1 : PySem.W.takesIn K (.builtin "object.__class__") = some true)
    (u66 : PySem.W.subIn K (.ref c_RingError) (.ref c_RingError) = some true)
    (u67 : PySem.W.subIn K (.ref c_RingError) (.ref c_BadRing) = some false)
    (w67 : c_RingError ≠ c_BadRing)
    (u68 : PySem.W.subIn K (.ref c_RingError) (.ref c_NoHand) = some false)
    (w68 : c_RingError ≠ c_NoHand)
    (u69 : PySem.W.subIn K (.ref c_RingError) (.ref c_NoMail) = some false)
    (w69 : c_RingError ≠ c_NoMail)
    (u70 : PySem.W.subIn K (.ref c_BadRing) (.ref c_RingError) = some true)
    (w70 : c_BadRing ≠ c_RingError)
    (u71 : PySem.W.subIn K (.ref c_BadRing) (.ref c_BadRing) = some true)
    (u72 : PySem.W.subIn K (.ref c_BadRing) (.ref c_NoHand) = some false)
    (w72 : c_BadRing ≠ c_NoHand)
    (u73 : PySem.W.subIn K (.ref c_BadRing) (.ref c_NoMail) = some false)
    (w73 : c_BadRing ≠ c_NoMail)
    (u74 : PySem.W.subIn K (.ref c_NoHand) (.ref c_RingError) = some true)
    (w74 : c_NoHand ≠ c_RingError)
    (u75 : PySem.W.subIn K (.ref c_NoHand) (.ref c_BadRing) = some false)
    (w75 : c_NoHand ≠ c_BadRing)
    (u76 : PySem.W.subIn K (.ref c_NoHand) (.ref c_NoHand) = some true)
    (u77 : PySem.W.subIn K (.ref c_NoHand) (.ref c_NoMail) = some false)
    (w77 : c_NoHand ≠ c_NoMail)
    (u78 : PySem.W.subIn K (.ref c_NoMail) (.ref c_RingError) = some true)
    (w78 : c_NoMail ≠ c_RingError)
    (u79 : PySem.W.subIn K (.ref c_NoMail) (.ref c_BadRing) = some false)
    (w79 : c_NoMail ≠ c_BadRing)
    (u80 : PySem.W.subIn K (.ref c_NoMail) (.ref c_NoHand) = some false)
    (w80 : c_NoMail ≠ c_NoHand)
    (u81 : PySem.W.subIn K (.ref c_NoMail) (.ref c_NoMail) = some true)
    (z82 : PySem.W.nsIn K mainGlobals "ValueError" = some none)
    (z83 : PySem.W.nsIn K mainGlobals "all" = some none)
    (z84 : PySem.W.nsIn K mainGlobals "bool" = some none)
    (z85 : PySem.W.nsIn K mainGlobals "enumerate" = some none)
    (z86 : PySem.W.nsIn K mainGlobals "int" = some none)
    (z87 : PySem.W.nsIn K mainGlobals "isinstance" = some none)
    (z88 : PySem.W.nsIn K mainGlobals "len" = some none)
    (z89 : PySem.W.nsIn K mainGlobals "list" = some none)
    (z90 : PySem.W.nsIn K mainGlobals "min" = some none)
    (z91 : PySem.W.nsIn K mainGlobals "range" = some none)
    (z92 : PySem.W.nsIn K mainGlobals "set" = some none)
    (z93 : PySem.W.nsIn K mainGlobals "str" = some none)
    (z94 : PySem.W.nsIn K mainGlobals "tuple" = some none)
    (c95 : PySem.W.nsIn K mainGlobals "RIGHT" = some (some (.int (1) tc95)))
    (c96 : PySem.W.nsIn K mainGlobals "LEFT" = some (some (.int (-1) tc96)))
    (c97 : PySem.W.nsIn K mainGlobals "MOST_HANDS" = some (some (.int (64) tc97))) :
    ∃ A : Adr, Txt K mg A := by
  refine ⟨⟨c_Hand, c_Ring, c_RingError, c_BadRing, c_NoHand, c_NoMail, f_Hand___init__, PySem.W.fnOf "__init__" "Hand.__init__" (defArgs s_Hand___init__) (defBody s_Hand___init__) (defScope s_Hand___init__) .none kV6 dc6 pm6 an6 cd6 ct6, f_Hand_is_awake, PySem.W.fnOf "is_awake" "Hand.is_awake" (defArgs s_Hand_is_awake) (defBody s_Hand_is_awake) (defScope s_Hand_is_awake) .none kV7 dc7 pm7 an7 cd7 ct7, f_Hand_is_first, PySem.W.fnOf "is_first" "Hand.is_first" (defArgs s_Hand_is_first) (defBody s_Hand_is_first) (defScope s_Hand_is_first) .none kV8 dc8 pm8 an8 cd8 ct8, f_Hand_stage, PySem.W.fnOf "stage" "Hand.stage" (defArgs s_Hand_stage) (defBody s_Hand_stage) (defScope s_Hand_stage) .none kV9 dc9 pm9 an9 cd9 ct9, f_Hand_knows, PySem.W.fnOf "knows" "Hand.knows" (defArgs s_Hand_knows) (defBody s_Hand_knows) (defScope s_Hand_knows) .none kV10 dc10 pm10 an10 cd10 ct10, f_Hand_asks, PySem.W.fnOf "asks" "Hand.asks" (defArgs s_Hand_asks) (defBody s_Hand_asks) (defScope s_Hand_asks) .none kV11 dc11 pm11 an11 cd11 ct11, f_Hand_wake, PySem.W.fnOf "wake" "Hand.wake" (defArgs s_Hand_wake) (defBody s_Hand_wake) (defScope s_Hand_wake) .none kV12 dc12 pm12 an12 cd12 ct12, f_Hand_take, PySem.W.fnOf "take" "Hand.take" (defArgs s_Hand_take) (defBody s_Hand_take) (defScope s_Hand_take) .none kV13 dc13 pm13 an13 cd13 ct13, f_Hand_asked, PySem.W.fnOf "asked" "Hand.asked" (defArgs s_Hand_asked) (defBody s_Hand_asked) (defScope s_Hand_asked) .none kV14 dc14 pm14 an14 cd14 ct14, f_Hand_answered, PySem.W.fnOf "answered" "Hand.answered" (defArgs s_Hand_answered) (defBody s_Hand_answered) (defScope s_Hand_answered) .none kV15 dc15 pm15 an15 cd15 ct15, f_Hand_told, PySem.W.fnOf "told" "Hand.told" (defArgs s_Hand_told) (defBody s_Hand_told) (defScope s_Hand_told) .none kV16 dc16 pm16 an16 cd16 ct16, f_is_whole, PySem.W.fnOf "is_whole" "is_whole" (defArgs s_is_whole) (defBody s_is_whole) (defScope s_is_whole) .none kV17 dc17 pm17 an17 cd17 ct17, f_Ring___init__, PySem.W.fnOf "__init__" "Ring.__init__" (defArgs s_Ring___init__) (defBody s_Ring___init__) (defScope s_Ring___init__) .none kV18 dc18 pm18 an18 cd18 ct18, f_Ring_hand, PySem.W.fnOf "hand" "Ring.hand" (defArgs s_Ring_hand) (defBody s_Ring_hand) (defScope s_Ring_hand) .none kV19 dc19 pm19 an19 cd19 ct19, f_Ring_put, PySem.W.fnOf "put" "Ring.put" (defArgs s_Ring_put) (defBody s_Ring_put) (defScope s_Ring_put) .none kV20 dc20 pm20 an20 cd20 ct20, f_Ring_wake, PySem.W.fnOf "wake" "Ring.wake" (defArgs s_Ring_wake) (defBody s_Ring_wake) (defScope s_Ring_wake) .none kV21 dc21 pm21 an21 cd21 ct21, f_Ring_mails, PySem.W.fnOf "mails" "Ring.mails" (defArgs s_Ring_mails) (defBody s_Ring_mails) (defScope s_Ring_mails) .none kV22 dc22 pm22 an22 cd22 ct22, f_Ring_bring, PySem.W.fnOf "bring" "Ring.bring" (defArgs s_Ring_bring) (defBody s_Ring_bring) (defScope s_Ring_bring) .none kV23 dc23 pm23 an23 cd23 ct23, f_Ring_rest, PySem.W.fnOf "rest" "Ring.rest" (defArgs s_Ring_rest) (defBody s_Ring_rest) (defScope s_Ring_rest) .none kV24 dc24 pm24 an24 cd24 ct24, f_Ring_sent, PySem.W.fnOf "sent" "Ring.sent" (defArgs s_Ring_sent) (defBody s_Ring_sent) (defScope s_Ring_sent) .none kV25 dc25 pm25 an25 cd25 ct25, f_Ring_is_awake, PySem.W.fnOf "is_awake" "Ring.is_awake" (defArgs s_Ring_is_awake) (defBody s_Ring_is_awake) (defScope s_Ring_is_awake) .none kV26 dc26 pm26 an26 cd26 ct26, f_Ring_is_first, PySem.W.fnOf "is_first" "Ring.is_first" (defArgs s_Ring_is_first) (defBody s_Ring_is_first) (defScope s_Ring_is_first) .none kV27 dc27 pm27 an27 cd27 ct27, f_Ring_stage, PySem.W.fnOf "stage" "Ring.stage" (defArgs s_Ring_stage) (defBody s_Ring_stage) (defScope s_Ring_stage) .none kV28 dc28 pm28 an28 cd28 ct28, f_Ring_knows, PySem.W.fnOf "knows" "Ring.knows" (defArgs s_Ring_knows) (defBody s_Ring_knows) (defScope s_Ring_knows) .none kV29 dc29 pm29 an29 cd29 ct29, f__law_cell_at, PySem.W.fnOf "_law_cell_at" "_law_cell_at" (defArgs s__law_cell_at) (defBody s__law_cell_at) (defScope s__law_cell_at) .none kV30 dc30 pm30 an30 cd30 ct30, f__law_whole, PySem.W.fnOf "_law_whole" "_law_whole" (defArgs s__law_whole) (defBody s__law_whole) (defScope s__law_whole) .none kV31 dc31 pm31 an31 cd31 ct31, f__law_letters, PySem.W.fnOf "_law_letters" "_law_letters" (defArgs s__law_letters) (defBody s__law_letters) (defScope s__law_letters) .none kV32 dc32 pm32 an32 cd32 ct32, f__law_truth, PySem.W.fnOf "_law_truth" "_law_truth" (defArgs s__law_truth) (defBody s__law_truth) (defScope s__law_truth) .none kV33 dc33 pm33 an33 cd33 ct33, f__law_numbers, PySem.W.fnOf "_law_numbers" "_law_numbers" (defArgs s__law_numbers) (defBody s__law_numbers) (defScope s__law_numbers) .none kV34 dc34 pm34 an34 cd34 ct34, f__law_start, PySem.W.fnOf "_law_start" "_law_start" (defArgs s__law_start) (defBody s__law_start) (defScope s__law_start) .none kV35 dc35 pm35 an35 cd35 ct35, f__law_asks, PySem.W.fnOf "_law_asks" "_law_asks" (defArgs s__law_asks) (defBody s__law_asks) (defScope s__law_asks) .none kV36 dc36 pm36 an36 cd36 ct36, f__law_woken, PySem.W.fnOf "_law_woken" "_law_woken" (defArgs s__law_woken) (defBody s__law_woken) (defScope s__law_woken) .none kV37 dc37 pm37 an37 cd37 ct37, f__law_taken, PySem.W.fnOf "_law_taken" "_law_taken" (defArgs s__law_taken) (defBody s__law_taken) (defScope s__law_taken) .none kV38 dc38 pm38 an38 cd38 ct38, f__law_put, PySem.W.fnOf "_law_put" "_law_put" (defArgs s__law_put) (defBody s__law_put) (defScope s__law_put) .none kV39 dc39 pm39 an39 cd39 ct39, f__law_came, PySem.W.fnOf "_law_came" "_law_came" (defArgs s__law_came) (defBody s__law_came) (defScope s__law_came) .none kV40 dc40 pm40 an40 cd40 ct40, f__law_step, PySem.W.fnOf "_law_step" "_law_step" (defArgs s__law_step) (defBody s__law_step) (defScope s__law_step) .none kV41 dc41 pm41 an41 cd41 ct41, f__law_strange, PySem.W.fnOf "_law_strange" "_law_strange" (defArgs s__law_strange) (defBody s__law_strange) (defScope s__law_strange) .none kV42 dc42 pm42 an42 cd42 ct42, f__law_hand_told, PySem.W.fnOf "_law_hand_told" "_law_hand_told" (defArgs s__law_hand_told) (defBody s__law_hand_told) (defScope s__law_hand_told) .none kV43 dc43 pm43 an43 cd43 ct43, f__law_hands_told, PySem.W.fnOf "_law_hands_told" "_law_hands_told" (defArgs s__law_hands_told) (defBody s__law_hands_told) (defScope s__law_hands_told) .none kV44 dc44 pm44 an44 cd44 ct44, f__law_looked, PySem.W.fnOf "_law_looked" "_law_looked" (defArgs s__law_looked) (defBody s__law_looked) (defScope s__law_looked) .none kV45 dc45 pm45 an45 cd45 ct45, f__law_all, PySem.W.fnOf "_law_all" "_law_all" (defArgs s__law_all) (defBody s__law_all) (defScope s__law_all) .none kV46 dc46 pm46 an46 cd46 ct46, f__law_rests, PySem.W.fnOf "_law_rests" "_law_rests" (defArgs s__law_rests) (defBody s__law_rests) (defScope s__law_rests) .none kV47 dc47 pm47 an47 cd47 ct47, f_law, PySem.W.fnOf "law" "law" (defArgs s_law) (defBody s_law) (defScope s_law) .none kV48 dc48 pm48 an48 cd48 ct48⟩, ?_⟩
  exact {
    mg_Hand := PySem.W.mg_of X G g0,
    mg_Ring := PySem.W.mg_of X G g1,
    mg_RingError := PySem.W.mg_of X G g2,
    mg_BadRing := PySem.W.mg_of X G g3,
    mg_NoHand := PySem.W.mg_of X G g4,
    mg_NoMail := PySem.W.mg_of X G g5,
    fun_Hand___init__ := fun_mk (st := s_Hand___init__) l6 d6 k6,
    b_Hand___init__ := (fun_mk (st := s_Hand___init__) l6 d6 k6).binds (ps := ["self", "number"]) fun _ _ _ _ _ _ us hl => match us, hl with | [_, _], _ => rfl,
    mk_Hand := ⟨m6, a6, i6, q6⟩,
    fun_Hand_is_awake := fun_mk (st := s_Hand_is_awake) l7 d7 k7,
    b_Hand_is_awake := (fun_mk (st := s_Hand_is_awake) l7 d7 k7).binds (ps := ["self"]) fun _ _ _ _ _ _ us hl => match us, hl with | [_], _ => rfl,
    mt_Hand_is_awake := ⟨a7, i7, k7⟩,
    fun_Hand_is_first := fun_mk (st := s_Hand_is_first) l8 d8 k8,
    b_Hand_is_first := (fun_mk (st := s_Hand_is_first) l8 d8 k8).binds (ps := ["self"]) fun _ _ _ _ _ _ us hl => match us, hl with | [_], _ => rfl,
    mt_Hand_is_first := ⟨a8, i8, k8⟩,
    fun_Hand_stage := fun_mk (st := s_Hand_stage) l9 d9 k9,
    b_Hand_stage := (fun_mk (st := s_Hand_stage) l9 d9 k9).binds (ps := ["self"]) fun _ _ _ _ _ _ us hl => match us, hl with | [_], _ => rfl,
    mt_Hand_stage := ⟨a9, i9, k9⟩,
    fun_Hand_knows := fun_mk (st := s_Hand_knows) l10 d10 k10,
    b_Hand_knows := (fun_mk (st := s_Hand_knows) l10 d10 k10).binds (ps := ["self"]) fun _ _ _ _ _ _ us hl => match us, hl with | [_], _ => rfl,
    mt_Hand_knows := ⟨a10, i10, k10⟩,
    fun_Hand_asks := fun_mk (st := s_Hand_asks) l11 d11 k11,
    b_Hand_asks := (fun_mk (st := s_Hand_asks) l11 d11 k11).binds (ps := ["self"]) fun _ _ _ _ _ _ us hl => match us, hl with | [_], _ => rfl,
    mt_Hand_asks := ⟨a11, i11, k11⟩,
    fun_Hand_wake := fun_mk (st := s_Hand_wake) l12 d12 k12,
    b_Hand_wake := (fun_mk (st := s_Hand_wake) l12 d12 k12).binds (ps := ["self"]) fun _ _ _ _ _ _ us hl => match us, hl with | [_], _ => rfl,
    mt_Hand_wake := ⟨a12, i12, k12⟩,
    fun_Hand_take := fun_mk (st := s_Hand_take) l13 d13 k13,
    b_Hand_take := (fun_mk (st := s_Hand_take) l13 d13 k13).binds (ps := ["self", "letter"]) fun _ _ _ _ _ _ us hl => match us, hl with | [_, _], _ => rfl,
    mt_Hand_take := ⟨a13, i13, k13⟩,
    fun_Hand_asked := fun_mk (st := s_Hand_asked) l14 d14 k14,
    b_Hand_asked := (fun_mk (st := s_Hand_asked) l14 d14 k14).binds (ps := ["self", "letter"]) fun _ _ _ _ _ _ us hl => match us, hl with | [_, _], _ => rfl,
    mt_Hand_asked := ⟨a14, i14, k14⟩,
    fun_Hand_answered := fun_mk (st := s_Hand_answered) l15 d15 k15,
    b_Hand_answered := (fun_mk (st := s_Hand_answered) l15 d15 k15).binds (ps := ["self", "letter"]) fun _ _ _ _ _ _ us hl => match us, hl with | [_, _], _ => rfl,
    mt_Hand_answered := ⟨a15, i15, k15⟩,
    fun_Hand_told := fun_mk (st := s_Hand_told) l16 d16 k16,
    b_Hand_told := (fun_mk (st := s_Hand_told) l16 d16 k16).binds (ps := ["self", "letter"]) fun _ _ _ _ _ _ us hl => match us, hl with | [_, _], _ => rfl,
    mt_Hand_told := ⟨a16, i16, k16⟩,
    mg_is_whole := PySem.W.mg_of X G a17,
    fun_is_whole := fun_mk (st := s_is_whole) l17 d17 k17,
    b_is_whole := (fun_mk (st := s_is_whole) l17 d17 k17).binds (ps := ["thing"]) fun _ _ _ _ _ _ us hl => match us, hl with | [_], _ => rfl,
    fun_Ring___init__ := fun_mk (st := s_Ring___init__) l18 d18 k18,
    b_Ring___init__ := (fun_mk (st := s_Ring___init__) l18 d18 k18).binds (ps := ["self", "numbers"]) fun _ _ _ _ _ _ us hl => match us, hl with | [_, _], _ => rfl,
    mk_Ring := ⟨m18, a18, i18, q18⟩,
    fun_Ring_hand := fun_mk (st := s_Ring_hand) l19 d19 k19,
    b_Ring_hand := (fun_mk (st := s_Ring_hand) l19 d19 k19).binds (ps := ["self", "place"]) fun _ _ _ _ _ _ us hl => match us, hl with | [_, _], _ => rfl,
    mt_Ring_hand := ⟨a19, i19, k19⟩,
    fun_Ring_put := fun_mk (st := s_Ring_put) l20 d20 k20,
    b_Ring_put := (fun_mk (st := s_Ring_put) l20 d20 k20).binds (ps := ["self", "place", "letters"]) fun _ _ _ _ _ _ us hl => match us, hl with | [_, _, _], _ => rfl,
    mt_Ring_put := ⟨a20, i20, k20⟩,
    fun_Ring_wake := fun_mk (st := s_Ring_wake) l21 d21 k21,
    b_Ring_wake := (fun_mk (st := s_Ring_wake) l21 d21 k21).binds (ps := ["self", "place"]) fun _ _ _ _ _ _ us hl => match us, hl with | [_, _], _ => rfl,
    mt_Ring_wake := ⟨a21, i21, k21⟩,
    fun_Ring_mails := fun_mk (st := s_Ring_mails) l22 d22 k22,
    b_Ring_mails := (fun_mk (st := s_Ring_mails) l22 d22 k22).binds (ps := ["self"]) fun _ _ _ _ _ _ us hl => match us, hl with | [_], _ => rfl,
    mt_Ring_mails := ⟨a22, i22, k22⟩,
    fun_Ring_bring := fun_mk (st := s_Ring_bring) l23 d23 k23,
    b_Ring_bring := (fun_mk (st := s_Ring_bring) l23 d23 k23).binds (ps := ["self", "place"]) fun _ _ _ _ _ _ us hl => match us, hl with | [_, _], _ => rfl,
    mt_Ring_bring := ⟨a23, i23, k23⟩,
    fun_Ring_rest := fun_mk (st := s_Ring_rest) l24 d24 k24,
    b_Ring_rest := (fun_mk (st := s_Ring_rest) l24 d24 k24).binds (ps := ["self"]) fun _ _ _ _ _ _ us hl => match us, hl with | [_], _ => rfl,
    mt_Ring_rest := ⟨a24, i24, k24⟩,
    fun_Ring_sent := fun_mk (st := s_Ring_sent) l25 d25 k25,
    b_Ring_sent := (fun_mk (st := s_Ring_sent) l25 d25 k25).binds (ps := ["self"]) fun _ _ _ _ _ _ us hl => match us, hl with | [_], _ => rfl,
    mt_Ring_sent := ⟨a25, i25, k25⟩,
    fun_Ring_is_awake := fun_mk (st := s_Ring_is_awake) l26 d26 k26,
    b_Ring_is_awake := (fun_mk (st := s_Ring_is_awake) l26 d26 k26).binds (ps := ["self", "place"]) fun _ _ _ _ _ _ us hl => match us, hl with | [_, _], _ => rfl,
    mt_Ring_is_awake := ⟨a26, i26, k26⟩,
    fun_Ring_is_first := fun_mk (st := s_Ring_is_first) l27 d27 k27,
    b_Ring_is_first := (fun_mk (st := s_Ring_is_first) l27 d27 k27).binds (ps := ["self", "place"]) fun _ _ _ _ _ _ us hl => match us, hl with | [_, _], _ => rfl,
    mt_Ring_is_first := ⟨a27, i27, k27⟩,
    fun_Ring_stage := fun_mk (st := s_Ring_stage) l28 d28 k28,
    b_Ring_stage := (fun_mk (st := s_Ring_stage) l28 d28 k28).binds (ps := ["self", "place"]) fun _ _ _ _ _ _ us hl => match us, hl with | [_, _], _ => rfl,
    mt_Ring_stage := ⟨a28, i28, k28⟩,
    fun_Ring_knows := fun_mk (st := s_Ring_knows) l29 d29 k29,
    b_Ring_knows := (fun_mk (st := s_Ring_knows) l29 d29 k29).binds (ps := ["self", "place"]) fun _ _ _ _ _ _ us hl => match us, hl with | [_, _], _ => rfl,
    mt_Ring_knows := ⟨a29, i29, k29⟩,
    mg__law_cell_at := PySem.W.mg_of X G a30,
    fun__law_cell_at := fun_mk (st := s__law_cell_at) l30 d30 k30,
    b__law_cell_at := (fun_mk (st := s__law_cell_at) l30 d30 k30).binds (ps := ["_law_script", "_law_k"]) fun _ _ _ _ _ _ us hl => match us, hl with | [_, _], _ => rfl,
    mg__law_whole := PySem.W.mg_of X G a31,
    fun__law_whole := fun_mk (st := s__law_whole) l31 d31 k31,
    b__law_whole := (fun_mk (st := s__law_whole) l31 d31 k31).binds (ps := ["_law_found"]) fun _ _ _ _ _ _ us hl => match us, hl with | [_], _ => rfl,
    mg__law_letters := PySem.W.mg_of X G a32,
    fun__law_letters := fun_mk (st := s__law_letters) l32 d32 k32,
    b__law_letters := (fun_mk (st := s__law_letters) l32 d32 k32).binds (ps := ["_law_found", "_law_due"]) fun _ _ _ _ _ _ us hl => match us, hl with | [_, _], _ => rfl,
    mg__law_truth := PySem.W.mg_of X G a33,
    fun__law_truth := fun_mk (st := s__law_truth) l33 d33 k33,
    b__law_truth := (fun_mk (st := s__law_truth) l33 d33 k33).binds (ps := ["_law_found", "_law_due"]) fun _ _ _ _ _ _ us hl => match us, hl with | [_, _], _ => rfl,
    mg__law_numbers := PySem.W.mg_of X G a34,
    fun__law_numbers := fun_mk (st := s__law_numbers) l34 d34 k34,
    b__law_numbers := (fun_mk (st := s__law_numbers) l34 d34 k34).binds (ps := ["_law_script"]) fun _ _ _ _ _ _ us hl => match us, hl with | [_], _ => rfl,
    mg__law_start := PySem.W.mg_of X G a35,
    fun__law_start := fun_mk (st := s__law_start) l35 d35 k35,
    b__law_start := (fun_mk (st := s__law_start) l35 d35 k35).binds (ps := ["_law_number"]) fun _ _ _ _ _ _ us hl => match us, hl with | [_], _ => rfl,
    mg__law_asks := PySem.W.mg_of X G a36,
    fun__law_asks := fun_mk (st := s__law_asks) l36 d36 k36,
    b__law_asks := (fun_mk (st := s__law_asks) l36 d36 k36).binds (ps := ["_law_state"]) fun _ _ _ _ _ _ us hl => match us, hl with | [_], _ => rfl,
    mg__law_woken := PySem.W.mg_of X G a37,
    fun__law_woken := fun_mk (st := s__law_woken) l37 d37 k37,
    b__law_woken := (fun_mk (st := s__law_woken) l37 d37 k37).binds (ps := ["_law_state"]) fun _ _ _ _ _ _ us hl => match us, hl with | [_], _ => rfl,
    mg__law_taken := PySem.W.mg_of X G a38,
    fun__law_taken := fun_mk (st := s__law_taken) l38 d38 k38,
    b__law_taken := (fun_mk (st := s__law_taken) l38 d38 k38).binds (ps := ["_law_state", "_law_letter"]) fun _ _ _ _ _ _ us hl => match us, hl with | [_, _], _ => rfl,
    mg__law_put := PySem.W.mg_of X G a39,
    fun__law_put := fun_mk (st := s__law_put) l39 d39 k39,
    b__law_put := (fun_mk (st := s__law_put) l39 d39 k39).binds (ps := ["_law_house", "_law_place", "_law_letters_here"]) fun _ _ _ _ _ _ us hl => match us, hl with | [_, _, _], _ => rfl,
    mg__law_came := PySem.W.mg_of X G a40,
    fun__law_came := fun_mk (st := s__law_came) l40 d40 k40,
    b__law_came := (fun_mk (st := s__law_came) l40 d40 k40).binds (ps := ["_law_house", "_law_at"]) fun _ _ _ _ _ _ us hl => match us, hl with | [_, _], _ => rfl,
    mg__law_step := PySem.W.mg_of X G a41,
    fun__law_step := fun_mk (st := s__law_step) l41 d41 k41,
    b__law_step := (fun_mk (st := s__law_step) l41 d41 k41).binds (ps := ["_law_ring", "_law_house", "_law_cell"]) fun _ _ _ _ _ _ us hl => match us, hl with | [_, _, _], _ => rfl,
    mg__law_strange := PySem.W.mg_of X G a42,
    fun__law_strange := fun_mk (st := s__law_strange) l42 d42 k42,
    b__law_strange := (fun_mk (st := s__law_strange) l42 d42 k42).binds (ps := ["_law_ring", "_law_house", "_law_many"]) fun _ _ _ _ _ _ us hl => match us, hl with | [_, _, _], _ => rfl,
    mg__law_hand_told := PySem.W.mg_of X G a43,
    fun__law_hand_told := fun_mk (st := s__law_hand_told) l43 d43 k43,
    b__law_hand_told := (fun_mk (st := s__law_hand_told) l43 d43 k43).binds (ps := ["_law_ring", "_law_place", "_law_state", "_law_which"]) fun _ _ _ _ _ _ us hl => match us, hl with | [_, _, _, _], _ => rfl,
    mg__law_hands_told := PySem.W.mg_of X G a44,
    fun__law_hands_told := fun_mk (st := s__law_hands_told) l44 d44 k44,
    b__law_hands_told := (fun_mk (st := s__law_hands_told) l44 d44 k44).binds (ps := ["_law_ring", "_law_house", "_law_places", "_law_turn"]) fun _ _ _ _ _ _ us hl => match us, hl with | [_, _, _, _], _ => rfl,
    mg__law_looked := PySem.W.mg_of X G a45,
    fun__law_looked := fun_mk (st := s__law_looked) l45 d45 k45,
    b__law_looked := (fun_mk (st := s__law_looked) l45 d45 k45).binds (ps := ["_law_ring", "_law_house", "_law_turn", "_law_places"]) fun _ _ _ _ _ _ us hl => match us, hl with | [_, _, _, _], _ => rfl,
    mg__law_all := PySem.W.mg_of X G a46,
    fun__law_all := fun_mk (st := s__law_all) l46 d46 k46,
    b__law_all := (fun_mk (st := s__law_all) l46 d46 k46).binds (ps := ["_law_ring", "_law_house", "_law_turn"]) fun _ _ _ _ _ _ us hl => match us, hl with | [_, _, _], _ => rfl,
    mg__law_rests := PySem.W.mg_of X G a47,
    fun__law_rests := fun_mk (st := s__law_rests) l47 d47 k47,
    b__law_rests := (fun_mk (st := s__law_rests) l47 d47 k47).binds (ps := ["_law_ring", "_law_house"]) fun _ _ _ _ _ _ us hl => match us, hl with | [_, _], _ => rfl,
    mg_law := PySem.W.mg_of X G a48,
    fun_law := fun_mk (st := s_law) l48 d48 k48,
    b_law := (fun_mk (st := s_law) l48 d48 k48).binds (ps := ["_law_script"]) fun _ _ _ _ _ _ us hl => match us, hl with | [_], _ => rfl,
    cl_Hand := ⟨p49, h49, o49, s49⟩,
    at_Hand_number := n50,
    at_Hand_awake := n51,
    at_Hand_beaten := n52,
    at_Hand_crowned := n53,
    at_Hand_at := n54,
    at_Hand_far := n55,
    at_Hand_came := n56,
    at_Hand_known := n57,
    cl_Ring := ⟨p58, h58, o58, s58⟩,
    at_Ring_hands := n59,
    at_Ring_post := n60,
    at_Ring_many := n61,
    x_RingError := ⟨x62, k62, b62, t62, i62, v62, ⟨ga62, gg62, b62, h62, ca62, sp1, tk1, mo62⟩⟩,
    x_BadRing := ⟨x63, k63, b63, t63, i63, v63, ⟨ga63, gg63, b63, h63, ca63, sp1, tk1, mo63⟩⟩,
    x_NoHand := ⟨x64, k64, b64, t64, i64, v64, ⟨ga64, gg64, b64, h64, ca64, sp1, tk1, mo64⟩⟩,
    x_NoMail := ⟨x65, k65, b65, t65, i65, v65, ⟨ga65, gg65, b65, h65, ca65, sp1, tk1, mo65⟩⟩,
    sub_RingError_RingError := u66,
    sub_RingError_BadRing := u67,
    ne_RingError_BadRing := w67,
    sub_RingError_NoHand := u68,
    ne_RingError_NoHand := w68,
    sub_RingError_NoMail := u69,
    ne_RingError_NoMail := w69,
    sub_BadRing_RingError := u70,
    ne_BadRing_RingError := w70,
    sub_BadRing_BadRing := u71,
    sub_BadRing_NoHand := u72,
    ne_BadRing_NoHand := w72,
    sub_BadRing_NoMail := u73,
    ne_BadRing_NoMail := w73,
    sub_NoHand_RingError := u74,
    ne_NoHand_RingError := w74,
    sub_NoHand_BadRing := u75,
    ne_NoHand_BadRing := w75,
    sub_NoHand_NoHand := u76,
    sub_NoHand_NoMail := u77,
    ne_NoHand_NoMail := w77,
    sub_NoMail_RingError := u78,
    ne_NoMail_RingError := w78,
    sub_NoMail_BadRing := u79,
    ne_NoMail_BadRing := w79,
    sub_NoMail_NoHand := u80,
    ne_NoMail_NoHand := w80,
    sub_NoMail_NoMail := u81,
    no_ValueError := PySem.W.mg_none_of X G z82,
    no_all := PySem.W.mg_none_of X G z83,
    no_bool := PySem.W.mg_none_of X G z84,
    no_enumerate := PySem.W.mg_none_of X G z85,
    no_int := PySem.W.mg_none_of X G z86,
    no_isinstance := PySem.W.mg_none_of X G z87,
    no_len := PySem.W.mg_none_of X G z88,
    no_list := PySem.W.mg_none_of X G z89,
    no_min := PySem.W.mg_none_of X G z90,
    no_range := PySem.W.mg_none_of X G z91,
    no_set := PySem.W.mg_none_of X G z92,
    no_str := PySem.W.mg_none_of X G z93,
    no_tuple := PySem.W.mg_none_of X G z94,
    mg_RIGHT := ⟨_, PySem.W.mg_of X G c95⟩,
    mg_LEFT := ⟨_, PySem.W.mg_of X G c96⟩,
    mg_MOST_HANDS := ⟨_, PySem.W.mg_of X G c97⟩ }
local macro_rules | `(tactic| walk_at "rd1") => `(tactic| first
  | (with_reducible refine rd_seq ?_)
  | (with_reducible refine rd_asg ?_)
  | (with_reducible refine rd_if ?_)
  | ((with_reducible refine' rd_var ?e ?_); (case e => rfl))
  | (with_reducible refine rd_c ?_)
  | (with_reducible refine rd_op ?_)
  | (with_reducible refine rd_I0 ?_)
  | ((with_reducible refine rd_I ?e ?_); case e => first | exact (show (0 : Int) < _ by decide) | exact (show _ ∧ _ from ⟨by decide, by decide⟩) | exact Or.inl ⟨by decide, by decide⟩ | exact Or.inr ⟨by decide, by decide⟩)
  | (with_reducible refine rd_eqI ?_)
  | (with_reducible refine rd_neI ?_)
  | (with_reducible refine rd_bl ?_)
  | (with_reducible refine rd_test ?_)
  | (with_reducible refine rd_and ?_)
  | (with_reducible refine rd_or ?_)
  | (with_reducible refine rd_not ?_)
  | (with_reducible refine rd_andV ?_)
  | (with_reducible refine rd_orV ?_)
  | (with_reducible refine rd_notV ?_)
  | (with_reducible refine rd_B ?_)
  | (with_reducible refine rd_ifE ?_)
  | (with_reducible refine rd_cons ?_)
  | (with_reducible refine rd_nil ?_)
  | (with_reducible refine rd_CB ?_)
  | (with_reducible refine rd_call ?_)
  | (with_reducible refine rd_callS ?_)
  | (with_reducible refine rd_meth ?_)
  | (with_reducible refine rd_mk ?_)
  | (with_reducible refine rd_lst ?_)
  | (with_reducible refine rd_tup ?_)
  | (with_reducible refine rd_un ?_)
  | (with_reducible refine rd_U ?_)
  | (with_reducible refine rd_tFld ?_)
  | (with_reducible refine rd_sFld ?_)
  | (with_reducible refine rd_methW ?_)
  | (with_reducible refine rd_abs ?_)
  | (with_reducible refine rd_int1 ?_)
  | (with_reducible refine rd_isNo ?_)
  | (with_reducible refine rd_notNo ?_)
  | (with_reducible refine rd_isBo ?_)
  | (with_reducible refine rd_notBo ?_)
  | (with_reducible refine rd_forL ?_)
  | (with_reducible refine rd_forT ?_)
  | (with_reducible refine rd_forR1 ?_)
  | (with_reducible refine rd_forR2 ?_)
  | (with_reducible refine rd_lcL ?_)
  | (with_reducible refine rd_lcT ?_)
  | (with_reducible refine rd_lcR1 ?_)
  | (with_reducible refine rd_chain ?_)
  | (with_reducible refine rd_ret ?_)
  | (with_reducible refine rd_retN ?_)
  | (with_reducible refine rd_drop ?_)
  | (with_reducible refine rd_next ?_)
  | (with_reducible refine rd_asgG ?_)
  | (with_reducible refine rd_pop ?_)
  | (with_reducible refine rd_makeW ?_)
  | (with_reducible refine rd_min2 ?_)
  | (with_reducible refine rd_tLenSet ?_)
  | (with_reducible refine rd_sl ?_)
  | (with_reducible refine rd_tPart ?_)
  | (with_reducible refine rd_part ?_)
  | (with_reducible refine rd_nopart ?_)
  | (with_reducible refine rd_bm0 ?_)
  | (with_reducible refine rd_dget ?_)
  | (with_reducible refine rd_dput ?_)
  | (with_reducible refine rd_forR3 ?_)
  | (with_reducible refine rd_slS ?_)
  | (with_reducible refine rd_lstRg ?_)
  | (with_reducible refine rd_forE ?_)
  | (with_reducible refine iteNT ?_)
  | (with_reducible refine iteNF ?_)
  | (with_reducible refine iteF ?_)
  | (with_reducible refine iteT ?_))
local macro_rules | `(tactic| walk_at "rd") => `(tactic| repeat (walk_at "rd1"))

-- RcDict RcHouse
section
variable {P : Program} {w : World} {K : PySem.W.Frag} {mg : Str → Option Value} {base : Heap} {A : Adr}
theorem sc_is_whole : FnScope ["thing"] ["thing"] (defScope s_is_whole) := ⟨rfl, rfl, rfl, by decide +kernel, rfl, by decide +kernel, by decide +kernel⟩
theorem ok_is_whole (T : Txt K mg A) : FnOk P w K mg base CX0 1 A.f_is_whole A.fd_is_whole ["thing"] (spWhole K) := by
  refine T.fun_is_whole.ok sc_is_whole (fun vs H Q E h => ?_) (fun cdv Ar outer s H vs Q E hr h => ?_)
  · obtain ⟨v, rfl, _⟩ := h
    rfl
  · obtain ⟨v, rfl, ⟨n, bi, bb, ty, k1, k2, k3⟩, q⟩ := h
    refine ⟨_, (pss_one (ps_ret (pe_and (pe_callB call_isi (by rfl) T.no_isinstance (by decide +kernel) (pa_cons (pv 0) (pa_cons (pe_bltn (v := .ty "int") (by rfl) T.no_int (by decide +kernel) rfl) pa_nil))) (pe_and (pe_not (pe_callB call_isi (by rfl) T.no_isinstance (by decide +kernel) (pa_cons (pv 0) (pa_cons (pe_bltn (v := .ty "bool") (by rfl) T.no_bool (by decide +kernel) rfl) pa_nil)))) (pe_one (pe_cmpR op_ge (pv 0) pe_int (nomark _))))))), ?_⟩
    walk_at "rd"
    refine rd_isi ty k1 ?_
    walk_at "rd"
    cases bi with
    | false =>
      refine iteF ?_
      have e : wholeV v = false := whole_isI k3.symm
      rw [e] at q
      exact q
    | true =>
      refine iteT ?_
      walk_at "rd"
      refine rd_isi ty k2 ?_
      walk_at "rd"
      cases bb with
      | true =>
        refine iteF ?_
        have e : wholeV v = false := whole_isI k3.symm
        rw [e] at q
        exact q
      | false =>
        refine iteT ?_
        obtain ⟨i, rfl⟩ := isI_int k3.symm
        walk_at "rd"
        exact q
theorem sc__law_whole : FnScope ["_law_found"] ["_law_found"] (defScope s__law_whole) := ⟨rfl, rfl, rfl, by decide +kernel, rfl, by decide +kernel, by decide +kernel⟩
theorem ok__law_whole (T : Txt K mg A) : FnOk P w K mg base CX0 1 A.f__law_whole A.fd__law_whole ["_law_found"] (spInt K) := by
  refine T.fun__law_whole.ok sc__law_whole (fun vs H Q E h => ?_) (fun cdv Ar outer s H vs Q E hr h => ?_)
  · obtain ⟨v, rfl, _⟩ := h
    rfl
  · obtain ⟨v, rfl, ⟨n, bi, bb, ty, k1, k2, k3⟩, q⟩ := h
    refine ⟨_, (pss_one (ps_ret (pe_and (pe_callB call_isi (by rfl) T.no_isinstance (by decide +kernel) (pa_cons (pv 0) (pa_cons (pe_bltn (v := .ty "int") (by rfl) T.no_int (by decide +kernel) rfl) pa_nil))) (pe_one (pe_not (pe_callB call_isi (by rfl) T.no_isinstance (by decide +kernel) (pa_cons (pv 0) (pa_cons (pe_bltn (v := .ty "bool") (by rfl) T.no_bool (by decide +kernel) rfl) pa_nil)))))))), ?_⟩
    walk_at "rd"
    refine rd_isi ty k1 ?_
    walk_at "rd"
    cases bi with
    | false =>
      refine iteF ?_
      have e : isI v = false := k3.symm
      rw [e] at q
      exact q
    | true =>
      refine iteT ?_
      walk_at "rd"
      refine rd_isi ty k2 ?_
      walk_at "rd"
      have e : isI v = !bb := k3.symm
      rw [e] at q
      exact q
theorem sc__law_cell_at : FnScope ["_law_script", "_law_k"] ["_law_script", "_law_k"] (defScope s__law_cell_at) := ⟨rfl, rfl, rfl, by decide +kernel, rfl, by decide +kernel, by decide +kernel⟩
theorem ok__law_cell_at (T : Txt K mg A) : FnOk P w K mg base CX0 1 A.f__law_cell_at A.fd__law_cell_at ["_law_script", "_law_k"] (spCell K) := by
  refine T.fun__law_cell_at.ok sc__law_cell_at (fun vs H Q E h => ?_) (fun cdv Ar outer s H vs Q E hr h => ?_)
  · obtain ⟨a, ns, k, rfl, _⟩ := h
    rfl
  · obtain ⟨a, ns, k, rfl, hS, q⟩ := h
    refine ⟨_, (pss_cons (ps_if (pt_cmpR op_lt (pv 1) (pe_callB call_lenN (by rfl) T.no_len (by decide +kernel) (pa_cons (pv 0) pa_nil)) (nomark _)) (pss_one (ps_ret (pe_ix ix_list (pv 0) (pv 1) (fun _ _ => rfl)))) pss_nil)
      (pss_one (ps_ret pe_int))), ?_⟩
    walk_at "rd"
    refine rd_len hS ?_
    walk_at "rd"
    refine rd_dec (fun e => ?_) (fun e => ?_)
    · walk_at "rd"
      have hk : k < ns.length := by rw [List.length_map] at e; omega
      have e1 : cell ns k = ns[k] := by unfold cell; rw [List.getD_eq_getElem?_getD, List.getElem?_eq_getElem hk]; rfl
      rw [e1] at q
      exact rd_ixL (k := k) (v := .int ns[k]) hS rfl (by rw [List.getElem?_map, List.getElem?_eq_getElem hk]; rfl) q
    · walk_at "rd"
      have hk : ¬ k < ns.length := by rw [List.length_map] at e; omega
      have e1 : cell ns k = 0 := by unfold cell; rw [List.getD_eq_getElem?_getD, List.getElem?_eq_none (by omega)]; rfl
      rw [e1] at q
      exact q

/-! ### the hand -/
theorem sc_Hand___init__ : FnScope ["self", "number"] ["self", "number"] (defScope s_Hand___init__) := ⟨rfl, rfl, rfl, by decide +kernel, rfl, by decide +kernel, by decide +kernel⟩
theorem ok_Hand_init (T : Txt K mg A) : FnOk P w K mg base CX0 1 A.f_Hand___init__ A.fd_Hand___init__ ["self", "number"] (spHNew A.c_Hand) := by
  refine T.fun_Hand___init__.ok sc_Hand___init__ (fun vs H Q E h => ?_) (fun cdv Ar outer s H vs Q E hr h => ?_)
  · obtain ⟨p, dx, k, rfl, _⟩ := h
    rfl
  · obtain ⟨p, dx, k, rfl, hp, q⟩ := h
    refine ⟨_, (pss_cons (ps_fld (pv 0) (pv 1) rfl)
      (pss_cons (ps_fld (pv 0) pe_bl rfl)
      (pss_cons (ps_fld (pv 0) pe_bl rfl)
      (pss_cons (ps_fld (pv 0) pe_bl rfl)
      (pss_cons (ps_fld (pv 0) pe_int rfl)
      (pss_cons (ps_fld (pv 0) pe_int rfl)
      (pss_cons (ps_fld (pv 0) pe_int rfl)
      (pss_one (ps_fld (pv 0) pe_non rfl))))))))), ?_⟩
    walk_at "rd"
    refine rd_put hp T.cl_Hand T.at_Hand_number (by show 0 < 1000; decide) ?_
    walk_at "rd"
    refine rd_put upd_same T.cl_Hand T.at_Hand_awake (by show 1 < 1000; decide) ?_
    walk_at "rd"
    refine rd_put upd_same T.cl_Hand T.at_Hand_beaten (by show 2 < 1000; decide) ?_
    walk_at "rd"
    refine rd_put upd_same T.cl_Hand T.at_Hand_crowned (by show 3 < 1000; decide) ?_
    walk_at "rd"
    refine rd_put upd_same T.cl_Hand T.at_Hand_at (by show 4 < 1000; decide) ?_
    walk_at "rd"
    refine rd_put upd_same T.cl_Hand T.at_Hand_far (by show 5 < 1000; decide) ?_
    walk_at "rd"
    refine rd_put upd_same T.cl_Hand T.at_Hand_came (by show 6 < 1000; decide) ?_
    walk_at "rd"
    refine rd_put upd_same T.cl_Hand T.at_Hand_known (by show 7 < 1000; decide) ?_
    rw [upd_upd, upd_upd, upd_upd, upd_upd, upd_upd, upd_upd, upd_upd]
    exact q
theorem sc_Hand_is_awake : FnScope ["self"] ["self"] (defScope s_Hand_is_awake) := ⟨rfl, rfl, rfl, by decide +kernel, rfl, by decide +kernel, by decide +kernel⟩
theorem ok_Hand_is_awake (T : Txt K mg A) : FnOk P w K mg base CX0 1 A.f_Hand_is_awake A.fd_Hand_is_awake ["self"] (spHAsk A.c_Hand fun h => .bl h.awake) := by
  refine T.fun_Hand_is_awake.ok sc_Hand_is_awake (fun vs H Q E h => ?_) (fun cdv Ar outer s H vs Q E hr h => ?_)
  · obtain ⟨p, dx, h, rfl, _⟩ := h
    rfl
  · obtain ⟨p, dx, h, rfl, hp, q⟩ := h
    refine ⟨_, (pss_one (ps_ret (pe_fld (pv 0) rfl))), ?_⟩
    walk_at "rd"
    exact rd_fld hp T.cl_Hand T.at_Hand_awake rfl q
theorem sc_Hand_is_first : FnScope ["self"] ["self"] (defScope s_Hand_is_first) := ⟨rfl, rfl, rfl, by decide +kernel, rfl, by decide +kernel, by decide +kernel⟩
theorem ok_Hand_is_first (T : Txt K mg A) : FnOk P w K mg base CX0 1 A.f_Hand_is_first A.fd_Hand_is_first ["self"] (spHAsk A.c_Hand fun h => .bl h.crowned) := by
  refine T.fun_Hand_is_first.ok sc_Hand_is_first (fun vs H Q E h => ?_) (fun cdv Ar outer s H vs Q E hr h => ?_)
  · obtain ⟨p, dx, h, rfl, _⟩ := h
    rfl
  · obtain ⟨p, dx, h, rfl, hp, q⟩ := h
    refine ⟨_, (pss_one (ps_ret (pe_fld (pv 0) rfl))), ?_⟩
    walk_at "rd"
    exact rd_fld hp T.cl_Hand T.at_Hand_crowned rfl q
theorem sc_Hand_stage : FnScope ["self"] ["self"] (defScope s_Hand_stage) := ⟨rfl, rfl, rfl, by decide +kernel, rfl, by decide +kernel, by decide +kernel⟩
theorem ok_Hand_stage (T : Txt K mg A) : FnOk P w K mg base CX0 1 A.f_Hand_stage A.fd_Hand_stage ["self"] (spHAsk A.c_Hand stageV) := by
  refine T.fun_Hand_stage.ok sc_Hand_stage (fun vs H Q E h => ?_) (fun cdv Ar outer s H vs Q E hr h => ?_)
  · obtain ⟨p, dx, h, rfl, _⟩ := h
    rfl
  · obtain ⟨p, dx, h, rfl, hp, q⟩ := h
    refine ⟨_, (pss_cons (ps_if (pt_val (pe_fld (pv 0) rfl)) (pss_one (ps_ret (pe_fld (pv 0) rfl))) pss_nil)
      (pss_one (ps_ret pe_non))), ?_⟩
    walk_at "rd"
    refine rd_fld hp T.cl_Hand T.at_Hand_awake rfl ?_
    walk_at "rd"
    unfold stageV at q
    refine rd_ite (fun z => ?_) (fun z => ?_)
    · rw [if_pos z] at q
      walk_at "rd"
      exact rd_fld hp T.cl_Hand T.at_Hand_at rfl q
    · rw [if_neg (by rw [z]; exact Bool.false_ne_true)] at q
      walk_at "rd"
      exact q
theorem sc_Hand_knows : FnScope ["self"] ["self"] (defScope s_Hand_knows) := ⟨rfl, rfl, rfl, by decide +kernel, rfl, by decide +kernel, by decide +kernel⟩
theorem ok_Hand_knows (T : Txt K mg A) : FnOk P w K mg base CX0 1 A.f_Hand_knows A.fd_Hand_knows ["self"] (spHAsk A.c_Hand fun h => kV h.known) := by
  refine T.fun_Hand_knows.ok sc_Hand_knows (fun vs H Q E h => ?_) (fun cdv Ar outer s H vs Q E hr h => ?_)
  · obtain ⟨p, dx, h, rfl, _⟩ := h
    rfl
  · obtain ⟨p, dx, h, rfl, hp, q⟩ := h
    refine ⟨_, (pss_one (ps_ret (pe_fld (pv 0) rfl))), ?_⟩
    walk_at "rd"
    exact rd_fld hp T.cl_Hand T.at_Hand_known rfl q
theorem sc_Hand_asks : FnScope ["self", "way"] ["self"] (defScope s_Hand_asks) := ⟨rfl, rfl, rfl, by decide +kernel, rfl, by decide +kernel, by decide +kernel⟩
theorem ok_Hand_asks (T : Txt K mg A) : FnOk P w K mg base CX0 1 A.f_Hand_asks A.fd_Hand_asks ["self"] (spHAsks A.c_Hand) := by
  refine T.fun_Hand_asks.ok sc_Hand_asks (fun vs H Q E h => ?_) (fun cdv Ar outer s H vs Q E hr h => ?_)
  · obtain ⟨p, dx, h, rfl, _⟩ := h
    rfl
  · obtain ⟨p, dx, h, rfl, hp, q⟩ := h
    refine ⟨_, (pss_one (ps_ret (pe_lc (own := [("way", 1)]) (g := gName 1) (by rfl) sc_Hand_asks.nd (pi_tup (pe_tup (pa_cons (pe_gint rfl T.mg_RIGHT) (pa_cons (pe_gint rfl T.mg_LEFT) pa_nil)))) (blkOk_by (own := [("way", 1)]) (N := ["self", "way"]) (sc := defScope s_Hand_asks) (by decide +kernel)) (fun _ _ _ _ _ => pg_name (i := 1) sc_Hand_asks.nd rfl (Or.inl rfl)) (fun _ _ _ _ _ => pts_nil) (fun _ _ _ _ _ => by exact (pe_tup (pa_cons (pv 1) (pa_cons pe_str (pa_cons (pe_fldK (K := K) rfl (pv 0) (by rfl)) (pa_cons (pe_fldK (K := K) rfl (pv 0) (by rfl)) (pa_cons (pe_fldK (K := K) rfl (pv 0) (by rfl)) pa_nil)))))))))), ?_⟩
    walk_at "rd"
    refine ⟨(by show 2 ≤ sizeLine; decide), fun t ht => ?_⟩
    refine lc_TU (f := lV) (zs := h.asks) (SqT.of upd_same) rfl (by show 2 ≤ 40000; decide) ?_ ?_
    · intro i x z H1 e1 hi hz H2 e2 Q2 q2
      have hp2 : H2 p = some (.ins A.c_Hand dx (hf h)) := e2 _ _ (e1 _ _ (Ex.new ht _ _ hp))
      walk_at "rd"
      refine rd_fld hp2 T.cl_Hand T.at_Hand_number rfl ?_
      walk_at "rd"
      refine rd_fld hp2 T.cl_Hand T.at_Hand_at rfl ?_
      walk_at "rd"
      refine rd_fld hp2 T.cl_Hand T.at_Hand_far rfl ?_
      walk_at "rd"
      refine ⟨(by show 5 ≤ sizeLine; decide), fun u hu => ?_⟩
      refine q2 u _ hu (Ex.new hu) ?_
      match i, hi, hz with
      | 0, hi, hz =>
        rw [← Option.some.inj hi, ← Option.some.inj hz]
        exact upd_same
      | 1, hi, hz =>
        rw [← Option.some.inj hi, ← Option.some.inj hz]
        exact upd_same
    · intro u ws H1 hu e1 h1 t1
      have e0 := (Ex.new (o := .tup [V.int 1, V.int (-1)]) ht).trans e1
      exact q u ws H1 (fresh_back (Ex.new ht) hu) h1 t1 (e0 _ _ hp) (But.ex e0)
theorem sc_Hand_wake : FnScope ["self"] ["self"] (defScope s_Hand_wake) := ⟨rfl, rfl, rfl, by decide +kernel, rfl, by decide +kernel, by decide +kernel⟩
theorem ok_Hand_wake (T : Txt K mg A) (G_Hand_asks : FnOk P w K mg base CX0 1 A.f_Hand_asks A.fd_Hand_asks ["self"] (spHAsks A.c_Hand)) : FnOk P w K mg base CX0 2 A.f_Hand_wake A.fd_Hand_wake ["self"] (spHWake A.c_Hand) := by
  refine T.fun_Hand_wake.ok sc_Hand_wake (fun vs H Q E h => ?_) (fun cdv Ar outer s H vs Q E hr h => ?_)
  · obtain ⟨p, dx, h, rfl, _⟩ := h
    rfl
  · obtain ⟨p, dx, h, rfl, hp, q⟩ := h
    refine ⟨_, (pss_cons (ps_if (pt_val (pe_fld (pv 0) rfl)) (pss_one (ps_ret (pe_lst pa_nil))) pss_nil)
      (pss_cons (ps_fld (pv 0) pe_bl rfl)
      (pss_one (ps_ret (pe_meth0 (pv 0) T.cl_Hand T.mt_Hand_asks G_Hand_asks (hr.mono (by decide)) T.b_Hand_asks .nil pass0))))), ?_⟩
    walk_at "rd"
    refine rd_fld hp T.cl_Hand T.at_Hand_awake rfl ?_
    walk_at "rd"
    refine rd_ite (fun z => ?_) (fun z => ?_)
    · walk_at "rd"
      refine ⟨Nat.zero_le _, fun l hl => ?_⟩
      refine q l [] _ hl upd_same ?_ ?_ (But.ex (Ex.new hl))
      · unfold Hd.wls; rw [if_pos z]; exact .nil
      · rw [RC.wk_awake z]; exact Ex.new hl _ _ hp
    · walk_at "rd"
      refine rd_put hp T.cl_Hand T.at_Hand_awake (by show 8 < 1000; decide) ?_
      walk_at "rd"
      refine rd_recv upd_same rfl ?_
      walk_at "rd"
      refine ⟨p, dx, h.wk, rfl, upd_same, ?_⟩
      intro l xs H' hl h1 t1 hp' b1
      have hpl : l ≠ p := fun e => by rw [e, upd_same] at hl; cases hl
      rw [upd_ne hpl] at hl
      refine q l xs H' hl h1 ?_ hp' (But.upd.trans b1)
      unfold Hd.wls
      rw [if_neg (by rw [z]; exact Bool.false_ne_true)]
      exact t1
theorem sc_Hand_told : FnScope ["self", "letter"] ["self", "letter"] (defScope s_Hand_told) := ⟨rfl, rfl, rfl, by decide +kernel, rfl, by decide +kernel, by decide +kernel⟩
theorem ok_Hand_told (T : Txt K mg A) : FnOk P w K mg base CX0 1 A.f_Hand_told A.fd_Hand_told ["self", "letter"] (spHLet A.c_Hand Hd.told) := by
  refine T.fun_Hand_told.ok sc_Hand_told (fun vs H Q E h => ?_) (fun cdv Ar outer s H vs Q E hr h => ?_)
  · obtain ⟨p, dx, a, h, l, rfl, _⟩ := h
    rfl
  · obtain ⟨p, dx, a, h, l, rfl, hp, ha, q⟩ := h
    refine ⟨_, (pss_cons (ps_if (pt_cmpR op_eq (pe_ix ix_tup (pv 1) pe_int (fun _ _ => rfl)) (pe_fld (pv 0) rfl) (nomark _)) (pss_one (ps_ret (pe_lst pa_nil))) pss_nil)
      (pss_cons (ps_fld (pv 0) (pe_ix ix_tup (pv 1) pe_int (fun _ _ => rfl)) rfl)
      (pss_one (ps_ret (pe_lst (pa_cons (pv 1) pa_nil)))))), ?_⟩
    walk_at "rd"
    refine rd_ixT (k := 2) (SqT.of ha) rfl rfl ?_
    walk_at "rd"
    refine rd_fld hp T.cl_Hand T.at_Hand_number rfl ?_
    walk_at "rd"
    unfold Hd.told at q
    refine rd_dec (fun z => ?_) (fun z => ?_)
    · rw [if_pos z] at q
      walk_at "rd"
      refine ⟨Nat.zero_le _, fun l hl => ?_⟩
      exact q l [] _ hl upd_same .nil (Ex.new hl _ _ hp) (But.ex (Ex.new hl))
    · rw [if_neg z] at q
      walk_at "rd"
      refine rd_ixT (k := 2) (SqT.of ha) rfl rfl ?_
      walk_at "rd"
      refine rd_put hp T.cl_Hand T.at_Hand_known (by show 8 < 1000; decide) ?_
      walk_at "rd"
      refine ⟨(by show 1 ≤ sizeLine; decide), fun u hu => ?_⟩
      have hup : u ≠ p := fun e => by rw [e, upd_same] at hu; cases hu
      have hu0 := hu
      rw [upd_ne hup] at hu0
      have ha' : upd H p (.ins A.c_Hand dx (hf { h with known := some l.num })) a = some (.tup (lV l)) := by rw [upd_ne (ne_ti ha hp)]; exact ha
      exact q u _ _ hu0 upd_same (.one (Ex.new hu _ _ ha')) (Ex.new hu _ _ upd_same) (But.upd.trans (But.ex (Ex.new hu)))
theorem sc_Hand_answered : FnScope ["self", "letter"] ["self", "letter"] (defScope s_Hand_answered) := ⟨rfl, rfl, rfl, by decide +kernel, rfl, by decide +kernel, by decide +kernel⟩
theorem ok_Hand_answered (T : Txt K mg A) (G_Hand_asks : FnOk P w K mg base CX0 1 A.f_Hand_asks A.fd_Hand_asks ["self"] (spHAsks A.c_Hand)) : FnOk P w K mg base CX0 2 A.f_Hand_answered A.fd_Hand_answered ["self", "letter"] (spHLet A.c_Hand Hd.answered) := by
  refine T.fun_Hand_answered.ok sc_Hand_answered (fun vs H Q E h => ?_) (fun cdv Ar outer s H vs Q E hr h => ?_)
  · obtain ⟨p, dx, a, h, l, rfl, _⟩ := h
    rfl
  · obtain ⟨p, dx, a, h, l, rfl, hp, ha, q⟩ := h
    refine ⟨_, (pss_cons (ps_if (pt_cmpR op_ne (pe_ix ix_tup (pv 1) pe_int (fun _ _ => rfl)) (pe_fld (pv 0) rfl) (nomark _)) (pss_one (ps_ret (pe_lst (pa_cons (pv 1) pa_nil)))) pss_nil)
      (pss_cons (ps_fld (pv 0) (pe_op op_add (pe_fld (pv 0) rfl) pe_int) rfl)
      (pss_cons (ps_if (PW.pt (pw_or (pt_cmpR op_lt (pe_fld (pv 0) rfl) pe_int (nomark _)) (pw_or1 (pt_val (pe_fld (pv 0) rfl))))) (pss_one (ps_ret (pe_lst pa_nil))) pss_nil)
      (pss_cons (ps_fld (pv 0) pe_int rfl)
      (pss_cons (ps_fld (pv 0) (pe_op op_add (pe_fld (pv 0) rfl) pe_int) rfl)
      (pss_cons (ps_fld (pv 0) (pe_op op_mul pe_int (pe_fld (pv 0) rfl)) rfl)
      (pss_one (ps_ret (pe_meth0 (pv 0) T.cl_Hand T.mt_Hand_asks G_Hand_asks (hr.mono (by decide)) T.b_Hand_asks .nil pass0))))))))), ?_⟩
    walk_at "rd"
    refine rd_ixT (k := 2) (SqT.of ha) rfl rfl ?_
    walk_at "rd"
    refine rd_fld hp T.cl_Hand T.at_Hand_number rfl ?_
    walk_at "rd"
    unfold Hd.answered at q
    refine rd_ndec (fun z => ?_) (fun z => ?_)
    · rw [if_pos z] at q
      walk_at "rd"
      refine ⟨(by show 1 ≤ sizeLine; decide), fun u hu => ?_⟩
      exact q u _ _ hu upd_same (.one (Ex.new hu _ _ ha)) (Ex.new hu _ _ hp) (But.ex (Ex.new hu))
    · rw [if_neg (fun n => n z)] at q
      walk_at "rd"
      refine rd_fld hp T.cl_Hand T.at_Hand_came rfl ?_
      walk_at "rd"
      refine rd_put hp T.cl_Hand T.at_Hand_came (by show 8 < 1000; decide) ?_
      walk_at "rd"
      refine rd_fld upd_same T.cl_Hand T.at_Hand_came rfl ?_
      walk_at "rd"
      have fin1 : (h.came + 1 < 2 ∨ h.beaten = true) → ∀ u, upd H p (.ins A.c_Hand dx (hf { h with came := h.came + 1 })) u = none → Q (.ref u) (upd (upd H p (.ins A.c_Hand dx (hf { h with came := h.came + 1 }))) u (.lst [])) := by
        intro c u hu
        rw [if_pos c] at q
        have hup : u ≠ p := fun e => by rw [e, upd_same] at hu; cases hu
        have hu0 := hu
        rw [upd_ne hup] at hu0
        exact q u _ _ hu0 upd_same .nil (Ex.new hu _ _ upd_same) (But.upd.trans (But.ex (Ex.new hu)))
      refine rd_dec (fun c => ?_) (fun c => ?_)
      · refine iteT ?_
        walk_at "rd"
        exact ⟨Nat.zero_le _, fun u hu => fin1 (Or.inl c) u hu⟩
      · walk_at "rd"
        refine rd_fld upd_same T.cl_Hand T.at_Hand_beaten rfl ?_
        walk_at "rd"
        refine rd_ite (fun b => ?_) (fun b => ?_)
        · walk_at "rd"
          exact ⟨Nat.zero_le _, fun u hu => fin1 (Or.inr b) u hu⟩
        · rw [if_neg (fun n => n.elim c fun n => Bool.false_ne_true (b.symm.trans n))] at q
          walk_at "rd"
          refine rd_put upd_same T.cl_Hand T.at_Hand_came (by show 8 < 1000; decide) ?_
          walk_at "rd"
          refine rd_fld upd_same T.cl_Hand T.at_Hand_at rfl ?_
          walk_at "rd"
          refine rd_put upd_same T.cl_Hand T.at_Hand_at (by show 8 < 1000; decide) ?_
          walk_at "rd"
          refine rd_fld upd_same T.cl_Hand T.at_Hand_far rfl ?_
          walk_at "rd"
          refine rd_put upd_same T.cl_Hand T.at_Hand_far (by show 8 < 1000; decide) ?_
          walk_at "rd"
          refine rd_recv upd_same rfl ?_
          walk_at "rd"
          rw [upd_upd, upd_upd, upd_upd]
          refine ⟨p, dx, h.up, rfl, upd_same, ?_⟩
          intro u xs H' hu h1 t1 hp' b1
          have hup : u ≠ p := fun e => by rw [e, upd_same] at hu; cases hu
          rw [upd_ne hup] at hu
          exact q u xs H' hu h1 t1 hp' (But.upd.trans b1)
theorem sc_Hand_asked : FnScope ["self", "letter", "way", "word", "number", "stage", "steps"] ["self", "letter"] (defScope s_Hand_asked) := ⟨rfl, rfl, rfl, by decide +kernel, rfl, by decide +kernel, by decide +kernel⟩
theorem ok_Hand_asked (T : Txt K mg A) : FnOk P w K mg base CX0 1 A.f_Hand_asked A.fd_Hand_asked ["self", "letter"] (spHLet A.c_Hand Hd.asked) := by
  refine T.fun_Hand_asked.ok sc_Hand_asked (fun vs H Q E h => ?_) (fun cdv Ar outer s H vs Q E hr h => ?_)
  · obtain ⟨p, dx, a, h, l, rfl, _⟩ := h
    rfl
  · obtain ⟨p, dx, a, h, l, rfl, hp, ha, q⟩ := h
    refine ⟨_, (pss_cons (ps_asg (pv 1) (pg_tup (by rfl) (pgs_cons (pg_name (i := 2) sc_Hand_asked.nd rfl (Or.inl rfl)) (pgs_cons (pg_name (i := 3) sc_Hand_asked.nd rfl (Or.inl rfl)) (pgs_cons (pg_name (i := 4) sc_Hand_asked.nd rfl (Or.inl rfl)) (pgs_cons (pg_name (i := 5) sc_Hand_asked.nd rfl (Or.inl rfl)) (pgs_cons (pg_name (i := 6) sc_Hand_asked.nd rfl (Or.inl rfl)) pgs_nil)))))))
      (pss_cons (ps_if (PW.pt (pw_and (pt_cmpR op_eq (pv 4) (pe_fld (pv 0) rfl) (nomark _)) (pw_and1 (pt_not (pt_val (pe_fld (pv 0) rfl)))))) (pss_cons (ps_fld (pv 0) pe_bl rfl)
      (pss_cons (ps_fld (pv 0) (pv 4) rfl)
      (pss_one (ps_ret (pe_lst (pa_cons (pe_tup (pa_cons (pe_gint rfl T.mg_RIGHT) (pa_cons pe_str (pa_cons (pv 4) (pa_cons pe_int (pa_cons pe_int pa_nil)))))) pa_nil)))))) pss_nil)
      (pss_cons (ps_if (pt_cmpR op_le (pv 4) (pe_fld (pv 0) rfl) (nomark _)) (pss_one (ps_ret (pe_lst pa_nil))) pss_nil)
      (pss_cons (ps_fld (pv 0) pe_bl rfl)
      (pss_cons (ps_if (pt_cmpR op_gt (pv 6) pe_int (nomark _)) (pss_one (ps_ret (pe_lst (pa_cons (pe_tup (pa_cons (pv 2) (pa_cons (pv 3) (pa_cons (pv 4) (pa_cons (pv 5) (pa_cons (pe_op op_sub (pv 6) pe_int) pa_nil)))))) pa_nil)))) pss_nil)
      (pss_one (ps_ret (pe_lst (pa_cons (pe_tup (pa_cons (pe_un un_neg (pv 2)) (pa_cons pe_str (pa_cons (pv 4) (pa_cons (pv 5) (pa_cons pe_int pa_nil)))))) pa_nil))))))))), ?_⟩
    walk_at "rd"
    refine ⟨a, lV l, rfl, SqT.of ha, rfl, ?_⟩
    refine ⟨_, _, rfl, ?_⟩
    refine ⟨_, _, rfl, ?_⟩
    refine ⟨_, _, rfl, ?_⟩
    refine ⟨_, _, rfl, ?_⟩
    refine ⟨_, _, rfl, ?_⟩
    refine ⟨rfl, ?_⟩
    walk_at "rd"
    refine rd_fld hp T.cl_Hand T.at_Hand_number rfl ?_
    walk_at "rd"
    unfold Hd.asked at q
    -- a letter made anew, alone in a new list
    have send : ∀ (h' : Hd) (l' : Lt) (t : Addr), upd H p (.ins A.c_Hand dx (hf h')) t = none → ∀ u, upd (upd H p (.ins A.c_Hand dx (hf h'))) t (.tup (lV l')) u = none → Sends A.c_Hand p dx H h' [l'] Q →
        Q (.ref u) (upd (upd (upd H p (.ins A.c_Hand dx (hf h'))) t (.tup (lV l'))) u (.lst [.ref t])) := by
      intro h' l' t ht u hu q
      have h1 := Ex.new (o := .tup (lV l')) ht _ _ upd_same
      have hup : u ≠ p := fun e => by rw [e, h1] at hu; cases hu
      have hu0 := fresh_back (Ex.new ht) hu
      rw [upd_ne hup] at hu0
      exact q u _ _ hu0 upd_same (.one (Ex.new hu _ _ upd_same)) (Ex.new hu _ _ h1) (But.upd.trans (But.ex ((Ex.new ht).trans (Ex.new hu))))
    have none1 : Sends A.c_Hand p dx H h [] Q → ∀ u, H u = none → Q (.ref u) (upd H u (.lst [])) := fun q u hu => q u _ _ hu upd_same .nil (Ex.new hu _ _ hp) (But.ex (Ex.new hu))
    refine rd_dec (fun c => ?_) (fun c => ?_)
    · walk_at "rd"
      refine rd_fld hp T.cl_Hand T.at_Hand_crowned rfl ?_
      walk_at "rd"
      cases b : h.crowned with
      | false =>
        rw [if_pos ⟨c, b⟩] at q
        refine iteT ?_
        walk_at "rd"
        refine rd_put hp T.cl_Hand T.at_Hand_crowned (by show 8 < 1000; decide) ?_
        walk_at "rd"
        refine rd_put upd_same T.cl_Hand T.at_Hand_known (by show 8 < 1000; decide) ?_
        walk_at "rd"
        rw [upd_upd]
        refine ⟨(by show 5 ≤ sizeLine; decide), fun t ht => ?_⟩
        walk_at "rd"
        exact ⟨(by show 1 ≤ sizeLine; decide), fun u hu => send { h with crowned := true, known := some l.num } ⟨1, .crown, l.num, 0, 0⟩ t ht u hu q⟩
      | true =>
        rw [if_neg (fun z => by rw [b] at z; cases z.2), if_pos (by omega)] at q
        refine iteF ?_
        walk_at "rd"
        refine rd_fld hp T.cl_Hand T.at_Hand_number rfl ?_
        walk_at "rd"
        refine rd_dec (fun _ => ?_) (fun z => absurd (show l.num ≤ h.num by omega) z)
        walk_at "rd"
        exact ⟨Nat.zero_le _, fun u hu => none1 q u hu⟩
    · rw [if_neg (fun z => c z.1)] at q
      refine iteF ?_
      walk_at "rd"
      refine rd_fld hp T.cl_Hand T.at_Hand_number rfl ?_
      walk_at "rd"
      refine rd_dec (fun z => ?_) (fun z => ?_)
      · rw [if_pos z] at q
        walk_at "rd"
        exact ⟨Nat.zero_le _, fun u hu => none1 q u hu⟩
      · rw [if_neg z] at q
        walk_at "rd"
        refine rd_put hp T.cl_Hand T.at_Hand_beaten (by show 8 < 1000; decide) ?_
        walk_at "rd"
        refine rd_dec (fun z1 => ?_) (fun z1 => ?_)
        · rw [if_pos z1] at q
          walk_at "rd"
          refine ⟨(by show 5 ≤ sizeLine; decide), fun t ht => ?_⟩
          walk_at "rd"
          exact ⟨(by show 1 ≤ sizeLine; decide), fun u hu => send { h with beaten := true } ⟨l.way, l.word, l.num, l.stg, l.stp - 1⟩ t ht u hu q⟩
        · rw [if_neg z1] at q
          walk_at "rd"
          refine ⟨(by show 5 ≤ sizeLine; decide), fun t ht => ?_⟩
          walk_at "rd"
          exact ⟨(by show 1 ≤ sizeLine; decide), fun u hu => send { h with beaten := true } ⟨-l.way, .answer, l.num, l.stg, 0⟩ t ht u hu q⟩
theorem sc_Hand_take : FnScope ["self", "letter", "found"] ["self", "letter"] (defScope s_Hand_take) := ⟨rfl, rfl, rfl, by decide +kernel, rfl, by decide +kernel, by decide +kernel⟩
theorem ok_Hand_take (T : Txt K mg A) (G_Hand_wake : FnOk P w K mg base CX0 2 A.f_Hand_wake A.fd_Hand_wake ["self"] (spHWake A.c_Hand)) (G_Hand_asked : FnOk P w K mg base CX0 1 A.f_Hand_asked A.fd_Hand_asked ["self", "letter"] (spHLet A.c_Hand Hd.asked))
    (G_Hand_answered : FnOk P w K mg base CX0 2 A.f_Hand_answered A.fd_Hand_answered ["self", "letter"] (spHLet A.c_Hand Hd.answered)) (G_Hand_told : FnOk P w K mg base CX0 1 A.f_Hand_told A.fd_Hand_told ["self", "letter"] (spHLet A.c_Hand Hd.told)) :
    FnOk P w K mg base CX0 3 A.f_Hand_take A.fd_Hand_take ["self", "letter"] (spHLet A.c_Hand Hd.take) := by
  refine T.fun_Hand_take.ok sc_Hand_take (fun vs H Q E h => ?_) (fun cdv Ar outer s H vs Q E hr h => ?_)
  · obtain ⟨p, dx, a, h, l, rfl, _⟩ := h
    rfl
  · obtain ⟨p, dx, a, h, l, rfl, hp, ha, q⟩ := h
    refine ⟨_, (pss_cons (ps_set (i := 2) sc_Hand_take.nd rfl (Or.inl rfl) (pe_meth0 (pv 0) T.cl_Hand T.mt_Hand_wake G_Hand_wake (hr.mono (by decide)) T.b_Hand_wake .nil pass0))
      (pss_cons (ps_if (pt_cmpR op_eq (pe_ix ix_tup (pv 1) pe_int (fun _ _ => rfl)) pe_str (nomark _)) (pss_one (ps_ret (pe_op op_cat (pv 2) (pe_meth (pv 0) T.cl_Hand T.mt_Hand_asked G_Hand_asked (hr.mono (by decide)) T.b_Hand_asked .nil pass0 (pa_cons (pv 1) pa_nil))))) pss_nil)
      (pss_cons (ps_if (pt_cmpR op_eq (pe_ix ix_tup (pv 1) pe_int (fun _ _ => rfl)) pe_str (nomark _)) (pss_one (ps_ret (pe_op op_cat (pv 2) (pe_meth (pv 0) T.cl_Hand T.mt_Hand_answered G_Hand_answered (hr.mono (by decide)) T.b_Hand_answered .nil pass0 (pa_cons (pv 1) pa_nil))))) pss_nil)
      (pss_one (ps_ret (pe_op op_cat (pv 2) (pe_meth (pv 0) T.cl_Hand T.mt_Hand_told G_Hand_told (hr.mono (by decide)) T.b_Hand_told .nil pass0 (pa_cons (pv 1) pa_nil)))))))), ?_⟩
    walk_at "rd"
    refine rd_recv hp rfl ?_
    walk_at "rd"
    refine ⟨p, dx, h, rfl, hp, ?_⟩
    intro f1 xs1 H1 hf1 hx1 t1 hp1 b1
    have ha1 := b1 _ _ ha (ne_ti ha hp)
    have nfp : f1 ≠ p := ne_li hx1 hp1
    walk_at "rd"
    refine rd_ixT (k := 1) (SqT.of ha1) rfl rfl ?_
    walk_at "rd"
    refine rd_eq rfl ?_
    walk_at "rd"
    -- what follows each of the three: found + what it sends
    have fin : ∀ (g : Hd → Lt → Hd × List Lt), h.wk.proc l = g h.wk l → Sends A.c_Hand p dx H1 (g h.wk l).1 (g h.wk l).2 (fun x H2 => rCat (.ref f1) x H2 Q) := by
      intro g eg f2 xs2 H2 hf2 hx2 t2 hp2 b2
      have h12 := b2 _ _ hx1 nfp
      have nf2 : f2 ≠ p := ne_li hx2 hp2
      have l1 : xs1.length ≤ 2 := by rw [t1.len]; unfold Hd.wls Hd.asks; split <;> simp
      have l2 : xs2.length ≤ 2 := by
        rw [t2.len, ← eg]
        exact RC.proc_len _ _
      refine ⟨f1, f2, xs1, xs2, rfl, rfl, h12, hx2, sz_of (by omega), fun r hr2 => ?_⟩
      have nrp : r ≠ p := fun e => by rw [e, hp2] at hr2; cases hr2
      have im1 : Tups lV H2 xs1 h.wls := t1.imp fun b ts hb => b2 _ _ hb (ne_ti hb hp1)
      have hr0 : H r = none := b1.free (b2.free hr2 nrp) nrp
      refine q r _ _ hr0 upd_same ?_ (Ex.new hr2 _ _ ?_) (b1.trans (b2.trans (But.ex (Ex.new hr2))))
      · have e2 : (h.take l).2 = h.wls ++ (g h.wk l).2 := by rw [← eg]; rfl
        rw [e2]
        exact (im1.app t2).ex (Ex.new hr2)
      · have e1 : (h.take l).1 = (g h.wk l).1 := by rw [← eg]; rfl
        rw [e1]
        exact hp2
    cases ew : l.word with
    | ask =>
      rw [show decide (V.str (wS Wd.ask) = V.str "ask") = true from decide_eq_true rfl]
      refine iteT ?_
      walk_at "rd"
      refine rd_recv hp1 rfl ?_
      walk_at "rd"
      exact ⟨p, dx, a, h.wk, l, rfl, hp1, ha1, fin Hd.asked (by unfold Hd.proc; rw [ew])⟩
    | answer =>
      rw [show decide (V.str (wS Wd.answer) = V.str "ask") = false from dec_str_ne (by decide +kernel)]
      refine iteF ?_
      walk_at "rd"
      refine rd_ixT (k := 1) (SqT.of ha1) rfl rfl ?_
      walk_at "rd"
      refine rd_eq rfl ?_
      walk_at "rd"
      rw [ew, show decide (V.str (wS Wd.answer) = V.str "answer") = true from decide_eq_true rfl]
      refine iteT ?_
      walk_at "rd"
      refine rd_recv hp1 rfl ?_
      walk_at "rd"
      exact ⟨p, dx, a, h.wk, l, rfl, hp1, ha1, fin Hd.answered (by unfold Hd.proc; rw [ew])⟩
    | crown =>
      rw [show decide (V.str (wS Wd.crown) = V.str "ask") = false from dec_str_ne (by decide +kernel)]
      refine iteF ?_
      walk_at "rd"
      refine rd_ixT (k := 1) (SqT.of ha1) rfl rfl ?_
      walk_at "rd"
      refine rd_eq rfl ?_
      walk_at "rd"
      rw [ew, show decide (V.str (wS Wd.crown) = V.str "answer") = false from dec_str_ne (by decide +kernel)]
      refine iteF ?_
      walk_at "rd"
      refine rd_recv hp1 rfl ?_
      walk_at "rd"
      exact ⟨p, dx, a, h.wk, l, rfl, hp1, ha1, fin Hd.told (by unfold Hd.proc; rw [ew])⟩

/-! ### the ring -/
theorem sc_Ring_hand : FnScope ["self", "place"] ["self", "place"] (defScope s_Ring_hand) := ⟨rfl, rfl, rfl, by decide +kernel, rfl, by decide +kernel, by decide +kernel⟩
theorem ok_Ring_hand (T : Txt K mg A) (G_is_whole : FnOk P w K mg base CX0 1 A.f_is_whole A.fd_is_whole ["thing"] (spWhole K)) : FnOk P w K mg base (L2.CX P w) 2 A.f_Ring_hand A.fd_Ring_hand ["self", "place"] (spRHand K A.c_Ring A.c_Hand A.c_NoHand) := by
  refine T.fun_Ring_hand.okX sc_Ring_hand (fun vs H Q E h => ?_) (fun cdv Ar outer s H vs Q E hr h => ?_)
  · obtain ⟨p, l, m, as, S, v, rfl, _⟩ := h
    rfl
  · obtain ⟨p, l, m, as, S, v, rfl, R, kv, k⟩ := h
    obtain ⟨dx, hp⟩ := R.ob
    refine ⟨_, (pss_cons (ps_if (PW.pt (pw_or (pt_not (pt_val (pe_call G_is_whole (hr.mono (by decide)) rfl T.mg_is_whole T.fun_is_whole.kp T.b_is_whole .nil pass0 (pa_cons (pv 1) pa_nil)))) (pw_or1 (pt_cmpR op_ge (pv 1) (pe_callB call_lenN (by rfl) T.no_len (by decide +kernel) (pa_cons (pe_fld (pv 0) rfl) pa_nil)) (nomark _))))) (pss_one (ps_raise rfl (takes_of rfl rfl rfl rfl) (pmk_own PySem.F.excBase_ValueError T.x_NoHand.xP T.mg_NoHand T.x_NoHand.kP T.x_NoHand.raises rfl))) pss_nil)
      (pss_one (ps_ret (pe_ix ix_list (pe_fld (pv 0) rfl) (pv 1) (fun _ _ => rfl))))), ?_⟩
    walk_at "rd"
    refine ⟨v, rfl, kv, ?_⟩
    refine rd_bl ?_
    rcases k with ⟨i, a, hi, ha, q⟩ | ⟨hno, q⟩
    · obtain ⟨rfl, hlt⟩ := placeOf_some hi
      rw [show wholeV (.int ((i : Nat) : Int)) = true from decide_eq_true (Int.natCast_nonneg i)]
      walk_at "rd"
      refine rd_fld hp T.cl_Ring T.at_Ring_hands rfl ?_
      walk_at "rd"
      refine rd_len (SqL.of R.hl) ?_
      walk_at "rd"
      rw [List.length_map, R.len, show decide (((S.hands.length : Nat) : Int) ≤ ((i : Nat) : Int)) = false from decide_eq_false (by omega)]
      walk_at "rd"
      refine rd_fld hp T.cl_Ring T.at_Ring_hands rfl ?_
      walk_at "rd"
      exact rd_ixL (k := i) (v := .ref a) (SqL.of R.hl) rfl (by rw [List.getElem?_map, ha]; rfl) q
    · refine rd_ite (fun _ => q) (fun z => ?_)
      have z' : wholeV v = true := by simpa using z
      obtain ⟨i, rfl, hi⟩ := placeOf_none hno z'
      walk_at "rd"
      refine rd_fld hp T.cl_Ring T.at_Ring_hands rfl ?_
      walk_at "rd"
      refine rd_len (SqL.of R.hl) ?_
      walk_at "rd"
      rw [List.length_map, R.len, show decide (((S.hands.length : Nat) : Int) ≤ i) = true from decide_eq_true hi]
      exact iteT q
theorem sc_Ring_put : FnScope ["self", "place", "letters", "letter"] ["self", "place", "letters"] (defScope s_Ring_put) := ⟨rfl, rfl, rfl, by decide +kernel, rfl, by decide +kernel, by decide +kernel⟩
theorem ok_Ring_put (T : Txt K mg A) : FnOk P w K mg base CX0 1 A.f_Ring_put A.fd_Ring_put ["self", "place", "letters"] (spRPut A.c_Ring A.c_Hand) := by
  refine T.fun_Ring_put.ok sc_Ring_put (fun vs H Q E h => ?_) (fun cdv Ar outer s H vs Q E hr h => ?_)
  · obtain ⟨p, l, m, as, S, q, f, xs, ls, rfl, _⟩ := h
    rfl
  · obtain ⟨p, l, m, as, S, q, f, xs, ls, rfl, R, hq, hf, hfm, tl, hz, k⟩ := h
    refine ⟨_, (pss_one (ps_for PassesOwn.never rfl (pi_list (pv 2)) (pg_name (i := 3) sc_Ring_put.nd rfl (Or.inl rfl)) (pss_cons (ps_expr (pe_bm PySem.F.plainAttrs_list PySem.F.slot_list_append PySem.F.type_list_append mt_append (pe_fld (pv 0) rfl) (pa_cons (pe_op op_catT (pe_tup (pa_cons (pe_op op_mod (pe_op op_add (pv 1) (pe_ix ix_tup (pv 3) pe_int (fun _ _ => rfl))) (pe_callB call_lenN (by rfl) T.no_len (by decide +kernel) (pa_cons (pe_fld (pv 0) rfl) pa_nil))) pa_nil)) (pv 3)) pa_nil)))
      (pss_one (ps_fld (pv 0) (pe_op op_add (pe_fld (pv 0) rfl) pe_int) rfl))))), ?_⟩
    walk_at "rd"
    refine for_L (SqL.of hf) (fun i σ H' => RingAt A.c_Ring A.c_Hand H' p l m as (S.put q (ls.take i)) ∧ Keep p m as H H' ∧ ∃ v : Option V, σ = [some (.ref p), some (.int ((q : Nat) : Int)), some (.ref f), v])
      ⟨by simpa [Rg.put] using R, Keep.refl _ _ _ _, none, rfl⟩ (fun i σ H' _ z => SqL.of (R.keep_l hf hfm z.2.1)) ?_ ?_
    · rintro i x σ H' hi ⟨R1, k1, v, rfl⟩
      obtain ⟨t, y, rfl, hy, hty⟩ := tl.get hi
      have ht1 := R.keep_t hty k1
      obtain ⟨dx, hp1⟩ := R1.ob
      obtain ⟨ys, hm1, tm1⟩ := R1.pl
      have nh : (S.put q (ls.take i)).hands.length = S.hands.length := rfl
      have hpos : 0 < S.hands.length := R.pos
      have hys : ys.length < 100000 := by
        rw [tm1.len]
        show (S.post ++ (ls.take i).map _).length < 100000
        rw [List.length_append, List.length_map, List.length_take]
        omega
      walk_at "rd"
      refine rd_fld hp1 T.cl_Ring T.at_Ring_post rfl ?_
      refine ⟨.inl ⟨rfl, ys, SqL.of hm1⟩, ?_⟩
      walk_at "rd"
      refine rd_ixT (k := 0) (SqT.of ht1) rfl rfl ?_
      walk_at "rd"
      refine rd_fld hp1 T.cl_Ring T.at_Ring_hands rfl ?_
      walk_at "rd"
      refine rd_len (SqL.of R1.hl) ?_
      rw [List.length_map, R1.len, nh]
      refine rd_I (show (0 : Int) < ((S.hands.length : Nat) : Int) by omega) ?_
      walk_at "rd"
      refine ⟨(by show 1 ≤ sizeLine; decide), fun u hu => ?_⟩
      walk_at "rd"
      have ht2 := Ex.new (o := .tup [V.int ((((q : Nat) : Int) + y.way) % ((S.hands.length : Nat) : Int))]) hu _ _ ht1
      refine ⟨u, t, _, lV y, rfl, rfl, SqT.of upd_same, SqT.of ht2, (by simp), (by show 1 + 5 ≤ sizeLine; decide), fun z => (by cases z), fun _ r hr' => ?_⟩
      have et : [V.int ((((q : Nat) : Int) + y.way) % ((S.hands.length : Nat) : Int))] ++ lV y = mV (RC.nxt S.hands.length q y.way, y) := by
        show V.int _ :: lV y = V.int ((RC.nxt S.hands.length q y.way : Nat) : Int) :: lV y
        rw [nxt_cast hpos]
      rw [et]
      walk_at "rd"
      have e2 := (Ex.new (o := .tup [V.int ((((q : Nat) : Int) + y.way) % ((S.hands.length : Nat) : Int))]) hu).trans (Ex.new (o := .tup (mV (RC.nxt S.hands.length q y.way, y))) hr')
      generalize hH2 : upd (upd H' u (.tup [V.int ((((q : Nat) : Int) + y.way) % ((S.hands.length : Nat) : Int))])) r (.tup (mV (RC.nxt S.hands.length q y.way, y))) = H2 at e2 ⊢
      have hr2 : H2 r = some (.tup (mV (RC.nxt S.hands.length q y.way, y))) := by rw [← hH2]; exact upd_same
      have R2 := R1.ex e2
      have hm2 := e2 _ _ hm1
      have hp2 := e2 _ _ hp1
      have npm : p ≠ m := (ne_li hm1 hp1).symm
      refine ⟨m, ys, .ref r, rfl, rfl, hm2, sz_lt hys, ?_⟩
      walk_at "rd"
      refine rd_fld (by rw [upd_ne npm]; exact hp2) T.cl_Ring T.at_Ring_many rfl ?_
      walk_at "rd"
      refine rd_put (by rw [upd_ne npm]; exact hp2) T.cl_Ring T.at_Ring_many (by show 3 < 1000; decide) ?_
      have R3 := R2.post hm2 (tm1.ex e2) hr2 (nxt_lt hpos) hp2
      have k3 : Keep p m as H' (upd (upd H2 m (.lst (ys ++ [.ref r]))) p (.ins A.c_Ring dx (rf l m ((S.put q (ls.take i)).many + 1)))) := fun b o hb n1 n2 _ => by
        rw [upd_ne n1, upd_ne n2]; exact e2 _ _ hb
      rw [put_more hy]
      exact ⟨R3, k1.trans k3, _, rfl⟩
    · rintro σ H' ⟨R1, k1, v, rfl⟩
      rw [tl.len, List.take_length] at R1
      exact k H' R1 k1
theorem sc_Ring_mails : FnScope ["self"] ["self"] (defScope s_Ring_mails) := ⟨rfl, rfl, rfl, by decide +kernel, rfl, by decide +kernel, by decide +kernel⟩
theorem ok_Ring_mails (T : Txt K mg A) : FnOk P w K mg base CX0 1 A.f_Ring_mails A.fd_Ring_mails ["self"] (spRMails A.c_Ring A.c_Hand) := by
  refine T.fun_Ring_mails.ok sc_Ring_mails (fun vs H Q E h => ?_) (fun cdv Ar outer s H vs Q E hr h => ?_)
  · obtain ⟨p, l, m, as, S, rfl, _⟩ := h
    rfl
  · obtain ⟨p, l, m, as, S, rfl, R, k⟩ := h
    obtain ⟨dx, hp⟩ := R.ob
    obtain ⟨xs, hm, tm⟩ := R.pl
    refine ⟨_, (pss_one (ps_ret (pe_callTy call_listN (by rfl) T.no_list (by decide +kernel) (pa_cons (pe_fld (pv 0) rfl) pa_nil)))), ?_⟩
    walk_at "rd"
    refine rd_fld hp T.cl_Ring T.at_Ring_post rfl ?_
    walk_at "rd"
    exact rd_listL (SqL.of hm) fun u hu => k u xs hu hm tm
theorem sc_Ring_sent : FnScope ["self"] ["self"] (defScope s_Ring_sent) := ⟨rfl, rfl, rfl, by decide +kernel, rfl, by decide +kernel, by decide +kernel⟩
theorem ok_Ring_sent (T : Txt K mg A) : FnOk P w K mg base CX0 1 A.f_Ring_sent A.fd_Ring_sent ["self"] (spRSent A.c_Ring A.c_Hand) := by
  refine T.fun_Ring_sent.ok sc_Ring_sent (fun vs H Q E h => ?_) (fun cdv Ar outer s H vs Q E hr h => ?_)
  · obtain ⟨p, l, m, as, S, rfl, _⟩ := h
    rfl
  · obtain ⟨p, l, m, as, S, rfl, R, k⟩ := h
    obtain ⟨dx, hp⟩ := R.ob
    refine ⟨_, (pss_one (ps_ret (pe_fld (pv 0) rfl))), ?_⟩
    walk_at "rd"
    exact rd_fld hp T.cl_Ring T.at_Ring_many rfl k
theorem sc_Ring_is_awake : FnScope ["self", "place"] ["self", "place"] (defScope s_Ring_is_awake) := ⟨rfl, rfl, rfl, by decide +kernel, rfl, by decide +kernel, by decide +kernel⟩
theorem ok_Ring_is_awake (T : Txt K mg A) (G_Ring_hand : FnOk P w K mg base (L2.CX P w) 2 A.f_Ring_hand A.fd_Ring_hand ["self", "place"] (spRHand K A.c_Ring A.c_Hand A.c_NoHand)) (G_Hand_is_awake : FnOk P w K mg base CX0 1 A.f_Hand_is_awake A.fd_Hand_is_awake ["self"] (spHAsk A.c_Hand (fun h => .bl h.awake))) :
    FnOk P w K mg base (L2.CX P w) 3 A.f_Ring_is_awake A.fd_Ring_is_awake ["self", "place"] (spRAsk K A.c_Ring A.c_Hand A.c_NoHand (fun h => .bl h.awake)) := by
  refine T.fun_Ring_is_awake.okX sc_Ring_is_awake (fun vs H Q E h => ?_) (fun cdv Ar outer s H vs Q E hr h => ?_)
  · obtain ⟨p, l, m, as, S, v, rfl, _⟩ := h
    rfl
  · obtain ⟨p, l, m, as, S, v, rfl, R, kv, k⟩ := h
    obtain ⟨dx, hp⟩ := R.ob
    refine ⟨_, (pss_one (ps_ret (pe_meth0 (pe_meth (pv 0) T.cl_Ring T.mt_Ring_hand G_Ring_hand (hr.mono (by decide)) T.b_Ring_hand .nil (passR (fun _ _ _ _ z => z) (takes_of rfl rfl rfl rfl)) (pa_cons (pv 1) pa_nil)) T.cl_Hand T.mt_Hand_is_awake G_Hand_is_awake (hr.mono (by decide)) T.b_Hand_is_awake .nil pass0))), ?_⟩
    walk_at "rd"
    refine rd_recv hp rfl ?_
    walk_at "rd"
    refine ⟨p, l, m, as, S, v, rfl, R, kv, ?_⟩
    rcases k with ⟨i, hi, q⟩ | ⟨hno, q⟩
    · obtain ⟨a, da, ha, _, hha⟩ := R.at_ (placeOf_some hi).2
      refine .inl ⟨i, a, hi, ha, ?_⟩
      refine rd_recv hha rfl ?_
      walk_at "rd"
      exact ⟨a, da, S.h i, rfl, hha, q⟩
    · exact .inr ⟨hno, q⟩
theorem sc_Ring_is_first : FnScope ["self", "place"] ["self", "place"] (defScope s_Ring_is_first) := ⟨rfl, rfl, rfl, by decide +kernel, rfl, by decide +kernel, by decide +kernel⟩
theorem ok_Ring_is_first (T : Txt K mg A) (G_Ring_hand : FnOk P w K mg base (L2.CX P w) 2 A.f_Ring_hand A.fd_Ring_hand ["self", "place"] (spRHand K A.c_Ring A.c_Hand A.c_NoHand)) (G_Hand_is_first : FnOk P w K mg base CX0 1 A.f_Hand_is_first A.fd_Hand_is_first ["self"] (spHAsk A.c_Hand (fun h => .bl h.crowned))) :
    FnOk P w K mg base (L2.CX P w) 3 A.f_Ring_is_first A.fd_Ring_is_first ["self", "place"] (spRAsk K A.c_Ring A.c_Hand A.c_NoHand (fun h => .bl h.crowned)) := by
  refine T.fun_Ring_is_first.okX sc_Ring_is_first (fun vs H Q E h => ?_) (fun cdv Ar outer s H vs Q E hr h => ?_)
  · obtain ⟨p, l, m, as, S, v, rfl, _⟩ := h
    rfl
  · obtain ⟨p, l, m, as, S, v, rfl, R, kv, k⟩ := h
    obtain ⟨dx, hp⟩ := R.ob
    refine ⟨_, (pss_one (ps_ret (pe_meth0 (pe_meth (pv 0) T.cl_Ring T.mt_Ring_hand G_Ring_hand (hr.mono (by decide)) T.b_Ring_hand .nil (passR (fun _ _ _ _ z => z) (takes_of rfl rfl rfl rfl)) (pa_cons (pv 1) pa_nil)) T.cl_Hand T.mt_Hand_is_first G_Hand_is_first (hr.mono (by decide)) T.b_Hand_is_first .nil pass0))), ?_⟩
    walk_at "rd"
    refine rd_recv hp rfl ?_
    walk_at "rd"
    refine ⟨p, l, m, as, S, v, rfl, R, kv, ?_⟩
    rcases k with ⟨i, hi, q⟩ | ⟨hno, q⟩
    · obtain ⟨a, da, ha, _, hha⟩ := R.at_ (placeOf_some hi).2
      refine .inl ⟨i, a, hi, ha, ?_⟩
      refine rd_recv hha rfl ?_
      walk_at "rd"
      exact ⟨a, da, S.h i, rfl, hha, q⟩
    · exact .inr ⟨hno, q⟩
theorem sc_Ring_stage : FnScope ["self", "place"] ["self", "place"] (defScope s_Ring_stage) := ⟨rfl, rfl, rfl, by decide +kernel, rfl, by decide +kernel, by decide +kernel⟩
theorem ok_Ring_stage (T : Txt K mg A) (G_Ring_hand : FnOk P w K mg base (L2.CX P w) 2 A.f_Ring_hand A.fd_Ring_hand ["self", "place"] (spRHand K A.c_Ring A.c_Hand A.c_NoHand)) (G_Hand_stage : FnOk P w K mg base CX0 1 A.f_Hand_stage A.fd_Hand_stage ["self"] (spHAsk A.c_Hand stageV)) :
    FnOk P w K mg base (L2.CX P w) 3 A.f_Ring_stage A.fd_Ring_stage ["self", "place"] (spRAsk K A.c_Ring A.c_Hand A.c_NoHand stageV) := by
  refine T.fun_Ring_stage.okX sc_Ring_stage (fun vs H Q E h => ?_) (fun cdv Ar outer s H vs Q E hr h => ?_)
  · obtain ⟨p, l, m, as, S, v, rfl, _⟩ := h
    rfl
  · obtain ⟨p, l, m, as, S, v, rfl, R, kv, k⟩ := h
    obtain ⟨dx, hp⟩ := R.ob
    refine ⟨_, (pss_one (ps_ret (pe_meth0 (pe_meth (pv 0) T.cl_Ring T.mt_Ring_hand G_Ring_hand (hr.mono (by decide)) T.b_Ring_hand .nil (passR (fun _ _ _ _ z => z) (takes_of rfl rfl rfl rfl)) (pa_cons (pv 1) pa_nil)) T.cl_Hand T.mt_Hand_stage G_Hand_stage (hr.mono (by decide)) T.b_Hand_stage .nil pass0))), ?_⟩
    walk_at "rd"
    refine rd_recv hp rfl ?_
    walk_at "rd"
    refine ⟨p, l, m, as, S, v, rfl, R, kv, ?_⟩
    rcases k with ⟨i, hi, q⟩ | ⟨hno, q⟩
    · obtain ⟨a, da, ha, _, hha⟩ := R.at_ (placeOf_some hi).2
      refine .inl ⟨i, a, hi, ha, ?_⟩
      refine rd_recv hha rfl ?_
      walk_at "rd"
      exact ⟨a, da, S.h i, rfl, hha, q⟩
    · exact .inr ⟨hno, q⟩
theorem sc_Ring_knows : FnScope ["self", "place"] ["self", "place"] (defScope s_Ring_knows) := ⟨rfl, rfl, rfl, by decide +kernel, rfl, by decide +kernel, by decide +kernel⟩
theorem ok_Ring_knows (T : Txt K mg A) (G_Ring_hand : FnOk P w K mg base (L2.CX P w) 2 A.f_Ring_hand A.fd_Ring_hand ["self", "place"] (spRHand K A.c_Ring A.c_Hand A.c_NoHand)) (G_Hand_knows : FnOk P w K mg base CX0 1 A.f_Hand_knows A.fd_Hand_knows ["self"] (spHAsk A.c_Hand (fun h => kV h.known))) :
    FnOk P w K mg base (L2.CX P w) 3 A.f_Ring_knows A.fd_Ring_knows ["self", "place"] (spRAsk K A.c_Ring A.c_Hand A.c_NoHand (fun h => kV h.known)) := by
  refine T.fun_Ring_knows.okX sc_Ring_knows (fun vs H Q E h => ?_) (fun cdv Ar outer s H vs Q E hr h => ?_)
  · obtain ⟨p, l, m, as, S, v, rfl, _⟩ := h
    rfl
  · obtain ⟨p, l, m, as, S, v, rfl, R, kv, k⟩ := h
    obtain ⟨dx, hp⟩ := R.ob
    refine ⟨_, (pss_one (ps_ret (pe_meth0 (pe_meth (pv 0) T.cl_Ring T.mt_Ring_hand G_Ring_hand (hr.mono (by decide)) T.b_Ring_hand .nil (passR (fun _ _ _ _ z => z) (takes_of rfl rfl rfl rfl)) (pa_cons (pv 1) pa_nil)) T.cl_Hand T.mt_Hand_knows G_Hand_knows (hr.mono (by decide)) T.b_Hand_knows .nil pass0))), ?_⟩
    walk_at "rd"
    refine rd_recv hp rfl ?_
    walk_at "rd"
    refine ⟨p, l, m, as, S, v, rfl, R, kv, ?_⟩
    rcases k with ⟨i, hi, q⟩ | ⟨hno, q⟩
    · obtain ⟨a, da, ha, _, hha⟩ := R.at_ (placeOf_some hi).2
      refine .inl ⟨i, a, hi, ha, ?_⟩
      refine rd_recv hha rfl ?_
      walk_at "rd"
      exact ⟨a, da, S.h i, rfl, hha, q⟩
    · exact .inr ⟨hno, q⟩
theorem sc_Ring_wake : FnScope ["self", "place", "letters"] ["self", "place"] (defScope s_Ring_wake) := ⟨rfl, rfl, rfl, by decide +kernel, rfl, by decide +kernel, by decide +kernel⟩
theorem ok_Ring_wake (T : Txt K mg A) (G_Ring_hand : FnOk P w K mg base (L2.CX P w) 2 A.f_Ring_hand A.fd_Ring_hand ["self", "place"] (spRHand K A.c_Ring A.c_Hand A.c_NoHand)) (G_Hand_wake : FnOk P w K mg base CX0 2 A.f_Hand_wake A.fd_Hand_wake ["self"] (spHWake A.c_Hand))
    (G_Ring_put : FnOk P w K mg base CX0 1 A.f_Ring_put A.fd_Ring_put ["self", "place", "letters"] (spRPut A.c_Ring A.c_Hand)) :
    FnOk P w K mg base (L2.CX P w) 3 A.f_Ring_wake A.fd_Ring_wake ["self", "place"] (spRWake K A.c_Ring A.c_Hand A.c_NoHand) := by
  refine T.fun_Ring_wake.okX sc_Ring_wake (fun vs H Q E h => ?_) (fun cdv Ar outer s H vs Q E hr h => ?_)
  · obtain ⟨p, l, m, as, S, v, rfl, _⟩ := h
    rfl
  · obtain ⟨p, l, m, as, S, v, rfl, R, kv, k⟩ := h
    obtain ⟨dx, hp⟩ := R.ob
    refine ⟨_, (pss_cons (ps_set (i := 2) sc_Ring_wake.nd rfl (Or.inl rfl) (pe_meth0 (pe_meth (pv 0) T.cl_Ring T.mt_Ring_hand G_Ring_hand (hr.mono (by decide)) T.b_Ring_hand .nil (passR (fun _ _ _ _ z => z) (takes_of rfl rfl rfl rfl)) (pa_cons (pv 1) pa_nil)) T.cl_Hand T.mt_Hand_wake G_Hand_wake (hr.mono (by decide)) T.b_Hand_wake .nil pass0))
      (pss_cons (ps_expr (pe_meth (pv 0) T.cl_Ring T.mt_Ring_put G_Ring_put (hr.mono (by decide)) T.b_Ring_put .nil pass0 (pa_cons (pv 1) (pa_cons (pv 2) pa_nil))))
      (pss_one (ps_ret (pe_cmpR (op_neD hr.units) (pv 2) (pe_lst pa_nil) (nomark _)))))), ?_⟩
    walk_at "rd"
    refine rd_recv hp rfl ?_
    walk_at "rd"
    refine ⟨p, l, m, as, S, v, rfl, R, kv, ?_⟩
    rcases k with ⟨i, hi, hz, q⟩ | ⟨hno, q⟩
    · obtain ⟨rfl, hlt⟩ := placeOf_some hi
      obtain ⟨a, da, ha, hmem, hha⟩ := R.at_ hlt
      refine .inl ⟨i, a, hi, ha, ?_⟩
      refine rd_recv hha rfl ?_
      walk_at "rd"
      refine ⟨a, da, S.h i, rfl, hha, ?_⟩
      intro f xs H1 hf hx1 t1 hh1 b1
      have R1 := R.hand ha b1 hh1
      have k1 : Keep p m as H H1 := Keep.but hmem b1
      obtain ⟨dx1, hp1⟩ := R1.ob
      have hfm : f ≠ m := fun e => by
        obtain ⟨ys, hm, _⟩ := R.pl
        rw [e, hm] at hf; cases hf
      have ll : (S.h i).wls.length ≤ 2 := by unfold Hd.wls Hd.asks; split <;> simp
      walk_at "rd"
      refine rd_recv hp1 rfl ?_
      walk_at "rd"
      refine ⟨p, l, m, as, S.setH i (S.h i).wk, i, f, xs, (S.h i).wls, rfl, R1, (by show i < (S.setH i (S.h i).wk).hands.length; unfold Rg.setH; simpa using hlt), hx1, hfm, t1, (by show S.post.length + _ ≤ 90000; omega), fun H2 R2 k2 => ?_⟩
      have hf2 := R1.keep_l hx1 hfm k2
      walk_at "rd"
      refine ⟨Nat.zero_le _, fun u hu => ?_⟩
      refine rd_neNil lD_ok (SqL.of (Ex.new hu _ _ hf2)) (SqL.of upd_same) ((t1.imp fun b ts hb => R1.keep_t hb k2).ex (Ex.new hu)) ?_
      have ew : (!(S.h i).wls.isEmpty) = !(S.h i).awake := by
        unfold Hd.wls Hd.asks
        cases (S.h i).awake <;> rfl
      rw [ew]
      exact q _ (R2.ex (Ex.new hu)) ((k1.trans k2).trans (Keep.ex (Ex.new hu)))
    · exact .inr ⟨hno, q⟩
theorem sc_Ring_bring : FnScope ["self", "place", "mail"] ["self", "place"] (defScope s_Ring_bring) := ⟨rfl, rfl, rfl, by decide +kernel, rfl, by decide +kernel, by decide +kernel⟩
theorem ok_Ring_bring (T : Txt K mg A) (G_is_whole : FnOk P w K mg base CX0 1 A.f_is_whole A.fd_is_whole ["thing"] (spWhole K)) (G_Hand_take : FnOk P w K mg base CX0 3 A.f_Hand_take A.fd_Hand_take ["self", "letter"] (spHLet A.c_Hand Hd.take))
    (G_Ring_put : FnOk P w K mg base CX0 1 A.f_Ring_put A.fd_Ring_put ["self", "place", "letters"] (spRPut A.c_Ring A.c_Hand)) :
    FnOk P w K mg base (L2.CX P w) 4 A.f_Ring_bring A.fd_Ring_bring ["self", "place"] (spRBring K A.c_Ring A.c_Hand A.c_NoMail) := by
  refine T.fun_Ring_bring.okX sc_Ring_bring (fun vs H Q E h => ?_) (fun cdv Ar outer s H vs Q E hr h => ?_)
  · obtain ⟨p, l, m, as, S, v, rfl, _⟩ := h
    rfl
  · obtain ⟨p, l, m, as, S, v, rfl, R, kv, k⟩ := h
    obtain ⟨dx, hp⟩ := R.ob
    obtain ⟨xs, hm, tm⟩ := R.pl
    refine ⟨_, (pss_cons (ps_if (PW.pt (pw_or (pt_not (pt_val (pe_call G_is_whole (hr.mono (by decide)) rfl T.mg_is_whole T.fun_is_whole.kp T.b_is_whole .nil pass0 (pa_cons (pv 1) pa_nil)))) (pw_or1 (pt_cmpR op_ge (pv 1) (pe_callB call_lenN (by rfl) T.no_len (by decide +kernel) (pa_cons (pe_fld (pv 0) rfl) pa_nil)) (nomark _))))) (pss_one (ps_raise rfl (takes_of rfl rfl rfl rfl) (pmk_own PySem.F.excBase_ValueError T.x_NoMail.xP T.mg_NoMail T.x_NoMail.kP T.x_NoMail.raises rfl))) pss_nil)
      (pss_cons (ps_set (i := 2) sc_Ring_bring.nd rfl (Or.inl rfl) (pe_bm PySem.F.plainAttrs_list PySem.F.slot_list_pop PySem.F.type_list_pop mt_popAt (pe_fld (pv 0) rfl) (pa_cons (pv 1) pa_nil)))
      (pss_cons (ps_expr (pe_meth (pv 0) T.cl_Ring T.mt_Ring_put G_Ring_put (hr.mono (by decide)) T.b_Ring_put .nil pass0 (pa_cons (pe_ix ix_tup (pv 2) pe_int (fun _ _ => rfl)) (pa_cons (pe_meth (pe_ix ix_list (pe_fld (pv 0) rfl) (pe_ix ix_tup (pv 2) pe_int (fun _ _ => rfl)) (fun _ _ => rfl)) T.cl_Hand T.mt_Hand_take G_Hand_take (hr.mono (by decide)) T.b_Hand_take .nil pass0 (pa_cons (pe_slice sl_tup (pv 2) (po_some pe_int) po_none) pa_nil)) pa_nil))))
      (pss_one (ps_ret (pv 2)))))), ?_⟩
    walk_at "rd"
    refine ⟨v, rfl, kv, ?_⟩
    refine rd_bl ?_
    rcases k with ⟨i, hi, hz, q⟩ | ⟨hno, q⟩
    · obtain ⟨rfl, hlt⟩ := placeOf_some hi
      rw [show wholeV (.int ((i : Nat) : Int)) = true from decide_eq_true (Int.natCast_nonneg i)]
      walk_at "rd"
      refine rd_fld hp T.cl_Ring T.at_Ring_post rfl ?_
      walk_at "rd"
      refine rd_len (SqL.of hm) ?_
      walk_at "rd"
      rw [tm.len, show decide (((S.post.length : Nat) : Int) ≤ ((i : Nat) : Int)) = false from decide_eq_false (by omega)]
      walk_at "rd"
      refine rd_fld hp T.cl_Ring T.at_Ring_post rfl ?_
      refine ⟨.inl ⟨rfl, xs, SqL.of hm⟩, ?_⟩
      walk_at "rd"
      have hix : i < xs.length := by rw [tm.len]; exact hlt
      obtain ⟨t, x, et, hx, ht⟩ := tm.get (List.getElem?_eq_getElem hix)
      have ex : S.mail i = x := by unfold Rg.mail; rw [List.getD_eq_getElem?_getD, hx]; rfl
      have hq : x.1 < S.hands.length := R.pla x (List.mem_of_getElem? hx)
      refine rd_popAt hm (by omega) (by rw [List.getElem?_eq_getElem hix, et]) ?_
      have R1 := R.drop hm tm i
      have k1 : Keep p m as H (upd H m (.lst (xs.eraseIdx i))) := fun b o hb _ n2 _ => by rw [upd_ne n2]; exact hb
      generalize upd H m (.lst (xs.eraseIdx i)) = H1 at R1 k1 ⊢
      have ht1 := R.keep_t ht k1
      obtain ⟨dx1, hp1⟩ := R1.ob
      obtain ⟨a, da, ha, hmem, hha⟩ := R1.at_ (i := x.1) hq
      walk_at "rd"
      refine rd_recv hp1 rfl ?_
      walk_at "rd"
      refine rd_ixT (k := 0) (SqT.of ht1) rfl rfl ?_
      walk_at "rd"
      refine rd_fld hp1 T.cl_Ring T.at_Ring_hands rfl ?_
      walk_at "rd"
      refine rd_ixT (k := 0) (SqT.of ht1) rfl rfl ?_
      refine rd_ixL (k := x.1) (v := .ref a) (SqL.of R1.hl) rfl (by rw [List.getElem?_map, ha]; rfl) ?_
      refine rd_recv hha rfl ?_
      walk_at "rd"
      refine ⟨t, mV x, rfl, SqT.of ht1, (show ¬ (HT.sIx 6 0 (some 1) = 0 ∧ HT.sIx 6 6 none = 6) by decide), fun u hu => ?_⟩
      walk_at "rd"
      have eu : (HO.tup (cutV (mV x) (some 1) none)) = .tup (lV x.2) := rfl
      rw [eu]
      have R2 := R1.ex (Ex.new (o := .tup (lV x.2)) hu)
      refine ⟨a, da, u, (S.drop i).h x.1, x.2, rfl, Ex.new hu _ _ hha, upd_same, ?_⟩
      intro f ys H3 hf hy t3 hh3 b3
      have R3 := R2.hand ha b3 hh3
      have hfm : f ≠ m := fun e => by
        obtain ⟨zs, hm2, _⟩ := R2.pl
        rw [e, hm2] at hf; cases hf
      have k3 : Keep p m as H1 H3 := (Keep.ex (Ex.new (o := .tup (lV x.2)) hu)).trans (Keep.but hmem b3)
      walk_at "rd"
      have ll : (((S.drop i).h x.1).take x.2).2.length ≤ 4 := by
        have h1 := RC.proc_len (((S.drop i).h x.1).wk) x.2
        have h2 : (((S.drop i).h x.1).wls).length ≤ 2 := by unfold Hd.wls Hd.asks; split <;> simp
        unfold Hd.take
        rw [List.length_append]
        omega
      refine ⟨p, l, m, as, (S.drop i).setH x.1 (((S.drop i).h x.1).take x.2).1, x.1, f, ys, (((S.drop i).h x.1).take x.2).2, rfl, R3, (by show x.1 < (S.hands.set _ _).length; rw [List.length_set]; exact hq), hy, hfm, t3, ?_, fun H4 R4 k4 => ?_⟩
      · show (S.post.eraseIdx i).length + _ ≤ 90000
        rw [List.length_eraseIdx]
        split <;> omega
      · walk_at "rd"
        have eb : S.bring i = ((S.drop i).setH x.1 (((S.drop i).h x.1).take x.2).1).put x.1 (((S.drop i).h x.1).take x.2).2 := by
          unfold Rg.bring Rg.give
          rw [ex]
        rw [eb] at q
        refine q H4 t R4 ((k1.trans k3).trans k4) ?_
        rw [ex]
        exact R.keep_t ht ((k1.trans k3).trans k4)
    · refine rd_ite (fun _ => q) (fun z => ?_)
      have z' : wholeV v = true := by simpa using z
      obtain ⟨i, rfl, hi⟩ := placeOf_none hno z'
      walk_at "rd"
      refine rd_fld hp T.cl_Ring T.at_Ring_post rfl ?_
      walk_at "rd"
      refine rd_len (SqL.of hm) ?_
      walk_at "rd"
      rw [tm.len, show decide (((S.post.length : Nat) : Int) ≤ i) = true from decide_eq_true hi]
      exact iteT q
theorem sc_Ring_rest : FnScope ["self", "found"] ["self"] (defScope s_Ring_rest) := ⟨rfl, rfl, rfl, by decide +kernel, rfl, by decide +kernel, by decide +kernel⟩
theorem ok_Ring_rest (T : Txt K mg A) (G_Ring_bring : FnOk P w K mg base (L2.CX P w) 4 A.f_Ring_bring A.fd_Ring_bring ["self", "place"] (spRBring K A.c_Ring A.c_Hand A.c_NoMail)) :
    FnOk P w K mg base CX0 5 A.f_Ring_rest A.fd_Ring_rest ["self"] (spRRest A.c_Ring A.c_Hand) := by
  refine T.fun_Ring_rest.ok sc_Ring_rest (fun vs H Q E h => ?_) (fun cdv Ar outer s H vs Q E hr h => ?_)
  · obtain ⟨p, l, m, as, S, k, rfl, _⟩ := h
    rfl
  · obtain ⟨p, l, m, as, S, k, rfl, R, hgo, hend, q⟩ := h
    refine ⟨_, (pss_cons (ps_set (i := 1) sc_Ring_rest.nd rfl (Or.inl rfl) pe_int)
      (pss_cons (ps_while PassesOwn.never (pt_cmpR (op_neD hr.units) (pe_fld (pv 0) rfl) (pe_lst pa_nil) (nomark _)) (pss_cons (ps_expr (pe_meth (pv 0) T.cl_Ring T.mt_Ring_bring G_Ring_bring (hr.mono (by decide)) T.b_Ring_bring .nil passL (pa_cons pe_int pa_nil)))
      (pss_one (ps_set (i := 1) sc_Ring_rest.nd rfl (Or.inl rfl) (pe_op op_add (pv 1) pe_int)))))
      (pss_one (ps_ret (pv 1))))), ?_⟩
    walk_at "rd"
    refine rd_while (fun c σ H' => ∃ j, c = k - j ∧ j ≤ k ∧ RingAt A.c_Ring A.c_Hand H' p l m as (restN S j) ∧ Keep p m as H H' ∧ σ = [some (.ref p), some (.int ((j : Nat) : Int))]) k ⟨0, rfl, Nat.zero_le _, R, Keep.refl _ _ _ _, rfl⟩ ?_
    rintro c σ H' ⟨j, rfl, hj, R1, k1, rfl⟩
    obtain ⟨dx, hp⟩ := R1.ob
    obtain ⟨xs, hm, tm⟩ := R1.pl
    walk_at "rd"
    refine rd_fld hp T.cl_Ring T.at_Ring_post rfl ?_
    walk_at "rd"
    refine ⟨Nat.zero_le _, fun u hu => ?_⟩
    refine rd_neNil mD_ok (SqL.of (Ex.new hu _ _ hm)) (SqL.of upd_same) (tm.ex (Ex.new hu)) ?_
    walk_at "rd"
    have R2 := R1.ex (Ex.new (o := .lst []) hu)
    have k2 := k1.trans (Keep.ex (Ex.new (o := .lst []) hu))
    by_cases hjk : j < k
    · obtain ⟨hne, hlen⟩ := hgo j hjk
      have e1 : (restN S j).post.isEmpty = false := by cases z : (restN S j).post with
        | nil => exact absurd z hne
        | cons _ _ => rfl
      rw [e1]
      refine iteNF ?_
      refine rd_turn ?_
      walk_at "rd"
      obtain ⟨dx2, hp2⟩ := R2.ob
      refine rd_recv hp2 rfl ?_
      walk_at "rd"
      have pos0 : 0 < (restN S j).post.length := by cases z : (restN S j).post with
        | nil => exact absurd z hne
        | cons _ _ => simp
      refine ⟨p, l, m, as, restN S j, .int ((0 : Nat) : Int), rfl, R2, knd_int _, .inl ⟨0, placeOf_nat pos0, hlen, fun H3 t R3 k3 _ => ?_⟩⟩
      walk_at "rd"
      exact ⟨k - (j + 1), by omega, j + 1, rfl, hjk, R3, k2.trans k3, rfl⟩
    · have ejk : j = k := by omega
      subst ejk
      rw [hend]
      refine iteNT ?_
      walk_at "rd"
      exact q _ R2 k2
theorem sc_Ring___init__ : FnScope ["self", "numbers", "number"] ["self", "numbers"] (defScope s_Ring___init__) := ⟨rfl, rfl, rfl, by decide +kernel, rfl, by decide +kernel, by decide +kernel⟩
theorem ok_Ring_init (T : Txt K mg A) (G_is_whole : FnOk P w K mg base CX0 1 A.f_is_whole A.fd_is_whole ["thing"] (spWhole K)) (G_Hand___init__ : FnOk P w K mg base CX0 1 A.f_Hand___init__ A.fd_Hand___init__ ["self", "number"] (spHNew A.c_Hand)) :
    FnOk P w K mg base (L2.CX P w) 3 A.f_Ring___init__ A.fd_Ring___init__ ["self", "numbers"] (spRNew K A.c_Ring A.c_Hand A.c_BadRing) := by
  refine T.fun_Ring___init__.okX sc_Ring___init__ (fun vs H Q E h => ?_) (fun cdv Ar outer s H vs Q E hr h => ?_)
  · obtain ⟨p, dx, v, rfl, _⟩ := h
    rfl
  · obtain ⟨p, dx, v, rfl, hp, k⟩ := h
    refine ⟨_, (pss_cons (ps_if (PW.pt (pw_or (pt_not (pt_val (pe_callB call_isi (by rfl) T.no_isinstance (by decide +kernel) (pa_cons (pv 1) (pa_cons (pe_bltn (v := .ty "list") (by rfl) T.no_list (by decide +kernel) rfl) pa_nil))))) (pw_or1 (pt_not (pt_chain op_le op_le pe_int (pe_callB call_lenN (by rfl) T.no_len (by decide +kernel) (pa_cons (pv 1) pa_nil)) (pe_gint rfl T.mg_MOST_HANDS)))))) (pss_one (ps_raise rfl (takes_of rfl rfl rfl rfl) (pmk_own PySem.F.excBase_ValueError T.x_BadRing.xP T.mg_BadRing T.x_BadRing.kP T.x_BadRing.raises rfl))) pss_nil)
      (pss_cons (ps_if (PW.pt (pw_or (pt_not (pt_val (pe_callB (cr_all rfl) (by rfl) T.no_all (by decide +kernel) (pa_cons (pe_lc (own := [("number", 2)]) (g := gName 2) (by rfl) sc_Ring___init__.nd (pi_list (pv 1)) (blkOk_by (own := [("number", 2)]) (N := ["self", "numbers", "number"]) (sc := defScope s_Ring___init__) (by decide +kernel)) (fun _ _ _ _ _ => pg_name (i := 2) sc_Ring___init__.nd rfl (Or.inl rfl)) (fun _ _ _ _ _ => pts_nil) (fun _ _ _ _ _ => by exact (pe_call G_is_whole (hr.mono (by decide)) rfl T.mg_is_whole T.fun_is_whole.kp T.b_is_whole .nil pass0 (pa_cons (pv 2) pa_nil)))) pa_nil)))) (pw_or1 (pt_cmpR op_lt (pe_lenSet (by rfl) T.no_len (by rfl) T.no_set (pv 1)) (pe_callB call_lenN (by rfl) T.no_len (by decide +kernel) (pa_cons (pv 1) pa_nil)) (nomark _))))) (pss_one (ps_raise rfl (takes_of rfl rfl rfl rfl) (pmk_own PySem.F.excBase_ValueError T.x_BadRing.xP T.mg_BadRing T.x_BadRing.kP T.x_BadRing.raises rfl))) pss_nil)
      (pss_cons (ps_fld (pv 0) (pe_lc (own := [("number", 2)]) (g := gName 2) (by rfl) sc_Ring___init__.nd (pi_list (pv 1)) (blkOk_by (own := [("number", 2)]) (N := ["self", "numbers", "number"]) (sc := defScope s_Ring___init__) (by decide +kernel)) (fun _ _ _ _ _ => pg_name (i := 2) sc_Ring___init__.nd rfl (Or.inl rfl)) (fun _ _ _ _ _ => pts_nil) (fun _ _ _ _ _ => by exact (pe_make T.mk_Hand G_Hand___init__ (hr.mono (by decide)) rfl T.mg_Hand T.b_Hand___init__ .nil pass0 (pa_cons (pv 2) pa_nil)))) rfl)
      (pss_cons (ps_fld (pv 0) (pe_lst pa_nil) rfl)
      (pss_one (ps_fld (pv 0) pe_int rfl)))))), ?_⟩
    walk_at "rd"
    -- a list of the right length: the second test's whole thing
    have lens : ∀ (a : Addr) (xs : List V), H a = some (.lst xs) → TyX K H (.ref a) (.type "list") := fun a xs h => .base (.lst h)
    have wholes : ∀ (a : Addr) (xs : List V), H a = some (.lst xs) → (∀ x, x ∈ xs → Knd K H x) → xs.length ≤ 64 → ∀ (σ : St) (Q2 : VK),
        (∀ D H1, H D = none → Ex H H1 → H1 D = some (.lst ((xs.map wholeV).map V.bl)) → Q2 (.ref D) H1) → rLcL K (gName 2) tYes (tCall (spWhole K) [] E0 (tCons (tVar 2) tNil)) [2] ([some (.ref p), some (.ref a), none]) Q2 (.ref a) H := by
      intro a xs ha hk hz σ Q2 q2
      refine lc_L (SqL.of ha) (by omega) (fun i => .bl (wholeV (xs.getD i .non))) (fun i x H1 e1 hi => fun H2 e2 Q3 q3 => ?_) (fun D H1 hD e1 h1 => q2 D H1 hD e1 ?_)
      · walk_at "rd"
        have ex : xs.getD i .non = x := by rw [List.getD_eq_getElem?_getD, hi]; rfl
        rw [ex] at q3
        exact ⟨x, rfl, (hk x (List.mem_of_getElem? hi)).ex (e1.trans e2), q3 H2 (Ex.refl H2)⟩
      · rw [h1]
        congr 2
        rw [List.map_map]
        apply List.ext_getElem
        · simp
        · intro j h1 h2
          simp only [List.length_map, List.length_range] at h1
          simp [List.getD_eq_getElem?_getD, List.getElem?_eq_getElem h1]
    rcases k with ⟨a, ks, rfl, ha, h1, h64, nd, nn, q⟩ | ⟨hbad, q⟩
    · refine rd_isi (lens a _ ha) (b := true) (by decide +kernel) ?_
      walk_at "rd"
      refine rd_len (SqL.of ha) ?_
      walk_at "rd"
      rw [List.length_map]
      refine rd_dec (fun _ => ?_) (fun z => absurd (show (1 : Int) ≤ ((ks.length : Nat) : Int) by omega) z)
      walk_at "rd"
      rw [show decide (((ks.length : Nat) : Int) ≤ 64) = true from decide_eq_true (by omega)]
      walk_at "rd"
      refine wholes a _ ha (fun x hx => ?_) (by rw [List.length_map]; exact h64) [] _ (fun D H1 hD e1 hD1 => ?_)
      · obtain ⟨z, _, rfl⟩ := List.mem_map.mp hx
        exact knd_int z
      walk_at "rd"
      refine ⟨D, _, rfl, SqL.of hD1, ?_⟩
      have eall : ((ks.map V.int).map wholeV).all id = true := by
        rw [List.all_eq_true]
        intro b hb
        rw [List.map_map] at hb
        obtain ⟨z, hz, rfl⟩ := List.mem_map.mp hb
        exact decide_eq_true (nn z hz)
      rw [eall]
      walk_at "rd"
      have ha1 := e1 _ _ ha
      walk_at "rd"
      refine rd_lenSet (SqL.of ha1) (by omega) ?_
      walk_at "rd"
      refine rd_len (SqL.of ha1) ?_
      walk_at "rd"
      rw [dcount_nodup nd, List.length_map, show decide (((ks.length : Nat) : Int) < ((ks.length : Nat) : Int)) = false from decide_eq_false (by omega)]
      walk_at "rd"
      refine ⟨a, rfl, ⟨_, SqL.of ha1⟩, fun L hL => ?_⟩
      refine lc_list (K := K) (a := a) (xs := ks.map V.int) (g := gName 2) (tt := tYes) (fun i H' => Ex H1 H' ∧ ∃ as : List Addr, H' L = some (.lst (as.map V.ref)) ∧ as.length = i ∧ as.Nodup ∧ (∀ b, b ∈ as → H1 b = none) ∧
        ∀ j b, as[j]? = some b → ∃ dx, H' b = some (.ins A.c_Hand dx (hf (Hd.new (ks.getD j 0))))) ⟨Ex.new hL, [], upd_same, rfl, List.nodup_nil, (fun b hb => by cases hb), fun j b hb => by cases hb⟩ (fun i H' _ z => SqL.of (z.1 _ _ ha1)) ?_ ?_
      · rintro i x H2 hi ⟨e2, as, hL2, hlen, nd2, fr2, at2⟩
        refine ⟨wipe_one _ 2 x, ?_⟩
        refine rd_yes ?_
        obtain ⟨z, hz, rfl⟩ : ∃ z, ks[i]? = some z ∧ x = .int z := by
          rw [List.getElem?_map] at hi
          cases e : ks[i]? with
          | none => rw [e] at hi; cases hi
          | some z => rw [e] at hi; exact ⟨z, rfl, (Option.some.inj hi).symm⟩
        walk_at "rd"
        intro y dy ny ndy nyd
        refine ⟨y, dy, z, rfl, upd_same, rfl, ?_⟩
        rw [upd_upd]
        have e3 : Ex H2 (upd (upd H2 dy (.own y)) y (.ins A.c_Hand dy (hf (Hd.new z)))) := fun b o hb => by
          rw [upd_ne (ne_of_none hb ny), upd_ne (ne_of_none hb ndy)]; exact hb
        have hy3 : upd (upd H2 dy (.own y)) y (.ins A.c_Hand dy (hf (Hd.new z))) y = some (.ins A.c_Hand dy (hf (Hd.new z))) := upd_same
        generalize upd (upd H2 dy (.own y)) y (.ins A.c_Hand dy (hf (Hd.new z))) = H3 at e3 hy3 ⊢
        have hL3 := e3 _ _ hL2
        have ilt : i < ks.length := (List.getElem?_eq_some_iff.mp hz).1
        have hLy : L ≠ y := ne_of_none hL2 ny
        refine ⟨as.map V.ref, hL3, sz_lt (by rw [List.length_map]; omega), Ex.mut (e2.trans e3) hL, as ++ [y], ?_, by simp [hlen], ?_, ?_, ?_⟩
        · rw [upd_same, List.map_append]; rfl
        · refine List.nodup_append.mpr ⟨nd2, by simp, fun b hb c hc => ?_⟩
          rw [List.mem_singleton.mp hc]
          intro e
          obtain ⟨j, hj⟩ := List.mem_iff_getElem?.mp hb
          obtain ⟨dz, hbz⟩ := at2 j b hj
          rw [e, ny] at hbz; cases hbz
        · intro b hb
          rcases List.mem_append.mp hb with h | h
          · exact fr2 b h
          · rw [List.mem_singleton.mp h]
            exact fresh_back e2 ny
        · intro j b hb
          by_cases hj : j < as.length
          · rw [List.getElem?_append_left hj] at hb
            obtain ⟨dz, hbz⟩ := at2 j b hb
            exact ⟨dz, by rw [upd_ne (ne_li hL2 hbz).symm]; exact e3 _ _ hbz⟩
          · have hje : j = as.length := by
              have := (List.getElem?_eq_some_iff.mp hb).1
              rw [List.length_append, List.length_singleton] at this
              omega
            rw [hje, List.getElem?_append_right (Nat.le_refl _), Nat.sub_self] at hb
            have eb : y = b := Option.some.inj hb
            refine ⟨dy, ?_⟩
            rw [← eb, upd_ne (fun q => hLy q.symm), hje, hlen, List.getD_eq_getElem?_getD, hz]
            exact hy3
      · rintro H2 ⟨e2, as, hL2, hlen, nd2, fr2, at2⟩
        rw [List.length_map] at hlen
        have hp2 := e2 _ _ (e1 _ _ hp)
        walk_at "rd"
        refine rd_put hp2 T.cl_Ring T.at_Ring_hands (by show 0 < 1000; decide) ?_
        walk_at "rd"
        refine ⟨Nat.zero_le _, fun m hm => ?_⟩
        have hmp : m ≠ p := fun z => by rw [z, upd_same] at hm; cases hm
        have hm2 := hm
        rw [upd_ne hmp] at hm2
        walk_at "rd"
        refine rd_put (by rw [upd_ne hmp.symm]; exact upd_same) T.cl_Ring T.at_Ring_post (by show 1 < 1000; decide) ?_
        walk_at "rd"
        refine rd_put upd_same T.cl_Ring T.at_Ring_many (by show 2 < 1000; decide) ?_
        rw [upd_upd]
        have old : ∀ b o, H2 b = some o → b ≠ p → upd (upd (upd H2 p (.ins A.c_Ring dx (putF "hands" (.ref L) []))) m (.lst [])) p (.ins A.c_Ring dx (rf L m 0)) b = some o := fun b o hb n => by
          rw [upd_ne n, upd_ne (ne_of_none hb hm2), upd_ne n]; exact hb
        have hLp : L ≠ p := ne_li hL2 hp2
        have hLm : L ≠ m := ne_of_none hL2 hm2
        refine q _ L m as ?_ (fresh_back e1 hL) (fresh_back (e1.trans e2) hm2) (fun b hb => fresh_back e1 (fr2 b hb)) (fun b o hb n => old b o (e2 _ _ (e1 _ _ hb)) n)
        have hks : (Rg.new ks).hands.length = ks.length := by unfold Rg.new; simp
        exact {
          ob := ⟨dx, upd_same⟩
          hl := old _ _ hL2 hLp
          pl := ⟨[], by rw [upd_ne hmp]; exact upd_same, .nil⟩
          nd := nd2
          len := by rw [hks]; exact hlen
          lm := hLm
          pos := by rw [hks]; exact h1
          top := by rw [hks]; exact h64
          pla := fun x hx => by cases hx
          hn := fun j b hb => by
            obtain ⟨dz, hbz⟩ := at2 j b hb
            have hjl : j < ks.length := by rw [← hlen]; exact (List.getElem?_eq_some_iff.mp hb).1
            refine ⟨dz, old _ _ ?_ (fun z => by have := fr2 b (List.mem_of_getElem? hb); rw [z, e1 _ _ hp] at this; cases this)⟩
            have eh : (Rg.new ks).h j = Hd.new (ks.getD j 0) := by
              unfold Rg.h Rg.new
              rw [List.getD_eq_getElem?_getD, List.getElem?_map, List.getD_eq_getElem?_getD, List.getElem?_eq_getElem hjl]
              rfl
            rw [eh]
            exact hbz
          np := fun hpa => by
            have := fr2 p hpa
            rw [e1 _ _ hp] at this; cases this }
    · rcases hbad with ⟨n, ty, kn⟩ | ⟨a, xs, rfl, ha, hb⟩
      · refine rd_isi ty kn ?_
        walk_at "rd"
        exact q H (Ex.refl H)
      · refine rd_isi (lens a _ ha) (b := true) (by decide +kernel) ?_
        walk_at "rd"
        refine rd_len (SqL.of ha) ?_
        walk_at "rd"
        refine rd_dec (fun z1 => ?_) (fun z1 => ?_)
        · walk_at "rd"
          by_cases z2 : ((xs.length : Nat) : Int) ≤ 64
          · rw [decide_eq_true z2]
            walk_at "rd"
            have all1 : (∀ x, x ∈ xs → Knd K H x) := by
              rcases hb with hb | ⟨h, _⟩ | ⟨ks, e, _⟩
              · exact absurd ⟨by omega, by omega⟩ hb
              · exact h
              · intro x hx
                rw [e] at hx
                obtain ⟨z, _, rfl⟩ := List.mem_map.mp hx
                exact knd_int z
            refine wholes a _ ha all1 (by omega) [] _ (fun D H1 hD e1 hD1 => ?_)
            walk_at "rd"
            refine ⟨D, _, rfl, SqL.of hD1, ?_⟩
            walk_at "rd"
            cases eall : (xs.map wholeV).all id with
            | false =>
              refine iteNF ?_
              exact q H1 e1
            | true =>
              walk_at "rd"
              have ha1 := e1 _ _ ha
              obtain ⟨ks, e, l1, l64, nnd⟩ : ∃ ks : List Int, xs = ks.map V.int ∧ 1 ≤ xs.length ∧ ks.length ≤ 64 ∧ ¬ ks.Nodup := by
                rcases hb with hb | ⟨_, _, _, x, hx, hw⟩ | h
                · exact absurd ⟨by omega, by omega⟩ hb
                · have := List.all_eq_true.mp eall (wholeV x) (List.mem_map_of_mem hx)
                  rw [hw] at this; cases this
                · exact h
              subst e
              refine rd_lenSet (SqL.of ha1) (by omega) ?_
              walk_at "rd"
              refine rd_len (SqL.of ha1) ?_
              walk_at "rd"
              have := dcount_dup nnd
              rw [List.length_map, show decide (((dcount ks : Nat) : Int) < ((ks.length : Nat) : Int)) = true from decide_eq_true (by omega)]
              exact iteT (q H1 e1)
          · rw [decide_eq_false z2]
            walk_at "rd"
            exact q H (Ex.refl H)
        · walk_at "rd"
          exact q H (Ex.refl H)

/-- the ring's and the hand's methods keep their promises -/
structure RingOk (P : Program) (w : World) (K : PySem.W.Frag) (mg : Str → Option Value) (base : Heap) (A : Adr) : Prop where
  whole : FnOk P w K mg base CX0 1 A.f_is_whole A.fd_is_whole ["thing"] (spWhole K)
  new : FnOk P w K mg base (L2.CX P w) 3 A.f_Ring___init__ A.fd_Ring___init__ ["self", "numbers"] (spRNew K A.c_Ring A.c_Hand A.c_BadRing)
  wake : FnOk P w K mg base (L2.CX P w) 3 A.f_Ring_wake A.fd_Ring_wake ["self", "place"] (spRWake K A.c_Ring A.c_Hand A.c_NoHand)
  mails : FnOk P w K mg base CX0 1 A.f_Ring_mails A.fd_Ring_mails ["self"] (spRMails A.c_Ring A.c_Hand)
  bring : FnOk P w K mg base (L2.CX P w) 4 A.f_Ring_bring A.fd_Ring_bring ["self", "place"] (spRBring K A.c_Ring A.c_Hand A.c_NoMail)
  rest : FnOk P w K mg base CX0 5 A.f_Ring_rest A.fd_Ring_rest ["self"] (spRRest A.c_Ring A.c_Hand)
  sent : FnOk P w K mg base CX0 1 A.f_Ring_sent A.fd_Ring_sent ["self"] (spRSent A.c_Ring A.c_Hand)
  is_awake : FnOk P w K mg base (L2.CX P w) 3 A.f_Ring_is_awake A.fd_Ring_is_awake ["self", "place"] (spRAsk K A.c_Ring A.c_Hand A.c_NoHand fun h => .bl h.awake)
  is_first : FnOk P w K mg base (L2.CX P w) 3 A.f_Ring_is_first A.fd_Ring_is_first ["self", "place"] (spRAsk K A.c_Ring A.c_Hand A.c_NoHand fun h => .bl h.crowned)
  stage : FnOk P w K mg base (L2.CX P w) 3 A.f_Ring_stage A.fd_Ring_stage ["self", "place"] (spRAsk K A.c_Ring A.c_Hand A.c_NoHand stageV)
  knows : FnOk P w K mg base (L2.CX P w) 3 A.f_Ring_knows A.fd_Ring_knows ["self", "place"] (spRAsk K A.c_Ring A.c_Hand A.c_NoHand fun h => kV h.known)
theorem ring_ok (T : Txt K mg A) : RingOk P w K mg base A :=
  have g0 := ok_is_whole (P := P) (w := w) (base := base) T
  have g1 := ok_Hand_init (P := P) (w := w) (base := base) T
  have g2 := ok_Hand_asks (P := P) (w := w) (base := base) T
  have g3 := ok_Hand_wake T g2
  have g4 := ok_Hand_take T g3 (ok_Hand_asked T) (ok_Hand_answered T g2) (ok_Hand_told T)
  have g5 := ok_Ring_hand T g0
  have g6 := ok_Ring_put (P := P) (w := w) (base := base) T
  have g7 := ok_Ring_bring T g0 g4 g6
  { whole := g0
    new := ok_Ring_init T g0 g1
    wake := ok_Ring_wake T g5 g3 g6
    mails := ok_Ring_mails T
    bring := g7
    rest := ok_Ring_rest T g7
    sent := ok_Ring_sent T
    is_awake := ok_Ring_is_awake T g5 (ok_Hand_is_awake T)
    is_first := ok_Ring_is_first T g5 (ok_Hand_is_first T)
    stage := ok_Ring_stage T g5 (ok_Hand_stage T)
    knows := ok_Ring_knows T g5 (ok_Hand_knows T)
    }

/-! ### the numbers of a law's ring -/
theorem sc__law_numbers : FnScope ["_law_script", "_law_first", "_law_second", "_law_many", "_law_shift", "_law_times", "_law_most", "_law_k"] ["_law_script"] (defScope s__law_numbers) := ⟨rfl, rfl, rfl, by decide +kernel, rfl, by decide +kernel, by decide +kernel⟩
theorem ok__law_numbers (T : Txt K mg A) (G__law_cell_at : FnOk P w K mg base CX0 1 A.f__law_cell_at A.fd__law_cell_at ["_law_script", "_law_k"] (spCell K)) :
    FnOk P w K mg base CX0 2 A.f__law_numbers A.fd__law_numbers ["_law_script"] (spNums K) := by
  refine T.fun__law_numbers.ok sc__law_numbers (fun vs H Q E h => ?_) (fun cdv Ar outer s H vs Q E hr h => ?_)
  · obtain ⟨a, ns, rfl, _⟩ := h
    rfl
  · obtain ⟨a, ns, rfl, hS, q⟩ := h
    refine ⟨_, (pss_cons (ps_set (i := 1) sc__law_numbers.nd rfl (Or.inl rfl) (pe_call G__law_cell_at (hr.mono (by decide)) rfl T.mg__law_cell_at T.fun__law_cell_at.kp T.b__law_cell_at .nil pass0 (pa_cons (pv 0) (pa_cons pe_int pa_nil))))
      (pss_cons (ps_set (i := 2) sc__law_numbers.nd rfl (Or.inl rfl) (pe_call G__law_cell_at (hr.mono (by decide)) rfl T.mg__law_cell_at T.fun__law_cell_at.kp T.b__law_cell_at .nil pass0 (pa_cons (pv 0) (pa_cons pe_int pa_nil))))
      (pss_cons (ps_set (i := 3) sc__law_numbers.nd rfl (Or.inr rfl) (pe_op op_add pe_int (pe_op op_mod (pv 1) pe_int)))
      (pss_cons (ps_if (pt_cmpR op_eq (pe_op op_mod (pe_op op_fdiv (pv 1) pe_int) pe_int) pe_int (nomark _)) (pss_one (ps_set (i := 3) sc__law_numbers.nd rfl (Or.inr rfl) (pe_op op_add pe_int (pe_op op_mod (pe_call G__law_cell_at (hr.mono (by decide)) rfl T.mg__law_cell_at T.fun__law_cell_at.kp T.b__law_cell_at .nil pass0 (pa_cons (pv 0) (pa_cons pe_int pa_nil))) pe_int)))) pss_nil)
      (pss_cons (ps_if (pt_cmpR op_eq (pe_op op_mod (pe_op op_fdiv (pv 1) pe_int) pe_int) pe_int (nomark _)) (pss_one (ps_set (i := 3) sc__law_numbers.nd rfl (Or.inr rfl) (pe_op op_add pe_int (pe_op op_mod (pe_call G__law_cell_at (hr.mono (by decide)) rfl T.mg__law_cell_at T.fun__law_cell_at.kp T.b__law_cell_at .nil pass0 (pa_cons (pv 0) (pa_cons pe_int pa_nil))) pe_int)))) pss_nil)
      (pss_cons (ps_set (i := 4) sc__law_numbers.nd rfl (Or.inr rfl) (pe_op op_mod (pe_op op_fdiv (pv 2) pe_int) (pv 3)))
      (pss_cons (ps_set (i := 5) sc__law_numbers.nd rfl (Or.inr rfl) (pe_op op_add pe_int (pe_op op_mod (pe_op op_fdiv (pv 2) pe_int) pe_int)))
      (pss_cons (ps_if (pt_cmpR op_eq (pe_op op_mod (pv 2) pe_int) pe_int (nomark _)) (pss_one (ps_ret (pe_lc (own := [("_law_k", 7)]) (g := gName 7) (by rfl) sc__law_numbers.nd (pi_range1 (by rfl) T.no_range (pa_cons (pv 3) pa_nil)) (blkOk_by (own := [("_law_k", 7)]) (N := ["_law_script", "_law_first", "_law_second", "_law_many", "_law_shift", "_law_times", "_law_most", "_law_k"]) (sc := defScope s__law_numbers) (by decide +kernel)) (fun _ _ _ _ _ => pg_name (i := 7) sc__law_numbers.nd rfl (Or.inl rfl)) (fun _ _ _ _ _ => pts_nil) (fun _ _ _ _ _ => by exact (pe_op op_mul (pe_op op_mod (pe_op op_add (pv 7) (pv 4)) (pv 3)) (pv 5)))))) pss_nil)
      (pss_cons (ps_if (pt_cmpR op_eq (pe_op op_mod (pv 2) pe_int) pe_int (nomark _)) (pss_one (ps_ret (pe_lc (own := [("_law_k", 7)]) (g := gName 7) (by rfl) sc__law_numbers.nd (pi_range1 (by rfl) T.no_range (pa_cons (pv 3) pa_nil)) (blkOk_by (own := [("_law_k", 7)]) (N := ["_law_script", "_law_first", "_law_second", "_law_many", "_law_shift", "_law_times", "_law_most", "_law_k"]) (sc := defScope s__law_numbers) (by decide +kernel)) (fun _ _ _ _ _ => pg_name (i := 7) sc__law_numbers.nd rfl (Or.inl rfl)) (fun _ _ _ _ _ => pts_nil) (fun _ _ _ _ _ => by exact (pe_op op_mul (pe_op op_sub (pe_op op_sub (pv 3) pe_int) (pe_op op_mod (pe_op op_add (pv 7) (pv 4)) (pv 3))) (pv 5)))))) pss_nil)
      (pss_cons (ps_set (i := 6) sc__law_numbers.nd rfl (Or.inr rfl) (pe_ix ix_list (pe_lst (pa_cons pe_int (pa_cons (pe_op op_pow pe_int pe_int) pa_nil))) (pe_op op_fdiv (pe_op op_mod (pv 2) pe_int) pe_int) (fun _ _ => rfl)))
      (pss_one (ps_ret (pe_lc (own := [("_law_k", 7)]) (g := gName 7) (by rfl) sc__law_numbers.nd (pi_range1 (by rfl) T.no_range (pa_cons (pv 3) pa_nil)) (blkOk_by (own := [("_law_k", 7)]) (N := ["_law_script", "_law_first", "_law_second", "_law_many", "_law_shift", "_law_times", "_law_most", "_law_k"]) (sc := defScope s__law_numbers) (by decide +kernel)) (fun _ _ _ _ _ => pg_name (i := 7) sc__law_numbers.nd rfl (Or.inl rfl)) (fun _ _ _ _ _ => pts_nil) (fun _ _ _ _ _ => by exact (pe_op op_add (pe_op op_mul (pe_op op_mod (pe_op op_mul (pe_op op_add (pe_call G__law_cell_at (hr.mono (by decide)) rfl T.mg__law_cell_at T.fun__law_cell_at.kp T.b__law_cell_at .nil pass0 (pa_cons (pv 0) (pa_cons (pe_op op_add pe_int (pe_op op_mod (pv 7) pe_int)) pa_nil))) (pe_op op_mul (pe_op op_mul (pv 7) (pv 7)) pe_int)) pe_int) (pv 6)) pe_int) (pv 7)))))))))))))))), ?_⟩
    walk_at "rd"
    refine ⟨a, ns, 0, rfl, hS, ?_⟩
    walk_at "rd"
    refine ⟨a, ns, 1, rfl, hS, ?_⟩
    walk_at "rd"
    refine rd_iteset (x1 := 1 + cell ns 7 % 24) (fun _ H1 e1 Q1 q1 => ?_) rfl fun H1 e1 => ?_
    · walk_at "rd"
      refine ⟨a, ns, 7, rfl, ex_l e1 hS, ?_⟩
      walk_at "rd"
      exact q1 H1 (Ex.refl H1)
    walk_at "rd"
    refine rd_iteset (x1 := 33 + cell ns 7 % 32) (fun _ H2 e2 Q1 q1 => ?_) rfl fun H2 e2 => ?_
    · walk_at "rd"
      refine ⟨a, ns, 7, rfl, ex_l (e1.trans e2) hS, ?_⟩
      walk_at "rd"
      exact q1 H2 (Ex.refl H2)
    obtain ⟨n, hn, hn1, hn64⟩ : ∃ n : Nat, (if decide (cell ns 0 / 9 % 64 = 2) = true then 33 + cell ns 7 % 32 else if decide (cell ns 0 / 9 % 8 = 1) = true then 1 + cell ns 7 % 24 else 1 + cell ns 0 % 9) = ((n : Nat) : Int) ∧ 1 ≤ n ∧ n ≤ 64 := by
      refine ⟨(if decide (cell ns 0 / 9 % 64 = 2) = true then 33 + cell ns 7 % 32 else if decide (cell ns 0 / 9 % 8 = 1) = true then 1 + cell ns 7 % 24 else 1 + cell ns 0 % 9).toNat, ?_⟩
      split
      · omega
      · split <;> omega
    rw [hn]
    have e12 := e1.trans e2
    walk_at "rd"
    refine rd_I (show (0 : Int) < ((n : Nat) : Int) by omega) ?_
    generalize cell ns 1 / 4 % ((n : Nat) : Int) = shift
    walk_at "rd"
    have ht : 1 ≤ 1 + cell ns 1 / 256 % 1000000 := by omega
    generalize 1 + cell ns 1 / 256 % 1000000 = times at ht ⊢
    have npos : (0 : Int) < ((n : Nat) : Int) := by omega
    refine rd_dec (fun z => ?_) (fun z => ?_)
    · walk_at "rd"
      refine lc_R1 (by omega) (fun i => .int ((((i : Nat) : Int) + shift) % ((n : Nat) : Int) * times)) (fun i H3 e3 hi => fun H4 e4 Q3 q3 => ?_) (fun g H3 hg e3 hg3 => ?_)
      · walk_at "rd"
        refine rd_I npos ?_
        have b0 := Int.emod_nonneg (((i : Nat) : Int) + shift) (show ((n : Nat) : Int) ≠ 0 by omega)
        have b1 := Int.emod_lt_of_pos (((i : Nat) : Int) + shift) npos
        have cm : CMul ((((i : Nat) : Int) + shift) % ((n : Nat) : Int)) times := Or.inl ⟨by omega, by omega⟩
        walk_at "rd"
        refine rd_I cm ?_
        exact q3 H4 (Ex.refl H4)
      · refine q H3 g ((List.range n).map fun i => (((i : Nat) : Int) + shift) % ((n : Nat) : Int) * times) (fresh_back e12 hg) (e12.trans e3) (by rw [hg3, List.map_map]; rfl) (nums_of hn1 hn64 ?_ ?_)
        · intro i j hi hj e
          exact rot_inj npos (by omega) (by omega) (mul_inj ht e)
        · intro i hi
          exact Int.mul_nonneg (Int.emod_nonneg _ (by omega)) (by omega)
    walk_at "rd"
    refine rd_dec (fun z => ?_) (fun z => ?_)
    · walk_at "rd"
      refine lc_R1 (by omega) (fun i => .int ((((n : Nat) : Int) - 1 - (((i : Nat) : Int) + shift) % ((n : Nat) : Int)) * times)) (fun i H3 e3 hi => fun H4 e4 Q3 q3 => ?_) (fun g H3 hg e3 hg3 => ?_)
      · walk_at "rd"
        refine rd_I npos ?_
        have b0 := Int.emod_nonneg (((i : Nat) : Int) + shift) (show ((n : Nat) : Int) ≠ 0 by omega)
        have b1 := Int.emod_lt_of_pos (((i : Nat) : Int) + shift) npos
        walk_at "rd"
        have cm : CMul (((n : Nat) : Int) - 1 - (((i : Nat) : Int) + shift) % ((n : Nat) : Int)) times := Or.inl ⟨by omega, by omega⟩
        refine rd_I cm ?_
        exact q3 H4 (Ex.refl H4)
      · refine q H3 g ((List.range n).map fun i => (((n : Nat) : Int) - 1 - (((i : Nat) : Int) + shift) % ((n : Nat) : Int)) * times) (fresh_back e12 hg) (e12.trans e3) (by rw [hg3, List.map_map]; rfl) (nums_of hn1 hn64 ?_ ?_)
        · intro i j hi hj e
          have := mul_inj ht e
          exact rot_inj npos (s := shift) (by omega) (by omega) (by omega)
        · intro i hi
          have b1 := Int.emod_lt_of_pos (((i : Nat) : Int) + shift) npos
          exact Int.mul_nonneg (by omega) (by omega)
    walk_at "rd"
    refine ⟨(by show 2 ≤ sizeLine; decide), fun p hp => ?_⟩
    walk_at "rd"
    obtain ⟨b, hb, hb2⟩ : ∃ b : Nat, cell ns 1 % 4 / 3 = ((b : Nat) : Int) ∧ b < 2 := ⟨(cell ns 1 % 4 / 3).toNat, by omega, by omega⟩
    have p30 : (0 : Int) < 10 ^ Int.toNat 30 := Int.pow_pos (by decide)
    generalize (10 : Int) ^ Int.toNat 30 = ten30 at p30 ⊢
    obtain ⟨most, hmo, hmost⟩ : ∃ most, ([V.int 1009, V.int ten30] : List V)[b]? = some (.int most) ∧ 0 < most := by
      match b, hb2 with
      | 0, _ => exact ⟨1009, rfl, by decide⟩
      | 1, _ => exact ⟨ten30, rfl, p30⟩
    refine rd_ixL (k := b) (v := .int most) (SqL.of upd_same) hb hmo ?_
    have e3 := Ex.new (o := .lst [V.int 1009, V.int ten30]) hp
    generalize upd _ p (.lst [V.int 1009, V.int ten30]) = H3 at e3 ⊢
    walk_at "rd"
    refine lc_R1 (by omega) (fun i => .int ((cell ns (2 + i % 6) + ((i : Nat) : Int) * ((i : Nat) : Int) * 7919) * 48271 % most * 64 + ((i : Nat) : Int))) (fun i H4 e4 hi => fun H5 e5 Q3 q3 => ?_) (fun g H4 hg e4 hg4 => ?_)
    · walk_at "rd"
      have ei : (2 : Int) + ((i : Nat) : Int) % 6 = ((2 + i % 6 : Nat) : Int) := by omega
      rw [ei]
      refine ⟨a, ns, 2 + i % 6, rfl, ex_l (((e12.trans e3).trans e4).trans e5) hS, ?_⟩
      walk_at "rd"
      refine rd_I (show CMul _ _ from Or.inl ⟨by omega, by omega⟩) ?_
      walk_at "rd"
      refine rd_I hmost ?_
      walk_at "rd"
      exact q3 H5 (Ex.refl H5)
    · refine q H4 g ((List.range n).map fun i => (cell ns (2 + i % 6) + ((i : Nat) : Int) * ((i : Nat) : Int) * 7919) * 48271 % most * 64 + ((i : Nat) : Int)) (fresh_back (e12.trans e3) hg) ((e12.trans e3).trans e4) (by rw [hg4, List.map_map]; rfl) (nums_of hn1 hn64 ?_ ?_)
      · intro i j hi hj e
        generalize (cell ns (2 + i % 6) + ((i : Nat) : Int) * ((i : Nat) : Int) * 7919) * 48271 % most = x at e
        generalize (cell ns (2 + j % 6) + ((j : Nat) : Int) * ((j : Nat) : Int) * 7919) * 48271 % most = y at e
        omega
      · intro i hi
        have := Int.emod_nonneg ((cell ns (2 + i % 6) + ((i : Nat) : Int) * ((i : Nat) : Int) * 7919) * 48271) (show most ≠ 0 by omega)
        omega


theorem sc__law_truth : FnScope ["_law_found", "_law_due"] ["_law_found", "_law_due"] (defScope s__law_truth) := ⟨rfl, rfl, rfl, by decide +kernel, rfl, by decide +kernel, by decide +kernel⟩
theorem ok__law_truth (T : Txt K mg A) : FnOk P w K mg base CX0 1 A.f__law_truth A.fd__law_truth ["_law_found", "_law_due"] spTruth := by
  refine T.fun__law_truth.ok sc__law_truth (fun vs H Q E h => ?_) (fun cdv Ar outer s H vs Q E hr h => ?_)
  · obtain ⟨a, b, rfl, _⟩ := h
    rfl
  · obtain ⟨a, b, rfl, q⟩ := h
    refine ⟨_, (pss_one (ps_ret (pe_and (pe_callB call_isi (by rfl) T.no_isinstance (by decide +kernel) (pa_cons (pv 0) (pa_cons (pe_bltn (v := .ty "bool") (by rfl) T.no_bool (by decide +kernel) rfl) pa_nil))) (pe_one (pe_cmpR op_eq (pv 0) (pv 1) (nomark _)))))), ?_⟩
    walk_at "rd"
    refine rd_isi (n := "bool") (b := true) (.base (.bl a)) (by decide +kernel) ?_
    walk_at "rd"
    refine rd_eq rfl ?_
    have e : decide (V.bl a = V.bl b) = decide (a = b) := by cases a <;> cases b <;> rfl
    rw [e]
    exact q

/-! ### letters told -/
def Flat {α : Type} (f : α → List V) : Prop := ∀ x v, v ∈ f x → (∃ i, v = .int i) ∨ ∃ s, v = .str s
theorem lV_flat : Flat lV := fun x v hv => by
  unfold lV at hv
  simp only [List.mem_cons, List.not_mem_nil, or_false] at hv
  rcases hv with rfl | rfl | rfl | rfl | rfl
  · exact .inl ⟨_, rfl⟩
  · exact .inr ⟨_, rfl⟩
  · exact .inl ⟨_, rfl⟩
  · exact .inl ⟨_, rfl⟩
  · exact .inl ⟨_, rfl⟩
theorem mV_flat : Flat mV := fun x v hv => by
  rcases List.mem_cons.mp hv with rfl | hv
  · exact .inl ⟨_, rfl⟩
  · exact lV_flat x.2 v hv
def spLetters {α : Type} (K : PySem.W.Frag) (f : α → List V) : Sp := fun vs H Q _ => ∃ (a b : Addr) (us ws : List V) (xs : List α), vs = [.ref a, .ref b] ∧ H a = some (.lst us) ∧ H b = some (.lst ws) ∧ Tups f H us xs ∧ Tups f H ws xs ∧ Q (.bl true) H
theorem sc__law_letters : FnScope ["_law_found", "_law_due", "_law_one", "_law_part"] ["_law_found", "_law_due"] (defScope s__law_letters) := ⟨rfl, rfl, rfl, by decide +kernel, rfl, by decide +kernel, by decide +kernel⟩
theorem ok__law_letters {α : Type} {f : α → List V} {g : α → List PyData} (D : Dat f g) (F : Flat f) (T : Txt K mg A) (G__law_whole : FnOk P w K mg base CX0 1 A.f__law_whole A.fd__law_whole ["_law_found"] (spInt K)) :
    FnOk P w K mg base CX0 2 A.f__law_letters A.fd__law_letters ["_law_found", "_law_due"] (spLetters K f) := by
  refine T.fun__law_letters.ok sc__law_letters (fun vs H Q E h => ?_) (fun cdv Ar outer s H vs Q E hr h => ?_)
  · obtain ⟨a, b, us, ws, xs, rfl, _⟩ := h
    rfl
  · obtain ⟨a, b, us, ws, xs, rfl, ha, hb, tu, tw, q⟩ := h
    refine ⟨_, (pss_cons (ps_if (PW.pt (pw_or (pt_not (pt_val (pe_callB call_isi (by rfl) T.no_isinstance (by decide +kernel) (pa_cons (pv 0) (pa_cons (pe_bltn (v := .ty "list") (by rfl) T.no_list (by decide +kernel) rfl) pa_nil))))) (pw_or1 (pt_cmpR op_ne (pe_callB call_lenN (by rfl) T.no_len (by decide +kernel) (pa_cons (pv 0) pa_nil)) (pe_callB call_lenN (by rfl) T.no_len (by decide +kernel) (pa_cons (pv 1) pa_nil)) (nomark _))))) (pss_one (ps_ret pe_bl)) pss_nil)
      (pss_cons (ps_for PassesOwn.never rfl (pi_list (pv 0)) (pg_name (i := 2) sc__law_letters.nd rfl (Or.inl rfl)) (pss_cons (ps_if (pt_not (pt_val (pe_callB call_isi (by rfl) T.no_isinstance (by decide +kernel) (pa_cons (pv 2) (pa_cons (pe_bltn (v := .ty "tuple") (by rfl) T.no_tuple (by decide +kernel) rfl) pa_nil))))) (pss_one (ps_ret pe_bl)) pss_nil)
      (pss_one (ps_for PassesOwn.never rfl (pi_tup (pv 2)) (pg_name (i := 3) sc__law_letters.nd rfl (Or.inl rfl)) (pss_one (ps_if (PW.pt (pw_and (pt_not (pt_val (pe_call G__law_whole (hr.mono (by decide)) rfl T.mg__law_whole T.fun__law_whole.kp T.b__law_whole .nil pass0 (pa_cons (pv 3) pa_nil)))) (pw_and1 (pt_not (pt_val (pe_callB call_isi (by rfl) T.no_isinstance (by decide +kernel) (pa_cons (pv 3) (pa_cons (pe_bltn (v := .ty "str") (by rfl) T.no_str (by decide +kernel) rfl) pa_nil)))))))) (pss_one (ps_ret pe_bl)) pss_nil))))))
      (pss_one (ps_ret (pe_cmpR (op_eqD hr.units) (pv 0) (pv 1) (nomark _)))))), ?_⟩
    walk_at "rd"
    refine rd_isi (n := "list") (b := true) (.base (.lst ha)) (by decide +kernel) ?_
    walk_at "rd"
    refine rd_len (SqL.of ha) ?_
    walk_at "rd"
    refine rd_len (SqL.of hb) ?_
    rw [tu.len, tw.len]
    walk_at "rd"
    refine if_ne_same ?_
    walk_at "rd"
    refine for_L (SqL.of ha) (fun i σ H' => H' = H ∧ ∃ v2 v3 : Option V, σ = [some (.ref a), some (.ref b), v2, v3]) ⟨rfl, none, none, rfl⟩ (fun i σ H' _ z => by rw [z.1]; exact SqL.of ha) ?_ ?_
    · rintro i v σ H' hv ⟨rfl, v2, v3, rfl⟩
      obtain ⟨t, x, rfl, _, ht⟩ := tu.get hv
      walk_at "rd"
      refine rd_isi (n := "tuple") (b := true) (.base (.tup ht)) (by decide +kernel) ?_
      walk_at "rd"
      refine for_T (SqT.of ht) (fun i σ H2 => H2 = H' ∧ ∃ v3 : Option V, σ = [some (.ref a), some (.ref b), some (.ref t), v3]) ⟨rfl, v3, rfl⟩ (fun i σ H2 _ z => by rw [z.1]; exact SqT.of ht) ?_ ?_
      · rintro j p σ H2 hp ⟨rfl, v3, rfl⟩
        rcases F x p (List.mem_of_getElem? hp) with ⟨k, rfl⟩ | ⟨z, rfl⟩
        · walk_at "rd"
          refine ⟨_, rfl, knd_int _, ?_⟩
          refine rd_bl ?_
          refine iteNT ?_
          walk_at "rd"
          exact ⟨rfl, _, rfl⟩
        · walk_at "rd"
          refine ⟨_, rfl, knd_str _, ?_⟩
          refine rd_bl ?_
          refine iteNF ?_
          walk_at "rd"
          refine rd_isi (n := "str") (b := true) (.base (.str z)) (by decide +kernel) ?_
          walk_at "rd"
          exact ⟨rfl, _, rfl⟩
      · rintro σ H2 ⟨rfl, v3, rfl⟩
        exact ⟨rfl, _, _, rfl⟩
    · rintro σ H' ⟨rfl, v2, v3, rfl⟩
      walk_at "rd"
      exact rd_eqSame D (SqL.of ha) (SqL.of hb) tu tw q

/-! ### the law's own hand -/
theorem sc__law_start : FnScope ["_law_number", "_law_found"] ["_law_number"] (defScope s__law_start) := ⟨rfl, rfl, rfl, by decide +kernel, rfl, by decide +kernel, by decide +kernel⟩
theorem ok__law_start (T : Txt K mg A) : FnOk P w K mg base CX0 1 A.f__law_start A.fd__law_start ["_law_number"] spStart := by
  refine T.fun__law_start.ok sc__law_start (fun vs H Q E h => ?_) (fun cdv Ar outer s H vs Q E hr h => ?_)
  · obtain ⟨n, rfl, _⟩ := h
    rfl
  · obtain ⟨n, rfl, q⟩ := h
    refine ⟨_, (pss_cons (ps_set (i := 1) sc__law_start.nd rfl (Or.inl rfl) (pe_disp (pps_cons pe_str (pv 0) (pps_cons pe_str pe_bl (pps_cons pe_str pe_bl (pps_cons pe_str pe_bl pps_nil)))) (by rfl) (by rfl) (fun z => by cases z) (by decide)))
      (pss_cons (ps_dput (hu_of hr) (pv 1) pe_str pe_int rfl)
      (pss_cons (ps_dput (hu_of hr) (pv 1) pe_str pe_int rfl)
      (pss_cons (ps_dput (hu_of hr) (pv 1) pe_str pe_non rfl)
      (pss_one (ps_ret (pv 1))))))), ?_⟩
    walk_at "rd"
    intro d hd
    refine ⟨.int n, rfl, upd_same, [(Sum.inr "number", .int n), (Sum.inr "awake", .bl false), (Sum.inr "beaten", .bl false), (Sum.inr "first", .bl false)], rfl, Nat.le_of_ble_eq_true rfl, ?_⟩
    rw [upd_upd]
    walk_at "rd"
    refine rd_putS upd_same (by rw [sizeLine_eq]; exact Nat.lt_of_le_of_lt (m := 6) (Nat.le_of_ble_eq_true rfl) (by decide)) rfl ?_
    walk_at "rd"
    refine rd_putS upd_same (by rw [sizeLine_eq]; exact Nat.lt_of_le_of_lt (m := 6) (Nat.le_of_ble_eq_true rfl) (by decide)) rfl ?_
    walk_at "rd"
    refine rd_putS upd_same (by rw [sizeLine_eq]; exact Nat.lt_of_le_of_lt (m := 6) (Nat.le_of_ble_eq_true rfl) (by decide)) rfl ?_
    walk_at "rd"
    rw [upd_upd, upd_upd, upd_upd]
    exact q d hd
theorem sc__law_asks : FnScope ["_law_state", "_law_steps", "_law_turn"] ["_law_state"] (defScope s__law_asks) := ⟨rfl, rfl, rfl, by decide +kernel, rfl, by decide +kernel, by decide +kernel⟩
theorem ok__law_asks (T : Txt K mg A) : FnOk P w K mg base CX0 1 A.f__law_asks A.fd__law_asks ["_law_state"] spLAsks := by
  refine T.fun__law_asks.ok sc__law_asks (fun vs H Q E h => ?_) (fun cdv Ar outer s H vs Q E hr h => ?_)
  · obtain ⟨d, h, t, rfl, _⟩ := h
    rfl
  · obtain ⟨d, h, t, rfl, hd, ⟨st, hst, h100, hfar⟩, q⟩ := h
    refine ⟨_, (pss_cons (ps_set (i := 1) sc__law_asks.nd rfl (Or.inl rfl) pe_int)
      (pss_cons (ps_for PassesOwn.never rfl (pi_range1 (by rfl) T.no_range (pa_cons (pe_dget (hu_of hr) (pv 0) pe_str (fun _ _ => rfl)) pa_nil)) (pg_name (i := 2) sc__law_asks.nd rfl (Or.inl rfl)) (pss_one (ps_set (i := 1) sc__law_asks.nd rfl (Or.inl rfl) (pe_op op_mul (pv 1) pe_int))))
      (pss_one (ps_ret (pe_lst (pa_cons (pe_tup (pa_cons pe_int (pa_cons pe_str (pa_cons (pe_dget (hu_of hr) (pv 0) pe_str (fun _ _ => rfl)) (pa_cons (pe_dget (hu_of hr) (pv 0) pe_str (fun _ _ => rfl)) (pa_cons (pv 1) pa_nil)))))) (pa_cons (pe_tup (pa_cons (pe_un un_neg pe_int) (pa_cons pe_str (pa_cons (pe_dget (hu_of hr) (pv 0) pe_str (fun _ _ => rfl)) (pa_cons (pe_dget (hu_of hr) (pv 0) pe_str (fun _ _ => rfl)) (pa_cons (pv 1) pa_nil)))))) pa_nil))))))), ?_⟩
    walk_at "rd"
    refine rd_getS hd get_stage ?_
    rw [hst]
    walk_at "rd"
    refine for_R1 (by omega) (fun i σ H' => H' = H ∧ ∃ v : Option V, σ = [some (.ref d), some (.int ((2 ^ i : Nat) : Int)), v]) ⟨rfl, none, rfl⟩ ?_ ?_
    · rintro i σ H' hi ⟨rfl, v, rfl⟩
      walk_at "rd"
      refine ⟨rfl, some (.int ((i : Nat) : Int)), ?_⟩
      have e : ((2 ^ i : Nat) : Int) * 2 = ((2 ^ (i + 1) : Nat) : Int) := by rw [Nat.pow_succ]; omega
      rw [e]
      rfl
    · rintro σ H' ⟨rfl, v, rfl⟩
      rw [← hfar]
      walk_at "rd"
      refine rd_getS hd get_num ?_
      walk_at "rd"
      refine rd_getS hd get_stage ?_
      walk_at "rd"
      refine ⟨by show 5 ≤ sizeLine; decide, fun t1 ht1 => ?_⟩
      have x1 := Ex.new (o := .tup (lV ⟨1, .ask, h.num, h.stage, h.far⟩)) ht1
      have y1 : upd H' t1 (.tup (lV ⟨1, .ask, h.num, h.stage, h.far⟩)) t1 = some (.tup (lV ⟨1, .ask, h.num, h.stage, h.far⟩)) := upd_same
      rw [show ([V.int 1, .str "ask", .int h.num, .int h.stage, .int h.far] : List V) = lV ⟨1, .ask, h.num, h.stage, h.far⟩ from rfl]
      generalize upd H' t1 (.tup (lV ⟨1, .ask, h.num, h.stage, h.far⟩)) = H1 at x1 y1 ⊢
      walk_at "rd"
      refine rd_getS (x1 _ _ hd) get_num ?_
      walk_at "rd"
      refine rd_getS (x1 _ _ hd) get_stage ?_
      walk_at "rd"
      refine ⟨by show 5 ≤ sizeLine; decide, fun t2 ht2 => ?_⟩
      have x2 := Ex.new (o := .tup (lV ⟨-1, .ask, h.num, h.stage, h.far⟩)) ht2
      have y2 : upd H1 t2 (.tup (lV ⟨-1, .ask, h.num, h.stage, h.far⟩)) t2 = some (.tup (lV ⟨-1, .ask, h.num, h.stage, h.far⟩)) := upd_same
      rw [show ([V.int (-1), .str "ask", .int h.num, .int h.stage, .int h.far] : List V) = lV ⟨-1, .ask, h.num, h.stage, h.far⟩ from rfl]
      generalize upd H1 t2 (.tup (lV ⟨-1, .ask, h.num, h.stage, h.far⟩)) = H2 at x2 y2 ⊢
      walk_at "rd"
      refine ⟨by show 2 ≤ sizeLine; decide, fun u hu => ?_⟩
      have x3 := Ex.new (o := .lst [V.ref t1, .ref t2]) hu
      exact q u _ _ (fresh_back (x1.trans x2) hu) ((x1.trans x2).trans x3) upd_same (.cons (x3 _ _ (x2 _ _ y1)) (.one (x3 _ _ y2)))
theorem sc__law_woken : FnScope ["_law_state"] ["_law_state"] (defScope s__law_woken) := ⟨rfl, rfl, rfl, by decide +kernel, rfl, by decide +kernel, by decide +kernel⟩
theorem ok__law_woken (T : Txt K mg A) (G__law_asks : FnOk P w K mg base CX0 1 A.f__law_asks A.fd__law_asks ["_law_state"] spLAsks) : FnOk P w K mg base CX0 2 A.f__law_woken A.fd__law_woken ["_law_state"] spLWoken := by
  refine T.fun__law_woken.ok sc__law_woken (fun vs H Q E h => ?_) (fun cdv Ar outer s H vs Q E hr h => ?_)
  · obtain ⟨d, h, t, rfl, _⟩ := h
    rfl
  · obtain ⟨d, h, t, rfl, hd, ot, lt, fr, q⟩ := h
    refine ⟨_, (pss_cons (ps_if (pt_val (pe_dget (hu_of hr) (pv 0) pe_str (fun _ _ => rfl))) (pss_one (ps_ret (pe_lst pa_nil))) pss_nil)
      (pss_cons (ps_dput (hu_of hr) (pv 0) pe_str pe_bl rfl)
      (pss_one (ps_ret (pe_call G__law_asks (hr.mono (by decide)) rfl T.mg__law_asks T.fun__law_asks.kp T.b__law_asks .nil pass0 (pa_cons (pv 0) pa_nil)))))), ?_⟩
    walk_at "rd"
    refine rd_getS hd get_awake ?_
    cases ha : h.awake with
    | true =>
      walk_at "rd"
      refine ⟨Nat.zero_le _, fun u hu => ?_⟩
      have x1 := Ex.new (o := .lst []) hu
      refine q u [] _ hu (But.ex x1) ?_ upd_same ?_
      · rw [RC.wk_awake ha]; exact x1 _ _ hd
      · unfold Hd.wls; rw [ha]; exact .nil
    | false =>
      walk_at "rd"
      refine rd_putS hd (by rw [dS_len, sizeLine_eq]; omega) (put_awake ot) ?_
      walk_at "rd"
      refine ⟨d, h.wk, t, rfl, upd_same, fr, fun u xs H' hu x hx tx => ?_⟩
      have nud : u ≠ d := fun z => by rw [z, upd_same] at hu; cases hu
      rw [upd_ne nud] at hu
      refine q u xs H' hu (But.upd.trans (But.ex x)) (x _ _ upd_same) hx ?_
      unfold Hd.wls
      rw [ha]
      exact tx

end
end Rc
namespace Rc
open PySem L2 Evl
open RC (Hd Lt Wd Rg)

local macro_rules | `(tactic| walk_at "rd1") => `(tactic| first
  | (with_reducible refine rd_seq ?_)
  | (with_reducible refine rd_asg ?_)
  | (with_reducible refine rd_if ?_)
  | ((with_reducible refine' rd_var ?e ?_); (case e => rfl))
  | (with_reducible refine rd_c ?_)
  | (with_reducible refine rd_op ?_)
  | (with_reducible refine rd_I0 ?_)
  | ((with_reducible refine rd_I ?e ?_); case e => first | exact (show (0 : Int) < _ by decide) | exact (show _ ∧ _ from ⟨by decide, by decide⟩) | exact Or.inl ⟨by decide, by decide⟩ | exact Or.inr ⟨by decide, by decide⟩)
  | (with_reducible refine rd_eqI ?_)
  | (with_reducible refine rd_neI ?_)
  | (with_reducible refine rd_bl ?_)
  | (with_reducible refine rd_test ?_)
  | (with_reducible refine rd_and ?_)
  | (with_reducible refine rd_or ?_)
  | (with_reducible refine rd_not ?_)
  | (with_reducible refine rd_andV ?_)
  | (with_reducible refine rd_orV ?_)
  | (with_reducible refine rd_notV ?_)
  | (with_reducible refine rd_B ?_)
  | (with_reducible refine rd_ifE ?_)
  | (with_reducible refine rd_cons ?_)
  | (with_reducible refine rd_nil ?_)
  | (with_reducible refine rd_CB ?_)
  | (with_reducible refine rd_call ?_)
  | (with_reducible refine rd_callS ?_)
  | (with_reducible refine rd_meth ?_)
  | (with_reducible refine rd_mk ?_)
  | (with_reducible refine rd_lst ?_)
  | (with_reducible refine rd_tup ?_)
  | (with_reducible refine rd_un ?_)
  | (with_reducible refine rd_U ?_)
  | (with_reducible refine rd_tFld ?_)
  | (with_reducible refine rd_sFld ?_)
  | (with_reducible refine rd_methW ?_)
  | (with_reducible refine rd_abs ?_)
  | (with_reducible refine rd_int1 ?_)
  | (with_reducible refine rd_isNo ?_)
  | (with_reducible refine rd_notNo ?_)
  | (with_reducible refine rd_isBo ?_)
  | (with_reducible refine rd_notBo ?_)
  | (with_reducible refine rd_forL ?_)
  | (with_reducible refine rd_forT ?_)
  | (with_reducible refine rd_forR1 ?_)
  | (with_reducible refine rd_forR2 ?_)
  | (with_reducible refine rd_lcL ?_)
  | (with_reducible refine rd_lcT ?_)
  | (with_reducible refine rd_lcR1 ?_)
  | (with_reducible refine rd_chain ?_)
  | (with_reducible refine rd_ret ?_)
  | (with_reducible refine rd_retN ?_)
  | (with_reducible refine rd_drop ?_)
  | (with_reducible refine rd_next ?_)
  | (with_reducible refine rd_asgG ?_)
  | (with_reducible refine rd_pop ?_)
  | (with_reducible refine rd_makeW ?_)
  | (with_reducible refine rd_min2 ?_)
  | (with_reducible refine rd_tLenSet ?_)
  | (with_reducible refine rd_sl ?_)
  | (with_reducible refine rd_tPart ?_)
  | (with_reducible refine rd_part ?_)
  | (with_reducible refine rd_nopart ?_)
  | (with_reducible refine rd_bm0 ?_)
  | (with_reducible refine rd_dget ?_)
  | (with_reducible refine rd_dput ?_)
  | (with_reducible refine rd_forR3 ?_)
  | (with_reducible refine rd_slS ?_)
  | (with_reducible refine rd_lstRg ?_)
  | (with_reducible refine rd_forE ?_)
  | (with_reducible refine iteNT ?_)
  | (with_reducible refine iteNF ?_)
  | (with_reducible refine iteF ?_)
  | (with_reducible refine iteT ?_))
local macro_rules | `(tactic| walk_at "rd") => `(tactic| repeat (walk_at "rd1"))

-- RcDict RcHouse
section
variable {P : Program} {w : World} {K : PySem.W.Frag} {mg : Str → Option Value} {base : Heap} {A : Adr}
/-! ### the law's own hand takes a letter -/
theorem d_len {h : Hd} : (dS h []).length < sizeLine := by rw [sizeLine_eq]; exact Nat.lt_of_le_of_lt (m := 7) (Nat.le_of_ble_eq_true rfl) (by decide)
theorem if_mid {c : TT} {ts : TS} {nx : St → Hp → Prop} {rt : VK} {bk ct : St → Hp → Prop} {σ : St} {H : Hp} (Pv : St → Hp → Prop) (h : ∀ nx' : St → Hp → Prop, (∀ σ H, Pv σ H → nx' σ H) → tIfS c ts tNext ⟨nx', rt, bk, ct⟩ σ H) (hn : ∀ σ H, Pv σ H → nx σ H) :
    tIfS c ts tNext ⟨nx, rt, bk, ct⟩ σ H := h nx hn
theorem wAsk (w : Wd) : decide (V.str (wS w) = V.str "ask") = decide (w = .ask) := by cases w <;> first | exact decide_eq_true rfl | exact dec_str_ne (by decide +kernel)
theorem wAns (w : Wd) : decide (V.str (wS w) = V.str "answer") = decide (w = .answer) := by cases w <;> first | exact decide_eq_true rfl | exact dec_str_ne (by decide +kernel)
theorem wCrn (w : Wd) : decide (V.str (wS w) = V.str "crown") = decide (w = .crown) := by cases w <;> first | exact decide_eq_true rfl | exact dec_str_ne (by decide +kernel)
theorem seq_mid {ts tr : TS} {nx : St → Hp → Prop} {rt : VK} {bk ct : St → Hp → Prop} {σ : St} {H : Hp} (Pv : St → Hp → Prop) (h1 : ∀ nx' : St → Hp → Prop, (∀ σ H, Pv σ H → nx' σ H) → ts ⟨nx', rt, bk, ct⟩ σ H)
    (h2 : ∀ σ H, Pv σ H → tr ⟨nx, rt, bk, ct⟩ σ H) : tSeq ts tr ⟨nx, rt, bk, ct⟩ σ H := h1 _ h2
def spRTaken : Sp := fun vs H Q _ => ∃ (d t : Addr) (h : Hd) (l : Lt), vs = [.ref d, .ref t] ∧ H d = some (.dK (dS h [])) ∧ H t = some (.tup (lV l)) ∧ Far h ∧ h.stage ≤ 50 ∧ FairR h l ∧
  ∀ (q : Addr) (xs : List V) (H' : Hp), H q = none → But d H H' → H' d = some (.dK (dS (h.take l).1 [])) → H' q = some (.lst xs) → Tups lV H' xs (h.take l).2 → Q (.ref q) H'
theorem sc__law_taken : FnScope ["_law_state", "_law_letter", "_law_found", "_law_way", "_law_word", "_law_number", "_law_stage", "_law_steps", "_law_mine"] ["_law_state", "_law_letter"] (defScope s__law_taken) := ⟨rfl, rfl, rfl, by decide +kernel, rfl, by decide +kernel, by decide +kernel⟩
theorem ok__law_taken (T : Txt K mg A) (G__law_asks : FnOk P w K mg base CX0 1 A.f__law_asks A.fd__law_asks ["_law_state"] spLAsks) (G__law_woken : FnOk P w K mg base CX0 2 A.f__law_woken A.fd__law_woken ["_law_state"] spLWoken) :
    FnOk P w K mg base CX0 3 A.f__law_taken A.fd__law_taken ["_law_state", "_law_letter"] spRTaken := by
  refine T.fun__law_taken.ok sc__law_taken (fun vs H Q E h => ?_) (fun cdv Ar outer s H vs Q E hr h => ?_)
  · obtain ⟨d, t, h, l, rfl, _⟩ := h
    rfl
  · obtain ⟨d, t, h, l, rfl, hd, ht, fr, st50, ⟨fa1, fa2⟩, q⟩ := h
    have ntd : t ≠ d := ne_of ht hd (by intro z; cases z)
    refine ⟨_, (pss_cons (ps_set (i := 2) sc__law_taken.nd rfl (Or.inl rfl) (pe_call G__law_woken (hr.mono (by decide)) rfl T.mg__law_woken T.fun__law_woken.kp T.b__law_woken .nil pass0 (pa_cons (pv 0) pa_nil)))
      (pss_cons (ps_asg (pv 1) (pg_tup (by rfl) (pgs_cons (pg_name (i := 3) sc__law_taken.nd rfl (Or.inl rfl)) (pgs_cons (pg_name (i := 4) sc__law_taken.nd rfl (Or.inl rfl)) (pgs_cons (pg_name (i := 5) sc__law_taken.nd rfl (Or.inl rfl)) (pgs_cons (pg_name (i := 6) sc__law_taken.nd rfl (Or.inl rfl)) (pgs_cons (pg_name (i := 7) sc__law_taken.nd rfl (Or.inl rfl)) pgs_nil)))))))
      (pss_cons (ps_set (i := 8) sc__law_taken.nd rfl (Or.inl rfl) (pe_cmpR op_eq (pv 5) (pe_dget (hu_of hr) (pv 0) pe_str (fun _ _ => rfl)) (nomark _)))
      (pss_cons (ps_if (PW.pt (pw_and (pt_cmpR op_eq (pv 4) pe_str (nomark _)) (pw_and (pt_val (pv 8)) (pw_and1 (pt_not (pt_val (pe_dget (hu_of hr) (pv 0) pe_str (fun _ _ => rfl)))))))) (pss_cons (ps_dput (hu_of hr) (pv 0) pe_str pe_bl rfl)
      (pss_cons (ps_dput (hu_of hr) (pv 0) pe_str (pv 5) rfl)
      (pss_one (ps_ret (pe_op op_cat (pv 2) (pe_lst (pa_cons (pe_tup (pa_cons pe_int (pa_cons pe_str (pa_cons (pv 5) (pa_cons pe_int (pa_cons pe_int pa_nil)))))) pa_nil))))))) pss_nil)
      (pss_cons (ps_if (PW.pt (pw_and (pt_cmpR op_eq (pv 4) pe_str (nomark _)) (pw_and1 (pt_cmpR op_gt (pv 5) (pe_dget (hu_of hr) (pv 0) pe_str (fun _ _ => rfl)) (nomark _))))) (pss_cons (ps_dput (hu_of hr) (pv 0) pe_str pe_bl rfl)
      (pss_cons (ps_if (pt_cmpR op_eq (pv 7) pe_int (nomark _)) (pss_one (ps_ret (pe_op op_cat (pv 2) (pe_lst (pa_cons (pe_tup (pa_cons (pe_op op_sub pe_int (pv 3)) (pa_cons pe_str (pa_cons (pv 5) (pa_cons (pv 6) (pa_cons pe_int pa_nil)))))) pa_nil))))) pss_nil)
      (pss_one (ps_ret (pe_op op_cat (pv 2) (pe_lst (pa_cons (pe_tup (pa_cons (pv 3) (pa_cons pe_str (pa_cons (pv 5) (pa_cons (pv 6) (pa_cons (pe_op op_sub (pv 7) pe_int) pa_nil)))))) pa_nil))))))) pss_nil)
      (pss_cons (ps_if (PW.pt (pw_and (pt_cmpR op_eq (pv 4) pe_str (nomark _)) (pw_and1 (pt_val (pv 8))))) (pss_cons (ps_dput (hu_of hr) (pv 0) pe_str (pe_op op_add (pe_dget (hu_of hr) (pv 0) pe_str (fun _ _ => rfl)) pe_int) rfl)
      (pss_one (ps_if (PW.pt (pw_and (pt_cmpR op_eq (pe_dget (hu_of hr) (pv 0) pe_str (fun _ _ => rfl)) pe_int (nomark _)) (pw_and1 (pt_not (pt_val (pe_dget (hu_of hr) (pv 0) pe_str (fun _ _ => rfl))))))) (pss_cons (ps_dput (hu_of hr) (pv 0) pe_str pe_int rfl)
      (pss_cons (ps_dput (hu_of hr) (pv 0) pe_str (pe_op op_add (pv 6) pe_int) rfl)
      (pss_one (ps_ret (pe_op op_cat (pv 2) (pe_call G__law_asks (hr.mono (by decide)) rfl T.mg__law_asks T.fun__law_asks.kp T.b__law_asks .nil pass0 (pa_cons (pv 0) pa_nil))))))) pss_nil))) (pss_one (ps_if (PW.pt (pw_and (pt_cmpR op_ne (pv 4) pe_str (nomark _)) (pw_and1 (pt_not (pt_val (pv 8)))))) (pss_cons (ps_if (pt_cmpR op_eq (pv 4) pe_str (nomark _)) (pss_one (ps_dput (hu_of hr) (pv 0) pe_str (pv 5) rfl)) pss_nil)
      (pss_one (ps_ret (pe_op op_cat (pv 2) (pe_lst (pa_cons (pv 1) pa_nil)))))) pss_nil)))
      (pss_one (ps_ret (pv 2))))))))), ?_⟩
    walk_at "rd"
    refine ⟨d, h, [], rfl, hd, off_nil, Nat.zero_le _, fr, fun f xs1 H1 hf b1 hd1 hx1 t1 => ?_⟩
    have ht1 := b1 _ _ ht ntd
    have nfd : f ≠ d := ne_of hx1 hd1 (by intro z; cases z)
    have lx1 : xs1.length ≤ 2 := by rw [t1.len]; unfold Hd.wls Hd.asks; split <;> simp
    walk_at "rd"
    refine ⟨t, lV l, rfl, SqT.of ht1, rfl, ?_⟩
    refine ⟨_, _, rfl, ?_⟩
    refine ⟨_, _, rfl, ?_⟩
    refine ⟨_, _, rfl, ?_⟩
    refine ⟨_, _, rfl, ?_⟩
    refine ⟨_, _, rfl, ?_⟩
    refine ⟨rfl, ?_⟩
    walk_at "rd"
    refine rd_getS hd1 get_num ?_
    walk_at "rd"
    -- found + what it sends
    have fin : ∀ (H2 : Hp) (g : Addr) (ys : List V) (h' : Hd) (ls : List Lt), But d H1 H2 → H2 d = some (.dK (dS h' [])) → H2 g = some (.lst ys) → Tups lV H2 ys ls → (h.wk.proc l).1 = h' → (h.wk.proc l).2 = ls → rCat (.ref f) (.ref g) H2 Q := by
      intro H2 g ys h' ls b2 hd2 hg tg e1 e2
      have hf2 := b2 _ _ hx1 nfd
      have lys : ys.length ≤ 2 := by rw [tg.len, ← e2]; exact RC.proc_len _ _
      refine ⟨f, g, xs1, ys, rfl, rfl, hf2, hg, sz_of (by omega), fun r hr2 => ?_⟩
      have x3 := Ex.new (o := .lst (xs1 ++ ys)) hr2
      have im1 : Tups lV H2 xs1 h.wls := t1.imp fun b ts hb => b2 _ _ hb (ne_of hb hd1 (by intro z; cases z))
      have nrd : r ≠ d := fun e => by rw [e, hd2] at hr2; cases hr2
      have hr0 : H r = none := But.free (b1.trans b2) hr2 nrd
      refine q r _ _ hr0 (b1.trans (b2.trans (But.ex x3))) ?_ upd_same ?_
      · show _ = some (HO.dK (dS (h.wk.proc l).1 _))
        rw [e1]; exact x3 _ _ hd2
      · show Tups lV _ _ (h.wls ++ (h.wk.proc l).2)
        rw [e2]; exact (im1.app tg).ex x3
    have nil : ∀ (H2 : Hp) (h' : Hd), But d H1 H2 → H2 d = some (.dK (dS h' [])) → (h.wk.proc l).1 = h' → (h.wk.proc l).2 = [] → Q (.ref f) H2 := fun H2 h' b2 hd2 e1 e2 => by
      refine q f xs1 H2 hf (b1.trans b2) ?_ (b2 _ _ hx1 nfd) ?_
      · show _ = some (HO.dK (dS (h.wk.proc l).1 _))
        rw [e1]; exact hd2
      · show Tups lV _ _ (h.wls ++ (h.wk.proc l).2)
        rw [e2, List.append_nil]
        exact t1.imp fun b ts hb => b2 _ _ hb (ne_of hb hd1 (by intro z; cases z))
    -- one letter more, made anew
    have send : ∀ (H2 : Hp) (h' : Hd) (l' : Lt), But d H1 H2 → H2 d = some (.dK (dS h' [])) → (h.wk.proc l).1 = h' → (h.wk.proc l).2 = [l'] → ∀ t2, H2 t2 = none → ∀ g, upd H2 t2 (.tup (lV l')) g = none →
        rCat (.ref f) (.ref g) (upd (upd H2 t2 (.tup (lV l'))) g (.lst [.ref t2])) Q := by
      intro H2 h' l' b2 hd2 e1 e2 t2 ht2 g hg
      have x1 := Ex.new (o := .tup (lV l')) ht2
      have x2 := Ex.new (o := .lst [V.ref t2]) hg
      have xx := x1.trans x2
      exact fin _ g _ h' [l'] (b2.trans (But.ex xx)) (xx _ _ hd2) upd_same (.one (x2 _ _ upd_same)) e1 e2
    have nums : h.wk.num = h.num := rfl
    cases ew : l.word with
    | ask =>
      have pr : h.wk.proc l = h.wk.asked l := by unfold Hd.proc; rw [ew]
      have stp1 := fa1 ew
      refine rd_eq rfl ?_
      rw [wAsk]
      refine rd_bl ?_
      refine iteT ?_
      walk_at "rd"
      by_cases c1 : l.num = h.num
      · rw [decide_eq_true (show l.num = h.wk.num from c1)]
        walk_at "rd"
        refine rd_getS hd1 get_first ?_
        cases hc : h.wk.crowned with
        | false =>
          have pe : h.wk.proc l = ({ h.wk with crowned := true, known := some l.num }, [⟨1, .crown, l.num, 0, 0⟩]) := by
            rw [pr]; unfold Hd.asked; rw [if_pos ⟨c1, hc⟩]
          walk_at "rd"
          refine rd_putS hd1 d_len (put_first off_nil) ?_
          walk_at "rd"
          refine rd_putS upd_same d_len (put_known (x := some l.num) off_nil) ?_
          rw [upd_upd]
          walk_at "rd"
          refine ⟨by show 5 ≤ sizeLine; decide, fun t2 ht2 => ?_⟩
          walk_at "rd"
          refine ⟨by show 1 ≤ sizeLine; decide, fun g hg => ?_⟩
          exact send _ _ ⟨1, .crown, l.num, 0, 0⟩ But.upd upd_same (by rw [pe]) (by rw [pe]) t2 ht2 g hg
        | true =>
          have pe : h.wk.proc l = (h.wk, []) := by
            rw [pr]; unfold Hd.asked; rw [if_neg (by rw [hc]; intro z; cases z.2), if_pos (by rw [nums]; omega)]
          walk_at "rd"
          refine rd_eq rfl ?_
          rw [wAsk]
          refine rd_bl ?_
          refine iteT ?_
          walk_at "rd"
          refine rd_getS hd1 get_num ?_
          walk_at "rd"
          refine rd_dec (fun z => absurd z (by rw [nums]; omega)) fun _ => ?_
          walk_at "rd"
          refine rd_eq rfl ?_
          rw [wAns]
          refine rd_bl ?_
          refine iteF ?_
          walk_at "rd"
          refine rd_ne rfl ?_
          rw [wAsk]
          refine rd_bl ?_
          refine iteNT ?_
          walk_at "rd"
          exact nil H1 h.wk (fun _ _ z _ => z) hd1 (by rw [pe]) (by rw [pe])
      · rw [decide_eq_false (show ¬ l.num = h.wk.num from c1)]
        walk_at "rd"
        refine rd_eq rfl ?_
        rw [wAsk]
        refine rd_bl ?_
        refine iteT ?_
        walk_at "rd"
        refine rd_getS hd1 get_num ?_
        walk_at "rd"
        refine rd_dec (fun c2 => ?_) (fun c2 => ?_)
        · have c2' : h.num < l.num := c2
          have pe : h.wk.proc l = if 1 < l.stp then ({ h.wk with beaten := true }, [⟨l.way, .ask, l.num, l.stg, l.stp - 1⟩]) else ({ h.wk with beaten := true }, [⟨-l.way, .answer, l.num, l.stg, 0⟩]) := by
            rw [pr]; unfold Hd.asked
            rw [if_neg fun z => c1 z.1, if_neg (by rw [nums]; omega), ew]
          walk_at "rd"
          refine rd_putS hd1 d_len (put_beaten off_nil) ?_
          walk_at "rd"
          refine rd_dec (fun c3 => ?_) (fun c3 => ?_)
          · rw [if_neg (by omega)] at pe
            walk_at "rd"
            rw [Int.zero_sub]
            refine ⟨by show 5 ≤ sizeLine; decide, fun t2 ht2 => ?_⟩
            walk_at "rd"
            refine ⟨by show 1 ≤ sizeLine; decide, fun g hg => ?_⟩
            exact send _ _ ⟨-l.way, .answer, l.num, l.stg, 0⟩ But.upd upd_same (by rw [pe]) (by rw [pe]) t2 ht2 g hg
          · rw [if_pos (by omega)] at pe
            walk_at "rd"
            refine ⟨by show 5 ≤ sizeLine; decide, fun t2 ht2 => ?_⟩
            walk_at "rd"
            refine ⟨by show 1 ≤ sizeLine; decide, fun g hg => ?_⟩
            exact send _ _ ⟨l.way, .ask, l.num, l.stg, l.stp - 1⟩ But.upd upd_same (by rw [pe]) (by rw [pe]) t2 ht2 g hg
        · have c2' : ¬ h.num < l.num := c2
          have pe : h.wk.proc l = (h.wk, []) := by
            rw [pr]; unfold Hd.asked; rw [if_neg fun z => c1 z.1, if_pos (by rw [nums]; omega)]
          walk_at "rd"
          refine rd_eq rfl ?_
          rw [wAns]
          refine rd_bl ?_
          refine iteF ?_
          walk_at "rd"
          refine rd_ne rfl ?_
          rw [wAsk]
          refine rd_bl ?_
          refine iteNT ?_
          walk_at "rd"
          exact nil H1 h.wk (fun _ _ z _ => z) hd1 (by rw [pe]) (by rw [pe])
    | answer =>
      have pr : h.wk.proc l = h.wk.answered l := by unfold Hd.proc; rw [ew]
      refine rd_eq rfl ?_
      rw [wAsk]
      refine rd_bl ?_
      refine iteF ?_
      walk_at "rd"
      refine rd_eq rfl ?_
      rw [wAsk]
      refine rd_bl ?_
      refine iteF ?_
      walk_at "rd"
      refine rd_eq rfl ?_
      rw [wAns]
      refine rd_bl ?_
      refine iteT ?_
      walk_at "rd"
      by_cases c1 : l.num = h.num
      · obtain ⟨g1, g2⟩ := fa2 ew c1
        rw [decide_eq_true (show l.num = h.wk.num from c1)]
        walk_at "rd"
        refine rd_getS hd1 get_came ?_
        walk_at "rd"
        refine rd_putS hd1 d_len (put_came off_nil) ?_
        walk_at "rd"
        refine rd_getS upd_same get_came ?_
        walk_at "rd"
        refine rd_dec (fun c2 => ?_) (fun c2 => ?_)
        · have c2' : h.came + 1 = 2 := c2
          walk_at "rd"
          cases hb : h.beaten with
          | true =>
            have pe : h.wk.proc l = ({ h.wk with came := h.wk.came + 1 }, []) := by
              rw [pr]; unfold Hd.answered; rw [if_neg (show ¬ l.num ≠ h.wk.num from fun z => z c1), if_pos (show h.wk.came + 1 < 2 ∨ h.wk.beaten = true from .inr hb)]
            refine rd_getS (v := .bl true) upd_same (get_beaten.trans (congrArg (fun b => some (V.bl b)) hb)) ?_
            walk_at "rd"
            exact nil _ _ But.upd upd_same (by rw [pe]) (by rw [pe])
          | false =>
            have pe : h.wk.proc l = (h.wk.up, h.wk.up.asks) := by
              rw [pr]; unfold Hd.answered
              rw [if_neg (show ¬ l.num ≠ h.wk.num from fun z => z c1), if_neg (show ¬ (h.wk.came + 1 < 2 ∨ h.wk.beaten = true) from fun z => by
                rcases z with z | z
                · have : h.came + 1 < 2 := z
                  omega
                · rw [show h.wk.beaten = h.beaten from rfl, hb] at z; cases z)]
            refine rd_getS (v := .bl false) upd_same (get_beaten.trans (congrArg (fun b => some (V.bl b)) hb)) ?_
            walk_at "rd"
            refine rd_putS upd_same d_len (put_came off_nil) ?_
            walk_at "rd"
            refine rd_putS upd_same d_len (put_stage off_nil) ?_
            rw [upd_upd, upd_upd]
            have eu : dS ({ ({ ({ h.wk with came := h.wk.came + 1 } : Hd) with came := 0 } : Hd) with stage := l.stg + 1 } : Hd) [] = dS h.wk.up [] := by rw [g1]; rfl
            rw [eu]
            walk_at "rd"
            obtain ⟨sn, hs1, hs2, hs3⟩ := fr
            refine ⟨d, h.wk.up, _, rfl, upd_same, ⟨sn + 1, ?_, by omega, ?_⟩, fun g ys H' hg x hg' tg => ?_⟩
            · show h.stage + 1 = _
              omega
            · show 2 * h.far = _
              rw [hs3, Nat.pow_succ]
              omega
            exact fin H' g ys _ _ (But.upd.trans (But.ex x)) (x _ _ upd_same) hg' tg (by rw [pe]) (by rw [pe])
        · have c2' : ¬ h.came + 1 = 2 := c2
          have pe : h.wk.proc l = ({ h.wk with came := h.wk.came + 1 }, []) := by
            rw [pr]; unfold Hd.answered
            rw [if_neg (show ¬ l.num ≠ h.wk.num from fun z => z c1), if_pos (show h.wk.came + 1 < 2 ∨ h.wk.beaten = true from by
              rcases g2 with z | z
              · exact .inl (show h.came + 1 < 2 by omega)
              · exact .inr z)]
          walk_at "rd"
          exact nil _ _ But.upd upd_same (by rw [pe]) (by rw [pe])
      · have pe : h.wk.proc l = (h.wk, [l]) := by
          rw [pr]; unfold Hd.answered; rw [if_pos (show l.num ≠ h.wk.num from c1)]
        rw [decide_eq_false (show ¬ l.num = h.wk.num from c1)]
        walk_at "rd"
        refine rd_ne rfl ?_
        rw [wAsk]
        refine rd_bl ?_
        refine iteNF ?_
        walk_at "rd"
        refine rd_eq rfl ?_
        rw [wCrn]
        refine rd_bl ?_
        refine iteF ?_
        walk_at "rd"
        refine ⟨by show 1 ≤ sizeLine; decide, fun g hg => ?_⟩
        have x1 := Ex.new (o := .lst [V.ref t]) hg
        exact fin _ g _ h.wk [l] (But.ex x1) (x1 _ _ hd1) upd_same (.one (x1 _ _ ht1)) (by rw [pe]) (by rw [pe])
    | crown =>
      have pr : h.wk.proc l = h.wk.told l := by unfold Hd.proc; rw [ew]
      refine rd_eq rfl ?_
      rw [wAsk]
      refine rd_bl ?_
      refine iteF ?_
      walk_at "rd"
      refine rd_eq rfl ?_
      rw [wAsk]
      refine rd_bl ?_
      refine iteF ?_
      walk_at "rd"
      refine rd_eq rfl ?_
      rw [wAns]
      refine rd_bl ?_
      refine iteF ?_
      walk_at "rd"
      refine rd_ne rfl ?_
      rw [wAsk]
      refine rd_bl ?_
      refine iteNF ?_
      walk_at "rd"
      by_cases c1 : l.num = h.num
      · have pe : h.wk.proc l = (h.wk, []) := by
          rw [pr]; unfold Hd.told; rw [if_pos (show l.num = h.wk.num from c1)]
        rw [decide_eq_true (show l.num = h.wk.num from c1)]
        walk_at "rd"
        exact nil H1 h.wk (fun _ _ z _ => z) hd1 (by rw [pe]) (by rw [pe])
      · have pe : h.wk.proc l = ({ h.wk with known := some l.num }, [l]) := by
          rw [pr]; unfold Hd.told; rw [if_neg (show ¬ l.num = h.wk.num from c1)]
        rw [decide_eq_false (show ¬ l.num = h.wk.num from c1)]
        walk_at "rd"
        refine rd_eq rfl ?_
        rw [wCrn]
        refine rd_bl ?_
        refine iteT ?_
        walk_at "rd"
        refine rd_putS hd1 d_len (put_known (x := some l.num) off_nil) ?_
        walk_at "rd"
        refine ⟨by show 1 ≤ sizeLine; decide, fun g hg => ?_⟩
        have x1 := Ex.new (o := .lst [V.ref t]) hg
        exact fin _ g _ _ [l] (But.upd.trans (But.ex x1)) (x1 _ _ upd_same) upd_same (.one (x1 _ _ (by rw [upd_ne ntd]; exact ht1))) (by rw [pe]) (by rw [pe])
end
end Rc
namespace Rc
open PySem L2 Evl
open RC (Hd Lt Wd Rg)

local macro_rules | `(tactic| walk_at "rd1") => `(tactic| first
  | (with_reducible refine rd_seq ?_)
  | (with_reducible refine rd_asg ?_)
  | (with_reducible refine rd_if ?_)
  | ((with_reducible refine' rd_var ?e ?_); (case e => rfl))
  | (with_reducible refine rd_c ?_)
  | (with_reducible refine rd_op ?_)
  | (with_reducible refine rd_I0 ?_)
  | ((with_reducible refine rd_I ?e ?_); case e => first | exact (show (0 : Int) < _ by decide) | exact (show _ ∧ _ from ⟨by decide, by decide⟩) | exact Or.inl ⟨by decide, by decide⟩ | exact Or.inr ⟨by decide, by decide⟩)
  | (with_reducible refine rd_eqI ?_)
  | (with_reducible refine rd_neI ?_)
  | (with_reducible refine rd_bl ?_)
  | (with_reducible refine rd_test ?_)
  | (with_reducible refine rd_and ?_)
  | (with_reducible refine rd_or ?_)
  | (with_reducible refine rd_not ?_)
  | (with_reducible refine rd_andV ?_)
  | (with_reducible refine rd_orV ?_)
  | (with_reducible refine rd_notV ?_)
  | (with_reducible refine rd_B ?_)
  | (with_reducible refine rd_ifE ?_)
  | (with_reducible refine rd_cons ?_)
  | (with_reducible refine rd_nil ?_)
  | (with_reducible refine rd_CB ?_)
  | (with_reducible refine rd_call ?_)
  | (with_reducible refine rd_callS ?_)
  | (with_reducible refine rd_meth ?_)
  | (with_reducible refine rd_mk ?_)
  | (with_reducible refine rd_lst ?_)
  | (with_reducible refine rd_tup ?_)
  | (with_reducible refine rd_un ?_)
  | (with_reducible refine rd_U ?_)
  | (with_reducible refine rd_tFld ?_)
  | (with_reducible refine rd_sFld ?_)
  | (with_reducible refine rd_methW ?_)
  | (with_reducible refine rd_abs ?_)
  | (with_reducible refine rd_int1 ?_)
  | (with_reducible refine rd_isNo ?_)
  | (with_reducible refine rd_notNo ?_)
  | (with_reducible refine rd_isBo ?_)
  | (with_reducible refine rd_notBo ?_)
  | (with_reducible refine rd_forL ?_)
  | (with_reducible refine rd_forT ?_)
  | (with_reducible refine rd_forR1 ?_)
  | (with_reducible refine rd_forR2 ?_)
  | (with_reducible refine rd_lcL ?_)
  | (with_reducible refine rd_lcT ?_)
  | (with_reducible refine rd_lcR1 ?_)
  | (with_reducible refine rd_chain ?_)
  | (with_reducible refine rd_ret ?_)
  | (with_reducible refine rd_retN ?_)
  | (with_reducible refine rd_drop ?_)
  | (with_reducible refine rd_next ?_)
  | (with_reducible refine rd_asgG ?_)
  | (with_reducible refine rd_pop ?_)
  | (with_reducible refine rd_makeW ?_)
  | (with_reducible refine rd_min2 ?_)
  | (with_reducible refine rd_tLenSet ?_)
  | (with_reducible refine rd_sl ?_)
  | (with_reducible refine rd_tPart ?_)
  | (with_reducible refine rd_part ?_)
  | (with_reducible refine rd_nopart ?_)
  | (with_reducible refine rd_bm0 ?_)
  | (with_reducible refine rd_dget ?_)
  | (with_reducible refine rd_dput ?_)
  | (with_reducible refine rd_forR3 ?_)
  | (with_reducible refine rd_slS ?_)
  | (with_reducible refine rd_lstRg ?_)
  | (with_reducible refine rd_forE ?_)
  | (with_reducible refine iteNT ?_)
  | (with_reducible refine iteNF ?_)
  | (with_reducible refine iteF ?_)
  | (with_reducible refine iteT ?_))
local macro_rules | `(tactic| walk_at "rd") => `(tactic| repeat (walk_at "rd1"))

-- RcDict RcHouse
section
variable {P : Program} {w : World} {K : PySem.W.Frag} {mg : Str → Option Value} {base : Heap} {A : Adr}
/-! ### the law's own ring -/
def spLPut : Sp := fun vs H Q _ => ∃ (D hl ml f : Addr) (ds : List Addr) (S : Rg) (q : Nat) (xs : List V) (ls : List Lt), vs = [.ref D, .int ((q : Nat) : Int), .ref f] ∧ HouseAt H D hl ml ds S ∧ 0 < S.hands.length ∧ H f = some (.lst xs) ∧ f ≠ ml ∧ Tups lV H xs ls ∧ S.post.length + ls.length ≤ 90000 ∧
  ∀ H', HouseAt H' D hl ml ds (S.put q ls) → Keep D ml ds H H' → Q .non H'
theorem sc__law_put : FnScope ["_law_house", "_law_place", "_law_letters_here", "_law_letter"] ["_law_house", "_law_place", "_law_letters_here"] (defScope s__law_put) := ⟨rfl, rfl, rfl, by decide +kernel, rfl, by decide +kernel, by decide +kernel⟩
theorem ok__law_put (T : Txt K mg A) : FnOk P w K mg base CX0 1 A.f__law_put A.fd__law_put ["_law_house", "_law_place", "_law_letters_here"] spLPut := by
  refine T.fun__law_put.ok sc__law_put (fun vs H Q E h => ?_) (fun cdv Ar outer s H vs Q E hr h => ?_)
  · obtain ⟨D, hl, ml, f, ds, S, q, xs, ls, rfl, _⟩ := h
    rfl
  · obtain ⟨D, hl, ml, f, ds, S, q, xs, ls, rfl, W, hpos, hf, hfm, tl, hz, k⟩ := h
    refine ⟨_, (pss_one (ps_for PassesOwn.never rfl (pi_list (pv 2)) (pg_name (i := 3) sc__law_put.nd rfl (Or.inl rfl)) (pss_cons (ps_expr (pe_bm PySem.F.plainAttrs_list PySem.F.slot_list_append PySem.F.type_list_append mt_append (pe_dget (hu_of hr) (pv 0) pe_str (fun _ _ => rfl)) (pa_cons (pe_op op_catT (pe_tup (pa_cons (pe_op op_mod (pe_op op_add (pv 1) (pe_ix ix_tup (pv 3) pe_int (fun _ _ => rfl))) (pe_callB call_lenN (by rfl) T.no_len (by decide +kernel) (pa_cons (pe_dget (hu_of hr) (pv 0) pe_str (fun _ _ => rfl)) pa_nil))) pa_nil)) (pv 3)) pa_nil)))
      (pss_one (ps_dput (hu_of hr) (pv 0) pe_str (pe_op op_add (pe_dget (hu_of hr) (pv 0) pe_str (fun _ _ => rfl)) pe_int) rfl))))), ?_⟩
    walk_at "rd"
    refine for_L (SqL.of hf) (fun i σ H' => HouseAt H' D hl ml ds (S.put q (ls.take i)) ∧ Keep D ml ds H H' ∧ ∃ v : Option V, σ = [some (.ref D), some (.int ((q : Nat) : Int)), some (.ref f), v])
      ⟨by simpa [Rg.put] using W, Keep.refl _ _ _ _, none, rfl⟩ (fun i σ H' _ z => SqL.of (W.keep_l hf hfm z.2.1)) ?_ ?_
    · rintro i x σ H' hi ⟨W1, k1, v, rfl⟩
      obtain ⟨t, y, rfl, hy, hty⟩ := tl.get hi
      have ht1 := W.keep_t hty k1
      obtain ⟨ys, hm1, tm1⟩ := W1.pl
      have nh : (S.put q (ls.take i)).hands.length = S.hands.length := rfl
      have hys : ys.length < 100000 := by
        rw [tm1.len]
        show (S.post ++ (ls.take i).map _).length < 100000
        rw [List.length_append, List.length_map, List.length_take]
        omega
      walk_at "rd"
      refine rd_getS W1.ob get_mails ?_
      refine ⟨.inl ⟨rfl, ys, SqL.of hm1⟩, ?_⟩
      walk_at "rd"
      refine rd_ixT (k := 0) (SqT.of ht1) rfl rfl ?_
      walk_at "rd"
      refine rd_getS W1.ob get_hands ?_
      walk_at "rd"
      refine rd_len (SqL.of W1.hs) ?_
      rw [List.length_map, W1.len, nh]
      refine rd_I (show (0 : Int) < ((S.hands.length : Nat) : Int) by omega) ?_
      walk_at "rd"
      refine ⟨(by show 1 ≤ sizeLine; decide), fun u hu => ?_⟩
      walk_at "rd"
      have ht2 := Ex.new (o := .tup [V.int ((((q : Nat) : Int) + y.way) % ((S.hands.length : Nat) : Int))]) hu _ _ ht1
      refine ⟨u, t, _, lV y, rfl, rfl, SqT.of upd_same, SqT.of ht2, (by simp), (by show 1 + 5 ≤ sizeLine; decide), fun z => (by cases z), fun _ r hr' => ?_⟩
      have et : [V.int ((((q : Nat) : Int) + y.way) % ((S.hands.length : Nat) : Int))] ++ lV y = mV (RC.nxt S.hands.length q y.way, y) := by
        show V.int _ :: lV y = V.int ((RC.nxt S.hands.length q y.way : Nat) : Int) :: lV y
        rw [nxt_cast hpos]
      rw [et]
      walk_at "rd"
      have e2 := (Ex.new (o := .tup [V.int ((((q : Nat) : Int) + y.way) % ((S.hands.length : Nat) : Int))]) hu).trans (Ex.new (o := .tup (mV (RC.nxt S.hands.length q y.way, y))) hr')
      generalize hH2 : upd (upd H' u (.tup [V.int ((((q : Nat) : Int) + y.way) % ((S.hands.length : Nat) : Int))])) r (.tup (mV (RC.nxt S.hands.length q y.way, y))) = H2 at e2 ⊢
      have hr2 : H2 r = some (.tup (mV (RC.nxt S.hands.length q y.way, y))) := by rw [← hH2]; exact upd_same
      have W2 := W1.ex e2
      have hm2 := e2 _ _ hm1
      have nDm : D ≠ ml := ne_of W2.ob hm2 (by intro z; cases z)
      refine ⟨ml, ys, .ref r, rfl, rfl, hm2, sz_lt hys, ?_⟩
      walk_at "rd"
      refine rd_getS (by rw [upd_ne nDm]; exact W2.ob) get_sent ?_
      walk_at "rd"
      refine rd_putS (by rw [upd_ne nDm]; exact W2.ob) hD_len put_sent ?_
      have W3 := W2.post hm2 (tm1.ex e2) hr2
      have k3 : Keep D ml ds H' (upd (upd H2 ml (.lst (ys ++ [.ref r]))) D (.dK (hD hl ml ((S.put q (ls.take i)).many + 1)))) := fun b o hb n1 n2 _ => by
        rw [upd_ne n1, upd_ne n2]; exact e2 _ _ hb
      rw [put_more hy]
      exact ⟨W3, k1.trans k3, _, rfl⟩
    · rintro σ H' ⟨W1, k1, v, rfl⟩
      rw [tl.len, List.take_length] at W1
      exact k H' W1 k1
def spLCame : Sp := fun vs H Q _ => ∃ (D hl ml : Addr) (ds : List Addr) (ks : List Int) (S : Rg) (i : Nat), vs = [.ref D, .int ((i : Nat) : Int)] ∧ HouseAt H D hl ml ds S ∧ RG ks S ∧ i < S.post.length ∧
  ∀ H' t, HouseAt H' D hl ml ds (S.bring i) → Keep D ml ds H H' → H' t = some (.tup (mV (S.mail i))) → Q (.ref t) H'
theorem sc__law_came : FnScope ["_law_house", "_law_at", "_law_mail"] ["_law_house", "_law_at"] (defScope s__law_came) := ⟨rfl, rfl, rfl, by decide +kernel, rfl, by decide +kernel, by decide +kernel⟩
theorem ok__law_came (T : Txt K mg A) (G__law_put : FnOk P w K mg base CX0 1 A.f__law_put A.fd__law_put ["_law_house", "_law_place", "_law_letters_here"] spLPut) (G__law_taken : FnOk P w K mg base CX0 3 A.f__law_taken A.fd__law_taken ["_law_state", "_law_letter"] spRTaken) :
    FnOk P w K mg base CX0 4 A.f__law_came A.fd__law_came ["_law_house", "_law_at"] spLCame := by
  refine T.fun__law_came.ok sc__law_came (fun vs H Q E h => ?_) (fun cdv Ar outer s H vs Q E hr h => ?_)
  · obtain ⟨D, hl, ml, ds, ks, S, i, rfl, _⟩ := h
    rfl
  · obtain ⟨D, hl, ml, ds, ks, S, i, rfl, W, R, hlt, q⟩ := h
    obtain ⟨xs, hm, tm⟩ := W.pl
    have small := R.small
    refine ⟨_, (pss_cons (ps_set (i := 2) sc__law_came.nd rfl (Or.inl rfl) (pe_bm PySem.F.plainAttrs_list PySem.F.slot_list_pop PySem.F.type_list_pop mt_popAt (pe_dget (hu_of hr) (pv 0) pe_str (fun _ _ => rfl)) (pa_cons (pv 1) pa_nil)))
      (pss_cons (ps_expr (pe_call G__law_put (hr.mono (by decide)) rfl T.mg__law_put T.fun__law_put.kp T.b__law_put .nil pass0 (pa_cons (pv 0) (pa_cons (pe_ix ix_tup (pv 2) pe_int (fun _ _ => rfl)) (pa_cons (pe_call G__law_taken (hr.mono (by decide)) rfl T.mg__law_taken T.fun__law_taken.kp T.b__law_taken .nil pass0 (pa_cons (pe_ix ix_list (pe_dget (hu_of hr) (pv 0) pe_str (fun _ _ => rfl)) (pe_ix ix_tup (pv 2) pe_int (fun _ _ => rfl)) (fun _ _ => rfl)) (pa_cons (pe_slice sl_tup (pv 2) (po_some pe_int) po_none) pa_nil))) pa_nil)))))
      (pss_one (ps_ret (pv 2))))), ?_⟩
    walk_at "rd"
    refine rd_getS W.ob get_mails ?_
    refine ⟨.inl ⟨rfl, xs, SqL.of hm⟩, ?_⟩
    walk_at "rd"
    have hix : i < xs.length := by rw [tm.len]; exact hlt
    obtain ⟨t, x, et, hx, ht⟩ := tm.get (List.getElem?_eq_getElem hix)
    have ex : S.mail i = x := by unfold Rg.mail; rw [List.getD_eq_getElem?_getD, hx]; rfl
    have hq : x.1 < S.hands.length := ex ▸ R.place hlt
    have fair : FairR (S.h x.1) x.2 := ex ▸ R.fair hlt
    obtain ⟨fr, st50⟩ := R.far_ (p := x.1) (by rw [← R.len]; exact hq)
    refine rd_popAt hm (by omega) (by rw [List.getElem?_eq_getElem hix, et]) ?_
    have W1 := W.drop hm tm i
    have k1 : Keep D ml ds H (upd H ml (.lst (xs.eraseIdx i))) := fun b o hb _ n2 _ => by rw [upd_ne n2]; exact hb
    generalize upd H ml (.lst (xs.eraseIdx i)) = H1 at W1 k1 ⊢
    have ht1 := W.keep_t ht k1
    obtain ⟨a, ha, hmem, hha⟩ := W1.at_ (i := x.1) hq
    walk_at "rd"
    refine rd_ixT (k := 0) (SqT.of ht1) rfl rfl ?_
    walk_at "rd"
    refine rd_getS W1.ob get_hands ?_
    walk_at "rd"
    refine rd_ixT (k := 0) (SqT.of ht1) rfl rfl ?_
    refine rd_ixL (k := x.1) (v := .ref a) (SqL.of W1.hs) rfl (by rw [List.getElem?_map, ha]; rfl) ?_
    walk_at "rd"
    refine ⟨t, mV x, rfl, SqT.of ht1, (show ¬ (HT.sIx 6 0 (some 1) = 0 ∧ HT.sIx 6 6 none = 6) by decide), fun u hu => ?_⟩
    walk_at "rd"
    have eu : (HO.tup (cutV (mV x) (some 1) none)) = .tup (lV x.2) := rfl
    rw [eu]
    have W2 := W1.ex (Ex.new (o := .tup (lV x.2)) hu)
    refine ⟨a, u, S.h x.1, x.2, rfl, Ex.new hu _ _ hha, upd_same, fr, st50, fair, ?_⟩
    intro f ys H3 hf b3 hd3 hy t3
    have W3 := W2.hand ha b3 hd3
    have hfm : f ≠ ml := fun e => by
      obtain ⟨zs, hm2, _⟩ := W2.pl
      rw [e, hm2] at hf; cases hf
    have k3 : Keep D ml ds H1 H3 := (Keep.ex (Ex.new (o := .tup (lV x.2)) hu)).trans (Keep.but hmem b3)
    walk_at "rd"
    have ll : ((S.h x.1).take x.2).2.length ≤ 4 := by
      show ((S.h x.1).wls ++ ((S.h x.1).wk.proc x.2).2).length ≤ 4
      have h1 := RC.proc_len (S.h x.1).wk x.2
      have h2 : (S.h x.1).wls.length ≤ 2 := by unfold Hd.wls Hd.asks; split <;> simp
      rw [List.length_append]
      omega
    have lp : ((S.drop i).setH x.1 ((S.h x.1).take x.2).1).post.length ≤ 10000 := by
      show (S.post.eraseIdx i).length ≤ 10000
      have := List.length_eraseIdx_le S.post i
      omega
    have lpos : 0 < ((S.drop i).setH x.1 ((S.h x.1).take x.2).1).hands.length := by
      show 0 < (S.hands.set _ _).length
      rw [List.length_set]
      omega
    refine ⟨D, hl, ml, f, ds, _, x.1, ys, _, rfl, W3, lpos, hy, hfm, t3, by omega, fun H4 W4 k4 => ?_⟩
    walk_at "rd"
    have e4 : S.bring i = ((S.drop i).setH x.1 ((S.h x.1).take x.2).1).put x.1 ((S.h x.1).take x.2).2 := by
      unfold Rg.bring Rg.give
      rw [ex]
      rfl
    have k5 := (k1.trans k3).trans k4
    exact q H4 t (e4 ▸ W4) k5 (ex ▸ W.keep_t ht k5)
end
end Rc
namespace Rc
open PySem L2 Evl
open RC (Hd Lt Wd Rg)

local macro_rules | `(tactic| walk_at "rd1") => `(tactic| first
  | (with_reducible refine rd_seq ?_)
  | (with_reducible refine rd_asg ?_)
  | (with_reducible refine rd_if ?_)
  | ((with_reducible refine' rd_var ?e ?_); (case e => rfl))
  | (with_reducible refine rd_c ?_)
  | (with_reducible refine rd_op ?_)
  | (with_reducible refine rd_I0 ?_)
  | ((with_reducible refine rd_I ?e ?_); case e => first | exact (show (0 : Int) < _ by decide) | exact (show _ ∧ _ from ⟨by decide, by decide⟩) | exact Or.inl ⟨by decide, by decide⟩ | exact Or.inr ⟨by decide, by decide⟩)
  | (with_reducible refine rd_eqI ?_)
  | (with_reducible refine rd_neI ?_)
  | (with_reducible refine rd_bl ?_)
  | (with_reducible refine rd_test ?_)
  | (with_reducible refine rd_and ?_)
  | (with_reducible refine rd_or ?_)
  | (with_reducible refine rd_not ?_)
  | (with_reducible refine rd_andV ?_)
  | (with_reducible refine rd_orV ?_)
  | (with_reducible refine rd_notV ?_)
  | (with_reducible refine rd_B ?_)
  | (with_reducible refine rd_ifE ?_)
  | (with_reducible refine rd_cons ?_)
  | (with_reducible refine rd_nil ?_)
  | (with_reducible refine rd_CB ?_)
  | (with_reducible refine rd_call ?_)
  | (with_reducible refine rd_callS ?_)
  | (with_reducible refine rd_meth ?_)
  | (with_reducible refine rd_mk ?_)
  | (with_reducible refine rd_lst ?_)
  | (with_reducible refine rd_tup ?_)
  | (with_reducible refine rd_un ?_)
  | (with_reducible refine rd_U ?_)
  | (with_reducible refine rd_tFld ?_)
  | (with_reducible refine rd_sFld ?_)
  | (with_reducible refine rd_methW ?_)
  | (with_reducible refine rd_abs ?_)
  | (with_reducible refine rd_int1 ?_)
  | (with_reducible refine rd_isNo ?_)
  | (with_reducible refine rd_notNo ?_)
  | (with_reducible refine rd_isBo ?_)
  | (with_reducible refine rd_notBo ?_)
  | (with_reducible refine rd_forL ?_)
  | (with_reducible refine rd_forT ?_)
  | (with_reducible refine rd_forR1 ?_)
  | (with_reducible refine rd_forR2 ?_)
  | (with_reducible refine rd_lcL ?_)
  | (with_reducible refine rd_lcT ?_)
  | (with_reducible refine rd_lcR1 ?_)
  | (with_reducible refine rd_chain ?_)
  | (with_reducible refine rd_ret ?_)
  | (with_reducible refine rd_retN ?_)
  | (with_reducible refine rd_drop ?_)
  | (with_reducible refine rd_next ?_)
  | (with_reducible refine rd_asgG ?_)
  | (with_reducible refine rd_pop ?_)
  | (with_reducible refine rd_makeW ?_)
  | (with_reducible refine rd_min2 ?_)
  | (with_reducible refine rd_tLenSet ?_)
  | (with_reducible refine rd_sl ?_)
  | (with_reducible refine rd_tPart ?_)
  | (with_reducible refine rd_part ?_)
  | (with_reducible refine rd_nopart ?_)
  | (with_reducible refine rd_bm0 ?_)
  | (with_reducible refine rd_dget ?_)
  | (with_reducible refine rd_dput ?_)
  | (with_reducible refine rd_forR3 ?_)
  | (with_reducible refine rd_slS ?_)
  | (with_reducible refine rd_lstRg ?_)
  | (with_reducible refine rd_forE ?_)
  | (with_reducible refine iteNT ?_)
  | (with_reducible refine iteNF ?_)
  | (with_reducible refine iteF ?_)
  | (with_reducible refine iteT ?_))
local macro_rules | `(tactic| walk_at "rd") => `(tactic| repeat (walk_at "rd1"))

-- RcDict RcHouse
section
variable {P : Program} {w : World} {K : PySem.W.Frag} {mg : Str → Option Value} {base : Heap} {A : Adr}
/-- the ring and the house, in step -/
structure Both (CR CH : Addr) (H : Hp) (r l m D hl ml : Addr) (as ds : List Addr) (ks : List Int) (S : Rg) : Prop where
  at_ : RingAt CR CH H r l m as S
  rg : RG ks S
  ho : HouseAt H D hl ml ds S
  lml : l ≠ ml
  mml : m ≠ ml
  hlm : hl ≠ m
/-- all but what the ring and the house may change stays -/
def KAll (r m D ml : Addr) (as ds : List Addr) (H H' : Hp) : Prop := ∀ b o, H b = some o → b ≠ r → b ≠ m → ¬ b ∈ as → b ≠ D → b ≠ ml → ¬ b ∈ ds → H' b = some o
section
variable {r l m D hl ml : Addr} {as ds : List Addr} {ks : List Int} {S S' : Rg} {H H' H1 : Hp} {CR CH : Addr}
theorem KAll.trans (a : KAll r m D ml as ds H H1) (b : KAll r m D ml as ds H1 H') : KAll r m D ml as ds H H' := fun c o h n1 n2 n3 n4 n5 n6 => b c o (a c o h n1 n2 n3 n4 n5 n6) n1 n2 n3 n4 n5 n6
theorem KAll.ex (e : Ex H H') : KAll r m D ml as ds H H' := fun c o h _ _ _ _ _ _ => e c o h
theorem KAll.ring (k : Keep r m as H H') : KAll r m D ml as ds H H' := fun c o h n1 n2 n3 _ _ _ => k c o h n1 n2 n3
theorem KAll.house (k : Keep D ml ds H H') : KAll r m D ml as ds H H' := fun c o h _ _ _ n4 n5 n6 => k c o h n4 n5 n6
theorem Both.ex (B : Both CR CH H r l m D hl ml as ds ks S) (e : Ex H H') : Both CR CH H' r l m D hl ml as ds ks S := ⟨B.at_.ex e, B.rg, B.ho.ex e, B.lml, B.mml, B.hlm⟩
theorem Both.pos (B : Both CR CH H r l m D hl ml as ds ks S) : (0 : Int) < ((ks.length : Nat) : Int) := by have := B.rg.nums.one; omega
end
theorem if_both {c : TT} {ts tr : TS} {D : Ends} {σ : St} {H : Hp} (Pc Pn : Hp → Prop) (hc : ∀ R : Bool → Hp → Prop, (∀ H1, Pc H1 → R true H1) → (∀ H1, Pn H1 → R false H1) → c σ H R) (h1 : ∀ H1, Pc H1 → ts D σ H1) (h2 : ∀ H1, Pn H1 → tr D σ H1) : tIfS c ts tr D σ H :=
  hc _ (fun H1 p => (if_pos rfl).mpr (h1 H1 p)) (fun H1 p => (if_neg Bool.false_ne_true).mpr (h2 H1 p))
theorem mod_place {c : Int} {n : Nat} (h : 0 < n) : ∃ i : Nat, c % ((n : Nat) : Int) = ((i : Nat) : Int) ∧ i < n := by
  have z1 := Int.emod_nonneg c (show ((n : Nat) : Int) ≠ 0 by omega)
  have z2 := Int.emod_lt_of_pos c (show (0 : Int) < ((n : Nat) : Int) by omega)
  exact ⟨(c % ((n : Nat) : Int)).toNat, by omega, by omega⟩
/-! ### a deed -/
def spLStep (CR CH : Addr) : Sp := fun vs H Q _ => ∃ (r l m D hl ml : Addr) (as ds : List Addr) (ks : List Int) (S : Rg) (c : Int), vs = [.ref r, .ref D, .int c] ∧ Both CR CH H r l m D hl ml as ds ks S ∧
  ∀ H' S', Both CR CH H' r l m D hl ml as ds ks S' → KAll r m D ml as ds H H' → Go S S' → Q (.bl true) H'
theorem sc__law_step : FnScope ["_law_ring", "_law_house", "_law_cell", "_law_many", "_law_place", "_law_slept", "_law_turn", "_law_at", "_law_found"] ["_law_ring", "_law_house", "_law_cell"] (defScope s__law_step) := ⟨rfl, rfl, rfl, by decide +kernel, rfl, by decide +kernel, by decide +kernel⟩
theorem ok__law_step (T : Txt K mg A) (G : RingOk P w K mg base A) (G__law_put : FnOk P w K mg base CX0 1 A.f__law_put A.fd__law_put ["_law_house", "_law_place", "_law_letters_here"] spLPut) (G__law_came : FnOk P w K mg base CX0 4 A.f__law_came A.fd__law_came ["_law_house", "_law_at"] spLCame)
    (G__law_woken : FnOk P w K mg base CX0 2 A.f__law_woken A.fd__law_woken ["_law_state"] spLWoken) (G__law_truth : FnOk P w K mg base CX0 1 A.f__law_truth A.fd__law_truth ["_law_found", "_law_due"] spTruth)
    (G__law_letters : FnOk P w K mg base CX0 2 A.f__law_letters A.fd__law_letters ["_law_found", "_law_due"] (spLetters K mV)) :
    FnOk P w K mg base CX0 5 A.f__law_step A.fd__law_step ["_law_ring", "_law_house", "_law_cell"] (spLStep A.c_Ring A.c_Hand) := by
  have G_Ring_wake := G.wake
  have G_Ring_bring := G.bring
  refine T.fun__law_step.ok sc__law_step (fun vs H Q E h => ?_) (fun cdv Ar outer s H vs Q E hr h => ?_)
  · obtain ⟨r, l, m, D, hl, ml, as, ds, ks, S, c, rfl, _⟩ := h
    rfl
  · obtain ⟨r, l, m, D, hl, ml, as, ds, ks, S, c, rfl, B, q⟩ := h
    have hn := B.rg.len
    have npos := B.pos
    refine ⟨_, (pss_cons (ps_set (i := 3) sc__law_step.nd rfl (Or.inl rfl) (pe_callB call_lenN (by rfl) T.no_len (by decide +kernel) (pa_cons (pe_dget (hu_of hr) (pv 1) pe_str (fun _ _ => rfl)) pa_nil)))
      (pss_cons (ps_set (i := 4) sc__law_step.nd rfl (Or.inl rfl) (pe_op op_mod (pe_op op_fdiv (pv 2) pe_int) (pv 3)))
      (pss_cons (ps_if (PW.pt (pw_or (pt_cmpR op_eq (pe_op op_mod (pv 2) pe_int) pe_int (nomark _)) (pw_or1 (pt_cmpR (op_eqD hr.units) (pe_dget (hu_of hr) (pv 1) pe_str (fun _ _ => rfl)) (pe_lst pa_nil) (nomark _))))) (pss_cons (ps_set (i := 5) sc__law_step.nd rfl (Or.inl rfl) (pe_not (pe_dget (hu_of hr) (pe_ix ix_list (pe_dget (hu_of hr) (pv 1) pe_str (fun _ _ => rfl)) (pv 4) (fun _ _ => rfl)) pe_str (fun _ _ => rfl))))
      (pss_cons (ps_expr (pe_call G__law_put (hr.mono (by decide)) rfl T.mg__law_put T.fun__law_put.kp T.b__law_put .nil pass0 (pa_cons (pv 1) (pa_cons (pv 4) (pa_cons (pe_call G__law_woken (hr.mono (by decide)) rfl T.mg__law_woken T.fun__law_woken.kp T.b__law_woken .nil pass0 (pa_cons (pe_ix ix_list (pe_dget (hu_of hr) (pv 1) pe_str (fun _ _ => rfl)) (pv 4) (fun _ _ => rfl)) pa_nil)) pa_nil)))))
      (pss_one (ps_ret (pe_call G__law_truth (hr.mono (by decide)) rfl T.mg__law_truth T.fun__law_truth.kp T.b__law_truth .nil pass0 (pa_cons (pe_meth (pv 0) T.cl_Ring T.mt_Ring_wake G_Ring_wake (hr.mono (by decide)) T.b_Ring_wake .nil passL (pa_cons (pv 4) pa_nil)) (pa_cons (pv 5) pa_nil))))))) pss_nil)
      (pss_cons (ps_for PassesOwn.never rfl (pi_range1 (by rfl) T.no_range (pa_cons (pe_op op_add pe_int (pe_op op_mul (pe_op op_mod (pe_op op_fdiv (pv 2) pe_int) pe_int) (pe_op op_fdiv (pe_op op_mod (pv 2) pe_int) pe_int))) pa_nil)) (pg_name (i := 6) sc__law_step.nd rfl (Or.inl rfl)) (pss_one (ps_if (pt_cmpR (op_neD hr.units) (pe_dget (hu_of hr) (pv 1) pe_str (fun _ _ => rfl)) (pe_lst pa_nil) (nomark _)) (pss_cons (ps_set (i := 7) sc__law_step.nd rfl (Or.inl rfl) (pe_op op_mod (pe_op op_add (pe_op op_fdiv (pv 2) pe_int) (pe_op op_mul pe_int (pv 6))) (pe_callB call_lenN (by rfl) T.no_len (by decide +kernel) (pa_cons (pe_dget (hu_of hr) (pv 1) pe_str (fun _ _ => rfl)) pa_nil))))
      (pss_cons (ps_set (i := 8) sc__law_step.nd rfl (Or.inl rfl) (pe_meth (pv 0) T.cl_Ring T.mt_Ring_bring G_Ring_bring (hr.mono (by decide)) T.b_Ring_bring .nil passL (pa_cons (pv 7) pa_nil)))
      (pss_one (ps_if (pt_not (pt_val (pe_call G__law_letters (hr.mono (by decide)) rfl T.mg__law_letters T.fun__law_letters.kp T.b__law_letters .nil pass0 (pa_cons (pe_lst (pa_cons (pv 8) pa_nil)) (pa_cons (pe_lst (pa_cons (pe_call G__law_came (hr.mono (by decide)) rfl T.mg__law_came T.fun__law_came.kp T.b__law_came .nil pass0 (pa_cons (pv 1) (pa_cons (pv 7) pa_nil))) pa_nil)) pa_nil))))) (pss_one (ps_ret pe_bl)) pss_nil)))) pss_nil)))
      (pss_one (ps_ret pe_bl)))))), ?_⟩
    refine seq_mid (fun σ H' => H' = H ∧ σ = [some (.ref r), some (.ref D), some (.int c), some (.int ((ks.length : Nat) : Int)), none, none, none, none, none]) (fun nx hnx => ?_) ?_
    · walk_at "rd"
      refine rd_getS B.ho.ob get_hands ?_
      walk_at "rd"
      refine rd_len (SqL.of B.ho.hs) ?_
      rw [List.length_map, B.ho.len, hn]
      exact hnx _ _ ⟨rfl, rfl⟩
    rintro σ H' ⟨rfl, rfl⟩
    obtain ⟨i, hi, hlt⟩ := mod_place (c := c / 4) (n := ks.length) (by omega)
    have hl_ : i < S.hands.length := by omega
    refine seq_mid (fun σ H2 => H2 = H' ∧ σ = [some (.ref r), some (.ref D), some (.int c), some (.int ((ks.length : Nat) : Int)), some (.int ((i : Nat) : Int)), none, none, none, none]) (fun nx hnx => ?_) ?_
    · walk_at "rd"
      refine rd_I npos ?_
      rw [hi]
      exact hnx _ _ ⟨rfl, rfl⟩
    rintro σ H ⟨rfl, rfl⟩
    refine seq_mid (fun σ H2 => Ex H H2 ∧ S.post ≠ [] ∧ σ = [some (.ref r), some (.ref D), some (.int c), some (.int ((ks.length : Nat) : Int)), some (.int ((i : Nat) : Int)), none, none, none, none]) (fun nx hnx => ?_) ?_
    · refine if_both (fun H1 => Ex H H1) (fun H1 => Ex H H1 ∧ S.post ≠ []) (fun R hT hF => ?_) (fun H1 e1 => ?_) (fun H1 z => ?_)
      · walk_at "rd"
        refine rd_dec (fun _ => ?_) (fun _ => ?_)
        · exact hT _ (Ex.refl H)
        · walk_at "rd"
          refine rd_getS B.ho.ob get_mails ?_
          walk_at "rd"
          refine ⟨Nat.zero_le _, fun u hu => ?_⟩
          have x1 := Ex.new (o := .lst []) hu
          obtain ⟨xs, hm, tm⟩ := B.ho.pl
          refine rd_eqNil mD_ok (SqL.of (x1 _ _ hm)) (SqL.of upd_same) (tm.ex x1) ?_
          refine rd_bl ?_
          cases z : S.post with
          | nil => exact hT _ x1
          | cons y ys => exact hF _ ⟨x1, by rw [z]; exact List.cons_ne_nil _ _⟩
      · have B1 := B.ex e1
        obtain ⟨a, ha, hmem, hha⟩ := B1.ho.at_ hl_
        have ga : (ds.map V.ref)[i]? = some (.ref a) := by rw [List.getElem?_map, ha]; rfl
        obtain ⟨fr, _⟩ := B1.rg.far_ hlt
        have small := B1.rg.small
        walk_at "rd"
        refine rd_getS B1.ho.ob get_hands ?_
        walk_at "rd"
        refine rd_ixL (k := i) (SqL.of B1.ho.hs) rfl ga ?_
        walk_at "rd"
        refine rd_getS hha get_awake ?_
        walk_at "rd"
        refine rd_getS B1.ho.ob get_hands ?_
        walk_at "rd"
        refine rd_ixL (k := i) (SqL.of B1.ho.hs) rfl ga ?_
        walk_at "rd"
        refine ⟨a, S.h i, [], rfl, hha, off_nil, Nat.zero_le _, fr, fun f xs H2 hf b2 hd2 hx tx => ?_⟩
        have W2 := B1.ho.hand ha b2 hd2
        have hfm : f ≠ ml := fun e => by
          obtain ⟨zs, hm2, _⟩ := B1.ho.pl
          rw [e, hm2] at hf; cases hf
        have lw : (S.h i).wls.length ≤ 2 := by unfold Hd.wls Hd.asks; split <;> simp
        have lp : (S.setH i (S.h i).wk).post.length ≤ 10000 := small
        have lpos : 0 < (S.setH i (S.h i).wk).hands.length := by
          show 0 < (S.hands.set _ _).length
          rw [List.length_set]
          omega
        walk_at "rd"
        refine ⟨D, hl, ml, f, ds, _, i, xs, _, rfl, W2, lpos, hx, hfm, tx, by omega, fun H3 W3 k3 => ?_⟩
        have k13 := (Keep.but (p := D) (m := ml) hmem b2).trans k3
        have R3 := B1.at_.house B1.ho B1.lml B1.mml k13
        obtain ⟨dx, hr3⟩ := R3.ob
        walk_at "rd"
        refine rd_recv hr3 rfl ?_
        walk_at "rd"
        refine ⟨r, l, m, as, S, _, rfl, R3, knd_int _, .inl ⟨i, placeOf_nat hl_, by omega, fun H4 R4 k4 => ?_⟩⟩
        walk_at "rd"
        refine ⟨_, _, rfl, ?_⟩
        rw [decide_eq_true rfl]
        exact q H4 (S.wake i) ⟨R4, B1.rg.wake hlt, W3.ring R3 B1.hlm B1.mml.symm k4, B1.lml, B1.mml, B1.hlm⟩ ((KAll.ex e1).trans ((KAll.house k13).trans (KAll.ring k4))) (.wake (.refl S) i hl_)
      · walk_at "rd"
        exact hnx _ _ ⟨z.1, z.2, rfl⟩
    rintro σ H1 ⟨e1, ne, rfl⟩
    have B1 := B.ex e1
    walk_at "rd"
    have c3 : 0 ≤ c / 4 % 8 * (c % 4 / 3) ∧ c / 4 % 8 * (c % 4 / 3) ≤ 7 := by
      have h8 : 0 ≤ c / 4 % 8 ∧ c / 4 % 8 ≤ 7 := by omega
      have h3 : c % 4 / 3 = 0 ∨ c % 4 / 3 = 1 := by omega
      rcases h3 with h | h <;> rw [h] <;> omega
    have cm : CMul (c / 4 % 8) (c % 4 / 3) := Or.inl ⟨by omega, by omega⟩
    refine rd_I cm ?_
    walk_at "rd"
    obtain ⟨n, hnn, hn8⟩ : ∃ n : Nat, 1 + c / 4 % 8 * (c % 4 / 3) = ((n : Nat) : Int) ∧ n ≤ 8 := ⟨(1 + c / 4 % 8 * (c % 4 / 3)).toNat, by omega, by omega⟩
    rw [hnn]
    refine for_R1 (by omega) (fun j σ H' => ∃ S', Both A.c_Ring A.c_Hand H' r l m D hl ml as ds ks S' ∧ KAll r m D ml as ds H H' ∧ Go S S' ∧ ∃ v1 v2 v3 v4 : Option V, σ = [some (.ref r), some (.ref D), some (.int c), some (.int ((ks.length : Nat) : Int)), some (.int ((i : Nat) : Int)), v1, v2, v3, v4])
      ⟨S, B1, KAll.ex e1, .refl S, _, _, _, _, rfl⟩ ?_ ?_
    · rintro j σ H' hj ⟨S', B', k', g', v1, v2, v3, v4, rfl⟩
      have small := B'.rg.small
      walk_at "rd"
      refine rd_getS B'.ho.ob get_mails ?_
      walk_at "rd"
      refine ⟨Nat.zero_le _, fun u hu => ?_⟩
      have x1 := Ex.new (o := .lst []) hu
      obtain ⟨xs, hm, tm⟩ := B'.ho.pl
      refine rd_neNil mD_ok (SqL.of (x1 _ _ hm)) (SqL.of upd_same) (tm.ex x1) ?_
      have B2 := B'.ex x1
      have k2 := k'.trans (KAll.ex x1)
      generalize upd H' u (.lst []) = H2 at x1 B2 k2 ⊢
      refine rd_bl ?_
      refine rd_ite (fun z => ?_) (fun z => ?_)
      · have pos : 0 < S'.post.length := by
          cases y : S'.post with
          | nil => rw [y] at z; cases z
          | cons _ _ => simp
        walk_at "rd"
        refine rd_getS B2.ho.ob get_mails ?_
        walk_at "rd"
        refine rd_len (SqL.of (x1 _ _ hm)) ?_
        rw [tm.len]
        refine rd_I (show (0 : Int) < ((S'.post.length : Nat) : Int) by omega) ?_
        obtain ⟨t, ht, htl⟩ := mod_place (c := c / 4 + 7 * ((j : Nat) : Int)) pos
        rw [ht]
        obtain ⟨dx, hr2⟩ := B2.at_.ob
        walk_at "rd"
        refine rd_recv hr2 rfl ?_
        walk_at "rd"
        refine ⟨r, l, m, as, S', _, rfl, B2.at_, knd_int _, .inl ⟨t, placeOf_nat htl, by omega, fun H3 p3 R3 k3 hp3 => ?_⟩⟩
        have W3 := B2.ho.ring B2.at_ B2.hlm B2.mml.symm k3
        walk_at "rd"
        refine ⟨by show 1 ≤ sizeLine; decide, fun p4 hp4 => ?_⟩
        have x4 := Ex.new (o := .lst [V.ref p3]) hp4
        have R4 := R3.ex x4
        have W4 := W3.ex x4
        have hp44 : upd H3 p4 (.lst [.ref p3]) p4 = some (.lst [.ref p3]) := upd_same
        have n4 : p4 ≠ ml := fun e => by
          obtain ⟨zs, hm2, _⟩ := W3.pl
          rw [e, hm2] at hp4; cases hp4
        have hp34 := x4 _ _ hp3
        generalize upd H3 p4 (.lst [.ref p3]) = H4 at x4 R4 W4 hp44 hp34 ⊢
        walk_at "rd"
        refine ⟨D, hl, ml, ds, ks, S', t, rfl, W4, B2.rg, htl, fun H5 p5 W5 k5 hp5 => ?_⟩
        have R5 := R4.house W4 B2.lml B2.mml k5
        walk_at "rd"
        refine ⟨by show 1 ≤ sizeLine; decide, fun p6 hp6 => ?_⟩
        have x6 := Ex.new (o := .lst [V.ref p5]) hp6
        refine ⟨p4, p6, [.ref p3], [.ref p5], [S'.mail t], rfl, x6 _ _ (W4.keep_l hp44 n4 k5), upd_same, .one (x6 _ _ (W4.keep_t hp34 k5)), .one (x6 _ _ hp5), ?_⟩
        refine rd_bl ?_
        refine iteNT ?_
        walk_at "rd"
        exact ⟨S'.bring t, Both.ex ⟨R5, B2.rg.bring htl, W5, B2.lml, B2.mml, B2.hlm⟩ x6, k2.trans ((KAll.ring k3).trans ((KAll.ex x4).trans ((KAll.house k5).trans (KAll.ex x6)))), .bring g' t htl, _, _, _, _, rfl⟩
      · walk_at "rd"
        exact ⟨S', B2, k2, g', _, _, _, _, rfl⟩
    · rintro σ H' ⟨S', B', k', g', v1, v2, v3, v4, rfl⟩
      walk_at "rd"
      exact q H' S' B' k' g'
end
end Rc
namespace Rc
open PySem L2 Evl
open RC (Hd Lt Wd Rg)

local macro_rules | `(tactic| walk_at "rd1") => `(tactic| first
  | (with_reducible refine rd_seq ?_)
  | (with_reducible refine rd_asg ?_)
  | (with_reducible refine rd_if ?_)
  | ((with_reducible refine' rd_var ?e ?_); (case e => rfl))
  | (with_reducible refine rd_c ?_)
  | (with_reducible refine rd_op ?_)
  | (with_reducible refine rd_I0 ?_)
  | ((with_reducible refine rd_I ?e ?_); case e => first | exact (show (0 : Int) < _ by decide) | exact (show _ ∧ _ from ⟨by decide, by decide⟩) | exact Or.inl ⟨by decide, by decide⟩ | exact Or.inr ⟨by decide, by decide⟩)
  | (with_reducible refine rd_eqI ?_)
  | (with_reducible refine rd_neI ?_)
  | (with_reducible refine rd_bl ?_)
  | (with_reducible refine rd_test ?_)
  | (with_reducible refine rd_and ?_)
  | (with_reducible refine rd_or ?_)
  | (with_reducible refine rd_not ?_)
  | (with_reducible refine rd_andV ?_)
  | (with_reducible refine rd_orV ?_)
  | (with_reducible refine rd_notV ?_)
  | (with_reducible refine rd_B ?_)
  | (with_reducible refine rd_ifE ?_)
  | (with_reducible refine rd_cons ?_)
  | (with_reducible refine rd_nil ?_)
  | (with_reducible refine rd_CB ?_)
  | (with_reducible refine rd_call ?_)
  | (with_reducible refine rd_callS ?_)
  | (with_reducible refine rd_meth ?_)
  | (with_reducible refine rd_mk ?_)
  | (with_reducible refine rd_lst ?_)
  | (with_reducible refine rd_tup ?_)
  | (with_reducible refine rd_un ?_)
  | (with_reducible refine rd_U ?_)
  | (with_reducible refine rd_tFld ?_)
  | (with_reducible refine rd_sFld ?_)
  | (with_reducible refine rd_methW ?_)
  | (with_reducible refine rd_abs ?_)
  | (with_reducible refine rd_int1 ?_)
  | (with_reducible refine rd_isNo ?_)
  | (with_reducible refine rd_notNo ?_)
  | (with_reducible refine rd_isBo ?_)
  | (with_reducible refine rd_notBo ?_)
  | (with_reducible refine rd_forL ?_)
  | (with_reducible refine rd_forT ?_)
  | (with_reducible refine rd_forR1 ?_)
  | (with_reducible refine rd_forR2 ?_)
  | (with_reducible refine rd_lcL ?_)
  | (with_reducible refine rd_lcT ?_)
  | (with_reducible refine rd_lcR1 ?_)
  | (with_reducible refine rd_chain ?_)
  | (with_reducible refine rd_ret ?_)
  | (with_reducible refine rd_retN ?_)
  | (with_reducible refine rd_drop ?_)
  | (with_reducible refine rd_next ?_)
  | (with_reducible refine rd_asgG ?_)
  | (with_reducible refine rd_pop ?_)
  | (with_reducible refine rd_makeW ?_)
  | (with_reducible refine rd_min2 ?_)
  | (with_reducible refine rd_tLenSet ?_)
  | (with_reducible refine rd_sl ?_)
  | (with_reducible refine rd_tPart ?_)
  | (with_reducible refine rd_part ?_)
  | (with_reducible refine rd_nopart ?_)
  | (with_reducible refine rd_bm0 ?_)
  | (with_reducible refine rd_dget ?_)
  | (with_reducible refine rd_dput ?_)
  | (with_reducible refine rd_forR3 ?_)
  | (with_reducible refine rd_slS ?_)
  | (with_reducible refine rd_lstRg ?_)
  | (with_reducible refine rd_forE ?_)
  | (with_reducible refine iteNT ?_)
  | (with_reducible refine iteNF ?_)
  | (with_reducible refine iteF ?_)
  | (with_reducible refine iteT ?_))
local macro_rules | `(tactic| walk_at "rd") => `(tactic| repeat (walk_at "rd1"))

-- RcDict RcHouse
section
variable {P : Program} {w : World} {K : PySem.W.Frag} {mg : Str → Option Value} {base : Heap} {A : Adr}
/-! ### a question about a hand -/
def spHTold (CR CH : Addr) : Sp := fun vs H Q _ => ∃ (r l m d : Addr) (as : List Addr) (S : Rg) (i n : Nat), vs = [.ref r, .int ((i : Nat) : Int), .ref d, .int ((n : Nat) : Int)] ∧ n < 4 ∧ RingAt CR CH H r l m as S ∧ i < S.hands.length ∧ H d = some (.dK (dS (S.h i) [])) ∧ Q (.bl true) H
theorem sc__law_hand_told : FnScope ["_law_ring", "_law_place", "_law_state", "_law_which", "_law_found", "_law_due"] ["_law_ring", "_law_place", "_law_state", "_law_which"] (defScope s__law_hand_told) := ⟨rfl, rfl, rfl, by decide +kernel, rfl, by decide +kernel, by decide +kernel⟩
theorem ok__law_hand_told (T : Txt K mg A) (G : RingOk P w K mg base A) (G__law_truth : FnOk P w K mg base CX0 1 A.f__law_truth A.fd__law_truth ["_law_found", "_law_due"] spTruth)
    (G__law_whole : FnOk P w K mg base CX0 1 A.f__law_whole A.fd__law_whole ["_law_found"] (spInt K)) : FnOk P w K mg base CX0 4 A.f__law_hand_told A.fd__law_hand_told ["_law_ring", "_law_place", "_law_state", "_law_which"] (spHTold A.c_Ring A.c_Hand) := by
  have G_Ring_is_awake := G.is_awake
  have G_Ring_is_first := G.is_first
  have G_Ring_stage := G.stage
  have G_Ring_knows := G.knows
  refine T.fun__law_hand_told.ok sc__law_hand_told (fun vs H Q E h => ?_) (fun cdv Ar outer s H vs Q E hr h => ?_)
  · obtain ⟨r, l, m, d, as, S, i, n, rfl, _⟩ := h
    rfl
  · obtain ⟨r, l, m, d, as, S, i, n, rfl, hn, R, hi, hd, q⟩ := h
    obtain ⟨dx, hr0⟩ := R.ob
    refine ⟨_, (pss_cons (ps_if (pt_cmpR op_eq (pv 3) pe_int (nomark _)) (pss_one (ps_ret (pe_call G__law_truth (hr.mono (by decide)) rfl T.mg__law_truth T.fun__law_truth.kp T.b__law_truth .nil pass0 (pa_cons (pe_meth (pv 0) T.cl_Ring T.mt_Ring_is_awake G_Ring_is_awake (hr.mono (by decide)) T.b_Ring_is_awake .nil passL (pa_cons (pv 1) pa_nil)) (pa_cons (pe_dget (hu_of hr) (pv 2) pe_str (fun _ _ => rfl)) pa_nil))))) pss_nil)
      (pss_cons (ps_if (pt_cmpR op_eq (pv 3) pe_int (nomark _)) (pss_one (ps_ret (pe_call G__law_truth (hr.mono (by decide)) rfl T.mg__law_truth T.fun__law_truth.kp T.b__law_truth .nil pass0 (pa_cons (pe_meth (pv 0) T.cl_Ring T.mt_Ring_is_first G_Ring_is_first (hr.mono (by decide)) T.b_Ring_is_first .nil passL (pa_cons (pv 1) pa_nil)) (pa_cons (pe_dget (hu_of hr) (pv 2) pe_str (fun _ _ => rfl)) pa_nil))))) pss_nil)
      (pss_cons (ps_if (pt_cmpR op_eq (pv 3) pe_int (nomark _)) (pss_cons (ps_set (i := 4) sc__law_hand_told.nd rfl (Or.inl rfl) (pe_meth (pv 0) T.cl_Ring T.mt_Ring_stage G_Ring_stage (hr.mono (by decide)) T.b_Ring_stage .nil passL (pa_cons (pv 1) pa_nil)))
      (pss_one (ps_set (i := 5) sc__law_hand_told.nd rfl (Or.inl rfl) (pe_ifExp (pt_val (pe_dget (hu_of hr) (pv 2) pe_str (fun _ _ => rfl))) (pe_dget (hu_of hr) (pv 2) pe_str (fun _ _ => rfl)) pe_non)))) (pss_cons (ps_set (i := 4) sc__law_hand_told.nd rfl (Or.inl rfl) (pe_meth (pv 0) T.cl_Ring T.mt_Ring_knows G_Ring_knows (hr.mono (by decide)) T.b_Ring_knows .nil passL (pa_cons (pv 1) pa_nil)))
      (pss_one (ps_set (i := 5) sc__law_hand_told.nd rfl (Or.inl rfl) (pe_dget (hu_of hr) (pv 2) pe_str (fun _ _ => rfl))))))
      (pss_one (ps_ret (pe_ifExp (pt_cmpR op_isNo (pv 5) pe_non (nomark _)) (pe_cmpR op_isNo (pv 4) pe_non (nomark _)) (pe_and (pe_call G__law_whole (hr.mono (by decide)) rfl T.mg__law_whole T.fun__law_whole.kp T.b__law_whole .nil pass0 (pa_cons (pv 4) pa_nil)) (pe_one (pe_cmpR op_eq (pv 4) (pv 5) (nomark _)))))))))), ?_⟩
    walk_at "rd"
    match n, hn with
    | 0, _ =>
      refine iteT ?_
      walk_at "rd"
      refine rd_recv hr0 rfl ?_
      walk_at "rd"
      refine asked_at R hi (.bl (S.h i).awake) rfl ?_
      walk_at "rd"
      refine rd_getS hd get_awake ?_
      walk_at "rd"
      refine ⟨_, _, rfl, ?_⟩
      rw [decide_eq_true rfl]
      exact q
    | 1, _ =>
      refine iteF ?_
      walk_at "rd"
      refine iteT ?_
      walk_at "rd"
      refine rd_recv hr0 rfl ?_
      walk_at "rd"
      refine asked_at R hi (.bl (S.h i).crowned) rfl ?_
      walk_at "rd"
      refine rd_getS hd get_first ?_
      walk_at "rd"
      refine ⟨_, _, rfl, ?_⟩
      rw [decide_eq_true rfl]
      exact q
    | 2, _ =>
      refine iteF ?_
      walk_at "rd"
      refine iteF ?_
      walk_at "rd"
      refine iteT ?_
      walk_at "rd"
      refine rd_recv hr0 rfl ?_
      walk_at "rd"
      cases ha : (S.h i).awake with
      | true =>
        refine asked_at R hi (.int (S.h i).stage) (by unfold stageV; rw [ha]; rfl) ?_
        walk_at "rd"
        refine rd_getS (v := .bl true) hd (get_awake.trans (by rw [ha])) ?_
        walk_at "rd"
        refine rd_getS hd get_stage ?_
        walk_at "rd"
        refine iteF ?_
        walk_at "rd"
        refine ⟨_, rfl, knd_int _, ?_⟩
        refine rd_bl ?_
        refine iteT ?_
        walk_at "rd"
        rw [decide_eq_true rfl]
        exact q
      | false =>
        refine asked_at R hi .non (by unfold stageV; rw [ha]; rfl) ?_
        walk_at "rd"
        refine rd_getS (v := .bl false) hd (get_awake.trans (by rw [ha])) ?_
        walk_at "rd"
        refine iteT ?_
        walk_at "rd"
        exact q
    | 3, _ =>
      refine iteF ?_
      walk_at "rd"
      refine iteF ?_
      walk_at "rd"
      refine iteF ?_
      walk_at "rd"
      refine rd_recv hr0 rfl ?_
      walk_at "rd"
      cases hk : (S.h i).known with
      | some z =>
        refine asked_at R hi (.int z) (by show kV (S.h i).known = _; rw [hk]; rfl) ?_
        walk_at "rd"
        refine rd_getS (v := .int z) hd (get_known.trans (by rw [hk]; rfl)) ?_
        walk_at "rd"
        refine iteF ?_
        walk_at "rd"
        refine ⟨_, rfl, knd_int _, ?_⟩
        refine rd_bl ?_
        refine iteT ?_
        walk_at "rd"
        rw [decide_eq_true rfl]
        exact q
      | none =>
        refine asked_at R hi .non (by show kV (S.h i).known = _; rw [hk]; rfl) ?_
        walk_at "rd"
        refine rd_getS (v := .non) hd (get_known.trans (by rw [hk]; rfl)) ?_
        walk_at "rd"
        refine iteT ?_
        walk_at "rd"
        exact q
/-! ### what finds nobody -/
def spStrange (CR CH : Addr) : Sp := fun vs H Q _ => ∃ (r l m D hl ml : Addr) (as ds : List Addr) (ks : List Int) (S : Rg), vs = [.ref r, .ref D, .int ((ks.length : Nat) : Int)] ∧ Both CR CH H r l m D hl ml as ds ks S ∧ ∀ H', Ex H H' → Q (.bl true) H'
theorem placeOf_out {n : Nat} {i : Int} (h : i < 0 ∨ ((n : Nat) : Int) ≤ i) : placeOf n (.int i) = none := by
  show (if 0 ≤ i ∧ i < (n : Int) then some i.toNat else none) = none
  rw [if_neg (by omega)]
theorem sc__law_strange : FnScope ["_law_ring", "_law_house", "_law_many", "_law_beyond"] ["_law_ring", "_law_house", "_law_many"] (defScope s__law_strange) := ⟨rfl, rfl, rfl, by decide +kernel, rfl, by decide +kernel, by decide +kernel⟩
theorem ok__law_strange (T : Txt K mg A) (G : RingOk P w K mg base A) : FnOk P w K mg base CX0 5 A.f__law_strange A.fd__law_strange ["_law_ring", "_law_house", "_law_many"] (spStrange A.c_Ring A.c_Hand) := by
  have G_Ring_wake := G.wake
  have G_Ring_bring := G.bring
  refine T.fun__law_strange.ok sc__law_strange (fun vs H Q E h => ?_) (fun cdv Ar outer s H vs Q E hr h => ?_)
  · obtain ⟨r, l, m, D, hl, ml, as, ds, ks, S, rfl, _⟩ := h
    rfl
  · obtain ⟨r, l, m, D, hl, ml, as, ds, ks, S, rfl, B, q⟩ := h
    obtain ⟨xs, hm, tm⟩ := B.ho.pl
    refine ⟨_, (pss_cons (ps_for PassesOwn.never rfl (pi_list (pe_lst (pa_cons (pe_callB call_lenN (by rfl) T.no_len (by decide +kernel) (pa_cons (pe_dget (hu_of hr) (pv 1) pe_str (fun _ _ => rfl)) pa_nil)) (pa_cons (pe_dget (hu_of hr) (pv 1) pe_str (fun _ _ => rfl)) (pa_cons (pe_un un_neg pe_int) pa_nil))))) (pg_name (i := 3) sc__law_strange.nd rfl (Or.inl rfl)) (pss_one (ps_try_only rfl rfl ⟨rfl, by decide, .inl T.mg_NoMail⟩ takes0 (fun W pn xe tk _ => (pss_cons (ps_expr (pe_methW (pv 0) T.cl_Ring T.mt_Ring_bring G_Ring_bring (hr.mono (by decide)) T.b_Ring_bring (fun σ => passAt tk σ) (pa_cons (pv 3) pa_nil)))
      (pss_one (ps_ret pe_bl)))) (fun a oe cls d pn hz hf => (pss_one ps_pass)))))
      (pss_cons (ps_try_only rfl rfl ⟨rfl, by decide, .inl T.mg_NoHand⟩ takes0 (fun W pn xe tk _ => (pss_one (ps_expr (pe_methW (pv 0) T.cl_Ring T.mt_Ring_wake G_Ring_wake (hr.mono (by decide)) T.b_Ring_wake (fun σ => passAt tk σ) (pa_cons (pv 2) pa_nil))))) (fun a oe cls d pn hz hf => (pss_one (ps_ret pe_bl))))
      (pss_one (ps_ret pe_bl)))), ?_⟩
    walk_at "rd"
    refine rd_getS B.ho.ob get_mails ?_
    walk_at "rd"
    refine rd_len (SqL.of hm) ?_
    rw [tm.len]
    walk_at "rd"
    refine rd_getS B.ho.ob get_sent ?_
    walk_at "rd"
    refine ⟨by show 3 ≤ sizeLine; decide, fun u hu => ?_⟩
    have x1 := Ex.new (o := .lst [V.int ((S.post.length : Nat) : Int), V.int ((S.many : Nat) : Int), V.int (-1)]) hu
    have hu1 : upd H u (.lst [V.int ((S.post.length : Nat) : Int), V.int ((S.many : Nat) : Int), V.int (-1)]) u = some (.lst [V.int ((S.post.length : Nat) : Int), V.int ((S.many : Nat) : Int), V.int (-1)]) := upd_same
    generalize upd H u (.lst [V.int ((S.post.length : Nat) : Int), V.int ((S.many : Nat) : Int), V.int (-1)]) = H1 at x1 hu1 ⊢
    have B1 := B.ex x1
    obtain ⟨dx, hr1⟩ := B1.at_.ob
    refine for_L (SqL.of hu1) (fun i σ H' => H' = H1 ∧ ∃ v : Option V, σ = [some (.ref r), some (.ref D), some (.int ((ks.length : Nat) : Int)), v]) ⟨rfl, _, rfl⟩ (fun i σ H' _ z => by rw [z.1]; exact SqL.of hu1) ?_ ?_
    · rintro i v σ H' hv ⟨rfl, v3, rfl⟩
      have posted := B1.rg.posted
      obtain ⟨z, rfl, hz⟩ : ∃ z : Int, v = .int z ∧ placeOf S.post.length (.int z) = none := by
        have mem := List.mem_of_getElem? hv
        simp only [List.mem_cons, List.not_mem_nil, or_false] at mem
        rcases mem with rfl | rfl | rfl
        · exact ⟨_, rfl, placeOf_out (.inr (by omega))⟩
        · exact ⟨_, rfl, placeOf_out (.inr (by omega))⟩
        · exact ⟨_, rfl, placeOf_out (.inl (by omega))⟩
      walk_at "rd"
      refine rd_recv hr1 rfl ?_
      walk_at "rd"
      refine ⟨r, l, m, as, S, _, rfl, B1.at_, knd_int _, .inr ⟨hz, ?_⟩⟩
      refine ⟨true, T.x_NoMail.exm T.sub_NoMail_NoMail, fun _ a ha => ?_, fun z => Bool.noConfusion z⟩
      walk_at "rd"
      exact ⟨rfl, _, rfl⟩
    · rintro σ H' ⟨rfl, v, rfl⟩
      walk_at "rd"
      refine rd_recv hr1 rfl ?_
      walk_at "rd"
      refine ⟨r, l, m, as, S, _, rfl, B1.at_, knd_int _, .inr ⟨placeOf_out (.inr (by have := B1.rg.len; omega)), ?_⟩⟩
      refine ⟨true, T.x_NoHand.exm T.sub_NoHand_NoHand, fun _ a ha => ?_, fun z => Bool.noConfusion z⟩
      walk_at "rd"
      exact q _ x1
end
end Rc
namespace Rc
open PySem L2 Evl
open RC (Hd Lt Wd Rg)

local macro_rules | `(tactic| walk_at "rd1") => `(tactic| first
  | (with_reducible refine rd_seq ?_)
  | (with_reducible refine rd_asg ?_)
  | (with_reducible refine rd_if ?_)
  | ((with_reducible refine' rd_var ?e ?_); (case e => rfl))
  | (with_reducible refine rd_c ?_)
  | (with_reducible refine rd_op ?_)
  | (with_reducible refine rd_I0 ?_)
  | ((with_reducible refine rd_I ?e ?_); case e => first | exact (show (0 : Int) < _ by decide) | exact (show _ ∧ _ from ⟨by decide, by decide⟩) | exact Or.inl ⟨by decide, by decide⟩ | exact Or.inr ⟨by decide, by decide⟩)
  | (with_reducible refine rd_eqI ?_)
  | (with_reducible refine rd_neI ?_)
  | (with_reducible refine rd_bl ?_)
  | (with_reducible refine rd_test ?_)
  | (with_reducible refine rd_and ?_)
  | (with_reducible refine rd_or ?_)
  | (with_reducible refine rd_not ?_)
  | (with_reducible refine rd_andV ?_)
  | (with_reducible refine rd_orV ?_)
  | (with_reducible refine rd_notV ?_)
  | (with_reducible refine rd_B ?_)
  | (with_reducible refine rd_ifE ?_)
  | (with_reducible refine rd_cons ?_)
  | (with_reducible refine rd_nil ?_)
  | (with_reducible refine rd_CB ?_)
  | (with_reducible refine rd_call ?_)
  | (with_reducible refine rd_callS ?_)
  | (with_reducible refine rd_meth ?_)
  | (with_reducible refine rd_mk ?_)
  | (with_reducible refine rd_lst ?_)
  | (with_reducible refine rd_tup ?_)
  | (with_reducible refine rd_un ?_)
  | (with_reducible refine rd_U ?_)
  | (with_reducible refine rd_tFld ?_)
  | (with_reducible refine rd_sFld ?_)
  | (with_reducible refine rd_methW ?_)
  | (with_reducible refine rd_abs ?_)
  | (with_reducible refine rd_int1 ?_)
  | (with_reducible refine rd_isNo ?_)
  | (with_reducible refine rd_notNo ?_)
  | (with_reducible refine rd_isBo ?_)
  | (with_reducible refine rd_notBo ?_)
  | (with_reducible refine rd_forL ?_)
  | (with_reducible refine rd_forT ?_)
  | (with_reducible refine rd_forR1 ?_)
  | (with_reducible refine rd_forR2 ?_)
  | (with_reducible refine rd_lcL ?_)
  | (with_reducible refine rd_lcT ?_)
  | (with_reducible refine rd_lcR1 ?_)
  | (with_reducible refine rd_chain ?_)
  | (with_reducible refine rd_ret ?_)
  | (with_reducible refine rd_retN ?_)
  | (with_reducible refine rd_drop ?_)
  | (with_reducible refine rd_next ?_)
  | (with_reducible refine rd_asgG ?_)
  | (with_reducible refine rd_pop ?_)
  | (with_reducible refine rd_makeW ?_)
  | (with_reducible refine rd_min2 ?_)
  | (with_reducible refine rd_tLenSet ?_)
  | (with_reducible refine rd_sl ?_)
  | (with_reducible refine rd_tPart ?_)
  | (with_reducible refine rd_part ?_)
  | (with_reducible refine rd_nopart ?_)
  | (with_reducible refine rd_bm0 ?_)
  | (with_reducible refine rd_dget ?_)
  | (with_reducible refine rd_dput ?_)
  | (with_reducible refine rd_forR3 ?_)
  | (with_reducible refine rd_slS ?_)
  | (with_reducible refine rd_lstRg ?_)
  | (with_reducible refine rd_forE ?_)
  | (with_reducible refine iteNT ?_)
  | (with_reducible refine iteNF ?_)
  | (with_reducible refine iteF ?_)
  | (with_reducible refine iteT ?_))
local macro_rules | `(tactic| walk_at "rd") => `(tactic| repeat (walk_at "rd1"))

-- RcDict RcHouse
section
variable {P : Program} {w : World} {K : PySem.W.Frag} {mg : Str → Option Value} {base : Heap} {A : Adr}
/-! ### looks -/
/-- a list of places -/
def Places (K : PySem.W.Frag) (H : Hp) (a : Addr) (ps : List Nat) (n : Nat) : Prop := SqL K H a (ps.map fun i => V.int ((i : Nat) : Int)) ∧ ∀ i, i ∈ ps → i < n
theorem Places.ex {H H' : Hp} {a : Addr} {ps : List Nat} {n : Nat} (p : Places K H a ps n) (e : Ex H H') : Places K H' a ps n := ⟨ex_l e p.1, p.2⟩
def spHands (K : PySem.W.Frag) (CR CH : Addr) : Sp := fun vs H Q _ => ∃ (r l m D hl ml a : Addr) (as ds : List Addr) (ks : List Int) (S : Rg) (ps : List Nat) (t : Int), vs = [.ref r, .ref D, .ref a, .int t] ∧ Both CR CH H r l m D hl ml as ds ks S ∧ Places K H a ps ks.length ∧ ∀ H', Ex H H' → Q (.bl true) H'
theorem sc__law_hands_told : FnScope ["_law_ring", "_law_house", "_law_places", "_law_turn", "_law_place", "_law_k", "_law_which"] ["_law_ring", "_law_house", "_law_places", "_law_turn"] (defScope s__law_hands_told) := ⟨rfl, rfl, rfl, by decide +kernel, rfl, by decide +kernel, by decide +kernel⟩
theorem ok__law_hands_told (T : Txt K mg A) (G__law_hand_told : FnOk P w K mg base CX0 4 A.f__law_hand_told A.fd__law_hand_told ["_law_ring", "_law_place", "_law_state", "_law_which"] (spHTold A.c_Ring A.c_Hand)) :
    FnOk P w K mg base CX0 5 A.f__law_hands_told A.fd__law_hands_told ["_law_ring", "_law_house", "_law_places", "_law_turn"] (spHands K A.c_Ring A.c_Hand) := by
  refine T.fun__law_hands_told.ok sc__law_hands_told (fun vs H Q E h => ?_) (fun cdv Ar outer s H vs Q E hr h => ?_)
  · obtain ⟨r, l, m, D, hl, ml, a, as, ds, ks, S, ps, t, rfl, _⟩ := h
    rfl
  · obtain ⟨r, l, m, D, hl, ml, a, as, ds, ks, S, ps, t, rfl, B, pl, q⟩ := h
    refine ⟨_, (pss_cons (ps_for PassesOwn.never rfl (pi_list (pv 2)) (pg_name (i := 4) sc__law_hands_told.nd rfl (Or.inl rfl)) (pss_one (ps_for PassesOwn.never rfl (pi_range1 (by rfl) T.no_range (pa_cons pe_int pa_nil)) (pg_name (i := 5) sc__law_hands_told.nd rfl (Or.inl rfl)) (pss_cons (ps_set (i := 6) sc__law_hands_told.nd rfl (Or.inl rfl) (pe_op op_mod (pe_op op_add (pv 3) (pe_op op_mul (pv 5) (pe_ix ix_list (pe_lst (pa_cons pe_int (pa_cons pe_int pa_nil))) (pe_op op_mod (pe_op op_fdiv (pv 3) pe_int) pe_int) (fun _ _ => rfl)))) pe_int))
      (pss_one (ps_if (pt_not (pt_val (pe_call G__law_hand_told (hr.mono (by decide)) rfl T.mg__law_hand_told T.fun__law_hand_told.kp T.b__law_hand_told .nil pass0 (pa_cons (pv 0) (pa_cons (pv 4) (pa_cons (pe_ix ix_list (pe_dget (hu_of hr) (pv 1) pe_str (fun _ _ => rfl)) (pv 4) (fun _ _ => rfl)) (pa_cons (pv 6) pa_nil))))))) (pss_one (ps_ret pe_bl)) pss_nil))))))
      (pss_one (ps_ret pe_bl))), ?_⟩
    walk_at "rd"
    refine for_L pl.1 (fun i σ H' => Ex H H' ∧ ∃ v1 v2 v3 : Option V, σ = [some (.ref r), some (.ref D), some (.ref a), some (.int t), v1, v2, v3]) ⟨Ex.refl H, _, _, _, rfl⟩ (fun i σ H' _ z => (pl.ex z.1).1) ?_ ?_
    · rintro i v σ H' hv ⟨e1, v1, v2, v3, rfl⟩
      rw [List.getElem?_map] at hv
      obtain ⟨j, hj, rfl⟩ := Option.map_eq_some_iff.mp hv
      have jlt := pl.2 j (List.mem_of_getElem? hj)
      walk_at "rd"
      refine for_R1 (n := 4) (by decide) (fun k σ H2 => Ex H H2 ∧ ∃ v2 v3 : Option V, σ = [some (.ref r), some (.ref D), some (.ref a), some (.int t), some (.int ((j : Nat) : Int)), v2, v3]) ⟨e1, _, _, rfl⟩ ?_ ?_
      · rintro k σ H2 hk ⟨e2, v2, v3, rfl⟩
        walk_at "rd"
        refine ⟨by show 2 ≤ sizeLine; decide, fun u hu => ?_⟩
        have x3 := Ex.new (o := .lst [V.int 1, V.int 3]) hu
        have hu3 : upd H2 u (.lst [V.int 1, V.int 3]) u = some (.lst [V.int 1, V.int 3]) := upd_same
        generalize upd H2 u (.lst [V.int 1, V.int 3]) = H3 at x3 hu3 ⊢
        have e3 := e2.trans x3
        have B3 := B.ex e3
        walk_at "rd"
        obtain ⟨x, hx, hxv⟩ : ∃ x : Nat, t / 4 % 2 = ((x : Nat) : Int) ∧ x < 2 := mod_place (n := 2) (by decide)
        obtain ⟨y, hy, hy3⟩ : ∃ y : Int, ([V.int 1, V.int 3] : List V)[x]? = some (.int y) ∧ (y = 1 ∨ y = 3) := by
          match x, hxv with
          | 0, _ => exact ⟨1, rfl, .inl rfl⟩
          | 1, _ => exact ⟨3, rfl, .inr rfl⟩
        refine rd_ixL (k := x) (SqL.of hu3) hx hy ?_
        have cm : CMul ((k : Nat) : Int) y := Or.inl ⟨by omega, by omega⟩
        refine rd_I cm ?_
        walk_at "rd"
        obtain ⟨n, hn, hn4⟩ := mod_place (c := t + ((k : Nat) : Int) * y) (n := 4) (by decide)
        refine rd_getS B3.ho.ob get_hands ?_
        obtain ⟨d, hd, dmem, hhd⟩ := B3.ho.at_ (i := j) (by rw [B3.rg.len]; exact jlt)
        walk_at "rd"
        refine rd_ixL (k := j) (v := .ref d) (SqL.of B3.ho.hs) rfl (by rw [List.getElem?_map, hd]; rfl) ?_
        walk_at "rd"
        rw [show (t + ((k : Nat) : Int) * y) % 4 = ((n : Nat) : Int) from hn]
        refine ⟨r, l, m, d, as, S, j, n, rfl, hn4, B3.at_, by rw [B3.rg.len]; exact jlt, hhd, ?_⟩
        refine rd_bl ?_
        refine iteNT ?_
        walk_at "rd"
        exact ⟨e3, _, _, rfl⟩
      · rintro σ H2 ⟨e2, v2, v3, rfl⟩
        exact ⟨e2, _, _, _, rfl⟩
    · rintro σ H' ⟨e1, v1, v2, v3, rfl⟩
      walk_at "rd"
      exact q H' e1
def spLooked (K : PySem.W.Frag) (CR CH : Addr) : Sp := fun vs H Q _ => ∃ (r l m D hl ml a : Addr) (as ds : List Addr) (ks : List Int) (S : Rg) (ps : List Nat) (t : Int), vs = [.ref r, .ref D, .int t, .ref a] ∧ Both CR CH H r l m D hl ml as ds ks S ∧ Places K H a ps ks.length ∧ ∀ H', Ex H H' → Q (.bl true) H'
theorem sc__law_looked : FnScope ["_law_ring", "_law_house", "_law_turn", "_law_places", "_law_ways", "_law_way"] ["_law_ring", "_law_house", "_law_turn", "_law_places"] (defScope s__law_looked) := ⟨rfl, rfl, rfl, by decide +kernel, rfl, by decide +kernel, by decide +kernel⟩
theorem ok__law_looked (T : Txt K mg A) (G : RingOk P w K mg base A) (G__law_hands_told : FnOk P w K mg base CX0 5 A.f__law_hands_told A.fd__law_hands_told ["_law_ring", "_law_house", "_law_places", "_law_turn"] (spHands K A.c_Ring A.c_Hand))
    (G__law_whole : FnOk P w K mg base CX0 1 A.f__law_whole A.fd__law_whole ["_law_found"] (spInt K)) (G__law_letters : FnOk P w K mg base CX0 2 A.f__law_letters A.fd__law_letters ["_law_found", "_law_due"] (spLetters K mV)) :
    FnOk P w K mg base CX0 6 A.f__law_looked A.fd__law_looked ["_law_ring", "_law_house", "_law_turn", "_law_places"] (spLooked K A.c_Ring A.c_Hand) := by
  have G_Ring_mails := G.mails
  have G_Ring_sent := G.sent
  refine T.fun__law_looked.ok sc__law_looked (fun vs H Q E h => ?_) (fun cdv Ar outer s H vs Q E hr h => ?_)
  · obtain ⟨r, l, m, D, hl, ml, a, as, ds, ks, S, ps, t, rfl, _⟩ := h
    rfl
  · obtain ⟨r, l, m, D, hl, ml, a, as, ds, ks, S, ps, t, rfl, B, pl, q⟩ := h
    refine ⟨_, (pss_cons (ps_set (i := 4) sc__law_looked.nd rfl (Or.inl rfl) (pe_lst (pa_cons (pe_lst (pa_cons pe_int (pa_cons pe_int (pa_cons pe_int pa_nil)))) (pa_cons (pe_lst (pa_cons pe_int (pa_cons pe_int (pa_cons pe_int pa_nil)))) (pa_cons (pe_lst (pa_cons pe_int pa_nil)) (pa_cons (pe_lst (pa_cons pe_int pa_nil)) (pa_cons (pe_lst (pa_cons pe_int pa_nil)) (pa_cons (pe_lst (pa_cons pe_int (pa_cons pe_int (pa_cons pe_int pa_nil)))) (pa_cons (pe_lst pa_nil) (pa_cons (pe_lst (pa_cons pe_int (pa_cons pe_int pa_nil))) (pa_cons (pe_lst (pa_cons pe_int (pa_cons pe_int pa_nil))) pa_nil)))))))))))
      (pss_cons (ps_for PassesOwn.never rfl (pi_list (pe_ix ix_list (pv 4) (pe_op op_mod (pv 2) pe_int) (fun _ _ => rfl))) (pg_name (i := 5) sc__law_looked.nd rfl (Or.inl rfl)) (pss_cons (ps_if (PW.pt (pw_and (pt_cmpR op_eq (pv 5) pe_int (nomark _)) (pw_and1 (pt_not (pt_val (pe_call G__law_letters (hr.mono (by decide)) rfl T.mg__law_letters T.fun__law_letters.kp T.b__law_letters .nil pass0 (pa_cons (pe_meth0 (pv 0) T.cl_Ring T.mt_Ring_mails G_Ring_mails (hr.mono (by decide)) T.b_Ring_mails .nil pass0) (pa_cons (pe_dget (hu_of hr) (pv 1) pe_str (fun _ _ => rfl)) pa_nil)))))))) (pss_one (ps_ret pe_bl)) pss_nil)
      (pss_cons (ps_if (PW.pt (pw_and (pt_cmpR op_eq (pv 5) pe_int (nomark _)) (pw_and1 (PW.pt (pw_or (pt_not (pt_val (pe_call G__law_whole (hr.mono (by decide)) rfl T.mg__law_whole T.fun__law_whole.kp T.b__law_whole .nil pass0 (pa_cons (pe_meth0 (pv 0) T.cl_Ring T.mt_Ring_sent G_Ring_sent (hr.mono (by decide)) T.b_Ring_sent .nil pass0) pa_nil)))) (pw_or1 (pt_cmpR op_ne (pe_meth0 (pv 0) T.cl_Ring T.mt_Ring_sent G_Ring_sent (hr.mono (by decide)) T.b_Ring_sent .nil pass0) (pe_dget (hu_of hr) (pv 1) pe_str (fun _ _ => rfl)) (nomark _)))))))) (pss_one (ps_ret pe_bl)) pss_nil)
      (pss_one (ps_if (PW.pt (pw_and (pt_cmpR op_eq (pv 5) pe_int (nomark _)) (pw_and1 (pt_not (pt_val (pe_call G__law_hands_told (hr.mono (by decide)) rfl T.mg__law_hands_told T.fun__law_hands_told.kp T.b__law_hands_told .nil pass0 (pa_cons (pv 0) (pa_cons (pv 1) (pa_cons (pv 3) (pa_cons (pe_op op_fdiv (pv 2) pe_int) pa_nil)))))))))) (pss_one (ps_ret pe_bl)) pss_nil)))))
      (pss_one (ps_ret pe_bl)))), ?_⟩
    refine seq_mid (fun σ H' => Ex H H' ∧ ∃ (pw : Addr) (ws : List V), σ = [some (.ref r), some (.ref D), some (.int t), some (.ref a), some (.ref pw), none] ∧ H' pw = some (.lst ws) ∧ ∀ ix, ix < 9 → ∃ (p : Addr) (l : List Nat), ws[ix]? = some (.ref p) ∧ H' p = some (.lst (l.map fun i : Nat => V.int ((i : Nat) : Int))) ∧ (∀ i, i ∈ l → i < 3) ∧ l.length ≤ 3) (fun nx hn => ?_) ?_
    · walk_at "rd"
      refine ⟨by show 3 ≤ sizeLine; decide, fun p0 h0 => ?_⟩
      have x0 := Ex.new (o := .lst [V.int 0, V.int 1, V.int 2]) h0
      have y0 : upd H p0 (.lst [V.int 0, V.int 1, V.int 2]) p0 = some (.lst [V.int 0, V.int 1, V.int 2]) := upd_same
      generalize upd H p0 (.lst [V.int 0, V.int 1, V.int 2]) = G1 at x0 y0 ⊢
      have e0 := x0
      walk_at "rd"
      refine ⟨by show 3 ≤ sizeLine; decide, fun p1 h1 => ?_⟩
      have x1 := Ex.new (o := .lst [V.int 2, V.int 1, V.int 0]) h1
      have y1 : upd G1 p1 (.lst [V.int 2, V.int 1, V.int 0]) p1 = some (.lst [V.int 2, V.int 1, V.int 0]) := upd_same
      generalize upd G1 p1 (.lst [V.int 2, V.int 1, V.int 0]) = G2 at x1 y1 ⊢
      have y0 := x1 _ _ y0
      have e1 := e0.trans x1
      walk_at "rd"
      refine ⟨by show 1 ≤ sizeLine; decide, fun p2 h2 => ?_⟩
      have x2 := Ex.new (o := .lst [V.int 1]) h2
      have y2 : upd G2 p2 (.lst [V.int 1]) p2 = some (.lst [V.int 1]) := upd_same
      generalize upd G2 p2 (.lst [V.int 1]) = G3 at x2 y2 ⊢
      have y0 := x2 _ _ y0
      have y1 := x2 _ _ y1
      have e2 := e1.trans x2
      walk_at "rd"
      refine ⟨by show 1 ≤ sizeLine; decide, fun p3 h3 => ?_⟩
      have x3 := Ex.new (o := .lst [V.int 0]) h3
      have y3 : upd G3 p3 (.lst [V.int 0]) p3 = some (.lst [V.int 0]) := upd_same
      generalize upd G3 p3 (.lst [V.int 0]) = G4 at x3 y3 ⊢
      have y0 := x3 _ _ y0
      have y1 := x3 _ _ y1
      have y2 := x3 _ _ y2
      have e3 := e2.trans x3
      walk_at "rd"
      refine ⟨by show 1 ≤ sizeLine; decide, fun p4 h4 => ?_⟩
      have x4 := Ex.new (o := .lst [V.int 2]) h4
      have y4 : upd G4 p4 (.lst [V.int 2]) p4 = some (.lst [V.int 2]) := upd_same
      generalize upd G4 p4 (.lst [V.int 2]) = G5 at x4 y4 ⊢
      have y0 := x4 _ _ y0
      have y1 := x4 _ _ y1
      have y2 := x4 _ _ y2
      have y3 := x4 _ _ y3
      have e4 := e3.trans x4
      walk_at "rd"
      refine ⟨by show 3 ≤ sizeLine; decide, fun p5 h5 => ?_⟩
      have x5 := Ex.new (o := .lst [V.int 1, V.int 2, V.int 0]) h5
      have y5 : upd G5 p5 (.lst [V.int 1, V.int 2, V.int 0]) p5 = some (.lst [V.int 1, V.int 2, V.int 0]) := upd_same
      generalize upd G5 p5 (.lst [V.int 1, V.int 2, V.int 0]) = G6 at x5 y5 ⊢
      have y0 := x5 _ _ y0
      have y1 := x5 _ _ y1
      have y2 := x5 _ _ y2
      have y3 := x5 _ _ y3
      have y4 := x5 _ _ y4
      have e5 := e4.trans x5
      walk_at "rd"
      refine ⟨by show 0 ≤ sizeLine; decide, fun p6 h6 => ?_⟩
      have x6 := Ex.new (o := .lst ([] : List V)) h6
      have y6 : upd G6 p6 (.lst ([] : List V)) p6 = some (.lst ([] : List V)) := upd_same
      generalize upd G6 p6 (.lst ([] : List V)) = G7 at x6 y6 ⊢
      have y0 := x6 _ _ y0
      have y1 := x6 _ _ y1
      have y2 := x6 _ _ y2
      have y3 := x6 _ _ y3
      have y4 := x6 _ _ y4
      have y5 := x6 _ _ y5
      have e6 := e5.trans x6
      walk_at "rd"
      refine ⟨by show 2 ≤ sizeLine; decide, fun p7 h7 => ?_⟩
      have x7 := Ex.new (o := .lst [V.int 2, V.int 0]) h7
      have y7 : upd G7 p7 (.lst [V.int 2, V.int 0]) p7 = some (.lst [V.int 2, V.int 0]) := upd_same
      generalize upd G7 p7 (.lst [V.int 2, V.int 0]) = G8 at x7 y7 ⊢
      have y0 := x7 _ _ y0
      have y1 := x7 _ _ y1
      have y2 := x7 _ _ y2
      have y3 := x7 _ _ y3
      have y4 := x7 _ _ y4
      have y5 := x7 _ _ y5
      have y6 := x7 _ _ y6
      have e7 := e6.trans x7
      walk_at "rd"
      refine ⟨by show 2 ≤ sizeLine; decide, fun p8 h8 => ?_⟩
      have x8 := Ex.new (o := .lst [V.int 0, V.int 2]) h8
      have y8 : upd G8 p8 (.lst [V.int 0, V.int 2]) p8 = some (.lst [V.int 0, V.int 2]) := upd_same
      generalize upd G8 p8 (.lst [V.int 0, V.int 2]) = G9 at x8 y8 ⊢
      have y0 := x8 _ _ y0
      have y1 := x8 _ _ y1
      have y2 := x8 _ _ y2
      have y3 := x8 _ _ y3
      have y4 := x8 _ _ y4
      have y5 := x8 _ _ y5
      have y6 := x8 _ _ y6
      have y7 := x8 _ _ y7
      have e8 := e7.trans x8
      walk_at "rd"
      refine ⟨by show 9 ≤ sizeLine; decide, fun pw hw => ?_⟩
      have x9 := Ex.new (o := .lst [V.ref p0, V.ref p1, V.ref p2, V.ref p3, V.ref p4, V.ref p5, V.ref p6, V.ref p7, V.ref p8]) hw
      refine hn _ _ ⟨e8.trans x9, pw, _, rfl, upd_same, fun ix hix => ?_⟩
      match ix, hix with
      | 0, _ => exact ⟨p0, [0, 1, 2], rfl, x9 _ _ y0, by decide, by decide⟩
      | 1, _ => exact ⟨p1, [2, 1, 0], rfl, x9 _ _ y1, by decide, by decide⟩
      | 2, _ => exact ⟨p2, [1], rfl, x9 _ _ y2, by decide, by decide⟩
      | 3, _ => exact ⟨p3, [0], rfl, x9 _ _ y3, by decide, by decide⟩
      | 4, _ => exact ⟨p4, [2], rfl, x9 _ _ y4, by decide, by decide⟩
      | 5, _ => exact ⟨p5, [1, 2, 0], rfl, x9 _ _ y5, by decide, by decide⟩
      | 6, _ => exact ⟨p6, [], rfl, x9 _ _ y6, by decide, by decide⟩
      | 7, _ => exact ⟨p7, [2, 0], rfl, x9 _ _ y7, by decide, by decide⟩
      | 8, _ => exact ⟨p8, [0, 2], rfl, x9 _ _ y8, by decide, by decide⟩
    rintro σ H1 ⟨e1, pw, ws, rfl, hw, hall⟩
    have B1 := B.ex e1
    have pl1 := pl.ex e1
    obtain ⟨ix, hix, hix9⟩ := mod_place (c := t) (n := 9) (by decide)
    obtain ⟨p, l1, hp, hpl, hl3, hlen⟩ := hall ix hix9
    walk_at "rd"
    refine rd_ixL (k := ix) (SqL.of hw) hix hp ?_
    walk_at "rd"
    refine for_L (SqL.of hpl) (fun i σ H' => Ex H1 H' ∧ ∃ v : Option V, σ = [some (.ref r), some (.ref D), some (.int t), some (.ref a), some (.ref pw), v]) ⟨Ex.refl H1, _, rfl⟩ (fun i σ H' _ z => SqL.of (z.1 _ _ hpl)) ?_ ?_
    · rintro i v σ H' hv ⟨e2, v1, rfl⟩
      rw [List.getElem?_map] at hv
      obtain ⟨j, hj, rfl⟩ := Option.map_eq_some_iff.mp hv
      have j3 := hl3 j (List.mem_of_getElem? hj)
      have B2 := B1.ex e2
      obtain ⟨dx, hr2⟩ := B2.at_.ob
      match j, j3 with
      | 0, _ =>
        walk_at "rd"
        refine iteT ?_
        walk_at "rd"
        refine rd_recv hr2 rfl ?_
        walk_at "rd"
        refine ⟨r, l, m, as, S, rfl, B2.at_, fun u xs hu hm tm => ?_⟩
        have x3 := Ex.new (o := .lst xs) hu
        walk_at "rd"
        have B3 := B2.ex x3
        refine rd_getS B3.ho.ob get_mails ?_
        walk_at "rd"
        obtain ⟨ys, hy, ty⟩ := B3.ho.pl
        refine ⟨u, ml, xs, ys, S.post, rfl, upd_same, hy, tm.ex x3, ty, ?_⟩
        refine rd_bl ?_
        refine iteNT ?_
        walk_at "rd"
        refine iteF ?_
        walk_at "rd"
        refine iteF ?_
        walk_at "rd"
        exact ⟨e2.trans x3, _, rfl⟩
      | 1, _ =>
        walk_at "rd"
        refine iteF ?_
        walk_at "rd"
        refine iteT ?_
        walk_at "rd"
        refine rd_recv hr2 rfl ?_
        walk_at "rd"
        refine ⟨r, l, m, as, S, rfl, B2.at_, ?_⟩
        walk_at "rd"
        refine ⟨_, rfl, knd_int _, ?_⟩
        refine rd_bl ?_
        refine iteNT ?_
        walk_at "rd"
        refine rd_recv hr2 rfl ?_
        walk_at "rd"
        refine ⟨r, l, m, as, S, rfl, B2.at_, ?_⟩
        walk_at "rd"
        refine rd_getS B2.ho.ob get_sent ?_
        walk_at "rd"
        refine if_ne_same ?_
        walk_at "rd"
        refine iteF ?_
        walk_at "rd"
        exact ⟨e2, _, rfl⟩
      | 2, _ =>
        walk_at "rd"
        refine iteF ?_
        walk_at "rd"
        refine iteF ?_
        walk_at "rd"
        refine iteT ?_
        walk_at "rd"
        refine ⟨r, l, m, D, hl, ml, a, as, ds, ks, S, ps, _, rfl, B2, pl1.ex e2, fun H3 e3 => ?_⟩
        refine rd_bl ?_
        refine iteNT ?_
        walk_at "rd"
        exact ⟨e2.trans e3, _, rfl⟩
    · rintro σ H' ⟨e2, v1, rfl⟩
      walk_at "rd"
      exact q H' (e1.trans e2)
def spAll5 (CR CH : Addr) : Sp := fun vs H Q _ => ∃ (r l m D hl ml : Addr) (as ds : List Addr) (ks : List Int) (S : Rg) (t : Int), vs = [.ref r, .ref D, .int t] ∧ Both CR CH H r l m D hl ml as ds ks S ∧ ∀ H', Ex H H' → Q (.bl true) H'
theorem sc__law_all : FnScope ["_law_ring", "_law_house", "_law_turn", "_law_places"] ["_law_ring", "_law_house", "_law_turn"] (defScope s__law_all) := ⟨rfl, rfl, rfl, by decide +kernel, rfl, by decide +kernel, by decide +kernel⟩
theorem ok__law_all (T : Txt K mg A) (G__law_looked : FnOk P w K mg base CX0 6 A.f__law_looked A.fd__law_looked ["_law_ring", "_law_house", "_law_turn", "_law_places"] (spLooked K A.c_Ring A.c_Hand)) :
    FnOk P w K mg base CX0 7 A.f__law_all A.fd__law_all ["_law_ring", "_law_house", "_law_turn"] (spAll5 A.c_Ring A.c_Hand) := by
  refine T.fun__law_all.ok sc__law_all (fun vs H Q E h => ?_) (fun cdv Ar outer s H vs Q E hr h => ?_)
  · obtain ⟨r, l, m, D, hl, ml, as, ds, ks, S, t, rfl, _⟩ := h
    rfl
  · obtain ⟨r, l, m, D, hl, ml, as, ds, ks, S, t, rfl, B, q⟩ := h
    refine ⟨_, (pss_cons (ps_set (i := 3) sc__law_all.nd rfl (Or.inl rfl) (pe_listRg rfl (by rfl) T.no_list (prg_1 (by rfl) T.no_range (pe_callB call_lenN (by rfl) T.no_len (by decide +kernel) (pa_cons (pe_dget (hu_of hr) (pv 1) pe_str (fun _ _ => rfl)) pa_nil)))))
      (pss_one (ps_ret (pe_call G__law_looked (hr.mono (by decide)) rfl T.mg__law_looked T.fun__law_looked.kp T.b__law_looked .nil pass0 (pa_cons (pv 0) (pa_cons (pv 1) (pa_cons (pe_op op_mod (pv 2) pe_int) (pa_cons (pe_slS (pv 3) (pe_ix ix_list (pe_lst (pa_cons pe_int (pa_cons (pe_un un_neg pe_int) pa_nil))) (pe_op op_mod (pe_op op_fdiv (pv 2) pe_int) pe_int) (fun _ _ => rfl))) pa_nil)))))))), ?_⟩
    walk_at "rd"
    refine rd_getS B.ho.ob get_hands ?_
    walk_at "rd"
    refine rd_len (SqL.of B.ho.hs) ?_
    rw [List.length_map, B.ho.len, B.rg.len]
    have n64 := B.rg.nums.most
    refine ⟨_, rfl, ⟨by omega, by omega, by omega, by omega, by omega⟩, fun u hu => ?_⟩
    rw [rgV_nat]
    have x1 := Ex.new (o := .lst ((List.range ks.length).map fun i => V.int ((i : Nat) : Int))) hu
    have hu1 : upd H u (.lst ((List.range ks.length).map fun i => V.int ((i : Nat) : Int))) u = some (.lst ((List.range ks.length).map fun i => V.int ((i : Nat) : Int))) := upd_same
    generalize upd H u (.lst ((List.range ks.length).map fun i => V.int ((i : Nat) : Int))) = H1 at x1 hu1 ⊢
    walk_at "rd"
    refine ⟨by show 2 ≤ sizeLine; decide, fun u2 hu2 => ?_⟩
    have x2 := Ex.new (o := .lst [V.int 1, V.int (-1)]) hu2
    have hu3 : upd H1 u2 (.lst [V.int 1, V.int (-1)]) u2 = some (.lst [V.int 1, V.int (-1)]) := upd_same
    generalize upd H1 u2 (.lst [V.int 1, V.int (-1)]) = H2 at x2 hu3 ⊢
    have hu2' := x2 _ _ hu1
    have e2 := x1.trans x2
    walk_at "rd"
    obtain ⟨x, hx, hxv⟩ : ∃ x : Nat, t / 2 % 2 = ((x : Nat) : Int) ∧ x < 2 := mod_place (n := 2) (by decide)
    obtain ⟨y, hy, hy3⟩ : ∃ y : Int, ([V.int 1, V.int (-1)] : List V)[x]? = some (.int y) ∧ (y = 1 ∨ y = -1) := by
      match x, hxv with
      | 0, _ => exact ⟨1, rfl, .inl rfl⟩
      | 1, _ => exact ⟨-1, rfl, .inr rfl⟩
    refine rd_ixL (k := x) (SqL.of hu3) hx hy ?_
    refine ⟨_, rfl, u, _, rfl, hy3, SqL.of hu2', fun u4 hu4 => ?_⟩
    have ep : (if y = 1 then ((List.range ks.length).map fun i => V.int ((i : Nat) : Int)) else ((List.range ks.length).map fun i => V.int ((i : Nat) : Int)).reverse) = (if y = 1 then List.range ks.length else (List.range ks.length).reverse).map fun i => V.int ((i : Nat) : Int) := by
      split
      · rfl
      · rw [List.map_reverse]
    rw [ep]
    have x4 := Ex.new (o := .lst ((if y = 1 then List.range ks.length else (List.range ks.length).reverse).map fun i => V.int ((i : Nat) : Int))) hu4
    have e4 := e2.trans x4
    walk_at "rd"
    refine ⟨r, l, m, D, hl, ml, u4, as, ds, ks, S, _, _, rfl, B.ex e4, ⟨SqL.of upd_same, fun i hi => ?_⟩, fun H5 e5 => ?_⟩
    · split at hi
      · exact List.mem_range.mp hi
      · exact List.mem_range.mp (List.mem_reverse.mp hi)
    · exact q H5 (e4.trans e5)
def spRests (CR CH : Addr) : Sp := fun vs H Q _ => ∃ (r l m D hl ml : Addr) (as ds : List Addr) (ks : List Int) (S : Rg), vs = [.ref r, .ref D] ∧ Both CR CH H r l m D hl ml as ds ks S ∧
  ∀ H' S', Both CR CH H' r l m D hl ml as ds ks S' → KAll r m D ml as ds H H' → Go S S' → Q (.bl true) H'
theorem sc__law_rests : FnScope ["_law_ring", "_law_house", "_law_came_here", "_law_found"] ["_law_ring", "_law_house"] (defScope s__law_rests) := ⟨rfl, rfl, rfl, by decide +kernel, rfl, by decide +kernel, by decide +kernel⟩
theorem ok__law_rests (T : Txt K mg A) (G : RingOk P w K mg base A) (G__law_came : FnOk P w K mg base CX0 4 A.f__law_came A.fd__law_came ["_law_house", "_law_at"] spLCame) (G__law_whole : FnOk P w K mg base CX0 1 A.f__law_whole A.fd__law_whole ["_law_found"] (spInt K)) :
    FnOk P w K mg base CX0 6 A.f__law_rests A.fd__law_rests ["_law_ring", "_law_house"] (spRests A.c_Ring A.c_Hand) := by
  have G_Ring_rest := G.rest
  refine T.fun__law_rests.ok sc__law_rests (fun vs H Q E h => ?_) (fun cdv Ar outer s H vs Q E hr h => ?_)
  · obtain ⟨r, l, m, D, hl, ml, as, ds, ks, S, rfl, _⟩ := h
    rfl
  · obtain ⟨r, l, m, D, hl, ml, as, ds, ks, S, rfl, B, q⟩ := h
    obtain ⟨k, hk1, hk2⟩ := rest_ends B.rg
    refine ⟨_, (pss_cons (ps_set (i := 2) sc__law_rests.nd rfl (Or.inl rfl) pe_int)
      (pss_cons (ps_while PassesOwn.never (pt_cmpR (op_neD hr.units) (pe_dget (hu_of hr) (pv 1) pe_str (fun _ _ => rfl)) (pe_lst pa_nil) (nomark _)) (pss_cons (ps_expr (pe_call G__law_came (hr.mono (by decide)) rfl T.mg__law_came T.fun__law_came.kp T.b__law_came .nil pass0 (pa_cons (pv 1) (pa_cons pe_int pa_nil))))
      (pss_one (ps_set (i := 2) sc__law_rests.nd rfl (Or.inl rfl) (pe_op op_add (pv 2) pe_int)))))
      (pss_cons (ps_set (i := 3) sc__law_rests.nd rfl (Or.inl rfl) (pe_meth0 (pv 0) T.cl_Ring T.mt_Ring_rest G_Ring_rest (hr.mono (by decide)) T.b_Ring_rest .nil pass0))
      (pss_one (ps_ret (pe_and (pe_call G__law_whole (hr.mono (by decide)) rfl T.mg__law_whole T.fun__law_whole.kp T.b__law_whole .nil pass0 (pa_cons (pv 3) pa_nil)) (pe_one (pe_cmpR op_eq (pv 3) (pv 2) (nomark _))))))))), ?_⟩
    walk_at "rd"
    refine rd_while (fun c σ H' => ∃ j, c = k - j ∧ j ≤ k ∧ HouseAt H' D hl ml ds (restN S j) ∧ Keep D ml ds H H' ∧ σ = [some (.ref r), some (.ref D), some (.int ((j : Nat) : Int)), none]) k ⟨0, rfl, Nat.zero_le _, B.ho, Keep.refl _ _ _ _, rfl⟩ ?_
    rintro c σ H' ⟨j, rfl, hj, W, k', rfl⟩
    obtain ⟨xs, hm, tm⟩ := W.pl
    have Rj := (rest_rg B.rg j fun i hi => hk1 i (by omega)).1
    walk_at "rd"
    refine rd_getS W.ob get_mails ?_
    walk_at "rd"
    refine ⟨Nat.zero_le _, fun u hu => ?_⟩
    refine rd_neNil mD_ok (SqL.of (Ex.new hu _ _ hm)) (SqL.of upd_same) (tm.ex (Ex.new hu)) ?_
    have W2 := W.ex (Ex.new (o := .lst []) hu)
    have k2 := k'.trans (Keep.ex (Ex.new (o := .lst []) hu))
    generalize upd H' u (.lst []) = H2 at W2 k2 ⊢
    refine rd_bl ?_
    by_cases hjk : j < k
    · have hne := hk1 j hjk
      have e1 : (restN S j).post.isEmpty = false := by cases z : (restN S j).post with
        | nil => exact absurd z hne
        | cons _ _ => rfl
      have pos0 : 0 < (restN S j).post.length := by cases z : (restN S j).post with
        | nil => exact absurd z hne
        | cons _ _ => simp
      rw [e1]
      refine iteNF ?_
      refine rd_turn ?_
      walk_at "rd"
      refine ⟨D, hl, ml, ds, ks, restN S j, 0, rfl, W2, Rj, pos0, fun H3 t W3 k3 _ => ?_⟩
      walk_at "rd"
      exact ⟨k - (j + 1), by omega, j + 1, rfl, hjk, W3, k2.trans k3, rfl⟩
    · have ejk : j = k := by omega
      subst ejk
      rw [hk2]
      refine iteNT ?_
      walk_at "rd"
      have R2 := B.at_.house B.ho B.lml B.mml k2
      obtain ⟨dx, hr2⟩ := R2.ob
      refine rd_recv hr2 rfl ?_
      walk_at "rd"
      refine ⟨r, l, m, as, S, j, rfl, R2, fun i hi => ⟨hk1 i hi, ?_⟩, hk2, fun H3 R3 k3 => ?_⟩
      · have := (rest_rg B.rg i fun i' hi' => hk1 i' (by omega)).1.small
        omega
      walk_at "rd"
      refine ⟨_, rfl, knd_int _, ?_⟩
      refine rd_bl ?_
      refine iteT ?_
      walk_at "rd"
      rw [decide_eq_true rfl]
      have g := (rest_rg B.rg j fun i hi => hk1 i hi).2.1
      exact q H3 _ ⟨R3, Rj, W2.ring R2 B.hlm B.mml.symm k3, B.lml, B.mml, B.hlm⟩ ((KAll.house k2).trans (KAll.ring k3)) g
end
end Rc
namespace Rc
open PySem L2 Evl
open RC (Hd Lt Wd Rg)

local macro_rules | `(tactic| walk_at "rd1") => `(tactic| first
  | (with_reducible refine rd_seq ?_)
  | (with_reducible refine rd_asg ?_)
  | (with_reducible refine rd_if ?_)
  | ((with_reducible refine' rd_var ?e ?_); (case e => rfl))
  | (with_reducible refine rd_c ?_)
  | (with_reducible refine rd_op ?_)
  | (with_reducible refine rd_I0 ?_)
  | ((with_reducible refine rd_I ?e ?_); case e => first | exact (show (0 : Int) < _ by decide) | exact (show _ ∧ _ from ⟨by decide, by decide⟩) | exact Or.inl ⟨by decide, by decide⟩ | exact Or.inr ⟨by decide, by decide⟩)
  | (with_reducible refine rd_eqI ?_)
  | (with_reducible refine rd_neI ?_)
  | (with_reducible refine rd_bl ?_)
  | (with_reducible refine rd_test ?_)
  | (with_reducible refine rd_and ?_)
  | (with_reducible refine rd_or ?_)
  | (with_reducible refine rd_not ?_)
  | (with_reducible refine rd_andV ?_)
  | (with_reducible refine rd_orV ?_)
  | (with_reducible refine rd_notV ?_)
  | (with_reducible refine rd_B ?_)
  | (with_reducible refine rd_ifE ?_)
  | (with_reducible refine rd_cons ?_)
  | (with_reducible refine rd_nil ?_)
  | (with_reducible refine rd_CB ?_)
  | (with_reducible refine rd_call ?_)
  | (with_reducible refine rd_callS ?_)
  | (with_reducible refine rd_meth ?_)
  | (with_reducible refine rd_mk ?_)
  | (with_reducible refine rd_lst ?_)
  | (with_reducible refine rd_tup ?_)
  | (with_reducible refine rd_un ?_)
  | (with_reducible refine rd_U ?_)
  | (with_reducible refine rd_tFld ?_)
  | (with_reducible refine rd_sFld ?_)
  | (with_reducible refine rd_methW ?_)
  | (with_reducible refine rd_abs ?_)
  | (with_reducible refine rd_int1 ?_)
  | (with_reducible refine rd_isNo ?_)
  | (with_reducible refine rd_notNo ?_)
  | (with_reducible refine rd_isBo ?_)
  | (with_reducible refine rd_notBo ?_)
  | (with_reducible refine rd_forL ?_)
  | (with_reducible refine rd_forT ?_)
  | (with_reducible refine rd_forR1 ?_)
  | (with_reducible refine rd_forR2 ?_)
  | (with_reducible refine rd_lcL ?_)
  | (with_reducible refine rd_lcT ?_)
  | (with_reducible refine rd_lcR1 ?_)
  | (with_reducible refine rd_chain ?_)
  | (with_reducible refine rd_ret ?_)
  | (with_reducible refine rd_retN ?_)
  | (with_reducible refine rd_drop ?_)
  | (with_reducible refine rd_next ?_)
  | (with_reducible refine rd_asgG ?_)
  | (with_reducible refine rd_pop ?_)
  | (with_reducible refine rd_makeW ?_)
  | (with_reducible refine rd_min2 ?_)
  | (with_reducible refine rd_tLenSet ?_)
  | (with_reducible refine rd_sl ?_)
  | (with_reducible refine rd_tPart ?_)
  | (with_reducible refine rd_part ?_)
  | (with_reducible refine rd_nopart ?_)
  | (with_reducible refine rd_bm0 ?_)
  | (with_reducible refine rd_dget ?_)
  | (with_reducible refine rd_dput ?_)
  | (with_reducible refine rd_forR3 ?_)
  | (with_reducible refine rd_slS ?_)
  | (with_reducible refine rd_lstRg ?_)
  | (with_reducible refine rd_forE ?_)
  | (with_reducible refine iteNT ?_)
  | (with_reducible refine iteNF ?_)
  | (with_reducible refine iteF ?_)
  | (with_reducible refine iteT ?_))
local macro_rules | `(tactic| walk_at "rd") => `(tactic| repeat (walk_at "rd1"))

-- RcDict RcHouse
section
/-! ### what stays beside the ring, the house, and the list of what was told -/
structure Away (r m D ml e : Addr) (as ds : List Addr) (b : Addr) : Prop where
  r : b ≠ r
  m : b ≠ m
  as : ¬ b ∈ as
  D : b ≠ D
  ml : b ≠ ml
  ds : ¬ b ∈ ds
  e : b ≠ e
def KE (r m D ml e : Addr) (as ds : List Addr) (H H' : Hp) : Prop := ∀ b o, H b = some o → Away r m D ml e as ds b → H' b = some o
variable {CR CH r l m D hl ml e : Addr} {as ds : List Addr} {ks : List Int} {S S' : Rg} {H H' H1 He : Hp}
theorem KE.refl : KE r m D ml e as ds H H := fun _ _ h _ => h
theorem KE.trans (a : KE r m D ml e as ds H H1) (b : KE r m D ml e as ds H1 H') : KE r m D ml e as ds H H' := fun c o h n => b c o (a c o h n) n
theorem KE.ex (x : Ex H H') : KE r m D ml e as ds H H' := fun c o h _ => x c o h
theorem KE.all (k : KAll r m D ml as ds H H') : KE r m D ml e as ds H H' := fun c o h n => k c o h n.r n.m n.as n.D n.ml n.ds
theorem KE.held (k : But e H H') : KE r m D ml e as ds H H' := fun c o h n => k c o h n.e
theorem Both.away_l (B : Both CR CH H r l m D hl ml as ds ks S) {a : Addr} {xs : List V} (h : H a = some (.lst xs)) (n1 : a ≠ m) (n2 : a ≠ ml) (n3 : a ≠ e) : Away r m D ml e as ds a where
  r := by
    obtain ⟨dx, hp⟩ := B.at_.ob
    exact ne_li h hp
  m := n1
  as := fun z => by
    obtain ⟨dx, i, q⟩ := B.at_.mem z
    rw [h] at q; cases q
  D := ne_of h B.ho.ob (by intro z; cases z)
  ml := n2
  ds := fun z => by
    obtain ⟨i, q⟩ := B.ho.mem z
    rw [h] at q; cases q
  e := n3
theorem Both.away_t (B : Both CR CH H r l m D hl ml as ds ks S) {hs : List V} (he : H e = some (.lst hs)) {a : Addr} {xs : List V} (h : H a = some (.tup xs)) : Away r m D ml e as ds a where
  r := by
    obtain ⟨dx, hp⟩ := B.at_.ob
    exact ne_ti h hp
  m := by
    obtain ⟨ys, hm, _⟩ := B.at_.pl
    exact ne_tl h hm
  as := fun z => by
    obtain ⟨dx, i, q⟩ := B.at_.mem z
    rw [h] at q; cases q
  D := ne_of h B.ho.ob (by intro z; cases z)
  ml := by
    obtain ⟨ys, hm, _⟩ := B.ho.pl
    exact ne_tl h hm
  ds := fun z => by
    obtain ⟨i, q⟩ := B.ho.mem z
    rw [h] at q; cases q
  e := ne_tl h he
/-- mails told, and what they were -/
def PairM (H : Hp) (m ml e : Addr) (x : V) : Prop := ∃ (t a b : Addr) (xs ys : List V) (zs : List (Nat × Lt)), x = .ref t ∧ H t = some (.tup [.ref a, .ref b]) ∧ H a = some (.lst xs) ∧ H b = some (.lst ys) ∧ Tups mV H xs zs ∧ Tups mV H ys zs ∧ (a ≠ m ∧ a ≠ ml ∧ a ≠ e) ∧ b ≠ m ∧ b ≠ ml ∧ b ≠ e
theorem PairM.keep (B : Both CR CH H r l m D hl ml as ds ks S) {hs : List V} (he : H e = some (.lst hs)) (k : KE r m D ml e as ds H H') {x : V} (P : PairM H m ml e x) : PairM H' m ml e x := by
  obtain ⟨t, a, b, xs, ys, zs, e0, ht, ha, hb, tx, ty, ⟨a1, a2, a3⟩, b1, b2, b3⟩ := P
  have tup : ∀ c ts, H c = some (.tup ts) → H' c = some (.tup ts) := fun c ts h => k _ _ h (B.away_t he h)
  exact ⟨t, a, b, xs, ys, zs, e0, tup _ _ ht, k _ _ ha (B.away_l ha a1 a2 a3), k _ _ hb (B.away_l hb b1 b2 b3), tx.imp tup, ty.imp tup, ⟨a1, a2, a3⟩, b1, b2, b3⟩
structure Kept5 (CR CH : Addr) (He H : Hp) (r l m D hl ml e : Addr) (as ds : List Addr) (ks : List Int) (N : Nat) : Prop where
  all : ∃ S hs, Both CR CH H r l m D hl ml as ds ks S ∧ H e = some (.lst hs) ∧ hs.length ≤ N ∧ ∀ x, x ∈ hs → PairM H m ml e x
  ke : KE r m D ml e as ds He H
  em : e ≠ m
  eml : e ≠ ml
  el : e ≠ l
  ehl : e ≠ hl
variable {N : Nat}
theorem Kept5.grow (k : Kept5 CR CH He H r l m D hl ml e as ds ks N) (x0 : Ex H H') : Kept5 CR CH He H' r l m D hl ml e as ds ks N := by
  obtain ⟨⟨S, hs, B, he, lh, hP⟩, ke, em, eml, el, ehl⟩ := k
  exact ⟨⟨S, hs, B.ex x0, x0 _ _ he, lh, fun x hx => (hP x hx).keep B he (KE.ex x0)⟩, ke.trans (KE.ex x0), em, eml, el, ehl⟩
theorem Kept5.deed (k : Kept5 CR CH He H r l m D hl ml e as ds ks N) (B' : Both CR CH H' r l m D hl ml as ds ks S') (kk : KAll r m D ml as ds H H') : Kept5 CR CH He H' r l m D hl ml e as ds ks N := by
  obtain ⟨⟨S, hs, B, he, lh, hP⟩, ke, em, eml, el, ehl⟩ := k
  have he' : H' e = some (.lst hs) := by
    have aw := B.away_l (e := e + 1) he em eml (Nat.ne_of_lt (Nat.lt_succ_self e))
    exact kk _ _ he aw.r aw.m aw.as aw.D aw.ml aw.ds
  exact ⟨⟨S', hs, B', he', lh, fun x hx => (hP x hx).keep B he (KE.all kk)⟩, ke.trans (KE.all kk), em, eml, el, ehl⟩
theorem Kept5.mono (k : Kept5 CR CH He H r l m D hl ml e as ds ks N) : Kept5 CR CH He H r l m D hl ml e as ds ks (N + 1) := by
  obtain ⟨⟨S, hs, B, he, lh, hP⟩, ke, em, eml, el, ehl⟩ := k
  exact ⟨⟨S, hs, B, he, by omega, hP⟩, ke, em, eml, el, ehl⟩
/-- one pair more -/
theorem Kept5.more (k : Kept5 CR CH He H r l m D hl ml e as ds ks N) {hs : List V} (he : H e = some (.lst hs)) {t : Addr} (P : PairM H m ml e (.ref t)) : Kept5 CR CH He (upd H e (.lst (hs ++ [.ref t]))) r l m D hl ml e as ds ks (N + 1) := by
  obtain ⟨⟨S, hs', B, he2, lh, hP⟩, ke, em, eml, el, ehl⟩ := k
  have eq : hs' = hs := by
    rw [he2] at he
    injection (Option.some.inj he)
  subst eq
  have kb : But e H (upd H e (.lst (hs' ++ [.ref t]))) := But.upd
  refine ⟨⟨S, _, ⟨B.at_.other he el em kb, B.rg, B.ho.other he ehl eml kb, B.lml, B.mml, B.hlm⟩, upd_same, by simpa using lh, fun x hx => ?_⟩, ke.trans (KE.held kb), em, eml, el, ehl⟩
  rcases List.mem_append.mp hx with hx | hx
  · exact (hP x hx).keep B he (KE.held kb)
  · rw [List.mem_singleton.mp hx]
    exact P.keep B he (KE.held kb)
theorem RingAt.cells {p' l' m' : Addr} {as' : List Addr} (R : RingAt CR CH H p' l' m' as' S) (same : ∀ b o, (b = p' ∨ b = l' ∨ b = m' ∨ b ∈ as') → H b = some o → H' b = some o) (tup : ∀ b ts, H b = some (.tup ts) → H' b = some (.tup ts)) : RingAt CR CH H' p' l' m' as' S where
  ob := R.ob.imp fun _ h => same _ _ (.inl rfl) h
  hl := same _ _ (.inr (.inl rfl)) R.hl
  pl := R.pl.imp fun _ h => ⟨same _ _ (.inr (.inr (.inl rfl))) h.1, h.2.imp tup⟩
  nd := R.nd
  len := R.len
  lm := R.lm
  pos := R.pos
  top := R.top
  pla := R.pla
  hn := fun i a h => (R.hn i a h).imp fun _ q => same _ _ (.inr (.inr (.inr (List.mem_of_getElem? h)))) q
  np := R.np
end
section
variable {P : Program} {w : World} {K : PySem.W.Frag} {mg : Str → Option Value} {base : Heap} {A : Adr}
theorem lc_LF {K : PySem.W.Frag} {σ : St} {H : Hp} {te : TE} {tt : TT} {Q : VK} {a : Addr} {xs : List V} {j : Nat} (e : SqL K H a xs) (hz : xs.length ≤ 40000) (f : Nat → Bool) (ys : Nat → V) (ht : ∀ (i : Nat) (x : V) H1, Ex H H1 → xs[i]? = some x → EvT tt ((σ.set j none).set j (some x)) H1 (f i))
    (he : ∀ (i : Nat) (x : V) H1, Ex H H1 → xs[i]? = some x → Ev te ((σ.set j none).set j (some x)) H1 (ys i)) (k : ∀ p H1, H p = none → Ex H H1 → H1 p = some (.lst (given xs.length f ys)) → Q (.ref p) H1) : rLcL K (gName j) tt te [j] σ Q (.ref a) H := by
  have z := el_lcL (K := K) (σ := σ) (H := H) (te := te) (t := tt) (a := a) (xs := xs) (tl := tC (.ref a)) (j := j) (vs := [j]) f ys ev_c e hz (wipe_one σ j) ht (fun i x H1 e1 hi _ => he i x H1 e1 hi)
  exact z H (Ex.refl H) Q k
theorem rd_pairs {tk tv : TE} {r : List (TE × TE)} {σ : St} {H : Hp} {Q : List (V × V) → Hp → Prop} (h : tk σ H fun x H1 => tv σ H1 fun y H2 => tPairs r σ H2 fun ps H3 => Q ((x, y) :: ps) H3) : tPairs ((tk, tv) :: r) σ H Q := h
theorem rd_pairs0 {σ : St} {H : Hp} {Q : List (V × V) → Hp → Prop} (h : Q [] H) : tPairs [] σ H Q := h
/-- a new thing for each item -/
theorem lc_New {K : PySem.W.Frag} {σ : St} {H : Hp} {te : TE} {Q : VK} {a : Addr} {xs : List V} {j : Nat} (e : SqL K H a xs) (hz : xs.length ≤ 40000) (f : Nat → HO)
    (he : ∀ (i : Nat) (x : V) H1, Ex H H1 → xs[i]? = some x → ∀ Q1 : VK, (∀ d, H1 d = none → Q1 (.ref d) (upd H1 d (f i))) → te ((σ.set j none).set j (some x)) H1 Q1)
    (k : ∀ (p : Addr) (ds : List Addr) H1, H p = none → Ex H H1 → H1 p = some (.lst (ds.map V.ref)) → ds.length = xs.length → ds.Nodup → (∀ d, d ∈ ds → H d = none) → (∀ i d, ds[i]? = some d → H1 d = some (f i)) → Q (.ref p) H1) : rLcL K (gName j) tYes te [j] σ Q (.ref a) H := by
  refine ⟨a, rfl, ⟨xs, e⟩, fun D hD => ?_⟩
  refine lc_list (K := K) (a := a) (xs := xs) (g := gName j) (tt := tYes) (Qd := fun H => Q (.ref D) H) (fun i H' => Ex H H' ∧ ∃ ds : List Addr, H' D = some (.lst (ds.map V.ref)) ∧ ds.length = i ∧ ds.Nodup ∧ (∀ d, d ∈ ds → H d = none ∧ d ≠ D) ∧ ∀ i d, ds[i]? = some d → H' d = some (f i))
    ⟨Ex.new hD, [], upd_same, rfl, .nil, fun d hd => (by cases hd), fun i d hd => (by cases hd)⟩ (fun i H' _ z => ex_l z.1 e) ?_ ?_
  · rintro i x H' hi ⟨e1, ds, hw, ln, nd, fr, at_⟩
    refine ⟨wipe_one σ j x, ?_⟩
    refine rd_yes ?_
    refine he i x H' e1 hi _ fun d hd => ?_
    have hlt : i < xs.length := (List.getElem?_eq_some_iff.mp hi).1
    have e2 := Ex.new (o := f i) hd
    have dD : d ≠ D := fun z => by rw [z, hw] at hd; cases hd
    refine ⟨ds.map V.ref, e2 _ _ hw, sz_lt (by rw [List.length_map]; omega), Ex.mut (e1.trans e2) hD, ds ++ [d], ?_, by rw [List.length_append, ln]; rfl, ?_, fun c hc => ?_, fun t c hc => ?_⟩
    · rw [List.map_append]; exact upd_same
    · rw [List.nodup_append]
      refine ⟨nd, by simp, fun c hc b hb z => ?_⟩
      rw [List.mem_singleton.mp hb] at z
      obtain ⟨t, ht⟩ := List.mem_iff_getElem?.mp hc
      have := at_ t c ht
      rw [z, hd] at this
      cases this
    · rcases List.mem_append.mp hc with h | h
      · exact fr c h
      · rw [List.mem_singleton.mp h]
        exact ⟨ex_none e1 hd, dD⟩
    · have cD : c ≠ D := by
        rcases List.mem_append.mp (List.mem_of_getElem? hc) with h | h
        · exact (fr c h).2
        · rw [List.mem_singleton.mp h]; exact dD
      rw [upd_ne cD]
      rcases Nat.lt_or_ge t ds.length with q | q
      · rw [List.getElem?_append_left q] at hc
        exact e2 _ _ (at_ t c hc)
      · rw [List.getElem?_append_right q] at hc
        have q0 : t - ds.length = 0 := by
          have := (List.getElem?_eq_some_iff.mp hc).1
          simp only [List.length_singleton] at this
          omega
        rw [q0] at hc
        have ti : t = i := by omega
        rw [ti, ← Option.some.inj hc]
        exact upd_same
  · rintro H' ⟨e1, ds, hw, ln, nd, fr, at_⟩
    exact k D ds H' hD e1 hw ln nd (fun d hd => (fr d hd).1) at_
/-! ### the law -/
def spLaw (K : PySem.W.Frag) : Sp := fun vs H Q _ => ∃ (a : Addr) (ns : List Int), vs = [.ref a] ∧ SqL K H a (ns.map V.int) ∧ ns.length ≤ 63 ∧ ∀ H', Q (.bl true) H'
theorem sc_law : FnScope ["_law_script", "_law_numbers_here", "_law_ring", "_law_other", "_law_house", "_law_held", "_law_many", "_law_k", "_law_cell", "_law_turn", "_law_places", "_law_last", "_law_number", "_law_j", "_law_pair"] ["_law_script"] (defScope s_law) := ⟨rfl, rfl, rfl, by decide +kernel, rfl, by decide +kernel, by decide +kernel⟩
theorem ok_law (T : Txt K mg A) (G : RingOk P w K mg base A)
    (G__law_cell_at : FnOk P w K mg base CX0 1 A.f__law_cell_at A.fd__law_cell_at ["_law_script", "_law_k"] (spCell K))
    (G__law_numbers : FnOk P w K mg base CX0 2 A.f__law_numbers A.fd__law_numbers ["_law_script"] (spNums K))
    (G__law_start : FnOk P w K mg base CX0 1 A.f__law_start A.fd__law_start ["_law_number"] spStart)
    (G__law_step : FnOk P w K mg base CX0 5 A.f__law_step A.fd__law_step ["_law_ring", "_law_house", "_law_cell"] (spLStep A.c_Ring A.c_Hand))
    (G__law_strange : FnOk P w K mg base CX0 5 A.f__law_strange A.fd__law_strange ["_law_ring", "_law_house", "_law_many"] (spStrange A.c_Ring A.c_Hand))
    (G__law_looked : FnOk P w K mg base CX0 6 A.f__law_looked A.fd__law_looked ["_law_ring", "_law_house", "_law_turn", "_law_places"] (spLooked K A.c_Ring A.c_Hand))
    (G__law_all : FnOk P w K mg base CX0 7 A.f__law_all A.fd__law_all ["_law_ring", "_law_house", "_law_turn"] (spAll5 A.c_Ring A.c_Hand))
    (G__law_rests : FnOk P w K mg base CX0 6 A.f__law_rests A.fd__law_rests ["_law_ring", "_law_house"] (spRests A.c_Ring A.c_Hand)) : FnOk P w K mg base CX0 8 A.f_law A.fd_law ["_law_script"] (spLaw K) := by
  have G_Ring___init__ := G.new
  have G_Ring_wake := G.wake
  have G_Ring_mails := G.mails
  have G_Ring_sent := G.sent
  refine T.fun_law.ok sc_law (fun vs H Q E h => ?_) (fun cdv Ar outer s H vs Q E hr h => ?_)
  · obtain ⟨a, ns, rfl, _⟩ := h
    rfl
  · obtain ⟨a, ns, rfl, hS, hlen, q⟩ := h
    refine ⟨_, (pss_cons (ps_set (i := 1) sc_law.nd rfl (Or.inl rfl) (pe_call G__law_numbers (hr.mono (by decide)) rfl T.mg__law_numbers T.fun__law_numbers.kp T.b__law_numbers .nil pass0 (pa_cons (pv 0) pa_nil)))
      (pss_cons (ps_set (i := 2) sc_law.nd rfl (Or.inl rfl) (pe_make T.mk_Ring G_Ring___init__ (hr.mono (by decide)) rfl T.mg_Ring T.b_Ring___init__ .nil passL (pa_cons (pe_callTy call_listN (by rfl) T.no_list (by decide +kernel) (pa_cons (pv 1) pa_nil)) pa_nil)))
      (pss_cons (ps_set (i := 3) sc_law.nd rfl (Or.inl rfl) (pe_make T.mk_Ring G_Ring___init__ (hr.mono (by decide)) rfl T.mg_Ring T.b_Ring___init__ .nil passL (pa_cons (pe_lst (pa_cons pe_int (pa_cons pe_int pa_nil))) pa_nil)))
      (pss_cons (ps_expr (pe_meth (pv 3) T.cl_Ring T.mt_Ring_wake G_Ring_wake (hr.mono (by decide)) T.b_Ring_wake .nil passL (pa_cons pe_int pa_nil)))
      (pss_cons (ps_set (i := 4) sc_law.nd rfl (Or.inl rfl) (pe_disp (pps_cons pe_str (pe_lc (own := [("_law_number", 12)]) (g := gName 12) (by rfl) sc_law.nd (pi_list (pv 1)) (blkOk_by (own := [("_law_number", 12)]) (N := ["_law_script", "_law_numbers_here", "_law_ring", "_law_other", "_law_house", "_law_held", "_law_many", "_law_k", "_law_cell", "_law_turn", "_law_places", "_law_last", "_law_number", "_law_j", "_law_pair"]) (sc := defScope s_law) (by decide +kernel)) (fun _ _ _ _ _ => pg_name (i := 12) sc_law.nd rfl (Or.inl rfl)) (fun _ _ _ _ _ => pts_nil) (fun _ _ _ _ _ => by exact (pe_call G__law_start (hr.mono (by decide)) rfl T.mg__law_start T.fun__law_start.kp T.b__law_start .nil pass0 (pa_cons (pv 12) pa_nil)))) (pps_cons pe_str (pe_lst pa_nil) (pps_cons pe_str pe_int pps_nil))) (by rfl) (by rfl) (fun z => by cases z) (by decide)))
      (pss_cons (ps_set (i := 5) sc_law.nd rfl (Or.inl rfl) (pe_lst pa_nil))
      (pss_cons (ps_set (i := 6) sc_law.nd rfl (Or.inr rfl) (pe_callB call_lenN (by rfl) T.no_len (by decide +kernel) (pa_cons (pv 1) pa_nil)))
      (pss_cons (ps_for PassesOwn.never rfl (pi_enum (by rfl) T.no_enumerate (pa_cons (pe_slice sl_list (pv 0) (po_some pe_int) po_none) pa_nil)) (pg_tup (by rfl) (pgs_cons (pg_name (i := 7) sc_law.nd rfl (Or.inl rfl)) (pgs_cons (pg_name (i := 8) sc_law.nd rfl (Or.inl rfl)) pgs_nil))) (pss_cons (ps_set (i := 9) sc_law.nd rfl (Or.inr rfl) (pe_op op_fdiv (pe_op op_mod (pe_op op_mul (pe_op op_add (pv 8) (pe_op op_mul pe_int (pv 7))) pe_int) pe_int) pe_int))
      (pss_cons (ps_setLc (i := 10) (own := [("_law_j", 13)]) (g := gName 13) (by rfl) sc_law.nd rfl rfl (sw_true rfl rfl rfl (by decide +kernel)) (pi_range1 (by rfl) T.no_range (pa_cons (pe_callB (call_minN rfl) (by rfl) T.no_min (by decide +kernel) (pa_cons (pv 6) (pa_cons pe_int pa_nil))) pa_nil)) (blkOk_by (own := [("_law_j", 13)]) (N := ["_law_script", "_law_numbers_here", "_law_ring", "_law_other", "_law_house", "_law_held", "_law_many", "_law_k", "_law_cell", "_law_turn", "_law_places", "_law_last", "_law_number", "_law_j", "_law_pair"]) (sc := defScope s_law) (by decide +kernel)) (fun _ _ _ _ _ => pg_name (i := 13) sc_law.nd rfl (Or.inl rfl)) (fun _ _ _ _ _ => pts_nil) (fun _ _ _ _ _ => by exact (pe_op op_mod (pe_op op_add (pe_op op_fdiv (pv 9) pe_int) (pe_op op_mul (pv 13) (pe_op op_add pe_int (pe_op op_mod (pe_op op_fdiv (pv 9) pe_int) pe_int)))) (pv 6))))
      (pss_cons (ps_if (pt_not (pt_val (pe_call G__law_step (hr.mono (by decide)) rfl T.mg__law_step T.fun__law_step.kp T.b__law_step .nil pass0 (pa_cons (pv 2) (pa_cons (pv 4) (pa_cons (pv 8) pa_nil)))))) (pss_one (ps_ret pe_bl)) pss_nil)
      (pss_cons (ps_if (PW.pt (pw_and (pt_cmpR op_eq (pe_op op_mod (pe_op op_fdiv (pv 8) pe_int) pe_int) pe_int (nomark _)) (pw_and1 (pt_not (pt_val (pe_call G__law_strange (hr.mono (by decide)) rfl T.mg__law_strange T.fun__law_strange.kp T.b__law_strange .nil pass0 (pa_cons (pv 2) (pa_cons (pv 4) (pa_cons (pv 6) pa_nil))))))))) (pss_one (ps_ret pe_bl)) pss_nil)
      (pss_cons (ps_if (pt_not (pt_val (pe_call G__law_looked (hr.mono (by decide)) rfl T.mg__law_looked T.fun__law_looked.kp T.b__law_looked .nil pass0 (pa_cons (pv 2) (pa_cons (pv 4) (pa_cons (pv 9) (pa_cons (pv 10) pa_nil))))))) (pss_one (ps_ret pe_bl)) pss_nil)
      (pss_one (ps_if (pt_cmpR op_eq (pe_op op_mod (pe_op op_fdiv (pv 9) pe_int) pe_int) pe_int (nomark _)) (pss_cons (ps_expr (pe_bm PySem.F.plainAttrs_list PySem.F.slot_list_append PySem.F.type_list_append mt_append (pv 5) (pa_cons (pe_tup (pa_cons (pe_meth0 (pv 2) T.cl_Ring T.mt_Ring_mails G_Ring_mails (hr.mono (by decide)) T.b_Ring_mails .nil pass0) (pa_cons (pe_callTy call_listN (by rfl) T.no_list (by decide +kernel) (pa_cons (pe_dget (hu_of hr) (pv 4) pe_str (fun _ _ => rfl)) pa_nil)) pa_nil))) pa_nil)))
      (pss_one (ps_expr (pe_bm0 PySem.F.plainAttrs_list PySem.F.slot_list_clear PySem.F.type_list_clear mt_clear (pe_meth0 (pv 2) T.cl_Ring T.mt_Ring_mails G_Ring_mails (hr.mono (by decide)) T.b_Ring_mails .nil pass0))))) pss_nil))))))))
      (pss_cons (ps_set (i := 11) sc_law.nd rfl (Or.inl rfl) (pe_op op_fdiv (pe_call G__law_cell_at (hr.mono (by decide)) rfl T.mg__law_cell_at T.fun__law_cell_at.kp T.b__law_cell_at .nil pass0 (pa_cons (pv 0) (pa_cons pe_int pa_nil))) pe_int))
      (pss_cons (ps_if (pt_not (pt_val (pe_call G__law_all (hr.mono (by decide)) rfl T.mg__law_all T.fun__law_all.kp T.b__law_all .nil pass0 (pa_cons (pv 2) (pa_cons (pv 4) (pa_cons (pv 11) pa_nil)))))) (pss_one (ps_ret pe_bl)) pss_nil)
      (pss_cons (ps_if (PW.pt (pw_and (pt_cmpR op_eq (pe_op op_mod (pe_op op_fdiv (pe_call G__law_cell_at (hr.mono (by decide)) rfl T.mg__law_cell_at T.fun__law_cell_at.kp T.b__law_cell_at .nil pass0 (pa_cons (pv 0) (pa_cons pe_int pa_nil))) pe_int) pe_int) pe_int (nomark _)) (pw_and1 (PW.pt (pw_or (pt_not (pt_val (pe_call G__law_rests (hr.mono (by decide)) rfl T.mg__law_rests T.fun__law_rests.kp T.b__law_rests .nil pass0 (pa_cons (pv 2) (pa_cons (pv 4) pa_nil))))) (pw_or1 (pt_not (pt_val (pe_call G__law_all (hr.mono (by decide)) rfl T.mg__law_all T.fun__law_all.kp T.b__law_all .nil pass0 (pa_cons (pv 2) (pa_cons (pv 4) (pa_cons (pe_op op_fdiv (pv 11) pe_int) pa_nil)))))))))))) (pss_one (ps_ret pe_bl)) pss_nil)
      (pss_cons (ps_if (pt_cmpR (op_neD hr.units) (pe_lc (own := [("_law_pair", 14)]) (g := gName 14) (by rfl) sc_law.nd (pi_list (pv 5)) (blkOk_by (own := [("_law_pair", 14)]) (N := ["_law_script", "_law_numbers_here", "_law_ring", "_law_other", "_law_house", "_law_held", "_law_many", "_law_k", "_law_cell", "_law_turn", "_law_places", "_law_last", "_law_number", "_law_j", "_law_pair"]) (sc := defScope s_law) (by decide +kernel)) (fun _ _ _ _ _ => pg_name (i := 14) sc_law.nd rfl (Or.inl rfl)) (fun _ _ _ _ _ => (pts_one (pt_cmpR (op_neDK (K := K) rfl hr.units) (pe_ix (ix_tupK (K := K) rfl) (pv 14) pe_int (fun _ _ => rfl)) (pe_ix (ix_tupK (K := K) rfl) (pv 14) pe_int (fun _ _ => rfl)) (nomark _)))) (fun _ _ _ _ _ => by exact (pv 14))) (pe_lst pa_nil) (nomark _)) (pss_one (ps_ret pe_bl)) pss_nil)
      (pss_one (ps_ret (pe_and (pe_cmpR (op_eqD hr.units) (pe_meth0 (pv 3) T.cl_Ring T.mt_Ring_mails G_Ring_mails (hr.mono (by decide)) T.b_Ring_mails .nil pass0) (pe_lst (pa_cons (pe_tup (pa_cons pe_int (pa_cons pe_int (pa_cons pe_str (pa_cons pe_int (pa_cons pe_int (pa_cons pe_int pa_nil))))))) (pa_cons (pe_tup (pa_cons pe_int (pa_cons (pe_un un_neg pe_int) (pa_cons pe_str (pa_cons pe_int (pa_cons pe_int (pa_cons pe_int pa_nil))))))) pa_nil))) (nomark _)) (pe_one (pe_cmpR op_eq (pe_meth0 (pv 3) T.cl_Ring T.mt_Ring_sent G_Ring_sent (hr.mono (by decide)) T.b_Ring_sent .nil pass0) pe_int (nomark _)))))))))))))))))), ?_⟩
    walk_at "rd"
    refine ⟨a, ns, rfl, hS, fun H1 g ks hg e1 hg1 N => ?_⟩
    walk_at "rd"
    refine rd_listL (SqL.of hg1) fun f hf => ?_
    walk_at "rd"
    have e2 := e1.trans (Ex.new (o := .lst (ks.map V.int)) hf)
    have hf2 : upd H1 f (.lst (ks.map V.int)) f = some (.lst (ks.map V.int)) := upd_same
    have hg2 := Ex.new (o := .lst (ks.map V.int)) hf _ _ hg1
    generalize upd H1 f (.lst (ks.map V.int)) = H2 at e2 hf2 hg2 ⊢
    intro r dr nr ndr ner
    have e3 := ex_two (H := H2) (o1 := .own r) (o2 := .ins A.c_Ring dr []) nr ndr
    refine ⟨r, dr, .ref f, rfl, upd_same, .inl ⟨f, ks, rfl, e3 _ _ hf2, N.one, N.most, N.nd, N.nn, fun H3 l m as R3 nl nm nas b3 => ⟨rfl, ?_⟩⟩⟩
    have e4 := ex_but e3 nr b3
    have hS3 := ex_l (e2.trans e4) hS
    have hg3 := e4 _ _ hg2
    have n64 := N.most
    have n1 := N.one
    have gm : g ≠ m := fun z => by
      have := e3 _ _ hg2
      rw [z, nm] at this; cases this
    have aw1 : ∀ b o, H b = some o → b ≠ r ∧ b ≠ m ∧ ¬ b ∈ as := fun b o h => ⟨ne_of_none (e2 _ _ h) nr, ne_of_none (e2 _ _ h) (ex_none e3 nm), fun z => (by
      have := ex_none e3 (nas b z)
      rw [e2 _ _ h] at this; cases this)⟩
    have eH3 := e2.trans e4
    clear e1 hg1 hf hf2 b3 e3 e2 hg2 e4 nl nm nas
    clear nr ndr ner
    -- the other ring
    walk_at "rd"
    refine ⟨by show 2 ≤ sizeLine; decide, fun f2 nf2 => ?_⟩
    have x5 := Ex.new (o := .lst [V.int 3, V.int 5]) nf2
    have hf5 : upd H3 f2 (.lst [V.int 3, V.int 5]) f2 = some (.lst ([(3 : Int), 5].map V.int)) := upd_same
    have R5 := R3.ex x5
    have hS5 := ex_l x5 hS3
    have hg5 := x5 _ _ hg3
    have eH5 := eH3.trans x5
    generalize upd H3 f2 (.lst [V.int 3, V.int 5]) = H5 at R5 hS5 hg5 hf5 eH5 ⊢
    walk_at "rd"
    intro r2 dr2 nr2 ndr2 ner2
    have e6 := ex_two (H := H5) (o1 := .own r2) (o2 := .ins A.c_Ring dr2 []) nr2 ndr2
    refine ⟨r2, dr2, .ref f2, rfl, upd_same, .inl ⟨f2, [3, 5], rfl, e6 _ _ hf5, by decide, by decide, by decide, by decide, fun H6 l2 m2 as2 R6 nl2 nm2 nas2 b6 => ⟨rfl, ?_⟩⟩⟩
    have e56 := ex_but e6 nr2 b6
    have M2 := Made.new nr2 e6 nm2 nas2
    have nl2' := ex_none e6 nl2
    walk_at "rd"
    obtain ⟨dx6, hr6⟩ := R6.ob
    refine rd_recv hr6 rfl ?_
    walk_at "rd"
    refine ⟨r2, l2, m2, as2, Rg.new [3, 5], _, rfl, R6, knd_int _, .inl ⟨1, rfl, Nat.zero_le _, fun H7 R7 k7 => ?_⟩⟩
    have e57 := M2.keep e56 k7
    have R7a := R5.ex e57
    have hS7 := ex_l e57 hS5
    have hg7 := e57 _ _ hg5
    have eH7 := eH5.trans e57
    -- away from the first
    have far2 : ∀ b, (b = r2 ∨ b = l2 ∨ b = m2 ∨ b ∈ as2) → H5 b = none := fun b hb => by
      rcases hb with rfl | rfl | rfl | hb
      · exact nr2
      · exact nl2'
      · exact M2.m
      · exact M2.as b hb
    have apart : ∀ b, (b = r2 ∨ b = l2 ∨ b = m2 ∨ b ∈ as2) → b ≠ r ∧ b ≠ m ∧ ¬ b ∈ as := fun b hb => by
      have z := far2 b hb
      refine ⟨fun y => ?_, fun y => ?_, fun y => ?_⟩
      · obtain ⟨dx, h⟩ := R5.ob
        rw [← y, z] at h; cases h
      · obtain ⟨ys, h, _⟩ := R5.pl
        rw [← y, z] at h; cases h
      · obtain ⟨dx, i, h⟩ := R5.mem y
        rw [z] at h; cases h
    clear e6 hf5 b6 nr2 ndr2 ner2 nl2 nm2 nas2 R6 e56 R5 hS5 hg5 e57 hr6 M2 nl2' k7 far2
    clear hg3 R3 x5 nf2
    -- the house
    walk_at "rd"
    intro D nD
    have x8 := Ex.new (o := .dK []) nD
    have hD8 : upd H7 D (.dK []) D = some (.dK []) := upd_same
    have hg8 := x8 _ _ hg7
    generalize upd H7 D (.dK []) = H8 at x8 hD8 hg8 ⊢
    refine rd_pairs ?_
    walk_at "rd"
    refine lc_New (SqL.of hg8) (by rw [List.length_map]; omega) (fun i => .dK (dS (Hd.new (ks.getD i 0)) [])) (fun i x H9 e9 hx Q1 q1 => ?_) (fun hl ds H9 nhl e9 hhl lds nds fds atd => ?_)
    · rw [List.getElem?_map] at hx
      obtain ⟨z, hz, rfl⟩ := Option.map_eq_some_iff.mp hx
      have ez : ks.getD i 0 = z := by rw [List.getD_eq_getElem?_getD, hz]; rfl
      walk_at "rd"
      refine ⟨z, rfl, fun d hd => ?_⟩
      rw [← ez]
      exact q1 d hd
    refine rd_pairs ?_
    walk_at "rd"
    refine ⟨Nat.zero_le _, fun ml nml => ?_⟩
    have xA := Ex.new (o := .lst []) nml
    have hmlA : upd H9 ml (.lst []) ml = some (.lst []) := upd_same
    have e9A := e9.trans xA
    have hhlA := xA _ _ hhl
    have atdA : ∀ i d, ds[i]? = some d → upd H9 ml (.lst []) d = some (.dK (dS (Hd.new (ks.getD i 0)) [])) := fun i d h => xA _ _ (atd i d h)
    have nml8 := ex_none e9 nml
    have hlml : hl ≠ ml := fun z => by rw [z, nml] at hhl; cases hhl
    clear hhl atd xA e9
    generalize upd H9 ml (.lst []) = HA at hmlA e9A hhlA atdA ⊢
    refine rd_pairs ?_
    walk_at "rd"
    refine rd_pairs0 ?_
    refine ⟨e9A _ _ hD8, hD hl ml 0, rfl, Nat.le_of_ble_eq_true rfl, ?_⟩
    rw [show mergeK [] (hD hl ml 0) = hD hl ml 0 from rfl]
    have nDhl : hl ≠ D := fun z => by rw [z, hD8] at nhl; cases nhl
    have nDml : ml ≠ D := fun z => by rw [z, hD8] at nml8; cases nml8
    have nDds : ¬ D ∈ ds := fun z => by have := fds D z; rw [hD8] at this; cases this
    have W0 : HouseAt (upd HA D (.dK (hD hl ml 0))) D hl ml ds (Rg.new ks) := {
      ob := upd_same
      hs := by rw [upd_ne nDhl]; exact hhlA
      pl := ⟨[], by rw [upd_ne nDml]; exact hmlA, .nil⟩
      nd := nds
      len := by rw [lds, List.length_map]; unfold Rg.new; simp
      lm := hlml
      hn := fun i d h => by
        rw [upd_ne fun z => nDds (by rw [← z]; exact List.mem_of_getElem? h)]
        have il : i < ks.length := by
          have := (List.getElem?_eq_some_iff.mp h).1
          rw [lds, List.length_map] at this
          exact this
        have eh : (Rg.new ks).h i = Hd.new (ks.getD i 0) := by
          show (ks.map Hd.new).getD i _ = _
          rw [List.getD_eq_getElem?_getD, List.getElem?_map, List.getD_eq_getElem?_getD, List.getElem?_eq_getElem il]
          rfl
        rw [eh]
        exact atdA i d h
      np := nDds }
    have e7B : Ex H7 (upd HA D (.dK (hD hl ml 0))) := ex_upd nD (x8.trans e9A)
    generalize upd HA D (.dK (hD hl ml 0)) = HB at W0 e7B ⊢
    clear hmlA e9A hhlA atdA hD8 hg8
    have nhl7 := ex_none x8 nhl
    have nml7 := ex_none x8 nml8
    have fds7 : ∀ d, d ∈ ds → H7 d = none := fun d h => ex_none x8 (fds d h)
    have B0 : Both A.c_Ring A.c_Hand HB r l m D hl ml as ds ks (Rg.new ks) := ⟨R7a.ex e7B, RG.new N, W0, fun z => (by have := R7a.hl; rw [z, nml7] at this; cases this), fun z => (by obtain ⟨ys, h, _⟩ := R7a.pl; rw [z, nml7] at h; cases h), fun z => (by obtain ⟨ys, h, _⟩ := R7a.pl; rw [← z, nhl7] at h; cases h)⟩
    walk_at "rd"
    refine ⟨Nat.zero_le _, fun e ne => ?_⟩
    have xC := Ex.new (o := .lst []) ne
    have heC : upd HB e (.lst []) e = some (.lst ([] : List V)) := upd_same
    have BC := B0.ex xC
    have em : e ≠ m := fun z => (by obtain ⟨ys, h, _⟩ := B0.at_.pl; rw [z, h] at ne; cases ne)
    have eml : e ≠ ml := fun z => (by obtain ⟨ys, h, _⟩ := B0.ho.pl; rw [z, h] at ne; cases ne)
    have el : e ≠ l := fun z => (by have h := B0.at_.hl; rw [z, h] at ne; cases ne)
    have ehl : e ≠ hl := fun z => (by have h := B0.ho.hs; rw [z, h] at ne; cases ne)
    have e7C := e7B.trans xC
    have ne7 := ex_none e7B ne
    generalize upd HB e (.lst []) = HC at heC BC e7C ⊢
    clear xC B0 e7B W0
    walk_at "rd"
    refine rd_len (SqL.of (e7C _ _ hg7)) ?_
    rw [List.length_map]
    walk_at "rd"
    refine rd_slL (ex_l e7C hS7) fun p np => ?_
    have ec : cutV (ns.map V.int) (some 8) none = (ns.drop 8).map V.int := by
      rw [List.map_drop]
      exact cut_from _ 8
    rw [ec]
    have xE := Ex.new (o := .lst ((ns.drop 8).map V.int)) np
    have hpE : upd HC p (.lst ((ns.drop 8).map V.int)) p = some (.lst ((ns.drop 8).map V.int)) := upd_same
    have BE := BC.ex xE
    have heE := xE _ _ heC
    have pm : p ≠ m := fun z => (by obtain ⟨ys, h, _⟩ := BC.at_.pl; rw [z, h] at np; cases np)
    have pml : p ≠ ml := fun z => (by obtain ⟨ys, h, _⟩ := BC.ho.pl; rw [z, h] at np; cases np)
    have pe : p ≠ e := fun z => (by rw [z, heC] at np; cases np)
    have e7E := e7C.trans xE
    generalize upd HC p (.lst ((ns.drop 8).map V.int)) = HE at hpE BE heE e7E ⊢
    clear xE heC BC e7C
    -- the other ring stays as it is
    have RE := R7.ex e7E
    have in7 : ∀ b, (b = r2 ∨ b = l2 ∨ b = m2 ∨ b ∈ as2) → ∃ o, H7 b = some o := fun b hb => by
      rcases hb with rfl | rfl | rfl | hb
      · obtain ⟨dx, h⟩ := R7.ob
        exact ⟨_, h⟩
      · exact ⟨_, R7.hl⟩
      · obtain ⟨ys, h, _⟩ := R7.pl
        exact ⟨_, h⟩
      · obtain ⟨dx, i, h⟩ := R7.mem hb
        exact ⟨_, h⟩
    have aw2 : ∀ b, (b = r2 ∨ b = l2 ∨ b = m2 ∨ b ∈ as2) → Away r m D ml e as ds b := fun b hb => by
      obtain ⟨o, ho⟩ := in7 b hb
      obtain ⟨a1, a2, a3⟩ := apart b hb
      exact ⟨a1, a2, a3, ne_of_none ho nD, ne_of_none ho nml7, fun z => (by rw [fds7 b z] at ho; cases ho), ne_of_none ho ne7⟩
    have stay2 : ∀ H', KE r m D ml e as ds HE H' → RingAt A.c_Ring A.c_Hand H' r2 l2 m2 as2 ((Rg.new [3, 5]).wake 1) := fun H' k => RE.cells (fun b o hb h => k b o h (aw2 b hb)) fun b ts h => k _ _ h (BE.away_t heE h)
    have staylist : ∀ {b : Addr} {xs : List V} H', KE r m D ml e as ds HE H' → HE b = some (.lst xs) → b ≠ m → b ≠ ml → b ≠ e → H' b = some (.lst xs) := fun H' k h n1 n2 n3 => k _ _ h (BE.away_l h n1 n2 n3)
    have kE : Kept5 A.c_Ring A.c_Hand HE HE r l m D hl ml e as ds ks 0 := ⟨⟨_, [], BE, heE, Nat.le_refl _, fun x hx => (by cases hx)⟩, KE.refl, em, eml, el, ehl⟩
    have npos : (0 : Int) < ((ks.length : Nat) : Int) := by omega
    have eHE := eH7.trans e7E
    have awH : ∀ b o, H b = some o → Away r m D ml e as ds b := fun b o h => by
      obtain ⟨a1, a2, a3⟩ := aw1 b o h
      have ho := eH7 _ _ h
      exact ⟨a1, a2, a3, ne_of_none ho nD, ne_of_none ho nml7, fun z => (by rw [fds7 b z] at ho; cases ho), ne_of_none ho ne7⟩
    have stayS : ∀ H', KE r m D ml e as ds HE H' → SqL K H' a (ns.map V.int) := fun H' k => ex_l (fun b o h => k b o (eHE b o h) (awH b o h)) hS
    clear eHE awH aw1 eH7 eH5 eH3 hS3 hS7
    clear in7 RE R7 R7a hg7 fds7 nml7 nhl7 nD nDds nDml nDhl apart fds nml8 nhl lds nds hlml ne7 e7E
    walk_at "rd"
    refine for_E (SqL.of hpE) (fun i σ H' => Kept5 A.c_Ring A.c_Hand HE H' r l m D hl ml e as ds ks i ∧ ∃ v7 v8 v9 v10 : Option V, σ = [some (.ref a), some (.ref g), some (.ref r), some (.ref r2), some (.ref D), some (.ref e), some (.int ((ks.length : Nat) : Int)), v7, v8, v9, v10, none, none, none, none])
      ⟨kE, _, _, _, _, rfl⟩ (fun i σ H' _ z => SqL.of (staylist H' z.1.ke hpE pm pml pe)) ?_ ?_
    · rintro i x σ H' t hx ⟨k', v7, v8, v9, v10, rfl⟩ nt
      rw [List.getElem?_map] at hx
      obtain ⟨c, hc, rfl⟩ := Option.map_eq_some_iff.mp hx
      have i63 : i < 63 := by
        have := (List.getElem?_eq_some_iff.mp hc).1
        rw [List.length_drop] at this
        omega
      refine ⟨t, [.int ((i : Nat) : Int), .int c], rfl, SqT.of upd_same, rfl, ?_⟩
      refine ⟨_, _, rfl, ?_⟩
      refine ⟨_, _, rfl, ?_⟩
      refine ⟨rfl, ?_⟩
      have k1 := k'.grow (Ex.new (o := .tup [.int ((i : Nat) : Int), .int c]) nt)
      generalize upd H' t (.tup [.int ((i : Nat) : Int), .int c]) = H1 at k1 ⊢
      walk_at "rd"
      generalize (c + 7919 * ((i : Nat) : Int)) * 48271 % 2147483647 / 11 = tn
      obtain ⟨cn, hcn, hcn6⟩ : ∃ cn : Nat, (if (6 : Int) < ((ks.length : Nat) : Int) then (6 : Int) else ((ks.length : Nat) : Int)) = ((cn : Nat) : Int) ∧ cn ≤ 6 := by
        split
        · exact ⟨6, rfl, Nat.le_refl _⟩
        · exact ⟨ks.length, rfl, by omega⟩
      rw [hcn]
      refine lc_R1 (by omega) (fun j => .int ((tn / 72 + ((j : Nat) : Int) * (1 + tn / 7 % 5)) % ((ks.length : Nat) : Int))) (fun j H3 e3 hj => fun H4 e4 Q3 q3 => ?_) (fun pl H2 npl e2 hpl => ?_)
      · walk_at "rd"
        have cm : CMul ((j : Nat) : Int) (1 + tn / 7 % 5) := Or.inl ⟨by omega, by omega⟩
        refine rd_I cm ?_
        walk_at "rd"
        refine rd_I npos ?_
        exact q3 H4 (Ex.refl H4)
      obtain ⟨ps, hps, hpl2⟩ : ∃ ps : List Nat, (∀ j, j ∈ ps → j < ks.length) ∧ H2 pl = some (.lst (ps.map fun j => V.int ((j : Nat) : Int))) := by
        refine ⟨(List.range cn).map fun j => ((tn / 72 + ((j : Nat) : Int) * (1 + tn / 7 % 5)) % ((ks.length : Nat) : Int)).toNat, fun j hj => ?_, ?_⟩
        · obtain ⟨t, _, rfl⟩ := List.mem_map.mp hj
          have z1 := Int.emod_nonneg (tn / 72 + ((t : Nat) : Int) * (1 + tn / 7 % 5)) (show ((ks.length : Nat) : Int) ≠ 0 by omega)
          have z2 := Int.emod_lt_of_pos (tn / 72 + ((t : Nat) : Int) * (1 + tn / 7 % 5)) npos
          omega
        · rw [hpl, List.map_map]
          refine congrArg (fun l => some (HO.lst l)) (List.map_congr_left fun t _ => ?_)
          show V.int _ = V.int _
          rw [Int.toNat_of_nonneg (Int.emod_nonneg _ (by omega))]
      have k2 := k1.grow e2
      have plm : pl ≠ m ∧ pl ≠ ml ∧ pl ≠ e := by
        obtain ⟨⟨S, hs, B, he, _, _⟩, _⟩ := k1
        refine ⟨fun z => ?_, fun z => ?_, fun z => ?_⟩
        · obtain ⟨ys, h, _⟩ := B.at_.pl
          rw [z, h] at npl; cases npl
        · obtain ⟨ys, h, _⟩ := B.ho.pl
          rw [z, h] at npl; cases npl
        · rw [z, he] at npl; cases npl
      clear hpl k1 k' e2 npl hcn
      walk_at "rd"
      obtain ⟨S2, hs2, B2, he2, lh2, hP2⟩ := k2.all
      refine ⟨r, l, m, D, hl, ml, as, ds, ks, S2, c, rfl, B2, fun H3 S3 B3 kk gg => ?_⟩
      have k3 := k2.deed B3 kk
      have aw := B2.away_l (e := e) hpl2 plm.1 plm.2.1 plm.2.2
      have hpl3 := kk _ _ hpl2 aw.r aw.m aw.as aw.D aw.ml aw.ds
      clear aw k2 B2 he2 hP2 kk hpl2
      refine rd_bl ?_
      refine iteNT ?_
      with_reducible refine rd_next ?_
      with_reducible refine rd_seq ?_
      refine if_mid (fun σ2 H4 => Ex H3 H4 ∧ σ2 = [some (.ref a), some (.ref g), some (.ref r), some (.ref r2), some (.ref D), some (.ref e), some (.int ((ks.length : Nat) : Int)), some (.int ((i : Nat) : Int)), some (.int c), some (.int tn), some (.ref pl), none, none, none, none]) (fun nx hn => ?_) ?_
      · walk_at "rd"
        refine rd_dec (fun _ => ?_) (fun _ => ?_)
        · walk_at "rd"
          refine ⟨r, l, m, D, hl, ml, as, ds, ks, S3, rfl, B3, fun H4 e4 => ?_⟩
          refine rd_bl ?_
          refine iteNT ?_
          walk_at "rd"
          exact hn _ _ ⟨e4, rfl⟩
        · walk_at "rd"
          exact hn _ _ ⟨Ex.refl _, rfl⟩
      rintro σ2 H4 ⟨e4, rfl⟩
      have k4 := k3.grow e4
      have hpl4 := e4 _ _ hpl3
      clear k3 hpl3 B3 e4
      walk_at "rd"
      obtain ⟨S4, hs4, B4, he4, lh4, hP4⟩ := k4.all
      refine ⟨r, l, m, D, hl, ml, pl, as, ds, ks, S4, ps, tn, rfl, B4, ⟨SqL.of hpl4, hps⟩, fun H5 e5 => ?_⟩
      have k5 := k4.grow e5
      clear k4 B4 he4 hP4 e5 hpl4
      refine rd_bl ?_
      refine iteNT ?_
      walk_at "rd"
      refine rd_dec (fun _ => ?_) (fun _ => ?_)
      · walk_at "rd"
        obtain ⟨S5, hs5, B5, he5, lh5, hP5⟩ := k5.all
        refine ⟨.inl ⟨rfl, _, SqL.of he5⟩, ?_⟩
        walk_at "rd"
        obtain ⟨dx5, hr5⟩ := B5.at_.ob
        refine rd_recv hr5 rfl ?_
        walk_at "rd"
        refine ⟨r, l, m, as, S5, rfl, B5.at_, fun u xs nu hm tm => ?_⟩
        have x6 := Ex.new (o := .lst xs) nu
        have hu6 : upd H5 u (.lst xs) u = some (.lst xs) := upd_same
        have um : u ≠ m := fun z => (by rw [z, hm] at nu; cases nu)
        have uml : u ≠ ml := fun z => (by obtain ⟨ys, h, _⟩ := B5.ho.pl; rw [z, h] at nu; cases nu)
        have ue : u ≠ e := fun z => (by rw [z, he5] at nu; cases nu)
        have tm6 := tm.ex x6
        have k6 := k5.grow x6
        have B6 := B5.ex x6
        have he6 := x6 _ _ he5
        generalize upd H5 u (.lst xs) = H6 at hu6 tm6 k6 B6 he6 ⊢
        clear x6 nu hm tm B5 he5 hr5 hP5 k5
        walk_at "rd"
        refine rd_getS B6.ho.ob get_mails ?_
        walk_at "rd"
        obtain ⟨ys, hy, ty⟩ := B6.ho.pl
        refine rd_listL (SqL.of hy) fun u2 nu2 => ?_
        have x7 := Ex.new (o := .lst ys) nu2
        have hu7 : upd H6 u2 (.lst ys) u2 = some (.lst ys) := upd_same
        have u2m : u2 ≠ m := fun z => (by obtain ⟨ys, h, _⟩ := B6.at_.pl; rw [z, h] at nu2; cases nu2)
        have u2ml : u2 ≠ ml := fun z => (by rw [z, hy] at nu2; cases nu2)
        have u2e : u2 ≠ e := fun z => (by rw [z, he6] at nu2; cases nu2)
        have tm7 := tm6.ex x7
        have ty7 := ty.ex x7
        have k7 := k6.grow x7
        have he7 := x7 _ _ he6
        have hu67 := x7 _ _ hu6
        generalize upd H6 u2 (.lst ys) = H7' at hu7 tm7 ty7 k7 he7 hu67 ⊢
        clear x7 nu2 k6 he6 hu6 tm6 B6 hy ty
        walk_at "rd"
        refine ⟨by show 2 ≤ sizeLine; decide, fun t2 nt2 => ?_⟩
        have x8 := Ex.new (o := .tup [V.ref u, V.ref u2]) nt2
        have k8 := k7.grow x8
        have he8 := x8 _ _ he7
        have P8 : PairM (upd H7' t2 (.tup [.ref u, .ref u2])) m ml e (.ref t2) := ⟨t2, u, u2, xs, ys, S5.post, rfl, upd_same, x8 _ _ hu67, x8 _ _ hu7, tm7.ex x8, ty7.ex x8, ⟨um, uml, ue⟩, u2m, u2ml, u2e⟩
        generalize upd H7' t2 (.tup [.ref u, .ref u2]) = H8 at k8 he8 P8 ⊢
        clear x8 k7 he7 hu67 hu7 tm7 ty7 nt2
        walk_at "rd"
        refine ⟨e, hs5, _, rfl, rfl, he8, sz_lt (by omega), ?_⟩
        have k9 := k8.more he8 P8
        generalize upd H8 e (.lst (hs5 ++ [.ref t2])) = H9 at k9 ⊢
        walk_at "rd"
        obtain ⟨S9, hs9, B9, he9, lh9, hP9⟩ := k9.all
        obtain ⟨dx9, hr9⟩ := B9.at_.ob
        refine rd_recv hr9 rfl ?_
        walk_at "rd"
        refine ⟨r, l, m, as, S9, rfl, B9.at_, fun u3 xs3 nu3 hm3 tm3 => ?_⟩
        refine ⟨.inl ⟨rfl, _, SqL.of upd_same⟩, ?_⟩
        refine ⟨u3, xs3, rfl, rfl, upd_same, ?_⟩
        rw [upd_upd]
        walk_at "rd"
        exact ⟨k9.grow (Ex.new nu3), _, _, _, _, rfl⟩
      · walk_at "rd"
        exact ⟨k5.mono, _, _, _, _, rfl⟩
    · rintro σ H' ⟨k', v7, v8, v9, v10, rfl⟩
      walk_at "rd"
      refine ⟨a, ns, 1, rfl, stayS H' k'.ke, ?_⟩
      walk_at "rd"
      generalize cell ns 1 / 16 = last
      obtain ⟨S1, hs1, B1, he1, lh1, hP1⟩ := k'.all
      refine ⟨r, l, m, D, hl, ml, as, ds, ks, S1, _, rfl, B1, fun H2 e2 => ?_⟩
      have k2 := k'.grow e2
      clear B1 he1 hP1 e2 k'
      refine rd_bl ?_
      refine iteNT ?_
      with_reducible refine rd_next ?_
      with_reducible refine rd_seq ?_
      refine if_mid (fun σ2 H3 => Kept5 A.c_Ring A.c_Hand HE H3 r l m D hl ml e as ds ks ((ns.drop 8).map V.int).length ∧ σ2 = [some (.ref a), some (.ref g), some (.ref r), some (.ref r2), some (.ref D), some (.ref e), some (.int ((ks.length : Nat) : Int)), v7, v8, v9, v10, some (.int last), none, none, none]) (fun nx hn => ?_) ?_
      · walk_at "rd"
        refine ⟨a, ns, 1, rfl, stayS H2 k2.ke, ?_⟩
        walk_at "rd"
        refine rd_dec (fun _ => ?_) (fun _ => ?_)
        · walk_at "rd"
          obtain ⟨S3, hs3, B3, he3, lh3, hP3⟩ := k2.all
          refine ⟨r, l, m, D, hl, ml, as, ds, ks, S3, rfl, B3, fun H4 S4 B4 kk gg => ?_⟩
          have k4 := k2.deed B4 kk
          refine rd_bl ?_
          refine iteNT ?_
          walk_at "rd"
          refine ⟨r, l, m, D, hl, ml, as, ds, ks, S4, _, rfl, B4, fun H5 e5 => ?_⟩
          refine rd_bl ?_
          refine iteNT ?_
          walk_at "rd"
          exact hn _ _ ⟨k4.grow e5, rfl⟩
        · walk_at "rd"
          exact hn _ _ ⟨k2, rfl⟩
      rintro σ2 H3 ⟨k3, rfl⟩
      obtain ⟨S3, hs3, B3, he3, lh3, hP3⟩ := k3.all
      walk_at "rd"
      refine lc_LF (SqL.of he3) (by rw [List.length_map, List.length_drop] at lh3; omega) (fun _ => false) (fun i => hs3.getD i .non) (fun i x H4 e4 hx => fun H5 e5 Q5 q5 => ?_) (fun i x H4 e4 hx => ?_) (fun z H4 hz e4 hz4 => ?_)
      · obtain ⟨t, b, c, xs, ys, zs, rfl, ht, hb, hc, tx, ty, _⟩ := (hP3 x (List.mem_of_getElem? hx)).keep B3 he3 (KE.ex (e4.trans e5))
        walk_at "rd"
        refine rd_ixT (k := 0) (SqT.of ht) rfl rfl ?_
        walk_at "rd"
        refine rd_ixT (k := 1) (SqT.of ht) rfl rfl ?_
        refine rd_neSame mD_ok (SqL.of hb) (SqL.of hc) tx ty ?_
        refine rd_bl ?_
        exact q5 H5 (Ex.refl H5)
      · intro H5 e5 Q5 q5
        rw [show hs3.getD i .non = x by rw [List.getD_eq_getElem?_getD, hx]; rfl] at q5
        exact rd_var rfl (q5 H5 (Ex.refl H5))
      have k4 := k3.grow e4
      clear k3 B3 he3 hP3
      walk_at "rd"
      refine ⟨Nat.zero_le _, fun y hy => ?_⟩
      have hz5 : H4 z = some (.lst ([] : List V)) := by
        rw [hz4]
        have : given hs3.length (fun _ => false) (fun i => hs3.getD i .non) = [] := by
          unfold given
          rw [List.filter_eq_nil_iff.mpr fun _ _ z => Bool.noConfusion z]
          rfl
        rw [this]
      have x5 := Ex.new (o := .lst ([] : List V)) hy
      refine rd_neInts (ks := []) (SqL.of (x5 _ _ hz5)) (SqL.of upd_same) ?_
      have k5 := k4.grow x5
      generalize upd H4 y (.lst []) = H5 at k5 ⊢
      have R5 := stay2 H5 k5.ke
      obtain ⟨dx5, hr5⟩ := R5.ob
      walk_at "rd"
      refine rd_recv hr5 rfl ?_
      walk_at "rd"
      refine ⟨r2, l2, m2, as2, _, rfl, R5, fun u xs nu hm tm => ?_⟩
      have x6 := Ex.new (o := .lst xs) nu
      have hu6 : upd H5 u (.lst xs) u = some (.lst xs) := upd_same
      have tm6 := tm.ex x6
      have R6 := R5.ex x6
      generalize upd H5 u (.lst xs) = H6 at hu6 tm6 R6 ⊢
      walk_at "rd"
      refine ⟨by show 6 ≤ sizeLine; decide, fun t1 nt1 => ?_⟩
      rw [show ([V.int 0, .int 1, .str "ask", .int 5, .int 0, .int 1] : List V) = mV (0, (⟨1, .ask, 5, 0, 1⟩ : Lt)) from rfl]
      have x7 := Ex.new (o := .tup (mV (0, (⟨1, .ask, 5, 0, 1⟩ : Lt)))) nt1
      have y7 : upd H6 t1 (.tup (mV (0, (⟨1, .ask, 5, 0, 1⟩ : Lt)))) t1 = some (.tup (mV (0, (⟨1, .ask, 5, 0, 1⟩ : Lt)))) := upd_same
      generalize upd H6 t1 (.tup (mV (0, (⟨1, .ask, 5, 0, 1⟩ : Lt)))) = H7' at x7 y7 ⊢
      walk_at "rd"
      refine ⟨by show 6 ≤ sizeLine; decide, fun t2 nt2 => ?_⟩
      rw [show ([V.int 0, .int (-1), .str "ask", .int 5, .int 0, .int 1] : List V) = mV (0, (⟨-1, .ask, 5, 0, 1⟩ : Lt)) from rfl]
      have x8 := Ex.new (o := .tup (mV (0, (⟨-1, .ask, 5, 0, 1⟩ : Lt)))) nt2
      have y8 : upd H7' t2 (.tup (mV (0, (⟨-1, .ask, 5, 0, 1⟩ : Lt)))) t2 = some (.tup (mV (0, (⟨-1, .ask, 5, 0, 1⟩ : Lt)))) := upd_same
      generalize upd H7' t2 (.tup (mV (0, (⟨-1, .ask, 5, 0, 1⟩ : Lt)))) = H8 at x8 y8 ⊢
      walk_at "rd"
      refine ⟨by show 2 ≤ sizeLine; decide, fun u9 nu9 => ?_⟩
      have x9 := Ex.new (o := .lst [V.ref t1, V.ref t2]) nu9
      have x69 := (x7.trans x8).trans x9
      have ep : ((Rg.new [3, 5]).wake 1).post = [(0, (⟨1, .ask, 5, 0, 1⟩ : Lt)), (0, (⟨-1, .ask, 5, 0, 1⟩ : Lt))] := rfl
      have tm9 := tm6.ex x69
      rw [ep] at tm9
      refine rd_eqSame mD_ok (SqL.of (x69 _ _ hu6)) (SqL.of upd_same) tm9 (.cons (x9 _ _ (x8 _ _ y7)) (.one (x9 _ _ y8))) ?_
      have R9 := R6.ex x69
      obtain ⟨dx9, hr9⟩ := R9.ob
      walk_at "rd"
      refine rd_recv hr9 rfl ?_
      walk_at "rd"
      refine ⟨r2, l2, m2, as2, _, rfl, R9, ?_⟩
      walk_at "rd"
      exact q _
theorem all_ok (T : Txt K mg A) : FnOk P w K mg base CX0 8 A.f_law A.fd_law ["_law_script"] (spLaw K) := by
  have G := ring_ok (P := P) (w := w) (base := base) T
  have g0 := ok__law_cell_at (P := P) (w := w) (base := base) T
  have g1 := ok__law_whole (P := P) (w := w) (base := base) T
  have g2 := ok__law_truth (P := P) (w := w) (base := base) T
  have g3 := ok__law_letters mD_ok mV_flat T g1
  have a0 := ok__law_asks (P := P) (w := w) (base := base) T
  have a1 := ok__law_woken T a0
  have a2 := ok__law_taken T a0 a1
  have p0 := ok__law_put (P := P) (w := w) (base := base) T
  have p1 := ok__law_came T p0 a2
  have t0 := ok__law_looked T G (ok__law_hands_told T (ok__law_hand_told T G g2 g1)) g1 g3
  exact ok_law T G g0 (ok__law_numbers T g0) (ok__law_start T) (ok__law_step T G p0 p1 a1 g2 g3) (ok__law_strange T G) t0 (ok__law_all T t0) (ok__law_rests T G p1 g1)
end

theorem binds_law {K : PySem.W.Frag} {f : Addr} {fd : FuncData} (F : Fun K "law" "law" s_law f fd) : ∀ (s : Shared) (v : Value), BindsTo s fd ⟨[v], []⟩ [("_law_script", v)] := by
  obtain ⟨oc, od, kV, doc, pm, an, cdv, ct, osl, rfl, lk, hcd⟩ := F.ex
  exact fun s v => .of_eq rfl
theorem fin {P : Program} {w : World} {K : PySem.W.Frag} {mg : Str → Option Value} {fa : Addr} (hT : ∃ A : Adr, Txt K mg A) (hm : mg "law" = some (.ref fa)) :
    ∃ fd : FuncData, (∀ (s : Shared) (v : Value), BindsTo s fd ⟨[v], []⟩ [("_law_script", v)]) ∧ ∀ base : Heap, K.In base → base.Ns mainGlobals mg → FnOk P w K mg base CX0 8 fa fd ["_law_script"] (spLaw K) := by
  obtain ⟨A, T⟩ := hT
  have e : fa = A.f_law := Value.ref.inj (Option.some.inj (hm.symm.trans T.mg_law))
  subst e
  exact ⟨A.fd_law, binds_law T.fun_law, fun base _ _ => all_ok T⟩
theorem walk {l : PySem.W.OpenLaw} {q : Program} {loose : List Str} {XP : (Str → Option Value) → Heap → Prop} {YP : World → Heap → Prop} {d : DefRec} {K : Params → PySem.W.Frag} (hn : l.most = some 63) (hdf : d.params.defaults = [])
    (hY : ∀ (w : World) (h : Heap), YP w h → (K w.params).In h)
    (F : ∀ (w : World) (mg : Str → Option Value) (fa : Addr) (h : Heap), (K w.params).In h → h.Ns mainGlobals mg → mg d.name = some (.ref fa) →
      ∃ fd : FuncData, (∀ (s : Shared) (u : Value), BindsTo s fd ⟨[u], []⟩ [("_law_script", u)]) ∧ ∀ base : Heap, (K w.params).In base → base.Ns mainGlobals mg → FnOk l.prog w (K w.params) mg base CX0 8 fa fd ["_law_script"] (spLaw (K w.params))) :
    PySem.W.WalkO q loose XP YP l.row.toRowW d [] (fun f vs => PySem.call f vs) :=
  L2.walk_of (n := 63) (k := 8) (x := "_law_script") (CX := fun _ => CX0) (sp := fun w => spLaw (K w.params)) hn (by decide) hdf ⟨rfl, by decide, by decide⟩ hY F (fun _ _ a ns hl _ hS => ⟨a, ns, rfl, hS, hl, fun _ => rfl⟩) fun _ _ _ _ _ z => z
end Rc
open PySem PySem.W PyProof.Rows
set_option maxRecDepth 100000 in
set_option maxHeartbeats 0 in
theorem PySem.Challenge.cw_ringcrown_k05_every_history_holds : PySem.Challenge.rw_ringcrown_k05_every_history.Holds := by
  w_on; o_law; k_head; (case hw => w_witness2)
  k_fill
  refine Rc.walk (l := PySem.Challenge.rw_ringcrown_k05_every_history) rfl rfl (fun w h Y => PySem.W.kIn_of Y) ?F
  case F =>
    intro w mg fa h KX G hmg
    refine Rc.fin ?T hmg
    refine' (show ∃ A : Rc.Adr, Rc.Txt _ mg A from Rc.mkTxt KX G ?rq_g0 ?rq_g1 ?rq_g2 ?rq_g3 ?rq_g4 ?rq_g5 ?rq_a6 ?rq_i6 ?rq_l6 ?rq_d6 ?rq_k6 ?rq_m6 ?rq_q6 ?rq_a7 ?rq_i7 ?rq_l7 ?rq_d7 ?rq_k7 ?rq_a8 ?rq_i8 ?rq_l8 ?rq_d8 ?rq_k8 ?rq_a9 ?rq_i9 ?rq_l9 ?rq_d9 ?rq_k9 ?rq_a10 ?rq_i10 ?rq_l10 ?rq_d10 ?rq_k10 ?rq_a11 ?rq_i11 ?rq_l11 ?rq_d11 ?rq_k11 ?rq_a12 ?rq_i12 ?rq_l12 ?rq_d12 ?rq_k12 ?rq_a13 ?rq_i13 ?rq_l13 ?rq_d13 ?rq_k13 ?rq_a14 ?rq_i14 ?rq_l14 ?rq_d14 ?rq_k14 ?rq_a15 ?rq_i15 ?rq_l15 ?rq_d15 ?rq_k15 ?rq_a16 ?rq_i16 ?rq_l16 ?rq_d16 ?rq_k16 ?rq_a17 ?rq_l17 ?rq_d17 ?rq_k17 ?rq_a18 ?rq_i18 ?rq_l18 ?rq_d18 ?rq_k18 ?rq_m18 ?rq_q18 ?rq_a19 ?rq_i19 ?rq_l19 ?rq_d19 ?rq_k19 ?rq_a20 ?rq_i20 ?rq_l20 ?rq_d20 ?rq_k20 ?rq_a21 ?rq_i21 ?rq_l21 ?rq_d21 ?rq_k21 ?rq_a22 ?rq_i22 ?rq_l22 ?rq_d22 ?rq_k22 ?rq_a23 ?rq_i23 ?rq_l23 ?rq_d23 ?rq_k23 ?rq_a24 ?rq_i24 ?rq_l24 ?rq_d24 ?rq_k24 ?rq_a25 ?rq_i25 ?rq_l25 ?rq_d25 ?rq_k25 ?rq_a26 ?rq_i26 ?rq_l26 ?rq_d26 ?rq_k26 ?rq_a27 ?rq_i27 ?rq_l27 ?rq_d27 ?rq_k27 ?rq_a28 ?rq_i28 ?rq_l28 ?rq_d28 ?rq_k28 ?rq_a29 ?rq_i29 ?rq_l29 ?rq_d29 ?rq_k29 ?rq_a30 ?rq_l30 ?rq_d30 ?rq_k30 ?rq_a31 ?rq_l31 ?rq_d31 ?rq_k31 ?rq_a32 ?rq_l32 ?rq_d32 ?rq_k32 ?rq_a33 ?rq_l33 ?rq_d33 ?rq_k33 ?rq_a34 ?rq_l34 ?rq_d34 ?rq_k34 ?rq_a35 ?rq_l35 ?rq_d35 ?rq_k35 ?rq_a36 ?rq_l36 ?rq_d36 ?rq_k36 ?rq_a37 ?rq_l37 ?rq_d37 ?rq_k37 ?rq_a38 ?rq_l38 ?rq_d38 ?rq_k38 ?rq_a39 ?rq_l39 ?rq_d39 ?rq_k39 ?rq_a40 ?rq_l40 ?rq_d40 ?rq_k40 ?rq_a41 ?rq_l41 ?rq_d41 ?rq_k41 ?rq_a42 ?rq_l42 ?rq_d42 ?rq_k42 ?rq_a43 ?rq_l43 ?rq_d43 ?rq_k43 ?rq_a44 ?rq_l44 ?rq_d44 ?rq_k44 ?rq_a45 ?rq_l45 ?rq_d45 ?rq_k45 ?rq_a46 ?rq_l46 ?rq_d46 ?rq_k46 ?rq_a47 ?rq_l47 ?rq_d47 ?rq_k47 ?rq_a48 ?rq_l48 ?rq_d48 ?rq_k48 ?rq_p49 ?rq_h49 ?rq_o49 ?rq_s49 ?rq_n50 ?rq_n51 ?rq_n52 ?rq_n53 ?rq_n54 ?rq_n55 ?rq_n56 ?rq_n57 ?rq_p58 ?rq_h58 ?rq_o58 ?rq_s58 ?rq_n59 ?rq_n60 ?rq_n61 ?rq_x62 ?rq_k62 ?rq_b62 ?rq_t62 ?rq_i62 ?rq_h62 ?rq_v62 ?rq_ga62 ?rq_gg62 ?rq_ca62 ?rq_mo62 ?rq_x63 ?rq_k63 ?rq_b63 ?rq_t63 ?rq_i63 ?rq_h63 ?rq_v63 ?rq_ga63 ?rq_gg63 ?rq_ca63 ?rq_mo63 ?rq_x64 ?rq_k64 ?rq_b64 ?rq_t64 ?rq_i64 ?rq_h64 ?rq_v64 ?rq_ga64 ?rq_gg64 ?rq_ca64 ?rq_mo64 ?rq_x65 ?rq_k65 ?rq_b65 ?rq_t65 ?rq_i65 ?rq_h65 ?rq_v65 ?rq_ga65 ?rq_gg65 ?rq_ca65 ?rq_mo65 ?rq_sp1 ?rq_tk1 ?rq_u66 ?rq_u67 ?rq_w67 ?rq_u68 ?rq_w68 ?rq_u69 ?rq_w69 ?rq_u70 ?rq_w70 ?rq_u71 ?rq_u72 ?rq_w72 ?rq_u73 ?rq_w73 ?rq_u74 ?rq_w74 ?rq_u75 ?rq_w75 ?rq_u76 ?rq_u77 ?rq_w77 ?rq_u78 ?rq_w78 ?rq_u79 ?rq_w79 ?rq_u80 ?rq_w80 ?rq_u81 ?rq_z82 ?rq_z83 ?rq_z84 ?rq_z85 ?rq_z86 ?rq_z87 ?rq_z88 ?rq_z89 ?rq_z90 ?rq_z91 ?rq_z92 ?rq_z93 ?rq_z94 ?rq_c95 ?rq_c96 ?rq_c97)
    (case rq_g0 => k_is)
    (case rq_g1 => k_is)
    (case rq_g2 => k_is)
    (case rq_g3 => k_is)
    (case rq_g4 => k_is)
    (case rq_g5 => k_is)
    (case rq_a6 => k_is)
    (case rq_i6 => k_is)
    (case rq_l6 => k_is)
    (case rq_d6 => k_is)
    (case rq_k6 => k_is)
    (case rq_m6 => k_is)
    (case rq_q6 => k_is)
    (case rq_a7 => k_is)
    (case rq_i7 => k_is)
    (case rq_l7 => k_is)
    (case rq_d7 => k_is)
    (case rq_k7 => k_is)
    (case rq_a8 => k_is)
    (case rq_i8 => k_is)
    (case rq_l8 => k_is)
    (case rq_d8 => k_is)
    (case rq_k8 => k_is)
    (case rq_a9 => k_is)
    (case rq_i9 => k_is)
    (case rq_l9 => k_is)
    (case rq_d9 => k_is)
    (case rq_k9 => k_is)
    (case rq_a10 => k_is)
    (case rq_i10 => k_is)
    (case rq_l10 => k_is)
    (case rq_d10 => k_is)
    (case rq_k10 => k_is)
    (case rq_a11 => k_is)
    (case rq_i11 => k_is)
    (case rq_l11 => k_is)
    (case rq_d11 => k_is)
    (case rq_k11 => k_is)
    (case rq_a12 => k_is)
    (case rq_i12 => k_is)
    (case rq_l12 => k_is)
    (case rq_d12 => k_is)
    (case rq_k12 => k_is)
    (case rq_a13 => k_is)
    (case rq_i13 => k_is)
    (case rq_l13 => k_is)
    (case rq_d13 => k_is)
    (case rq_k13 => k_is)
    (case rq_a14 => k_is)
    (case rq_i14 => k_is)
    (case rq_l14 => k_is)
    (case rq_d14 => k_is)
    (case rq_k14 => k_is)
    (case rq_a15 => k_is)
    (case rq_i15 => k_is)
    (case rq_l15 => k_is)
    (case rq_d15 => k_is)
    (case rq_k15 => k_is)
    (case rq_a16 => k_is)
    (case rq_i16 => k_is)
    (case rq_l16 => k_is)
    (case rq_d16 => k_is)
    (case rq_k16 => k_is)
    (case rq_a17 => k_is)
    (case rq_l17 => k_is)
    (case rq_d17 => k_is)
    (case rq_k17 => k_is)
    (case rq_a18 => k_is)
    (case rq_i18 => k_is)
    (case rq_l18 => k_is)
    (case rq_d18 => k_is)
    (case rq_k18 => k_is)
    (case rq_m18 => k_is)
    (case rq_q18 => k_is)
    (case rq_a19 => k_is)
    (case rq_i19 => k_is)
    (case rq_l19 => k_is)
    (case rq_d19 => k_is)
    (case rq_k19 => k_is)
    (case rq_a20 => k_is)
    (case rq_i20 => k_is)
    (case rq_l20 => k_is)
    (case rq_d20 => k_is)
    (case rq_k20 => k_is)
    (case rq_a21 => k_is)
    (case rq_i21 => k_is)
    (case rq_l21 => k_is)
    (case rq_d21 => k_is)
    (case rq_k21 => k_is)
    (case rq_a22 => k_is)
    (case rq_i22 => k_is)
    (case rq_l22 => k_is)
    (case rq_d22 => k_is)
    (case rq_k22 => k_is)
    (case rq_a23 => k_is)
    (case rq_i23 => k_is)
    (case rq_l23 => k_is)
    (case rq_d23 => k_is)
    (case rq_k23 => k_is)
    (case rq_a24 => k_is)
    (case rq_i24 => k_is)
    (case rq_l24 => k_is)
    (case rq_d24 => k_is)
    (case rq_k24 => k_is)
    (case rq_a25 => k_is)
    (case rq_i25 => k_is)
    (case rq_l25 => k_is)
    (case rq_d25 => k_is)
    (case rq_k25 => k_is)
    (case rq_a26 => k_is)
    (case rq_i26 => k_is)
    (case rq_l26 => k_is)
    (case rq_d26 => k_is)
    (case rq_k26 => k_is)
    (case rq_a27 => k_is)
    (case rq_i27 => k_is)
    (case rq_l27 => k_is)
    (case rq_d27 => k_is)
    (case rq_k27 => k_is)
    (case rq_a28 => k_is)
    (case rq_i28 => k_is)
    (case rq_l28 => k_is)
    (case rq_d28 => k_is)
    (case rq_k28 => k_is)
    (case rq_a29 => k_is)
    (case rq_i29 => k_is)
    (case rq_l29 => k_is)
    (case rq_d29 => k_is)
    (case rq_k29 => k_is)
    (case rq_a30 => k_is)
    (case rq_l30 => k_is)
    (case rq_d30 => k_is)
    (case rq_k30 => k_is)
    (case rq_a31 => k_is)
    (case rq_l31 => k_is)
    (case rq_d31 => k_is)
    (case rq_k31 => k_is)
    (case rq_a32 => k_is)
    (case rq_l32 => k_is)
    (case rq_d32 => k_is)
    (case rq_k32 => k_is)
    (case rq_a33 => k_is)
    (case rq_l33 => k_is)
    (case rq_d33 => k_is)
    (case rq_k33 => k_is)
    (case rq_a34 => k_is)
    (case rq_l34 => k_is)
    (case rq_d34 => k_is)
    (case rq_k34 => k_is)
    (case rq_a35 => k_is)
    (case rq_l35 => k_is)
    (case rq_d35 => k_is)
    (case rq_k35 => k_is)
    (case rq_a36 => k_is)
    (case rq_l36 => k_is)
    (case rq_d36 => k_is)
    (case rq_k36 => k_is)
    (case rq_a37 => k_is)
    (case rq_l37 => k_is)
    (case rq_d37 => k_is)
    (case rq_k37 => k_is)
    (case rq_a38 => k_is)
    (case rq_l38 => k_is)
    (case rq_d38 => k_is)
    (case rq_k38 => k_is)
    (case rq_a39 => k_is)
    (case rq_l39 => k_is)
    (case rq_d39 => k_is)
    (case rq_k39 => k_is)
    (case rq_a40 => k_is)
    (case rq_l40 => k_is)
    (case rq_d40 => k_is)
    (case rq_k40 => k_is)
    (case rq_a41 => k_is)
    (case rq_l41 => k_is)
    (case rq_d41 => k_is)
    (case rq_k41 => k_is)
    (case rq_a42 => k_is)
    (case rq_l42 => k_is)
    (case rq_d42 => k_is)
    (case rq_k42 => k_is)
    (case rq_a43 => k_is)
    (case rq_l43 => k_is)
    (case rq_d43 => k_is)
    (case rq_k43 => k_is)
    (case rq_a44 => k_is)
    (case rq_l44 => k_is)
    (case rq_d44 => k_is)
    (case rq_k44 => k_is)
    (case rq_a45 => k_is)
    (case rq_l45 => k_is)
    (case rq_d45 => k_is)
    (case rq_k45 => k_is)
    (case rq_a46 => k_is)
    (case rq_l46 => k_is)
    (case rq_d46 => k_is)
    (case rq_k46 => k_is)
    (case rq_a47 => k_is)
    (case rq_l47 => k_is)
    (case rq_d47 => k_is)
    (case rq_k47 => k_is)
    (case rq_a48 => k_is)
    (case rq_l48 => k_is)
    (case rq_d48 => k_is)
    (case rq_k48 => k_is)
    (case rq_p49 => k_is)
    (case rq_h49 => k_is)
    (case rq_o49 => k_is)
    (case rq_s49 => k_is)
    (case rq_n50 => k_is)
    (case rq_n51 => k_is)
    (case rq_n52 => k_is)
    (case rq_n53 => k_is)
    (case rq_n54 => k_is)
    (case rq_n55 => k_is)
    (case rq_n56 => k_is)
    (case rq_n57 => k_is)
    (case rq_p58 => k_is)
    (case rq_h58 => k_is)
    (case rq_o58 => k_is)
    (case rq_s58 => k_is)
    (case rq_n59 => k_is)
    (case rq_n60 => k_is)
    (case rq_n61 => k_is)
    (case rq_x62 => k_exc)
    (case rq_k62 => k_is)
    (case rq_b62 => k_is)
    (case rq_t62 => k_is)
    (case rq_i62 => k_is)
    (case rq_h62 => k_is)
    (case rq_v62 => k_is)
    (case rq_ga62 => k_is)
    (case rq_gg62 => k_is)
    (case rq_ca62 => k_is)
    (case rq_mo62 => k_is)
    (case rq_x63 => k_exc)
    (case rq_k63 => k_is)
    (case rq_b63 => k_is)
    (case rq_t63 => k_is)
    (case rq_i63 => k_is)
    (case rq_h63 => k_is)
    (case rq_v63 => k_is)
    (case rq_ga63 => k_is)
    (case rq_gg63 => k_is)
    (case rq_ca63 => k_is)
    (case rq_mo63 => k_is)
    (case rq_x64 => k_exc)
    (case rq_k64 => k_is)
    (case rq_b64 => k_is)
    (case rq_t64 => k_is)
    (case rq_i64 => k_is)
    (case rq_h64 => k_is)
    (case rq_v64 => k_is)
    (case rq_ga64 => k_is)
    (case rq_gg64 => k_is)
    (case rq_ca64 => k_is)
    (case rq_mo64 => k_is)
    (case rq_x65 => k_exc)
    (case rq_k65 => k_is)
    (case rq_b65 => k_is)
    (case rq_t65 => k_is)
    (case rq_i65 => k_is)
    (case rq_h65 => k_is)
    (case rq_v65 => k_is)
    (case rq_ga65 => k_is)
    (case rq_gg65 => k_is)
    (case rq_ca65 => k_is)
    (case rq_mo65 => k_is)
    (case rq_sp1 => k_is)
    (case rq_tk1 => k_is)
    (case rq_u66 => first | rfl | k_is)
    (case rq_u67 => first | rfl | k_is)
    (case rq_w67 => decide)
    (case rq_u68 => first | rfl | k_is)
    (case rq_w68 => decide)
    (case rq_u69 => first | rfl | k_is)
    (case rq_w69 => decide)
    (case rq_u70 => first | rfl | k_is)
    (case rq_w70 => decide)
    (case rq_u71 => first | rfl | k_is)
    (case rq_u72 => first | rfl | k_is)
    (case rq_w72 => decide)
    (case rq_u73 => first | rfl | k_is)
    (case rq_w73 => decide)
    (case rq_u74 => first | rfl | k_is)
    (case rq_w74 => decide)
    (case rq_u75 => first | rfl | k_is)
    (case rq_w75 => decide)
    (case rq_u76 => first | rfl | k_is)
    (case rq_u77 => first | rfl | k_is)
    (case rq_w77 => decide)
    (case rq_u78 => first | rfl | k_is)
    (case rq_w78 => decide)
    (case rq_u79 => first | rfl | k_is)
    (case rq_w79 => decide)
    (case rq_u80 => first | rfl | k_is)
    (case rq_w80 => decide)
    (case rq_u81 => first | rfl | k_is)
    (case rq_z82 => k_is)
    (case rq_z83 => k_is)
    (case rq_z84 => k_is)
    (case rq_z85 => k_is)
    (case rq_z86 => k_is)
    (case rq_z87 => k_is)
    (case rq_z88 => k_is)
    (case rq_z89 => k_is)
    (case rq_z90 => k_is)
    (case rq_z91 => k_is)
    (case rq_z92 => k_is)
    (case rq_z93 => k_is)
    (case rq_z94 => k_is)
    (case rq_c95 => k_is)
    (case rq_c96 => k_is)
    (case rq_c97 => k_is)
