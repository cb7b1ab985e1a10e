import PyProof.Rows.All
import KE.IntTextLaws
import Wide.All
import OpenK.AllK
import Wide.FinOn
import PyProof.EqAt
import PyProof.EqKinds
import PyProof.TupleCall
import HandS.ForMost
import HandS.ForExc
import HandS.Walk
import HandS.IsInst
import HandS.More
import HandS.StrMore
import HandS.Wide
import KE.GoesMore
import KE.GoesEnum
import KE.KTryMore
import HandS.ExcValue
import KE.KSuper
import KE.KExcSuper
import HandS.ExcSuper
import HandS.ExcIs
import HandS.Set
import HandS.SetFor
import HandS.MakeKwOnly
import HandS.SortKw
import KE.DatumOrd
import PyProof.StrBlock2
import PyProof.NeKinds
import PyProof.StrLawsAffix
import HandS.Star
import HandS.Flow
import PySem.Challenge.RW_quotedback_k19_whole_folded_sums
set_option Elab.async false
set_option linter.all false
set_option maxRecDepth 100000
set_option maxHeartbeats 4000000
/-! The mathematics: sums as trees, what they come to, how they are folded (no program in sight). -/
namespace K19
open PySem

inductive UK where | minus | no
  deriving DecidableEq
inductive BK where | mul | div | pow | add | sub | lt | le | gt | ge | eq | ne | and | or
  deriving DecidableEq
def UK.str : UK → Str
  | .minus => "minus" | .no => "no"
def BK.str : BK → Str
  | .mul => "*" | .div => "/" | .pow => "^" | .add => "+" | .sub => "-" | .lt => "<" | .le => "<=" | .gt => ">" | .ge => ">=" | .eq => "==" | .ne => "!=" | .and => "&&" | .or => "||"

inductive T where
  | num (n : Int)
  | of (x : Str)
  | un (k : UK) (a : T)
  | bin (k : BK) (a b : T)
  | cho (a b c : T)

/-- an error: what it is, and its value -/
inductive Er where
  | noInt (s : Str)
  | great (t : T)
  | zero (t : T)

def Big (z : Int) : Prop := (10 : Int) ^ 40 ≤ (if z < 0 then -z else z)
instance (z : Int) : Decidable (Big z) := by unfold Big; infer_instance
def bnd (t : T) (z : Int) : Except Er Int := if Big z then .error (.great t) else .ok z
def quo (x y : Int) : Int := if decide (x < 0) = decide (y < 0) then (if x < 0 then -x else x) / (if y < 0 then -y else y) else -((if x < 0 then -x else x) / (if y < 0 then -y else y))
def b1 (p : Bool) : Int := if p then 1 else 0
def calcB (k : BK) (x y : Int) : Int := match k with
  | .mul => x * y
  | .div => quo x y
  | .pow => x - y * quo x y
  | .add => x + y
  | .sub => x - y
  | .lt => b1 (decide (x < y))
  | .le => b1 (decide (x ≤ y))
  | .gt => b1 (decide (y < x))
  | .ge => b1 (decide (y ≤ x))
  | .eq => b1 (decide (x = y))
  | .ne => b1 (!decide (x = y))
  | .and => b1 (!decide (y = 0))
  | .or => b1 (!decide (y = 0))
def isDiv : BK → Bool
  | .div => true | .pow => true | _ => false
def join (t : T) (k : BK) (x y : Int) : Except Er Int := if isDiv k = true ∧ y = 0 then .error (.zero t) else bnd t (calcB k x y)
/-- the second part is not looked at -/
def short (k : BK) (x : Int) : Bool := (decide (k = .and) && decide (x = 0)) || (decide (k = .or) && !decide (x = 0))
def una (k : UK) (z : Int) : Int := match k with
  | .minus => -z
  | .no => b1 (decide (z = 0))

/-- the integer of a value's text -/
def dig (c : Nat) : Bool := decide (48 ≤ c) && decide (c ≤ 57)
def figs (s : Str) : List Nat := if s.cps.toList.take 1 = [45] then s.cps.toList.drop 1 else s.cps.toList
def good (s : Str) : Bool := !(figs s).isEmpty && decide ((figs s).length ≤ 40) && (figs s).all dig && !(decide ((figs s).take 1 = [48]) && !decide (s = "0"))
def txt (s : Str) : Option Int := if s = "" then some 0 else if good s = true then some ((PySem.intText? s).getD 0) else none

def ev (val : Str → Str) : T → Except Er Int
  | .num n => .ok n
  | .of x => match txt (val x) with
    | some n => .ok n
    | none => .error (.noInt (val x))
  | .un k a => match ev val a with
    | .error e => .error e
    | .ok z => .ok (una k z)
  | .cho a b c => match ev val a with
    | .error e => .error e
    | .ok z => if z = 0 then ev val c else ev val b
  | .bin k a b => match ev val a with
    | .error e => .error e
    | .ok x => if short k x = true then .ok (b1 (!decide (x = 0))) else match ev val b with
      | .error e => .error e
      | .ok y => join (.bin k a b) k x y

def names : T → List Str
  | .num _ => []
  | .of x => [x]
  | .un _ a => names a
  | .bin _ a b => names a ++ names b
  | .cho a b c => names a ++ (names b ++ names c)
def size : T → Nat
  | .num _ => 1
  | .of _ => 1
  | .un _ a => 1 + size a
  | .bin _ a b => 1 + (size a + size b)
  | .cho a b c => 1 + (size a + (size b + size c))
def depth : T → Nat
  | .num _ => 1
  | .of _ => 1
  | .un _ a => depth a + 1
  | .bin _ a b => max (depth a) (depth b) + 1
  | .cho a b c => max (depth a) (max (depth b) (depth c)) + 1

def v0 : Str → Str := fun _ => ""
def shows : T → Option Int
  | .num n => some n
  | .un .minus (.num n) => some (0 - n)
  | _ => none
def numT (z : Int) : T := if 0 ≤ z then .num z else .un .minus (.num (0 - z))
/-- what is done where the parts are not all numbers, or the whole gives an error; sh tells the number of a part -/
def rest (sh : T → Option Int) : T → T
  | .cho a b c => match sh a with
    | some z => if z = 0 then c else b
    | none => .cho a b c
  | .bin k a b => match sh a with
    | some x => if short k x = true then .num (b1 (!decide (x = 0))) else .bin k a b
    | none => .bin k a b
  | t => t
def kidsShow : T → Bool
  | .un _ a => (shows a).isSome
  | .bin _ a b => (shows a).isSome && (shows b).isSome
  | .cho a b c => (shows a).isSome && ((shows b).isSome && (shows c).isSome)
  | _ => true
def settle (t : T) : T := if kidsShow t = true then (match ev v0 t with
    | .ok z => numT z
    | .error _ => rest shows t) else rest shows t
def foldL : T → T
  | .num n => .num n
  | .of x => .of x
  | .un k a => settle (.un k (foldL a))
  | .bin k a b => settle (.bin k (foldL a) (foldL b))
  | .cho a b c => settle (.cho (foldL a) (foldL b) (foldL c))
def steady (t : T) : Option Int := if names t = [] then (match ev v0 t with
    | .ok z => some z
    | .error _ => none) else none
def setP (t : T) : T := match steady t with
  | some z => numT z
  | none => rest steady t
def foldP : T → T
  | .num n => .num n
  | .of x => .of x
  | .un k a => setP (.un k (foldP a))
  | .bin k a b => setP (.bin k (foldP a) (foldP b))
  | .cho a b c => setP (.cho (foldP a) (foldP b) (foldP c))
def mapEr (f : T → T) : Er → Er
  | .noInt s => .noInt s
  | .great t => .great (f t)
  | .zero t => .zero (f t)
def mapE (f : T → T) : Except Er Int → Except Er Int
  | .ok z => .ok z
  | .error e => .error (mapEr f e)

/-! ### what a part without names comes to -/
theorem ev_nonames {val : Str → Str} : ∀ {t : T}, names t = [] → ev val t = ev v0 t
  | .num n, _ => rfl
  | .of x, h => by cases h
  | .un k a, h => by
    have ih := ev_nonames (val := val) (t := a) h
    simp only [ev, ih]
  | .bin k a b, h => by
    obtain ⟨h1, h2⟩ := List.append_eq_nil_iff.mp (show names a ++ names b = [] from h)
    have i1 := ev_nonames (val := val) h1
    have i2 := ev_nonames (val := val) h2
    simp only [ev, i1, i2]
  | .cho a b c, h => by
    obtain ⟨h1, h2⟩ := List.append_eq_nil_iff.mp (show names a ++ (names b ++ names c) = [] from h)
    obtain ⟨h2, h3⟩ := List.append_eq_nil_iff.mp h2
    have i1 := ev_nonames (val := val) h1
    have i2 := ev_nonames (val := val) h2
    have i3 := ev_nonames (val := val) h3
    simp only [ev, i1, i2, i3]
theorem shows_ok {val : Str → Str} {p : T} {z : Int} (h : shows p = some z) : names p = [] ∧ ev val p = .ok z := by
  unfold shows at h
  split at h
  · cases h; exact ⟨rfl, rfl⟩
  · cases h
    refine ⟨rfl, ?_⟩
    rename_i n
    show Except.ok (-n) = Except.ok (0 - n)
    congr 1
    omega
  · cases h
theorem shows_numT (z : Int) : shows (numT z) = some z := by
  unfold numT
  split
  · rfl
  · show some (0 - (0 - z)) = some z
    congr 1
    omega
theorem ev_numT {val : Str → Str} (z : Int) : ev val (numT z) = .ok z := (shows_ok (shows_numT z)).2
theorem names_numT (z : Int) : names (numT z) = [] := (shows_ok (val := v0) (shows_numT z)).1
theorem steady_of_shows {p : T} {z : Int} (h : shows p = some z) : steady p = some z := by
  obtain ⟨h1, h2⟩ := shows_ok (val := v0) h
  unfold steady
  rw [if_pos h1, h2]
theorem steady_some {p : T} {z : Int} (h : steady p = some z) : names p = [] ∧ ev v0 p = .ok z := by
  unfold steady at h
  split at h
  · rename_i hn
    refine ⟨hn, ?_⟩
    split at h
    · cases h; assumption
    · cases h
  · cases h
theorem steady_none {p : T} (h : steady p = none) (hn : names p = []) : ∃ e, ev v0 p = .error e := by
  unfold steady at h
  rw [if_pos hn] at h
  split at h
  · cases h
  · exact ⟨_, by assumption⟩
/-- the law's look and the program's tell the same -/
structure G (p : T) : Prop where
  eq : shows p = steady p
  nf : ∀ z, shows p = some z → p = numT z
theorem G.some_of {p : T} {z : Int} (g : G p) (h : steady p = some z) : shows p = some z := by rw [← h]; exact g.eq
theorem G.none_of {p : T} (g : G p) (h : shows p = none) : steady p = none := by rw [← h]; exact g.eq.symm
theorem g_numT (z : Int) : G (numT z) := by
  have h := shows_numT z
  refine ⟨h.trans (steady_of_shows h).symm, fun y hy => ?_⟩
  rw [h] at hy
  cases hy
  rfl
theorem g_num {n : Int} (h : 0 ≤ n) : G (.num n) := by
  have e : T.num n = numT n := by unfold numT; rw [if_pos h]
  rw [e]
  exact g_numT n
theorem g_of (x : Str) : G (.of x) := by
  refine ⟨?_, fun z h => by cases h⟩
  show none = steady (.of x)
  unfold steady
  rw [if_neg (show ¬ names (.of x) = [] from fun h => by cases h)]

/-! ### steady of the whole, by its parts -/
theorem un_steady {k : UK} {a : T} : steady (.un k a) = (steady a).map (una k) := by
  unfold steady
  show (if names a = [] then _ else _) = _
  by_cases h : names a = []
  · rw [if_pos h, if_pos h]
    simp only [ev]
    cases ev v0 a <;> rfl
  · rw [if_neg h, if_neg h]
    rfl
theorem shows_un_none {k : UK} {a : T} (h : shows a = none) : shows (.un k a) = none := by
  cases k with
  | no => cases a <;> rfl
  | minus =>
    cases a with
    | num n => cases h
    | _ => rfl

theorem bin_err1 {val : Str → Str} {k : BK} {a b : T} {e : Er} (h : ev val a = .error e) : ev val (.bin k a b) = .error e := by simp only [ev, h]
theorem bin_short {val : Str → Str} {k : BK} {a b : T} {x : Int} (h : ev val a = .ok x) (s : short k x = true) : ev val (.bin k a b) = .ok (b1 (!decide (x = 0))) := by simp only [ev, h, s, if_true]
theorem bin_err2 {val : Str → Str} {k : BK} {a b : T} {x : Int} {e : Er} (h : ev val a = .ok x) (s : ¬ short k x = true) (h2 : ev val b = .error e) : ev val (.bin k a b) = .error e := by
  simp only [ev, h, h2]
  rw [if_neg s]
theorem bin_join {val : Str → Str} {k : BK} {a b : T} {x y : Int} (h : ev val a = .ok x) (s : ¬ short k x = true) (h2 : ev val b = .ok y) : ev val (.bin k a b) = join (.bin k a b) k x y := by
  simp only [ev, h, h2]
  rw [if_neg s]
theorem cho_err {val : Str → Str} {a b c : T} {e : Er} (h : ev val a = .error e) : ev val (.cho a b c) = .error e := by simp only [ev, h]
theorem cho_ok {val : Str → Str} {a b c : T} {x : Int} (h : ev val a = .ok x) : ev val (.cho a b c) = if x = 0 then ev val c else ev val b := by simp only [ev, h]

theorem nm2 {a b : T} {k : BK} : names (.bin k a b) = [] ↔ names a = [] ∧ names b = [] := List.append_eq_nil_iff
theorem nm3 {a b c : T} : names (.cho a b c) = [] ↔ names a = [] ∧ names b = [] ∧ names c = [] := by
  show names a ++ (names b ++ names c) = [] ↔ _
  rw [List.append_eq_nil_iff, List.append_eq_nil_iff]
theorem steady_no {t : T} (h : names t = [] → ∃ e, ev v0 t = .error e) : steady t = none := by
  unfold steady
  by_cases hn : names t = []
  · obtain ⟨e, he⟩ := h hn
    rw [if_pos hn, he]
  · rw [if_neg hn]
theorem steady_yes {t : T} {z : Int} (h : names t = []) (h2 : ev v0 t = .ok z) : steady t = some z := by
  unfold steady
  rw [if_pos h, h2]

/-- settle, case by case: where it parts are told -/
theorem settle_num {t : T} {z : Int} (h : kidsShow t = true) (h2 : ev v0 t = .ok z) : settle t = numT z := by
  unfold settle
  rw [if_pos h, h2]
theorem settle_err {t : T} {e : Er} (h2 : ev v0 t = .error e) : settle t = rest shows t := by
  unfold settle
  split
  · rw [h2]
  · rfl
theorem settle_not {t : T} (h : ¬ kidsShow t = true) : settle t = rest shows t := by
  unfold settle
  rw [if_neg h]

/-- the node's kids are such that both looks agree -/
def GK : T → Prop
  | .un _ a => G a
  | .bin _ a b => G a ∧ G b
  | .cho a b c => G a ∧ G b ∧ G c
  | _ => True
theorem kids_none : ∀ {t : T}, kidsShow t = true → (∀ n, t ≠ .num n) → (∀ x, t ≠ .of x) → names t = []
  | .num n, _, h, _ => absurd rfl (h n)
  | .of x, _, _, h => absurd rfl (h x)
  | .un k a, h, _, _ => by
    obtain ⟨z, hz⟩ := Option.isSome_iff_exists.mp h
    exact (shows_ok (val := v0) hz).1
  | .bin k a b, h, _, _ => by
    obtain ⟨h1, h2⟩ := Bool.and_eq_true_iff.mp h
    obtain ⟨z, hz⟩ := Option.isSome_iff_exists.mp h1
    obtain ⟨y, hy⟩ := Option.isSome_iff_exists.mp h2
    exact nm2.mpr ⟨(shows_ok (val := v0) hz).1, (shows_ok (val := v0) hy).1⟩
  | .cho a b c, h, _, _ => by
    obtain ⟨h1, h2⟩ := Bool.and_eq_true_iff.mp h
    obtain ⟨h2, h3⟩ := Bool.and_eq_true_iff.mp h2
    obtain ⟨z, hz⟩ := Option.isSome_iff_exists.mp h1
    obtain ⟨y, hy⟩ := Option.isSome_iff_exists.mp h2
    obtain ⟨x, hx⟩ := Option.isSome_iff_exists.mp h3
    exact nm3.mpr ⟨(shows_ok (val := v0) hz).1, (shows_ok (val := v0) hy).1, (shows_ok (val := v0) hx).1⟩

theorem G.sh_none {p : T} (g : G p) (h : steady p = none) : shows p = none := by rw [← h]; exact g.eq
/-- the program's way equals the law's -/
theorem setP_eq : ∀ {t : T}, GK t → (∀ n, t ≠ .num n) → (∀ x, t ≠ .of x) → setP t = settle t
  | .num n, _, h, _ => absurd rfl (h n)
  | .of x, _, _, h => absurd rfl (h x)
  | .un k a, g, _, _ => by
    have g : G a := g
    unfold setP
    rw [un_steady]
    cases e : steady a with
    | some z =>
      have hs := g.some_of e
      have h2 : ev v0 (.un k a) = .ok (una k z) := by simp only [ev, (shows_ok (val := v0) hs).2]
      rw [settle_num (t := .un k a) (show (shows a).isSome = true by rw [hs]; rfl) h2]
      rfl
    | none =>
      have hs := g.sh_none e
      rw [settle_not (t := .un k a) (show ¬ (shows a).isSome = true by rw [hs]; exact Bool.false_ne_true)]
      rfl
  | .bin k a b, g, _, _ => by
    obtain ⟨ga, gb⟩ : G a ∧ G b := g
    cases ea : steady a with
    | none =>
      have hs := ga.sh_none ea
      have hk : ¬ kidsShow (.bin k a b) = true := by
        show ¬ ((shows a).isSome && (shows b).isSome) = true
        rw [hs]; exact Bool.false_ne_true
      rw [settle_not hk]
      unfold setP
      rw [steady_no fun hn => by
        obtain ⟨e, he⟩ := steady_none ea (nm2.mp hn).1
        exact ⟨e, bin_err1 he⟩]
      show rest steady (.bin k a b) = rest shows (.bin k a b)
      simp only [rest, hs, ea]
    | some x =>
      have hs := ga.some_of ea
      obtain ⟨na, va⟩ := shows_ok (val := v0) hs
      have rr : rest steady (.bin k a b) = rest shows (.bin k a b) := by simp only [rest, hs, ea]
      cases eb : steady b with
      | none =>
        have hb := gb.sh_none eb
        have hk : ¬ kidsShow (.bin k a b) = true := by
          show ¬ ((shows a).isSome && (shows b).isSome) = true
          rw [hb, Bool.and_comm]; exact Bool.false_ne_true
        rw [settle_not hk]
        unfold setP
        by_cases s : short k x = true
        · by_cases nb : names b = []
          · rw [steady_yes (nm2.mpr ⟨na, nb⟩) (bin_short va s)]
            show numT _ = rest shows (.bin k a b)
            simp only [rest, hs]
            rw [if_pos s]
            unfold b1
            split <;> rfl
          · rw [steady_no fun hn => absurd (nm2.mp hn).2 nb]
            exact rr
        · rw [steady_no fun hn => by
            obtain ⟨e, he⟩ := steady_none eb (nm2.mp hn).2
            exact ⟨e, bin_err2 va s he⟩]
          exact rr
      | some y =>
        have hb := gb.some_of eb
        obtain ⟨nb, vb⟩ := shows_ok (val := v0) hb
        have hk : kidsShow (.bin k a b) = true := by
          show ((shows a).isSome && (shows b).isSome) = true
          rw [hs, hb]; rfl
        unfold setP
        cases e : ev v0 (.bin k a b) with
        | ok z =>
          rw [settle_num hk e, steady_yes (nm2.mpr ⟨na, nb⟩) e]
        | error e' =>
          rw [settle_err e, steady_no fun _ => ⟨_, e⟩]
          exact rr
  | .cho a b c, g, _, _ => by
    obtain ⟨ga, gb, gc⟩ : G a ∧ G b ∧ G c := g
    cases ea : steady a with
    | none =>
      have hs := ga.sh_none ea
      have hk : ¬ kidsShow (.cho a b c) = true := by
        show ¬ ((shows a).isSome && _) = true
        rw [hs]; exact Bool.false_ne_true
      rw [settle_not hk]
      unfold setP
      rw [steady_no fun hn => by
        obtain ⟨e, he⟩ := steady_none ea (nm3.mp hn).1
        exact ⟨e, cho_err he⟩]
      show rest steady (.cho a b c) = rest shows (.cho a b c)
      simp only [rest, hs, ea]
    | some x =>
      have hs := ga.some_of ea
      obtain ⟨na, va⟩ := shows_ok (val := v0) hs
      have rr : rest steady (.cho a b c) = rest shows (.cho a b c) := by simp only [rest, hs, ea]
      unfold setP
      cases est : steady (.cho a b c) with
      | none =>
        show rest steady (.cho a b c) = _
        rw [rr]
        cases hk : kidsShow (.cho a b c) with
        | false => rw [settle_not (by rw [hk]; exact Bool.false_ne_true)]
        | true =>
          have hn := kids_none hk (fun n h => nomatch h) (fun n h => nomatch h)
          obtain ⟨e, he⟩ := steady_none est hn
          rw [settle_err he]
      | some z =>
        obtain ⟨hn, hv⟩ := steady_some est
        show numT z = _
        obtain ⟨_, nb, nc⟩ := nm3.mp hn
        rw [cho_ok va] at hv
        cases hk : kidsShow (.cho a b c) with
        | true => rw [settle_num hk (z := z) (by rw [cho_ok va]; exact hv)]
        | false =>
          rw [settle_not (by rw [hk]; exact Bool.false_ne_true)]
          simp only [rest, hs]
          by_cases hx : x = 0
          · rw [if_pos hx] at hv ⊢
            exact (gc.nf z (gc.some_of (steady_yes nc hv))).symm
          · rw [if_neg hx] at hv ⊢
            exact (gb.nf z (gb.some_of (steady_yes nb hv))).symm

/-! ### settle, way by way -/
/-- what a settled node is -/
inductive Way (t : T) : T → Prop
  | num {z : Int} : names t = [] → ev v0 t = .ok z → Way t (numT z)
  | keep : shows t = none → steady t = none → Way t t
  | short {k : BK} {a b : T} {x : Int} : t = .bin k a b → shows a = some x → short k x = true → Way t (.num (b1 (!decide (x = 0))))
  | left {a b c : T} {z : Int} : t = .cho a b c → shows a = some z → ¬ z = 0 → Way t b
  | right {a b c : T} {z : Int} : t = .cho a b c → shows a = some z → z = 0 → Way t c
/-- a node: no leaf -/
def Node : T → Prop
  | .num _ => False
  | .of _ => False
  | _ => True
theorem way_of : ∀ {t : T}, GK t → Node t → Way t (settle t)
  | .num _, _, h => h.elim
  | .of _, _, h => h.elim
  | .un k a, g, _ => by
    have g : G a := g
    cases e : shows a with
    | some z =>
      obtain ⟨h1, h2⟩ := shows_ok (val := v0) e
      have hv : ev v0 (.un k a) = .ok (una k z) := by simp only [ev, h2]
      rw [settle_num (t := .un k a) (show (shows a).isSome = true by rw [e]; rfl) hv]
      exact .num h1 hv
    | none =>
      rw [settle_not (t := .un k a) (show ¬ (shows a).isSome = true by rw [e]; exact Bool.false_ne_true)]
      show Way (.un k a) (.un k a)
      exact .keep (shows_un_none e) (by rw [un_steady, g.none_of e]; rfl)
  | .bin k a b, g, _ => by
    obtain ⟨ga, gb⟩ : G a ∧ G b := g
    cases ea : shows a with
    | none =>
      have hk : ¬ kidsShow (.bin k a b) = true := by
        show ¬ ((shows a).isSome && (shows b).isSome) = true
        rw [ea]; exact Bool.false_ne_true
      rw [settle_not hk]
      have e : rest shows (.bin k a b) = .bin k a b := by simp only [rest, ea]
      rw [e]
      refine .keep rfl (steady_no fun hn => ?_)
      obtain ⟨e, he⟩ := steady_none (ga.none_of ea) (nm2.mp hn).1
      exact ⟨e, bin_err1 he⟩
    | some x =>
      obtain ⟨na, va⟩ := shows_ok (val := v0) ea
      by_cases s : short k x = true
      · have e : rest shows (.bin k a b) = .num (b1 (!decide (x = 0))) := by
          simp only [rest, ea]
          rw [if_pos s]
        have hv : ev v0 (.bin k a b) = .ok (b1 (!decide (x = 0))) := bin_short va s
        have e2 : settle (.bin k a b) = .num (b1 (!decide (x = 0))) := by
          by_cases hk : kidsShow (.bin k a b) = true
          · rw [settle_num hk hv]
            unfold numT b1
            split <;> rfl
          · rw [settle_not hk, e]
        rw [e2]
        exact .short rfl ea s
      · have e : rest shows (.bin k a b) = .bin k a b := by
          simp only [rest, ea]
          rw [if_neg s]
        cases eb : shows b with
        | none =>
          have hk : ¬ kidsShow (.bin k a b) = true := by
            show ¬ ((shows a).isSome && (shows b).isSome) = true
            rw [eb, Bool.and_comm]; exact Bool.false_ne_true
          rw [settle_not hk, e]
          refine .keep rfl (steady_no fun hn => ?_)
          obtain ⟨e, he⟩ := steady_none (gb.none_of eb) (nm2.mp hn).2
          exact ⟨e, bin_err2 va s he⟩
        | some y =>
          obtain ⟨nb, vb⟩ := shows_ok (val := v0) eb
          have hk : kidsShow (.bin k a b) = true := by
            show ((shows a).isSome && (shows b).isSome) = true
            rw [ea, eb]; rfl
          cases ev' : ev v0 (.bin k a b) with
          | ok z =>
            rw [settle_num hk ev']
            exact .num (nm2.mpr ⟨na, nb⟩) ev'
          | error er =>
            rw [settle_err ev', e]
            exact .keep rfl (steady_no fun _ => ⟨_, ev'⟩)
  | .cho a b c, g, _ => by
    obtain ⟨ga, gb, gc⟩ : G a ∧ G b ∧ G c := g
    cases ea : shows a with
    | none =>
      have hk : ¬ kidsShow (.cho a b c) = true := by
        show ¬ ((shows a).isSome && _) = true
        rw [ea]; exact Bool.false_ne_true
      have e : rest shows (.cho a b c) = .cho a b c := by simp only [rest, ea]
      rw [settle_not hk, e]
      refine .keep rfl (steady_no fun hn => ?_)
      obtain ⟨e, he⟩ := steady_none (ga.none_of ea) (nm3.mp hn).1
      exact ⟨e, cho_err he⟩
    | some x =>
      obtain ⟨na, va⟩ := shows_ok (val := v0) ea
      cases hk : kidsShow (.cho a b c) with
      | true =>
        have hn := kids_none hk (fun n h => nomatch h) (fun n h => nomatch h)
        cases ev' : ev v0 (.cho a b c) with
        | ok z =>
          rw [settle_num hk ev']
          exact .num hn ev'
        | error er =>
          -- a part that shows gives no error
          exfalso
          rw [cho_ok va] at ev'
          obtain ⟨h1, h2⟩ := Bool.and_eq_true_iff.mp (show ((shows a).isSome && ((shows b).isSome && (shows c).isSome)) = true from hk)
          obtain ⟨h2, h3⟩ := Bool.and_eq_true_iff.mp h2
          obtain ⟨y, hy⟩ := Option.isSome_iff_exists.mp h2
          obtain ⟨w, hw⟩ := Option.isSome_iff_exists.mp h3
          rw [(shows_ok (val := v0) hy).2, (shows_ok (val := v0) hw).2] at ev'
          split at ev' <;> cases ev'
      | false =>
        rw [settle_not (by rw [hk]; exact Bool.false_ne_true)]
        simp only [rest, ea]
        by_cases hx : x = 0
        · rw [if_pos hx]
          exact .right rfl ea hx
        · rw [if_neg hx]
          exact .left rfl ea hx

/-! ### a folded sum -/
/-- its numbers -/
def Nums (P : Int → Prop) : T → Prop
  | .num n => P n
  | .of _ => True
  | .un _ a => Nums P a
  | .bin _ a b => Nums P a ∧ Nums P b
  | .cho a b c => Nums P a ∧ Nums P b ∧ Nums P c
def In (n : Int) : Prop := 0 ≤ n ∧ n < 10 ^ 40
def small (z : Int) : Prop := ¬ Big z
theorem small_iff {z : Int} : small z ↔ -(10 ^ 40) < z ∧ z < 10 ^ 40 := by
  unfold small Big
  split <;> omega
theorem nums_numT {z : Int} (h : small z) : Nums In (numT z) := by
  rw [small_iff] at h
  unfold numT
  split
  · exact ⟨by assumption, h.2⟩
  · exact ⟨by omega, by omega⟩
theorem b1_cases (p : Bool) : b1 p = 0 ∨ b1 p = 1 := by cases p <;> simp [b1]
theorem b1_in (p : Bool) : In (b1 p) := by rcases b1_cases p with h | h <;> rw [h] <;> exact ⟨by decide, by decide⟩
theorem b1_small (p : Bool) : small (b1 p) := by rw [small_iff]; rcases b1_cases p with h | h <;> rw [h] <;> exact ⟨by decide, by decide⟩
theorem join_small {t : T} {k : BK} {x y z : Int} (h : join t k x y = .ok z) : small z := by
  unfold join bnd at h
  split at h
  · cases h
  · split at h
    · cases h
    · cases h; assumption
theorem ev_small {t : T} : ∀ {z : Int}, Nums In t → ev v0 t = .ok z → small z := by
  induction t with
  | num n =>
    intro z hN h
    cases h
    have := hN.1
    have := hN.2
    rw [small_iff]
    exact ⟨by omega, by omega⟩
  | of x =>
    intro z hN h
    have e : ev v0 (.of x) = .ok 0 := rfl
    rw [e] at h
    cases h
    rw [small_iff]
    exact ⟨by decide, by decide⟩
  | un k a ih =>
    intro z hN h
    simp only [ev] at h
    split at h
    · cases h
    · rename_i y hy
      cases h
      have := ih hN hy
      rw [small_iff] at this
      cases k with
      | minus => rw [small_iff]; show -(10 ^ 40) < -y ∧ -y < 10 ^ 40; omega
      | no => exact b1_small _
  | bin k a b iha ihb =>
    intro z hN h
    simp only [ev] at h
    split at h
    · cases h
    · split at h
      · cases h
        exact b1_small _
      · split at h
        · cases h
        · exact join_small h
  | cho a b c iha ihb ihc =>
    intro z hN h
    simp only [ev] at h
    split at h
    · cases h
    · split at h
      · exact ihc hN.2.2 h
      · exact ihb hN.2.1 h
/-- all of it: what is needed of a folded sum f of t -/
structure FT (t f : T) : Prop where
  g : G f
  nums : Nums In f
  fix : foldL f = f
  sub : (names f).Sublist (names t)
  dep : depth f ≤ depth t

theorem foldL_numT (z : Int) : foldL (numT z) = numT z := by
  by_cases h : 0 ≤ z
  · have e : numT z = .num z := by unfold numT; rw [if_pos h]
    rw [e]; rfl
  · have e : numT z = .un .minus (.num (0 - z)) := by unfold numT; rw [if_neg h]
    rw [e]
    show settle (.un .minus (.num (0 - z))) = _
    have hv : ev v0 (.un .minus (.num (0 - z))) = .ok z := by
      show Except.ok (-(0 - z)) = Except.ok z
      congr 1
      omega
    rw [settle_num (t := .un .minus (.num (0 - z))) rfl hv, e]
theorem foldL_node : ∀ {t : T}, Node t → (∀ p, (match t with | .un _ a => p = a | .bin _ a b => p = a ∨ p = b | .cho a b c => p = a ∨ p = b ∨ p = c | _ => False) → foldL p = p) → foldL t = settle t
  | .num _, h, _ => h.elim
  | .of _, h, _ => h.elim
  | .un k a, _, h => by
    show settle (.un k (foldL a)) = _
    rw [h a rfl]
  | .bin k a b, _, h => by
    show settle (.bin k (foldL a) (foldL b)) = _
    rw [h a (.inl rfl), h b (.inr rfl)]
  | .cho a b c, _, h => by
    show settle (.cho (foldL a) (foldL b) (foldL c)) = _
    rw [h a (.inl rfl), h b (.inr (.inl rfl)), h c (.inr (.inr rfl))]
theorem depth_pos : ∀ t : T, 1 ≤ depth t
  | .num _ => Nat.le_refl _
  | .of _ => Nat.le_refl _
  | .un _ _ => Nat.le_add_left _ _
  | .bin _ _ _ => Nat.le_add_left _ _
  | .cho _ _ _ => Nat.le_add_left _ _
theorem depth_numT (z : Int) : depth (numT z) ≤ 2 := by
  unfold numT
  split
  · exact Nat.le_succ 1
  · exact Nat.le_refl 2
theorem size_numT (z : Int) : size (numT z) ≤ 2 := by
  unfold numT
  split
  · exact Nat.le_succ 1
  · exact Nat.le_refl 2
theorem size_pos : ∀ t : T, 1 ≤ size t
  | .num _ => Nat.le_refl _
  | .of _ => Nat.le_refl _
  | .un _ _ => Nat.le_add_right _ _
  | .bin _ _ _ => Nat.le_add_right _ _
  | .cho _ _ _ => Nat.le_add_right _ _

theorem sub_app {α : Type} {a b c d : List α} (h : a.Sublist b) (h2 : c.Sublist d) : (a ++ c).Sublist (b ++ d) := h.append h2
theorem ft_num {t : T} {z : Int} (hs : small z) (h2 : 2 ≤ depth t) : FT t (numT z) :=
  ⟨g_numT z, nums_numT hs, foldL_numT z, by rw [names_numT]; exact List.nil_sublist _, Nat.le_trans (depth_numT z) h2⟩
theorem ft_b1 {t : T} (p : Bool) : FT t (.num (b1 p)) :=
  ⟨g_num (b1_in p).1, b1_in p, rfl, List.nil_sublist _, depth_pos t⟩
theorem folded_ok : ∀ t : T, Nums In t → FT t (foldL t)
  | .num n, h => ⟨g_num h.1, h, rfl, List.Sublist.refl _, Nat.le_refl _⟩
  | .of x, h => ⟨g_of x, trivial, rfl, List.Sublist.refl _, Nat.le_refl _⟩
  | .un k a, h => by
    have ia := folded_ok a h
    have hn : Node (.un k (foldL a)) := trivial
    have hg : GK (.un k (foldL a)) := ia.g
    have hN : Nums In (.un k (foldL a)) := ia.nums
    have h2 : 2 ≤ depth (.un k a) := Nat.succ_le_succ (depth_pos a)
    have hfix : foldL (.un k (foldL a)) = settle (.un k (foldL a)) := foldL_node hn fun p e => by
      have e : p = foldL a := e
      rw [e, ia.fix]
    show FT (.un k a) (settle (.un k (foldL a)))
    have W := way_of hg hn
    generalize hf : settle (.un k (foldL a)) = f at W hfix ⊢
    cases W with
    | num h1 h3 => exact ft_num (ev_small hN h3) h2
    | keep h1 h3 => exact ⟨⟨h1.trans h3.symm, fun z e => by rw [h1] at e; cases e⟩, hN, hfix, ia.sub, Nat.succ_le_succ ia.dep⟩
    | short e => cases e
    | left e => cases e
    | right e => cases e
  | .bin k a b, h => by
    have ia := folded_ok a h.1
    have ib := folded_ok b h.2
    have hn : Node (.bin k (foldL a) (foldL b)) := trivial
    have hg : GK (.bin k (foldL a) (foldL b)) := ⟨ia.g, ib.g⟩
    have hN : Nums In (.bin k (foldL a) (foldL b)) := ⟨ia.nums, ib.nums⟩
    have h2 : 2 ≤ depth (.bin k a b) := Nat.succ_le_succ (Nat.le_trans (depth_pos a) (Nat.le_max_left _ _))
    have hfix : foldL (.bin k (foldL a) (foldL b)) = settle (.bin k (foldL a) (foldL b)) := foldL_node hn fun p e => by
      have e : p = foldL a ∨ p = foldL b := e
      rcases e with e | e
      · rw [e, ia.fix]
      · rw [e, ib.fix]
    show FT (.bin k a b) (settle (.bin k (foldL a) (foldL b)))
    have W := way_of hg hn
    generalize hf : settle (.bin k (foldL a) (foldL b)) = f at W hfix ⊢
    cases W with
    | num h1 h3 => exact ft_num (ev_small hN h3) h2
    | keep h1 h3 =>
      refine ⟨⟨h1.trans h3.symm, fun z e => by rw [h1] at e; cases e⟩, hN, hfix, sub_app ia.sub ib.sub, ?_⟩
      have := ia.dep
      have := ib.dep
      show max _ _ + 1 ≤ max _ _ + 1
      omega
    | short e => exact ft_b1 _
    | left e => cases e
    | right e => cases e
  | .cho a b c, h => by
    have ia := folded_ok a h.1
    have ib := folded_ok b h.2.1
    have ic := folded_ok c h.2.2
    have hn : Node (.cho (foldL a) (foldL b) (foldL c)) := trivial
    have hg : GK (.cho (foldL a) (foldL b) (foldL c)) := ⟨ia.g, ib.g, ic.g⟩
    have hN : Nums In (.cho (foldL a) (foldL b) (foldL c)) := ⟨ia.nums, ib.nums, ic.nums⟩
    have h2 : 2 ≤ depth (.cho a b c) := Nat.succ_le_succ (Nat.le_trans (depth_pos a) (Nat.le_max_left _ _))
    have hfix : foldL (.cho (foldL a) (foldL b) (foldL c)) = settle (.cho (foldL a) (foldL b) (foldL c)) := foldL_node hn fun p e => by
      have e : p = foldL a ∨ p = foldL b ∨ p = foldL c := e
      rcases e with e | e | e
      · rw [e, ia.fix]
      · rw [e, ib.fix]
      · rw [e, ic.fix]
    show FT (.cho a b c) (settle (.cho (foldL a) (foldL b) (foldL c)))
    have W := way_of hg hn
    have da := ia.dep
    have db := ib.dep
    have dc := ic.dep
    generalize hf : settle (.cho (foldL a) (foldL b) (foldL c)) = f at W hfix ⊢
    cases W with
    | num h1 h3 => exact ft_num (ev_small hN h3) h2
    | keep h1 h3 =>
      refine ⟨⟨h1.trans h3.symm, fun z e => by rw [h1] at e; cases e⟩, hN, hfix, sub_app ia.sub (sub_app ib.sub ic.sub), ?_⟩
      show max _ (max _ _) + 1 ≤ max _ (max _ _) + 1
      omega
    | short e => cases e
    | left e =>
      cases e
      refine ⟨ib.g, ib.nums, ib.fix, ib.sub.trans ((List.sublist_append_left _ _).trans (List.sublist_append_right _ _)), ?_⟩
      show depth (foldL b) ≤ max _ (max _ _) + 1
      omega
    | right e =>
      cases e
      refine ⟨ic.g, ic.nums, ic.fix, ic.sub.trans ((List.sublist_append_right _ _).trans (List.sublist_append_right _ _)), ?_⟩
      show depth (foldL c) ≤ max _ (max _ _) + 1
      omega
theorem foldP_eq : ∀ t : T, Nums In t → foldP t = foldL t
  | .num n, h => rfl
  | .of x, h => rfl
  | .un k a, h => by
    show setP (.un k (foldP a)) = settle (.un k (foldL a))
    rw [foldP_eq a h]
    exact setP_eq (folded_ok a h).g (fun n e => nomatch e) (fun n e => nomatch e)
  | .bin k a b, h => by
    show setP (.bin k (foldP a) (foldP b)) = settle (.bin k (foldL a) (foldL b))
    rw [foldP_eq a h.1, foldP_eq b h.2]
    exact setP_eq (show GK (.bin k (foldL a) (foldL b)) from ⟨(folded_ok a h.1).g, (folded_ok b h.2).g⟩) (fun n e => nomatch e) (fun n e => nomatch e)
  | .cho a b c, h => by
    show setP (.cho (foldP a) (foldP b) (foldP c)) = settle (.cho (foldL a) (foldL b) (foldL c))
    rw [foldP_eq a h.1, foldP_eq b h.2.1, foldP_eq c h.2.2]
    exact setP_eq (show GK (.cho (foldL a) (foldL b) (foldL c)) from ⟨(folded_ok a h.1).g, (folded_ok b h.2.1).g, (folded_ok c h.2.2).g⟩) (fun n e => nomatch e) (fun n e => nomatch e)

/-- settling keeps what a sum comes to, error and all -/
theorem ev_settle {val : Str → Str} {t : T} (hg : GK t) (hn : Node t) : ev val (settle t) = ev val t := by
  have W := way_of hg hn
  generalize hf : settle t = f at W
  cases W with
  | num h1 h3 => rw [ev_numT, ev_nonames h1, h3]
  | keep h1 h3 => rfl
  | short e h1 h2 =>
    subst e
    rw [bin_short (shows_ok h1).2 h2]
    rfl
  | left e h1 h2 =>
    subst e
    rw [cho_ok (shows_ok h1).2, if_neg h2]
  | right e h1 h2 =>
    subst e
    rw [cho_ok (shows_ok h1).2, if_pos h2]
/-- where the error is the sum's own it was kept -/
theorem settle_kept {val : Str → Str} {k : BK} {a b : T} {x : Int} {e : Er} (hg : GK (.bin k a b)) (h1 : ev val a = .ok x) (s : ¬ short k x = true) (h : ev val (.bin k a b) = .error e) : settle (.bin k a b) = .bin k a b := by
  have W := way_of hg (show Node (.bin k a b) from trivial)
  generalize hf : settle (.bin k a b) = f at W
  cases W with
  | num n1 n3 =>
    rw [ev_nonames n1, n3] at h
    cases h
  | keep => rfl
  | short e2 s1 s2 =>
    cases e2
    rw [(shows_ok s1).2] at h1
    cases h1
    exact absurd s2 s
  | left e2 => cases e2
  | right e2 => cases e2
theorem ev_fold (val : Str → Str) : ∀ t : T, Nums In t → ev val (foldL t) = mapE foldL (ev val t)
  | .num n, h => rfl
  | .of x, h => by
    show ev val (.of x) = mapE foldL (ev val (.of x))
    simp only [ev]
    cases txt (val x) <;> rfl
  | .un k a, h => by
    have ia := ev_fold val a h
    show ev val (settle (.un k (foldL a))) = _
    rw [ev_settle (show GK (.un k (foldL a)) from (folded_ok a h).g) trivial]
    simp only [ev, ia]
    cases ev val a <;> rfl
  | .bin k a b, h => by
    have ia := ev_fold val a h.1
    have ib := ev_fold val b h.2
    have hg : GK (.bin k (foldL a) (foldL b)) := ⟨(folded_ok a h.1).g, (folded_ok b h.2).g⟩
    have hn : Node (.bin k (foldL a) (foldL b)) := trivial
    show ev val (settle (.bin k (foldL a) (foldL b))) = _
    rw [ev_settle hg hn]
    cases ea : ev val a with
    | error e =>
      rw [ea] at ia
      rw [bin_err1 ea, bin_err1 (show ev val (foldL a) = .error (mapEr foldL e) from ia)]
      rfl
    | ok x =>
      rw [ea] at ia
      have ia : ev val (foldL a) = .ok x := ia
      by_cases s : short k x = true
      · rw [bin_short ea s, bin_short ia s]
        rfl
      · cases eb : ev val b with
        | error e =>
          rw [eb] at ib
          rw [bin_err2 ea s eb, bin_err2 ia s (show ev val (foldL b) = .error (mapEr foldL e) from ib)]
          rfl
        | ok y =>
          rw [eb] at ib
          have ib : ev val (foldL b) = .ok y := ib
          have hl := bin_join (k := k) ia s ib
          rw [bin_join ea s eb, hl]
          have keep : ∀ e, join (.bin k (foldL a) (foldL b)) k x y = .error e → foldL (.bin k a b) = .bin k (foldL a) (foldL b) := fun e he =>
            settle_kept hg ia s (hl.trans he)
          unfold join bnd at keep ⊢
          by_cases c1 : isDiv k = true ∧ y = 0
          · rw [if_pos c1] at keep
            rw [if_pos c1, if_pos c1]
            have := keep _ rfl
            show _ = Except.error (Er.zero (foldL (.bin k a b)))
            rw [this]
          · rw [if_neg c1] at keep
            rw [if_neg c1, if_neg c1]
            by_cases c2 : Big (calcB k x y)
            · rw [if_pos c2] at keep
              rw [if_pos c2, if_pos c2]
              have := keep _ rfl
              show _ = Except.error (Er.great (foldL (.bin k a b)))
              rw [this]
            · rw [if_neg c2, if_neg c2]
              rfl
  | .cho a b c, h => by
    have ia := ev_fold val a h.1
    have ib := ev_fold val b h.2.1
    have ic := ev_fold val c h.2.2
    have hg : GK (.cho (foldL a) (foldL b) (foldL c)) := ⟨(folded_ok a h.1).g, (folded_ok b h.2.1).g, (folded_ok c h.2.2).g⟩
    show ev val (settle (.cho (foldL a) (foldL b) (foldL c))) = _
    rw [ev_settle hg trivial]
    cases ea : ev val a with
    | error e =>
      rw [ea] at ia
      rw [cho_err ea, cho_err (show ev val (foldL a) = .error (mapEr foldL e) from ia)]
      rfl
    | ok x =>
      rw [ea] at ia
      rw [cho_ok ea, cho_ok (show ev val (foldL a) = .ok x from ia), ib, ic]
      split <;> rfl
/-- without names no value is looked at -/
theorem ev_noInt : ∀ {t : T} {s : Str}, ev v0 t = .error (.noInt s) → names t ≠ []
  | .num n, s, h => by cases h
  | .of x, s, h => by exact fun z => by cases z
  | .un k a, s, h => by
    simp only [ev] at h
    split at h
    · rename_i e he
      cases h
      exact ev_noInt (t := a) he
    · cases h
  | .bin k a b, s, h => by
    intro hn
    obtain ⟨h1, h2⟩ := nm2.mp hn
    simp only [ev] at h
    split at h
    · rename_i e he
      cases h
      exact ev_noInt he h1
    · split at h
      · cases h
      · split at h
        · rename_i e he
          cases h
          exact ev_noInt he h2
        · unfold join bnd at h
          split at h
          · cases h
          · split at h <;> cases h
  | .cho a b c, s, h => by
    intro hn
    obtain ⟨h1, h2, h3⟩ := nm3.mp hn
    simp only [ev] at h
    split at h
    · rename_i e he
      cases h
      exact ev_noInt he h1
    · split at h
      · exact ev_noInt h h3
      · exact ev_noInt h h2
end K19
/-! What all the walks share. -/
namespace K19
open PySem L2
def topS (i : Nat) : Stmt := PySem.Challenge.pw_quotedback_k19_whole_folded_sums.main.body.getD i (.Pass ⟨0, 0, 0, 0⟩)
/-- the built-ins' names are no names of the module -/
structure Bt (mg : Str → Option Value) : Prop where
  isinstance : mg "isinstance" = none
  list : mg "list" = none
  tuple : mg "tuple" = none
  dict : mg "dict" = none
  int : mg "int" = none
  bool : mg "bool" = none
  str : mg "str" = none
  all : mg "all" = none
  len : mg "len" = none
  enumerate : mg "enumerate" = none
  abs : mg "abs" = none
  max : mg "max" = none
  min : mg "min" = none
  sorted : mg "sorted" = none
  set : mg "set" = none
  range : mg "range" = none
  sum : mg "sum" = none
  valueError : mg "ValueError" = none

/-! ### heaps -/
/-- tuples stand -/
def Tk (H H' : Hp) : Prop := ∀ a xs, H a = some (.tup xs) → H' a = some (.tup xs)
theorem Tk.refl (H : Hp) : Tk H H := fun _ _ h => h
theorem Tk.trans {H H1 H2 : Hp} (a : Tk H H1) (b : Tk H1 H2) : Tk H H2 := fun c o h => b c o (a c o h)
theorem tk_same {H H' : Hp} (s : Same H H') : Tk H H' := fun a xs h => s a _ h
theorem same_new {H : Hp} {p : Addr} (h : H p = none) (o : HO) : Same H (upd H p o) := fun b u q => by rw [upd_ne (ne_of_none q h)]; exact q
theorem tk_upd {H : Hp} {p : Addr} {o : HO} (h : ∀ xs, H p ≠ some (.tup xs)) : Tk H (upd H p o) := fun a xs q => by
  have n : a ≠ p := fun e => h xs (e ▸ q)
  rw [upd_ne n]; exact q
/-- all but p as before -/
def But (p : Addr) (H H' : Hp) : Prop := ∀ b o, b ≠ p → H b = some o → H' b = some o
theorem But.trans {p : Addr} {H H1 H2 : Hp} (a : But p H H1) (b : But p H1 H2) : But p H H2 := fun c o n h => b c o n (a c o n h)
theorem But.refl (p : Addr) (H : Hp) : But p H H := fun _ _ _ h => h
theorem but_same {p : Addr} {H H' : Hp} (s : Same H H') : But p H H' := fun b o _ h => s b o h
theorem but_upd {p : Addr} {H : Hp} {o : HO} : But p H (upd H p o) := fun b u n h => by rw [upd_ne n]; exact h
theorem same_but {p : Addr} {H H1 H2 : Hp} (s : Same H H1) (n : H p = none) (b : But p H1 H2) : Same H H2 := fun c o h => b c o (ne_of_none h n) (s c o h)
theorem seqT {K : PySem.W.Frag} {H H' : Hp} {a : Addr} {xs : List V} (e : Same H H') (h : SqT K H a xs) : SqT K H' a xs := by
  rcases h with (h | ⟨o, h⟩) | h
  · exact .inl (.inl (e _ _ h))
  · exact .inl (.inr ⟨o, e _ _ h⟩)
  · exact .inr h
/-- a comprehension: its items as R tells, the heap else as it was -/
theorem lc_rel {J : It} {n : Nat} {G : Hp → Prop} {Y : Nat → Hp → V → Hp → Prop} (w : Walk J n G Y) {g : TG} {tt : TT} {te : TE} {vs : List Nat} {σ : St} {H1 : Hp} {D : Addr} {Qd : Hp → Prop}
    (R : Nat → V → Hp → Prop) (hn : n ≤ 1000) (hD : H1 D = none) (hG : ∀ H, Same H1 H → G H) (hR : ∀ i y H H', Tk H H' → R i y H → R i y H')
    (hs : ∀ i x H H', i < n → Same H1 H → Y i H x H' → ∀ (k : V → Hp → Prop) (z : Hp → Prop), (∀ y H4, Same H H4 → R i y H4 → k y H4) → g x (wipe σ vs) H' fun σ2 H2 => wipe σ2 vs = wipe σ vs ∧ tt σ2 H2 fun b H3 =>
      if b = true then te σ2 H3 k else z H3)
    (hd : ∀ H acc, Same H1 H → H D = some (.lst acc) → acc.length = n → (∀ i y, acc[i]? = some y → R i y H) → Qd H) :
    ∃ W : Nat → Nat → Hp → Prop, (∃ m, W 0 m (upd H1 D (.lst []))) ∧ ∀ i m H, W i m H →
      (J.stop i H ∧ Qd H) ∨ (J.go i H ∧ ∃ Nx : Hp → Prop, (∀ H', Nx H' → ∃ m', m' < m ∧ W (i + 1) m' H') ∧ ∀ x H', J.yld i H x H' → g x (wipe σ vs) H' fun σ2 H2 => wipe σ2 vs = wipe σ vs ∧ tt σ2 H2 fun b H3 =>
        if b = true then te σ2 H3 fun y H4 => ∃ acc, H4 D = some (.lst acc) ∧ acc.length < sizeLine ∧ Nx (upd H4 D (.lst (acc ++ [y]))) else Nx H3) := by
  refine lc_it w (fun i H => Same H1 H ∧ ∃ acc, H D = some (.lst acc) ∧ acc.length = i ∧ ∀ j y, acc[j]? = some y → R j y H) ⟨same_new hD _, [], upd_same, rfl, fun j y e => by simp at e⟩ (fun i H _ p => hG H p.1) ?_ ?_
  · rintro i x H H' hi ⟨s1, acc, ha, hl, hr⟩ hy
    refine hs i x H H' hi s1 hy _ _ fun y H4 s4 ry => ⟨acc, s4 _ _ ha, Nat.lt_of_lt_of_le (Nat.lt_of_le_of_lt (Nat.le_of_eq hl) hi) (Nat.le_of_lt (small1000 hn)), fun b o q => ?_, acc ++ [y], upd_same, by rw [List.length_append, hl]; rfl, fun j z e => ?_⟩
    · rw [upd_ne (ne_of_none q hD)]
      exact s4 _ _ (s1 _ _ q)
    · have t : Tk H4 (upd H4 D (.lst (acc ++ [y]))) := tk_upd fun xs q => by rw [s4 _ _ ha] at q; cases q
      by_cases hj : j < acc.length
      · rw [List.getElem?_append_left hj] at e
        exact hR j z H _ ((tk_same s4).trans t) (hr j z e)
      · have hj2 : j = acc.length := by
          have := (List.getElem?_eq_some_iff.mp e).1
          rw [List.length_append, List.length_singleton] at this
          omega
        rw [hj2, List.getElem?_append_right (Nat.le_refl _), Nat.sub_self] at e
        have e : y = z := Option.some.inj e
        rw [← e, hj2, hl]
        exact hR i y H4 _ t ry
  · rintro H ⟨s1, acc, ha, hl, hr⟩
    exact hd H acc s1 ha hl hr
/-- .. where the items are told by their place alone -/
theorem lc_map {J : It} {n : Nat} {G : Hp → Prop} {Y : Nat → Hp → V → Hp → Prop} (w : Walk J n G Y) {g : TG} {tt : TT} {te : TE} {vs : List Nat} {σ : St} {H1 : Hp} {D : Addr} {Qd : Hp → Prop}
    (xs : List V) (hx : xs.length = n) (hn : n ≤ 1000) (hD : H1 D = none) (hG : ∀ H, Same H1 H → G H)
    (hs : ∀ i x H H' y, xs[i]? = some y → Same H1 H → Y i H x H' → ∀ (k : V → Hp → Prop) (z : Hp → Prop), (∀ H4, Same H H4 → k y H4) → g x (wipe σ vs) H' fun σ2 H2 => wipe σ2 vs = wipe σ vs ∧ tt σ2 H2 fun b H3 =>
      if b = true then te σ2 H3 k else z H3)
    (hd : ∀ H, Same H1 H → H D = some (.lst xs) → Qd H) :
    ∃ W : Nat → Nat → Hp → Prop, (∃ m, W 0 m (upd H1 D (.lst []))) ∧ ∀ i m H, W i m H →
      (J.stop i H ∧ Qd H) ∨ (J.go i H ∧ ∃ Nx : Hp → Prop, (∀ H', Nx H' → ∃ m', m' < m ∧ W (i + 1) m' H') ∧ ∀ x H', J.yld i H x H' → g x (wipe σ vs) H' fun σ2 H2 => wipe σ2 vs = wipe σ vs ∧ tt σ2 H2 fun b H3 =>
        if b = true then te σ2 H3 fun y H4 => ∃ acc, H4 D = some (.lst acc) ∧ acc.length < sizeLine ∧ Nx (upd H4 D (.lst (acc ++ [y]))) else Nx H3) := by
  refine lc_rel w (fun i y _ => xs[i]? = some y) hn hD hG (fun _ _ _ _ _ h => h) (fun i x H H' hi s hy k z hk => ?_) fun H acc s ha hl hr => hd H s ?_
  · have e : xs[i]? = some (xs[i]'(by omega)) := List.getElem?_eq_getElem (by omega)
    exact hs i x H H' _ e s hy k z fun H4 s4 => hk _ H4 s4 e
  · have : acc = xs := by
      apply List.ext_getElem?
      intro i
      cases e : acc[i]? with
      | some y => exact (hr i y e).symm
      | none =>
        have := List.getElem?_eq_none_iff.mp e
        exact (List.getElem?_eq_none_iff.mpr (by omega)).symm
    rw [← this]
    exact ha

theorem yes_eq {σ : St} {H : Hp} {te : TE} {k : V → Hp → Prop} {z : Hp → Prop} : (tYes σ H fun b H3 => if b = true then te σ H3 k else z H3) = te σ H k := by
  show (if true = true then te σ H k else z H) = _
  exact if_pos rfl
/-- without an if -/
theorem lc_relY {J : It} {n : Nat} {G : Hp → Prop} {Y : Nat → Hp → V → Hp → Prop} (w : Walk J n G Y) {g : TG} {te : TE} {vs : List Nat} {σ : St} {H1 : Hp} {D : Addr} {Qd : Hp → Prop}
    (R : Nat → V → Hp → Prop) (hn : n ≤ 1000) (hD : H1 D = none) (hG : ∀ H, Same H1 H → G H) (hR : ∀ i y H H', Tk H H' → R i y H → R i y H')
    (hs : ∀ i x H H', i < n → Same H1 H → Y i H x H' → ∀ (k : V → Hp → Prop), (∀ y H4, Same H H4 → R i y H4 → k y H4) → g x (wipe σ vs) H' fun σ2 H2 => wipe σ2 vs = wipe σ vs ∧ te σ2 H2 k)
    (hd : ∀ H acc, Same H1 H → H D = some (.lst acc) → acc.length = n → (∀ i y, acc[i]? = some y → R i y H) → Qd H) :
    ∃ W : Nat → Nat → Hp → Prop, (∃ m, W 0 m (upd H1 D (.lst []))) ∧ ∀ i m H, W i m H →
      (J.stop i H ∧ Qd H) ∨ (J.go i H ∧ ∃ Nx : Hp → Prop, (∀ H', Nx H' → ∃ m', m' < m ∧ W (i + 1) m' H') ∧ ∀ x H', J.yld i H x H' → g x (wipe σ vs) H' fun σ2 H2 => wipe σ2 vs = wipe σ vs ∧ tYes σ2 H2 fun b H3 =>
        if b = true then te σ2 H3 fun y H4 => ∃ acc, H4 D = some (.lst acc) ∧ acc.length < sizeLine ∧ Nx (upd H4 D (.lst (acc ++ [y]))) else Nx H3) := by
  refine lc_rel w R hn hD hG hR (fun i x H H' hi s1 hy k z hk => ?_) hd
  have e : (fun (σ2 : St) (H2 : Hp) => wipe σ2 vs = wipe σ vs ∧ tYes σ2 H2 fun b H3 => if b = true then te σ2 H3 k else z H3) = fun σ2 H2 => wipe σ2 vs = wipe σ vs ∧ te σ2 H2 k := by
    funext σ2 H2
    rw [yes_eq]
  rw [e]
  exact hs i x H H' hi s1 hy k hk
theorem lc_mapY {J : It} {n : Nat} {G : Hp → Prop} {Y : Nat → Hp → V → Hp → Prop} (w : Walk J n G Y) {g : TG} {te : TE} {vs : List Nat} {σ : St} {H1 : Hp} {D : Addr} {Qd : Hp → Prop}
    (xs : List V) (hx : xs.length = n) (hn : n ≤ 1000) (hD : H1 D = none) (hG : ∀ H, Same H1 H → G H)
    (hs : ∀ i x H H' y, xs[i]? = some y → Same H1 H → Y i H x H' → ∀ (k : V → Hp → Prop), (∀ H4, Same H H4 → k y H4) → g x (wipe σ vs) H' fun σ2 H2 => wipe σ2 vs = wipe σ vs ∧ te σ2 H2 k)
    (hd : ∀ H, Same H1 H → H D = some (.lst xs) → Qd H) :
    ∃ W : Nat → Nat → Hp → Prop, (∃ m, W 0 m (upd H1 D (.lst []))) ∧ ∀ i m H, W i m H →
      (J.stop i H ∧ Qd H) ∨ (J.go i H ∧ ∃ Nx : Hp → Prop, (∀ H', Nx H' → ∃ m', m' < m ∧ W (i + 1) m' H') ∧ ∀ x H', J.yld i H x H' → g x (wipe σ vs) H' fun σ2 H2 => wipe σ2 vs = wipe σ vs ∧ tYes σ2 H2 fun b H3 =>
        if b = true then te σ2 H3 fun y H4 => ∃ acc, H4 D = some (.lst acc) ∧ acc.length < sizeLine ∧ Nx (upd H4 D (.lst (acc ++ [y]))) else Nx H3) := by
  refine lc_map w xs hx hn hD hG (fun i x H H' y e s1 hy k z hk => ?_) hd
  have e2 : (fun (σ2 : St) (H2 : Hp) => wipe σ2 vs = wipe σ vs ∧ tYes σ2 H2 fun b H3 => if b = true then te σ2 H3 k else z H3) = fun σ2 H2 => wipe σ2 vs = wipe σ vs ∧ te σ2 H2 k := by
    funext σ2 H2
    rw [yes_eq]
  rw [e2]
  exact hs i x H H' y e s1 hy k hk

/-! ### defs that stand at the top -/
/-- the def x of the text st stands at the top -/
def Def (K : PySem.W.Frag) (mg : Str → Option Value) (x : Str) (st : Stmt) (ps : List Str) : Prop :=
  ∃ f fd, Fun K x x st f fd ∧ mg x = some (.ref f) ∧ Binds K fd ps []
/-- it keeps the promise sp by k levels -/
def Cal (P : Program) (w : World) (K : PySem.W.Frag) (mg : Str → Option Value) (base : Heap) (CX : CXT) (k : Nat) (x : Str) (ps : List Str) (sp : Sp) : Prop :=
  ∃ f fd, FnOk P w K mg base CX k f fd ps sp ∧ mg x = some (.ref f) ∧ PySem.W.keepIn K (.ref f) = true ∧ Binds K fd ps []
section
variable {P : Program} {w : World} {K : PySem.W.Frag} {mg : Str → Option Value} {base : Heap} {CX : CXT} {x : Str} {st : Stmt} {ps : List Str} {sp : Sp}
theorem Def.cal {k : Nat} (D : Def K mg x st ps) (h : ∀ f fd, Fun K x x st f fd → FnOk P w K mg base CX k f fd ps sp) : Cal P w K mg base CX k x ps sp := by
  obtain ⟨f, fd, F, m, b⟩ := D
  exact ⟨f, fd, h f fd F, m, F.kp, b⟩
/-- by the levels: nothing is asked of level 0 -/
theorem Def.cals {sp : Nat → Sp} {c : Nat} (D : Def K mg x st ps) (h0 : ∀ vs H Q E, ¬ sp 0 vs H Q E)
    (h : ∀ n f fd, Fun K x x st f fd → FnOk P w K mg base CX (n + c) f fd ps (sp n) → mg x = some (.ref f) → Binds K fd ps [] → FnOk P w K mg base CX (n + 1 + c) f fd ps (sp (n + 1))) (n : Nat) : Cal P w K mg base CX (n + c) x ps (sp n) := by
  obtain ⟨f, fd, F, m, b⟩ := D
  refine ⟨f, fd, ?_, m, F.kp, b⟩
  induction n with
  | zero => exact ⟨fun vs H Q E h => absurd h (h0 vs H Q E), fun A outer s H args us vs Q E _ _ _ _ h => absurd h (h0 vs H Q E)⟩
  | succ n ih => exact h n f fd F ih m b
end

/-! ### sums in the heap -/
def TreeAt (H : Hp) : V → T → Prop
  | v, .num n => ∃ a, v = .ref a ∧ H a = some (.tup [.str "number", .int n])
  | v, .of x => ∃ a, v = .ref a ∧ H a = some (.tup [.str "of", .str x])
  | v, .un k t => ∃ a w, v = .ref a ∧ H a = some (.tup [.str k.str, w]) ∧ TreeAt H w t
  | v, .bin k t u => ∃ a w x, v = .ref a ∧ H a = some (.tup [.str k.str, w, x]) ∧ TreeAt H w t ∧ TreeAt H x u
  | v, .cho t u z => ∃ a w x y, v = .ref a ∧ H a = some (.tup [.str "choose", w, x, y]) ∧ TreeAt H w t ∧ TreeAt H x u ∧ TreeAt H y z
theorem TreeAt.tk {H H' : Hp} (s : Tk H H') : ∀ {t : T} {v : V}, TreeAt H v t → TreeAt H' v t
  | .num n, v, ⟨a, e, h⟩ => ⟨a, e, s _ _ h⟩
  | .of x, v, ⟨a, e, h⟩ => ⟨a, e, s _ _ h⟩
  | .un k t, v, ⟨a, w, e, h, q⟩ => ⟨a, w, e, s _ _ h, TreeAt.tk s q⟩
  | .bin k t u, v, ⟨a, w, x, e, h, q, r⟩ => ⟨a, w, x, e, s _ _ h, TreeAt.tk s q, TreeAt.tk s r⟩
  | .cho t u z, v, ⟨a, w, x, y, e, h, q, r, l⟩ => ⟨a, w, x, y, e, s _ _ h, TreeAt.tk s q, TreeAt.tk s r, TreeAt.tk s l⟩
theorem TreeAt.mono {H H' : Hp} (s : Same H H') {t : T} {v : V} (h : TreeAt H v t) : TreeAt H' v t := h.tk (tk_same s)
end K19
namespace K19
open PySem L2
abbrev sIsInteger : Stmt := topS 12
abbrev sHasSigns : Stmt := topS 13
abbrev sIsName : Stmt := topS 14
abbrev sIsPlace : Stmt := topS 15
abbrev sIsNameOrPlace : Stmt := topS 16
section
variable {P : Program} {w : World} {K : PySem.W.Frag} {mg : Str → Option Value} {base : Heap}

theorem scIsInteger : FnScope ["thing"] ["thing"] (defScope sIsInteger) := ⟨rfl, rfl, rfl, by decide +kernel, rfl, by decide +kernel, by decide +kernel⟩
def spIsInteger : Sp := fun vs H Q _ => ∃ n : Int, vs = [.int n] ∧ Q (.bl true) H
theorem ok_is_integer {f : Addr} {fd : FuncData} (F : Fun K "is_integer" "is_integer" sIsInteger f fd) (T : Bt mg) : FnOk P w K mg base CX0 1 f fd ["thing"] spIsInteger := by
  refine F.ok scIsInteger (fun vs H Q E h => ?_) (fun cdv A outer s H vs Q E hr h => ?_)
  · obtain ⟨n, rfl, _⟩ := h
    rfl
  obtain ⟨n, rfl, q⟩ := h
  refine ⟨_, pss_one (ps_ret (pe_and (pe_callB call_isi (by rfl) T.isinstance (by decide +kernel) (pa_cons (pv 0) (pa_cons (pe_bltn (v := .ty "int") (by rfl) T.int (by decide +kernel) rfl) pa_nil)))
    (pe_one (pe_not (pe_callB call_isi (by rfl) T.isinstance (by decide +kernel) (pa_cons (pv 0) (pa_cons (pe_bltn (v := .ty "bool") (by rfl) T.bool (by decide +kernel) rfl) pa_nil))))))), ?_⟩
  refine ⟨_, rfl, _, _, _, _, true, rfl, .ty "int", .base (.int n), kit_ty (by decide +kernel), true, rfl, ?_⟩
  refine iteT ⟨_, rfl, _, _, _, _, false, rfl, .ty "bool", .base (.int n), kit_ty (by decide +kernel), false, rfl, ?_⟩
  exact q

/-- every sign of s is one of g -/
def hasS (s g : Str) : Bool := s.cps.toList.all fun c => decide (c ∈ g.cps.toList)
theorem scHasSigns : FnScope ["text", "signs", "sign"] ["text", "signs"] (defScope sHasSigns) := ⟨rfl, rfl, rfl, by decide +kernel, rfl, by decide +kernel, by decide +kernel⟩
def spHasSigns : Sp := fun vs H Q _ => ∃ s g : Str, vs = [.str s, .str g] ∧ s.cps.size ≤ 1000 ∧ ∀ H', Same H H' → Q (.bl (hasS s g)) H'
theorem ok_has_signs {f : Addr} {fd : FuncData} (F : Fun K "has_signs" "has_signs" sHasSigns f fd) (T : Bt mg) : FnOk P w K mg base CX0 1 f fd ["text", "signs"] spHasSigns := by
  refine F.ok scHasSigns (fun vs H Q E h => ?_) (fun cdv A outer s H vs Q E hr h => ?_)
  · obtain ⟨n, g, rfl, _⟩ := h
    rfl
  obtain ⟨n, g, rfl, hl, q⟩ := h
  refine ⟨_, pss_one (ps_ret (pe_and (pe_callB call_isi (by rfl) T.isinstance (by decide +kernel) (pa_cons (pv 0) (pa_cons (pe_bltn (v := .ty "str") (by rfl) T.str (by decide +kernel) rfl) pa_nil)))
    (pe_one (pe_callB (cr_all rfl) (by rfl) T.all (by decide +kernel) (pa_cons
      (pe_lc (own := [("sign", 2)]) (g := gName 2) (by rfl) scHasSigns.nd (pi_str (pv 0)) (blkOk_by (own := [("sign", 2)]) (N := ["text", "signs", "sign"]) (sc := defScope sHasSigns) (by decide +kernel)) (fun _ _ _ _ _ => pg_name (i := 2) scHasSigns.nd rfl (Or.inl rfl)) (fun _ _ _ _ _ => pts_nil) (fun _ _ _ _ _ => pe_cmpR op_in_sign (pv 2) (pv 1) rfl)) pa_nil))))), ?_⟩
  refine ⟨_, rfl, _, _, _, _, true, rfl, .ty "str", .base (.str n), kit_ty (by decide +kernel), true, rfl, ?_⟩
  refine iteT ⟨_, rfl, n, rfl, fun D hD => ?_⟩
  refine lc_mapY walk_str ((n.cps.toList.map fun c => decide (c ∈ g.cps.toList)).map V.bl) (by simp) hl hD (fun _ _ => True.intro) (fun i x H1 H2 y e s1 hy k hk => ?_) (fun H1 s1 hD1 => ?_)
  · obtain ⟨rfl, c, hc, rfl⟩ := hy
    have e2 : y = .bl (decide (c ∈ g.cps.toList)) := by
      have : n.cps.toList[i]? = some c := by simpa using hc
      rw [List.getElem?_map, List.getElem?_map, this] at e
      exact (Option.some.inj e).symm
    subst e2
    exact ⟨rfl, _, rfl, _, rfl, c, g, rfl, rfl, hk _ (Same.refl _)⟩
  · refine ⟨D, _, rfl, SqL.of hD1, ?_⟩
    have e : (n.cps.toList.map fun c => decide (c ∈ g.cps.toList)).all id = hasS n g := by
      unfold hasS
      rw [List.all_map]
      rfl
    rw [e]
    exact q _ s1

/-! ### names -/
def LET : Str := "abcdefghijklmnopqrstuvwxyzABCDEFGHIJKLMNOPQRSTUVWXYZ_"
def SIG : Str := "abcdefghijklmnopqrstuvwxyzABCDEFGHIJKLMNOPQRSTUVWXYZ_0123456789"
def DIG : Str := "0123456789"
structure Cs (mg : Str → Option Value) : Prop where
  let_ : ∃ t, mg "LETTERS" = some (.str LET t)
  sig : ∃ t, mg "NAME_SIGNS" = some (.str SIG t)
  dig : ∃ t, mg "DIGITS" = some (.str DIG t)
  most : ∃ t, mg "MOST_FIGURES" = some (.int 40 t)
def isNm (s : Str) : Bool := hasS s SIG && (match s.cps.toList with | [] => false | c :: _ => decide (c ∈ LET.cps.toList))
def isPl (s : Str) : Bool := inV (.str s) [.str "0", .str "#", .str "?", .str "@", .str "*"] || (hasS s DIG && (match s.cps.toList with | [] => false | c :: _ => !decide (c = 48)))
theorem ne_empty {s : Str} {c : Nat} {r : List Nat} (h : s.cps.toList = c :: r) : s ≠ "" := by
  intro e
  rw [e] at h
  cases h
theorem at0 {s : Str} {c : Nat} {r : List Nat} (h : s.cps.toList = c :: r) : atI s.cps.toList 0 = some c := by
  rw [h]
  exact atI_nat (j := 0) rfl
theorem one_eq {c : Nat} : decide (V.str ⟨#[c]⟩ = V.str "0") = decide (c = 48) := by
  by_cases h : c = 48
  · subst h
    rw [decide_eq_true rfl]
    exact decide_eq_true rfl
  · rw [decide_eq_false h]
    refine decide_eq_false fun e => h ?_
    injection e with e
    have e : (#[c] : Array Nat) = #[48] := congrArg Str.cps e
    simpa using e
theorem len_small {s : Str} (h : s.cps.size ≤ 1000) : s.length ≤ sizeLine := Nat.le_of_lt (small1000 h)
theorem scIsName : FnScope ["thing"] ["thing"] (defScope sIsName) := ⟨rfl, rfl, rfl, by decide +kernel, rfl, by decide +kernel, by decide +kernel⟩
def spName (p : Str → Bool) : Sp := fun vs H Q _ => ∃ (s : Str) (c : Nat) (r : List Nat), vs = [.str s] ∧ s.cps.size ≤ 1000 ∧ s.cps.toList = c :: r ∧ ∀ H', Same H H' → Q (.bl (p s)) H'
theorem spName_len {p : Str → Bool} : ∀ vs H Q E, spName p vs H Q E → vs.length = 1 := fun vs H Q E ⟨_, _, _, e, _⟩ => by rw [e]; rfl
theorem cal_is_name (D : Def K mg "is_name" sIsName ["thing"]) (T : Bt mg) (C : Cs mg) (C1 : Cal P w K mg base CX0 1 "has_signs" ["text", "signs"] spHasSigns) : Cal P w K mg base CX0 2 "is_name" ["thing"] (spName isNm) := by
  refine D.cal fun f fd F => F.ok scIsName spName_len fun cdv A outer st H vs Q E hr h => ?_
  obtain ⟨g1, d1, G1, m1, k1, b1⟩ := C1
  obtain ⟨t1, ml⟩ := C.let_
  obtain ⟨t2, ms⟩ := C.sig
  obtain ⟨s, c, r, rfl, hl, hc, q⟩ := h
  refine ⟨_, pss_one (ps_ret (pe_and (pe_call G1 hr rfl m1 k1 b1 .nil pass0 (pa_cons (pv 0) (pa_cons (pe_glob (v := .str SIG) rfl ms ⟨_, rfl⟩) pa_nil)))
    (pe_and (pe_cmpR op_ne (pv 0) pe_str (nomark _)) (pe_one (pe_cmpR op_in_sign (pe_ix ix_str (pv 0) pe_int (fun _ _ => rfl)) (pe_glob (v := .str LET) rfl ml ⟨_, rfl⟩) rfl))))), ?_⟩
  refine ⟨_, rfl, s, SIG, rfl, hl, fun H1 s1 => ⟨_, rfl, ite2 (fun e => ?_) (fun e => ?_)⟩⟩
  · refine ⟨_, rfl, rfl, _, rfl, ?_⟩
    rw [show decide (V.str s = V.str "") = false from decide_eq_false fun e => ne_empty hc (V.str.inj e)]
    refine iteT ⟨_, rfl, s, 0, c, rfl, rfl, len_small hl, at0 hc, c, LET, rfl, rfl, ?_⟩
    have : isNm s = decide (c ∈ LET.cps.toList) := by unfold isNm; rw [e, hc]; rfl
    rw [← this]
    exact q _ s1
  · have : isNm s = false := by unfold isNm; rw [Bool.eq_false_iff.mpr e]; rfl
    have q := q _ s1
    rw [this] at q
    exact q
theorem scIsPlace : FnScope ["thing"] ["thing"] (defScope sIsPlace) := ⟨rfl, rfl, rfl, by decide +kernel, rfl, by decide +kernel, by decide +kernel⟩
theorem cal_is_place (D : Def K mg "is_place" sIsPlace ["thing"]) (T : Bt mg) (C : Cs mg) (C1 : Cal P w K mg base CX0 1 "has_signs" ["text", "signs"] spHasSigns) : Cal P w K mg base CX0 2 "is_place" ["thing"] (spName isPl) := by
  refine D.cal fun f fd F => F.ok scIsPlace spName_len fun cdv A outer st H vs Q E hr h => ?_
  obtain ⟨g1, d1, G1, m1, k1, b1⟩ := C1
  obtain ⟨t2, ms⟩ := C.dig
  obtain ⟨s, c, r, rfl, hl, hc, q⟩ := h
  refine ⟨_, pss_cons (ps_if (pt_cmpR op_in_seq (pv 0) (pe_tup (pa_cons pe_str (pa_cons pe_str (pa_cons pe_str (pa_cons pe_str (pa_cons pe_str pa_nil)))))) rfl) (pss_one (ps_ret pe_bl)) pss_nil)
    (pss_one (ps_ret (pe_and (pe_call G1 hr rfl m1 k1 b1 .nil pass0 (pa_cons (pv 0) (pa_cons (pe_glob (v := .str DIG) rfl ms ⟨_, rfl⟩) pa_nil)))
    (pe_and (pe_cmpR op_ne (pv 0) pe_str (nomark _)) (pe_one (pe_cmpR op_ne (pe_ix ix_str (pv 0) pe_int (fun _ _ => rfl)) pe_str (nomark _))))))), ?_⟩
  refine ⟨_, rfl, (by show 5 ≤ sizeLine; decide), fun a ha => ⟨a, _, rfl, .inr (SqT.of upd_same), rfl, rfl, _, rfl, ite2 (fun e => ?_) (fun e => ?_)⟩⟩
  · have : isPl s = true := by
      unfold isPl
      have e : inV (V.str s) [.str "0", .str "#", .str "?", .str "@", .str "*"] = true := e
      rw [e]; rfl
    have q := q _ (same_new ha (.tup [.str "0", .str "#", .str "?", .str "@", .str "*"]))
    rw [this] at q
    exact q
  · have e : inV (V.str s) [.str "0", .str "#", .str "?", .str "@", .str "*"] = false := Bool.eq_false_iff.mpr e
    have pl : isPl s = (hasS s DIG && !decide (c = 48)) := by
      unfold isPl
      rw [e, hc]; rfl
    rw [pl] at q
    refine ⟨_, rfl, s, DIG, rfl, hl, fun H1 s1 => ⟨_, rfl, ite2 (fun e => ?_) (fun e => ?_)⟩⟩
    · refine ⟨_, rfl, rfl, _, rfl, ?_⟩
      rw [show decide (V.str s = V.str "") = false from decide_eq_false fun e => ne_empty hc (V.str.inj e)]
      refine iteT ⟨_, rfl, s, 0, c, rfl, rfl, len_small hl, at0 hc, rfl, ?_⟩
      have q := q _ ((same_new ha _).trans s1)
      rw [e] at q
      rw [one_eq]
      exact q
    · have q := q _ ((same_new ha _).trans s1)
      rw [Bool.eq_false_iff.mpr e] at q
      exact q
theorem scIsNameOrPlace : FnScope ["thing"] ["thing"] (defScope sIsNameOrPlace) := ⟨rfl, rfl, rfl, by decide +kernel, rfl, by decide +kernel, by decide +kernel⟩
def isNP (s : Str) : Bool := isNm s || isPl s
theorem cal_is_name_or_place (D : Def K mg "is_name_or_place" sIsNameOrPlace ["thing"]) (C1 : Cal P w K mg base CX0 2 "is_name" ["thing"] (spName isNm)) (C2 : Cal P w K mg base CX0 2 "is_place" ["thing"] (spName isPl)) : Cal P w K mg base CX0 3 "is_name_or_place" ["thing"] (spName isNP) := by
  refine D.cal fun f fd F => F.ok scIsNameOrPlace spName_len fun cdv A outer st H vs Q E hr h => ?_
  obtain ⟨g1, d1, G1, m1, k1, b1⟩ := C1
  obtain ⟨g2, d2, G2, m2, k2, b2⟩ := C2
  obtain ⟨s, c, r, rfl, hl, hc, q⟩ := h
  refine ⟨_, pss_one (ps_ret (pe_or (pe_call G1 hr rfl m1 k1 b1 .nil pass0 (pa_cons (pv 0) pa_nil)) (pe_one (pe_call G2 hr rfl m2 k2 b2 .nil pass0 (pa_cons (pv 0) pa_nil))))), ?_⟩
  refine ⟨_, rfl, s, c, r, rfl, hl, hc, fun H1 s1 => ⟨_, rfl, ite2 (fun e => ?_) (fun e => ?_)⟩⟩
  · have q := q _ s1
    unfold isNP at q
    rw [e] at q
    exact q
  · refine ⟨_, rfl, s, c, r, rfl, hl, hc, fun H2 s2 => ?_⟩
    have q := q _ (s1.trans s2)
    unfold isNP at q
    rw [Bool.eq_false_iff.mpr e] at q
    exact q
end
end K19
namespace K19R
open PySem PySem.Spec PyProof.Rows L2
/-! ### enumerate of a tuple -/
def IteT (K : PySem.W.Frag) (a : Addr) : It :=
  ⟨fun i H => ∃ (xs : List V) (x : V), SqT K H a xs ∧ xs[i]? = some x, fun i H v H' => ∃ T x, v = .ref T ∧ H T = none ∧ H' = upd H T (.tup [.int (i : Nat), x]) ∧ ∀ xs, SqT K H a xs → xs[i]? = some x, fun i H => ∃ xs : List V, SqT K H a xs ∧ xs.length = i⟩
theorem isTuple_of {h : Heap} {a : Addr} {items : Array Value} (p : IsTup h a items) : h.IsTuple a items := by
  obtain ⟨o, h1, h2, n, h3⟩ := p
  exact ⟨o, h1, h2, n, h3⟩
theorem turn_enumT {P : Program} {w : World} {K : PySem.W.Frag} {elts : List Expr} {kk : Nat} {tpos : Pos} (a e it : Addr) :
    Turn P w K (.Tuple elts kk tpos) (IteT K a) [e, it] e (fun i h => (∃ old, IsEnum h e it ((i : Nat) : Int) old) ∧ h.IsTupleIter it a i ∧ e ≠ it) where
  mem := by simp
  obj := fun i h st b hb => by
    obtain ⟨⟨old, he⟩, ⟨o, ho, hc, hd⟩, _⟩ := st
    have e' : b = e ∨ b = it := by simpa using hb
    rcases e' with z | z
    · rw [z]; exact ⟨_, he, fun v q => nomatch q⟩
    · rw [z]; exact ⟨o, ho, fun v q => by rw [hd] at q; cases q⟩
  keep := fun i h h' st k => let ⟨⟨old, he⟩, ⟨o, ho, hc, hd⟩, hne⟩ := st; ⟨⟨old, k e (by simp) _ he⟩, ⟨o, k it (by simp) o ho, hc, hd⟩, hne⟩
  item := by
    intro X hP hw hK hc i pins s σ H E I hf st hg
    subst hP hw hK
    obtain ⟨⟨old, he⟩, hit, hne⟩ := st
    obtain ⟨xs, x, hq, hx⟩ := hg
    obtain ⟨its, rv, p, hz⟩ := I.tuple hq
    have p := isTuple_of p
    obtain ⟨u, hu, ru⟩ := rv.get hx
    have hel : e < s.heap.objs.size := Heap.lt_size he
    have hil : it < s.heap.objs.size := by obtain ⟨_, q, _⟩ := hit; exact Heap.lt_size q
    have nai : a ≠ it := fun z => by
      obtain ⟨o, h1, h2, _⟩ := p
      obtain ⟨o', h3, h4, _⟩ := hit
      rw [z, h3] at h1
      cases h1
      rw [h4] at h2
      simp at h2
    have nea : e ≠ a := fun z => by
      obtain ⟨o, h1, h2, _⟩ := p
      have he2 := he
      unfold IsEnum at he2
      rw [z, h1] at he2
      cases he2
      simp at h2
    refine wpAny_pyNext_enum_itemD (n := its.toArray.size) (D := Draws.tuple (show X.A.in1.handled = none from I.ok.hd hc) it a nai its.toArray) he ⟨hit, p⟩ (by
      have := (List.getElem?_eq_some_iff.mp hu).1
      simpa using this) hne (fun z => by
        have z' : e = it ∨ e = a := by simpa using z
        rcases z' with z' | z'
        · exact hne z'
        · exact nea z') fun x' h' tk hx' ho hst hT hsz hk => ?_
    obtain ⟨hit', p'⟩ := hst
    have ex : x' = u := by
      have : its[i]? = some x' := by simpa using hx'
      rw [hu] at this
      exact (Option.some.inj this).symm
    subst ex
    refine ⟨_, rfl, wpAny_letOwnedTupleGo_enum (s := { s with heap := h', toks := tk + 1 }) ho fun h'' he' sb => ?_⟩
    have hT2 : h''.get? s.heap.objs.size = some { cls := .type "tuple", data := .seq #[.int i tk, x'] } := (sb.2 _ (Nat.ne_of_gt hel)).trans hT
    have new : ObjOk X.prog X.w (upd H s.heap.objs.size (.tup [.int (i : Nat), x])) h'' s.heap.objs.size (.tup [.int (i : Nat), x]) :=
      ⟨by show 2 ≤ sizeLine; decide, [.int i tk, x'], .cons ⟨_, rfl⟩ (.cons ru .nil), ⟨_, hT2, rfl, _, rfl⟩⟩
    have I1 : Inv X pins σ (upd H s.heap.objs.size (.tup [.int (i : Nat), x])) { s with heap := h'', toks := tk + 1 } :=
      I.turnedNew (ch := [e, it]) (fun b ob hb q => (sb.2 b (fun z => hb (by simp [z]))).trans (hk b ob (fun z => hb (by simp [z])) (fun z => hb (by simp [z])) q)) hf (Nat.le_refl _) new
    refine ⟨.ref s.heap.objs.size, _, I1, rfl, ⟨_, x, rfl, I.hok.fresh (Nat.le_refl _), rfl, fun ys hy => by rw [I.tuple_inj hy hq]; exact hx⟩, ⟨⟨x', ?_⟩, ?_, hne⟩, fun b hb => ?_⟩
    · have e1 : ((i + 1 : Nat) : Int) = (i : Int) + 1 := by omega
      rw [e1]; exact he'
    · obtain ⟨o, h1, h2, h3⟩ := hit'
      exact ⟨o, (sb.2 it (Ne.symm hne)).trans h1, h2, h3⟩
    · have hb' : b < s.heap.objs.size := by
        have e' : b = e ∨ b = it := by simpa using hb
        rcases e' with z | z
        · rw [z]; exact hel
        · rw [z]; exact hil
      rw [upd_ne (Nat.ne_of_lt hb')]
      exact (hf b hb).1
  done := by
    intro X hP hw hK hc i pins s σ H E I hf st hg
    subst hP hw hK
    obtain ⟨⟨old, he⟩, hit, hne⟩ := st
    obtain ⟨xs, hq, hx⟩ := hg
    obtain ⟨its, rv, p, hz⟩ := I.tuple hq
    have p := isTuple_of p
    have nai : a ≠ it := fun z => by
      obtain ⟨o, h1, h2, _⟩ := p
      obtain ⟨o', h3, h4, _⟩ := hit
      rw [z, h3] at h1
      cases h1
      rw [h4] at h2
      simp at h2
    obtain ⟨f0, f1, f2, f3, f4, f5⟩ := hf it (by simp)
    have hl := rv.length
    have hlt : its.toArray.size = i := by simp; omega
    have hh : X.A.in1.handled = none := I.ok.hd hc
    have D := Draws.tuple (prog := X.prog) (w := X.w) hh it a nai its.toArray
    rw [← hlt] at he hit
    exact wpAny_pyNext_enum_endD D he ⟨hit, p⟩ fun h' eb => ⟨rfl, I.turned (t' := s.toks) (fun b o hb q => eb b o hb q) f0 f1 f3 f4 f5⟩
  self := fun A i s Q E st h => let ⟨⟨_, he⟩, _⟩ := st; wpAny_pyIter_enum he h

set_option maxHeartbeats 1000000 in
theorem meets_enumerate_new1 {v : Value} {o : Obj} {H : Heap → Prop} (B : Begins v o H) :
    Meets (Builtin.«enumerate.__new__» ⟨[.type "enumerate", v], []⟩) (fun _ R s => H s.heap ∧
      R (.ok (.ret (.ref (s.heap.push o).objs.size))) { s with heap := (s.heap.push o).push { cls := .type "enumerate", data := .fields #[.none, .bool false, .ref s.heap.objs.size, rawInt 0, .none, .none] } }) :=
  .of_wp fun prog w A R s h => by
    obtain ⟨hp, g, d, tk, os⟩ := s; obtain ⟨h1, h⟩ := h
    have hsub := sub_enumerate
    have q1 : ∀ {A' : Around} {E : Value → Shared → Prop} {Q : Value → Shared → Prop}, Q (.ref hp.objs.size) ⟨hp.push o, g, d, tk, os⟩ → wpAny (model prog w) A' (pyIter v) Q E ⟨hp, g, d, tk, os⟩ :=
      fun q => B.iter prog w _ _ ⟨hp, g, d, tk, os⟩ _ h1 q
    wp_walk using q1
    refine wpAny_stack_any fun st => wpAny_pure ?_
    split
    · rename_i c _ _ _ _ _
      cases (c == Value.type "enumerate")
      · wp_walk using q1
        exact ⟨_, rfl, h⟩
      · wp_walk using q1
        exact ⟨_, rfl, h⟩
    · wp_walk using q1
      exact ⟨_, rfl, h⟩
theorem enum_begins1 {prog : Program} {w : World} {A : Around} {E : Value → Shared → Prop} {s : Shared} {v : Value} {o : Obj} {H : Heap → Prop} {Q : Value → Shared → Prop} (B : Begins v o H) (h1 : H s.heap)
    (h : ∀ h', IsEnum h' (s.heap.objs.size + 1) s.heap.objs.size 0 .none → h'.get? s.heap.objs.size = some o → h'.objs.size = s.heap.objs.size + 2 →
      (∀ b o, s.heap.get? b = some o → h'.get? b = some o) → Q (.ref (s.heap.objs.size + 1)) { s with heap := h' }) :
    wpAny (model prog w) A (call (.type "enumerate") [v]) Q E s := by
  refine callType_new F.called_enumerate (by decide) (F.typeCall_enumerate_1 _) (F.newCall_enumerate_1 _) (fun obj => F.args_object_init_2 obj _) F.entry_enumerate_new
    (meets_enumerate_new1 B) ⟨h1, ?_⟩
  have hz : (s.heap.push o).objs.size = s.heap.objs.size + 1 := Heap.size_push ..
  show _ ∧ _
  rw [hz]
  have he : IsEnum ((s.heap.push o).push { cls := .type "enumerate", data := .fields #[.none, .bool false, .ref s.heap.objs.size, rawInt 0, .none, .none] }) (s.heap.objs.size + 1) s.heap.objs.size 0 .none := by
    have := Heap.get?_push_size (s.heap.push o) (o := { cls := .type "enumerate", data := .fields #[.none, .bool false, .ref s.heap.objs.size, rawInt 0, .none, .none] }) rfl
    rw [hz] at this; exact this
  refine ⟨⟨_, he, rfl⟩, h _ he (Heap.get?_push_of_some _ (Heap.get?_push_size _ B.free)) (by rw [Heap.size_push, hz]) fun b o x => Heap.get?_push_of_some _ (Heap.get?_push_of_some _ x)⟩
def iEnumT (K : PySem.W.Frag) (ta : TA) : TI := fun σ H R => ta σ H fun vs H1 => ∃ a xs, vs = [.ref a] ∧ SqT K H1 a xs ∧ R (IteT K a) H1
theorem pi_enumT {X : Cx} {e : Expr} {ta : TA} {p pos tpos : Pos} {elts : List Expr} {kk : Nat} (hg : Gl X "enumerate") (hm : X.mg "enumerate" = none) (ha : PA X [e] ta) (hs : starEach [e] X.env = [(false, eval e X.env)] := by rfl) :
    PI X (.Tuple elts kk tpos) (.Call (.Name "enumerate" p) [e] [] pos) (iEnumT X.K ta) := by
  refine ⟨fun pins s σ H R I h => ?_⟩
  refine Call_ (ld_blt I hg hm boot_enumerate (PyProof.Rows.callWith_type1 (thn (ha.run pos pins s σ H _ I h) fun us s1 ⟨vs, H1, I1, r1, q1⟩ => ?_) hs rfl))
  obtain ⟨a, xs, ex, hq, q⟩ := q1
  subst ex
  cases r1 with
  | cons r rr =>
    cases rr
    cases r
    obtain ⟨its, rv, p', hz⟩ := I1.tuple hq
    refine enum_begins1 (begins_tuple a its.toArray) (isTuple_of p') fun h' he hit hsz hk => wpAny_pyIter_enum he ?_
    have I2 : Inv X pins σ H1 { s1 with heap := h' } := I1.kept (t' := s1.toks) hk
    refine ⟨s1.heap.objs.size + 1, [s1.heap.objs.size + 1, s1.heap.objs.size], _, _, H1, rfl, I2, turn_enumT a (s1.heap.objs.size + 1) s1.heap.objs.size, ⟨⟨.none, he⟩, ⟨_, hit, rfl, rfl⟩, Nat.succ_ne_self _⟩, fun b hb => ?_, q⟩
    have e' : b = s1.heap.objs.size + 1 ∨ b = s1.heap.objs.size := by simpa using hb
    have hle : s1.heap.objs.size ≤ b := by
      rcases e' with z | z
      · rw [z]; exact Nat.le_add_right _ _
      · rw [z]; exact Nat.le_refl _
    exact I1.fpOk hle (I1.hok.fresh hle)
theorem walk_enumT {K : PySem.W.Frag} {a : Addr} {xs : List V} : Walk (IteT K a) xs.length (fun H => SqT K H a xs) (YPair (fun i => some (.int (i : Nat))) (fun i => xs[i]?)) := by
  refine ⟨fun i _ hi q => ⟨xs, xs[i], q, by simp [hi]⟩, fun _ q => ⟨xs, q, rfl⟩, fun i H v H' _ q y => ?_⟩
  obtain ⟨T, x, h1, h2, h3, h4⟩ := y
  exact ⟨T, .int (i : Nat), x, h1, h2, h3, rfl, h4 xs q⟩
end K19R
namespace K19R
open PySem PySem.Spec PyProof.Rows L2
/-! ### match over written texts -/
def tCases : List (List Str × TS) → Str → TS
  | [], _ => fun D σ H => D.nx σ H
  | (ks, t) :: r, z => fun D σ H => if z ∈ ks then t D σ H else tCases r z D σ H
def tMatch (ts : TE) (cs : List (List Str × TS)) : TS := fun D σ H => ts σ H fun x H1 => ∃ z, x = .str z ∧ tCases cs z D σ H1
section
variable {X : Cx}
/-- the patterns' texts -/
structure PatOk (X : Cx) (p : Pattern) (ks : List Str) : Prop where
  run : ∀ (pins : List (Addr × Obj)) (s : Shared) (σ : L2.St) (H : Hp) (z : Str) (t : Tok) (Q : Option (List (Str × Value)) → Shared → Prop), Inv X pins σ H s →
    (∀ s', Inv X pins σ H s' → z ∈ ks → Q (some []) s') → (∀ s', Inv X pins σ H s' → z ∉ ks → Q none s') → wpAny (model X.prog X.w) X.A (matchPattern p X.env (.str z t)) Q X.xe s
theorem pat_val {k : Str} {j : Nat} {p pos : Pos} : PatOk X (.MatchValue (.Constant (.str k) j p) pos) [k] := by
  refine ⟨fun pins s σ H z t Q I hy hn => ?_⟩
  refine wpAny_matchPattern_Value (Calls.Constant_str ?_)
  refine wpAny_mono (op_eq (X := X) pins _ σ H (.str z) (.str k) _ _ (fun v H' => v = .bl (decide (V.str z = V.str k)) ∧ H' = H) (I.tok _) ⟨t, rfl⟩ ⟨_, rfl⟩ ⟨rfl, rfl, rfl⟩) (fun c s1 ⟨x, H1, I1, r1, ex, eh⟩ => ?_) fun _ _ x => x
  subst ex eh
  obtain rfl : c = Value.bool _ := r1
  refine wpAny_truthy_bool ?_
  by_cases h : z = k
  · subst h
    rw [decide_eq_true rfl]
    exact hy _ I1 (List.mem_singleton.mpr rfl)
  · rw [decide_eq_false (show ¬ V.str z = V.str k from fun e => h (V.str.inj e))]
    exact hn _ I1 fun m => h (List.mem_singleton.mp m)
theorem pat_or2 {p1 p2 : Pattern} {k1 k2 : List Str} {pos : Pos} (h1 : PatOk X p1 k1) (h2 : PatOk X p2 k2) : PatOk X (.MatchOr [p1, p2] pos) (k1 ++ k2) := by
  refine ⟨fun pins s σ H z t Q I hy hn => ?_⟩
  have em : ∀ (l : List Str), (l.filterMap fun n => ((([] : List (Str × Value)).lookup n).map (n, ·))) = [] := fun l => by
    induction l with
    | nil => rfl
    | cons a l ih => rw [List.filterMap_cons]; exact ih
  refine wpAny_matchPattern_Or (wpAny_matchFirst_cons ?_)
  refine h1.run pins s σ H z t _ I (fun s1 I1 m => ?_) fun s1 I1 m1 => ?_
  · show Q (some _) s1
    rw [em]
    exact hy s1 I1 (List.mem_append_left _ m)
  · refine wpAny_matchFirst_cons ?_
    refine h2.run pins s1 σ H z t _ I1 (fun s2 I2 m => ?_) fun s2 I2 m2 => ?_
    · show Q (some _) s2
      rw [em]
      exact hy s2 I2 (List.mem_append_right _ m)
    · refine wpAny_matchFirst_nil ?_
      exact hn s2 I2 fun m => (List.mem_append.mp m).elim m1 m2
structure CasesOk (X : Cx) (cases : List MatchCase) (cs : List (List Str × TS)) : Prop where
  run : ∀ (b : Bool) (pins : List (Addr × Obj)) (s : Shared) (σ : L2.St) (H : Hp) (D : Ends) (z : Str) (t : Tok), Inv X pins σ H s → tCases cs z D σ H →
    wpAny (model X.prog X.w) X.A (matchCases cases X.env (.str z t) b) (SP X pins D) X.xe s
theorem mc_nil : CasesOk X [] [] := ⟨fun b pins s σ H D z t I h => wpAny_matchCases_nil ⟨σ, H, I, h⟩⟩
theorem mc_cons {p : Pattern} {ks : List Str} {body : List Stmt} {t : TS} {r : List MatchCase} {cs : List (List Str × TS)} (hp : PatOk X p ks) (hb : PSs X body t) (hr : CasesOk X r cs) : CasesOk X (⟨p, none, body⟩ :: r) ((ks, t) :: cs) := by
  refine ⟨fun b pins s σ H D z tk I h => ?_⟩
  have h : if z ∈ ks then t D σ H else tCases cs z D σ H := h
  refine wpAny_matchCases_cons ?_
  refine hp.run pins s σ H z tk _ I (fun s1 I1 m => ?_) fun s1 I1 m => ?_
  · rw [if_pos m] at h
    refine wpAny_assignInOrder_none ?_
    exact hb.run pins s1 σ H D I1 h
  · rw [if_neg m] at h
    exact hr.run false pins s1 σ H D z tk I1 h
theorem ps_match {e : Expr} {te : TE} {cases : List MatchCase} {cs : List (List Str × TS)} {pos : Pos} (he : PE X e te) (hc : CasesOk X cases cs) : PS X (.Match e cases pos) (tMatch te cs) := by
  refine ⟨fun pins s σ H D I h => ?_⟩
  refine wpAny_Match (thn (he.run pins s σ H _ I h) fun v s1 ⟨x, H1, I1, r1, z, ex, q1⟩ => ?_)
  subst ex
  obtain ⟨t, rfl⟩ := r1
  exact hc.run true pins s1 σ H1 D z t I1 q1
end

/-! ### except (A, B): -/
theorem flying_keeps {B h h' : Heap} {l : List Env} {a : Addr} {Z : Obj → Prop} (x : HandSPX.FlyingZ B l a Z h) (k : ∀ b o, h.get? b = some o → h'.get? b = some o) : HandSPX.FlyingZ B l a Z h' := by
  obtain ⟨k1, k2, k3, oe, vs, T, oT, ts, he, hz, hd, h1, hB, hT, hT2, hd2, h3⟩ := x
  exact ⟨fun b o e => k b o (k1 b o e), k2, Heap.FunFrames.of_keeps (fun b o e _ => ⟨o, k b o e, rfl⟩) k3, oe, vs, T, oT, ts, k _ _ he, hz, hd, h1, hB, hT, k _ _ hT2, hd2, h3⟩
def wTwo (K : PySem.W.Frag) (c1 c2 : Value) (ts : Addr → Value → Option Addr → TS) (D : Ends) : WX := fun cls d σ H =>
  PySem.W.exmAny K cls [c1, c2] = some true ∧ ∀ a, H a = none → ts a cls d D σ H
section
variable {X : Cx} {x1 x2 : Str} {c1 c2 : Value} {body suite : List Stmt} {b₀ : Stmt} {p1 p2 np pos pos' : Pos} {kk : Nat} {tb : WX → TS} {ts : Addr → Value → Option Addr → TS}
theorem name_ok {X : Cx} {pins : List (Addr × Obj)} {σ : L2.St} {H : Hp} {s : Shared} {x : Str} {c : Value} {p : Pos} {Q E : Value → Shared → Prop} (S : Inv X pins σ H s) (hc : Names X x c) (q : Q c s) : wpAny (model X.prog X.w) X.A (eval (.Name x p) X.env) Q E s := by
  obtain ⟨hg, hdbg, hm | ⟨hm, hv, hnn⟩⟩ := hc
  · exact ld_glob S hg hm q hdbg
  · exact ld_blt S hg hm hv q hnn hdbg
theorem ps_try_two (hs : X.stack = X.env :: X.outer) (hf : X.env.frame = some X.env.locals) (hc1 : Names X x1 c1) (hc2 : Names X x2 c2)
    (hb : ∀ (W : WX) (pn : List (Addr × Obj)) (xe : Value → Shared → Prop), Takes (X.tr pn xe) W → PassesOwn (model X.prog X.w) X.A X.env xe → PSs (X.tr pn xe) body (tb W))
    (hsu : ∀ (a : Addr) (oe : Obj) (cls : Value) (d : Option Addr) (pn : List (Addr × Obj)), Zc cls d oe → (∃ vs, oe.data = .fields vs) → PSs (X.suite a ((a, oe) :: pn)) (b₀ :: suite) (ts a cls d)) :
    PS X (.Try body [.ExceptHandler (some (.Tuple [.Name x1 p1, .Name x2 p2] kk np)) none (b₀ :: suite) pos'] [] [] pos) (fun D σ H => tb (wTwo X.K c1 c2 ts D) D σ H) := by
  refine ⟨fun pins s σ H D I h => ?_⟩
  have ok := I.ok
  have hfr : X.A.frames = some (X.env :: X.outer) := by rw [ok.frames, hs]
  refine wpAny_Try_except ?_
  refine wpAny_mono ((hb (wTwo X.K c1 c2 ts D) (X.pn ++ pins) (fun e s₁ => wpAny (model X.prog X.w) X.A (noteFrame e X.env) (fun _ s₂ => wpAny (model X.prog X.w) X.A (setFlight e none) (fun _ s₃ =>
    wpAny (model X.prog X.w) X.A (handleBy e X.env [.ExceptHandler (some (.Tuple [.Name x1 p1, .Name x2 p2] kk np)) none (b₀ :: suite) pos']) (SP X pins D) X.xe s₃) X.xe s₂) X.xe s₁) (fun u s' xx => ?_) PassesOwn.looking).run [] s σ H D (I.toTry _) h) (fun f s1 hsp => ?_) (fun e s1 he => he)
  · -- the catch
    obtain ⟨a, B, sI, pins', σ', H', cls, d, rfl, J', nb, up, sky, na, os, ag, hb1, hyes⟩ := xx
    have J : Inv X pins σ' H' sI := J'.ofTry ok
    have sky' : Sky B (X.env :: X.outer) a (Zc cls d) X.env.locals s'.heap := by rw [← hs]; exact sky
    show wpAny (model X.prog X.w) X.A (noteFrame (.ref a) X.env) _ _ _
    refine Sky.land Zc.steady hfr hf sky' fun h3 fl3 up3 => ?_
    have J3 : Inv X pins σ' H' { s' with heap := h3 } := J.landed nb fl3.1 (up.trans up3) os ag
    obtain ⟨oe3, vs3, he3, hz3, hd3⟩ := fl3.there
    have notFr : ∀ {h : Heap} {o : Obj} {vs : Array Value}, h.FunFrames B (X.env :: X.outer) → h.get? a = some o → o.data = .fields vs → a ∉ frs (X.env :: X.outer) := fun {h o vs} ff e dd hm => by
      obtain ⟨_, o', e', hnf⟩ := ff.mem hm
      rw [e] at e'; cases e'
      exact hnf _ dd
    have nfr := notFr fl3.2.2.1 he3 hd3
    have nL : a ≠ X.env.locals := fun z => nfr (List.mem_filterMap.mpr ⟨X.env, List.mem_cons_self, by rw [hf, z]⟩)
    have nF : a ∉ X.fs := fun hm => by
      obtain ⟨e, he, q⟩ := List.mem_filterMap.mp hm
      exact nfr (List.mem_filterMap.mpr ⟨e, List.mem_cons_of_mem _ he, q⟩)
    have S3 := J3.suite he3 hd3 na nL nF
    refine wpAny_handleBy_cons (codeAny_handlers_test ?_) (by intro q; cases q)
    have LT : PySem.W.Looks (model X.prog X.w) h3 (typeOf (.ref a)) cls := fun A Q E s k q => wpAny_typeOf_ref (k _ _ he3) (by rw [hz3.1]; exact q)
    refine wpAny_Tuple ?_
    refine wpAny_items_cons (name_ok (X := X.suite a ((a, oe3) :: (X.pn ++ pins))) S3 hc1 ?_)
    refine wpAny_items_cons (name_ok (X := X.suite a ((a, oe3) :: (X.pn ++ pins))) S3 hc2 ?_)
    refine wpAny_items_nil ⟨by size_fits, ?_⟩
    have kp : ∀ q o, h3.get? q = some o → (h3.push { cls := .type "tuple", data := .seq [c1, c2].toArray }).get? q = some o := fun _ _ z => Heap.get?_push_of_some _ z
    have LM := PySem.W.exm_tup2 (M := model X.prog X.w) (J3.kIn.keeps kp) (LT.keeps kp) (Heap.get?_push_size h3 rfl) hb1
    refine LM.here ?_
    have fl3' := flying_keeps fl3 kp
    refine codeAny_handlers_suite ?_
    refine HandSPX.lands_againZ fl3' fun h4 fl4 up4 => ?_
    have J4 : Inv X pins σ' H' { s' with heap := h4 } := J.landed nb fl4.1 (((up.trans up3).trans (Heap.UpToSlots.of_keeps kp)).trans up4) os ag
    obtain ⟨oe4, vs4, he4, hz4, hd4⟩ := fl4.there
    have S4 := J4.suite he4 hd4 na nL nF
    refine wpAny_mono ((hsu a oe4 cls d (X.pn ++ pins) hz4 ⟨_, hd4⟩).run [] _ _ H' _ S4 (hyes a na)) (fun f s6 hsp => ?_) (fun _ _ z => False.elim z)
    cases f with
    | next =>
      obtain ⟨σ6, H6, S6, q6⟩ := hsp
      exact ⟨_, _, S6.unsuite ok, q6⟩
    | brk =>
      obtain ⟨σ6, H6, S6, q6⟩ := hsp
      exact ⟨_, _, S6.unsuite ok, q6⟩
    | cont =>
      obtain ⟨σ6, H6, S6, q6⟩ := hsp
      exact ⟨_, _, S6.unsuite ok, q6⟩
    | ret u =>
      obtain ⟨v6, σ6, H6, S6, r6, q6⟩ := hsp
      exact ⟨_, _, _, S6.unsuite ok, r6, q6⟩
  · cases f with
    | next =>
      obtain ⟨σ', H', J', q⟩ := hsp
      exact wpAny_execs_nil ⟨σ', H', J'.ofTry ok, q⟩
    | brk =>
      obtain ⟨σ', H', J', q⟩ := hsp
      exact ⟨σ', H', J'.ofTry ok, q⟩
    | cont =>
      obtain ⟨σ', H', J', q⟩ := hsp
      exact ⟨σ', H', J'.ofTry ok, q⟩
    | ret u =>
      obtain ⟨v, σ', H', J', r, q⟩ := hsp
      exact ⟨v, σ', H', J'.ofTry ok, r, q⟩
end

/-! ### an error that is kept behind its suite -/
/-- an exception of the class cls, its own dict at d -/
def ExD (cls : Value) (d : Option Addr) (a : Addr) : HO := .ext fun h => ∃ (oe : Obj) (vs : Array Value), h.get? a = some oe ∧ Zc cls d oe ∧ oe.data = .fields vs
theorem exD_ok {P : Program} {w : World} {H : Hp} {h : Heap} {a : Addr} {cls : Value} {d : Option Addr} {oe : Obj} {vs : Array Value} (e : h.get? a = some oe) (z : Zc cls d oe) (hd : oe.data = .fields vs) : ObjOk P w H h a (ExD cls d a) :=
  ⟨⟨oe, vs, e, z, hd⟩, ⟨oe, e⟩, fun _ _ ⟨o, v, q, r⟩ k => ⟨o, v, k o q, r⟩⟩
section
variable {X : Cx} {pins : List (Addr × Obj)} {σ : L2.St} {H : Hp} {s : Shared}
theorem Inv.track {a : Addr} {oe : Obj} {vs : Array Value} {o : HO} (I : L2.Inv X pins σ H s) (ha : s.heap.get? a = some oe) (hd : oe.data = .fields vs) (n0 : X.s_0.heap.get? a = none) (na : H a = none) (nL : a ≠ X.env.locals)
    (np : ∀ p ∈ X.pn ++ pins, p.1 ≠ a) (new : ObjOk X.prog X.w (upd H a o) s.heap a o) : L2.Inv X pins σ (upd H a o) s := by
  have ne0 : ∀ b u, X.s_0.heap.get? b = some u → b ≠ a := fun b u e z => by rw [z, n0] at e; cases e
  refine ⟨I.ok, I.os, I.bare, ⟨I.base.keep, I.base.slot, fun b u e n hx => by rw [upd_ne (ne0 b u e)]; exact I.base.free b u e n hx, I.base.there, fun b xs e => ?_, fun b u v e => ?_, fun b ps e => ?_⟩, I.loc, I.cell, ?_, fun x c e => ?_, fun p hp => ?_, I.hok.laidN (fun _ _ q => q) na new, I.len⟩
  · have q := I.base.tups b xs e
    rw [upd_ne (ne_of_none q na)]
    exact q
  · have q := I.base.frzs b u v e
    rw [upd_ne (ne_of_none q na)]
    exact q
  · obtain ⟨m, q⟩ := I.base.tbls b ps e
    exact ⟨m, by rw [upd_ne (ne_of_none q na)]; exact q⟩
  · rw [upd_ne (Ne.symm nL)]
    exact I.free
  · have nc : c ≠ a := fun z => by
      obtain ⟨v, o', h1, h2⟩ := I.cell x c e
      rw [z, ha] at h1
      cases h1
      rw [hd] at h2
      cases h2
    rw [upd_ne nc]
    exact I.freeC x c e
  · obtain ⟨e, n, ne, nf, d⟩ := I.pin p hp
    exact ⟨e, by rw [upd_ne (np p hp)]; exact n, ne, nf, d⟩
theorem Inv.suite0 (I : L2.Inv X pins σ H s) (a : Addr) : L2.Inv (X.suite a (X.pn ++ pins)) [] σ H s :=
  ⟨I.ok.suite _ _, I.os, I.bare, I.base, I.loc, I.cell, I.free, I.freeC, fun p hp => I.pin p (by rw [List.append_nil] at hp; exact hp), I.hok, I.len⟩
theorem Inv.unsuite0 {a : Addr} {pn' : List (Addr × Obj)} (I : L2.Inv (X.suite a (X.pn ++ pins)) pn' σ H s) (ok : X.Ok) : L2.Inv X pins σ H s :=
  ⟨ok, I.os, I.bare, I.base, I.loc, I.cell, I.free, I.freeC, fun p hp => I.pin p (List.mem_append_left _ hp), I.hok, I.len⟩
end
/-- the exception stands at a, tracked, from the suite on -/
def wKeep (K : PySem.W.Frag) (c : Value) (i : Nat) (ts : TS) (D : Ends) : WX := fun cls d σ H =>
  PySem.W.exmOne K cls c = some true ∧ ∀ a, H a = none → ts { nx := fun σ' H' => D.nx (σ'.set i none) H', rt := D.rt, bk := fun σ' H' => D.bk (σ'.set i none) H', ct := fun σ' H' => D.ct (σ'.set i none) H' } (σ.set i (some (.ref a))) (upd H a (ExD cls d a))
section
variable {X : Cx} {x n : Str} {c : Value} {i : Nat} {body suite : List Stmt} {b₀ : Stmt} {np pos pos' : Pos} {tb : WX → TS} {ts : TS}
theorem ps_try_keep (hs : X.stack = X.env :: X.outer) (hf : X.env.frame = some X.env.locals) (hex : X.ex = []) (hN : X.N.Nodup) (hi : X.N[i]? = some n) (hln : X.env.kindOf n = some .local) (hc : Names X x c)
    (hb : ∀ (W : WX) (pn : List (Addr × Obj)) (xe : Value → Shared → Prop), Takes (X.tr pn xe) W → PassesOwn (model X.prog X.w) X.A X.env xe → PSs (X.tr pn xe) body (tb W))
    (hsu : ∀ (a : Addr) (pn : List (Addr × Obj)), PSs (X.suite a pn) (b₀ :: suite) ts) :
    PS X (.Try body [.ExceptHandler (some (.Name x np)) (some n) (b₀ :: suite) pos'] [] [] pos) (fun D σ H => tb (wKeep X.K c i ts D) D σ H) := by
  refine ⟨fun pins s σ H D I h => ?_⟩
  have ok := I.ok
  have hfr : X.A.frames = some (X.env :: X.outer) := by rw [ok.frames, hs]
  have hloc : Loc X.env.scope n := .inl hln
  refine wpAny_Try_except ?_
  refine wpAny_mono ((hb (wKeep X.K c i ts D) (X.pn ++ pins) (fun e s₁ => wpAny (model X.prog X.w) X.A (noteFrame e X.env) (fun _ s₂ => wpAny (model X.prog X.w) X.A (setFlight e none) (fun _ s₃ =>
    wpAny (model X.prog X.w) X.A (handleBy e X.env [.ExceptHandler (some (.Name x np)) (some n) (b₀ :: suite) pos']) (SP X pins D) X.xe s₃) X.xe s₂) X.xe s₁) (fun u s' xx => ?_) PassesOwn.looking).run [] s σ H D (I.toTry _) h) (fun f s1 hsp => ?_) (fun e s1 he => he)
  · -- the catch
    obtain ⟨a, B, sI, pins', σ', H', cls, d, rfl, J', nb, up, sky, na, os, ag, hb1, hyes⟩ := xx
    have J : L2.Inv X pins σ' H' sI := J'.ofTry ok
    have sky' : Sky B (X.env :: X.outer) a (Zc cls d) X.env.locals s'.heap := by rw [← hs]; exact sky
    show wpAny (model X.prog X.w) X.A (noteFrame (.ref a) X.env) _ _ _
    refine Sky.land Zc.steady hfr hf sky' fun h3 fl3 up3 => ?_
    have J3 : L2.Inv X pins σ' H' { s' with heap := h3 } := J.landed nb fl3.1 (up.trans up3) os ag
    obtain ⟨oe3, vs3, he3, hz3, hd3⟩ := fl3.there
    have notFr : ∀ {h : Heap} {o : Obj} {vs : Array Value}, h.FunFrames B (X.env :: X.outer) → h.get? a = some o → o.data = .fields vs → a ∉ frs (X.env :: X.outer) := fun {h o vs} ff e dd hm => by
      obtain ⟨_, o', e', hnf⟩ := ff.mem hm
      rw [e] at e'; cases e'
      exact hnf _ dd
    have nfr := notFr fl3.2.2.1 he3 hd3
    have nL : a ≠ X.env.locals := fun z => nfr (List.mem_filterMap.mpr ⟨X.env, List.mem_cons_self, by rw [hf, z]⟩)
    have nF : a ∉ X.fs := fun hm => by
      obtain ⟨e, he, q⟩ := List.mem_filterMap.mp hm
      exact nfr (List.mem_filterMap.mpr ⟨e, List.mem_cons_of_mem _ he, q⟩)
    have nI : sI.heap.get? a = none := by
      cases e : sI.heap.get? a with
      | none => rfl
      | some o =>
        have q := nb a o e (by rw [hs]; exact nfr)
        rw [fl3.2.1] at q
        cases q
    have n0 : X.s_0.heap.get? a = none := by
      cases e : X.s_0.heap.get? a with
      | none => rfl
      | some o =>
        obtain ⟨o', q⟩ := J.base.there a o e (by rw [hex]; exact fun z => nomatch z)
        rw [nI] at q
        cases q
    have np : ∀ p ∈ X.pn ++ pins, p.1 ≠ a := fun p hp z => by
      have q := (J.pin p hp).1
      rw [z, nI] at q
      cases q
    have S3 := J3.suite he3 hd3 na nL nF
    refine wpAny_handleBy_cons (codeAny_handlers_test ?_) (by intro q; cases q)
    have LT : PySem.W.Looks (model X.prog X.w) h3 (typeOf (.ref a)) cls := fun A Q E s k q => wpAny_typeOf_ref (k _ _ he3) (by rw [hz3.1]; exact q)
    have LM := PySem.W.exm_one (M := model X.prog X.w) (J3.kIn) LT hb1
    refine name_ok (X := X.suite a ((a, oe3) :: (X.pn ++ pins))) S3 hc (LM.here ?_)
    refine codeAny_handlers_suite_as ?_
    refine HandSPX.lands_againZ fl3 fun h4 fl4 up4 => ?_
    have J4 : L2.Inv X pins σ' H' { s' with heap := h4 } := J.landed nb fl4.1 ((up.trans up3).trans up4) os ag
    obtain ⟨oe4, vs4, he4, hz4, hd4⟩ := fl4.there
    have K4 : L2.Inv X pins σ' (upd H' a (ExD cls d a)) { s' with heap := h4 } := Inv.track J4 he4 hd4 n0 na nL np (exD_ok he4 hz4 hd4)
    have S4 := Inv.suite0 K4 a
    refine store_ok (X := X.suite a (X.pn ++ pins)) (v := .ref a) S4 hN hi hloc rfl (fun s5 S5 => ?_) (.inr hln)
    refine wpAny_mono ((hsu a (X.pn ++ pins)).run [] s5 _ _ _ S5 (hyes a na)) (fun f s6 hsp => ?_) (fun _ _ z => False.elim z)
    have end_ : ∀ {σ6 : L2.St} {H6 : Hp} {Q : Shared → Prop}, L2.Inv (X.suite a (X.pn ++ pins)) [] σ6 H6 s6 → (∀ s7, L2.Inv X pins (σ6.set i none) H6 s7 → Q s7) →
        wpAny (model X.prog X.w) X.A (do bindName X.env n .none; unbindBehindTheSuite X.env n pos') (fun _ s7 => Q s7) X.xe s6 := fun {σ6 H6 Q} S6 hq => gone_ok (Inv.unsuite0 S6 ok) hN hi hln hq
    cases f with
    | next =>
      obtain ⟨σ6, H6, S6, q6⟩ := hsp
      exact end_ S6 fun s7 J7 => ⟨_, _, J7, q6⟩
    | brk =>
      obtain ⟨σ6, H6, S6, q6⟩ := hsp
      exact end_ S6 fun s7 J7 => ⟨_, _, J7, q6⟩
    | cont =>
      obtain ⟨σ6, H6, S6, q6⟩ := hsp
      exact end_ S6 fun s7 J7 => ⟨_, _, J7, q6⟩
    | ret u =>
      obtain ⟨v6, σ6, H6, S6, r6, q6⟩ := hsp
      exact end_ S6 fun s7 J7 => ⟨_, _, _, J7, r6, q6⟩
  · cases f with
    | next =>
      obtain ⟨σ', H', J', q⟩ := hsp
      exact wpAny_execs_nil ⟨σ', H', J'.ofTry ok, q⟩
    | brk =>
      obtain ⟨σ', H', J', q⟩ := hsp
      exact ⟨σ', H', J'.ofTry ok, q⟩
    | cont =>
      obtain ⟨σ', H', J', q⟩ := hsp
      exact ⟨σ', H', J'.ofTry ok, q⟩
    | ret u =>
      obtain ⟨v, σ', H', J', r, q⟩ := hsp
      exact ⟨v, σ', H', J'.ofTry ok, r, q⟩
end
end K19R
/-! An error whose class inherits an __init__ that says super().__init__(..) and then self.value = value. -/
namespace PySem
namespace KErr
open PySem.W PySem.Calls PyProof.Rows PySem.HandSPX
abbrev sI : Stmt := L2.inClass (K19.topS 3) 0
abbrev iA : Arguments := L2.defArgs sI
abbrev iB : List Stmt := L2.defBody sI
abbrev iS : Scope := L2.defScope sI
/-- what the written part says of the class x, at C, under ShellError, at D; its __init__ at fI, whose cell and code stand at cc and cd -/
structure Err (prog : Program) (K : Frag) (mg : Str → Option Value) (x : Str) (C D fI cc cd : Addr) : Prop where
  gC : mg x = some (.ref C)
  cls : ∃ nm q N bs bm sn sub ab col dd k0 k1 k2 k3 k5, K.lookup C = some (excClassObj nm q C N bs bm true sn sub ab col dd k0 k1 k2 k3 k5 "ValueError.__new__") ∧ refsVE bm = true
  sa : findIn K (.ref C) "__setattr__" = some (some (.builtin "object.__setattr__"))
  ga : findIn K (.ref C) "__getattribute__" = some (some (.builtin "BaseException.__getattribute__"))
  gg : findIn K (.ref C) "__getattr__" = some none
  noV : findIn K (.ref C) "value" = some none
  iC : findIn K (.ref C) "__init__" = some (some (.ref fI))
  tC : typeIn K (.ref fI) = some (.type "function")
  kC : keepIn K (.ref C) = true
  exC : subIn K (.ref C) (.type "BaseException") = some true
  vaC : subIn K (.ref C) (.type "ValueError") = some true
  tyC : typeIn K (.ref C) = some (.type "type")
  hdC : hasDictIn K C = true
  fn : ∃ (oc : Value) (od : Option Addr) (kV doc pm : Value) (an : Option Addr) (ct : Value) (osl : Array (Option Value)),
    K.lookup fI = some ⟨oc, od, .func (ksFn "__init__" "ShellError.__init__" iA iB iS .none kV doc pm an (.ref cd) ct cc), osl⟩ ∧ codeIn K (.ref cd) "ShellError.__init__" = true
  code : ∃ (ccl : Value) (cdd : Option Addr) (vs : Array Value) (ccs : Array (Option Value)) (file : Str) (tf : Tok), K.lookup cd = some ⟨ccl, cdd, .fields vs, ccs⟩ ∧ vs[2]? = some (.str file tf) ∧ ((prog.main.file : Str) == file) = true
  cell : ∃ (cl : Value) (cld : Option Addr) (csl : Array (Option Value)), K.lookup cc = some ⟨cl, cld, .cell (some (.ref D)), csl⟩
  isD : isClsIn K D = true
  sub : mroIn K C (.ref D) = some true
  sup : mg "super" = none
  top : (prog.main.scope.names.lookup ("super" : Str)).isSome = false
  next : ks_superIn K C D "__init__" = some (some (.builtin "ValueError.__init__"))
  opq : nsIn K cStatics "thirdparty.any" = some none
theorem one_size (v : Value) : [v].length ≤ sizeLine := by
  rw [sizeLine_eq]
  exact (by decide : 1 ≤ 16777216)
/-- what __init__ leaves of a fresh exception at x -/
structure InitEnd (h h' : Heap) (x C dx : Addr) (v : Value) : Prop where
  keep : ∀ b o, b ≠ x → h.get? b = some o → h'.get? b = some o
  obj : ∃ t1, h'.get? x = some { cls := .ref C, dict := some dx, data := .fields #[.ref t1, .none, .none, .none, .bool false, .none] }
  dbig : h.objs.size ≤ dx
  dne : dx ≠ x
  ns : h'.Ns1 dx (fun y => if y = "value" then some v else none)
/-- a made error -/
structure OwnMade (h h' : Heap) (e C d : Addr) (v : Value) : Prop where
  keep : ∀ b o, h.get? b = some o → h'.get? b = some o
  new : h.objs.size ≤ e
  obj : ∃ oe vs, h'.get? e = some oe ∧ oe.cls = .ref C ∧ oe.dict = some d ∧ oe.data = .fields vs ∧ vs[1]? = some .none
  dbig : h.objs.size ≤ d
  dne : d ≠ e
  ns : h'.Ns1 d (fun y => if y = "value" then some v else none)
section
variable {prog : Program} {w : World} {A : Around} {E : Value → Shared → Prop} {h : Heap} {g : Array GenState} {d : Drawn} {t : Nat} {os : OsState}
variable {nm q : Str} {C N : Addr} {bs bm : List Value} {hdct : Bool} {sn : List Str} {sub : List Value} {ab : Bool} {col : Option Bool} {dd : Option Addr} {k0 k1 k2 k3 k5 : Option Value}
theorem call_bwV {u e t0 : Addr} {rest : List Value} {Q : Value → Shared → Prop}
    (hC : h.get? C = some (excClassObj nm q C N bs bm hdct sn sub ab col dd k0 k1 k2 k3 k5 "ValueError.__new__")) (he : h.get? e = some (HandSPX.excO C t0)) (hu : h.get? u = some (kxs_mw "ValueError.__init__" e)) (hrest : rest.length ≤ sizeLine)
    (hq : ∀ h' t1, (∀ b o, b ≠ e → h.get? b = some o → h'.get? b = some o) → h'.get? e = some (HandSPX.excO C t1) → Q .none ⟨h', g, d, t, os⟩) :
    wpAny (model prog w) A (call (.ref u) rest) Q E ⟨h, g, d, t, os⟩ := by
  refine wpAny_call (codeAny_of_tree ?_)
  show wpAny _ A.in1 (callAny (.ref u) ⟨rest, []⟩) _ _ _
  simp only [callAny]
  refine wpAny_bind (wpAny_load hu ?_)
  simp only [kxs_mw, show (Value.type "method-wrapper" == Value.type "method" || Value.type "method-wrapper" == Value.type "builtin_function_or_method" || Value.type "method-wrapper" == Value.type "method-wrapper") = true by decide, if_true]
  refine W.KFB.if_so (by decide) ?_
  refine wpAny_bind (ESX.check_bound F.excBase_ValueError hC he rfl ?_)
  refine wpAny_bind (wpAny_pure (wpAny_pure ?_))
  refine ⟨Code.quiet_builtin _ (by decide +kernel), codeAny_builtin F.excBase_ValueError.initEntry ?_⟩
  rw [Around.under_plainId F.excBase_ValueError.init.plain _]
  wp_walk
  refine hq _ h.objs.size (fun b o hb ho => ?_) ?_
  · rw [Heap.get?_update_other _ _ (Ne.symm hb)]
    exact Heap.get?_push_of_some _ ho
  · rw [Heap.get?_update_self _ (Heap.get?_push_of_some _ he) rfl]
    rfl
end
theorem cw1 {M : Model} {A : Around} {E : Value → Shared → Prop} {s : Shared} {u x : Addr} {i : String} {pos : Pos} {env : Env} {e : Expr} {Q : Value → Shared → Prop} (he : starEach [e] env = [(false, eval e env)])
    (h : wpAny M A (eval e env) (fun v s₁ => s₁.heap.get? u = some (kxs_mw i x) ∧ wpAny M A (call (.ref u) [v]) Q E s₁) E s) : wpAny M A (callWith pos (.ref u) [] (backTo pos (starEach [e] env)) []) Q E s := by
  rw [he]
  refine kxs_callWith (i := i) (x := x) rfl (evalArgs_plain ?_)
  exact spliced_cons (wpAny_mono h (fun v s1 h1 => spliced_nil h1) fun _ _ z => z)
section
variable {prog : Program} {w : World} {A : Around} {E : Value → Shared → Prop} {R : Result → Shared → Prop} {s : Shared} {K : Frag} {mg mb : Str → Option Value} {x : Str} {C D fI cc cd : Addr}
theorem err_init (T : Err prog K mg x C D fI cc cd) {a t0 : Addr} {v : Value} (X : K.In s.heap) (hlim : s.heap.NoLimit) (hgl : s.heap.Ns mainGlobals mg) (hbl : s.heap.Ns builtinsNs mb) (hbs : mb "super" = bootBuiltins "super") (hx : s.heap.get? a = some (excO C t0)) (hnx : K.lookup a = none) (hroom : A.depth < recursionLimit)
    (hq : ∀ h' tk dx, InitEnd s.heap h' a C dx v → R (.ok (.ret .none)) { s with heap := h', toks := tk }) :
    codeAny (model prog w) A (.call (.ref fI) ⟨[.ref a, v], []⟩) R s := by
  obtain ⟨oc, od, kV, doc, pm, an, ct, osl, ho, hcd⟩ := T.fn
  obtain ⟨ccl, cdd, vs, ccs, file, tf, hcode, hvs, hfile⟩ := T.code
  obtain ⟨cl, cld, csl, hcell⟩ := T.cell
  obtain ⟨nm, q, N, bs, bm, sn, sub, ab, col, dd, k0, k1, k2, k3, k5, hC, hbm⟩ := T.cls
  have hcl : clsIn K C = some { name := nm, bases := bs, mro := .ref C :: bm, ns := N, qualname := q, hasDict := true, slotNames := sn, subclasses := sub, abstract := ab, collection := col, hasDel := false } := by unfold clsIn; rw [hC] <;> rfl
  obtain ⟨cdD, hD⟩ : ∃ cdD, clsIn K D = some cdD := Option.isSome_iff_exists.mp T.isD
  refine ks_codeAny_call_defAt (fd := ksFn "__init__" "ShellError.__init__" iA iB iS .none kV doc pm an (.ref cd) ct cc) (body := iB) (binds := [("self", .ref a), ("value", v)]) hroom (X _ _ ho) rfl hlim (codeRec_of X hcd) rfl
    (BindsTo.of_eq (by first | rfl | with_unfolding_all rfl)) (show ∀ y ∈ iS.names, y.2 ≠ .cell by decide +kernel) (fun y hy => by
      rcases List.mem_cons.mp hy with rfl | hy
      · rfl
      · rcases List.mem_cons.mp hy with rfl | hy
        · rfl
        · cases hy) (fun h₁ hns kk => ?_) rfl rfl rfl
  have hxL : s.heap.objs.size ≠ a := Nat.ne_of_gt (Heap.lt_size hx)
  have X₁ : K.In h₁ := X.keeps kk
  have hx₁ := kk _ _ hx
  have I₁ : InstAt h₁ a (excO C t0) C none := ⟨hx₁, rfl, rfl, trivial⟩
  obtain ⟨hp, g, dr, tk, os⟩ := s
  -- super().__init__("shell error")
  show wpAt _ _ _ (execs (_ :: _) _) _ _ _
  refine ks_wpAt_execs_cons (ks_wpAt_Expr_any (ks_wpAt_MethodCall ?_))
  obtain ⟨oD, hD1, hD2⟩ : ∃ oD, h₁.get? D = some oD ∧ oD.data = .cls cdD := by
    unfold clsIn at hD
    split at hD
    · rename_i c d cd' sl ho
      cases hD
      exact ⟨_, X₁ _ _ ho, rfl⟩
    · cases hD
  refine ks_wpAt_super_base (env := ksEnv "ShellError.__init__" iS hp.objs.size fI (.ref cd) cc) rfl rfl rfl rfl (X₁ _ _ ho) rfl rfl rfl (X₁ _ _ hcode) rfl hvs hfile T.top ?_
  have hg₁ : h₁.Ns mainGlobals mg := by
    obtain ⟨o, es, ep, e, r⟩ := hgl
    exact ⟨o, es, ep, kk _ _ e, r⟩
  have hb₁ : h₁.Ns builtinsNs mb := by
    obtain ⟨o, es, ep, e, r⟩ := hbl
    exact ⟨o, es, ep, kk _ _ e, r⟩
  refine ks_loadName_global rfl rfl (loadGlobal_builtin (env := ksEnv "ShellError.__init__" iS hp.objs.size fI (.ref cd) cc) hg₁ T.sup hb₁ (hbs.trans (by decide +kernel)) ⟨rfl, ?_⟩)
  refine wpAny_loadName_free rfl rfl rfl ⟨_, X₁ _ _ hcell, rfl⟩ ?_
  refine wpAny_loadName_local rfl rfl hns (show _ = some (Value.ref a) from by first | rfl | with_unfolding_all rfl | kernel_rfl) ?_
  refine ks_wpAny_isType_cls hD1 hD2 ⟨rfl, ?_⟩
  refine ks_wpAny_call_super hD1 hD2 hx₁ rfl (fun c e => by cases e) (looks_mroIn X₁ T.sub) (fun h₂ e₂ kk₂ => ?_)
  have X₂ : K.In h₂ := X₁.keeps kk₂
  have hx₂ := kk₂ _ _ hx₁
  have I₂ : InstAt h₂ a (excO C t0) C none := ⟨hx₂, rfl, rfl, trivial⟩
  have hm := T.next
  unfold ks_superIn at hm
  rw [hcl] at hm
  refine kxs_getMethod kxs_ValueError e₂ (looks_opaque X₂ T.opq) (l₀ := .ref C :: bm) (fun A Q E s k q => wpAny_bind ((looks_clsIn X₂ hcl) A _ E s k (wpAny_pure q))) rfl X₂ hm (I₂.type.andThen (looks_subIn X₂ T.vaC)) (ks_ne X₂ I₂ hcl) rfl ?_
  have kk₃ : ∀ b o, h₂.get? b = some o → (h₂.push (kxs_mw "ValueError.__init__" a)).get? b = some o := fun b o e => Heap.get?_push_of_some _ e
  have hu : (h₂.push (kxs_mw "ValueError.__init__" a)).get? h₂.objs.size = some (kxs_mw "ValueError.__init__" a) := Heap.get?_push_size _ rfl
  refine cw1 (i := "ValueError.__init__") (x := a) rfl (Constant_str ⟨hu, ?_⟩)
  refine call_bwV (X₂.keeps kk₃ _ _ hC) (kk₃ _ _ hx₂) hu (one_size _) fun h₄ t1 kk₄ hx₄ => ?_
  -- self.value = value
  have nsL : ∀ {b : Heap}, (∀ c o, c ≠ a → h₁.get? c = some o → b.get? c = some o) → b.Ns hp.objs.size (fun x => ([(("self" : Str), Value.ref a), ("value", v)] : List (Str × Value)).reverse.lookup x) := fun k => by
    obtain ⟨o, es, ep, e, r⟩ := hns
    exact ⟨o, es, ep, k _ _ hxL e, r⟩
  have k14 : ∀ c o, c ≠ a → h₁.get? c = some o → h₄.get? c = some o := fun c o hc e => kk₄ c o hc (kk₃ _ _ (kk₂ _ _ e))
  have hn₄ := nsL k14
  have X₄ : K.In h₄ := fun b o e => by
    have hb : b ≠ a := fun z => by rw [z, hnx] at e; cases e
    exact k14 b o hb (X₁ b o e)
  refine wpAt_of_wpAny ?_
  show wpAny _ _ (execs (_ :: _) _) _ _ _
  refine wpAny_execs_cons (plainObj_wpAny_Assign_Attribute ?_)
  refine ESX.ldL hn₄ (by first | rfl | with_unfolding_all rfl | kernel_rfl) (ESX.ldL hn₄ (by first | rfl | with_unfolding_all rfl | kernel_rfl) ?_)
  refine set_plain X₄ (ox := excO C t1) (od := none) ⟨hx₄, rfl, rfl, trivial⟩ T.sa ?_
  refine exc_osa X₄ hx₄ hcl (show refsVE (.ref C :: bm) = true from hbm) rfl T.noV (fun h₅ tk₅ dx k₅ dn dne hx₅ hn₅ => ?_)
  show wpAny _ _ (execs _ _) _ _ _
  refine wpAny_execs_nil (hq h₅ tk₅ dx ⟨fun b o hb e => k₅ b o hb (k14 b o hb (kk b o e)), ⟨t1, hx₅⟩, ?_, dne, hn₅⟩)
  refine Nat.le_trans ?_ dn
  have z : hp.objs.size < h₄.objs.size := hn₄.lt
  exact Nat.le_of_lt z
theorem err_made (T : Err prog K mg x C D fI cc cd) {v : Value} (X : K.In s.heap) (hlim : s.heap.NoLimit) (hgl : s.heap.Ns mainGlobals mg) (hbl : s.heap.Ns builtinsNs mb) (hbs : mb "super" = bootBuiltins "super") (hroom : A.depth + 1 < recursionLimit)
    (hq : ∀ h' tk e d, OwnMade s.heap h' e C d v → R (.ok (.ret (.ref e))) { s with heap := h', toks := tk }) :
    codeAny (model prog w) A (.call (.ref C) ⟨[v], []⟩) R s := by
  obtain ⟨nm, q, N, bs, bm, sn, sub, ab, col, dd, k0, k1, k2, k3, k5, hC, hbm⟩ := T.cls
  obtain ⟨hp, g, dr, tk, os⟩ := s
  have k : ∀ b o, hp.get? b = some o → ((hp.push (kdv_tup [v])).push (excO C hp.objs.size)).get? b = some o := fun b o e => Heap.get?_push_of_some _ (Heap.get?_push_of_some _ e)
  have hget : ((hp.push (kdv_tup [v])).push (excO C hp.objs.size)).get? (hp.objs.size + 1) = some (excO C hp.objs.size) := by heap_get
  have hnx : K.lookup (hp.objs.size + 1) = none := by
    cases e : K.lookup (hp.objs.size + 1) with
    | none => rfl
    | some o =>
      have z : hp.get? (hp.objs.size + 1) = some o := X _ _ e
      exact absurd (Nat.lt_of_succ_lt (Heap.lt_size z)) (Nat.lt_irrefl _)
  have nsk : ∀ {L : Addr} {m : Str → Option Value}, hp.Ns L m → ((hp.push (kdv_tup [v])).push (excO C hp.objs.size)).Ns L m := fun hn => by
    obtain ⟨o, es, ep, e, r⟩ := hn
    exact ⟨o, es, ep, k _ _ e, r⟩
  refine call_own F.excBase_ValueError (fun X => refsVE_contains X bm hbm) (X _ _ hC) (looks_findIn X T.iC) (fun self => bind_fn X self T.tC) (one_size v) ?_
  refine err_init (s := ⟨(hp.push (kdv_tup [v])).push (excO C hp.objs.size), g, dr, tk, os⟩) T (X.keeps k) (hlim.keeps k) (nsk hgl) (nsk hbl) hbs hget hnx ?_ fun h' tk' dx ⟨k', hx, dn, dne, hns⟩ => ?_
  · show A.depth + 1 < recursionLimit
    exact hroom
  · have old : ∀ b o, hp.get? b = some o → h'.get? b = some o := fun b o e => k' b o (Nat.ne_of_lt (Nat.lt_succ_of_lt (Heap.lt_size e))) (k b o e)
    have z : hp.objs.size + 1 + 1 ≤ dx := by
      first
        | (simpa only [Heap.size_push] using dn)
        | exact dn
        | (have q := dn; rw [Heap.size_push, Heap.size_push] at q; exact q)
    obtain ⟨t1, hx⟩ := hx
    exact ⟨rfl, hq h' tk' (hp.objs.size + 1) dx ⟨old, Nat.le_succ _, ⟨_, _, hx, rfl, rfl, rfl, rfl⟩, Nat.le_trans (Nat.le_trans (Nat.le_succ _) (Nat.le_succ _)) z, dne, hns⟩⟩
end
end KErr
end PySem
namespace K19R
open PySem PySem.Spec PyProof.Rows L2
theorem relO_val {v : V} {v' : Value} (r : RelV v v') (f : Str) : RelO (List.lookup f [(("value" : Str), v)]) (if f = "value" then some v' else none) := by
  by_cases hw : f = "value"
  · subst hw
    rw [if_pos rfl]
    have q : List.lookup ("value" : Str) [(("value" : Str), v)] = some v := by simp [List.lookup]
    rw [q]
    exact r
  · rw [if_neg hw]
    have qw : (f == ("value" : Str)) = false := by simpa using hw
    have q2 : List.lookup f [(("value" : Str), v)] = none := by simp [List.lookup, qw]
    rw [q2]
    trivial
/-- X(e) -/
def tMkErr (C : Addr) (ta : TA) : L2.St → Hp → XK → Prop := fun σ H Q => ta σ H fun vs H1 => ∃ v, vs = [v] ∧ ∀ d, H1 d = none → Q (.ref C) (some d) (upd H1 d (.xd [(("value" : Str), v)]))
section
variable {X : Cx} {x : Str} {C D fI cc cd : Addr}
theorem pmk_err {a : Expr} {ta : TA} {p pos : Pos} {k : Nat} (T : PySem.KErr.Err X.prog X.K X.mg x C D fI cc cd) (hr : Room k X.A) (ha : PA X [a] ta) (hg : Gl X x := by rfl) (hdb : (x == ("__debug__" : Str)) = false := by decide)
    (he : starEach (a :: []) X.env = (false, eval a X.env) :: starEach [] X.env := by rfl) (hpl : (backTo pos (starEach [] X.env)).any (·.1) = false := by rfl) :
    PMk X (.Call (.Name x p) [a] [] pos) (tMkErr C ta) := by
  intro pins s σ H Q I h
  refine wpAny_Call_Name_kw (ld_glob I hg T.gC ?_ hdb)
  refine PySem.W.callWith_K (h₀ := X.base) I.ok.mod.kin T.kC (thn (ha.run pos pins s σ H _ I h) fun us s1 hh => ?_) he hpl
  obtain ⟨vs, H1, I1, r1, v, ev, q1⟩ := hh
  subst ev
  refine ⟨I1.kIn, ?_⟩
  cases r1 with
  | cons rv rn =>
    rename_i v' us'
    cases rn
    show wpAny _ _ (call (.ref C) [v']) _ _ _
    have hlim := I1.nolimit
    obtain ⟨mb, hbl, hbs⟩ := I1.mod.blt
    have nsk : ∀ {L : Addr} {m : Str → Option Value}, X.base.Ns L m → s1.heap.Ns L m := fun hn => by
      obtain ⟨o, es, ep, e, r⟩ := hn
      exact ⟨o, es, ep, I1.bk _ _ e, r⟩
    have hgl := nsk I1.mod.glob
    have hbl := nsk hbl
    obtain ⟨hp, g, d, t, os⟩ := s1
    refine wpAny_call (PySem.KErr.err_made T I1.kIn hlim hgl hbl (hbs "super" (by decide)) (by have := hr.dp; omega) fun h' tk' e d M => ?_)
    show MkP X pins σ Q (.ref e) ⟨h', g, _, tk', os⟩
    obtain ⟨oe, fv, hoe, hc, hd, hdat, h1⟩ := M.obj
    have hns := M.ns
    obtain ⟨G', g1, g2⟩ := restrict h' fun b => decide (b ≠ e)
    have gk : ∀ b, b ≠ e → G'.get? b = h'.get? b := fun b hb => g1 b (decide_eq_true hb)
    have ge : G'.get? e = none := g2 e (by simp)
    have old : ∀ b o, hp.get? b = some o → G'.get? b = some o := fun b o q => (gk b (Nat.ne_of_lt (Nat.lt_of_lt_of_le (Heap.lt_size q) M.new))).trans (M.keep b o q)
    have ob : ObjOk X.prog X.w (upd H1 d (.xd [(("value" : Str), v)])) G' d (.xd [(("value" : Str), v)]) :=
      ⟨_, hns.at (fun o q => (gk d M.dne).trans q), fun f => relO_val rv f⟩
    have J := I1.laid (t' := tk') old M.dbig ob
    refine ⟨e, oe, fv, _, _, .ref C, some d, rfl, J, fun b o q => ?_, ge, hoe, ⟨hc, hd⟩, hdat, h1, ?_, rfl, I1.bare, raises_own T.exC T.tyC, q1 d (I1.hok.fresh M.dbig)⟩
    · by_cases hb : b = e
      · have q' : G'.get? b = some o := q
        rw [hb, ge] at q'; cases q'
      · exact (gk b hb).symm.trans q
    · rw [upd_ne (Ne.symm M.dne)]
      exact I1.hok.fresh M.new
/-- raise X(e) -/
def tRaiseErr (C : Addr) (W : WX) (ta : TA) : TS := fun _ σ H => tMkErr C ta σ H fun cls d H' => W cls d σ H'
theorem ps_raiseErr {a : Expr} {ta : TA} {W : WX} {p pos pos2 : Pos} {k : Nat} (hc : X.calm = true) (T : PySem.KErr.Err X.prog X.K X.mg x C D fI cc cd) (hr : Room k X.A) (tk : Takes X W) (ha : PA X [a] ta) (hg : Gl X x := by rfl) (hdb : (x == ("__debug__" : Str)) = false := by decide)
    (he : starEach (a :: []) X.env = (false, eval a X.env) :: starEach [] X.env := by rfl) (hpl : (backTo pos (starEach [] X.env)).any (·.1) = false := by rfl) :
    PS X (.Raise (some (.Call (.Name x p) [a] [] pos)) none pos2) (tRaiseErr C W ta) := ps_raise hc tk (pmk_err T hr ha hg hdb he hpl)
/-- what is to be known of a class whose errors are looked at -/
structure ErrC (K : PySem.W.Frag) (C : Addr) : Prop where
  ga : PySem.W.findIn K (.ref C) "__getattribute__" = some (some (.builtin "BaseException.__getattribute__"))
  gg : PySem.W.findIn K (.ref C) "__getattr__" = some none
  exC : PySem.W.subIn K (.ref C) (.type "BaseException") = some true
  hdC : PySem.W.hasDictIn K C = true
  noV : PySem.W.findIn K (.ref C) "value" = some none
  ha : PySem.W.findIn K (.ref C) "__class__" = some (some (.builtin "object.__class__"))
  hn : PySem.W.specialIn K (.builtin "object.__class__") "__get__" = some (some (.builtin "getset_descriptor.__get__"))
  ht : PySem.W.takesIn K (.builtin "object.__class__") = some true
  hm : PySem.W.mroIn K C (.type "object") = some true
theorem inst_of {P : Program} {w : World} {H : Hp} {h : Heap} {a C dd : Addr} {v : V} (hok : HOk P w H h) (ea : H a = some (ExD (.ref C) (some dd) a)) (ed : H dd = some (.xd [(("value" : Str), v)])) :
    ∃ oe od u, PySem.W.InstAt h a oe C (some od) ∧ RelV v u ∧ PySem.W.lookIn "value" od = some (some u) := by
  obtain ⟨⟨oe, vs, ha, hz, hd⟩, _⟩ := (show ObjOk P w H h a (ExD (.ref C) (some dd) a) from hok a _ ea)
  obtain ⟨mA, hns, hr⟩ := (show ObjOk P w H h dd (.xd [(("value" : Str), v)]) from hok dd _ ed)
  obtain ⟨od, ho, hl⟩ := lookIn_ns hns
  have l : List.lookup ("value" : Str) [(("value" : Str), v)] = some v := by simp [List.lookup]
  obtain ⟨u, hu, ru⟩ := RelO.some_of (v := v) (o := mA "value") (by rw [← l]; exact hr "value")
  exact ⟨oe, od, u, ⟨ha, hz.1, by unfold PySem.W.notCls; rw [hd] <;> rfl, by rw [hz.2]; exact ho⟩, ru, by rw [hl, hu]⟩
/-- e.value -/
def tValue (K : PySem.W.Frag) (te : TE) : TE := fun σ H Q => te σ H fun x H1 => ∃ (a C dd : Addr) (v : V), x = .ref a ∧ ErrC K C ∧ H1 a = some (ExD (.ref C) (some dd) a) ∧ H1 dd = some (.xd [(("value" : Str), v)]) ∧ Q v H1
theorem pe_value {e : Expr} {te : TE} {pos : Pos} (he : PE X e te) (hb : attributeBase e "value" X.env (eval e X.env) = eval e X.env := by rfl) : PE X (.Attribute e "value" pos) (tValue X.K te) := by
  refine ⟨fun pins s σ H Q I h => ?_⟩
  refine attr_of hb (thn (he.run pins s σ H _ I h) fun u s1 hh => ?_)
  obtain ⟨x, H1, I1, rx, a, C, dd, v, ex, T, ea, ed, q⟩ := hh
  subst ex
  obtain rfl : u = Value.ref a := rx
  obtain ⟨oe, od, u, J, ru, hl⟩ := inst_of I1.hok ea ed
  exact HandSPX.exc_get I1.kIn J T.ga T.gg T.exC (PySem.W.findObj_own T.hdC T.noV rfl hl) (handed_of ru) ⟨v, H1, I1.tok _, ru, q⟩
end
end K19R
namespace PySem.W
open PySem PySem.Spec PySem.Calls PyProof.Rows
section
variable {prog : Program} {w : World} {A : Around} {E : Value → Shared → Prop} {s : Shared} {K : Frag} {x D : Addr} {ox : Obj} {od : Option Obj}
theorem k19_dataO {C : Addr} {name : Str} {a g : Value} (hc : (clsIn K C).isSome = true) (ha : findIn K (.ref C) name = some (some a)) (hg : specialIn K a "__get__" = some (some g)) (ht : takesIn K a = some true) : findObj K C od name = some (.bind g a) := by
  obtain ⟨cd, hc⟩ := Option.isSome_iff_exists.mp hc
  unfold findObj
  rw [hc, Option.bind_some, ha, Option.bind_some]
  simp [hg, ht]
theorem k19_classE {Q : Option Value → Shared → Prop} (hga : findIn K (.ref D) "__getattribute__" = some (some (.builtin "BaseException.__getattribute__"))) (hgt : findIn K (.ref D) "__getattr__" = some none) (hsub : subIn K (.ref D) (.type "BaseException") = some true)
    (hdct : hasDictIn K D = true) (ha : findIn K (.ref D) "__class__" = some (some (.builtin "object.__class__")))
    (hn : specialIn K (.builtin "object.__class__") "__get__" = some (some (.builtin "getset_descriptor.__get__"))) (htk : takesIn K (.builtin "object.__class__") = some true) (hm : mroIn K D (.type "object") = some true)
    (X : K.In s.heap) (I : InstAt s.heap x ox D od) (h : Q (some (.ref D)) { s with toks := s.toks + 1 }) : wpAny (model prog w) A (getAttr? (.ref x) "__class__") Q E s := by
  have hf : findObj K D od "__class__" = some (.bind (.builtin "getset_descriptor.__get__") (.builtin "object.__class__")) := k19_dataO (by obtain ⟨cd, hc, _⟩ := any_some hdct; rw [hc]; rfl) ha hn htk
  obtain ⟨hp, g, d, t, os⟩ := s
  have L0 := I.type (M := model prog w)
  have L1 := looks_findIn (M := model prog w) X hga
  have L2 := looks_findIn (M := model prog w) X hgt
  have L3 := looks_find (M := model prog w) X I hf
  have sub : Looks (model prog w) hp (isInstance (.ref x) (.type "BaseException")) true := L0.andThen (looks_subIn X hsub)
  have hx0 : (false && onTheHeap (Value.builtin "BaseException.__getattribute__")) = false := rfl
  have hx2 : (Value.builtin "BaseException.__getattribute__" == Value.builtin "object.__getattribute__") = false := by decide +kernel
  have hx1 : (onTheHeap (Value.ref D) && Value.builtin "BaseException.__getattribute__" == Value.builtin "object.__getattribute__") = false := by rw [hx2]; rfl
  unfold getAttr? getAttrBy? getAttrBy
  refine wpAny_bind (wpAny_mkText (wpAny_bind (wpAny_attempt (wpAny_holding (wpAny_bind (L0.at (wpAny_bind (L1.at ?_))))))))
  show wpAny _ _ (if (onTheHeap (Value.ref D) && Value.builtin "BaseException.__getattribute__" == Value.builtin "object.__getattribute__") = true then _ else _) _ _ _
  rw [hx1, if_neg Bool.false_ne_true]
  unfold getAttrByItsOwn hookBefore
  refine wpAny_bind ?_
  rw [if_pos (show onTheHeap (Value.ref D) = true from rfl)]
  refine L2.at ?_
  refine wpAny_bind (wpAny_attempt (wpAny_holding ?_))
  unfold callGetattribute
  rw [hx0, if_neg Bool.false_ne_true]
  unfold boundAndCalled
  rw [PySem.F.excAttr_ValueError.ga.bind (.ref x)]
  refine wpAny_bind (wpAny_pure ?_)
  show wpAny _ _ (call (.builtin "BaseException.__getattribute__") [.ref x, .str "__class__" t]) _ _ _
  refine wpAny_call (codeAny_call_builtin PySem.F.excAttr_ValueError.ga.plain PySem.F.entry_bexc_ga ?_)
  refine @check_slot (model prog w) _ _ ⟨hp, g, d, t + 1, os⟩ "BaseException.__getattribute__" "BaseException" "__getattribute__" (.ref x) [.str "__class__" t] [] _ (by decide +kernel) (by decide +kernel) sub (PySem.F.args_bexc_ga (.ref x) (.str "__class__" t)) ?_
  unfold Builtin.«object.__getattribute__»
  refine wpAny_bind (wpAny_of_eq (a := ((Value.ref x : Value), [Value.str "__class__" t])) (by first | rfl | (simp only [slotArgs]; rfl)) ?_)
  refine wpAny_bind (wpAny_pure (wpAny_bind (L0.at (wpAny_bind (L3.at ?_)))))
  show wpAny _ _ (holding [Value.builtin "object.__class__"] (call (.builtin "getset_descriptor.__get__") [.builtin "object.__class__", .ref x, .ref D]) >>= ret) _ _ _
  refine wpAny_bind (wpAny_holding (wpAny_call (class_get (s := ⟨hp, g, d, t + 1, os⟩) (ox := ox) (od := od) X I hm ?_)))
  refine wpAny_pure ?_
  show wpAny _ _ (handedOut (.ref D)) _ _ _
  rw [handedOut_of (v := .ref D) rfl]
  first
    | exact wpAny_pure (wpAny_pure h)
    | exact wpAny_pure h
    | exact wpAny_pure (wpAny_bind (wpAny_pure (wpAny_pure h)))
theorem k19_kitx (hga : findIn K (.ref D) "__getattribute__" = some (some (.builtin "BaseException.__getattribute__"))) (hgt : findIn K (.ref D) "__getattr__" = some none) (hsub : subIn K (.ref D) (.type "BaseException") = some true) (hdct : hasDictIn K D = true) (ha : findIn K (.ref D) "__class__" = some (some (.builtin "object.__class__")))
    (hn : specialIn K (.builtin "object.__class__") "__get__" = some (some (.builtin "getset_descriptor.__get__"))) (htk : takesIn K (.builtin "object.__class__") = some true) (hm : mroIn K D (.type "object") = some true) :
    KitX K (.ref x) (.ref D) (fun h => InstAt h x ox D od) where
  ty := fun _ _ _ I => I.type
  it := fun _ _ X _ => by
    obtain ⟨cdD, hcD, _⟩ := any_some hdct
    unfold clsIn at hcD
    split at hcD
    · rename_i c' d' cd' sl' ho
      intro A' Q' E' s' k q
      unfold isType loadHead
      exact wpAny_bind (wpAny_loadPart (k _ _ (X _ _ ho)) (wpAny_pure q))
    · cases hcD
  ne := fun h tp dd its n sl X htp => by
    obtain ⟨cdD, hcD, _⟩ := any_some hdct
    refine Bool.eq_false_iff.mpr fun q => ?_
    have e : D = tp := Value.ref.inj (beq_iff_eq.mp q)
    subst e
    unfold clsIn at hcD
    split at hcD
    · rename_i c' d' cd' sl' ho
      have z := (X _ _ ho).symm.trans htp
      cases z
    · cases hcD
  ca := fun X I k => k19_classE hga hgt hsub hdct ha hn htk hm X I k
end
end PySem.W
namespace K19R
open PySem PySem.Spec PyProof.Rows L2
/-- isinstance(e, c), e a kept error -/
def rIsErr (K : PySem.W.Frag) : List V → Hp → VK → Prop := fun xs H Q => ∃ (a C dd : Addr) (v c : V) (cv : Value) (b : Bool), xs = [.ref a, c] ∧ ClsV c cv ∧ ErrC K C ∧ H a = some (ExD (.ref C) (some dd) a) ∧ H dd = some (.xd [(("value" : Str), v)]) ∧ PySem.W.kitOne K (.ref C) cv = some b ∧ Q (.bl b) H
theorem call_isErr {X : Cx} : CallR X (.builtin "isinstance") (rIsErr X.K) := by
  intro pins s σ H xs us Q I r h
  obtain ⟨a, C, dd, v, c, cv, b, rfl, k, T, ea, ed, e, q⟩ := h
  obtain ⟨u1, u2, rfl, r1, r2⟩ := vals2 r
  have e2 := k.eq r2
  subst e2
  cases (show u1 = Value.ref a from r1)
  obtain ⟨oe, od, u, J, ru, hl⟩ := inst_of I.hok ea ed
  exact PySem.W.kia_one (PySem.W.k19_kitx T.ga T.gg T.exC T.hdC T.ha T.hn T.ht T.hm) I.kIn J e (fun z => nomatch z) fun tk => ⟨.bl b, H, I.tok tk, rfl, q⟩
end K19R
namespace K19R
open PySem PySem.Spec PyProof.Rows L2
/-! ### sets of texts -/
def keyS (e : Int × Value) : Str := match e.2 with
  | .str k _ => k
  | _ => ""
def GoodS (w : World) (e : Int × Value) : Prop := ∃ k tk, e.2 = Value.str k tk ∧ e.1 = hashStr w k

/-- the set of texts at a: S its members, n their number; its table rises and can be walked -/
def SetS (w : World) (h : Heap) (a : Addr) (S : Str → Bool) (n : Nat) : Prop :=
  ∃ o es ep t, h.get? a = some o ∧ o.ExactSet ∧ o.data = .set es ep t ∧ (∀ e ∈ es.toList, GoodS w e) ∧ (es.toList.map keyS).Nodup ∧ (∀ k, S k = true ↔ k ∈ es.toList.map keyS) ∧
    es.size < scanBound ∧ t.fits es.size = true ∧ es.size = n ∧ Ris t.place.toList ∧ (w.params.followText "set-order" = true ∨ t.led = true)

section
variable {P : Program} {w : World} {h h' : Heap} {a : Addr} {S : Str → Bool} {n : Nat}

theorem SetS.at (R : SetS w h a S n) (k : ∀ o, h.get? a = some o → h'.get? a = some o) : SetS w h' a S n := by
  obtain ⟨o, es, ep, t, ho, r⟩ := R
  exact ⟨o, es, ep, t, k o ho, r⟩
theorem SetS.lt (R : SetS w h a S n) : a < h.objs.size := by
  obtain ⟨o, es, ep, t, ho, r⟩ := R
  exact Heap.lt_size ho
theorem SetS.congr {S' : Str → Bool} (R : SetS w h a S n) (e : ∀ k, S' k = S k) : SetS w h a S' n := by
  have q : S' = S := funext e
  rw [q]; exact R
theorem good_elems {l : List (Int × Value)} (g : ∀ e ∈ l, GoodS w e) : ElemsOf (PySem.strKind P w) l := fun e he => by
  obtain ⟨k, tk, h1, h2⟩ := g e he
  exact ⟨⟨k, by rw [h1]; exact PySem.strKind_is P w k tk, h2⟩, by rw [h1] <;> rfl⟩
theorem good_is {e : Int × Value} (g : GoodS w e) (k : Str) : (PySem.strKind P w).is k e.2 = true ↔ keyS e = k := by
  obtain ⟨k0, tk, h1, _⟩ := g
  unfold keyS
  rw [h1]
  show (PySem.strKind P w).is k (.str k0 tk) = true ↔ k0 = k
  constructor
  · intro h
    exact (PySem.strKind P w).inj _ _ _ (PySem.strKind_is P w k0 tk) h
  · intro h
    subst h
    exact PySem.strKind_is P w k0 tk
theorem good_mem {l : List (Int × Value)} (g : ∀ e ∈ l, GoodS w e) (k : Str) : k ∈ l.map keyS ↔ ∃ e ∈ l, (PySem.strKind P w).is k e.2 = true := by
  rw [List.mem_map]
  constructor
  · rintro ⟨e, he, q⟩
    exact ⟨e, he, (good_is (g e he) k).2 q⟩
  · rintro ⟨e, he, q⟩
    exact ⟨e, he, (good_is (g e he) k).1 q⟩
theorem SetS.setOf (R : SetS w h a S n) : h.SetOf (PySem.strKind P w) a S n := by
  obtain ⟨o, es, ep, t, ho, hx, hd, g, nd, hm, hb, hf, hn, _⟩ := R
  exact ⟨o, es, ep, t, ho, hx, hd, good_elems g, fun k => (hm k).trans (good_mem g k), hb, hf, hn⟩
end

section
variable {P : Program} {w : World} {A : Around} {E : Value → Shared → Prop} {s : Shared} {a : Addr} {S : Str → Bool} {n : Nat}

/-! ### add -/
theorem setS_add_tail {g : Bool → Sem Unit} (hg : ∀ (b : Bool) (s₁ : Shared) (Q' : Unit → Shared → Prop), Q' () s₁ → wpAny (model P w) A (g b) Q' E s₁)
    {o : Obj} {es : Array (Int × Value)} {ep : Nat} {t : SetTable} (ho : s.heap.get? a = some o) (hex : o.ExactSet) (hd : o.data = .set es ep t)
    {es1 : Array (Int × Value)} {t2 : SetTable} {S' : Str → Bool} (g1 : ∀ e ∈ es1.toList, GoodS w e) (nd1 : (es1.toList.map keyS).Nodup) (m1 : ∀ k, S' k = true ↔ k ∈ es1.toList.map keyS)
    (hb1 : es1.size < scanBound) (hf2 : t2.fits es1.size = true) (hr : Ris t2.place.toList) (hl : w.params.followText "set-order" = true ∨ t2.led = true) {wasDummy : Bool} {R : Option Bool → Shared → Prop}
    (hR : ∀ h', Heap.SameBut a s.heap h' → SetS w h' a S' es1.size → R (some true) { s with heap := h' }) :
    wpAny (model P w) A (do
        storeSet a es1 t2
        if (!wasDummy && t2.tooFull) = true then do
            g (relayAll t2 es1 (SetTable.grown es1.size)).2.2
            storeSet a (relayAll t2 es1 (SetTable.grown es1.size)).1 (relayAll t2 es1 (SetTable.grown es1.size)).2.1
            pure (some true)
          else pure (some true)) R E s := by
  refine wpAny_bind (wpAny_storeSet_of ho hd ?_ (fits_of_scanBound hb1))
  have ho1 := store_at (es' := es1) (t' := t2) ho hd
  have sb1 := Heap.SameBut.update s.heap a (Obj.putSet es1 t2)
  split
  · have pm := relayAll_perm t2 es1 (SetTable.grown es1.size)
    have hf3 := relayAll_fits t2 es1 (SetTable.grown es1.size)
    have hr3 := relayAll_ris t2 es1 (SetTable.grown es1.size)
    have hl3 := relayAll_led t2 es1 (SetTable.grown es1.size)
    generalize relayAll t2 es1 (SetTable.grown es1.size) = Z at pm hf3 hr3 hl3 ⊢
    obtain ⟨es2, t3, gave⟩ := Z
    dsimp only at pm hf3 hr3 hl3 ⊢
    have hsz : es2.size = es1.size := by rw [← Array.length_toList, pm.length_eq, Array.length_toList]
    have hb2 : es2.size < scanBound := by rw [hsz]; exact hb1
    refine wpAny_bind (hg _ _ _ ?_)
    refine wpAny_bind (wpAny_storeSet_of ho1 rfl ?_ (fits_of_scanBound hb2))
    have ho2 := store_at (es' := es2) (t' := t3) ho1 rfl
    refine wpAny_pure (hR _ (sb1.trans (Heap.SameBut.update _ a _)) ?_)
    exact ⟨_, es2, _, t3, ho2, hex, rfl, fun e he => g1 e (pm.mem_iff.mp he), (pm.map keyS).nodup_iff.mpr nd1, fun k => (m1 k).trans (pm.map keyS).mem_iff.symm, hb2, hf3, hsz, hr3,
      hl.imp id fun z => by rw [hl3]; exact z⟩
  · exact wpAny_pure (hR _ sb1 ⟨_, es1, _, t2, ho1, hex, rfl, g1, nd1, m1, hb1, hf2, rfl, hr, hl⟩)

theorem setS_add_hashed {k : Str} {tk : Tok} {Q : Bool → Shared → Prop} (R : SetS w s.heap a S n) (room : n + 1 < scanBound)
    (hQ : ∀ h', Heap.SameBut a s.heap h' → SetS w h' a (fun j => S j || decide (j = k)) (if S k = true then n else n + 1) → Q (!S k) { s with heap := h' }) :
    wpAny (model P w) A (setAddHashed a (.str k tk) ((PySem.strKind P w).hash k)) Q E s := by
  obtain ⟨o, es, ep, t, ho, hex, hd, g, nd, hm, hb, hf, hn, hr, hl⟩ := R
  have hkey : (PySem.strKind P w).is k (.str k tk) = true := PySem.strKind_is P w k tk
  have hsc : (Value.str k tk).scannable = true := rfl
  have hel : ElemsOf (PySem.strKind P w) es.toList := good_elems g
  unfold setAddHashed setAddHashedIn
  refine wpAny_holding (wpAny_bind (wpAny_setState_of ho hd hf ?_))
  dsimp only
  rw [byScan_of hsc hb hel]
  simp only [↓reduceIte]
  unfold setAddByScan
  refine wpAny_bind ?_
  refine wpAny_bind (wpAny_rule ?_)
  refine wpAny_bind (wpAny_setScan_of hkey ho hd hf hel ?_)
  cases hfi : List.findIdx? (fun e => (PySem.strKind P w).is k e.2) es.toList with
  | some j =>
    dsimp only
    obtain ⟨hj, pj, _⟩ := List.findIdx?_eq_some_iff_getElem.mp hfi
    have hSk : S k = true := (hm k).2 ((good_mem (P := P) (w := w) g k).2 ⟨es.toList[j], List.getElem_mem hj, pj⟩)
    refine wpAny_pure (wpAny_pure ?_)
    have q := hQ s.heap (Heap.SameBut.refl a s.heap) ⟨o, es, ep, t, ho, hex, hd, g, nd, fun i => by
      rw [Bool.or_eq_true, decide_eq_true_eq, ← hm i]
      exact ⟨fun z => z.elim id (fun e => e ▸ hSk), .inl⟩, hb, hf, by rw [if_pos hSk]; exact hn, hr, hl⟩
    rw [hSk] at q
    exact q
  | none =>
    dsimp only
    have hnk : k ∉ es.toList.map keyS := fun z => by
      obtain ⟨e, he, q⟩ := (good_mem (P := P) (w := w) g k).1 z
      have c := List.findIdx?_eq_none_iff.mp hfi e he
      rw [q] at c
      cases c
    have hSk : S k = false := by
      cases q : S k with
      | false => rfl
      | true => exact absurd ((hm k).1 q) hnk
    have hgw : ∀ (b : Bool) {s₁ : Shared} {Q' : Unit → Shared → Prop}, Q' () s₁ → wpAny (model P w) A (match b with | true => rule "set.scan.the-table-gave-way" | false => pure ()) Q' E s₁ :=
      fun b s₁ Q' q => by cases b <;> first | exact wpAny_pure q | exact wpAny_rule q
    have pm := layNew_perm t es ((PySem.strKind P w).hash k) (.str k tk)
    have hf1 := layNew_fits t es ((PySem.strKind P w).hash k) (.str k tk)
    have hr1 := layNew_ris t es ((PySem.strKind P w).hash k) (.str k tk) hr
    have hl1 := layNew_led t es ((PySem.strKind P w).hash k) (.str k tk)
    generalize layNew t es ((PySem.strKind P w).hash k) (.str k tk) = Z at pm hf1 hr1 hl1 ⊢
    obtain ⟨es1, t1, wasDummy, gave⟩ := Z
    dsimp only at pm hf1 hr1 hl1 ⊢
    rw [Array.toList_push] at pm
    have pc : es1.toList.Perm (((PySem.strKind P w).hash k, Value.str k tk) :: es.toList) := pm.trans (List.perm_append_singleton _ _)
    have pk : (es1.toList.map keyS).Perm (k :: es.toList.map keyS) := pc.map keyS
    have g1 : ∀ e ∈ es1.toList, GoodS w e := fun e he => by
      rcases List.mem_cons.mp (pc.mem_iff.mp he) with z | z
      · rw [z]; exact ⟨k, tk, rfl, rfl⟩
      · exact g e z
    have nd1 : (es1.toList.map keyS).Nodup := pk.nodup_iff.mpr (List.nodup_cons.mpr ⟨hnk, nd⟩)
    have m1 : ∀ i, (S i || decide (i = k)) = true ↔ i ∈ es1.toList.map keyS := fun i => by
      rw [Bool.or_eq_true, decide_eq_true_eq, hm i, pk.mem_iff, List.mem_cons]
      exact Or.comm
    have hsz : es1.size = n + 1 := by rw [← Array.length_toList, pc.length_eq, List.length_cons, Array.length_toList, hn]
    have hb1 : es1.size < scanBound := by rw [hsz]; exact room
    have hled : w.params.followText "set-order" = true ∨ t1.led = true := hl.imp id fun z => by rw [hl1]; exact z
    have fin : ∀ h', Heap.SameBut a s.heap h' → SetS w h' a (fun j => S j || decide (j = k)) es1.size → Q true { s with heap := h' } := fun h' sb r => by
      have q := hQ h' sb
      rw [hSk] at q
      rw [hsz] at r
      exact q r
    refine wpAny_bind (hgw _ ?_)
    split
    · refine wpAny_bind ?_
      rw [hashByValue_scannable 8 hsc]
      refine wpAny_pure ?_
      refine setS_add_tail ?_ ho hex hd g1 nd1 m1 hb1 ?_ ?_ ?_ ?_
      · intro b s₁ Q' q; cases b <;> first | exact wpAny_pure q | exact wpAny_rule q
      · first | (split <;> first | exact hf1 | exact SetTable.fits_plain_off hf1) | exact hf1
      · first | (split <;> exact hr1) | exact hr1
      · first | (split <;> exact hled) | exact hled
      · intro h' sb r; dsimp only; exact wpAny_pure (fin h' sb r)
    · refine wpAny_bind (wpAny_pure ?_)
      simp only [↓reduceIte]
      refine setS_add_tail ?_ ho hex hd g1 nd1 m1 hb1 hf1 hr1 hled ?_
      · intro b s₁ Q' q; cases b <;> first | exact wpAny_pure q | exact wpAny_rule q
      · intro h' sb r; dsimp only; exact wpAny_pure (fin h' sb r)
end
theorem setS_new_at {w : World} {h : Heap} {a : Addr} {ns : List Str} (ho : h.get? a = some { cls := .type "set", dict := none, data := .set #[] 0 (.fresh 0 0 (!w.params.followText "set-order")) }) : SetS w h a (fun j => decide (j ∈ ns.take 0)) 0 :=
  ⟨_, #[], 0, _, ho, ⟨rfl, rfl, rfl⟩, rfl, (fun e he => by simp at he), (by simp), (fun k => by simp), (by decide), (by rfl), rfl, List.Pairwise.nil, by
    show _ ∨ (!w.params.followText "set-order") = true
    cases w.params.followText "set-order"
    · exact .inr rfl
    · exact .inl rfl⟩
section
variable {P : Program} {w : World} {A : Around} {E : Value → Shared → Prop} {s : Shared}
theorem set_update_strs {I : Addr} {fp wr : List Addr} {G : Array GenState → Array GenState → Prop} {n : Nat} {Pv : Nat → Value → Prop} {St : Nat → Shared → Prop} {R : Result → Shared → Prop}
    (W : WalksS P w A.in1 I fp wr G n Pv St) (S : Addr) (hSf : S ∉ fp) (ns : List Str) (hn : n = ns.length) (hb : ns.length + 1 < scanBound) (hval : ∀ i v, Pv i v → ∃ k t, ns[i]? = some k ∧ v = .str k t) :
    ∀ (k i : Nat) (s : Shared), n - i = k → i ≤ n → St i s → (∃ c, c ≤ i ∧ SetS w s.heap S (fun j => decide (j ∈ ns.take i)) c) →
      (∀ s' c, Moved (S :: wr) G s s' → c ≤ n → SetS w s'.heap S (fun j => decide (j ∈ ns)) c → R (.ok (.ret .none)) s') →
      codeAny (model P w) A (.builtin "set.update.loop" ⟨[.ref S, .ref I], []⟩) R s := by
  have hSw : S ∉ wr := fun h => hSf (W.sub _ h)
  have hsub : ∀ b ∈ wr, b ∈ S :: wr := fun b hb => List.mem_cons_of_mem _ hb
  intro k
  induction k with
  | zero =>
    intro i s hk' hi hst ⟨c, hc, hS⟩ hR
    have hin : i = n := by omega
    subst hin
    refine codeAny_builtin F.entry_set_update_loop ?_
    rw [Around.under_plainId F.plain_set_update_loop _]
    show wpAny _ A.in1 (pyNext (.ref I) >>= _) _ _ s
    refine wpAny_bind (W.done s _ _ hst fun s' hm => ?_)
    show wpAny _ A.in1 (ret Value.none) _ _ s'
    have e : ns.take i = ns := List.take_of_length_le (by omega)
    rw [e] at hS
    exact wpAny_pure (hR s' c (hm.mono hsub) hc (hS.at fun o e => hm.heap S o hSw e))
  | succ k ih =>
    intro i s hk' hi hst ⟨c, hc, hS⟩ hR
    have hlt : i < n := by omega
    refine codeAny_builtin F.entry_set_update_loop ?_
    rw [Around.under_plainId F.plain_set_update_loop _]
    show wpAny _ A.in1 (pyNext (.ref I) >>= _) _ _ s
    refine wpAny_bind (W.item i s _ _ hlt hst fun v s' hP hst' hm => ?_)
    obtain ⟨z, t, hz, rfl⟩ := hval i v hP
    have hS' : SetS w s'.heap S (fun j => decide (j ∈ ns.take i)) c := hS.at fun o e => hm.heap S o hSw e
    show wpAny _ A.in1 (holding [Value.str z t] (setAdd S (.str z t)) >>= _) _ _ s'
    refine wpAny_bind (wpAny_holding ?_)
    unfold setAdd
    refine wpAny_holding ?_
    refine wpAny_bind ((PySem.strKind P w).pyHash (k := z) (PySem.strKind_is _ _ _ _) ?_)
    refine setS_add_hashed (s := { s' with toks := s'.toks + 1 }) hS' (by omega) fun h' hsb hS2 => ?_
    have hS3 : SetS w h' S (fun j => decide (j ∈ ns.take (i + 1))) (if decide (z ∈ ns.take i) = true then c else c + 1) := hS2.congr fun j => by
      rw [List.take_add_one, hz]
      simp [List.mem_append]
    have hc3 : (if decide (z ∈ ns.take i) = true then c else c + 1) ≤ i + 1 := by
      split <;> omega
    refine wpAny_pure ⟨plainId_quiet F.plain_set_update_loop _, ih (i + 1) _ (by omega) hlt (W.frame _ s' _ _ hst' (Nat.le_succ _) fun b hb o e => ?_) ⟨_, hc3, hS3⟩ fun s'' c2 hm'' hc'' hS'' => ?_⟩
    · rw [hsb.2 b (fun h : b = S => hSf (by rw [← h]; exact hb))]; exact e
    · refine hR s'' c2 (Moved.trans W.gtrans ((hm.mono hsub).then_heap (Nat.le_succ _) fun b o hb e => ?_) hm'') hc'' hS''
      rw [hsb.2 b (fun h : b = S => hb (by rw [h]; exact List.mem_cons_self))]; exact e

theorem code_set_ledS (a : Value) {Q₁ : Value → Shared → Prop}
    (h : Q₁ (.ref s.heap.objs.size) { s with heap := s.heap.push { cls := .type "set", dict := none, data := .set #[] 0 (.fresh 0 0 (!w.params.followText "set-order")) } }) :
    codeAny (model P w) A (.call (.builtin "set.__new__") ⟨[.type "set", a], []⟩) (wants Q₁ E) s := by
  refine codeAny_of_tree ?_
  show wpAny _ A.in1 (do checkBuiltinCall "set.__new__" ⟨[.type "set", a], []⟩; again (.builtin "set.__new__" ⟨[.type "set", a], []⟩)) _ _ s
  refine wpAny_bind (wpAny_of_eq (F.newCall_set_1 a) (wpAny_pure ⟨plainId_quiet F.plain_set_new _, codeAny_builtin F.entry_set_new ?_⟩))
  rw [Around.under_plainId F.plain_set_new _]
  unfold Builtin.«set.__new__» Builtin.Frozenset.newClass
  have hsub := sub_set_self
  obtain ⟨hp, g, d, tk, os⟩ := s
  dsimp only
  wp_walk
  refine wpAny_askSetting (wpAny_pure ?_)
  dsimp only
  simp only [newObj]
  refine wpAny_bind (wpAny_alloc (wpAny_pure ?_))
  exact wpAny_pure h

set_option maxRecDepth 100000 in
set_option maxHeartbeats 3200000 in
theorem call_set_lstS {l : Addr} {items : Array Value} (ns : List Str) {Q : Value → Shared → Prop} (hh : A.handled = none) (hl : s.heap.IsList l items) (hit : PyProof.Rows.StrsAre items.toList ns) (hb : ns.length + 1 < scanBound)
    (h : ∀ (h' : Heap) (tk c : Nat), SetS w h' s.heap.objs.size (fun j => decide (j ∈ ns)) c → c ≤ ns.length → (∀ b o, s.heap.get? b = some o → h'.get? b = some o) → Q (.ref s.heap.objs.size) { s with heap := h', toks := tk }) :
    wpAny (model P w) A (call (.type "set") [.ref l]) Q E s := by
  have hisz : items.size = ns.length := by
    have q := PyProof.Rows.StrsAre.length hit
    rw [Array.length_toList] at q
    exact q
  obtain ⟨c, tl, hmro⟩ := F.called_set.mro
  have hmade := F.called_set.made
  have hsub := F.called_set.sub
  refine wpAny_call (codeAny_of_tree ?_)
  show wpAny _ _ (callAny (.type "set") _) _ _ _
  refine wpAny_pure ⟨Code.quiet_builtin _ (by decide +kernel), codeAny_builtin F.entry_type_call ?_⟩
  rw [Around.under_plain (weight_type_call_type "set" [.ref l] []) rfl]
  have h1 := F.called_set.notType
  have h2 := F.called_set.canCreate
  have hct := F.typeCall_set_1 (.ref l)
  repeat (any_goals (first | assumption | wp_step))

  refine codeAny_mono (code_set_ledS (.ref l) (E := E) (Q₁ := fun obj s₁ => obj = .ref s.heap.objs.size ∧ s₁ = { s with heap := s.heap.push { cls := .type "set", dict := none, data := .set #[] 0 (.fresh 0 0 (!w.params.followText "set-order")) } }) ⟨rfl, rfl⟩) fun r s₁ hr => ?_
  cases r with
  | error e => exact hr
  | ok fl =>
    cases fl with
    | ret obj =>
      obtain ⟨rfl, rfl⟩ := hr
      have hS : (s.heap.push { cls := .type "set", dict := none, data := .set #[] 0 (.fresh 0 0 (!w.params.followText "set-order")) }).get? s.heap.objs.size = some { cls := .type "set", dict := none, data := .set #[] 0 (.fresh 0 0 (!w.params.followText "set-order")) } := Heap.get?_push_size _ rfl
      have hT : Shared.TypeIs { s with heap := s.heap.push { cls := .type "set", dict := none, data := .set #[] 0 (.fresh 0 0 (!w.params.followText "set-order")) } } (.ref s.heap.objs.size) "set" := ⟨_, hS, rfl⟩
      have hli := F.called_set.init.lookup
      have hbi := F.called_set.init.bind (.ref s.heap.objs.size)
      repeat (any_goals (first | assumption | wp_step))

      refine codeAny_mono (codeAny_call_builtin (R := wants (fun r s₂ => r = .none ∧ ∃ h' tk c, s₂ = { s with heap := h', toks := tk } ∧ SetS w h' s.heap.objs.size (fun j => decide (j ∈ ns)) c ∧ c ≤ ns.length ∧
          (∀ b o, s.heap.get? b = some o → h'.get? b = some o)) E) F.called_set.init.plain F.entry_set_init (check_set_init_1 hT ?_)) fun r₂ s₂ hr₂ => ?_
      · obtain ⟨ol, hol, hcl, nl, hdl⟩ := hl
        obtain ⟨ocls, odict, odata, oslots⟩ := ol
        simp only at hcl hdl
        subst hcl; subst hdl
        have hol' : (s.heap.push { cls := .type "set", dict := none, data := .set #[] 0 (.fresh 0 0 (!w.params.followText "set-order")) }).get? l = some { cls := .type "list", dict := odict, data := .seq items nl, slots := oslots } := Heap.get?_push_of_some _ hol
        have hsls := F.sub_list_set
        have hslf := F.sub_list_frozenset
        have hne : (Value.type "list" == Value.type "dict") = false := by decide
        have hl1 : (s.heap.push { cls := .type "set", dict := none, data := .set #[] 0 (.fresh 0 0 (!w.params.followText "set-order")) }).IsList l items := ⟨_, hol', rfl, nl, rfl⟩
        unfold Builtin.«set.__init__» noKeywords Builtin.Frozenset.updateFrom
        generalize hPI : pyIter = PI
        wp_walk
        subst hPI

        refine wpAny_pyIter_list hl1 ?_
        refine wpAny_bind (wpAny_runValue ?_)
        have hlS : l < s.heap.objs.size := Heap.lt_size hol
        have hh3 : A.in1.in1.in1.handled = none := by simp [hh]
        have hz1 : (s.heap.push { cls := .type "set", dict := none, data := .set #[] 0 (.fresh 0 0 (!w.params.followText "set-order")) }).objs.size = s.heap.objs.size + 1 := Heap.size_push ..
        have hneI : l ≠ (s.heap.push { cls := .type "set", dict := none, data := .set #[] 0 (.fresh 0 0 (!w.params.followText "set-order")) }).objs.size := by
          rw [Heap.size_push]; exact Nat.ne_of_lt (Nat.lt_succ_of_lt hlS)
        have hSf : s.heap.objs.size ∉ [(s.heap.push { cls := .type "set", dict := none, data := .set #[] 0 (.fresh 0 0 (!w.params.followText "set-order")) }).objs.size, l] := by
          rw [Heap.size_push]; simp only [List.mem_cons, List.mem_singleton, List.not_mem_nil, or_false, not_or]
          exact ⟨Nat.ne_of_lt (Nat.lt_succ_self _), Nat.ne_of_gt hlS⟩
        have hval : ∀ (i : Nat) (v : Value), items[i]? = some v → ∃ k t, ns[i]? = some k ∧ v = .str k t := fun i v hv => by
          have hi : i < ns.length := by rw [← hisz]; exact (Array.getElem?_eq_some_iff.mp hv).1
          obtain ⟨y, t, e, hy⟩ := PyProof.Rows.StrsAre.item hit i v (by rw [Array.getElem?_toList]; exact hv)
          exact ⟨y, t, hy, e⟩
        refine set_update_strs ((Walks.list hh3 _ l hneI items).toS) s.heap.objs.size
          hSf ns hisz hb hval (items.size - 0) 0 _ (by omega) (Nat.zero_le _)
          ⟨⟨_, Heap.get?_push_size _ rfl, rfl, rfl⟩, (hl1.push _)⟩ ?hS0 ?hR
        case hS0 =>
          have hget : ((s.heap.push { cls := .type "set", dict := none, data := .set #[] 0 (.fresh 0 0 (!w.params.followText "set-order")) }).push { cls := .type "list_iterator", data := .fields #[.ref l, .int 0 0] }).get? s.heap.objs.size
              = some { cls := .type "set", dict := none, data := .set #[] 0 (.fresh 0 0 (!w.params.followText "set-order")) } := Heap.get?_push_of_some _ hS
          exact ⟨0, Nat.le_refl 0, setS_new_at hget⟩
        case hR =>
          intro s' c' hm hc' hS'
          obtain ⟨h', g2, d', tk', os'⟩ := s'
          have eg : g2 = s.gens := hm.gens
          have ed : d' = s.drawn := hm.drawn
          have eo : os' = s.os := hm.os
          subst eg; subst ed; subst eo
          show wpAny _ _ _ _ _ _
          refine wpAny_pure ?_
          show wpAny _ _ (ret Value.none) _ _ _
          rw [hisz] at hc'
          refine wpAny_pure ⟨rfl, h', tk', c', rfl, hS', hc', fun b o e => ?_⟩
          have hb0 : b < s.heap.objs.size := Heap.lt_size e
          have hb1 : b ≠ s.heap.objs.size := Nat.ne_of_lt hb0
          have hb2 : b ≠ (s.heap.push { cls := .type "set", dict := none, data := .set #[] 0 (.fresh 0 0 (!w.params.followText "set-order")) }).objs.size := by
            rw [Heap.size_push]; exact Nat.ne_of_lt (Nat.lt_succ_of_lt hb0)
          exact hm.heap b o (by simp only [List.mem_cons, List.mem_singleton, List.not_mem_nil, or_false, not_or]; exact ⟨hb1, hb2⟩) (Heap.get?_push_of_some _ (Heap.get?_push_of_some _ e))

      · cases r₂ with
        | error e => exact hr₂
        | ok fl₂ =>
          cases fl₂ with
          | ret r =>
            obtain ⟨rfl, h', tk, c', rfl, hS', hc', hk'⟩ := hr₂
            repeat (any_goals (first | assumption | wp_step))
            exact h _ _ _ hS' hc' hk'
          | _ => exact hr₂.elim
    | _ => exact hr.elim

end


/-! ### sorted(set(texts)) -/
theorem setS_sorted {P : Program} {w : World} {A : Around} {E : Value → Shared → Prop} {s : Shared} {a : Addr} {S : Str → Bool} {n : Nat} {Q : Value → Shared → Prop} (R : SetS w s.heap a S n) (hh : A.handled = none) (h64 : n < 64)
    (hQ : ∀ s' p (out : Array Value) (c : Nat) (ys : List Str), (∀ b o, s.heap.get? b = some o → s'.heap.get? b = some o) → s'.gens = s.gens → s'.os = s.os → s.heap.objs.size ≤ p →
      s'.heap.get? p = some (seqObj "list" out c) → StrsAre out.toList ys → (∀ k, k ∈ ys ↔ S k = true) → ys.length = n → Q (.ref p) s') :
    wpAny (model P w) A (call (.builtin "sorted") [.ref a]) Q E s := by
  obtain ⟨o, es, ep, t, ho, hex, hd, g, nd, hm, hb, hf, hn, hr, hl⟩ := R
  refine Calls.call_function_entry kind_sorted plain_sorted entry_sorted (args_sorted1 _) ?_
  unfold Builtin.«sorted»
  refine wpAny_bind (m := checkCount "sorted" 1 1 _) (wpAny_pure ?_)
  refine wpAny_bind (collect_set (A := A.in1) hh ⟨o, ho, hex.1, hd⟩ hf hb hr hl fun s1 vs k1 hz g1 o1 pm => ?_)
  have hvl : vs.length = n := by rw [pm.length_eq, List.length_map, Array.length_toList]; exact hn
  have hI : StrsAre vs (vs.map strOf) := strsAre_map vs fun v hv => by
    obtain ⟨e, he, q⟩ := List.mem_map.mp (pm.mem_iff.mp hv)
    obtain ⟨k, tk, h1, _⟩ := g e he
    exact ⟨k, tk, by rw [← q]; exact h1⟩
  have pk : (vs.map strOf).Perm (es.toList.map keyS) := by
    have q := pm.map strOf
    rw [List.map_map] at q
    have e : es.toList.map (strOf ∘ fun x : Int × Value => x.2) = es.toList.map keyS := List.map_congr_left fun x hx => by
      obtain ⟨k, tk, h1, _⟩ := g x hx
      show strOf x.2 = keyS x
      unfold keyS
      rw [h1]
      rfl
    rw [← e]
    exact q
  refine wpAny_bind (wpAny_newList ?_ (by rw [hvl, sizeLine_eq]; omega))
  have hoL : (s1.heap.push (seqObj "list" vs.toArray 0)).get? s1.heap.objs.size = some (seqObj "list" vs.toArray 0) := Heap.get?_push_size _ rfl
  refine wpAny_bind (wpAny_holding (wpAny_call_entry slot_list_sort ⟨_, hoL, rfl⟩ entry_list_sort
    (list_sort_treeK strKind_oneLt hoL hI.keysOf (fun v₁ v₂ rest e => keyKind_strs (ss := vs.map strOf) (by rw [← e]; exact hI)) (by rw [hvl]; exact h64) fun st' hp hs => ⟨_, rfl, ?_⟩) (args_list_sort _)))
  obtain ⟨ys, a1, a2, a3⟩ := sorted_out_str hI hp hs
  obtain ⟨c, hc⟩ := sortedHeap_at (vs := vs) (out := (arrOf st').map (·.2)) hoL
  have pn : ys.Perm (es.toList.map keyS) := a2.trans pk
  refine wpAny_pure ⟨_, rfl, hQ _ s1.heap.objs.size _ c ys (fun b u e => ?_) g1 o1 hz hc a1 (fun k => by rw [pn.mem_iff, ← hm k]) ?_⟩
  · have q := k1 b u e
    have hlt := Heap.lt_size q
    show (sortedHeap (s1.heap.push (seqObj "list" vs.toArray 0)) s1.heap.objs.size vs _).get? b = some u
    rw [sortedHeap_old (Nat.ne_of_lt hlt) (by rw [size_push']; exact Nat.lt_succ_of_lt hlt)]
    exact Heap.get?_push_of_some _ q
  · rw [pn.length_eq, List.length_map, Array.length_toList]; exact hn
def SetSO (w : World) (a : Addr) (S : Str → Bool) (n : Nat) : HO := .ext fun h => SetS w h a S n
section
variable {X : Cx}
theorem setSO_new {w : World} {P : Program} {H : Hp} {h : Heap} {a : Addr} {S : Str → Bool} {n : Nat} (R : SetS w h a S n) : ObjOk P w H h a (SetSO w a S n) := by
  have ⟨o, _, _, _, ho, _⟩ := R
  exact ⟨R, ⟨o, ho⟩, fun h1 h2 p k => SetS.at p k⟩
/-- set(xs), xs a list of texts -/
def rSetL (K : PySem.W.Frag) (w : World) : List V → Hp → VK → Prop := fun vs H Q => ∃ (a : Addr) (ss : List Str), vs = [V.ref a] ∧ SqL K H a (ss.map V.str) ∧ ss.length ≤ 1000 ∧
  ∀ (p : Addr) (c : Nat), c ≤ ss.length → H p = none → Q (.ref p) (upd H p (SetSO w p (fun k => decide (k ∈ ss)) c))
theorem cr_setL (hc : X.calm = true) : CallR X (.type "set") (rSetL X.K X.w) := by
  intro pins s σ H xs us Q I r h
  obtain ⟨l, ss, rfl, hl, hz, q⟩ := h
  rw [Vals.ref1 r]
  obtain ⟨its, rv, pl, _⟩ := I.list hl
  have hn : H s.heap.objs.size = none := I.hok.fresh (Nat.le_refl _)
  have hb : ss.length + 1 < scanBound := by
    have : scanBound = 4096 := rfl
    omega
  refine call_set_lstS (P := X.prog) (w := X.w) ss (I.ok.hd hc) pl.isList (by simpa using rv.strs) hb fun h' tk c R hcl k => ?_
  exact ⟨.ref s.heap.objs.size, upd H s.heap.objs.size (SetSO X.w s.heap.objs.size (fun k => decide (k ∈ ss)) c), I.laid (t' := tk) k (Nat.le_refl _) (setSO_new R), rfl, q _ c hcl hn⟩
def rSortedSS (w : World) : List V → Hp → VK → Prop := fun vs H Q => ∃ (a : Addr) (S : Str → Bool) (n : Nat), vs = [V.ref a] ∧ H a = some (SetSO w a S n) ∧ n < 64 ∧
  ∀ (ys : List Str) (p : Addr), (∀ k : Str, k ∈ ys ↔ S k = true) → ys.length = n → H p = none → Q (.ref p) (upd H p (.lst (ys.map V.str)))
theorem cr_sortedSS (hc : X.calm = true) : CallR X (.builtin "sorted") (rSortedSS X.w) := by
  intro pins s σ H vs us Q I r h
  obtain ⟨a, S, n, rfl, ha, h64, q⟩ := h
  have R : SetS X.w s.heap a S n := (I.hok a _ ha).1
  rw [Vals.ref1 r]
  refine setS_sorted R (I.ok.hd hc) h64 fun s' p out c ys k g o hp hg hi hm hl => ?_
  have hlen : (ys.map V.str).length ≤ sizeLine := by rw [List.length_map, hl, sizeLine_eq]; omega
  have hn : H p = none := I.hok.fresh hp
  have J : L2.Inv X pins σ (upd H p (.lst (ys.map V.str))) { s with heap := s'.heap, gens := s'.gens, drawn := s'.drawn, toks := s'.toks } :=
    I.call (ch := []) (Un.laid k hp hn) (I.hok.laid k hp ⟨hlen, out.toList, c, vals_of_strs hi, hg⟩) (by rw [g]; exact I.bare) (fun _ z => nomatch z)
  have e : s' = { s with heap := s'.heap, gens := s'.gens, drawn := s'.drawn, toks := s'.toks } := by
    cases s'
    cases s
    cases o
    rfl
  rw [e]
  exact ⟨.ref p, _, J, rfl, q ys p hm hl hn⟩
end
end K19R
namespace K19R
open PySem PySem.Spec PyProof.Rows L2
section
variable {X : Cx} {CX : CXT} {k : Nat} {f : Addr} {fd : FuncData} {ps ks : List Str} {sp : Sp} {E : XK} {x : Str} {p pos : Pos} {kws : List Keyword} {tk : TA} {g : List Value → List Value → List Value} {gV : List V → List V → List V}
/-- f(k = v, ..): keywords alone -/
theorem pe_callK0 (F : FnOk X.prog X.w X.K X.mg X.base CX k f fd ps sp) (hr : Room k X.A) (hg : Gl X x) (hm : X.mg x = some (.ref f)) (hk : PySem.W.keepIn X.K (.ref f) = true) (hb : KBinds X.K fd ps ks g gV) (hx : Passes CX X E)
    (hkw : PK X kws tk) (hall : (backToKw pos (keywordEach kws X.env)).all (·.1.isSome) = true := by rfl) (hks : (backToKw pos (keywordEach kws X.env)).filterMap (·.1) = ks := by rfl)
    (hdb : (x == ("__debug__" : Str)) = false := by decide) (hpl : ((backTo pos (starEach [] X.env)).any (·.1) || (backToKw pos (keywordEach kws X.env)).any (·.1.isNone)) = false := by rfl) :
    PE X (.Call (.Name x p) [] kws pos) (tCallK sp gV E tNil tk) := by
  refine ⟨fun pins s σ H Q I h => ?_⟩
  refine wpAny_Call_Name_kw (ld_glob I hg hm ?_ hdb)
  refine PySem.W.callWith_KW0 (h₀ := X.base) I.ok.mod.kin hk hall ?_ hpl
  refine thn (hkw.run pos pins s σ H _ I h) fun ws s2 ⟨zs, H2, I2, rz, q2⟩ => ⟨I2.kIn, ?_⟩
  rw [hks]
  exact run_fnk (us := []) (vs := []) F hr hb hx I2 .nil rz q2
end
/-! ### max(xs, default = d) -/
theorem maxOf_int : ∀ (xs : List Int) (x : Int), PySem.W.maxOf x xs ∈ x :: xs ∧ ∀ z ∈ x :: xs, z ≤ PySem.W.maxOf x xs
  | [], x => ⟨List.mem_cons_self, fun z hz => by
    have e : z = x := by simpa using hz
    rw [e]
    exact Int.le_refl _⟩
  | y :: ys, x => by
    have step : PySem.W.maxOf x (y :: ys) = PySem.W.maxOf (if x < y then y else x) ys := by
      show List.foldl _ _ ys = List.foldl _ _ ys
      congr 1
      show (if decide (x < y) = true then y else x) = if x < y then y else x
      simp only [decide_eq_true_eq]
    rw [step]
    obtain ⟨h1, h2⟩ := maxOf_int ys (if x < y then y else x)
    have h0 := h2 _ List.mem_cons_self
    generalize PySem.W.maxOf (if x < y then y else x) ys = m at h1 h2 h0
    refine ⟨?_, fun z hz => ?_⟩
    · rcases List.mem_cons.mp h1 with e | e
      · rw [e]
        split
        · exact List.mem_cons_of_mem _ List.mem_cons_self
        · exact List.mem_cons_self
      · exact List.mem_cons_of_mem _ (List.mem_cons_of_mem _ e)
    · rcases List.mem_cons.mp hz with e | e
      · rw [e]
        split at h0 <;> omega
      · rcases List.mem_cons.mp e with e | e
        · rw [e]
          split at h0 <;> omega
        · exact h2 z (List.mem_cons_of_mem _ e)
def rMaxD (K : PySem.W.Frag) : List V → List V → Hp → VK → Prop := fun vs zs H Q => ∃ (a : Addr) (ns : List Int) (d : V), vs = [V.ref a] ∧ zs = [d] ∧ SqL K H a (ns.map V.int) ∧ (ns = [] → Q d H) ∧ ∀ m ∈ ns, (∀ z ∈ ns, z ≤ m) → Q (.int m) H
theorem cr_maxD {X : Cx} (hc : X.calm = true) (hu : X.A.units + 64 < cLine) : CallRK X (.builtin "max") [Str.ofString "default"] (rMaxD X.K) := by
  intro pins s σ H vs zs us ws Q I r rz h
  obtain ⟨a, ns, d, rfl, rfl, hs, q0, q⟩ := h
  obtain rfl := Vals.ref1 r
  obtain ⟨w1, rfl, e1⟩ := vals1 rz
  obtain ⟨its, rv, hl, hz⟩ := I.list hs
  have hi := rv.ints
  refine PySem.W.max_list_datum_default (xs := ns) (I.ok.hd hc) hl.isList (PySem.W.HoldAll.of_ints (by simpa using hi)) (by
      have : PySem.W.Datum.depth Int = 0 := rfl
      omega) (fun e h' tk k => ?_) fun y ys i v h' tk e hv hh k => ?_
  · exact ⟨d, H, I.kept (t' := tk) k, e1, q0 e⟩
  · subst e
    obtain ⟨h1, h2⟩ := maxOf_int ys y
    have hv2 : its[i]? = some v := by simpa using hv
    obtain ⟨n, t, rfl⟩ : ∃ n t, v = Value.int n t := by
      have hlen := rv.length
      have hi2 : i < ((y :: ys).map V.int).length := by
        rw [hlen]
        exact (List.getElem?_eq_some_iff.mp hv2).1
      obtain ⟨u, hu, ru⟩ := Vals.get rv (List.getElem?_eq_getElem hi2)
      rw [hv2] at hu
      cases hu
      rw [List.getElem_map] at ru
      obtain ⟨t, rfl⟩ := ru
      exact ⟨_, t, rfl⟩
    have en : PySem.W.maxOf y ys = n := by
      obtain ⟨as, rd⟩ := hh
      have rd : Reads h' (Value.int n t) (PyData.int (PySem.W.maxOf y ys)) as := rd
      cases rd
      rfl
    rw [en] at h1 h2
    exact ⟨.int n, H, I.kept (t' := tk) k, ⟨t, rfl⟩, q n h1 h2⟩
/-! ### text * n -/
theorem op_mulS {X : Cx} : OpR X (binaryOp .Mult) (fun x y H Q => ∃ z n, x = .str z ∧ y = .int n ∧ MulOk z n ∧ Q (.str (Txt.mul z n)) H) := by
  intro pins s σ H x y v u Q I rx ry h
  obtain ⟨z, n, rfl, rfl, ok, q⟩ := h
  obtain ⟨t, rfl⟩ := rx
  obtain ⟨t', rfl⟩ := ry
  exact SB.mul ok fun t2 k => ⟨.str (Txt.mul z n), H, I.tok k, ⟨t2, rfl⟩, q⟩
/-! ### xs != [] -/
def rNeNil (K : PySem.W.Frag) : R2 := fun x y H Q => ∃ p q xs, x = .ref p ∧ y = .ref q ∧ SqL K H p xs ∧ SqL K H q [] ∧ Q (.bl (!xs.isEmpty)) H
theorem op_neNil {X : Cx} (hu : X.A.units < cLine) : OpR X (compareOp .NotEq) (rNeNil X.K) := by
  intro pins s σ H x y v u Q I rx ry h
  obtain ⟨p, q, xs, rfl, rfl, h1, h2, q⟩ := h
  cases rx
  cases ry
  obtain ⟨its, rv, pl, _⟩ := I.list h1
  obtain ⟨its2, rv2, pl2, _⟩ := I.list h2
  cases rv2
  cases rv with
  | nil =>
    exact (SeqAt.RcNeAt.lists (e := fun _ => true) pl.isList pl2.isList rfl hu (fun j h _ => absurd h (by simp))) X.prog X.w X.xe _ ⟨.bl false, H, I, rfl, q⟩
  | cons r t =>
    exact (SeqAt.RcNeAt.lists_lengths pl.isList pl2.isList (by simp) hu) X.prog X.w X.xe _ ⟨.bl true, H, I, rfl, q⟩
end K19R
namespace K19
open PySem L2
/-! ### nodes -/
def kind : T → Str
  | .num _ => "number"
  | .of _ => "of"
  | .un k _ => k.str
  | .bin k _ _ => k.str
  | .cho _ _ _ => "choose"
def kids : T → List T
  | .num _ => []
  | .of _ => []
  | .un _ a => [a]
  | .bin _ a b => [a, b]
  | .cho a b c => [a, b, c]
theorem uk_str (k : UK) : k.str = "minus" ∨ k.str = "no" := by cases k <;> simp [UK.str]
/-- the words of two parts -/
def bks : List Str := ["*", "/", "^", "+", "-", "<", "<=", ">", ">=", "==", "!=", "&&", "||"]
theorem bk_mem (k : BK) : k.str ∈ bks := by cases k <;> decide
theorem bk_inj {k k' : BK} (h : k.str = k'.str) : k = k' := by
  revert h
  cases k <;> cases k' <;> first | (intro _; rfl) | (intro h; exact absurd h (by decide))
def inner : T → Prop
  | .num _ => False
  | .of _ => False
  | _ => True
theorem kind_num {t : T} (h : inner t) : kind t ≠ "number" := by
  cases t with
  | num n => exact h.elim
  | of x => exact h.elim
  | un k a => show k.str ≠ _; cases k <;> decide
  | bin k a b => show k.str ≠ _; cases k <;> decide
  | cho a b c => show ("choose" : Str) ≠ _; decide
theorem kind_of {t : T} (h : inner t) : kind t ≠ "of" := by
  cases t with
  | num n => exact h.elim
  | of x => exact h.elim
  | un k a => show k.str ≠ _; cases k <;> decide
  | bin k a b => show k.str ≠ _; cases k <;> decide
  | cho a b c => show ("choose" : Str) ≠ _; decide
theorem str_ne {x y : Str} (h : x ≠ y) : decide (V.str x = V.str y) = false := decide_eq_false fun e => h (V.str.inj e)
theorem str_eq {x y : Str} (h : x = y) : decide (V.str x = V.str y) = true := decide_eq_true (by rw [h])
theorem TreeAt.node {H : Hp} {v : V} : ∀ {t : T}, TreeAt H v t → inner t → ∃ a ws, v = .ref a ∧ H a = some (.tup (.str (kind t) :: ws)) ∧ ws.length = (kids t).length ∧ ∀ (i : Nat) (w : V) (u : T), ws[i]? = some w → (kids t)[i]? = some u → TreeAt H w u
  | .num _, _, h => h.elim
  | .of _, _, h => h.elim
  | .un k t, ⟨a, w, e, h, q⟩, _ => ⟨a, [w], e, h, rfl, fun i x u h1 h2 => by
    match i, h1, h2 with
    | 0, h1, h2 =>
      cases h1
      cases h2
      exact q
    | i + 1, h1, h2 => simp at h1⟩
  | .bin k t u, ⟨a, w, x, e, h, q, r⟩, _ => ⟨a, [w, x], e, h, rfl, fun i y z h1 h2 => by
    match i, h1, h2 with
    | 0, h1, h2 =>
      cases h1
      cases h2
      exact q
    | 1, h1, h2 =>
      cases h1
      cases h2
      exact r
    | i + 2, h1, h2 => simp at h1⟩
  | .cho t u z, ⟨a, w, x, y, e, h, q, r, l⟩, _ => ⟨a, [w, x, y], e, h, rfl, fun i p s h1 h2 => by
    match i, h1, h2 with
    | 0, h1, h2 =>
      cases h1
      cases h2
      exact q
    | 1, h1, h2 =>
      cases h1
      cases h2
      exact r
    | 2, h1, h2 =>
      cases h1
      cases h2
      exact l
    | i + 3, h1, h2 => simp at h1⟩
theorem kid_depth {t u : T} (h : u ∈ kids t) : depth u < depth t := by
  cases t with
  | num n => cases h
  | of x => cases h
  | un k a =>
    have e : u = a := by simpa [kids] using h
    rw [e]
    exact Nat.lt_succ_self _
  | bin k a b =>
    have e : u = a ∨ u = b := by simpa [kids] using h
    show depth u < max (depth a) (depth b) + 1
    rcases e with e | e <;> rw [e] <;> omega
  | cho a b c =>
    have e : u = a ∨ u = b ∨ u = c := by simpa [kids] using h
    show depth u < max (depth a) (max (depth b) (depth c)) + 1
    rcases e with e | e | e <;> rw [e] <;> omega
theorem kid_nums {P : Int → Prop} {t u : T} (h : u ∈ kids t) (n : Nums P t) : Nums P u := by
  cases t with
  | num n => cases h
  | of x => cases h
  | un k a =>
    have e : u = a := by simpa [kids] using h
    rw [e]
    exact n
  | bin k a b =>
    have e : u = a ∨ u = b := by simpa [kids] using h
    rcases e with e | e <;> rw [e]
    · exact n.1
    · exact n.2
  | cho a b c =>
    have e : u = a ∨ u = b ∨ u = c := by simpa [kids] using h
    rcases e with e | e | e <;> rw [e]
    · exact n.1
    · exact n.2.1
    · exact n.2.2
theorem names_kids : ∀ {t : T}, inner t → names t = (kids t).flatMap names
  | .num _, h => h.elim
  | .of _, h => h.elim
  | .un k a, _ => by simp [names, kids]
  | .bin k a b, _ => by simp [names, kids]
  | .cho a b c, _ => by simp [names, kids]
theorem inner_of {t u : T} (h : u ∈ kids t) : inner t := by
  cases t with
  | num n => cases h
  | of x => cases h
  | _ => trivial
theorem kid_names {t u : T} (h : u ∈ kids t) {x : Str} (hx : x ∈ names u) : x ∈ names t := by
  rw [names_kids (inner_of h)]
  exact List.mem_flatMap.mpr ⟨u, h, hx⟩
/-- a name that may stand in a sum -/
structure NmOk (x : Str) : Prop where
  ne : ∃ c r, x.cps.toList = c :: r
  len : x.cps.size ≤ 40
  np : isNP x = true
  at_ : x ≠ "@"
  star : x ≠ "*"
def NamesOk (t : T) : Prop := ∀ x ∈ names t, NmOk x
theorem kid_namesOk {t u : T} (h : u ∈ kids t) (n : NamesOk t) : NamesOk u := fun x hx => n x (kid_names h hx)
/-- a sum that stands at v, of the numbers, names and depth that are met here -/
structure SumAt (n : Nat) (H : Hp) (v : V) (t : T) : Prop where
  at_ : TreeAt H v t
  nums : Nums In t
  nms : NamesOk t
  dep : depth t ≤ n
theorem SumAt.tk {n : Nat} {H H' : Hp} {v : V} {t : T} (h : SumAt n H v t) (s : Tk H H') : SumAt n H' v t := ⟨h.at_.tk s, h.nums, h.nms, h.dep⟩
theorem SumAt.mono {n : Nat} {H H' : Hp} {v : V} {t : T} (h : SumAt n H v t) (s : Same H H') : SumAt n H' v t := h.tk (tk_same s)
theorem SumAt.le {n m : Nat} {H : Hp} {v : V} {t : T} (h : SumAt n H v t) (l : n ≤ m) : SumAt m H v t := ⟨h.at_, h.nums, h.nms, Nat.le_trans h.dep l⟩
theorem SumAt.no {H : Hp} {v : V} {t : T} (h : SumAt 0 H v t) : False := by
  have := depth_pos t
  have := h.dep
  omega
theorem SumAt.node {n : Nat} {H : Hp} {v : V} {t : T} (h : SumAt (n + 1) H v t) (i : inner t) : ∃ a ws, v = .ref a ∧ H a = some (.tup (.str (kind t) :: ws)) ∧ ws.length = (kids t).length ∧ ∀ (i : Nat) (w : V) (u : T), ws[i]? = some w → (kids t)[i]? = some u → SumAt n H w u := by
  obtain ⟨a, ws, e, h1, h2, h3⟩ := h.at_.node i
  refine ⟨a, ws, e, h1, h2, fun i w u q1 q2 => ?_⟩
  have m : u ∈ kids t := List.mem_of_getElem? q2
  have d := kid_depth m
  have d2 := h.dep
  exact ⟨h3 i w u q1 q2, kid_nums m h.nums, kid_namesOk m h.nms, by omega⟩
theorem kids_len (t : T) : (kids t).length ≤ 3 := by cases t <;> simp [kids]
theorem cutV1 (x : V) (xs : List V) : cutV (x :: xs) (some 1) none = xs := by
  unfold cutV
  rw [show HT.sIx (x :: xs).length 0 (some 1) = min 1 (x :: xs).length from HT.sIx_nat (x :: xs).length 0 1, HT.sIx_none]
  rw [show min 1 (x :: xs).length = 1 by rw [List.length_cons]; omega]
  show (List.take ((x :: xs).length - 1) xs) = xs
  rw [List.length_cons, Nat.add_sub_cancel]
  exact List.take_length
theorem cut_not (x : V) (xs : List V) : ¬ (HT.sIx (x :: xs).length 0 (some 1) = 0 ∧ HT.sIx (x :: xs).length (x :: xs).length none = (x :: xs).length) := by
  rw [show HT.sIx (x :: xs).length 0 (some 1) = min 1 (x :: xs).length from HT.sIx_nat (x :: xs).length 0 1]
  rw [show min 1 (x :: xs).length = 1 by rw [List.length_cons]; omega]
  intro h
  exact absurd h.1 (by decide)
theorem inV_str (s : Str) (ss : List Str) : inV (.str s) (ss.map V.str) = decide (s ∈ ss) := by
  unfold inV
  induction ss with
  | nil => rfl
  | cons a l ih =>
    rw [List.map_cons, List.any_cons, ih]
    show ((a == s) || decide (s ∈ l)) = _
    by_cases h : a = s
    · subst h
      simp
    · have h1 : (a == s) = false := by simpa using h
      rw [h1, Bool.false_or]
      by_cases h2 : s ∈ l
      · rw [decide_eq_true h2, decide_eq_true (List.mem_cons_of_mem _ h2)]
      · rw [decide_eq_false h2, decide_eq_false]
        intro h3
        rcases List.mem_cons.mp h3 with e | e
        · exact h e.symm
        · exact h2 e
theorem flat_str (ss : List Str) : (ss.map V.str).all flatV = true := by
  rw [List.all_eq_true]
  intro x hx
  obtain ⟨s, _, rfl⟩ := List.mem_map.mp hx
  rfl
end K19
namespace K19
open PySem L2 K19R
abbrev sRankOf : Stmt := topS 19
abbrev sPartsOf : Stmt := topS 20
abbrev sIsSum : Stmt := topS 21
abbrev sCheckSum : Stmt := topS 24
/-- a tuple of the written part -/
def KT (K : PySem.W.Frag) (a : Addr) (xs : List V) : Prop := ∃ (o : Obj) (its : Array Value) (n : Nat), K.lookup a = some o ∧ o.cls = .type "tuple" ∧ o.data = .seq its n ∧ its.size ≤ sizeLine ∧ Vals xs its.toList
theorem KT.sq {K : PySem.W.Frag} {a : Addr} {xs : List V} (h : KT K a xs) (H : Hp) : SqT K H a xs := .inr h
def RK : List (List Str) := [["||"], ["&&"], ["==", "!="], ["<", "<=", ">", ">="], ["+", "-"], ["*", "/", "^"]]
def rankOf (s : Str) : Nat := match RK.findIdx? (fun l => decide (s ∈ l)) with
  | some i => i + 1
  | none => 0
/-- RANKED as the top has it -/
def Rk (K : PySem.W.Frag) (mg : Str → Option Value) : Prop := ∃ (r : Addr) (as : List Addr), mg "RANKED" = some (.ref r) ∧ as.length = RK.length ∧ KT K r (as.map V.ref) ∧ ∀ (i : Nat) (a : Addr), as[i]? = some a → ∃ ss, RK[i]? = some ss ∧ KT K a (ss.map V.str)
section
variable {P : Program} {w : World} {K : PySem.W.Frag} {mg : Str → Option Value} {base : Heap}
theorem scRankOf : FnScope ["sign", "at", "signs"] ["sign"] (defScope sRankOf) := ⟨rfl, rfl, rfl, by decide +kernel, rfl, by decide +kernel, by decide +kernel⟩
def spRankOf : Sp := fun vs H Q _ => ∃ s : Str, vs = [.str s] ∧ ∀ H', Same H H' → Q (.int (rankOf s)) H'
theorem cal_rank_of (D : Def K mg "rank_of" sRankOf ["sign"]) (T : Bt mg) (R : Rk K mg) : Cal P w K mg base CX0 1 "rank_of" ["sign"] spRankOf := by
  refine D.cal fun f fd F => F.ok scRankOf (fun vs H Q E ⟨s, e, _⟩ => by rw [e]; rfl) fun cdv A outer st H vs Q E hr h => ?_
  obtain ⟨r, as, mr, hl, kr, ka⟩ := R
  obtain ⟨s, rfl, q⟩ := h
  refine ⟨_, pss_cons (ps_for PassesOwn.never rfl (pi_enumT (by rfl) T.enumerate (pa_cons (pe_glob (v := .ref r) rfl mr rfl) pa_nil))
      (pg_tup rfl (pgs_cons (pg_name (i := 1) scRankOf.nd rfl (.inl rfl)) (pgs_cons (pg_name (i := 2) scRankOf.nd rfl (.inl rfl)) pgs_nil)))
      (pss_one (ps_if (pt_cmpR op_in_seq (pv 0) (pv 2) rfl) (pss_one (ps_ret (pe_op op_add (pv 1) pe_int))) pss_nil)))
    (pss_one (ps_ret pe_int)), ?_⟩
  refine ⟨r, as.map V.ref, rfl, kr.sq _, for_it (walk_enumT (xs := as.map V.ref)) (fun i σ H1 => ∃ v1 v2, σ = [some (.str s), v1, v2] ∧ Same H H1 ∧ ∀ j ss, j < i → RK[j]? = some ss → s ∉ ss)
    ⟨_, _, rfl, Same.refl _, fun j ss h => absurd h (Nat.not_lt_zero _)⟩ (fun i σ H1 _ _ => kr.sq _) ?_ ?_⟩
  · rintro i x σ H1 H2 hi ⟨v1, v2, rfl, s1, hn⟩ ⟨t, x1, x2, rfl, nt, rfl, e1, e2⟩
    cases e1
    have e2 : (as.map V.ref)[i]? = some x2 := e2
    rw [List.getElem?_map] at e2
    cases ea : as[i]? with
    | none => rw [ea] at e2; cases e2
    | some a =>
      rw [ea] at e2
      cases e2
      obtain ⟨ss, hss, ks⟩ := ka i a ea
      refine ⟨t, _, rfl, SqT.of upd_same, rfl, _, _, rfl, _, [], rfl, rfl, ?_⟩
      have s2 : Same H (upd H1 t (.tup [.int (i : Nat), .ref a])) := s1.trans (same_new nt _)
      refine ⟨_, rfl, _, rfl, a, _, rfl, .inr (ks.sq _), rfl, flat_str ss, _, rfl, ?_⟩
      show if inV (V.str s) (ss.map V.str) = true then _ else _
      rw [inV_str]
      refine ite2 (fun e => ?_) (fun e => ?_)
      · have e : s ∈ ss := of_decide_eq_true e
        refine ⟨_, rfl, _, _, rfl, rfl, ?_⟩
        have er : rankOf s = i + 1 := by
          unfold rankOf
          have hlt : i < RK.length := (List.getElem?_eq_some_iff.mp hss).1
          have : RK.findIdx? (fun l => decide (s ∈ l)) = some i := by
            rw [List.findIdx?_eq_some_iff_getElem]
            refine ⟨hlt, ?_, fun j hj => ?_⟩
            · have := (List.getElem?_eq_some_iff.mp hss).2
              rw [this]
              exact decide_eq_true e
            · have hj2 : j < RK.length := Nat.lt_trans hj hlt
              have := hn j _ hj (List.getElem?_eq_getElem hj2)
              rw [decide_eq_false this]
              exact Bool.false_ne_true
          rw [this]
        have q := q _ s2
        rw [er] at q
        exact q
      · have e : s ∉ ss := of_decide_eq_false (Bool.eq_false_iff.mpr e)
        refine ⟨_, _, rfl, s2, fun j sj hj hsj => ?_⟩
        by_cases hji : j = i
        · rw [hji, hss] at hsj
          cases hsj
          exact e
        · exact hn j sj (by omega) hsj
  · rintro σ H1 ⟨v1, v2, rfl, s1, hn⟩
    have er : rankOf s = 0 := by
      unfold rankOf
      have : RK.findIdx? (fun l => decide (s ∈ l)) = none := by
        rw [List.findIdx?_eq_none_iff]
        intro l hl'
        obtain ⟨j, hj, e⟩ := List.getElem_of_mem hl'
        have := hn j l (by rw [List.length_map, hl]; exact hj) (by rw [← e]; exact List.getElem?_eq_getElem hj)
        exact decide_eq_false this
      rw [this]
    have q := q _ s1
    rw [er] at q
    exact q
theorem scPartsOf : FnScope ["kind"] ["kind"] (defScope sPartsOf) := ⟨rfl, rfl, rfl, by decide +kernel, rfl, by decide +kernel, by decide +kernel⟩
def spPartsOf : Sp := fun vs H Q _ => ∃ t : T, vs = [.str (kind t)] ∧ inner t ∧ ∀ H', Same H H' → Q (.int (kids t).length) H'
theorem uk_in (k : UK) : k.str ∈ (["minus", "no"] : List Str) := by cases k <;> decide
theorem bk_notin (k : BK) : ¬ k.str ∈ (["minus", "no"] : List Str) := by cases k <;> decide
theorem bk_ne (k : BK) : k.str ≠ "choose" := by cases k <;> decide
theorem cho_notin : ¬ ("choose" : Str) ∈ (["minus", "no"] : List Str) := by decide
theorem bk_rank (k : BK) : ((0 : Int) < (rankOf k.str : Nat)) := by cases k <;> decide
theorem cal_parts_of (D : Def K mg "parts_of_kind" sPartsOf ["kind"]) (C1 : Cal P w K mg base CX0 1 "rank_of" ["sign"] spRankOf) : Cal P w K mg base CX0 2 "parts_of_kind" ["kind"] spPartsOf := by
  refine D.cal fun f fd F => F.ok scPartsOf (fun vs H Q E ⟨s, e, _⟩ => by rw [e]; rfl) fun cdv A outer st H vs Q E hr h => ?_
  obtain ⟨g1, d1, G1, m1, k1, b1⟩ := C1
  obtain ⟨t, rfl, it, q⟩ := h
  refine ⟨_, pss_cons (ps_if (pt_cmpR op_in_seq (pv 0) (pe_tup (pa_cons pe_str (pa_cons pe_str pa_nil))) rfl) (pss_one (ps_ret pe_int)) pss_nil)
    (pss_cons (ps_if (pt_cmpR op_eq (pv 0) pe_str (nomark _)) (pss_one (ps_ret pe_int)) pss_nil)
    (pss_cons (ps_if (pt_cmpR op_gt (pe_call G1 hr rfl m1 k1 b1 .nil pass0 (pa_cons (pv 0) pa_nil)) pe_int (nomark _)) (pss_one (ps_ret pe_int)) pss_nil)
    (pss_one (ps_ret pe_int)))), ?_⟩
  refine ⟨_, rfl, (by show 2 ≤ sizeLine; decide), fun a ha => ⟨a, _, rfl, .inr (SqT.of upd_same), rfl, rfl, _, rfl, ?_⟩⟩
  have s1 := same_new ha (.tup [.str "minus", .str "no"])
  show if inV (V.str (kind t)) ((["minus", "no"] : List Str).map V.str) = true then _ else _
  rw [inV_str]
  cases t with
  | num n => exact it.elim
  | of x => exact it.elim
  | un k a =>
    rw [decide_eq_true (show kind (.un k a) ∈ (["minus", "no"] : List Str) from uk_in k)]
    exact iteT (q _ s1)
  | cho a b c =>
    rw [decide_eq_false (show ¬ kind (.cho a b c) ∈ (["minus", "no"] : List Str) from cho_notin)]
    refine iteF ⟨_, rfl, rfl, _, rfl, ?_⟩
    rw [str_eq (show kind (.cho a b c) = "choose" from rfl)]
    exact iteT (q _ s1)
  | bin k a b =>
    rw [decide_eq_false (show ¬ kind (.bin k a b) ∈ (["minus", "no"] : List Str) from bk_notin k)]
    refine iteF ⟨_, rfl, rfl, _, rfl, ?_⟩
    rw [str_ne (show kind (.bin k a b) ≠ "choose" from bk_ne k)]
    refine iteF ⟨_, rfl, _, rfl, fun H2 s2 => ⟨_, _, rfl, rfl, _, rfl, ?_⟩⟩
    rw [decide_eq_true (show (rankOf (kind (.bin k a b)) : Int) > 0 from bk_rank k)]
    exact iteT (q _ (s1.trans s2))
theorem scIsSum : FnScope ["tree", "kind", "part"] ["tree"] (defScope sIsSum) := ⟨rfl, rfl, rfl, by decide +kernel, rfl, by decide +kernel, by decide +kernel⟩
def spIsSum (n : Nat) : Sp := fun vs H Q _ => ∃ (v : V) (t : T), vs = [v] ∧ SumAt n H v t ∧ ∀ H', Same H H' → Q (.bl true) H'
theorem leaf_or : ∀ t : T, (∃ n, t = .num n) ∨ (∃ x, t = .of x) ∨ inner t
  | .num n => .inl ⟨n, rfl⟩
  | .of x => .inr (.inl ⟨x, rfl⟩)
  | .un _ _ => .inr (.inr trivial)
  | .bin _ _ _ => .inr (.inr trivial)
  | .cho _ _ _ => .inr (.inr trivial)
theorem kids_pos : ∀ {t : T}, inner t → 0 < (kids t).length
  | .num _, h => h.elim
  | .of _, h => h.elim
  | .un _ _, _ => Nat.succ_pos _
  | .bin _ _ _, _ => Nat.succ_pos _
  | .cho _ _ _, _ => Nat.succ_pos _
/-- the first look at a tuple of a sum -/
theorem cal_is_sum (D : Def K mg "is_sum" sIsSum ["tree"]) (T : Bt mg) (C1 : Cal P w K mg base CX0 1 "is_integer" ["thing"] spIsInteger) (C2 : Cal P w K mg base CX0 3 "is_name_or_place" ["thing"] (spName isNP))
    (C3 : Cal P w K mg base CX0 2 "parts_of_kind" ["kind"] spPartsOf) (n : Nat) : Cal P w K mg base CX0 (n + 3) "is_sum" ["tree"] (spIsSum n) := by
  refine D.cals (fun vs H Q E ⟨v, t, e, h, _⟩ => h.no) (fun n f fd F G m b => ?_) n
  refine F.ok scIsSum (fun vs H Q E ⟨v, t, e, _⟩ => by rw [e]; rfl) fun cdv A outer st H vs Q E hr h => ?_
  obtain ⟨g1, d1, G1, m1, k1, b1⟩ := C1
  obtain ⟨g2, d2, G2, m2, k2, b2⟩ := C2
  obtain ⟨g3, d3, G3, m3, k3, b3⟩ := C3
  have hr1 : Room 1 _ := hr.mono (by omega)
  have hr3 : Room 3 _ := hr.mono (by omega)
  have hr2 : Room 2 _ := hr.mono (by omega)
  obtain ⟨v, t, rfl, hs, q⟩ := h
  refine ⟨_, pss_cons (ps_if (PW.pt (pw_or (pt_not (pt_val (pe_callB call_isi (by rfl) T.isinstance (by decide +kernel) (pa_cons (pv 0) (pa_cons (pe_bltn (v := .ty "tuple") (by rfl) T.tuple (by decide +kernel) rfl) pa_nil)))))
      (pw_or (pt_cmpR op_lt (pe_callB call_len_seq (by rfl) T.len PySem.boot_len (pa_cons (pv 0) pa_nil)) pe_int (nomark _))
      (pw_or1 (pt_not (pt_val (pe_callB call_isi (by rfl) T.isinstance (by decide +kernel) (pa_cons (pe_ix ix_tup (pv 0) pe_int (fun _ _ => rfl)) (pa_cons (pe_bltn (v := .ty "str") (by rfl) T.str (by decide +kernel) rfl) pa_nil))))))))) (pss_one (ps_ret pe_bl)) pss_nil)
    (pss_cons (ps_set (i := 1) scIsSum.nd rfl (.inl rfl) (pe_ix ix_tup (pv 0) pe_int (fun _ _ => rfl)))
    (pss_cons (ps_if (pt_cmpR op_eq (pv 1) pe_str (nomark _)) (pss_one (ps_ret (pe_and (pe_cmpR op_eq (pe_callB call_len_seq (by rfl) T.len PySem.boot_len (pa_cons (pv 0) pa_nil)) pe_int (nomark _))
      (pe_and (pe_call G1 hr1 rfl m1 k1 b1 .nil pass0 (pa_cons (pe_ix ix_tup (pv 0) pe_int (fun _ _ => rfl)) pa_nil)) (pe_one (pe_cmpR op_ge (pe_ix ix_tup (pv 0) pe_int (fun _ _ => rfl)) pe_int (nomark _))))))) pss_nil)
    (pss_cons (ps_if (pt_cmpR op_eq (pv 1) pe_str (nomark _)) (pss_one (ps_ret (pe_and (pe_cmpR op_eq (pe_callB call_len_seq (by rfl) T.len PySem.boot_len (pa_cons (pv 0) pa_nil)) pe_int (nomark _))
      (pe_and (pe_call G2 hr3 rfl m2 k2 b2 .nil pass0 (pa_cons (pe_ix ix_tup (pv 0) pe_int (fun _ _ => rfl)) pa_nil)) (pe_one (pe_cmpR op_notIn_seq (pe_ix ix_tup (pv 0) pe_int (fun _ _ => rfl)) (pe_tup (pa_cons pe_str (pa_cons pe_str pa_nil))) rfl)))))) pss_nil)
    (pss_one (ps_ret (pe_and (pe_chain op_lt op_eq pe_int (pe_call G3 hr2 rfl m3 k3 b3 .nil pass0 (pa_cons (pv 1) pa_nil)) (pe_op op_sub (pe_callB call_len_seq (by rfl) T.len PySem.boot_len (pa_cons (pv 0) pa_nil)) pe_int))
      (pe_one (pe_callB (cr_all rfl) (by rfl) T.all (by decide +kernel) (pa_cons (pe_lc (own := [("part", 2)]) (g := gName 2) (by rfl) scIsSum.nd (pi_tup (pe_slice sl_tup (pv 0) (po_some pe_int) po_none))
        (blkOk_by (own := [("part", 2)]) (N := ["tree", "kind", "part"]) (sc := defScope sIsSum) (by decide +kernel)) (fun _ _ _ _ _ => pg_name (i := 2) scIsSum.nd rfl (Or.inl rfl)) (fun _ _ _ _ _ => pts_nil)
        (fun _ _ _ _ _ => pe_call G hr rfl m F.kp b .nil pass0 (pa_cons (pv 2) pa_nil))) pa_nil))))))))), ?_⟩
  -- the tuple: its first is a text, it has at least two
  obtain ⟨a, x1, ws, rfl, ha⟩ : ∃ a x1 ws, v = .ref a ∧ H a = some (.tup (.str (kind t) :: x1 :: ws)) := by
    rcases leaf_or t with ⟨z, rfl⟩ | ⟨x, rfl⟩ | it
    · obtain ⟨a, e, h⟩ := hs.at_
      exact ⟨a, _, _, e, h⟩
    · obtain ⟨a, e, h⟩ := hs.at_
      exact ⟨a, _, _, e, h⟩
    · obtain ⟨a, ws, e, h, hl, _⟩ := hs.node it
      have := kids_pos it
      cases ws with
      | nil => simp at hl; omega
      | cons x1 ws => exact ⟨a, x1, ws, e, h⟩
  have at0 : atI (V.str (kind t) :: x1 :: ws) 0 = some (V.str (kind t)) := atI_nat (j := 0) rfl
  have at1 : atI (V.str (kind t) :: x1 :: ws) 1 = some x1 := atI_nat (j := 1) rfl
  refine ⟨_, rfl, _, _, _, _, true, rfl, .ty "tuple", .base (.tup ha), kit_ty (by decide +kernel), true, rfl, ?_⟩
  refine iteF ⟨_, rfl, a, _, rfl, .inr (SqT.of ha), _, _, rfl, rfl, _, rfl, ?_⟩
  rw [decide_eq_false (show ¬ (((V.str (kind t) :: x1 :: ws).length : Nat) : Int) < 2 by rw [List.length_cons, List.length_cons]; omega)]
  refine iteF ⟨_, rfl, a, _, _, _, rfl, rfl, SqT.of ha, at0, _, _, _, _, true, rfl, .ty "str", .base (.str _), kit_ty (by decide +kernel), true, rfl, ?_⟩
  refine iteF ⟨_, rfl, a, _, _, _, rfl, rfl, SqT.of ha, at0, ?_⟩
  refine ⟨_, rfl, rfl, _, rfl, ?_⟩
  rcases leaf_or t with ⟨z, rfl⟩ | ⟨x, rfl⟩ | it
  · rw [str_eq (show kind (.num z) = "number" from rfl)]
    obtain ⟨a', e', h'⟩ := hs.at_
    cases e'
    rw [ha] at h'
    cases h'
    refine iteT ⟨_, rfl, a, _, rfl, .inr (SqT.of ha), rfl, _, rfl, ?_⟩
    refine iteT ⟨_, rfl, a, _, _, _, rfl, rfl, SqT.of ha, at1, z, rfl, ?_⟩
    refine ⟨_, rfl, iteT ⟨_, rfl, a, _, _, _, rfl, rfl, SqT.of ha, at1, _, _, rfl, rfl, ?_⟩⟩
    show Q (.bl (decide ((0 : Int) ≤ z))) _
    rw [decide_eq_true hs.nums.1]
    exact q _ (Same.refl _)
  · rw [str_ne (show kind (.of x) ≠ "number" by show ("of" : Str) ≠ "number"; decide)]
    refine iteF ⟨_, rfl, rfl, _, rfl, ?_⟩
    rw [str_eq (show kind (.of x) = "of" from rfl)]
    obtain ⟨a', e', h'⟩ := hs.at_
    cases e'
    rw [ha] at h'
    cases h'
    have nm := hs.nms x (List.mem_singleton.mpr rfl)
    obtain ⟨c, r, hc⟩ := nm.ne
    refine iteT ⟨_, rfl, a, _, rfl, .inr (SqT.of ha), rfl, _, rfl, ?_⟩
    refine iteT ⟨_, rfl, a, _, _, _, rfl, rfl, SqT.of ha, at1, x, c, r, rfl, Nat.le_trans nm.len (by decide), hc, fun H1 s1 => ?_⟩
    refine ⟨_, rfl, ?_⟩
    rw [nm.np]
    refine iteT ⟨_, rfl, a, _, _, _, rfl, rfl, SqT.of (s1 _ _ ha), at1, (by show 2 ≤ sizeLine; decide), fun p hp => ⟨p, _, rfl, .inr (SqT.of upd_same), rfl, rfl, ?_⟩⟩
    show Q (.bl (!inV (V.str x) ((["@", "*"] : List Str).map V.str))) _
    rw [inV_str, decide_eq_false (show ¬ x ∈ (["@", "*"] : List Str) from fun h => by
      rcases List.mem_cons.mp h with e | h
      · exact nm.at_ e
      · exact nm.star (List.mem_singleton.mp h))]
    exact q _ (s1.trans (same_new hp _))
  · rw [str_ne (kind_num it)]
    refine iteF ⟨_, rfl, rfl, _, rfl, ?_⟩
    rw [str_ne (kind_of it)]
    obtain ⟨a', ws', e', h', hl, hk⟩ := hs.node it
    cases e'
    rw [ha] at h'
    cases h'
    refine iteF ⟨_, rfl, t, rfl, it, fun H1 s1 => ⟨_, _, rfl, rfl, _, rfl, ?_⟩⟩
    rw [decide_eq_true (show (0 : Int) < ((kids t).length : Nat) by have := kids_pos it; omega)]
    refine iteT ⟨_, rfl, a, _, rfl, .inr (SqT.of (s1 _ _ ha)), _, _, rfl, rfl, rfl, _, rfl, ?_⟩
    rw [decide_eq_true (show V.int ((kids t).length : Nat) = V.int ((((V.str (kind t) :: x1 :: ws).length : Nat) : Int) - 1) by rw [List.length_cons, hl]; congr 1; omega)]
    refine iteT ⟨_, rfl, 1, rfl, a, _, rfl, SqT.of (s1 _ _ ha), cut_not _ _, fun p hp => ?_⟩
    rw [cutV1]
    have s2 : Same H1 (upd H1 p (.tup (x1 :: ws))) := same_new hp _
    refine ⟨p, rfl, ⟨_, SqT.of upd_same⟩, fun L hL => ?_⟩
    refine lc_mapY (walk_tup (K := K) (a := p) (xs := x1 :: ws)) ((kids t).map fun _ => V.bl true) (by rw [List.length_map, hl]) (by rw [hl]; have := kids_len t; omega) hL (fun H2 s3 => seqT s3 (SqT.of upd_same)) (fun i x H2 H3 y e s3 hy k hk' => ?_) fun H2 s3 hL2 => ?_
    · obtain ⟨rfl, hx⟩ := hy
      rw [List.getElem?_map] at e
      cases eu : (kids t)[i]? with
      | none => rw [eu] at e; cases e
      | some u =>
        rw [eu] at e
        cases e
        refine ⟨rfl, _, rfl, x, u, rfl, (hk i x u hx eu).mono (s1.trans (s2.trans s3)), fun H4 s4 => hk' H4 s4⟩
    · refine ⟨L, (kids t).map fun _ => true, rfl, SqL.of (by rw [List.map_map]; exact hL2), ?_⟩
      rw [show ((kids t).map fun _ => true).all id = true by rw [List.all_eq_true]; intro x hx; obtain ⟨_, _, rfl⟩ := List.mem_map.mp hx; rfl]
      exact q _ (s1.trans (s2.trans s3))
theorem scCheckSum : FnScope ["tree"] ["tree"] (defScope sCheckSum) := ⟨rfl, rfl, rfl, by decide +kernel, rfl, by decide +kernel, by decide +kernel⟩
def spCheckSum (n : Nat) : Sp := fun vs H Q _ => ∃ (v : V) (t : T), vs = [v] ∧ SumAt n H v t ∧ ∀ H', Same H H' → Q .non H'
theorem cal_check_sum (D : Def K mg "check_sum" sCheckSum ["tree"]) (C1 : Cal P w K mg base CX0 15 "is_sum" ["tree"] (spIsSum 12)) : Cal P w K mg base CX0 16 "check_sum" ["tree"] (spCheckSum 12) := by
  refine D.cal fun f fd F => F.ok scCheckSum (fun vs H Q E ⟨v, t, e, _⟩ => by rw [e]; rfl) fun cdv A outer st H vs Q E hr h => ?_
  obtain ⟨g1, d1, G1, m1, k1, b1⟩ := C1
  obtain ⟨v, t, rfl, hs, q⟩ := h
  refine ⟨_, pss_one (ps_if (pt_not (pt_val (pe_call G1 hr rfl m1 k1 b1 .nil pass0 (pa_cons (pv 0) pa_nil)))) (pss_one ps_never) pss_nil), ?_⟩
  refine ⟨_, rfl, v, t, rfl, hs, fun H1 s1 => ⟨true, rfl, iteF ?_⟩⟩
  exact q _ s1
end
end K19
/-! Texts and their numbers. -/
namespace K19
open PySem L2
theorem minus_cps : ("-" : Str).cps.toList = [45] := by decide
theorem rp_figs (s : Str) : (Txt.removeprefix s "-").cps.toList = figs s := by
  unfold Txt.removeprefix figs
  have e : Builtin.Str.subAt s "-" 0 = (s.cps.toList.take 1 == [45]) := by
    rw [StrLaws.subAt_eq, minus_cps, List.drop_zero]
    rfl
  rw [e]
  by_cases h : s.cps.toList.take 1 = [45]
  · have h1 : (s.cps.toList.take 1 == [45]) = true := by simpa using h
    rw [h1, if_pos rfl, if_pos h]
    have h2 : s.cps.toList.length ≠ 0 := by
      intro z
      have : s.cps.toList = [] := List.length_eq_zero_iff.mp z
      rw [this] at h
      cases h
    have h3 : s.length = s.cps.toList.length := by simp [Str.length]
    show (if (s.length - ("-" : Str).length == s.length) = true then s else Builtin.Str.strSub s ("-" : Str).length s.length).cps.toList = _
    have h4 : ("-" : Str).length = 1 := rfl
    rw [h4, if_neg (by simp; omega), StrLaws.strSub_toList, h3]
    exact List.take_of_length_le (by rw [List.length_drop]; exact Nat.le_refl _)
  · have h1 : (s.cps.toList.take 1 == [45]) = false := by simpa using h
    rw [h1, if_neg Bool.false_ne_true, if_neg h]
    rfl
theorem dig_cps : DIG.cps.toList = [48, 49, 50, 51, 52, 53, 54, 55, 56, 57] := by decide
theorem dig_in (c : Nat) : decide (c ∈ DIG.cps.toList) = dig c := by
  rw [dig_cps]
  unfold dig
  rw [Bool.eq_iff_iff, Bool.and_eq_true, decide_eq_true_eq, decide_eq_true_eq, decide_eq_true_eq]
  constructor
  · intro h
    simp only [List.mem_cons, List.not_mem_nil, or_false] at h
    omega
  · intro h
    simp only [List.mem_cons, List.not_mem_nil, or_false]
    omega
theorem hasS_dig (s : Str) : hasS s DIG = s.cps.toList.all dig := by
  unfold hasS
  congr 1
  funext c
  exact dig_in c
theorem all_dig {l : List Nat} (h : l.all dig = true) : NumText.AllDigits l := fun c hc => by
  have := List.all_eq_true.mp h c hc
  unfold dig at this
  rw [Bool.and_eq_true, decide_eq_true_eq, decide_eq_true_eq] at this
  exact this
theorem str_len (s : Str) : s.length = s.cps.toList.length := by simp [Str.length]
theorem size_len (s : Str) : s.cps.size = s.cps.toList.length := by simp
theorem figs_len (s : Str) : s.cps.toList.length ≤ (figs s).length + 1 := by
  unfold figs
  split
  · rw [List.length_drop]; omega
  · omega
theorem figs_le (s : Str) : (figs s).length ≤ s.cps.toList.length := by
  unfold figs
  split
  · rw [List.length_drop]; omega
  · omega
/-- a text of figures, perhaps behind a minus, is a number -/
theorem num_of {s : Str} (h1 : (figs s) ≠ []) (h2 : (figs s).all dig = true) (h3 : s.cps.toList.length ≤ 4300) : ∃ n, PySem.intText? s = some n := by
  have a := all_dig h2
  unfold figs at h1 a
  by_cases h : s.cps.toList.take 1 = [45]
  · rw [if_pos h] at h1 a
    have e : s.cps.toList = 45 :: s.cps.toList.drop 1 := by
      cases q : s.cps.toList with
      | nil => rw [q] at h; cases h
      | cons c r =>
        rw [q] at h
        have : c = 45 := by simpa using h
        rw [this]
        rfl
    exact ⟨_, PySem.intText_neg e a h1 (by rw [str_len]; exact h3)⟩
  · rw [if_neg h] at h1 a
    exact ⟨_, PySem.intText_digits a h1 (by rw [str_len]; exact h3)⟩
theorem good_parts (s : Str) : good s = (!(figs s).isEmpty && decide ((figs s).length ≤ 40) && (figs s).all dig && !(decide ((figs s).take 1 = [48]) && !decide (s = "0"))) := rfl
theorem txt_good {s : Str} (h : good s = true) : ∃ n, PySem.intText? s = some n ∧ txt s = some n ∧ s.cps.toList.length ≤ 41 := by
  have h0 := h
  rw [good_parts] at h
  simp only [Bool.and_eq_true] at h
  obtain ⟨⟨⟨h1, h2⟩, h3⟩, h4⟩ := h
  have n1 : figs s ≠ [] := fun z => by rw [z] at h1; cases h1
  have l1 : (figs s).length ≤ 40 := of_decide_eq_true h2
  have l2 := figs_len s
  obtain ⟨n, hn⟩ := num_of n1 h3 (by omega)
  have ne : s ≠ "" := fun z => by
    rw [z] at n1
    exact n1 rfl
  refine ⟨n, hn, ?_, by omega⟩
  unfold txt
  rw [if_neg ne, if_pos h0, hn]
  rfl
theorem txt_empty : txt "" = some 0 := rfl
theorem txt_bad {s : Str} (h1 : s ≠ "") (h2 : good s ≠ true) : txt s = none := by
  unfold txt
  rw [if_neg h1, if_neg h2]
theorem empty_iff (s : Str) : s = "" ↔ s.cps.toList = [] := by
  constructor
  · intro h
    rw [h]
    rfl
  · intro h
    have : s.cps = #[] := by simpa using h
    cases s
    cases this
    rfl
end K19
/-! What the names hold. -/
namespace K19
open PySem L2
/-! ### numbers stay small -/
theorem fold_lt : ∀ (cs : List Nat) (a : Nat), NumText.AllDigits cs → cs.foldl (fun acc c => acc * 10 + (c - 48)) a < (a + 1) * 10 ^ cs.length
  | [], a, _ => by simp
  | c :: cs, a, h => by
    have hc := h.head
    have ih := fold_lt cs (a * 10 + (c - 48)) h.tail
    show cs.foldl (fun acc c => acc * 10 + (c - 48)) (a * 10 + (c - 48)) < (a + 1) * 10 ^ (cs.length + 1)
    refine Nat.lt_of_lt_of_le ih ?_
    rw [Nat.pow_succ, Nat.mul_comm (10 ^ cs.length) 10, ← Nat.mul_assoc]
    refine Nat.mul_le_mul_right _ ?_
    omega
theorem digits_lt {cs : List Nat} (h : NumText.AllDigits cs) : NumText.digitsVal cs < 10 ^ cs.length := by
  have := fold_lt cs 0 h
  unfold NumText.digitsVal
  simpa using this
theorem txt_small {s : Str} {z : Int} (h : txt s = some z) : small z := by
  by_cases he : s = ""
  · rw [he] at h
    have : z = 0 := by cases h; rfl
    rw [this, small_iff]
    exact ⟨by decide, by decide⟩
  by_cases hg : good s = true
  case neg => rw [txt_bad he hg] at h; cases h
  obtain ⟨n, h1, h2, h3⟩ := txt_good hg
  rw [h2] at h
  cases h
  rw [good_parts] at hg
  simp only [Bool.and_eq_true] at hg
  obtain ⟨⟨⟨g1, g2⟩, g3⟩, _⟩ := hg
  have n1 : figs s ≠ [] := fun z => by rw [z] at g1; cases g1
  have l1 : (figs s).length ≤ 40 := of_decide_eq_true g2
  have a := all_dig g3
  have b := digits_lt a
  have b2 : NumText.digitsVal (figs s) < 10 ^ 40 := Nat.lt_of_lt_of_le b (Nat.pow_le_pow_right (by decide) l1)
  have sl : s.length ≤ 4300 := by rw [str_len]; omega
  rw [small_iff]
  generalize hd : NumText.digitsVal (figs s) = dv at b2
  unfold figs at n1 a hd
  by_cases hm : s.cps.toList.take 1 = [45]
  · rw [if_pos hm] at n1 a hd
    have e : s.cps.toList = 45 :: s.cps.toList.drop 1 := by
      cases q : s.cps.toList with
      | nil => rw [q] at hm; cases hm
      | cons c r =>
        rw [q] at hm
        have : c = 45 := by simpa using hm
        rw [this]
        rfl
    have := PySem.intText_neg e a n1 sl
    rw [h1, hd] at this
    have e2 : z = -((dv : Nat) : Int) := Option.some.inj this
    rw [e2]
    omega
  · rw [if_neg hm] at n1 a hd
    have := PySem.intText_digits a n1 sl
    rw [h1, hd] at this
    have e2 : z = ((dv : Nat) : Int) := Option.some.inj this
    rw [e2]
    omega
theorem val_small {val : Str → Str} {t : T} : ∀ {z : Int}, Nums In t → ev val t = .ok z → small z := by
  induction t with
  | num n =>
    intro z hN h
    cases h
    have := hN.1
    have := hN.2
    rw [small_iff]
    exact ⟨by omega, by omega⟩
  | of x =>
    intro z hN h
    simp only [ev] at h
    split at h
    · rename_i n hn
      cases h
      exact txt_small hn
    · cases h
  | un k a ih =>
    intro z hN h
    simp only [ev] at h
    split at h
    · cases h
    · rename_i y hy
      cases h
      have := ih hN hy
      rw [small_iff] at this
      cases k with
      | minus => rw [small_iff]; show -(10 ^ 40) < -y ∧ -y < 10 ^ 40; omega
      | no => exact b1_small _
  | bin k a b iha ihb =>
    intro z hN h
    simp only [ev] at h
    split at h
    · cases h
    · split at h
      · cases h
        exact b1_small _
      · split at h
        · cases h
        · exact join_small h
  | cho a b c iha ihb ihc =>
    intro z hN h
    simp only [ev] at h
    split at h
    · cases h
    · split at h
      · exact ihc hN.2.2 h
      · exact ihb hN.2.1 h
theorem small_abs {z : Int} (h : small z) : z.natAbs < 2 ^ 133 := by
  rw [small_iff] at h
  have : (10 : Int) ^ 40 < 2 ^ 133 := by decide
  omega
/-! ### names that are places -/
def PD : Str := "123456789"
theorem pd_cps : PD.cps.toList = [49, 50, 51, 52, 53, 54, 55, 56, 57] := by decide
theorem pd_iff (c : Nat) : c ∈ PD.cps.toList ↔ 49 ≤ c ∧ c ≤ 57 := by
  rw [pd_cps]
  constructor
  · intro h
    simp only [List.mem_cons, List.not_mem_nil, or_false] at h
    omega
  · intro h
    simp only [List.mem_cons, List.not_mem_nil, or_false]
    omega
theorem let_no : ∀ c ∈ LET.cps.toList, 57 < c := by decide
theorem first_of {x y : Str} {c : Nat} {r : List Nat} (h : x.cps.toList = c :: r) (e : x = y) : y.cps.toList = c :: r := e ▸ h
theorem place_num {x : Str} {c : Nat} {r : List Nat} (n : NmOk x) (hc : x.cps.toList = c :: r) (hp : c ∈ PD.cps.toList) : ∃ k : Int, PySem.intText? x = some k ∧ 1 ≤ k := by
  have hp2 := (pd_iff c).mp hp
  have np := n.np
  unfold isNP at np
  rw [Bool.or_eq_true] at np
  rcases np with h | h
  · unfold isNm at h
    rw [hc, Bool.and_eq_true] at h
    have := let_no c (of_decide_eq_true h.2)
    omega
  · unfold isPl at h
    rw [Bool.or_eq_true] at h
    rcases h with h | h
    · exfalso
      have e : inV (.str x) ((["0", "#", "?", "@", "*"] : List Str).map V.str) = true := h
      rw [inV_str] at e
      have e := of_decide_eq_true e
      have f : ∀ y ∈ (["0", "#", "?", "@", "*"] : List Str), ∀ d l, y.cps.toList = d :: l → ¬ (49 ≤ d ∧ d ≤ 57) := by
        intro y hy d l hd
        simp only [List.mem_cons, List.not_mem_nil, or_false] at hy
        have q : ∀ z : Str, ∀ k : Nat, z.cps.toList = [k] → z.cps.toList = d :: l → d = k := fun z k h1 h2 => by rw [h1] at h2; injection h2 with h3 _; exact h3.symm
        rcases hy with rfl | rfl | rfl | rfl | rfl
        · rw [q "0" 48 (by decide) hd]; omega
        · rw [q "#" 35 (by decide) hd]; omega
        · rw [q "?" 63 (by decide) hd]; omega
        · rw [q "@" 64 (by decide) hd]; omega
        · rw [q "*" 42 (by decide) hd]; omega
      exact f x e c r hc hp2
    · rw [Bool.and_eq_true, hasS_dig] at h
      have a := all_dig h.1
      have l := n.len
      rw [size_len] at l
      refine ⟨_, PySem.intText_digits a (by rw [hc]; exact List.cons_ne_nil _ _) (by rw [str_len]; omega), ?_⟩
      rw [hc] at a ⊢
      have ge : ∀ (cs : List Nat) (b : Nat), 1 ≤ b → 1 ≤ cs.foldl (fun acc c => acc * 10 + (c - 48)) b := by
        intro cs
        induction cs with
        | nil => intro b hb; exact hb
        | cons d ds ih => intro b hb; exact ih (b * 10 + (d - 48)) (by omega)
      have : 1 ≤ NumText.digitsVal (c :: r) := by
        unfold NumText.digitsVal
        exact ge r (0 * 10 + (c - 48)) (by omega)
      omega
/-! ### the book and the given values -/
def bookK (bs : List (Str × Str)) : List (Key × V) := bs.map fun p => (Sum.inr p.1, .str p.2)
def bookV (bs : List (Str × Str)) (x : Str) : Str := match valV (bookK bs) (Sum.inr x) with
  | some (.str z) => z
  | _ => ""
theorem bookV_is (bs : List (Str × Str)) (x : Str) : (valV (bookK bs) (Sum.inr x)).getD (.str "") = .str (bookV bs x) := by
  unfold bookV
  unfold valV bookK
  cases h : List.find? (fun kv => decide (kv.1 = (Sum.inr x : Key))) (List.map (fun p : Str × Str => ((Sum.inr p.1 : Key), V.str p.2)) bs) with
  | none => rfl
  | some kv =>
    have m := List.mem_of_find?_eq_some h
    obtain ⟨p, _, rfl⟩ := List.mem_map.mp m
    rfl
theorem bookV_mem (bs : List (Str × Str)) (x : Str) : bookV bs x = "" ∨ ∃ p ∈ bs, bookV bs x = p.2 := by
  unfold bookV valV bookK
  cases h : List.find? (fun kv => decide (kv.1 = (Sum.inr x : Key))) (List.map (fun p : Str × Str => ((Sum.inr p.1 : Key), V.str p.2)) bs) with
  | none => exact .inl rfl
  | some kv =>
    have m := List.mem_of_find?_eq_some h
    obtain ⟨p, hp, rfl⟩ := List.mem_map.mp m
    exact .inr ⟨p, hp, rfl⟩
def held (bs : List (Str × Str)) (gs : List Str) (x : Str) : Str := match x.cps.toList with
  | [] => ""
  | c :: _ => if c ∈ PD.cps.toList then gs.getD (((PySem.intText? x).getD 0) - 1).toNat "" else bookV bs x
theorem held_place {bs : List (Str × Str)} {gs : List Str} {x : Str} {c : Nat} {r : List Nat} {k : Int} (hc : x.cps.toList = c :: r) (hp : c ∈ PD.cps.toList) (hk : PySem.intText? x = some k) : held bs gs x = gs.getD (k - 1).toNat "" := by
  unfold held
  rw [hc, hk]
  exact if_pos hp
theorem held_name {bs : List (Str × Str)} {gs : List Str} {x : Str} {c : Nat} {r : List Nat} (hc : x.cps.toList = c :: r) (hp : c ∉ PD.cps.toList) : held bs gs x = bookV bs x := by
  unfold held
  rw [hc]
  exact if_neg hp
theorem held_nil (x : Str) : held [] [] x = v0 x := by
  unfold held
  cases x.cps.toList with
  | nil => rfl
  | cons c r =>
    show (if c ∈ PD.cps.toList then _ else _) = _
    split <;> rfl
/-- what the values are: short texts -/
structure Vals0 (bs : List (Str × Str)) (gs : List Str) : Prop where
  b : ∀ p ∈ bs, p.2.cps.toList.length ≤ 100
  g : ∀ z ∈ gs, z.cps.toList.length ≤ 100
theorem held_len {bs : List (Str × Str)} {gs : List Str} (h : Vals0 bs gs) (x : Str) : (held bs gs x).cps.toList.length ≤ 100 := by
  unfold held
  split
  · exact Nat.zero_le _
  · split
    · rw [List.getD_eq_getElem?_getD]
      cases e : gs[(((PySem.intText? x).getD 0) - 1).toNat]? with
      | none => exact Nat.zero_le _
      | some z => exact h.g z (List.mem_of_getElem? e)
    · rcases bookV_mem bs x with e | ⟨p, hp, e⟩
      · rw [e]; exact Nat.zero_le _
      · rw [e]; exact h.b p hp
/-- a book and given values, in the heap -/
structure HeldAt (K : PySem.W.Frag) (H : Hp) (b g : Addr) (bs : List (Str × Str)) (gs : List Str) : Prop where
  book : H b = some (.dK (bookK bs))
  given : SqL K H g (gs.map V.str)
  ok : Vals0 bs gs
theorem HeldAt.mono {K : PySem.W.Frag} {H H' : Hp} {b g : Addr} {bs : List (Str × Str)} {gs : List Str} (h : HeldAt K H b g bs gs) (s : Same H H') : HeldAt K H' b g bs gs := ⟨s _ _ h.book, s.seq h.given, h.ok⟩
end K19
namespace K19
open PySem L2 K19R
abbrev sIntegerOf : Stmt := topS 25
abbrev sValueOf : Stmt := topS 26
abbrev sBounded : Stmt := topS 27
abbrev sQuotient : Stmt := topS 28
abbrev sCompared : Stmt := topS 29
abbrev sJoinedValue : Stmt := topS 30
/-- an error's class and its value v, in H' -/
def ErrAt (H H' : Hp) (d : Option Addr) (v : V) : Prop := Same H H' ∧ ∃ dd, d = some dd ∧ H' dd = some (.xd [(("value" : Str), v)])
/-- where the classes stand -/
structure Ec (prog : Program) (K : PySem.W.Frag) (mg : Str → Option Value) (D fI cc cd CN CG CZ : Addr) : Prop where
  noInt : PySem.KErr.Err prog K mg "NoInteger" CN D fI cc cd
  great : PySem.KErr.Err prog K mg "TooGreat" CG D fI cc cd
  zero : PySem.KErr.Err prog K mg "DividedByZero" CZ D fI cc cd
section
variable {P : Program} {w : World} {K : PySem.W.Frag} {mg : Str → Option Value} {base : Heap} {D fI cc cd CN CG CZ : Addr}
theorem scIntegerOf : FnScope ["text", "figures"] ["text"] (defScope sIntegerOf) := ⟨rfl, rfl, rfl, by decide +kernel, rfl, by decide +kernel, by decide +kernel⟩
def spIntegerOf (CN : Addr) : Sp := fun vs H Q E => ∃ s : Str, vs = [.str s] ∧ s.cps.toList.length ≤ 100 ∧ (∀ z H', txt s = some z → Same H H' → Q (.int z) H') ∧ (∀ d H', txt s = none → ErrAt H H' d (.str s) → E (.ref CN) d H')
theorem err_at {H H1 : Hp} {d : Addr} {v : V} (s : Same H H1) (hd : H1 d = none) : ErrAt H (upd H1 d (.xd [(("value" : Str), v)])) (some d) v := ⟨s.trans (same_new hd _), d, rfl, upd_same⟩
theorem cal_integer_of (Df : Def K mg "integer_of" sIntegerOf ["text"]) (T : Bt mg) (C : Cs mg) (X : Ec P K mg D fI cc cd CN CG CZ) (C1 : Cal P w K mg base CX0 1 "has_signs" ["text", "signs"] spHasSigns) : Cal P w K mg base (L2.CX P w) 3 "integer_of" ["text"] (spIntegerOf CN) := by
  refine Df.cal fun f fd F => F.okX scIntegerOf (fun vs H Q E ⟨s, e, _⟩ => by rw [e]; rfl) fun cdv A outer st H vs Q E hr h => ?_
  obtain ⟨g1, d1, G1, m1, k1, b1⟩ := C1
  obtain ⟨t2, ms⟩ := C.dig
  obtain ⟨t3, mm⟩ := C.most
  have hr1 : Room 1 _ := hr.mono (by decide)
  obtain ⟨s, rfl, hl, q, qe⟩ := h
  refine ⟨_, pss_cons (ps_if (pt_cmpR op_eq (pv 0) pe_str (nomark _)) (pss_one (ps_ret pe_int)) pss_nil)
    (pss_cons (ps_set (i := 1) scIntegerOf.nd rfl (.inl rfl) (pe_bm PySem.F.plainAttrs_str PySem.F.slot_str_removeprefix PySem.F.type_str_removeprefix mt_removeprefix (pv 0) (pa_cons pe_str pa_nil)))
    (pss_cons (ps_if (PW.pt (pw_or (pt_cmpR op_eq (pv 1) pe_str (nomark _)) (pw_or (pt_cmpR op_gt (pe_callB call_len_str (by rfl) T.len PySem.boot_len (pa_cons (pv 1) pa_nil)) (pe_glob (v := .int 40) rfl mm ⟨_, rfl⟩) (nomark _))
      (pw_or1 (pt_not (pt_val (pe_call G1 hr1 rfl m1 k1 b1 .nil pass0 (pa_cons (pv 1) (pa_cons (pe_glob (v := .str DIG) rfl ms ⟨_, rfl⟩) pa_nil)))))))))
      (pss_one (ps_raiseErr rfl X.noInt hr (takes_of rfl rfl rfl rfl) (pa_cons (pv 0) pa_nil))) pss_nil)
    (pss_cons (ps_if (PW.pt (pw_and (pt_cmpR op_eq (pe_ix ix_str (pv 1) pe_int (fun _ _ => rfl)) pe_str (nomark _)) (pw_and1 (pt_cmpR op_ne (pv 0) pe_str (nomark _)))))
      (pss_one (ps_raiseErr rfl X.noInt hr (takes_of rfl rfl rfl rfl) (pa_cons (pv 0) pa_nil))) pss_nil)
    (pss_one (ps_ret (pe_callTy call_int_str (by rfl) T.int (by decide +kernel) (pa_cons (pv 0) pa_nil))))))), ?_⟩
  refine ⟨_, rfl, rfl, _, rfl, ?_⟩
  by_cases he : s = ""
  · rw [str_eq he]
    exact iteT (q 0 _ (by rw [he]; rfl) (Same.refl _))
  rw [str_ne he]
  refine iteF ⟨_, rfl, rfl, s, "-", rfl, rfl, by rw [str_len]; exact Nat.le_of_lt (small1000 (by omega)), ?_⟩
  have hf := rp_figs s
  generalize Txt.removeprefix s "-" = fg at hf
  have lf := figs_le s
  refine ⟨_, rfl, rfl, _, rfl, ?_⟩
  have bad : ∀ (H1 : Hp), Same H H1 → good s ≠ true → ∀ d, H1 d = none → E (.ref CN) (some d) (upd H1 d (.xd [(("value" : Str), .str s)])) := fun H1 s1 hg d hd => qe _ _ (txt_bad he hg) (err_at s1 hd)
  by_cases h1 : fg = ""
  · rw [str_eq h1]
    refine iteT (iteT ⟨_, rfl, .str s, rfl, fun d hd => bad H (Same.refl _) (fun hg => ?_) d hd⟩)
    rw [good_parts, ← hf, (empty_iff fg).mp h1] at hg
    cases hg
  rw [str_ne h1]
  have n1 : figs s ≠ [] := fun z => h1 ((empty_iff fg).mpr (by rw [hf]; exact z))
  refine iteF ⟨_, rfl, fg, rfl, by rw [str_len, hf]; exact Nat.le_of_lt (small1000 (by omega)), _, _, rfl, rfl, _, rfl, ?_⟩
  show if decide ((40 : Int) < (fg.length : Nat)) = true then _ else _
  have e2 : fg.length = (figs s).length := by rw [str_len, hf]
  refine ite2 (fun c => ?_) (fun c => ?_)
  · refine iteT ⟨_, rfl, .str s, rfl, fun d hd => bad H (Same.refl _) (fun hg => ?_) d hd⟩
    have c := of_decide_eq_true c
    rw [good_parts] at hg
    simp only [Bool.and_eq_true] at hg
    have := of_decide_eq_true hg.1.1.2
    omega
  have c : ¬ (40 : Int) < (fg.length : Nat) := of_decide_eq_false (Bool.eq_false_iff.mpr c)
  refine ⟨_, rfl, fg, DIG, rfl, by rw [size_len, hf]; omega, fun H1 s1 => ⟨_, rfl, ?_⟩⟩
  show if (!hasS fg DIG) = true then _ else _
  rw [hasS_dig, hf]
  by_cases h3 : (figs s).all dig = true
  case neg =>
    rw [Bool.eq_false_iff.mpr h3]
    refine iteT ⟨_, rfl, .str s, rfl, fun d hd => bad H1 s1 (fun hg => ?_) d hd⟩
    rw [good_parts, Bool.eq_false_iff.mpr h3, Bool.and_false, Bool.false_and] at hg
    cases hg
  rw [h3]
  refine iteF ?_
  obtain ⟨c0, r0, hc0⟩ : ∃ c0 r0, figs s = c0 :: r0 := by
    cases e : figs s with
    | nil => exact absurd e n1
    | cons c r => exact ⟨c, r, rfl⟩
  refine ⟨_, rfl, fg, 0, c0, rfl, rfl, by rw [str_len, hf]; exact Nat.le_of_lt (small1000 (by omega)), at0 (hf.trans hc0), rfl, _, rfl, ?_⟩
  rw [one_eq]
  have fin : (¬ (c0 = 48 ∧ s ≠ "0")) → good s = true := fun hn => by
    rw [good_parts, h3, hc0]
    have l1 : (c0 :: r0).length ≤ 40 := by rw [← hc0]; omega
    rw [decide_eq_true l1]
    by_cases z : c0 = 48
    · have z2 : s = "0" := Classical.not_not.mp fun y => hn ⟨z, y⟩
      rw [decide_eq_true z2]
      simp
    · have z3 : ¬ (c0 :: r0).take 1 = [48] := fun y => z (by simpa using y)
      rw [decide_eq_false z3]
      rfl
  have last : good s = true → (tRet (tCB (fun xs H Q => ∃ a n, xs = [V.str a] ∧ PySem.intText? a = some n ∧ a.length ≤ 640 ∧ Q (.int n) H) (tCons (tVar 0) tNil)) : TS) { nx := fun _ H' => Q .non H', rt := Q } [some (.str s), some (.str fg)] H1 := fun hg => by
    obtain ⟨n, h1, h2, h3⟩ := txt_good hg
    exact ⟨_, rfl, s, n, rfl, h1, by rw [str_len]; omega, q n H1 h2 s1⟩
  by_cases z : c0 = 48
  · rw [decide_eq_true z]
    refine iteT ⟨_, rfl, rfl, _, rfl, ?_⟩
    by_cases z2 : s = "0"
    · rw [str_eq z2]
      exact iteF (last (fin fun y => y.2 z2))
    · rw [str_ne z2]
      refine iteT ⟨_, rfl, .str s, rfl, fun d hd => bad H1 s1 (fun hg => ?_) d hd⟩
      rw [good_parts, hc0, z] at hg
      simp only [Bool.and_eq_true] at hg
      have g4 := hg.2
      rw [decide_eq_false z2] at g4
      cases g4
  · rw [decide_eq_false z]
    exact iteF (last (fin fun y => z y.1))
theorem scValueOf : FnScope ["name", "names", "arguments", "at"] ["name", "names", "arguments"] (defScope sValueOf) := ⟨rfl, rfl, rfl, by decide +kernel, rfl, by decide +kernel, by decide +kernel⟩
def spValueOf (K : PySem.W.Frag) : Sp := fun vs H Q _ => ∃ (x : Str) (b g : Addr) (bs : List (Str × Str)) (gs : List Str), vs = [.str x, .ref b, .ref g] ∧ NmOk x ∧ HeldAt K H b g bs gs ∧ Q (.str (held bs gs x)) H
theorem cal_value_of (Df : Def K mg "value_of" sValueOf ["name", "names", "arguments"]) (T : Bt mg) : Cal P w K mg base CX0 1 "value_of" ["name", "names", "arguments"] (spValueOf K) := by
  refine Df.cal fun f fd F => F.ok scValueOf (fun vs H Q E ⟨s, _, _, _, _, e, _⟩ => by rw [e]; rfl) fun cdv A outer st H vs Q E hr h => ?_
  obtain ⟨x, b, g, bs, gs, rfl, nm, hh, q⟩ := h
  refine ⟨_, pss_cons (ps_if (pt_cmpR op_notIn_sign (pe_ix ix_str (pv 0) pe_int (fun _ _ => rfl)) pe_str rfl) (pss_one (ps_ret (pe_dget2 (hu_of hr) (pv 1) (pv 0) pe_str ⟨rfl, rfl, rfl, rfl⟩))) pss_nil)
    (pss_cons (ps_set (i := 3) scValueOf.nd rfl (.inl rfl) (pe_op op_sub (pe_callTy call_int_str (by rfl) T.int (by decide +kernel) (pa_cons (pv 0) pa_nil)) pe_int))
    (pss_one (ps_ret (pe_ifExp (pt_cmpR op_lt (pv 3) (pe_callB call_len_seq (by rfl) T.len PySem.boot_len (pa_cons (pv 2) pa_nil)) (nomark _)) (pe_ix ix_list (pv 2) (pv 3) (fun _ _ => rfl)) pe_str)))), ?_⟩
  obtain ⟨c, r, hc⟩ := nm.ne
  have l := nm.len
  rw [size_len] at l
  refine ⟨_, rfl, x, 0, c, rfl, rfl, by rw [str_len]; exact Nat.le_of_lt (small1000 (by omega)), at0 hc, c, PD, rfl, rfl, _, rfl, ?_⟩
  by_cases hp : c ∈ PD.cps.toList
  · rw [decide_eq_true hp]
    obtain ⟨k, hk, h1⟩ := place_num nm hc hp
    rw [held_place hc hp hk] at q
    refine iteF ⟨_, rfl, x, k, rfl, hk, by rw [str_len]; omega, _, _, rfl, rfl, ?_⟩
    refine ⟨_, rfl, _, rfl, g, _, rfl, .inl hh.given, _, _, rfl, rfl, _, rfl, ?_⟩
    rw [List.length_map]
    refine ite2 (fun e => ?_) (fun e => ?_)
    · have e := of_decide_eq_true e
      have hlt : (k - 1).toNat < gs.length := by omega
      have eq : gs.getD (k - 1).toNat "" = gs[(k - 1).toNat] := by rw [List.getD_eq_getElem?_getD, List.getElem?_eq_getElem hlt]; rfl
      rw [eq] at q
      refine ⟨_, rfl, _, rfl, g, _, _, _, rfl, rfl, hh.given, at_of (j := (k - 1).toNat) (by omega) (by rw [List.getElem?_map, List.getElem?_eq_getElem hlt]; rfl), ?_⟩
      exact q
    · have e := of_decide_eq_false (Bool.eq_false_iff.mpr e)
      have hge : gs.length ≤ (k - 1).toNat := by omega
      have eq : gs.getD (k - 1).toNat "" = "" := by rw [List.getD_eq_getElem?_getD, List.getElem?_eq_none hge]; rfl
      rw [eq] at q
      exact q
  · rw [decide_eq_false hp]
    rw [held_name hc hp] at q
    refine iteT ⟨_, rfl, b, rfl, .inl ⟨_, .inl hh.book⟩, _, rfl, valV (bookK bs) (Sum.inr x), .inl ⟨_, _, .inl hh.book, rfl, rfl⟩, ?_⟩
    rw [bookV_is]
    exact q
theorem scBounded : FnScope ["tree", "number"] ["tree", "number"] (defScope sBounded) := ⟨rfl, rfl, rfl, by decide +kernel, rfl, by decide +kernel, by decide +kernel⟩
def spBounded (CG : Addr) : Sp := fun vs H Q E => ∃ (v : V) (z : Int), vs = [v, .int z] ∧ (¬ Big z → Q (.int z) H) ∧ (Big z → ∀ d H', ErrAt H H' d v → E (.ref CG) d H')
theorem cal_bounded (Df : Def K mg "bounded" sBounded ["tree", "number"]) (T : Bt mg) (X : Ec P K mg D fI cc cd CN CG CZ) : Cal P w K mg base (L2.CX P w) 2 "bounded" ["tree", "number"] (spBounded CG) := by
  refine Df.cal fun f fd F => F.okX scBounded (fun vs H Q E ⟨s, _, e, _⟩ => by rw [e]; rfl) fun cdv A outer st H vs Q E hr h => ?_
  obtain ⟨v, z, rfl, q, qe⟩ := h
  refine ⟨_, pss_cons (ps_if (pt_cmpR op_ge (pe_callB call_abs (by rfl) T.abs (by decide +kernel) (pa_cons (pv 1) pa_nil)) (pe_op op_pow pe_int pe_int) (nomark _)) (pss_one (ps_raiseErr rfl X.great hr (takes_of rfl rfl rfl rfl) (pa_cons (pv 0) pa_nil))) pss_nil)
    (pss_one (ps_ret (pv 1))), ?_⟩
  refine ⟨_, rfl, z, rfl, _, _, rfl, rfl, ⟨by decide, by decide, by decide⟩, _, _, rfl, rfl, _, rfl, ?_⟩
  show if decide ((10 : Int) ^ 40 ≤ (if z < 0 then -z else z)) = true then _ else _
  refine ite2 (fun e => ?_) (fun e => ?_)
  · have e : Big z := of_decide_eq_true e
    exact ⟨_, rfl, v, rfl, fun d hd => qe e _ _ (err_at (Same.refl _) hd)⟩
  · have e : ¬ Big z := of_decide_eq_false (Bool.eq_false_iff.mpr e)
    exact ⟨_, rfl, q e⟩
theorem scQuotient : FnScope ["tree", "first", "second", "whole"] ["tree", "first", "second"] (defScope sQuotient) := ⟨rfl, rfl, rfl, by decide +kernel, rfl, by decide +kernel, by decide +kernel⟩
def spQuotient (CZ : Addr) : Sp := fun vs H Q E => ∃ (v : V) (x y : Int), vs = [v, .int x, .int y] ∧ small y ∧ (y ≠ 0 → Q (.int (quo x y)) H) ∧ (y = 0 → ∀ d H', ErrAt H H' d v → E (.ref CZ) d H')
theorem int_ne {x y : Int} (h : x ≠ y) : decide (V.int x = V.int y) = false := decide_eq_false fun e => h (V.int.inj e)
theorem int_eq {x y : Int} (h : x = y) : decide (V.int x = V.int y) = true := decide_eq_true (by rw [h])
theorem abs_small {y : Int} (h : small y) : (if y < 0 then -y else y).natAbs < 2 ^ 133 := by
  have := small_abs h
  split <;> omega
theorem cal_quotient (Df : Def K mg "quotient" sQuotient ["tree", "first", "second"]) (T : Bt mg) (X : Ec P K mg D fI cc cd CN CG CZ) : Cal P w K mg base (L2.CX P w) 2 "quotient" ["tree", "first", "second"] (spQuotient CZ) := by
  refine Df.cal fun f fd F => F.okX scQuotient (fun vs H Q E ⟨s, _, _, e, _⟩ => by rw [e]; rfl) fun cdv A outer st H vs Q E hr h => ?_
  obtain ⟨v, x, y, rfl, sy, q, qe⟩ := h
  refine ⟨_, pss_cons (ps_if (pt_cmpR op_eq (pv 2) pe_int (nomark _)) (pss_one (ps_raiseErr rfl X.zero hr (takes_of rfl rfl rfl rfl) (pa_cons (pv 0) pa_nil))) pss_nil)
    (pss_cons (ps_set (i := 3) scQuotient.nd rfl (.inl rfl) (pe_op op_fdivW (pe_callB call_abs (by rfl) T.abs (by decide +kernel) (pa_cons (pv 1) pa_nil)) (pe_callB call_abs (by rfl) T.abs (by decide +kernel) (pa_cons (pv 2) pa_nil))))
    (pss_one (ps_ret (pe_ifExp (pt_cmpR op_eq (pe_cmpR op_lt (pv 1) pe_int (nomark _)) (pe_cmpR op_lt (pv 2) pe_int (nomark _)) (nomark _)) (pv 3) (pe_un un_neg (pv 3)))))), ?_⟩
  refine ⟨_, rfl, rfl, _, rfl, ?_⟩
  by_cases e : y = 0
  · rw [int_eq e]
    exact iteT ⟨_, rfl, v, rfl, fun d hd => qe e _ _ (err_at (Same.refl _) hd)⟩
  rw [int_ne e]
  have hpos : 0 < (if y < 0 then -y else y) := by split <;> omega
  refine iteF ⟨_, rfl, x, rfl, _, rfl, y, rfl, _, _, rfl, rfl, wide_div hpos (abs_small sy) (by decide) (by decide), ?_⟩
  refine ⟨_, rfl, _, _, rfl, rfl, _, rfl, _, _, rfl, rfl, rfl, _, rfl, ?_⟩
  have q := q e
  unfold quo at q
  by_cases e2 : decide (x < 0) = decide (y < 0)
  · rw [if_pos e2] at q
    rw [decide_eq_true (show V.bl (decide (x < 0)) = V.bl (decide (y < 0)) by rw [e2])]
    exact iteT ⟨_, rfl, q⟩
  · rw [if_neg e2] at q
    rw [decide_eq_false (show ¬ V.bl (decide (x < 0)) = V.bl (decide (y < 0)) from fun z => e2 (V.bl.inj z))]
    exact iteF ⟨_, rfl, _, rfl, q⟩
end
end K19
namespace K19
open PySem L2 K19R
abbrev sSumValue : Stmt := topS 31
abbrev sWorkedOut : Stmt := topS 32
theorem tc_take {ks : List Str} {t : TS} {r : List (List Str × TS)} {z : Str} {D : Ends} {σ : L2.St} {H : Hp} (h : z ∈ ks) (q : t D σ H) : tCases ((ks, t) :: r) z D σ H := by
  show if z ∈ ks then t D σ H else tCases r z D σ H
  rw [if_pos h]
  exact q
theorem tc_skip {ks : List Str} {t : TS} {r : List (List Str × TS)} {z : Str} {D : Ends} {σ : L2.St} {H : Hp} (h : z ∉ ks) (q : tCases r z D σ H) : tCases ((ks, t) :: r) z D σ H := by
  show if z ∈ ks then t D σ H else tCases r z D σ H
  rw [if_neg h]
  exact q
theorem int_dec (x y : Int) : decide (V.int x = V.int y) = decide (x = y) := by
  by_cases h : x = y
  · rw [int_eq h, decide_eq_true h]
  · rw [int_ne h, decide_eq_false h]
def isCmp : BK → Bool
  | .lt => true | .le => true | .gt => true | .ge => true | .eq => true | .ne => true | _ => false
section
variable {P : Program} {w : World} {K : PySem.W.Frag} {mg : Str → Option Value} {base : Heap} {D fI cc cd CN CG CZ : Addr}
theorem scCompared : FnScope ["sign", "first", "second"] ["sign", "first", "second"] (defScope sCompared) := ⟨rfl, rfl, rfl, by decide +kernel, rfl, by decide +kernel, by decide +kernel⟩
def spCompared : Sp := fun vs H Q _ => ∃ (k : BK) (x y : Int), vs = [.str k.str, .int x, .int y] ∧ isCmp k = true ∧ Q (.int (calcB k x y)) H
theorem cal_compared (Df : Def K mg "compared" sCompared ["sign", "first", "second"]) (T : Bt mg) : Cal P w K mg base CX0 1 "compared" ["sign", "first", "second"] spCompared := by
  refine Df.cal fun f fd F => F.ok scCompared (fun vs H Q E ⟨s, _, _, e, _⟩ => by rw [e]; rfl) fun cdv A outer st H vs Q E hr h => ?_
  obtain ⟨k, x, y, rfl, hk, q⟩ := h
  refine ⟨_, pss_cons (ps_match (pv 0)
      (mc_cons pat_val (pss_one (ps_ret (pe_callTy call_int1 (by rfl) T.int (by decide +kernel) (pa_cons (pe_cmpR op_lt (pv 1) (pv 2) (nomark _)) pa_nil))))
      (mc_cons pat_val (pss_one (ps_ret (pe_callTy call_int1 (by rfl) T.int (by decide +kernel) (pa_cons (pe_cmpR op_le (pv 1) (pv 2) (nomark _)) pa_nil))))
      (mc_cons pat_val (pss_one (ps_ret (pe_callTy call_int1 (by rfl) T.int (by decide +kernel) (pa_cons (pe_cmpR op_gt (pv 1) (pv 2) (nomark _)) pa_nil))))
      (mc_cons pat_val (pss_one (ps_ret (pe_callTy call_int1 (by rfl) T.int (by decide +kernel) (pa_cons (pe_cmpR op_ge (pv 1) (pv 2) (nomark _)) pa_nil))))
      (mc_cons pat_val (pss_one (ps_ret (pe_callTy call_int1 (by rfl) T.int (by decide +kernel) (pa_cons (pe_cmpR op_eq (pv 1) (pv 2) (nomark _)) pa_nil)))) mc_nil))))))
    (pss_one (ps_ret (pe_callTy call_int1 (by rfl) T.int (by decide +kernel) (pa_cons (pe_cmpR op_ne (pv 1) (pv 2) (nomark _)) pa_nil)))), ?_⟩
  refine ⟨_, rfl, k.str, rfl, ?_⟩
  cases k with
  | lt => exact tc_take (by decide) ⟨_, rfl, _, rfl, _, _, rfl, rfl, .inr ⟨_, rfl, q⟩⟩
  | le => exact tc_skip (by decide) (tc_take (by decide) ⟨_, rfl, _, rfl, _, _, rfl, rfl, .inr ⟨_, rfl, q⟩⟩)
  | gt => exact tc_skip (by decide) (tc_skip (by decide) (tc_take (by decide) ⟨_, rfl, _, rfl, _, _, rfl, rfl, .inr ⟨_, rfl, q⟩⟩))
  | ge => exact tc_skip (by decide) (tc_skip (by decide) (tc_skip (by decide) (tc_take (by decide) ⟨_, rfl, _, rfl, _, _, rfl, rfl, .inr ⟨_, rfl, q⟩⟩)))
  | eq =>
    refine tc_skip (by decide) (tc_skip (by decide) (tc_skip (by decide) (tc_skip (by decide) (tc_take (by decide) ⟨_, rfl, _, rfl, rfl, .inr ⟨_, rfl, ?_⟩⟩))))
    rw [int_dec]
    exact q
  | ne =>
    refine tc_skip (by decide) (tc_skip (by decide) (tc_skip (by decide) (tc_skip (by decide) (tc_skip (by decide) ⟨_, rfl, _, rfl, rfl, .inr ⟨_, rfl, ?_⟩⟩))))
    rw [int_dec]
    exact q
  | _ => cases hk
theorem quo_abs {x y : Int} (h : small x) : (quo x y).natAbs < 2 ^ 133 := by
  have h := small_abs h
  have e : ∀ a b : Int, 0 ≤ a → 0 ≤ b → (a / b).natAbs ≤ a.natAbs := fun a b h1 h2 => by
    have := Int.ediv_le_self b h1
    have := Int.ediv_nonneg h1 h2
    omega
  have h3 := e (if x < 0 then -x else x) (if y < 0 then -y else y) (by split <;> omega) (by split <;> omega)
  have h4 : (if x < 0 then -x else x).natAbs = x.natAbs := by split <;> omega
  unfold quo
  split
  · omega
  · rw [Int.natAbs_neg]
    omega
theorem scJoined : FnScope ["tree", "first", "second"] ["tree", "first", "second"] (defScope sJoinedValue) := ⟨rfl, rfl, rfl, by decide +kernel, rfl, by decide +kernel, by decide +kernel⟩
def spJoined (CZ : Addr) : Sp := fun vs H Q E => ∃ (a : Addr) (k : BK) (ws : List V) (x y : Int), vs = [.ref a, .int x, .int y] ∧ H a = some (.tup (.str k.str :: ws)) ∧ small x ∧ small y ∧
  (¬ (isDiv k = true ∧ y = 0) → Q (.int (calcB k x y)) H) ∧ (isDiv k = true ∧ y = 0 → ∀ d H', ErrAt H H' d (.ref a) → E (.ref CZ) d H')
theorem cal_joined (Df : Def K mg "joined_value" sJoinedValue ["tree", "first", "second"]) (T : Bt mg) (C1 : Cal P w K mg base (L2.CX P w) 2 "quotient" ["tree", "first", "second"] (spQuotient CZ)) (C2 : Cal P w K mg base CX0 1 "compared" ["sign", "first", "second"] spCompared) :
    Cal P w K mg base (L2.CX P w) 3 "joined_value" ["tree", "first", "second"] (spJoined CZ) := by
  refine Df.cal fun f fd F => F.okX scJoined (fun vs H Q E ⟨_, _, _, _, _, e, _⟩ => by rw [e]; rfl) fun cdv A outer st H vs Q E hr h => ?_
  obtain ⟨g1, d1, G1, m1, k1, b1⟩ := C1
  obtain ⟨g2, d2, G2, m2, k2, b2⟩ := C2
  have hr1 : Room 1 _ := hr.mono (by decide)
  obtain ⟨a, k, ws, x, y, rfl, ha, sx, sy, q, qe⟩ := h
  refine ⟨_, pss_cons (ps_match (pe_ix ix_tup (pv 0) pe_int (fun _ _ => rfl))
      (mc_cons pat_val (pss_one (ps_ret (pe_op op_add (pv 1) (pv 2))))
      (mc_cons pat_val (pss_one (ps_ret (pe_op op_sub (pv 1) (pv 2))))
      (mc_cons pat_val (pss_one (ps_ret (pe_op op_mulW (pv 1) (pv 2))))
      (mc_cons pat_val (pss_one (ps_ret (pe_call G1 hr rfl m1 k1 b1 .nil (passes_call (E := E) (takes_of rfl rfl rfl rfl) (fun _ _ _ _ h => h)) (pa_cons (pv 0) (pa_cons (pv 1) (pa_cons (pv 2) pa_nil))))))
      (mc_cons pat_val (pss_one (ps_ret (pe_op op_sub (pv 1) (pe_op op_mulW (pv 2) (pe_call G1 hr rfl m1 k1 b1 .nil (passes_call (E := E) (takes_of rfl rfl rfl rfl) (fun _ _ _ _ h => h)) (pa_cons (pv 0) (pa_cons (pv 1) (pa_cons (pv 2) pa_nil))))))))
      (mc_cons (pat_or2 pat_val pat_val) (pss_one (ps_ret (pe_callTy call_int1 (by rfl) T.int (by decide +kernel) (pa_cons (pe_cmpR op_ne (pv 2) pe_int (nomark _)) pa_nil)))) mc_nil)))))))
    (pss_one (ps_ret (pe_call G2 hr1 rfl m2 k2 b2 .nil pass0 (pa_cons (pe_ix ix_tup (pv 0) pe_int (fun _ _ => rfl)) (pa_cons (pv 1) (pa_cons (pv 2) pa_nil)))))), ?_⟩
  have at0 : atI (V.str k.str :: ws) 0 = some (V.str k.str) := atI_nat (j := 0) rfl
  refine ⟨_, rfl, a, _, _, _, rfl, rfl, SqT.of ha, at0, k.str, rfl, ?_⟩
  have cmp : isCmp k = true → ¬ (isDiv k = true ∧ y = 0) → (tRet (tCall spCompared [] E0 (tCons (tOp (rIxT K) (tVar 0) (tC (.int 0))) (tCons (tVar 1) (tCons (tVar 2) tNil)))) : TS) { nx := fun _ H' => Q .non H', rt := Q } [some (.ref a), some (.int x), some (.int y)] H := fun hc hn =>
    ⟨_, rfl, a, _, _, _, rfl, rfl, SqT.of ha, at0, _, rfl, _, rfl, k, x, y, rfl, hc, q hn⟩
  have land : ∀ {hn : ¬ (isDiv k = true ∧ y = 0)}, calcB k x y = K19.b1 (!decide (y = 0)) → Q (.int (if (!decide (V.int y = V.int 0)) = true then 1 else 0)) H := fun {hn} e => by
    rw [int_dec]
    have q := q hn
    rw [e] at q
    exact q
  cases k with
  | add => exact tc_take (by decide) ⟨_, rfl, _, rfl, _, _, rfl, rfl, q fun z => by cases z.1⟩
  | sub => exact tc_skip (by decide) (tc_take (by decide) ⟨_, rfl, _, rfl, _, _, rfl, rfl, q fun z => by cases z.1⟩)
  | mul => exact tc_skip (by decide) (tc_skip (by decide) (tc_take (by decide) ⟨_, rfl, _, rfl, _, _, rfl, rfl, wide_mul (small_abs sx) (small_abs sy) (by decide) (by decide) (by decide), q fun z => by cases z.1⟩))
  | div =>
    refine tc_skip (by decide) (tc_skip (by decide) (tc_skip (by decide) (tc_take (by decide) ⟨_, rfl, _, rfl, _, rfl, .ref a, x, y, rfl, sy, fun hy => q fun z => hy z.2, fun hy d H' h => qe ⟨rfl, hy⟩ d H' h⟩)))
  | pow =>
    refine tc_skip (by decide) (tc_skip (by decide) (tc_skip (by decide) (tc_skip (by decide) (tc_take (by decide) ⟨_, rfl, _, rfl, _, rfl, _, rfl, _, rfl, .ref a, x, y, rfl, sy, fun hy => ?_, fun hy d H' h => qe ⟨rfl, hy⟩ d H' h⟩))))
    exact ⟨_, _, rfl, rfl, wide_mul (small_abs sy) (quo_abs sx) (by decide) (by decide) (by decide), _, _, rfl, rfl, q fun z => hy z.2⟩
  | and => exact tc_skip (by decide) (tc_skip (by decide) (tc_skip (by decide) (tc_skip (by decide) (tc_skip (by decide) (tc_take (by decide) ⟨_, rfl, rfl, .inr ⟨_, rfl, land (hn := fun z => by cases z.1) rfl⟩⟩)))))
  | or => exact tc_skip (by decide) (tc_skip (by decide) (tc_skip (by decide) (tc_skip (by decide) (tc_skip (by decide) (tc_take (by decide) ⟨_, rfl, rfl, .inr ⟨_, rfl, land (hn := fun z => by cases z.1) rfl⟩⟩)))))
  | lt => exact tc_skip (by decide) (tc_skip (by decide) (tc_skip (by decide) (tc_skip (by decide) (tc_skip (by decide) (tc_skip (by decide) (cmp rfl fun z => by cases z.1))))))
  | le => exact tc_skip (by decide) (tc_skip (by decide) (tc_skip (by decide) (tc_skip (by decide) (tc_skip (by decide) (tc_skip (by decide) (cmp rfl fun z => by cases z.1))))))
  | gt => exact tc_skip (by decide) (tc_skip (by decide) (tc_skip (by decide) (tc_skip (by decide) (tc_skip (by decide) (tc_skip (by decide) (cmp rfl fun z => by cases z.1))))))
  | ge => exact tc_skip (by decide) (tc_skip (by decide) (tc_skip (by decide) (tc_skip (by decide) (tc_skip (by decide) (tc_skip (by decide) (cmp rfl fun z => by cases z.1))))))
  | eq => exact tc_skip (by decide) (tc_skip (by decide) (tc_skip (by decide) (tc_skip (by decide) (tc_skip (by decide) (tc_skip (by decide) (cmp rfl fun z => by cases z.1))))))
  | ne => exact tc_skip (by decide) (tc_skip (by decide) (tc_skip (by decide) (tc_skip (by decide) (tc_skip (by decide) (tc_skip (by decide) (cmp rfl fun z => by cases z.1))))))
/-! ### sum_value -/
theorem SumAt.kid {n : Nat} {H : Hp} {v w : V} {t u : T} (h : SumAt (n + 1) H v t) (m : u ∈ kids t) (a : TreeAt H w u) : SumAt n H w u := by
  have d := kid_depth m
  have d2 := h.dep
  exact ⟨a, kid_nums m h.nums, kid_namesOk m h.nms, by omega⟩
/-- what an error is, in H' -/
def ErrIs (CN CG CZ : Addr) (H H' : Hp) : Er → Value → Option Addr → Prop
  | .noInt s, cls, d => cls = .ref CN ∧ ErrAt H H' d (.str s)
  | .great t, cls, d => cls = .ref CG ∧ ∃ v, TreeAt H v t ∧ ErrAt H H' d v
  | .zero t, cls, d => cls = .ref CZ ∧ ∃ v, TreeAt H v t ∧ ErrAt H H' d v
theorem ErrAt.since {H0 H H' : Hp} {d : Option Addr} {v : V} (s : Same H0 H) (h : ErrAt H H' d v) : ErrAt H0 H' d v := ⟨s.trans h.1, h.2⟩
def spSum (K : PySem.W.Frag) (CN CG CZ : Addr) (n : Nat) : Sp := fun vs H Q E => ∃ (v : V) (t : T) (b g : Addr) (bs : List (Str × Str)) (gs : List Str), vs = [v, .ref b, .ref g] ∧ SumAt n H v t ∧ HeldAt K H b g bs gs ∧
  (∀ z H', ev (held bs gs) t = .ok z → Same H H' → Q (.int z) H') ∧ (∀ e cls d H1 H', ev (held bs gs) t = .error e → Same H H1 → ErrIs CN CG CZ H1 H' e cls d → E cls d H')
theorem scSumValue : FnScope ["tree", "names", "arguments", "kind", "first"] ["tree", "names", "arguments"] (defScope sSumValue) := ⟨rfl, rfl, rfl, by decide +kernel, rfl, by decide +kernel, by decide +kernel⟩
theorem cal_sum_value (Df : Def K mg "sum_value" sSumValue ["tree", "names", "arguments"]) (T : Bt mg) (C1 : Cal P w K mg base (L2.CX P w) 2 "bounded" ["tree", "number"] (spBounded CG)) (C2 : Cal P w K mg base (L2.CX P w) 3 "integer_of" ["text"] (spIntegerOf CN))
    (C3 : Cal P w K mg base CX0 1 "value_of" ["name", "names", "arguments"] (spValueOf K)) (C4 : Cal P w K mg base (L2.CX P w) 3 "joined_value" ["tree", "first", "second"] (spJoined CZ)) (n : Nat) :
    Cal P w K mg base (L2.CX P w) (n + 3) "sum_value" ["tree", "names", "arguments"] (spSum K CN CG CZ n) := by
  refine Df.cals (fun vs H Q E ⟨v, t, _, _, _, _, e, h, _⟩ => h.no) (fun n f fd F G m b => ?_) n
  refine F.okX scSumValue (fun vs H Q E ⟨v, t, _, _, _, _, e, _⟩ => by rw [e]; rfl) fun cdv A outer st H vs Q E hr h => ?_
  obtain ⟨g1, d1, G1, m1, k1, b1'⟩ := C1
  obtain ⟨g2, d2, G2, m2, k2, b2⟩ := C2
  obtain ⟨g3, d3, G3, m3, k3, b3⟩ := C3
  obtain ⟨g4, d4, G4, m4, k4, b4⟩ := C4
  have hr1 : Room 1 _ := hr.mono (by omega)
  have hr2 : Room 2 _ := hr.mono (by omega)
  have hr3 : Room 3 _ := hr.mono (by omega)
  obtain ⟨v, t, bA, gA, bs, gs, rfl, hs, hh, q, qe⟩ := h
  refine ⟨_, pss_cons (ps_set (i := 3) scSumValue.nd rfl (.inl rfl) (pe_ix ix_tup (pv 0) pe_int (fun _ _ => rfl)))
    (pss_cons (ps_if (pt_cmpR op_eq (pv 3) pe_str (nomark _)) (pss_one (ps_ret (pe_call G1 hr2 rfl m1 k1 b1' .nil (passes_call (E := E) (takes_of rfl rfl rfl rfl) (fun _ _ _ _ h => h)) (pa_cons (pv 0) (pa_cons (pe_ix ix_tup (pv 0) pe_int (fun _ _ => rfl)) pa_nil))))) pss_nil)
    (pss_cons (ps_if (pt_cmpR op_eq (pv 3) pe_str (nomark _)) (pss_one (ps_ret (pe_call G2 hr3 rfl m2 k2 b2 .nil (passes_call (E := E) (takes_of rfl rfl rfl rfl) (fun _ _ _ _ h => h)) (pa_cons (pe_call G3 hr1 rfl m3 k3 b3 .nil pass0 (pa_cons (pe_ix ix_tup (pv 0) pe_int (fun _ _ => rfl)) (pa_cons (pv 1) (pa_cons (pv 2) pa_nil)))) pa_nil)))) pss_nil)
    (pss_cons (ps_set (i := 4) scSumValue.nd rfl (.inl rfl) (pe_call G hr rfl m F.kp b .nil (passes_call (E := E) (takes_of rfl rfl rfl rfl) (fun _ _ _ _ h => h)) (pa_cons (pe_ix ix_tup (pv 0) pe_int (fun _ _ => rfl)) (pa_cons (pv 1) (pa_cons (pv 2) pa_nil)))))
    (pss_cons (ps_if (pt_cmpR op_eq (pv 3) pe_str (nomark _)) (pss_one (ps_ret (pe_un un_neg (pv 4)))) pss_nil)
    (pss_cons (ps_if (pt_cmpR op_eq (pv 3) pe_str (nomark _)) (pss_one (ps_ret (pe_callTy call_int1 (by rfl) T.int (by decide +kernel) (pa_cons (pe_cmpR op_eq (pv 4) pe_int (nomark _)) pa_nil)))) pss_nil)
    (pss_cons (ps_if (pt_cmpR op_eq (pv 3) pe_str (nomark _)) (pss_one (ps_ret (pe_call G hr rfl m F.kp b .nil (passes_call (E := E) (takes_of rfl rfl rfl rfl) (fun _ _ _ _ h => h)) (pa_cons (pe_ifExp (pt_cmpR op_ne (pv 4) pe_int (nomark _)) (pe_ix ix_tup (pv 0) pe_int (fun _ _ => rfl)) (pe_ix ix_tup (pv 0) pe_int (fun _ _ => rfl))) (pa_cons (pv 1) (pa_cons (pv 2) pa_nil)))))) pss_nil)
    (pss_cons (ps_if (PW.pt (pw_and (pt_cmpR op_eq (pv 3) pe_str (nomark _)) (pw_and1 (pt_cmpR op_eq (pv 4) pe_int (nomark _))))) (pss_one (ps_ret pe_int)) pss_nil)
    (pss_cons (ps_if (PW.pt (pw_and (pt_cmpR op_eq (pv 3) pe_str (nomark _)) (pw_and1 (pt_cmpR op_ne (pv 4) pe_int (nomark _))))) (pss_one (ps_ret pe_int)) pss_nil)
    (pss_one (ps_ret (pe_call G1 hr2 rfl m1 k1 b1' .nil (passes_call (E := E) (takes_of rfl rfl rfl rfl) (fun _ _ _ _ h => h)) (pa_cons (pv 0) (pa_cons (pe_call G4 hr3 rfl m4 k4 b4 .nil (passes_call (E := E) (takes_of rfl rfl rfl rfl) (fun _ _ _ _ h => h))
      (pa_cons (pv 0) (pa_cons (pv 4) (pa_cons (pe_call G hr rfl m F.kp b .nil (passes_call (E := E) (takes_of rfl rfl rfl rfl) (fun _ _ _ _ h => h)) (pa_cons (pe_ix ix_tup (pv 0) pe_int (fun _ _ => rfl)) (pa_cons (pv 1) (pa_cons (pv 2) pa_nil)))) pa_nil)))) pa_nil))))))))))))), ?_⟩
  rcases leaf_or t with ⟨z, rfl⟩ | ⟨x, rfl⟩ | it
  · obtain ⟨a, rfl, ha⟩ := hs.at_
    refine ⟨_, rfl, a, _, _, _, rfl, rfl, SqT.of ha, atI_nat (j := 0) rfl, _, rfl, rfl, _, rfl, ?_⟩
    rw [str_eq (show ("number" : Str) = "number" from rfl)]
    refine iteT ⟨_, rfl, _, rfl, a, _, _, _, rfl, rfl, SqT.of ha, atI_nat (j := 1) rfl, .ref a, z, rfl, fun _ => q z _ rfl (Same.refl _), fun hb => ?_⟩
    have h1 := hs.nums.1
    have h2 := hs.nums.2
    exact absurd hb ((small_iff (z := z)).mpr ⟨by omega, h2⟩)
  · obtain ⟨a, rfl, ha⟩ := hs.at_
    have nm := hs.nms x (List.mem_singleton.mpr rfl)
    refine ⟨_, rfl, a, _, _, _, rfl, rfl, SqT.of ha, atI_nat (j := 0) rfl, _, rfl, rfl, _, rfl, ?_⟩
    rw [str_ne (show ("of" : Str) ≠ "number" by decide)]
    refine iteF ⟨_, rfl, rfl, _, rfl, ?_⟩
    rw [str_eq (show ("of" : Str) = "of" from rfl)]
    refine iteT ⟨_, rfl, a, _, _, _, rfl, rfl, SqT.of ha, atI_nat (j := 1) rfl, _, rfl, _, rfl, x, bA, gA, bs, gs, rfl, nm, hh, held bs gs x, rfl, held_len hh.ok x, fun z H' h s => q z H' (by simp only [ev, h]) s, fun d H' h he => qe (.noInt (held bs gs x)) _ d H H' (by simp only [ev, h]) (Same.refl _) ⟨rfl, he⟩⟩
  · cases t with
    | num z => exact it.elim
    | of x => exact it.elim
    | un k t1 =>
      obtain ⟨a, w1, rfl, ha, h1⟩ := hs.at_
      have c1 : SumAt n H w1 t1 := hs.kid (show t1 ∈ kids (.un k t1) by simp [kids]) h1
      refine ⟨_, rfl, a, _, _, _, rfl, rfl, SqT.of ha, atI_nat (j := 0) rfl, _, rfl, rfl, _, rfl, ?_⟩
      rw [str_ne (show k.str ≠ "number" from kind_num (t := .un k t1) trivial)]
      refine iteF ⟨_, rfl, rfl, _, rfl, ?_⟩
      rw [str_ne (show k.str ≠ "of" from kind_of (t := .un k t1) trivial)]
      refine iteF ⟨_, rfl, a, _, _, _, rfl, rfl, SqT.of ha, atI_nat (j := 1) rfl, _, rfl, _, rfl, w1, t1, bA, gA, bs, gs, rfl, c1, hh, fun z H1 hz s1 => ?_, fun e cls d H1 H' he s1 hE => qe e cls d H1 H' (by simp only [ev, he]) s1 hE⟩
      refine ⟨_, rfl, rfl, _, rfl, ?_⟩
      cases k with
      | minus =>
        rw [str_eq (show UK.minus.str = "minus" from rfl)]
        exact iteT ⟨_, rfl, _, rfl, q (-z) H1 (by simp only [ev, hz, una]) s1⟩
      | no =>
        rw [str_ne (show UK.no.str ≠ "minus" by decide)]
        refine iteF ⟨_, rfl, rfl, _, rfl, ?_⟩
        rw [str_eq (show UK.no.str = "no" from rfl)]
        refine iteT ⟨_, rfl, rfl, .inr ⟨_, rfl, ?_⟩⟩
        rw [int_dec]
        exact q _ H1 (by simp only [ev, hz, una]; rfl) s1
    | cho t1 t2 t3 =>
      obtain ⟨a, w1, w2, w3, rfl, ha, h1, h2, h3⟩ := hs.at_
      have c1 : SumAt n H w1 t1 := hs.kid (show t1 ∈ kids (.cho t1 t2 t3) by simp [kids]) h1
      have c2 : SumAt n H w2 t2 := hs.kid (show t2 ∈ kids (.cho t1 t2 t3) by simp [kids]) h2
      have c3 : SumAt n H w3 t3 := hs.kid (show t3 ∈ kids (.cho t1 t2 t3) by simp [kids]) h3
      refine ⟨_, rfl, a, _, _, _, rfl, rfl, SqT.of ha, atI_nat (j := 0) rfl, _, rfl, rfl, _, rfl, ?_⟩
      rw [str_ne (show ("choose" : Str) ≠ "number" by decide)]
      refine iteF ⟨_, rfl, rfl, _, rfl, ?_⟩
      rw [str_ne (show ("choose" : Str) ≠ "of" by decide)]
      refine iteF ⟨_, rfl, a, _, _, _, rfl, rfl, SqT.of ha, atI_nat (j := 1) rfl, _, rfl, _, rfl, w1, t1, bA, gA, bs, gs, rfl, c1, hh, fun z H1 hz s1 => ?_, fun e cls d H1 H' he s1 hE => qe e cls d H1 H' (by simp only [ev, he]) s1 hE⟩
      refine ⟨_, rfl, rfl, _, rfl, ?_⟩
      rw [str_ne (show ("choose" : Str) ≠ "minus" by decide)]
      refine iteF ⟨_, rfl, rfl, _, rfl, ?_⟩
      rw [str_ne (show ("choose" : Str) ≠ "no" by decide)]
      refine iteF ⟨_, rfl, rfl, _, rfl, ?_⟩
      rw [str_eq (show ("choose" : Str) = "choose" from rfl)]
      refine iteT ⟨_, rfl, rfl, _, rfl, ?_⟩
      rw [int_dec]
      by_cases z0 : z = 0
      · rw [decide_eq_true z0]
        refine iteF ⟨_, rfl, a, _, _, _, rfl, rfl, SqT.of (s1 _ _ ha), atI_nat (j := 3) rfl, _, rfl, _, rfl, w3, t3, bA, gA, bs, gs, rfl, c3.mono s1, hh.mono s1, fun y H2 hy s2 => q y H2 (by rw [cho_ok hz, if_pos z0]; exact hy) (s1.trans s2), fun e cls d H2 H' he s2 hE => qe e cls d H2 H' (by rw [cho_ok hz, if_pos z0]; exact he) (s1.trans s2) hE⟩
      · rw [decide_eq_false z0]
        refine iteT ⟨_, rfl, a, _, _, _, rfl, rfl, SqT.of (s1 _ _ ha), atI_nat (j := 2) rfl, _, rfl, _, rfl, w2, t2, bA, gA, bs, gs, rfl, c2.mono s1, hh.mono s1, fun y H2 hy s2 => q y H2 (by rw [cho_ok hz, if_neg z0]; exact hy) (s1.trans s2), fun e cls d H2 H' he s2 hE => qe e cls d H2 H' (by rw [cho_ok hz, if_neg z0]; exact he) (s1.trans s2) hE⟩
    | bin k t1 t2 =>
      obtain ⟨a, w1, w2, rfl, ha, h1, h2⟩ := hs.at_
      have c1 : SumAt n H w1 t1 := hs.kid (show t1 ∈ kids (.bin k t1 t2) by simp [kids]) h1
      have c2 : SumAt n H w2 t2 := hs.kid (show t2 ∈ kids (.bin k t1 t2) by simp [kids]) h2
      refine ⟨_, rfl, a, _, _, _, rfl, rfl, SqT.of ha, atI_nat (j := 0) rfl, _, rfl, rfl, _, rfl, ?_⟩
      rw [str_ne (show k.str ≠ "number" from kind_num (t := .bin k t1 t2) trivial)]
      refine iteF ⟨_, rfl, rfl, _, rfl, ?_⟩
      rw [str_ne (show k.str ≠ "of" from kind_of (t := .bin k t1 t2) trivial)]
      refine iteF ⟨_, rfl, a, _, _, _, rfl, rfl, SqT.of ha, atI_nat (j := 1) rfl, _, rfl, _, rfl, w1, t1, bA, gA, bs, gs, rfl, c1, hh, fun z H1 hz s1 => ?_, fun e cls d H1 H' he s1 hE => qe e cls d H1 H' (bin_err1 he) s1 hE⟩
      have tail : ¬ short k z = true → (tRet (tCall (spBounded CG) [] E (tCons (tVar 0) (tCons (tCall (spJoined CZ) [] E (tCons (tVar 0) (tCons (tVar 4) (tCons (tCall (spSum K CN CG CZ n) [] E (tCons (tOp (rIxT K) (tVar 0) (tC (.int 2))) (tCons (tVar 1) (tCons (tVar 2) tNil)))) tNil)))) tNil))) : TS)
          { nx := fun _ H' => Q .non H', rt := Q } [some (.ref a), some (.ref bA), some (.ref gA), some (.str k.str), some (.int z)] H1 := fun ns => by
        refine ⟨_, rfl, _, rfl, _, rfl, _, rfl, a, _, _, _, rfl, rfl, SqT.of (s1 _ _ ha), atI_nat (j := 2) rfl, _, rfl, _, rfl, w2, t2, bA, gA, bs, gs, rfl, c2.mono s1, hh.mono s1, fun y H2 hy s2 => ?_, fun e cls d H2 H' he s2 hE => qe e cls d H2 H' (bin_err2 hz ns he) (s1.trans s2) hE⟩
        have sx := val_small (kid_nums (show t1 ∈ kids (.bin k t1 t2) by simp [kids]) hs.nums) hz
        have sy := val_small (kid_nums (show t2 ∈ kids (.bin k t1 t2) by simp [kids]) hs.nums) hy
        have s12 := s1.trans s2
        have ej := bin_join (k := k) hz ns hy
        refine ⟨a, k, _, z, y, rfl, s12 _ _ ha, sx, sy, fun hn => ?_, fun hd d H' he => qe (.zero (.bin k t1 t2)) _ d H2 H' (by rw [ej]; unfold join; rw [if_pos hd]) s12 ⟨rfl, _, hs.at_.mono s12, he⟩⟩
        refine ⟨_, calcB k z y, rfl, fun nb => q _ H2 (by rw [ej]; unfold join bnd; rw [if_neg hn, if_neg nb]) s12, fun hb d H' he => qe (.great (.bin k t1 t2)) _ d H2 H' (by rw [ej]; unfold join bnd; rw [if_neg hn, if_pos hb]) s12 ⟨rfl, _, hs.at_.mono s12, he⟩⟩
      refine ⟨_, rfl, rfl, _, rfl, ?_⟩
      rw [str_ne (show k.str ≠ "minus" by cases k <;> decide)]
      refine iteF ⟨_, rfl, rfl, _, rfl, ?_⟩
      rw [str_ne (show k.str ≠ "no" by cases k <;> decide)]
      refine iteF ⟨_, rfl, rfl, _, rfl, ?_⟩
      rw [str_ne (bk_ne k)]
      refine iteF ⟨_, rfl, rfl, _, rfl, ?_⟩
      by_cases ka : k = .and
      · subst ka
        rw [str_eq (show BK.and.str = "&&" from rfl)]
        refine iteT ⟨_, rfl, rfl, _, rfl, ?_⟩
        rw [int_dec]
        by_cases z0 : z = 0
        · rw [decide_eq_true z0]
          have e : ev (held bs gs) (.bin .and t1 t2) = .ok 0 := by
            rw [bin_short hz (show short .and z = true by rw [z0]; rfl), z0]
            rfl
          exact iteT (q 0 H1 e s1)
        · rw [decide_eq_false z0]
          refine iteF ⟨_, rfl, rfl, _, rfl, ?_⟩
          rw [str_ne (show BK.and.str ≠ "||" by decide)]
          exact iteF (tail (by unfold short; rw [decide_eq_false z0]; simp))
      · rw [str_ne (show k.str ≠ "&&" from fun e => ka (bk_inj (k' := .and) e))]
        refine iteF (iteF ⟨_, rfl, rfl, _, rfl, ?_⟩)
        by_cases ko : k = .or
        · subst ko
          rw [str_eq (show BK.or.str = "||" from rfl)]
          refine iteT ⟨_, rfl, rfl, _, rfl, ?_⟩
          rw [int_dec]
          by_cases z0 : z = 0
          · rw [decide_eq_true z0]
            exact iteF (tail (by unfold short; rw [decide_eq_true z0]; simp))
          · rw [decide_eq_false z0]
            have e : ev (held bs gs) (.bin .or t1 t2) = .ok 1 := by
              rw [bin_short hz (show short .or z = true by unfold short; rw [decide_eq_false z0]; rfl), decide_eq_false z0]
              rfl
            exact iteT (q 1 H1 e s1)
        · rw [str_ne (show k.str ≠ "||" from fun e => ko (bk_inj (k' := .or) e))]
          exact iteF (iteF (tail (by unfold short; rw [decide_eq_false ka, decide_eq_false ko]; simp)))
theorem scWorkedOut : FnScope ["tree", "names", "arguments"] ["tree", "names", "arguments"] (defScope sWorkedOut) := ⟨rfl, rfl, rfl, by decide +kernel, rfl, by decide +kernel, by decide +kernel⟩
theorem cal_worked_out (Df : Def K mg "worked_out" sWorkedOut ["tree", "names", "arguments"]) (C1 : Cal P w K mg base CX0 16 "check_sum" ["tree"] (spCheckSum 12)) (C2 : Cal P w K mg base (L2.CX P w) 15 "sum_value" ["tree", "names", "arguments"] (spSum K CN CG CZ 12)) :
    Cal P w K mg base (L2.CX P w) 17 "worked_out" ["tree", "names", "arguments"] (spSum K CN CG CZ 12) := by
  refine Df.cal fun f fd F => F.okX scWorkedOut (fun vs H Q E ⟨_, _, _, _, _, _, e, _⟩ => by rw [e]; rfl) fun cdv A outer st H vs Q E hr h => ?_
  obtain ⟨g1, d1, G1, m1, k1, b1⟩ := C1
  obtain ⟨g2, d2, G2, m2, k2, b2⟩ := C2
  have hr1 : Room 15 _ := hr.mono (by decide)
  obtain ⟨v, t, bA, gA, bs, gs, rfl, hs, hh, q, qe⟩ := h
  refine ⟨_, pss_cons (ps_expr (pe_call G1 hr rfl m1 k1 b1 .nil pass0 (pa_cons (pv 0) pa_nil)))
    (pss_one (ps_ret (pe_call G2 hr1 rfl m2 k2 b2 .nil (passes_call (E := E) (takes_of rfl rfl rfl rfl) (fun _ _ _ _ h => h)) (pa_cons (pv 0) (pa_cons (pv 1) (pa_cons (pv 2) pa_nil)))))), ?_⟩
  refine ⟨_, rfl, v, t, rfl, hs, fun H1 s1 => ?_⟩
  exact ⟨_, rfl, _, rfl, _, rfl, v, t, bA, gA, bs, gs, rfl, hs.mono s1, hh.mono s1, fun z H2 hz s2 => q z H2 hz (s1.trans s2), fun e cls d H2 H' he s2 hE => qe e cls d H2 H' he (s1.trans s2) hE⟩
end
end K19
namespace K19
open PySem L2 K19R
abbrev sNamesWithin : Stmt := topS 33
abbrev sNamesIn : Stmt := topS 34
abbrev sSteady : Stmt := topS 35
abbrev sNumberTree : Stmt := topS 36
abbrev sFold : Stmt := topS 37
abbrev sFolded : Stmt := topS 38
theorem yesI {σ : L2.St} {H : Hp} {A B : Hp → Prop} (h : A H) : tYes σ H fun b H3 => if b = true then A H3 else B H3 := by
  show if true = true then A H else B H
  rw [if_pos rfl]
  exact h
theorem pow3 (n : Nat) : 1 ≤ 3 ^ n := Nat.pos_of_ne_zero (by
  induction n with
  | zero => decide
  | succ n ih => rw [Nat.pow_succ]; omega)
theorem pow3_le {a b : Nat} (h : a ≤ b) : 3 ^ a ≤ 3 ^ b := Nat.pow_le_pow_right (by decide) h
theorem names_le : ∀ t : T, (names t).length ≤ 3 ^ depth t
  | .num n => Nat.zero_le _
  | .of x => pow3 _
  | .un k a => by
    have := names_le a
    have := pow3_le (Nat.le_succ (depth a))
    show (names a).length ≤ 3 ^ (depth a + 1)
    exact Nat.le_trans (by assumption) this
  | .bin k a b => by
    have h1 := names_le a
    have h2 := names_le b
    have h3 := pow3_le (Nat.le_max_left (depth a) (depth b))
    have h4 := pow3_le (Nat.le_max_right (depth a) (depth b))
    show (names a ++ names b).length ≤ 3 ^ (max (depth a) (depth b) + 1)
    rw [List.length_append, Nat.pow_succ]
    omega
  | .cho a b c => by
    have h1 := names_le a
    have h2 := names_le b
    have h5 := names_le c
    have h3 := pow3_le (show depth a ≤ max (depth a) (max (depth b) (depth c)) by omega)
    have h4 := pow3_le (show depth b ≤ max (depth a) (max (depth b) (depth c)) by omega)
    have h6 := pow3_le (show depth c ≤ max (depth a) (max (depth b) (depth c)) by omega)
    show (names a ++ (names b ++ names c)).length ≤ 3 ^ (max (depth a) (max (depth b) (depth c)) + 1)
    rw [List.length_append, List.length_append, Nat.pow_succ]
    omega
theorem fm_len {l l' : List T} (h : l.Sublist l') : (l.flatMap names).length ≤ (l'.flatMap names).length := by
  induction h with
  | slnil => exact Nat.le_refl _
  | cons a _ ih =>
    rw [List.flatMap_cons, List.length_append]
    omega
  | cons_cons a _ ih =>
    rw [List.flatMap_cons, List.flatMap_cons, List.length_append, List.length_append]
    omega
theorem names_line {t : T} (h : depth t ≤ 12) : (names t).length < sizeLine := by
  have h1 := names_le t
  have h2 := pow3_le h
  have : 3 ^ 12 < sizeLine := by rw [sizeLine_eq]; decide
  omega
section
variable {P : Program} {w : World} {K : PySem.W.Frag} {mg : Str → Option Value} {base : Heap} {D fI cc cd CN CG CZ : Addr}
theorem scNamesWithin : FnScope ["tree", "part", "name"] ["tree"] (defScope sNamesWithin) := ⟨rfl, rfl, rfl, by decide +kernel, rfl, by decide +kernel, by decide +kernel⟩
def spNames (n : Nat) : Sp := fun vs H Q _ => ∃ (v : V) (t : T), vs = [v] ∧ SumAt n H v t ∧ n ≤ 12 ∧ ∀ (p : Addr) H', Same H H' → H p = none → H' p = some (.lst ((names t).map V.str)) → Q (.ref p) H'
theorem cal_names_within (Df : Def K mg "names_within" sNamesWithin ["tree"]) (n : Nat) : Cal P w K mg base CX0 (n + 1) "names_within" ["tree"] (spNames n) := by
  refine Df.cals (fun vs H Q E ⟨v, t, e, h, _⟩ => h.no) (fun n f fd F G m b => ?_) n
  refine F.ok scNamesWithin (fun vs H Q E ⟨v, t, e, _⟩ => by rw [e]; rfl) fun cdv A outer st H vs Q E hr h => ?_
  obtain ⟨v, t, rfl, hs, hn, q⟩ := h
  refine ⟨_, pss_cons (ps_if (pt_cmpR op_eq (pe_ix ix_tup (pv 0) pe_int (fun _ _ => rfl)) pe_str (nomark _)) (pss_one (ps_ret (pe_lst pa_nil))) pss_nil)
    (pss_cons (ps_if (pt_cmpR op_eq (pe_ix ix_tup (pv 0) pe_int (fun _ _ => rfl)) pe_str (nomark _)) (pss_one (ps_ret (pe_lst (pa_cons (pe_ix ix_tup (pv 0) pe_int (fun _ _ => rfl)) pa_nil)))) pss_nil)
    (pss_one (ps_ret (pe_lc2 (own := [("part", 1), ("name", 2)]) (g := gName 1) (g1 := gName 2) (vs1 := [2]) (wi1 := iList K (tCall (spNames n) [] E0 (tCons (tVar 1) tNil))) (by rfl) scNamesWithin.nd (pi_tup (pe_slice sl_tup (pv 0) (po_some pe_int) po_none))
      (blkOk_by (own := [("part", 1), ("name", 2)]) (N := ["tree", "part", "name"]) (sc := defScope sNamesWithin) (by decide +kernel)) (by decide)
      (fun _ _ _ _ _ => pg_name (i := 1) scNamesWithin.nd rfl (Or.inl rfl)) (fun _ _ _ _ _ => pts_nil)
      (fun _ _ _ _ _ => by exact pi_list (by exact pe_call G hr rfl m F.kp b .nil pass0 (by exact pa_cons (pv 1) pa_nil)))
      (fun _ _ _ _ _ => pg_name (i := 2) scNamesWithin.nd rfl (Or.inl rfl)) (fun _ _ _ _ _ => pts_nil) (fun _ _ _ _ _ => by exact pv 2))))), ?_⟩
  rcases leaf_or t with ⟨z, rfl⟩ | ⟨x, rfl⟩ | it
  · obtain ⟨a, rfl, ha⟩ := hs.at_
    refine ⟨_, rfl, a, _, _, _, rfl, rfl, SqT.of ha, atI_nat (j := 0) rfl, rfl, _, rfl, ?_⟩
    rw [str_eq (show ("number" : Str) = "number" from rfl)]
    exact iteT ⟨Nat.zero_le _, fun p hp => q p _ (same_new hp _) hp upd_same⟩
  · obtain ⟨a, rfl, ha⟩ := hs.at_
    refine ⟨_, rfl, a, _, _, _, rfl, rfl, SqT.of ha, atI_nat (j := 0) rfl, rfl, _, rfl, ?_⟩
    rw [str_ne (show ("of" : Str) ≠ "number" by decide)]
    refine iteF ⟨_, rfl, a, _, _, _, rfl, rfl, SqT.of ha, atI_nat (j := 0) rfl, rfl, _, rfl, ?_⟩
    rw [str_eq (show ("of" : Str) = "of" from rfl)]
    exact iteT ⟨_, rfl, a, _, _, _, rfl, rfl, SqT.of ha, atI_nat (j := 1) rfl, (by show 1 ≤ sizeLine; decide), fun p hp => q p _ (same_new hp _) hp upd_same⟩
  · obtain ⟨a, ws, rfl, ha, hl, hk⟩ := hs.node it
    refine ⟨_, rfl, a, _, _, _, rfl, rfl, SqT.of ha, atI_nat (j := 0) rfl, rfl, _, rfl, ?_⟩
    rw [str_ne (kind_num it)]
    refine iteF ⟨_, rfl, a, _, _, _, rfl, rfl, SqT.of ha, atI_nat (j := 0) rfl, rfl, _, rfl, ?_⟩
    rw [str_ne (kind_of it)]
    refine iteF ⟨_, rfl, 1, rfl, a, _, rfl, SqT.of ha, cut_not _ _, fun p hp => ?_⟩
    rw [cutV1]
    have s1 : Same H (upd H p (.tup ws)) := same_new hp _
    generalize hH1 : upd H p (.tup ws) = H1 at s1
    have hp1 : SqT K H1 p ws := SqT.of (by rw [← hH1]; exact upd_same)
    refine ⟨p, rfl, ⟨_, hp1⟩, fun L hL => ?_⟩
    have lenA : ∀ (l : List T), l.Sublist (kids t) → (l.flatMap names).length ≤ (names t).length := fun l hsub => by
      rw [names_kids it]
      exact fm_len hsub
    have line := names_line (Nat.le_trans hs.dep hn)
    refine ⟨fun i m H2 => m = ws.length - i ∧ i ≤ ws.length ∧ Same H1 H2 ∧ H2 L = some (.lst ((((kids t).take i).flatMap names).map V.str)), ⟨ws.length, by simp, Nat.zero_le _, same_new hL _, upd_same⟩, ?_⟩
    rintro i m H2 ⟨rfl, hi, s2, hL2⟩
    by_cases hlt : i < ws.length
    · refine .inr ⟨⟨ws, ws[i], seqT s2 hp1, by simp [hlt]⟩, fun H' => Same H1 H' ∧ H' L = some (.lst ((((kids t).take (i + 1)).flatMap names).map V.str)), fun H' h => ⟨ws.length - (i + 1), by omega, rfl, hlt, h⟩, fun x H' hy => ?_⟩
      obtain ⟨rfl, hy⟩ := hy
      have hx := hy ws (seqT s2 hp1)
      have hku : i < (kids t).length := by rw [← hl]; exact hlt
      have eu : (kids t)[i]? = some (kids t)[i] := List.getElem?_eq_getElem hku
      generalize (kids t)[i] = u at eu
      have cu : SumAt n H' x u := (hk i x u hx eu).mono (s1.trans s2)
      have tk : (kids t).take (i + 1) = (kids t).take i ++ [u] := by rw [List.take_add_one, eu]; rfl
      refine ⟨rfl, ?_⟩
      refine yesI ?_
      refine ⟨_, rfl, x, u, rfl, cu, by omega, fun r H3 s3 hr0 hr3 => ?_⟩
      have hrL : r ≠ L := fun e => by rw [e, hL2] at hr0; cases hr0
      refine ⟨r, rfl, ⟨_, SqL.of hr3⟩, fun j k H4 => k = (names u).length - j ∧ j ≤ (names u).length ∧ Same H1 H4 ∧ H4 r = some (.lst ((names u).map V.str)) ∧ H4 L = some (.lst ((((kids t).take i).flatMap names ++ (names u).take j).map V.str)),
        ⟨(names u).length, by simp, Nat.zero_le _, s2.trans s3, hr3, by rw [List.take_zero, List.append_nil]; exact s3 _ _ hL2⟩, ?_⟩
      rintro j k H4 ⟨rfl, hj, s4, hr4, hL4⟩
      by_cases hjl : j < (names u).length
      · refine .inr ⟨⟨_, .str (names u)[j], SqL.of hr4, by rw [List.getElem?_map, List.getElem?_eq_getElem hjl]; rfl⟩, fun H5 => Same H1 H5 ∧ H5 r = some (.lst ((names u).map V.str)) ∧ H5 L = some (.lst ((((kids t).take i).flatMap names ++ (names u).take (j + 1)).map V.str)),
          fun H5 h => ⟨(names u).length - (j + 1), by omega, rfl, hjl, h⟩, fun y H5 hy2 => ?_⟩
        obtain ⟨rfl, hy2⟩ := hy2
        have hx2 := hy2 _ (SqL.of hr4)
        rw [List.getElem?_map, List.getElem?_eq_getElem hjl] at hx2
        have hx2 : V.str (names u)[j] = y := Option.some.inj hx2
        subst hx2
        refine ⟨rfl, ?_⟩
        refine yesI ?_
        refine ⟨_, rfl, _, hL4, ?_, ?_, ?_, ?_⟩
        · rw [List.length_map, List.length_append, List.length_take]
          have := lenA ((kids t).take (i + 1)) (List.take_sublist _ _)
          rw [tk, List.flatMap_append, List.length_append] at this
          have e1 : (List.flatMap names [u]).length = (names u).length := by simp
          rw [e1] at this
          omega
        · exact same_but s4 hL but_upd
        · rw [upd_ne hrL]
          exact hr4
        · rw [upd_same, List.take_add_one, List.getElem?_eq_getElem hjl]
          simp only [Option.toList, List.map_append, List.map_cons, List.map_nil, List.append_assoc]
      · have ej : j = (names u).length := by omega
        refine .inl ⟨⟨_, SqL.of hr4, by rw [List.length_map]; omega⟩, s4, ?_⟩
        rw [hL4, tk, List.flatMap_append, ej, List.take_length]
        simp
    · have ei : i = ws.length := by omega
      refine .inl ⟨⟨_, seqT s2 hp1, by omega⟩, ?_⟩
      refine q L H2 (s1.trans s2) (s1.free hL) ?_
      rw [hL2, ei, hl, List.take_length, ← names_kids it]
theorem scNamesIn : FnScope ["tree"] ["tree"] (defScope sNamesIn) := ⟨rfl, rfl, rfl, by decide +kernel, rfl, by decide +kernel, by decide +kernel⟩
def spNamesIn : Sp := fun vs H Q _ => ∃ (v : V) (t : T), vs = [v] ∧ SumAt 12 H v t ∧ (names t).length < 64 ∧ ∀ (p : Addr) (ys : List Str) H', Same H H' → (∀ x, x ∈ ys ↔ x ∈ names t) → ys.length < 64 → H' p = some (.lst (ys.map V.str)) → Q (.ref p) H'
theorem cal_names_in (Df : Def K mg "names_in" sNamesIn ["tree"]) (T : Bt mg) (C1 : Cal P w K mg base CX0 16 "check_sum" ["tree"] (spCheckSum 12)) (C2 : Cal P w K mg base CX0 13 "names_within" ["tree"] (spNames 12)) : Cal P w K mg base CX0 17 "names_in" ["tree"] spNamesIn := by
  refine Df.cal fun f fd F => F.ok scNamesIn (fun vs H Q E ⟨_, _, e, _⟩ => by rw [e]; rfl) fun cdv A outer st H vs Q E hr h => ?_
  obtain ⟨g1, d1, G1, m1, k1, b1⟩ := C1
  obtain ⟨g2, d2, G2, m2, k2, b2⟩ := C2
  have hr1 : Room 13 _ := hr.mono (by decide)
  obtain ⟨v, t, rfl, hs, hn, q⟩ := h
  refine ⟨_, pss_cons (ps_expr (pe_call G1 hr rfl m1 k1 b1 .nil pass0 (pa_cons (pv 0) pa_nil)))
    (pss_one (ps_ret (pe_callB (cr_sortedSS rfl) (by rfl) T.sorted (by decide +kernel) (pa_cons (pe_callTy (cr_setL rfl) (by rfl) T.set (by decide +kernel) (pa_cons (pe_call G2 hr1 rfl m2 k2 b2 .nil pass0 (pa_cons (pv 0) pa_nil)) pa_nil)) pa_nil)))), ?_⟩
  refine ⟨_, rfl, v, t, rfl, hs, fun H1 s1 => ?_⟩
  refine ⟨_, rfl, v, t, rfl, hs.mono s1, Nat.le_refl _, fun p H2 s2 hp h2 => ?_⟩
  refine ⟨p, names t, rfl, SqL.of h2, by omega, fun r c hc hr0 => ?_⟩
  refine ⟨r, _, c, rfl, upd_same, by omega, fun ys l hy hl hl0 => ?_⟩
  refine q l ys _ (s1.trans (s2.trans ((same_new hr0 _).trans (same_new hl0 _)))) (fun x => ?_) (by omega) upd_same
  rw [hy x, decide_eq_true_eq]
/-! ### steady_number -/
theorem scSteady : FnScope ["tree"] ["tree"] (defScope sSteady) := ⟨rfl, rfl, rfl, by decide +kernel, rfl, by decide +kernel, by decide +kernel⟩
def optV : Option Int → V
  | some z => .int z
  | none => .non
def spSteady : Sp := fun vs H Q _ => ∃ (v : V) (t : T), vs = [v] ∧ SumAt 12 H v t ∧ ∀ H', Same H H' → Q (optV (steady t)) H'
theorem cal_steady (Df : Def K mg "steady_number" sSteady ["tree"]) (X : Ec P K mg D fI cc cd CN CG CZ) (eG : PySem.W.exmAny K (.ref CG) [.ref CG, .ref CZ] = some true) (eZ : PySem.W.exmAny K (.ref CZ) [.ref CG, .ref CZ] = some true)
    (C1 : Cal P w K mg base CX0 13 "names_within" ["tree"] (spNames 12)) (C2 : Cal P w K mg base (L2.CX P w) 15 "sum_value" ["tree", "names", "arguments"] (spSum K CN CG CZ 12)) : Cal P w K mg base CX0 16 "steady_number" ["tree"] spSteady := by
  refine Df.cal fun f fd F => F.ok scSteady (fun vs H Q E ⟨_, _, e, _⟩ => by rw [e]; rfl) fun cdv A outer st H vs Q E hr h => ?_
  obtain ⟨g1, d1, G1, m1, k1, b1⟩ := C1
  obtain ⟨g2, d2, G2, m2, k2, b2⟩ := C2
  have hr1 : Room 13 _ := hr.mono (by decide)
  obtain ⟨v, t, rfl, hs, q⟩ := h
  refine ⟨_, pss_cons (ps_if (pt_truth (pe_call G1 hr1 rfl m1 k1 b1 .nil pass0 (pa_cons (pv 0) pa_nil)) (by intro _; rfl)) (pss_one (ps_ret pe_non)) pss_nil)
    (pss_one (ps_try_two (c1 := .ref CG) (c2 := .ref CZ) (tb := fun W => tRet (tCallS (spSum K CN CG CZ 12) (WE W) (tCons (tVar 0) (tCons tDNewK (tCons (tLst tNil) tNil))))) (ts := fun _ _ _ => tRet (tC .non)) rfl rfl ⟨rfl, by decide, .inl X.great.gC⟩ ⟨rfl, by decide, .inl X.zero.gC⟩
      (fun W pn xe tk _ => pss_one (ps_ret (by exact (pe_callS G2 hr rfl m2 k2 b2 (fun σ => passAt tk σ) (by exact (pa_cons (pv 0) (pa_cons pe_dnewK (pa_cons (pe_lst pa_nil) pa_nil))))))))
      (fun a oe cls d pn hz hf => pss_one (ps_ret pe_non)))), ?_⟩
  refine ⟨_, rfl, v, t, rfl, hs, Nat.le_refl _, fun p H1 s1 hp h1 => ⟨_, .inl ⟨_, SqL.of h1, rfl⟩, ?_⟩⟩
  by_cases hn : names t = []
  case neg =>
    have e : (((names t).map V.str).isEmpty) = false := by
      cases q : names t with
      | nil => exact absurd q hn
      | cons x r => rfl
    rw [e]
    have es : steady t = none := by unfold steady; rw [if_neg hn]
    rw [es] at q
    exact iteT (q H1 s1)
  rw [hn]
  refine iteF ⟨_, rfl, fun d hd => ⟨Nat.zero_le _, fun l hl => ?_⟩⟩
  have s2 : Same H1 (upd H1 d (.dK [])) := same_new hd _
  have s3 : Same (upd H1 d (.dK [])) (upd (upd H1 d (.dK [])) l (.lst [])) := same_new hl _
  have s13 := s1.trans (s2.trans s3)
  have hv : held [] [] = v0 := funext held_nil
  refine ⟨v, t, d, l, [], [], rfl, hs.mono s13, ⟨s3 _ _ upd_same, SqL.of upd_same, ⟨fun p hp => (nomatch hp), fun z hz => (nomatch hz)⟩⟩, fun z H2 hz s4 => ?_, fun e cls dd H2 H' he s4 hE => ?_⟩
  · rw [hv] at hz
    have es : steady t = some z := by unfold steady; rw [if_pos hn, hz]
    rw [es] at q
    exact q H2 (s13.trans s4)
  · rw [hv] at he
    have es : steady t = none := by unfold steady; rw [if_pos hn, he]
    rw [es] at q
    cases e with
    | noInt s => exact absurd hn (ev_noInt he)
    | great u =>
      obtain ⟨rfl, w', _, hA⟩ := hE
      exact ⟨eG, fun a ha => q H' (s13.trans (s4.trans hA.1))⟩
    | zero u =>
      obtain ⟨rfl, w', _, hA⟩ := hE
      exact ⟨eZ, fun a ha => q H' (s13.trans (s4.trans hA.1))⟩
theorem scNumberTree : FnScope ["number"] ["number"] (defScope sNumberTree) := ⟨rfl, rfl, rfl, by decide +kernel, rfl, by decide +kernel, by decide +kernel⟩
def spNumberTree : Sp := fun vs H Q _ => ∃ z : Int, vs = [.int z] ∧ ∀ v H', Same H H' → TreeAt H' v (numT z) → Q v H'
theorem cal_number_tree (Df : Def K mg "number_tree" sNumberTree ["number"]) : Cal P w K mg base CX0 1 "number_tree" ["number"] spNumberTree := by
  refine Df.cal fun f fd F => F.ok scNumberTree (fun vs H Q E ⟨_, e, _⟩ => by rw [e]; rfl) fun cdv A outer st H vs Q E hr h => ?_
  obtain ⟨z, rfl, q⟩ := h
  refine ⟨_, pss_one (ps_ret (pe_ifExp (pt_cmpR op_ge (pv 0) pe_int (nomark _)) (pe_tup (pa_cons pe_str (pa_cons (pv 0) pa_nil))) (pe_tup (pa_cons pe_str (pa_cons (pe_tup (pa_cons pe_str (pa_cons (pe_un un_neg (pv 0)) pa_nil))) pa_nil))))), ?_⟩
  refine ⟨_, rfl, _, _, rfl, rfl, _, rfl, ?_⟩
  show if decide ((0 : Int) ≤ z) = true then _ else _
  unfold numT at q
  by_cases h : 0 ≤ z
  · rw [if_pos h] at q
    rw [decide_eq_true h]
    exact iteT ⟨_, rfl, (by show 2 ≤ sizeLine; decide), fun a ha => q _ _ (same_new ha _) ⟨a, rfl, upd_same⟩⟩
  · rw [if_neg h] at q
    rw [decide_eq_false h]
    refine iteF ⟨_, rfl, _, rfl, (by show 2 ≤ sizeLine; decide), fun a ha => ⟨(by show 2 ≤ sizeLine; decide), fun c hc => ?_⟩⟩
    have s2 := same_new hc (.tup [.str "minus", .ref a])
    refine q _ _ ((same_new ha _).trans s2) ⟨c, .ref a, rfl, upd_same, a, rfl, ?_⟩
    have e : (0 : Int) - z = -z := by omega
    rw [e]
    exact s2 _ _ upd_same
end
end K19
namespace K19
open PySem L2 K19R
/-- the node with its parts folded -/
def mk : T → T
  | .num n => .num n
  | .of x => .of x
  | .un k a => .un k (foldL a)
  | .bin k a b => .bin k (foldL a) (foldL b)
  | .cho a b c => .cho (foldL a) (foldL b) (foldL c)
theorem kids_mk : ∀ t : T, kids (mk t) = (kids t).map foldL
  | .num _ => rfl
  | .of _ => rfl
  | .un _ _ => rfl
  | .bin _ _ _ => rfl
  | .cho _ _ _ => rfl
theorem kind_mk : ∀ t : T, kind (mk t) = kind t
  | .num _ => rfl
  | .of _ => rfl
  | .un _ _ => rfl
  | .bin _ _ _ => rfl
  | .cho _ _ _ => rfl
theorem inner_mk : ∀ {t : T}, inner t → inner (mk t)
  | .num _, h => h.elim
  | .of _, h => h.elim
  | .un _ _, _ => trivial
  | .bin _ _ _, _ => trivial
  | .cho _ _ _, _ => trivial
theorem fold_mk : ∀ {t : T}, inner t → foldL t = settle (mk t)
  | .num _, h => h.elim
  | .of _, h => h.elim
  | .un _ _, _ => rfl
  | .bin _ _ _, _ => rfl
  | .cho _ _ _, _ => rfl
theorem gk_mk : ∀ {t : T}, Nums In t → GK (mk t)
  | .num _, _ => trivial
  | .of _, _ => trivial
  | .un _ a, h => (folded_ok a h).g
  | .bin _ a b, h => ⟨(folded_ok a h.1).g, (folded_ok b h.2).g⟩
  | .cho a b c, h => ⟨(folded_ok a h.1).g, (folded_ok b h.2.1).g, (folded_ok c h.2.2).g⟩
theorem fold_setP {t : T} (i : inner t) (h : Nums In t) : foldL t = setP (mk t) := by
  rw [fold_mk i]
  refine (setP_eq (gk_mk h) (fun n e => ?_) (fun x e => ?_)).symm
  · have := inner_mk i
    rw [e] at this
    exact this
  · have := inner_mk i
    rw [e] at this
    exact this
theorem mk_nums : ∀ {t : T}, Nums In t → Nums In (mk t)
  | .num _, h => h
  | .of _, h => h
  | .un _ a, h => (folded_ok a h).nums
  | .bin _ a b, h => ⟨(folded_ok a h.1).nums, (folded_ok b h.2).nums⟩
  | .cho a b c, h => ⟨(folded_ok a h.1).nums, (folded_ok b h.2.1).nums, (folded_ok c h.2.2).nums⟩
theorem mk_sub : ∀ {t : T}, Nums In t → (names (mk t)).Sublist (names t)
  | .num _, _ => List.Sublist.refl _
  | .of _, _ => List.Sublist.refl _
  | .un _ a, h => (folded_ok a h).sub
  | .bin _ a b, h => (folded_ok a h.1).sub.append (folded_ok b h.2).sub
  | .cho a b c, h => (folded_ok a h.1).sub.append ((folded_ok b h.2.1).sub.append (folded_ok c h.2.2).sub)
theorem mk_dep : ∀ {t : T}, Nums In t → depth (mk t) ≤ depth t
  | .num _, _ => Nat.le_refl _
  | .of _, _ => Nat.le_refl _
  | .un _ a, h => Nat.succ_le_succ (folded_ok a h).dep
  | .bin _ a b, h => by
    have h1 := (folded_ok a h.1).dep
    have h2 := (folded_ok b h.2).dep
    show max _ _ + 1 ≤ max _ _ + 1
    omega
  | .cho a b c, h => by
    have h1 := (folded_ok a h.1).dep
    have h2 := (folded_ok b h.2.1).dep
    have h3 := (folded_ok c h.2.2).dep
    show max _ (max _ _) + 1 ≤ max _ (max _ _) + 1
    omega
/-- a tuple of a kind and parts is a sum -/
theorem TreeAt.make {H : Hp} {a : Addr} : ∀ {t : T} {acc : List V}, inner t → H a = some (.tup (.str (kind t) :: acc)) → acc.length = (kids t).length → (∀ (i : Nat) (y : V) (u : T), acc[i]? = some y → (kids t)[i]? = some u → TreeAt H y u) → TreeAt H (.ref a) t
  | .num _, _, h, _, _, _ => h.elim
  | .of _, _, h, _, _, _ => h.elim
  | .un k t, [x], _, h, _, q => ⟨a, x, rfl, h, q 0 x t rfl rfl⟩
  | .bin k t u, [x, y], _, h, _, q => ⟨a, x, y, rfl, h, q 0 x t rfl rfl, q 1 y u rfl rfl⟩
  | .cho t u z, [x, y, w], _, h, _, q => ⟨a, x, y, w, rfl, h, q 0 x t rfl rfl, q 1 y u rfl rfl, q 2 w z rfl rfl⟩
  | .un _ _, [], _, _, l, _ => by simp [kids] at l
  | .un _ _, _ :: _ :: _, _, _, l, _ => by simp [kids] at l
  | .bin _ _ _, [], _, _, l, _ => by simp [kids] at l
  | .bin _ _ _, [_], _, _, l, _ => by simp [kids] at l
  | .bin _ _ _, _ :: _ :: _ :: _, _, _, l, _ => by simp [kids] at l
  | .cho _ _ _, [], _, _, l, _ => by simp [kids] at l
  | .cho _ _ _, [_], _, _, l, _ => by simp [kids] at l
  | .cho _ _ _, [_, _], _, _, l, _ => by simp [kids] at l
  | .cho _ _ _, _ :: _ :: _ :: _ :: _, _, _, l, _ => by simp [kids] at l
theorem optV_some {o : Option Int} : decide (optV o = V.non) = o.isNone := by cases o <;> rfl
section
variable {P : Program} {w : World} {K : PySem.W.Frag} {mg : Str → Option Value} {base : Heap} {D fI cc cd CN CG CZ : Addr}
theorem scFold : FnScope ["tree", "parts", "number", "first", "part"] ["tree"] (defScope sFold) := ⟨rfl, rfl, rfl, by decide +kernel, rfl, by decide +kernel, by decide +kernel⟩
def spFold (n : Nat) : Sp := fun vs H Q _ => ∃ (v : V) (t : T), vs = [v] ∧ SumAt n H v t ∧ n ≤ 12 ∧ ∀ v' H', Same H H' → TreeAt H' v' (foldL t) → Q v' H'
theorem cal_fold (Df : Def K mg "fold" sFold ["tree"]) (C1 : Cal P w K mg base CX0 16 "steady_number" ["tree"] spSteady) (C2 : Cal P w K mg base CX0 1 "number_tree" ["number"] spNumberTree) (n : Nat) : Cal P w K mg base CX0 (n + 16) "fold" ["tree"] (spFold n) := by
  refine Df.cals (fun vs H Q E ⟨v, t, e, h, _⟩ => h.no) (fun n f fd F G m b => ?_) n
  refine F.ok scFold (fun vs H Q E ⟨v, t, e, _⟩ => by rw [e]; rfl) fun cdv A outer st H vs Q E hr h => ?_
  obtain ⟨g1, d1, G1, m1, k1, b1⟩ := C1
  obtain ⟨g2, d2, G2, m2, k2, b2⟩ := C2
  have hr1 : Room 16 _ := hr.mono (by omega)
  have hr2 : Room 1 _ := hr.mono (by omega)
  obtain ⟨v, t, rfl, hs, hn, q⟩ := h
  refine ⟨_, pss_cons (ps_if (pt_cmpR op_in_seq (pe_ix ix_tup (pv 0) pe_int (fun _ _ => rfl)) (pe_tup (pa_cons pe_str (pa_cons pe_str pa_nil))) rfl) (pss_one (ps_ret (pv 0))) pss_nil)
    (pss_cons (ps_setLc (i := 1) (own := [("part", 4)]) (g := gName 4) (by rfl) scFold.nd rfl rfl (sw_true rfl rfl rfl (by decide +kernel)) (pi_tup (pe_slice sl_tup (pv 0) (po_some pe_int) po_none))
      (blkOk_by (own := [("part", 4)]) (N := ["tree", "parts", "number", "first", "part"]) (sc := defScope sFold) (by decide +kernel)) (fun _ _ _ _ _ => pg_name (i := 4) scFold.nd rfl (Or.inl rfl)) (fun _ _ _ _ _ => pts_nil)
      (fun _ _ _ _ _ => pe_call G hr rfl m F.kp b .nil pass0 (pa_cons (pv 4) pa_nil)))
    (pss_cons (ps_set (i := 0) scFold.nd rfl (.inl rfl) (pe_tup (pa_cons (pe_ix ix_tup (pv 0) pe_int (fun _ _ => rfl)) (StX.pa_star (pv 1) pa_nil))))
    (pss_cons (ps_set (i := 2) scFold.nd rfl (.inl rfl) (pe_call G1 hr1 rfl m1 k1 b1 .nil pass0 (pa_cons (pv 0) pa_nil)))
    (pss_cons (ps_if (pt_cmp (pc_notN (pv 2)) rfl) (pss_one (ps_ret (pe_call G2 hr2 rfl m2 k2 b2 .nil pass0 (pa_cons (pv 2) pa_nil)))) pss_nil)
    (pss_cons (ps_set (i := 3) scFold.nd rfl (.inl rfl) (pe_call G1 hr1 rfl m1 k1 b1 .nil pass0 (pa_cons (pe_ix ix_list (pv 1) pe_int (fun _ _ => rfl)) pa_nil)))
    (pss_cons (ps_if (pt_cmp (pc_isN (pv 3)) rfl) (pss_one (ps_ret (pv 0))) pss_nil)
    (pss_cons (ps_if (pt_cmpR op_eq (pe_ix ix_tup (pv 0) pe_int (fun _ _ => rfl)) pe_str (nomark _)) (pss_one (ps_ret (pe_ifExp (pt_cmpR op_ne (pv 3) pe_int (nomark _)) (pe_ix ix_list (pv 1) pe_int (fun _ _ => rfl)) (pe_ix ix_list (pv 1) pe_int (fun _ _ => rfl))))) pss_nil)
    (pss_cons (ps_if (PW.pt (pw_and (pt_cmpR op_eq (pe_ix ix_tup (pv 0) pe_int (fun _ _ => rfl)) pe_str (nomark _)) (pw_and1 (pt_cmpR op_eq (pv 3) pe_int (nomark _))))) (pss_one (ps_ret (pe_tup (pa_cons pe_str (pa_cons pe_int pa_nil))))) pss_nil)
    (pss_cons (ps_if (PW.pt (pw_and (pt_cmpR op_eq (pe_ix ix_tup (pv 0) pe_int (fun _ _ => rfl)) pe_str (nomark _)) (pw_and1 (pt_cmpR op_ne (pv 3) pe_int (nomark _))))) (pss_one (ps_ret (pe_tup (pa_cons pe_str (pa_cons pe_int pa_nil))))) pss_nil)
    (pss_one (ps_ret (pv 0)))))))))))), ?_⟩
  rcases leaf_or t with ⟨z, rfl⟩ | ⟨x, rfl⟩ | it
  · obtain ⟨a, rfl, ha⟩ := hs.at_
    refine ⟨_, rfl, a, _, _, _, rfl, rfl, SqT.of ha, atI_nat (j := 0) rfl, (by show 2 ≤ sizeLine; decide), fun p hp => ⟨p, _, rfl, .inr (SqT.of upd_same), rfl, rfl, _, rfl, iteT ⟨_, rfl, q _ _ (same_new hp _) (hs.at_.mono (same_new hp _))⟩⟩⟩
  · obtain ⟨a, rfl, ha⟩ := hs.at_
    refine ⟨_, rfl, a, _, _, _, rfl, rfl, SqT.of ha, atI_nat (j := 0) rfl, (by show 2 ≤ sizeLine; decide), fun p hp => ⟨p, _, rfl, .inr (SqT.of upd_same), rfl, rfl, _, rfl, iteT ⟨_, rfl, q _ _ (same_new hp _) (hs.at_.mono (same_new hp _))⟩⟩⟩
  obtain ⟨a, ws, rfl, ha, hl, hk⟩ := hs.node it
  refine ⟨_, rfl, a, _, _, _, rfl, rfl, SqT.of ha, atI_nat (j := 0) rfl, (by show 2 ≤ sizeLine; decide), fun p hp => ⟨p, _, rfl, .inr (SqT.of upd_same), rfl, rfl, _, rfl, ?_⟩⟩
  have s0 : Same H (upd H p (.tup [.str "number", .str "of"])) := same_new hp _
  show if inV (V.str (kind t)) ((["number", "of"] : List Str).map V.str) = true then _ else _
  rw [inV_str, decide_eq_false (show ¬ kind t ∈ (["number", "of"] : List Str) from fun h => by
    rcases List.mem_cons.mp h with e | h
    · exact kind_num it e
    · exact kind_of it (List.mem_singleton.mp h))]
  refine iteF ?_
  generalize upd H p (.tup [.str "number", .str "of"]) = H0 at s0
  refine ⟨_, rfl, 1, rfl, a, _, rfl, SqT.of (s0 _ _ ha), cut_not _ _, fun p1 hp1 => ?_⟩
  rw [cutV1]
  have s1 : Same H0 (upd H0 p1 (.tup ws)) := same_new hp1 _
  have hw : SqT K (upd H0 p1 (.tup ws)) p1 ws := SqT.of upd_same
  generalize upd H0 p1 (.tup ws) = H1 at s1 hw
  refine ⟨p1, rfl, ⟨_, hw⟩, fun L hL => ?_⟩
  have s01 := s0.trans s1
  refine lc_relY (walk_tup (K := K) (a := p1) (xs := ws)) (fun i y H' => ∃ u, (kids t)[i]? = some u ∧ TreeAt H' y (foldL u)) (by rw [hl]; have := kids_len t; omega) hL (fun H2 s2 => seqT s2 hw) (fun i y H2 H3 tk h => by
      obtain ⟨u, e, h⟩ := h
      exact ⟨u, e, h.tk tk⟩) (fun i x H2 H3 hi s2 hy k hk' => ?_) fun H2 acc s2 hL2 hacc hR => ?_
  · obtain ⟨rfl, hx⟩ := hy
    have hku : i < (kids t).length := by rw [← hl]; exact hi
    have eu : (kids t)[i]? = some (kids t)[i] := List.getElem?_eq_getElem hku
    generalize (kids t)[i] = u at eu
    exact ⟨rfl, _, rfl, x, u, rfl, (hk i x u hx eu).mono (s01.trans s2), by omega, fun v' H4 s4 h4 => hk' v' H4 s4 ⟨u, eu, h4⟩⟩
  -- the new tuple
  have s02 := s01.trans s2
  refine ⟨_, rfl, a, _, _, _, rfl, rfl, SqT.of (s02 _ _ ha), atI_nat (j := 0) rfl, _, rfl, L, acc, rfl, .inr (SqL.of hL2), ?_, fun p2 hp2 => ?_⟩
  · have := kids_len t
    show (V.str (kind t) :: (acc ++ [])).length ≤ sizeLine
    rw [List.append_nil, List.length_cons, sizeLine_eq]
    omega
  have e0 : (V.str (kind t) :: (acc ++ [])) = V.str (kind (mk t)) :: acc := by rw [List.append_nil, kind_mk]
  have s3 : Same H2 (upd H2 p2 (.tup (V.str (kind t) :: (acc ++ [])))) := same_new hp2 _
  have hp22 : (upd H2 p2 (.tup (V.str (kind t) :: (acc ++ [])))) p2 = some (.tup (V.str (kind (mk t)) :: acc)) := by rw [upd_same, e0]
  show tSeq _ _ _ _ (upd H2 p2 (.tup (V.str (kind t) :: (acc ++ []))))
  generalize upd H2 p2 (.tup (V.str (kind t) :: (acc ++ []))) = H3 at s3 hp22
  have s03 := s02.trans s3
  have hL3 := s3 _ _ hL2
  have im := inner_mk it
  have part : ∀ (i : Nat) (y : V) (u : T), acc[i]? = some y → (kids t)[i]? = some u → TreeAt H3 y (foldL u) := fun i y u h1 h2 => by
    obtain ⟨u', e, h⟩ := hR i y h1
    rw [h2] at e
    cases e
    exact h.mono s3
  have tm : TreeAt H3 (.ref p2) (mk t) := TreeAt.make im hp22 (by rw [kids_mk, List.length_map, hacc, hl]) fun i y u h1 h2 => by
    rw [kids_mk, List.getElem?_map] at h2
    cases e : (kids t)[i]? with
    | none => rw [e] at h2; cases h2
    | some u' =>
      rw [e] at h2
      cases h2
      exact part i y u' h1 e
  have dm := mk_dep hs.nums
  have hd := hs.dep
  have sm : SumAt 12 H3 (.ref p2) (mk t) := ⟨tm, mk_nums hs.nums, fun x hx => hs.nms x ((mk_sub hs.nums).subset hx), by omega⟩
  have ef : foldL t = setP (mk t) := fold_setP it hs.nums
  rw [ef] at q
  refine ⟨_, rfl, _, _, rfl, sm, fun H4 s4 => ?_⟩
  have s04 := s03.trans s4
  refine ⟨_, rfl, _, rfl, ?_⟩
  cases es : steady (mk t) with
  | some z =>
    refine iteT ⟨_, rfl, z, rfl, fun v' H5 s5 h5 => q v' H5 (s04.trans s5) ?_⟩
    unfold setP
    rw [es]
    exact h5
  | none =>
    refine iteF ?_
    have er : setP (mk t) = K19.rest steady (mk t) := by unfold setP; rw [es]
    rw [er] at q
    -- the first part
    obtain ⟨y0, u0, acc', kr, hacc0, hk0⟩ : ∃ y0 u0 acc' kr, acc = y0 :: acc' ∧ kids t = u0 :: kr := by
      have := kids_pos it
      cases h1 : acc with
      | nil => rw [h1] at hacc; simp at hacc; omega
      | cons y0 acc' =>
        cases h2 : kids t with
        | nil => rw [h2] at this; simp at this
        | cons u0 kr => exact ⟨y0, u0, acc', kr, rfl, rfl⟩
    have m0 : u0 ∈ kids t := by rw [hk0]; exact List.mem_cons_self
    have f0 := folded_ok u0 (kid_nums m0 hs.nums)
    have d0 := kid_depth m0
    have dd0 := f0.dep
    have t0 : TreeAt H3 y0 (foldL u0) := part 0 y0 u0 (by rw [hacc0]; rfl) (by rw [hk0]; rfl)
    have c0 : SumAt 12 H4 y0 (foldL u0) := ⟨t0.mono s4, f0.nums, fun x hx => hs.nms x (kid_names m0 (f0.sub.subset hx)), by omega⟩
    refine ⟨_, rfl, L, _, _, _, rfl, rfl, SqL.of (s4 _ _ hL3), atI_nat (j := 0) (by rw [hacc0]; rfl), _, _, rfl, c0, fun H5 s5 => ?_⟩
    have s05 := s04.trans s5
    have tm5 := tm.mono (s4.trans s5)
    have hp25 : H5 p2 = some (.tup (V.str (kind (mk t)) :: acc)) := s5 _ _ (s4 _ _ hp22)
    have hL5 := s5 _ _ (s4 _ _ hL3)
    refine ⟨_, rfl, _, rfl, ?_⟩
    cases e1 : steady (foldL u0) with
    | none =>
      refine iteT ⟨_, rfl, q _ H5 s05 ?_⟩
      have : K19.rest steady (mk t) = mk t := by
        cases t with
        | num n => exact it.elim
        | of x => exact it.elim
        | un k a => rfl
        | bin k a b =>
          cases hk0
          show (match steady (foldL u0) with | some x => _ | none => _) = _
          rw [e1]
          rfl
        | cho a b c =>
          cases hk0
          show (match steady (foldL u0) with | some x => _ | none => _) = _
          rw [e1]
          rfl
      rw [this]
      exact tm5
    | some x0 =>
      refine iteF ⟨_, rfl, p2, _, _, _, rfl, rfl, SqT.of hp25, atI_nat (j := 0) rfl, rfl, _, rfl, ?_⟩
      cases t with
      | num n => exact it.elim
      | of x => exact it.elim
      | un k a =>
        cases hk0
        have : steady (mk (.un k u0)) = some (una k x0) := by
          show steady (.un k (foldL u0)) = _
          rw [un_steady, e1]
          rfl
        rw [this] at es
        cases es
      | cho a b c =>
        cases hk0
        have er2 : K19.rest steady (mk (.cho u0 b c)) = if x0 = 0 then foldL c else foldL b := by
          show (match steady (foldL u0) with | some x => _ | none => _) = _
          rw [e1]
        rw [er2] at q
        rw [str_eq (show kind (mk (.cho u0 b c)) = "choose" from rfl)]
        refine iteT ⟨_, rfl, rfl, _, rfl, ?_⟩
        show if (!decide (V.int x0 = V.int 0)) = true then _ else _
        rw [int_dec]
        obtain ⟨y1, y2, hy⟩ : ∃ y1 y2, acc = [y0, y1, y2] := by
          rw [hl] at hacc
          rw [hacc0] at hacc
          match acc', hacc with
          | [y1, y2], _ => exact ⟨y1, y2, hacc0⟩
          | [], h => simp [kids] at h
          | [_], h => simp [kids] at h
          | _ :: _ :: _ :: _, h => simp [kids] at h
        by_cases z0 : x0 = 0
        · rw [decide_eq_true z0]
          rw [if_pos z0] at q
          refine iteF ⟨_, rfl, L, _, _, _, rfl, rfl, SqL.of hL5, atI_nat (j := 2) (by rw [hy]; rfl), q y2 H5 s05 ?_⟩
          exact (part 2 y2 c (by rw [hy]; rfl) rfl).mono (s4.trans s5)
        · rw [decide_eq_false z0]
          rw [if_neg z0] at q
          refine iteT ⟨_, rfl, L, _, _, _, rfl, rfl, SqL.of hL5, atI_nat (j := 1) (by rw [hy]; rfl), q y1 H5 s05 ?_⟩
          exact (part 1 y1 b (by rw [hy]; rfl) rfl).mono (s4.trans s5)
      | bin k a b =>
        cases hk0
        have er2 : K19.rest steady (mk (.bin k u0 b)) = if short k x0 = true then .num (K19.b1 (!decide (x0 = 0))) else .bin k (foldL u0) (foldL b) := by
          show (match steady (foldL u0) with | some x => _ | none => _) = _
          rw [e1]
        rw [er2] at q
        rw [str_ne (show kind (mk (.bin k u0 b)) ≠ "choose" from bk_ne k)]
        refine iteF ⟨_, rfl, p2, _, _, _, rfl, rfl, SqT.of hp25, atI_nat (j := 0) rfl, rfl, _, rfl, ?_⟩
        have two : ∀ z : Int, ∀ q2 : Addr, TreeAt (upd H5 q2 (.tup [.str "number", .int z])) (.ref q2) (.num z) := fun z q2 => ⟨q2, rfl, upd_same⟩
        by_cases ka : k = .and
        · subst ka
          rw [str_eq (show kind (mk (.bin .and u0 b)) = "&&" from rfl)]
          refine iteT ⟨_, rfl, rfl, _, rfl, ?_⟩
          show if decide (V.int x0 = V.int 0) = true then _ else _
          rw [int_dec]
          by_cases z0 : x0 = 0
          · rw [decide_eq_true z0]
            rw [if_pos (show short .and x0 = true by rw [z0]; rfl), decide_eq_true z0] at q
            exact iteT ⟨(by show 2 ≤ sizeLine; decide), fun q2 hq2 => q _ _ (s05.trans (same_new hq2 _)) (two 0 q2)⟩
          · rw [decide_eq_false z0]
            rw [if_neg (show ¬ short .and x0 = true by unfold short; rw [decide_eq_false z0]; simp)] at q
            refine iteF ⟨_, rfl, p2, _, _, _, rfl, rfl, SqT.of hp25, atI_nat (j := 0) rfl, rfl, _, rfl, ?_⟩
            rw [str_ne (show kind (mk (.bin .and u0 b)) ≠ "||" by show BK.and.str ≠ "||"; decide)]
            exact iteF (iteF ⟨_, rfl, q _ H5 s05 tm5⟩)
        · rw [str_ne (show kind (mk (.bin k u0 b)) ≠ "&&" from fun e => ka (bk_inj (k' := .and) e))]
          refine iteF (iteF ⟨_, rfl, p2, _, _, _, rfl, rfl, SqT.of hp25, atI_nat (j := 0) rfl, rfl, _, rfl, ?_⟩)
          by_cases ko : k = .or
          · subst ko
            rw [str_eq (show kind (mk (.bin .or u0 b)) = "||" from rfl)]
            refine iteT ⟨_, rfl, rfl, _, rfl, ?_⟩
            show if (!decide (V.int x0 = V.int 0)) = true then _ else _
            rw [int_dec]
            by_cases z0 : x0 = 0
            · rw [decide_eq_true z0]
              rw [if_neg (show ¬ short .or x0 = true by unfold short; rw [decide_eq_true z0]; simp)] at q
              exact iteF ⟨_, rfl, q _ H5 s05 tm5⟩
            · rw [decide_eq_false z0]
              rw [if_pos (show short .or x0 = true by unfold short; rw [decide_eq_false z0]; rfl), decide_eq_false z0] at q
              exact iteT ⟨(by show 2 ≤ sizeLine; decide), fun q2 hq2 => q _ _ (s05.trans (same_new hq2 _)) (two 1 q2)⟩
          · rw [str_ne (show kind (mk (.bin k u0 b)) ≠ "||" from fun e => ko (bk_inj (k' := .or) e))]
            rw [if_neg (show ¬ short k x0 = true by unfold short; rw [decide_eq_false ka, decide_eq_false ko]; simp)] at q
            exact iteF (iteF ⟨_, rfl, q _ H5 s05 tm5⟩)
theorem scFolded : FnScope ["tree"] ["tree"] (defScope sFolded) := ⟨rfl, rfl, rfl, by decide +kernel, rfl, by decide +kernel, by decide +kernel⟩
theorem cal_folded (Df : Def K mg "folded" sFolded ["tree"]) (C1 : Cal P w K mg base CX0 16 "check_sum" ["tree"] (spCheckSum 12)) (C2 : Cal P w K mg base CX0 28 "fold" ["tree"] (spFold 12)) : Cal P w K mg base CX0 29 "folded" ["tree"] (spFold 12) := by
  refine Df.cal fun f fd F => F.ok scFolded (fun vs H Q E ⟨_, _, e, _⟩ => by rw [e]; rfl) fun cdv A outer st H vs Q E hr h => ?_
  obtain ⟨g1, d1, G1, m1, k1, b1⟩ := C1
  obtain ⟨g2, d2, G2, m2, k2, b2⟩ := C2
  have hr1 : Room 16 _ := hr.mono (by decide)
  obtain ⟨v, t, rfl, hs, hn, q⟩ := h
  refine ⟨_, pss_cons (ps_expr (pe_call G1 hr1 rfl m1 k1 b1 .nil pass0 (pa_cons (pv 0) pa_nil)))
    (pss_one (ps_ret (pe_call G2 hr rfl m2 k2 b2 .nil pass0 (pa_cons (pv 0) pa_nil)))), ?_⟩
  refine ⟨_, rfl, v, t, rfl, hs, fun H1 s1 => ?_⟩
  exact ⟨_, rfl, v, t, rfl, hs.mono s1, hn, fun v' H2 s2 h2 => q v' H2 (s1.trans s2) h2⟩
end
end K19
namespace K19
open PySem L2 K19R
abbrev sLInteger : Stmt := topS 48
abbrev sLHeld : Stmt := topS 49
abbrev sLJoined : Stmt := topS 50
theorem cut_take1 (s : Str) : (cutS s none (some 1)).cps.toList = s.cps.toList.take 1 := by
  unfold cutS
  rw [HT.sIx_none, show HT.sIx s.length s.length (some 1) = min 1 s.length from HT.sIx_nat s.length s.length 1, List.drop_zero, Nat.sub_zero]
  show s.cps.toList.take (min 1 s.length) = _
  rw [str_len]
  rw [List.take_eq_take_iff]
  omega
theorem cut_drop1 (s : Str) : (cutS s (some 1) none).cps.toList = s.cps.toList.drop 1 := by
  unfold cutS
  rw [HT.sIx_none, show HT.sIx s.length 0 (some 1) = min 1 s.length from HT.sIx_nat s.length 0 1]
  show (s.cps.toList.drop (min 1 s.length)).take (s.length - min 1 s.length) = _
  rw [str_len]
  by_cases h : 1 ≤ s.cps.toList.length
  · rw [Nat.min_eq_left h]
    exact List.take_of_length_le (by rw [List.length_drop]; exact Nat.le_refl _)
  · have e : s.cps.toList = [] := List.length_eq_zero_iff.mp (by omega)
    rw [e]
    rfl
theorem str_ext {x y : Str} (h : x.cps.toList = y.cps.toList) : x = y := by
  cases x
  cases y
  simpa using h
theorem figs_if {s : Str} {σ : L2.St} {H : Hp} {Kc : V → Hp → Prop} (h0 : σ[0]? = some (some (.str s))) (sl : s.length ≤ sizeLine) (h : ∀ fg : Str, fg.cps.toList = figs s → Kc (.str fg) H) :
    if decide (V.str (cutS s none (some 1)) = V.str "-") = true then (tSl rSlS (tVar 0) (tPart (tC (.int 1))) tNoPart) σ H Kc else (tVar 0) σ H Kc := by
  by_cases hm : s.cps.toList.take 1 = [45]
  · rw [str_eq (show cutS s none (some 1) = "-" from str_ext (by rw [cut_take1, hm]; rfl))]
    refine iteT ⟨_, h0, 1, rfl, s, rfl, sl, ?_⟩
    exact h _ (by rw [cut_drop1]; unfold figs; rw [if_pos hm])
  · rw [str_ne (show cutS s none (some 1) ≠ "-" from fun e => hm (by rw [← cut_take1, e]; rfl))]
    refine iteF ⟨_, h0, ?_⟩
    exact h _ (by unfold figs; rw [if_neg hm])
section
variable {P : Program} {w : World} {K : PySem.W.Frag} {mg : Str → Option Value} {base : Heap} {D fI cc cd CN CG CZ : Addr}
theorem scLInteger : FnScope ["_law_shown_here", "_law_figures", "_law_sign"] ["_law_shown_here"] (defScope sLInteger) := ⟨rfl, rfl, rfl, by decide +kernel, rfl, by decide +kernel, by decide +kernel⟩
def spLInteger : Sp := fun vs H Q _ => ∃ s : Str, vs = [.str s] ∧ s.cps.toList.length ≤ 100 ∧ ∀ H', Same H H' → Q (optV (txt s)) H'
theorem cal_l_integer (Df : Def K mg "_law_integer" sLInteger ["_law_shown_here"]) (T : Bt mg) : Cal P w K mg base CX0 1 "_law_integer" ["_law_shown_here"] spLInteger := by
  refine Df.cal fun f fd F => F.ok scLInteger (fun vs H Q E ⟨s, e, _⟩ => by rw [e]; rfl) fun cdv A outer st H vs Q E hr h => ?_
  obtain ⟨s, rfl, hl, q⟩ := h
  refine ⟨_, pss_cons (ps_set (i := 1) scLInteger.nd rfl (.inl rfl) (pe_ifExp (pt_cmpR op_eq (pe_slice sl_str (pv 0) po_none (po_some pe_int)) pe_str (nomark _)) (pe_slice sl_str (pv 0) (po_some pe_int) po_none) (pv 0)))
    (pss_cons (ps_if (pt_cmpR op_eq (pv 0) pe_str (nomark _)) (pss_one (ps_ret pe_int)) pss_nil)
    (pss_cons (ps_if (PW.pt (pw_or (pt_cmpR op_eq (pv 1) pe_str (nomark _)) (pw_or (pt_cmpR op_gt (pe_callB call_len_str (by rfl) T.len PySem.boot_len (pa_cons (pv 1) pa_nil)) pe_int (nomark _))
      (pw_or1 (pt_cmpR (op_neNil hr.units0) (pe_lc (own := [("_law_sign", 2)]) (g := gName 2) (by rfl) scLInteger.nd (pi_str (pv 1)) (blkOk_by (own := [("_law_sign", 2)]) (N := ["_law_shown_here", "_law_figures", "_law_sign"]) (sc := defScope sLInteger) (by decide +kernel))
        (fun _ _ _ _ _ => pg_name (i := 2) scLInteger.nd rfl (Or.inl rfl)) (fun _ _ _ _ _ => pts_one (pt_cmpR op_notIn_sign (pv 2) pe_str rfl)) (fun _ _ _ _ _ => pv 2)) (pe_lst pa_nil) (nomark _))))))
      (pss_one (ps_ret pe_non)) pss_nil)
    (pss_cons (ps_if (PW.pt (pw_and (pt_cmpR op_eq (pe_ix ix_str (pv 1) pe_int (fun _ _ => rfl)) pe_str (nomark _)) (pw_and1 (pt_cmpR op_ne (pv 0) pe_str (nomark _))))) (pss_one (ps_ret pe_non)) pss_nil)
    (pss_one (ps_ret (pe_callTy call_int_str (by rfl) T.int (by decide +kernel) (pa_cons (pv 0) pa_nil))))))), ?_⟩
  have sl : s.length ≤ sizeLine := by rw [str_len]; exact Nat.le_of_lt (small1000 (by omega))
  -- the figures
  refine ⟨_, rfl, 1, rfl, s, rfl, sl, rfl, _, rfl, ?_⟩
  refine figs_if rfl sl fun fg hf => ?_
  have lf := figs_le s
  have fl : fg.length ≤ sizeLine := by rw [str_len, hf]; exact Nat.le_of_lt (small1000 (by omega))
  refine ⟨_, rfl, rfl, _, rfl, ?_⟩
  by_cases he : s = ""
  · rw [str_eq he]
    have q := q _ (Same.refl _)
    rw [he, txt_empty] at q
    exact iteT q
  rw [str_ne he]
  have bad : ∀ H1, Same H H1 → good s ≠ true → Q .non H1 := fun H1 s1 hg => by
    have q := q _ s1
    rw [txt_bad he hg] at q
    exact q
  refine iteF ⟨_, rfl, rfl, _, rfl, ?_⟩
  by_cases h1 : fg = ""
  · rw [str_eq h1]
    refine iteT (iteT (bad H (Same.refl _) fun hg => ?_))
    rw [good_parts, ← hf, (empty_iff fg).mp h1] at hg
    cases hg
  rw [str_ne h1]
  have n1 : figs s ≠ [] := fun z => h1 ((empty_iff fg).mpr (by rw [hf]; exact z))
  refine iteF ⟨_, rfl, fg, rfl, fl, _, _, rfl, rfl, _, rfl, ?_⟩
  show if decide ((40 : Int) < (fg.length : Nat)) = true then _ else _
  have e2 : fg.length = (figs s).length := by rw [str_len, hf]
  refine ite2 (fun c => ?_) (fun c => ?_)
  · refine iteT (bad H (Same.refl _) fun hg => ?_)
    have c := of_decide_eq_true c
    rw [good_parts] at hg
    simp only [Bool.and_eq_true] at hg
    have := of_decide_eq_true hg.1.1.2
    omega
  have c : ¬ (40 : Int) < (fg.length : Nat) := of_decide_eq_false (Bool.eq_false_iff.mpr c)
  refine ⟨_, rfl, fg, rfl, fun L hL => ?_⟩
  refine lc_it walk_str (fun i H1 => Same H H1 ∧ ∃ acc, H1 L = some (.lst acc) ∧ acc.length ≤ i ∧ (acc.isEmpty = ((figs s).take i).all dig)) ⟨same_new hL _, [], upd_same, Nat.le_refl _, by simp⟩ (fun _ _ _ _ => True.intro) ?_ ?_
  · rintro i x H1 H2 hi ⟨s1, acc, ha, hla, hall⟩ ⟨rfl, c0, hc0, rfl⟩
    have hi2 : i < fg.cps.size := hi
    have hc1 : (figs s)[i]? = some c0 := by rw [← hf]; simpa using hc0
    have tk : ((figs s).take (i + 1)).all dig = (((figs s).take i).all dig && dig c0) := by
      rw [List.take_add_one, hc1, List.all_append]
      simp
    refine ⟨rfl, _, rfl, c0, DIG, rfl, rfl, _, rfl, ?_⟩
    rw [dig_in]
    cases hd : dig c0 with
    | true =>
      refine iteF ⟨s1, acc, ha, by omega, ?_⟩
      rw [hall, tk, hd, Bool.and_true]
    | false =>
      refine iteT ⟨_, rfl, acc, ha, ?_, same_but s1 hL but_upd, _, upd_same, by rw [List.length_append]; show acc.length + 1 ≤ i + 1; omega, ?_⟩
      · refine Nat.lt_of_le_of_lt hla (small1000 ?_)
        rw [size_len, hf] at hi2
        omega
      · rw [tk, hd, Bool.and_false]
        simp
  rintro H1 ⟨s1, acc, ha, hla, hall⟩
  rw [size_len, hf, List.take_length] at hall
  refine ⟨Nat.zero_le _, fun e he2 => ?_⟩
  have s2 : Same H1 (upd H1 e (.lst [])) := same_new he2 _
  refine ⟨L, e, acc, rfl, rfl, SqL.of (s2 _ _ ha), SqL.of upd_same, _, rfl, ?_⟩
  have s12 := s1.trans s2
  by_cases h3 : (figs s).all dig = true
  case neg =>
    rw [hall, Bool.eq_false_iff.mpr h3]
    refine iteT (bad _ s12 fun hg => ?_)
    rw [good_parts, Bool.eq_false_iff.mpr h3, Bool.and_false, Bool.false_and] at hg
    cases hg
  rw [hall, h3]
  refine iteF ?_
  obtain ⟨c0, r0, hc0⟩ : ∃ c0 r0, figs s = c0 :: r0 := by
    cases e : figs s with
    | nil => exact absurd e n1
    | cons c r => exact ⟨c, r, rfl⟩
  refine ⟨_, rfl, fg, 0, c0, rfl, rfl, fl, at0 (hf.trans hc0), rfl, _, rfl, ?_⟩
  rw [one_eq]
  have fin : (¬ (c0 = 48 ∧ s ≠ "0")) → good s = true := fun hn => by
    rw [good_parts, h3, hc0]
    have l1 : (c0 :: r0).length ≤ 40 := by rw [← hc0]; omega
    rw [decide_eq_true l1]
    by_cases z : c0 = 48
    · have z2 : s = "0" := Classical.not_not.mp fun y => hn ⟨z, y⟩
      rw [decide_eq_true z2]
      simp
    · have z3 : ¬ (c0 :: r0).take 1 = [48] := fun y => z (by simpa using y)
      rw [decide_eq_false z3]
      rfl
  have last : good s = true → (tRet (tCB (fun xs H Q => ∃ a n, xs = [V.str a] ∧ PySem.intText? a = some n ∧ a.length ≤ 640 ∧ Q (.int n) H) (tCons (tVar 0) tNil)) : TS) { nx := fun _ H' => Q .non H', rt := Q } [some (.str s), some (.str fg), none] (upd H1 e (.lst [])) := fun hg => by
    obtain ⟨n, h1, h2, h3⟩ := txt_good hg
    have q := q _ s12
    rw [h2] at q
    exact ⟨_, rfl, s, n, rfl, h1, by rw [str_len]; omega, q⟩
  by_cases z : c0 = 48
  · rw [decide_eq_true z]
    refine iteT ⟨_, rfl, rfl, _, rfl, ?_⟩
    by_cases z2 : s = "0"
    · rw [str_eq z2]
      exact iteF (last (fin fun y => y.2 z2))
    · rw [str_ne z2]
      refine iteT (bad _ s12 fun hg => ?_)
      rw [good_parts, hc0, z] at hg
      simp only [Bool.and_eq_true] at hg
      have g4 := hg.2
      rw [decide_eq_false z2] at g4
      cases g4
  · rw [decide_eq_false z]
    exact iteF (last (fin fun y => z y.1))
end
end K19
namespace K19
open PySem L2 K19R
abbrev sLValue : Stmt := topS 51
/-- an answer's tuple -/
def AnsAt (H : Hp) (v : V) : Except Er Int → Prop
  | .ok z => ∃ a, v = .ref a ∧ H a = some (.tup [.str "number", .int z])
  | .error (.noInt s) => ∃ a, v = .ref a ∧ H a = some (.tup [.str "NoInteger", .str s])
  | .error (.great t) => ∃ a w, v = .ref a ∧ H a = some (.tup [.str "TooGreat", w]) ∧ TreeAt H w t
  | .error (.zero t) => ∃ a w, v = .ref a ∧ H a = some (.tup [.str "DividedByZero", w]) ∧ TreeAt H w t
theorem AnsAt.tk {H H' : Hp} {v : V} (s : Tk H H') : ∀ {r : Except Er Int}, AnsAt H v r → AnsAt H' v r
  | .ok z, ⟨a, e, h⟩ => ⟨a, e, s _ _ h⟩
  | .error (.noInt _), ⟨a, e, h⟩ => ⟨a, e, s _ _ h⟩
  | .error (.great _), ⟨a, w, e, h, q⟩ => ⟨a, w, e, s _ _ h, q.tk s⟩
  | .error (.zero _), ⟨a, w, e, h, q⟩ => ⟨a, w, e, s _ _ h, q.tk s⟩
theorem AnsAt.mono {H H' : Hp} {v : V} {r : Except Er Int} (h : AnsAt H v r) (s : Same H H') : AnsAt H' v r := h.tk (tk_same s)
/-- the first of an answer -/
def word : Except Er Int → Str
  | .ok _ => "number"
  | .error (.noInt _) => "NoInteger"
  | .error (.great _) => "TooGreat"
  | .error (.zero _) => "DividedByZero"
theorem AnsAt.first {H : Hp} {v : V} : ∀ {r : Except Er Int}, AnsAt H v r → ∃ a x, v = .ref a ∧ H a = some (.tup [.str (word r), x])
  | .ok z, ⟨a, e, h⟩ => ⟨a, _, e, h⟩
  | .error (.noInt _), ⟨a, e, h⟩ => ⟨a, _, e, h⟩
  | .error (.great _), ⟨a, w, e, h, _⟩ => ⟨a, w, e, h⟩
  | .error (.zero _), ⟨a, w, e, h, _⟩ => ⟨a, w, e, h⟩
theorem word_err : ∀ e : Er, word (.error e) ≠ "number"
  | .noInt _ => (by decide : ("NoInteger" : Str) ≠ "number")
  | .great _ => (by decide : ("TooGreat" : Str) ≠ "number")
  | .zero _ => (by decide : ("DividedByZero" : Str) ≠ "number")
theorem tseq_via {A B : TS} {D : Ends} {σ : L2.St} {H : Hp} (C : L2.St → Hp → Prop) (h1 : ∀ σ' H', C σ' H' → B D σ' H') (h2 : (∀ σ' H', C σ' H' → B D σ' H') → A { D with nx := B D } σ H) : tSeq A B D σ H := h2 h1
theorem idx_at {ss : List Str} {s : Str} {j : Nat} (h : ((List.range j).all fun m => decide (ss[m]? ≠ some s)) = true) : ∀ (m : Nat) (z' : V), m < j → (ss.map V.str)[m]? = some z' → eqV z' (.str s) = false := fun m z' hm hz => by
  have h1 := List.all_eq_true.mp h m (List.mem_range.mpr hm)
  have h1 := of_decide_eq_true h1
  rw [List.getElem?_map] at hz
  cases e : ss[m]? with
  | none => rw [e] at hz; cases hz
  | some x =>
    rw [e] at hz
    cases hz
    show (x == s) = false
    rw [e] at h1
    rw [beq_eq_false_iff_ne]
    intro q
    exact h1 (by rw [q])
/-- where a word stands among words -/
structure IxAt (ss : List Str) (vs : List V) (s : Str) (v : V) (j : Nat) : Prop where
  at_ : (ss.map V.str)[j]? = some (.str s)
  no : ∀ (m : Nat) (z' : V), m < j → (ss.map V.str)[m]? = some z' → eqV z' (.str s) = false
  val : vs[j]? = some v
def sgn3 : List Str := ["+", "-", "*"]
def sgn8 : List Str := ["<", "<=", ">", ">=", "==", "!=", "&&", "||"]
theorem ix3 {k : BK} (x y : Int) (h : k.str ∈ sgn3) : ∃ j, IxAt sgn3 [.int (x + y), .int (x - y), .int (x * y)] k.str (.int (calcB k x y)) j := by
  cases k <;> first
    | exact absurd h (by decide)
    | exact ⟨0, rfl, idx_at (by decide), rfl⟩
    | exact ⟨1, rfl, idx_at (by decide), rfl⟩
    | exact ⟨2, rfl, idx_at (by decide), rfl⟩
theorem ix8 {k : BK} (x y : Int) (h1 : ¬ k.str ∈ (["/", "^"] : List Str)) (h : ¬ k.str ∈ sgn3) :
    ∃ j b, IxAt sgn8 ([.bl (decide (x < y)), .bl (decide (x ≤ y)), .bl (decide (y < x)), .bl (decide (y ≤ x)), .bl (decide (V.int x = V.int y)), .bl (!decide (V.int x = V.int y))] ++ [.bl (!decide (V.int y = V.int 0)), .bl (!decide (V.int y = V.int 0))]) k.str (.bl b) j ∧ calcB k x y = K19.b1 b := by
  cases k with
  | lt => exact ⟨0, _, ⟨rfl, idx_at (by decide), rfl⟩, rfl⟩
  | le => exact ⟨1, _, ⟨rfl, idx_at (by decide), rfl⟩, rfl⟩
  | gt => exact ⟨2, _, ⟨rfl, idx_at (by decide), rfl⟩, rfl⟩
  | ge => exact ⟨3, _, ⟨rfl, idx_at (by decide), rfl⟩, rfl⟩
  | eq => exact ⟨4, _, ⟨rfl, idx_at (by decide), rfl⟩, by rw [int_dec]; rfl⟩
  | ne => exact ⟨5, _, ⟨rfl, idx_at (by decide), rfl⟩, by rw [int_dec]; rfl⟩
  | and => exact ⟨6, _, ⟨rfl, idx_at (by decide), rfl⟩, by rw [int_dec]; rfl⟩
  | or => exact ⟨7, _, ⟨rfl, idx_at (by decide), rfl⟩, by rw [int_dec]; rfl⟩
  | mul => exact absurd (show BK.mul.str ∈ sgn3 by decide) h
  | add => exact absurd (show BK.add.str ∈ sgn3 by decide) h
  | sub => exact absurd (show BK.sub.str ∈ sgn3 by decide) h
  | div => exact absurd (show BK.div.str ∈ (["/", "^"] : List Str) by decide) h1
  | pow => exact absurd (show BK.pow.str ∈ (["/", "^"] : List Str) by decide) h1
theorem div_mem {k : BK} : k.str ∈ (["/", "^"] : List Str) ↔ isDiv k = true := by cases k <;> decide
theorem pow_mem {k : BK} (h : isDiv k = true) : (k.str = "^" ∧ ∀ x y, calcB k x y = x - quo x y * y) ∨ (k.str ≠ "^" ∧ ∀ x y, calcB k x y = quo x y) := by
  cases k <;> first
    | (cases h; done)
    | exact .inl ⟨rfl, fun x y => by show x - y * quo x y = _; rw [Int.mul_comm]⟩
    | exact .inr ⟨by decide, fun x y => rfl⟩
section
variable {P : Program} {w : World} {K : PySem.W.Frag} {mg : Str → Option Value} {base : Heap} {D fI cc cd CN CG CZ : Addr}
theorem scLHeld : FnScope ["_law_word", "_law_book_here", "_law_given"] ["_law_word", "_law_book_here", "_law_given"] (defScope sLHeld) := ⟨rfl, rfl, rfl, by decide +kernel, rfl, by decide +kernel, by decide +kernel⟩
theorem cal_l_held (Df : Def K mg "_law_held" sLHeld ["_law_word", "_law_book_here", "_law_given"]) (T : Bt mg) : Cal P w K mg base CX0 1 "_law_held" ["_law_word", "_law_book_here", "_law_given"] (spValueOf K) := by
  refine Df.cal fun f fd F => F.ok scLHeld (fun vs H Q E ⟨s, _, _, _, _, e, _⟩ => by rw [e]; rfl) fun cdv A outer st H vs Q E hr h => ?_
  obtain ⟨x, b, g, bs, gs, rfl, nm, hh, q⟩ := h
  refine ⟨_, pss_cons (ps_if (pt_cmpR op_notIn_sign (pe_ix ix_str (pv 0) pe_int (fun _ _ => rfl)) pe_str rfl) (pss_one (ps_ret (pe_dget2 (hu_of hr) (pv 1) (pv 0) pe_str ⟨rfl, rfl, rfl, rfl⟩))) pss_nil)
    (pss_one (ps_ret (pe_ifExp (pt_cmpR op_le (pe_callTy call_int_str (by rfl) T.int (by decide +kernel) (pa_cons (pv 0) pa_nil)) (pe_callB call_len_seq (by rfl) T.len PySem.boot_len (pa_cons (pv 2) pa_nil)) (nomark _))
      (pe_ix ix_list (pv 2) (pe_op op_sub (pe_callTy call_int_str (by rfl) T.int (by decide +kernel) (pa_cons (pv 0) pa_nil)) pe_int) (fun _ _ => rfl)) pe_str))), ?_⟩
  obtain ⟨c, r, hc⟩ := nm.ne
  have l := nm.len
  rw [size_len] at l
  refine ⟨_, rfl, x, 0, c, rfl, rfl, by rw [str_len]; exact Nat.le_of_lt (small1000 (by omega)), at0 hc, c, PD, rfl, rfl, _, rfl, ?_⟩
  by_cases hp : c ∈ PD.cps.toList
  · rw [decide_eq_true hp]
    obtain ⟨k, hk, h1⟩ := place_num nm hc hp
    rw [held_place hc hp hk] at q
    have l6 : x.length ≤ 640 := by rw [str_len]; omega
    refine iteF ⟨_, rfl, x, k, rfl, hk, l6, _, rfl, g, _, rfl, .inl hh.given, _, _, rfl, rfl, _, rfl, ?_⟩
    rw [List.length_map]
    refine ite2 (fun e => ?_) (fun e => ?_)
    · have e := of_decide_eq_true e
      have hlt : (k - 1).toNat < gs.length := by omega
      have eq : gs.getD (k - 1).toNat "" = gs[(k - 1).toNat] := by rw [List.getD_eq_getElem?_getD, List.getElem?_eq_getElem hlt]; rfl
      rw [eq] at q
      refine ⟨_, rfl, _, rfl, x, k, rfl, hk, l6, _, _, rfl, rfl, g, _, _, _, rfl, rfl, hh.given, at_of (j := (k - 1).toNat) (by omega) (by rw [List.getElem?_map, List.getElem?_eq_getElem hlt]; rfl), ?_⟩
      exact q
    · have e := of_decide_eq_false (Bool.eq_false_iff.mpr e)
      have hge : gs.length ≤ (k - 1).toNat := by omega
      have eq : gs.getD (k - 1).toNat "" = "" := by rw [List.getD_eq_getElem?_getD, List.getElem?_eq_none hge]; rfl
      rw [eq] at q
      exact q
  · rw [decide_eq_false hp]
    rw [held_name hc hp] at q
    refine iteT ⟨_, rfl, b, rfl, .inl ⟨_, .inl hh.book⟩, _, rfl, valV (bookK bs) (Sum.inr x), .inl ⟨_, _, .inl hh.book, rfl, rfl⟩, ?_⟩
    rw [bookV_is]
    exact q
/-! ### _law_joined -/
theorem scLJoined : FnScope ["_law_node", "_law_first", "_law_second", "_law_whole", "_law_number_here", "_law_truths", "_law_signs"] ["_law_node", "_law_first", "_law_second"] (defScope sLJoined) := ⟨rfl, rfl, rfl, by decide +kernel, rfl, by decide +kernel, by decide +kernel⟩
def spLJoined : Sp := fun vs H Q _ => ∃ (a : Addr) (k : BK) (t1 t2 : T) (x y : Int), vs = [.ref a, .int x, .int y] ∧ TreeAt H (.ref a) (.bin k t1 t2) ∧ small x ∧ small y ∧ ∀ v' H', Same H H' → AnsAt H' v' (join (.bin k t1 t2) k x y) → Q v' H'
theorem cal_l_joined (Df : Def K mg "_law_joined" sLJoined ["_law_node", "_law_first", "_law_second"]) (T : Bt mg) : Cal P w K mg base CX0 1 "_law_joined" ["_law_node", "_law_first", "_law_second"] spLJoined := by
  refine Df.cal fun f fd F => F.ok scLJoined (fun vs H Q E ⟨s, _, _, _, _, _, e, _⟩ => by rw [e]; rfl) fun cdv A outer st H vs Q E hr h => ?_
  obtain ⟨a, k, t1, t2, x, y, rfl, tr, sx, sy, q⟩ := h
  refine ⟨_, pss_cons (ps_if (pt_cmpR op_in_seq (pe_ix ix_tup (pv 0) pe_int (fun _ _ => rfl)) (pe_lst (pa_cons pe_str (pa_cons pe_str pa_nil))) rfl)
      (pss_cons (ps_if (pt_cmpR op_eq (pv 2) pe_int (nomark _)) (pss_one (ps_ret (pe_tup (pa_cons pe_str (pa_cons (pv 0) pa_nil))))) pss_nil)
      (pss_cons (ps_set (i := 3) scLJoined.nd rfl (.inl rfl) (pe_op op_mul (pe_op op_fdivW (pe_callB call_abs (by rfl) T.abs (by decide +kernel) (pa_cons (pv 1) pa_nil)) (pe_callB call_abs (by rfl) T.abs (by decide +kernel) (pa_cons (pv 2) pa_nil)))
        (pe_ix ix_list (pe_lst (pa_cons pe_int (pa_cons (pe_un un_neg pe_int) pa_nil))) (pe_callTy call_int1 (by rfl) T.int (by decide +kernel) (pa_cons (pe_cmpR op_ne (pe_cmpR op_lt (pv 1) pe_int (nomark _)) (pe_cmpR op_lt (pv 2) pe_int (nomark _)) (nomark _)) pa_nil)) (fun _ _ => rfl))))
      (pss_one (ps_set (i := 4) scLJoined.nd rfl (.inl rfl) (pe_ix ix_list (pe_lst (pa_cons (pv 3) (pa_cons (pe_op op_sub (pv 1) (pe_op op_mulW (pv 3) (pv 2))) pa_nil))) (pe_callTy call_int1 (by rfl) T.int (by decide +kernel) (pa_cons (pe_cmpR op_eq (pe_ix ix_tup (pv 0) pe_int (fun _ _ => rfl)) pe_str (nomark _)) pa_nil)) (fun _ _ => rfl))))))
      (pss_one (ps_if (pt_cmpR op_in_seq (pe_ix ix_tup (pv 0) pe_int (fun _ _ => rfl)) (pe_lst (pa_cons pe_str (pa_cons pe_str (pa_cons pe_str pa_nil)))) rfl)
        (pss_one (ps_set (i := 4) scLJoined.nd rfl (.inl rfl) (pe_ix ix_list (pe_lst (pa_cons (pe_op op_add (pv 1) (pv 2)) (pa_cons (pe_op op_sub (pv 1) (pv 2)) (pa_cons (pe_op op_mulW (pv 1) (pv 2)) pa_nil))))
          (pe_bm PySem.F.plainAttrs_list PySem.F.slot_list_index PySem.F.type_list_index mt_index (pe_lst (pa_cons pe_str (pa_cons pe_str (pa_cons pe_str pa_nil)))) (pa_cons (pe_ix ix_tup (pv 0) pe_int (fun _ _ => rfl)) pa_nil)) (fun _ _ => rfl))))
        (pss_cons (ps_set (i := 5) scLJoined.nd rfl (.inl rfl) (pe_lst (pa_cons (pe_cmpR op_lt (pv 1) (pv 2) (nomark _)) (pa_cons (pe_cmpR op_le (pv 1) (pv 2) (nomark _)) (pa_cons (pe_cmpR op_gt (pv 1) (pv 2) (nomark _)) (pa_cons (pe_cmpR op_ge (pv 1) (pv 2) (nomark _)) (pa_cons (pe_cmpR op_eq (pv 1) (pv 2) (nomark _)) (pa_cons (pe_cmpR op_ne (pv 1) (pv 2) (nomark _)) pa_nil))))))))
        (pss_cons (ps_set (i := 6) scLJoined.nd rfl (.inl rfl) (pe_lst (pa_cons pe_str (pa_cons pe_str (pa_cons pe_str (pa_cons pe_str (pa_cons pe_str (pa_cons pe_str (pa_cons pe_str (pa_cons pe_str pa_nil))))))))))
        (pss_one (ps_set (i := 4) scLJoined.nd rfl (.inl rfl) (pe_callTy call_int1 (by rfl) T.int (by decide +kernel) (pa_cons (pe_ix ix_list (pe_op op_cat (pv 5) (pe_lst (pa_cons (pe_cmpR op_ne (pv 2) pe_int (nomark _)) (pa_cons (pe_cmpR op_ne (pv 2) pe_int (nomark _)) pa_nil))))
          (pe_bm PySem.F.plainAttrs_list PySem.F.slot_list_index PySem.F.type_list_index mt_index (pv 6) (pa_cons (pe_ix ix_tup (pv 0) pe_int (fun _ _ => rfl)) pa_nil)) (fun _ _ => rfl)) pa_nil)))))))))
    (pss_cons (ps_if (pt_cmpR op_ge (pe_callB call_abs (by rfl) T.abs (by decide +kernel) (pa_cons (pv 4) pa_nil)) (pe_op op_pow pe_int pe_int) (nomark _)) (pss_one (ps_ret (pe_tup (pa_cons pe_str (pa_cons (pv 0) pa_nil))))) pss_nil)
    (pss_one (ps_ret (pe_tup (pa_cons pe_str (pa_cons (pv 4) pa_nil)))))), ?_⟩
  obtain ⟨a', w1, w2, ea, ha, tr1, tr2⟩ := id tr
  cases ea
  have c3 : (if x < 0 then -x else x).natAbs < 2 ^ 133 := abs_small sx
  refine tseq_via (fun σ H1 => σ[0]? = some (some (.ref a)) ∧ σ[4]? = some (some (.int (calcB k x y))) ∧ Same H H1 ∧ ¬ (isDiv k = true ∧ y = 0)) ?_ ?_
  · rintro σ H1 ⟨h0, h4, s1, hn⟩
    refine ⟨_, h4, calcB k x y, rfl, _, _, rfl, rfl, ⟨by decide, by decide, by decide⟩, _, _, rfl, rfl, _, rfl, ?_⟩
    show if decide ((10 : Int) ^ 40 ≤ (if calcB k x y < 0 then -calcB k x y else calcB k x y)) = true then _ else _
    by_cases hb : Big (calcB k x y)
    · rw [decide_eq_true (show (10 : Int) ^ 40 ≤ (if calcB k x y < 0 then -calcB k x y else calcB k x y) from hb)]
      refine iteT ⟨_, h0, (by show 2 ≤ sizeLine; decide), fun p hp => q _ _ (s1.trans (same_new hp _)) ?_⟩
      have e : join (.bin k t1 t2) k x y = .error (.great (.bin k t1 t2)) := by unfold join bnd; rw [if_neg hn, if_pos hb]
      rw [e]
      exact ⟨p, .ref a, rfl, upd_same, tr.mono (s1.trans (same_new hp _))⟩
    · rw [decide_eq_false (show ¬ (10 : Int) ^ 40 ≤ (if calcB k x y < 0 then -calcB k x y else calcB k x y) from hb)]
      refine iteF ⟨_, h4, (by show 2 ≤ sizeLine; decide), fun p hp => q _ _ (s1.trans (same_new hp _)) ?_⟩
      have e : join (.bin k t1 t2) k x y = .ok (calcB k x y) := by unfold join bnd; rw [if_neg hn, if_neg hb]
      rw [e]
      exact ⟨p, rfl, upd_same⟩
  intro fin
  refine ⟨_, rfl, a, _, _, _, rfl, rfl, SqT.of ha, atI_nat (j := 0) rfl, (by show 2 ≤ sizeLine; decide), fun l1 hl1 => ⟨l1, _, rfl, .inl (SqL.of upd_same), rfl, rfl, _, rfl, ?_⟩⟩
  have s1 : Same H (upd H l1 (.lst [.str "/", .str "^"])) := same_new hl1 _
  show if inV (V.str k.str) ((["/", "^"] : List Str).map V.str) = true then _ else _
  rw [inV_str]
  generalize upd H l1 (.lst [.str "/", .str "^"]) = H1 at s1
  have ha1 := s1 _ _ ha
  refine ite2 (fun c => ?_) (fun c => ?_)
  · have dv : isDiv k = true := div_mem.mp (of_decide_eq_true c)
    refine ⟨_, rfl, rfl, _, rfl, ?_⟩
    rw [int_dec]
    by_cases y0 : y = 0
    · rw [decide_eq_true y0]
      refine iteT ⟨_, rfl, (by show 2 ≤ sizeLine; decide), fun p hp => q _ _ (s1.trans (same_new hp _)) ?_⟩
      have e : join (.bin k t1 t2) k x y = .error (.zero (.bin k t1 t2)) := by unfold join; rw [if_pos ⟨dv, y0⟩]
      rw [e]
      exact ⟨p, .ref a, rfl, upd_same, tr.mono (s1.trans (same_new hp _))⟩
    rw [decide_eq_false y0]
    have hpos : 0 < (if y < 0 then -y else y) := by split <;> omega
    refine iteF ⟨_, rfl, x, rfl, _, rfl, y, rfl, _, _, rfl, rfl, wide_div hpos (abs_small sy) (by decide) (by decide), _, rfl, (by show 2 ≤ sizeLine; decide), fun l2 hl2 => ?_⟩
    have s2 : Same H1 (upd H1 l2 (.lst [.int 1, .int (-1)])) := same_new hl2 _
    refine ⟨_, rfl, _, _, rfl, rfl, _, rfl, _, _, rfl, rfl, rfl, .inr ⟨_, rfl, ?_⟩⟩
    have whole : ∃ s : Int, (s = 1 ∨ s = -1) ∧ atI [V.int 1, V.int (-1)] (if (!decide (V.bl (decide (x < 0)) = V.bl (decide (y < 0)))) = true then 1 else 0) = some (.int s) ∧ (if x < 0 then -x else x) / (if y < 0 then -y else y) * s = quo x y := by
      unfold quo
      by_cases e2 : decide (x < 0) = decide (y < 0)
      · rw [if_pos e2, decide_eq_true (show V.bl (decide (x < 0)) = V.bl (decide (y < 0)) by rw [e2])]
        exact ⟨1, .inl rfl, atI_nat (j := 0) rfl, by rw [Int.mul_one]⟩
      · rw [if_neg e2, decide_eq_false (show ¬ V.bl (decide (x < 0)) = V.bl (decide (y < 0)) from fun z => e2 (V.bl.inj z))]
        exact ⟨-1, .inr rfl, atI_nat (j := 1) rfl, by rw [Int.mul_neg, Int.mul_one]⟩
    obtain ⟨s, hs1, hs2, hs3⟩ := whole
    refine ⟨l2, _, _, _, rfl, rfl, SqL.of upd_same, hs2, _, _, rfl, rfl, .inr (by rcases hs1 with e | e <;> rw [e] <;> exact ⟨by decide, by decide⟩), ?_⟩
    show gName 3 (.int ((if x < 0 then -x else x) / (if y < 0 then -y else y) * s)) _ _ _
    rw [hs3]
    generalize upd H1 l2 (.lst [.int 1, .int (-1)]) = H2 at s2
    have ha2 := s2 _ _ ha1
    refine ⟨_, rfl, _, rfl, _, rfl, _, rfl, _, _, rfl, rfl, wide_mul (quo_abs sx) (small_abs sy) (by decide) (by decide) (by decide), _, _, rfl, rfl, (by show 2 ≤ sizeLine; decide), fun l3 hl3 => ?_⟩
    have s3 := same_new hl3 (.lst [.int (quo x y), .int (x - quo x y * y)])
    refine ⟨_, rfl, a, _, _, _, rfl, rfl, SqT.of (s3 _ _ ha2), atI_nat (j := 0) rfl, rfl, .inr ⟨_, rfl, ?_⟩⟩
    have at4 : atI [V.int (quo x y), V.int (x - quo x y * y)] (if decide (V.str k.str = V.str "^") = true then 1 else 0) = some (.int (calcB k x y)) := by
      rcases pow_mem dv with ⟨h1, h2⟩ | ⟨h1, h2⟩
      · rw [str_eq h1, h2]
        exact atI_nat (j := 1) rfl
      · rw [str_ne h1, h2]
        exact atI_nat (j := 0) rfl
    exact ⟨l3, _, _, _, rfl, rfl, SqL.of upd_same, at4, fin _ _ ⟨rfl, rfl, s1.trans (s2.trans s3), fun z => y0 z.2⟩⟩
  · have nd : ¬ k.str ∈ (["/", "^"] : List Str) := of_decide_eq_false (Bool.eq_false_iff.mpr c)
    have ndv : ¬ (isDiv k = true ∧ y = 0) := fun z => nd (div_mem.mpr z.1)
    refine ⟨_, rfl, a, _, _, _, rfl, rfl, SqT.of ha1, atI_nat (j := 0) rfl, (by show 3 ≤ sizeLine; decide), fun l2 hl2 => ⟨l2, _, rfl, .inl (SqL.of upd_same), rfl, rfl, _, rfl, ?_⟩⟩
    have s2 : Same H1 (upd H1 l2 (.lst [.str "+", .str "-", .str "*"])) := same_new hl2 _
    show if inV (V.str k.str) (sgn3.map V.str) = true then _ else _
    rw [inV_str]
    generalize upd H1 l2 (.lst [.str "+", .str "-", .str "*"]) = H2 at s2
    have ha2 := s2 _ _ ha1
    have s12 := s1.trans s2
    refine ite2 (fun c => ?_) (fun c => ?_)
    · obtain ⟨j, hj⟩ := ix3 x y (of_decide_eq_true c)
      refine ⟨_, rfl, _, rfl, _, _, rfl, rfl, _, rfl, _, rfl, _, _, rfl, rfl, _, rfl, _, rfl, _, _, rfl, rfl, wide_mul (small_abs sx) (small_abs sy) (by decide) (by decide) (by decide), (by show 3 ≤ sizeLine; decide), fun l3 hl3 => ?_⟩
      have s3 := same_new hl3 (.lst [.int (x + y), .int (x - y), .int (x * y)])
      have h3 : (upd H2 l3 (.lst [.int (x + y), .int (x - y), .int (x * y)])) l3 = some (.lst [.int (x + y), .int (x - y), .int (x * y)]) := upd_same
      show tBM _ _ _ _ _ _ (upd H2 l3 (.lst [.int (x + y), .int (x - y), .int (x * y)])) _
      generalize upd H2 l3 (.lst [.int (x + y), .int (x - y), .int (x * y)]) = H3 at s3 h3
      refine ⟨(by show 3 ≤ sizeLine; decide), fun l4 hl4 => ?_⟩
      have s4 := same_new hl4 (.lst (sgn3.map V.str))
      refine ⟨.inl ⟨rfl, _, SqL.of upd_same⟩, _, rfl, a, _, _, _, rfl, rfl, SqT.of (s4 _ _ (s3 _ _ ha2)), atI_nat (j := 0) rfl, ?_⟩
      refine ⟨l4, sgn3.map V.str, _, j, _, rfl, rfl, SqL.of upd_same, rfl, flat_str _, hj.at_, by show (k.str == k.str) = true; exact beq_self_eq_true _, hj.no, ?_⟩
      exact ⟨l3, _, _, _, rfl, rfl, SqL.of (s4 _ _ h3), atI_nat hj.val, fin _ _ ⟨rfl, rfl, s12.trans (s3.trans s4), ndv⟩⟩
    · have n3 : ¬ k.str ∈ sgn3 := of_decide_eq_false (Bool.eq_false_iff.mpr c)
      obtain ⟨j, b, hj, hb⟩ := ix8 x y nd n3
      refine ⟨_, rfl, _, rfl, _, _, rfl, rfl, _, rfl, _, rfl, _, _, rfl, rfl, _, rfl, _, rfl, _, _, rfl, rfl, _, rfl, _, rfl, _, _, rfl, rfl, _, rfl, _, rfl, rfl, _, rfl, _, rfl, rfl, (by show 6 ≤ sizeLine; decide), fun l5 hl5 => ?_⟩
      have s5 := same_new hl5 (.lst [.bl (decide (x < y)), .bl (decide (x ≤ y)), .bl (decide (y < x)), .bl (decide (y ≤ x)), .bl (decide (V.int x = V.int y)), .bl (!decide (V.int x = V.int y))])
      have h5 : (upd H2 l5 (.lst [.bl (decide (x < y)), .bl (decide (x ≤ y)), .bl (decide (y < x)), .bl (decide (y ≤ x)), .bl (decide (V.int x = V.int y)), .bl (!decide (V.int x = V.int y))])) l5 = _ := upd_same
      refine ⟨(by show 8 ≤ sizeLine; decide), fun l6 hl6 => ?_⟩
      have s6 := same_new hl6 (.lst (sgn8.map V.str))
      refine ⟨_, rfl, _, rfl, rfl, _, rfl, rfl, (by show 2 ≤ sizeLine; decide), fun l7 hl7 => ?_⟩
      have s7 := same_new hl7 (.lst [.bl (!decide (V.int y = V.int 0)), .bl (!decide (V.int y = V.int 0))])
      refine ⟨l5, l7, _, _, rfl, rfl, s7 _ _ (s6 _ _ h5), upd_same, (by show 8 ≤ sizeLine; decide), fun l8 hl8 => ?_⟩
      refine ⟨_, rfl, .inl ⟨rfl, _, SqL.of ((same_new hl8 _) _ _ (s7 _ _ upd_same))⟩, _, rfl, a, _, _, _, rfl, rfl, SqT.of ((same_new hl8 _) _ _ (s7 _ _ (s6 _ _ (s5 _ _ ha2)))), atI_nat (j := 0) rfl, ?_⟩
      refine ⟨l6, sgn8.map V.str, _, j, _, rfl, rfl, SqL.of ((same_new hl8 _) _ _ (s7 _ _ upd_same)), rfl, flat_str _, hj.at_, by show (k.str == k.str) = true; exact beq_self_eq_true _, hj.no, ?_⟩
      refine ⟨l8, _, _, _, rfl, rfl, SqL.of upd_same, atI_nat hj.val, .inr ⟨b, rfl, ?_⟩⟩
      refine fin _ _ ⟨rfl, ?_, s12.trans (s5.trans (s6.trans (s7.trans (same_new hl8 _)))), ndv⟩
      rw [hb]
      rfl
end
end K19
namespace K19
open PySem L2 K19R
abbrev sLNumber : Stmt := topS 52
abbrev sLSettled : Stmt := topS 53
abbrev sLFolded : Stmt := topS 54
theorem ans_num {H : Hp} {a x : Addr} {z : Int} (h : AnsAt H (.ref a) (.ok z)) : H a = some (.tup [.str "number", .int z]) := by
  obtain ⟨b, e, h⟩ := h
  cases e
  exact h
section
variable {P : Program} {w : World} {K : PySem.W.Frag} {mg : Str → Option Value} {base : Heap} {D fI cc cd CN CG CZ : Addr}
theorem scLValue : FnScope ["_law_node", "_law_book_here", "_law_given", "_law_shown_here", "_law_number_here", "_law_first", "_law_second"] ["_law_node", "_law_book_here", "_law_given"] (defScope sLValue) := ⟨rfl, rfl, rfl, by decide +kernel, rfl, by decide +kernel, by decide +kernel⟩
def spLValue (K : PySem.W.Frag) (n : Nat) : Sp := fun vs H Q _ => ∃ (v : V) (t : T) (b g : Addr) (bs : List (Str × Str)) (gs : List Str), vs = [v, .ref b, .ref g] ∧ SumAt n H v t ∧ HeldAt K H b g bs gs ∧ ∀ v' H', Same H H' → AnsAt H' v' (ev (held bs gs) t) → Q v' H'
theorem cal_l_value (Df : Def K mg "_law_value" sLValue ["_law_node", "_law_book_here", "_law_given"]) (T : Bt mg) (C1 : Cal P w K mg base CX0 1 "_law_held" ["_law_word", "_law_book_here", "_law_given"] (spValueOf K)) (C2 : Cal P w K mg base CX0 1 "_law_integer" ["_law_shown_here"] spLInteger)
    (C3 : Cal P w K mg base CX0 1 "_law_joined" ["_law_node", "_law_first", "_law_second"] spLJoined) (n : Nat) : Cal P w K mg base CX0 (n + 1) "_law_value" ["_law_node", "_law_book_here", "_law_given"] (spLValue K n) := by
  refine Df.cals (fun vs H Q E ⟨v, t, _, _, _, _, e, h, _⟩ => h.no) (fun n f fd F G m b => ?_) n
  refine F.ok scLValue (fun vs H Q E ⟨v, t, _, _, _, _, e, _⟩ => by rw [e]; rfl) fun cdv A outer st H vs Q E hr h => ?_
  obtain ⟨g1, d1, G1, m1, k1, b1⟩ := C1
  obtain ⟨g2, d2, G2, m2, k2, b2⟩ := C2
  obtain ⟨g3, d3, G3, m3, k3, b3⟩ := C3
  have hr1 : Room 1 _ := hr.mono (by omega)
  obtain ⟨v, t, bA, gA, bs, gs, rfl, hs, hh, q⟩ := h
  refine ⟨_, pss_cons (ps_if (pt_cmpR op_eq (pe_ix ix_tup (pv 0) pe_int (fun _ _ => rfl)) pe_str (nomark _)) (pss_one (ps_ret (pe_tup (pa_cons pe_str (pa_cons (pe_ix ix_tup (pv 0) pe_int (fun _ _ => rfl)) pa_nil))))) pss_nil)
    (pss_cons (ps_if (pt_cmpR op_eq (pe_ix ix_tup (pv 0) pe_int (fun _ _ => rfl)) pe_str (nomark _))
      (pss_cons (ps_set (i := 3) scLValue.nd rfl (.inl rfl) (pe_call G1 hr1 rfl m1 k1 b1 .nil pass0 (pa_cons (pe_ix ix_tup (pv 0) pe_int (fun _ _ => rfl)) (pa_cons (pv 1) (pa_cons (pv 2) pa_nil)))))
      (pss_cons (ps_set (i := 4) scLValue.nd rfl (.inl rfl) (pe_call G2 hr1 rfl m2 k2 b2 .nil pass0 (pa_cons (pv 3) pa_nil)))
      (pss_one (ps_ret (pe_ifExp (pt_cmp (pc_isN (pv 4)) rfl) (pe_tup (pa_cons pe_str (pa_cons (pv 3) pa_nil))) (pe_tup (pa_cons pe_str (pa_cons (pv 4) pa_nil)))))))) pss_nil)
    (pss_cons (ps_set (i := 5) scLValue.nd rfl (.inl rfl) (pe_call G hr rfl m F.kp b .nil pass0 (pa_cons (pe_ix ix_tup (pv 0) pe_int (fun _ _ => rfl)) (pa_cons (pv 1) (pa_cons (pv 2) pa_nil)))))
    (pss_cons (ps_if (pt_cmpR op_ne (pe_ix ix_tup (pv 5) pe_int (fun _ _ => rfl)) pe_str (nomark _)) (pss_one (ps_ret (pv 5))) pss_nil)
    (pss_cons (ps_if (pt_cmpR op_eq (pe_ix ix_tup (pv 0) pe_int (fun _ _ => rfl)) pe_str (nomark _)) (pss_one (ps_ret (pe_tup (pa_cons pe_str (pa_cons (pe_op op_sub pe_int (pe_ix ix_tup (pv 5) pe_int (fun _ _ => rfl))) pa_nil))))) pss_nil)
    (pss_cons (ps_if (pt_cmpR op_eq (pe_ix ix_tup (pv 0) pe_int (fun _ _ => rfl)) pe_str (nomark _)) (pss_one (ps_ret (pe_tup (pa_cons pe_str (pa_cons (pe_callTy call_int1 (by rfl) T.int (by decide +kernel) (pa_cons (pe_cmpR op_eq (pe_ix ix_tup (pv 5) pe_int (fun _ _ => rfl)) pe_int (nomark _)) pa_nil)) pa_nil))))) pss_nil)
    (pss_cons (ps_if (pt_cmpR op_eq (pe_ix ix_tup (pv 0) pe_int (fun _ _ => rfl)) pe_str (nomark _)) (pss_one (ps_ret (pe_call G hr rfl m F.kp b .nil pass0 (pa_cons (pe_ix ix_tup (pv 0) (pe_op op_add pe_int (pe_callTy call_int1 (by rfl) T.int (by decide +kernel) (pa_cons (pe_cmpR op_eq (pe_ix ix_tup (pv 5) pe_int (fun _ _ => rfl)) pe_int (nomark _)) pa_nil))) (fun _ _ => rfl)) (pa_cons (pv 1) (pa_cons (pv 2) pa_nil)))))) pss_nil)
    (pss_cons (ps_if (PW.pt (pw_or (PW.pt (pw_and (pt_cmpR op_eq (pe_ix ix_tup (pv 0) pe_int (fun _ _ => rfl)) pe_str (nomark _)) (pw_and1 (pt_cmpR op_eq (pe_ix ix_tup (pv 5) pe_int (fun _ _ => rfl)) pe_int (nomark _)))))
        (pw_or1 (PW.pt (pw_and (pt_cmpR op_eq (pe_ix ix_tup (pv 0) pe_int (fun _ _ => rfl)) pe_str (nomark _)) (pw_and1 (pt_cmpR op_ne (pe_ix ix_tup (pv 5) pe_int (fun _ _ => rfl)) pe_int (nomark _))))))))
      (pss_one (ps_ret (pe_tup (pa_cons pe_str (pa_cons (pe_callTy call_int1 (by rfl) T.int (by decide +kernel) (pa_cons (pe_cmpR op_ne (pe_ix ix_tup (pv 5) pe_int (fun _ _ => rfl)) pe_int (nomark _)) pa_nil)) pa_nil))))) pss_nil)
    (pss_cons (ps_set (i := 6) scLValue.nd rfl (.inl rfl) (pe_call G hr rfl m F.kp b .nil pass0 (pa_cons (pe_ix ix_tup (pv 0) pe_int (fun _ _ => rfl)) (pa_cons (pv 1) (pa_cons (pv 2) pa_nil)))))
    (pss_cons (ps_if (pt_cmpR op_ne (pe_ix ix_tup (pv 6) pe_int (fun _ _ => rfl)) pe_str (nomark _)) (pss_one (ps_ret (pv 6))) pss_nil)
    (pss_one (ps_ret (pe_call G3 hr1 rfl m3 k3 b3 .nil pass0 (pa_cons (pv 0) (pa_cons (pe_ix ix_tup (pv 5) pe_int (fun _ _ => rfl)) (pa_cons (pe_ix ix_tup (pv 6) pe_int (fun _ _ => rfl)) pa_nil))))))))))))))), ?_⟩
  rcases leaf_or t with ⟨z, rfl⟩ | ⟨x, rfl⟩ | it
  · obtain ⟨a, rfl, ha⟩ := hs.at_
    refine ⟨_, rfl, a, _, _, _, rfl, rfl, SqT.of ha, atI_nat (j := 0) rfl, rfl, _, rfl, ?_⟩
    rw [str_eq (show ("number" : Str) = "number" from rfl)]
    exact iteT ⟨_, rfl, a, _, _, _, rfl, rfl, SqT.of ha, atI_nat (j := 1) rfl, (by show 2 ≤ sizeLine; decide), fun p hp => q _ _ (same_new hp _) ⟨p, rfl, upd_same⟩⟩
  · obtain ⟨a, rfl, ha⟩ := hs.at_
    have nm := hs.nms x (List.mem_singleton.mpr rfl)
    refine ⟨_, rfl, a, _, _, _, rfl, rfl, SqT.of ha, atI_nat (j := 0) rfl, rfl, _, rfl, ?_⟩
    rw [str_ne (show ("of" : Str) ≠ "number" by decide)]
    refine iteF ⟨_, rfl, a, _, _, _, rfl, rfl, SqT.of ha, atI_nat (j := 0) rfl, rfl, _, rfl, ?_⟩
    rw [str_eq (show ("of" : Str) = "of" from rfl)]
    refine iteT ⟨_, rfl, a, _, _, _, rfl, rfl, SqT.of ha, atI_nat (j := 1) rfl, _, rfl, _, rfl, x, bA, gA, bs, gs, rfl, nm, hh, _, rfl, held bs gs x, rfl, held_len hh.ok x, fun H1 s1 => ?_⟩
    refine ⟨_, rfl, _, rfl, ?_⟩
    rw [optV_some]
    cases e : txt (held bs gs x) with
    | none =>
      refine iteT ⟨_, rfl, (by show 2 ≤ sizeLine; decide), fun p hp => q _ _ (s1.trans (same_new hp _)) ?_⟩
      simp only [ev, e]
      exact ⟨p, rfl, upd_same⟩
    | some z =>
      refine iteF ⟨_, rfl, (by show 2 ≤ sizeLine; decide), fun p hp => q _ _ (s1.trans (same_new hp _)) ?_⟩
      simp only [ev, e]
      exact ⟨p, rfl, upd_same⟩
  · obtain ⟨a, ws, rfl, ha, hl, hk⟩ := hs.node it
    obtain ⟨w0, ws', t0, kr, rfl, hk0⟩ : ∃ w0 ws' t0 kr, ws = w0 :: ws' ∧ kids t = t0 :: kr := by
      have := kids_pos it
      cases h1 : ws with
      | nil => rw [h1] at hl; simp at hl; omega
      | cons y0 acc' =>
        cases h2 : kids t with
        | nil => rw [h2] at this; simp at this
        | cons u0 kr => exact ⟨y0, acc', u0, kr, rfl, rfl⟩
    have c0 : SumAt n H w0 t0 := hk 0 w0 t0 rfl (by rw [hk0]; rfl)
    refine ⟨_, rfl, a, _, _, _, rfl, rfl, SqT.of ha, atI_nat (j := 0) rfl, rfl, _, rfl, ?_⟩
    rw [str_ne (kind_num it)]
    refine iteF ⟨_, rfl, a, _, _, _, rfl, rfl, SqT.of ha, atI_nat (j := 0) rfl, rfl, _, rfl, ?_⟩
    rw [str_ne (kind_of it)]
    refine iteF ⟨_, rfl, a, _, _, _, rfl, rfl, SqT.of ha, atI_nat (j := 1) rfl, _, rfl, _, rfl, w0, t0, bA, gA, bs, gs, rfl, c0, hh, fun v1 H1 s1 an => ?_⟩
    cases hz : ev (held bs gs) t0 with
    | error e =>
      rw [hz] at an
      obtain ⟨p, x, rfl, hp⟩ := an.first
      refine ⟨_, rfl, p, _, _, _, rfl, rfl, SqT.of hp, atI_nat (j := 0) rfl, rfl, _, rfl, ?_⟩
      rw [str_ne (word_err e)]
      refine iteT ⟨_, rfl, q _ H1 s1 ?_⟩
      have : ev (held bs gs) t = .error e := by
        cases t with
        | num z => exact it.elim
        | of x => exact it.elim
        | un k t1 => cases hk0; simp only [ev, hz]
        | bin k t1 t2 => cases hk0; exact bin_err1 hz
        | cho t1 t2 t3 => cases hk0; exact cho_err hz
      rw [this]
      exact an
    | ok z =>
      rw [hz] at an
      obtain ⟨p, rfl, hp⟩ := an
      have ha1 := s1 _ _ ha
      refine ⟨_, rfl, p, _, _, _, rfl, rfl, SqT.of hp, atI_nat (j := 0) rfl, rfl, _, rfl, ?_⟩
      rw [str_eq (show ("number" : Str) = "number" from rfl)]
      refine iteF ⟨_, rfl, a, _, _, _, rfl, rfl, SqT.of ha1, atI_nat (j := 0) rfl, rfl, _, rfl, ?_⟩
      cases t with
      | num z => exact it.elim
      | of x => exact it.elim
      | un k t1 =>
        cases hk0
        cases k with
        | minus =>
          rw [str_eq (show kind (.un .minus t0) = "minus" from rfl)]
          refine iteT ⟨_, rfl, p, _, _, _, rfl, rfl, SqT.of hp, atI_nat (j := 1) rfl, _, _, rfl, rfl, (by show 2 ≤ sizeLine; decide), fun r hr0 => q _ _ (s1.trans (same_new hr0 _)) ?_⟩
          simp only [ev, hz, una]
          refine ⟨r, rfl, ?_⟩
          rw [upd_same, show (0 : Int) - z = -z by omega]
        | no =>
          rw [str_ne (show kind (.un .no t0) ≠ "minus" by show UK.no.str ≠ _; decide)]
          refine iteF ⟨_, rfl, a, _, _, _, rfl, rfl, SqT.of ha1, atI_nat (j := 0) rfl, rfl, _, rfl, ?_⟩
          rw [str_eq (show kind (.un .no t0) = "no" from rfl)]
          refine iteT ⟨_, rfl, p, _, _, _, rfl, rfl, SqT.of hp, atI_nat (j := 1) rfl, rfl, .inr ⟨_, rfl, (by show 2 ≤ sizeLine; decide), fun r hr0 => q _ _ (s1.trans (same_new hr0 _)) ?_⟩⟩
          simp only [ev, hz, una]
          refine ⟨r, rfl, ?_⟩
          rw [upd_same, int_dec]
          rfl
      | cho t1 t2 t3 =>
        cases hk0
        obtain ⟨w1, w2, rfl⟩ : ∃ w1 w2, ws' = [w1, w2] := by
          match ws', hl with
          | [w1, w2], _ => exact ⟨w1, w2, rfl⟩
          | [], h => simp [kids] at h
          | [_], h => simp [kids] at h
          | _ :: _ :: _ :: _, h => simp [kids] at h
        rw [str_ne (show kind (.cho t0 t2 t3) ≠ "minus" by show ("choose" : Str) ≠ _; decide)]
        refine iteF ⟨_, rfl, a, _, _, _, rfl, rfl, SqT.of ha1, atI_nat (j := 0) rfl, rfl, _, rfl, ?_⟩
        rw [str_ne (show kind (.cho t0 t2 t3) ≠ "no" by show ("choose" : Str) ≠ _; decide)]
        refine iteF ⟨_, rfl, a, _, _, _, rfl, rfl, SqT.of ha1, atI_nat (j := 0) rfl, rfl, _, rfl, ?_⟩
        rw [str_eq (show kind (.cho t0 t2 t3) = "choose" from rfl)]
        refine iteT ⟨_, rfl, _, rfl, p, _, _, _, rfl, rfl, SqT.of hp, atI_nat (j := 1) rfl, rfl, .inr ⟨_, rfl, _, _, rfl, rfl, ?_⟩⟩
        rw [int_dec]
        by_cases z0 : z = 0
        · rw [decide_eq_true z0]
          refine ⟨a, _, _, _, rfl, rfl, SqT.of ha1, atI_nat (j := 3) rfl, _, rfl, _, rfl, w2, t3, bA, gA, bs, gs, rfl, (hk 2 w2 t3 rfl rfl).mono s1, hh.mono s1, fun v' H' s' an' => q v' H' (s1.trans s') ?_⟩
          rw [cho_ok hz, if_pos z0]
          exact an'
        · rw [decide_eq_false z0]
          refine ⟨a, _, _, _, rfl, rfl, SqT.of ha1, atI_nat (j := 2) rfl, _, rfl, _, rfl, w1, t2, bA, gA, bs, gs, rfl, (hk 1 w1 t2 rfl rfl).mono s1, hh.mono s1, fun v' H' s' an' => q v' H' (s1.trans s') ?_⟩
          rw [cho_ok hz, if_neg z0]
          exact an'
      | bin k t1 t2 =>
        cases hk0
        obtain ⟨w1, rfl⟩ : ∃ w1, ws' = [w1] := by
          match ws', hl with
          | [w1], _ => exact ⟨w1, rfl⟩
          | [], h => simp [kids] at h
          | _ :: _ :: _, h => simp [kids] at h
        rw [str_ne (show kind (.bin k t0 t2) ≠ "minus" by show k.str ≠ _; cases k <;> decide)]
        refine iteF ⟨_, rfl, a, _, _, _, rfl, rfl, SqT.of ha1, atI_nat (j := 0) rfl, rfl, _, rfl, ?_⟩
        rw [str_ne (show kind (.bin k t0 t2) ≠ "no" by show k.str ≠ _; cases k <;> decide)]
        refine iteF ⟨_, rfl, a, _, _, _, rfl, rfl, SqT.of ha1, atI_nat (j := 0) rfl, rfl, _, rfl, ?_⟩
        rw [str_ne (show kind (.bin k t0 t2) ≠ "choose" from bk_ne k)]
        refine iteF ?_
        dsimp only [tNext]
        refine tseq_via (fun σ H2 => σ = [some (.ref a), some (.ref bA), some (.ref gA), none, none, some (.ref p), none] ∧ H2 = H1 ∧ ¬ short k z = true) ?_ ?_
        · rintro σ H2 ⟨rfl, rfl, ns⟩
          refine ⟨_, rfl, a, _, _, _, rfl, rfl, SqT.of ha1, atI_nat (j := 2) rfl, _, rfl, _, rfl, w1, t2, bA, gA, bs, gs, rfl, (hk 1 w1 t2 rfl rfl).mono s1, hh.mono s1, fun v2 H2 s2 an2 => ?_⟩
          cases hy : ev (held bs gs) t2 with
          | error e =>
            rw [hy] at an2
            obtain ⟨p2, x, rfl, hp2⟩ := an2.first
            refine ⟨_, rfl, p2, _, _, _, rfl, rfl, SqT.of hp2, atI_nat (j := 0) rfl, rfl, _, rfl, ?_⟩
            rw [str_ne (word_err e)]
            refine iteT ⟨_, rfl, q _ H2 (s1.trans s2) ?_⟩
            rw [bin_err2 hz ns hy]
            exact an2
          | ok y =>
            rw [hy] at an2
            obtain ⟨p2, rfl, hp2⟩ := an2
            refine ⟨_, rfl, p2, _, _, _, rfl, rfl, SqT.of hp2, atI_nat (j := 0) rfl, rfl, _, rfl, ?_⟩
            rw [str_eq (show ("number" : Str) = "number" from rfl)]
            have sx := val_small (kid_nums (show t0 ∈ kids (.bin k t0 t2) by simp [kids]) hs.nums) hz
            have sy := val_small (kid_nums (show t2 ∈ kids (.bin k t0 t2) by simp [kids]) hs.nums) hy
            refine iteF ⟨_, rfl, _, rfl, p, _, _, _, rfl, rfl, SqT.of (s2 _ _ hp), atI_nat (j := 1) rfl, _, rfl, p2, _, _, _, rfl, rfl, SqT.of hp2, atI_nat (j := 1) rfl, a, k, t0, t2, z, y, rfl, hs.at_.mono (s1.trans s2), sx, sy, fun v' H' s' an' => q v' H' (s1.trans (s2.trans s')) ?_⟩
            rw [bin_join hz ns hy]
            exact an'
        · intro fin
          refine ⟨_, rfl, a, _, _, _, rfl, rfl, SqT.of ha1, atI_nat (j := 0) rfl, rfl, _, rfl, ?_⟩
          have done : short k z = true → ∀ r : Addr, H1 r = none → Q (.ref r) (upd H1 r (.tup [.str "number", .int (if (!decide (V.int z = V.int 0)) = true then 1 else 0)])) := fun sh r hr0 => by
            refine q _ _ (s1.trans (same_new hr0 _)) ?_
            rw [bin_short hz sh]
            refine ⟨r, rfl, ?_⟩
            rw [upd_same, int_dec]
            rfl
          by_cases ka : k = .and
          · subst ka
            rw [str_eq (show kind (.bin .and t0 t2) = "&&" from rfl)]
            refine iteT ⟨_, rfl, p, _, _, _, rfl, rfl, SqT.of hp, atI_nat (j := 1) rfl, rfl, _, rfl, ?_⟩
            rw [int_dec]
            by_cases z0 : z = 0
            · rw [decide_eq_true z0]
              refine iteT (iteT ⟨_, rfl, p, _, _, _, rfl, rfl, SqT.of hp, atI_nat (j := 1) rfl, rfl, .inr ⟨_, rfl, (by show 2 ≤ sizeLine; decide), fun r hr0 => done ?_ r hr0⟩⟩)
              rw [z0]
              rfl
            · rw [decide_eq_false z0]
              refine iteF ⟨_, rfl, a, _, _, _, rfl, rfl, SqT.of ha1, atI_nat (j := 0) rfl, rfl, _, rfl, ?_⟩
              rw [str_ne (show kind (.bin .and t0 t2) ≠ "||" by show BK.and.str ≠ "||"; decide)]
              exact iteF (iteF (fin _ _ ⟨rfl, rfl, by unfold short; rw [decide_eq_false z0]; simp⟩))
          · rw [str_ne (show kind (.bin k t0 t2) ≠ "&&" from fun e => ka (bk_inj (k' := .and) e))]
            refine iteF (iteF ⟨_, rfl, a, _, _, _, rfl, rfl, SqT.of ha1, atI_nat (j := 0) rfl, rfl, _, rfl, ?_⟩)
            by_cases ko : k = .or
            · subst ko
              rw [str_eq (show kind (.bin .or t0 t2) = "||" from rfl)]
              refine iteT ⟨_, rfl, p, _, _, _, rfl, rfl, SqT.of hp, atI_nat (j := 1) rfl, rfl, _, rfl, ?_⟩
              rw [int_dec]
              by_cases z0 : z = 0
              · rw [decide_eq_true z0]
                exact iteF (fin _ _ ⟨rfl, rfl, by unfold short; rw [decide_eq_true z0]; simp⟩)
              · rw [decide_eq_false z0]
                refine iteT ⟨_, rfl, p, _, _, _, rfl, rfl, SqT.of hp, atI_nat (j := 1) rfl, rfl, .inr ⟨_, rfl, (by show 2 ≤ sizeLine; decide), fun r hr0 => done ?_ r hr0⟩⟩
                unfold short
                rw [decide_eq_false z0]
                rfl
            · rw [str_ne (show kind (.bin k t0 t2) ≠ "||" from fun e => ko (bk_inj (k' := .or) e))]
              exact iteF (iteF (fin _ _ ⟨rfl, rfl, by unfold short; rw [decide_eq_false ka, decide_eq_false ko]; simp⟩))
end
end K19
namespace K19
open PySem L2 K19R
theorem none_in : ∀ {t : T}, inner t → inV .non ((kids t).map fun u => optV (shows u)) = !kidsShow t
  | .num _, h => h.elim
  | .of _, h => h.elim
  | .un k a, _ => by
    show (eqV (optV (shows a)) .non || false) = !(shows a).isSome
    cases shows a <;> rfl
  | .bin k a b, _ => by
    show (eqV (optV (shows a)) .non || (eqV (optV (shows b)) .non || false)) = !((shows a).isSome && (shows b).isSome)
    cases shows a <;> cases shows b <;> rfl
  | .cho a b c, _ => by
    show (eqV (optV (shows a)) .non || (eqV (optV (shows b)) .non || (eqV (optV (shows c)) .non || false))) = !((shows a).isSome && ((shows b).isSome && (shows c).isSome))
    cases shows a <;> cases shows b <;> cases shows c <;> rfl
theorem flat_opt (ts : List T) : (ts.map fun u => optV (shows u)).all flatV = true := by
  rw [List.all_eq_true]
  intro x hx
  obtain ⟨u, _, rfl⟩ := List.mem_map.mp hx
  cases shows u <;> rfl
theorem b1_of (p : Bool) : (if p = true then (1 : Int) else 0) = K19.b1 p := by cases p <;> rfl
theorem shows_bin {k : BK} {a b : T} : shows (.bin k a b) = none := rfl
theorem shows_cho {a b c : T} : shows (.cho a b c) = none := rfl
section
variable {P : Program} {w : World} {K : PySem.W.Frag} {mg : Str → Option Value} {base : Heap} {D fI cc cd CN CG CZ : Addr}
theorem scLNumber : FnScope ["_law_node"] ["_law_node"] (defScope sLNumber) := ⟨rfl, rfl, rfl, by decide +kernel, rfl, by decide +kernel, by decide +kernel⟩
def spLNumber : Sp := fun vs H Q _ => ∃ (v : V) (t : T), vs = [v] ∧ TreeAt H v t ∧ Q (optV (shows t)) H
theorem cal_l_number (Df : Def K mg "_law_number" sLNumber ["_law_node"]) : Cal P w K mg base CX0 1 "_law_number" ["_law_node"] spLNumber := by
  refine Df.cal fun f fd F => F.ok scLNumber (fun vs H Q E ⟨v, t, e, _⟩ => by rw [e]; rfl) fun cdv A outer st H vs Q E hr h => ?_
  obtain ⟨v, t, rfl, hs, q⟩ := h
  refine ⟨_, pss_cons (ps_if (pt_cmpR op_eq (pe_ix ix_tup (pv 0) pe_int (fun _ _ => rfl)) pe_str (nomark _)) (pss_one (ps_ret (pe_ix ix_tup (pv 0) pe_int (fun _ _ => rfl)))) pss_nil)
    (pss_cons (ps_if (PW.pt (pw_and (pt_cmpR op_eq (pe_ix ix_tup (pv 0) pe_int (fun _ _ => rfl)) pe_str (nomark _)) (pw_and1 (pt_cmpR op_eq (pe_ix ix_tup (pe_ix ix_tup (pv 0) pe_int (fun _ _ => rfl)) pe_int (fun _ _ => rfl)) pe_str (nomark _)))))
      (pss_one (ps_ret (pe_op op_sub pe_int (pe_ix ix_tup (pe_ix ix_tup (pv 0) pe_int (fun _ _ => rfl)) pe_int (fun _ _ => rfl))))) pss_nil)
    (pss_one (ps_ret pe_non))), ?_⟩
  rcases leaf_or t with ⟨z, rfl⟩ | ⟨x, rfl⟩ | it
  · obtain ⟨a, rfl, ha⟩ := hs
    refine ⟨_, rfl, a, _, _, _, rfl, rfl, SqT.of ha, atI_nat (j := 0) rfl, rfl, _, rfl, ?_⟩
    rw [str_eq (show ("number" : Str) = "number" from rfl)]
    exact iteT ⟨_, rfl, a, _, _, _, rfl, rfl, SqT.of ha, atI_nat (j := 1) rfl, q⟩
  · obtain ⟨a, rfl, ha⟩ := hs
    refine ⟨_, rfl, a, _, _, _, rfl, rfl, SqT.of ha, atI_nat (j := 0) rfl, rfl, _, rfl, ?_⟩
    rw [str_ne (show ("of" : Str) ≠ "number" by decide)]
    refine iteF ⟨_, rfl, a, _, _, _, rfl, rfl, SqT.of ha, atI_nat (j := 0) rfl, rfl, _, rfl, ?_⟩
    rw [str_ne (show ("of" : Str) ≠ "minus" by decide)]
    exact iteF (iteF q)
  · obtain ⟨a, ws, rfl, ha, hl, hk⟩ := hs.node it
    refine ⟨_, rfl, a, _, _, _, rfl, rfl, SqT.of ha, atI_nat (j := 0) rfl, rfl, _, rfl, ?_⟩
    rw [str_ne (kind_num it)]
    refine iteF ⟨_, rfl, a, _, _, _, rfl, rfl, SqT.of ha, atI_nat (j := 0) rfl, rfl, _, rfl, ?_⟩
    by_cases km : kind t = "minus"
    · rw [str_eq km]
      cases t with
      | num z => exact it.elim
      | of x => exact it.elim
      | bin k t1 t2 => exact absurd km (by show k.str ≠ _; cases k <;> decide)
      | cho t1 t2 t3 => exact absurd km (by show ("choose" : Str) ≠ _; decide)
      | un k t1 =>
        cases k with
        | no => exact absurd km (by show UK.no.str ≠ _; decide)
        | minus =>
          obtain ⟨w0, rfl⟩ : ∃ w0, ws = [w0] := by
            match ws, hl with
            | [w0], _ => exact ⟨w0, rfl⟩
            | [], h => simp [kids] at h
            | _ :: _ :: _, h => simp [kids] at h
          have c0 := hk 0 w0 t1 rfl rfl
          rcases leaf_or t1 with ⟨z, rfl⟩ | ⟨x, rfl⟩ | i1
          · obtain ⟨p, rfl, hp⟩ := c0
            refine iteT ⟨_, rfl, a, _, _, _, rfl, rfl, SqT.of ha, atI_nat (j := 1) rfl, p, _, _, _, rfl, rfl, SqT.of hp, atI_nat (j := 0) rfl, rfl, _, rfl, ?_⟩
            rw [str_eq (show ("number" : Str) = "number" from rfl)]
            exact iteT ⟨_, rfl, a, _, _, _, rfl, rfl, SqT.of ha, atI_nat (j := 1) rfl, p, _, _, _, rfl, rfl, SqT.of hp, atI_nat (j := 1) rfl, _, _, rfl, rfl, q⟩
          · obtain ⟨p, rfl, hp⟩ := c0
            refine iteT ⟨_, rfl, a, _, _, _, rfl, rfl, SqT.of ha, atI_nat (j := 1) rfl, p, _, _, _, rfl, rfl, SqT.of hp, atI_nat (j := 0) rfl, rfl, _, rfl, ?_⟩
            rw [str_ne (show ("of" : Str) ≠ "number" by decide)]
            exact iteF q
          · obtain ⟨p, ws1, rfl, hp, _, _⟩ := c0.node i1
            refine iteT ⟨_, rfl, a, _, _, _, rfl, rfl, SqT.of ha, atI_nat (j := 1) rfl, p, _, _, _, rfl, rfl, SqT.of hp, atI_nat (j := 0) rfl, rfl, _, rfl, ?_⟩
            rw [str_ne (kind_num i1)]
            have : shows (.un .minus t1) = none := by
              cases t1 with
              | num z => exact i1.elim
              | of x => rfl
              | un k t1 => rfl
              | bin k t1 t2 => rfl
              | cho t1 t2 t3 => rfl
            rw [this] at q
            exact iteF q
    · rw [str_ne km]
      have : shows t = none := by
        cases t with
        | num z => exact it.elim
        | of x => exact it.elim
        | bin k t1 t2 => rfl
        | cho t1 t2 t3 => rfl
        | un k t1 =>
          cases k with
          | no => rfl
          | minus => exact absurd rfl km
      rw [this] at q
      exact iteF (iteF q)
theorem scLSettled : FnScope ["_law_node", "_law_numbers", "_law_due_here", "_law_part"] ["_law_node"] (defScope sLSettled) := ⟨rfl, rfl, rfl, by decide +kernel, rfl, by decide +kernel, by decide +kernel⟩
def spLSettled : Sp := fun vs H Q _ => ∃ (v : V) (t : T), vs = [v] ∧ SumAt 12 H v t ∧ inner t ∧ ∀ v' H', Same H H' → TreeAt H' v' (settle t) → Q v' H'
theorem cal_l_settled (Df : Def K mg "_law_settled" sLSettled ["_law_node"]) (BT : Bt mg) (C1 : Cal P w K mg base CX0 1 "_law_number" ["_law_node"] spLNumber) (C2 : Cal P w K mg base CX0 13 "_law_value" ["_law_node", "_law_book_here", "_law_given"] (spLValue K 12)) : Cal P w K mg base CX0 14 "_law_settled" ["_law_node"] spLSettled := by
  refine Df.cal fun f fd F => F.ok scLSettled (fun vs H Q E ⟨v, t, e, _⟩ => by rw [e]; rfl) fun cdv A outer st H vs Q E hr h => ?_
  obtain ⟨g1, d1, G1, m1, k1, b1⟩ := C1
  obtain ⟨g2, d2, G2, m2, k2, b2⟩ := C2
  have hr1 : Room 1 _ := hr.mono (by omega)
  have hr2 : Room 13 _ := hr.mono (by omega)
  obtain ⟨v, t, rfl, hs, it, q⟩ := h
  refine ⟨_, pss_cons (ps_setLc (i := 1) (own := [("_law_part", 3)]) (g := gName 3) (by rfl) scLSettled.nd rfl rfl (sw_true rfl rfl rfl (by decide +kernel)) (pi_tup (pe_slice sl_tup (pv 0) (po_some pe_int) po_none))
      (blkOk_by (own := [("_law_part", 3)]) (N := ["_law_node", "_law_numbers", "_law_due_here", "_law_part"]) (sc := defScope sLSettled) (by decide +kernel)) (fun _ _ _ _ _ => pg_name (i := 3) scLSettled.nd rfl (Or.inl rfl)) (fun _ _ _ _ _ => pts_nil)
      (fun _ _ _ _ _ => pe_call G1 hr1 rfl m1 k1 b1 .nil pass0 (pa_cons (pv 3) pa_nil)))
    (pss_cons (ps_if (pt_cmpR op_notIn_seq pe_non (pv 1) rfl)
      (pss_cons (ps_set (i := 2) scLSettled.nd rfl (.inl rfl) (pe_call G2 hr2 rfl m2 k2 b2 .nil pass0 (pa_cons (pv 0) (pa_cons pe_dnewK (pa_cons (pe_lst pa_nil) pa_nil)))))
      (pss_one (ps_if (pt_cmpR op_eq (pe_ix ix_tup (pv 2) pe_int (fun _ _ => rfl)) pe_str (nomark _))
        (pss_one (ps_ret (pe_ifExp (pt_cmpR op_ge (pe_ix ix_tup (pv 2) pe_int (fun _ _ => rfl)) pe_int (nomark _)) (pe_tup (pa_cons pe_str (pa_cons (pe_ix ix_tup (pv 2) pe_int (fun _ _ => rfl)) pa_nil)))
          (pe_tup (pa_cons pe_str (pa_cons (pe_tup (pa_cons pe_str (pa_cons (pe_op op_sub pe_int (pe_ix ix_tup (pv 2) pe_int (fun _ _ => rfl))) pa_nil))) pa_nil)))))) pss_nil))) pss_nil)
    (pss_cons (ps_if (pt_cmp (pc_isN (pe_ix ix_list (pv 1) pe_int (fun _ _ => rfl))) rfl) (pss_one (ps_ret (pv 0))) pss_nil)
    (pss_cons (ps_if (pt_cmpR op_eq (pe_ix ix_tup (pv 0) pe_int (fun _ _ => rfl)) pe_str (nomark _)) (pss_one (ps_ret (pe_ix ix_tup (pv 0) (pe_op op_add pe_int (pe_callTy call_int1 (by rfl) BT.int (by decide +kernel) (pa_cons (pe_cmpR op_eq (pe_ix ix_list (pv 1) pe_int (fun _ _ => rfl)) pe_int (nomark _)) pa_nil))) (fun _ _ => rfl)))) pss_nil)
    (pss_cons (ps_if (PW.pt (pw_or (PW.pt (pw_and (pt_cmpR op_eq (pe_ix ix_tup (pv 0) pe_int (fun _ _ => rfl)) pe_str (nomark _)) (pw_and1 (pt_cmpR op_eq (pe_ix ix_list (pv 1) pe_int (fun _ _ => rfl)) pe_int (nomark _)))))
        (pw_or1 (PW.pt (pw_and (pt_cmpR op_eq (pe_ix ix_tup (pv 0) pe_int (fun _ _ => rfl)) pe_str (nomark _)) (pw_and1 (pt_cmpR op_ne (pe_ix ix_list (pv 1) pe_int (fun _ _ => rfl)) pe_int (nomark _))))))))
      (pss_one (ps_ret (pe_tup (pa_cons pe_str (pa_cons (pe_callTy call_int1 (by rfl) BT.int (by decide +kernel) (pa_cons (pe_cmpR op_ne (pe_ix ix_list (pv 1) pe_int (fun _ _ => rfl)) pe_int (nomark _)) pa_nil)) pa_nil))))) pss_nil)
    (pss_one (ps_ret (pv 0))))))), ?_⟩
  obtain ⟨a, ws, rfl, ha, hl, hk⟩ := hs.le (show 12 ≤ 12 + 1 by decide) |>.node it
  refine ⟨_, rfl, 1, rfl, a, _, rfl, SqT.of ha, cut_not _ _, fun p1 hp1 => ?_⟩
  rw [cutV1]
  have s1 : Same H (upd H p1 (.tup ws)) := same_new hp1 _
  have hw : SqT K (upd H p1 (.tup ws)) p1 ws := SqT.of upd_same
  generalize upd H p1 (.tup ws) = H1 at s1 hw
  refine ⟨p1, rfl, ⟨_, hw⟩, fun L hL => ?_⟩
  refine lc_mapY (walk_tup (K := K) (a := p1) (xs := ws)) ((kids t).map fun u => optV (shows u)) (by rw [List.length_map, hl]) (by rw [hl]; have := kids_len t; omega) hL (fun H2 s2 => seqT s2 hw) (fun i x H2 H3 y hy' s2 hy k hk' => ?_) fun H2 s2 hL2 => ?_
  · obtain ⟨rfl, hx⟩ := hy
    rw [List.getElem?_map] at hy'
    cases eu : (kids t)[i]? with
    | none => rw [eu] at hy'; cases hy'
    | some u =>
      rw [eu] at hy'
      cases hy'
      exact ⟨rfl, _, rfl, x, u, rfl, ((hk i x u hx eu).mono (s1.trans s2)).at_, hk' _ (Same.refl _)⟩
  have s02 := s1.trans s2
  have fl := flat_opt (kids t)
  dsimp only [gName]
  refine tseq_via (fun σ H4 => σ[0]? = some (some (.ref a)) ∧ σ[1]? = some (some (.ref L)) ∧ Same H2 H4 ∧ settle t = K19.rest shows t) ?_ ?_
  · rintro σ H4 ⟨e0, e1, s4, er⟩
    rw [er] at q
    have s04 := s02.trans s4
    obtain ⟨u0, kr, hk0⟩ : ∃ u0 kr, kids t = u0 :: kr := by
      have := kids_pos it
      cases h2 : kids t with
      | nil => rw [h2] at this; simp at this
      | cons u0 kr => exact ⟨u0, kr, rfl⟩
    have hx0 : ((kids t).map fun u => optV (shows u))[0]? = some (optV (shows u0)) := by rw [hk0]; rfl
    have hL4 := s4 _ _ hL2
    have ha4 := s04 _ _ ha
    have tr4 : TreeAt H4 (.ref a) t := hs.at_.mono s04
    refine ⟨_, e1, L, _, _, _, rfl, rfl, SqL.of hL4, atI_nat (j := 0) hx0, _, rfl, ?_⟩
    rw [optV_some]
    cases ez : shows u0 with
    | none =>
      refine iteT ⟨_, e0, q _ H4 s04 ?_⟩
      have : K19.rest shows t = t := by
        cases t with
        | num n => exact it.elim
        | of x => exact it.elim
        | un k a => rfl
        | bin k a b =>
          cases hk0
          show (match shows u0 with | some x => _ | none => _) = _
          rw [ez]
        | cho a b c =>
          cases hk0
          show (match shows u0 with | some x => _ | none => _) = _
          rw [ez]
      rw [this]
      exact tr4
    | some z =>
      rw [ez] at hx0
      have hx0 : atI ((kids t).map fun u => optV (shows u)) 0 = some (.int z) := atI_nat (j := 0) hx0
      have part : ∀ (i : Nat) (y : V) (u : T), ws[i]? = some y → (kids t)[i]? = some u → TreeAt H4 y u := fun i y u h1 h2 => (hk i y u h1 h2).at_.mono s04
      refine iteF ⟨_, e0, a, _, _, _, rfl, rfl, SqT.of ha4, atI_nat (j := 0) rfl, rfl, _, rfl, ?_⟩
      by_cases kc : kind t = "choose"
      · rw [str_eq kc]
        cases t with
        | num n => exact it.elim
        | of x => exact it.elim
        | un k a => exact absurd kc (by show k.str ≠ _; cases k <;> decide)
        | bin k a b => exact absurd kc (bk_ne k)
        | cho t1 t2 t3 =>
          cases hk0
          obtain ⟨w0, w1, w2, rfl⟩ : ∃ w0 w1 w2, ws = [w0, w1, w2] := by
            match ws, hl with
            | [w0, w1, w2], _ => exact ⟨w0, w1, w2, rfl⟩
            | [], h => simp [kids] at h
            | [_], h => simp [kids] at h
            | [_, _], h => simp [kids] at h
            | _ :: _ :: _ :: _ :: _, h => simp [kids] at h
          have er2 : K19.rest shows (.cho u0 t2 t3) = if z = 0 then t3 else t2 := by
            show (match shows u0 with | some x => _ | none => _) = _
            rw [ez]
          rw [er2] at q
          refine iteT ⟨_, e0, _, e1, L, _, _, _, rfl, rfl, SqL.of hL4, hx0, rfl, .inr ⟨_, rfl, _, _, rfl, rfl, ?_⟩⟩
          rw [int_dec]
          by_cases z0 : z = 0
          · rw [decide_eq_true z0]
            rw [if_pos z0] at q
            exact ⟨a, _, _, _, rfl, rfl, SqT.of ha4, atI_nat (j := 3) rfl, q w2 H4 s04 (part 2 w2 t3 rfl rfl)⟩
          · rw [decide_eq_false z0]
            rw [if_neg z0] at q
            exact ⟨a, _, _, _, rfl, rfl, SqT.of ha4, atI_nat (j := 2) rfl, q w1 H4 s04 (part 1 w1 t2 rfl rfl)⟩
      · rw [str_ne kc]
        have done : K19.rest shows t = .num (K19.b1 (!decide (z = 0))) → ∀ r : Addr, H4 r = none → Q (.ref r) (upd H4 r (.tup [.str "number", .int (if (!decide (V.int z = V.int 0)) = true then 1 else 0)])) := fun sh r hr0 => by
          rw [sh] at q
          refine q _ _ (s04.trans (same_new hr0 _)) ⟨r, rfl, ?_⟩
          rw [upd_same, int_dec, b1_of]
        refine iteF ⟨_, e0, a, _, _, _, rfl, rfl, SqT.of ha4, atI_nat (j := 0) rfl, rfl, _, rfl, ?_⟩
        by_cases ka : kind t = "&&"
        · rw [str_eq ka]
          cases t with
          | num n => exact it.elim
          | of x => exact it.elim
          | un k a => exact absurd ka (by show k.str ≠ _; cases k <;> decide)
          | cho t1 t2 t3 => exact absurd rfl kc
          | bin k t1 t2 =>
            cases hk0
            cases (bk_inj (k := k) (k' := .and) ka)
            have er2 : K19.rest shows (.bin .and u0 t2) = if short .and z = true then .num (K19.b1 (!decide (z = 0))) else .bin .and u0 t2 := by
              show (match shows u0 with | some x => _ | none => _) = _
              rw [ez]
            refine iteT ⟨_, e1, L, _, _, _, rfl, rfl, SqL.of hL4, hx0, rfl, _, rfl, ?_⟩
            rw [int_dec]
            by_cases z0 : z = 0
            · rw [decide_eq_true z0]
              refine iteT (iteT ⟨_, e1, L, _, _, _, rfl, rfl, SqL.of hL4, hx0, rfl, .inr ⟨_, rfl, (by show 2 ≤ sizeLine; decide), fun r hr0 => done ?_ r hr0⟩⟩)
              rw [er2, if_pos]
              unfold short
              rw [decide_eq_true z0]
              rfl
            · rw [decide_eq_false z0]
              refine iteF ⟨_, e0, a, _, _, _, rfl, rfl, SqT.of ha4, atI_nat (j := 0) rfl, rfl, _, rfl, ?_⟩
              rw [str_ne (show kind (.bin .and u0 t2) ≠ "||" by show BK.and.str ≠ "||"; decide)]
              refine iteF (iteF ⟨_, e0, q _ H4 s04 ?_⟩)
              rw [er2, if_neg]
              · exact tr4
              · unfold short
                rw [decide_eq_false z0]
                simp
        · rw [str_ne ka]
          refine iteF (iteF ⟨_, e0, a, _, _, _, rfl, rfl, SqT.of ha4, atI_nat (j := 0) rfl, rfl, _, rfl, ?_⟩)
          by_cases ko : kind t = "||"
          · rw [str_eq ko]
            cases t with
            | num n => exact it.elim
            | of x => exact it.elim
            | un k a => exact absurd ko (by show k.str ≠ _; cases k <;> decide)
            | cho t1 t2 t3 => exact absurd rfl kc
            | bin k t1 t2 =>
              cases hk0
              cases (bk_inj (k := k) (k' := .or) ko)
              have er2 : K19.rest shows (.bin .or u0 t2) = if short .or z = true then .num (K19.b1 (!decide (z = 0))) else .bin .or u0 t2 := by
                show (match shows u0 with | some x => _ | none => _) = _
                rw [ez]
              refine iteT ⟨_, e1, L, _, _, _, rfl, rfl, SqL.of hL4, hx0, rfl, _, rfl, ?_⟩
              rw [int_dec]
              by_cases z0 : z = 0
              · rw [decide_eq_true z0]
                refine iteF ⟨_, e0, q _ H4 s04 ?_⟩
                rw [er2, if_neg]
                · exact tr4
                · unfold short
                  rw [decide_eq_true z0]
                  simp
              · rw [decide_eq_false z0]
                refine iteT ⟨_, e1, L, _, _, _, rfl, rfl, SqL.of hL4, hx0, rfl, .inr ⟨_, rfl, (by show 2 ≤ sizeLine; decide), fun r hr0 => done ?_ r hr0⟩⟩
                rw [er2, if_pos]
                unfold short
                rw [decide_eq_false z0]
                rfl
          · rw [str_ne ko]
            refine iteF (iteF ⟨_, e0, q _ H4 s04 ?_⟩)
            have : K19.rest shows t = t := by
              cases t with
              | num n => exact it.elim
              | of x => exact it.elim
              | un k a => rfl
              | cho t1 t2 t3 => exact absurd rfl kc
              | bin k a b =>
                cases hk0
                show (match shows u0 with | some x => _ | none => _) = _
                rw [ez]
                refine if_neg ?_
                unfold short
                rw [decide_eq_false (fun e : k = .and => ka (by rw [e]; rfl)), decide_eq_false (fun e : k = .or => ko (by rw [e]; rfl))]
                simp
            rw [this]
            exact tr4
  · intro fin
    refine ⟨_, rfl, L, _, rfl, .inl (SqL.of hL2), rfl, fl, _, rfl, ?_⟩
    show if (!inV .non ((kids t).map fun u => optV (shows u))) = true then _ else _
    rw [none_in it, Bool.not_not]
    by_cases ks : kidsShow t = true
    · rw [ks]
      refine iteT ⟨_, rfl, fun d hd => ⟨Nat.zero_le _, fun g hg => ?_⟩⟩
      have s3 : Same H2 (upd (upd H2 d (.dK [])) g (.lst [])) := (same_new hd _).trans (same_new hg _)
      have hd3 : (upd (upd H2 d (.dK [])) g (.lst [])) d = some (.dK []) := (same_new hg _) _ _ upd_same
      have hg3 : (upd (upd H2 d (.dK [])) g (.lst [])) g = some (.lst []) := upd_same
      generalize upd (upd H2 d (.dK [])) g (.lst []) = H3 at s3 hd3 hg3
      have s03 := s02.trans s3
      refine ⟨.ref a, t, d, g, [], [], rfl, hs.mono s03, ⟨hd3, SqL.of hg3, ⟨fun p hp => (nomatch hp), fun p hp => (nomatch hp)⟩⟩, fun v4 H4 s4 an => ?_⟩
      have hv : held [] [] = v0 := funext held_nil
      rw [hv] at an
      cases hz : ev v0 t with
      | error e =>
        rw [hz] at an
        obtain ⟨p, x, rfl, hp⟩ := an.first
        refine ⟨_, rfl, p, _, _, _, rfl, rfl, SqT.of hp, atI_nat (j := 0) rfl, rfl, _, rfl, ?_⟩
        rw [str_ne (word_err e)]
        exact iteF (fin _ _ ⟨rfl, rfl, s3.trans s4, settle_err hz⟩)
      | ok z =>
        rw [hz] at an
        obtain ⟨p, rfl, hp⟩ := an
        refine ⟨_, rfl, p, _, _, _, rfl, rfl, SqT.of hp, atI_nat (j := 0) rfl, rfl, _, rfl, ?_⟩
        rw [str_eq (show ("number" : Str) = "number" from rfl)]
        refine iteT ⟨_, rfl, p, _, _, _, rfl, rfl, SqT.of hp, atI_nat (j := 1) rfl, _, _, rfl, rfl, _, rfl, ?_⟩
        rw [settle_num ks hz] at q
        unfold numT at q
        by_cases z0 : 0 ≤ z
        · rw [decide_eq_true z0]
          rw [if_pos z0] at q
          exact iteT ⟨_, rfl, p, _, _, _, rfl, rfl, SqT.of hp, atI_nat (j := 1) rfl, (by show 2 ≤ sizeLine; decide), fun r hr0 => q _ _ (s03.trans (s4.trans (same_new hr0 _))) ⟨r, rfl, upd_same⟩⟩
        · rw [decide_eq_false z0]
          rw [if_neg z0] at q
          refine iteF ⟨_, rfl, p, _, _, _, rfl, rfl, SqT.of hp, atI_nat (j := 1) rfl, _, _, rfl, rfl, (by show 2 ≤ sizeLine; decide), fun r hr0 => ⟨(by show 2 ≤ sizeLine; decide), fun r2 hr2 => q _ _ (s03.trans (s4.trans ((same_new hr0 _).trans (same_new hr2 _)))) ⟨r2, .ref r, rfl, upd_same, r, rfl, (same_new hr2 _) _ _ upd_same⟩⟩⟩
    · rw [Bool.eq_false_iff.mpr ks]
      exact iteF (fin _ _ ⟨rfl, rfl, Same.refl _, settle_not ks⟩)
end
end K19
namespace K19
open PySem L2 K19R
section
variable {P : Program} {w : World} {K : PySem.W.Frag} {mg : Str → Option Value} {base : Heap} {D fI cc cd CN CG CZ : Addr}
theorem scLFolded : FnScope ["_law_node", "_law_part"] ["_law_node"] (defScope sLFolded) := ⟨rfl, rfl, rfl, by decide +kernel, rfl, by decide +kernel, by decide +kernel⟩
def spLFolded (n : Nat) : Sp := fun vs H Q _ => ∃ (v : V) (t : T), vs = [v] ∧ SumAt n H v t ∧ n ≤ 12 ∧ ∀ v' H', Same H H' → TreeAt H' v' (foldL t) → Q v' H'
theorem cal_l_folded (Df : Def K mg "_law_folded" sLFolded ["_law_node"]) (BT : Bt mg) (C1 : Cal P w K mg base CX0 14 "_law_settled" ["_law_node"] spLSettled) (n : Nat) : Cal P w K mg base CX0 (n + 14) "_law_folded" ["_law_node"] (spLFolded n) := by
  refine Df.cals (fun vs H Q E ⟨v, t, e, h, _⟩ => h.no) (fun n f fd F G m b => ?_) n
  refine F.ok scLFolded (fun vs H Q E ⟨v, t, e, _⟩ => by rw [e]; rfl) fun cdv A outer st H vs Q E hr h => ?_
  obtain ⟨g1, d1, G1, m1, k1, b1⟩ := C1
  have hr1 : Room 14 _ := hr.mono (by omega)
  obtain ⟨v, t, rfl, hs, hn, q⟩ := h
  refine ⟨_, pss_cons (ps_if (pt_cmpR op_in_seq (pe_ix ix_tup (pv 0) pe_int (fun _ _ => rfl)) (pe_lst (pa_cons pe_str (pa_cons pe_str pa_nil))) rfl) (pss_one (ps_ret (pv 0))) pss_nil)
    (pss_one (ps_ret (pe_call G1 hr1 rfl m1 k1 b1 .nil pass0 (pa_cons (pe_op op_catT (pe_tup (pa_cons (pe_ix ix_tup (pv 0) pe_int (fun _ _ => rfl)) pa_nil))
      (pe_callTy call_tuple_of (by rfl) BT.tuple (by decide +kernel) (pa_cons (pe_lc (own := [("_law_part", 1)]) (g := gName 1) (by rfl) scLFolded.nd (pi_tup (pe_slice sl_tup (pv 0) (po_some pe_int) po_none))
        (blkOk_by (own := [("_law_part", 1)]) (N := ["_law_node", "_law_part"]) (sc := defScope sLFolded) (by decide +kernel)) (fun _ _ _ _ _ => pg_name (i := 1) scLFolded.nd rfl (Or.inl rfl)) (fun _ _ _ _ _ => pts_nil)
        (fun _ _ _ _ _ => pe_call G hr rfl m F.kp b .nil pass0 (pa_cons (pv 1) pa_nil))) pa_nil))) pa_nil)))), ?_⟩
  rcases leaf_or t with ⟨z, rfl⟩ | ⟨x, rfl⟩ | it
  · obtain ⟨a, rfl, ha⟩ := hs.at_
    refine ⟨_, rfl, a, _, _, _, rfl, rfl, SqT.of ha, atI_nat (j := 0) rfl, (by show 2 ≤ sizeLine; decide), fun p hp => ⟨p, _, rfl, .inl (SqL.of upd_same), rfl, rfl, _, rfl, iteT ⟨_, rfl, q _ _ (same_new hp _) (hs.at_.mono (same_new hp _))⟩⟩⟩
  · obtain ⟨a, rfl, ha⟩ := hs.at_
    refine ⟨_, rfl, a, _, _, _, rfl, rfl, SqT.of ha, atI_nat (j := 0) rfl, (by show 2 ≤ sizeLine; decide), fun p hp => ⟨p, _, rfl, .inl (SqL.of upd_same), rfl, rfl, _, rfl, iteT ⟨_, rfl, q _ _ (same_new hp _) (hs.at_.mono (same_new hp _))⟩⟩⟩
  obtain ⟨a, ws, rfl, ha, hl, hk⟩ := hs.node it
  refine ⟨_, rfl, a, _, _, _, rfl, rfl, SqT.of ha, atI_nat (j := 0) rfl, (by show 2 ≤ sizeLine; decide), fun p hp => ⟨p, _, rfl, .inl (SqL.of upd_same), rfl, rfl, _, rfl, ?_⟩⟩
  have s0 : Same H (upd H p (.lst [.str "number", .str "of"])) := same_new hp _
  show if inV (V.str (kind t)) ((["number", "of"] : List Str).map V.str) = true then _ else _
  rw [inV_str, decide_eq_false (show ¬ kind t ∈ (["number", "of"] : List Str) from fun h => by
    rcases List.mem_cons.mp h with e | h
    · exact kind_num it e
    · exact kind_of it (List.mem_singleton.mp h))]
  refine iteF ?_
  generalize upd H p (.lst [.str "number", .str "of"]) = H0 at s0
  refine ⟨_, rfl, a, _, _, _, rfl, rfl, SqT.of (s0 _ _ ha), atI_nat (j := 0) rfl, (by show 1 ≤ sizeLine; decide), fun p0 hp0 => ?_⟩
  have s1 : Same H0 (upd H0 p0 (.tup [.str (kind t)])) := same_new hp0 _
  have h0 : (upd H0 p0 (.tup [.str (kind t)])) p0 = some (.tup [.str (kind t)]) := upd_same
  refine ⟨_, rfl, 1, rfl, a, _, rfl, SqT.of (s1 _ _ (s0 _ _ ha)), cut_not _ _, fun p1 hp1 => ?_⟩
  rw [cutV1]
  generalize upd H0 p0 (.tup [.str (kind t)]) = H1 at s1 h0 hp1
  have s2 : Same H1 (upd H1 p1 (.tup ws)) := same_new hp1 _
  have hw : SqT K (upd H1 p1 (.tup ws)) p1 ws := SqT.of upd_same
  generalize upd H1 p1 (.tup ws) = H2 at s2 hw
  have s02 := s0.trans (s1.trans s2)
  refine ⟨p1, rfl, ⟨_, hw⟩, fun L hL => ?_⟩
  refine lc_relY (walk_tup (K := K) (a := p1) (xs := ws)) (fun i y H' => ∃ u, (kids t)[i]? = some u ∧ TreeAt H' y (foldL u)) (by rw [hl]; have := kids_len t; omega) hL (fun H2 s2 => seqT s2 hw) (fun i y H2 H3 tk h => by
      obtain ⟨u, e, h⟩ := h
      exact ⟨u, e, h.tk tk⟩) (fun i x H3 H4 hi s3 hy k hk' => ?_) fun H3 acc s3 hL2 hacc hR => ?_
  · obtain ⟨rfl, hx⟩ := hy
    have hku : i < (kids t).length := by rw [← hl]; exact hi
    have eu : (kids t)[i]? = some (kids t)[i] := List.getElem?_eq_getElem hku
    generalize (kids t)[i] = u at eu
    exact ⟨rfl, _, rfl, x, u, rfl, (hk i x u hx eu).mono (s02.trans s3), by omega, fun v' H4 s4 h4 => hk' v' H4 s4 ⟨u, eu, h4⟩⟩
  have s03 := s02.trans s3
  have n0 : acc ≠ [] := by
    have := kids_pos it
    intro e
    rw [e] at hacc
    rw [← hl] at this
    simp at hacc
    omega
  refine ⟨L, acc, rfl, .inl ⟨SqL.of hL2, fun p2 hp2 => ?_⟩⟩
  have s4 : Same H3 (upd H3 p2 (.tup acc)) := same_new hp2 _
  have h2 : (upd H3 p2 (.tup acc)) p2 = some (.tup acc) := upd_same
  generalize upd H3 p2 (.tup acc) = H4 at s4 h2
  refine ⟨p0, p2, [.str (kind t)], acc, rfl, rfl, SqT.of (s4 _ _ (s3 _ _ (s2 _ _ h0))), SqT.of h2, List.cons_ne_nil _ _, ?_, fun e => absurd e n0, fun _ p3 hp3 => ?_⟩
  · have := kids_len t
    show 1 + acc.length ≤ sizeLine
    rw [sizeLine_eq]
    omega
  have s5 : Same H4 (upd H4 p3 (.tup ([.str (kind t)] ++ acc))) := same_new hp3 _
  have h3 : (upd H4 p3 (.tup ([.str (kind t)] ++ acc))) p3 = some (.tup (.str (kind (mk t)) :: acc)) := by rw [upd_same, kind_mk]; rfl
  generalize upd H4 p3 (.tup ([.str (kind t)] ++ acc)) = H5 at s5 h3
  have s35 := s4.trans s5
  have tm : TreeAt H5 (.ref p3) (mk t) := TreeAt.make (inner_mk it) h3 (by rw [kids_mk, List.length_map, hacc, hl]) fun i y u h1 h2 => by
    rw [kids_mk, List.getElem?_map] at h2
    obtain ⟨u', e, h⟩ := hR i y h1
    rw [e] at h2
    cases h2
    exact h.mono s35
  have dm := mk_dep hs.nums
  have hd := hs.dep
  have sm : SumAt 12 H5 (.ref p3) (mk t) := ⟨tm, mk_nums hs.nums, fun x hx => hs.nms x ((mk_sub hs.nums).subset hx), by omega⟩
  rw [fold_mk it] at q
  exact ⟨_, _, rfl, sm, inner_mk it, fun v' H' s' h' => q v' H' (s03.trans (s35.trans s')) h'⟩
end
end K19
namespace K19
open PySem L2 K19R
abbrev sLKind : Stmt := topS 55
abbrev sLAnswer : Stmt := topS 56
abbrev sLDue : Stmt := topS 57
/-- u stands in t -/
structure In_ (u t : T) : Prop where
  nums : Nums In t → Nums In u
  nms : ∀ x ∈ names u, x ∈ names t
  dep : depth u ≤ depth t
theorem In_.refl (t : T) : In_ t t := ⟨id, fun _ h => h, Nat.le_refl _⟩
theorem In_.up {u s t : T} (a : In_ u s) (h : s ∈ kids t) : In_ u t := ⟨fun n => a.nums (kid_nums h n), fun x hx => kid_names h (a.nms x hx), Nat.le_trans a.dep (Nat.le_of_lt (kid_depth h))⟩
def Er.in_ (t : T) : Er → Prop
  | .noInt _ => True
  | .great u => In_ u t
  | .zero u => In_ u t
theorem Er.in_up {s t : T} (h : s ∈ kids t) : ∀ {e : Er}, Er.in_ s e → Er.in_ t e
  | .noInt _, _ => trivial
  | .great _, a => In_.up a h
  | .zero _, a => In_.up a h
theorem join_in {t : T} {k : BK} {x y : Int} {e : Er} (h : join t k x y = .error e) : Er.in_ t e := by
  unfold join at h
  split at h
  · cases h; exact In_.refl t
  · unfold bnd at h
    split at h
    · cases h; exact In_.refl t
    · cases h
theorem ev_in {val : Str → Str} : ∀ {t : T} {e : Er}, ev val t = .error e → Er.in_ t e := by
  intro t
  induction t with
  | num n => intro e h; cases h
  | of x =>
    intro e h
    simp only [ev] at h
    split at h
    · cases h
    · cases h; trivial
  | un k a ih =>
    intro e h
    simp only [ev] at h
    split at h
    · rename_i e' he
      cases h
      exact Er.in_up (by simp [kids]) (ih he)
    · cases h
  | bin k a b iha ihb =>
    intro e h
    simp only [ev] at h
    split at h
    · rename_i e' he
      cases h
      exact Er.in_up (by simp [kids]) (iha he)
    · split at h
      · cases h
      · split at h
        · rename_i e' he
          cases h
          exact Er.in_up (by simp [kids]) (ihb he)
        · exact join_in h
  | cho a b c iha ihb ihc =>
    intro e h
    simp only [ev] at h
    split at h
    · rename_i e' he
      cases h
      exact Er.in_up (by simp [kids]) (iha he)
    · split at h
      · exact Er.in_up (by simp [kids]) (ihc h)
      · exact Er.in_up (by simp [kids]) (ihb h)
theorem In_.sum {n : Nat} {H H' : Hp} {v w : V} {u t : T} (i : In_ u t) (s : SumAt n H v t) (a : TreeAt H' w u) : SumAt n H' w u := ⟨a, i.nums s.nums, fun x hx => s.nms x (i.nms x hx), Nat.le_trans i.dep s.dep⟩
/-- what isinstance says of the kept errors -/
structure Kd (K : PySem.W.Frag) (mg : Str → Option Value) (CS CI CN CG CZ : Addr) : Prop where
  gS : mg "ShellError" = some (.ref CS)
  gI : mg "InvalidTree" = some (.ref CI)
  gN : mg "NoInteger" = some (.ref CN)
  gG : mg "TooGreat" = some (.ref CG)
  gZ : mg "DividedByZero" = some (.ref CZ)
  eN : ErrC K CN
  eG : ErrC K CG
  eZ : ErrC K CZ
  nI : PySem.W.kitOne K (.ref CN) (.ref CI) = some false
  nN : PySem.W.kitOne K (.ref CN) (.ref CN) = some true
  nG : PySem.W.kitOne K (.ref CN) (.ref CG) = some false
  nZ : PySem.W.kitOne K (.ref CN) (.ref CZ) = some false
  nV : PySem.W.kitOne K (.ref CN) (.type "ValueError") = some true
  gI' : PySem.W.kitOne K (.ref CG) (.ref CI) = some false
  gN' : PySem.W.kitOne K (.ref CG) (.ref CN) = some false
  gG' : PySem.W.kitOne K (.ref CG) (.ref CG) = some true
  gZ' : PySem.W.kitOne K (.ref CG) (.ref CZ) = some false
  gV' : PySem.W.kitOne K (.ref CG) (.type "ValueError") = some true
  zI : PySem.W.kitOne K (.ref CZ) (.ref CI) = some false
  zN : PySem.W.kitOne K (.ref CZ) (.ref CN) = some false
  zG : PySem.W.kitOne K (.ref CZ) (.ref CG) = some false
  zZ : PySem.W.kitOne K (.ref CZ) (.ref CZ) = some true
  zV : PySem.W.kitOne K (.ref CZ) (.type "ValueError") = some true
  xN : PySem.W.exmOne K (.ref CN) (.ref CS) = some true
  xG : PySem.W.exmOne K (.ref CG) (.ref CS) = some true
  xZ : PySem.W.exmOne K (.ref CZ) (.ref CS) = some true
/-- the class of a kept error, and its word -/
inductive KdW (CN CG CZ : Addr) : Addr → Str → Prop where
  | n : KdW CN CG CZ CN "NoInteger"
  | g : KdW CN CG CZ CG "TooGreat"
  | z : KdW CN CG CZ CZ "DividedByZero"
section
variable {P : Program} {w : World} {K : PySem.W.Frag} {mg : Str → Option Value} {base : Heap} {D fI cc cd CS CI CN CG CZ : Addr}
theorem KdW.is {C : Addr} {x : Str} (X : Kd K mg CS CI CN CG CZ) (h : KdW CN CG CZ C x) : ErrC K C ∧ ∃ i n g z : Bool, PySem.W.kitOne K (.ref C) (.ref CI) = some i ∧ PySem.W.kitOne K (.ref C) (.ref CN) = some n ∧ PySem.W.kitOne K (.ref C) (.ref CG) = some g ∧ PySem.W.kitOne K (.ref C) (.ref CZ) = some z ∧
    PySem.W.kitOne K (.ref C) (.type "ValueError") = some true ∧ i = false ∧ ((n = true ∧ g = false ∧ z = false ∧ x = "NoInteger") ∨ (n = false ∧ g = true ∧ z = false ∧ x = "TooGreat") ∨ (n = false ∧ g = false ∧ z = true ∧ x = "DividedByZero")) := by
  cases h with
  | n => exact ⟨X.eN, _, _, _, _, X.nI, X.nN, X.nG, X.nZ, X.nV, rfl, .inl ⟨rfl, rfl, rfl, rfl⟩⟩
  | g => exact ⟨X.eG, _, _, _, _, X.gI', X.gN', X.gG', X.gZ', X.gV', rfl, .inr (.inl ⟨rfl, rfl, rfl, rfl⟩)⟩
  | z => exact ⟨X.eZ, _, _, _, _, X.zI, X.zN, X.zG, X.zZ, X.zV, rfl, .inr (.inr ⟨rfl, rfl, rfl, rfl⟩)⟩
theorem scLDue : FnScope ["_law_node", "_law_book_here", "_law_given", "_law_due_here"] ["_law_node", "_law_book_here", "_law_given"] (defScope sLDue) := ⟨rfl, rfl, rfl, by decide +kernel, rfl, by decide +kernel, by decide +kernel⟩
def spLDue (K : PySem.W.Frag) : Sp := fun vs H Q _ => ∃ (v : V) (t : T) (b g : Addr) (bs : List (Str × Str)) (gs : List Str), vs = [v, .ref b, .ref g] ∧ SumAt 12 H v t ∧ HeldAt K H b g bs gs ∧ ∀ v' H', Same H H' → AnsAt H' v' (mapE foldL (ev (held bs gs) t)) → Q v' H'
theorem cal_l_due (Df : Def K mg "_law_due" sLDue ["_law_node", "_law_book_here", "_law_given"]) (C1 : Cal P w K mg base CX0 13 "_law_value" ["_law_node", "_law_book_here", "_law_given"] (spLValue K 12)) (C2 : Cal P w K mg base CX0 26 "_law_folded" ["_law_node"] (spLFolded 12)) : Cal P w K mg base CX0 27 "_law_due" ["_law_node", "_law_book_here", "_law_given"] (spLDue K) := by
  refine Df.cal fun f fd F => F.ok scLDue (fun vs H Q E ⟨v, t, _, _, _, _, e, _⟩ => by rw [e]; rfl) fun cdv A outer st H vs Q E hr h => ?_
  obtain ⟨g1, d1, G1, m1, k1, b1⟩ := C1
  obtain ⟨g2, d2, G2, m2, k2, b2⟩ := C2
  have hr1 : Room 13 _ := hr.mono (by omega)
  have hr2 : Room 26 _ := hr.mono (by omega)
  obtain ⟨v, t, bA, gA, bs, gs, rfl, hs, hh, q⟩ := h
  refine ⟨_, pss_cons (ps_set (i := 3) scLDue.nd rfl (.inl rfl) (pe_call G1 hr1 rfl m1 k1 b1 .nil pass0 (pa_cons (pv 0) (pa_cons (pv 1) (pa_cons (pv 2) pa_nil)))))
    (pss_cons (ps_if (pt_cmpR op_in_seq (pe_ix ix_tup (pv 3) pe_int (fun _ _ => rfl)) (pe_lst (pa_cons pe_str (pa_cons pe_str pa_nil))) rfl)
      (pss_one (ps_ret (pe_tup (pa_cons (pe_ix ix_tup (pv 3) pe_int (fun _ _ => rfl)) (pa_cons (pe_call G2 hr2 rfl m2 k2 b2 .nil pass0 (pa_cons (pe_ix ix_tup (pv 3) pe_int (fun _ _ => rfl)) pa_nil)) pa_nil))))) pss_nil)
    (pss_one (ps_ret (pv 3)))), ?_⟩
  refine ⟨_, rfl, _, rfl, _, rfl, v, t, bA, gA, bs, gs, rfl, hs, hh, fun v1 H1 s1 an => ?_⟩
  cases hz : ev (held bs gs) t with
  | ok z =>
    rw [hz] at an q
    obtain ⟨p, rfl, hp⟩ := an
    refine ⟨_, rfl, p, _, _, _, rfl, rfl, SqT.of hp, atI_nat (j := 0) rfl, (by show 2 ≤ sizeLine; decide), fun l hl => ⟨l, _, rfl, .inl (SqL.of upd_same), rfl, rfl, _, rfl, ?_⟩⟩
    have s2 : Same H1 (upd H1 l (.lst [.str "TooGreat", .str "DividedByZero"])) := same_new hl _
    show if inV (V.str "number") ((["TooGreat", "DividedByZero"] : List Str).map V.str) = true then _ else _
    rw [inV_str, decide_eq_false (by decide)]
    exact iteF ⟨_, rfl, q _ _ (s1.trans s2) ⟨p, rfl, s2 _ _ hp⟩⟩
  | error e =>
    rw [hz] at an q
    cases e with
    | noInt s =>
      obtain ⟨p, rfl, hp⟩ := an
      refine ⟨_, rfl, p, _, _, _, rfl, rfl, SqT.of hp, atI_nat (j := 0) rfl, (by show 2 ≤ sizeLine; decide), fun l hl => ⟨l, _, rfl, .inl (SqL.of upd_same), rfl, rfl, _, rfl, ?_⟩⟩
      have s2 : Same H1 (upd H1 l (.lst [.str "TooGreat", .str "DividedByZero"])) := same_new hl _
      show if inV (V.str "NoInteger") ((["TooGreat", "DividedByZero"] : List Str).map V.str) = true then _ else _
      rw [inV_str, decide_eq_false (by decide)]
      exact iteF ⟨_, rfl, q _ _ (s1.trans s2) ⟨p, rfl, s2 _ _ hp⟩⟩
    | great u =>
      obtain ⟨p, x, rfl, hp, tr⟩ := an
      refine ⟨_, rfl, p, _, _, _, rfl, rfl, SqT.of hp, atI_nat (j := 0) rfl, (by show 2 ≤ sizeLine; decide), fun l hl => ⟨l, _, rfl, .inl (SqL.of upd_same), rfl, rfl, _, rfl, ?_⟩⟩
      have s2 : Same H1 (upd H1 l (.lst [.str "TooGreat", .str "DividedByZero"])) := same_new hl _
      show if inV (V.str "TooGreat") ((["TooGreat", "DividedByZero"] : List Str).map V.str) = true then _ else _
      rw [inV_str, decide_eq_true (by decide)]
      have i : In_ u t := ev_in hz
      have su : SumAt 12 (upd H1 l (.lst [.str "TooGreat", .str "DividedByZero"])) x u := i.sum hs (tr.mono s2)
      have hp2 := s2 _ _ hp
      generalize upd H1 l (.lst [.str "TooGreat", .str "DividedByZero"]) = H2 at s2 su hp2
      exact iteT ⟨_, rfl, p, _, _, _, rfl, rfl, SqT.of hp2, atI_nat (j := 0) rfl, _, rfl, p, _, _, _, rfl, rfl, SqT.of hp2, atI_nat (j := 1) rfl, x, u, rfl, su, Nat.le_refl _, fun v3 H3 s3 t3 => ⟨(by show 2 ≤ sizeLine; decide), fun r hr0 => q _ _ (s1.trans (s2.trans (s3.trans (same_new hr0 _)))) ⟨r, v3, rfl, upd_same, t3.mono (same_new hr0 _)⟩⟩⟩
    | zero u =>
      obtain ⟨p, x, rfl, hp, tr⟩ := an
      refine ⟨_, rfl, p, _, _, _, rfl, rfl, SqT.of hp, atI_nat (j := 0) rfl, (by show 2 ≤ sizeLine; decide), fun l hl => ⟨l, _, rfl, .inl (SqL.of upd_same), rfl, rfl, _, rfl, ?_⟩⟩
      have s2 : Same H1 (upd H1 l (.lst [.str "TooGreat", .str "DividedByZero"])) := same_new hl _
      show if inV (V.str "DividedByZero") ((["TooGreat", "DividedByZero"] : List Str).map V.str) = true then _ else _
      rw [inV_str, decide_eq_true (by decide)]
      have i : In_ u t := ev_in hz
      have su : SumAt 12 (upd H1 l (.lst [.str "TooGreat", .str "DividedByZero"])) x u := i.sum hs (tr.mono s2)
      have hp2 := s2 _ _ hp
      generalize upd H1 l (.lst [.str "TooGreat", .str "DividedByZero"]) = H2 at s2 su hp2
      exact iteT ⟨_, rfl, p, _, _, _, rfl, rfl, SqT.of hp2, atI_nat (j := 0) rfl, _, rfl, p, _, _, _, rfl, rfl, SqT.of hp2, atI_nat (j := 1) rfl, x, u, rfl, su, Nat.le_refl _, fun v3 H3 s3 t3 => ⟨(by show 2 ≤ sizeLine; decide), fun r hr0 => q _ _ (s1.trans (s2.trans (s3.trans (same_new hr0 _)))) ⟨r, v3, rfl, upd_same, t3.mono (same_new hr0 _)⟩⟩⟩
theorem scLKind : FnScope ["_law_caught", "_law_kinds"] ["_law_caught"] (defScope sLKind) := ⟨rfl, rfl, rfl, by decide +kernel, rfl, by decide +kernel, by decide +kernel⟩
def spLKind (CN CG CZ : Addr) : Sp := fun vs H Q _ => ∃ (a C dd : Addr) (v : V) (x : Str), vs = [.ref a] ∧ KdW CN CG CZ C x ∧ H a = some (ExD (.ref C) (some dd) a) ∧ H dd = some (.xd [(("value" : Str), v)]) ∧ ∀ H', Same H H' → Q (.str x) H'
theorem cal_l_kind (Df : Def K mg "_law_kind" sLKind ["_law_caught"]) (BT : Bt mg) (X : Kd K mg CS CI CN CG CZ) : Cal P w K mg base CX0 1 "_law_kind" ["_law_caught"] (spLKind CN CG CZ) := by
  refine Df.cal fun f fd F => F.ok scLKind (fun vs H Q E ⟨_, _, _, _, _, e, _⟩ => by rw [e]; rfl) fun cdv A outer st H vs Q E hr h => ?_
  obtain ⟨a, C, dd, v, x, rfl, kw, ha, hd, q⟩ := h
  refine ⟨_, pss_cons (ps_set (i := 1) scLKind.nd rfl (.inl rfl) (pe_lst pa_nil))
    (pss_cons (ps_if (pt_val (pe_callB call_isErr (by rfl) BT.isinstance (by decide +kernel) (pa_cons (pv 0) (pa_cons (pe_glob (v := .ref CI) (by rfl) X.gI rfl) pa_nil)))) (pss_one (ps_expr (pe_bm PySem.F.plainAttrs_list PySem.F.slot_list_append PySem.F.type_list_append mt_append (pv 1) (pa_cons pe_str pa_nil)))) pss_nil)
    (pss_cons (ps_if (pt_val (pe_callB call_isErr (by rfl) BT.isinstance (by decide +kernel) (pa_cons (pv 0) (pa_cons (pe_glob (v := .ref CN) (by rfl) X.gN rfl) pa_nil)))) (pss_one (ps_expr (pe_bm PySem.F.plainAttrs_list PySem.F.slot_list_append PySem.F.type_list_append mt_append (pv 1) (pa_cons pe_str pa_nil)))) pss_nil)
    (pss_cons (ps_if (pt_val (pe_callB call_isErr (by rfl) BT.isinstance (by decide +kernel) (pa_cons (pv 0) (pa_cons (pe_glob (v := .ref CG) (by rfl) X.gG rfl) pa_nil)))) (pss_one (ps_expr (pe_bm PySem.F.plainAttrs_list PySem.F.slot_list_append PySem.F.type_list_append mt_append (pv 1) (pa_cons pe_str pa_nil)))) pss_nil)
    (pss_cons (ps_if (pt_val (pe_callB call_isErr (by rfl) BT.isinstance (by decide +kernel) (pa_cons (pv 0) (pa_cons (pe_glob (v := .ref CZ) (by rfl) X.gZ rfl) pa_nil)))) (pss_one (ps_expr (pe_bm PySem.F.plainAttrs_list PySem.F.slot_list_append PySem.F.type_list_append mt_append (pv 1) (pa_cons pe_str pa_nil)))) pss_nil)
    (pss_cons (ps_if (PW.pt (pw_or (pt_cmpR op_ne (pe_callB call_len_seq (by rfl) BT.len PySem.boot_len (pa_cons (pv 1) pa_nil)) pe_int (nomark _)) (pw_or1 (pt_not (pt_val (pe_callB call_isErr (by rfl) BT.isinstance (by decide +kernel) (pa_cons (pv 0) (pa_cons (pe_bltn (v := .ty "ValueError") (by rfl) BT.valueError (by decide +kernel) rfl) pa_nil)))))))) (pss_one (ps_ret pe_str)) pss_nil)
    (pss_one (ps_ret (pe_ix ix_list (pv 1) pe_int (fun _ _ => rfl))))))))), ?_⟩
  obtain ⟨T0, i, n, g, z, ki, kn, kg, kz, kv, ei, ecases⟩ := kw.is X
  subst ei
  refine ⟨Nat.zero_le _, fun L hL => ?_⟩
  have s1 : Same H (upd H L (.lst [])) := same_new hL _
  have ha1 := s1 _ _ ha
  have hd1 := s1 _ _ hd
  have hL1 : (upd H L (.lst [])) L = some (.lst []) := upd_same
  have ha2 : (upd (upd H L (.lst [])) L (.lst ([] ++ [.str x]))) a = some (ExD (.ref C) (some dd) a) := by rw [upd_ne (ne_of_none ha hL)]; exact ha1
  have hd2 : (upd (upd H L (.lst [])) L (.lst ([] ++ [.str x]))) dd = some (.xd [(("value" : Str), v)]) := by rw [upd_ne (ne_of_none hd hL)]; exact hd1
  have s2 : Same H (upd (upd H L (.lst [])) L (.lst ([] ++ [.str x]))) := same_but s1 hL but_upd
  have hL2 : (upd (upd H L (.lst [])) L (.lst ([] ++ [.str x]))) L = some (.lst [.str x]) := upd_same
  rcases ecases with ⟨rfl, rfl, rfl, rfl⟩ | ⟨rfl, rfl, rfl, rfl⟩ | ⟨rfl, rfl, rfl, rfl⟩
  · refine ⟨_, rfl, a, C, dd, v, _, _, _, rfl, .own CI, T0, ha1, hd1, ki, _, rfl, iteF ⟨_, rfl, a, C, dd, v, _, _, _, rfl, .own CN, T0, ha1, hd1, kn, _, rfl, iteT ⟨_, rfl, .inl ⟨rfl, _, SqL.of hL1⟩, L, _, _, rfl, rfl, hL1, Nat.zero_lt_of_lt (show 1 < sizeLine by decide), ?_⟩⟩⟩
    refine ⟨_, rfl, a, C, dd, v, _, _, _, rfl, .own CG, T0, ha2, hd2, kg, _, rfl, iteF ⟨_, rfl, a, C, dd, v, _, _, _, rfl, .own CZ, T0, ha2, hd2, kz, _, rfl, iteF ?_⟩⟩
    refine ⟨_, rfl, L, _, rfl, .inl (SqL.of hL2), rfl, _, rfl, iteF ⟨_, rfl, a, C, dd, v, _, _, _, rfl, .ty "ValueError", T0, ha2, hd2, kv, _, rfl, ?_⟩⟩
    exact iteF ⟨_, rfl, L, _, _, _, rfl, rfl, SqL.of hL2, atI_nat (j := 0) rfl, q _ s2⟩
  · refine ⟨_, rfl, a, C, dd, v, _, _, _, rfl, .own CI, T0, ha1, hd1, ki, _, rfl, iteF ⟨_, rfl, a, C, dd, v, _, _, _, rfl, .own CN, T0, ha1, hd1, kn, _, rfl, iteF ⟨_, rfl, a, C, dd, v, _, _, _, rfl, .own CG, T0, ha1, hd1, kg, _, rfl, iteT ⟨_, rfl, .inl ⟨rfl, _, SqL.of hL1⟩, L, _, _, rfl, rfl, hL1, Nat.zero_lt_of_lt (show 1 < sizeLine by decide), ?_⟩⟩⟩⟩
    refine ⟨_, rfl, a, C, dd, v, _, _, _, rfl, .own CZ, T0, ha2, hd2, kz, _, rfl, iteF ?_⟩
    refine ⟨_, rfl, L, _, rfl, .inl (SqL.of hL2), rfl, _, rfl, iteF ⟨_, rfl, a, C, dd, v, _, _, _, rfl, .ty "ValueError", T0, ha2, hd2, kv, _, rfl, ?_⟩⟩
    exact iteF ⟨_, rfl, L, _, _, _, rfl, rfl, SqL.of hL2, atI_nat (j := 0) rfl, q _ s2⟩
  · refine ⟨_, rfl, a, C, dd, v, _, _, _, rfl, .own CI, T0, ha1, hd1, ki, _, rfl, iteF ⟨_, rfl, a, C, dd, v, _, _, _, rfl, .own CN, T0, ha1, hd1, kn, _, rfl, iteF ⟨_, rfl, a, C, dd, v, _, _, _, rfl, .own CG, T0, ha1, hd1, kg, _, rfl, iteF ⟨_, rfl, a, C, dd, v, _, _, _, rfl, .own CZ, T0, ha1, hd1, kz, _, rfl, iteT ⟨_, rfl, .inl ⟨rfl, _, SqL.of hL1⟩, L, _, _, rfl, rfl, hL1, Nat.zero_lt_of_lt (show 1 < sizeLine by decide), ?_⟩⟩⟩⟩⟩
    refine ?_
    refine ⟨_, rfl, L, _, rfl, .inl (SqL.of hL2), rfl, _, rfl, iteF ⟨_, rfl, a, C, dd, v, _, _, _, rfl, .ty "ValueError", T0, ha2, hd2, kv, _, rfl, ?_⟩⟩
    exact iteF ⟨_, rfl, L, _, _, _, rfl, rfl, SqL.of hL2, atI_nat (j := 0) rfl, q _ s2⟩
end
end K19
namespace K19
open PySem L2 K19R
section
variable {P : Program} {w : World} {K : PySem.W.Frag} {mg : Str → Option Value} {base : Heap} {D fI cc cd CS CI CN CG CZ : Addr}
theorem scLAnswer : FnScope ["_law_node", "_law_book_here", "_law_given", "_law_found", "_law_caught", "e"] ["_law_node", "_law_book_here", "_law_given"] (defScope sLAnswer) := ⟨rfl, rfl, rfl, by decide +kernel, rfl, by decide +kernel, by decide +kernel⟩
def spLAnswer (K : PySem.W.Frag) : Sp := fun vs H Q _ => ∃ (v : V) (t : T) (b g : Addr) (bs : List (Str × Str)) (gs : List Str), vs = [v, .ref b, .ref g] ∧ SumAt 12 H v t ∧ HeldAt K H b g bs gs ∧ ∀ v' H', Same H H' → AnsAt H' v' (ev (held bs gs) t) → Q v' H'
theorem err_kd {H H' : Hp} {e : Er} {cls : Value} {d : Option Addr} (X : Kd K mg CS CI CN CG CZ) (h : ErrIs CN CG CZ H H' e cls d) : ∃ C x v dd, KdW CN CG CZ C x ∧ cls = .ref C ∧ d = some dd ∧ Same H H' ∧ H' dd = some (.xd [(("value" : Str), v)]) ∧ PySem.W.exmOne K cls (.ref CS) = some true ∧
    ∀ p H2, Same H' H2 → H2 p = some (.tup [.str x, v]) → AnsAt H2 (.ref p) (.error e) := by
  cases e with
  | noInt s =>
    obtain ⟨rfl, s1, dd, rfl, hd⟩ := h
    exact ⟨CN, _, _, dd, .n, rfl, rfl, s1, hd, X.xN, fun p H2 _ hp => ⟨p, rfl, hp⟩⟩
  | great t =>
    obtain ⟨rfl, v, tr, s1, dd, rfl, hd⟩ := h
    exact ⟨CG, _, _, dd, .g, rfl, rfl, s1, hd, X.xG, fun p H2 s2 hp => ⟨p, v, rfl, hp, tr.mono (s1.trans s2)⟩⟩
  | zero t =>
    obtain ⟨rfl, v, tr, s1, dd, rfl, hd⟩ := h
    exact ⟨CZ, _, _, dd, .z, rfl, rfl, s1, hd, X.xZ, fun p H2 s2 hp => ⟨p, v, rfl, hp, tr.mono (s1.trans s2)⟩⟩
theorem cal_l_answer (Df : Def K mg "_law_answer" sLAnswer ["_law_node", "_law_book_here", "_law_given"]) (X : Kd K mg CS CI CN CG CZ) (C1 : Cal P w K mg base (L2.CX P w) 17 "worked_out" ["tree", "names", "arguments"] (spSum K CN CG CZ 12)) (C2 : Cal P w K mg base CX0 1 "_law_kind" ["_law_caught"] (spLKind CN CG CZ)) :
    Cal P w K mg base CX0 18 "_law_answer" ["_law_node", "_law_book_here", "_law_given"] (spLAnswer K) := by
  refine Df.cal fun f fd F => F.ok scLAnswer (fun vs H Q E ⟨v, t, _, _, _, _, e, _⟩ => by rw [e]; rfl) fun cdv A outer st H vs Q E hr h => ?_
  obtain ⟨g1, d1, G1, m1, k1, b1⟩ := C1
  obtain ⟨g2, d2, G2, m2, k2, b2⟩ := C2
  have hr2 : Room 1 _ := hr.mono (by omega)
  obtain ⟨v, t, bA, gA, bs, gs, rfl, hs, hh, q⟩ := h
  refine ⟨_, pss_cons (ps_set (i := 3) scLAnswer.nd rfl (.inl rfl) pe_non) (pss_cons (ps_set (i := 4) scLAnswer.nd rfl (.inl rfl) pe_non)
    (pss_cons (ps_try_keep (n := "e") (i := 5) (c := .ref CS) (tb := fun W => tAsg (tCallS (spSum K CN CG CZ 12) (WE W) (tCons (tVar 0) (tCons (tVar 1) (tCons (tVar 2) tNil)))) (gName 3)) (ts := tAsg (tVar 5) (gName 4)) rfl rfl rfl scLAnswer.nd rfl rfl ⟨rfl, by decide, .inl X.gS⟩
      (fun W pn xe tk _ => pss_one (ps_set (i := 3) scLAnswer.nd rfl (.inl rfl) (by exact (pe_callS G1 hr rfl m1 k1 b1 (fun σ => passAt tk σ) (by exact (pa_cons (pv 0) (pa_cons (pv 1) (pa_cons (pv 2) pa_nil))))))))
      (fun a pn => pss_one (ps_set (i := 4) scLAnswer.nd rfl (.inl rfl) (pv 5))))
    (pss_cons (ps_if (pt_cmp (pc_isN (pv 4)) rfl) (pss_one (ps_ret (pe_tup (pa_cons pe_str (pa_cons (pv 3) pa_nil))))) pss_nil)
    (pss_one (ps_ret (pe_tup (pa_cons (pe_call G2 hr2 rfl m2 k2 b2 .nil pass0 (pa_cons (pv 4) pa_nil)) (pa_cons (pe_value (pv 4)) pa_nil)))))))), ?_⟩
  refine ⟨_, rfl, _, rfl, _, rfl, v, t, bA, gA, bs, gs, rfl, hs, hh, fun z H1 hz s1 => ?_, fun e cls d H1 H2 hz s1 hE => ?_⟩
  · rw [hz] at q
    exact ⟨_, rfl, _, rfl, iteT ⟨_, rfl, (by show 2 ≤ sizeLine; decide), fun p hp => q _ _ (s1.trans (same_new hp _)) ⟨p, rfl, upd_same⟩⟩⟩
  · rw [hz] at q
    obtain ⟨C, x, y, dd, kw, rfl, rfl, s2, hd, hx, an⟩ := err_kd X hE
    refine ⟨hx, fun a na => ⟨_, rfl, ?_⟩⟩
    have s3 : Same H2 (upd H2 a (ExD (.ref C) (some dd) a)) := same_new na _
    have ha : (upd H2 a (ExD (.ref C) (some dd) a)) a = some (ExD (.ref C) (some dd) a) := upd_same
    have s13 := s1.trans (s2.trans s3)
    refine ⟨_, rfl, _, rfl, iteF ⟨_, rfl, a, C, dd, y, x, rfl, kw, ha, s3 _ _ hd, fun H4 s4 => ?_⟩⟩
    exact ⟨_, rfl, a, C, dd, y, rfl, (kw.is X).1, s4 _ _ ha, s4 _ _ (s3 _ _ hd), (by show 2 ≤ sizeLine; decide), fun p hp => q _ _ (s13.trans (s4.trans (same_new hp _))) (an p _ (s3.trans (s4.trans (same_new hp _))) upd_same)⟩
end
end K19
namespace K19
open PySem L2 K19R
abbrev sLSame : Stmt := topS 42
/-- the same data at x and at y: texts, numbers, and tuples of them -/
def SameD (H : Hp) : Nat → V → V → Prop
  | 0, _, _ => False
  | n + 1, x, y => (∃ s : Str, x = .str s ∧ y = .str s) ∨ (∃ z : Int, x = .int z ∧ y = .int z) ∨
    ∃ (a b : Addr) (xs ys : List V), x = .ref a ∧ y = .ref b ∧ H a = some (.tup xs) ∧ H b = some (.tup ys) ∧ xs.length = ys.length ∧ ys.length ≤ 4 ∧ ∀ (i : Nat) (u v : V), xs[i]? = some u → ys[i]? = some v → SameD H n u v
theorem SameD.mono {H H' : Hp} (s : Same H H') : ∀ {n : Nat} {x y : V}, SameD H n x y → SameD H' n x y
  | 0, _, _, h => h.elim
  | n + 1, x, y, .inl h => .inl h
  | n + 1, x, y, .inr (.inl h) => .inr (.inl h)
  | n + 1, x, y, .inr (.inr ⟨a, b, xs, ys, e1, e2, h1, h2, l, l4, q⟩) => .inr (.inr ⟨a, b, xs, ys, e1, e2, s _ _ h1, s _ _ h2, l, l4, fun i u v p1 p2 => SameD.mono s (q i u v p1 p2)⟩)
theorem SameD.str {H : Hp} {n : Nat} (s : Str) : SameD H (n + 1) (.str s) (.str s) := .inl ⟨s, rfl, rfl⟩
theorem SameD.int {H : Hp} {n : Nat} (z : Int) : SameD H (n + 1) (.int z) (.int z) := .inr (.inl ⟨z, rfl, rfl⟩)
theorem SameD.tup {H : Hp} {n : Nat} {a b : Addr} {xs ys : List V} (h1 : H a = some (.tup xs)) (h2 : H b = some (.tup ys)) (l : xs.length = ys.length) (l4 : ys.length ≤ 4) (q : ∀ (i : Nat) (u v : V), xs[i]? = some u → ys[i]? = some v → SameD H n u v) : SameD H (n + 1) (.ref a) (.ref b) :=
  .inr (.inr ⟨a, b, xs, ys, rfl, rfl, h1, h2, l, l4, q⟩)
/-- the same sum at two places -/
theorem tree_same {H : Hp} : ∀ {t : T} {n : Nat} {x y : V}, depth t ≤ n → TreeAt H x t → TreeAt H y t → SameD H (n + 1) x y := by
  intro t n
  induction n generalizing t with
  | zero =>
    intro x y h
    have := depth_pos t
    omega
  | succ n ih =>
    intro x y h hx hy
    rcases leaf_or t with ⟨z, rfl⟩ | ⟨s, rfl⟩ | it
    · obtain ⟨a, rfl, ha⟩ := hx
      obtain ⟨b, rfl, hb⟩ := hy
      refine SameD.tup ha hb rfl (show 2 ≤ 4 by decide) fun i u v h1 h2 => ?_
      match i, h1, h2 with
      | 0, h1, h2 => cases h1; cases h2; exact SameD.str _
      | 1, h1, h2 => cases h1; cases h2; exact SameD.int _
      | i + 2, h1, h2 => simp at h1
    · obtain ⟨a, rfl, ha⟩ := hx
      obtain ⟨b, rfl, hb⟩ := hy
      refine SameD.tup ha hb rfl (show 2 ≤ 4 by decide) fun i u v h1 h2 => ?_
      match i, h1, h2 with
      | 0, h1, h2 => cases h1; cases h2; exact SameD.str _
      | 1, h1, h2 => cases h1; cases h2; exact SameD.str _
      | i + 2, h1, h2 => simp at h1
    · obtain ⟨a, ws, rfl, ha, hl, hk⟩ := hx.node it
      obtain ⟨b, zs, rfl, hb, hl2, hk2⟩ := hy.node it
      have := kids_len t
      refine SameD.tup ha hb (by rw [List.length_cons, List.length_cons, hl, hl2]) (by rw [List.length_cons, hl2]; omega) fun i u v h1 h2 => ?_
      match i, h1, h2 with
      | 0, h1, h2 => cases h1; cases h2; exact SameD.str _
      | i + 1, h1, h2 =>
        have h1' : ws[i]? = some u := h1
        have hi : i < (kids t).length := by rw [← hl]; exact (List.getElem?_eq_some_iff.mp h1').1
        have e := List.getElem?_eq_getElem hi
        have m := List.mem_of_getElem? e
        have d := kid_depth m
        exact ih (by omega) (hk i u _ h1 e) (hk2 i v _ h2 e)
theorem ans_same {H : Hp} {x y : V} {r : Except Er Int} {t : T} {n : Nat} (hr : ∀ e, r = .error e → ∀ u, e = .great u ∨ e = .zero u → depth u ≤ n) (hx : AnsAt H x r) (hy : AnsAt H y r) : SameD H (n + 2) x y := by
  cases r with
  | ok z =>
    obtain ⟨a, rfl, ha⟩ := hx
    obtain ⟨b, rfl, hb⟩ := hy
    refine SameD.tup ha hb rfl (show 2 ≤ 4 by decide) fun i u v h1 h2 => ?_
    match i, h1, h2 with
    | 0, h1, h2 => cases h1; cases h2; exact SameD.str _
    | 1, h1, h2 => cases h1; cases h2; exact SameD.int _
    | i + 2, h1, h2 => simp at h1
  | error e =>
    cases e with
    | noInt s =>
      obtain ⟨a, rfl, ha⟩ := hx
      obtain ⟨b, rfl, hb⟩ := hy
      refine SameD.tup ha hb rfl (show 2 ≤ 4 by decide) fun i u v h1 h2 => ?_
      match i, h1, h2 with
      | 0, h1, h2 => cases h1; cases h2; exact SameD.str _
      | 1, h1, h2 => cases h1; cases h2; exact SameD.str _
      | i + 2, h1, h2 => simp at h1
    | great t =>
      obtain ⟨a, p, rfl, ha, tp⟩ := hx
      obtain ⟨b, q, rfl, hb, tq⟩ := hy
      refine SameD.tup ha hb rfl (show 2 ≤ 4 by decide) fun i u v h1 h2 => ?_
      match i, h1, h2 with
      | 0, h1, h2 => cases h1; cases h2; exact SameD.str _
      | 1, h1, h2 => cases h1; cases h2; exact tree_same (hr _ rfl t (.inl rfl)) tp tq
      | i + 2, h1, h2 => simp at h1
    | zero t =>
      obtain ⟨a, p, rfl, ha, tp⟩ := hx
      obtain ⟨b, q, rfl, hb, tq⟩ := hy
      refine SameD.tup ha hb rfl (show 2 ≤ 4 by decide) fun i u v h1 h2 => ?_
      match i, h1, h2 with
      | 0, h1, h2 => cases h1; cases h2; exact SameD.str _
      | 1, h1, h2 => cases h1; cases h2; exact tree_same (hr _ rfl t (.inr rfl)) tp tq
      | i + 2, h1, h2 => simp at h1
section
variable {P : Program} {w : World} {K : PySem.W.Frag} {mg : Str → Option Value} {base : Heap} {D fI cc cd CS CI CN CG CZ : Addr}
theorem scLSame : FnScope ["_law_found", "_law_due_here", "_law_k"] ["_law_found", "_law_due_here"] (defScope sLSame) := ⟨rfl, rfl, rfl, by decide +kernel, rfl, by decide +kernel, by decide +kernel⟩
def spLSame (n : Nat) : Sp := fun vs H Q _ => ∃ (x y : V), vs = [x, y] ∧ SameD H n x y ∧ ∀ H', Same H H' → Q (.bl true) H'
theorem cal_l_same (Df : Def K mg "_law_same" sLSame ["_law_found", "_law_due_here"]) (BT : Bt mg) (n : Nat) : Cal P w K mg base CX0 (n + 1) "_law_same" ["_law_found", "_law_due_here"] (spLSame n) := by
  refine Df.cals (fun vs H Q E ⟨v, t, e, h, _⟩ => h.elim) (fun n f fd F G m b => ?_) n
  refine F.ok scLSame (fun vs H Q E ⟨v, t, e, _⟩ => by rw [e]; rfl) fun cdv A outer st H vs Q E hr h => ?_
  obtain ⟨x, y, rfl, hs, q⟩ := h
  refine ⟨_, pss_cons (ps_if (pt_val (pe_callB call_isiT (by rfl) BT.isinstance (by decide +kernel) (pa_cons (pv 1) (pa_cons (pe_tup (pa_cons (pe_bltn (v := .ty "list") (by rfl) BT.list (by decide +kernel) rfl) (pa_cons (pe_bltn (v := .ty "tuple") (by rfl) BT.tuple (by decide +kernel) rfl) pa_nil))) pa_nil))))
      (pss_cons (ps_if (PW.pt (pw_or (pt_cmpR op_ne (pe_callB call_isi (by rfl) BT.isinstance (by decide +kernel) (pa_cons (pv 1) (pa_cons (pe_bltn (v := .ty "list") (by rfl) BT.list (by decide +kernel) rfl) pa_nil))) (pe_callB call_isi (by rfl) BT.isinstance (by decide +kernel) (pa_cons (pv 0) (pa_cons (pe_bltn (v := .ty "list") (by rfl) BT.list (by decide +kernel) rfl) pa_nil))) (nomark _))
          (pw_or1 (pt_cmpR op_ne (pe_callB call_isi (by rfl) BT.isinstance (by decide +kernel) (pa_cons (pv 1) (pa_cons (pe_bltn (v := .ty "tuple") (by rfl) BT.tuple (by decide +kernel) rfl) pa_nil))) (pe_callB call_isi (by rfl) BT.isinstance (by decide +kernel) (pa_cons (pv 0) (pa_cons (pe_bltn (v := .ty "tuple") (by rfl) BT.tuple (by decide +kernel) rfl) pa_nil))) (nomark _))))) (pss_one (ps_ret pe_bl)) pss_nil)
      (pss_one (ps_ret (pe_and (pe_cmpR op_eq (pe_callB call_len_seq (by rfl) BT.len PySem.boot_len (pa_cons (pv 0) pa_nil)) (pe_callB call_len_seq (by rfl) BT.len PySem.boot_len (pa_cons (pv 1) pa_nil)) (nomark _))
        (pe_one (pe_callB (cr_all rfl) (by rfl) BT.all (by decide +kernel) (pa_cons (pe_lc (own := [("_law_k", 2)]) (g := gName 2) (te := tCall (spLSame n) [] E0 (tCons (tOp (rIxT K) (tVar 0) (tVar 2)) (tCons (tOp (rIxT K) (tVar 1) (tVar 2)) tNil))) (by rfl) scLSame.nd (pi_range1 (by rfl) BT.range (pa_cons (pe_callB call_len_seq (by rfl) BT.len PySem.boot_len (pa_cons (pv 1) pa_nil)) pa_nil))
          (blkOk_by (own := [("_law_k", 2)]) (N := ["_law_found", "_law_due_here", "_law_k"]) (sc := defScope sLSame) (by decide +kernel)) (fun _ _ _ _ _ => pg_name (i := 2) scLSame.nd rfl (Or.inl rfl)) (fun _ _ _ _ _ => pts_nil)
          (fun _ _ _ _ _ => pe_call G hr rfl m F.kp b .nil pass0 (pa_cons (pe_ix ix_tup (pv 0) (pv 2) (fun _ _ => rfl)) (pa_cons (pe_ix ix_tup (pv 1) (pv 2) (fun _ _ => rfl)) pa_nil)))) pa_nil))))))) pss_nil)
    (pss_cons (ps_if (pt_cmp (pc_isN (pv 1)) rfl) (pss_one (ps_ret (pe_cmpR op_isN (pv 0) pe_non (nomark _)))) pss_nil)
    (pss_cons (ps_if (pt_val (pe_callB call_isi (by rfl) BT.isinstance (by decide +kernel) (pa_cons (pv 1) (pa_cons (pe_bltn (v := .ty "int") (by rfl) BT.int (by decide +kernel) rfl) pa_nil))))
      (pss_one (ps_ret (pe_and (pe_callB call_isi (by rfl) BT.isinstance (by decide +kernel) (pa_cons (pv 0) (pa_cons (pe_bltn (v := .ty "int") (by rfl) BT.int (by decide +kernel) rfl) pa_nil)))
        (pe_and (pe_cmpR op_eq (pe_callB call_isi (by rfl) BT.isinstance (by decide +kernel) (pa_cons (pv 0) (pa_cons (pe_bltn (v := .ty "bool") (by rfl) BT.bool (by decide +kernel) rfl) pa_nil))) (pe_callB call_isi (by rfl) BT.isinstance (by decide +kernel) (pa_cons (pv 1) (pa_cons (pe_bltn (v := .ty "bool") (by rfl) BT.bool (by decide +kernel) rfl) pa_nil))) (nomark _))
        (pe_one (pe_cmpR op_eq (pv 0) (pv 1) (nomark _))))))) pss_nil)
    (pss_one (ps_ret (pe_and (pe_callB call_isi (by rfl) BT.isinstance (by decide +kernel) (pa_cons (pv 0) (pa_cons (pe_bltn (v := .ty "str") (by rfl) BT.str (by decide +kernel) rfl) pa_nil))) (pe_one (pe_cmpR op_eq (pv 0) (pv 1) (nomark _)))))))), ?_⟩
  refine ⟨_, rfl, (by show 2 ≤ sizeLine; decide), fun p hp => ?_⟩
  have s1 : Same H (upd H p (.tup [.ty "list", .ty "tuple"])) := same_new hp _
  have h1 : (upd H p (.tup [.ty "list", .ty "tuple"])) p = some (.tup [.ty "list", .ty "tuple"]) := upd_same
  generalize upd H p (.tup [.ty "list", .ty "tuple"]) = H1 at s1 h1
  rcases hs with ⟨s, rfl, rfl⟩ | ⟨z, rfl, rfl⟩ | ⟨a, b', xs, ys, rfl, rfl, ha, hb, hl, hl4, hd⟩
  · refine ⟨_, p, _, _, _, false, rfl, h1, .cons (.ty "list") (.cons (.ty "tuple") .nil), .base (.str _), kitAny_cons (kit_ty (by decide +kernel)) (fun _ => kitAny_cons (kit_ty (by decide +kernel)) (fun _ => kitAny_nil) (fun z => z)) (fun z => z), false, rfl, iteF ⟨_, rfl, _, rfl, iteF ?_⟩⟩
    refine ⟨_, rfl, _, _, _, _, false, rfl, .ty "int", .base (.str _), kit_ty (by decide +kernel), false, rfl, iteF ?_⟩
    refine ⟨_, rfl, _, _, _, _, true, rfl, .ty "str", .base (.str _), kit_ty (by decide +kernel), ⟨_, rfl, iteT ⟨_, rfl, _, rfl, rfl, ?_⟩⟩⟩
    rw [str_eq rfl]
    exact q _ s1
  · refine ⟨_, p, _, _, _, false, rfl, h1, .cons (.ty "list") (.cons (.ty "tuple") .nil), .base (.int _), kitAny_cons (kit_ty (by decide +kernel)) (fun _ => kitAny_cons (kit_ty (by decide +kernel)) (fun _ => kitAny_nil) (fun z => z)) (fun z => z), false, rfl, iteF ⟨_, rfl, _, rfl, iteF ?_⟩⟩
    refine ⟨_, rfl, _, _, _, _, true, rfl, .ty "int", .base (.int _), kit_ty (by decide +kernel), true, rfl, iteT ?_⟩
    refine ⟨_, rfl, _, _, _, _, true, rfl, .ty "int", .base (.int _), kit_ty (by decide +kernel), ⟨_, rfl, iteT ?_⟩⟩
    refine ⟨_, rfl, _, _, _, _, false, rfl, .ty "bool", .base (.int _), kit_ty (by decide +kernel), _, rfl, _, _, _, _, false, rfl, .ty "bool", .base (.int _), kit_ty (by decide +kernel), rfl, ⟨_, rfl, iteT ⟨_, rfl, _, rfl, rfl, ?_⟩⟩⟩
    rw [int_eq rfl]
    exact q _ s1
  · have ha1 := s1 _ _ ha
    have hb1 := s1 _ _ hb
    refine ⟨_, p, _, _, _, true, rfl, h1, .cons (.ty "list") (.cons (.ty "tuple") .nil), .base (.tup hb1), kitAny_cons (b := false) (kit_ty (by decide +kernel)) (fun _ => kitAny_cons (b := true) (kit_ty (by decide +kernel)) (fun z => (nomatch z)) (fun z => z)) (fun _ => rfl), true, rfl, iteT ?_⟩
    refine ⟨_, rfl, _, _, _, _, false, rfl, .ty "list", .base (.tup hb1), kit_ty (by decide +kernel), _, rfl, _, _, _, _, false, rfl, .ty "list", .base (.tup ha1), kit_ty (by decide +kernel), rfl, _, rfl, iteF ?_⟩
    refine ⟨_, rfl, _, _, _, _, true, rfl, .ty "tuple", .base (.tup hb1), kit_ty (by decide +kernel), _, rfl, _, _, _, _, true, rfl, .ty "tuple", .base (.tup ha1), kit_ty (by decide +kernel), rfl, _, rfl, iteF ?_⟩
    refine ⟨_, rfl, a, _, rfl, .inr (SqT.of ha1), _, rfl, b', _, rfl, .inr (SqT.of hb1), rfl, _, rfl, ?_⟩
    rw [hl, int_eq rfl]
    refine iteT ⟨_, rfl, b', _, rfl, .inr (SqT.of hb1), _, rfl, by omega, by omega, fun L hL => ?_⟩
    refine lc_mapY (walk_range (lo := 0) (n := (ys.length : Int).toNat)) (List.replicate ys.length (V.bl true)) (by rw [List.length_replicate]; omega) (by omega) hL (fun _ _ => trivial) (fun i u H3 H4 y hy' s3 hy k hk' => ?_) fun H3 s3 hL3 => ?_
    · obtain ⟨rfl, rfl⟩ := hy
      rw [List.getElem?_replicate] at hy'
      have hi : i < ys.length := by
        by_cases c : i < ys.length
        · exact c
        · rw [if_neg c] at hy'; cases hy'
      rw [if_pos hi] at hy'
      cases hy'
      have ei : ((0 : Int) + (i : Nat)) = (i : Int) := by omega
      have ex := List.getElem?_eq_getElem (l := xs) (i := i) (by omega)
      have ey := List.getElem?_eq_getElem (l := ys) (i := i) hi
      refine ⟨rfl, _, rfl, _, rfl, a, _, _, _, rfl, rfl, SqT.of (s3 _ _ ha1), by rw [ei]; exact atI_nat (j := i) ex, _, rfl, _, rfl, b', _, _, _, rfl, rfl, SqT.of (s3 _ _ hb1), by rw [ei]; exact atI_nat (j := i) ey, _, _, rfl, (hd i _ _ ex ey).mono (s1.trans s3), fun H5 s5 => hk' _ s5⟩
    · refine ⟨L, List.replicate ys.length true, rfl, by rw [List.map_replicate]; exact SqL.of hL3, ?_⟩
      have : (List.replicate ys.length true).all id = true := by
        rw [List.all_eq_true]
        intro z hz
        rw [(List.mem_replicate.mp hz).2]
        rfl
      rw [this]
      exact q _ (s1.trans s3)
end
end K19
namespace K19
open PySem L2 K19R
abbrev sLPurse : Stmt := topS 40
abbrev sLCoin : Stmt := topS 41
/-- a purse: its stock, its seed, and how often it was stirred -/
def PurseAt (H : Hp) (p : Addr) (n : Nat) : Prop := ∃ A B C : Int, H p = some (.lst [.int A, .int B, .int C]) ∧ 0 ≤ A ∧ 0 ≤ B ∧ B < 10 ^ 24 + 7 ∧ 0 ≤ C ∧ C ≤ n
theorem PurseAt.le {H : Hp} {p : Addr} {n m : Nat} (h : PurseAt H p n) (l : n ≤ m) : PurseAt H p m := by
  obtain ⟨A, B, C, h1, h2, h3, h4, h5, h6⟩ := h
  exact ⟨A, B, C, h1, h2, h3, h4, h5, by omega⟩
theorem PurseAt.mono {H H' : Hp} {p : Addr} {n : Nat} (h : PurseAt H p n) (s : Same H H') : PurseAt H' p n := by
  obtain ⟨A, B, C, h1, h2⟩ := h
  exact ⟨A, B, C, s _ _ h1, h2⟩
theorem But.same {p : Addr} {H H' H2 : Hp} (b : But p H H') (s : Same H' H2) : But p H H2 := fun c o n h => s _ _ (b c o n h)
theorem nat_lt {b : Nat} {i : Int} (h : i < 2 ^ b) (h0 : 0 ≤ i) : i.natAbs < 2 ^ b := by
  have : ((i.natAbs : Nat) : Int) < ((2 ^ b : Nat) : Int) := by
    rw [Int.natAbs_of_nonneg h0]
    push_cast
    exact h
  exact Int.ofNat_lt.mp this
theorem mod_small {X M : Int} (h : 0 < M) (h2 : M ≤ 2 ^ 90) : (X % M).natAbs < 2 ^ 90 := nat_lt (by have := Int.emod_lt_of_pos X h; omega) (Int.emod_nonneg X (by omega))
theorem pow10_18 : (10 : Int) ^ (18 : Int).toNat = 1000000000000000000 := by decide
theorem pow10_24 : (10 : Int) ^ (24 : Int).toNat = 1000000000000000000000000 := by decide
theorem pow10_25 : (10 : Int) ^ (25 : Int).toNat = 10000000000000000000000000 := by decide
theorem pow10_23 : (10 : Int) ^ (23 : Int).toNat = 100000000000000000000000 := by decide
section
variable {P : Program} {w : World} {K : PySem.W.Frag} {mg : Str → Option Value} {base : Heap} {D fI cc cd CS CI CN CG CZ : Addr}
theorem scLPurse : FnScope ["_law_script", "_law_at", "_law_cell"] ["_law_script", "_law_at"] (defScope sLPurse) := ⟨rfl, rfl, rfl, by decide +kernel, rfl, by decide +kernel, by decide +kernel⟩
def spLPurse (K : PySem.W.Frag) : Sp := fun vs H Q _ => ∃ (a : Addr) (ns : List Int) (i : Nat), vs = [.ref a, .int i] ∧ SqL K H a (ns.map V.int) ∧ i < 100 ∧ ∀ p H', H p = none → Same H H' → PurseAt H' p 0 → Q (.ref p) H'
theorem cal_l_purse (Df : Def K mg "_law_purse" sLPurse ["_law_script", "_law_at"]) (BT : Bt mg) : Cal P w K mg base CX0 1 "_law_purse" ["_law_script", "_law_at"] (spLPurse K) := by
  refine Df.cal fun f fd F => F.ok scLPurse (fun vs H Q E ⟨_, _, _, e, _⟩ => by rw [e]; rfl) fun cdv A outer st H vs Q E hr h => ?_
  obtain ⟨a, ns, i, rfl, hs, hi, q⟩ := h
  refine ⟨_, pss_cons (ps_set (i := 2) scLPurse.nd rfl (.inl rfl) (pe_ifExp (pt_cmpR op_lt (pv 1) (pe_callB call_len_seq (by rfl) BT.len PySem.boot_len (pa_cons (pv 0) pa_nil)) (nomark _)) (pe_ix ix_list (pv 0) (pv 1) (fun _ _ => rfl)) pe_int))
    (pss_one (ps_ret (pe_lst (pa_cons (pe_callB (call_max2 rfl) (by rfl) BT.max (by decide +kernel) (pa_cons pe_int (pa_cons (pe_op op_sub (pe_callB call_abs (by rfl) BT.abs (by decide +kernel) (pa_cons (pv 2) pa_nil)) (pe_op op_pow pe_int pe_int)) pa_nil)))
      (pa_cons (pe_op op_mod (pe_callTy call_int1 (by rfl) BT.int (by decide +kernel) (pa_cons (pe_op op_add (pe_op op_add (pe_op op_mul (pv 2) pe_int) (pe_op op_mul (pv 1) pe_int)) pe_int) pa_nil)) (pe_op op_add (pe_op op_pow pe_int pe_int) pe_int))
      (pa_cons pe_int pa_nil)))))), ?_⟩
  refine tseq_via (fun σ H1 => H1 = H ∧ σ[1]? = some (some (.int i)) ∧ ∃ z : Int, σ[2]? = some (some (.int z))) ?_ ?_
  · rintro σ H1 ⟨rfl, h1, z, h2⟩
    refine ⟨_, h2, z, rfl, _, _, rfl, rfl, ⟨by decide, by decide, by decide⟩, _, _, rfl, rfl, _, _, rfl, ?_⟩
    refine ⟨_, h2, _, _, rfl, rfl, .inr ⟨by decide, by decide⟩, _, h1, _, _, rfl, rfl, .inr ⟨by decide, by decide⟩, _, _, rfl, rfl, _, _, rfl, rfl, .inl ⟨_, rfl, ?_⟩⟩
    refine ⟨_, _, rfl, rfl, ⟨by decide, by decide, by decide⟩, _, _, rfl, rfl, _, _, rfl, rfl, (by show (0 : Int) < 10 ^ 24 + 7; decide), (by show 3 ≤ sizeLine; decide), fun p hp => q p _ hp (same_new hp _) ?_⟩
    refine ⟨_, _, _, upd_same, ?_, Int.emod_nonneg _ (by decide), Int.emod_lt_of_pos _ (by decide), Int.le_refl _, Int.le_refl _⟩
    split <;> omega
  · intro fin
    refine ⟨_, rfl, _, rfl, a, _, rfl, .inl hs, _, _, rfl, rfl, _, rfl, ?_⟩
    rw [List.length_map]
    by_cases hl : i < ns.length
    · rw [decide_eq_true (show (i : Int) < (ns.length : Int) by omega)]
      exact iteT ⟨_, rfl, _, rfl, a, _, _, _, rfl, rfl, hs, atI_nat (j := i) (by rw [List.getElem?_map, List.getElem?_eq_getElem hl]; rfl), fin _ _ ⟨rfl, rfl, _, rfl⟩⟩
    · rw [decide_eq_false (show ¬ (i : Int) < (ns.length : Int) by omega)]
      exact iteF (fin _ _ ⟨rfl, rfl, _, rfl⟩)
theorem scLCoin : FnScope ["_law_purse_here", "_law_many", "_law_coin_here", "_law_stirred"] ["_law_purse_here", "_law_many"] (defScope sLCoin) := ⟨rfl, rfl, rfl, by decide +kernel, rfl, by decide +kernel, by decide +kernel⟩
def spLCoin : Sp := fun vs H Q _ => ∃ (p : Addr) (m : Int) (n : Nat), vs = [.ref p, .int m] ∧ 0 < m ∧ m ≤ 10 ^ 18 + 1 ∧ PurseAt H p n ∧ n < 1000000 ∧ ∀ (k : Nat) H', (k : Int) < m → But p H H' → PurseAt H' p (n + 1) → Q (.int k) H'
theorem cal_l_coin (Df : Def K mg "_law_coin" sLCoin ["_law_purse_here", "_law_many"]) (BT : Bt mg) : Cal P w K mg base CX0 1 "_law_coin" ["_law_purse_here", "_law_many"] spLCoin := by
  refine Df.cal fun f fd F => F.ok scLCoin (fun vs H Q E ⟨_, _, _, e, _⟩ => by rw [e]; rfl) fun cdv A outer st H vs Q E hr h => ?_
  obtain ⟨p, m, n, rfl, m0, m1, hp, hn, q⟩ := h
  refine ⟨_, pss_cons (ps_if (pt_cmpR op_gt (pe_ix ix_list (pv 0) pe_int (fun _ _ => rfl)) pe_int (nomark _))
      (pss_cons (ps_set (i := 2) scLCoin.nd rfl (.inl rfl) (pe_op op_mod (pe_callTy call_int1 (by rfl) BT.int (by decide +kernel) (pa_cons (pe_ix ix_list (pv 0) pe_int (fun _ _ => rfl)) pa_nil)) (pv 1)))
      (pss_cons (ps_asg (pe_op op_fdivW (pe_ix ix_list (pv 0) pe_int (fun _ _ => rfl)) (pv 1)) (pg_sub (pv 0) pe_int set_list))
      (pss_one (ps_ret (pv 2))))) pss_nil)
    (pss_cons (ps_asg (pe_op op_add (pe_ix ix_list (pv 0) pe_int (fun _ _ => rfl)) pe_int) (pg_sub (pv 0) pe_int set_list))
    (pss_cons (ps_set (i := 3) scLCoin.nd rfl (.inl rfl) (pe_op op_add (pe_ix ix_list (pv 0) pe_int (fun _ _ => rfl)) (pe_op op_mul pe_int (pe_ix ix_list (pv 0) pe_int (fun _ _ => rfl)))))
    (pss_cons (ps_set (i := 3) scLCoin.nd rfl (.inl rfl) (pe_op op_mod (pe_callTy call_int1 (by rfl) BT.int (by decide +kernel) (pa_cons (pe_op op_add (pe_op op_mulW (pv 3) (pv 3)) (pe_ix ix_list (pv 0) pe_int (fun _ _ => rfl))) pa_nil)) (pe_op op_add (pe_op op_pow pe_int pe_int) pe_int)))
    (pss_cons (ps_set (i := 3) scLCoin.nd rfl (.inl rfl) (pe_op op_mod (pe_callTy call_int1 (by rfl) BT.int (by decide +kernel) (pa_cons (pe_op op_add (pe_op op_mul (pe_op op_mulW (pv 3) (pv 3)) pe_int) (pv 3)) pa_nil)) (pe_op op_add (pe_op op_pow pe_int pe_int) pe_int)))
    (pss_one (ps_ret (pe_op op_mod (pe_callTy call_int1 (by rfl) BT.int (by decide +kernel) (pa_cons (pe_op op_fdivW (pv 3) pe_int) pa_nil)) (pv 1)))))))), ?_⟩
  obtain ⟨A0, B, C, h1, a0, b0, b1, c0, c1⟩ := hp
  refine ⟨_, rfl, p, _, _, _, rfl, rfl, SqL.of h1, atI_nat (j := 0) rfl, _, _, rfl, rfl, _, rfl, ?_⟩
  have ml : m.natAbs.log2 < 9000 := Nat.lt_of_le_of_lt (Nat.le_of_lt (PySem.Flt.log2_lt_of (by decide) (nat_lt (b := 64) (by omega) (by omega)))) (by decide)
  by_cases hA : 0 < A0
  · rw [decide_eq_true hA]
    refine iteT ⟨_, rfl, p, _, _, _, rfl, rfl, SqL.of h1, atI_nat (j := 0) rfl, .inl ⟨_, rfl, _, rfl, _, _, rfl, rfl, m0, ?_⟩⟩
    refine ⟨_, rfl, p, _, _, _, rfl, rfl, SqL.of h1, atI_nat (j := 0) rfl, _, rfl, _, _, rfl, rfl, ⟨m0, ml⟩, _, rfl, p, _, _, 0, rfl, rfl, h1, rfl, ?_⟩
    have e0 := Int.emod_nonneg A0 (show m ≠ 0 by omega)
    have e1 := Int.emod_lt_of_pos A0 m0
    obtain ⟨k, hk⟩ := Int.eq_ofNat_of_zero_le e0
    refine ⟨_, rfl, (show Q (.int (A0 % m)) _ from ?_)⟩
    rw [hk]
    exact q k _ (by omega) but_upd ⟨A0 / m, B, C, upd_same, Int.ediv_nonneg a0 (by omega), b0, b1, c0, by omega⟩
  · rw [decide_eq_false hA]
    refine iteF ⟨_, rfl, p, _, _, _, rfl, rfl, SqL.of h1, atI_nat (j := 2) rfl, _, _, rfl, rfl, _, rfl, p, _, _, 2, rfl, rfl, h1, rfl, ?_⟩
    have b2 : But p H (upd H p (.lst ([V.int A0, V.int B, V.int C].set 2 (V.int (C + 1))))) := but_upd
    have h2 : (upd H p (.lst ([V.int A0, V.int B, V.int C].set 2 (V.int (C + 1))))) p = some (.lst [V.int A0, V.int B, V.int (C + 1)]) := upd_same
    generalize upd H p (.lst ([V.int A0, V.int B, V.int C].set 2 (V.int (C + 1)))) = H2 at b2 h2
    refine ⟨_, rfl, p, _, _, _, rfl, rfl, SqL.of h2, atI_nat (j := 1) rfl, _, rfl, p, _, _, _, rfl, rfl, SqL.of h2, atI_nat (j := 2) rfl, _, _, rfl, rfl, .inl ⟨by decide, by decide⟩, _, _, rfl, rfl, ?_⟩
    have s0 : 0 ≤ B + 362437 * (C + 1) := by omega
    have s1 : (B + 362437 * (C + 1)).natAbs < 2 ^ 90 := nat_lt (by omega) s0
    refine ⟨_, rfl, _, rfl, _, _, rfl, rfl, wide_mul (a := 90) (b := 90) s1 s1 (by decide) (by decide) (by decide), _, rfl, p, _, _, _, rfl, rfl, SqL.of h2, atI_nat (j := 2) rfl, _, _, rfl, rfl, .inl ⟨_, rfl, ?_⟩⟩
    refine ⟨_, _, rfl, rfl, ⟨by decide, by decide, by decide⟩, _, _, rfl, rfl, _, _, rfl, rfl, (by show (0 : Int) < 10 ^ 25 + 13; decide), ?_⟩
    have t1 := mod_small (X := (B + 362437 * (C + 1)) * (B + 362437 * (C + 1)) + (C + 1)) (M := 10 ^ 25 + 13) (by decide) (by decide)
    refine ⟨_, rfl, _, rfl, _, _, rfl, rfl, wide_mul (a := 90) (b := 90) t1 t1 (by decide) (by decide) (by decide), _, _, rfl, rfl, .inr ⟨by decide, by decide⟩, _, rfl, _, _, rfl, rfl, .inl ⟨_, rfl, ?_⟩⟩
    refine ⟨_, _, rfl, rfl, ⟨by decide, by decide, by decide⟩, _, _, rfl, rfl, _, _, rfl, rfl, (by show (0 : Int) < 10 ^ 23 + 117; decide), ?_⟩
    refine ⟨_, rfl, _, _, rfl, rfl, ⟨by decide, by decide⟩, .inl ⟨_, rfl, _, rfl, _, _, rfl, rfl, m0, ?_⟩⟩
    refine (fun X (k : (X : Int) = X) => ?_ : ∀ X : Int, X = X → Q (.int (X % m)) H2) _ rfl
    have e0 := Int.emod_nonneg X (show m ≠ 0 by omega)
    have e1 := Int.emod_lt_of_pos X m0
    obtain ⟨k, hk⟩ := Int.eq_ofNat_of_zero_le e0
    rw [hk]
    exact q k _ (by omega) b2 ⟨A0, B, C + 1, h2, a0, b0, b1, by omega, by omega⟩
end
end K19
namespace K19
open PySem L2 K19R
abbrev sLWords : Stmt := topS 43
abbrev sLShown : Stmt := topS 44
abbrev sLBook : Stmt := topS 45
abbrev sLLeaf : Stmt := topS 46
theorem app_cps (x y : Str) : (x ++ y).cps.toList = x.cps.toList ++ y.cps.toList := by
  show (x.cps ++ y.cps).toList = _
  simp
theorem join_cps0 : ∀ ys : List Str, (Str.join "" ys).cps.toList = ys.flatMap fun y => y.cps.toList
  | [] => rfl
  | [x] => by
    show x.cps.toList = _
    simp
  | x :: z :: r => by
    show (x ++ "" ++ Str.join "" (z :: r)).cps.toList = _
    rw [app_cps, app_cps, join_cps0 (z :: r)]
    show (x.cps.toList ++ []) ++ _ = _
    rw [List.append_nil]
    rfl
theorem join_cps (ys : List Str) : (Txt.join "" ys).cps.toList = ys.flatMap fun y => y.cps.toList := by
  rw [show Txt.join "" ys = Str.join "" ys from StrLaws.glued_eq_join "" ys, join_cps0]
def LETR : Str := "ABCDEFGHIJKLMNOPQRSTUVWXYZ_abcdefghijklmnopqrstuvwxyz"
theorem letr_in : ∀ c ∈ LETR.cps.toList, c ∈ LET.cps.toList ∧ c ∈ SIG.cps.toList := by decide +kernel
theorem letr_dig : ∀ c ∈ (LETR ++ DIG).cps.toList, c ∈ SIG.cps.toList := by decide +kernel
theorem letr_len : LETR.cps.toList.length = 53 := by decide +kernel
theorem letr_dig_len : (LETR ++ DIG).cps.toList.length = 63 := by decide +kernel
/-- a drawn name -/
structure WordOk (x : Str) (m : Nat) : Prop where
  first : ∃ c r, x.cps.toList = c :: r ∧ c ∈ LET.cps.toList
  all : ∀ c ∈ x.cps.toList, c ∈ SIG.cps.toList
  len : x.cps.toList.length ≤ m
theorem WordOk.le {x : Str} {m n : Nat} (h : WordOk x m) (l : m ≤ n) : WordOk x n := ⟨h.first, h.all, Nat.le_trans h.len l⟩
theorem WordOk.name {x : Str} {m : Nat} (h : WordOk x m) (l : m ≤ 40) : NmOk x := by
  obtain ⟨c, r, hc, hl⟩ := h.first
  refine ⟨⟨c, r, hc⟩, ?_, ?_, ?_, ?_⟩
  · rw [size_len]
    exact Nat.le_trans h.len l
  · have : isNm x = true := by
      unfold isNm
      rw [hc, Bool.and_eq_true]
      refine ⟨?_, decide_eq_true hl⟩
      unfold hasS
      rw [List.all_eq_true]
      intro d hd
      exact decide_eq_true (h.all d hd)
    unfold isNP
    rw [this]
    rfl
  · intro e
    have := first_of hc e
    have e2 : ("@" : Str).cps.toList = [64] := by decide
    rw [e2] at this
    cases this
    exact absurd hl (by decide)
  · intro e
    have := first_of hc e
    have e2 : ("*" : Str).cps.toList = [42] := by decide
    rw [e2] at this
    cases this
    exact absurd hl (by decide)
theorem WordOk.letter {c : Nat} (h : c ∈ LETR.cps.toList) : WordOk ⟨#[c]⟩ 1 := ⟨⟨c, [], rfl, (letr_in c h).1⟩, fun d hd => by
  have e : d = c := by simpa using hd
  rw [e]
  exact (letr_in c h).2, Nat.le_refl _⟩
theorem WordOk.more {x y : Str} {m n : Nat} (h : WordOk x m) (hy : ∀ c ∈ y.cps.toList, c ∈ SIG.cps.toList) (l : y.cps.toList.length ≤ n) : WordOk (x ++ y) (m + n) := by
  obtain ⟨c, r, hc, hl⟩ := h.first
  have hm := h.len
  refine ⟨⟨c, r ++ y.cps.toList, by rw [app_cps, hc]; rfl, hl⟩, fun d hd => ?_, by rw [app_cps, List.length_append]; omega⟩
  rw [app_cps, List.mem_append] at hd
  rcases hd with hd | hd
  · exact h.all d hd
  · exact hy d hd
theorem nm_sign : NmOk "#" ∧ NmOk "?" ∧ NmOk "0" := by
  refine ⟨⟨⟨35, [], by decide⟩, by decide, by decide +kernel, by decide, by decide⟩, ⟨⟨63, [], by decide⟩, by decide, by decide +kernel, by decide, by decide⟩, ⟨⟨48, [], by decide⟩, by decide, by decide +kernel, by decide, by decide⟩⟩
/-- a comprehension that draws from a purse at each turn -/
theorem lc_coin {J : It} {n : Nat} {G : Hp → Prop} {Y : Nat → Hp → V → Hp → Prop} (w : Walk J n G Y) {g : TG} {te : TE} {vs : List Nat} {σ : St} {H1 : Hp} {D : Addr} {Qd : Hp → Prop} {p : Addr} {N c : Nat}
    (R : Nat → V → Prop) (hn : n ≤ 1000) (hD : H1 D = none) (hp : PurseAt H1 p N) (hG : ∀ H, But p H1 H → G H)
    (hs : ∀ i x H H', i < n → But p H1 H → PurseAt H p (N + i * c) → Y i H x H' → ∀ (k : V → Hp → Prop), (∀ y H4, But p H H4 → PurseAt H4 p (N + (i + 1) * c) → R i y → k y H4) → g x (wipe σ vs) H' fun σ2 H2 => wipe σ2 vs = wipe σ vs ∧ te σ2 H2 k)
    (hd : ∀ H acc, But p H1 H → PurseAt H p (N + n * c) → H D = some (.lst acc) → acc.length = n → (∀ i y, acc[i]? = some y → R i y) → Qd H) :
    ∃ W : Nat → Nat → Hp → Prop, (∃ m, W 0 m (upd H1 D (.lst []))) ∧ ∀ i m H, W i m H →
      (J.stop i H ∧ Qd H) ∨ (J.go i H ∧ ∃ Nx : Hp → Prop, (∀ H', Nx H' → ∃ m', m' < m ∧ W (i + 1) m' H') ∧ ∀ x H', J.yld i H x H' → g x (wipe σ vs) H' fun σ2 H2 => wipe σ2 vs = wipe σ vs ∧ tYes σ2 H2 fun b H3 =>
        if b = true then te σ2 H3 fun y H4 => ∃ acc, H4 D = some (.lst acc) ∧ acc.length < sizeLine ∧ Nx (upd H4 D (.lst (acc ++ [y]))) else Nx H3) := by
  have nD : p ≠ D := by
    obtain ⟨A, B, C, h, _⟩ := hp
    exact fun e => by rw [e, hD] at h; cases h
  refine lc_it w (fun i H => But p H1 H ∧ PurseAt H p (N + i * c) ∧ ∃ acc, H D = some (.lst acc) ∧ acc.length = i ∧ ∀ j y, acc[j]? = some y → R j y) ⟨but_same (same_new hD _), ?_, [], upd_same, rfl, fun j y e => by simp at e⟩ (fun i H _ q => hG H q.1) ?_ ?_
  · rw [Nat.zero_mul]
    exact hp.mono (same_new hD _)
  · rintro i x H H' hi ⟨b1, hp1, acc, ha, hl, hr⟩ hy
    have e : (fun (σ2 : St) (H2 : Hp) => wipe σ2 vs = wipe σ vs ∧ tYes σ2 H2 fun b H3 => if b = true then te σ2 H3 (fun y H4 => ∃ acc, H4 D = some (.lst acc) ∧ acc.length < sizeLine ∧ (But p H1 (upd H4 D (.lst (acc ++ [y]))) ∧ PurseAt (upd H4 D (.lst (acc ++ [y]))) p (N + (i + 1) * c) ∧ ∃ acc', (upd H4 D (.lst (acc ++ [y]))) D = some (.lst acc') ∧ acc'.length = i + 1 ∧ ∀ j y, acc'[j]? = some y → R j y)) else (But p H1 H3 ∧ PurseAt H3 p (N + (i + 1) * c) ∧ ∃ acc, H3 D = some (.lst acc) ∧ acc.length = i + 1 ∧ ∀ j y, acc[j]? = some y → R j y)) = fun σ2 H2 => wipe σ2 vs = wipe σ vs ∧ te σ2 H2 (fun y H4 => ∃ acc, H4 D = some (.lst acc) ∧ acc.length < sizeLine ∧ (But p H1 (upd H4 D (.lst (acc ++ [y]))) ∧ PurseAt (upd H4 D (.lst (acc ++ [y]))) p (N + (i + 1) * c) ∧ ∃ acc', (upd H4 D (.lst (acc ++ [y]))) D = some (.lst acc') ∧ acc'.length = i + 1 ∧ ∀ j y, acc'[j]? = some y → R j y)) := by
      funext σ2 H2
      rw [yes_eq]
    rw [e]
    refine hs i x H H' hi b1 hp1 hy _ fun y H4 b4 hp4 ry => ⟨acc, b4 _ _ nD.symm ha, Nat.lt_of_lt_of_le (Nat.lt_of_le_of_lt (Nat.le_of_eq hl) hi) (Nat.le_of_lt (small1000 hn)), fun b o nb q => ?_, ?_, acc ++ [y], upd_same, by rw [List.length_append, hl]; rfl, fun j z e => ?_⟩
    · rw [upd_ne (ne_of_none q hD)]
      exact b4 _ _ nb (b1 _ _ nb q)
    · obtain ⟨A, B, C, h, h2⟩ := hp4
      exact ⟨A, B, C, by rw [upd_ne nD]; exact h, h2⟩
    · by_cases hj : j < acc.length
      · rw [List.getElem?_append_left hj] at e
        exact hr j z e
      · have hj2 : j = acc.length := by
          have := (List.getElem?_eq_some_iff.mp e).1
          rw [List.length_append, List.length_singleton] at this
          omega
        rw [hj2, List.getElem?_append_right (Nat.le_refl _), Nat.sub_self] at e
        have e : y = z := Option.some.inj e
        rw [← e, hj2, hl]
        exact ry
  · rintro H ⟨b1, hp1, acc, ha, hl, hr⟩
    exact hd H acc b1 hp1 ha hl hr
end K19
namespace K19
open PySem L2 K19R
theorem one_lists : ∀ acc : List V, (∀ (i : Nat) (y : V), acc[i]? = some y → ∃ c : Nat, c ∈ SIG.cps.toList ∧ y = V.str ⟨#[c]⟩) → ∃ ys : List Str, acc = ys.map V.str ∧ (ys.map (·.length)).sum = acc.length ∧ ys.length = acc.length ∧ (∀ d ∈ (Txt.join "" ys).cps.toList, d ∈ SIG.cps.toList) ∧ (Txt.join "" ys).cps.toList.length = acc.length := by
  intro acc h
  have : ∃ ys : List Str, acc = ys.map V.str ∧ (ys.map (·.length)).sum = acc.length ∧ ys.length = acc.length ∧ (∀ d ∈ (ys.flatMap fun y => y.cps.toList), d ∈ SIG.cps.toList) ∧ (ys.flatMap fun y => y.cps.toList).length = acc.length := by
    induction acc with
    | nil => exact ⟨[], rfl, rfl, rfl, fun d hd => (nomatch hd), rfl⟩
    | cons y r ih =>
      obtain ⟨ys, h1, h2, h3, h4, h5⟩ := ih fun i z e => h (i + 1) z e
      obtain ⟨c, hc, rfl⟩ := h 0 y rfl
      refine ⟨⟨#[c]⟩ :: ys, by rw [h1]; rfl, ?_, by rw [List.length_cons, h3]; rfl, fun d hd => ?_, ?_⟩
      · show (1 : Nat) + (ys.map (·.length)).sum = r.length + 1
        rw [h2]
        omega
      · rw [List.flatMap_cons, List.mem_append] at hd
        rcases hd with hd | hd
        · have e : d = c := by simpa using hd
          rw [e]
          exact hc
        · exact h4 d hd
      · rw [List.flatMap_cons, List.length_append, h5]
        show 1 + r.length = r.length + 1
        omega
  obtain ⟨ys, h1, h2, h3, h4, h5⟩ := this
  exact ⟨ys, h1, h2, h3, by rw [join_cps]; exact h4, by rw [join_cps]; exact h5⟩
theorem fresh_but {p r : Addr} {H H1 : Hp} {n : Nat} (b : But p H H1) (hp : PurseAt H1 p n) (h : H1 r = none) : H r = none := by
  cases e : H r with
  | none => rfl
  | some o =>
    by_cases c : r = p
    · obtain ⟨_, _, _, h2, _⟩ := hp
      rw [c, h2] at h
      cases h
    · rw [b r o c e] at h
      cases h
section
variable {P : Program} {w : World} {K : PySem.W.Frag} {mg : Str → Option Value} {base : Heap} {D fI cc cd CS CI CN CG CZ : Addr}
theorem scLWords : FnScope ["_law_purse_here", "_law_letters", "_law_words_here", "_law_turn", "_law_word", "_law_k"] ["_law_purse_here"] (defScope sLWords) := ⟨rfl, rfl, rfl, by decide +kernel, rfl, by decide +kernel, by decide +kernel⟩
def spLWords : Sp := fun vs H Q _ => ∃ (p : Addr) (n : Nat), vs = [.ref p] ∧ PurseAt H p n ∧ n < 100000 ∧ ∀ L H' (ws : List Str), H L = none → But p H H' → PurseAt H' p (n + 48) → H' L = some (.lst (ws.map V.str)) → ws.length = 11 → (∀ x ∈ ws, NmOk x) → Q (.ref L) H'
theorem cal_l_words (Df : Def K mg "_law_words" sLWords ["_law_purse_here"]) (BT : Bt mg) (C1 : Cal P w K mg base CX0 1 "_law_coin" ["_law_purse_here", "_law_many"] spLCoin) : Cal P w K mg base CX0 2 "_law_words" ["_law_purse_here"] spLWords := by
  refine Df.cal fun f fd F => F.ok scLWords (fun vs H Q E ⟨_, _, e, _⟩ => by rw [e]; rfl) fun cdv A outer st H vs Q E hr h => ?_
  obtain ⟨g1, d1, G1, m1, k1, b1⟩ := C1
  have hr1 : Room 1 _ := hr.mono (by omega)
  obtain ⟨p, n, rfl, hp, hn, q⟩ := h
  refine ⟨_, pss_cons (ps_set (i := 1) scLWords.nd rfl (.inr rfl) pe_str) (pss_cons (ps_set (i := 2) scLWords.nd rfl (.inl rfl) (pe_lst pa_nil))
    (pss_cons (ps_for PassesOwn.never rfl (pi_range1 (by rfl) BT.range (pa_cons pe_int pa_nil)) (pg_name (i := 3) scLWords.nd rfl (.inl rfl))
      (pss_cons (ps_set (i := 4) scLWords.nd rfl (.inl rfl) (pe_ix ix_str (pv 1) (pe_call G1 hr1 rfl m1 k1 b1 .nil pass0 (pa_cons (pv 0) (pa_cons pe_int pa_nil))) (fun _ _ => rfl)))
      (pss_cons (ps_if (PW.pt (pw_and (pt_cmpR (op_neNil hr.units0) (pv 2) (pe_lst pa_nil) (nomark _)) (pw_and1 (pt_cmpR op_eq (pe_call G1 hr1 rfl m1 k1 b1 .nil pass0 (pa_cons (pv 0) (pa_cons pe_int pa_nil))) pe_int (nomark _)))))
        (pss_one (ps_set (i := 4) scLWords.nd rfl (.inl rfl) (pe_ix ix_list (pv 2) (pe_call G1 hr1 rfl m1 k1 b1 .nil pass0 (pa_cons (pv 0) (pa_cons (pe_callB call_len_seq (by rfl) BT.len PySem.boot_len (pa_cons (pv 2) pa_nil)) pa_nil))) (fun _ _ => rfl)))) pss_nil)
      (pss_one (ps_expr (pe_bm PySem.F.plainAttrs_list PySem.F.slot_list_append PySem.F.type_list_append mt_append (pv 2) (pa_cons (pe_op op_add_str (pv 4)
        (pe_join pe_str (pe_lc (own := [("_law_k", 5)]) (g := gName 5) (te := tOp rIxS (tOp (fun x y H Q => ∃ i j, x = .str i ∧ y = .str j ∧ i.length + j.length ≤ sizeLine ∧ Q (.str (i ++ j)) H) (tVar 1) (tC (.str DIG))) (tCall spLCoin [] E0 (tCons (tVar 0) (tCons (tC (.int 63)) tNil)))) (by rfl) scLWords.nd (pi_range1 (by rfl) BT.range (pa_cons (pe_call G1 hr1 rfl m1 k1 b1 .nil pass0 (pa_cons (pv 0) (pa_cons pe_int pa_nil))) pa_nil))
          (blkOk_by (own := [("_law_k", 5)]) (N := ["_law_purse_here", "_law_letters", "_law_words_here", "_law_turn", "_law_word", "_law_k"]) (sc := defScope sLWords) (by decide +kernel)) (fun _ _ _ _ _ => pg_name (i := 5) scLWords.nd rfl (Or.inl rfl)) (fun _ _ _ _ _ => pts_nil)
          (fun _ _ _ _ _ => pe_ix ix_str (pe_op op_add_str (pv 1) pe_str) (pe_call G1 hr1 rfl m1 k1 b1 .nil pass0 (pa_cons (pv 0) (pa_cons pe_int pa_nil))) (fun _ _ => rfl))))) pa_nil)))))))
    (pss_one (ps_ret (pe_op op_cat (pv 2) (pe_lst (pa_cons pe_str (pa_cons pe_str (pa_cons pe_str pa_nil))))))))), ?_⟩
  refine ⟨Nat.zero_le _, fun L hL => ?_⟩
  have nL : p ≠ L := by
    obtain ⟨_, _, _, h, _⟩ := hp
    exact fun e => by rw [e, hL] at h; cases h
  refine ⟨8, rfl, by decide, by decide, for_it (walk_range (lo := 0) (n := 8)) (fun i σ H' => ∃ v1 v2 ws, σ = [some (.ref p), some (.str LETR), some (.ref L), v1, v2, none] ∧ But p H H' ∧ PurseAt H' p (n + 6 * i) ∧ H' L = some (.lst (ws.map V.str)) ∧ ws.length = i ∧ ∀ x ∈ ws, WordOk x (2 * i + 1))
    ⟨none, none, [], rfl, but_same (same_new hL _), hp.mono (same_new hL _), upd_same, rfl, fun x hx => (nomatch hx)⟩ (fun _ _ _ _ _ => trivial) ?_ ?_⟩
  · rintro i x σ H1 H2 hi ⟨v1, v2, ws, rfl, b1, hp1, hL1, hl, hw⟩ ⟨rfl, rfl⟩
    refine ⟨_, rfl, _, rfl, p, 53, _, rfl, by decide, by decide, hp1, by omega, fun k H3 hk b3 hp3 => ?_⟩
    have hk1 : k < LETR.cps.toList.length := by rw [letr_len]; omega
    refine ⟨LETR, k, LETR.cps.toList[k], rfl, rfl, by decide, atI_nat (List.getElem?_eq_getElem hk1), ?_⟩
    have hw0 : WordOk ⟨#[LETR.cps.toList[k]]⟩ 1 := WordOk.letter (List.getElem_mem hk1)
    generalize LETR.cps.toList[k] = c at hw0
    have b13 := b1.trans b3
    have hL3 := b3 _ _ nL.symm hL1
    dsimp only [gName]
    refine tseq_via (fun σ H' => ∃ v1 wd, σ = [some (.ref p), some (.str LETR), some (.ref L), v1, some (.str wd), none] ∧ WordOk wd (2 * i + 1) ∧ But p H H' ∧ PurseAt H' p (n + 6 * i + 3) ∧ H' L = some (.lst (ws.map V.str))) ?_ ?_
    · rintro σ H4 ⟨v3, wd, rfl, hwd, b4, hp4, hL4⟩
      refine ⟨_, rfl, .inl ⟨rfl, _, SqL.of hL4⟩, _, rfl, ⟨"", rfl⟩, _, rfl, p, 3, _, rfl, by decide, by decide, hp4, by omega, fun k2 H5 hk2 b5 hp5 => ⟨k2, rfl, by omega, by omega, fun D hD => ?_⟩⟩
      refine lc_coin (walk_range (lo := 0) (n := (k2 : Int).toNat)) (p := p) (N := n + 6 * i + 4) (c := 1) (fun _ y => ∃ c : Nat, c ∈ SIG.cps.toList ∧ y = V.str ⟨#[c]⟩) (by omega) hD hp5 (fun _ _ => trivial) (fun j u H6 H7 hj b6 hp6 hy kk hkk => ?_) fun H6 acc b6 hp6 hD6 hacc hR => ?_
      · obtain ⟨rfl, rfl⟩ := hy
        refine ⟨rfl, _, rfl, LETR, DIG, rfl, rfl, by decide, _, rfl, p, 63, _, rfl, by decide, by decide, hp6, by omega, fun k6 H8 hk6 b8 hp8 => ?_⟩
        have hk6' : k6 < (LETR ++ DIG).cps.toList.length := by rw [letr_dig_len]; omega
        refine ⟨LETR ++ DIG, k6, (LETR ++ DIG).cps.toList[k6], rfl, rfl, by decide, atI_nat (List.getElem?_eq_getElem hk6'), hkk _ H8 b8 (hp8.le (by omega)) ⟨_, letr_dig _ (List.getElem_mem hk6'), rfl⟩⟩
      · obtain ⟨ys, rfl, e1, e2, e3, e4⟩ := one_lists acc hR
        have hL6 : H6 L = some (.lst (ws.map V.str)) := b6 _ _ nL.symm (b5 _ _ nL.symm hL4)
        have hl2 : (Txt.join "" ys).cps.toList.length ≤ 2 := by rw [e4, hacc]; omega
        refine ⟨"", D, ys, rfl, rfl, .inl (SqL.of hD6), ?_, wd, _, rfl, rfl, ?_, ?_⟩
        · show (ys.map (·.length)).sum + ys.length * 0 ≤ _
          rw [e1, hacc]
          omega
        · rw [str_len, str_len]
          have := hwd.len
          exact Nat.le_of_lt (small1000 (by omega))
        · have lw : (ws.map V.str).length < sizeLine := by rw [List.length_map, hl]; exact small1000 (by omega)
          refine ⟨L, _, _, rfl, rfl, hL6, lw, ?_⟩
          refine ⟨v3, _, ws ++ [wd ++ Txt.join "" ys], rfl, fun b o nb e => ?_, ?_, by rw [upd_same, List.map_append]; rfl, by rw [List.length_append, hl]; rfl, fun x hx => ?_⟩
          · have nbl : b ≠ L := ne_of_none e hL
            rw [upd_ne nbl]
            exact ((b4.trans b5).trans b6) _ _ nb e
          · obtain ⟨X1, X2, X3, h, h2, h3, h4, h5, h6⟩ := hp6
            exact ⟨X1, X2, X3, by rw [upd_ne nL]; exact h, h2, h3, h4, h5, by omega⟩
          · rcases List.mem_append.mp hx with hx | hx
            · exact (hw x hx).le (by omega)
            · rw [List.mem_singleton.mp hx]
              exact (hwd.more e3 hl2).le (by omega)
    · intro fin
      refine ⟨_, rfl, Nat.zero_le _, fun l hl0 => ?_⟩
      have s4 := same_new hl0 (.lst [])
      refine ⟨L, l, _, rfl, rfl, SqL.of (s4 _ _ hL3), SqL.of upd_same, _, rfl, ?_⟩
      have hL4 := s4 _ _ hL3
      have b14 := b13.same s4
      have hp4 := hp3.mono s4
      generalize upd H3 l (.lst []) = H4 at s4 hL4 b14 hp4
      cases ws with
      | nil => exact iteF (iteF (fin _ _ ⟨_, _, rfl, hw0.le (by omega), b14, hp4.le (by omega), hL4⟩))
      | cons x0 r0 =>
        refine iteT ⟨_, rfl, p, 2, _, rfl, by decide, by decide, hp4, by omega, fun k2 H5 hk2 b5 hp5 => ⟨rfl, _, rfl, ?_⟩⟩
        have hL5 := b5 _ _ nL.symm hL4
        have b15 := b14.trans b5
        rw [int_dec]
        by_cases z0 : (k2 : Int) = 0
        · rw [decide_eq_true z0]
          refine iteT ⟨_, rfl, _, rfl, _, rfl, L, _, rfl, .inl (SqL.of hL5), p, _, _, rfl, ?_, ?_, hp5, by omega, fun k3 H6 hk3 b6 hp6 => ?_⟩
          · rw [List.length_map, List.length_cons]; omega
          · rw [List.length_map, hl]; omega
          · have hk3' : k3 < (x0 :: r0).length := by rw [List.length_map] at hk3; omega
            refine ⟨L, _, _, _, rfl, rfl, SqL.of (b6 _ _ nL.symm hL5), atI_nat (j := k3) (by rw [List.getElem?_map, List.getElem?_eq_getElem hk3']; rfl), fin _ _ ⟨_, _, rfl, (hw _ (List.getElem_mem hk3')), b15.trans b6, hp6.le (by omega), b6 _ _ nL.symm hL5⟩⟩
        · rw [decide_eq_false z0]
          exact iteF (fin _ _ ⟨_, _, rfl, hw0.le (by omega), b15, hp5.le (by omega), hL5⟩)
  · rintro σ H1 ⟨v1, v2, ws, rfl, b1, hp1, hL1, hl, hw⟩
    refine ⟨_, rfl, (by show 3 ≤ sizeLine; decide), fun l hl0 => ?_⟩
    have s2 := same_new hl0 (.lst [.str "#", .str "?", .str "0"])
    refine ⟨L, l, _, _, rfl, rfl, s2 _ _ hL1, upd_same, by rw [List.length_map, hl]; show 8 + 3 ≤ sizeLine; decide, fun r hr0 => ?_⟩
    have hp2 := hp1.mono s2
    have b2 := b1.same s2
    have s3 := same_new hr0 (.lst (ws.map V.str ++ [.str "#", .str "?", .str "0"]))
    refine q r _ (ws ++ (["#", "?", "0"] : List Str)) (fresh_but b2 hp2 hr0) (b2.same s3) ((hp2.mono s3).le (show n + 6 * 8 ≤ n + 48 by omega)) (by rw [upd_same, List.map_append]; rfl) (by rw [List.length_append, hl]; rfl) fun x hx => ?_
    rcases List.mem_append.mp hx with hx | hx
    · exact (hw x hx).name (by decide)
    · simp only [List.mem_cons, List.not_mem_nil, or_false] at hx
      rcases hx with rfl | rfl | rfl
      · exact nm_sign.1
      · exact nm_sign.2.1
      · exact nm_sign.2.2
end
end K19
namespace K19
open PySem L2 K19R
theorem str_num_len {i : Int} (h : i.natAbs < 10 ^ 41) : (Str.ofString (toString i)).cps.toList.length ≤ 42 := by
  rw [← str_len]
  by_cases h0 : 0 ≤ i
  · exact Nat.le_trans (PyProof.Rows.toString_length_le h0 (k := 41) (by decide) (by omega)) (by decide)
  · have h1 := PyProof.Rows.toString_length_le (v := 0 - i) (by omega) (k := 41) (by decide) (by omega)
    rw [PyProof.Rows.ofString_length] at h1
    rw [PyProof.Rows.ofString_length, PyProof.Rows.toString_neg (by omega), String.toList_append, List.length_append]
    have : ("-" : String).toList.length = 1 := by decide
    omega
theorem cut_take (s : Str) (n : Nat) : (cutS s none (some (n : Int))).cps.toList = s.cps.toList.take n := by
  unfold cutS
  rw [HT.sIx_none, show HT.sIx s.length s.length (some (n : Int)) = min n s.length from HT.sIx_nat s.length s.length n, List.drop_zero, Nat.sub_zero]
  show s.cps.toList.take (min n s.length) = _
  rw [str_len]
  rw [List.take_eq_take_iff]
  omega
/-- the first figures of a number are a number -/
theorem cut_num {N k : Nat} (h : N < 10 ^ 41) : ∃ m : Nat, PySem.intText? (cutS (Str.ofString (toString ((N : Nat) : Int))) none (some (((1 + k : Nat)) : Int))) = some (m : Int) ∧ m < 10 ^ 41 ∧ (cutS (Str.ofString (toString ((N : Nat) : Int))) none (some (((1 + k : Nat)) : Int))).length ≤ 640 := by
  have e := cut_take (Str.ofString (toString ((N : Nat) : Int))) (1 + k)
  rw [show (Str.ofString (toString ((N : Nat) : Int))).cps.toList = TL.numL N from TL.tl_num N] at e
  have hd := TL.numL_digits N
  have hl := TL.numL_len (k := 41) (by decide) h
  have ll : ((TL.numL N).take (1 + k)).length ≤ 41 := by rw [List.length_take]; omega
  have ne : (TL.numL N).take (1 + k) ≠ [] := by
    have := TL.numL_ne N
    intro z
    have z2 : ((TL.numL N).take (1 + k)).length = 0 := by rw [z]; rfl
    rw [List.length_take] at z2
    have : 0 < (TL.numL N).length := List.length_pos_iff.mpr this
    omega
  have ad : NumText.AllDigits ((TL.numL N).take (1 + k)) := fun c hc => hd c (List.mem_of_mem_take hc)
  have len : (cutS (Str.ofString (toString ((N : Nat) : Int))) none (some (((1 + k : Nat)) : Int))).length ≤ 41 := by rw [str_len, e]; exact ll
  refine ⟨NumText.digitsVal ((TL.numL N).take (1 + k)), ?_, ?_, by omega⟩
  · have := PySem.intText_digits (x := cutS (Str.ofString (toString ((N : Nat) : Int))) none (some (((1 + k : Nat)) : Int))) (by rw [e]; exact ad) (by rw [e]; exact ne) (by omega)
    rw [e] at this
    exact this
  · exact Nat.lt_of_lt_of_le (digits_lt ad) (Nat.pow_le_pow_right (by decide) ll)
def ODD : List Str := (["x", "-", "-0", "007", "+1", " 1", "1 ", "1.0", "- 1", "1_0", "--1", "1\n", "00", "0-1", "-01"] : List Str) ++ ([("1" : Str) ++ Txt.mul "0" 40, ("-" : Str) ++ Txt.mul "9" 41] : List Str)
theorem odd_len : ∀ s ∈ ODD, s.cps.toList.length ≤ 100 := by decide +kernel
theorem odd_17 : ODD.length = 17 := by decide
theorem log_small {i : Int} (h : i.natAbs < 10 ^ 41) : i.natAbs.log2 < 1920 := Nat.lt_of_lt_of_le (PySem.Flt.log2_lt_of (by decide) (Nat.lt_of_lt_of_le h (show 10 ^ 41 ≤ 2 ^ 137 by decide))) (by decide)
section
variable {P : Program} {w : World} {K : PySem.W.Frag} {mg : Str → Option Value} {base : Heap} {D fI cc cd CS CI CN CG CZ : Addr}
theorem scLShown : FnScope ["_law_purse_here", "_law_way", "_law_odd", "_law_number_here"] ["_law_purse_here"] (defScope sLShown) := ⟨rfl, rfl, rfl, by decide +kernel, rfl, by decide +kernel, by decide +kernel⟩
def spLShown : Sp := fun vs H Q _ => ∃ (p : Addr) (n : Nat), vs = [.ref p] ∧ PurseAt H p n ∧ n < 100000 ∧ ∀ (s : Str) H', s.cps.toList.length ≤ 100 → But p H H' → PurseAt H' p (n + 8) → Q (.str s) H'
theorem cal_l_shown (Df : Def K mg "_law_shown" sLShown ["_law_purse_here"]) (BT : Bt mg) (C1 : Cal P w K mg base CX0 1 "_law_coin" ["_law_purse_here", "_law_many"] spLCoin) : Cal P w K mg base CX0 2 "_law_shown" ["_law_purse_here"] spLShown := by
  refine Df.cal fun f fd F => F.ok scLShown (fun vs H Q E ⟨_, _, e, _⟩ => by rw [e]; rfl) fun cdv A outer st H vs Q E hr h => ?_
  obtain ⟨g1, d1, G1, m1, k1, b1⟩ := C1
  have hr1 : Room 1 _ := hr.mono (by omega)
  obtain ⟨p, n, rfl, hp, hn, q⟩ := h
  refine ⟨_, pss_cons (ps_set (i := 1) scLShown.nd rfl (.inl rfl) (pe_call G1 hr1 rfl m1 k1 b1 .nil pass0 (pa_cons (pv 0) (pa_cons pe_int pa_nil))))
    (pss_cons (ps_if (pt_cmpR op_eq (pv 1) pe_int (nomark _)) (pss_one (ps_ret pe_str)) pss_nil)
    (pss_cons (ps_if (pt_cmpR op_eq (pv 1) pe_int (nomark _))
      (pss_cons (ps_set (i := 2) scLShown.nd rfl (.inl rfl) (pe_lst (pa_cons pe_str (pa_cons pe_str (pa_cons pe_str (pa_cons pe_str (pa_cons pe_str (pa_cons pe_str (pa_cons pe_str (pa_cons pe_str (pa_cons pe_str (pa_cons pe_str (pa_cons pe_str (pa_cons pe_str (pa_cons pe_str (pa_cons pe_str (pa_cons pe_str pa_nil)))))))))))))))))
      (pss_cons (ps_set (i := 2) scLShown.nd rfl (.inl rfl) (pe_op op_cat (pv 2) (pe_lst (pa_cons (pe_op op_add_str pe_str (pe_op op_mulS pe_str pe_int)) (pa_cons (pe_op op_add_str pe_str (pe_op op_mulS pe_str pe_int)) pa_nil)))))
      (pss_one (ps_ret (pe_ix ix_list (pv 2) (pe_call G1 hr1 rfl m1 k1 b1 .nil pass0 (pa_cons (pv 0) (pa_cons pe_int pa_nil))) (fun _ _ => rfl)))))) pss_nil)
    (pss_cons (ps_if (pt_cmpR op_lt (pv 1) pe_int (nomark _)) (pss_one (ps_ret (pe_callTy call_str_int (by rfl) BT.str (by decide +kernel) (pa_cons (pe_op op_sub (pe_call G1 hr1 rfl m1 k1 b1 .nil pass0 (pa_cons (pv 0) (pa_cons pe_int pa_nil))) pe_int) pa_nil)))) pss_nil)
    (pss_cons (ps_set (i := 3) scLShown.nd rfl (.inl rfl) (pe_op op_add (pe_op op_add (pe_op op_mul (pe_call G1 hr1 rfl m1 k1 b1 .nil pass0 (pa_cons (pv 0) (pa_cons (pe_op op_pow pe_int pe_int) pa_nil))) (pe_op op_pow pe_int pe_int))
        (pe_op op_mul (pe_call G1 hr1 rfl m1 k1 b1 .nil pass0 (pa_cons (pv 0) (pa_cons (pe_op op_pow pe_int pe_int) pa_nil))) (pe_op op_pow pe_int pe_int))) (pe_call G1 hr1 rfl m1 k1 b1 .nil pass0 (pa_cons (pv 0) (pa_cons (pe_op op_pow pe_int pe_int) pa_nil)))))
    (pss_cons (ps_set (i := 3) scLShown.nd rfl (.inl rfl) (pe_callTy call_int_str (by rfl) BT.int (by decide +kernel) (pa_cons (pe_slice sl_str (pe_callTy call_str_int (by rfl) BT.str (by decide +kernel) (pa_cons (pv 3) pa_nil)) po_none (po_some (pe_op op_add pe_int (pe_call G1 hr1 rfl m1 k1 b1 .nil pass0 (pa_cons (pv 0) (pa_cons pe_int pa_nil)))))) pa_nil)))
    (pss_one (ps_ret (pe_callTy call_str_int (by rfl) BT.str (by decide +kernel) (pa_cons (pe_op op_mul (pv 3) (pe_ix ix_list (pe_lst (pa_cons pe_int (pa_cons (pe_un un_neg pe_int) pa_nil))) (pe_call G1 hr1 rfl m1 k1 b1 .nil pass0 (pa_cons (pv 0) (pa_cons pe_int pa_nil))) (fun _ _ => rfl))) pa_nil))))))))), ?_⟩
  refine ⟨_, rfl, p, 12, _, rfl, by decide, by decide, hp, by omega, fun k H1 hk c1 hp1 => ?_⟩
  refine ⟨_, rfl, rfl, _, rfl, ?_⟩
  rw [int_dec]
  by_cases w0 : (k : Int) = 0
  · rw [decide_eq_true w0]
    exact iteT (q "" H1 (by decide) c1 (hp1.le (by omega)))
  rw [decide_eq_false w0]
  refine iteF ⟨_, rfl, rfl, _, rfl, ?_⟩
  rw [int_dec]
  by_cases w1 : (k : Int) = 1
  · rw [decide_eq_true w1]
    refine iteT ⟨(by show 15 ≤ sizeLine; decide), fun L hL => ?_⟩
    have s2 := same_new hL (.lst ((["x", "-", "-0", "007", "+1", " 1", "1 ", "1.0", "- 1", "1_0", "--1", "1\n", "00", "0-1", "-01"] : List Str).map V.str))
    have h2 : (upd H1 L (.lst ((["x", "-", "-0", "007", "+1", " 1", "1 ", "1.0", "- 1", "1_0", "--1", "1\n", "00", "0-1", "-01"] : List Str).map V.str))) L = _ := upd_same
    refine ⟨_, rfl, "0", 40, rfl, rfl, ⟨by decide, fun _ _ => by decide, fun _ _ => by decide⟩, _, _, rfl, rfl, by decide +kernel, "9", 41, rfl, rfl, ⟨by decide, fun _ _ => by decide, fun _ _ => by decide⟩, _, _, rfl, rfl, by decide +kernel, (by show 2 ≤ sizeLine; decide), fun l hl => ?_⟩
    have s3 := same_new hl (.lst [.str (("1" : Str) ++ Txt.mul "0" 40), .str (("-" : Str) ++ Txt.mul "9" 41)])
    refine ⟨L, l, _, _, rfl, rfl, s3 _ _ h2, upd_same, (by show 15 + 2 ≤ sizeLine; decide), fun r hr0 => ?_⟩
    have s4 := same_new hr0 (.lst (ODD.map V.str))
    have h4 : (upd (upd (upd H1 L (.lst ((["x", "-", "-0", "007", "+1", " 1", "1 ", "1.0", "- 1", "1_0", "--1", "1\n", "00", "0-1", "-01"] : List Str).map V.str))) l (.lst [.str (("1" : Str) ++ Txt.mul "0" 40), .str (("-" : Str) ++ Txt.mul "9" 41)])) r (.lst (ODD.map V.str))) r = some (.lst (ODD.map V.str)) := upd_same
    have s14 := s2.trans (s3.trans s4)
    have nr : r ≠ p := by
      obtain ⟨_, _, _, h, _⟩ := (hp1.mono s2).mono s3
      exact fun e => by rw [← e, hr0] at h; cases h
    have hp4 := hp1.mono s14
    refine ⟨_, rfl, _, rfl, p, 17, _, rfl, by decide, by decide, hp4, by omega, fun k2 H2 hk2 c2 hp2 => ?_⟩
    have hk2' : k2 < ODD.length := by rw [odd_17]; omega
    exact ⟨r, _, _, _, rfl, rfl, SqL.of (c2 _ _ nr h4), atI_nat (j := k2) (by rw [List.getElem?_map, List.getElem?_eq_getElem hk2']; rfl), q _ H2 (odd_len _ (List.getElem_mem hk2')) ((c1.same s14).trans c2) (hp2.le (by omega))⟩
  rw [decide_eq_false w1]
  refine iteF ⟨_, rfl, _, _, rfl, rfl, _, rfl, ?_⟩
  by_cases w6 : (k : Int) < 6
  · rw [decide_eq_true w6]
    refine iteT ⟨_, rfl, p, 7, _, rfl, by decide, by decide, hp1, by omega, fun k2 H2 hk2 c2 hp2 => ⟨_, _, rfl, rfl, _, rfl, ?_, q _ H2 ?_ (c1.trans c2) (hp2.le (by omega))⟩⟩
    · exact log_small (by omega)
    · exact Nat.le_trans (str_num_len (by omega)) (by decide)
  rw [decide_eq_false w6]
  have t13 : (10 : Int) ^ (13 : Int).toNat = 10000000000000 := by decide
  have t14 : (10 : Int) ^ (14 : Int).toNat = 100000000000000 := by decide
  have t27 : (10 : Int) ^ (27 : Int).toNat = 1000000000000000000000000000 := by decide
  refine iteF ⟨_, rfl, _, _, rfl, rfl, ⟨by decide, by decide, by decide⟩, p, _, _, rfl, by decide, by decide, hp1, by omega, fun k2 H2 hk2 c2 hp2 => ?_⟩
  rw [t13] at hk2
  refine ⟨_, _, rfl, rfl, ⟨by decide, by decide, by decide⟩, _, _, rfl, rfl, .inl ⟨by omega, by omega⟩, _, rfl, _, _, rfl, rfl, ⟨by decide, by decide, by decide⟩, p, _, _, rfl, by decide, by decide, hp2, by omega, fun k3 H3 hk3 c3 hp3 => ?_⟩
  rw [t13] at hk3
  refine ⟨_, _, rfl, rfl, ⟨by decide, by decide, by decide⟩, _, _, rfl, rfl, .inl ⟨by omega, by omega⟩, _, _, rfl, rfl, _, rfl, _, _, rfl, rfl, ⟨by decide, by decide, by decide⟩, p, _, _, rfl, by decide, by decide, hp3, by omega, fun k4 H4 hk4 c4 hp4 => ?_⟩
  rw [t14] at hk4
  refine ⟨_, _, rfl, rfl, ?_⟩
  have eN : ((k2 : Int) * 10 ^ (27 : Int).toNat + (k3 : Int) * 10 ^ (14 : Int).toNat + (k4 : Int)) = (((k2 * 1000000000000000000000000000 + k3 * 100000000000000 + k4 : Nat)) : Int) := by
    rw [t27, t14]
    omega
  have hN : k2 * 1000000000000000000000000000 + k3 * 100000000000000 + k4 < 10 ^ 41 := by omega
  refine (fun (X : Int) (e : X = _) => ?_ : ∀ X : Int, X = (((k2 * 1000000000000000000000000000 + k3 * 100000000000000 + k4 : Nat)) : Int) → gName 3 (.int X) _ H4 _) _ eN
  generalize k2 * 1000000000000000000000000000 + k3 * 100000000000000 + k4 = N at e hN
  subst e
  refine ⟨_, rfl, _, rfl, log_small (by omega), _, rfl, p, 40, _, rfl, by decide, by decide, hp4, by omega, fun k5 H5 hk5 c5 hp5 => ?_⟩
  obtain ⟨m, cm, hm, lm⟩ := cut_num (N := N) (k := k5) hN
  have ls := str_num_len (i := (N : Int)) (by omega)
  refine ⟨_, _, rfl, rfl, ((1 + k5 : Nat) : Int), by rw [Int.natCast_add]; rfl, _, rfl, by rw [str_len]; exact Nat.le_of_lt (small1000 (by omega)), _, m, rfl, cm, lm, ?_⟩
  refine ⟨_, rfl, _, rfl, (by show 2 ≤ sizeLine; decide), fun l hl => ?_⟩
  have s6 := same_new hl (.lst [.int 1, .int (-1)])
  have h6 : (upd H5 l (.lst [.int 1, .int (-1)])) l = some (.lst [.int 1, .int (-1)]) := upd_same
  have nl : l ≠ p := by
    obtain ⟨_, _, _, h, _⟩ := hp5
    exact fun e => by rw [← e, hl] at h; cases h
  have hp6 := hp5.mono s6
  refine ⟨_, rfl, p, 2, _, rfl, by decide, by decide, hp6, by omega, fun k6 H7 hk6 c7 hp7 => ?_⟩
  have c17 : But p H H7 := (((((c1.trans c2).trans c3).trans c4).trans c5).same s6).trans c7
  have h7 := c7 _ _ nl h6
  have hk : k6 = 0 ∨ k6 = 1 := by omega
  rcases hk with rfl | rfl
  · refine ⟨l, _, _, _, rfl, rfl, SqL.of h7, atI_nat (j := 0) rfl, _, _, rfl, rfl, .inr ⟨by decide, by decide⟩, _, rfl, ?_, q _ H7 ?_ c17 (hp7.le (by omega))⟩
    · exact log_small (by omega)
    · exact Nat.le_trans (str_num_len (by omega)) (by decide)
  · refine ⟨l, _, _, _, rfl, rfl, SqL.of h7, atI_nat (j := 1) rfl, _, _, rfl, rfl, .inr ⟨by decide, by decide⟩, _, rfl, ?_, q _ H7 ?_ c17 (hp7.le (by omega))⟩
    · exact log_small (by omega)
    · exact Nat.le_trans (str_num_len (by omega)) (by decide)
end
end K19
namespace K19
open PySem L2 K19R
def putB (bs : List (Str × Str)) (k s : Str) : List (Str × Str) := if (bs.any fun kv => decide (kv.1 = k)) = true then bs.map (fun kv => if kv.1 = k then (kv.1, s) else kv) else bs ++ [(k, s)]
theorem put_book (bs : List (Str × Str)) (k s : Str) : putK (bookK bs) (Sum.inr k) (V.str s) = bookK (putB bs k s) := by
  unfold putK putB bookK
  have e : (List.map (fun p : Str × Str => ((Sum.inr p.1 : Key), V.str p.2)) bs).any (fun kv => decide (kv.1 = (Sum.inr k : Key))) = bs.any fun kv => decide (kv.1 = k) := by
    rw [List.any_map]
    congr 1
    funext p
    show decide ((Sum.inr p.1 : Key) = Sum.inr k) = decide (p.1 = k)
    by_cases h : p.1 = k
    · rw [h, decide_eq_true rfl, decide_eq_true rfl]
    · rw [decide_eq_false h, decide_eq_false fun z => h (Sum.inr.inj z)]
  rw [e]
  split
  · rw [List.map_map, List.map_map]
    congr 1
    funext p
    show (if (Sum.inr p.1 : Key) = Sum.inr k then ((Sum.inr p.1 : Key), V.str s) else (Sum.inr p.1, V.str p.2)) = _
    by_cases h : p.1 = k
    · rw [if_pos (by rw [h])]
      show _ = (fun q : Str × Str => ((Sum.inr q.1 : Key), V.str q.2)) (if p.1 = k then (p.1, s) else p)
      rw [if_pos h]
    · rw [if_neg fun z => h (Sum.inr.inj z)]
      show _ = (fun q : Str × Str => ((Sum.inr q.1 : Key), V.str q.2)) (if p.1 = k then (p.1, s) else p)
      rw [if_neg h]
  · rw [List.map_append]
    rfl
theorem put_len (bs : List (Str × Str)) (k s : Str) : (putB bs k s).length ≤ bs.length + 1 := by
  unfold putB
  split
  · rw [List.length_map]; omega
  · rw [List.length_append]; exact Nat.le_refl _
theorem put_ok {bs : List (Str × Str)} {k s : Str} (h : ∀ p ∈ bs, p.2.cps.toList.length ≤ 100) (hs : s.cps.toList.length ≤ 100) : ∀ p ∈ putB bs k s, p.2.cps.toList.length ≤ 100 := by
  intro p hp
  unfold putB at hp
  split at hp
  · obtain ⟨r, hr, rfl⟩ := List.mem_map.mp hp
    split
    · exact hs
    · exact h r hr
  · rcases List.mem_append.mp hp with hp | hp
    · exact h p hp
    · rw [List.mem_singleton.mp hp]; exact hs
section
variable {P : Program} {w : World} {K : PySem.W.Frag} {mg : Str → Option Value} {base : Heap} {D fI cc cd CS CI CN CG CZ : Addr}
theorem scLBook : FnScope ["_law_purse_here", "_law_words_here", "_law_book_here", "_law_turn"] ["_law_purse_here", "_law_words_here"] (defScope sLBook) := ⟨rfl, rfl, rfl, by decide +kernel, rfl, by decide +kernel, by decide +kernel⟩
def spLBook : Sp := fun vs H Q _ => ∃ (p L : Addr) (n : Nat) (ws : List Str), vs = [.ref p, .ref L] ∧ PurseAt H p n ∧ n < 10000 ∧ H L = some (.lst (ws.map V.str)) ∧ ws.length = 11 ∧
  ∀ b (bs : List (Str × Str)) H', H b = none → But p H H' → PurseAt H' p (n + 100) → H' b = some (.dK (bookK bs)) → (∀ p ∈ bs, p.2.cps.toList.length ≤ 100) → Q (.ref b) H'
theorem cal_l_book (Df : Def K mg "_law_book" sLBook ["_law_purse_here", "_law_words_here"]) (BT : Bt mg) (C1 : Cal P w K mg base CX0 1 "_law_coin" ["_law_purse_here", "_law_many"] spLCoin) (C2 : Cal P w K mg base CX0 2 "_law_shown" ["_law_purse_here"] spLShown) : Cal P w K mg base CX0 3 "_law_book" ["_law_purse_here", "_law_words_here"] spLBook := by
  refine Df.cal fun f fd F => F.ok scLBook (fun vs H Q E ⟨_, _, _, _, e, _⟩ => by rw [e]; rfl) fun cdv A outer st H vs Q E hr h => ?_
  obtain ⟨g1, d1, G1, m1, k1, b1⟩ := C1
  obtain ⟨g2, d2, G2, m2, k2, b2⟩ := C2
  have hr1 : Room 1 _ := hr.mono (by omega)
  have hr2 : Room 2 _ := hr.mono (by omega)
  obtain ⟨p, L, n, ws, rfl, hp, hn, hL, hl, q⟩ := h
  refine ⟨_, pss_cons (ps_set (i := 2) scLBook.nd rfl (.inl rfl) pe_dnewK)
    (pss_cons (ps_for PassesOwn.never rfl (pi_range1 (by rfl) BT.range (pa_cons (pe_call G1 hr1 rfl m1 k1 b1 .nil pass0 (pa_cons (pv 0) (pa_cons pe_int pa_nil))) pa_nil)) (pg_name (i := 3) scLBook.nd rfl (.inl rfl))
      (pss_one (ps_dput (by exact hu_of hr) (pv 2) (pe_ix ix_list (pv 1) (pe_call G1 hr1 rfl m1 k1 b1 .nil pass0 (pa_cons (pv 0) (pa_cons pe_int pa_nil))) (fun _ _ => rfl)) (pe_call G2 hr2 rfl m2 k2 b2 .nil pass0 (pa_cons (pv 0) pa_nil)) (by rfl))))
    (pss_one (ps_ret (pv 2)))), ?_⟩
  refine fun b hb => ?_
  have s1 := same_new hb (.dK [])
  have nb : p ≠ b := by
    obtain ⟨_, _, _, h, _⟩ := hp
    exact fun e => by rw [e, hb] at h; cases h
  have nL : L ≠ b := ne_of_none hL hb
  have nLp : L ≠ p := by
    obtain ⟨_, _, _, h, _⟩ := hp
    intro e
    rw [e, h] at hL
    have : ws.map V.str = [_, _, _] := (HO.lst.inj (Option.some.inj hL)).symm
    have := congrArg List.length this
    rw [List.length_map, hl] at this
    cases this
  refine ⟨_, rfl, p, 9, _, rfl, by decide, by decide, hp.mono s1, by omega, fun k H2 hk c2 hp2 => ⟨k, rfl, by omega, by omega, ?_⟩⟩
  refine for_it (walk_range (lo := 0) (n := (k : Int).toNat)) (fun i σ H' => ∃ v1 bs, σ = [some (.ref p), some (.ref L), some (.ref b), v1] ∧ But p H H' ∧ PurseAt H' p (n + 1 + 9 * i) ∧ H' b = some (.dK (bookK bs)) ∧ bs.length ≤ i ∧ ∀ p ∈ bs, p.2.cps.toList.length ≤ 100)
    ⟨none, [], rfl, (but_same s1).trans c2, hp2, c2 _ _ nb.symm upd_same, Nat.le_refl _, fun p hp => (nomatch hp)⟩ (fun _ _ _ _ _ => trivial) ?_ ?_
  · rintro i x σ H3 H4 hi ⟨v1, bs, rfl, b3, hp3, hb3, hlb, hok⟩ ⟨rfl, rfl⟩
    refine ⟨_, rfl, p, _, rfl, hp3, by omega, fun s H5 hs b5 hp5 => ?_⟩
    refine ⟨_, rfl, _, rfl, _, rfl, p, 11, _, rfl, by decide, by decide, hp5, by omega, fun k2 H6 hk2 c6 hp6 => ?_⟩
    have hk2' : k2 < ws.length := by omega
    have b6 := (b3.trans b5).trans c6
    have hb6 : H6 b = some (.dK (bookK bs)) := c6 _ _ nb.symm (b5 _ _ nb.symm hb3)
    refine ⟨L, _, _, _, rfl, rfl, SqL.of (b6 _ _ nLp hL), atI_nat (j := k2) (by rw [List.getElem?_map, List.getElem?_eq_getElem hk2']; rfl), b, _, rfl, DPut.k (k := Sum.inr ws[k2]) hb6 ?_, ?_⟩
    · show (bookK bs).length < sizeLine
      unfold bookK
      rw [List.length_map]
      exact small1000 (by omega)
    · rw [put_book]
      refine ⟨_, putB bs ws[k2] s, rfl, fun c o nc e => ?_, ?_, upd_same, ?_, put_ok hok hs⟩
      · rw [upd_ne (ne_of_none e hb)]
        exact b6 _ _ nc e
      · obtain ⟨X1, X2, X3, h, h2, h3, h4, h5, h6⟩ := hp6
        exact ⟨X1, X2, X3, by rw [upd_ne nb]; exact h, h2, h3, h4, h5, by omega⟩
      · have := put_len bs ws[k2] s
        omega
  · rintro σ H3 ⟨v1, bs, rfl, b3, hp3, hb3, hlb, hok⟩
    exact ⟨_, rfl, q b bs H3 hb b3 (hp3.le (by omega)) hb3 hok⟩
end
end K19
namespace K19
open PySem L2 K19R
def PLC : List Str := ["1", "2", "3", "4", "5", "6", "7", "8", "9", "10", "11", "12", "13"]
theorem plc_at : ∀ i, i < 13 → PLC[i]? = some (Str.ofString (toString ((1 : Int) + (i : Nat)))) := by decide +kernel
theorem plc_ok0 : ∀ x ∈ PLC, x.cps.toList ≠ [] ∧ x.cps.size ≤ 40 ∧ isNP x = true ∧ x ≠ "@" ∧ x ≠ "*" := by decide +kernel
theorem plc_ok : ∀ x ∈ PLC, NmOk x := fun x hx => by
  obtain ⟨h1, h2, h3, h4, h5⟩ := plc_ok0 x hx
  refine ⟨?_, h2, h3, h4, h5⟩
  cases e : x.cps.toList with
  | nil => exact absurd e h1
  | cons c r => exact ⟨c, r, rfl⟩
theorem purse_new {H : Hp} {p r : Addr} {n : Nat} (h : PurseAt H p n) (hr : H r = none) : r ≠ p := by
  obtain ⟨_, _, _, h, _⟩ := h
  exact fun e => by rw [← e, hr] at h; cases h
section
variable {P : Program} {w : World} {K : PySem.W.Frag} {mg : Str → Option Value} {base : Heap} {D fI cc cd CS CI CN CG CZ : Addr}
theorem scLLeaf : FnScope ["_law_purse_here", "_law_words_here", "_law_way", "_law_some", "_law_k"] ["_law_purse_here", "_law_words_here"] (defScope sLLeaf) := ⟨rfl, rfl, rfl, by decide +kernel, rfl, by decide +kernel, by decide +kernel⟩
def spLLeaf : Sp := fun vs H Q _ => ∃ (p L : Addr) (n : Nat) (ws : List Str), vs = [.ref p, .ref L] ∧ PurseAt H p n ∧ n < 10000 ∧ H L = some (.lst (ws.map V.str)) ∧ ws.length = 11 ∧ (∀ x ∈ ws, NmOk x) ∧ L ≠ p ∧
  ∀ v t H', But p H H' → PurseAt H' p (n + 6) → SumAt 1 H' v t → (names t).length ≤ 1 → Q v H'
theorem cal_l_leaf (Df : Def K mg "_law_leaf" sLLeaf ["_law_purse_here", "_law_words_here"]) (BT : Bt mg) (C1 : Cal P w K mg base CX0 1 "_law_coin" ["_law_purse_here", "_law_many"] spLCoin) : Cal P w K mg base CX0 2 "_law_leaf" ["_law_purse_here", "_law_words_here"] spLLeaf := by
  refine Df.cal fun f fd F => F.ok scLLeaf (fun vs H Q E ⟨_, _, _, _, e, _⟩ => by rw [e]; rfl) fun cdv A outer st H vs Q E hr h => ?_
  obtain ⟨g1, d1, G1, m1, k1, b1⟩ := C1
  have hr1 : Room 1 _ := hr.mono (by omega)
  obtain ⟨p, L, n, ws, rfl, hp, hn, hL, hl, hok, nLp, q⟩ := h
  refine ⟨_, pss_cons (ps_set (i := 2) scLLeaf.nd rfl (.inl rfl) (pe_call G1 hr1 rfl m1 k1 b1 .nil pass0 (pa_cons (pv 0) (pa_cons pe_int pa_nil))))
    (pss_cons (ps_if (PW.pt (pw_and (pt_cmpR (op_neNil hr.units0) (pv 1) (pe_lst pa_nil) (nomark _)) (pw_and1 (pt_cmpR op_lt (pv 2) pe_int (nomark _)))))
      (pss_cons (ps_set (i := 3) scLLeaf.nd rfl (.inl rfl) (pe_op op_cat (pv 1) (pe_lc (own := [("_law_k", 4)]) (g := gName 4) (by rfl) scLLeaf.nd (pi_range2 (by rfl) BT.range (pa_cons pe_int (pa_cons pe_int pa_nil)))
          (blkOk_by (own := [("_law_k", 4)]) (N := ["_law_purse_here", "_law_words_here", "_law_way", "_law_some", "_law_k"]) (sc := defScope sLLeaf) (by decide +kernel)) (fun _ _ _ _ _ => pg_name (i := 4) scLLeaf.nd rfl (Or.inl rfl)) (fun _ _ _ _ _ => pts_nil)
          (fun _ _ _ _ _ => pe_callTy call_str_int (by rfl) BT.str (by decide +kernel) (pa_cons (pv 4) pa_nil)))))
      (pss_one (ps_ret (pe_tup (pa_cons pe_str (pa_cons (pe_ix ix_list (pv 3) (pe_ix ix_list (pe_lst (pa_cons (pe_call G1 hr1 rfl m1 k1 b1 .nil pass0 (pa_cons (pv 0) (pa_cons pe_int pa_nil)))
        (pa_cons (pe_call G1 hr1 rfl m1 k1 b1 .nil pass0 (pa_cons (pv 0) (pa_cons pe_int pa_nil))) (pa_cons (pe_op op_add pe_int (pe_call G1 hr1 rfl m1 k1 b1 .nil pass0 (pa_cons (pv 0) (pa_cons pe_int pa_nil)))) pa_nil)))) (pv 2) (fun _ _ => rfl)) (fun _ _ => rfl)) pa_nil)))))) pss_nil)
    (pss_cons (ps_if (pt_cmpR op_eq (pv 2) pe_int (nomark _)) (pss_one (ps_ret (pe_tup (pa_cons pe_str (pa_cons (pe_call G1 hr1 rfl m1 k1 b1 .nil pass0 (pa_cons (pv 0) (pa_cons (pe_op op_add (pe_op op_pow pe_int pe_int) pe_int) pa_nil))) pa_nil))))) pss_nil)
    (pss_one (ps_ret (pe_tup (pa_cons pe_str (pa_cons (pe_ix ix_list (pe_lst (pa_cons pe_int (pa_cons pe_int (pa_cons pe_int (pa_cons pe_int (pa_cons pe_int (pa_cons (pe_op op_pow pe_int pe_int) pa_nil))))))) (pe_call G1 hr1 rfl m1 k1 b1 .nil pass0 (pa_cons (pv 0) (pa_cons pe_int pa_nil))) (fun _ _ => rfl)) pa_nil))))))), ?_⟩
  refine ⟨_, rfl, p, 6, _, rfl, by decide, by decide, hp, by omega, fun k H1 hk c1 hp1 => ?_⟩
  have leafN : ∀ (H2 : Hp) (z : Int) (r : Addr), But p H H2 → PurseAt H2 p (n + 6) → H2 r = none → 0 ≤ z → z < 10 ^ 40 → Q (.ref r) (upd H2 r (.tup [.str "number", .int z])) := fun H2 z r c hp hr0 z0 z1 =>
    q _ (.num z) _ (c.same (same_new hr0 _)) (hp.mono (same_new hr0 _)) ⟨⟨r, rfl, upd_same⟩, ⟨z0, z1⟩, fun x hx => (nomatch hx), Nat.le_refl _⟩ (Nat.zero_le _)
  refine ⟨_, rfl, Nat.zero_le _, fun l0 hl0 => ?_⟩
  have s1 := same_new hl0 (.lst [])
  have hL1 := c1 _ _ nLp hL
  refine ⟨L, l0, _, rfl, rfl, SqL.of (s1 _ _ hL1), SqL.of upd_same, _, rfl, ?_⟩
  have c2 := c1.same s1
  have hp2 := hp1.mono s1
  have hL2 := s1 _ _ hL1
  generalize upd H1 l0 (.lst []) = H2 at s1 c2 hp2 hL2
  have ne : (!(ws.map V.str).isEmpty) = true := by
    cases ws with
    | nil => cases hl
    | cons x r => rfl
  rw [ne]
  refine iteT ⟨_, rfl, _, _, rfl, rfl, _, rfl, ?_⟩
  by_cases w3 : (k : Int) < 3
  · rw [decide_eq_true w3]
    refine iteT ⟨_, rfl, 1, 14, rfl, ⟨by decide, by decide, by decide, by decide⟩, fun D hD => ?_⟩
    refine lc_mapY (walk_range (lo := 1) (n := ((14 : Int) - 1).toNat)) (PLC.map V.str) rfl (by decide) hD (fun _ _ => trivial) (fun i x H3 H4 y hy' s3 hy kk hkk => ?_) fun H3 s3 hD3 => ?_
    · obtain ⟨rfl, rfl⟩ := hy
      rw [List.getElem?_map] at hy'
      by_cases hi : i < 13
      · rw [plc_at i hi] at hy'
        cases hy'
        exact ⟨rfl, _, rfl, _, rfl, log_small (by omega), hkk _ (Same.refl _)⟩
      · rw [List.getElem?_eq_none (show PLC.length ≤ i from Nat.le_of_not_lt hi)] at hy'
        cases hy'
    have hL3 := s3 _ _ hL2
    have hp3 := hp2.mono s3
    have c3 := c2.same s3
    have e24 : (ws ++ PLC).length = 24 := by rw [List.length_append, hl]; rfl
    refine ⟨L, D, _, _, rfl, rfl, hL3, hD3, by rw [List.length_map, hl]; show 11 + 13 ≤ sizeLine; decide, fun S hS => ?_⟩
    have s4 := same_new hS (.lst (ws.map V.str ++ PLC.map V.str))
    have hS4 : (upd H3 S (.lst (ws.map V.str ++ PLC.map V.str))) S = some (.lst ((ws ++ PLC).map V.str)) := by rw [upd_same, List.map_append]
    have nS := purse_new hp3 hS
    have hp4 := hp3.mono s4
    have c4 := c3.same s4
    refine ⟨_, rfl, _, rfl, p, 24, _, rfl, by decide, by decide, hp4, by omega, fun j1 H5 hj1 c5 hp5 => ⟨_, rfl, p, 3, _, rfl, by decide, by decide, hp5, by omega, fun j2 H6 hj2 c6 hp6 => ⟨_, rfl, p, 3, _, rfl, by decide, by decide, hp6, by omega, fun j3 H7 hj3 c7 hp7 => ⟨_, _, rfl, rfl, (by show 3 ≤ sizeLine; decide), fun l hl3 => ?_⟩⟩⟩⟩
    have s8 := same_new hl3 (.lst [.int j1, .int j2, .int (11 + j3)])
    have c8 := (((c4.trans c5).trans c6).trans c7).same s8
    have hp8 := hp7.mono s8
    have hS8 := s8 _ _ (c7 _ _ nS (c6 _ _ nS (c5 _ _ nS hS4)))
    have fin : ∀ j : Nat, j < 24 → ∃ (x : Str), NmOk x ∧ ((ws ++ PLC).map V.str)[j]? = some (V.str x) := fun j hj => by
      have hj' : j < (ws ++ PLC).length := by omega
      refine ⟨(ws ++ PLC)[j], ?_, by rw [List.getElem?_map, List.getElem?_eq_getElem hj']; rfl⟩
      rcases List.mem_append.mp (List.getElem_mem hj') with h | h
      · exact hok _ h
      · exact plc_ok _ h
    have leafO : ∀ (x : Str) (r : Addr), NmOk x → (upd H7 l (.lst [.int j1, .int j2, .int (11 + j3)])) r = none → Q (.ref r) (upd (upd H7 l (.lst [.int j1, .int j2, .int (11 + j3)])) r (.tup [.str "of", .str x])) := fun x r nx hr0 =>
      q _ (.of x) _ (c8.same (same_new hr0 _)) ((hp8.mono (same_new hr0 _)).le (by omega)) ⟨⟨r, rfl, upd_same⟩, trivial, fun y hy => by rw [List.mem_singleton.mp hy]; exact nx, Nat.le_refl _⟩ (Nat.le_refl _)
    have hk3 : k = 0 ∨ k = 1 ∨ k = 2 := by omega
    rcases hk3 with rfl | rfl | rfl
    · obtain ⟨x, nx, ex⟩ := fin j1 (by omega)
      exact ⟨_, rfl, l, _, _, _, rfl, rfl, SqL.of upd_same, atI_nat (j := 0) rfl, S, _, _, _, rfl, rfl, SqL.of hS8, atI_nat (j := j1) ex, (by show 2 ≤ sizeLine; decide), fun r hr0 => leafO x r nx hr0⟩
    · obtain ⟨x, nx, ex⟩ := fin j2 (by omega)
      exact ⟨_, rfl, l, _, _, _, rfl, rfl, SqL.of upd_same, atI_nat (j := 1) rfl, S, _, _, _, rfl, rfl, SqL.of hS8, atI_nat (j := j2) ex, (by show 2 ≤ sizeLine; decide), fun r hr0 => leafO x r nx hr0⟩
    · obtain ⟨x, nx, ex⟩ := fin (11 + j3) (by omega)
      exact ⟨_, rfl, l, _, _, _, rfl, rfl, SqL.of upd_same, atI_nat (j := 2) rfl, S, _, _, _, rfl, rfl, SqL.of hS8, at_of (j := 11 + j3) (by omega) ex, (by show 2 ≤ sizeLine; decide), fun r hr0 => leafO x r nx hr0⟩
  rw [decide_eq_false w3]
  refine iteF ⟨_, rfl, rfl, _, rfl, ?_⟩
  rw [int_dec]
  by_cases e3 : (k : Int) = 3
  · rw [decide_eq_true e3]
    refine iteT ⟨_, rfl, _, _, rfl, rfl, ⟨by decide, by decide, by decide⟩, _, _, rfl, rfl, p, _, _, rfl, by decide, by decide, hp2, by omega, fun k2 H3 hk2 c3 hp3 => ⟨(by show 2 ≤ sizeLine; decide), fun r hr0 => leafN H3 k2 r (c2.trans c3) (hp3.le (by omega)) hr0 (by omega) ?_⟩⟩
    have : (10 : Int) ^ (18 : Int).toNat = 1000000000000000000 := by decide
    rw [this] at hk2
    omega
  · rw [decide_eq_false e3]
    refine iteF ⟨_, _, rfl, rfl, ⟨by decide, by decide, by decide⟩, (by show 6 ≤ sizeLine; decide), fun l hl6 => ?_⟩
    have s3 := same_new hl6 (.lst (([0, 1, 2, 3, 7, 1000000000000000000] : List Int).map V.int))
    have h3 : (upd H2 l (.lst (([0, 1, 2, 3, 7, 1000000000000000000] : List Int).map V.int))) l = some (.lst (([0, 1, 2, 3, 7, 1000000000000000000] : List Int).map V.int)) := upd_same
    have nl := purse_new hp2 hl6
    refine ⟨_, rfl, p, 6, _, rfl, by decide, by decide, hp2.mono s3, by omega, fun k2 H4 hk2 c4 hp4 => ?_⟩
    have hk2' : k2 < ([0, 1, 2, 3, 7, 1000000000000000000] : List Int).length := by show k2 < 6; omega
    have hz : ∀ z ∈ ([0, 1, 2, 3, 7, 1000000000000000000] : List Int), 0 ≤ z ∧ z < 10 ^ 40 := by decide
    have hz2 := hz _ (List.getElem_mem hk2')
    exact ⟨l, _, _, _, rfl, rfl, SqL.of (c4 _ _ nl h3), atI_nat (j := k2) (by rw [List.getElem?_map, List.getElem?_eq_getElem hk2']; rfl), (by show 2 ≤ sizeLine; decide), fun r hr0 => leafN H4 _ r ((c2.same s3).trans c4) (hp4.le (by omega)) hr0 hz2.1 hz2.2⟩
end
end K19
namespace K19
open PySem L2 K19R
abbrev sLSum : Stmt := topS 47
def KINDS : List Str := (["leaf", "leaf", "minus", "no", "choose", "*", "/", "^", "+", "-", "<", "<=", ">", ">=", "==", "!="] : List Str) ++ (["&&", "||"] : List Str)
/-- a kind and how many parts it has -/
inductive KindM : Str → Nat → Prop where
  | leaf : KindM "leaf" 0
  | un (k : UK) : KindM k.str 1
  | bin (k : BK) : KindM k.str 2
  | cho : KindM "choose" 3
def KV4 : List (Key × V) := [(Sum.inr "leaf", .int 0), (Sum.inr "minus", .int 1), (Sum.inr "no", .int 1), (Sum.inr "choose", .int 3)]
theorem kinds_ok : ∀ j (h : j < 18), ∃ s m, KINDS[j]? = some s ∧ KindM s m ∧ (valV (mergeK [] KV4) (Sum.inr s)).getD (.int 2) = .int (m : Nat) := by
  intro j h
  match j, h with
  | 0, _ => exact ⟨_, _, rfl, .leaf, by decide +kernel⟩
  | 1, _ => exact ⟨_, _, rfl, .leaf, by decide +kernel⟩
  | 2, _ => exact ⟨_, _, rfl, .un .minus, by decide +kernel⟩
  | 3, _ => exact ⟨_, _, rfl, .un .no, by decide +kernel⟩
  | 4, _ => exact ⟨_, _, rfl, .cho, by decide +kernel⟩
  | 5, _ => exact ⟨_, _, rfl, .bin .mul, by decide +kernel⟩
  | 6, _ => exact ⟨_, _, rfl, .bin .div, by decide +kernel⟩
  | 7, _ => exact ⟨_, _, rfl, .bin .pow, by decide +kernel⟩
  | 8, _ => exact ⟨_, _, rfl, .bin .add, by decide +kernel⟩
  | 9, _ => exact ⟨_, _, rfl, .bin .sub, by decide +kernel⟩
  | 10, _ => exact ⟨_, _, rfl, .bin .lt, by decide +kernel⟩
  | 11, _ => exact ⟨_, _, rfl, .bin .le, by decide +kernel⟩
  | 12, _ => exact ⟨_, _, rfl, .bin .gt, by decide +kernel⟩
  | 13, _ => exact ⟨_, _, rfl, .bin .ge, by decide +kernel⟩
  | 14, _ => exact ⟨_, _, rfl, .bin .eq, by decide +kernel⟩
  | 15, _ => exact ⟨_, _, rfl, .bin .ne, by decide +kernel⟩
  | 16, _ => exact ⟨_, _, rfl, .bin .and, by decide +kernel⟩
  | 17, _ => exact ⟨_, _, rfl, .bin .or, by decide +kernel⟩
  | j + 18, h => omega
theorem KindM.le {s : Str} {m : Nat} (h : KindM s m) : m ≤ 3 := by cases h <;> decide
theorem KindM.make {s : Str} {m : Nat} (h : KindM s m) (m0 : m ≠ 0) {ts : List T} (l : ts.length = m) : ∃ t, inner t ∧ kind t = s ∧ kids t = ts := by
  cases h with
  | leaf => exact absurd rfl m0
  | un k =>
    match ts, l with
    | [a], _ => exact ⟨.un k a, trivial, rfl, rfl⟩
  | bin k =>
    match ts, l with
    | [a, b], _ => exact ⟨.bin k a b, trivial, rfl, rfl⟩
  | cho =>
    match ts, l with
    | [a, b, c], _ => exact ⟨.cho a b c, trivial, rfl, rfl⟩
theorem nums_kids {Pn : Int → Prop} : ∀ {t : T}, inner t → (∀ u ∈ kids t, Nums Pn u) → Nums Pn t
  | .num _, h, _ => h.elim
  | .of _, h, _ => h.elim
  | .un _ a, _, h => h a (by simp [kids])
  | .bin _ a b, _, h => ⟨h a (by simp [kids]), h b (by simp [kids])⟩
  | .cho a b c, _, h => ⟨h a (by simp [kids]), h b (by simp [kids]), h c (by simp [kids])⟩
theorem depth_kids {m : Nat} : ∀ {t : T}, inner t → (∀ u ∈ kids t, depth u ≤ m) → depth t ≤ m + 1
  | .num _, h, _ => h.elim
  | .of _, h, _ => h.elim
  | .un _ a, _, h => Nat.succ_le_succ (h a (by simp [kids]))
  | .bin _ a b, _, h => by
    have h1 := h a (by simp [kids])
    have h2 := h b (by simp [kids])
    show max (depth a) (depth b) + 1 ≤ m + 1
    omega
  | .cho a b c, _, h => by
    have h1 := h a (by simp [kids])
    have h2 := h b (by simp [kids])
    have h3 := h c (by simp [kids])
    show max (depth a) (max (depth b) (depth c)) + 1 ≤ m + 1
    omega
theorem at_last {α : Type} {xs : List α} {m : Nat} {y : α} (l : xs.length = m + 1) (h : xs[m]? = some y) : atI xs (-1) = some y := by
  unfold atI ixN
  rw [l, if_neg (by decide)]
  rw [if_pos (by omega)]
  show xs[((-1 : Int) + ((m + 1 : Nat) : Int)).toNat]? = some y
  rw [show ((-1 : Int) + ((m + 1 : Nat) : Int)).toNat = m by omega]
  exact h
/-- an entry of the pool -/
structure Ent where
  v : V
  t : T
  d : Nat
  s : Nat
structure EntAt (H : Hp) (a : Addr) (q : Ent) : Prop where
  at_ : H a = some (.lst [q.v, .int (q.d : Nat), .int (q.s : Nat)])
  sum : SumAt 12 H q.v q.t
  dep : depth q.t ≤ q.d
  d12 : q.d ≤ 12
  nms : (names q.t).length ≤ q.s
  s40 : q.s ≤ 40
theorem but_tk {p : Addr} {n : Nat} {H H' : Hp} (hp : PurseAt H p n) (b : But p H H') : Tk H H' := fun a xs h => b a _ (fun e => by
  obtain ⟨_, _, _, h2, _⟩ := hp
  rw [e, h2] at h
  cases h) h
theorem EntAt.but {p a : Addr} {n : Nat} {H H' : Hp} {q : Ent} (hp : PurseAt H p n) (b : But p H H') (h : EntAt H a q) : EntAt H' a q :=
  ⟨b a _ (fun e => by
    obtain ⟨_, _, _, h2, _⟩ := hp
    have h1 := h.at_
    rw [e, h2] at h1
    have hv : ∃ r, q.v = .ref r := by
      have := h.sum.at_
      cases ht : q.t with
      | num z => rw [ht] at this; obtain ⟨r, e, _⟩ := this; exact ⟨r, e⟩
      | of z => rw [ht] at this; obtain ⟨r, e, _⟩ := this; exact ⟨r, e⟩
      | un _ _ => rw [ht] at this; obtain ⟨r, _, e, _⟩ := this; exact ⟨r, e⟩
      | bin _ _ _ => rw [ht] at this; obtain ⟨r, _, _, e, _⟩ := this; exact ⟨r, e⟩
      | cho _ _ _ => rw [ht] at this; obtain ⟨r, _, _, _, e, _⟩ := this; exact ⟨r, e⟩
    obtain ⟨r, hr⟩ := hv
    rw [hr] at h1
    have h3 := HO.lst.inj (Option.some.inj h1)
    injection h3 with h4 _
    cases h4) h.at_, h.sum.tk (but_tk hp b), h.dep, h.d12, h.nms, h.s40⟩
theorem EntAt.mono {a : Addr} {H H' : Hp} {q : Ent} (s : Same H H') (h : EntAt H a q) : EntAt H' a q := ⟨s _ _ h.at_, h.sum.mono s, h.dep, h.d12, h.nms, h.s40⟩
theorem EntAt.updL {H : Hp} {a P : Addr} {q : Ent} {as xs : List V} (hP : H P = some (.lst xs)) (hx : ∀ x ∈ xs, ∃ r, x = .ref r) (h : EntAt H a q) : EntAt (upd H P (.lst as)) a q := by
  have n : a ≠ P := fun e => by
    have h1 := h.at_
    rw [e, hP] at h1
    have h3 := HO.lst.inj (Option.some.inj h1)
    obtain ⟨r, hr⟩ := hx (.int (q.d : Nat)) (by rw [h3]; simp)
    cases hr
  exact ⟨by rw [upd_ne n]; exact h.at_, h.sum.tk (tk_upd fun xs e => by rw [hP] at e; cases e), h.dep, h.d12, h.nms, h.s40⟩
/-- entries, side by side -/
def EntsAt (H : Hp) (as : List Addr) (qs : List Ent) : Prop := as.length = qs.length ∧ ∀ (i : Nat) (a : Addr) (q : Ent), as[i]? = some a → qs[i]? = some q → EntAt H a q
theorem EntsAt.but {p : Addr} {n : Nat} {H H' : Hp} {as : List Addr} {qs : List Ent} (hp : PurseAt H p n) (b : But p H H') (h : EntsAt H as qs) : EntsAt H' as qs := ⟨h.1, fun i a q h1 h2 => (h.2 i a q h1 h2).but hp b⟩
theorem EntsAt.mono {H H' : Hp} {as : List Addr} {qs : List Ent} (s : Same H H') (h : EntsAt H as qs) : EntsAt H' as qs := ⟨h.1, fun i a q h1 h2 => (h.2 i a q h1 h2).mono s⟩
theorem EntsAt.updL {H : Hp} {P : Addr} {bs : List Addr} {qs : List Ent} {as xs : List V} (hP : H P = some (.lst xs)) (hx : ∀ x ∈ xs, ∃ r, x = .ref r) (h : EntsAt H bs qs) : EntsAt (upd H P (.lst as)) bs qs := ⟨h.1, fun i a q h1 h2 => (h.2 i a q h1 h2).updL hP hx⟩
theorem refs_ref (as : List Addr) : ∀ x ∈ as.map V.ref, ∃ r, x = V.ref r := fun x hx => by
  obtain ⟨r, _, rfl⟩ := List.mem_map.mp hx
  exact ⟨r, rfl⟩
theorem EntsAt.snoc {H : Hp} {as : List Addr} {qs : List Ent} {a : Addr} {q : Ent} (h : EntsAt H as qs) (e : EntAt H a q) : EntsAt H (as ++ [a]) (qs ++ [q]) := by
  refine ⟨by rw [List.length_append, List.length_append, h.1]; rfl, fun i b r h1 h2 => ?_⟩
  by_cases hi : i < as.length
  · rw [List.getElem?_append_left hi] at h1
    rw [List.getElem?_append_left (by rw [← h.1]; exact hi)] at h2
    exact h.2 i b r h1 h2
  · have l := (List.getElem?_eq_some_iff.mp h1).1
    rw [List.length_append, List.length_singleton] at l
    have hj : i = as.length := by omega
    rw [hj, List.getElem?_append_right (Nat.le_refl _), Nat.sub_self] at h1
    rw [hj, h.1, List.getElem?_append_right (Nat.le_refl _), Nat.sub_self] at h2
    cases h1
    cases h2
    exact e
theorem EntsAt.get {H : Hp} {as : List Addr} {qs : List Ent} (h : EntsAt H as qs) {i : Nat} (hi : i < as.length) : ∃ a q, as[i]? = some a ∧ qs[i]? = some q ∧ EntAt H a q :=
  ⟨as[i], qs[i]'(by rw [← h.1]; exact hi), List.getElem?_eq_getElem hi, List.getElem?_eq_getElem _, h.2 i _ _ (List.getElem?_eq_getElem hi) (List.getElem?_eq_getElem _)⟩
theorem sum_names : ∀ {qs : List Ent}, (∀ q ∈ qs, (names q.t).length ≤ q.s) → (((qs.map fun q => q.t).flatMap names).length : Int) ≤ (qs.map fun q => ((q.s : Nat) : Int)).sum
  | [], _ => by simp
  | q :: r, h => by
    have h1 := h q List.mem_cons_self
    have h2 := sum_names (qs := r) fun z hz => h z (List.mem_cons_of_mem _ hz)
    rw [List.map_cons, List.flatMap_cons, List.length_append, List.map_cons, List.sum_cons]
    omega
end K19
namespace K19
open PySem L2 K19R
section
variable {P : Program} {w : World} {K : PySem.W.Frag} {mg : Str → Option Value} {base : Heap} {D fI cc cd CS CI CN CG CZ : Addr}
theorem scLSum : FnScope ["_law_purse_here", "_law_pool", "_law_words_here", "_law_most", "_law_kinds", "_law_kind_here", "_law_many", "_law_place", "_law_parts", "_law_k", "_law_part", "_law_deep", "_law_size"] ["_law_purse_here", "_law_pool", "_law_words_here", "_law_most"] (defScope sLSum) := ⟨rfl, rfl, rfl, by decide +kernel, rfl, by decide +kernel, by decide +kernel⟩
abbrev NSum : List Str := ["_law_purse_here", "_law_pool", "_law_words_here", "_law_most", "_law_kinds", "_law_kind_here", "_law_many", "_law_place", "_law_parts", "_law_k", "_law_part", "_law_deep", "_law_size"]
def spLSum : Sp := fun vs H Q _ => ∃ (p Lp L : Addr) (n : Nat) (ws : List Str) (as : List Addr) (qs : List Ent), vs = [.ref p, .ref Lp, .ref L, .int 12] ∧ PurseAt H p n ∧ n < 1000 ∧ H L = some (.lst (ws.map V.str)) ∧ ws.length = 11 ∧ (∀ x ∈ ws, NmOk x) ∧ L ≠ p ∧ H Lp = some (.lst (as.map V.ref)) ∧ Lp ≠ p ∧ EntsAt H as qs ∧ as.length < 1000 ∧
  ∀ r q H', H r = none → But p H H' → PurseAt H' p (n + 100) → EntAt H' r q → Q (.ref r) H'
theorem cal_l_sum (Df : Def K mg "_law_sum" sLSum ["_law_purse_here", "_law_pool", "_law_words_here", "_law_most"]) (BT : Bt mg) (C1 : Cal P w K mg base CX0 1 "_law_coin" ["_law_purse_here", "_law_many"] spLCoin) (C2 : Cal P w K mg base CX0 2 "_law_leaf" ["_law_purse_here", "_law_words_here"] spLLeaf) : Cal P w K mg base CX0 3 "_law_sum" ["_law_purse_here", "_law_pool", "_law_words_here", "_law_most"] spLSum := by
  refine Df.cal fun f fd F => F.ok scLSum (fun vs H Q E ⟨_, _, _, _, _, _, _, e, _⟩ => by rw [e]; rfl) fun cdv A outer st H vs Q E hr h => ?_
  obtain ⟨g1, d1, G1, m1, k1, b1⟩ := C1
  obtain ⟨g2, d2, G2, m2, k2, b2⟩ := C2
  have hr1 : Room 1 _ := hr.mono (by omega)
  have hr2 : Room 2 _ := hr.mono (by omega)
  obtain ⟨p, Lp, L, n, ws, as, qs, rfl, hp, hn, hL, hl, hok, nLp, hLp, nLpp, hen, has, q⟩ := h
  refine ⟨_, pss_cons (ps_set (i := 4) scLSum.nd rfl (.inl rfl) (pe_lst (pa_cons pe_str (pa_cons pe_str (pa_cons pe_str (pa_cons pe_str (pa_cons pe_str (pa_cons pe_str (pa_cons pe_str (pa_cons pe_str (pa_cons pe_str (pa_cons pe_str (pa_cons pe_str (pa_cons pe_str (pa_cons pe_str (pa_cons pe_str (pa_cons pe_str (pa_cons pe_str pa_nil))))))))))))))))))
    (pss_cons (ps_set (i := 5) scLSum.nd rfl (.inl rfl) (pe_ix ix_list (pe_op op_cat (pv 4) (pe_lst (pa_cons pe_str (pa_cons pe_str pa_nil)))) (pe_call G1 hr1 rfl m1 k1 b1 .nil pass0 (pa_cons (pv 0) (pa_cons pe_int pa_nil))) (fun _ _ => rfl)))
    (pss_cons (ps_set (i := 6) scLSum.nd rfl (.inl rfl) (pe_dget2 (hu_of hr) (pe_disp (pps_cons pe_str pe_int (pps_cons pe_str pe_int (pps_cons pe_str pe_int (pps_cons pe_str pe_int pps_nil)))) (by rfl) (by rfl) (List.cons_ne_nil _ _) (by decide)) (pv 5) pe_int ⟨rfl, rfl, rfl, rfl⟩))
    (pss_cons (ps_set (i := 7) scLSum.nd rfl (.inl rfl) (pe_call G1 hr1 rfl m1 k1 b1 .nil pass0 (pa_cons (pv 0) (pa_cons (pe_callB (call_max2 rfl) (by rfl) BT.max (by decide +kernel) (pa_cons pe_int (pa_cons (pv 6) pa_nil))) pa_nil))))
    (pss_cons (ps_set (i := 8) scLSum.nd rfl (.inl rfl) (pe_lst pa_nil))
    (pss_cons (ps_for PassesOwn.never rfl (pi_range1 (by rfl) BT.range (pa_cons (pv 6) pa_nil)) (pg_name (i := 9) scLSum.nd rfl (.inl rfl))
      (pss_cons (ps_set (i := 10) scLSum.nd rfl (.inl rfl) (pe_lst (pa_cons (pe_call G2 hr2 rfl m2 k2 b2 .nil pass0 (pa_cons (pv 0) (pa_cons (pv 2) pa_nil))) (pa_cons pe_int (pa_cons pe_int pa_nil)))))
      (pss_cons (ps_if (PW.pt (pw_and (pt_cmpR (op_neNil hr.units0) (pv 1) (pe_lst pa_nil) (nomark _)) (pw_and1 (pt_cmpR op_eq (pv 9) (pv 7) (nomark _)))))
        (pss_one (ps_set (i := 10) scLSum.nd rfl (.inl rfl) (pe_ix ix_list (pv 1) (pe_un un_neg pe_int) (fun _ _ => rfl))))
        (pss_one (ps_if (PW.pt (pw_and (pt_cmpR (op_neNil hr.units0) (pv 1) (pe_lst pa_nil) (nomark _)) (pw_and1 (pt_cmpR op_eq (pe_call G1 hr1 rfl m1 k1 b1 .nil pass0 (pa_cons (pv 0) (pa_cons pe_int pa_nil))) pe_int (nomark _)))))
          (pss_one (ps_set (i := 10) scLSum.nd rfl (.inl rfl) (pe_ix ix_list (pv 1) (pe_call G1 hr1 rfl m1 k1 b1 .nil pass0 (pa_cons (pv 0) (pa_cons (pe_callB call_len_seq (by rfl) BT.len PySem.boot_len (pa_cons (pv 1) pa_nil)) pa_nil))) (fun _ _ => rfl)))) pss_nil)))
      (pss_one (ps_expr (pe_bm PySem.F.plainAttrs_list PySem.F.slot_list_append PySem.F.type_list_append mt_append (pv 8) (pa_cons (pv 10) pa_nil)))))))
    (pss_cons (ps_set (i := 11) scLSum.nd rfl (.inl rfl) (pe_op op_add pe_int (pe_callBK (cr_maxD rfl hr.units) (by rfl) BT.max (by decide +kernel) (pa_cons (pe_lc (own := [("_law_part", 10)]) (g := gName 10) (te := tOp (rIxL K) (tVar 10) (tC (.int 1))) (by rfl) scLSum.nd (pi_list (pv 8)) (blkOk_by (own := [("_law_part", 10)]) (N := NSum) (sc := defScope sLSum) (by decide +kernel)) (fun _ _ _ _ _ => pg_name (i := 10) scLSum.nd rfl (Or.inl rfl)) (fun _ _ _ _ _ => pts_nil)
        (fun _ _ _ _ _ => pe_ix ix_list (pv 10) pe_int (fun _ _ => rfl))) pa_nil) (pk_cons pe_int pk_nil))))
    (pss_cons (ps_set (i := 12) scLSum.nd rfl (.inl rfl) (pe_op op_add pe_int (pe_callB (cr_sum rfl) (by rfl) BT.sum (by decide +kernel) (pa_cons (pe_lc (own := [("_law_part", 10)]) (g := gName 10) (te := tOp (rIxL K) (tVar 10) (tC (.int 2))) (by rfl) scLSum.nd (pi_list (pv 8)) (blkOk_by (own := [("_law_part", 10)]) (N := NSum) (sc := defScope sLSum) (by decide +kernel)) (fun _ _ _ _ _ => pg_name (i := 10) scLSum.nd rfl (Or.inl rfl)) (fun _ _ _ _ _ => pts_nil)
        (fun _ _ _ _ _ => pe_ix ix_list (pv 10) pe_int (fun _ _ => rfl))) pa_nil))))
    (pss_cons (ps_if (PW.pt (pw_or (pt_cmpR op_eq (pv 6) pe_int (nomark _)) (pw_or (pt_cmpR op_gt (pv 11) (pv 3) (nomark _)) (pw_or1 (pt_cmpR op_gt (pv 12) pe_int (nomark _))))))
      (pss_one (ps_ret (pe_lst (pa_cons (pe_call G2 hr2 rfl m2 k2 b2 .nil pass0 (pa_cons (pv 0) (pa_cons (pv 2) pa_nil))) (pa_cons pe_int (pa_cons pe_int pa_nil)))))) pss_nil)
    (pss_one (ps_ret (pe_lst (pa_cons (pe_op op_catT (pe_tup (pa_cons (pv 5) pa_nil)) (pe_callTy call_tuple_of (by rfl) BT.tuple (by decide +kernel) (pa_cons (pe_lc (own := [("_law_part", 10)]) (g := gName 10) (te := tOp (rIxL K) (tVar 10) (tC (.int 0))) (by rfl) scLSum.nd (pi_list (pv 8)) (blkOk_by (own := [("_law_part", 10)]) (N := NSum) (sc := defScope sLSum) (by decide +kernel)) (fun _ _ _ _ _ => pg_name (i := 10) scLSum.nd rfl (Or.inl rfl)) (fun _ _ _ _ _ => pts_nil)
        (fun _ _ _ _ _ => pe_ix ix_list (pv 10) pe_int (fun _ _ => rfl))) pa_nil))) (pa_cons (pv 11) (pa_cons (pv 12) pa_nil)))))))))))))), ?_⟩
  refine ⟨(by show 16 ≤ sizeLine; decide), fun l1 hl1 => ?_⟩
  have s1 := same_new hl1 (.lst ((["leaf", "leaf", "minus", "no", "choose", "*", "/", "^", "+", "-", "<", "<=", ">", ">=", "==", "!="] : List Str).map V.str))
  have h1 : (upd H l1 (.lst ((["leaf", "leaf", "minus", "no", "choose", "*", "/", "^", "+", "-", "<", "<=", ">", ">=", "==", "!="] : List Str).map V.str))) l1 = _ := upd_same
  refine ⟨_, rfl, (by show 2 ≤ sizeLine; decide), fun l2 hl2 => ?_⟩
  have s2 := same_new hl2 (.lst ((["&&", "||"] : List Str).map V.str))
  refine ⟨l1, l2, _, _, rfl, rfl, s2 _ _ h1, upd_same, (by show 16 + 2 ≤ sizeLine; decide), fun l3 hl3 => ?_⟩
  have s3 := same_new hl3 (.lst (KINDS.map V.str))
  have s13 := s1.trans (s2.trans s3)
  have h3 : (upd (upd (upd H l1 (.lst ((["leaf", "leaf", "minus", "no", "choose", "*", "/", "^", "+", "-", "<", "<=", ">", ">=", "==", "!="] : List Str).map V.str))) l2 (.lst ((["&&", "||"] : List Str).map V.str))) l3 (.lst (KINDS.map V.str))) l3 = some (.lst (KINDS.map V.str)) := upd_same
  have n3 := purse_new ((hp.mono s1).mono s2) hl3
  refine ⟨_, rfl, p, 18, _, rfl, by decide, by decide, hp.mono s13, by omega, fun k1 H4 hk1 c4 hp4 => ?_⟩
  obtain ⟨s, m, hs, km, kv⟩ := kinds_ok k1 (by omega)
  have c14 := (but_same s13).trans c4
  refine ⟨l3, _, _, _, rfl, rfl, SqL.of (c4 _ _ n3 h3), atI_nat (j := k1) (by rw [List.getElem?_map, hs]; rfl), ?_⟩
  refine fun d hd => ⟨upd_same, KV4, rfl, by decide, d, rfl, .inl ⟨_, .inl upd_same⟩, _, rfl, valV (mergeK [] KV4) (Sum.inr s), .inl ⟨_, _, .inl upd_same, rfl, rfl⟩, ?_⟩
  rw [kv]
  have s5 : Same H4 (upd (upd H4 d (.dK [])) d (.dK (mergeK [] KV4))) := same_but (same_new hd _) hd but_upd
  have c15 := c14.same s5
  have hp5 := hp4.mono s5
  generalize upd (upd H4 d (.dK [])) d (.dK (mergeK [] KV4)) = H5 at c15 hp5
  have m3 := km.le
  refine ⟨_, rfl, _, rfl, _, _, rfl, p, _, _, rfl, by split <;> omega, by split <;> omega, hp5, by omega, fun k2 H6 hk2 c6 hp6 => ?_⟩
  have c16 := c15.trans c6
  refine ⟨Nat.zero_le _, fun Pl hPl => ?_⟩
  have s7 := same_new hPl (.lst [])
  have hP0 : H Pl = none := fresh_but c16 hp6 hPl
  have nP := purse_new hp6 hPl
  have c17 := c16.same s7
  have hp7 := hp6.mono s7
  have hP7 : (upd H6 Pl (.lst [])) Pl = some (.lst (([] : List Addr).map V.ref)) := upd_same
  have leafR : ∀ (σ : L2.St) (H1 : Hp), σ[0]? = some (some (.ref p)) → σ[2]? = some (some (.ref L)) → But p H H1 → PurseAt H1 p (n + 80) → tRet (tLst (tCons (tCall spLLeaf [] E0 (tCons (tVar 0) (tCons (tVar 2) tNil))) (tCons (tC (.int 1)) (tCons (tC (.int 1)) tNil)))) { nx := fun x H' => Q .non H', rt := Q } σ H1 := by
    intro σ H1 e0 e2 c1 hp1
    refine ⟨_, e0, _, e2, p, L, _, ws, rfl, hp1, by omega, c1 _ _ nLp hL, hl, hok, nLp, fun v t H2 c2 hp2 sm nm => ⟨(by show 3 ≤ sizeLine; decide), fun r hr0 => ?_⟩⟩
    have s := same_new hr0 (.lst [v, .int 1, .int 1])
    exact q r ⟨v, t, 1, 1⟩ _ (fresh_but (c1.trans c2) hp2 hr0) ((c1.trans c2).same s) ((hp2.mono s).le (by omega)) ⟨upd_same, (sm.le (by decide)).mono s, sm.dep, (by show 1 ≤ 12; decide), nm, (by show 1 ≤ 40; decide)⟩
  generalize upd H6 Pl (.lst []) = H7 at s7 c17 hp7 hP7
  refine ⟨_, rfl, (m : Int), rfl, by omega, by omega, ?_⟩
  refine for_it (walk_range (lo := 0) (n := (m : Int).toNat)) (fun i σ H' => ∃ v9 v10 ps rs, σ = [some (.ref p), some (.ref Lp), some (.ref L), some (.int 12), some (.ref l1), some (.str s), some (.int m), some (.int k2), some (.ref Pl), v9, v10, none, none] ∧ But p H H' ∧ PurseAt H' p (n + 2 + 9 * i) ∧ H' Pl = some (.lst (ps.map V.ref)) ∧ ps.length = i ∧ EntsAt H' ps rs)
    ⟨none, none, [], [], rfl, c17, hp7, hP7, rfl, rfl, fun i a q h1 h2 => (nomatch h1)⟩ (fun _ _ _ _ _ => trivial) ?_ ?_
  · rintro i x σ H8 H9 hi ⟨v9, v10, ps, rs, rfl, c8, hp8, hP8, hlp, hers⟩ ⟨rfl, rfl⟩
    refine ⟨_, rfl, _, rfl, p, L, _, ws, rfl, hp8, by omega, c8 _ _ nLp hL, hl, hok, nLp, fun v t H10 c10 hp10 sm nm => ⟨(by show 3 ≤ sizeLine; decide), fun e he => ?_⟩⟩
    have s11 := same_new he (.lst [v, .int 1, .int 1])
    have hE : EntAt (upd H10 e (.lst [v, .int 1, .int 1])) e ⟨v, t, 1, 1⟩ := ⟨upd_same, (sm.le (by decide)).mono s11, sm.dep, (by show 1 ≤ 12; decide), nm, (by show 1 ≤ 40; decide)⟩
    have c11 := (c8.trans c10).same s11
    have hp11 := hp10.mono s11
    have hP11 := s11 _ _ (c10 _ _ nP hP8)
    have her11 := (hers.but hp8 c10).mono s11
    generalize upd H10 e (.lst [v, .int 1, .int 1]) = H11 at s11 hE c11 hp11 hP11 her11
    have hLp11 : H11 Lp = some (.lst (as.map V.ref)) := c11 _ _ nLpp hLp
    have hen11 := hen.but hp c11
    dsimp only [gName]
    refine tseq_via (fun σ H' => ∃ v9 a q, σ = [some (.ref p), some (.ref Lp), some (.ref L), some (.int 12), some (.ref l1), some (.str s), some (.int m), some (.int k2), some (.ref Pl), v9, some (.ref a), none, none] ∧ But p H H' ∧ PurseAt H' p (n + 2 + 9 * i + 9) ∧ H' Pl = some (.lst (ps.map V.ref)) ∧ EntsAt H' ps rs ∧ EntAt H' a q) ?_ ?_
    · rintro σ H12 ⟨v9', a, qe, rfl, c12, hp12, hP12, her12, hea⟩
      have lt : (ps.map V.ref).length < sizeLine := by rw [List.length_map, hlp]; exact small1000 (by omega)
      refine ⟨_, rfl, .inl ⟨rfl, _, SqL.of hP12⟩, _, rfl, Pl, _, _, rfl, rfl, hP12, lt, ?_⟩
      refine ⟨_, _, ps ++ [a], rs ++ [qe], rfl, fun b o nb eo => ?_, ?_, by rw [upd_same, List.map_append]; rfl, by rw [List.length_append, hlp]; rfl, (her12.updL hP12 (refs_ref ps)).snoc (hea.updL hP12 (refs_ref ps))⟩
      · rw [upd_ne (ne_of_none eo hP0)]
        exact c12 _ _ nb eo
      · obtain ⟨X1, X2, X3, h, h2, h3, h4, h5, h6⟩ := hp12
        exact ⟨X1, X2, X3, by rw [upd_ne nP.symm]; exact h, h2, h3, h4, h5, by omega⟩
    · intro fin
      have stay : ∀ H', Same H11 H' → ∃ v9 a q, ([some (.ref p), some (.ref Lp), some (.ref L), some (.int 12), some (.ref l1), some (.str s), some (.int m), some (.int k2), some (.ref Pl), some (.int (0 + (i : Nat))), some (.ref e), none, none] : L2.St) = [some (.ref p), some (.ref Lp), some (.ref L), some (.int 12), some (.ref l1), some (.str s), some (.int m), some (.int k2), some (.ref Pl), v9, some (.ref a), none, none] ∧ But p H H' ∧ PurseAt H' p (n + 2 + 9 * i + 9) ∧ H' Pl = some (.lst (ps.map V.ref)) ∧ EntsAt H' ps rs ∧ EntAt H' a q :=
        fun H' sm => ⟨_, _, _, rfl, c11.same sm, (hp11.mono sm).le (by omega), sm _ _ hP11, her11.mono sm, hE.mono sm⟩
      refine ⟨_, rfl, Nat.zero_le _, fun l hl0 => ⟨Lp, l, _, rfl, rfl, SqL.of (same_new hl0 _ _ _ hLp11), SqL.of upd_same, _, rfl, ?_⟩⟩
      have s12 := same_new hl0 (.lst [])
      generalize upd H11 l (.lst []) = H12 at s12
      cases as with
      | nil =>
        refine iteF (iteF ⟨_, rfl, Nat.zero_le _, fun l' hl' => ⟨Lp, l', _, rfl, rfl, SqL.of (same_new hl' _ _ _ (s12 _ _ hLp11)), SqL.of upd_same, _, rfl, iteF (iteF (fin _ _ (stay _ (s12.trans (same_new hl' _)))))⟩⟩)
      | cons a0 ar =>
        refine iteT ⟨_, rfl, _, rfl, rfl, _, rfl, ?_⟩
        rw [int_dec]
        by_cases ek : (0 + (i : Int)) = (k2 : Int)
        · rw [decide_eq_true ek]
          obtain ⟨al, ql, g1', g2', g3'⟩ := hen11.get (i := ar.length) (by rw [List.length_cons]; omega)
          exact iteT ⟨_, rfl, _, rfl, Lp, _, _, _, rfl, rfl, SqL.of (s12 _ _ hLp11), at_last (m := ar.length) (by rw [List.length_map]; rfl) (by rw [List.getElem?_map, g1']; rfl), fin _ _ ⟨_, al, ql, rfl, c11.same s12, (hp11.mono s12).le (by omega), s12 _ _ hP11, her11.mono s12, g3'.mono s12⟩⟩
        · rw [decide_eq_false ek]
          refine iteF ⟨_, rfl, Nat.zero_le _, fun l' hl' => ⟨Lp, l', _, rfl, rfl, SqL.of (same_new hl' _ _ _ (s12 _ _ hLp11)), SqL.of upd_same, _, rfl, ?_⟩⟩
          have s13' := s12.trans (same_new hl' (.lst []))
          generalize upd H12 l' (.lst []) = H13 at s13'
          have hp13 := hp11.mono s13'
          refine iteT ⟨_, rfl, p, 2, _, rfl, by decide, by decide, hp13, by omega, fun k3 H14 hk3 c14' hp14 => ⟨rfl, _, rfl, ?_⟩⟩
          have c_14 := (c11.same s13').trans c14'
          have hP14 := c14' _ _ nP (s13' _ _ hP11)
          have her14 := (her11.mono s13').but hp13 c14'
          have hen14 := (hen11.mono s13').but hp13 c14'
          have hLp14 := c14' _ _ nLpp (s13' _ _ hLp11)
          rw [int_dec]
          by_cases z0 : (k3 : Int) = 0
          · rw [decide_eq_true z0]
            refine iteT ⟨_, rfl, _, rfl, _, rfl, Lp, _, rfl, .inl (SqL.of hLp14), p, _, _, rfl, ?_, ?_, hp14, by omega, fun k4 H15 hk4 c15' hp15 => ?_⟩
            · rw [List.length_map, List.length_cons]; omega
            · rw [List.length_map]; omega
            · rw [List.length_map] at hk4
              obtain ⟨al, ql, g1', g2', g3'⟩ := (hen14.but hp14 c15').get (i := k4) (by omega)
              exact ⟨Lp, _, _, _, rfl, rfl, SqL.of (c15' _ _ nLpp hLp14), atI_nat (j := k4) (by rw [List.getElem?_map, g1']; rfl), fin _ _ ⟨_, al, ql, rfl, c_14.trans c15', hp15.le (by omega), c15' _ _ nP hP14, her14.but hp14 c15', g3'⟩⟩
          · rw [decide_eq_false z0]
            exact iteF (fin _ _ ⟨_, e, _, rfl, c_14, hp14.le (by omega), hP14, her14, (hE.mono s13').but hp13 c14'⟩)
  · rintro σ H8 ⟨v9, v10, ps, rs, rfl, c8, hp8, hP8, hlp, hers⟩
    have lm : ps.length = m := by omega
    have lr : rs.length = m := by rw [← hers.1]; exact lm
    have part : ∀ (i : Nat) (y : V), (ps.map V.ref)[i]? = some y → ∃ a q, y = .ref a ∧ rs[i]? = some q ∧ EntAt H8 a q := fun i y h => by
      have hi : i < ps.length := by
        have := (List.getElem?_eq_some_iff.mp h).1
        rw [List.length_map] at this
        exact this
      obtain ⟨a, q, e1, e2, e3⟩ := hers.get hi
      rw [List.getElem?_map, e1] at h
      cases h
      exact ⟨a, q, rfl, e2, e3⟩
    have each : ∀ q ∈ rs, ∃ a, EntAt H8 a q := fun q hq => by
      obtain ⟨i, hi, rfl⟩ := List.getElem_of_mem hq
      obtain ⟨a, q, e1, e2, e3⟩ := hers.get (i := i) (by rw [hers.1]; exact hi)
      rw [List.getElem?_eq_getElem hi] at e2
      cases e2
      exact ⟨a, e3⟩
    dsimp only
    refine tseq_via (fun σ H' => ∃ mx : Nat, σ = [some (.ref p), some (.ref Lp), some (.ref L), some (.int 12), some (.ref l1), some (.str s), some (.int m), some (.int k2), some (.ref Pl), v9, v10, some (.int (1 + (mx : Int))), none] ∧ Same H8 H' ∧ ∀ q ∈ rs, q.d ≤ mx) ?_ ?_
    · rintro σ H9 ⟨mx, rfl, s9, hmx⟩
      have hP9 := s9 _ _ hP8
      refine tseq_via (fun σ H' => ∃ sz : Nat, σ = [some (.ref p), some (.ref Lp), some (.ref L), some (.int 12), some (.ref l1), some (.str s), some (.int m), some (.int k2), some (.ref Pl), v9, v10, some (.int (1 + (mx : Int))), some (.int (1 + (sz : Int)))] ∧ Same H9 H' ∧ ((rs.map fun q => q.t).flatMap names).length ≤ sz) ?_ ?_
      · rintro σ H10 ⟨sz, rfl, s10, hsz⟩
        have s810 := s9.trans s10
        have c10 := c8.same s810
        have hp10 := hp8.mono s810
        have hP10 := s810 _ _ hP8
        refine ⟨_, rfl, rfl, _, rfl, ?_⟩
        rw [int_dec]
        by_cases m0 : (m : Int) = 0
        · rw [decide_eq_true m0]
          exact iteT (iteT (leafR _ _ rfl rfl c10 (hp10.le (by omega))))
        rw [decide_eq_false m0]
        refine iteF ⟨_, rfl, _, rfl, _, _, rfl, rfl, _, rfl, ?_⟩
        by_cases dm : (12 : Int) < 1 + (mx : Int)
        · rw [decide_eq_true dm]
          exact iteT (iteT (leafR _ _ rfl rfl c10 (hp10.le (by omega))))
        rw [decide_eq_false dm]
        refine iteF ⟨_, rfl, _, _, rfl, rfl, _, rfl, ?_⟩
        by_cases sm : (40 : Int) < 1 + (sz : Int)
        · rw [decide_eq_true sm]
          exact iteT (leafR _ _ rfl rfl c10 (hp10.le (by omega)))
        rw [decide_eq_false sm]
        refine iteF ⟨_, rfl, (by show 1 ≤ sizeLine; decide), fun p0 hp0 => ?_⟩
        have s11 := same_new hp0 (.tup [.str s])
        have h0 : (upd H10 p0 (.tup [.str s])) p0 = some (.tup [.str s]) := upd_same
        generalize upd H10 p0 (.tup [.str s]) = H11 at s11 h0
        have s811 := s810.trans s11
        refine ⟨_, rfl, Pl, rfl, ⟨_, SqL.of (s11 _ _ hP10)⟩, fun D hD => ?_⟩
        refine lc_mapY (walk_list (K := K) (a := Pl) (xs := ps.map V.ref)) (rs.map fun q => q.v) (by rw [List.length_map, List.length_map, lr, lm]) (by rw [List.length_map]; omega) hD (fun H2 s2 => SqL.of (s2 _ _ (s11 _ _ hP10))) (fun i x H2 H3 y hy' s2 hy kk hkk => ?_) fun H9' s9' hD9 => ?_
        · obtain ⟨rfl, hx⟩ := hy
          obtain ⟨a, qe, rfl, hq, hE⟩ := part i x hx
          rw [List.getElem?_map, hq] at hy'
          cases hy'
          exact ⟨rfl, _, rfl, a, _, _, _, rfl, rfl, SqL.of (s2 _ _ (s811 _ _ hE.at_)), atI_nat (j := 0) rfl, hkk _ (Same.refl _)⟩
        · have n0 : (rs.map fun q => q.v) ≠ [] := by
            intro e
            have := congrArg List.length e
            rw [List.length_map, lr] at this
            exact m0 (by rw [show m = 0 from this]; rfl)
          refine ⟨D, _, rfl, .inl ⟨SqL.of hD9, fun p2 hp2 => ?_⟩⟩
          have s12 := same_new hp2 (.tup (rs.map fun q => q.v))
          have h2 : (upd H9' p2 (.tup (rs.map fun q => q.v))) p2 = some (.tup (rs.map fun q => q.v)) := upd_same
          generalize upd H9' p2 (.tup (rs.map fun q => q.v)) = H12 at s12 h2
          refine ⟨p0, p2, [.str s], _, rfl, rfl, SqT.of (s12 _ _ (s9' _ _ h0)), SqT.of h2, List.cons_ne_nil _ _, ?_, fun e => absurd e n0, fun _ p3 hp3 => ?_⟩
          · show 1 + (rs.map fun q => q.v).length ≤ sizeLine
            rw [List.length_map, lr, sizeLine_eq]
            omega
          have s13 := same_new hp3 (.tup ([.str s] ++ rs.map fun q => q.v))
          have h3 : (upd H12 p3 (.tup ([.str s] ++ rs.map fun q => q.v))) p3 = some (.tup (.str s :: rs.map fun q => q.v)) := upd_same
          generalize upd H12 p3 (.tup ([.str s] ++ rs.map fun q => q.v)) = H13 at s13 h3
          refine ⟨_, rfl, _, rfl, (by show 3 ≤ sizeLine; decide), fun r hr0 => ?_⟩
          have s14 := same_new hr0 (.lst [.ref p3, .int (1 + (mx : Int)), .int (1 + (sz : Int))])
          have hr14 : (upd H13 r (.lst [.ref p3, .int (1 + (mx : Int)), .int (1 + (sz : Int))])) r = some (.lst [.ref p3, .int (1 + (mx : Int)), .int (1 + (sz : Int))]) := upd_same
          have sB := s811.trans (s9'.trans (s12.trans s13))
          have sA := sB.trans s14
          have fr : H r = none := fresh_but (c8.same sB) (hp8.mono sB) hr0
          have h14 := s14 _ _ h3
          generalize upd H13 r (.lst [.ref p3, .int (1 + (mx : Int)), .int (1 + (sz : Int))]) = H14 at s14 hr14 sA h14
          obtain ⟨t, it, kt, kk⟩ := km.make (show m ≠ 0 from fun e => m0 (by rw [e]; rfl)) (ts := rs.map fun q => q.t) (by rw [List.length_map, lr])
          have em : (1 : Int) + (mx : Int) = ((1 + mx : Nat) : Int) := by omega
          have es : (1 : Int) + (sz : Int) = ((1 + sz : Nat) : Int) := by omega
          have dt : depth t ≤ mx + 1 := depth_kids it fun u hu => by
            rw [kk] at hu
            obtain ⟨qe, hq, rfl⟩ := List.mem_map.mp hu
            obtain ⟨a, hE⟩ := each qe hq
            exact Nat.le_trans hE.dep (hmx qe hq)
          rw [em, es] at hr14
          refine q r ⟨.ref p3, t, 1 + mx, 1 + sz⟩ _ fr (c8.same sA) ((hp8.mono sA).le (by omega)) ⟨hr14, ⟨?_, ?_, ?_, ?_⟩, ?_, ?_, ?_, ?_⟩
          · refine TreeAt.make it (by rw [kt]; exact h14) (by rw [kk, List.length_map, List.length_map]) fun i y u h1 h2 => ?_
            rw [kk, List.getElem?_map] at h2
            rw [List.getElem?_map] at h1
            cases eq : rs[i]? with
            | none => rw [eq] at h1; cases h1
            | some qe =>
              rw [eq] at h1 h2
              cases h1
              cases h2
              obtain ⟨a, hE⟩ := each qe (List.mem_of_getElem? eq)
              exact hE.sum.at_.mono sA
          · refine nums_kids it fun u hu => ?_
            rw [kk] at hu
            obtain ⟨qe, hq, rfl⟩ := List.mem_map.mp hu
            obtain ⟨a, hE⟩ := each qe hq
            exact hE.sum.nums
          · intro x hx
            have hx : x ∈ names t := hx
            rw [names_kids it, kk] at hx
            obtain ⟨u, hu, hx⟩ := List.mem_flatMap.mp hx
            obtain ⟨qe, hq, rfl⟩ := List.mem_map.mp hu
            obtain ⟨a, hE⟩ := each qe hq
            exact hE.sum.nms x hx
          · show depth t ≤ 12
            omega
          · show depth t ≤ 1 + mx
            omega
          · show 1 + mx ≤ 12
            omega
          · show (names t).length ≤ 1 + sz
            rw [names_kids it, kk]
            omega
          · show 1 + sz ≤ 40
            omega
      · intro fin
        refine ⟨_, rfl, Pl, rfl, ⟨_, SqL.of hP9⟩, fun D hD => ?_⟩
        refine lc_mapY (walk_list (K := K) (a := Pl) (xs := ps.map V.ref)) (rs.map fun q => V.int (q.s : Nat)) (by rw [List.length_map, List.length_map, lr, lm]) (by rw [List.length_map]; omega) hD (fun H2 s2 => SqL.of (s2 _ _ hP9)) (fun i x H2 H3 y hy' s2 hy kk hkk => ?_) fun H9' s9' hD9 => ?_
        · obtain ⟨rfl, hx⟩ := hy
          obtain ⟨a, qe, rfl, hq, hE⟩ := part i x hx
          rw [List.getElem?_map, hq] at hy'
          cases hy'
          exact ⟨rfl, _, rfl, a, _, _, _, rfl, rfl, SqL.of (s2 _ _ (s9 _ _ hE.at_)), atI_nat (j := 2) rfl, hkk _ (Same.refl _)⟩
        · have hsum := sum_names (qs := rs) fun q hq => by
            obtain ⟨a, hE⟩ := each q hq
            exact hE.nms
          obtain ⟨sz, hsz⟩ := Int.eq_ofNat_of_zero_le (a := (rs.map fun q => ((q.s : Nat) : Int)).sum) (by omega)
          refine ⟨D, rs.map (fun q => ((q.s : Nat) : Int)), rfl, SqL.of (by rw [List.map_map]; exact hD9), _, _, rfl, rfl, fin _ _ ⟨sz, by rw [hsz]; rfl, s9', by omega⟩⟩
    · intro fin
      refine ⟨_, rfl, Pl, rfl, ⟨_, SqL.of hP8⟩, fun D hD => ?_⟩
      refine lc_mapY (walk_list (K := K) (a := Pl) (xs := ps.map V.ref)) (rs.map fun q => V.int (q.d : Nat)) (by rw [List.length_map, List.length_map, lr, lm]) (by rw [List.length_map]; omega) hD (fun H2 s2 => SqL.of (s2 _ _ hP8)) (fun i x H2 H3 y hy' s2 hy kk hkk => ?_) fun H9' s9' hD9 => ?_
      · obtain ⟨rfl, hx⟩ := hy
        obtain ⟨a, qe, rfl, hq, hE⟩ := part i x hx
        rw [List.getElem?_map, hq] at hy'
        cases hy'
        exact ⟨rfl, _, rfl, a, _, _, _, rfl, rfl, SqL.of (s2 _ _ hE.at_), atI_nat (j := 1) rfl, hkk _ (Same.refl _)⟩
      · refine ⟨D, rs.map (fun q => ((q.d : Nat) : Int)), .int 0, rfl, rfl, SqL.of (by rw [List.map_map]; exact hD9), fun e0 => ?_, fun mx hm hle => ?_⟩
        · have e1 : rs = [] := List.map_eq_nil_iff.mp e0
          exact ⟨_, _, rfl, rfl, fin _ _ ⟨0, rfl, s9', fun q hq => by rw [e1] at hq; cases hq⟩⟩
        · obtain ⟨q0, hq0, rfl⟩ := List.mem_map.mp hm
          exact ⟨_, _, rfl, rfl, fin _ _ ⟨q0.d, rfl, s9', fun q hq => by
            have := hle _ (List.mem_map.mpr ⟨q, hq, rfl⟩)
            omega⟩⟩
end
end K19
namespace K19
open PySem L2 K19R
abbrev sLaw : Stmt := topS 58
theorem strs_of : ∀ acc : List V, (∀ (i : Nat) (y : V), acc[i]? = some y → ∃ s : Str, y = V.str s ∧ s.cps.toList.length ≤ 100) → ∃ gs : List Str, acc = gs.map V.str ∧ ∀ z ∈ gs, z.cps.toList.length ≤ 100
  | [], _ => ⟨[], rfl, fun z hz => (nomatch hz)⟩
  | y :: r, h => by
    obtain ⟨s, e, l⟩ := h 0 y rfl
    obtain ⟨gs, h1, h2⟩ := strs_of r fun i z e => h (i + 1) z e
    refine ⟨s :: gs, by rw [e, h1]; rfl, fun z hz => ?_⟩
    rcases List.mem_cons.mp hz with e | hz
    · rw [e]; exact l
    · exact h2 z hz
theorem sum_fold {n : Nat} {H H' : Hp} {v w : V} {t : T} (s : SumAt n H v t) (a : TreeAt H' w (foldL t)) : SumAt n H' w (foldL t) := by
  have f := folded_ok t s.nums
  exact ⟨a, f.nums, fun x hx => s.nms x (f.sub.subset hx), Nat.le_trans f.dep s.dep⟩
theorem map_dep {val : Str → Str} {t : T} (hn : Nums In t) (hd : depth t ≤ 12) : ∀ e, mapE foldL (ev val t) = .error e → ∀ u, e = .great u ∨ e = .zero u → depth u ≤ 12 := by
  intro e he u hu
  cases hz : ev val t with
  | ok z => rw [hz] at he; cases he
  | error e0 =>
    rw [hz] at he
    have i := ev_in hz
    cases he
    cases e0 with
    | noInt s => rcases hu with h | h <;> cases h
    | great w =>
      have i : In_ w t := i
      rcases hu with h | h
      · cases h
        exact Nat.le_trans (folded_ok w (i.nums hn)).dep (Nat.le_trans i.dep hd)
      · cases h
    | zero w =>
      have i : In_ w t := i
      rcases hu with h | h
      · cases h
      · cases h
        exact Nat.le_trans (folded_ok w (i.nums hn)).dep (Nat.le_trans i.dep hd)
theorem kb_one {K : PySem.W.Frag} {f : Addr} {fd : FuncData} (F : Fun K "folded" "folded" sFolded f fd) : KBinds K fd ["tree"] ["tree"] (fun us ws => us ++ ws) (fun vs zs => vs ++ zs) := by
  obtain ⟨oc, od, kV, doc, pm, an, cdv, ct, osl, rfl, lk, hcd⟩ := F.ex
  refine ⟨fun s us ws _ hl => ?_, fun r1 r2 => r1.append r2⟩
  match us, ws, hl with
  | [], [w], _ => exact .of_eq rfl
  | [w], [], _ => exact .of_eq rfl
  | [], [], h => simp at h
  | [], _ :: _ :: _, h => simp at h
  | [_], _ :: _, h => simp at h
  | _ :: _ :: _, _, h => simp at h
end K19
namespace K19
open PySem L2 K19R
theorem lim (l : Nat) : ∃ M : Nat, M ≤ 64 ∧ (if (if (l : Int) < 64 then (l : Int) else 64) > 3 then (if (l : Int) < 64 then (l : Int) else 64) else 3) = (M : Int) := by
  by_cases h : (l : Int) < 64
  · rw [if_pos h]
    by_cases h2 : (l : Int) > 3
    · rw [if_pos h2]; exact ⟨l, by omega, rfl⟩
    · rw [if_neg h2]; exact ⟨3, by decide, rfl⟩
  · rw [if_neg h, if_pos (by decide)]
    exact ⟨64, Nat.le_refl _, rfl⟩
section
variable {P : Program} {w : World} {K : PySem.W.Frag} {mg : Str → Option Value} {base : Heap} {D fI cc cd CS CI CN CG CZ : Addr}
def CalK (P : Program) (w : World) (K : PySem.W.Frag) (mg : Str → Option Value) (base : Heap) : Prop :=
  ∃ f fd, FnOk P w K mg base CX0 29 f fd ["tree"] (spFold 12) ∧ mg "folded" = some (.ref f) ∧ PySem.W.keepIn K (.ref f) = true ∧ Binds K fd ["tree"] [] ∧ KBinds K fd ["tree"] ["tree"] (fun us ws => us ++ ws) (fun vs zs => vs ++ zs)
theorem cal_foldedK (Df : Def K mg "folded" sFolded ["tree"]) (C1 : Cal P w K mg base CX0 16 "check_sum" ["tree"] (spCheckSum 12)) (C2 : Cal P w K mg base CX0 28 "fold" ["tree"] (spFold 12)) : CalK P w K mg base := by
  obtain ⟨f, fd, F, m, b⟩ := Df
  refine ⟨f, fd, ?_, m, F.kp, b, kb_one F⟩
  refine F.ok scFolded (fun vs H Q E ⟨_, _, e, _⟩ => by rw [e]; rfl) fun cdv A outer st H vs Q E hr h => ?_
  obtain ⟨g1, d1, G1, m1, k1, b1⟩ := C1
  obtain ⟨g2, d2, G2, m2, k2, b2⟩ := C2
  have hr1 : Room 16 _ := hr.mono (by decide)
  obtain ⟨v, t, rfl, hs, hn, q⟩ := h
  refine ⟨_, pss_cons (ps_expr (pe_call G1 hr1 rfl m1 k1 b1 .nil pass0 (pa_cons (pv 0) pa_nil)))
    (pss_one (ps_ret (pe_call G2 hr rfl m2 k2 b2 .nil pass0 (pa_cons (pv 0) pa_nil)))), ?_⟩
  refine ⟨_, rfl, v, t, rfl, hs, fun H1 s1 => ?_⟩
  exact ⟨_, rfl, v, t, rfl, hs.mono s1, hn, fun v' H2 s2 h2 => q v' H2 (s1.trans s2) h2⟩
abbrev NLaw : List Str := ["_law_script", "_law_purse_here", "_law_words_here", "_law_book_here", "_law_given", "_law_pool", "_law_at", "_law_node", "_law_found", "_law_names_ahead", "_law_turn", "_law_word"]
theorem scLaw : FnScope NLaw ["_law_script"] (defScope sLaw) := ⟨rfl, rfl, rfl, by decide +kernel, rfl, by decide +kernel, by decide +kernel⟩
def spLaw (K : PySem.W.Frag) : Sp := fun vs H Q _ => ∃ (a : Addr) (ns : List Int), vs = [.ref a] ∧ SqL K H a (ns.map V.int) ∧ ns.length ≤ 63 ∧ ∀ H', Q (.bl true) H'
theorem cal_law (Df : Def K mg "law" sLaw ["_law_script"]) (BT : Bt mg) (C1 : Cal P w K mg base CX0 1 "_law_purse" ["_law_script", "_law_at"] (spLPurse K)) (C2 : Cal P w K mg base CX0 2 "_law_words" ["_law_purse_here"] spLWords) (C3 : Cal P w K mg base CX0 3 "_law_book" ["_law_purse_here", "_law_words_here"] spLBook)
    (C4 : Cal P w K mg base CX0 2 "_law_shown" ["_law_purse_here"] spLShown) (C5 : Cal P w K mg base CX0 1 "_law_coin" ["_law_purse_here", "_law_many"] spLCoin) (C6 : Cal P w K mg base CX0 3 "_law_sum" ["_law_purse_here", "_law_pool", "_law_words_here", "_law_most"] spLSum)
    (C7 : CalK P w K mg base) (C8 : Cal P w K mg base CX0 15 "_law_same" ["_law_found", "_law_due_here"] (spLSame 14)) (C9 : Cal P w K mg base CX0 26 "_law_folded" ["_law_node"] (spLFolded 12)) (Ca : Cal P w K mg base CX0 18 "_law_answer" ["_law_node", "_law_book_here", "_law_given"] (spLAnswer K))
    (Cb : Cal P w K mg base CX0 27 "_law_due" ["_law_node", "_law_book_here", "_law_given"] (spLDue K)) (Cc : Cal P w K mg base CX0 17 "names_in" ["tree"] spNamesIn) : ∀ f fd, Fun K "law" "law" sLaw f fd → FnOk P w K mg base CX0 30 f fd ["_law_script"] (spLaw K) := by
  intro f fd F
  refine F.ok scLaw (fun vs H Q E ⟨_, _, e, _⟩ => by rw [e]; rfl) fun cdv A outer st H vs Q E hr h => ?_
  obtain ⟨g1, d1, G1, m1, k1, b1⟩ := C1
  obtain ⟨g2, d2, G2, m2, k2, b2⟩ := C2
  obtain ⟨g3, d3, G3, m3, k3, b3⟩ := C3
  obtain ⟨g4, d4, G4, m4, k4, b4⟩ := C4
  obtain ⟨g5, d5, G5, m5, k5, b5⟩ := C5
  obtain ⟨g6, d6, G6, m6, k6, b6⟩ := C6
  obtain ⟨g7, d7, G7, m7, k7, b7, kb7⟩ := C7
  obtain ⟨g8, d8, G8, m8, k8, b8⟩ := C8
  obtain ⟨g9, d9, G9, m9, k9, b9⟩ := C9
  obtain ⟨ga, da, Ga, ma, ka, ba⟩ := Ca
  obtain ⟨gb, db, Gb, mb, kb, bb⟩ := Cb
  obtain ⟨gc, dc, Gc, mc, kc, bc⟩ := Cc
  have hr1 : Room 1 _ := hr.mono (by omega)
  have hr2 : Room 2 _ := hr.mono (by omega)
  have hr3 : Room 3 _ := hr.mono (by omega)
  have hr15 : Room 15 _ := hr.mono (by omega)
  have hr26 : Room 26 _ := hr.mono (by omega)
  have hr18 : Room 18 _ := hr.mono (by omega)
  have hr27 : Room 27 _ := hr.mono (by omega)
  have hr17 : Room 17 _ := hr.mono (by omega)
  obtain ⟨a, ns, rfl, hs, hns, q⟩ := h
  refine ⟨_, pss_cons (ps_set (i := 1) scLaw.nd rfl (.inr rfl) (pe_call G1 hr1 rfl m1 k1 b1 .nil pass0 (pa_cons (pv 0) (pa_cons pe_int pa_nil))))
    (pss_cons (ps_set (i := 2) scLaw.nd rfl (.inl rfl) (pe_call G2 hr2 rfl m2 k2 b2 .nil pass0 (pa_cons (pv 1) pa_nil)))
    (pss_cons (ps_set (i := 3) scLaw.nd rfl (.inl rfl) (pe_call G3 hr3 rfl m3 k3 b3 .nil pass0 (pa_cons (pv 1) (pa_cons (pv 2) pa_nil))))
    (pss_cons (ps_set (i := 1) scLaw.nd rfl (.inr rfl) (pe_call G1 hr1 rfl m1 k1 b1 .nil pass0 (pa_cons (pv 0) (pa_cons pe_int pa_nil))))
    (pss_cons (ps_setLc (i := 4) (own := [("_law_turn", 10)]) (g := gName 10) (by rfl) scLaw.nd rfl rfl (sw_true rfl rfl rfl (by decide +kernel)) (pi_range1 (by rfl) BT.range (pa_cons (pe_call G5 hr1 rfl m5 k5 b5 .nil pass0 (pa_cons (pv 1) (pa_cons pe_int pa_nil))) pa_nil))
      (blkOk_by (own := [("_law_turn", 10)]) (N := NLaw) (sc := defScope sLaw) (by decide +kernel)) (fun _ _ _ _ _ => pg_name (i := 10) scLaw.nd rfl (Or.inl rfl)) (fun _ _ _ _ _ => pts_nil)
      (fun _ _ _ _ _ => pe_call G4 hr2 rfl m4 k4 b4 .nil pass0 (pa_cons (pv 1) pa_nil)))
    (pss_cons (ps_set (i := 5) scLaw.nd rfl (.inl rfl) (pe_lst pa_nil))
    (pss_cons (ps_for PassesOwn.never rfl (pi_range2 (by rfl) BT.range (pa_cons pe_int (pa_cons (pe_callB (call_max2 rfl) (by rfl) BT.max (by decide +kernel) (pa_cons pe_int (pa_cons (pe_callB (call_min2 rfl) (by rfl) BT.min (by decide +kernel) (pa_cons pe_int (pa_cons (pe_callB call_len_seq (by rfl) BT.len PySem.boot_len (pa_cons (pv 0) pa_nil)) pa_nil))) pa_nil))) pa_nil))) (pg_name (i := 6) scLaw.nd rfl (.inl rfl))
      (pss_cons (ps_expr (pe_bm PySem.F.plainAttrs_list PySem.F.slot_list_append PySem.F.type_list_append mt_append (pv 5) (pa_cons (pe_call G6 hr3 rfl m6 k6 b6 .nil pass0 (pa_cons (pe_call G1 hr1 rfl m1 k1 b1 .nil pass0 (pa_cons (pv 0) (pa_cons (pv 6) pa_nil))) (pa_cons (pv 5) (pa_cons (pv 2) (pa_cons pe_int pa_nil))))) pa_nil)))
      (pss_cons (ps_set (i := 7) scLaw.nd rfl (.inl rfl) (pe_ix ix_list (pe_ix ix_list (pv 5) (pe_un un_neg pe_int) (fun _ _ => rfl)) pe_int (fun _ _ => rfl)))
      (pss_cons (ps_set (i := 8) scLaw.nd rfl (.inl rfl) (pe_callK0 G7 hr rfl m7 k7 kb7 pass0 (pk_cons (pv 7) pk_nil)))
      (pss_cons (ps_if (PW.pt (pw_or (pt_not (pt_val (pe_call G8 hr15 rfl m8 k8 b8 .nil pass0 (pa_cons (pv 8) (pa_cons (pe_call G9 hr26 rfl m9 k9 b9 .nil pass0 (pa_cons (pv 7) pa_nil)) pa_nil)))))
          (pw_or1 (pt_not (pt_val (pe_call G8 hr15 rfl m8 k8 b8 .nil pass0 (pa_cons (pe_call G7 hr rfl m7 k7 b7 .nil pass0 (pa_cons (pv 8) pa_nil)) (pa_cons (pv 8) pa_nil)))))))) (pss_one (ps_ret pe_bl)) pss_nil)
      (pss_cons (ps_if (pt_not (pt_val (pe_call G8 hr15 rfl m8 k8 b8 .nil pass0 (pa_cons (pe_call Ga hr18 rfl ma ka ba .nil pass0 (pa_cons (pv 8) (pa_cons (pe_callTy call_dictD (by rfl) BT.dict (by decide +kernel) (pa_cons (pv 3) pa_nil)) (pa_cons (pe_callTy call_list_of (by rfl) BT.list (by decide +kernel) (pa_cons (pv 4) pa_nil)) pa_nil))))
          (pa_cons (pe_call Gb hr27 rfl mb kb bb .nil pass0 (pa_cons (pv 7) (pa_cons (pv 3) (pa_cons (pv 4) pa_nil)))) pa_nil))))) (pss_one (ps_ret pe_bl)) pss_nil)
      (pss_cons (ps_if (pt_not (pt_val (pe_call G8 hr15 rfl m8 k8 b8 .nil pass0 (pa_cons (pe_call Ga hr18 rfl ma ka ba .nil pass0 (pa_cons (pv 8) (pa_cons pe_dnewK (pa_cons (pe_lst pa_nil) pa_nil))))
          (pa_cons (pe_call Gb hr27 rfl mb kb bb .nil pass0 (pa_cons (pv 7) (pa_cons pe_dnewK (pa_cons (pe_lst pa_nil) pa_nil)))) pa_nil))))) (pss_one (ps_ret pe_bl)) pss_nil)
      (pss_cons (ps_set (i := 9) scLaw.nd rfl (.inr rfl) (pe_call Gc hr17 rfl mc kc bc .nil pass0 (pa_cons (pv 7) pa_nil)))
      (pss_one (ps_if (pt_cmpR (op_neNil hr.units0) (pe_lc (own := [("_law_word", 11)]) (g := gName 11) (by rfl) scLaw.nd (pi_list (pe_call Gc hr17 rfl mc kc bc .nil pass0 (pa_cons (pv 8) pa_nil)))
          (blkOk_by (own := [("_law_word", 11)]) (N := NLaw) (sc := defScope sLaw) (by decide +kernel)) (fun _ _ _ _ _ => pg_name (i := 11) scLaw.nd rfl (Or.inl rfl)) (tt := tTest (tOp (rIn K true) (tVar 11) (tVar 9))) (fun _ _ _ _ _ => pts_one (pt_cmpR op_notIn_seq (pv 11) (pv 9) rfl))
          (fun _ _ _ _ _ => pv 11)) (pe_lst pa_nil) (nomark _)) (pss_one (ps_ret pe_bl)) pss_nil))))))))))
    (pss_one (ps_ret pe_bl)))))))), ?_⟩
  refine ⟨_, rfl, a, ns, 0, rfl, hs, by decide, fun p H1 hp0 s1 hp1 => ?_⟩
  refine ⟨_, rfl, p, 0, rfl, hp1, by decide, fun L H2 ws hL0 c2 hp2 hL hlw hok => ?_⟩
  have nLp := purse_new hp1 hL0
  refine ⟨_, rfl, _, rfl, p, L, _, ws, rfl, hp2, by decide, hL, hlw, fun b bs H3 hb0 c3 hp3 hb hbs => ?_⟩
  have s13 : Same H H3 := same_but s1 hp0 (c2.trans c3)
  have hL3 := c3 _ _ nLp hL
  refine ⟨_, rfl, a, ns, 1, rfl, s13.seq hs, by decide, fun p2 H4 hp20 s4 hp4 => ?_⟩
  refine ⟨_, rfl, p2, 13, _, rfl, by decide, by decide, hp4, by decide, fun k H5 hk c5 hp5 => ⟨k, rfl, by omega, by omega, fun g hg0 => ?_⟩⟩
  refine lc_coin (walk_range (lo := 0) (n := (k : Int).toNat)) (p := p2) (N := 1) (c := 8) (fun _ y => ∃ s : Str, y = V.str s ∧ s.cps.toList.length ≤ 100) (by omega) hg0 hp5 (fun _ _ => trivial) (fun j u H6 H7 hj b6 hp6 hy kk hkk => ?_) fun H6 acc c6 hp6 hg6 hacc hR => ?_
  · obtain ⟨rfl, rfl⟩ := hy
    exact ⟨rfl, _, rfl, p2, _, rfl, hp6, by omega, fun s H8 hs8 c8 hp8 => hkk _ H8 c8 (hp8.le (by omega)) ⟨s, rfl, hs8⟩⟩
  obtain ⟨gs, rfl, hgs⟩ := strs_of acc hR
  have s36 : Same H3 H6 := same_but s4 hp20 (c5.trans c6)
  have hs6 : SqL K H6 a (ns.map V.int) := (s13.trans s36).seq hs
  have hL6 := s36 _ _ hL3
  have hh6 : HeldAt K H6 b g bs gs := ⟨s36 _ _ hb, SqL.of hg6, ⟨hbs, hgs⟩⟩
  refine ⟨Nat.zero_le _, fun Lp hLp0 => ?_⟩
  have s7 := same_new hLp0 (.lst [])
  have hLp7 : (upd H6 Lp (.lst [])) Lp = some (.lst (([] : List Addr).map V.ref)) := upd_same
  generalize upd H6 Lp (.lst []) = H7 at s7 hLp7
  obtain ⟨M, hM64, hM⟩ := lim (ns.map V.int).length
  refine ⟨_, rfl, a, _, rfl, .inl (s7.seq hs6), _, _, rfl, _, _, rfl, 2, (M : Int), by rw [hM], ⟨by decide, by decide, by omega, by omega⟩, ?_⟩
  refine for_it (walk_range (lo := 2) (n := ((M : Int) - 2).toNat)) (fun i σ H' => ∃ v6 v7 v8 v9 as qs, σ = [some (.ref a), some (.ref p2), some (.ref L), some (.ref b), some (.ref g), some (.ref Lp), v6, v7, v8, v9, none, none] ∧ Same H6 H' ∧ H' Lp = some (.lst (as.map V.ref)) ∧ EntsAt H' as qs ∧ as.length = i)
    ⟨none, none, none, none, [], [], rfl, s7, hLp7, ⟨rfl, fun i a q h1 h2 => (nomatch h1)⟩, rfl⟩ (fun _ _ _ _ _ => trivial) ?_ ?_
  · rintro i x σ H8 H9 hi ⟨v6, v7, v8, v9, as, qs, rfl, s8, hLp8, hers, hlas⟩ ⟨rfl, rfl⟩
    refine ⟨_, rfl, .inl ⟨rfl, _, SqL.of hLp8⟩, _, rfl, _, rfl, a, ns, 2 + i, by rw [Int.natCast_add]; rfl, s8.seq hs6, by omega, fun pp H10 hpp0 s10 hpp => ?_⟩
    refine ⟨_, rfl, _, rfl, pp, Lp, L, 0, ws, as, qs, rfl, hpp, by decide, s10 _ _ (s8 _ _ hL6), hlw, hok, ne_of_none (s8 _ _ hL6) hpp0, s10 _ _ hLp8, ne_of_none hLp8 hpp0, hers.mono s10, by omega, fun r qe H11 hr0 c11 hpp11 hE => ?_⟩
    have s811 : Same H9 H11 := same_but s10 hpp0 c11
    have hLp11 := s811 _ _ hLp8
    have her11 := hers.mono s811
    refine ⟨Lp, _, _, rfl, rfl, hLp11, by rw [List.length_map, hlas]; exact small1000 (by omega), ?_⟩
    have hLp12 : (upd H11 Lp (.lst (as.map V.ref ++ [.ref r]))) Lp = some (.lst ((as ++ [r]).map V.ref)) := by rw [upd_same, List.map_append]; rfl
    have hE12 : EntAt (upd H11 Lp (.lst (as.map V.ref ++ [.ref r]))) r qe := hE.updL hLp11 (refs_ref as)
    have her12 : EntsAt (upd H11 Lp (.lst (as.map V.ref ++ [.ref r]))) (as ++ [r]) (qs ++ [qe]) := (her11.updL hLp11 (refs_ref as)).snoc hE12
    have s12 : Same H6 (upd H11 Lp (.lst (as.map V.ref ++ [.ref r]))) := fun c o e => by
      rw [upd_ne (ne_of_none e hLp0)]
      exact s811 _ _ (s8 _ _ e)
    generalize upd H11 Lp (.lst (as.map V.ref ++ [.ref r])) = H12 at hLp12 hE12 her12 s12
    have hl1 : (as ++ [r]).length = i + 1 := by rw [List.length_append, hlas]; rfl
    refine ⟨_, rfl, _, rfl, Lp, _, _, _, rfl, rfl, SqL.of hLp12, at_last (m := i) (by rw [List.length_map, hl1]) (by rw [List.getElem?_map, List.getElem?_append_right (by omega), hlas, Nat.sub_self]; rfl), r, _, _, _, rfl, rfl, SqL.of hE12.at_, atI_nat (j := 0) rfl, ?_⟩
    have sn := hE12.sum
    refine ⟨_, rfl, qe.v, qe.t, rfl, sn, Nat.le_refl _, fun v4 H13 s13' t13 => ?_⟩
    have sf : SumAt 12 H13 v4 (foldL qe.t) := sum_fold sn t13
    have ft := folded_ok qe.t sn.nums
    have df : depth (foldL qe.t) ≤ 13 := Nat.le_trans sf.dep (by decide)
    refine ⟨_, rfl, _, rfl, qe.v, qe.t, rfl, sn.mono s13', Nat.le_refl _, fun v5 H14 s14 t14 => ⟨_, _, rfl, tree_same (n := 13) df (t13.mono s14) t14, fun H15 s15 => ⟨true, rfl, iteF ?_⟩⟩⟩
    have s_15 := s14.trans s15
    refine ⟨_, rfl, v4, foldL qe.t, rfl, sf.mono s_15, Nat.le_refl _, fun v6' H16 s16 t16 => ⟨_, rfl, _, _, rfl, tree_same (n := 13) df (by rw [ft.fix] at t16; exact t16) (t13.mono (s_15.trans s16)), fun H17 s17 => ⟨true, rfl, iteF ?_⟩⟩⟩
    have s_17 := s_15.trans (s16.trans s17)
    have S := s13'.trans s_17
    have hh17 : HeldAt K H17 b g bs gs := hh6.mono (s12.trans S)
    -- the answers
    refine ⟨_, rfl, _, rfl, b, _, rfl, .inl hh17.book, fun d hd => ⟨_, rfl, g, _, rfl, .inl ((same_new hd _).seq hh17.given), fun l hl => ?_⟩⟩
    have s18 : Same H17 (upd (upd H17 d (.dK (bookK bs))) l (.lst (gs.map V.str))) := (same_new hd _).trans (same_new hl _)
    have hd18 : (upd (upd H17 d (.dK (bookK bs))) l (.lst (gs.map V.str))) d = some (.dK (bookK bs)) := (same_new hl _) _ _ upd_same
    have hl18 : (upd (upd H17 d (.dK (bookK bs))) l (.lst (gs.map V.str))) l = some (.lst (gs.map V.str)) := upd_same
    generalize upd (upd H17 d (.dK (bookK bs))) l (.lst (gs.map V.str)) = H18 at s18 hd18 hl18
    refine ⟨v4, foldL qe.t, d, l, bs, gs, rfl, sf.mono (s_17.trans s18), ⟨hd18, SqL.of hl18, hh17.ok⟩, fun va H19 s19 ana => ?_⟩
    have s_19 := s18.trans s19
    refine ⟨_, rfl, _, rfl, _, rfl, qe.v, qe.t, b, g, bs, gs, rfl, sn.mono (S.trans s_19), hh17.mono s_19, fun vd H20 s20 and => ?_⟩
    rw [ev_fold _ _ sn.nums] at ana
    refine ⟨_, _, rfl, ans_same (t := qe.t) (n := 12) (map_dep sn.nums sn.dep) (ana.mono s20) and, fun H21 s21 => ⟨true, rfl, iteF ?_⟩⟩
    have s_21 := s_19.trans (s20.trans s21)
    -- .. with no names
    refine ⟨_, rfl, fun d2 hd2 => ⟨Nat.zero_le _, fun l2 hl2 => ?_⟩⟩
    have s22 : Same H21 (upd (upd H21 d2 (.dK [])) l2 (.lst [])) := (same_new hd2 _).trans (same_new hl2 _)
    have hd22 : (upd (upd H21 d2 (.dK [])) l2 (.lst [])) d2 = some (.dK []) := (same_new hl2 _) _ _ upd_same
    have hl22 : (upd (upd H21 d2 (.dK [])) l2 (.lst [])) l2 = some (.lst []) := upd_same
    generalize upd (upd H21 d2 (.dK [])) l2 (.lst []) = H22 at s22 hd22 hl22
    have none0 : Vals0 [] [] := ⟨fun p hp => (nomatch hp), fun p hp => (nomatch hp)⟩
    refine ⟨v4, foldL qe.t, d2, l2, [], [], rfl, sf.mono (s_17.trans (s_21.trans s22)), ⟨hd22, SqL.of hl22, none0⟩, fun va2 H23 s23 ana2 => ?_⟩
    refine ⟨_, rfl, fun d3 hd3 => ⟨Nat.zero_le _, fun l3 hl3 => ?_⟩⟩
    have s24 : Same H23 (upd (upd H23 d3 (.dK [])) l3 (.lst [])) := (same_new hd3 _).trans (same_new hl3 _)
    have hd24 : (upd (upd H23 d3 (.dK [])) l3 (.lst [])) d3 = some (.dK []) := (same_new hl3 _) _ _ upd_same
    have hl24 : (upd (upd H23 d3 (.dK [])) l3 (.lst [])) l3 = some (.lst []) := upd_same
    generalize upd (upd H23 d3 (.dK [])) l3 (.lst []) = H24 at s24 hd24 hl24
    have s_24 := s_21.trans (s22.trans (s23.trans s24))
    refine ⟨qe.v, qe.t, d3, l3, [], [], rfl, sn.mono (S.trans s_24), ⟨hd24, SqL.of hl24, none0⟩, fun vd2 H25 s25 and2 => ?_⟩
    rw [ev_fold _ _ sn.nums] at ana2
    refine ⟨_, _, rfl, ans_same (t := qe.t) (n := 12) (map_dep sn.nums sn.dep) (ana2.mono (s24.trans s25)) and2, fun H26 s26 => ⟨true, rfl, iteF ?_⟩⟩
    have s_26 := s_24.trans (s25.trans s26)
    -- the names
    have nl : (names qe.t).length < 64 := Nat.lt_of_le_of_lt (Nat.le_trans hE12.nms hE12.s40) (by decide)
    have nl2 : (names (foldL qe.t)).length < 64 := Nat.lt_of_le_of_lt ft.sub.length_le nl
    refine ⟨_, rfl, qe.v, qe.t, rfl, sn.mono (S.trans s_26), nl, fun pA ys H27 s27 hys hysl hpA => ?_⟩
    refine ⟨_, rfl, v4, foldL qe.t, rfl, sf.mono (s_17.trans (s_26.trans s27)), nl2, fun pB zs H28 s28 hzs hzsl hpB => ⟨pB, rfl, ⟨_, SqL.of hpB⟩, fun D hD => ?_⟩⟩
    have hpA28 := s28 _ _ hpA
    refine lc_it (walk_list (K := K) (a := pB) (xs := zs.map V.str)) (fun i H' => Same H28 H' ∧ H' D = some (.lst [])) ⟨same_new hD _, upd_same⟩ (fun i H' _ q => SqL.of (q.1 _ _ hpB)) (fun j u H30 H31 hj q31 hy => ?_) fun H30 q30 => ?_
    · obtain ⟨rfl, hu⟩ := hy
      rw [List.getElem?_map] at hu
      cases ez : zs[j]? with
      | none => rw [ez] at hu; cases hu
      | some z =>
        rw [ez] at hu
        cases hu
        have hz : z ∈ ys := (hys z).mpr (ft.sub.subset ((hzs z).mp (List.mem_of_getElem? ez)))
        refine ⟨rfl, _, rfl, _, rfl, pA, _, rfl, .inl (SqL.of (q31.1 _ _ hpA28)), rfl, flat_str ys, _, rfl, ?_⟩
        show if (!inV (V.str z) (ys.map V.str)) = true then _ else _
        rw [inV_str, decide_eq_true hz]
        exact iteF q31
    · refine ⟨Nat.zero_le _, fun l9 hl9 => ⟨D, l9, [], rfl, rfl, SqL.of (same_new hl9 _ _ _ q30.2), SqL.of upd_same, _, rfl, iteF ?_⟩⟩
      have sE : Same H12 (upd H30 l9 (.lst [])) := S.trans (s_26.trans (s27.trans (s28.trans (q30.1.trans (same_new hl9 _)))))
      exact ⟨_, _, _, _, as ++ [r], qs ++ [qe], rfl, s12.trans sE, sE _ _ hLp12, her12.mono sE, hl1⟩
  · rintro σ H8 _
    exact q H8
end
end K19
namespace K19
open PySem L2 K19R
section
variable {K : PySem.W.Frag} {h : Heap} {mg : Str → Option Value}
theorem mk_is_name {f : Addr} {od an : Option Addr} {sl : Array (Option Value)} {oc kV dc pm cd ct : Value} (X : K.In h) (G : h.Ns mainGlobals mg) (a : PySem.W.nsIn K mainGlobals "is_name" = some (some (.ref f))) (l : K.lookup f = some ⟨oc, od, .func (PySem.W.fnOf "is_name" "is_name" (defArgs sIsName) (defBody sIsName) (defScope sIsName) .none kV dc pm an cd ct), sl⟩) (c : PySem.W.codeIn K cd "is_name" = true) (k : PySem.W.keepIn K (.ref f) = true) : Def K mg "is_name" sIsName ["thing"] :=
  ⟨f, _, fun_mk l c k, PySem.W.mg_of X G a, (fun_mk (st := sIsName) l c k).binds (ps := ["thing"]) fun _ _ _ _ _ _ us hl => match us, hl with | [_], _ => rfl⟩
theorem mk_is_place {f : Addr} {od an : Option Addr} {sl : Array (Option Value)} {oc kV dc pm cd ct : Value} (X : K.In h) (G : h.Ns mainGlobals mg) (a : PySem.W.nsIn K mainGlobals "is_place" = some (some (.ref f))) (l : K.lookup f = some ⟨oc, od, .func (PySem.W.fnOf "is_place" "is_place" (defArgs sIsPlace) (defBody sIsPlace) (defScope sIsPlace) .none kV dc pm an cd ct), sl⟩) (c : PySem.W.codeIn K cd "is_place" = true) (k : PySem.W.keepIn K (.ref f) = true) : Def K mg "is_place" sIsPlace ["thing"] :=
  ⟨f, _, fun_mk l c k, PySem.W.mg_of X G a, (fun_mk (st := sIsPlace) l c k).binds (ps := ["thing"]) fun _ _ _ _ _ _ us hl => match us, hl with | [_], _ => rfl⟩
theorem mk_is_name_or_place {f : Addr} {od an : Option Addr} {sl : Array (Option Value)} {oc kV dc pm cd ct : Value} (X : K.In h) (G : h.Ns mainGlobals mg) (a : PySem.W.nsIn K mainGlobals "is_name_or_place" = some (some (.ref f))) (l : K.lookup f = some ⟨oc, od, .func (PySem.W.fnOf "is_name_or_place" "is_name_or_place" (defArgs sIsNameOrPlace) (defBody sIsNameOrPlace) (defScope sIsNameOrPlace) .none kV dc pm an cd ct), sl⟩) (c : PySem.W.codeIn K cd "is_name_or_place" = true) (k : PySem.W.keepIn K (.ref f) = true) : Def K mg "is_name_or_place" sIsNameOrPlace ["thing"] :=
  ⟨f, _, fun_mk l c k, PySem.W.mg_of X G a, (fun_mk (st := sIsNameOrPlace) l c k).binds (ps := ["thing"]) fun _ _ _ _ _ _ us hl => match us, hl with | [_], _ => rfl⟩
theorem mk_rank_of {f : Addr} {od an : Option Addr} {sl : Array (Option Value)} {oc kV dc pm cd ct : Value} (X : K.In h) (G : h.Ns mainGlobals mg) (a : PySem.W.nsIn K mainGlobals "rank_of" = some (some (.ref f))) (l : K.lookup f = some ⟨oc, od, .func (PySem.W.fnOf "rank_of" "rank_of" (defArgs sRankOf) (defBody sRankOf) (defScope sRankOf) .none kV dc pm an cd ct), sl⟩) (c : PySem.W.codeIn K cd "rank_of" = true) (k : PySem.W.keepIn K (.ref f) = true) : Def K mg "rank_of" sRankOf ["sign"] :=
  ⟨f, _, fun_mk l c k, PySem.W.mg_of X G a, (fun_mk (st := sRankOf) l c k).binds (ps := ["sign"]) fun _ _ _ _ _ _ us hl => match us, hl with | [_], _ => rfl⟩
theorem mk_parts_of_kind {f : Addr} {od an : Option Addr} {sl : Array (Option Value)} {oc kV dc pm cd ct : Value} (X : K.In h) (G : h.Ns mainGlobals mg) (a : PySem.W.nsIn K mainGlobals "parts_of_kind" = some (some (.ref f))) (l : K.lookup f = some ⟨oc, od, .func (PySem.W.fnOf "parts_of_kind" "parts_of_kind" (defArgs sPartsOf) (defBody sPartsOf) (defScope sPartsOf) .none kV dc pm an cd ct), sl⟩) (c : PySem.W.codeIn K cd "parts_of_kind" = true) (k : PySem.W.keepIn K (.ref f) = true) : Def K mg "parts_of_kind" sPartsOf ["kind"] :=
  ⟨f, _, fun_mk l c k, PySem.W.mg_of X G a, (fun_mk (st := sPartsOf) l c k).binds (ps := ["kind"]) fun _ _ _ _ _ _ us hl => match us, hl with | [_], _ => rfl⟩
theorem mk_is_sum {f : Addr} {od an : Option Addr} {sl : Array (Option Value)} {oc kV dc pm cd ct : Value} (X : K.In h) (G : h.Ns mainGlobals mg) (a : PySem.W.nsIn K mainGlobals "is_sum" = some (some (.ref f))) (l : K.lookup f = some ⟨oc, od, .func (PySem.W.fnOf "is_sum" "is_sum" (defArgs sIsSum) (defBody sIsSum) (defScope sIsSum) .none kV dc pm an cd ct), sl⟩) (c : PySem.W.codeIn K cd "is_sum" = true) (k : PySem.W.keepIn K (.ref f) = true) : Def K mg "is_sum" sIsSum ["tree"] :=
  ⟨f, _, fun_mk l c k, PySem.W.mg_of X G a, (fun_mk (st := sIsSum) l c k).binds (ps := ["tree"]) fun _ _ _ _ _ _ us hl => match us, hl with | [_], _ => rfl⟩
theorem mk_check_sum {f : Addr} {od an : Option Addr} {sl : Array (Option Value)} {oc kV dc pm cd ct : Value} (X : K.In h) (G : h.Ns mainGlobals mg) (a : PySem.W.nsIn K mainGlobals "check_sum" = some (some (.ref f))) (l : K.lookup f = some ⟨oc, od, .func (PySem.W.fnOf "check_sum" "check_sum" (defArgs sCheckSum) (defBody sCheckSum) (defScope sCheckSum) .none kV dc pm an cd ct), sl⟩) (c : PySem.W.codeIn K cd "check_sum" = true) (k : PySem.W.keepIn K (.ref f) = true) : Def K mg "check_sum" sCheckSum ["tree"] :=
  ⟨f, _, fun_mk l c k, PySem.W.mg_of X G a, (fun_mk (st := sCheckSum) l c k).binds (ps := ["tree"]) fun _ _ _ _ _ _ us hl => match us, hl with | [_], _ => rfl⟩
theorem mk_integer_of {f : Addr} {od an : Option Addr} {sl : Array (Option Value)} {oc kV dc pm cd ct : Value} (X : K.In h) (G : h.Ns mainGlobals mg) (a : PySem.W.nsIn K mainGlobals "integer_of" = some (some (.ref f))) (l : K.lookup f = some ⟨oc, od, .func (PySem.W.fnOf "integer_of" "integer_of" (defArgs sIntegerOf) (defBody sIntegerOf) (defScope sIntegerOf) .none kV dc pm an cd ct), sl⟩) (c : PySem.W.codeIn K cd "integer_of" = true) (k : PySem.W.keepIn K (.ref f) = true) : Def K mg "integer_of" sIntegerOf ["text"] :=
  ⟨f, _, fun_mk l c k, PySem.W.mg_of X G a, (fun_mk (st := sIntegerOf) l c k).binds (ps := ["text"]) fun _ _ _ _ _ _ us hl => match us, hl with | [_], _ => rfl⟩
theorem mk_value_of {f : Addr} {od an : Option Addr} {sl : Array (Option Value)} {oc kV dc pm cd ct : Value} (X : K.In h) (G : h.Ns mainGlobals mg) (a : PySem.W.nsIn K mainGlobals "value_of" = some (some (.ref f))) (l : K.lookup f = some ⟨oc, od, .func (PySem.W.fnOf "value_of" "value_of" (defArgs sValueOf) (defBody sValueOf) (defScope sValueOf) .none kV dc pm an cd ct), sl⟩) (c : PySem.W.codeIn K cd "value_of" = true) (k : PySem.W.keepIn K (.ref f) = true) : Def K mg "value_of" sValueOf ["name", "names", "arguments"] :=
  ⟨f, _, fun_mk l c k, PySem.W.mg_of X G a, (fun_mk (st := sValueOf) l c k).binds (ps := ["name", "names", "arguments"]) fun _ _ _ _ _ _ us hl => match us, hl with | [_, _, _], _ => rfl⟩
theorem mk_bounded {f : Addr} {od an : Option Addr} {sl : Array (Option Value)} {oc kV dc pm cd ct : Value} (X : K.In h) (G : h.Ns mainGlobals mg) (a : PySem.W.nsIn K mainGlobals "bounded" = some (some (.ref f))) (l : K.lookup f = some ⟨oc, od, .func (PySem.W.fnOf "bounded" "bounded" (defArgs sBounded) (defBody sBounded) (defScope sBounded) .none kV dc pm an cd ct), sl⟩) (c : PySem.W.codeIn K cd "bounded" = true) (k : PySem.W.keepIn K (.ref f) = true) : Def K mg "bounded" sBounded ["tree", "number"] :=
  ⟨f, _, fun_mk l c k, PySem.W.mg_of X G a, (fun_mk (st := sBounded) l c k).binds (ps := ["tree", "number"]) fun _ _ _ _ _ _ us hl => match us, hl with | [_, _], _ => rfl⟩
theorem mk_quotient {f : Addr} {od an : Option Addr} {sl : Array (Option Value)} {oc kV dc pm cd ct : Value} (X : K.In h) (G : h.Ns mainGlobals mg) (a : PySem.W.nsIn K mainGlobals "quotient" = some (some (.ref f))) (l : K.lookup f = some ⟨oc, od, .func (PySem.W.fnOf "quotient" "quotient" (defArgs sQuotient) (defBody sQuotient) (defScope sQuotient) .none kV dc pm an cd ct), sl⟩) (c : PySem.W.codeIn K cd "quotient" = true) (k : PySem.W.keepIn K (.ref f) = true) : Def K mg "quotient" sQuotient ["tree", "first", "second"] :=
  ⟨f, _, fun_mk l c k, PySem.W.mg_of X G a, (fun_mk (st := sQuotient) l c k).binds (ps := ["tree", "first", "second"]) fun _ _ _ _ _ _ us hl => match us, hl with | [_, _, _], _ => rfl⟩
theorem mk_compared {f : Addr} {od an : Option Addr} {sl : Array (Option Value)} {oc kV dc pm cd ct : Value} (X : K.In h) (G : h.Ns mainGlobals mg) (a : PySem.W.nsIn K mainGlobals "compared" = some (some (.ref f))) (l : K.lookup f = some ⟨oc, od, .func (PySem.W.fnOf "compared" "compared" (defArgs sCompared) (defBody sCompared) (defScope sCompared) .none kV dc pm an cd ct), sl⟩) (c : PySem.W.codeIn K cd "compared" = true) (k : PySem.W.keepIn K (.ref f) = true) : Def K mg "compared" sCompared ["sign", "first", "second"] :=
  ⟨f, _, fun_mk l c k, PySem.W.mg_of X G a, (fun_mk (st := sCompared) l c k).binds (ps := ["sign", "first", "second"]) fun _ _ _ _ _ _ us hl => match us, hl with | [_, _, _], _ => rfl⟩
theorem mk_joined_value {f : Addr} {od an : Option Addr} {sl : Array (Option Value)} {oc kV dc pm cd ct : Value} (X : K.In h) (G : h.Ns mainGlobals mg) (a : PySem.W.nsIn K mainGlobals "joined_value" = some (some (.ref f))) (l : K.lookup f = some ⟨oc, od, .func (PySem.W.fnOf "joined_value" "joined_value" (defArgs sJoinedValue) (defBody sJoinedValue) (defScope sJoinedValue) .none kV dc pm an cd ct), sl⟩) (c : PySem.W.codeIn K cd "joined_value" = true) (k : PySem.W.keepIn K (.ref f) = true) : Def K mg "joined_value" sJoinedValue ["tree", "first", "second"] :=
  ⟨f, _, fun_mk l c k, PySem.W.mg_of X G a, (fun_mk (st := sJoinedValue) l c k).binds (ps := ["tree", "first", "second"]) fun _ _ _ _ _ _ us hl => match us, hl with | [_, _, _], _ => rfl⟩
theorem mk_sum_value {f : Addr} {od an : Option Addr} {sl : Array (Option Value)} {oc kV dc pm cd ct : Value} (X : K.In h) (G : h.Ns mainGlobals mg) (a : PySem.W.nsIn K mainGlobals "sum_value" = some (some (.ref f))) (l : K.lookup f = some ⟨oc, od, .func (PySem.W.fnOf "sum_value" "sum_value" (defArgs sSumValue) (defBody sSumValue) (defScope sSumValue) .none kV dc pm an cd ct), sl⟩) (c : PySem.W.codeIn K cd "sum_value" = true) (k : PySem.W.keepIn K (.ref f) = true) : Def K mg "sum_value" sSumValue ["tree", "names", "arguments"] :=
  ⟨f, _, fun_mk l c k, PySem.W.mg_of X G a, (fun_mk (st := sSumValue) l c k).binds (ps := ["tree", "names", "arguments"]) fun _ _ _ _ _ _ us hl => match us, hl with | [_, _, _], _ => rfl⟩
theorem mk_worked_out {f : Addr} {od an : Option Addr} {sl : Array (Option Value)} {oc kV dc pm cd ct : Value} (X : K.In h) (G : h.Ns mainGlobals mg) (a : PySem.W.nsIn K mainGlobals "worked_out" = some (some (.ref f))) (l : K.lookup f = some ⟨oc, od, .func (PySem.W.fnOf "worked_out" "worked_out" (defArgs sWorkedOut) (defBody sWorkedOut) (defScope sWorkedOut) .none kV dc pm an cd ct), sl⟩) (c : PySem.W.codeIn K cd "worked_out" = true) (k : PySem.W.keepIn K (.ref f) = true) : Def K mg "worked_out" sWorkedOut ["tree", "names", "arguments"] :=
  ⟨f, _, fun_mk l c k, PySem.W.mg_of X G a, (fun_mk (st := sWorkedOut) l c k).binds (ps := ["tree", "names", "arguments"]) fun _ _ _ _ _ _ us hl => match us, hl with | [_, _, _], _ => rfl⟩
theorem mk_names_within {f : Addr} {od an : Option Addr} {sl : Array (Option Value)} {oc kV dc pm cd ct : Value} (X : K.In h) (G : h.Ns mainGlobals mg) (a : PySem.W.nsIn K mainGlobals "names_within" = some (some (.ref f))) (l : K.lookup f = some ⟨oc, od, .func (PySem.W.fnOf "names_within" "names_within" (defArgs sNamesWithin) (defBody sNamesWithin) (defScope sNamesWithin) .none kV dc pm an cd ct), sl⟩) (c : PySem.W.codeIn K cd "names_within" = true) (k : PySem.W.keepIn K (.ref f) = true) : Def K mg "names_within" sNamesWithin ["tree"] :=
  ⟨f, _, fun_mk l c k, PySem.W.mg_of X G a, (fun_mk (st := sNamesWithin) l c k).binds (ps := ["tree"]) fun _ _ _ _ _ _ us hl => match us, hl with | [_], _ => rfl⟩
theorem mk_names_in {f : Addr} {od an : Option Addr} {sl : Array (Option Value)} {oc kV dc pm cd ct : Value} (X : K.In h) (G : h.Ns mainGlobals mg) (a : PySem.W.nsIn K mainGlobals "names_in" = some (some (.ref f))) (l : K.lookup f = some ⟨oc, od, .func (PySem.W.fnOf "names_in" "names_in" (defArgs sNamesIn) (defBody sNamesIn) (defScope sNamesIn) .none kV dc pm an cd ct), sl⟩) (c : PySem.W.codeIn K cd "names_in" = true) (k : PySem.W.keepIn K (.ref f) = true) : Def K mg "names_in" sNamesIn ["tree"] :=
  ⟨f, _, fun_mk l c k, PySem.W.mg_of X G a, (fun_mk (st := sNamesIn) l c k).binds (ps := ["tree"]) fun _ _ _ _ _ _ us hl => match us, hl with | [_], _ => rfl⟩
theorem mk_steady_number {f : Addr} {od an : Option Addr} {sl : Array (Option Value)} {oc kV dc pm cd ct : Value} (X : K.In h) (G : h.Ns mainGlobals mg) (a : PySem.W.nsIn K mainGlobals "steady_number" = some (some (.ref f))) (l : K.lookup f = some ⟨oc, od, .func (PySem.W.fnOf "steady_number" "steady_number" (defArgs sSteady) (defBody sSteady) (defScope sSteady) .none kV dc pm an cd ct), sl⟩) (c : PySem.W.codeIn K cd "steady_number" = true) (k : PySem.W.keepIn K (.ref f) = true) : Def K mg "steady_number" sSteady ["tree"] :=
  ⟨f, _, fun_mk l c k, PySem.W.mg_of X G a, (fun_mk (st := sSteady) l c k).binds (ps := ["tree"]) fun _ _ _ _ _ _ us hl => match us, hl with | [_], _ => rfl⟩
theorem mk_number_tree {f : Addr} {od an : Option Addr} {sl : Array (Option Value)} {oc kV dc pm cd ct : Value} (X : K.In h) (G : h.Ns mainGlobals mg) (a : PySem.W.nsIn K mainGlobals "number_tree" = some (some (.ref f))) (l : K.lookup f = some ⟨oc, od, .func (PySem.W.fnOf "number_tree" "number_tree" (defArgs sNumberTree) (defBody sNumberTree) (defScope sNumberTree) .none kV dc pm an cd ct), sl⟩) (c : PySem.W.codeIn K cd "number_tree" = true) (k : PySem.W.keepIn K (.ref f) = true) : Def K mg "number_tree" sNumberTree ["number"] :=
  ⟨f, _, fun_mk l c k, PySem.W.mg_of X G a, (fun_mk (st := sNumberTree) l c k).binds (ps := ["number"]) fun _ _ _ _ _ _ us hl => match us, hl with | [_], _ => rfl⟩
theorem mk_fold {f : Addr} {od an : Option Addr} {sl : Array (Option Value)} {oc kV dc pm cd ct : Value} (X : K.In h) (G : h.Ns mainGlobals mg) (a : PySem.W.nsIn K mainGlobals "fold" = some (some (.ref f))) (l : K.lookup f = some ⟨oc, od, .func (PySem.W.fnOf "fold" "fold" (defArgs sFold) (defBody sFold) (defScope sFold) .none kV dc pm an cd ct), sl⟩) (c : PySem.W.codeIn K cd "fold" = true) (k : PySem.W.keepIn K (.ref f) = true) : Def K mg "fold" sFold ["tree"] :=
  ⟨f, _, fun_mk l c k, PySem.W.mg_of X G a, (fun_mk (st := sFold) l c k).binds (ps := ["tree"]) fun _ _ _ _ _ _ us hl => match us, hl with | [_], _ => rfl⟩
theorem mk_folded {f : Addr} {od an : Option Addr} {sl : Array (Option Value)} {oc kV dc pm cd ct : Value} (X : K.In h) (G : h.Ns mainGlobals mg) (a : PySem.W.nsIn K mainGlobals "folded" = some (some (.ref f))) (l : K.lookup f = some ⟨oc, od, .func (PySem.W.fnOf "folded" "folded" (defArgs sFolded) (defBody sFolded) (defScope sFolded) .none kV dc pm an cd ct), sl⟩) (c : PySem.W.codeIn K cd "folded" = true) (k : PySem.W.keepIn K (.ref f) = true) : Def K mg "folded" sFolded ["tree"] :=
  ⟨f, _, fun_mk l c k, PySem.W.mg_of X G a, (fun_mk (st := sFolded) l c k).binds (ps := ["tree"]) fun _ _ _ _ _ _ us hl => match us, hl with | [_], _ => rfl⟩
theorem mk__law_integer {f : Addr} {od an : Option Addr} {sl : Array (Option Value)} {oc kV dc pm cd ct : Value} (X : K.In h) (G : h.Ns mainGlobals mg) (a : PySem.W.nsIn K mainGlobals "_law_integer" = some (some (.ref f))) (l : K.lookup f = some ⟨oc, od, .func (PySem.W.fnOf "_law_integer" "_law_integer" (defArgs sLInteger) (defBody sLInteger) (defScope sLInteger) .none kV dc pm an cd ct), sl⟩) (c : PySem.W.codeIn K cd "_law_integer" = true) (k : PySem.W.keepIn K (.ref f) = true) : Def K mg "_law_integer" sLInteger ["_law_shown_here"] :=
  ⟨f, _, fun_mk l c k, PySem.W.mg_of X G a, (fun_mk (st := sLInteger) l c k).binds (ps := ["_law_shown_here"]) fun _ _ _ _ _ _ us hl => match us, hl with | [_], _ => rfl⟩
theorem mk__law_held {f : Addr} {od an : Option Addr} {sl : Array (Option Value)} {oc kV dc pm cd ct : Value} (X : K.In h) (G : h.Ns mainGlobals mg) (a : PySem.W.nsIn K mainGlobals "_law_held" = some (some (.ref f))) (l : K.lookup f = some ⟨oc, od, .func (PySem.W.fnOf "_law_held" "_law_held" (defArgs sLHeld) (defBody sLHeld) (defScope sLHeld) .none kV dc pm an cd ct), sl⟩) (c : PySem.W.codeIn K cd "_law_held" = true) (k : PySem.W.keepIn K (.ref f) = true) : Def K mg "_law_held" sLHeld ["_law_word", "_law_book_here", "_law_given"] :=
  ⟨f, _, fun_mk l c k, PySem.W.mg_of X G a, (fun_mk (st := sLHeld) l c k).binds (ps := ["_law_word", "_law_book_here", "_law_given"]) fun _ _ _ _ _ _ us hl => match us, hl with | [_, _, _], _ => rfl⟩
theorem mk__law_joined {f : Addr} {od an : Option Addr} {sl : Array (Option Value)} {oc kV dc pm cd ct : Value} (X : K.In h) (G : h.Ns mainGlobals mg) (a : PySem.W.nsIn K mainGlobals "_law_joined" = some (some (.ref f))) (l : K.lookup f = some ⟨oc, od, .func (PySem.W.fnOf "_law_joined" "_law_joined" (defArgs sLJoined) (defBody sLJoined) (defScope sLJoined) .none kV dc pm an cd ct), sl⟩) (c : PySem.W.codeIn K cd "_law_joined" = true) (k : PySem.W.keepIn K (.ref f) = true) : Def K mg "_law_joined" sLJoined ["_law_node", "_law_first", "_law_second"] :=
  ⟨f, _, fun_mk l c k, PySem.W.mg_of X G a, (fun_mk (st := sLJoined) l c k).binds (ps := ["_law_node", "_law_first", "_law_second"]) fun _ _ _ _ _ _ us hl => match us, hl with | [_, _, _], _ => rfl⟩
theorem mk__law_value {f : Addr} {od an : Option Addr} {sl : Array (Option Value)} {oc kV dc pm cd ct : Value} (X : K.In h) (G : h.Ns mainGlobals mg) (a : PySem.W.nsIn K mainGlobals "_law_value" = some (some (.ref f))) (l : K.lookup f = some ⟨oc, od, .func (PySem.W.fnOf "_law_value" "_law_value" (defArgs sLValue) (defBody sLValue) (defScope sLValue) .none kV dc pm an cd ct), sl⟩) (c : PySem.W.codeIn K cd "_law_value" = true) (k : PySem.W.keepIn K (.ref f) = true) : Def K mg "_law_value" sLValue ["_law_node", "_law_book_here", "_law_given"] :=
  ⟨f, _, fun_mk l c k, PySem.W.mg_of X G a, (fun_mk (st := sLValue) l c k).binds (ps := ["_law_node", "_law_book_here", "_law_given"]) fun _ _ _ _ _ _ us hl => match us, hl with | [_, _, _], _ => rfl⟩
theorem mk__law_number {f : Addr} {od an : Option Addr} {sl : Array (Option Value)} {oc kV dc pm cd ct : Value} (X : K.In h) (G : h.Ns mainGlobals mg) (a : PySem.W.nsIn K mainGlobals "_law_number" = some (some (.ref f))) (l : K.lookup f = some ⟨oc, od, .func (PySem.W.fnOf "_law_number" "_law_number" (defArgs sLNumber) (defBody sLNumber) (defScope sLNumber) .none kV dc pm an cd ct), sl⟩) (c : PySem.W.codeIn K cd "_law_number" = true) (k : PySem.W.keepIn K (.ref f) = true) : Def K mg "_law_number" sLNumber ["_law_node"] :=
  ⟨f, _, fun_mk l c k, PySem.W.mg_of X G a, (fun_mk (st := sLNumber) l c k).binds (ps := ["_law_node"]) fun _ _ _ _ _ _ us hl => match us, hl with | [_], _ => rfl⟩
theorem mk__law_settled {f : Addr} {od an : Option Addr} {sl : Array (Option Value)} {oc kV dc pm cd ct : Value} (X : K.In h) (G : h.Ns mainGlobals mg) (a : PySem.W.nsIn K mainGlobals "_law_settled" = some (some (.ref f))) (l : K.lookup f = some ⟨oc, od, .func (PySem.W.fnOf "_law_settled" "_law_settled" (defArgs sLSettled) (defBody sLSettled) (defScope sLSettled) .none kV dc pm an cd ct), sl⟩) (c : PySem.W.codeIn K cd "_law_settled" = true) (k : PySem.W.keepIn K (.ref f) = true) : Def K mg "_law_settled" sLSettled ["_law_node"] :=
  ⟨f, _, fun_mk l c k, PySem.W.mg_of X G a, (fun_mk (st := sLSettled) l c k).binds (ps := ["_law_node"]) fun _ _ _ _ _ _ us hl => match us, hl with | [_], _ => rfl⟩
theorem mk__law_folded {f : Addr} {od an : Option Addr} {sl : Array (Option Value)} {oc kV dc pm cd ct : Value} (X : K.In h) (G : h.Ns mainGlobals mg) (a : PySem.W.nsIn K mainGlobals "_law_folded" = some (some (.ref f))) (l : K.lookup f = some ⟨oc, od, .func (PySem.W.fnOf "_law_folded" "_law_folded" (defArgs sLFolded) (defBody sLFolded) (defScope sLFolded) .none kV dc pm an cd ct), sl⟩) (c : PySem.W.codeIn K cd "_law_folded" = true) (k : PySem.W.keepIn K (.ref f) = true) : Def K mg "_law_folded" sLFolded ["_law_node"] :=
  ⟨f, _, fun_mk l c k, PySem.W.mg_of X G a, (fun_mk (st := sLFolded) l c k).binds (ps := ["_law_node"]) fun _ _ _ _ _ _ us hl => match us, hl with | [_], _ => rfl⟩
theorem mk__law_due {f : Addr} {od an : Option Addr} {sl : Array (Option Value)} {oc kV dc pm cd ct : Value} (X : K.In h) (G : h.Ns mainGlobals mg) (a : PySem.W.nsIn K mainGlobals "_law_due" = some (some (.ref f))) (l : K.lookup f = some ⟨oc, od, .func (PySem.W.fnOf "_law_due" "_law_due" (defArgs sLDue) (defBody sLDue) (defScope sLDue) .none kV dc pm an cd ct), sl⟩) (c : PySem.W.codeIn K cd "_law_due" = true) (k : PySem.W.keepIn K (.ref f) = true) : Def K mg "_law_due" sLDue ["_law_node", "_law_book_here", "_law_given"] :=
  ⟨f, _, fun_mk l c k, PySem.W.mg_of X G a, (fun_mk (st := sLDue) l c k).binds (ps := ["_law_node", "_law_book_here", "_law_given"]) fun _ _ _ _ _ _ us hl => match us, hl with | [_, _, _], _ => rfl⟩
theorem mk__law_kind {f : Addr} {od an : Option Addr} {sl : Array (Option Value)} {oc kV dc pm cd ct : Value} (X : K.In h) (G : h.Ns mainGlobals mg) (a : PySem.W.nsIn K mainGlobals "_law_kind" = some (some (.ref f))) (l : K.lookup f = some ⟨oc, od, .func (PySem.W.fnOf "_law_kind" "_law_kind" (defArgs sLKind) (defBody sLKind) (defScope sLKind) .none kV dc pm an cd ct), sl⟩) (c : PySem.W.codeIn K cd "_law_kind" = true) (k : PySem.W.keepIn K (.ref f) = true) : Def K mg "_law_kind" sLKind ["_law_caught"] :=
  ⟨f, _, fun_mk l c k, PySem.W.mg_of X G a, (fun_mk (st := sLKind) l c k).binds (ps := ["_law_caught"]) fun _ _ _ _ _ _ us hl => match us, hl with | [_], _ => rfl⟩
theorem mk__law_answer {f : Addr} {od an : Option Addr} {sl : Array (Option Value)} {oc kV dc pm cd ct : Value} (X : K.In h) (G : h.Ns mainGlobals mg) (a : PySem.W.nsIn K mainGlobals "_law_answer" = some (some (.ref f))) (l : K.lookup f = some ⟨oc, od, .func (PySem.W.fnOf "_law_answer" "_law_answer" (defArgs sLAnswer) (defBody sLAnswer) (defScope sLAnswer) .none kV dc pm an cd ct), sl⟩) (c : PySem.W.codeIn K cd "_law_answer" = true) (k : PySem.W.keepIn K (.ref f) = true) : Def K mg "_law_answer" sLAnswer ["_law_node", "_law_book_here", "_law_given"] :=
  ⟨f, _, fun_mk l c k, PySem.W.mg_of X G a, (fun_mk (st := sLAnswer) l c k).binds (ps := ["_law_node", "_law_book_here", "_law_given"]) fun _ _ _ _ _ _ us hl => match us, hl with | [_, _, _], _ => rfl⟩
theorem mk__law_same {f : Addr} {od an : Option Addr} {sl : Array (Option Value)} {oc kV dc pm cd ct : Value} (X : K.In h) (G : h.Ns mainGlobals mg) (a : PySem.W.nsIn K mainGlobals "_law_same" = some (some (.ref f))) (l : K.lookup f = some ⟨oc, od, .func (PySem.W.fnOf "_law_same" "_law_same" (defArgs sLSame) (defBody sLSame) (defScope sLSame) .none kV dc pm an cd ct), sl⟩) (c : PySem.W.codeIn K cd "_law_same" = true) (k : PySem.W.keepIn K (.ref f) = true) : Def K mg "_law_same" sLSame ["_law_found", "_law_due_here"] :=
  ⟨f, _, fun_mk l c k, PySem.W.mg_of X G a, (fun_mk (st := sLSame) l c k).binds (ps := ["_law_found", "_law_due_here"]) fun _ _ _ _ _ _ us hl => match us, hl with | [_, _], _ => rfl⟩
theorem mk__law_purse {f : Addr} {od an : Option Addr} {sl : Array (Option Value)} {oc kV dc pm cd ct : Value} (X : K.In h) (G : h.Ns mainGlobals mg) (a : PySem.W.nsIn K mainGlobals "_law_purse" = some (some (.ref f))) (l : K.lookup f = some ⟨oc, od, .func (PySem.W.fnOf "_law_purse" "_law_purse" (defArgs sLPurse) (defBody sLPurse) (defScope sLPurse) .none kV dc pm an cd ct), sl⟩) (c : PySem.W.codeIn K cd "_law_purse" = true) (k : PySem.W.keepIn K (.ref f) = true) : Def K mg "_law_purse" sLPurse ["_law_script", "_law_at"] :=
  ⟨f, _, fun_mk l c k, PySem.W.mg_of X G a, (fun_mk (st := sLPurse) l c k).binds (ps := ["_law_script", "_law_at"]) fun _ _ _ _ _ _ us hl => match us, hl with | [_, _], _ => rfl⟩
theorem mk__law_coin {f : Addr} {od an : Option Addr} {sl : Array (Option Value)} {oc kV dc pm cd ct : Value} (X : K.In h) (G : h.Ns mainGlobals mg) (a : PySem.W.nsIn K mainGlobals "_law_coin" = some (some (.ref f))) (l : K.lookup f = some ⟨oc, od, .func (PySem.W.fnOf "_law_coin" "_law_coin" (defArgs sLCoin) (defBody sLCoin) (defScope sLCoin) .none kV dc pm an cd ct), sl⟩) (c : PySem.W.codeIn K cd "_law_coin" = true) (k : PySem.W.keepIn K (.ref f) = true) : Def K mg "_law_coin" sLCoin ["_law_purse_here", "_law_many"] :=
  ⟨f, _, fun_mk l c k, PySem.W.mg_of X G a, (fun_mk (st := sLCoin) l c k).binds (ps := ["_law_purse_here", "_law_many"]) fun _ _ _ _ _ _ us hl => match us, hl with | [_, _], _ => rfl⟩
theorem mk__law_words {f : Addr} {od an : Option Addr} {sl : Array (Option Value)} {oc kV dc pm cd ct : Value} (X : K.In h) (G : h.Ns mainGlobals mg) (a : PySem.W.nsIn K mainGlobals "_law_words" = some (some (.ref f))) (l : K.lookup f = some ⟨oc, od, .func (PySem.W.fnOf "_law_words" "_law_words" (defArgs sLWords) (defBody sLWords) (defScope sLWords) .none kV dc pm an cd ct), sl⟩) (c : PySem.W.codeIn K cd "_law_words" = true) (k : PySem.W.keepIn K (.ref f) = true) : Def K mg "_law_words" sLWords ["_law_purse_here"] :=
  ⟨f, _, fun_mk l c k, PySem.W.mg_of X G a, (fun_mk (st := sLWords) l c k).binds (ps := ["_law_purse_here"]) fun _ _ _ _ _ _ us hl => match us, hl with | [_], _ => rfl⟩
theorem mk__law_shown {f : Addr} {od an : Option Addr} {sl : Array (Option Value)} {oc kV dc pm cd ct : Value} (X : K.In h) (G : h.Ns mainGlobals mg) (a : PySem.W.nsIn K mainGlobals "_law_shown" = some (some (.ref f))) (l : K.lookup f = some ⟨oc, od, .func (PySem.W.fnOf "_law_shown" "_law_shown" (defArgs sLShown) (defBody sLShown) (defScope sLShown) .none kV dc pm an cd ct), sl⟩) (c : PySem.W.codeIn K cd "_law_shown" = true) (k : PySem.W.keepIn K (.ref f) = true) : Def K mg "_law_shown" sLShown ["_law_purse_here"] :=
  ⟨f, _, fun_mk l c k, PySem.W.mg_of X G a, (fun_mk (st := sLShown) l c k).binds (ps := ["_law_purse_here"]) fun _ _ _ _ _ _ us hl => match us, hl with | [_], _ => rfl⟩
theorem mk__law_book {f : Addr} {od an : Option Addr} {sl : Array (Option Value)} {oc kV dc pm cd ct : Value} (X : K.In h) (G : h.Ns mainGlobals mg) (a : PySem.W.nsIn K mainGlobals "_law_book" = some (some (.ref f))) (l : K.lookup f = some ⟨oc, od, .func (PySem.W.fnOf "_law_book" "_law_book" (defArgs sLBook) (defBody sLBook) (defScope sLBook) .none kV dc pm an cd ct), sl⟩) (c : PySem.W.codeIn K cd "_law_book" = true) (k : PySem.W.keepIn K (.ref f) = true) : Def K mg "_law_book" sLBook ["_law_purse_here", "_law_words_here"] :=
  ⟨f, _, fun_mk l c k, PySem.W.mg_of X G a, (fun_mk (st := sLBook) l c k).binds (ps := ["_law_purse_here", "_law_words_here"]) fun _ _ _ _ _ _ us hl => match us, hl with | [_, _], _ => rfl⟩
theorem mk__law_leaf {f : Addr} {od an : Option Addr} {sl : Array (Option Value)} {oc kV dc pm cd ct : Value} (X : K.In h) (G : h.Ns mainGlobals mg) (a : PySem.W.nsIn K mainGlobals "_law_leaf" = some (some (.ref f))) (l : K.lookup f = some ⟨oc, od, .func (PySem.W.fnOf "_law_leaf" "_law_leaf" (defArgs sLLeaf) (defBody sLLeaf) (defScope sLLeaf) .none kV dc pm an cd ct), sl⟩) (c : PySem.W.codeIn K cd "_law_leaf" = true) (k : PySem.W.keepIn K (.ref f) = true) : Def K mg "_law_leaf" sLLeaf ["_law_purse_here", "_law_words_here"] :=
  ⟨f, _, fun_mk l c k, PySem.W.mg_of X G a, (fun_mk (st := sLLeaf) l c k).binds (ps := ["_law_purse_here", "_law_words_here"]) fun _ _ _ _ _ _ us hl => match us, hl with | [_, _], _ => rfl⟩
theorem mk__law_sum {f : Addr} {od an : Option Addr} {sl : Array (Option Value)} {oc kV dc pm cd ct : Value} (X : K.In h) (G : h.Ns mainGlobals mg) (a : PySem.W.nsIn K mainGlobals "_law_sum" = some (some (.ref f))) (l : K.lookup f = some ⟨oc, od, .func (PySem.W.fnOf "_law_sum" "_law_sum" (defArgs sLSum) (defBody sLSum) (defScope sLSum) .none kV dc pm an cd ct), sl⟩) (c : PySem.W.codeIn K cd "_law_sum" = true) (k : PySem.W.keepIn K (.ref f) = true) : Def K mg "_law_sum" sLSum ["_law_purse_here", "_law_pool", "_law_words_here", "_law_most"] :=
  ⟨f, _, fun_mk l c k, PySem.W.mg_of X G a, (fun_mk (st := sLSum) l c k).binds (ps := ["_law_purse_here", "_law_pool", "_law_words_here", "_law_most"]) fun _ _ _ _ _ _ us hl => match us, hl with | [_, _, _, _], _ => rfl⟩
theorem mk_is_integer {f : Addr} {od an : Option Addr} {sl : Array (Option Value)} {oc kV dc pm cd ct : Value} (X : K.In h) (G : h.Ns mainGlobals mg) (a : PySem.W.nsIn K mainGlobals "is_integer" = some (some (.ref f))) (l : K.lookup f = some ⟨oc, od, .func (PySem.W.fnOf "is_integer" "is_integer" (defArgs sIsInteger) (defBody sIsInteger) (defScope sIsInteger) .none kV dc pm an cd ct), sl⟩) (c : PySem.W.codeIn K cd "is_integer" = true) (k : PySem.W.keepIn K (.ref f) = true) : Def K mg "is_integer" sIsInteger ["thing"] :=
  ⟨f, _, fun_mk l c k, PySem.W.mg_of X G a, (fun_mk (st := sIsInteger) l c k).binds (ps := ["thing"]) fun _ _ _ _ _ _ us hl => match us, hl with | [_], _ => rfl⟩
theorem mk_has_signs {f : Addr} {od an : Option Addr} {sl : Array (Option Value)} {oc kV dc pm cd ct : Value} (X : K.In h) (G : h.Ns mainGlobals mg) (a : PySem.W.nsIn K mainGlobals "has_signs" = some (some (.ref f))) (l : K.lookup f = some ⟨oc, od, .func (PySem.W.fnOf "has_signs" "has_signs" (defArgs sHasSigns) (defBody sHasSigns) (defScope sHasSigns) .none kV dc pm an cd ct), sl⟩) (c : PySem.W.codeIn K cd "has_signs" = true) (k : PySem.W.keepIn K (.ref f) = true) : Def K mg "has_signs" sHasSigns ["text", "signs"] :=
  ⟨f, _, fun_mk l c k, PySem.W.mg_of X G a, (fun_mk (st := sHasSigns) l c k).binds (ps := ["text", "signs"]) fun _ _ _ _ _ _ us hl => match us, hl with | [_, _], _ => rfl⟩
theorem mk_law {f : Addr} {od an : Option Addr} {sl : Array (Option Value)} {oc kV dc pm cd ct : Value} (X : K.In h) (G : h.Ns mainGlobals mg) (a : PySem.W.nsIn K mainGlobals "law" = some (some (.ref f))) (l : K.lookup f = some ⟨oc, od, .func (PySem.W.fnOf "law" "law" (defArgs sLaw) (defBody sLaw) (defScope sLaw) .none kV dc pm an cd ct), sl⟩) (c : PySem.W.codeIn K cd "law" = true) (k : PySem.W.keepIn K (.ref f) = true) : Def K mg "law" sLaw ["_law_script"] :=
  ⟨f, _, fun_mk l c k, PySem.W.mg_of X G a, (fun_mk (st := sLaw) l c k).binds (ps := ["_law_script"]) fun _ _ _ _ _ _ us hl => match us, hl with | [_], _ => rfl⟩
theorem bt_mk (X : K.In h) (G : h.Ns mainGlobals mg) (z_isinstance : PySem.W.nsIn K mainGlobals "isinstance" = some none) (z_list : PySem.W.nsIn K mainGlobals "list" = some none) (z_tuple : PySem.W.nsIn K mainGlobals "tuple" = some none) (z_dict : PySem.W.nsIn K mainGlobals "dict" = some none) (z_int : PySem.W.nsIn K mainGlobals "int" = some none) (z_bool : PySem.W.nsIn K mainGlobals "bool" = some none) (z_str : PySem.W.nsIn K mainGlobals "str" = some none) (z_all : PySem.W.nsIn K mainGlobals "all" = some none) (z_len : PySem.W.nsIn K mainGlobals "len" = some none) (z_enumerate : PySem.W.nsIn K mainGlobals "enumerate" = some none) (z_abs : PySem.W.nsIn K mainGlobals "abs" = some none) (z_max : PySem.W.nsIn K mainGlobals "max" = some none) (z_min : PySem.W.nsIn K mainGlobals "min" = some none) (z_sorted : PySem.W.nsIn K mainGlobals "sorted" = some none) (z_set : PySem.W.nsIn K mainGlobals "set" = some none) (z_range : PySem.W.nsIn K mainGlobals "range" = some none) (z_sum : PySem.W.nsIn K mainGlobals "sum" = some none) (z_valueError : PySem.W.nsIn K mainGlobals "ValueError" = some none) : Bt mg :=
  { isinstance := PySem.W.mg_none_of X G z_isinstance, list := PySem.W.mg_none_of X G z_list, tuple := PySem.W.mg_none_of X G z_tuple, dict := PySem.W.mg_none_of X G z_dict, int := PySem.W.mg_none_of X G z_int, bool := PySem.W.mg_none_of X G z_bool, str := PySem.W.mg_none_of X G z_str, all := PySem.W.mg_none_of X G z_all, len := PySem.W.mg_none_of X G z_len, enumerate := PySem.W.mg_none_of X G z_enumerate, abs := PySem.W.mg_none_of X G z_abs, max := PySem.W.mg_none_of X G z_max, min := PySem.W.mg_none_of X G z_min, sorted := PySem.W.mg_none_of X G z_sorted, set := PySem.W.mg_none_of X G z_set, range := PySem.W.mg_none_of X G z_range, sum := PySem.W.mg_none_of X G z_sum, valueError := PySem.W.mg_none_of X G z_valueError }
theorem cs_mk {t1 t2 t3 t4 : Tok} (X : K.In h) (G : h.Ns mainGlobals mg) (c_let_ : PySem.W.nsIn K mainGlobals "LETTERS" = some (some (.str LET t1))) (c_sig : PySem.W.nsIn K mainGlobals "NAME_SIGNS" = some (some (.str SIG t2))) (c_dig : PySem.W.nsIn K mainGlobals "DIGITS" = some (some (.str DIG t3))) (c_most : PySem.W.nsIn K mainGlobals "MOST_FIGURES" = some (some (.int 40 t4))) : Cs mg :=
  { let_ := ⟨_, PySem.W.mg_of X G c_let_⟩, sig := ⟨_, PySem.W.mg_of X G c_sig⟩, dig := ⟨_, PySem.W.mg_of X G c_dig⟩, most := ⟨_, PySem.W.mg_of X G c_most⟩ }
theorem vals_size {xs : List V} {its : Array Value} (r : Vals xs its.toList) (h : xs.length ≤ 100) : its.size ≤ sizeLine := by
  have := r.length
  rw [sizeLine_eq]
  have e : its.toList.length = its.size := by simp
  omega
theorem rk_mk {r a0 a1 a2 a3 a4 a5 : Addr} {dr d0 d1 d2 d3 d4 d5 : Option Addr} {ir i0 i1 i2 i3 i4 i5 : Array Value} {nr n0 n1 n2 n3 n4 n5 : Nat} {sr s0 s1 s2 s3 s4 s5 : Array (Option Value)} (X : K.In h) (G : h.Ns mainGlobals mg) (g : PySem.W.nsIn K mainGlobals "RANKED" = some (some (.ref r))) (lr : K.lookup r = some ⟨.type "tuple", dr, .seq ir nr, sr⟩) (er : Vals ([a0, a1, a2, a3, a4, a5].map V.ref) ir.toList) (l0 : K.lookup a0 = some ⟨.type "tuple", d0, .seq i0 n0, s0⟩) (e0 : Vals ((["||"] : List Str).map V.str) i0.toList) (l1 : K.lookup a1 = some ⟨.type "tuple", d1, .seq i1 n1, s1⟩) (e1 : Vals ((["&&"] : List Str).map V.str) i1.toList) (l2 : K.lookup a2 = some ⟨.type "tuple", d2, .seq i2 n2, s2⟩) (e2 : Vals ((["==", "!="] : List Str).map V.str) i2.toList) (l3 : K.lookup a3 = some ⟨.type "tuple", d3, .seq i3 n3, s3⟩) (e3 : Vals ((["<", "<=", ">", ">="] : List Str).map V.str) i3.toList) (l4 : K.lookup a4 = some ⟨.type "tuple", d4, .seq i4 n4, s4⟩) (e4 : Vals ((["+", "-"] : List Str).map V.str) i4.toList) (l5 : K.lookup a5 = some ⟨.type "tuple", d5, .seq i5 n5, s5⟩) (e5 : Vals ((["*", "/", "^"] : List Str).map V.str) i5.toList) : Rk K mg := by
  refine ⟨r, [a0, a1, a2, a3, a4, a5], PySem.W.mg_of X G g, rfl, ⟨_, ir, nr, lr, rfl, rfl, vals_size er (by simp), er⟩, fun i a ha => ?_⟩
  match i, ha with
  | 0, ha => cases ha; exact ⟨_, rfl, ⟨_, i0, n0, l0, rfl, rfl, vals_size e0 (by simp), e0⟩⟩
  | 1, ha => cases ha; exact ⟨_, rfl, ⟨_, i1, n1, l1, rfl, rfl, vals_size e1 (by simp), e1⟩⟩
  | 2, ha => cases ha; exact ⟨_, rfl, ⟨_, i2, n2, l2, rfl, rfl, vals_size e2 (by simp), e2⟩⟩
  | 3, ha => cases ha; exact ⟨_, rfl, ⟨_, i3, n3, l3, rfl, rfl, vals_size e3 (by simp), e3⟩⟩
  | 4, ha => cases ha; exact ⟨_, rfl, ⟨_, i4, n4, l4, rfl, rfl, vals_size e4 (by simp), e4⟩⟩
  | 5, ha => cases ha; exact ⟨_, rfl, ⟨_, i5, n5, l5, rfl, rfl, vals_size e5 (by simp), e5⟩⟩
  | i + 6, ha => simp at ha
theorem err_mk {P : Program} {x : Str} {C D fI cc cd N : Addr} {nm q : Str} {bs bm : List Value} {sn : List Str} {sub0 : List Value} {ab : Bool} {col : Option Bool} {dd : Option Addr} {m0 m1 m2 m3 m5 : Option Value} {oc kV doc pm ct : Value} {od an : Option Addr} {osl : Array (Option Value)} {ccl : Value} {cdd : Option Addr} {vs : Array Value} {ccs : Array (Option Value)} {file : Str} {tf : Tok} {cl : Value} {cld : Option Addr} {csl : Array (Option Value)} (X : K.In h) (G : h.Ns mainGlobals mg)
    (gC : PySem.W.nsIn K mainGlobals x = some (some (.ref C))) (xL : K.lookup C = some (excClassObj nm q C N bs bm true sn sub0 ab col dd m0 m1 m2 m3 m5 "ValueError.__new__")) (rv : PySem.HandSPX.refsVE bm = true)
    (sa : PySem.W.findIn K (.ref C) "__setattr__" = some (some (.builtin "object.__setattr__"))) (ga : PySem.W.findIn K (.ref C) "__getattribute__" = some (some (.builtin "BaseException.__getattribute__"))) (gg : PySem.W.findIn K (.ref C) "__getattr__" = some none) (noV : PySem.W.findIn K (.ref C) "value" = some none) (iC : PySem.W.findIn K (.ref C) "__init__" = some (some (.ref fI))) (tC : PySem.W.typeIn K (.ref fI) = some (.type "function")) (kC : PySem.W.keepIn K (.ref C) = true) (exC : PySem.W.subIn K (.ref C) (.type "BaseException") = some true) (vaC : PySem.W.subIn K (.ref C) (.type "ValueError") = some true) (tyC : PySem.W.typeIn K (.ref C) = some (.type "type")) (hdC : PySem.W.hasDictIn K C = true)
    (fL : K.lookup fI = some ⟨oc, od, .func (PySem.W.ksFn "__init__" "ShellError.__init__" PySem.KErr.iA PySem.KErr.iB PySem.KErr.iS .none kV doc pm an (.ref cd) ct cc), osl⟩) (fC : PySem.W.codeIn K (.ref cd) "ShellError.__init__" = true) (cL : K.lookup cd = some ⟨ccl, cdd, .fields vs, ccs⟩) (c2 : vs[2]? = some (.str file tf)) (c3 : ((P.main.file : Str) == file) = true) (ceL : K.lookup cc = some ⟨cl, cld, .cell (some (.ref D)), csl⟩)
    (isD : PySem.W.isClsIn K D = true) (sub : PySem.W.mroIn K C (.ref D) = some true) (next : PySem.W.ks_superIn K C D "__init__" = some (some (.builtin "ValueError.__init__"))) (opq : PySem.W.nsIn K PySem.cStatics "thirdparty.any" = some none) (sup : PySem.W.nsIn K mainGlobals "super" = some none) (top : (P.main.scope.names.lookup ("super" : Str)).isSome = false) : PySem.KErr.Err P K mg x C D fI cc cd :=
  { gC := PySem.W.mg_of X G gC, cls := ⟨_, _, _, _, _, _, _, _, _, _, _, _, _, _, _, xL, rv⟩, sa := sa, ga := ga, gg := gg, noV := noV, iC := iC, tC := tC, kC := kC, exC := exC, vaC := vaC, tyC := tyC, hdC := hdC, isD := isD, sub := sub, next := next, opq := opq, fn := ⟨_, _, _, _, _, _, _, _, fL, fC⟩, code := ⟨_, _, _, _, _, _, cL, c2, c3⟩, cell := ⟨_, _, _, ceL⟩, sup := PySem.W.mg_none_of X G sup, top := top }
theorem kd_mk {CS CI CN CG CZ : Addr} (X : K.In h) (G : h.Ns mainGlobals mg) (gS : PySem.W.nsIn K mainGlobals "ShellError" = some (some (.ref CS))) (gI : PySem.W.nsIn K mainGlobals "InvalidTree" = some (some (.ref CI))) (gN : PySem.W.nsIn K mainGlobals "NoInteger" = some (some (.ref CN))) (gG : PySem.W.nsIn K mainGlobals "TooGreat" = some (some (.ref CG))) (gZ : PySem.W.nsIn K mainGlobals "DividedByZero" = some (some (.ref CZ))) (eN : ErrC K CN) (eG : ErrC K CG) (eZ : ErrC K CZ) (nI : PySem.W.kitOne K (.ref CN) (.ref CI) = some false) (nN : PySem.W.kitOne K (.ref CN) (.ref CN) = some true) (nG : PySem.W.kitOne K (.ref CN) (.ref CG) = some false) (nZ : PySem.W.kitOne K (.ref CN) (.ref CZ) = some false) (gI' : PySem.W.kitOne K (.ref CG) (.ref CI) = some false) (gN' : PySem.W.kitOne K (.ref CG) (.ref CN) = some false) (gG' : PySem.W.kitOne K (.ref CG) (.ref CG) = some true) (gZ' : PySem.W.kitOne K (.ref CG) (.ref CZ) = some false) (zI : PySem.W.kitOne K (.ref CZ) (.ref CI) = some false) (zN : PySem.W.kitOne K (.ref CZ) (.ref CN) = some false) (zG : PySem.W.kitOne K (.ref CZ) (.ref CG) = some false) (zZ : PySem.W.kitOne K (.ref CZ) (.ref CZ) = some true) (nV : PySem.W.kitOne K (.ref CN) (.type "ValueError") = some true) (gV' : PySem.W.kitOne K (.ref CG) (.type "ValueError") = some true) (zV : PySem.W.kitOne K (.ref CZ) (.type "ValueError") = some true) (xN : PySem.W.exmOne K (.ref CN) (.ref CS) = some true) (xG : PySem.W.exmOne K (.ref CG) (.ref CS) = some true) (xZ : PySem.W.exmOne K (.ref CZ) (.ref CS) = some true) : Kd K mg CS CI CN CG CZ :=
  { gS := PySem.W.mg_of X G gS, gI := PySem.W.mg_of X G gI, gN := PySem.W.mg_of X G gN, gG := PySem.W.mg_of X G gG, gZ := PySem.W.mg_of X G gZ, eN := eN, eG := eG, eZ := eZ, nI := nI, nN := nN, nG := nG, nZ := nZ, gI' := gI', gN' := gN', gG' := gG', gZ' := gZ', zI := zI, zN := zN, zG := zG, zZ := zZ, nV := nV, gV' := gV', zV := zV, xN := xN, xG := xG, xZ := xZ }
end
theorem all_mk {P : Program} {w : World} {K : PySem.W.Frag} {h : Heap} {mg : Str → Option Value} {fa f : Addr} {od an : Option Addr} {sl : Array (Option Value)} {oc kV dc pm cdl ct : Value} {D fI cc cd CS CI CN CG CZ : Addr} (X : K.In h) (G : h.Ns mainGlobals mg) (hfa : mg "law" = some (.ref fa))
    (D_is_name : Def K mg "is_name" sIsName ["thing"]) (D_is_place : Def K mg "is_place" sIsPlace ["thing"]) (D_is_name_or_place : Def K mg "is_name_or_place" sIsNameOrPlace ["thing"]) (D_rank_of : Def K mg "rank_of" sRankOf ["sign"]) (D_parts_of_kind : Def K mg "parts_of_kind" sPartsOf ["kind"]) (D_is_sum : Def K mg "is_sum" sIsSum ["tree"]) (D_check_sum : Def K mg "check_sum" sCheckSum ["tree"]) (D_integer_of : Def K mg "integer_of" sIntegerOf ["text"]) (D_value_of : Def K mg "value_of" sValueOf ["name", "names", "arguments"]) (D_bounded : Def K mg "bounded" sBounded ["tree", "number"]) (D_quotient : Def K mg "quotient" sQuotient ["tree", "first", "second"]) (D_compared : Def K mg "compared" sCompared ["sign", "first", "second"]) (D_joined_value : Def K mg "joined_value" sJoinedValue ["tree", "first", "second"]) (D_sum_value : Def K mg "sum_value" sSumValue ["tree", "names", "arguments"]) (D_worked_out : Def K mg "worked_out" sWorkedOut ["tree", "names", "arguments"]) (D_names_within : Def K mg "names_within" sNamesWithin ["tree"]) (D_names_in : Def K mg "names_in" sNamesIn ["tree"]) (D_steady_number : Def K mg "steady_number" sSteady ["tree"]) (D_number_tree : Def K mg "number_tree" sNumberTree ["number"]) (D_fold : Def K mg "fold" sFold ["tree"]) (D_folded : Def K mg "folded" sFolded ["tree"]) (D__law_integer : Def K mg "_law_integer" sLInteger ["_law_shown_here"]) (D__law_held : Def K mg "_law_held" sLHeld ["_law_word", "_law_book_here", "_law_given"]) (D__law_joined : Def K mg "_law_joined" sLJoined ["_law_node", "_law_first", "_law_second"]) (D__law_value : Def K mg "_law_value" sLValue ["_law_node", "_law_book_here", "_law_given"]) (D__law_number : Def K mg "_law_number" sLNumber ["_law_node"]) (D__law_settled : Def K mg "_law_settled" sLSettled ["_law_node"]) (D__law_folded : Def K mg "_law_folded" sLFolded ["_law_node"]) (D__law_due : Def K mg "_law_due" sLDue ["_law_node", "_law_book_here", "_law_given"]) (D__law_kind : Def K mg "_law_kind" sLKind ["_law_caught"]) (D__law_answer : Def K mg "_law_answer" sLAnswer ["_law_node", "_law_book_here", "_law_given"]) (D__law_same : Def K mg "_law_same" sLSame ["_law_found", "_law_due_here"]) (D__law_purse : Def K mg "_law_purse" sLPurse ["_law_script", "_law_at"]) (D__law_coin : Def K mg "_law_coin" sLCoin ["_law_purse_here", "_law_many"]) (D__law_words : Def K mg "_law_words" sLWords ["_law_purse_here"]) (D__law_shown : Def K mg "_law_shown" sLShown ["_law_purse_here"]) (D__law_book : Def K mg "_law_book" sLBook ["_law_purse_here", "_law_words_here"]) (D__law_leaf : Def K mg "_law_leaf" sLLeaf ["_law_purse_here", "_law_words_here"]) (D__law_sum : Def K mg "_law_sum" sLSum ["_law_purse_here", "_law_pool", "_law_words_here", "_law_most"]) (D_is_integer : Def K mg "is_integer" sIsInteger ["thing"]) (D_has_signs : Def K mg "has_signs" sHasSigns ["text", "signs"])
    (BT : Bt mg) (C : Cs mg) (R : Rk K mg) (EN : PySem.KErr.Err P K mg "NoInteger" CN D fI cc cd) (EG : PySem.KErr.Err P K mg "TooGreat" CG D fI cc cd) (EZ : PySem.KErr.Err P K mg "DividedByZero" CZ D fI cc cd) (KD : Kd K mg CS CI CN CG CZ)
    (eG : PySem.W.exmAny K (.ref CG) [.ref CG, .ref CZ] = some true) (eZ : PySem.W.exmAny K (.ref CZ) [.ref CG, .ref CZ] = some true)
    (aL : PySem.W.nsIn K mainGlobals "law" = some (some (.ref f))) (lL : K.lookup f = some ⟨oc, od, .func (PySem.W.fnOf "law" "law" (defArgs sLaw) (defBody sLaw) (defScope sLaw) .none kV dc pm an cdl ct), sl⟩) (cL : PySem.W.codeIn K cdl "law" = true) (kL : PySem.W.keepIn K (.ref f) = true) :
    ∃ fd : FuncData, (∀ (s : Shared) (u : Value), BindsTo s fd ⟨[u], []⟩ [("_law_script", u)]) ∧ ∀ base : Heap, K.In base → base.Ns mainGlobals mg → FnOk P w K mg base CX0 30 fa fd ["_law_script"] (spLaw K) := by
  have e := hfa.symm.trans (PySem.W.mg_of X G aL)
  cases e
  refine ⟨PySem.W.fnOf "law" "law" (defArgs sLaw) (defBody sLaw) (defScope sLaw) .none kV dc pm an cdl ct, fun s v => .of_eq rfl, fun base _ _ => ?_⟩
  have EC : Ec P K mg D fI cc cd CN CG CZ := ⟨EN, EG, EZ⟩
  have c_is_integer := D_is_integer.cal (P := P) (w := w) (base := base) (CX := CX0) fun f fd F => ok_is_integer F BT
  have c_has_signs := D_has_signs.cal (P := P) (w := w) (base := base) (CX := CX0) fun f fd F => ok_has_signs F BT
  have c_is_name := cal_is_name D_is_name BT C c_has_signs
  have c_is_place := cal_is_place D_is_place BT C c_has_signs
  have c_nop := cal_is_name_or_place D_is_name_or_place c_is_name c_is_place
  have c_rank := cal_rank_of (P := P) (w := w) (base := base) D_rank_of BT R
  have c_parts := cal_parts_of D_parts_of_kind c_rank
  have c_sum := cal_is_sum D_is_sum BT c_is_integer c_nop c_parts 12
  have c_check := cal_check_sum D_check_sum c_sum
  have c_int := cal_integer_of D_integer_of BT C EC c_has_signs
  have c_val := cal_value_of (P := P) (w := w) (base := base) D_value_of BT
  have c_bnd := cal_bounded (w := w) (base := base) D_bounded BT EC
  have c_quo := cal_quotient (w := w) (base := base) D_quotient BT EC
  have c_cmp := cal_compared (P := P) (w := w) (base := base) D_compared BT
  have c_join := cal_joined D_joined_value BT c_quo c_cmp
  have c_sv := cal_sum_value D_sum_value BT c_bnd c_int c_val c_join 12
  have c_wo := cal_worked_out D_worked_out c_check c_sv
  have c_nw := cal_names_within (P := P) (w := w) (base := base) D_names_within 12
  have c_ni := cal_names_in D_names_in BT c_check c_nw
  have c_st := cal_steady D_steady_number EC eG eZ c_nw c_sv
  have c_nt := cal_number_tree (P := P) (w := w) (base := base) D_number_tree
  have c_fold := cal_fold D_fold c_st c_nt 12
  have c_fd := cal_foldedK D_folded c_check c_fold
  have l_int := cal_l_integer (P := P) (w := w) (base := base) D__law_integer BT
  have l_held := cal_l_held (P := P) (w := w) (base := base) D__law_held BT
  have l_join := cal_l_joined (P := P) (w := w) (base := base) D__law_joined BT
  have l_val := cal_l_value D__law_value BT l_held l_int l_join 12
  have l_num := cal_l_number (P := P) (w := w) (base := base) D__law_number
  have l_set := cal_l_settled D__law_settled BT l_num l_val
  have l_fold := cal_l_folded D__law_folded BT l_set 12
  have l_due := cal_l_due D__law_due l_val l_fold
  have l_kind := cal_l_kind (P := P) (w := w) (base := base) D__law_kind BT KD
  have l_ans := cal_l_answer D__law_answer KD c_wo l_kind
  have l_same := cal_l_same (P := P) (w := w) (base := base) D__law_same BT 14
  have l_purse := cal_l_purse (P := P) (w := w) (base := base) D__law_purse BT
  have l_coin := cal_l_coin (P := P) (w := w) (base := base) D__law_coin BT
  have l_words := cal_l_words D__law_words BT l_coin
  have l_shown := cal_l_shown D__law_shown BT l_coin
  have l_book := cal_l_book D__law_book BT l_coin l_shown
  have l_leaf := cal_l_leaf D__law_leaf BT l_coin
  have l_sum := cal_l_sum D__law_sum BT l_coin l_leaf
  exact cal_law (mk_law X G aL lL cL kL) BT l_purse l_words l_book l_shown l_coin l_sum c_fd l_same l_fold l_ans l_due c_ni _ _ (fun_mk lL cL kL)
theorem walk {l : PySem.W.OpenLaw} {q : Program} {loose : List Str} {XP : (Str → Option Value) → Heap → Prop} {YP : World → Heap → Prop} {d : DefRec} {K : Params → PySem.W.Frag} (hn : l.most = some 63) (hdf : d.params.defaults = [])
    (hY : ∀ (w : World) (h : Heap), YP w h → (K w.params).In h)
    (F : ∀ (w : World) (mg : Str → Option Value) (fa : Addr) (h : Heap), (K w.params).In h → h.Ns mainGlobals mg → mg d.name = some (.ref fa) →
      ∃ fd : FuncData, (∀ (s : Shared) (u : Value), BindsTo s fd ⟨[u], []⟩ [("_law_script", u)]) ∧ ∀ base : Heap, (K w.params).In base → base.Ns mainGlobals mg → FnOk l.prog w (K w.params) mg base CX0 30 fa fd ["_law_script"] (spLaw (K w.params))) :
    PySem.W.WalkO q loose XP YP l.row.toRowW d [] (fun f vs => PySem.call f vs) :=
  L2.walk_of (n := 63) (k := 30) (x := "_law_script") (CX := fun _ => CX0) (sp := fun w => spLaw (K w.params)) hn (by decide) hdf ⟨rfl, by decide, by decide⟩ hY F (fun _ _ a ns hl _ hS => ⟨a, ns, rfl, hS, hl, fun _ => rfl⟩) fun _ _ _ _ _ z => z
end K19
open PySem PySem.W PyProof.Rows
set_option maxHeartbeats 0 in
theorem PySem.Challenge.cw_quotedback_k19_whole_folded_sums_holds : PySem.Challenge.rw_quotedback_k19_whole_folded_sums.Holds := by
  w_on; o_law; k_head; (case hw => w_witness2)
  k_fill
  refine K19.walk (l := PySem.Challenge.rw_quotedback_k19_whole_folded_sums) rfl rfl (fun w h Y => PySem.W.kIn_of Y) ?F
  case F =>
    intro w mg fa h KX G hmg
    refine' K19.all_mk KX G hmg ?D_is_name ?D_is_place ?D_is_name_or_place ?D_rank_of ?D_parts_of_kind ?D_is_sum ?D_check_sum ?D_integer_of ?D_value_of ?D_bounded ?D_quotient ?D_compared ?D_joined_value ?D_sum_value ?D_worked_out ?D_names_within ?D_names_in ?D_steady_number ?D_number_tree ?D_fold ?D_folded ?D__law_integer ?D__law_held ?D__law_joined ?D__law_value ?D__law_number ?D__law_settled ?D__law_folded ?D__law_due ?D__law_kind ?D__law_answer ?D__law_same ?D__law_purse ?D__law_coin ?D__law_words ?D__law_shown ?D__law_book ?D__law_leaf ?D__law_sum ?D_is_integer ?D_has_signs ?BT ?C ?R ?EN ?EG ?EZ ?KD ?eG ?eZ ?aL ?lL ?cL ?kL
    (case D_is_name => refine' K19.mk_is_name KX G ?a ?l ?c ?k; (case a => k_is); (case l => k_is); (case c => k_is); (case k => k_is))
    (case D_is_place => refine' K19.mk_is_place KX G ?a ?l ?c ?k; (case a => k_is); (case l => k_is); (case c => k_is); (case k => k_is))
    (case D_is_name_or_place => refine' K19.mk_is_name_or_place KX G ?a ?l ?c ?k; (case a => k_is); (case l => k_is); (case c => k_is); (case k => k_is))
    (case D_rank_of => refine' K19.mk_rank_of KX G ?a ?l ?c ?k; (case a => k_is); (case l => k_is); (case c => k_is); (case k => k_is))
    (case D_parts_of_kind => refine' K19.mk_parts_of_kind KX G ?a ?l ?c ?k; (case a => k_is); (case l => k_is); (case c => k_is); (case k => k_is))
    (case D_is_sum => refine' K19.mk_is_sum KX G ?a ?l ?c ?k; (case a => k_is); (case l => k_is); (case c => k_is); (case k => k_is))
    (case D_check_sum => refine' K19.mk_check_sum KX G ?a ?l ?c ?k; (case a => k_is); (case l => k_is); (case c => k_is); (case k => k_is))
    (case D_integer_of => refine' K19.mk_integer_of KX G ?a ?l ?c ?k; (case a => k_is); (case l => k_is); (case c => k_is); (case k => k_is))
    (case D_value_of => refine' K19.mk_value_of KX G ?a ?l ?c ?k; (case a => k_is); (case l => k_is); (case c => k_is); (case k => k_is))
    (case D_bounded => refine' K19.mk_bounded KX G ?a ?l ?c ?k; (case a => k_is); (case l => k_is); (case c => k_is); (case k => k_is))
    (case D_quotient => refine' K19.mk_quotient KX G ?a ?l ?c ?k; (case a => k_is); (case l => k_is); (case c => k_is); (case k => k_is))
    (case D_compared => refine' K19.mk_compared KX G ?a ?l ?c ?k; (case a => k_is); (case l => k_is); (case c => k_is); (case k => k_is))
    (case D_joined_value => refine' K19.mk_joined_value KX G ?a ?l ?c ?k; (case a => k_is); (case l => k_is); (case c => k_is); (case k => k_is))
    (case D_sum_value => refine' K19.mk_sum_value KX G ?a ?l ?c ?k; (case a => k_is); (case l => k_is); (case c => k_is); (case k => k_is))
    (case D_worked_out => refine' K19.mk_worked_out KX G ?a ?l ?c ?k; (case a => k_is); (case l => k_is); (case c => k_is); (case k => k_is))
    (case D_names_within => refine' K19.mk_names_within KX G ?a ?l ?c ?k; (case a => k_is); (case l => k_is); (case c => k_is); (case k => k_is))
    (case D_names_in => refine' K19.mk_names_in KX G ?a ?l ?c ?k; (case a => k_is); (case l => k_is); (case c => k_is); (case k => k_is))
    (case D_steady_number => refine' K19.mk_steady_number KX G ?a ?l ?c ?k; (case a => k_is); (case l => k_is); (case c => k_is); (case k => k_is))
    (case D_number_tree => refine' K19.mk_number_tree KX G ?a ?l ?c ?k; (case a => k_is); (case l => k_is); (case c => k_is); (case k => k_is))
    (case D_fold => refine' K19.mk_fold KX G ?a ?l ?c ?k; (case a => k_is); (case l => k_is); (case c => k_is); (case k => k_is))
    (case D_folded => refine' K19.mk_folded KX G ?a ?l ?c ?k; (case a => k_is); (case l => k_is); (case c => k_is); (case k => k_is))
    (case D__law_integer => refine' K19.mk__law_integer KX G ?a ?l ?c ?k; (case a => k_is); (case l => k_is); (case c => k_is); (case k => k_is))
    (case D__law_held => refine' K19.mk__law_held KX G ?a ?l ?c ?k; (case a => k_is); (case l => k_is); (case c => k_is); (case k => k_is))
    (case D__law_joined => refine' K19.mk__law_joined KX G ?a ?l ?c ?k; (case a => k_is); (case l => k_is); (case c => k_is); (case k => k_is))
    (case D__law_value => refine' K19.mk__law_value KX G ?a ?l ?c ?k; (case a => k_is); (case l => k_is); (case c => k_is); (case k => k_is))
    (case D__law_number => refine' K19.mk__law_number KX G ?a ?l ?c ?k; (case a => k_is); (case l => k_is); (case c => k_is); (case k => k_is))
    (case D__law_settled => refine' K19.mk__law_settled KX G ?a ?l ?c ?k; (case a => k_is); (case l => k_is); (case c => k_is); (case k => k_is))
    (case D__law_folded => refine' K19.mk__law_folded KX G ?a ?l ?c ?k; (case a => k_is); (case l => k_is); (case c => k_is); (case k => k_is))
    (case D__law_due => refine' K19.mk__law_due KX G ?a ?l ?c ?k; (case a => k_is); (case l => k_is); (case c => k_is); (case k => k_is))
    (case D__law_kind => refine' K19.mk__law_kind KX G ?a ?l ?c ?k; (case a => k_is); (case l => k_is); (case c => k_is); (case k => k_is))
    (case D__law_answer => refine' K19.mk__law_answer KX G ?a ?l ?c ?k; (case a => k_is); (case l => k_is); (case c => k_is); (case k => k_is))
    (case D__law_same => refine' K19.mk__law_same KX G ?a ?l ?c ?k; (case a => k_is); (case l => k_is); (case c => k_is); (case k => k_is))
    (case D__law_purse => refine' K19.mk__law_purse KX G ?a ?l ?c ?k; (case a => k_is); (case l => k_is); (case c => k_is); (case k => k_is))
    (case D__law_coin => refine' K19.mk__law_coin KX G ?a ?l ?c ?k; (case a => k_is); (case l => k_is); (case c => k_is); (case k => k_is))
    (case D__law_words => refine' K19.mk__law_words KX G ?a ?l ?c ?k; (case a => k_is); (case l => k_is); (case c => k_is); (case k => k_is))
    (case D__law_shown => refine' K19.mk__law_shown KX G ?a ?l ?c ?k; (case a => k_is); (case l => k_is); (case c => k_is); (case k => k_is))
    (case D__law_book => refine' K19.mk__law_book KX G ?a ?l ?c ?k; (case a => k_is); (case l => k_is); (case c => k_is); (case k => k_is))
    (case D__law_leaf => refine' K19.mk__law_leaf KX G ?a ?l ?c ?k; (case a => k_is); (case l => k_is); (case c => k_is); (case k => k_is))
    (case D__law_sum => refine' K19.mk__law_sum KX G ?a ?l ?c ?k; (case a => k_is); (case l => k_is); (case c => k_is); (case k => k_is))
    (case D_is_integer => refine' K19.mk_is_integer KX G ?a ?l ?c ?k; (case a => k_is); (case l => k_is); (case c => k_is); (case k => k_is))
    (case D_has_signs => refine' K19.mk_has_signs KX G ?a ?l ?c ?k; (case a => k_is); (case l => k_is); (case c => k_is); (case k => k_is))
    (case aL => k_is); (case lL => k_is); (case cL => k_is); (case kL => k_is)
    (case BT => refine' K19.bt_mk KX G ?z0 ?z1 ?z2 ?z3 ?z4 ?z5 ?z6 ?z7 ?z8 ?z9 ?z10 ?z11 ?z12 ?z13 ?z14 ?z15 ?z16 ?z17; (case z0 => k_is); (case z1 => k_is); (case z2 => k_is); (case z3 => k_is); (case z4 => k_is); (case z5 => k_is); (case z6 => k_is); (case z7 => k_is); (case z8 => k_is); (case z9 => k_is); (case z10 => k_is); (case z11 => k_is); (case z12 => k_is); (case z13 => k_is); (case z14 => k_is); (case z15 => k_is); (case z16 => k_is); (case z17 => k_is))
    (case C => refine' K19.cs_mk KX G ?z0 ?z1 ?z2 ?z3; (case z0 => k_is); (case z1 => k_is); (case z2 => k_is); (case z3 => k_is))
    (case R => refine' K19.rk_mk KX G ?g ?lr ?er ?l0 ?e0 ?l1 ?e1 ?l2 ?e2 ?l3 ?e3 ?l4 ?e4 ?l5 ?e5; (case g => k_is); (case lr => k_is); (case er => exact .cons rfl (.cons rfl (.cons rfl (.cons rfl (.cons rfl (.cons rfl .nil)))))); (case l0 => k_is); (case e0 => exact .cons ⟨_, rfl⟩ .nil); (case l1 => k_is); (case e1 => exact .cons ⟨_, rfl⟩ .nil); (case l2 => k_is); (case e2 => exact .cons ⟨_, rfl⟩ (.cons ⟨_, rfl⟩ .nil)); (case l3 => k_is); (case e3 => exact .cons ⟨_, rfl⟩ (.cons ⟨_, rfl⟩ (.cons ⟨_, rfl⟩ (.cons ⟨_, rfl⟩ .nil)))); (case l4 => k_is); (case e4 => exact .cons ⟨_, rfl⟩ (.cons ⟨_, rfl⟩ .nil)); (case l5 => k_is); (case e5 => exact .cons ⟨_, rfl⟩ (.cons ⟨_, rfl⟩ (.cons ⟨_, rfl⟩ .nil))))
    (case EN => refine' K19.err_mk KX G ?gC ?xL ?rv ?sa ?ga ?gg ?noV ?iC ?tC ?kC ?exC ?vaC ?tyC ?hdC ?fL ?fC ?cL ?c2 ?c3 ?ceL ?isD ?sub ?next ?opq ?sup ?top; (case gC => k_is); (case xL => k_is); (case rv => rfl); (case sa => k_is); (case ga => k_is); (case gg => k_is); (case noV => k_is); (case iC => k_is); (case tC => k_is); (case kC => k_is); (case exC => k_is); (case vaC => k_is); (case tyC => k_is); (case hdC => k_is); (case fL => k_is); (case fC => k_is); (case cL => k_is); (case c2 => rfl); (case c3 => rfl); (case ceL => k_is); (case isD => first | k_is | rfl); (case sub => first | k_is | rfl); (case next => first | k_is | rfl); (case opq => first | k_is | rfl); (case sup => k_is); (case top => rfl))
    (case EG => refine' K19.err_mk KX G ?gC ?xL ?rv ?sa ?ga ?gg ?noV ?iC ?tC ?kC ?exC ?vaC ?tyC ?hdC ?fL ?fC ?cL ?c2 ?c3 ?ceL ?isD ?sub ?next ?opq ?sup ?top; (case gC => k_is); (case xL => k_is); (case rv => rfl); (case sa => k_is); (case ga => k_is); (case gg => k_is); (case noV => k_is); (case iC => k_is); (case tC => k_is); (case kC => k_is); (case exC => k_is); (case vaC => k_is); (case tyC => k_is); (case hdC => k_is); (case fL => k_is); (case fC => k_is); (case cL => k_is); (case c2 => rfl); (case c3 => rfl); (case ceL => k_is); (case isD => first | k_is | rfl); (case sub => first | k_is | rfl); (case next => first | k_is | rfl); (case opq => first | k_is | rfl); (case sup => k_is); (case top => rfl))
    (case EZ => refine' K19.err_mk KX G ?gC ?xL ?rv ?sa ?ga ?gg ?noV ?iC ?tC ?kC ?exC ?vaC ?tyC ?hdC ?fL ?fC ?cL ?c2 ?c3 ?ceL ?isD ?sub ?next ?opq ?sup ?top; (case gC => k_is); (case xL => k_is); (case rv => rfl); (case sa => k_is); (case ga => k_is); (case gg => k_is); (case noV => k_is); (case iC => k_is); (case tC => k_is); (case kC => k_is); (case exC => k_is); (case vaC => k_is); (case tyC => k_is); (case hdC => k_is); (case fL => k_is); (case fC => k_is); (case cL => k_is); (case c2 => rfl); (case c3 => rfl); (case ceL => k_is); (case isD => first | k_is | rfl); (case sub => first | k_is | rfl); (case next => first | k_is | rfl); (case opq => first | k_is | rfl); (case sup => k_is); (case top => rfl))
    (case KD =>
      refine' K19.kd_mk KX G ?gS ?gI ?gN ?gG ?gZ ?qN ?qG ?qZ ?k0 ?k1 ?k2 ?k3 ?k4 ?k5 ?k6 ?k7 ?k8 ?k9 ?k10 ?k11 ?k12 ?k13 ?k14 ?k15 ?k16 ?k17
      (case gS => k_is); (case gI => k_is); (case gN => k_is); (case gG => k_is); (case gZ => k_is)
      (case qN => refine' ⟨?ga, ?gg, ?exC, ?hdC, ?noV, ?ha, ?hn, ?ht, ?hm⟩; (case ga => k_is); (case gg => k_is); (case exC => k_is); (case hdC => k_is); (case noV => k_is); (case ha => k_is); (case hn => first | k_is | rfl); (case ht => first | k_is | rfl); (case hm => first | k_is | rfl))
      (case qG => refine' ⟨?ga, ?gg, ?exC, ?hdC, ?noV, ?ha, ?hn, ?ht, ?hm⟩; (case ga => k_is); (case gg => k_is); (case exC => k_is); (case hdC => k_is); (case noV => k_is); (case ha => k_is); (case hn => first | k_is | rfl); (case ht => first | k_is | rfl); (case hm => first | k_is | rfl))
      (case qZ => refine' ⟨?ga, ?gg, ?exC, ?hdC, ?noV, ?ha, ?hn, ?ht, ?hm⟩; (case ga => k_is); (case gg => k_is); (case exC => k_is); (case hdC => k_is); (case noV => k_is); (case ha => k_is); (case hn => first | k_is | rfl); (case ht => first | k_is | rfl); (case hm => first | k_is | rfl))
      (case k0 => first | k_is | rfl); (case k1 => first | k_is | rfl); (case k2 => first | k_is | rfl); (case k3 => first | k_is | rfl); (case k4 => first | k_is | rfl); (case k5 => first | k_is | rfl); (case k6 => first | k_is | rfl); (case k7 => first | k_is | rfl); (case k8 => first | k_is | rfl); (case k9 => first | k_is | rfl); (case k10 => first | k_is | rfl); (case k11 => first | k_is | rfl); (case k12 => first | k_is | rfl); (case k13 => first | k_is | rfl); (case k14 => first | k_is | rfl); (case k15 => first | k_is | rfl); (case k16 => first | k_is | rfl); (case k17 => first | k_is | rfl))
    (case eG => first | k_is | rfl)
    (case eZ => first | k_is | rfl)
