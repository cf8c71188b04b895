/- Plain definitions: one for each Go function of the plain fragment, printed by a program of the author's own (gen.py). -/
import Derived.RowKit
namespace Go.Proofs.Ytlckpdagejbchaa
set_option linter.unusedVariables false
open Go.RowKit (wrap64)
structure Date where
  Year : Int
  Month : Int
  Day : Int

structure Zone where
  Offset : Int
  StartMonth : Int
  StartWeek : Int
  EndMonth : Int
  EndWeek : Int

structure Interval where
  Low : Int
  High : Int

def S_l01In (n : Int) (low : Int) (high : Int) : Bool :=
  ((decide (low ≤ n)) && (decide (n ≤ high)))
def S_l01Floor (a : Int) (b : Int) : Int :=
  let a_5 := if (decide (b < 0)) then
    let t_1 := (wrap64 (-a))
    let t_2 := (wrap64 (-b))
    let a_3 := t_1
    let b_4 := t_2
    a_3
  else
    a
  let b_10 := if (decide (b < 0)) then
    let t_6 := (wrap64 (-a))
    let t_7 := (wrap64 (-b))
    let a_8 := t_6
    let b_9 := t_7
    b_9
  else
    b
  let q_11 := (wrap64 (Int.tdiv a_5 b_10))
  let q_13 := if (decide ((Int.tmod a_5 b_10) < 0)) then
    let q_12 := (wrap64 (q_11 - 1))
    q_12
  else
    q_11
  q_13
def S_l01Ceil (a : Int) (b : Int) : Int :=
  (wrap64 (-(S_l01Floor (wrap64 (-a)) b)))
def S_l07Year (year : Int) : Int :=
  (wrap64 ((wrap64 (365 * (wrap64 (year - 2000)))) + (S_l01Ceil (wrap64 (year - 2000)) 4)))
def S_l07Has (number : Int) : Bool :=
  (S_l01In number (S_l07Year 1901) (wrap64 ((S_l07Year 2100) - 1)))
def S_l01Mod (a : Int) (m : Int) : Int :=
  (Int.tmod (wrap64 ((Int.tmod a m) + m)) m)
def S_l03Plain (a : Int) : Int :=
  (S_l01Mod a 1296000)
def S_l08Mean (n : Int) : Int :=
  (S_l03Plain (wrap64 (1009656 + (S_l01Floor (wrap64 (n * 354833064)) 100000))))
def S_l01Nearest (a : Int) (b : Int) : Int :=
  (S_l01Floor (wrap64 ((wrap64 (2 * a)) + b)) (wrap64 (2 * b)))
def S_l04Arc (r : Int) : Int × Int :=
  let x_1 := (wrap64 (Int.tdiv (wrap64 (r * 48481368)) 10000))
  (x_1, (wrap64 (Int.tdiv (wrap64 (x_1 * x_1)) 1000000000)))
def S_l04P (r : Int) : Int :=
  let t_1 := (S_l04Arc r)
  let x_2 := t_1.1
  let y_3 := t_1.2
  let t3_4 := (wrap64 (Int.tdiv (wrap64 (Int.tdiv (wrap64 (x_2 * y_3)) 1000000000)) 6))
  let t5_5 := (wrap64 (Int.tdiv (wrap64 (Int.tdiv (wrap64 (t3_4 * y_3)) 1000000000)) 20))
  let t7_6 := (wrap64 (Int.tdiv (wrap64 (Int.tdiv (wrap64 (t5_5 * y_3)) 1000000000)) 42))
  let t9_7 := (wrap64 (Int.tdiv (wrap64 (Int.tdiv (wrap64 (t7_6 * y_3)) 1000000000)) 72))
  (wrap64 ((wrap64 ((wrap64 ((wrap64 (x_2 - t3_4)) + t5_5)) - t7_6)) + t9_7))
def S_l04Q (r : Int) : Int :=
  let t_1 := (S_l04Arc r)
  let __2 := t_1.1
  let y_3 := t_1.2
  let c2_4 := (wrap64 (Int.tdiv y_3 2))
  let c4_5 := (wrap64 (Int.tdiv (wrap64 (Int.tdiv (wrap64 (c2_4 * y_3)) 1000000000)) 12))
  let c6_6 := (wrap64 (Int.tdiv (wrap64 (Int.tdiv (wrap64 (c4_5 * y_3)) 1000000000)) 30))
  let c8_7 := (wrap64 (Int.tdiv (wrap64 (Int.tdiv (wrap64 (c6_6 * y_3)) 1000000000)) 56))
  let c10_8 := (wrap64 (Int.tdiv (wrap64 (Int.tdiv (wrap64 (c8_7 * y_3)) 1000000000)) 90))
  (wrap64 ((wrap64 ((wrap64 ((wrap64 ((wrap64 (1000000000 - c2_4)) + c4_5)) - c6_6)) + c8_7)) - c10_8))
def S_l04Sine (a : Int) : Int :=
  let b_1 := (S_l03Plain a)
  let t_2 := (wrap64 (Int.tdiv b_1 324000))
  let t_3 := (Int.tmod b_1 324000)
  let q_4 := t_2
  let r_5 := t_3
  let r_7 := if ((Int.tmod q_4 2) == 1) then
    let r_6 := (wrap64 (324000 - r_5))
    r_6
  else
    r_5
  let p_8 := 0
  let p_11 := if (decide (r_7 ≤ 162000)) then
    let p_9 := (S_l04P r_7)
    p_9
  else
    let p_10 := (S_l04Q (wrap64 (324000 - r_7)))
    p_10
  if (decide (2 ≤ q_4)) then
    (wrap64 (-p_11))
  else
    p_11
def S_l08Longitude (n : Int) : Int :=
  let g_1 := (S_l03Plain (wrap64 (1287101 + (S_l01Floor (wrap64 (n * 354816108)) 100000))))
  (S_l03Plain (wrap64 ((S_l08Mean n) + (S_l01Nearest (wrap64 ((wrap64 (6894 * (S_l04Sine g_1))) + (wrap64 (72 * (S_l04Sine (wrap64 (2 * g_1))))))) 1000000000))))
def S_SunLongitude (n : Int) : Int × Int :=
  if (!(S_l07Has n)) then
    (0, 2)
  else
    ((S_l08Longitude n), 0)
def I_in (n : Int) (low : Int) (high : Int) : Bool :=
  ((decide (low ≤ n)) && (decide (n ≤ high)))
def I_daysInMonth (year : Int) (month : Int) : Int :=
  if ((((month == 4) || (month == 6)) || (month == 9)) || (month == 11)) then
    30
  else
    if (month == 2) then
      if ((Int.tmod year 4) == 0) then
        29
      else
        28
    else
      31
/-- The day numbers after k months. -/
def daysAfter (D : Int → Int) (n0 : Int) : Nat → Int
  | 0 => n0
  | k + 1 => wrap64 (daysAfter D n0 k + D ((k : Int) + 1))
def I_dayNumber (d : Date) : Int := daysAfter (I_daysInMonth d.Year) (wrap64 (wrap64 (wrap64 (wrap64 (-36159 + wrap64 (365 * wrap64 (d.Year - 1901))) + wrap64 (Int.tdiv (wrap64 (d.Year - 1901)) 4)) + d.Day) - 1)) (d.Month - 1).toNat
def I_isDayNumber (n : Int) : Bool :=
  (I_in n (I_dayNumber (⟨1901, 1, 1⟩ : Date)) (I_dayNumber (⟨2099, 12, 31⟩ : Date)))
def I_floor (a : Int) (b : Int) : Int :=
  let q_1 := (wrap64 (Int.tdiv a b))
  let r_2 := (Int.tmod a b)
  let q_4 := if ((r_2 != 0) && ((decide (r_2 < 0)) != (decide (b < 0)))) then
    let q_3 := (wrap64 (q_1 - 1))
    q_3
  else
    q_1
  q_4
def I_mod (a : Int) (b : Int) : Int :=
  (wrap64 (a - (wrap64 ((I_floor a b) * b))))
def I_plain (a : Int) : Int :=
  (I_mod a 1296000)
def I_meanLongitude (n : Int) : Int :=
  (I_plain (wrap64 (1009656 + (I_floor (wrap64 (n * 354833064)) 100000))))
def I_nearest (a : Int) (b : Int) : Int :=
  let a_5 := if (decide (b < 0)) then
    let t_1 := (wrap64 (-a))
    let t_2 := (wrap64 (-b))
    let a_3 := t_1
    let b_4 := t_2
    a_3
  else
    a
  let b_10 := if (decide (b < 0)) then
    let t_6 := (wrap64 (-a))
    let t_7 := (wrap64 (-b))
    let a_8 := t_6
    let b_9 := t_7
    b_9
  else
    b
  let q_11 := (I_floor a_5 b_10)
  let r_12 := (wrap64 (a_5 - (wrap64 (q_11 * b_10))))
  let q_14 := if (decide ((wrap64 (b_10 - r_12)) ≤ r_12)) then
    let q_13 := (wrap64 (q_11 + 1))
    q_13
  else
    q_11
  q_14
def I_polynomials (r : Int) : Int × Int :=
  let x_1 := (wrap64 (Int.tdiv (wrap64 (r * 48481368)) 10000))
  let y_2 := (wrap64 (Int.tdiv (wrap64 (x_1 * x_1)) 1000000000))
  let t3_3 := (wrap64 (Int.tdiv (wrap64 (Int.tdiv (wrap64 (x_1 * y_2)) 1000000000)) 6))
  let t5_4 := (wrap64 (Int.tdiv (wrap64 (Int.tdiv (wrap64 (t3_3 * y_2)) 1000000000)) 20))
  let t7_5 := (wrap64 (Int.tdiv (wrap64 (Int.tdiv (wrap64 (t5_4 * y_2)) 1000000000)) 42))
  let t9_6 := (wrap64 (Int.tdiv (wrap64 (Int.tdiv (wrap64 (t7_5 * y_2)) 1000000000)) 72))
  let c2_7 := (wrap64 (Int.tdiv y_2 2))
  let c4_8 := (wrap64 (Int.tdiv (wrap64 (Int.tdiv (wrap64 (c2_7 * y_2)) 1000000000)) 12))
  let c6_9 := (wrap64 (Int.tdiv (wrap64 (Int.tdiv (wrap64 (c4_8 * y_2)) 1000000000)) 30))
  let c8_10 := (wrap64 (Int.tdiv (wrap64 (Int.tdiv (wrap64 (c6_9 * y_2)) 1000000000)) 56))
  let c10_11 := (wrap64 (Int.tdiv (wrap64 (Int.tdiv (wrap64 (c8_10 * y_2)) 1000000000)) 90))
  ((wrap64 ((wrap64 ((wrap64 ((wrap64 (x_1 - t3_3)) + t5_4)) - t7_5)) + t9_6)), (wrap64 ((wrap64 ((wrap64 ((wrap64 ((wrap64 (1000000000 - c2_7)) + c4_8)) - c6_9)) + c8_10)) - c10_11)))
def I_nanoSine (a : Int) : Int :=
  let b_1 := (I_plain a)
  let t_2 := (wrap64 (Int.tdiv b_1 324000))
  let t_3 := (Int.tmod b_1 324000)
  let q_4 := t_2
  let r_5 := t_3
  let r_7 := if ((Int.tmod q_4 2) == 1) then
    let r_6 := (wrap64 (324000 - r_5))
    r_6
  else
    r_5
  let p_8 := 0
  let p_13 := if (decide (r_7 ≤ 162000)) then
    let t_9 := (I_polynomials r_7)
    let p_10 := t_9.1
    p_10
  else
    let t_11 := (I_polynomials (wrap64 (324000 - r_7)))
    let p_12 := t_11.2
    p_12
  if (decide (q_4 < 2)) then
    p_13
  else
    (wrap64 (-p_13))
def I_sunLongitude (n : Int) : Int :=
  let anomaly_1 := (I_plain (wrap64 (1287101 + (I_floor (wrap64 (n * 354816108)) 100000))))
  (I_plain (wrap64 ((I_meanLongitude n) + (I_nearest (wrap64 ((wrap64 (6894 * (I_nanoSine anomaly_1))) + (wrap64 (72 * (I_nanoSine (wrap64 (2 * anomaly_1))))))) 1000000000))))
def I_SunLongitude (n : Int) : Int × Int :=
  if (!(I_isDayNumber n)) then
    (0, 2)
  else
    ((I_sunLongitude n), 0)
def nextUpS (lon : Int) : Nat → Int → Int × Int
  | 0, _ => (0, 4)
  | k + 1, d => if S_l07Has (d + 1) = true then (if S_l03Plain (wrap64 (lon - S_l08Longitude d)) ≤ S_l03Plain (wrap64 (S_l08Longitude (d + 1) - S_l08Longitude d)) then (d, 0) else nextUpS lon k (d + 1)) else (0, 4)
def S_NextLongitude (n longitude : Int) : Int × Int :=
  if (!S_l07Has n || !S_l01In longitude 0 1295999) = true then (0, 2) else nextUpS longitude 72700 n
def I_liesOnWay (a : Int) (from_ : Int) (to : Int) : Bool :=
  (decide ((I_plain (wrap64 (a - from_))) ≤ (I_plain (wrap64 (to - from_)))))
def nextUpI (lon : Int) : Nat → Int → Int → Int × Int
  | 0, _, _ => (0, 4)
  | k + 1, d, h => if I_isDayNumber (d + 1) = true then (if I_liesOnWay lon h (I_sunLongitude (d + 1)) = true then (d, 0) else nextUpI lon k (d + 1) (I_sunLongitude (d + 1))) else (0, 4)
def I_nextLongitude (n lon : Int) : Int × Int := nextUpI lon 72700 n (I_sunLongitude n)
def I_NextLongitude (n : Int) (longitude : Int) : Int × Int :=
  if ((!(I_isDayNumber n)) || (!(I_in longitude 0 1295999))) then
    (0, 2)
  else
    (I_nextLongitude n longitude)
def S_IsZone (z : Zone) : Bool :=
  if (!(S_l01In z.Offset (-840) 840)) then
    false
  else
    if (z.StartMonth == 0) then
      (((z.StartWeek == 0) && (z.EndMonth == 0)) && (z.EndWeek == 0))
    else
      (((((S_l01In z.StartMonth 1 12) && (S_l01In z.EndMonth 1 12)) && (z.StartMonth != z.EndMonth)) && (S_l01In z.StartWeek 0 4)) && (S_l01In z.EndWeek 0 4))
def S_l07Month (year : Int) (month : Int) : Bool :=
  ((S_l01In year 1901 2099) && (S_l01In month 1 12))
def S_l07Days (year : Int) (month : Int) : Int :=
  if (month == 2) then
    if ((Int.tmod year 4) == 0) then
      29
    else
      28
  else
    if ((((month == 4) || (month == 6)) || (month == 9)) || (month == 11)) then
      30
    else
      31
def S_IsDate (d : Date) : Bool :=
  ((S_l07Month d.Year d.Month) && (S_l01In d.Day 1 (S_l07Days d.Year d.Month)))
def S_l07Number (d : Date) : Int := daysAfter (S_l07Days d.Year) (wrap64 (wrap64 (S_l07Year d.Year + d.Day) - 1)) (d.Month - 1).toNat
def S_l07Weekday (number : Int) : Int :=
  (S_l01Mod (wrap64 (number + 5)) 7)
def nthUp (f : Int → Bool) (n : Int) : Nat → Int × Int
  | 0 => (0, 0)
  | k + 1 => if f ((k : Int) + 1) = true then (if n = 0 ∨ (nthUp f n k).2 + 1 = n then ((k : Int) + 1, (nthUp f n k).2 + 1) else ((nthUp f n k).1, (nthUp f n k).2 + 1)) else nthUp f n k
def S_l07Nth (year month weekday n : Int) : Date := ⟨year, month, (nthUp (fun d => decide (S_l07Weekday (S_l07Number ⟨year, month, d⟩) = weekday)) n (S_l07Days year month).toNat).1⟩
def S_l11Summer (z : Zone) (d : Date) : Bool :=
  if (z.StartMonth == 0) then
    false
  else
    let n_1 := (S_l07Number d)
    let start_2 := (S_l07Number (⟨(S_l07Nth d.Year z.StartMonth 6 z.StartWeek).Year, (S_l07Nth d.Year z.StartMonth 6 z.StartWeek).Month, (S_l07Nth d.Year z.StartMonth 6 z.StartWeek).Day⟩ : Date))
    let end_3 := (S_l07Number (⟨(S_l07Nth d.Year z.EndMonth 6 z.EndWeek).Year, (S_l07Nth d.Year z.EndMonth 6 z.EndWeek).Month, (S_l07Nth d.Year z.EndMonth 6 z.EndWeek).Day⟩ : Date))
    if (decide (z.StartMonth < z.EndMonth)) then
      ((decide (start_2 ≤ n_1)) && (decide (n_1 < end_3)))
    else
      ((decide (start_2 ≤ n_1)) || (decide (n_1 < end_3)))
def S_IsSummerDay (z : Zone) (d : Date) : Bool × Int :=
  if ((!(S_IsZone z)) || (!(S_IsDate d))) then
    (false, 1)
  else
    ((S_l11Summer z d), 0)
def L_toZone (a : Zone) : Zone :=
  let out_1 := { (⟨0, 0, 0, 0, 0⟩ : Zone) with Offset := a.Offset }
  let out_2 := { out_1 with StartMonth := a.StartMonth }
  let out_3 := { out_2 with StartWeek := a.StartWeek }
  let out_4 := { out_3 with EndMonth := a.EndMonth }
  let out_5 := { out_4 with EndWeek := a.EndWeek }
  out_5
def L_toDate (a : Date) : Date :=
  let out_1 := { (⟨0, 0, 0⟩ : Date) with Year := a.Year }
  let out_2 := { out_1 with Month := a.Month }
  let out_3 := { out_2 with Day := a.Day }
  out_3
def I_IsZone (z : Zone) : Bool :=
  if (!(I_in z.Offset (-840) 840)) then
    false
  else
    if (z.StartMonth == 0) then
      ((z.Offset == (⟨z.Offset, 0, 0, 0, 0⟩ : Zone).Offset) && (z.StartMonth == (⟨z.Offset, 0, 0, 0, 0⟩ : Zone).StartMonth) && (z.StartWeek == (⟨z.Offset, 0, 0, 0, 0⟩ : Zone).StartWeek) && (z.EndMonth == (⟨z.Offset, 0, 0, 0, 0⟩ : Zone).EndMonth) && (z.EndWeek == (⟨z.Offset, 0, 0, 0, 0⟩ : Zone).EndWeek))
    else
      let months_1 := (((I_in z.StartMonth 1 12) && (I_in z.EndMonth 1 12)) && (z.StartMonth != z.EndMonth))
      ((months_1 && (I_in z.StartWeek 0 4)) && (I_in z.EndWeek 0 4))
def I_isMonth (year : Int) (month : Int) : Bool :=
  ((I_in year 1901 2099) && (I_in month 1 12))
def I_IsDate (d : Date) : Bool :=
  ((I_isMonth d.Year d.Month) && (I_in d.Day 1 (I_daysInMonth d.Year d.Month)))
def I_zoned (z : Zone) (d : Date) : Int :=
  if ((!(I_IsZone z)) || (!(I_IsDate d))) then
    1
  else
    0
def I_weekday (n : Int) : Int :=
  (I_mod (wrap64 (n + 5)) 7)
def I_nthWeekday (year : Int) (month : Int) (day : Int) (n : Int) : Date × Int :=
  let first_1 := (I_dayNumber (⟨year, month, 1⟩ : Date))
  let d_2 := (⟨year, month, (wrap64 (1 + (I_mod (wrap64 (day - (I_weekday first_1))) 7)))⟩ : Date)
  let last_3 := (I_daysInMonth year month)
  if (n == 0) then
    let d_4 := { d_2 with Day := (wrap64 (d_2.Day + (wrap64 ((wrap64 (Int.tdiv (wrap64 (last_3 - d_2.Day)) 7)) * 7)))) }
    (d_4, 0)
  else
    let d_5 := { d_2 with Day := (wrap64 (d_2.Day + (wrap64 (7 * (wrap64 (n - 1)))))) }
    if (decide (last_3 < d_5.Day)) then
      ((⟨0, 0, 0⟩ : Date), 4)
    else
      (d_5, 0)
def I_sunday (year : Int) (month : Int) (week : Int) : Int :=
  let t_1 := (I_nthWeekday year month 6 week)
  let d_2 := t_1.1
  let __3 := t_1.2
  (I_dayNumber d_2)
def I_Zone_isSummer (z : Zone) (d : Date) : Bool :=
  if (z.StartMonth == 0) then
    false
  else
    let n_1 := (I_dayNumber d)
    let t_2 := (decide ((I_sunday d.Year z.StartMonth z.StartWeek) ≤ n_1))
    let t_3 := (decide ((I_sunday d.Year z.EndMonth z.EndWeek) ≤ n_1))
    let begun_4 := t_2
    let over_5 := t_3
    if (decide (z.StartMonth < z.EndMonth)) then
      (begun_4 && (!over_5))
    else
      (begun_4 || (!over_5))
def I_IsSummerDay (z : Zone) (d : Date) : Bool × Int :=
  let code_1 := (I_zoned z d)
  if (code_1 != 0) then
    (false, code_1)
  else
    ((I_Zone_isSummer z d), 0)
def S_l11Offset (z : Zone) (d : Date) : Int :=
  if (S_l11Summer z d) then
    (wrap64 (z.Offset + 60))
  else
    z.Offset
def S_OffsetOf (z : Zone) (d : Date) : Int × Int :=
  if ((!(S_IsZone z)) || (!(S_IsDate d))) then
    (0, 1)
  else
    ((S_l11Offset z d), 0)
def I_Zone_offset (z : Zone) (d : Date) : Int :=
  if (I_Zone_isSummer z d) then
    (wrap64 (z.Offset + 60))
  else
    z.Offset
def I_OffsetOf (z : Zone) (d : Date) : Int × Int :=
  let code_1 := (I_zoned z d)
  if (code_1 != 0) then
    (0, code_1)
  else
    ((I_Zone_offset z d), 0)
def S_l11Moment (z : Zone) (d : Date) (second : Int) : Int :=
  if ((!(S_IsZone z)) || (!(S_IsDate d))) then
    1
  else
    if (!(S_l01In second 0 86399)) then
      2
    else
      0
def yearUpS (n : Int) : Nat → Int → Int
  | 0, y => y
  | k + 1, y => if S_l07Year (y + 1) ≤ n then yearUpS n k (y + 1) else y
def monthUpS (y : Int) : Nat → Int → Int → Int × Int
  | 0, m, r => (m, r)
  | k + 1, m, r => if S_l07Days y m ≤ r then monthUpS y k (m + 1) (r - S_l07Days y m) else (m, r)
def S_l07Date (n : Int) : Date := ⟨yearUpS n 300 1901, (monthUpS (yearUpS n 300 1901) 20 1 (n - S_l07Year (yearUpS n 300 1901))).1, (monthUpS (yearUpS n 300 1901) 20 1 (n - S_l07Year (yearUpS n 300 1901))).2 + 1⟩
def S_l11Shift (d : Date) (second : Int) (later : Int) : Date × Int × Bool :=
  let t_1 := (wrap64 ((wrap64 ((wrap64 ((S_l07Number d) * 86400)) + second)) + later))
  let n_2 := (S_l01Floor t_1 86400)
  if (!(S_l07Has n_2)) then
    ((⟨0, 0, 0⟩ : Date), 0, false)
  else
    ((S_l07Date n_2), (S_l01Mod t_1 86400), true)
def S_CivilOf (z : Zone) (d : Date) (second : Int) : Date × Int × Int :=
  let code_1 := (S_l11Moment z d second)
  if (code_1 != 0) then
    ((⟨0, 0, 0⟩ : Date), 0, code_1)
  else
    let t_2 := (S_l11Shift d second (wrap64 (60 * (wrap64 (z.Offset + 60)))))
    let e_3 := t_2.1
    let t_4 := t_2.2.1
    let ok_5 := t_2.2.2
    if (ok_5 && (S_l11Summer z e_3)) then
      (e_3, t_4, 0)
    else
      let t_6 := (S_l11Shift d second (wrap64 (60 * z.Offset)))
      let e_7 := t_6.1
      let t_8 := t_6.2.1
      let ok_9 := t_6.2.2
      if (!ok_9) then
        ((⟨0, 0, 0⟩ : Date), 0, 4)
      else
        (e_7, t_8, 0)
def I_isSecond (second : Int) : Bool :=
  (I_in second 0 86399)
def yearUpI (n : Int) : Nat → Int → Int
  | 0, y => y
  | k + 1, y => if y < 2099 ∧ I_dayNumber ⟨y + 1, 1, 1⟩ ≤ n then yearUpI n k (y + 1) else y
def monthUpI (n y : Int) : Nat → Int → Int
  | 0, m => m
  | k + 1, m => if m < 12 ∧ I_dayNumber ⟨y, m + 1, 1⟩ ≤ n then monthUpI n y k (m + 1) else m
def I_dateOf (n : Int) : Date := ⟨yearUpI n 300 1901, monthUpI n (yearUpI n 300 1901) 20 1, wrap64 (wrap64 (n - I_dayNumber ⟨yearUpI n 300 1901, monthUpI n (yearUpI n 300 1901) 20 1, 1⟩) + 1)⟩
def I_later (d : Date) (seconds : Int) : Date × Int × Int :=
  let n_1 := (wrap64 ((I_dayNumber d) + (I_floor seconds 86400)))
  if (!(I_isDayNumber n_1)) then
    ((⟨0, 0, 0⟩ : Date), 0, 4)
  else
    ((I_dateOf n_1), (I_mod seconds 86400), 0)
def I_CivilOf (z : Zone) (d : Date) (second : Int) : Date × Int × Int :=
  let code_1 := (I_zoned z d)
  if (code_1 != 0) then
    ((⟨0, 0, 0⟩ : Date), 0, code_1)
  else
    if (!(I_isSecond second)) then
      ((⟨0, 0, 0⟩ : Date), 0, 2)
    else
      let t_2 := (I_later d (wrap64 (second + (wrap64 (60 * (wrap64 (z.Offset + 60)))))))
      let e_3 := t_2.1
      let s_4 := t_2.2.1
      let code_5 := t_2.2.2
      if ((code_5 == 0) && (I_Zone_isSummer z e_3)) then
        (e_3, s_4, 0)
      else
        (I_later d (wrap64 (second + (wrap64 (60 * z.Offset)))))
def L_eqDate (a : Date) (b : Date) : Bool :=
  if (a.Year != b.Year) then
    false
  else
    if (a.Month != b.Month) then
      false
    else
      if (a.Day != b.Day) then
        false
      else
        true
def S_UniversalOf (z : Zone) (d : Date) (second : Int) : Date × Int × Int :=
  let code_1 := (S_l11Moment z d second)
  if (code_1 != 0) then
    ((⟨0, 0, 0⟩ : Date), 0, code_1)
  else
    let t_2 := (S_l11Shift d second (wrap64 ((-60) * (S_l11Offset z d))))
    let e_3 := t_2.1
    let t_4 := t_2.2.1
    let ok_5 := t_2.2.2
    if (!ok_5) then
      ((⟨0, 0, 0⟩ : Date), 0, 4)
    else
      (e_3, t_4, 0)
def I_UniversalOf (z : Zone) (d : Date) (second : Int) : Date × Int × Int :=
  let code_1 := (I_zoned z d)
  if (code_1 != 0) then
    ((⟨0, 0, 0⟩ : Date), 0, code_1)
  else
    if (!(I_isSecond second)) then
      ((⟨0, 0, 0⟩ : Date), 0, 2)
    else
      (I_later d (wrap64 (second - (wrap64 (60 * (I_Zone_offset z d))))))
def S_l11Longitude (a : Int) : Bool :=
  (S_l01In a (-648000) 648000)
def S_l02Add (a : Interval) (b : Interval) : Interval :=
  (⟨(wrap64 (a.Low + b.Low)), (wrap64 (a.High + b.High))⟩ : Interval)
def S_l04Cosine (a : Int) : Int :=
  (S_l04Sine (wrap64 (a + 324000)))
/-- Halving between two numbers with a condition; the first number counts the rounds. -/
def halveUp (f : Int → Bool) : Nat → Int → Int → Int
  | 0, lo, _ => lo
  | k + 1, lo, hi => if hi - lo ≤ 1 then lo else if f ((lo + hi) / 2) = true then halveUp f k ((lo + hi) / 2) hi else halveUp f k lo ((lo + hi) / 2)
def S_l05PointLow (x y : Int) : Int := if 0 < y ∨ (y = 0 ∧ 0 < x) then halveUp (fun mid => decide (wrap64 (x * S_l04Sine mid) ≤ wrap64 (y * S_l04Cosine mid))) 648000 0 (0 + 648000) else halveUp (fun mid => decide (wrap64 (x * S_l04Sine mid) ≤ wrap64 (y * S_l04Cosine mid))) 648000 648000 (648000 + 648000)
def S_l05Point (x y : Int) : Interval := ⟨wrap64 (S_l05PointLow x y - 1), wrap64 (S_l05PointLow x y + 2)⟩
def S_l03Signed (a : Int) : Int :=
  let a_1 := (S_l03Plain a)
  if (decide (648000 ≤ a_1)) then
    (wrap64 (a_1 - 1296000))
  else
    a_1
def S_l08Equation (n : Int) : Interval :=
  let longitude_1 := (S_l08Longitude n)
  let a_2 := (S_l05Point (S_l04Cosine longitude_1) (S_l01Floor (wrap64 ((S_l04Sine longitude_1) * (S_l04Cosine 84380))) 1000000000))
  let e_3 := (S_l03Signed (wrap64 ((S_l08Mean n) - a_2.High)))
  (⟨(S_l01Floor (wrap64 (e_3 - 60)) 15), (S_l01Ceil (wrap64 ((wrap64 ((wrap64 (e_3 + a_2.High)) - a_2.Low)) + 60)) 15)⟩ : Interval)
def S_l11Solar (z : Zone) (longitude : Int) (d : Date) (second : Int) : Interval :=
  let t_1 := (wrap64 (second - (wrap64 (60 * (S_l11Offset z d)))))
  (S_l02Add (⟨(wrap64 (t_1 + (S_l01Floor longitude 15))), (wrap64 (t_1 + (S_l01Ceil longitude 15)))⟩ : Interval) (S_l08Equation (S_l07Number d)))
def S_SolarOf (z : Zone) (longitude : Int) (d : Date) (second : Int) : Interval × Int :=
  let code_1 := (S_l11Moment z d second)
  let code_3 := if ((code_1 == 0) && (!(S_l11Longitude longitude))) then
    let code_2 := 2
    code_2
  else
    code_1
  if (code_3 != 0) then
    ((⟨0, 0⟩ : Interval), code_3)
  else
    ((S_l11Solar z longitude d second), 0)
def I_Interval_plus (a : Interval) (b : Interval) : Interval :=
  (⟨(wrap64 (a.Low + b.Low)), (wrap64 (a.High + b.High))⟩ : Interval)
def I_nanoCosine (a : Int) : Int :=
  (I_nanoSine (wrap64 (a + 324000)))
def I_angleOfPointLow (x y : Int) : Int := if 0 < y ∨ (y = 0 ∧ 0 < x) then halveUp (fun mid => decide (wrap64 (x * I_nanoSine mid) ≤ wrap64 (y * I_nanoCosine mid))) 648000 0 (0 + 648000) else halveUp (fun mid => decide (wrap64 (x * I_nanoSine mid) ≤ wrap64 (y * I_nanoCosine mid))) 648000 648000 (648000 + 648000)
def I_angleOfPoint (x y : Int) : Interval := ⟨wrap64 (I_angleOfPointLow x y - 1), wrap64 (I_angleOfPointLow x y + 2)⟩
def I_signed (a : Int) : Int :=
  (wrap64 ((I_mod (wrap64 (a + 648000)) 1296000) - 648000))
def I_ceil (a : Int) (b : Int) : Int :=
  (wrap64 (-(I_floor (wrap64 (-a)) b)))
def I_equationOfTime (n : Int) : Interval :=
  let longitude_1 := (I_sunLongitude n)
  let a_2 := (I_angleOfPoint (I_nanoCosine longitude_1) (I_floor (wrap64 ((I_nanoSine longitude_1) * (I_nanoCosine 84380))) 1000000000))
  let e_3 := (I_signed (wrap64 ((I_meanLongitude n) - a_2.High)))
  (⟨(I_floor (wrap64 (e_3 - 60)) 15), (I_ceil (wrap64 ((wrap64 ((wrap64 (e_3 + a_2.High)) - a_2.Low)) + 60)) 15)⟩ : Interval)
def I_Zone_solar (z : Zone) (longitude : Int) (d : Date) (second : Int) : Interval :=
  let second_1 := (wrap64 (second - (wrap64 (60 * (I_Zone_offset z d)))))
  (I_Interval_plus (I_equationOfTime (I_dayNumber d)) (⟨(wrap64 (second_1 + (I_floor longitude 15))), (wrap64 (second_1 + (I_ceil longitude 15)))⟩ : Interval))
def I_SolarOf (z : Zone) (longitude : Int) (d : Date) (second : Int) : Interval × Int :=
  let code_1 := (I_zoned z d)
  if (code_1 != 0) then
    ((⟨0, 0⟩ : Interval), code_1)
  else
    if ((!(I_in longitude (-648000) 648000)) || (!(I_isSecond second))) then
      ((⟨0, 0⟩ : Interval), 2)
    else
      ((I_Zone_solar z longitude d second), 0)
def L_eqInterval (a : Interval) (b : Interval) : Bool :=
  if (a.Low != b.Low) then
    false
  else
    if (a.High != b.High) then
      false
    else
      true
def S_ClockError (z : Zone) (longitude : Int) (d : Date) : Interval × Int :=
  let t_1 := (S_SolarOf z longitude d 43200)
  let a_2 := t_1.1
  let code_3 := t_1.2
  if (code_3 != 0) then
    ((⟨0, 0⟩ : Interval), code_3)
  else
    ((⟨(wrap64 (a_2.Low - 43200)), (wrap64 (a_2.High - 43200))⟩ : Interval), 0)
def I_Interval_shifted (a : Interval) (by_ : Int) : Interval :=
  (⟨(wrap64 (a.Low + by_)), (wrap64 (a.High + by_))⟩ : Interval)
def I_ClockError (z : Zone) (longitude : Int) (d : Date) : Interval × Int :=
  let t_1 := (I_SolarOf z longitude d 43200)
  let a_2 := t_1.1
  let code_3 := t_1.2
  if (code_3 != 0) then
    ((⟨0, 0⟩ : Interval), code_3)
  else
    ((I_Interval_shifted a_2 (-43200)), 0)
def S_EquationOfTime (n : Int) : Interval × Int :=
  if (!(S_l07Has n)) then
    ((⟨0, 0⟩ : Interval), 2)
  else
    ((S_l08Equation n), 0)
def I_EquationOfTime (n : Int) : Interval × Int :=
  if (!(I_isDayNumber n)) then
    ((⟨0, 0⟩ : Interval), 2)
  else
    ((I_equationOfTime n), 0)
def I_isValue (n : Int) : Bool :=
  (I_in n (-1000000000000) 1000000000000)
def I_LiesOnWay (a : Int) (from_ : Int) (to : Int) : Bool × Int :=
  if (((!(I_isValue a)) || (!(I_isValue from_))) || (!(I_isValue to))) then
    (false, 2)
  else
    ((I_liesOnWay a from_ to), 0)
def I_DayNumber (d : Date) : Int × Int :=
  if (!(I_IsDate d)) then
    (0, 1)
  else
    ((I_dayNumber d), 0)
def I_DateOf (number : Int) : Date × Int :=
  if (!(I_isDayNumber number)) then
    ((⟨0, 0, 0⟩ : Date), 4)
  else
    ((I_dateOf number), 0)
end Go.Proofs.Ytlckpdagejbchaa
