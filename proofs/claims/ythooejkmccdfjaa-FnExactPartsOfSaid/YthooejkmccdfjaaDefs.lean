/- Plain definitions: one for each Go function of the plain fragment, printed by a program of the author's own (gen.py). -/
import Derived.RowKit
namespace Go.Proofs.Ythooejkmccdfjaa
set_option linter.unusedVariables false
open Go.RowKit (wrap64)
structure Wall where
  Azimuth : Int
  Slope : Int

structure Interval where
  Low : Int
  High : Int

structure Vector where
  X : Interval
  Y : Interval
  Z : Interval

structure Day where
  Rise : Int
  Set : Int

structure Point where
  X : Int
  Y : Int

structure Place where
  X : Interval
  Y : Interval

def S_l01In (n : Int) (low : Int) (high : Int) : Bool :=
  ((decide (low ≤ n)) && (decide (n ≤ high)))
def S_l09Latitude (a : Int) : Bool :=
  (S_l01In a (-324000) 324000)
def S_IsWall (w : Wall) : Bool :=
  ((S_l01In w.Azimuth 0 1295999) && (S_l09Latitude w.Slope))
def S_l06Part (a : Interval) : Bool :=
  ((S_l01In a.Low (-10000000) a.High) && (S_l01In a.High (-10000000) 10000000))
def S_IsVector (v : Vector) : Bool :=
  (((S_l06Part v.X) && (S_l06Part v.Y)) && (S_l06Part v.Z))
def S_l09Sign (a : Interval) : Int :=
  if (decide (0 < a.Low)) then
    1
  else
    if (decide (a.High < 0)) then
      (-1)
    else
      0
def S_l02Add (a : Interval) (b : Interval) : Interval :=
  (⟨(wrap64 (a.Low + b.Low)), (wrap64 (a.High + b.High))⟩ : Interval)
def S_l01Floor (a : Int) (b : Int) : Int :=
  let a_5 := if (decide (b < 0)) then
    let t_1 := (wrap64 (-a))
    let t_2 := (wrap64 (-b))
    let a_3 := t_1
    let b_4 := t_2
    a_3
  else
    a
  let b_10 := if (decide (b < 0)) then
    let t_6 := (wrap64 (-a))
    let t_7 := (wrap64 (-b))
    let a_8 := t_6
    let b_9 := t_7
    b_9
  else
    b
  let q_11 := (wrap64 (Int.tdiv a_5 b_10))
  let q_13 := if (decide ((Int.tmod a_5 b_10) < 0)) then
    let q_12 := (wrap64 (q_11 - 1))
    q_12
  else
    q_11
  q_13
def S_l01Ceil (a : Int) (b : Int) : Int :=
  (wrap64 (-(S_l01Floor (wrap64 (-a)) b)))
def S_l02Mul (a : Interval) (b : Interval) : Interval :=
  let t_1 := (wrap64 (a.Low * b.Low))
  let t_2 := (wrap64 (a.Low * b.High))
  let t_3 := (wrap64 (a.High * b.Low))
  let t_4 := (wrap64 (a.High * b.High))
  let p_5 := t_1
  let q_6 := t_2
  let r_7 := t_3
  let t_8 := t_4
  (⟨(S_l01Floor (min (min (min p_5 q_6) r_7) t_8) 1000000), (S_l01Ceil (max (max (max p_5 q_6) r_7) t_8) 1000000)⟩ : Interval)
def S_l06Dot (a : Vector) (b : Vector) : Interval :=
  (S_l02Add (S_l02Add (S_l02Mul a.X b.X) (S_l02Mul a.Y b.Y)) (S_l02Mul a.Z b.Z))
def S_l04Interval (n : Int) : Interval :=
  (⟨(S_l01Floor (wrap64 (n - 60)) 1000), (S_l01Ceil (wrap64 (n + 60)) 1000)⟩ : Interval)
def S_l01Mod (a : Int) (m : Int) : Int :=
  (Int.tmod (wrap64 ((Int.tmod a m) + m)) m)
def S_l03Plain (a : Int) : Int :=
  (S_l01Mod a 1296000)
def S_l04Arc (r : Int) : Int × Int :=
  let x_1 := (wrap64 (Int.tdiv (wrap64 (r * 48481368)) 10000))
  (x_1, (wrap64 (Int.tdiv (wrap64 (x_1 * x_1)) 1000000000)))
def S_l04P (r : Int) : Int :=
  let t_1 := (S_l04Arc r)
  let x_2 := t_1.1
  let y_3 := t_1.2
  let t3_4 := (wrap64 (Int.tdiv (wrap64 (Int.tdiv (wrap64 (x_2 * y_3)) 1000000000)) 6))
  let t5_5 := (wrap64 (Int.tdiv (wrap64 (Int.tdiv (wrap64 (t3_4 * y_3)) 1000000000)) 20))
  let t7_6 := (wrap64 (Int.tdiv (wrap64 (Int.tdiv (wrap64 (t5_5 * y_3)) 1000000000)) 42))
  let t9_7 := (wrap64 (Int.tdiv (wrap64 (Int.tdiv (wrap64 (t7_6 * y_3)) 1000000000)) 72))
  (wrap64 ((wrap64 ((wrap64 ((wrap64 (x_2 - t3_4)) + t5_5)) - t7_6)) + t9_7))
def S_l04Q (r : Int) : Int :=
  let t_1 := (S_l04Arc r)
  let __2 := t_1.1
  let y_3 := t_1.2
  let c2_4 := (wrap64 (Int.tdiv y_3 2))
  let c4_5 := (wrap64 (Int.tdiv (wrap64 (Int.tdiv (wrap64 (c2_4 * y_3)) 1000000000)) 12))
  let c6_6 := (wrap64 (Int.tdiv (wrap64 (Int.tdiv (wrap64 (c4_5 * y_3)) 1000000000)) 30))
  let c8_7 := (wrap64 (Int.tdiv (wrap64 (Int.tdiv (wrap64 (c6_6 * y_3)) 1000000000)) 56))
  let c10_8 := (wrap64 (Int.tdiv (wrap64 (Int.tdiv (wrap64 (c8_7 * y_3)) 1000000000)) 90))
  (wrap64 ((wrap64 ((wrap64 ((wrap64 ((wrap64 (1000000000 - c2_4)) + c4_5)) - c6_6)) + c8_7)) - c10_8))
def S_l04Sine (a : Int) : Int :=
  let b_1 := (S_l03Plain a)
  let t_2 := (wrap64 (Int.tdiv b_1 324000))
  let t_3 := (Int.tmod b_1 324000)
  let q_4 := t_2
  let r_5 := t_3
  let r_7 := if ((Int.tmod q_4 2) == 1) then
    let r_6 := (wrap64 (324000 - r_5))
    r_6
  else
    r_5
  let p_8 := 0
  let p_11 := if (decide (r_7 ≤ 162000)) then
    let p_9 := (S_l04P r_7)
    p_9
  else
    let p_10 := (S_l04Q (wrap64 (324000 - r_7)))
    p_10
  if (decide (2 ≤ q_4)) then
    (wrap64 (-p_11))
  else
    p_11
def S_l04Cosine (a : Int) : Int :=
  (S_l04Sine (wrap64 (a + 324000)))
def S_l04Cos (a : Int) : Interval :=
  (S_l04Interval (S_l04Cosine a))
def S_l04Sin (a : Int) : Interval :=
  (S_l04Interval (S_l04Sine a))
def S_l06To (azimuth : Int) (altitude : Int) : Vector :=
  let c_1 := (S_l04Cos altitude)
  (⟨(S_l02Mul (S_l04Sin azimuth) c_1), (S_l02Mul (S_l04Cos azimuth) c_1), (S_l04Sin altitude)⟩ : Vector)
def S_l13Axes (w : Wall) : Vector × Vector × Vector := (S_l06To (wrap64 (w.Azimuth - 324000)) 0, S_l06To w.Azimuth (wrap64 (w.Slope + 324000)), S_l06To w.Azimuth w.Slope)
def S_IsLit (w : Wall) (v : Vector) : Int × Int :=
  if (!S_IsWall w || !S_IsVector v) = true then (0, 1) else (S_l09Sign (S_l06Dot (S_l13Axes w).2.2 v), 0)
def L_toWall (a : Wall) : Wall :=
  let out_1 := { (⟨0, 0⟩ : Wall) with Azimuth := a.Azimuth }
  let out_2 := { out_1 with Slope := a.Slope }
  out_2
def L_toInterval (a : Interval) : Interval :=
  let out_1 := { (⟨0, 0⟩ : Interval) with Low := a.Low }
  let out_2 := { out_1 with High := a.High }
  out_2
def L_toVector (a : Vector) : Vector :=
  let out_1 := { (⟨(⟨0, 0⟩ : Interval), (⟨0, 0⟩ : Interval), (⟨0, 0⟩ : Interval)⟩ : Vector) with X := (L_toInterval a.X) }
  let out_2 := { out_1 with Y := (L_toInterval a.Y) }
  let out_3 := { out_2 with Z := (L_toInterval a.Z) }
  out_3
def I_in (n : Int) (low : Int) (high : Int) : Bool :=
  ((decide (low ≤ n)) && (decide (n ≤ high)))
def I_IsWall (w : Wall) : Bool :=
  ((I_in w.Azimuth 0 1295999) && (I_in w.Slope (-324000) 324000))
def I_isValue (n : Int) : Bool :=
  (I_in n (-1000000000000) 1000000000000)
def I_IsInterval (a : Interval) : Bool :=
  (((I_isValue a.Low) && (I_isValue a.High)) && (decide (a.Low ≤ a.High)))
def I_Interval_within (a : Interval) (most : Int) : Bool :=
  ((I_in a.Low (wrap64 (-most)) most) && (I_in a.High (wrap64 (-most)) most))
def I_isPart (a : Interval) : Bool :=
  ((I_IsInterval a) && (I_Interval_within a 10000000))
def I_IsVector (v : Vector) : Bool :=
  (((I_isPart v.X) && (I_isPart v.Y)) && (I_isPart v.Z))
def I_floor (a : Int) (b : Int) : Int :=
  let q_1 := (wrap64 (Int.tdiv a b))
  let r_2 := (Int.tmod a b)
  let q_4 := if ((r_2 != 0) && ((decide (r_2 < 0)) != (decide (b < 0)))) then
    let q_3 := (wrap64 (q_1 - 1))
    q_3
  else
    q_1
  q_4
def I_mod (a : Int) (b : Int) : Int :=
  (wrap64 (a - (wrap64 ((I_floor a b) * b))))
def I_plain (a : Int) : Int :=
  (I_mod a 1296000)
def I_polynomials (r : Int) : Int × Int :=
  let x_1 := (wrap64 (Int.tdiv (wrap64 (r * 48481368)) 10000))
  let y_2 := (wrap64 (Int.tdiv (wrap64 (x_1 * x_1)) 1000000000))
  let t3_3 := (wrap64 (Int.tdiv (wrap64 (Int.tdiv (wrap64 (x_1 * y_2)) 1000000000)) 6))
  let t5_4 := (wrap64 (Int.tdiv (wrap64 (Int.tdiv (wrap64 (t3_3 * y_2)) 1000000000)) 20))
  let t7_5 := (wrap64 (Int.tdiv (wrap64 (Int.tdiv (wrap64 (t5_4 * y_2)) 1000000000)) 42))
  let t9_6 := (wrap64 (Int.tdiv (wrap64 (Int.tdiv (wrap64 (t7_5 * y_2)) 1000000000)) 72))
  let c2_7 := (wrap64 (Int.tdiv y_2 2))
  let c4_8 := (wrap64 (Int.tdiv (wrap64 (Int.tdiv (wrap64 (c2_7 * y_2)) 1000000000)) 12))
  let c6_9 := (wrap64 (Int.tdiv (wrap64 (Int.tdiv (wrap64 (c4_8 * y_2)) 1000000000)) 30))
  let c8_10 := (wrap64 (Int.tdiv (wrap64 (Int.tdiv (wrap64 (c6_9 * y_2)) 1000000000)) 56))
  let c10_11 := (wrap64 (Int.tdiv (wrap64 (Int.tdiv (wrap64 (c8_10 * y_2)) 1000000000)) 90))
  ((wrap64 ((wrap64 ((wrap64 ((wrap64 (x_1 - t3_3)) + t5_4)) - t7_5)) + t9_6)), (wrap64 ((wrap64 ((wrap64 ((wrap64 ((wrap64 (1000000000 - c2_7)) + c4_8)) - c6_9)) + c8_10)) - c10_11)))
def I_nanoSine (a : Int) : Int :=
  let b_1 := (I_plain a)
  let t_2 := (wrap64 (Int.tdiv b_1 324000))
  let t_3 := (Int.tmod b_1 324000)
  let q_4 := t_2
  let r_5 := t_3
  let r_7 := if ((Int.tmod q_4 2) == 1) then
    let r_6 := (wrap64 (324000 - r_5))
    r_6
  else
    r_5
  let p_8 := 0
  let p_13 := if (decide (r_7 ≤ 162000)) then
    let t_9 := (I_polynomials r_7)
    let p_10 := t_9.1
    p_10
  else
    let t_11 := (I_polynomials (wrap64 (324000 - r_7)))
    let p_12 := t_11.2
    p_12
  if (decide (q_4 < 2)) then
    p_13
  else
    (wrap64 (-p_13))
def I_ceil (a : Int) (b : Int) : Int :=
  (wrap64 (-(I_floor (wrap64 (-a)) b)))
def I_sine (a : Int) : Interval :=
  let n_1 := (I_nanoSine a)
  (⟨(I_floor (wrap64 (n_1 - 60)) 1000), (I_ceil (wrap64 (n_1 + 60)) 1000)⟩ : Interval)
def I_cosine (a : Int) : Interval :=
  (I_sine (wrap64 (a + 324000)))
def I_Interval_times (a : Interval) (b : Interval) : Interval :=
  let t_1 := (wrap64 (a.Low * b.Low))
  let t_2 := (wrap64 (a.Low * b.High))
  let t_3 := (wrap64 (a.High * b.Low))
  let t_4 := (wrap64 (a.High * b.High))
  let p_5 := t_1
  let q_6 := t_2
  let r_7 := t_3
  let s_8 := t_4
  (⟨(I_floor (min (min (min p_5 q_6) r_7) s_8) 1000000), (I_ceil (max (max (max p_5 q_6) r_7) s_8) 1000000)⟩ : Interval)
def I_direction (azimuth : Int) (altitude : Int) : Vector :=
  let flat_1 := (I_cosine altitude)
  (⟨(I_Interval_times (I_sine azimuth) flat_1), (I_Interval_times (I_cosine azimuth) flat_1), (I_sine altitude)⟩ : Vector)
def I_Wall_axes (w : Wall) : Vector × Vector × Vector := (I_direction (wrap64 (w.Azimuth - 324000)) 0, I_direction w.Azimuth (wrap64 (w.Slope + 324000)), I_direction w.Azimuth w.Slope)
def I_Interval_plus (a : Interval) (b : Interval) : Interval :=
  (⟨(wrap64 (a.Low + b.Low)), (wrap64 (a.High + b.High))⟩ : Interval)
def I_Vector_dot (v : Vector) (w : Vector) : Interval :=
  (I_Interval_plus (I_Interval_plus (I_Interval_times v.X w.X) (I_Interval_times v.Y w.Y)) (I_Interval_times v.Z w.Z))
def I_IsLit (w : Wall) (v : Vector) : Int × Int :=
  if (!I_IsWall w || !I_IsVector v) = true then (0, 1) else if 0 < (I_Vector_dot v (I_Wall_axes w).2.2).Low then (1, 0) else if (I_Vector_dot v (I_Wall_axes w).2.2).High < 0 then (-1, 0) else (0, 0)
def I_isLatitude (a : Int) : Bool :=
  (I_in a (-324000) 324000)
def L_eqInterval (a : Interval) (b : Interval) : Bool :=
  if (a.Low != b.Low) then
    false
  else
    if (a.High != b.High) then
      false
    else
      true
def L_eqVector (a : Vector) (b : Vector) : Bool :=
  if (!(L_eqInterval a.X b.X)) then
    false
  else
    if (!(L_eqInterval a.Y b.Y)) then
      false
    else
      if (!(L_eqInterval a.Z b.Z)) then
        false
      else
        true
def S_l01Is (n : Int) : Bool :=
  (S_l01In n (-1000000000000) 1000000000000)
def S_IsInterval (a : Interval) : Bool :=
  (((S_l01Is a.Low) && (S_l01Is a.High)) && (decide (a.Low ≤ a.High)))
def S_l09Declination (d : Interval) : Bool :=
  (((S_IsInterval d) && (S_l09Latitude d.Low)) && (S_l09Latitude d.High))
def S_l09Minute (m : Int) : Bool :=
  (S_l01In m 0 1439)
def S_l02Hull (a : Interval) (b : Interval) : Interval :=
  (⟨(min a.Low b.Low), (max a.High b.High)⟩ : Interval)
def S_l04Range (a : Interval) : Interval :=
  let out_1 := (S_l02Hull (S_l04Sin a.Low) (S_l04Sin a.High))
  let out_3 := if (decide ((S_l03Plain (wrap64 (324000 - a.Low))) ≤ (wrap64 (a.High - a.Low)))) then
    let out_2 := (S_l02Hull out_1 (⟨1000000, 1000000⟩ : Interval))
    out_2
  else
    out_1
  let out_5 := if (decide ((S_l03Plain (wrap64 ((-324000) - a.Low))) ≤ (wrap64 (a.High - a.Low)))) then
    let out_4 := (S_l02Hull out_3 (⟨(-1000000), (-1000000)⟩ : Interval))
    out_4
  else
    out_3
  out_5
def S_l09Hour (m : Int) : Int :=
  (wrap64 ((wrap64 (m - 720)) * 900))
def S_l02Sub (a : Interval) (b : Interval) : Interval :=
  (⟨(wrap64 (a.Low - b.High)), (wrap64 (a.High - b.Low))⟩ : Interval)
def S_l09Sun (latitude : Int) (declination : Interval) (minute : Int) : Vector :=
  let sd_1 := (S_l04Range declination)
  let cd_2 := (S_l04Range (⟨(wrap64 (declination.Low + 324000)), (wrap64 (declination.High + 324000))⟩ : Interval))
  let t_3 := (S_l04Sin (S_l09Hour minute))
  let t_4 := (S_l04Cos (S_l09Hour minute))
  let sh_5 := t_3
  let ch_6 := t_4
  let t_7 := (S_l04Sin latitude)
  let t_8 := (S_l04Cos latitude)
  let sf_9 := t_7
  let cf_10 := t_8
  let around_11 := (S_l02Mul cd_2 ch_6)
  (⟨(S_l02Sub (⟨0, 0⟩ : Interval) (S_l02Mul cd_2 sh_5)), (S_l02Sub (S_l02Mul sd_1 cf_10) (S_l02Mul around_11 sf_9)), (S_l02Add (S_l02Mul sd_1 sf_9) (S_l02Mul around_11 cf_10))⟩ : Vector)
def S_SunDirection (latitude : Int) (declination : Interval) (minute : Int) : Vector × Int :=
  if (!(S_l09Declination declination)) then
    ((⟨(⟨0, 0⟩ : Interval), (⟨0, 0⟩ : Interval), (⟨0, 0⟩ : Interval)⟩ : Vector), 1)
  else
    if ((!(S_l09Latitude latitude)) || (!(S_l09Minute minute))) then
      ((⟨(⟨0, 0⟩ : Interval), (⟨0, 0⟩ : Interval), (⟨0, 0⟩ : Interval)⟩ : Vector), 2)
    else
      ((S_l09Sun latitude declination minute), 0)
def I_isDeclination (d : Interval) : Bool :=
  ((I_IsInterval d) && (I_Interval_within d 324000))
def I_isMinute (m : Int) : Bool :=
  (I_in m 0 1439)
def I_Interval_hull (a : Interval) (b : Interval) : Interval :=
  (⟨(min a.Low b.Low), (max a.High b.High)⟩ : Interval)
def I_sineRange (a : Interval) : Interval :=
  let hull := I_Interval_hull (I_sine a.Low) (I_sine a.High)
  let hull := if wrap64 (a.Low + I_plain (wrap64 (324000 - a.Low))) ≤ a.High then I_Interval_hull hull (⟨1000000, 1000000⟩ : Interval) else hull
  let hull := if wrap64 (a.Low + I_plain (wrap64 (-324000 - a.Low))) ≤ a.High then I_Interval_hull hull (⟨-1000000, -1000000⟩ : Interval) else hull
  hull
def I_Interval_shifted (a : Interval) (by_ : Int) : Interval :=
  (⟨(wrap64 (a.Low + by_)), (wrap64 (a.High + by_))⟩ : Interval)
def I_cosineRange (a : Interval) : Interval :=
  (I_sineRange (I_Interval_shifted a 324000))
def I_Interval_minus (a : Interval) (b : Interval) : Interval :=
  (⟨(wrap64 (a.Low - b.High)), (wrap64 (a.High - b.Low))⟩ : Interval)
def I_sunAt (latitude : Int) (d : Interval) (minute : Int) : Vector :=
  let h_1 := (wrap64 ((wrap64 (minute - 720)) * 900))
  let t_2 := (I_sineRange d)
  let t_3 := (I_cosineRange d)
  let sd_4 := t_2
  let cd_5 := t_3
  let t_6 := (I_sine latitude)
  let t_7 := (I_cosine latitude)
  let sf_8 := t_6
  let cf_9 := t_7
  let flat_10 := (I_Interval_times cd_5 (I_cosine h_1))
  (⟨(I_Interval_minus (⟨0, 0⟩ : Interval) (I_Interval_times cd_5 (I_sine h_1))), (I_Interval_minus (I_Interval_times sd_4 cf_9) (I_Interval_times flat_10 sf_8)), (I_Interval_plus (I_Interval_times sd_4 sf_8) (I_Interval_times flat_10 cf_9))⟩ : Vector)
def I_SunDirection (latitude : Int) (declination : Interval) (minute : Int) : Vector × Int :=
  if (!(I_isDeclination declination)) then
    ((⟨(⟨0, 0⟩ : Interval), (⟨0, 0⟩ : Interval), (⟨0, 0⟩ : Interval)⟩ : Vector), 1)
  else
    if ((!(I_isLatitude latitude)) || (!(I_isMinute minute))) then
      ((⟨(⟨0, 0⟩ : Interval), (⟨0, 0⟩ : Interval), (⟨0, 0⟩ : Interval)⟩ : Vector), 2)
    else
      ((I_sunAt latitude declination minute), 0)
def S_IsDay (d : Day) : Bool :=
  (((decide (0 ≤ d.Rise)) && (decide (d.Rise < d.Set))) && (decide (d.Set < 1440)))
def S_l12System (system : Int) : Bool :=
  (S_l01In system 0 3)
def S_l12Code (d : Day) (system : Int) (number : Int) : Int :=
  if (!(S_IsDay d)) then
    1
  else
    if ((!(S_l12System system)) || (!(S_l09Minute number))) then
      2
    else
      0
def S_l12Number (d : Day) (system : Int) (minute : Int) : Int :=
  if (system == 0) then
    minute
  else
    if (system == 2) then
      (S_l01Mod (wrap64 (minute - d.Set)) 1440)
    else
      if (system == 3) then
        (S_l01Mod (wrap64 (minute - d.Rise)) 1440)
      else
        if ((decide (d.Rise ≤ minute)) && (decide (minute < d.Set))) then
          (wrap64 (Int.tdiv (wrap64 ((wrap64 (minute - d.Rise)) * 720)) (wrap64 (d.Set - d.Rise))))
        else
          (wrap64 (720 + (wrap64 (Int.tdiv (wrap64 ((S_l01Mod (wrap64 (minute - d.Set)) 1440) * 720)) (wrap64 ((wrap64 (1440 - d.Set)) + d.Rise))))))
def S_HourNumber (d : Day) (system : Int) (minute : Int) : Int × Int :=
  let code_1 := (S_l12Code d system minute)
  if (code_1 != 0) then
    (0, code_1)
  else
    ((S_l12Number d system minute), 0)
def L_toDay (a : Day) : Day :=
  let out_1 := { (⟨0, 0⟩ : Day) with Rise := a.Rise }
  let out_2 := { out_1 with Set := a.Set }
  out_2
def I_IsDay (d : Day) : Bool :=
  (((decide (0 ≤ d.Rise)) && (decide (d.Rise < d.Set))) && (decide (d.Set ≤ 1439)))
def I_counted (d : Day) (minute : Int) (ss : List Int) : Int :=
  if I_IsDay d = true then (if ss.all (fun s => I_in s 0 3) = true then (if I_isMinute minute = true then 0 else 2) else 2) else 1
def I_Day_number (d : Day) (system : Int) (minute : Int) : Int :=
  let italian_1 := (I_mod (wrap64 (minute - d.Set)) 1440)
  if (system == 2) then
    italian_1
  else
    if (system == 3) then
      (I_mod (wrap64 (minute - d.Rise)) 1440)
    else
      if (system == 1) then
        if ((decide (d.Rise ≤ minute)) && (decide (minute < d.Set))) then
          (wrap64 (Int.tdiv (wrap64 ((wrap64 (minute - d.Rise)) * 720)) (wrap64 (d.Set - d.Rise))))
        else
          (wrap64 (720 + (wrap64 (Int.tdiv (wrap64 (italian_1 * 720)) (wrap64 ((wrap64 (1440 - d.Set)) + d.Rise))))))
      else
        minute
def I_HourNumber (d : Day) (system : Int) (minute : Int) : Int × Int :=
  let code_1 := (I_counted d minute [system])
  if (code_1 != 0) then
    (0, code_1)
  else
    ((I_Day_number d system minute), 0)
/-- The numbers below k that are chosen, in their order. -/
def withUp (f : Int → Bool) : Nat → List Int
  | 0 => []
  | k + 1 => if f (k : Int) = true then withUp f k ++ [(k : Int)] else withUp f k
def S_l12With (d : Day) (system number : Int) : List Int := withUp (fun m => decide (S_l12Number d system m = number)) 1440
def I_Day_minutesWith (d : Day) (system number : Int) : List Int := withUp (fun m => decide (I_Day_number d system m = number)) 1440
def I_TemporalLength (d : Day) (night : Bool) : Int × Int :=
  if (!(I_IsDay d)) then
    (0, 1)
  else
    let minutes_1 := (wrap64 (d.Set - d.Rise))
    let minutes_3 := if night then
      let minutes_2 := (wrap64 (1440 - minutes_1))
      minutes_2
    else
      minutes_1
    ((wrap64 (Int.tdiv (wrap64 (minutes_3 * 60)) 12)), 0)
def S_TemporalLength (d : Day) (night : Bool) : Int × Int :=
  if (!(S_IsDay d)) then
    (0, 1)
  else
    if night then
      ((wrap64 ((wrap64 ((wrap64 (1440 - d.Set)) + d.Rise)) * 5)), 0)
    else
      ((wrap64 ((wrap64 (d.Set - d.Rise)) * 5)), 0)
def I_MiddleOfDay (d : Day) : Int × Int :=
  if (!(I_IsDay d)) then
    (0, 1)
  else
    ((wrap64 (Int.tdiv (wrap64 (d.Rise + d.Set)) 2)), 0)
def S_MiddleOfDay (d : Day) : Int × Int :=
  if (!(S_IsDay d)) then
    (0, 1)
  else
    ((wrap64 (Int.tdiv (wrap64 (d.Rise + d.Set)) 2)), 0)
def S_l14Point (x : Int) (y : Int) : Bool :=
  ((S_l01In x (-1000000) 1000000) && (S_l01In y (-1000000) 1000000))
def S_l16Square (a : Point) (b : Point) : Int :=
  (wrap64 ((wrap64 ((wrap64 (a.X - b.X)) * (wrap64 (a.X - b.X)))) + (wrap64 ((wrap64 (a.Y - b.Y)) * (wrap64 (a.Y - b.Y))))))
def L_toPoint (a : Point) : Point :=
  let out_1 := { (⟨0, 0⟩ : Point) with X := a.X }
  let out_2 := { out_1 with Y := a.Y }
  out_2
def I_isSpot (x : Int) : Bool :=
  (I_in x (-1000000) 1000000)
def I_isPoint (p : Point) : Bool :=
  ((I_isSpot p.X) && (I_isSpot p.Y))
def I_Point_square (p : Point) (q : Point) : Int :=
  (wrap64 ((wrap64 ((wrap64 (p.X - q.X)) * (wrap64 (p.X - q.X)))) + (wrap64 ((wrap64 (p.Y - q.Y)) * (wrap64 (p.Y - q.Y))))))
def L_eqPoint (a : Point) (b : Point) : Bool :=
  if (a.X != b.X) then
    false
  else
    if (a.Y != b.Y) then
      false
    else
      true
def L_eqPlace (a : Place) (b : Place) : Bool :=
  if (!(L_eqInterval a.X b.X)) then
    false
  else
    if (!(L_eqInterval a.Y b.Y)) then
      false
    else
      true
end Go.Proofs.Ythooejkmccdfjaa
