/- Plain definitions: one for each Go function of the plain fragment, printed by a program of the author's own (gen.py). -/
import Derived.RowKit
namespace Go.Proofs.Ytnplaheokckioaa
set_option linter.unusedVariables false
open Go.RowKit (wrap64)
structure Day where
  Rise : Int
  Set : Int

structure Wall where
  Azimuth : Int
  Slope : Int

structure Interval where
  Low : Int
  High : Int

structure Face where
  Left : Int
  Bottom : Int
  Right : Int
  Top : Int

structure Place where
  X : Interval
  Y : Interval

structure Dial where
  Latitude : Int
  Wall : Wall
  Height : Int

structure Zone where
  Offset : Int
  StartMonth : Int
  StartWeek : Int
  EndMonth : Int
  EndWeek : Int

def S_IsDay (d : Day) : Bool :=
  (((decide (0 ≤ d.Rise)) && (decide (d.Rise < d.Set))) && (decide (d.Set < 1440)))
def L_toDay (a : Day) : Day :=
  let out_1 := { (⟨0, 0⟩ : Day) with Rise := a.Rise }
  let out_2 := { out_1 with Set := a.Set }
  out_2
def I_IsDay (d : Day) : Bool :=
  (((decide (0 ≤ d.Rise)) && (decide (d.Rise < d.Set))) && (decide (d.Set ≤ 1439)))
def S_l01In (n : Int) (low : Int) (high : Int) : Bool :=
  ((decide (low ≤ n)) && (decide (n ≤ high)))
def S_l09Latitude (a : Int) : Bool :=
  (S_l01In a (-324000) 324000)
def S_IsWall (w : Wall) : Bool :=
  ((S_l01In w.Azimuth 0 1295999) && (S_l09Latitude w.Slope))
def L_toWall (a : Wall) : Wall :=
  let out_1 := { (⟨0, 0⟩ : Wall) with Azimuth := a.Azimuth }
  let out_2 := { out_1 with Slope := a.Slope }
  out_2
def I_in (n : Int) (low : Int) (high : Int) : Bool :=
  ((decide (low ≤ n)) && (decide (n ≤ high)))
def I_IsWall (w : Wall) : Bool :=
  ((I_in w.Azimuth 0 1295999) && (I_in w.Slope (-324000) 324000))
def S_l01Is (n : Int) : Bool :=
  (S_l01In n (-1000000000000) 1000000000000)
def S_IsInterval (a : Interval) : Bool :=
  (((S_l01Is a.Low) && (S_l01Is a.High)) && (decide (a.Low ≤ a.High)))
def S_HasNumber (a : Interval) (x : Int) : Bool :=
  ((S_IsInterval a) && (S_l01In x a.Low a.High))
def L_toInterval (a : Interval) : Interval :=
  let out_1 := { (⟨0, 0⟩ : Interval) with Low := a.Low }
  let out_2 := { out_1 with High := a.High }
  out_2
def I_isValue (n : Int) : Bool :=
  (I_in n (-1000000000000) 1000000000000)
def I_IsInterval (a : Interval) : Bool :=
  (((I_isValue a.Low) && (I_isValue a.High)) && (decide (a.Low ≤ a.High)))
def I_Interval_has (a : Interval) (x : Int) : Bool :=
  (I_in x a.Low a.High)
def I_HasNumber (a : Interval) (x : Int) : Bool :=
  ((I_IsInterval a) && (I_Interval_has a x))
def S_l09Minute (m : Int) : Bool :=
  (S_l01In m 0 1439)
def S_l09Hour (m : Int) : Int :=
  (wrap64 ((wrap64 (m - 720)) * 900))
def S_HourAngleOf (minute : Int) : Int × Int :=
  if (!(S_l09Minute minute)) then
    (0, 2)
  else
    ((S_l09Hour minute), 0)
def I_isMinute (m : Int) : Bool :=
  (I_in m 0 1439)
def I_HourAngleOf (minute : Int) : Int × Int :=
  if (!(I_isMinute minute)) then
    (0, 2)
  else
    ((wrap64 ((wrap64 (minute - 720)) * 900)), 0)
def S_MiddleOfDay (d : Day) : Int × Int :=
  if (!(S_IsDay d)) then
    (0, 1)
  else
    ((wrap64 (Int.tdiv (wrap64 (d.Rise + d.Set)) 2)), 0)
def I_MiddleOfDay (d : Day) : Int × Int :=
  if (!(I_IsDay d)) then
    (0, 1)
  else
    ((wrap64 (Int.tdiv (wrap64 (d.Rise + d.Set)) 2)), 0)
def S_l14Point (x : Int) (y : Int) : Bool :=
  ((S_l01In x (-1000000) 1000000) && (S_l01In y (-1000000) 1000000))
def S_IsFace (f : Face) : Bool :=
  ((((S_l14Point f.Left f.Bottom) && (S_l14Point f.Right f.Top)) && (decide (f.Left < f.Right))) && (decide (f.Bottom < f.Top)))
def L_toFace (a : Face) : Face :=
  let out_1 := { (⟨0, 0, 0, 0⟩ : Face) with Left := a.Left }
  let out_2 := { out_1 with Bottom := a.Bottom }
  let out_3 := { out_2 with Right := a.Right }
  let out_4 := { out_3 with Top := a.Top }
  out_4
def I_isSpot (x : Int) : Bool :=
  (I_in x (-1000000) 1000000)
def I_IsFace (f : Face) : Bool :=
  ((((((I_isSpot f.Left) && (I_isSpot f.Bottom)) && (I_isSpot f.Right)) && (I_isSpot f.Top)) && (decide (f.Left < f.Right))) && (decide (f.Bottom < f.Top)))
def S_l14Coordinate (a : Interval) : Bool :=
  ((S_l01In a.Low (-1000000) a.High) && (S_l01In a.High (-1000000) 1000000))
def S_IsPlace (p : Place) : Bool :=
  ((S_l14Coordinate p.X) && (S_l14Coordinate p.Y))
def L_toPlace (a : Place) : Place :=
  let out_1 := { (⟨(⟨0, 0⟩ : Interval), (⟨0, 0⟩ : Interval)⟩ : Place) with X := (L_toInterval a.X) }
  let out_2 := { out_1 with Y := (L_toInterval a.Y) }
  out_2
def I_Interval_within (a : Interval) (most : Int) : Bool :=
  ((I_in a.Low (wrap64 (-most)) most) && (I_in a.High (wrap64 (-most)) most))
def I_IsPlace (p : Place) : Bool :=
  ((((I_Interval_within p.X 1000000) && (I_Interval_within p.Y 1000000)) && (decide (p.X.Low ≤ p.X.High))) && (decide (p.Y.Low ≤ p.Y.High)))
def S_l14Height (height : Int) : Bool :=
  (S_l01In height 1 10000)
def S_IsDial (d : Dial) : Bool :=
  (((S_l09Latitude d.Latitude) && (S_IsWall d.Wall)) && (S_l14Height d.Height))
def L_toDial (a : Dial) : Dial :=
  let out_1 := { (⟨0, (⟨0, 0⟩ : Wall), 0⟩ : Dial) with Latitude := a.Latitude }
  let out_2 := { out_1 with Wall := (L_toWall a.Wall) }
  let out_3 := { out_2 with Height := a.Height }
  out_3
def I_isLatitude (a : Int) : Bool :=
  (I_in a (-324000) 324000)
def I_isHeight (height : Int) : Bool :=
  (I_in height 1 10000)
def I_IsDial (d : Dial) : Bool :=
  (((I_isLatitude d.Latitude) && (I_IsWall d.Wall)) && (I_isHeight d.Height))
def S_TemporalLength (d : Day) (night : Bool) : Int × Int :=
  if (!(S_IsDay d)) then
    (0, 1)
  else
    if night then
      ((wrap64 ((wrap64 ((wrap64 (1440 - d.Set)) + d.Rise)) * 5)), 0)
    else
      ((wrap64 ((wrap64 (d.Set - d.Rise)) * 5)), 0)
def I_TemporalLength (d : Day) (night : Bool) : Int × Int :=
  if (!(I_IsDay d)) then
    (0, 1)
  else
    let minutes_1 := (wrap64 (d.Set - d.Rise))
    let minutes_3 := if night then
      let minutes_2 := (wrap64 (1440 - minutes_1))
      minutes_2
    else
      minutes_1
    ((wrap64 (Int.tdiv (wrap64 (minutes_3 * 60)) 12)), 0)
def S_IsZone (z : Zone) : Bool :=
  if (!(S_l01In z.Offset (-840) 840)) then
    false
  else
    if (z.StartMonth == 0) then
      (((z.StartWeek == 0) && (z.EndMonth == 0)) && (z.EndWeek == 0))
    else
      (((((S_l01In z.StartMonth 1 12) && (S_l01In z.EndMonth 1 12)) && (z.StartMonth != z.EndMonth)) && (S_l01In z.StartWeek 0 4)) && (S_l01In z.EndWeek 0 4))
def L_toZone (a : Zone) : Zone :=
  let out_1 := { (⟨0, 0, 0, 0, 0⟩ : Zone) with Offset := a.Offset }
  let out_2 := { out_1 with StartMonth := a.StartMonth }
  let out_3 := { out_2 with StartWeek := a.StartWeek }
  let out_4 := { out_3 with EndMonth := a.EndMonth }
  let out_5 := { out_4 with EndWeek := a.EndWeek }
  out_5
def I_IsZone (z : Zone) : Bool :=
  if (!(I_in z.Offset (-840) 840)) then
    false
  else
    if (z.StartMonth == 0) then
      ((z.Offset == (⟨z.Offset, 0, 0, 0, 0⟩ : Zone).Offset) && (z.StartMonth == (⟨z.Offset, 0, 0, 0, 0⟩ : Zone).StartMonth) && (z.StartWeek == (⟨z.Offset, 0, 0, 0, 0⟩ : Zone).StartWeek) && (z.EndMonth == (⟨z.Offset, 0, 0, 0, 0⟩ : Zone).EndMonth) && (z.EndWeek == (⟨z.Offset, 0, 0, 0, 0⟩ : Zone).EndWeek))
    else
      let months_1 := (((I_in z.StartMonth 1 12) && (I_in z.EndMonth 1 12)) && (z.StartMonth != z.EndMonth))
      ((months_1 && (I_in z.StartWeek 0 4)) && (I_in z.EndWeek 0 4))
def S_l01Mod (a : Int) (m : Int) : Int :=
  (Int.tmod (wrap64 ((Int.tmod a m) + m)) m)
def S_l03Plain (a : Int) : Int :=
  (S_l01Mod a 1296000)
def S_OppositeWall (w : Wall) : Wall × Int :=
  if (!(S_IsWall w)) then
    ((⟨0, 0⟩ : Wall), 1)
  else
    ((⟨(S_l03Plain (wrap64 (w.Azimuth + 648000))), (wrap64 (-w.Slope))⟩ : Wall), 0)
def I_floor (a : Int) (b : Int) : Int :=
  let q_1 := (wrap64 (Int.tdiv a b))
  let r_2 := (Int.tmod a b)
  let q_4 := if ((r_2 != 0) && ((decide (r_2 < 0)) != (decide (b < 0)))) then
    let q_3 := (wrap64 (q_1 - 1))
    q_3
  else
    q_1
  q_4
def I_mod (a : Int) (b : Int) : Int :=
  (wrap64 (a - (wrap64 ((I_floor a b) * b))))
def I_plain (a : Int) : Int :=
  (I_mod a 1296000)
def I_OppositeWall (w : Wall) : Wall × Int :=
  if (!(I_IsWall w)) then
    ((⟨0, 0⟩ : Wall), 1)
  else
    ((⟨(I_plain (wrap64 (w.Azimuth + 648000))), (wrap64 (-w.Slope))⟩ : Wall), 0)
def L_eqWall (a : Wall) (b : Wall) : Bool :=
  if (a.Azimuth != b.Azimuth) then
    false
  else
    if (a.Slope != b.Slope) then
      false
    else
      true
def S_l14May (p : Place) (x : Int) (y : Int) : Bool :=
  ((S_l01In x p.X.Low p.X.High) && (S_l01In y p.Y.Low p.Y.High))
def S_MayBeAt (p : Place) (x : Int) (y : Int) : Bool × Int :=
  if (!(S_IsPlace p)) then
    (false, 1)
  else
    if (!(S_l14Point x y)) then
      (false, 2)
    else
      ((S_l14May p x y), 0)
def I_MayBeAt (p : Place) (x : Int) (y : Int) : Bool × Int :=
  if (!(I_IsPlace p)) then
    (false, 1)
  else
    if ((!(I_isSpot x)) || (!(I_isSpot y))) then
      (false, 2)
    else
      (((I_Interval_has p.X x) && (I_Interval_has p.Y y)), 0)
end Go.Proofs.Ytnplaheokckioaa
