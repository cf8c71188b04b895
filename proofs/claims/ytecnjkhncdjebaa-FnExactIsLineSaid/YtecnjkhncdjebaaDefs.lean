/- Plain definitions: one for each Go function of the plain fragment, printed by a program of the author's own (gen.py). -/
import Derived.RowKit
namespace Go.Proofs.Ytecnjkhncdjebaa
set_option linter.unusedVariables false
open Go.RowKit (wrap64)
structure Face where
  Left : Int
  Bottom : Int
  Right : Int
  Top : Int

structure Point where
  X : Int
  Y : Int

structure Interval where
  Low : Int
  High : Int

structure Place where
  X : Interval
  Y : Interval

def S_l01In (n : Int) (low : Int) (high : Int) : Bool :=
  ((decide (low ≤ n)) && (decide (n ≤ high)))
def S_l14Point (x : Int) (y : Int) : Bool :=
  ((S_l01In x (-1000000) 1000000) && (S_l01In y (-1000000) 1000000))
def S_IsFace (f : Face) : Bool :=
  ((((S_l14Point f.Left f.Bottom) && (S_l14Point f.Right f.Top)) && (decide (f.Left < f.Right))) && (decide (f.Bottom < f.Top)))
def S_MeetFaces (f : Face) (g : Face) : Face × Int :=
  if ((!(S_IsFace f)) || (!(S_IsFace g))) then
    ((⟨0, 0, 0, 0⟩ : Face), 1)
  else
    let out_1 := (⟨(max f.Left g.Left), (max f.Bottom g.Bottom), (min f.Right g.Right), (min f.Top g.Top)⟩ : Face)
    if (!(S_IsFace out_1)) then
      ((⟨0, 0, 0, 0⟩ : Face), 4)
    else
      (out_1, 0)
def L_toFace (a : Face) : Face :=
  let out_1 := { (⟨0, 0, 0, 0⟩ : Face) with Left := a.Left }
  let out_2 := { out_1 with Bottom := a.Bottom }
  let out_3 := { out_2 with Right := a.Right }
  let out_4 := { out_3 with Top := a.Top }
  out_4
def I_in (n : Int) (low : Int) (high : Int) : Bool :=
  ((decide (low ≤ n)) && (decide (n ≤ high)))
def I_isSpot (x : Int) : Bool :=
  (I_in x (-1000000) 1000000)
def I_IsFace (f : Face) : Bool :=
  ((((((I_isSpot f.Left) && (I_isSpot f.Bottom)) && (I_isSpot f.Right)) && (I_isSpot f.Top)) && (decide (f.Left < f.Right))) && (decide (f.Bottom < f.Top)))
def I_MeetFaces (f : Face) (g : Face) : Face × Int :=
  if ((!(I_IsFace f)) || (!(I_IsFace g))) then
    ((⟨0, 0, 0, 0⟩ : Face), 1)
  else
    let h_1 := (⟨(max f.Left g.Left), (max f.Bottom g.Bottom), (min f.Right g.Right), (min f.Top g.Top)⟩ : Face)
    if (!(I_IsFace h_1)) then
      ((⟨0, 0, 0, 0⟩ : Face), 4)
    else
      (h_1, 0)
def L_eqFace (a : Face) (b : Face) : Bool :=
  if (a.Left != b.Left) then
    false
  else
    if (a.Bottom != b.Bottom) then
      false
    else
      if (a.Right != b.Right) then
        false
      else
        if (a.Top != b.Top) then
          false
        else
          true
def S_l18In (f : Face) (p : Point) : Bool :=
  ((S_l01In p.X f.Left f.Right) && (S_l01In p.Y f.Bottom f.Top))
def S_InFace (f : Face) (p : Point) : Bool × Int :=
  if (!(S_IsFace f)) then
    (false, 1)
  else
    if (!(S_l14Point p.X p.Y)) then
      (false, 2)
    else
      ((S_l18In f p), 0)
def L_toPoint (a : Point) : Point :=
  let out_1 := { (⟨0, 0⟩ : Point) with X := a.X }
  let out_2 := { out_1 with Y := a.Y }
  out_2
def I_isPoint (p : Point) : Bool :=
  ((I_isSpot p.X) && (I_isSpot p.Y))
def I_faced (f : Face) (ps : List Point) : Int := if I_IsFace f = true then (if ps.all I_isPoint = true then 0 else 2) else 1
def I_Face_has (f : Face) (p : Point) : Bool :=
  ((I_in p.X f.Left f.Right) && (I_in p.Y f.Bottom f.Top))
def I_InFace (f : Face) (p : Point) : Bool × Int :=
  let code_1 := (I_faced f [p])
  if (code_1 != 0) then
    (false, code_1)
  else
    ((I_Face_has f p), 0)
def S_l14Coordinate (a : Interval) : Bool :=
  ((S_l01In a.Low (-1000000) a.High) && (S_l01In a.High (-1000000) 1000000))
def S_IsPlace (p : Place) : Bool :=
  ((S_l14Coordinate p.X) && (S_l14Coordinate p.Y))
def S_l01Floor (a : Int) (b : Int) : Int :=
  let a_5 := if (decide (b < 0)) then
    let t_1 := (wrap64 (-a))
    let t_2 := (wrap64 (-b))
    let a_3 := t_1
    let b_4 := t_2
    a_3
  else
    a
  let b_10 := if (decide (b < 0)) then
    let t_6 := (wrap64 (-a))
    let t_7 := (wrap64 (-b))
    let a_8 := t_6
    let b_9 := t_7
    b_9
  else
    b
  let q_11 := (wrap64 (Int.tdiv a_5 b_10))
  let q_13 := if (decide ((Int.tmod a_5 b_10) < 0)) then
    let q_12 := (wrap64 (q_11 - 1))
    q_12
  else
    q_11
  q_13
def S_l14Middle (p : Place) : Int × Int :=
  ((S_l01Floor (wrap64 (p.X.Low + p.X.High)) 2), (S_l01Floor (wrap64 (p.Y.Low + p.Y.High)) 2))
def S_MiddleOf (p : Place) : Int × Int × Int :=
  if (!(S_IsPlace p)) then
    (0, 0, 1)
  else
    let t_1 := (S_l14Middle p)
    let x_2 := t_1.1
    let y_3 := t_1.2
    (x_2, y_3, 0)
def L_toInterval (a : Interval) : Interval :=
  let out_1 := { (⟨0, 0⟩ : Interval) with Low := a.Low }
  let out_2 := { out_1 with High := a.High }
  out_2
def L_toPlace (a : Place) : Place :=
  let out_1 := { (⟨(⟨0, 0⟩ : Interval), (⟨0, 0⟩ : Interval)⟩ : Place) with X := (L_toInterval a.X) }
  let out_2 := { out_1 with Y := (L_toInterval a.Y) }
  out_2
def I_Interval_within (a : Interval) (most : Int) : Bool :=
  ((I_in a.Low (wrap64 (-most)) most) && (I_in a.High (wrap64 (-most)) most))
def I_IsPlace (p : Place) : Bool :=
  ((((I_Interval_within p.X 1000000) && (I_Interval_within p.Y 1000000)) && (decide (p.X.Low ≤ p.X.High))) && (decide (p.Y.Low ≤ p.Y.High)))
def I_floor (a : Int) (b : Int) : Int :=
  let q_1 := (wrap64 (Int.tdiv a b))
  let r_2 := (Int.tmod a b)
  let q_4 := if ((r_2 != 0) && ((decide (r_2 < 0)) != (decide (b < 0)))) then
    let q_3 := (wrap64 (q_1 - 1))
    q_3
  else
    q_1
  q_4
def I_Place_middle (p : Place) : Point :=
  (⟨(I_floor (wrap64 (p.X.Low + p.X.High)) 2), (I_floor (wrap64 (p.Y.Low + p.Y.High)) 2)⟩ : Point)
def I_MiddleOf (p : Place) : Int × Int × Int :=
  if (!(I_IsPlace p)) then
    (0, 0, 1)
  else
    let m_1 := (I_Place_middle p)
    (m_1.X, m_1.Y, 0)
def S_l14Error (p : Place) : Int :=
  let t_1 := (S_l14Middle p)
  let x_2 := t_1.1
  let y_3 := t_1.2
  (max (max (max (wrap64 (x_2 - p.X.Low)) (wrap64 (p.X.High - x_2))) (wrap64 (y_3 - p.Y.Low))) (wrap64 (p.Y.High - y_3)))
def S_PlaceError (p : Place) : Int × Int :=
  if (!(S_IsPlace p)) then
    (0, 1)
  else
    ((S_l14Error p), 0)
def I_Place_err (p : Place) : Int :=
  let m_1 := (I_Place_middle p)
  (max (max (max (wrap64 (m_1.X - p.X.Low)) (wrap64 (p.X.High - m_1.X))) (wrap64 (m_1.Y - p.Y.Low))) (wrap64 (p.Y.High - m_1.Y)))
def I_PlaceError (p : Place) : Int × Int :=
  if (!(I_IsPlace p)) then
    (0, 1)
  else
    ((I_Place_err p), 0)
def S_l14Result (p : Place) : Place × Int :=
  if (!(S_IsPlace p)) then
    ((⟨(⟨0, 0⟩ : Interval), (⟨0, 0⟩ : Interval)⟩ : Place), 3)
  else
    (p, 0)
def S_l14Widen (p : Place) (by_ : Int) : Place :=
  (⟨(⟨(wrap64 (p.X.Low - by_)), (wrap64 (p.X.High + by_))⟩ : Interval), (⟨(wrap64 (p.Y.Low - by_)), (wrap64 (p.Y.High + by_))⟩ : Interval)⟩ : Place)
def S_WidenPlace (p : Place) (by_ : Int) : Place × Int :=
  if (!(S_IsPlace p)) then
    ((⟨(⟨0, 0⟩ : Interval), (⟨0, 0⟩ : Interval)⟩ : Place), 1)
  else
    if (!(S_l01In by_ 0 1000000)) then
      ((⟨(⟨0, 0⟩ : Interval), (⟨0, 0⟩ : Interval)⟩ : Place), 2)
    else
      (S_l14Result (S_l14Widen p by_))
def I_Place_wider (p : Place) (by_ : Int) : Place :=
  (⟨(⟨(wrap64 (p.X.Low - by_)), (wrap64 (p.X.High + by_))⟩ : Interval), (⟨(wrap64 (p.Y.Low - by_)), (wrap64 (p.Y.High + by_))⟩ : Interval)⟩ : Place)
def I_WidenPlace (p : Place) (by_ : Int) : Place × Int :=
  if (!(I_IsPlace p)) then
    ((⟨(⟨0, 0⟩ : Interval), (⟨0, 0⟩ : Interval)⟩ : Place), 1)
  else
    if (!(I_in by_ 0 1000000)) then
      ((⟨(⟨0, 0⟩ : Interval), (⟨0, 0⟩ : Interval)⟩ : Place), 2)
    else
      if (!(I_IsPlace (I_Place_wider p by_))) then
        ((⟨(⟨0, 0⟩ : Interval), (⟨0, 0⟩ : Interval)⟩ : Place), 3)
      else
        ((I_Place_wider p by_), 0)
def L_eqInterval (a : Interval) (b : Interval) : Bool :=
  if (a.Low != b.Low) then
    false
  else
    if (a.High != b.High) then
      false
    else
      true
def L_eqPlace (a : Place) (b : Place) : Bool :=
  if (!(L_eqInterval a.X b.X)) then
    false
  else
    if (!(L_eqInterval a.Y b.Y)) then
      false
    else
      true
def L_eqPoint (a : Point) (b : Point) : Bool :=
  if (a.X != b.X) then
    false
  else
    if (a.Y != b.Y) then
      false
    else
      true
def S_l16Square (a : Point) (b : Point) : Int :=
  (wrap64 ((wrap64 ((wrap64 (a.X - b.X)) * (wrap64 (a.X - b.X)))) + (wrap64 ((wrap64 (a.Y - b.Y)) * (wrap64 (a.Y - b.Y))))))
def S_l01Abs (n : Int) : Int :=
  (max n (wrap64 (-n)))
def I_Point_square (p : Point) (q : Point) : Int :=
  (wrap64 ((wrap64 ((wrap64 (p.X - q.X)) * (wrap64 (p.X - q.X)))) + (wrap64 ((wrap64 (p.Y - q.Y)) * (wrap64 (p.Y - q.Y))))))
def I_abs (n : Int) : Int :=
  (max n (wrap64 (-n)))
def S_l02Hull (a : Interval) (b : Interval) : Interval :=
  (⟨(min a.Low b.Low), (max a.High b.High)⟩ : Interval)
def I_Interval_hull (a : Interval) (b : Interval) : Interval :=
  (⟨(min a.Low b.Low), (max a.High b.High)⟩ : Interval)
end Go.Proofs.Ytecnjkhncdjebaa
