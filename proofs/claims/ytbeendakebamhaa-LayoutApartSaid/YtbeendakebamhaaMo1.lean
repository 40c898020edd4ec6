/- What the functions reckon, as plain words. No statement of the seat is proved here; no condition. -/
import Derived.Test.YtbeendakebamhaaTy
namespace Go.Proofs.Ytbeendakebamhaa

/-- serial.isSize -/
def serial_isSize (np0 : Int) : Option Bool :=
  br (decide (np0 ≥ (1 : Int)))
  (some (decide (np0 ≤ (32768 : Int))))
  (some false)

/-- serial.Power -/
def serial_Power (np0 : Int) : Option Bool :=
  ob (serial_isSize np0) fun issize1 =>
  br (issize1)
  (some ((andi np0 (wi (np0 - (1 : Int)))) == (0 : Int)))
  (some false)

/-- layout.isSize -/
def layout_isSize (rp0 : Rings) : Option Bool :=
  br (rp0.Packed)
  (br (decide (rp0.Size ≥ (1 : Int)))
  (some (decide (rp0.Size ≤ (32768 : Int))))
  (some false))
  (ob (serial_Power rp0.Size) fun power1 =>
  some power1)

/-- layout.steps -/
def layout_steps (rp0 : Rings) : Option (A3 UInt64) :=
  br (rp0.Packed)
  (some (A3.mk (16 : UInt64) (4 : UInt64) (4 : UInt64)))
  (some (A3.mk (16 : UInt64) (2 : UInt64) (4 : UInt64)))

/-- layout.Parts -/
def layout_Parts (rp0 : Rings) : Option (UInt64 × UInt64 × UInt64) :=
  ob (layout_isSize rp0) fun issize1 =>
  br ((!issize1))
  (some ((0 : UInt64), (0 : UInt64), (0 : UInt64)))
  (br (rp0.Packed)
  (some ((16 : UInt64) * (u64 rp0.Size), (4 : UInt64), (4 : UInt64)))
  (some ((16 : UInt64) * (u64 rp0.Size), (6 : UInt64) + ((2 : UInt64) * (u64 rp0.Size)), (6 : UInt64) + ((8 : UInt64) * (u64 rp0.Size)))))

/-- layout.spans -/
def layout_spans (rp0 : Rings) : Option (A3 (A2 UInt64)) :=
  ob (layout_Parts rp0) fun parts1 =>
  some (A3.mk (A2.mk rp0.Desc parts1.1) (A2.mk rp0.Driver parts1.2.1) (A2.mk rp0.Device parts1.2.2))

/-- serial.Align -/
def serial_Align (np0 : UInt64) (top1 : UInt64) : Option (UInt64 × Int) :=
  br (top1 == (0 : UInt64))
  (some ((0 : UInt64), (2 : Int)))
  (br ((top1 &&& (top1 - (1 : UInt64))) != (0 : UInt64))
  (some ((0 : UInt64), (2 : Int)))
  (br (decide ((np0 + (top1 - (1 : UInt64))) < np0))
  (some ((0 : UInt64), (2 : Int)))
  (some ((np0 + (top1 - (1 : UInt64))) &&& ~~~(top1 - (1 : UInt64)), (0 : Int)))))

/-- layout.beyond -/
def layout_beyond (atp0 : UInt64) (np1 : UInt64) : Option Bool :=
  br (decide (np1 > (0 : UInt64)))
  (some (decide ((np1 - (1 : UInt64)) > ((18446744073709551615 : UInt64) - atp0))))
  (some false)

/-- layout.Place -/
def layout_Place (packed : Bool) (size : Int) (base : UInt64) : Option (Rings × UInt64 × Int) :=
  ob (layout_isSize (Rings.mk packed size (0 : UInt64) (0 : UInt64) (0 : UInt64))) fun issize1 =>
  br ((!issize1))
  (some ((Rings.mk false (0 : Int) (0 : UInt64) (0 : UInt64) (0 : UInt64)), (0 : UInt64), (2 : Int)))
  (ob (layout_steps (Rings.mk packed size (0 : UInt64) (0 : UInt64) (0 : UInt64))) fun steps1 =>
  ob (layout_spans (Rings.mk packed size (0 : UInt64) (0 : UInt64) (0 : UInt64))) fun spans1 =>
  ob (serial_Align base steps1.a0) fun align1 =>
  br (align1.2 != (0 : Int))
  (some ((Rings.mk false (0 : Int) (0 : UInt64) (0 : UInt64) (0 : UInt64)), (0 : UInt64), (2 : Int)))
  (ob (layout_beyond align1.1 spans1.a0.a1) fun beyond1 =>
  br (beyond1)
  (some ((Rings.mk false (0 : Int) (0 : UInt64) (0 : UInt64) (0 : UInt64)), (0 : UInt64), (2 : Int)))
  (br (decide ((align1.1 + spans1.a0.a1) < align1.1))
  (some ((Rings.mk false (0 : Int) (0 : UInt64) (0 : UInt64) (0 : UInt64)), (0 : UInt64), (2 : Int)))
  (ob (serial_Align (align1.1 + spans1.a0.a1) steps1.a1) fun align2 =>
  br (align2.2 != (0 : Int))
  (some ((Rings.mk false (0 : Int) (0 : UInt64) (0 : UInt64) (0 : UInt64)), (0 : UInt64), (2 : Int)))
  (ob (layout_beyond align2.1 spans1.a1.a1) fun beyond2 =>
  br (beyond2)
  (some ((Rings.mk false (0 : Int) (0 : UInt64) (0 : UInt64) (0 : UInt64)), (0 : UInt64), (2 : Int)))
  (br (decide ((align2.1 + spans1.a1.a1) < align2.1))
  (some ((Rings.mk false (0 : Int) (0 : UInt64) (0 : UInt64) (0 : UInt64)), (0 : UInt64), (2 : Int)))
  (ob (serial_Align (align2.1 + spans1.a1.a1) steps1.a2) fun align3 =>
  br (align3.2 != (0 : Int))
  (some ((Rings.mk false (0 : Int) (0 : UInt64) (0 : UInt64) (0 : UInt64)), (0 : UInt64), (2 : Int)))
  (ob (layout_beyond align3.1 spans1.a2.a1) fun beyond3 =>
  br (beyond3)
  (some ((Rings.mk false (0 : Int) (0 : UInt64) (0 : UInt64) (0 : UInt64)), (0 : UInt64), (2 : Int)))
  (br (decide ((align3.1 + spans1.a2.a1) < align3.1))
  (some ((Rings.mk packed size align1.1 align2.1 align3.1), (align3.1 + spans1.a2.a1) - base, (0 : Int)))
  (some ((Rings.mk packed size align1.1 align2.1 align3.1), (align3.1 + spans1.a2.a1) - base, (0 : Int))))))))))))

/-- layout.common -/
def layout_common (atp0 : UInt64) (np1 : UInt64) (top2 : UInt64) (m : UInt64) : Option Bool :=
  br (decide (atp0 ≤ top2))
  (some (decide ((top2 - atp0) < np1)))
  (some (decide ((atp0 - top2) < m)))

/-- layout.Check -/
def layout_Check (rp0 : Rings) : Option Int :=
  ob (layout_isSize rp0) fun issize1 =>
  br ((!issize1))
  (some (2 : Int))
  (ob (layout_spans rp0) fun spans1 =>
  ob (layout_steps rp0) fun steps1 =>
  chk (!(steps1.a0 == 0)) <|
  br ((spans1.a0.a0 % steps1.a0) != (0 : UInt64))
  (some (2 : Int))
  (ob (layout_beyond spans1.a0.a0 spans1.a0.a1) fun beyond1 =>
  br (beyond1)
  (some (2 : Int))
  (chk (!(steps1.a1 == 0)) <|
  br ((spans1.a1.a0 % steps1.a1) != (0 : UInt64))
  (some (2 : Int))
  (ob (layout_beyond spans1.a1.a0 spans1.a1.a1) fun beyond2 =>
  br (beyond2)
  (some (2 : Int))
  (ob (layout_common spans1.a1.a0 spans1.a1.a1 spans1.a0.a0 spans1.a0.a1) fun common1 =>
  br (common1)
  (some (2 : Int))
  (chk (!(steps1.a2 == 0)) <|
  br ((spans1.a2.a0 % steps1.a2) != (0 : UInt64))
  (some (2 : Int))
  (ob (layout_beyond spans1.a2.a0 spans1.a2.a1) fun beyond3 =>
  br (beyond3)
  (some (2 : Int))
  (ob (layout_common spans1.a2.a0 spans1.a2.a1 spans1.a0.a0 spans1.a0.a1) fun common2 =>
  br (common2)
  (some (2 : Int))
  (ob (layout_common spans1.a2.a0 spans1.a2.a1 spans1.a1.a0 spans1.a1.a1) fun common3 =>
  br (common3)
  (some (2 : Int))
  (some (0 : Int)))))))))))

def layout_WhereJ2 (rp0 : Rings) (ip2 : Int) (many1 : Bool) (at1 : UInt64) (bytes1 : Int) : Option (UInt64 × Int × Int) :=
  br (decide (ip2 < (0 : Int)))
  (some ((0 : UInt64), (0 : Int), (2 : Int)))
  (br (many1)
  (br (decide (ip2 ≥ rp0.Size))
  (some ((0 : UInt64), (0 : Int), (2 : Int)))
  (some (at1, bytes1, (0 : Int))))
  (br (ip2 != (0 : Int))
  (some ((0 : UInt64), (0 : Int), (2 : Int)))
  (some (at1, bytes1, (0 : Int)))))

def layout_WhereJ4 (rp0 : Rings) (ip2 : Int) (many2 : Bool) (at2 : UInt64) (bytes2 : Int) : Option (UInt64 × Int × Int) :=
  layout_WhereJ2 rp0 ip2 many2 at2 bytes2

def layout_WhereJ5 (rp0 : Rings) (ip2 : Int) (at3 : UInt64) (bytes3 : Int) : Option (UInt64 × Int × Int) :=
  layout_WhereJ4 rp0 ip2 false at3 bytes3

def layout_WhereJ3 (rp0 : Rings) (what : Int) (ip2 : Int) (packed1 : Int) (x1 : Bool) : Option (UInt64 × Int × Int) :=
  br (x1)
  (layout_WhereJ4 rp0 ip2 true (rp0.Desc + ((16 : UInt64) * (u64 ip2))) (16 : Int))
  (br ((A2.mk packed1 what) == (A2.mk (0 : Int) (4 : Int)))
  (layout_WhereJ4 rp0 ip2 true ((rp0.Driver + (4 : UInt64)) + ((2 : UInt64) * (u64 ip2))) (2 : Int))
  (br ((A2.mk packed1 what) == (A2.mk (0 : Int) (8 : Int)))
  (layout_WhereJ4 rp0 ip2 true ((rp0.Device + (4 : UInt64)) + ((8 : UInt64) * (u64 ip2))) (8 : Int))
  (br ((A2.mk packed1 what) == (A2.mk (0 : Int) (2 : Int)))
  (layout_WhereJ5 rp0 ip2 rp0.Driver (2 : Int))
  (br ((A2.mk packed1 what) == (A2.mk (0 : Int) (3 : Int)))
  (layout_WhereJ5 rp0 ip2 (rp0.Driver + (2 : UInt64)) (2 : Int))
  (br ((A2.mk packed1 what) == (A2.mk (0 : Int) (5 : Int)))
  (layout_WhereJ5 rp0 ip2 ((rp0.Driver + (4 : UInt64)) + ((2 : UInt64) * (u64 rp0.Size))) (2 : Int))
  (br ((A2.mk packed1 what) == (A2.mk (0 : Int) (6 : Int)))
  (layout_WhereJ5 rp0 ip2 rp0.Device (2 : Int))
  (br ((A2.mk packed1 what) == (A2.mk (0 : Int) (7 : Int)))
  (layout_WhereJ5 rp0 ip2 (rp0.Device + (2 : UInt64)) (2 : Int))
  (br ((A2.mk packed1 what) == (A2.mk (0 : Int) (9 : Int)))
  (layout_WhereJ5 rp0 ip2 ((rp0.Device + (4 : UInt64)) + ((8 : UInt64) * (u64 rp0.Size))) (2 : Int))
  (br ((A2.mk packed1 what) == (A2.mk (1 : Int) (10 : Int)))
  (layout_WhereJ5 rp0 ip2 rp0.Driver (4 : Int))
  (br ((A2.mk packed1 what) == (A2.mk (1 : Int) (11 : Int)))
  (layout_WhereJ5 rp0 ip2 rp0.Device (4 : Int))
  (some ((0 : UInt64), (0 : Int), (2 : Int)))))))))))))

def layout_WhereJ1 (rp0 : Rings) (what : Int) (ip2 : Int) (packed1 : Int) : Option (UInt64 × Int × Int) :=
  br ((A2.mk packed1 what) == (A2.mk (0 : Int) (1 : Int)))
  (layout_WhereJ3 rp0 what ip2 packed1 ((A2.mk packed1 what) == (A2.mk (0 : Int) (1 : Int))))
  (layout_WhereJ3 rp0 what ip2 packed1 ((A2.mk packed1 what) == (A2.mk (1 : Int) (1 : Int))))

/-- layout.Where -/
def layout_Where (rp0 : Rings) (what : Int) (ip2 : Int) : Option (UInt64 × Int × Int) :=
  ob (layout_Check rp0) fun check1 =>
  br (check1 != (0 : Int))
  (some ((0 : UInt64), (0 : Int), (2 : Int)))
  (br (rp0.Packed)
  (layout_WhereJ1 rp0 what ip2 (1 : Int))
  (layout_WhereJ1 rp0 what ip2 (0 : Int)))

/-- dumbwaiterlaw04.lives -/
def law04zlives  : Option Bool :=
  ob (layout_Place false (4 : Int) (100 : UInt64)) fun place1 =>
  ob (layout_Where place1.1 (4 : Int) (3 : Int)) fun where1 =>
  ob (layout_Where place1.1 (8 : Int) (1 : Int)) fun where2 =>
  br (place1.2.2 == (0 : Int))
  (br (place1.1 == (Rings.mk false (4 : Int) (112 : UInt64) (176 : UInt64) (192 : UInt64)))
  (br (place1.2.1 == (130 : UInt64))
  (br (where1.2.2 == (0 : Int))
  (br (where1.1 == (186 : UInt64))
  (br (where1.2.1 == (2 : Int))
  (br (where2.2.2 == (0 : Int))
  (br (where2.1 == (204 : UInt64))
  (some (where2.2.1 == (8 : Int)))
  (some false))
  (some false))
  (some false))
  (some false))
  (some false))
  (some false))
  (some false))
  (some false)

/-- dumbwaiterkit.Pick -/
def kit_Pick (np0 : Int) (m : Int) : Option Int :=
  br (decide (m < (1 : Int)))
  (some (0 : Int))
  (chk (!(m == 0)) <|
  br (decide ((remi np0 m) < (0 : Int)))
  (some (wi ((remi np0 m) + m)))
  (some (remi np0 m)))

/-- dumbwaiterlaw04.LayoutApart$1 -/
def law04zLayoutApart_1 (wp0 : Int) : Option Bool :=
  br (decide (wp0 > (1 : Int)))
  (some (decide (wp0 < (10 : Int))))
  (some false)

/-- layout.Over -/
def layout_Over (rp0 : Rings) (atp1 : UInt64) (np2 : UInt64) : Option Bool :=
  ob (layout_Check rp0) fun check1 =>
  br (check1 != (0 : Int))
  (some false)
  (br (np2 == (0 : UInt64))
  (some false)
  (ob (layout_spans rp0) fun spans1 =>
  ob (layout_common atp1 np2 spans1.a0.a0 spans1.a0.a1) fun common1 =>
  br (common1)
  (some true)
  (ob (layout_common atp1 np2 spans1.a1.a0 spans1.a1.a1) fun common2 =>
  br (common2)
  (some true)
  (ob (layout_common atp1 np2 spans1.a2.a0 spans1.a2.a1) fun common3 =>
  br (common3)
  (some true)
  (some false)))))

def law04zLayoutApartJ4 (rp0 : Rings) (pick1 : Int) (pick2 : Int) (i1 : Int) (j1 : Int) (where1 : (UInt64 × Int × Int)) (where2 : (UInt64 × Int × Int))  : Option Bool :=
  ob (layout_Over rp0 where1.1 (1 : UInt64)) fun over1 =>
  ob (layout_Over rp0 ((where1.1 + (u64 where1.2.1)) - (1 : UInt64)) (1 : UInt64)) fun over2 =>
  br (decide (((where1.1 + (u64 where1.2.1)) - (1 : UInt64)) < where2.1))
  (chk (over1) <|
  chk (over2) <|
  br ((wi ((1 : Int) + pick1)) != (wi ((1 : Int) + pick2)))
  (chk (true == true) <|
  some true)
  (chk (true == (i1 != j1)) <|
  some true))
  (chk (over1) <|
  chk (over2) <|
  br ((wi ((1 : Int) + pick1)) != (wi ((1 : Int) + pick2)))
  (chk ((decide (((where2.1 + (u64 where2.2.1)) - (1 : UInt64)) < where1.1)) == true) <|
  some true)
  (chk ((decide (((where2.1 + (u64 where2.2.1)) - (1 : UInt64)) < where1.1)) == (i1 != j1)) <|
  some true))

def law04zLayoutApartJ3 (rp0 : Rings) (pick1 : Int) (pick2 : Int) (i1 : Int) (j1 : Int) (where1 : (UInt64 × Int × Int)) (where2 : (UInt64 × Int × Int))  : Option Bool :=
  br (where1.2.2 != (0 : Int))
  (some true)
  (br (where2.2.2 != (0 : Int))
  (some true)
  (law04zLayoutApartJ4 rp0 pick1 pick2 i1 j1 where1 where2))

def law04zLayoutApartJ2 (rp0 : Rings) (pick1 : Int) (pick2 : Int) (i1 : Int) (j1 : Int) : Option Bool :=
  ob (layout_Where rp0 (wi ((1 : Int) + pick1)) i1) fun where1 =>
  ob (layout_Where rp0 (wi ((1 : Int) + pick2)) j1) fun where2 =>
  br ((wi ((1 : Int) + pick1)) == (1 : Int))
  (chk (!((where1.2.2 == (0 : Int)) != true)) <|
  br ((wi ((1 : Int) + pick2)) == (1 : Int))
  (chk (!((where2.2.2 == (0 : Int)) != true)) <|
  law04zLayoutApartJ3 rp0 pick1 pick2 i1 j1 where1 where2)
  (ob (law04zLayoutApart_1 (wi ((1 : Int) + pick2))) fun layout1 =>
  chk (!((where2.2.2 == (0 : Int)) != (layout1 != rp0.Packed))) <|
  law04zLayoutApartJ3 rp0 pick1 pick2 i1 j1 where1 where2))
  (ob (law04zLayoutApart_1 (wi ((1 : Int) + pick1))) fun layout2 =>
  chk (!((where1.2.2 == (0 : Int)) != (layout2 != rp0.Packed))) <|
  br ((wi ((1 : Int) + pick2)) == (1 : Int))
  (chk (!((where2.2.2 == (0 : Int)) != true)) <|
  law04zLayoutApartJ3 rp0 pick1 pick2 i1 j1 where1 where2)
  (ob (law04zLayoutApart_1 (wi ((1 : Int) + pick2))) fun layout3 =>
  chk (!((where2.2.2 == (0 : Int)) != (layout3 != rp0.Packed))) <|
  law04zLayoutApartJ3 rp0 pick1 pick2 i1 j1 where1 where2))

def law04zLayoutApartJ1 (rp0 : Rings) (pick1 : Int) (pick2 : Int) (pick4 : Int) (i1 : Int) : Option Bool :=
  br ((wi ((1 : Int) + pick2)) != (1 : Int))
  (br ((wi ((1 : Int) + pick2)) != (4 : Int))
  (br ((wi ((1 : Int) + pick2)) != (8 : Int))
  (law04zLayoutApartJ2 rp0 pick1 pick2 i1 (0 : Int))
  (law04zLayoutApartJ2 rp0 pick1 pick2 i1 pick4))
  (law04zLayoutApartJ2 rp0 pick1 pick2 i1 pick4))
  (law04zLayoutApartJ2 rp0 pick1 pick2 i1 pick4)

/-- dumbwaiterlaw04.LayoutApart -/
def law04zLayoutApart (rp0 : Rings) (ap1 : Int) (ip2 : Int) (b : Int) (jp4 : Int) : Option Bool :=
  ob (law04zlives) fun lives1 =>
  chk (!((!lives1))) <|
  ob (layout_Check rp0) fun check1 =>
  br (check1 != (0 : Int))
  (some true)
  (ob (kit_Pick ap1 (11 : Int)) fun pick1 =>
  ob (kit_Pick b (11 : Int)) fun pick2 =>
  ob (kit_Pick ip2 rp0.Size) fun pick3 =>
  ob (kit_Pick jp4 rp0.Size) fun pick4 =>
  br ((wi ((1 : Int) + pick1)) != (1 : Int))
  (br ((wi ((1 : Int) + pick1)) != (4 : Int))
  (br ((wi ((1 : Int) + pick1)) != (8 : Int))
  (law04zLayoutApartJ1 rp0 pick1 pick2 pick4 (0 : Int))
  (law04zLayoutApartJ1 rp0 pick1 pick2 pick4 pick3))
  (law04zLayoutApartJ1 rp0 pick1 pick2 pick4 pick3))
  (law04zLayoutApartJ1 rp0 pick1 pick2 pick4 pick3))

end Go.Proofs.Ytbeendakebamhaa
