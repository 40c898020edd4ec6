/- What the functions reckon, as plain words. No statement of the seat is proved here; no condition. -/
import Derived.Test.YtbeendakebamhaaTy
namespace Go.Proofs.Ytbeendakebamhaa

/-- serial.isSize -/
def serial_isSize (np0 : Int) : Option Bool :=
  br (decide (np0 ≥ (1 : Int)))
  (some (decide (np0 ≤ (32768 : Int))))
  (some false)

/-- serial.Power -/
def serial_Power (np0 : Int) : Option Bool :=
  ob (serial_isSize np0) fun issize1 =>
  br (issize1)
  (some ((andi np0 (wi (np0 - (1 : Int)))) == (0 : Int)))
  (some false)

/-- layout.isSize -/
def layout_isSize (rp0 : Rings) : Option Bool :=
  br (rp0.Packed)
  (br (decide (rp0.Size ≥ (1 : Int)))
  (some (decide (rp0.Size ≤ (32768 : Int))))
  (some false))
  (ob (serial_Power rp0.Size) fun power1 =>
  some power1)

/-- layout.steps -/
def layout_steps (rp0 : Rings) : Option (A3 UInt64) :=
  br (rp0.Packed)
  (some (A3.mk (16 : UInt64) (4 : UInt64) (4 : UInt64)))
  (some (A3.mk (16 : UInt64) (2 : UInt64) (4 : UInt64)))

/-- layout.Parts -/
def layout_Parts (rp0 : Rings) : Option (UInt64 × UInt64 × UInt64) :=
  ob (layout_isSize rp0) fun issize1 =>
  br ((!issize1))
  (some ((0 : UInt64), (0 : UInt64), (0 : UInt64)))
  (br (rp0.Packed)
  (some ((16 : UInt64) * (u64 rp0.Size), (4 : UInt64), (4 : UInt64)))
  (some ((16 : UInt64) * (u64 rp0.Size), (6 : UInt64) + ((2 : UInt64) * (u64 rp0.Size)), (6 : UInt64) + ((8 : UInt64) * (u64 rp0.Size)))))

/-- layout.spans -/
def layout_spans (rp0 : Rings) : Option (A3 (A2 UInt64)) :=
  ob (layout_Parts rp0) fun parts1 =>
  some (A3.mk (A2.mk rp0.Desc parts1.1) (A2.mk rp0.Driver parts1.2.1) (A2.mk rp0.Device parts1.2.2))

/-- serial.Align -/
def serial_Align (np0 : UInt64) (top1 : UInt64) : Option (UInt64 × Int) :=
  br (top1 == (0 : UInt64))
  (some ((0 : UInt64), (2 : Int)))
  (br ((top1 &&& (top1 - (1 : UInt64))) != (0 : UInt64))
  (some ((0 : UInt64), (2 : Int)))
  (br (decide ((np0 + (top1 - (1 : UInt64))) < np0))
  (some ((0 : UInt64), (2 : Int)))
  (some ((np0 + (top1 - (1 : UInt64))) &&& ~~~(top1 - (1 : UInt64)), (0 : Int)))))

/-- layout.beyond -/
def layout_beyond (atp0 : UInt64) (np1 : UInt64) : Option Bool :=
  br (decide (np1 > (0 : UInt64)))
  (some (decide ((np1 - (1 : UInt64)) > ((18446744073709551615 : UInt64) - atp0))))
  (some false)

/-- layout.Place -/
def layout_Place (packed : Bool) (size : Int) (base : UInt64) : Option (Rings × UInt64 × Int) :=
  ob (layout_isSize (Rings.mk packed size (0 : UInt64) (0 : UInt64) (0 : UInt64))) fun issize1 =>
  br ((!issize1))
  (some ((Rings.mk false (0 : Int) (0 : UInt64) (0 : UInt64) (0 : UInt64)), (0 : UInt64), (2 : Int)))
  (ob (layout_steps (Rings.mk packed size (0 : UInt64) (0 : UInt64) (0 : UInt64))) fun steps1 =>
  ob (layout_spans (Rings.mk packed size (0 : UInt64) (0 : UInt64) (0 : UInt64))) fun spans1 =>
  ob (serial_Align base steps1.a0) fun align1 =>
  br (align1.2 != (0 : Int))
  (some ((Rings.mk false (0 : Int) (0 : UInt64) (0 : UInt64) (0 : UInt64)), (0 : UInt64), (2 : Int)))
  (ob (layout_beyond align1.1 spans1.a0.a1) fun beyond1 =>
  br (beyond1)
  (some ((Rings.mk false (0 : Int) (0 : UInt64) (0 : UInt64) (0 : UInt64)), (0 : UInt64), (2 : Int)))
  (br (decide ((align1.1 + spans1.a0.a1) < align1.1))
  (some ((Rings.mk false (0 : Int) (0 : UInt64) (0 : UInt64) (0 : UInt64)), (0 : UInt64), (2 : Int)))
  (ob (serial_Align (align1.1 + spans1.a0.a1) steps1.a1) fun align2 =>
  br (align2.2 != (0 : Int))
  (some ((Rings.mk false (0 : Int) (0 : UInt64) (0 : UInt64) (0 : UInt64)), (0 : UInt64), (2 : Int)))
  (ob (layout_beyond align2.1 spans1.a1.a1) fun beyond2 =>
  br (beyond2)
  (some ((Rings.mk false (0 : Int) (0 : UInt64) (0 : UInt64) (0 : UInt64)), (0 : UInt64), (2 : Int)))
  (br (decide ((align2.1 + spans1.a1.a1) < align2.1))
  (some ((Rings.mk false (0 : Int) (0 : UInt64) (0 : UInt64) (0 : UInt64)), (0 : UInt64), (2 : Int)))
  (ob (serial_Align (align2.1 + spans1.a1.a1) steps1.a2) fun align3 =>
  br (align3.2 != (0 : Int))
  (some ((Rings.mk false (0 : Int) (0 : UInt64) (0 : UInt64) (0 : UInt64)), (0 : UInt64), (2 : Int)))
  (ob (layout_beyond align3.1 spans1.a2.a1) fun beyond3 =>
  br (beyond3)
  (some ((Rings.mk false (0 : Int) (0 : UInt64) (0 : UInt64) (0 : UInt64)), (0 : UInt64), (2 : Int)))
  (br (decide ((align3.1 + spans1.a2.a1) < align3.1))
  (some ((Rings.mk packed size align1.1 align2.1 align3.1), (align3.1 + spans1.a2.a1) - base, (0 : Int)))
  (some ((Rings.mk packed size align1.1 align2.1 align3.1), (align3.1 + spans1.a2.a1) - base, (0 : Int))))))))))))

/-- layout.common -/
def layout_common (atp0 : UInt64) (np1 : UInt64) (top2 : UInt64) (m : UInt64) : Option Bool :=
  br (decide (atp0 ≤ top2))
  (some (decide ((top2 - atp0) < np1)))
  (some (decide ((atp0 - top2) < m)))

/-- layout.Check -/
def layout_Check (rp0 : Rings) : Option Int :=
  ob (layout_isSize rp0) fun issize1 =>
  br ((!issize1))
  (some (2 : Int))
  (ob (layout_spans rp0) fun spans1 =>
  ob (layout_steps rp0) fun steps1 =>
  chk (!(steps1.a0 == 0)) <|
  br ((spans1.a0.a0 % steps1.a0) != (0 : UInt64))
  (some (2 : Int))
  (ob (layout_beyond spans1.a0.a0 spans1.a0.a1) fun beyond1 =>
  br (beyond1)
  (some (2 : Int))
  (chk (!(steps1.a1 == 0)) <|
  br ((spans1.a1.a0 % steps1.a1) != (0 : UInt64))
  (some (2 : Int))
  (ob (layout_beyond spans1.a1.a0 spans1.a1.a1) fun beyond2 =>
  br (beyond2)
  (some (2 : Int))
  (ob (layout_common spans1.a1.a0 spans1.a1.a1 spans1.a0.a0 spans1.a0.a1) fun common1 =>
  br (common1)
  (some (2 : Int))
  (chk (!(steps1.a2 == 0)) <|
  br ((spans1.a2.a0 % steps1.a2) != (0 : UInt64))
  (some (2 : Int))
  (ob (layout_beyond spans1.a2.a0 spans1.a2.a1) fun beyond3 =>
  br (beyond3)
  (some (2 : Int))
  (ob (layout_common spans1.a2.a0 spans1.a2.a1 spans1.a0.a0 spans1.a0.a1) fun common2 =>
  br (common2)
  (some (2 : Int))
  (ob (layout_common spans1.a2.a0 spans1.a2.a1 spans1.a1.a0 spans1.a1.a1) fun common3 =>
  br (common3)
  (some (2 : Int))
  (some (0 : Int)))))))))))

def layout_WhereJ2 (rp0 : Rings) (ip2 : Int) (many1 : Bool) (at1 : UInt64) (bytes1 : Int) : Option (UInt64 × Int × Int) :=
  br (decide (ip2 < (0 : Int)))
  (some ((0 : UInt64), (0 : Int), (2 : Int)))
  (br (many1)
  (br (decide (ip2 ≥ rp0.Size))
  (some ((0 : UInt64), (0 : Int), (2 : Int)))
  (some (at1, bytes1, (0 : Int))))
  (br (ip2 != (0 : Int))
  (some ((0 : UInt64), (0 : Int), (2 : Int)))
  (some (at1, bytes1, (0 : Int)))))

def layout_WhereJ4 (rp0 : Rings) (ip2 : Int) (many2 : Bool) (at2 : UInt64) (bytes2 : Int) : Option (UInt64 × Int × Int) :=
  layout_WhereJ2 rp0 ip2 many2 at2 bytes2

def layout_WhereJ5 (rp0 : Rings) (ip2 : Int) (at3 : UInt64) (bytes3 : Int) : Option (UInt64 × Int × Int) :=
  layout_WhereJ4 rp0 ip2 false at3 bytes3

def layout_WhereJ3 (rp0 : Rings) (what : Int) (ip2 : Int) (packed1 : Int) (x1 : Bool) : Option (UInt64 × Int × Int) :=
  br (x1)
  (layout_WhereJ4 rp0 ip2 true (rp0.Desc + ((16 : UInt64) * (u64 ip2))) (16 : Int))
  (br ((A2.mk packed1 what) == (A2.mk (0 : Int) (4 : Int)))
  (layout_WhereJ4 rp0 ip2 true ((rp0.Driver + (4 : UInt64)) + ((2 : UInt64) * (u64 ip2))) (2 : Int))
  (br ((A2.mk packed1 what) == (A2.mk (0 : Int) (8 : Int)))
  (layout_WhereJ4 rp0 ip2 true ((rp0.Device + (4 : UInt64)) + ((8 : UInt64) * (u64 ip2))) (8 : Int))
  (br ((A2.mk packed1 what) == (A2.mk (0 : Int) (2 : Int)))
  (layout_WhereJ5 rp0 ip2 rp0.Driver (2 : Int))
  (br ((A2.mk packed1 what) == (A2.mk (0 : Int) (3 : Int)))
  (layout_WhereJ5 rp0 ip2 (rp0.Driver + (2 : UInt64)) (2 : Int))
  (br ((A2.mk packed1 what) == (A2.mk (0 : Int) (5 : Int)))
  (layout_WhereJ5 rp0 ip2 ((rp0.Driver + (4 : UInt64)) + ((2 : UInt64) * (u64 rp0.Size))) (2 : Int))
  (br ((A2.mk packed1 what) == (A2.mk (0 : Int) (6 : Int)))
  (layout_WhereJ5 rp0 ip2 rp0.Device (2 : Int))
  (br ((A2.mk packed1 what) == (A2.mk (0 : Int) (7 : Int)))
  (layout_WhereJ5 rp0 ip2 (rp0.Device + (2 : UInt64)) (2 : Int))
  (br ((A2.mk packed1 what) == (A2.mk (0 : Int) (9 : Int)))
  (layout_WhereJ5 rp0 ip2 ((rp0.Device + (4 : UInt64)) + ((8 : UInt64) * (u64 rp0.Size))) (2 : Int))
  (br ((A2.mk packed1 what) == (A2.mk (1 : Int) (10 : Int)))
  (layout_WhereJ5 rp0 ip2 rp0.Driver (4 : Int))
  (br ((A2.mk packed1 what) == (A2.mk (1 : Int) (11 : Int)))
  (layout_WhereJ5 rp0 ip2 rp0.Device (4 : Int))
  (some ((0 : UInt64), (0 : Int), (2 : Int)))))))))))))

def layout_WhereJ1 (rp0 : Rings) (what : Int) (ip2 : Int) (packed1 : Int) : Option (UInt64 × Int × Int) :=
  br ((A2.mk packed1 what) == (A2.mk (0 : Int) (1 : Int)))
  (layout_WhereJ3 rp0 what ip2 packed1 ((A2.mk packed1 what) == (A2.mk (0 : Int) (1 : Int))))
  (layout_WhereJ3 rp0 what ip2 packed1 ((A2.mk packed1 what) == (A2.mk (1 : Int) (1 : Int))))

/-- layout.Where -/
def layout_Where (rp0 : Rings) (what : Int) (ip2 : Int) : Option (UInt64 × Int × Int) :=
  ob (layout_Check rp0) fun check1 =>
  br (check1 != (0 : Int))
  (some ((0 : UInt64), (0 : Int), (2 : Int)))
  (br (rp0.Packed)
  (layout_WhereJ1 rp0 what ip2 (1 : Int))
  (layout_WhereJ1 rp0 what ip2 (0 : Int)))

/-- dumbwaiterlaw04.lives -/
def law04zlives  : Option Bool :=
  ob (layout_Place false (4 : Int) (100 : UInt64)) fun place1 =>
  ob (layout_Where place1.1 (4 : Int) (3 : Int)) fun where1 =>
  ob (layout_Where place1.1 (8 : Int) (1 : Int)) fun where2 =>
  br (place1.2.2 == (0 : Int))
  (br (place1.1 == (Rings.mk false (4 : Int) (112 : UInt64) (176 : UInt64) (192 : UInt64)))
  (br (place1.2.1 == (130 : UInt64))
  (br (where1.2.2 == (0 : Int))
  (br (where1.1 == (186 : UInt64))
  (br (where1.2.1 == (2 : Int))
  (br (where2.2.2 == (0 : Int))
  (br (where2.1 == (204 : UInt64))
  (some (where2.2.1 == (8 : Int)))
  (some false))
  (some false))
  (some false))
  (some false))
  (some false))
  (some false))
  (some false))
  (some false)

/-- dumbwaiterkit.Pick -/
def kit_Pick (np0 : Int) (m : Int) : Option Int :=
  br (decide (m < (1 : Int)))
  (some (0 : Int))
  (chk (!(m == 0)) <|
  br (decide ((remi np0 m) < (0 : Int)))
  (some (wi ((remi np0 m) + m)))
  (some (remi np0 m)))

def gmem_CheckL1B (l : List Region) (L1 : UInt64 → Int → Option Int) (room1 : UInt64) (x1 : Int) : Option Int :=
  br (decide (x1 < (len l)))
  (ob (ix l x1) fun r1 =>
  br (decide (r1.Len < (1 : UInt64)))
  (some (2 : Int))
  (br (decide (r1.Len > room1))
  (some (2 : Int))
  (br (decide ((r1.Len - (1 : UInt64)) > ((18446744073709551615 : UInt64) - r1.At)))
  (some (2 : Int))
  (br (decide (x1 > (0 : Int)))
  (ob (ix l (wi (x1 - (1 : Int)))) fun r2 =>
  br (decide (r1.At ≤ r2.At))
  (some (2 : Int))
  (br (decide ((r1.At - r2.At) < r2.Len))
  (some (2 : Int))
  (L1 (room1 - r1.Len) (wi (x1 + (1 : Int))))))
  (L1 (room1 - r1.Len) (wi (x1 + (1 : Int))))))))
  (some (0 : Int))

def gmem_CheckL1 (l : List Region) : Nat → UInt64 → Int → Option Int
  | 0, _, _ => none
  | nf + 1, room1, x1 => gmem_CheckL1B l (gmem_CheckL1 l nf) room1 x1

/-- gmem.Check -/
def gmem_Check (l : List Region) : Option Int :=
  br (decide ((len l) > (16 : Int)))
  (some (2 : Int))
  (gmem_CheckL1 l fuel (1048576 : UInt64) (0 : Int))

/-- slices.Clone[[]api.Region,api.Region] -/
def slices_Clone_apiRegionapiRegion (sp0 : List Region) : Option (List Region) :=
  chk (fits ([] : List Region).length sp0.length 16) <|
  some sp0

def gmem_NewL1B (l : List Region) (region1 : (List Region)) (L1 : (List (List UInt8)) → Int → Option ((Option gmem_Mem) × Int)) (rows1 : List (List UInt8)) (x1 : Int) : Option ((Option gmem_Mem) × Int) :=
  br (decide (x1 < (len l)))
  (ob (ix l x1) fun r1 =>
  chk (decide (0 ≤ (r1.Len.toNat : Int) ∧ (r1.Len.toNat : Int) ≤ (r1.Len.toNat : Int) ∧ (1 : Int) * (r1.Len.toNat : Int) ≤ 140737488355328)) <|
  ob (ix rows1 x1) fun row1 =>
  L1 (rows1.set (Int.toNat x1) (List.replicate (Int.toNat (r1.Len.toNat : Int)) (0 : UInt8))) (wi (x1 + (1 : Int))))
  (some ((some (gmem_Mem.mk region1 rows1)), (0 : Int)))

def gmem_NewL1 (l : List Region) (region1 : (List Region)) : Nat → (List (List UInt8)) → Int → Option ((Option gmem_Mem) × Int)
  | 0, _, _ => none
  | nf + 1, rows1, x1 => gmem_NewL1B l region1 (gmem_NewL1 l region1 nf) rows1 x1

/-- gmem.New -/
def gmem_New (l : List Region) : Option ((Option gmem_Mem) × Int) :=
  ob (gmem_Check l) fun check1 =>
  br (check1 != (0 : Int))
  (some ((none : Option gmem_Mem), check1))
  (ob (slices_Clone_apiRegionapiRegion l) fun region1 =>
  chk (decide (0 ≤ (len l) ∧ (len l) ≤ (wi ((len l) + (1 : Int))) ∧ (24 : Int) * (wi ((len l) + (1 : Int))) ≤ 140737488355328)) <|
  gmem_NewL1 l region1 fuel (List.replicate (Int.toNat (len l)) [] : List (List UInt8)) (0 : Int))

/-- (*gmem.Mem).made -/
def gmem_Mem_made (m : gmem_Mem) : Option Bool :=
  some true

/-- (*gmem.Mem).bytes$1 -/
def gmem_Mem_bytes_1 (ip0 : Int) (arg1 : gmem_Mem) (arg2 : UInt64) : Option Bool :=
  ob (ix arg1.l ip0) fun r1 =>
  ob (ix arg1.l ip0) fun r2 =>
  some (decide (((r1.Len - (1 : UInt64)) + r2.At) ≥ arg2))

def sort_SearchFgmem_Mem_bytes_1L1B (fc0 : gmem_Mem) (fc1 : UInt64) (L1 : Int → Int → Option Int) (i1 : Int) (j1 : Int) : Option Int :=
  br (decide (i1 < j1))
  (ob (gmem_Mem_bytes_1 (i64 (shr64 (u64 (wi (i1 + j1))) ((1 : UInt64).toNat))) fc0 fc1) fun bytes1 =>
  br ((!bytes1))
  (L1 (wi ((i64 (shr64 (u64 (wi (i1 + j1))) ((1 : UInt64).toNat))) + (1 : Int))) j1)
  (L1 i1 (i64 (shr64 (u64 (wi (i1 + j1))) ((1 : UInt64).toNat)))))
  (some i1)

def sort_SearchFgmem_Mem_bytes_1L1 (fc0 : gmem_Mem) (fc1 : UInt64) : Nat → Int → Int → Option Int
  | 0, _, _ => none
  | nf + 1, i1, j1 => sort_SearchFgmem_Mem_bytes_1L1B fc0 fc1 (sort_SearchFgmem_Mem_bytes_1L1 fc0 fc1 nf) i1 j1

/-- sort.Search -/
def sort_SearchFgmem_Mem_bytes_1 (np0 : Int) (fc0 : gmem_Mem) (fc1 : UInt64) : Option Int :=
  sort_SearchFgmem_Mem_bytes_1L1 fc0 fc1 fuel (0 : Int) np0

/-- (*gmem.Mem).bytes -/
def gmem_Mem_bytes (m : gmem_Mem) (atp1 : UInt64) (np2 : UInt64) : Option (Option (Int × Int × Int)) :=
  br (decide (np2 < (1 : UInt64)))
  (some (none : Option (Int × Int × Int)))
  (ob (sort_SearchFgmem_Mem_bytes_1 (len m.l) m atp1) fun search1 =>
  br (search1 == (len m.l))
  (some (none : Option (Int × Int × Int)))
  (ob (ix m.l search1) fun r1 =>
  br (decide (atp1 < r1.At))
  (some (none : Option (Int × Int × Int)))
  (ob (ix m.l search1) fun r2 =>
  ob (ix m.l search1) fun r3 =>
  br (decide (np2 > (r3.Len - (atp1 - r2.At))))
  (some (none : Option (Int × Int × Int)))
  (ob (ix m.b search1) fun row1 =>
  chk (decide (0 ≤ ((atp1 - r2.At).toNat : Int) ∧ ((atp1 - r2.At).toNat : Int) ≤ (((atp1 - r2.At) + np2).toNat : Int) ∧ (((atp1 - r2.At) + np2).toNat : Int) ≤ len row1)) <|
  some (some (search1, ((atp1 - r2.At).toNat : Int), (((atp1 - r2.At) + np2).toNat : Int)))))))

/-- slices.Clone[[]byte,byte] -/
def slices_Clone_bytebyte (sp0 : List UInt8) : Option (List UInt8) :=
  chk (fits ([] : List UInt8).length sp0.length 1) <|
  some sp0

/-- (*gmem.Mem).Read -/
def gmem_Mem_Read (m : gmem_Mem) (atp1 : UInt64) (np2 : Int) : Option ((List UInt8) × Int) :=
  ob (gmem_Mem_made m) fun made1 =>
  br (decide (np2 < (0 : Int)))
  (some (([] : List UInt8), (2 : Int)))
  (br (np2 == (0 : Int))
  (some (([] : List UInt8), (0 : Int)))
  (ob (gmem_Mem_bytes m atp1 (u64 np2)) fun bytes1 =>
  onO bytes1
  (some (([] : List UInt8), (5 : Int)))
  (fun w1 =>
  ob (ix m.b w1.1) fun row1 =>
  chk (decide (0 ≤ w1.2.1 ∧ w1.2.1 ≤ w1.2.2 ∧ w1.2.2 ≤ len row1)) <|
  chk (decide (w1.2.1 < w1.2.2)) <|
  ob (slices_Clone_bytebyte (sub row1 w1.2.1 w1.2.2)) fun cloneb1 =>
  some (cloneb1, (0 : Int)))))

/-- (*gmem.Mem).Has -/
def gmem_Mem_Has (m : gmem_Mem) (atp1 : UInt64) (np2 : UInt64) : Option Bool :=
  ob (gmem_Mem_made m) fun made1 =>
  ob (gmem_Mem_bytes m atp1 np2) fun bytes1 =>
  onO bytes1
  (some false)
  (fun w1 =>
  ob (ix m.b w1.1) fun row1 =>
  chk (decide (0 ≤ w1.2.1 ∧ w1.2.1 ≤ w1.2.2 ∧ w1.2.2 ≤ len row1)) <|
  chk (decide (w1.2.1 < w1.2.2)) <|
  some true)

/-- layout.Fits -/
def layout_Fits (m : gmem_Mem) (rp1 : Rings) : Option Int :=
  ob (gmem_Mem_Read m (0 : UInt64) (0 : Int)) fun read1 =>
  br (read1.2 == (1 : Int))
  (some read1.2)
  (ob (layout_Check rp1) fun check1 =>
  br (check1 != (0 : Int))
  (some check1)
  (ob (layout_spans rp1) fun spans1 =>
  ob (gmem_Mem_Has m spans1.a0.a0 spans1.a0.a1) fun has1 =>
  br ((!has1))
  (some (5 : Int))
  (ob (gmem_Mem_Has m spans1.a1.a0 spans1.a1.a1) fun has2 =>
  br ((!has2))
  (some (5 : Int))
  (ob (gmem_Mem_Has m spans1.a2.a0 spans1.a2.a1) fun has3 =>
  br ((!has3))
  (some (5 : Int))
  (some (0 : Int))))))

def law04zLayoutPlacesJ1 (packed : Bool) (base : UInt64) (size1 : Int) : Option Bool :=
  ob (layout_Place packed size1 (base % (100001 : UInt64))) fun place1 =>
  chk (!(place1.2.2 != (0 : Int))) <|
  ob (layout_Check place1.1) fun check1 =>
  chk (!(check1 != (0 : Int))) <|
  chk (!(decide (place1.1.Desc < (base % (100001 : UInt64))))) <|
  chk (!(decide ((place1.1.Desc - (base % (100001 : UInt64))) > (15 : UInt64)))) <|
  chk (!(place1.1.Packed != packed)) <|
  chk (!(place1.1.Size != size1)) <|
  ob (layout_Parts place1.1) fun parts1 =>
  ob (gmem_New [(Region.mk (base % (100001 : UInt64)) place1.2.1)]) fun new1 =>
  onO new1.1
  (none)
  (fun mem1 =>
  ob (gmem_New [(Region.mk (base % (100001 : UInt64)) (place1.2.1 - (1 : UInt64)))]) fun new2 =>
  onO new2.1
  (none)
  (fun mem2 =>
  chk (new1.2 == (0 : Int)) <|
  chk (new2.2 == (0 : Int)) <|
  ob (layout_Fits mem1 place1.1) fun fits1 =>
  chk (fits1 == (0 : Int)) <|
  ob (layout_Fits mem2 place1.1) fun fits2 =>
  chk (fits2 == (5 : Int)) <|
  chk (decide (((parts1.1 + parts1.2.1) + parts1.2.2) ≤ place1.2.1)) <|
  chk (decide (place1.2.1 ≤ (((((parts1.1 + parts1.2.1) + parts1.2.2) + (15 : UInt64)) + (3 : UInt64)) + (3 : UInt64)))) <|
  chk (decide (place1.1.Driver ≥ (place1.1.Desc + parts1.1))) <|
  chk (decide (place1.1.Device ≥ (place1.1.Driver + parts1.2.1))) <|
  some true))

def law04zLayoutPlacesL2B (packed : Bool) (base : UInt64) (pick1 : Int) (L2 : Int → Option Bool) (k1 : Int) : Option Bool :=
  br (decide (k1 < (wi ((1 : Int) + pick1))))
  (L2 (wi ((2 : Int) * k1)))
  (law04zLayoutPlacesJ1 packed base k1)

def law04zLayoutPlacesL2 (packed : Bool) (base : UInt64) (pick1 : Int) : Nat → Int → Option Bool
  | 0, _ => none
  | nf + 1, k1 => law04zLayoutPlacesL2B packed base pick1 (law04zLayoutPlacesL2 packed base pick1 nf) k1

/-- dumbwaiterlaw04.LayoutPlaces -/
def law04zLayoutPlaces (packed : Bool) (size : Int) (base : UInt64) : Option Bool :=
  ob (law04zlives) fun lives1 =>
  chk (!((!lives1))) <|
  ob (kit_Pick size (256 : Int)) fun pick1 =>
  br ((!packed))
  (law04zLayoutPlacesL2 packed base pick1 fuel (1 : Int))
  (law04zLayoutPlacesJ1 packed base (wi ((1 : Int) + pick1)))

end Go.Proofs.Ytbeendakebamhaa
