/- What the functions reckon, as plain words. No statement of the seat is proved here; no condition. -/
import Derived.Test.YtdaijemhibbgeaaTy
namespace Go.Proofs.Ytdaijemhibbgeaa

def law25zroomsL1B (l : List Int) (L1 : UInt64 → (List (List Seg)) → Int → Option (List (List Seg))) (at1 : UInt64) (out1 : List (List Seg)) (i1 : Int) : Option (List (List Seg)) :=
  br (decide (i1 < (len l)))
  (ob (ix l i1) fun y1 =>
  chk (fits out1.length [[(Seg.mk at1 (u32 y1) true)]].length 24) <|
  ob (ix l i1) fun y2 =>
  L1 (at1 + (u64 y2)) (out1 ++ [[(Seg.mk at1 (u32 y1) true)]]) (wi (i1 + (1 : Int))))
  (some out1)

def law25zroomsL1 (l : List Int) : Nat → UInt64 → (List (List Seg)) → Int → Option (List (List Seg))
  | 0, _, _, _ => none
  | nf + 1, at1, out1, i1 => law25zroomsL1B l (law25zroomsL1 l nf) at1 out1 i1

/-- dumbwaiterlaw25.rooms -/
def law25zrooms (l : List Int) : Option (List (List Seg)) :=
  law25zroomsL1 l fuel (100 : UInt64) [] (0 : Int)

def gmem_CheckL1B (l : List Region) (L1 : UInt64 → Int → Option Int) (room1 : UInt64) (x1 : Int) : Option Int :=
  br (decide (x1 < (len l)))
  (ob (ix l x1) fun r1 =>
  br (decide (r1.Len < (1 : UInt64)))
  (some (2 : Int))
  (br (decide (r1.Len > room1))
  (some (2 : Int))
  (br (decide ((r1.Len - (1 : UInt64)) > ((18446744073709551615 : UInt64) - r1.At)))
  (some (2 : Int))
  (br (decide (x1 > (0 : Int)))
  (ob (ix l (wi (x1 - (1 : Int)))) fun r2 =>
  br (decide (r1.At ≤ r2.At))
  (some (2 : Int))
  (br (decide ((r1.At - r2.At) < r2.Len))
  (some (2 : Int))
  (L1 (room1 - r1.Len) (wi (x1 + (1 : Int))))))
  (L1 (room1 - r1.Len) (wi (x1 + (1 : Int))))))))
  (some (0 : Int))

def gmem_CheckL1 (l : List Region) : Nat → UInt64 → Int → Option Int
  | 0, _, _ => none
  | nf + 1, room1, x1 => gmem_CheckL1B l (gmem_CheckL1 l nf) room1 x1

/-- gmem.Check -/
def gmem_Check (l : List Region) : Option Int :=
  br (decide ((len l) > (16 : Int)))
  (some (2 : Int))
  (gmem_CheckL1 l fuel (1048576 : UInt64) (0 : Int))

/-- slices.Clone[[]api.Region,api.Region] -/
def slices_Clone_apiRegionapiRegion (sp0 : List Region) : Option (List Region) :=
  chk (fits ([] : List Region).length sp0.length 16) <|
  some sp0

def gmem_NewL1B (l : List Region) (region1 : (List Region)) (L1 : (List (List UInt8)) → Int → Option ((Option gmem_Mem) × Int)) (rows1 : List (List UInt8)) (x1 : Int) : Option ((Option gmem_Mem) × Int) :=
  br (decide (x1 < (len l)))
  (ob (ix l x1) fun r1 =>
  chk (decide (0 ≤ (r1.Len.toNat : Int) ∧ (r1.Len.toNat : Int) ≤ (r1.Len.toNat : Int) ∧ (1 : Int) * (r1.Len.toNat : Int) ≤ 140737488355328)) <|
  ob (ix rows1 x1) fun row1 =>
  L1 (rows1.set (Int.toNat x1) (List.replicate (Int.toNat (r1.Len.toNat : Int)) (0 : UInt8))) (wi (x1 + (1 : Int))))
  (some ((some (gmem_Mem.mk region1 rows1)), (0 : Int)))

def gmem_NewL1 (l : List Region) (region1 : (List Region)) : Nat → (List (List UInt8)) → Int → Option ((Option gmem_Mem) × Int)
  | 0, _, _ => none
  | nf + 1, rows1, x1 => gmem_NewL1B l region1 (gmem_NewL1 l region1 nf) rows1 x1

/-- gmem.New -/
def gmem_New (l : List Region) : Option ((Option gmem_Mem) × Int) :=
  ob (gmem_Check l) fun check1 =>
  br (check1 != (0 : Int))
  (some ((none : Option gmem_Mem), check1))
  (ob (slices_Clone_apiRegionapiRegion l) fun region1 =>
  chk (decide (0 ≤ (len l) ∧ (len l) ≤ (wi ((len l) + (1 : Int))) ∧ (24 : Int) * (wi ((len l) + (1 : Int))) ≤ 140737488355328)) <|
  gmem_NewL1 l region1 fuel (List.replicate (Int.toNat (len l)) [] : List (List UInt8)) (0 : Int))

/-- (*gmem.Mem).made -/
def gmem_Mem_made (m : gmem_Mem) : Option Bool :=
  some true

/-- (*gmem.Mem).bytes$1 -/
def gmem_Mem_bytes_1 (ip0 : Int) (arg1 : gmem_Mem) (arg2 : UInt64) : Option Bool :=
  ob (ix arg1.l ip0) fun r1 =>
  ob (ix arg1.l ip0) fun r2 =>
  some (decide (((r1.Len - (1 : UInt64)) + r2.At) ≥ arg2))

def sort_SearchFgmem_Mem_bytes_1L1B (fc0 : gmem_Mem) (fc1 : UInt64) (L1 : Int → Int → Option Int) (i1 : Int) (j1 : Int) : Option Int :=
  br (decide (i1 < j1))
  (ob (gmem_Mem_bytes_1 (i64 (shr64 (u64 (wi (i1 + j1))) ((1 : UInt64).toNat))) fc0 fc1) fun bytes1 =>
  br ((!bytes1))
  (L1 (wi ((i64 (shr64 (u64 (wi (i1 + j1))) ((1 : UInt64).toNat))) + (1 : Int))) j1)
  (L1 i1 (i64 (shr64 (u64 (wi (i1 + j1))) ((1 : UInt64).toNat)))))
  (some i1)

def sort_SearchFgmem_Mem_bytes_1L1 (fc0 : gmem_Mem) (fc1 : UInt64) : Nat → Int → Int → Option Int
  | 0, _, _ => none
  | nf + 1, i1, j1 => sort_SearchFgmem_Mem_bytes_1L1B fc0 fc1 (sort_SearchFgmem_Mem_bytes_1L1 fc0 fc1 nf) i1 j1

/-- sort.Search -/
def sort_SearchFgmem_Mem_bytes_1 (np0 : Int) (fc0 : gmem_Mem) (fc1 : UInt64) : Option Int :=
  sort_SearchFgmem_Mem_bytes_1L1 fc0 fc1 fuel (0 : Int) np0

/-- (*gmem.Mem).bytes -/
def gmem_Mem_bytes (m : gmem_Mem) (atp1 : UInt64) (np2 : UInt64) : Option (Option (Int × Int × Int)) :=
  br (decide (np2 < (1 : UInt64)))
  (some (none : Option (Int × Int × Int)))
  (ob (sort_SearchFgmem_Mem_bytes_1 (len m.l) m atp1) fun search1 =>
  br (search1 == (len m.l))
  (some (none : Option (Int × Int × Int)))
  (ob (ix m.l search1) fun r1 =>
  br (decide (atp1 < r1.At))
  (some (none : Option (Int × Int × Int)))
  (ob (ix m.l search1) fun r2 =>
  ob (ix m.l search1) fun r3 =>
  br (decide (np2 > (r3.Len - (atp1 - r2.At))))
  (some (none : Option (Int × Int × Int)))
  (ob (ix m.b search1) fun row1 =>
  chk (decide (0 ≤ ((atp1 - r2.At).toNat : Int) ∧ ((atp1 - r2.At).toNat : Int) ≤ (((atp1 - r2.At) + np2).toNat : Int) ∧ (((atp1 - r2.At) + np2).toNat : Int) ≤ len row1)) <|
  some (some (search1, ((atp1 - r2.At).toNat : Int), (((atp1 - r2.At) + np2).toNat : Int)))))))

/-- (*gmem.Mem).Write -/
def gmem_Mem_Write (m : gmem_Mem) (atp1 : UInt64) (arg2 : List UInt8) : Option (Int × (List (List UInt8))) :=
  ob (gmem_Mem_made m) fun made1 =>
  br ((len arg2) == (0 : Int))
  (some ((0 : Int), m.b))
  (ob (gmem_Mem_bytes m atp1 (u64 (len arg2))) fun bytes1 =>
  onO bytes1
  (some ((5 : Int), m.b))
  (fun w1 =>
  ob (ix m.b w1.1) fun row1 =>
  chk (decide (0 ≤ w1.2.1 ∧ w1.2.1 ≤ w1.2.2 ∧ w1.2.2 ≤ len row1)) <|
  chk (decide (w1.2.1 < w1.2.2)) <|
  some ((0 : Int), m.b.set (Int.toNat w1.1) (copyAt row1 w1.2.1 w1.2.2 arg2))))

/-- seg.Check$1 -/
def seg_Check_1 (arg0 : Int) (arg1 : UInt64) : Option Int :=
  br (arg0 == (0 : Int))
  (br (decide (arg1 ≥ (4294967296 : UInt64)))
  (some (2 : Int))
  (some arg0))
  (some arg0)

def seg_CheckL1B (l : List Seg) (L1 : Int → UInt64 → Int → Option Int) (m1 : Int) (m2 : UInt64) (x1 : Int) : Option Int :=
  br (decide (x1 < (len l)))
  (ob (ix l x1) fun s1 =>
  br (decide (s1.Len < (1 : UInt32)))
  (ob (seg_Check_1 (2 : Int) m2) fun check1 =>
  some check1)
  (br (decide ((s1.Len.toUInt64 - (1 : UInt64)) > ((18446744073709551615 : UInt64) - s1.At)))
  (ob (seg_Check_1 (2 : Int) m2) fun check2 =>
  some check2)
  (br (decide (x1 > (0 : Int)))
  (ob (ix l (wi (x1 - (1 : Int)))) fun s2 =>
  br (s2.Write)
  (br ((!s1.Write))
  (ob (seg_Check_1 (2 : Int) m2) fun check3 =>
  some check3)
  (L1 m1 (m2 + s1.Len.toUInt64) (wi (x1 + (1 : Int)))))
  (L1 m1 (m2 + s1.Len.toUInt64) (wi (x1 + (1 : Int)))))
  (L1 m1 (m2 + s1.Len.toUInt64) (wi (x1 + (1 : Int)))))))
  (ob (seg_Check_1 (0 : Int) m2) fun check4 =>
  some check4)

def seg_CheckL1 (l : List Seg) : Nat → Int → UInt64 → Int → Option Int
  | 0, _, _, _ => none
  | nf + 1, m1, m2, x1 => seg_CheckL1B l (seg_CheckL1 l nf) m1 m2 x1

/-- seg.Check -/
def seg_Check (l : List Seg) : Option Int :=
  br (decide ((len l) > (64 : Int)))
  (some (3 : Int))
  (seg_CheckL1 l fuel (0 : Int) (0 : UInt64) (0 : Int))

def seg_TotalJ2 (x1 : Int) (L1 : UInt64 → UInt64 → Int → Option (UInt64 × UInt64)) (read2 : UInt64) (write2 : UInt64) : Option (UInt64 × UInt64) :=
  L1 read2 write2 (wi (x1 + (1 : Int)))

def seg_TotalJ3 (x1 : Int) (L1 : UInt64 → UInt64 → Int → Option (UInt64 × UInt64)) (read3 : UInt64) (write3 : UInt64) : Option (UInt64 × UInt64) :=
  seg_TotalJ2 x1 L1 read3 write3

def seg_TotalL1B (l : List Seg) (L1 : UInt64 → UInt64 → Int → Option (UInt64 × UInt64)) (read1 : UInt64) (write1 : UInt64) (x1 : Int) : Option (UInt64 × UInt64) :=
  br (decide (x1 < (len l)))
  (ob (ix l x1) fun s1 =>
  br (s1.Write)
  (seg_TotalJ3 x1 L1 read1 (write1 + s1.Len.toUInt64))
  (seg_TotalJ3 x1 L1 (read1 + s1.Len.toUInt64) write1))
  (some (read1, write1))

def seg_TotalL1 (l : List Seg) : Nat → UInt64 → UInt64 → Int → Option (UInt64 × UInt64)
  | 0, _, _, _ => none
  | nf + 1, read1, write1, x1 => seg_TotalL1B l (seg_TotalL1 l nf) read1 write1 x1

/-- seg.Total -/
def seg_Total (l : List Seg) : Option (UInt64 × UInt64) :=
  ob (seg_Check l) fun check1 =>
  br (check1 != (0 : Int))
  (some ((0 : UInt64), (0 : UInt64)))
  (seg_TotalL1 l fuel (0 : UInt64) (0 : UInt64) (0 : Int))

/-- net.room -/
def net_room (l : List Seg) : Option UInt64 :=
  ob (seg_Total l) fun total1 =>
  some total1.2

/-- feat.Has -/
def feat_Has (set : UInt64) (bit : Int) : Option Bool :=
  br (decide (bit ≥ (0 : Int)))
  (br (decide (bit ≤ (63 : Int)))
  (chk (decide (0 ≤ bit)) <|
  some (((shr64 set bit.toNat) &&& (1 : UInt64)) == (1 : UInt64)))
  (some false))
  (some false)

def net_NeedsJ2 (np2 : Int) (sum1 : UInt64) (x1 : Int) (L1 : UInt64 → Int → Option (Int × Bool)) (room1 : UInt64) (x2 : Bool) : Option (Int × Bool) :=
  br (x2)
  (some ((0 : Int), false))
  (br (decide ((sum1 + room1) ≥ (u64 (maxi np2 (12 : Int)))))
  (some (wi (x1 + (1 : Int)), true))
  (L1 (sum1 + room1) (wi (x1 + (1 : Int)))))

def net_NeedsL1B (bufs : List (List Seg)) (np2 : Int) (has1 : Bool) (L1 : UInt64 → Int → Option (Int × Bool)) (sum1 : UInt64) (x1 : Int) : Option (Int × Bool) :=
  br (decide (x1 < (len bufs)))
  (ob (ix bufs x1) fun y1 =>
  ob (net_room y1) fun room1 =>
  br (room1 == (0 : UInt64))
  (net_NeedsJ2 np2 sum1 x1 L1 room1 (room1 == (0 : UInt64)))
  (br (x1 == (0 : Int))
  (br (decide (room1 < (12 : UInt64)))
  (net_NeedsJ2 np2 sum1 x1 L1 room1 (decide (room1 < (12 : UInt64))))
  (br (decide (x1 > (0 : Int)))
  (net_NeedsJ2 np2 sum1 x1 L1 room1 (!has1))
  (net_NeedsJ2 np2 sum1 x1 L1 room1 false)))
  (br (decide (x1 > (0 : Int)))
  (net_NeedsJ2 np2 sum1 x1 L1 room1 (!has1))
  (net_NeedsJ2 np2 sum1 x1 L1 room1 false))))
  (some ((0 : Int), false))

def net_NeedsL1 (bufs : List (List Seg)) (np2 : Int) (has1 : Bool) : Nat → UInt64 → Int → Option (Int × Bool)
  | 0, _, _ => none
  | nf + 1, sum1, x1 => net_NeedsL1B bufs np2 has1 (net_NeedsL1 bufs np2 has1 nf) sum1 x1

/-- net.Needs -/
def net_Needs (feats : UInt64) (bufs : List (List Seg)) (np2 : Int) : Option (Int × Bool) :=
  ob (feat_Has feats (15 : Int)) fun has1 =>
  net_NeedsL1 bufs np2 has1 fuel (0 : UInt64) (0 : Int)

/-- slices.Clone[[]byte,byte] -/
def slices_Clone_bytebyte (sp0 : List UInt8) : Option (List UInt8) :=
  chk (fits ([] : List UInt8).length sp0.length 1) <|
  some sp0

/-- (*gmem.Mem).Read -/
def gmem_Mem_Read (m : gmem_Mem) (atp1 : UInt64) (np2 : Int) : Option ((List UInt8) × Int) :=
  ob (gmem_Mem_made m) fun made1 =>
  br (decide (np2 < (0 : Int)))
  (some (([] : List UInt8), (2 : Int)))
  (br (np2 == (0 : Int))
  (some (([] : List UInt8), (0 : Int)))
  (ob (gmem_Mem_bytes m atp1 (u64 np2)) fun bytes1 =>
  onO bytes1
  (some (([] : List UInt8), (5 : Int)))
  (fun w1 =>
  ob (ix m.b w1.1) fun row1 =>
  chk (decide (0 ≤ w1.2.1 ∧ w1.2.1 ≤ w1.2.2 ∧ w1.2.2 ≤ len row1)) <|
  chk (decide (w1.2.1 < w1.2.2)) <|
  ob (slices_Clone_bytebyte (sub row1 w1.2.1 w1.2.2)) fun cloneb1 =>
  some (cloneb1, (0 : Int)))))

/-- (*gmem.Mem).Has -/
def gmem_Mem_Has (m : gmem_Mem) (atp1 : UInt64) (np2 : UInt64) : Option Bool :=
  ob (gmem_Mem_made m) fun made1 =>
  ob (gmem_Mem_bytes m atp1 np2) fun bytes1 =>
  onO bytes1
  (some false)
  (fun w1 =>
  ob (ix m.b w1.1) fun row1 =>
  chk (decide (0 ≤ w1.2.1 ∧ w1.2.1 ≤ w1.2.2 ∧ w1.2.2 ≤ len row1)) <|
  chk (decide (w1.2.1 < w1.2.2)) <|
  some true)

def seg_InL1B (m : gmem_Mem) (l : List Seg) (L1 : Int → Option Int) (x1 : Int) : Option Int :=
  br (decide (x1 < (len l)))
  (ob (ix l x1) fun s1 =>
  ob (gmem_Mem_Has m s1.At s1.Len.toUInt64) fun has1 =>
  br ((!has1))
  (some (5 : Int))
  (L1 (wi (x1 + (1 : Int)))))
  (some (0 : Int))

def seg_InL1 (m : gmem_Mem) (l : List Seg) : Nat → Int → Option Int
  | 0, _ => none
  | nf + 1, x1 => seg_InL1B m l (seg_InL1 m l nf) x1

/-- seg.In -/
def seg_In (m : gmem_Mem) (l : List Seg) : Option Int :=
  ob (gmem_Mem_Read m (0 : UInt64) (0 : Int)) fun read1 =>
  br (read1.2 != (0 : Int))
  (some read1.2)
  (ob (seg_Check l) fun check1 =>
  br (check1 != (0 : Int))
  (some check1)
  (seg_InL1 m l fuel (0 : Int)))

def seg_PartL1B (l : List Seg) (write : Bool) (L1 : (List Seg) → Int → Option (List Seg)) (out1 : List Seg) (x1 : Int) : Option (List Seg) :=
  br (decide (x1 < (len l)))
  (ob (ix l x1) fun s1 =>
  br (s1.Write == write)
  (chk (fits out1.length [s1].length 16) <|
  L1 (out1 ++ [s1]) (wi (x1 + (1 : Int))))
  (L1 out1 (wi (x1 + (1 : Int)))))
  (some out1)

def seg_PartL1 (l : List Seg) (write : Bool) : Nat → (List Seg) → Int → Option (List Seg)
  | 0, _, _ => none
  | nf + 1, out1, x1 => seg_PartL1B l write (seg_PartL1 l write nf) out1 x1

/-- seg.Part -/
def seg_Part (l : List Seg) (write : Bool) : Option (List Seg) :=
  ob (seg_Check l) fun check1 =>
  br (check1 != (0 : Int))
  (some ([] : List Seg))
  (seg_PartL1 l write fuel [] (0 : Int))

/-- frame.Check -/
def frame_Check (f : Frame) : Option Int :=
  br (decide (f.Vlan < ((-1) : Int)))
  (some (2 : Int))
  (br (decide (f.Vlan > (4095 : Int)))
  (some (2 : Int))
  (br (f.Type_ == (33024 : UInt16))
  (some (2 : Int))
  (br (decide ((len f.Data) > (1500 : Int)))
  (some (2 : Int))
  (some (0 : Int)))))

def slices_Grow_bytebyten0J1 (np1 : Int)  : Option (List UInt8) :=
  br (decide ((wi (np1 - (wi ((0 : Int) - (0 : Int))))) > (0 : Int)))
  (chk (decide (0 ≤ (wi (np1 - (wi ((0 : Int) - (0 : Int))))) ∧ (1 : Int) * (wi (np1 - (wi ((0 : Int) - (0 : Int))))) ≤ 140737488355328)) <|
  chk (decide (0 ≤ (0 : Int) ∧ (0 : Int) ≤ len (List.replicate (wi (np1 - (wi ((0 : Int) - (0 : Int))))).toNat (0 : UInt8)))) <|
  some ((List.replicate (wi (np1 - (wi ((0 : Int) - (0 : Int))))).toNat (0 : UInt8)).take (0 : Int).toNat))
  (some ([] : List UInt8))

/-- slices.Grow[[]byte,byte] -/
def slices_Grow_bytebyten0 (np1 : Int) : Option (List UInt8) :=
  chk (!(decide (np1 < (0 : Int)))) <|
  slices_Grow_bytebyten0J1 np1

def slices_Concat_bytebyteJ2 (x1 : Int) (L1 : Int → Int → Option (List UInt8)) (size2 : Int) : Option (List UInt8) :=
  L1 size2 (wi (x1 + (1 : Int)))

def slices_Concat_bytebyteJ3 (size1 : Int) (x1 : Int) (L1 : Int → Int → Option (List UInt8)) (y1 : List UInt8)  : Option (List UInt8) :=
  slices_Concat_bytebyteJ2 x1 L1 (wi (size1 + (len y1)))

def slices_Concat_bytebyteL4B (slices : List (List UInt8)) (L4 : (List UInt8) → Int → Option (List UInt8)) (newslice1 : List UInt8) (x2 : Int) : Option (List UInt8) :=
  br (decide (x2 < (len slices)))
  (ob (ix slices x2) fun y2 =>
  chk (fits newslice1.length y2.length 1) <|
  L4 (newslice1 ++ y2) (wi (x2 + (1 : Int))))
  (some newslice1)

def slices_Concat_bytebyteL4 (slices : List (List UInt8)) : Nat → (List UInt8) → Int → Option (List UInt8)
  | 0, _, _ => none
  | nf + 1, newslice1, x2 => slices_Concat_bytebyteL4B slices (slices_Concat_bytebyteL4 slices nf) newslice1 x2

def slices_Concat_bytebyteL1B (slices : List (List UInt8)) (L1 : Int → Int → Option (List UInt8)) (size1 : Int) (x1 : Int) : Option (List UInt8) :=
  br (decide (x1 < (len slices)))
  (ob (ix slices x1) fun y1 =>
  chk (!(decide ((wi (size1 + (len y1))) < (0 : Int)))) <|
  slices_Concat_bytebyteJ3 size1 x1 L1 y1)
  (ob (slices_Grow_bytebyten0 size1) fun growby1 =>
  slices_Concat_bytebyteL4 slices fuel growby1 (0 : Int))

def slices_Concat_bytebyteL1 (slices : List (List UInt8)) : Nat → Int → Int → Option (List UInt8)
  | 0, _, _ => none
  | nf + 1, size1, x1 => slices_Concat_bytebyteL1B slices (slices_Concat_bytebyteL1 slices nf) size1 x1

/-- slices.Concat[[]byte,byte] -/
def slices_Concat_bytebyte (slices : List (List UInt8)) : Option (List UInt8) :=
  slices_Concat_bytebyteL1 slices fuel (0 : Int) (0 : Int)

def frame_BytesJ1 (f : Frame) (b2 : List UInt8) : Option ((List UInt8) × Int) :=
  chk (fits b2.length [(shr16 f.Type_ ((8 : UInt64).toNat)).toUInt8, f.Type_.toUInt8].length 1) <|
  chk (fits (b2 ++ [(shr16 f.Type_ ((8 : UInt64).toNat)).toUInt8, f.Type_.toUInt8]).length f.Data.length 1) <|
  some ((b2 ++ [(shr16 f.Type_ ((8 : UInt64).toNat)).toUInt8, f.Type_.toUInt8]) ++ f.Data, (0 : Int))

/-- frame.Bytes -/
def frame_Bytes (f : Frame) : Option ((List UInt8) × Int) :=
  ob (frame_Check f) fun check1 =>
  br (check1 != (0 : Int))
  (some (([] : List UInt8), check1))
  (ob (slices_Concat_bytebyte [[f.Dst.a0, f.Dst.a1, f.Dst.a2, f.Dst.a3, f.Dst.a4, f.Dst.a5], [f.Src.a0, f.Src.a1, f.Src.a2, f.Src.a3, f.Src.a4, f.Src.a5]]) fun concat1 =>
  br (decide (f.Vlan ≥ (0 : Int)))
  (chk (fits concat1.length [(129 : UInt8), (0 : UInt8), u8 (shri f.Vlan ((8 : UInt64).toNat)), u8 f.Vlan].length 1) <|
  frame_BytesJ1 f (concat1 ++ [(129 : UInt8), (0 : UInt8), u8 (shri f.Vlan ((8 : UInt64).toNat)), u8 f.Vlan]))
  (frame_BytesJ1 f concat1))

/-- dumbwaiterlaw25.lives -/
def law25zlives  : Option Bool :=
  ob (law25zrooms [(20 : Int), (20 : Int), (20 : Int)]) fun rooms1 =>
  ob (net_Needs (32768 : UInt64) rooms1 (40 : Int)) fun needs1 =>
  ob (net_Needs (32768 : UInt64) rooms1 (41 : Int)) fun needs2 =>
  ob (net_Needs (32768 : UInt64) rooms1 (61 : Int)) fun needs3 =>
  ob (net_Needs (0 : UInt64) rooms1 (20 : Int)) fun needs4 =>
  ob (net_Needs (0 : UInt64) rooms1 (21 : Int)) fun needs5 =>
  br (needs1.1 == (2 : Int))
  (br (needs1.2)
  (br (needs2.1 == (3 : Int))
  (br (needs2.2)
  (br (needs3.1 == (0 : Int))
  (br ((!needs3.2))
  (br (needs4.1 == (1 : Int))
  (br (needs4.2)
  (br (needs5.1 == (0 : Int))
  (some (!needs5.2))
  (some false))
  (some false))
  (some false))
  (some false))
  (some false))
  (some false))
  (some false))
  (some false))
  (some false)

/-- dumbwaiterref23.Check -/
def ref_Check23 (f : Frame) : Option Int :=
  br (decide (f.Vlan < ((-1) : Int)))
  (some (2 : Int))
  (br (decide (f.Vlan > (4095 : Int)))
  (some (2 : Int))
  (br (f.Type_ == (33024 : UInt16))
  (some (2 : Int))
  (br (decide ((len f.Data) > (1500 : Int)))
  (some (2 : Int))
  (some (0 : Int)))))

/-- dumbwaiterkit.Pick -/
def kit_Pick (np0 : Int) (m : Int) : Option Int :=
  br (decide (m < (1 : Int)))
  (some (0 : Int))
  (chk (!(m == 0)) <|
  br (decide ((remi np0 m) < (0 : Int)))
  (some (wi ((remi np0 m) + m)))
  (some (remi np0 m)))

/-- dumbwaiterlaw25.memory -/
def law25zmemory  : Option (List Region) :=
  some [(Region.mk (0 : UInt64) (16384 : UInt64))]

def ref_Bytes23J3  (Dst3 : A6 UInt8) (Src3 : A6 UInt8) (Vlan3 : Int) (Type3 : UInt16) (Data3 : List UInt8) (b4 : List UInt8) : Option ((List UInt8) × Int) :=
  chk (fits b4.length [(shr16 Type3 ((8 : UInt64).toNat)).toUInt8, Type3.toUInt8].length 1) <|
  chk (fits (b4 ++ [(shr16 Type3 ((8 : UInt64).toNat)).toUInt8, Type3.toUInt8]).length Data3.length 1) <|
  some ((b4 ++ [(shr16 Type3 ((8 : UInt64).toNat)).toUInt8, Type3.toUInt8]) ++ Data3, (0 : Int))

def ref_Bytes23L2B  (L2 : (A6 UInt8) → (A6 UInt8) → Int → UInt16 → (List UInt8) → (List UInt8) → Int → Option ((List UInt8) × Int)) (Dst2 : A6 UInt8) (Src2 : A6 UInt8) (Vlan2 : Int) (Type2 : UInt16) (Data2 : List UInt8) (b3 : List UInt8) (i2 : Int) : Option ((List UInt8) × Int) :=
  br (decide (i2 < (6 : Int)))
  (chk (decide (0 ≤ i2 ∧ i2 < (6 : Int))) <|
  ob (ix [Src2.a0, Src2.a1, Src2.a2, Src2.a3, Src2.a4, Src2.a5] i2) fun u2 =>
  chk (fits b3.length [u2].length 1) <|
  L2 Dst2 Src2 Vlan2 Type2 Data2 (b3 ++ [u2]) (wi (i2 + (1 : Int))))
  (br (decide (Vlan2 ≥ (0 : Int)))
  (chk (fits b3.length [(129 : UInt8), (0 : UInt8), u8 (shri Vlan2 ((8 : UInt64).toNat)), u8 Vlan2].length 1) <|
  ref_Bytes23J3 Dst2 Src2 Vlan2 Type2 Data2 (b3 ++ [(129 : UInt8), (0 : UInt8), u8 (shri Vlan2 ((8 : UInt64).toNat)), u8 Vlan2]))
  (ref_Bytes23J3 Dst2 Src2 Vlan2 Type2 Data2 b3))

def ref_Bytes23L2  : Nat → (A6 UInt8) → (A6 UInt8) → Int → UInt16 → (List UInt8) → (List UInt8) → Int → Option ((List UInt8) × Int)
  | 0, _, _, _, _, _, _, _ => none
  | nf + 1, Dst2, Src2, Vlan2, Type2, Data2, b3, i2 => ref_Bytes23L2B (ref_Bytes23L2 nf) Dst2 Src2 Vlan2 Type2 Data2 b3 i2

def ref_Bytes23L1B  (L1 : (A6 UInt8) → (A6 UInt8) → Int → UInt16 → (List UInt8) → (List UInt8) → Int → Option ((List UInt8) × Int)) (Dst1 : A6 UInt8) (Src1 : A6 UInt8) (Vlan1 : Int) (Type1 : UInt16) (Data1 : List UInt8) (b2 : List UInt8) (i1 : Int) : Option ((List UInt8) × Int) :=
  br (decide (i1 < (6 : Int)))
  (chk (decide (0 ≤ i1 ∧ i1 < (6 : Int))) <|
  ob (ix [Dst1.a0, Dst1.a1, Dst1.a2, Dst1.a3, Dst1.a4, Dst1.a5] i1) fun u1 =>
  chk (fits b2.length [u1].length 1) <|
  L1 Dst1 Src1 Vlan1 Type1 Data1 (b2 ++ [u1]) (wi (i1 + (1 : Int))))
  (ref_Bytes23L2 fuel Dst1 Src1 Vlan1 Type1 Data1 b2 (0 : Int))

def ref_Bytes23L1  : Nat → (A6 UInt8) → (A6 UInt8) → Int → UInt16 → (List UInt8) → (List UInt8) → Int → Option ((List UInt8) × Int)
  | 0, _, _, _, _, _, _, _ => none
  | nf + 1, Dst1, Src1, Vlan1, Type1, Data1, b2, i1 => ref_Bytes23L1B (ref_Bytes23L1 nf) Dst1 Src1 Vlan1 Type1 Data1 b2 i1

/-- dumbwaiterref23.Bytes -/
def ref_Bytes23 (f : Frame) : Option ((List UInt8) × Int) :=
  ob (ref_Check23 f) fun check1 =>
  br (check1 != (0 : Int))
  (some (([] : List UInt8), check1))
  (ref_Bytes23L1 fuel f.Dst f.Src f.Vlan f.Type_ f.Data [] (0 : Int))

/-- dumbwaiterkit.Own -/
def kit_Own (b : List UInt8) : Option (List UInt8) :=
  chk (fits ([] : List UInt8).length b.length 1) <|
  some b

/-- dumbwaiterref23.HdrOf -/
def ref_HdrOf23 (hp0 : Hdr) : Option (List UInt8) :=
  some [hp0.Flags, (0 : UInt8), (0 : UInt8), (0 : UInt8), (0 : UInt8), (0 : UInt8), hp0.Start.toUInt8, (shr16 hp0.Start ((8 : UInt64).toNat)).toUInt8, hp0.Off.toUInt8, (shr16 hp0.Off ((8 : UInt64).toNat)).toUInt8, hp0.Buffers.toUInt8, (shr16 hp0.Buffers ((8 : UInt64).toNat)).toUInt8]

def seg_GatherL1B (m : gmem_Mem) (part1 : (List Seg)) (L1 : (List (List UInt8)) → (List Seg) → Int → Option ((List UInt8) × Int)) (parts1 : List (List UInt8)) (l1 : List Seg) (x1 : Int) : Option ((List UInt8) × Int) :=
  br (decide (x1 < (len part1)))
  (ob (ix l1 x1) fun s1 =>
  ob (gmem_Mem_Read m s1.At (i32 s1.Len)) fun read1 =>
  br (read1.2 != (0 : Int))
  (some (([] : List UInt8), read1.2))
  (chk (fits parts1.length [read1.1].length 24) <|
  L1 (parts1 ++ [read1.1]) l1 (wi (x1 + (1 : Int)))))
  (ob (slices_Concat_bytebyte parts1) fun concat1 =>
  some (concat1, (0 : Int)))

def seg_GatherL1 (m : gmem_Mem) (part1 : (List Seg)) : Nat → (List (List UInt8)) → (List Seg) → Int → Option ((List UInt8) × Int)
  | 0, _, _, _ => none
  | nf + 1, parts1, l1, x1 => seg_GatherL1B m part1 (seg_GatherL1 m part1 nf) parts1 l1 x1

/-- seg.Gather -/
def seg_Gather (m : gmem_Mem) (l : List Seg) : Option ((List UInt8) × Int) :=
  ob (seg_In m l) fun in1 =>
  br (in1 != (0 : Int))
  (some (([] : List UInt8), in1))
  (ob (seg_Part l false) fun part1 =>
  seg_GatherL1 m part1 fuel [] part1 (0 : Int))

/-- frame.ReadHdr$1 -/
def frame_ReadHdr_1 (ip0 : Int) (arg1 : List UInt8) : Option UInt16 :=
  ob (ix arg1 ip0) fun y1 =>
  ob (ix arg1 (wi (ip0 + (1 : Int)))) fun y2 =>
  some (y1.toUInt16 ||| (shl16 y2.toUInt16 ((8 : UInt64).toNat)))

/-- frame.ReadHdr -/
def frame_ReadHdr (b : List UInt8) : Option (Hdr × Int) :=
  br (decide ((len b) < (12 : Int)))
  (some ((Hdr.mk (0 : UInt8) (0 : UInt16) (0 : UInt16) (0 : UInt16)), (4 : Int)))
  (ob (ix b (0 : Int)) fun y1 =>
  ob (frame_ReadHdr_1 (6 : Int) b) fun readhd1 =>
  ob (frame_ReadHdr_1 (8 : Int) b) fun readhd2 =>
  ob (frame_ReadHdr_1 (10 : Int) b) fun readhd3 =>
  some ((Hdr.mk y1 readhd1 readhd2 readhd3), (0 : Int)))

/-- frame.word -/
def frame_word (b : List UInt8) : Option UInt16 :=
  ob (ix b (0 : Int)) fun y1 =>
  ob (ix b (1 : Int)) fun y2 =>
  some ((shl16 y1.toUInt16 ((8 : UInt64).toNat)) ||| y2.toUInt16)

def frame_SumL3B  (L3 : UInt64 → Option UInt16) (s3 : UInt64) : Option UInt16 :=
  br ((shr64 s3 ((16 : UInt64).toNat)) != (0 : UInt64))
  (L3 ((shr64 s3 ((16 : UInt64).toNat)) + (s3 &&& (65535 : UInt64))))
  (some (~~~s3.toUInt16))

def frame_SumL3  : Nat → UInt64 → Option UInt16
  | 0, _ => none
  | nf + 1, s3 => frame_SumL3B (frame_SumL3 nf) s3

def frame_SumJ2  (s2 : UInt64) : Option UInt16 :=
  frame_SumL3 fuel s2

def frame_SumL1B  (L1 : (List UInt8) → UInt64 → Option UInt16) (b1 : List UInt8) (s1 : UInt64) : Option UInt16 :=
  br (decide ((len b1) > (1 : Int)))
  (ob (frame_word b1) fun word1 =>
  chk (decide (0 ≤ (2 : Int) ∧ (2 : Int) ≤ (len b1) ∧ (len b1) ≤ len b1)) <|
  L1 (sub b1 (2 : Int) (len b1)) (s1 + word1.toUInt64))
  (br ((len b1) == (1 : Int))
  (ob (ix b1 (0 : Int)) fun y1 =>
  frame_SumJ2 (s1 + (shl64 y1.toUInt64 ((8 : UInt64).toNat))))
  (frame_SumJ2 s1))

def frame_SumL1  : Nat → (List UInt8) → UInt64 → Option UInt16
  | 0, _, _ => none
  | nf + 1, b1, s1 => frame_SumL1B (frame_SumL1 nf) b1 s1

/-- frame.Sum -/
def frame_Sum (b : List UInt8) : Option UInt16 :=
  frame_SumL1 fuel b (0 : UInt64)

/-- frame.Fill -/
def frame_Fill (b : List UInt8) (hp1 : Hdr) : Option ((List UInt8) × Int) :=
  br ((hp1.Flags &&& (1 : UInt8)) == (0 : UInt8))
  (ob (slices_Clone_bytebyte b) fun cloneb1 =>
  some (cloneb1, (0 : Int)))
  (br (decide ((i16 hp1.Start) > (len b)))
  (some (([] : List UInt8), (4 : Int)))
  (br (decide ((wi ((wi ((i16 hp1.Start) + (i16 hp1.Off))) + (2 : Int))) > (len b)))
  (some (([] : List UInt8), (4 : Int)))
  (ob (slices_Clone_bytebyte b) fun cloneb2 =>
  chk (decide (0 ≤ (i16 hp1.Start) ∧ (i16 hp1.Start) ≤ (len cloneb2) ∧ (len cloneb2) ≤ len cloneb2)) <|
  ob (frame_Sum (sub cloneb2 (i16 hp1.Start) (len cloneb2))) fun sum1 =>
  ob (ix cloneb2 (wi ((i16 hp1.Start) + (i16 hp1.Off)))) fun y1 =>
  ob (ix (cloneb2.set (wi ((i16 hp1.Start) + (i16 hp1.Off))).toNat ((shr16 sum1 ((8 : UInt64).toNat)).toUInt8)) (wi ((wi ((i16 hp1.Start) + (i16 hp1.Off))) + (1 : Int)))) fun y2 =>
  some ((cloneb2.set (wi ((i16 hp1.Start) + (i16 hp1.Off))).toNat ((shr16 sum1 ((8 : UInt64).toNat)).toUInt8)).set (wi ((wi ((i16 hp1.Start) + (i16 hp1.Off))) + (1 : Int))).toNat sum1.toUInt8, (0 : Int)))))

def frame_ReadJ1  (Dst1 : A6 UInt8) (Src1 : A6 UInt8) (Vlan1 : Int) (Type1 : UInt16) (Data1 : List UInt8) (Dst2 : A6 UInt8) (Src2 : A6 UInt8) (Vlan2 : Int) (Type2 : UInt16) (Data2 : List UInt8) (rest1 : List UInt8) : Option (Frame × Int) :=
  ob (frame_word rest1) fun word2 =>
  chk (decide (0 ≤ (2 : Int) ∧ (2 : Int) ≤ (len rest1) ∧ (len rest1) ≤ len rest1)) <|
  ob (slices_Clone_bytebyte (sub rest1 (2 : Int) (len rest1))) fun cloneb1 =>
  ob (frame_Check (Frame.mk Dst2 Src2 Vlan2 word2 cloneb1)) fun check1 =>
  br (check1 != (0 : Int))
  (some ((Frame.mk (A6.mk (0 : UInt8) (0 : UInt8) (0 : UInt8) (0 : UInt8) (0 : UInt8) (0 : UInt8)) (A6.mk (0 : UInt8) (0 : UInt8) (0 : UInt8) (0 : UInt8) (0 : UInt8) (0 : UInt8)) (0 : Int) (0 : UInt16) ([] : List UInt8)), (4 : Int)))
  (some ((Frame.mk Dst2 Src2 Vlan2 word2 cloneb1), (0 : Int)))

/-- frame.Read -/
def frame_Read (b : List UInt8) : Option (Frame × Int) :=
  br (decide ((len b) < (14 : Int)))
  (some ((Frame.mk (A6.mk (0 : UInt8) (0 : UInt8) (0 : UInt8) (0 : UInt8) (0 : UInt8) (0 : UInt8)) (A6.mk (0 : UInt8) (0 : UInt8) (0 : UInt8) (0 : UInt8) (0 : UInt8) (0 : UInt8)) (0 : Int) (0 : UInt16) ([] : List UInt8)), (4 : Int)))
  (chk (decide (0 ≤ (0 : Int) ∧ (0 : Int) ≤ (6 : Int) ∧ (6 : Int) ≤ len b)) <|
  chk (Nat.ble 6 (sub b (0 : Int) (6 : Int)).length) <|
  ob (A6.ofL ((sub b (0 : Int) (6 : Int)).take 6)) fun a1 =>
  chk (decide (0 ≤ (6 : Int) ∧ (6 : Int) ≤ (12 : Int) ∧ (12 : Int) ≤ len b)) <|
  chk (Nat.ble 6 (sub b (6 : Int) (12 : Int)).length) <|
  ob (A6.ofL ((sub b (6 : Int) (12 : Int)).take 6)) fun a2 =>
  chk (decide (0 ≤ (12 : Int) ∧ (12 : Int) ≤ (len b) ∧ (len b) ≤ len b)) <|
  ob (frame_word (sub b (12 : Int) (len b))) fun word1 =>
  br (word1 == (33024 : UInt16))
  (br (decide ((len (sub b (12 : Int) (len b))) < (6 : Int)))
  (some ((Frame.mk (A6.mk (0 : UInt8) (0 : UInt8) (0 : UInt8) (0 : UInt8) (0 : UInt8) (0 : UInt8)) (A6.mk (0 : UInt8) (0 : UInt8) (0 : UInt8) (0 : UInt8) (0 : UInt8) (0 : UInt8)) (0 : Int) (0 : UInt16) ([] : List UInt8)), (4 : Int)))
  (chk (decide (0 ≤ (2 : Int) ∧ (2 : Int) ≤ (len (sub b (12 : Int) (len b))) ∧ (len (sub b (12 : Int) (len b))) ≤ len (sub b (12 : Int) (len b)))) <|
  ob (frame_word (sub (sub b (12 : Int) (len b)) (2 : Int) (len (sub b (12 : Int) (len b))))) fun word3 =>
  chk (decide (0 ≤ (4 : Int) ∧ (4 : Int) ≤ (len (sub b (12 : Int) (len b))) ∧ (len (sub b (12 : Int) (len b))) ≤ len (sub b (12 : Int) (len b)))) <|
  frame_ReadJ1 (A6.mk (0 : UInt8) (0 : UInt8) (0 : UInt8) (0 : UInt8) (0 : UInt8) (0 : UInt8)) (A6.mk (0 : UInt8) (0 : UInt8) (0 : UInt8) (0 : UInt8) (0 : UInt8) (0 : UInt8)) (0 : Int) (0 : UInt16) ([] : List UInt8) a1 a2 (i16 word3) (0 : UInt16) ([] : List UInt8) (sub (sub b (12 : Int) (len b)) (4 : Int) (len (sub b (12 : Int) (len b))))))
  (frame_ReadJ1 (A6.mk (0 : UInt8) (0 : UInt8) (0 : UInt8) (0 : UInt8) (0 : UInt8) (0 : UInt8)) (A6.mk (0 : UInt8) (0 : UInt8) (0 : UInt8) (0 : UInt8) (0 : UInt8) (0 : UInt8)) (0 : Int) (0 : UInt16) ([] : List UInt8) a1 a2 ((-1) : Int) (0 : UInt16) ([] : List UInt8) (sub b (12 : Int) (len b))))

/-- net.Sent -/
def net_Sent (m : gmem_Mem) (feats : UInt64) (l : List Seg) : Option (Frame × Int) :=
  ob (seg_Gather m l) fun gather1 =>
  br (gather1.2 != (0 : Int))
  (some ((Frame.mk (A6.mk (0 : UInt8) (0 : UInt8) (0 : UInt8) (0 : UInt8) (0 : UInt8) (0 : UInt8)) (A6.mk (0 : UInt8) (0 : UInt8) (0 : UInt8) (0 : UInt8) (0 : UInt8) (0 : UInt8)) (0 : Int) (0 : UInt16) ([] : List UInt8)), gather1.2))
  (ob (frame_ReadHdr gather1.1) fun readhd1 =>
  br (readhd1.2 != (0 : Int))
  (some ((Frame.mk (A6.mk (0 : UInt8) (0 : UInt8) (0 : UInt8) (0 : UInt8) (0 : UInt8) (0 : UInt8)) (A6.mk (0 : UInt8) (0 : UInt8) (0 : UInt8) (0 : UInt8) (0 : UInt8) (0 : UInt8)) (0 : Int) (0 : UInt16) ([] : List UInt8)), (4 : Int)))
  (chk (decide (0 ≤ (12 : Int) ∧ (12 : Int) ≤ (len gather1.1) ∧ (len gather1.1) ≤ len gather1.1)) <|
  ob (feat_Has feats (0 : Int)) fun has1 =>
  br (has1)
  (ob (frame_Fill (sub gather1.1 (12 : Int) (len gather1.1)) readhd1.1) fun fill1 =>
  br (fill1.2 != (0 : Int))
  (some ((Frame.mk (A6.mk (0 : UInt8) (0 : UInt8) (0 : UInt8) (0 : UInt8) (0 : UInt8) (0 : UInt8)) (A6.mk (0 : UInt8) (0 : UInt8) (0 : UInt8) (0 : UInt8) (0 : UInt8) (0 : UInt8)) (0 : Int) (0 : UInt16) ([] : List UInt8)), (4 : Int)))
  (ob (frame_Read fill1.1) fun read1 =>
  some (read1.1, read1.2)))
  (ob (frame_Read (sub gather1.1 (12 : Int) (len gather1.1))) fun read2 =>
  some (read2.1, read2.2))))

/-- dumbwaiterkit.Frame -/
def kit_Frame (ap0 : Frame) (b : Frame) : Option Bool :=
  br (ap0.Dst == b.Dst)
  (br (ap0.Src == b.Src)
  (br (ap0.Vlan == b.Vlan)
  (br (ap0.Type_ == b.Type_)
  (some (ap0.Data == b.Data))
  (some false))
  (some false))
  (some false))
  (some false)

def ref_Sum23J2 (i1 : Int) (L1 : UInt64 → Int → Option UInt16) (n2 : UInt64) : Option UInt16 :=
  L1 n2 (wi (i1 + (2 : Int)))

def ref_Sum23J3 (i1 : Int) (L1 : UInt64 → Int → Option UInt16) (n3 : UInt64) : Option UInt16 :=
  ref_Sum23J2 i1 L1 n3

def ref_Sum23L4B  (L4 : UInt64 → Option UInt16) (n4 : UInt64) : Option UInt16 :=
  br (decide (n4 > (65535 : UInt64)))
  (L4 ((n4 % (65536 : UInt64)) + (n4 / (65536 : UInt64))))
  (some (~~~n4.toUInt16))

def ref_Sum23L4  : Nat → UInt64 → Option UInt16
  | 0, _ => none
  | nf + 1, n4 => ref_Sum23L4B (ref_Sum23L4 nf) n4

def ref_Sum23L1B (b : List UInt8) (L1 : UInt64 → Int → Option UInt16) (n1 : UInt64) (i1 : Int) : Option UInt16 :=
  br (decide (i1 < (len b)))
  (ob (ix b i1) fun y1 =>
  br (decide ((wi (i1 + (1 : Int))) < (len b)))
  (ob (ix b (wi (i1 + (1 : Int)))) fun y2 =>
  ref_Sum23J3 i1 L1 ((n1 + (shl64 y1.toUInt64 ((8 : UInt64).toNat))) + y2.toUInt64))
  (ref_Sum23J3 i1 L1 (n1 + (shl64 y1.toUInt64 ((8 : UInt64).toNat)))))
  (ref_Sum23L4 fuel n1)

def ref_Sum23L1 (b : List UInt8) : Nat → UInt64 → Int → Option UInt16
  | 0, _, _ => none
  | nf + 1, n1, i1 => ref_Sum23L1B b (ref_Sum23L1 b nf) n1 i1

/-- dumbwaiterref23.Sum -/
def ref_Sum23 (b : List UInt8) : Option UInt16 :=
  ref_Sum23L1 b fuel (0 : UInt64) (0 : Int)

/-- dumbwaiterlaw25.NetSums -/
def law25zNetSums (f : Frame) (off : Int) : Option Bool :=
  ob (law25zlives) fun lives1 =>
  chk (!((!lives1))) <|
  ob (ref_Check23 f) fun check1 =>
  br (check1 != (0 : Int))
  (some true)
  (br (decide ((len f.Data) < (2 : Int)))
  (some true)
  (chk (decide (0 ≤ (0 : Int) ∧ (0 : Int) ≤ (wi ((quoi (len f.Data) (2 : Int)) * (2 : Int))) ∧ (wi ((quoi (len f.Data) (2 : Int)) * (2 : Int))) ≤ len f.Data)) <|
  ob (kit_Own (sub f.Data (0 : Int) (wi ((quoi (len f.Data) (2 : Int)) * (2 : Int))))) fun own1 =>
  ob (kit_Pick off (quoi (len own1) (2 : Int))) fun pick1 =>
  ob (ix own1 (wi ((2 : Int) * pick1))) fun y1 =>
  ob (ix (own1.set (wi ((2 : Int) * pick1)).toNat (0 : UInt8)) (wi ((wi ((2 : Int) * pick1)) + (1 : Int)))) fun y2 =>
  ob (ref_Bytes23 (Frame.mk f.Dst f.Src f.Vlan f.Type_ ((own1.set (wi ((2 : Int) * pick1)).toNat (0 : UInt8)).set (wi ((wi ((2 : Int) * pick1)) + (1 : Int))).toNat (0 : UInt8)))) fun bytes1 =>
  ob (ref_HdrOf23 (Hdr.mk (1 : UInt8) (u16 (wi ((len bytes1.1) - (len ((own1.set (wi ((2 : Int) * pick1)).toNat (0 : UInt8)).set (wi ((wi ((2 : Int) * pick1)) + (1 : Int))).toNat (0 : UInt8)))))) (u16 (wi ((2 : Int) * pick1))) (0 : UInt16))) fun hdrof1 =>
  chk (fits hdrof1.length bytes1.1.length 1) <|
  ob (law25zmemory) fun memory1 =>
  ob (gmem_New memory1) fun new1 =>
  onO new1.1
  (none)
  (fun mem1 =>
  chk (!(new1.2 != (0 : Int))) <|
  ob (gmem_Mem_Write mem1 (50 : UInt64) (hdrof1 ++ bytes1.1)) fun write1 =>
  chk (!(write1.1 != (0 : Int))) <|
  ob (net_Sent (gmem_Mem.mk mem1.l write1.2) (1 : UInt64) [(Seg.mk (50 : UInt64) (u32 (len (hdrof1 ++ bytes1.1))) false)]) fun sent1 =>
  ob (net_Sent (gmem_Mem.mk mem1.l write1.2) (0 : UInt64) [(Seg.mk (50 : UInt64) (u32 (len (hdrof1 ++ bytes1.1))) false)]) fun sent2 =>
  chk (!(sent1.2 != (0 : Int))) <|
  chk (!(sent2.2 != (0 : Int))) <|
  ob (kit_Frame sent2.1 (Frame.mk f.Dst f.Src f.Vlan f.Type_ ((own1.set (wi ((2 : Int) * pick1)).toNat (0 : UInt8)).set (wi ((wi ((2 : Int) * pick1)) + (1 : Int))).toNat (0 : UInt8)))) fun frame1 =>
  chk (!((!frame1))) <|
  ob (ref_Sum23 sent1.1.Data) fun sum1 =>
  chk (!(sum1 != (0 : UInt16))) <|
  ob (ix sent1.1.Data (wi ((2 : Int) * pick1))) fun y3 =>
  ob (ix (sent1.1.Data.set (wi ((2 : Int) * pick1)).toNat (0 : UInt8)) (wi ((wi ((2 : Int) * pick1)) + (1 : Int)))) fun y4 =>
  ob (kit_Frame (Frame.mk sent1.1.Dst sent1.1.Src sent1.1.Vlan sent1.1.Type_ ((sent1.1.Data.set (wi ((2 : Int) * pick1)).toNat (0 : UInt8)).set (wi ((wi ((2 : Int) * pick1)) + (1 : Int))).toNat (0 : UInt8))) (Frame.mk f.Dst f.Src f.Vlan f.Type_ ((own1.set (wi ((2 : Int) * pick1)).toNat (0 : UInt8)).set (wi ((wi ((2 : Int) * pick1)) + (1 : Int))).toNat (0 : UInt8)))) fun frame2 =>
  chk (frame2) <|
  some true)))

end Go.Proofs.Ytdaijemhibbgeaa
