/- What the functions reckon, as plain words. No statement of the seat is proved here; no condition. -/
import Derived.Test.YtkdekmjcfoahjaaTy
namespace Go.Proofs.Ytkdekmjcfoahjaa

/-- seg.Check$1 -/
def seg_Check_1 (arg0 : Int) (arg1 : UInt64) : Option Int :=
  br (arg0 == (0 : Int))
  (br (decide (arg1 ≥ (4294967296 : UInt64)))
  (some (2 : Int))
  (some arg0))
  (some arg0)

def seg_CheckL1B (l : List Seg) (L1 : Int → UInt64 → Int → Option Int) (m1 : Int) (m2 : UInt64) (x1 : Int) : Option Int :=
  br (decide (x1 < (len l)))
  (ob (ix l x1) fun s1 =>
  br (decide (s1.Len < (1 : UInt32)))
  (ob (seg_Check_1 (2 : Int) m2) fun check1 =>
  some check1)
  (br (decide ((s1.Len.toUInt64 - (1 : UInt64)) > ((18446744073709551615 : UInt64) - s1.At)))
  (ob (seg_Check_1 (2 : Int) m2) fun check2 =>
  some check2)
  (br (decide (x1 > (0 : Int)))
  (ob (ix l (wi (x1 - (1 : Int)))) fun s2 =>
  br (s2.Write)
  (br ((!s1.Write))
  (ob (seg_Check_1 (2 : Int) m2) fun check3 =>
  some check3)
  (L1 m1 (m2 + s1.Len.toUInt64) (wi (x1 + (1 : Int)))))
  (L1 m1 (m2 + s1.Len.toUInt64) (wi (x1 + (1 : Int)))))
  (L1 m1 (m2 + s1.Len.toUInt64) (wi (x1 + (1 : Int)))))))
  (ob (seg_Check_1 (0 : Int) m2) fun check4 =>
  some check4)

def seg_CheckL1 (l : List Seg) : Nat → Int → UInt64 → Int → Option Int
  | 0, _, _, _ => none
  | nf + 1, m1, m2, x1 => seg_CheckL1B l (seg_CheckL1 l nf) m1 m2 x1

/-- seg.Check -/
def seg_Check (l : List Seg) : Option Int :=
  br (decide ((len l) > (64 : Int)))
  (some (3 : Int))
  (seg_CheckL1 l fuel (0 : Int) (0 : UInt64) (0 : Int))

def gmem_CheckL1B (l : List Region) (L1 : UInt64 → Int → Option Int) (room1 : UInt64) (x1 : Int) : Option Int :=
  br (decide (x1 < (len l)))
  (ob (ix l x1) fun r1 =>
  br (decide (r1.Len < (1 : UInt64)))
  (some (2 : Int))
  (br (decide (r1.Len > room1))
  (some (2 : Int))
  (br (decide ((r1.Len - (1 : UInt64)) > ((18446744073709551615 : UInt64) - r1.At)))
  (some (2 : Int))
  (br (decide (x1 > (0 : Int)))
  (ob (ix l (wi (x1 - (1 : Int)))) fun r2 =>
  br (decide (r1.At ≤ r2.At))
  (some (2 : Int))
  (br (decide ((r1.At - r2.At) < r2.Len))
  (some (2 : Int))
  (L1 (room1 - r1.Len) (wi (x1 + (1 : Int))))))
  (L1 (room1 - r1.Len) (wi (x1 + (1 : Int))))))))
  (some (0 : Int))

def gmem_CheckL1 (l : List Region) : Nat → UInt64 → Int → Option Int
  | 0, _, _ => none
  | nf + 1, room1, x1 => gmem_CheckL1B l (gmem_CheckL1 l nf) room1 x1

/-- gmem.Check -/
def gmem_Check (l : List Region) : Option Int :=
  br (decide ((len l) > (16 : Int)))
  (some (2 : Int))
  (gmem_CheckL1 l fuel (1048576 : UInt64) (0 : Int))

/-- slices.Clone[[]api.Region,api.Region] -/
def slices_Clone_apiRegionapiRegion (sp0 : List Region) : Option (List Region) :=
  chk (fits ([] : List Region).length sp0.length 16) <|
  some sp0

def gmem_NewL1B (l : List Region) (region1 : (List Region)) (L1 : (List (List UInt8)) → Int → Option ((Option gmem_Mem) × Int)) (rows1 : List (List UInt8)) (x1 : Int) : Option ((Option gmem_Mem) × Int) :=
  br (decide (x1 < (len l)))
  (ob (ix l x1) fun r1 =>
  chk (decide (0 ≤ (r1.Len.toNat : Int) ∧ (r1.Len.toNat : Int) ≤ (r1.Len.toNat : Int) ∧ (1 : Int) * (r1.Len.toNat : Int) ≤ 140737488355328)) <|
  ob (ix rows1 x1) fun row1 =>
  L1 (rows1.set (Int.toNat x1) (List.replicate (Int.toNat (r1.Len.toNat : Int)) (0 : UInt8))) (wi (x1 + (1 : Int))))
  (some ((some (gmem_Mem.mk region1 rows1)), (0 : Int)))

def gmem_NewL1 (l : List Region) (region1 : (List Region)) : Nat → (List (List UInt8)) → Int → Option ((Option gmem_Mem) × Int)
  | 0, _, _ => none
  | nf + 1, rows1, x1 => gmem_NewL1B l region1 (gmem_NewL1 l region1 nf) rows1 x1

/-- gmem.New -/
def gmem_New (l : List Region) : Option ((Option gmem_Mem) × Int) :=
  ob (gmem_Check l) fun check1 =>
  br (check1 != (0 : Int))
  (some ((none : Option gmem_Mem), check1))
  (ob (slices_Clone_apiRegionapiRegion l) fun region1 =>
  chk (decide (0 ≤ (len l) ∧ (len l) ≤ (wi ((len l) + (1 : Int))) ∧ (24 : Int) * (wi ((len l) + (1 : Int))) ≤ 140737488355328)) <|
  gmem_NewL1 l region1 fuel (List.replicate (Int.toNat (len l)) [] : List (List UInt8)) (0 : Int))

/-- (*gmem.Mem).made -/
def gmem_Mem_made (m : gmem_Mem) : Option Bool :=
  some true

/-- (*gmem.Mem).bytes$1 -/
def gmem_Mem_bytes_1 (ip0 : Int) (arg1 : gmem_Mem) (arg2 : UInt64) : Option Bool :=
  ob (ix arg1.l ip0) fun r1 =>
  ob (ix arg1.l ip0) fun r2 =>
  some (decide (((r1.Len - (1 : UInt64)) + r2.At) ≥ arg2))

def sort_SearchFgmem_Mem_bytes_1L1B (fc0 : gmem_Mem) (fc1 : UInt64) (L1 : Int → Int → Option Int) (i1 : Int) (j1 : Int) : Option Int :=
  br (decide (i1 < j1))
  (ob (gmem_Mem_bytes_1 (i64 (shr64 (u64 (wi (i1 + j1))) ((1 : UInt64).toNat))) fc0 fc1) fun bytes1 =>
  br ((!bytes1))
  (L1 (wi ((i64 (shr64 (u64 (wi (i1 + j1))) ((1 : UInt64).toNat))) + (1 : Int))) j1)
  (L1 i1 (i64 (shr64 (u64 (wi (i1 + j1))) ((1 : UInt64).toNat)))))
  (some i1)

def sort_SearchFgmem_Mem_bytes_1L1 (fc0 : gmem_Mem) (fc1 : UInt64) : Nat → Int → Int → Option Int
  | 0, _, _ => none
  | nf + 1, i1, j1 => sort_SearchFgmem_Mem_bytes_1L1B fc0 fc1 (sort_SearchFgmem_Mem_bytes_1L1 fc0 fc1 nf) i1 j1

/-- sort.Search -/
def sort_SearchFgmem_Mem_bytes_1 (np0 : Int) (fc0 : gmem_Mem) (fc1 : UInt64) : Option Int :=
  sort_SearchFgmem_Mem_bytes_1L1 fc0 fc1 fuel (0 : Int) np0

/-- (*gmem.Mem).bytes -/
def gmem_Mem_bytes (m : gmem_Mem) (atp1 : UInt64) (np2 : UInt64) : Option (Option (Int × Int × Int)) :=
  br (decide (np2 < (1 : UInt64)))
  (some (none : Option (Int × Int × Int)))
  (ob (sort_SearchFgmem_Mem_bytes_1 (len m.l) m atp1) fun search1 =>
  br (search1 == (len m.l))
  (some (none : Option (Int × Int × Int)))
  (ob (ix m.l search1) fun r1 =>
  br (decide (atp1 < r1.At))
  (some (none : Option (Int × Int × Int)))
  (ob (ix m.l search1) fun r2 =>
  ob (ix m.l search1) fun r3 =>
  br (decide (np2 > (r3.Len - (atp1 - r2.At))))
  (some (none : Option (Int × Int × Int)))
  (ob (ix m.b search1) fun row1 =>
  chk (decide (0 ≤ ((atp1 - r2.At).toNat : Int) ∧ ((atp1 - r2.At).toNat : Int) ≤ (((atp1 - r2.At) + np2).toNat : Int) ∧ (((atp1 - r2.At) + np2).toNat : Int) ≤ len row1)) <|
  some (some (search1, ((atp1 - r2.At).toNat : Int), (((atp1 - r2.At) + np2).toNat : Int)))))))

/-- slices.Clone[[]byte,byte] -/
def slices_Clone_bytebyte (sp0 : List UInt8) : Option (List UInt8) :=
  chk (fits ([] : List UInt8).length sp0.length 1) <|
  some sp0

/-- (*gmem.Mem).Read -/
def gmem_Mem_Read (m : gmem_Mem) (atp1 : UInt64) (np2 : Int) : Option ((List UInt8) × Int) :=
  ob (gmem_Mem_made m) fun made1 =>
  br (decide (np2 < (0 : Int)))
  (some (([] : List UInt8), (2 : Int)))
  (br (np2 == (0 : Int))
  (some (([] : List UInt8), (0 : Int)))
  (ob (gmem_Mem_bytes m atp1 (u64 np2)) fun bytes1 =>
  onO bytes1
  (some (([] : List UInt8), (5 : Int)))
  (fun w1 =>
  ob (ix m.b w1.1) fun row1 =>
  chk (decide (0 ≤ w1.2.1 ∧ w1.2.1 ≤ w1.2.2 ∧ w1.2.2 ≤ len row1)) <|
  chk (decide (w1.2.1 < w1.2.2)) <|
  ob (slices_Clone_bytebyte (sub row1 w1.2.1 w1.2.2)) fun cloneb1 =>
  some (cloneb1, (0 : Int)))))

/-- (*gmem.Mem).Has -/
def gmem_Mem_Has (m : gmem_Mem) (atp1 : UInt64) (np2 : UInt64) : Option Bool :=
  ob (gmem_Mem_made m) fun made1 =>
  ob (gmem_Mem_bytes m atp1 np2) fun bytes1 =>
  onO bytes1
  (some false)
  (fun w1 =>
  ob (ix m.b w1.1) fun row1 =>
  chk (decide (0 ≤ w1.2.1 ∧ w1.2.1 ≤ w1.2.2 ∧ w1.2.2 ≤ len row1)) <|
  chk (decide (w1.2.1 < w1.2.2)) <|
  some true)

def seg_InL1B (m : gmem_Mem) (l : List Seg) (L1 : Int → Option Int) (x1 : Int) : Option Int :=
  br (decide (x1 < (len l)))
  (ob (ix l x1) fun s1 =>
  ob (gmem_Mem_Has m s1.At s1.Len.toUInt64) fun has1 =>
  br ((!has1))
  (some (5 : Int))
  (L1 (wi (x1 + (1 : Int)))))
  (some (0 : Int))

def seg_InL1 (m : gmem_Mem) (l : List Seg) : Nat → Int → Option Int
  | 0, _ => none
  | nf + 1, x1 => seg_InL1B m l (seg_InL1 m l nf) x1

/-- seg.In -/
def seg_In (m : gmem_Mem) (l : List Seg) : Option Int :=
  ob (gmem_Mem_Read m (0 : UInt64) (0 : Int)) fun read1 =>
  br (read1.2 != (0 : Int))
  (some read1.2)
  (ob (seg_Check l) fun check1 =>
  br (check1 != (0 : Int))
  (some check1)
  (seg_InL1 m l fuel (0 : Int)))

/-- dumbwaiterkit.Own -/
def kit_Own (b : List UInt8) : Option (List UInt8) :=
  chk (fits ([] : List UInt8).length b.length 1) <|
  some b

/-- (*gmem.Mem).Write -/
def gmem_Mem_Write (m : gmem_Mem) (atp1 : UInt64) (arg2 : List UInt8) : Option (Int × (List (List UInt8))) :=
  ob (gmem_Mem_made m) fun made1 =>
  br ((len arg2) == (0 : Int))
  (some ((0 : Int), m.b))
  (ob (gmem_Mem_bytes m atp1 (u64 (len arg2))) fun bytes1 =>
  onO bytes1
  (some ((5 : Int), m.b))
  (fun w1 =>
  ob (ix m.b w1.1) fun row1 =>
  chk (decide (0 ≤ w1.2.1 ∧ w1.2.1 ≤ w1.2.2 ∧ w1.2.2 ≤ len row1)) <|
  chk (decide (w1.2.1 < w1.2.2)) <|
  some ((0 : Int), m.b.set (Int.toNat w1.1) (copyAt row1 w1.2.1 w1.2.2 arg2))))

def seg_PartL1B (l : List Seg) (write : Bool) (L1 : (List Seg) → Int → Option (List Seg)) (out1 : List Seg) (x1 : Int) : Option (List Seg) :=
  br (decide (x1 < (len l)))
  (ob (ix l x1) fun s1 =>
  br (s1.Write == write)
  (chk (fits out1.length [s1].length 16) <|
  L1 (out1 ++ [s1]) (wi (x1 + (1 : Int))))
  (L1 out1 (wi (x1 + (1 : Int)))))
  (some out1)

def seg_PartL1 (l : List Seg) (write : Bool) : Nat → (List Seg) → Int → Option (List Seg)
  | 0, _, _ => none
  | nf + 1, out1, x1 => seg_PartL1B l write (seg_PartL1 l write nf) out1 x1

/-- seg.Part -/
def seg_Part (l : List Seg) (write : Bool) : Option (List Seg) :=
  ob (seg_Check l) fun check1 =>
  br (check1 != (0 : Int))
  (some ([] : List Seg))
  (seg_PartL1 l write fuel [] (0 : Int))

def seg_row_eatL1B  (L1 : (List Seg) → UInt64 → (List Seg) → Option ((List Seg) × (List Seg))) (m1 : List Seg) (n1 : UInt64) (out1 : List Seg) : Option ((List Seg) × (List Seg)) :=
  br (decide (n1 > (0 : UInt64)))
  (br (decide ((len m1) > (0 : Int)))
  (ob (ix m1 (0 : Int)) fun s1 =>
  chk (fits out1.length [(Seg.mk s1.At ((minu64 n1 s1.Len.toUInt64).toUInt32) s1.Write)].length 16) <|
  br (decide ((minu64 n1 s1.Len.toUInt64) < s1.Len.toUInt64))
  (chk (decide (0 ≤ (1 : Int) ∧ (1 : Int) ≤ (len m1) ∧ (len m1) ≤ len m1)) <|
  chk (fits [(Seg.mk (s1.At + (minu64 n1 s1.Len.toUInt64)) (s1.Len - ((minu64 n1 s1.Len.toUInt64).toUInt32)) s1.Write)].length (sub m1 (1 : Int) (len m1)).length 16) <|
  some (out1 ++ [(Seg.mk s1.At ((minu64 n1 s1.Len.toUInt64).toUInt32) s1.Write)], [(Seg.mk (s1.At + (minu64 n1 s1.Len.toUInt64)) (s1.Len - ((minu64 n1 s1.Len.toUInt64).toUInt32)) s1.Write)] ++ (sub m1 (1 : Int) (len m1))))
  (chk (decide (0 ≤ (1 : Int) ∧ (1 : Int) ≤ (len m1) ∧ (len m1) ≤ len m1)) <|
  L1 (sub m1 (1 : Int) (len m1)) (n1 - (minu64 n1 s1.Len.toUInt64)) (out1 ++ [(Seg.mk s1.At ((minu64 n1 s1.Len.toUInt64).toUInt32) s1.Write)])))
  (some (out1, m1)))
  (some (out1, m1))

def seg_row_eatL1  : Nat → (List Seg) → UInt64 → (List Seg) → Option ((List Seg) × (List Seg))
  | 0, _, _, _ => none
  | nf + 1, m1, n1, out1 => seg_row_eatL1B (seg_row_eatL1 nf) m1 n1 out1

/-- (*seg.row).eat -/
def seg_row_eat (rp0 : List Seg) (np1 : UInt64) : Option ((List Seg) × (List Seg)) :=
  seg_row_eatL1 fuel rp0 np1 []

def seg_ScatterL1B (m : gmem_Mem) (b : List UInt8) (eat1 : ((List Seg) × (List Seg))) (L1 : (List (List UInt8)) → Int → (List Seg) → Int → Option (Int × Int × (List (List UInt8)))) (rows1 : List (List UInt8)) (n1 : Int) (l1 : List Seg) (x1 : Int) : Option (Int × Int × (List (List UInt8))) :=
  br (decide (x1 < (len eat1.1)))
  (ob (ix l1 x1) fun s1 =>
  chk (decide (0 ≤ n1 ∧ n1 ≤ (wi (n1 + (i32 s1.Len))) ∧ (wi (n1 + (i32 s1.Len))) ≤ len b)) <|
  ob (gmem_Mem_Write (gmem_Mem.mk m.l rows1) s1.At (sub b n1 (wi (n1 + (i32 s1.Len))))) fun write1 =>
  L1 write1.2 (wi (n1 + (i32 s1.Len))) l1 (wi (x1 + (1 : Int))))
  (some (n1, (0 : Int), rows1))

def seg_ScatterL1 (m : gmem_Mem) (b : List UInt8) (eat1 : ((List Seg) × (List Seg))) : Nat → (List (List UInt8)) → Int → (List Seg) → Int → Option (Int × Int × (List (List UInt8)))
  | 0, _, _, _, _ => none
  | nf + 1, rows1, n1, l1, x1 => seg_ScatterL1B m b eat1 (seg_ScatterL1 m b eat1 nf) rows1 n1 l1 x1

/-- seg.Scatter -/
def seg_Scatter (m : gmem_Mem) (l : List Seg) (b : List UInt8) : Option (Int × Int × (List (List UInt8))) :=
  ob (seg_In m l) fun in1 =>
  br (in1 != (0 : Int))
  (some ((0 : Int), in1, m.b))
  (ob (seg_Part l true) fun part1 =>
  ob (seg_row_eat part1 (u64 (len b))) fun eat1 =>
  seg_ScatterL1 m b eat1 fuel m.b (0 : Int) eat1.1 (0 : Int))

def slices_Grow_bytebyten0J1 (np1 : Int)  : Option (List UInt8) :=
  br (decide ((wi (np1 - (wi ((0 : Int) - (0 : Int))))) > (0 : Int)))
  (chk (decide (0 ≤ (wi (np1 - (wi ((0 : Int) - (0 : Int))))) ∧ (1 : Int) * (wi (np1 - (wi ((0 : Int) - (0 : Int))))) ≤ 140737488355328)) <|
  chk (decide (0 ≤ (0 : Int) ∧ (0 : Int) ≤ len (List.replicate (wi (np1 - (wi ((0 : Int) - (0 : Int))))).toNat (0 : UInt8)))) <|
  some ((List.replicate (wi (np1 - (wi ((0 : Int) - (0 : Int))))).toNat (0 : UInt8)).take (0 : Int).toNat))
  (some ([] : List UInt8))

/-- slices.Grow[[]byte,byte] -/
def slices_Grow_bytebyten0 (np1 : Int) : Option (List UInt8) :=
  chk (!(decide (np1 < (0 : Int)))) <|
  slices_Grow_bytebyten0J1 np1

def slices_Concat_bytebyteJ2 (x1 : Int) (L1 : Int → Int → Option (List UInt8)) (size2 : Int) : Option (List UInt8) :=
  L1 size2 (wi (x1 + (1 : Int)))

def slices_Concat_bytebyteJ3 (size1 : Int) (x1 : Int) (L1 : Int → Int → Option (List UInt8)) (y1 : List UInt8)  : Option (List UInt8) :=
  slices_Concat_bytebyteJ2 x1 L1 (wi (size1 + (len y1)))

def slices_Concat_bytebyteL4B (slices : List (List UInt8)) (L4 : (List UInt8) → Int → Option (List UInt8)) (newslice1 : List UInt8) (x2 : Int) : Option (List UInt8) :=
  br (decide (x2 < (len slices)))
  (ob (ix slices x2) fun y2 =>
  chk (fits newslice1.length y2.length 1) <|
  L4 (newslice1 ++ y2) (wi (x2 + (1 : Int))))
  (some newslice1)

def slices_Concat_bytebyteL4 (slices : List (List UInt8)) : Nat → (List UInt8) → Int → Option (List UInt8)
  | 0, _, _ => none
  | nf + 1, newslice1, x2 => slices_Concat_bytebyteL4B slices (slices_Concat_bytebyteL4 slices nf) newslice1 x2

def slices_Concat_bytebyteL1B (slices : List (List UInt8)) (L1 : Int → Int → Option (List UInt8)) (size1 : Int) (x1 : Int) : Option (List UInt8) :=
  br (decide (x1 < (len slices)))
  (ob (ix slices x1) fun y1 =>
  chk (!(decide ((wi (size1 + (len y1))) < (0 : Int)))) <|
  slices_Concat_bytebyteJ3 size1 x1 L1 y1)
  (ob (slices_Grow_bytebyten0 size1) fun growby1 =>
  slices_Concat_bytebyteL4 slices fuel growby1 (0 : Int))

def slices_Concat_bytebyteL1 (slices : List (List UInt8)) : Nat → Int → Int → Option (List UInt8)
  | 0, _, _ => none
  | nf + 1, size1, x1 => slices_Concat_bytebyteL1B slices (slices_Concat_bytebyteL1 slices nf) size1 x1

/-- slices.Concat[[]byte,byte] -/
def slices_Concat_bytebyte (slices : List (List UInt8)) : Option (List UInt8) :=
  slices_Concat_bytebyteL1 slices fuel (0 : Int) (0 : Int)

def seg_GatherL1B (m : gmem_Mem) (part1 : (List Seg)) (L1 : (List (List UInt8)) → (List Seg) → Int → Option ((List UInt8) × Int)) (parts1 : List (List UInt8)) (l1 : List Seg) (x1 : Int) : Option ((List UInt8) × Int) :=
  br (decide (x1 < (len part1)))
  (ob (ix l1 x1) fun s1 =>
  ob (gmem_Mem_Read m s1.At (i32 s1.Len)) fun read1 =>
  br (read1.2 != (0 : Int))
  (some (([] : List UInt8), read1.2))
  (chk (fits parts1.length [read1.1].length 24) <|
  L1 (parts1 ++ [read1.1]) l1 (wi (x1 + (1 : Int)))))
  (ob (slices_Concat_bytebyte parts1) fun concat1 =>
  some (concat1, (0 : Int)))

def seg_GatherL1 (m : gmem_Mem) (part1 : (List Seg)) : Nat → (List (List UInt8)) → (List Seg) → Int → Option ((List UInt8) × Int)
  | 0, _, _, _ => none
  | nf + 1, parts1, l1, x1 => seg_GatherL1B m part1 (seg_GatherL1 m part1 nf) parts1 l1 x1

/-- seg.Gather -/
def seg_Gather (m : gmem_Mem) (l : List Seg) : Option ((List UInt8) × Int) :=
  ob (seg_In m l) fun in1 =>
  br (in1 != (0 : Int))
  (some (([] : List UInt8), in1))
  (ob (seg_Part l false) fun part1 =>
  seg_GatherL1 m part1 fuel [] part1 (0 : Int))

/-- slices.Clone[[]api.Seg,api.Seg] -/
def slices_Clone_apiSegapiSeg (sp0 : List Seg) : Option (List Seg) :=
  chk (fits ([] : List Seg).length sp0.length 16) <|
  some sp0

/-- seg.Cut -/
def seg_Cut (l : List Seg) (fromp1 : UInt64) (np2 : UInt64) : Option (List Seg) :=
  ob (seg_Check l) fun check1 =>
  br (check1 != (0 : Int))
  (some ([] : List Seg))
  (ob (slices_Clone_apiSegapiSeg l) fun seg1 =>
  ob (seg_row_eat seg1 fromp1) fun eat1 =>
  ob (seg_row_eat eat1.2 np2) fun eat2 =>
  some eat2.1)

def kit_SameSegsL1B (ap0 : List Seg) (b : List Seg) (L1 : Int → Option Bool) (i1 : Int) : Option Bool :=
  br (decide (i1 < (len ap0)))
  (ob (ix ap0 i1) fun s1 =>
  ob (ix b i1) fun s2 =>
  br (s1 != s2)
  (some false)
  (L1 (wi (i1 + (1 : Int)))))
  (some true)

def kit_SameSegsL1 (ap0 : List Seg) (b : List Seg) : Nat → Int → Option Bool
  | 0, _ => none
  | nf + 1, i1 => kit_SameSegsL1B ap0 b (kit_SameSegsL1 ap0 b nf) i1

/-- dumbwaiterkit.SameSegs -/
def kit_SameSegs (ap0 : List Seg) (b : List Seg) : Option Bool :=
  br ((len ap0) != (len b))
  (some false)
  (kit_SameSegsL1 ap0 b fuel (0 : Int))

/-- dumbwaiterlaw05.lives -/
def law05zlives  : Option Bool :=
  ob (seg_Cut [(Seg.mk (10 : UInt64) (4 : UInt32) false), (Seg.mk (50 : UInt64) (6 : UInt32) false)] (2 : UInt64) (5 : UInt64)) fun cut1 =>
  ob (kit_SameSegs cut1 [(Seg.mk (12 : UInt64) (2 : UInt32) false), (Seg.mk (50 : UInt64) (3 : UInt32) false)]) fun samese1 =>
  br (samese1)
  (ob (seg_Check [(Seg.mk (1 : UInt64) (1 : UInt32) true), (Seg.mk (5 : UInt64) (1 : UInt32) false)]) fun check1 =>
  some (check1 == (2 : Int)))
  (some false)

/-- (*gmem.Mem).Image -/
def gmem_Mem_Image (m : gmem_Mem) : Option (List UInt8) :=
  ob (gmem_Mem_made m) fun made1 =>
  ob (slices_Concat_bytebyte m.b) fun concat1 =>
  some concat1

def law05zSegScattersJ4 (k1 : UInt64) (L3 : (List UInt8) → (List (UInt64 × Bool)) → (List UInt64) → UInt64 → Option Bool) (l4 : List UInt8) (map3 : List (UInt64 × Bool)) (places3 : List UInt64) : Option Bool :=
  L3 l4 map3 places3 (k1 + (1 : UInt64))

def law05zSegScattersJ5 (k1 : UInt64) (L3 : (List UInt8) → (List (UInt64 × Bool)) → (List UInt64) → UInt64 → Option Bool) (l5 : List UInt8) (map4 : List (UInt64 × Bool)) (places4 : List UInt64) : Option Bool :=
  law05zSegScattersJ4 k1 L3 l5 map4 places4

def law05zSegScattersL3B (l : List Seg) (i2 : Int) (L2 : (List UInt8) → (List (UInt64 × Bool)) → (List UInt64) → Int → Option Bool) (L3 : (List UInt8) → (List (UInt64 × Bool)) → (List UInt64) → UInt64 → Option Bool) (l3 : List UInt8) (map2 : List (UInt64 × Bool)) (places2 : List UInt64) (k1 : UInt64) : Option Bool :=
  ob (ix l i2) fun s1 =>
  br (decide (k1 < s1.Len.toUInt64))
  (ob (ix l i2) fun s2 =>
  br (mget false (s2.At + k1) map2)
  (some true)
  (ob (ix l i2) fun s3 =>
  br (s3.Write)
  (chk (fits places2.length [s2.At + k1].length 8) <|
  law05zSegScattersJ5 k1 L3 l3 (mput (s2.At + k1) true map2) (places2 ++ [s2.At + k1]))
  (law05zSegScattersJ5 k1 L3 l3 (mput (s2.At + k1) true map2) places2)))
  (L2 l3 map2 places2 (wi (i2 + (1 : Int))))

def law05zSegScattersL3 (l : List Seg) (i2 : Int) (L2 : (List UInt8) → (List (UInt64 × Bool)) → (List UInt64) → Int → Option Bool) : Nat → (List UInt8) → (List (UInt64 × Bool)) → (List UInt64) → UInt64 → Option Bool
  | 0, _, _, _, _ => none
  | nf + 1, l3, map2, places2, k1 => law05zSegScattersL3B l i2 L2 (law05zSegScattersL3 l i2 L2 nf) l3 map2 places2 k1

def law05zSegScattersL7B (b : List UInt8) (mem1 : gmem_Mem) (scatte1 : (Int × Int × (List (List UInt8)))) (L7 : (List UInt8) → (List UInt64) → (List Seg) → Int → Option Bool) (l8 : List UInt8) (l9 : List UInt64) (l10 : List Seg) (i4 : Int) : Option Bool :=
  br (decide (i4 < (len l10)))
  (ob (ix l10 i4) fun s4 =>
  L7 l8 l9 (l10.set i4.toNat (Seg.mk s4.At s4.Len false)) (wi (i4 + (1 : Int))))
  (ob (seg_Gather (gmem_Mem.mk mem1.l scatte1.2.2) l10) fun gather1 =>
  chk (gather1.2 == (0 : Int)) <|
  ob (gmem_Mem_Image (gmem_Mem.mk mem1.l scatte1.2.2)) fun image1 =>
  chk (image1 == l8) <|
  chk ((len gather1.1) == (len l9)) <|
  chk (decide (0 ≤ (0 : Int) ∧ (0 : Int) ≤ scatte1.1 ∧ scatte1.1 ≤ len gather1.1)) <|
  chk (decide (0 ≤ (0 : Int) ∧ (0 : Int) ≤ scatte1.1 ∧ scatte1.1 ≤ len b)) <|
  chk ((sub gather1.1 (0 : Int) scatte1.1) == (sub b (0 : Int) scatte1.1)) <|
  some true)

def law05zSegScattersL7 (b : List UInt8) (mem1 : gmem_Mem) (scatte1 : (Int × Int × (List (List UInt8)))) : Nat → (List UInt8) → (List UInt64) → (List Seg) → Int → Option Bool
  | 0, _, _, _, _ => none
  | nf + 1, l8, l9, l10, i4 => law05zSegScattersL7B b mem1 scatte1 (law05zSegScattersL7 b mem1 scatte1 nf) l8 l9 l10 i4

def law05zSegScattersL6B (l : List Seg) (b : List UInt8) (mem1 : gmem_Mem) (scatte1 : (Int × Int × (List (List UInt8)))) (L6 : (List UInt8) → (List UInt64) → Int → Option Bool) (l6 : List UInt8) (l7 : List UInt64) (i3 : Int) : Option Bool :=
  br (decide (i3 < scatte1.1))
  (ob (ix l7 i3) fun y2 =>
  ob (ix b i3) fun y3 =>
  ob (ix l6 (y2.toNat : Int)) fun y4 =>
  L6 (l6.set (y2.toNat : Int).toNat y3) l7 (wi (i3 + (1 : Int))))
  (ob (seg_Part l true) fun part1 =>
  law05zSegScattersL7 b mem1 scatte1 fuel l6 l7 part1 (0 : Int))

def law05zSegScattersL6 (l : List Seg) (b : List UInt8) (mem1 : gmem_Mem) (scatte1 : (Int × Int × (List (List UInt8)))) : Nat → (List UInt8) → (List UInt64) → Int → Option Bool
  | 0, _, _, _ => none
  | nf + 1, l6, l7, i3 => law05zSegScattersL6B l b mem1 scatte1 (law05zSegScattersL6 l b mem1 scatte1 nf) l6 l7 i3

def law05zSegScattersL2B (l : List Seg) (b : List UInt8) (mem1 : gmem_Mem) (write1 : (Int × (List (List UInt8)))) (L2 : (List UInt8) → (List (UInt64 × Bool)) → (List UInt64) → Int → Option Bool) (l2 : List UInt8) (map1 : List (UInt64 × Bool)) (places1 : List UInt64) (i2 : Int) : Option Bool :=
  br (decide (i2 < (len l)))
  (law05zSegScattersL3 l i2 L2 fuel l2 map1 places1 (0 : UInt64))
  (ob (kit_Own b) fun own2 =>
  ob (seg_Scatter (gmem_Mem.mk mem1.l write1.2) l own2) fun scatte1 =>
  chk (!(scatte1.2.1 != (0 : Int))) <|
  chk (!(scatte1.1 != (mini (len b) (len places1)))) <|
  law05zSegScattersL6 l b mem1 scatte1 fuel l2 places1 (0 : Int))

def law05zSegScattersL2 (l : List Seg) (b : List UInt8) (mem1 : gmem_Mem) (write1 : (Int × (List (List UInt8)))) : Nat → (List UInt8) → (List (UInt64 × Bool)) → (List UInt64) → Int → Option Bool
  | 0, _, _, _, _ => none
  | nf + 1, l2, map1, places1, i2 => law05zSegScattersL2B l b mem1 write1 (law05zSegScattersL2 l b mem1 write1 nf) l2 map1 places1 i2

def law05zSegScattersL1B (l : List Seg) (b : List UInt8) (fill : UInt8) (mem1 : gmem_Mem) (L1 : (List UInt8) → Int → Option Bool) (l1 : List UInt8) (i1 : Int) : Option Bool :=
  br (decide (i1 < (len l1)))
  (ob (ix l1 i1) fun y1 =>
  L1 (l1.set i1.toNat fill) (wi (i1 + (1 : Int))))
  (ob (kit_Own l1) fun own1 =>
  ob (gmem_Mem_Write mem1 (0 : UInt64) own1) fun write1 =>
  law05zSegScattersL2 l b mem1 write1 fuel l1 ([] : List (UInt64 × Bool)) [] (0 : Int))

def law05zSegScattersL1 (l : List Seg) (b : List UInt8) (fill : UInt8) (mem1 : gmem_Mem) : Nat → (List UInt8) → Int → Option Bool
  | 0, _, _ => none
  | nf + 1, l1, i1 => law05zSegScattersL1B l b fill mem1 (law05zSegScattersL1 l b fill mem1 nf) l1 i1

/-- dumbwaiterlaw05.SegScatters -/
def law05zSegScatters (l : List Seg) (b : List UInt8) (fill : UInt8) : Option Bool :=
  ob (law05zlives) fun lives1 =>
  chk (!((!lives1))) <|
  br (decide ((len l) > (100 : Int)))
  (some true)
  (br (decide ((len b) > (20000 : Int)))
  (some true)
  (ob (seg_Check l) fun check1 =>
  br (check1 != (0 : Int))
  (some true)
  (ob (gmem_New [(Region.mk (0 : UInt64) (2000 : UInt64))]) fun new1 =>
  onO new1.1
  (none)
  (fun mem1 =>
  br (new1.2 != (0 : Int))
  (chk (new1.2 == (0 : Int)) <|
  some true)
  (ob (seg_In mem1 l) fun in1 =>
  br (in1 != (0 : Int))
  (chk (new1.2 == (0 : Int)) <|
  some true)
  (chk (decide (0 ≤ (2000 : Int) ∧ (2000 : Int) ≤ (2000 : Int) ∧ (1 : Int) * (2000 : Int) ≤ 140737488355328)) <|
  lt (List.replicate (2000 : Int).toNat (0 : UInt8)) fun z1 =>
  law05zSegScattersL1 l b fill mem1 fuel z1 (0 : Int)))))))

end Go.Proofs.Ytkdekmjcfoahjaa
