/- What the functions reckon, as plain words. No statement of the seat is proved here; no condition. -/
import Derived.Test.YtecmlfmbmligeaaTy
namespace Go.Proofs.Ytecmlfmbmligeaa

/-- dumbwaiterlaw02.two -/
def law02ztwo  : Option (List Region) :=
  some [(Region.mk (100 : UInt64) (8 : UInt64)), (Region.mk (108 : UInt64) (4 : UInt64))]

def gmem_CheckL1B (l : List Region) (L1 : UInt64 → Int → Option Int) (room1 : UInt64) (x1 : Int) : Option Int :=
  br (decide (x1 < (len l)))
  (ob (ix l x1) fun r1 =>
  br (decide (r1.Len < (1 : UInt64)))
  (some (2 : Int))
  (br (decide (r1.Len > room1))
  (some (2 : Int))
  (br (decide ((r1.Len - (1 : UInt64)) > ((18446744073709551615 : UInt64) - r1.At)))
  (some (2 : Int))
  (br (decide (x1 > (0 : Int)))
  (ob (ix l (wi (x1 - (1 : Int)))) fun r2 =>
  br (decide (r1.At ≤ r2.At))
  (some (2 : Int))
  (br (decide ((r1.At - r2.At) < r2.Len))
  (some (2 : Int))
  (L1 (room1 - r1.Len) (wi (x1 + (1 : Int))))))
  (L1 (room1 - r1.Len) (wi (x1 + (1 : Int))))))))
  (some (0 : Int))

def gmem_CheckL1 (l : List Region) : Nat → UInt64 → Int → Option Int
  | 0, _, _ => none
  | nf + 1, room1, x1 => gmem_CheckL1B l (gmem_CheckL1 l nf) room1 x1

/-- gmem.Check -/
def gmem_Check (l : List Region) : Option Int :=
  br (decide ((len l) > (16 : Int)))
  (some (2 : Int))
  (gmem_CheckL1 l fuel (1048576 : UInt64) (0 : Int))

/-- slices.Clone[[]api.Region,api.Region] -/
def slices_Clone_apiRegionapiRegion (sp0 : List Region) : Option (List Region) :=
  chk (fits ([] : List Region).length sp0.length 16) <|
  some sp0

def gmem_NewL1B (l : List Region) (region1 : (List Region)) (L1 : (List (List UInt8)) → Int → Option ((Option gmem_Mem) × Int)) (rows1 : List (List UInt8)) (x1 : Int) : Option ((Option gmem_Mem) × Int) :=
  br (decide (x1 < (len l)))
  (ob (ix l x1) fun r1 =>
  chk (decide (0 ≤ (r1.Len.toNat : Int) ∧ (r1.Len.toNat : Int) ≤ (r1.Len.toNat : Int) ∧ (1 : Int) * (r1.Len.toNat : Int) ≤ 140737488355328)) <|
  ob (ix rows1 x1) fun row1 =>
  L1 (rows1.set (Int.toNat x1) (List.replicate (Int.toNat (r1.Len.toNat : Int)) (0 : UInt8))) (wi (x1 + (1 : Int))))
  (some ((some (gmem_Mem.mk region1 rows1)), (0 : Int)))

def gmem_NewL1 (l : List Region) (region1 : (List Region)) : Nat → (List (List UInt8)) → Int → Option ((Option gmem_Mem) × Int)
  | 0, _, _ => none
  | nf + 1, rows1, x1 => gmem_NewL1B l region1 (gmem_NewL1 l region1 nf) rows1 x1

/-- gmem.New -/
def gmem_New (l : List Region) : Option ((Option gmem_Mem) × Int) :=
  ob (gmem_Check l) fun check1 =>
  br (check1 != (0 : Int))
  (some ((none : Option gmem_Mem), check1))
  (ob (slices_Clone_apiRegionapiRegion l) fun region1 =>
  chk (decide (0 ≤ (len l) ∧ (len l) ≤ (wi ((len l) + (1 : Int))) ∧ (24 : Int) * (wi ((len l) + (1 : Int))) ≤ 140737488355328)) <|
  gmem_NewL1 l region1 fuel (List.replicate (Int.toNat (len l)) [] : List (List UInt8)) (0 : Int))

/-- (*gmem.Mem).made -/
def gmem_Mem_made (m : gmem_Mem) : Option Bool :=
  some true

/-- gmem.isWord -/
def gmem_isWord (np0 : Int) : Option Bool :=
  br (np0 == (1 : Int))
  (some true)
  (br (np0 == (2 : Int))
  (some true)
  (br (np0 == (4 : Int))
  (some true)
  (some (np0 == (8 : Int)))))

/-- (*gmem.Mem).bytes$1 -/
def gmem_Mem_bytes_1 (ip0 : Int) (arg1 : gmem_Mem) (arg2 : UInt64) : Option Bool :=
  ob (ix arg1.l ip0) fun r1 =>
  ob (ix arg1.l ip0) fun r2 =>
  some (decide (((r1.Len - (1 : UInt64)) + r2.At) ≥ arg2))

def sort_SearchFgmem_Mem_bytes_1L1B (fc0 : gmem_Mem) (fc1 : UInt64) (L1 : Int → Int → Option Int) (i1 : Int) (j1 : Int) : Option Int :=
  br (decide (i1 < j1))
  (ob (gmem_Mem_bytes_1 (i64 (shr64 (u64 (wi (i1 + j1))) ((1 : UInt64).toNat))) fc0 fc1) fun bytes1 =>
  br ((!bytes1))
  (L1 (wi ((i64 (shr64 (u64 (wi (i1 + j1))) ((1 : UInt64).toNat))) + (1 : Int))) j1)
  (L1 i1 (i64 (shr64 (u64 (wi (i1 + j1))) ((1 : UInt64).toNat)))))
  (some i1)

def sort_SearchFgmem_Mem_bytes_1L1 (fc0 : gmem_Mem) (fc1 : UInt64) : Nat → Int → Int → Option Int
  | 0, _, _ => none
  | nf + 1, i1, j1 => sort_SearchFgmem_Mem_bytes_1L1B fc0 fc1 (sort_SearchFgmem_Mem_bytes_1L1 fc0 fc1 nf) i1 j1

/-- sort.Search -/
def sort_SearchFgmem_Mem_bytes_1 (np0 : Int) (fc0 : gmem_Mem) (fc1 : UInt64) : Option Int :=
  sort_SearchFgmem_Mem_bytes_1L1 fc0 fc1 fuel (0 : Int) np0

/-- (*gmem.Mem).bytes -/
def gmem_Mem_bytes (m : gmem_Mem) (atp1 : UInt64) (np2 : UInt64) : Option (Option (Int × Int × Int)) :=
  br (decide (np2 < (1 : UInt64)))
  (some (none : Option (Int × Int × Int)))
  (ob (sort_SearchFgmem_Mem_bytes_1 (len m.l) m atp1) fun search1 =>
  br (search1 == (len m.l))
  (some (none : Option (Int × Int × Int)))
  (ob (ix m.l search1) fun r1 =>
  br (decide (atp1 < r1.At))
  (some (none : Option (Int × Int × Int)))
  (ob (ix m.l search1) fun r2 =>
  ob (ix m.l search1) fun r3 =>
  br (decide (np2 > (r3.Len - (atp1 - r2.At))))
  (some (none : Option (Int × Int × Int)))
  (ob (ix m.b search1) fun row1 =>
  chk (decide (0 ≤ ((atp1 - r2.At).toNat : Int) ∧ ((atp1 - r2.At).toNat : Int) ≤ (((atp1 - r2.At) + np2).toNat : Int) ∧ (((atp1 - r2.At) + np2).toNat : Int) ≤ len row1)) <|
  some (some (search1, ((atp1 - r2.At).toNat : Int), (((atp1 - r2.At) + np2).toNat : Int)))))))

def gmem_Mem_StoreL1B (m : gmem_Mem) (bytes : Int) (vp3 : UInt64) (w1 : Int × Int × Int) (L1 : (List UInt8) → Int → Option (Int × (List (List UInt8)))) (row2 : List UInt8) (x1 : Int) : Option (Int × (List (List UInt8))) :=
  chk (decide (0 ≤ w1.2.1 ∧ w1.2.1 ≤ w1.2.2 ∧ w1.2.2 ≤ len row2)) <|
  br (decide (x1 < bytes))
  (chk (decide (0 ≤ wi ((8 : Int) * x1))) <|
  ob (ix (sub row2 w1.2.1 w1.2.2) x1) fun y1 =>
  L1 (row2.set (w1.2.1 + x1).toNat ((shr64 vp3 ((wi ((8 : Int) * x1)).toNat)).toUInt8)) (wi (x1 + (1 : Int))))
  (some ((0 : Int), m.b.set (Int.toNat w1.1) row2))

def gmem_Mem_StoreL1 (m : gmem_Mem) (bytes : Int) (vp3 : UInt64) (w1 : Int × Int × Int) : Nat → (List UInt8) → Int → Option (Int × (List (List UInt8)))
  | 0, _, _ => none
  | nf + 1, row2, x1 => gmem_Mem_StoreL1B m bytes vp3 w1 (gmem_Mem_StoreL1 m bytes vp3 w1 nf) row2 x1

/-- (*gmem.Mem).Store -/
def gmem_Mem_Store (m : gmem_Mem) (atp1 : UInt64) (bytes : Int) (vp3 : UInt64) : Option (Int × (List (List UInt8))) :=
  ob (gmem_Mem_made m) fun made1 =>
  ob (gmem_isWord bytes) fun isword1 =>
  br ((!isword1))
  (some ((2 : Int), m.b))
  (ob (gmem_Mem_bytes m atp1 (u64 bytes)) fun bytes1 =>
  onO bytes1
  (some ((5 : Int), m.b))
  (fun w1 =>
  ob (ix m.b w1.1) fun row1 =>
  chk (decide (0 ≤ w1.2.1 ∧ w1.2.1 ≤ w1.2.2 ∧ w1.2.2 ≤ len row1)) <|
  chk (decide (w1.2.1 < w1.2.2)) <|
  gmem_Mem_StoreL1 m bytes vp3 w1 fuel row1 (0 : Int)))

def gmem_Mem_LoadL1B (bytes : Int) (w1 : Int × Int × Int) (row1 : List UInt8) (L1 : UInt64 → Int → Option (UInt64 × Int)) (v1 : UInt64) (x1 : Int) : Option (UInt64 × Int) :=
  br (decide (x1 < bytes))
  (ob (ix (sub row1 w1.2.1 w1.2.2) x1) fun y1 =>
  chk (decide (0 ≤ wi ((8 : Int) * x1))) <|
  L1 (v1 ||| (shl64 y1.toUInt64 ((wi ((8 : Int) * x1)).toNat))) (wi (x1 + (1 : Int))))
  (some (v1, (0 : Int)))

def gmem_Mem_LoadL1 (bytes : Int) (w1 : Int × Int × Int) (row1 : List UInt8) : Nat → UInt64 → Int → Option (UInt64 × Int)
  | 0, _, _ => none
  | nf + 1, v1, x1 => gmem_Mem_LoadL1B bytes w1 row1 (gmem_Mem_LoadL1 bytes w1 row1 nf) v1 x1

/-- (*gmem.Mem).Load -/
def gmem_Mem_Load (m : gmem_Mem) (atp1 : UInt64) (bytes : Int) : Option (UInt64 × Int) :=
  ob (gmem_Mem_made m) fun made1 =>
  ob (gmem_isWord bytes) fun isword1 =>
  br ((!isword1))
  (some ((0 : UInt64), (2 : Int)))
  (ob (gmem_Mem_bytes m atp1 (u64 bytes)) fun bytes1 =>
  onO bytes1
  (some ((0 : UInt64), (5 : Int)))
  (fun w1 =>
  ob (ix m.b w1.1) fun row1 =>
  chk (decide (0 ≤ w1.2.1 ∧ w1.2.1 ≤ w1.2.2 ∧ w1.2.2 ≤ len row1)) <|
  chk (decide (w1.2.1 < w1.2.2)) <|
  gmem_Mem_LoadL1 bytes w1 row1 fuel (0 : UInt64) (0 : Int)))

/-- (*gmem.Mem).Has -/
def gmem_Mem_Has (m : gmem_Mem) (atp1 : UInt64) (np2 : UInt64) : Option Bool :=
  ob (gmem_Mem_made m) fun made1 =>
  ob (gmem_Mem_bytes m atp1 np2) fun bytes1 =>
  onO bytes1
  (some false)
  (fun w1 =>
  ob (ix m.b w1.1) fun row1 =>
  chk (decide (0 ≤ w1.2.1 ∧ w1.2.1 ≤ w1.2.2 ∧ w1.2.2 ≤ len row1)) <|
  chk (decide (w1.2.1 < w1.2.2)) <|
  some true)

/-- dumbwaiterlaw02.lives -/
def law02zlives  : Option Bool :=
  ob (law02ztwo) fun two1 =>
  ob (gmem_New two1) fun new1 =>
  onO new1.1
  (none)
  (fun mem1 =>
  br (new1.2 != (0 : Int))
  (some false)
  (ob (gmem_Mem_Store mem1 (102 : UInt64) (4 : Int) (1 : UInt64)) fun store1 =>
  br (store1.1 != (0 : Int))
  (some false)
  (ob (gmem_Mem_Load (gmem_Mem.mk mem1.l store1.2) (102 : UInt64) (2 : Int)) fun load1 =>
  ob (gmem_Mem_Load (gmem_Mem.mk mem1.l store1.2) (106 : UInt64) (4 : Int)) fun load2 =>
  br (load1.2 == (0 : Int))
  (br (load1.1 == (1 : UInt64))
  (br (load2.2 == (5 : Int))
  (ob (gmem_Mem_Has (gmem_Mem.mk mem1.l store1.2) (18446744073709551615 : UInt64) (2 : UInt64)) fun has1 =>
  some (!has1))
  (some false))
  (some false))
  (some false))))

/-- dumbwaiterkit.Pick -/
def kit_Pick (np0 : Int) (m : Int) : Option Int :=
  br (decide (m < (1 : Int)))
  (some (0 : Int))
  (chk (!(m == 0)) <|
  br (decide ((remi np0 m) < (0 : Int)))
  (some (wi ((remi np0 m) + m)))
  (some (remi np0 m)))

/-- (*gmem.Mem).Write -/
def gmem_Mem_Write (m : gmem_Mem) (atp1 : UInt64) (arg2 : List UInt8) : Option (Int × (List (List UInt8))) :=
  ob (gmem_Mem_made m) fun made1 =>
  br ((len arg2) == (0 : Int))
  (some ((0 : Int), m.b))
  (ob (gmem_Mem_bytes m atp1 (u64 (len arg2))) fun bytes1 =>
  onO bytes1
  (some ((5 : Int), m.b))
  (fun w1 =>
  ob (ix m.b w1.1) fun row1 =>
  chk (decide (0 ≤ w1.2.1 ∧ w1.2.1 ≤ w1.2.2 ∧ w1.2.2 ≤ len row1)) <|
  chk (decide (w1.2.1 < w1.2.2)) <|
  some ((0 : Int), m.b.set (Int.toNat w1.1) (copyAt row1 w1.2.1 w1.2.2 arg2))))

/-- slices.Clone[[]byte,byte] -/
def slices_Clone_bytebyte (sp0 : List UInt8) : Option (List UInt8) :=
  chk (fits ([] : List UInt8).length sp0.length 1) <|
  some sp0

/-- (*gmem.Mem).Read -/
def gmem_Mem_Read (m : gmem_Mem) (atp1 : UInt64) (np2 : Int) : Option ((List UInt8) × Int) :=
  ob (gmem_Mem_made m) fun made1 =>
  br (decide (np2 < (0 : Int)))
  (some (([] : List UInt8), (2 : Int)))
  (br (np2 == (0 : Int))
  (some (([] : List UInt8), (0 : Int)))
  (ob (gmem_Mem_bytes m atp1 (u64 np2)) fun bytes1 =>
  onO bytes1
  (some (([] : List UInt8), (5 : Int)))
  (fun w1 =>
  ob (ix m.b w1.1) fun row1 =>
  chk (decide (0 ≤ w1.2.1 ∧ w1.2.1 ≤ w1.2.2 ∧ w1.2.2 ≤ len row1)) <|
  chk (decide (w1.2.1 < w1.2.2)) <|
  ob (slices_Clone_bytebyte (sub row1 w1.2.1 w1.2.2)) fun cloneb1 =>
  some (cloneb1, (0 : Int)))))

def slices_Grow_bytebyten0J1 (np1 : Int)  : Option (List UInt8) :=
  br (decide ((wi (np1 - (wi ((0 : Int) - (0 : Int))))) > (0 : Int)))
  (chk (decide (0 ≤ (wi (np1 - (wi ((0 : Int) - (0 : Int))))) ∧ (1 : Int) * (wi (np1 - (wi ((0 : Int) - (0 : Int))))) ≤ 140737488355328)) <|
  chk (decide (0 ≤ (0 : Int) ∧ (0 : Int) ≤ len (List.replicate (wi (np1 - (wi ((0 : Int) - (0 : Int))))).toNat (0 : UInt8)))) <|
  some ((List.replicate (wi (np1 - (wi ((0 : Int) - (0 : Int))))).toNat (0 : UInt8)).take (0 : Int).toNat))
  (some ([] : List UInt8))

/-- slices.Grow[[]byte,byte] -/
def slices_Grow_bytebyten0 (np1 : Int) : Option (List UInt8) :=
  chk (!(decide (np1 < (0 : Int)))) <|
  slices_Grow_bytebyten0J1 np1

def slices_Concat_bytebyteJ2 (x1 : Int) (L1 : Int → Int → Option (List UInt8)) (size2 : Int) : Option (List UInt8) :=
  L1 size2 (wi (x1 + (1 : Int)))

def slices_Concat_bytebyteJ3 (size1 : Int) (x1 : Int) (L1 : Int → Int → Option (List UInt8)) (y1 : List UInt8)  : Option (List UInt8) :=
  slices_Concat_bytebyteJ2 x1 L1 (wi (size1 + (len y1)))

def slices_Concat_bytebyteL4B (slices : List (List UInt8)) (L4 : (List UInt8) → Int → Option (List UInt8)) (newslice1 : List UInt8) (x2 : Int) : Option (List UInt8) :=
  br (decide (x2 < (len slices)))
  (ob (ix slices x2) fun y2 =>
  chk (fits newslice1.length y2.length 1) <|
  L4 (newslice1 ++ y2) (wi (x2 + (1 : Int))))
  (some newslice1)

def slices_Concat_bytebyteL4 (slices : List (List UInt8)) : Nat → (List UInt8) → Int → Option (List UInt8)
  | 0, _, _ => none
  | nf + 1, newslice1, x2 => slices_Concat_bytebyteL4B slices (slices_Concat_bytebyteL4 slices nf) newslice1 x2

def slices_Concat_bytebyteL1B (slices : List (List UInt8)) (L1 : Int → Int → Option (List UInt8)) (size1 : Int) (x1 : Int) : Option (List UInt8) :=
  br (decide (x1 < (len slices)))
  (ob (ix slices x1) fun y1 =>
  chk (!(decide ((wi (size1 + (len y1))) < (0 : Int)))) <|
  slices_Concat_bytebyteJ3 size1 x1 L1 y1)
  (ob (slices_Grow_bytebyten0 size1) fun growby1 =>
  slices_Concat_bytebyteL4 slices fuel growby1 (0 : Int))

def slices_Concat_bytebyteL1 (slices : List (List UInt8)) : Nat → Int → Int → Option (List UInt8)
  | 0, _, _ => none
  | nf + 1, size1, x1 => slices_Concat_bytebyteL1B slices (slices_Concat_bytebyteL1 slices nf) size1 x1

/-- slices.Concat[[]byte,byte] -/
def slices_Concat_bytebyte (slices : List (List UInt8)) : Option (List UInt8) :=
  slices_Concat_bytebyteL1 slices fuel (0 : Int) (0 : Int)

/-- (*gmem.Mem).Image -/
def gmem_Mem_Image (m : gmem_Mem) : Option (List UInt8) :=
  ob (gmem_Mem_made m) fun made1 =>
  ob (slices_Concat_bytebyte m.b) fun concat1 =>
  some concat1

def law02zGmemWordsL2B (mem1 : gmem_Mem) (pick1 : Int) (store2 : (Int × (List (List UInt8)))) (load2 : (UInt64 × Int)) (read1 : ((List UInt8) × Int)) (L2 : Int → Option Bool) (i2 : Int) : Option Bool :=
  br (decide (i2 < (8 : Int)))
  (ob (ix read1.1 i2) fun y2 =>
  chk (!(y2 != ((shr64 load2.1 ((u64 (wi ((8 : Int) * i2))).toNat)).toUInt8))) <|
  L2 (wi (i2 + (1 : Int))))
  (ob (ix read1.1 (0 : Int)) fun y3 =>
  ob (gmem_Mem_Write (gmem_Mem.mk mem1.l store2.2) ((1000 : UInt64) + (u64 pick1)) [y3 ^^^ (1 : UInt8)]) fun write1 =>
  chk (write1.1 == (0 : Int)) <|
  ob (gmem_Mem_Image (gmem_Mem.mk mem1.l write1.2)) fun image1 =>
  chk (decide (0 ≤ (0 : Int) ∧ (0 : Int) ≤ ((((1000 : UInt64) + (u64 pick1)) - (1000 : UInt64)).toNat : Int) ∧ ((((1000 : UInt64) + (u64 pick1)) - (1000 : UInt64)).toNat : Int) ≤ len image1)) <|
  chk (decide (0 ≤ ((((1000 : UInt64) + (u64 pick1)) - (1000 : UInt64)).toNat : Int) ∧ ((((1000 : UInt64) + (u64 pick1)) - (1000 : UInt64)).toNat : Int) ≤ ((((1000 : UInt64) + (u64 pick1)) - (1000 : UInt64)).toNat : Int) ∧ (1 : Int) * ((((1000 : UInt64) + (u64 pick1)) - (1000 : UInt64)).toNat : Int) ≤ 140737488355328)) <|
  chk ((sub image1 (0 : Int) ((((1000 : UInt64) + (u64 pick1)) - (1000 : UInt64)).toNat : Int)) == (List.replicate (Int.toNat ((((1000 : UInt64) + (u64 pick1)) - (1000 : UInt64)).toNat : Int)) (0 : UInt8))) <|
  some true)

def law02zGmemWordsL2 (mem1 : gmem_Mem) (pick1 : Int) (store2 : (Int × (List (List UInt8)))) (load2 : (UInt64 × Int)) (read1 : ((List UInt8) × Int)) : Nat → Int → Option Bool
  | 0, _ => none
  | nf + 1, i2 => law02zGmemWordsL2B mem1 pick1 store2 load2 read1 (law02zGmemWordsL2 mem1 pick1 store2 load2 read1 nf) i2

def law02zGmemWordsL1B (vp1 : UInt64) (wp2 : UInt64) (mem1 : gmem_Mem) (pick1 : Int) (y1 : Int) (store1 : (Int × (List (List UInt8)))) (L1 : UInt64 → Int → Option Bool) (back1 : UInt64) (i1 : Int) : Option Bool :=
  br (decide (i1 ≥ (0 : Int)))
  (ob (gmem_Mem_Load (gmem_Mem.mk mem1.l store1.2) (((1000 : UInt64) + (u64 pick1)) + (u64 i1)) y1) fun load1 =>
  chk (!(load1.2 != (0 : Int))) <|
  chk (!((shr64 load1.1 ((u64 (wi ((8 : Int) * y1))).toNat)) != (0 : UInt64))) <|
  L1 ((shl64 back1 ((u64 (wi ((8 : Int) * y1))).toNat)) ||| load1.1) (wi (i1 - y1)))
  (chk (!(back1 != vp1)) <|
  ob (gmem_Mem_Store (gmem_Mem.mk mem1.l store1.2) ((1000 : UInt64) + (u64 pick1)) y1 wp2) fun store2 =>
  chk (!(store2.1 != (0 : Int))) <|
  ob (gmem_Mem_Load (gmem_Mem.mk mem1.l store2.2) ((1000 : UInt64) + (u64 pick1)) (8 : Int)) fun load2 =>
  ob (gmem_Mem_Read (gmem_Mem.mk mem1.l store2.2) ((1000 : UInt64) + (u64 pick1)) (8 : Int)) fun read1 =>
  chk (!(load2.2 != (0 : Int))) <|
  chk (!(read1.2 != (0 : Int))) <|
  chk (!(load2.1 != ((vp1 &&& ~~~((shl64 (1 : UInt64) ((u64 (wi ((8 : Int) * y1))).toNat)) - (1 : UInt64))) ||| (wp2 &&& ((shl64 (1 : UInt64) ((u64 (wi ((8 : Int) * y1))).toNat)) - (1 : UInt64)))))) <|
  law02zGmemWordsL2 mem1 pick1 store2 load2 read1 fuel (0 : Int))

def law02zGmemWordsL1 (vp1 : UInt64) (wp2 : UInt64) (mem1 : gmem_Mem) (pick1 : Int) (y1 : Int) (store1 : (Int × (List (List UInt8)))) : Nat → UInt64 → Int → Option Bool
  | 0, _, _ => none
  | nf + 1, back1, i1 => law02zGmemWordsL1B vp1 wp2 mem1 pick1 y1 store1 (law02zGmemWordsL1 vp1 wp2 mem1 pick1 y1 store1 nf) back1 i1

/-- dumbwaiterlaw02.GmemWords -/
def law02zGmemWords (atp0 : Int) (vp1 : UInt64) (wp2 : UInt64) (width : Int) : Option Bool :=
  ob (law02zlives) fun lives1 =>
  chk (!((!lives1))) <|
  ob (gmem_New [(Region.mk (1000 : UInt64) (64 : UInt64))]) fun new1 =>
  onO new1.1
  (none)
  (fun mem1 =>
  chk (!(new1.2 != (0 : Int))) <|
  ob (kit_Pick atp0 (57 : Int)) fun pick1 =>
  ob (kit_Pick width (3 : Int)) fun pick2 =>
  ob (ix [(1 : Int), (2 : Int), (4 : Int)] pick2) fun y1 =>
  ob (gmem_Mem_Store mem1 ((1000 : UInt64) + (u64 pick1)) (8 : Int) vp1) fun store1 =>
  chk (!(store1.1 != (0 : Int))) <|
  law02zGmemWordsL1 vp1 wp2 mem1 pick1 y1 store1 fuel (0 : UInt64) (wi ((8 : Int) - y1)))
end Go.Proofs.Ytecmlfmbmligeaa
