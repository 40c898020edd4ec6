/- What the functions reckon, as plain words. No statement of the seat is proved here; no condition. -/
import Derived.Test.YtihcimjfabdafaaTy
namespace Go.Proofs.Ytihcimjfabdafaa

/-- dumbwaiterlaw09.two -/
def law09ztwo  : Option (List Seg) :=
  some [(Seg.mk (100 : UInt64) (8 : UInt32) false), (Seg.mk (200 : UInt64) (4 : UInt32) true)]

/-- seg.Check$1 -/
def seg_Check_1 (arg0 : Int) (arg1 : UInt64) : Option Int :=
  br (arg0 == (0 : Int))
  (br (decide (arg1 ≥ (4294967296 : UInt64)))
  (some (2 : Int))
  (some arg0))
  (some arg0)

def seg_CheckL1B (l : List Seg) (L1 : Int → UInt64 → Int → Option Int) (m1 : Int) (m2 : UInt64) (x1 : Int) : Option Int :=
  br (decide (x1 < (len l)))
  (ob (ix l x1) fun s1 =>
  br (decide (s1.Len < (1 : UInt32)))
  (ob (seg_Check_1 (2 : Int) m2) fun check1 =>
  some check1)
  (br (decide ((s1.Len.toUInt64 - (1 : UInt64)) > ((18446744073709551615 : UInt64) - s1.At)))
  (ob (seg_Check_1 (2 : Int) m2) fun check2 =>
  some check2)
  (br (decide (x1 > (0 : Int)))
  (ob (ix l (wi (x1 - (1 : Int)))) fun s2 =>
  br (s2.Write)
  (br ((!s1.Write))
  (ob (seg_Check_1 (2 : Int) m2) fun check3 =>
  some check3)
  (L1 m1 (m2 + s1.Len.toUInt64) (wi (x1 + (1 : Int)))))
  (L1 m1 (m2 + s1.Len.toUInt64) (wi (x1 + (1 : Int)))))
  (L1 m1 (m2 + s1.Len.toUInt64) (wi (x1 + (1 : Int)))))))
  (ob (seg_Check_1 (0 : Int) m2) fun check4 =>
  some check4)

def seg_CheckL1 (l : List Seg) : Nat → Int → UInt64 → Int → Option Int
  | 0, _, _, _ => none
  | nf + 1, m1, m2, x1 => seg_CheckL1B l (seg_CheckL1 l nf) m1 m2 x1

/-- seg.Check -/
def seg_Check (l : List Seg) : Option Int :=
  br (decide ((len l) > (64 : Int)))
  (some (3 : Int))
  (seg_CheckL1 l fuel (0 : Int) (0 : UInt64) (0 : Int))

/-- build.wrong$1 -/
def build_wrong_1 (arg0 : Bool) : Option Int :=
  br (arg0)
  (some (2 : Int))
  (some (0 : Int))

/-- build.wrong -/
def build_wrong (is : Bool) : Option (Option Int) :=
  some (build_wrong_1 is)

/-- build.buffer$1 -/
def build_buffer_1 (arg0 : List Seg) : Option Int :=
  ob (seg_Check arg0) fun check1 =>
  br (check1 != (0 : Int))
  (some check1)
  (ob (build_wrong ((len arg0) == (0 : Int))) fun wrong1 =>
  ob (wrong1) fun y1 =>
  some y1)

/-- build.buffer -/
def build_buffer (l : List Seg) : Option (Option Int) :=
  some (build_buffer_1 l)

/-- build.isID -/
def build_isID (np0 : Int) : Option Bool :=
  br (decide (np0 ≥ (0 : Int)))
  (some (decide (np0 < (32768 : Int))))
  (some false)

def build_apartL1B (ids : List Int) (L1 : (List (Int × Bool)) → Int → Option Bool) (map1 : List (Int × Bool)) (x1 : Int) : Option Bool :=
  br (decide (x1 < (len ids)))
  (ob (ix ids x1) fun y1 =>
  ob (build_isID y1) fun isid1 =>
  br ((!isid1))
  (some false)
  (br (mget false y1 map1)
  (some false)
  (L1 (mput y1 true map1) (wi (x1 + (1 : Int))))))
  (some true)

def build_apartL1 (ids : List Int) : Nat → (List (Int × Bool)) → Int → Option Bool
  | 0, _, _ => none
  | nf + 1, map1, x1 => build_apartL1B ids (build_apartL1 ids nf) map1 x1

/-- build.apart -/
def build_apart (ids : List Int) : Option Bool :=
  build_apartL1 ids fuel ([] : List (Int × Bool)) (0 : Int)

def build_firstL1B (l : List (Option Int)) (L1 : Int → Option Int) (x1 : Int) : Option Int :=
  br (decide (x1 < (len l)))
  (ob (ix l x1) fun y1 =>
  ob (y1) fun y2 =>
  br (y2 != (0 : Int))
  (some y2)
  (L1 (wi (x1 + (1 : Int)))))
  (some (0 : Int))

def build_firstL1 (l : List (Option Int)) : Nat → Int → Option Int
  | 0, _ => none
  | nf + 1, x1 => build_firstL1B l (build_firstL1 l nf) x1

/-- build.first -/
def build_first (l : List (Option Int)) : Option Int :=
  build_firstL1 l fuel (0 : Int)

def build_split_madeJ1 (more : Bool) (m1 : build_split) : Option build_split :=
  br (more)
  (some (build_split.mk (Desc.mk m1.Desc.Addr m1.Desc.Len (m1.Desc.Flags ||| (1 : UInt16)) (u16 m1.next)) m1.next))
  (some m1)

/-- (build.split).made -/
def build_split_made (dp0 : build_split) (sp1 : Seg) (more : Bool) : Option build_split :=
  br (sp1.Write)
  (build_split_madeJ1 more (build_split.mk (Desc.mk sp1.At sp1.Len ((0 : UInt16) ||| (2 : UInt16)) (0 : UInt16)) dp0.next))
  (build_split_madeJ1 more (build_split.mk (Desc.mk sp1.At sp1.Len (0 : UInt16) (0 : UInt16)) dp0.next))

def build_chain_buildsplitL1B (l : List Seg) (of : Int → Option build_split) (L1 : (List build_split) → Int → Option (List build_split)) (out1 : List build_split) (x1 : Int) : Option (List build_split) :=
  br (decide (x1 < (len l)))
  (ob (ix l x1) fun s1 =>
  ob (of x1) fun y1 =>
  ob (build_split_made y1 s1 (decide ((wi (x1 + (1 : Int))) < (len l)))) fun made1 =>
  chk (fits out1.length [made1].length 24) <|
  L1 (out1 ++ [made1]) (wi (x1 + (1 : Int))))
  (some out1)

def build_chain_buildsplitL1 (l : List Seg) (of : Int → Option build_split) : Nat → (List build_split) → Int → Option (List build_split)
  | 0, _, _ => none
  | nf + 1, out1, x1 => build_chain_buildsplitL1B l of (build_chain_buildsplitL1 l of nf) out1 x1

/-- build.chain[build.split] -/
def build_chain_buildsplit (l : List Seg) (of : Int → Option build_split) : Option (List build_split) :=
  chk (decide (0 ≤ (0 : Int) ∧ (0 : Int) ≤ (len l) ∧ (24 : Int) * (len l) ≤ 140737488355328)) <|
  build_chain_buildsplitL1 l of fuel (List.replicate (0 : Int).toNat (build_split.mk (Desc.mk (0 : UInt64) (0 : UInt32) (0 : UInt16) (0 : UInt16)) (0 : Int))) (0 : Int)

/-- build.Split$1 -/
def build_Split_1 (ip0 : Int) (arg1 : List Int) : Option build_split :=
  br (decide ((wi (ip0 + (1 : Int))) < (len arg1)))
  (ob (ix arg1 (wi (ip0 + (1 : Int)))) fun y1 =>
  some (build_split.mk (Desc.mk (0 : UInt64) (0 : UInt32) (0 : UInt16) (0 : UInt16)) y1))
  (some (build_split.mk (Desc.mk (0 : UInt64) (0 : UInt32) (0 : UInt16) (0 : UInt16)) (0 : Int)))

def build_SplitL1B (ids : List Int) (split1 : (List build_split)) (L1 : (List Put) → (List build_split) → Int → Option ((List Put) × Int)) (out1 : List Put) (l1 : List build_split) (x1 : Int) : Option ((List Put) × Int) :=
  br (decide (x1 < (len split1)))
  (ob (ix l1 x1) fun b2 =>
  ob (ix ids x1) fun y1 =>
  chk (fits out1.length [(Put.mk y1 b2.Desc)].length 24) <|
  L1 (out1 ++ [(Put.mk y1 b2.Desc)]) l1 (wi (x1 + (1 : Int))))
  (some (out1, (0 : Int)))

def build_SplitL1 (ids : List Int) (split1 : (List build_split)) : Nat → (List Put) → (List build_split) → Int → Option ((List Put) × Int)
  | 0, _, _, _ => none
  | nf + 1, out1, l1, x1 => build_SplitL1B ids split1 (build_SplitL1 ids split1 nf) out1 l1 x1

def build_SplitL2B (ids : List Int) (split2 : (List build_split)) (L2 : (List Put) → (List build_split) → Int → Option ((List Put) × Int)) (out2 : List Put) (l2 : List build_split) (x2 : Int) : Option ((List Put) × Int) :=
  br (decide (x2 < (len split2)))
  (ob (ix l2 x2) fun b4 =>
  ob (ix ids x2) fun y2 =>
  chk (fits out2.length [(Put.mk y2 b4.Desc)].length 24) <|
  L2 (out2 ++ [(Put.mk y2 b4.Desc)]) l2 (wi (x2 + (1 : Int))))
  (some (out2, (0 : Int)))

def build_SplitL2 (ids : List Int) (split2 : (List build_split)) : Nat → (List Put) → (List build_split) → Int → Option ((List Put) × Int)
  | 0, _, _, _ => none
  | nf + 1, out2, l2, x2 => build_SplitL2B ids split2 (build_SplitL2 ids split2 nf) out2 l2 x2

/-- build.Split -/
def build_Split (ids : List Int) (l : List Seg) : Option ((List Put) × Int) :=
  ob (build_buffer l) fun buffer1 =>
  br ((len ids) != (len l))
  (ob (build_wrong true) fun wrong1 =>
  ob (build_first [buffer1, wrong1]) fun first1 =>
  br (first1 != (0 : Int))
  (some (([] : List Put), first1))
  (ob (build_chain_buildsplit l (fun x => build_Split_1 x ids)) fun split1 =>
  build_SplitL1 ids split1 fuel [] split1 (0 : Int)))
  (ob (build_apart ids) fun apart1 =>
  ob (build_wrong (!apart1)) fun wrong2 =>
  ob (build_first [buffer1, wrong2]) fun first2 =>
  br (first2 != (0 : Int))
  (some (([] : List Put), first2))
  (ob (build_chain_buildsplit l (fun x => build_Split_1 x ids)) fun split2 =>
  build_SplitL2 ids split2 fuel [] split2 (0 : Int)))

def desc_MarkJ1 (wrap : Bool) (used : Bool) (flags1 : UInt16) : Option UInt16 :=
  br (wrap == used)
  (some (flags1 ||| (32768 : UInt16)))
  (some flags1)

/-- desc.Mark -/
def desc_Mark (flags : UInt16) (wrap : Bool) (used : Bool) : Option UInt16 :=
  br (wrap)
  (desc_MarkJ1 wrap used ((flags &&& ~~~(32896 : UInt16)) ||| (128 : UInt16)))
  (desc_MarkJ1 wrap used (flags &&& ~~~(32896 : UInt16)))

def build_packed_madeJ2  (m2 : build_packed) : Option build_packed :=
  ob (desc_Mark m2.Packed.Flags m2.wrap false) fun mark1 =>
  some (build_packed.mk (Packed.mk m2.Packed.Addr m2.Packed.Len m2.Packed.ID mark1) m2.id m2.wrap)

def build_packed_madeJ1 (more : Bool) (m1 : build_packed) : Option build_packed :=
  br (more)
  (build_packed_madeJ2 (build_packed.mk (Packed.mk m1.Packed.Addr m1.Packed.Len m1.Packed.ID (m1.Packed.Flags ||| (1 : UInt16))) m1.id m1.wrap))
  (build_packed_madeJ2 m1)

/-- (build.packed).made -/
def build_packed_made (dp0 : build_packed) (sp1 : Seg) (more : Bool) : Option build_packed :=
  br (sp1.Write)
  (build_packed_madeJ1 more (build_packed.mk (Packed.mk sp1.At sp1.Len (u16 dp0.id) ((0 : UInt16) ||| (2 : UInt16))) dp0.id dp0.wrap))
  (build_packed_madeJ1 more (build_packed.mk (Packed.mk sp1.At sp1.Len (u16 dp0.id) (0 : UInt16)) dp0.id dp0.wrap))

def build_chain_buildpackedL1B (l : List Seg) (of : Int → Option build_packed) (L1 : (List build_packed) → Int → Option (List build_packed)) (out1 : List build_packed) (x1 : Int) : Option (List build_packed) :=
  br (decide (x1 < (len l)))
  (ob (ix l x1) fun s1 =>
  ob (of x1) fun y1 =>
  ob (build_packed_made y1 s1 (decide ((wi (x1 + (1 : Int))) < (len l)))) fun made1 =>
  chk (fits out1.length [made1].length 32) <|
  L1 (out1 ++ [made1]) (wi (x1 + (1 : Int))))
  (some out1)

def build_chain_buildpackedL1 (l : List Seg) (of : Int → Option build_packed) : Nat → (List build_packed) → Int → Option (List build_packed)
  | 0, _, _ => none
  | nf + 1, out1, x1 => build_chain_buildpackedL1B l of (build_chain_buildpackedL1 l of nf) out1 x1

/-- build.chain[build.packed] -/
def build_chain_buildpacked (l : List Seg) (of : Int → Option build_packed) : Option (List build_packed) :=
  chk (decide (0 ≤ (0 : Int) ∧ (0 : Int) ≤ (len l) ∧ (32 : Int) * (len l) ≤ 140737488355328)) <|
  build_chain_buildpackedL1 l of fuel (List.replicate (0 : Int).toNat (build_packed.mk (Packed.mk (0 : UInt64) (0 : UInt32) (0 : UInt16) (0 : UInt16)) (0 : Int) false)) (0 : Int)

/-- serial.isSize -/
def serial_isSize (np0 : Int) : Option Bool :=
  br (decide (np0 ≥ (1 : Int)))
  (some (decide (np0 ≤ (32768 : Int))))
  (some false)

/-- serial.Check -/
def serial_Check (pp0 : Pos) (size : Int) : Option Int :=
  ob (serial_isSize size) fun issize1 =>
  br ((!issize1))
  (some (2 : Int))
  (br (decide (pp0.At < (0 : Int)))
  (some (2 : Int))
  (br (decide (pp0.At ≥ size))
  (some (2 : Int))
  (some (0 : Int))))

/-- serial.Go -/
def serial_Go (pp0 : Pos) (byp1 : Int) (size : Int) : Option (Pos × Int) :=
  ob (serial_Check pp0 size) fun check1 =>
  br (check1 != (0 : Int))
  (some ((Pos.mk (0 : Int) false), (2 : Int)))
  (br (decide (byp1 < (0 : Int)))
  (some ((Pos.mk (0 : Int) false), (2 : Int)))
  (br (decide (byp1 > size))
  (some ((Pos.mk (0 : Int) false), (2 : Int)))
  (br (decide ((wi (pp0.At + byp1)) ≥ size))
  (some ((Pos.mk (wi ((wi (pp0.At + byp1)) - size)) (!pp0.Wrap)), (0 : Int)))
  (some ((Pos.mk (wi (pp0.At + byp1)) pp0.Wrap), (0 : Int))))))

/-- build.Packed$1 -/
def build_Packed_1 (ip0 : Int) (arg1 : Int) (arg2 : List Pos) : Option build_packed :=
  ob (ix arg2 ip0) fun p1 =>
  some (build_packed.mk (Packed.mk (0 : UInt64) (0 : UInt32) (0 : UInt16) (0 : UInt16)) arg1 p1.Wrap)

def build_PackedL2B (m3 : List Pos) (packed1 : (List build_packed)) (L2 : (List PutPacked) → (List build_packed) → Int → Option ((List PutPacked) × Int)) (out1 : List PutPacked) (l1 : List build_packed) (x2 : Int) : Option ((List PutPacked) × Int) :=
  br (decide (x2 < (len packed1)))
  (ob (ix l1 x2) fun b4 =>
  ob (ix m3 x2) fun p1 =>
  chk (fits out1.length [(PutPacked.mk p1.At b4.Packed)].length 24) <|
  L2 (out1 ++ [(PutPacked.mk p1.At b4.Packed)]) l1 (wi (x2 + (1 : Int))))
  (some (out1, (0 : Int)))

def build_PackedL2 (m3 : List Pos) (packed1 : (List build_packed)) : Nat → (List PutPacked) → (List build_packed) → Int → Option ((List PutPacked) × Int)
  | 0, _, _, _ => none
  | nf + 1, out1, l1, x2 => build_PackedL2B m3 packed1 (build_PackedL2 m3 packed1 nf) out1 l1 x2

def build_PackedL1B (size : Int) (l : List Seg) (L1 : Pos → Int → (List Pos) → Int → Option ((List PutPacked) × Int)) (m1 : Pos) (m2 : Int) (m3 : List Pos) (x1 : Int) : Option ((List PutPacked) × Int) :=
  br (decide (x1 < (len l)))
  (chk (fits m3.length [m1].length 16) <|
  ob (serial_Go m1 (1 : Int) size) fun go1 =>
  L1 go1.1 m2 (m3 ++ [m1]) (wi (x1 + (1 : Int))))
  (ob (build_chain_buildpacked l (fun x => build_Packed_1 x m2 m3)) fun packed1 =>
  build_PackedL2 m3 packed1 fuel [] packed1 (0 : Int))

def build_PackedL1 (size : Int) (l : List Seg) : Nat → Pos → Int → (List Pos) → Int → Option ((List PutPacked) × Int)
  | 0, _, _, _, _ => none
  | nf + 1, m1, m2, m3, x1 => build_PackedL1B size l (build_PackedL1 size l nf) m1 m2 m3 x1

def build_PackedL4B (m6 : List Pos) (packed2 : (List build_packed)) (L4 : (List PutPacked) → (List build_packed) → Int → Option ((List PutPacked) × Int)) (out2 : List PutPacked) (l2 : List build_packed) (x4 : Int) : Option ((List PutPacked) × Int) :=
  br (decide (x4 < (len packed2)))
  (ob (ix l2 x4) fun b7 =>
  ob (ix m6 x4) fun p4 =>
  chk (fits out2.length [(PutPacked.mk p4.At b7.Packed)].length 24) <|
  L4 (out2 ++ [(PutPacked.mk p4.At b7.Packed)]) l2 (wi (x4 + (1 : Int))))
  (some (out2, (0 : Int)))

def build_PackedL4 (m6 : List Pos) (packed2 : (List build_packed)) : Nat → (List PutPacked) → (List build_packed) → Int → Option ((List PutPacked) × Int)
  | 0, _, _, _ => none
  | nf + 1, out2, l2, x4 => build_PackedL4B m6 packed2 (build_PackedL4 m6 packed2 nf) out2 l2 x4

def build_PackedL3B (size : Int) (l : List Seg) (L3 : Pos → Int → (List Pos) → Int → Option ((List PutPacked) × Int)) (m4 : Pos) (m5 : Int) (m6 : List Pos) (x3 : Int) : Option ((List PutPacked) × Int) :=
  br (decide (x3 < (len l)))
  (chk (fits m6.length [m4].length 16) <|
  ob (serial_Go m4 (1 : Int) size) fun go2 =>
  L3 go2.1 m5 (m6 ++ [m4]) (wi (x3 + (1 : Int))))
  (ob (build_chain_buildpacked l (fun x => build_Packed_1 x m5 m6)) fun packed2 =>
  build_PackedL4 m6 packed2 fuel [] packed2 (0 : Int))

def build_PackedL3 (size : Int) (l : List Seg) : Nat → Pos → Int → (List Pos) → Int → Option ((List PutPacked) × Int)
  | 0, _, _, _, _ => none
  | nf + 1, m4, m5, m6, x3 => build_PackedL3B size l (build_PackedL3 size l nf) m4 m5 m6 x3

def build_PackedL6B (m9 : List Pos) (packed3 : (List build_packed)) (L6 : (List PutPacked) → (List build_packed) → Int → Option ((List PutPacked) × Int)) (out3 : List PutPacked) (l3 : List build_packed) (x6 : Int) : Option ((List PutPacked) × Int) :=
  br (decide (x6 < (len packed3)))
  (ob (ix l3 x6) fun b10 =>
  ob (ix m9 x6) fun p7 =>
  chk (fits out3.length [(PutPacked.mk p7.At b10.Packed)].length 24) <|
  L6 (out3 ++ [(PutPacked.mk p7.At b10.Packed)]) l3 (wi (x6 + (1 : Int))))
  (some (out3, (0 : Int)))

def build_PackedL6 (m9 : List Pos) (packed3 : (List build_packed)) : Nat → (List PutPacked) → (List build_packed) → Int → Option ((List PutPacked) × Int)
  | 0, _, _, _ => none
  | nf + 1, out3, l3, x6 => build_PackedL6B m9 packed3 (build_PackedL6 m9 packed3 nf) out3 l3 x6

def build_PackedL5B (size : Int) (l : List Seg) (L5 : Pos → Int → (List Pos) → Int → Option ((List PutPacked) × Int)) (m7 : Pos) (m8 : Int) (m9 : List Pos) (x5 : Int) : Option ((List PutPacked) × Int) :=
  br (decide (x5 < (len l)))
  (chk (fits m9.length [m7].length 16) <|
  ob (serial_Go m7 (1 : Int) size) fun go3 =>
  L5 go3.1 m8 (m9 ++ [m7]) (wi (x5 + (1 : Int))))
  (ob (build_chain_buildpacked l (fun x => build_Packed_1 x m8 m9)) fun packed3 =>
  build_PackedL6 m9 packed3 fuel [] packed3 (0 : Int))

def build_PackedL5 (size : Int) (l : List Seg) : Nat → Pos → Int → (List Pos) → Int → Option ((List PutPacked) × Int)
  | 0, _, _, _, _ => none
  | nf + 1, m7, m8, m9, x5 => build_PackedL5B size l (build_PackedL5 size l nf) m7 m8 m9 x5

def build_PackedL8B (m12 : List Pos) (packed4 : (List build_packed)) (L8 : (List PutPacked) → (List build_packed) → Int → Option ((List PutPacked) × Int)) (out4 : List PutPacked) (l4 : List build_packed) (x8 : Int) : Option ((List PutPacked) × Int) :=
  br (decide (x8 < (len packed4)))
  (ob (ix l4 x8) fun b13 =>
  ob (ix m12 x8) fun p10 =>
  chk (fits out4.length [(PutPacked.mk p10.At b13.Packed)].length 24) <|
  L8 (out4 ++ [(PutPacked.mk p10.At b13.Packed)]) l4 (wi (x8 + (1 : Int))))
  (some (out4, (0 : Int)))

def build_PackedL8 (m12 : List Pos) (packed4 : (List build_packed)) : Nat → (List PutPacked) → (List build_packed) → Int → Option ((List PutPacked) × Int)
  | 0, _, _, _ => none
  | nf + 1, out4, l4, x8 => build_PackedL8B m12 packed4 (build_PackedL8 m12 packed4 nf) out4 l4 x8

def build_PackedL7B (size : Int) (l : List Seg) (L7 : Pos → Int → (List Pos) → Int → Option ((List PutPacked) × Int)) (m10 : Pos) (m11 : Int) (m12 : List Pos) (x7 : Int) : Option ((List PutPacked) × Int) :=
  br (decide (x7 < (len l)))
  (chk (fits m12.length [m10].length 16) <|
  ob (serial_Go m10 (1 : Int) size) fun go4 =>
  L7 go4.1 m11 (m12 ++ [m10]) (wi (x7 + (1 : Int))))
  (ob (build_chain_buildpacked l (fun x => build_Packed_1 x m11 m12)) fun packed4 =>
  build_PackedL8 m12 packed4 fuel [] packed4 (0 : Int))

def build_PackedL7 (size : Int) (l : List Seg) : Nat → Pos → Int → (List Pos) → Int → Option ((List PutPacked) × Int)
  | 0, _, _, _, _ => none
  | nf + 1, m10, m11, m12, x7 => build_PackedL7B size l (build_PackedL7 size l nf) m10 m11 m12 x7

/-- build.Packed -/
def build_Packed (pp0 : Pos) (size : Int) (id : Int) (l : List Seg) : Option ((List PutPacked) × Int) :=
  ob (build_buffer l) fun buffer1 =>
  ob (serial_Check pp0 size) fun check1 =>
  br (check1 != (0 : Int))
  (ob (build_wrong true) fun wrong1 =>
  ob (build_first [buffer1, wrong1]) fun first1 =>
  br (first1 != (0 : Int))
  (some (([] : List PutPacked), first1))
  (build_PackedL1 size l fuel pp0 id ([] : List Pos) (0 : Int)))
  (br (decide (id < (0 : Int)))
  (ob (build_wrong true) fun wrong2 =>
  ob (build_first [buffer1, wrong2]) fun first2 =>
  br (first2 != (0 : Int))
  (some (([] : List PutPacked), first2))
  (build_PackedL3 size l fuel pp0 id ([] : List Pos) (0 : Int)))
  (br (decide (id ≥ size))
  (ob (build_wrong true) fun wrong3 =>
  ob (build_first [buffer1, wrong3]) fun first3 =>
  br (first3 != (0 : Int))
  (some (([] : List PutPacked), first3))
  (build_PackedL5 size l fuel pp0 id ([] : List Pos) (0 : Int)))
  (ob (build_wrong (decide ((len l) > size))) fun wrong4 =>
  ob (build_first [buffer1, wrong4]) fun first4 =>
  br (first4 != (0 : Int))
  (some (([] : List PutPacked), first4))
  (build_PackedL7 size l fuel pp0 id ([] : List Pos) (0 : Int)))))

/-- build.many -/
def build_many (np0 : Int) : Option Bool :=
  br (decide (np0 ≥ (1 : Int)))
  (some (decide (np0 ≤ (64 : Int))))
  (some false)

/-- build.SplitOne -/
def build_SplitOne (id : Int) (atp1 : UInt64) (np2 : Int) : Option (Put × Int) :=
  ob (build_isID id) fun isid1 =>
  br ((!isid1))
  (ob (build_wrong true) fun wrong1 =>
  ob (build_first [wrong1]) fun first1 =>
  br (first1 != (0 : Int))
  (some ((Put.mk (0 : Int) (Desc.mk (0 : UInt64) (0 : UInt32) (0 : UInt16) (0 : UInt16))), first1))
  (some ((Put.mk id (Desc.mk atp1 (u32 (wi ((16 : Int) * np2))) (4 : UInt16) (0 : UInt16))), (0 : Int))))
  (ob (build_many np2) fun many1 =>
  ob (build_wrong (!many1)) fun wrong2 =>
  ob (build_first [wrong2]) fun first2 =>
  br (first2 != (0 : Int))
  (some ((Put.mk (0 : Int) (Desc.mk (0 : UInt64) (0 : UInt32) (0 : UInt16) (0 : UInt16))), first2))
  (some ((Put.mk id (Desc.mk atp1 (u32 (wi ((16 : Int) * np2))) (4 : UInt16) (0 : UInt16))), (0 : Int))))

/-- build.PackedOne -/
def build_PackedOne (pp0 : Pos) (size : Int) (id : Int) (atp3 : UInt64) (np4 : Int) : Option (PutPacked × Int) :=
  ob (serial_Check pp0 size) fun check1 =>
  br (check1 != (0 : Int))
  (ob (build_wrong true) fun wrong1 =>
  ob (build_first [wrong1]) fun first1 =>
  br (first1 != (0 : Int))
  (some ((PutPacked.mk (0 : Int) (Packed.mk (0 : UInt64) (0 : UInt32) (0 : UInt16) (0 : UInt16))), first1))
  (ob (desc_Mark (4 : UInt16) pp0.Wrap false) fun mark1 =>
  some ((PutPacked.mk pp0.At (Packed.mk atp3 (u32 (wi ((16 : Int) * np4))) (u16 id) mark1)), (0 : Int))))
  (br (decide (id < (0 : Int)))
  (ob (build_wrong true) fun wrong2 =>
  ob (build_first [wrong2]) fun first2 =>
  br (first2 != (0 : Int))
  (some ((PutPacked.mk (0 : Int) (Packed.mk (0 : UInt64) (0 : UInt32) (0 : UInt16) (0 : UInt16))), first2))
  (ob (desc_Mark (4 : UInt16) pp0.Wrap false) fun mark2 =>
  some ((PutPacked.mk pp0.At (Packed.mk atp3 (u32 (wi ((16 : Int) * np4))) (u16 id) mark2)), (0 : Int))))
  (br (decide (id ≥ size))
  (ob (build_wrong true) fun wrong3 =>
  ob (build_first [wrong3]) fun first3 =>
  br (first3 != (0 : Int))
  (some ((PutPacked.mk (0 : Int) (Packed.mk (0 : UInt64) (0 : UInt32) (0 : UInt16) (0 : UInt16))), first3))
  (ob (desc_Mark (4 : UInt16) pp0.Wrap false) fun mark3 =>
  some ((PutPacked.mk pp0.At (Packed.mk atp3 (u32 (wi ((16 : Int) * np4))) (u16 id) mark3)), (0 : Int))))
  (ob (build_many np4) fun many1 =>
  ob (build_wrong (!many1)) fun wrong4 =>
  ob (build_first [wrong4]) fun first4 =>
  br (first4 != (0 : Int))
  (some ((PutPacked.mk (0 : Int) (Packed.mk (0 : UInt64) (0 : UInt32) (0 : UInt16) (0 : UInt16))), first4))
  (ob (desc_Mark (4 : UInt16) pp0.Wrap false) fun mark4 =>
  some ((PutPacked.mk pp0.At (Packed.mk atp3 (u32 (wi ((16 : Int) * np4))) (u16 id) mark4)), (0 : Int))))))

def desc_raw_putL1B (atp1 : Int) (np2 : Int) (vp3 : UInt64) (L1 : (List UInt8) → Int → Option (List UInt8)) (m1 : List UInt8) (x1 : Int) : Option (List UInt8) :=
  br (decide (x1 < np2))
  (chk (decide (0 ≤ wi ((8 : Int) * x1))) <|
  chk (decide (0 ≤ (wi (atp1 + x1)) ∧ (wi (atp1 + x1)) < (16 : Int))) <|
  chk (decide (0 ≤ (wi (atp1 + x1)) ∧ (wi (atp1 + x1)) < (m1.length : Int))) <|
  L1 (m1.set (wi (atp1 + x1)).toNat ((shr64 vp3 ((wi ((8 : Int) * x1)).toNat)).toUInt8)) (wi (x1 + (1 : Int))))
  (some m1)

def desc_raw_putL1 (atp1 : Int) (np2 : Int) (vp3 : UInt64) : Nat → (List UInt8) → Int → Option (List UInt8)
  | 0, _, _ => none
  | nf + 1, m1, x1 => desc_raw_putL1B atp1 np2 vp3 (desc_raw_putL1 atp1 np2 vp3 nf) m1 x1

/-- (*desc.raw).put -/
def desc_raw_put (rp0 : List UInt8) (atp1 : Int) (np2 : Int) (vp3 : UInt64) : Option (List UInt8) :=
  desc_raw_putL1 atp1 np2 vp3 fuel rp0 (0 : Int)

/-- desc.Bytes -/
def desc_Bytes (dp0 : Desc) : Option (List UInt8) :=
  ob (desc_raw_put (List.replicate 16 0) (0 : Int) (8 : Int) dp0.Addr) fun put1 =>
  ob (desc_raw_put put1 (8 : Int) (4 : Int) dp0.Len.toUInt64) fun put2 =>
  ob (desc_raw_put put2 (12 : Int) (2 : Int) dp0.Flags.toUInt64) fun put3 =>
  ob (desc_raw_put put3 (14 : Int) (2 : Int) dp0.Next.toUInt64) fun put4 =>
  chk (put4.length == 16) <|
  some put4

def desc_TableL1B (l : List Desc) (L1 : (List UInt8) → Int → Option (List UInt8)) (b1 : List UInt8) (x1 : Int) : Option (List UInt8) :=
  br (decide (x1 < (len l)))
  (ob (ix l x1) fun d1 =>
  ob (desc_Bytes d1) fun bytes1 =>
  chk (fits b1.length bytes1.length 1) <|
  L1 (b1 ++ bytes1) (wi (x1 + (1 : Int))))
  (some b1)

def desc_TableL1 (l : List Desc) : Nat → (List UInt8) → Int → Option (List UInt8)
  | 0, _, _ => none
  | nf + 1, b1, x1 => desc_TableL1B l (desc_TableL1 l nf) b1 x1

/-- desc.Table -/
def desc_Table (l : List Desc) : Option (List UInt8) :=
  desc_TableL1 l fuel [] (0 : Int)

/-- build.SplitTable$1 -/
def build_SplitTable_1 (ip0 : Int) : Option build_split :=
  some (build_split.mk (Desc.mk (0 : UInt64) (0 : UInt32) (0 : UInt16) (0 : UInt16)) (wi (ip0 + (1 : Int))))

def build_SplitTableL1B (split1 : (List build_split)) (L1 : (List Desc) → (List build_split) → Int → Option ((List UInt8) × Int)) (out1 : List Desc) (l1 : List build_split) (x1 : Int) : Option ((List UInt8) × Int) :=
  br (decide (x1 < (len split1)))
  (ob (ix l1 x1) fun b1 =>
  chk (fits out1.length [b1.Desc].length 16) <|
  L1 (out1 ++ [b1.Desc]) l1 (wi (x1 + (1 : Int))))
  (ob (desc_Table out1) fun table1 =>
  some (table1, (0 : Int)))

def build_SplitTableL1 (split1 : (List build_split)) : Nat → (List Desc) → (List build_split) → Int → Option ((List UInt8) × Int)
  | 0, _, _, _ => none
  | nf + 1, out1, l1, x1 => build_SplitTableL1B split1 (build_SplitTableL1 split1 nf) out1 l1 x1

/-- build.SplitTable -/
def build_SplitTable (l : List Seg) : Option ((List UInt8) × Int) :=
  ob (build_buffer l) fun buffer1 =>
  ob (build_first [buffer1]) fun first1 =>
  br (first1 != (0 : Int))
  (some (([] : List UInt8), first1))
  (ob (build_chain_buildsplit l (fun x => build_SplitTable_1 x)) fun split1 =>
  build_SplitTableL1 split1 fuel [] split1 (0 : Int))

def kit_SamePutsL1B (ap0 : List Put) (b : List Put) (L1 : Int → Option Bool) (i1 : Int) : Option Bool :=
  br (decide (i1 < (len ap0)))
  (ob (ix ap0 i1) fun p1 =>
  ob (ix b i1) fun p3 =>
  br (p1 != p3)
  (some false)
  (L1 (wi (i1 + (1 : Int)))))
  (some true)

def kit_SamePutsL1 (ap0 : List Put) (b : List Put) : Nat → Int → Option Bool
  | 0, _ => none
  | nf + 1, i1 => kit_SamePutsL1B ap0 b (kit_SamePutsL1 ap0 b nf) i1

/-- dumbwaiterkit.SamePuts -/
def kit_SamePuts (ap0 : List Put) (b : List Put) : Option Bool :=
  br ((len ap0) != (len b))
  (some false)
  (kit_SamePutsL1 ap0 b fuel (0 : Int))

def kit_SamePackedL1B (ap0 : List PutPacked) (b : List PutPacked) (L1 : Int → Option Bool) (i1 : Int) : Option Bool :=
  br (decide (i1 < (len ap0)))
  (ob (ix ap0 i1) fun p1 =>
  ob (ix b i1) fun p3 =>
  br (p1 != p3)
  (some false)
  (L1 (wi (i1 + (1 : Int)))))
  (some true)

def kit_SamePackedL1 (ap0 : List PutPacked) (b : List PutPacked) : Nat → Int → Option Bool
  | 0, _ => none
  | nf + 1, i1 => kit_SamePackedL1B ap0 b (kit_SamePackedL1 ap0 b nf) i1

/-- dumbwaiterkit.SamePacked -/
def kit_SamePacked (ap0 : List PutPacked) (b : List PutPacked) : Option Bool :=
  br ((len ap0) != (len b))
  (some false)
  (kit_SamePackedL1 ap0 b fuel (0 : Int))

/-- dumbwaiterlaw09.lives -/
def law09zlives  : Option Bool :=
  ob (law09ztwo) fun two1 =>
  ob (build_Split [(3 : Int), (1 : Int)] two1) fun split1 =>
  ob (law09ztwo) fun two2 =>
  ob (build_Packed (Pos.mk (3 : Int) true) (4 : Int) (2 : Int) two2) fun packed1 =>
  br (split1.2 == (0 : Int))
  (ob (kit_SamePuts split1.1 [(Put.mk (3 : Int) (Desc.mk (100 : UInt64) (8 : UInt32) (1 : UInt16) (1 : UInt16))), (Put.mk (1 : Int) (Desc.mk (200 : UInt64) (4 : UInt32) (2 : UInt16) (0 : UInt16)))]) fun samepu1 =>
  br (samepu1)
  (br (packed1.2 == (0 : Int))
  (ob (kit_SamePacked packed1.1 [(PutPacked.mk (3 : Int) (Packed.mk (100 : UInt64) (8 : UInt32) (2 : UInt16) (129 : UInt16))), (PutPacked.mk (0 : Int) (Packed.mk (200 : UInt64) (4 : UInt32) (2 : UInt16) (32770 : UInt16)))]) fun samepa1 =>
  some samepa1)
  (some false))
  (some false))
  (some false)

/-- build.Needs -/
def build_Needs (l : List Seg) (table : Bool) : Option Int :=
  ob (seg_Check l) fun check1 =>
  br (check1 != (0 : Int))
  (some (0 : Int))
  (br ((len l) == (0 : Int))
  (some (0 : Int))
  (br (table)
  (some (1 : Int))
  (some (len l))))

/-- desc.PackedBytes -/
def desc_PackedBytes (dp0 : Packed) : Option (List UInt8) :=
  ob (desc_raw_put (List.replicate 16 0) (0 : Int) (8 : Int) dp0.Addr) fun put1 =>
  ob (desc_raw_put put1 (8 : Int) (4 : Int) dp0.Len.toUInt64) fun put2 =>
  ob (desc_raw_put put2 (12 : Int) (2 : Int) dp0.ID.toUInt64) fun put3 =>
  ob (desc_raw_put put3 (14 : Int) (2 : Int) dp0.Flags.toUInt64) fun put4 =>
  chk (put4.length == 16) <|
  some put4

def build_PackedTableJ2 (x1 : Int) (L1 : (List UInt8) → Int → Option ((List UInt8) × Int)) (l1 : List UInt8) (m1 : Packed) : Option ((List UInt8) × Int) :=
  ob (desc_PackedBytes m1) fun packed1 =>
  chk (fits l1.length packed1.length 1) <|
  L1 (l1 ++ packed1) (wi (x1 + (1 : Int)))

def build_PackedTableL1B (l : List Seg) (L1 : (List UInt8) → Int → Option ((List UInt8) × Int)) (b1 : List UInt8) (x1 : Int) : Option ((List UInt8) × Int) :=
  br (decide (x1 < (len l)))
  (ob (ix l x1) fun s1 =>
  br (s1.Write)
  (build_PackedTableJ2 x1 L1 b1 (Packed.mk s1.At s1.Len (0 : UInt16) (2 : UInt16)))
  (build_PackedTableJ2 x1 L1 b1 (Packed.mk s1.At s1.Len (0 : UInt16) (0 : UInt16))))
  (some (b1, (0 : Int)))

def build_PackedTableL1 (l : List Seg) : Nat → (List UInt8) → Int → Option ((List UInt8) × Int)
  | 0, _, _ => none
  | nf + 1, b1, x1 => build_PackedTableL1B l (build_PackedTableL1 l nf) b1 x1

/-- build.PackedTable -/
def build_PackedTable (l : List Seg) : Option ((List UInt8) × Int) :=
  ob (build_buffer l) fun buffer1 =>
  ob (build_first [buffer1]) fun first1 =>
  br (first1 != (0 : Int))
  (some (([] : List UInt8), first1))
  (build_PackedTableL1 l fuel [] (0 : Int))

/-- dumbwaiterkit.Segs -/
def kit_Segs (l : List Seg) : Option (List Seg) :=
  chk (fits ([] : List Seg).length l.length 16) <|
  some l

def ref_Check05L1B (l : List Seg) (L1 : UInt64 → Int → Option Int) (sum1 : UInt64) (i1 : Int) : Option Int :=
  br (decide (i1 < (len l)))
  (ob (ix l i1) fun s1 =>
  br (s1.Len == (0 : UInt32))
  (some (2 : Int))
  (ob (ix l i1) fun s2 =>
  ob (ix l i1) fun s3 =>
  ob (ix l i1) fun s4 =>
  br (decide ((s2.At + (s3.Len.toUInt64 - (1 : UInt64))) < s4.At))
  (some (2 : Int))
  (br (decide (i1 > (0 : Int)))
  (ob (ix l (wi (i1 - (1 : Int)))) fun s5 =>
  br (s5.Write)
  (ob (ix l i1) fun s6 =>
  br ((!s6.Write))
  (some (2 : Int))
  (ob (ix l i1) fun s7 =>
  L1 (sum1 + s7.Len.toUInt64) (wi (i1 + (1 : Int)))))
  (ob (ix l i1) fun s8 =>
  L1 (sum1 + s8.Len.toUInt64) (wi (i1 + (1 : Int)))))
  (ob (ix l i1) fun s9 =>
  L1 (sum1 + s9.Len.toUInt64) (wi (i1 + (1 : Int)))))))
  (br (decide (sum1 ≥ (4294967296 : UInt64)))
  (some (2 : Int))
  (some (0 : Int)))

def ref_Check05L1 (l : List Seg) : Nat → UInt64 → Int → Option Int
  | 0, _, _ => none
  | nf + 1, sum1, i1 => ref_Check05L1B l (ref_Check05L1 l nf) sum1 i1

/-- dumbwaiterref05.Check -/
def ref_Check05 (l : List Seg) : Option Int :=
  br (decide ((len l) > (64 : Int)))
  (some (3 : Int))
  (ref_Check05L1 l fuel (0 : UInt64) (0 : Int))

/-- dumbwaiterref09.may -/
def ref_may09 (l : List Seg) : Option Int :=
  ob (ref_Check05 l) fun check1 =>
  br (check1 == (0 : Int))
  (br ((len l) == (0 : Int))
  (some (2 : Int))
  (some check1))
  (some check1)

def ref_Split09L2B (ids : List Int) (i1 : Int) (L1 : Int → Option ((List Put) × Int)) (L2 : Int → Option ((List Put) × Int)) (k1 : Int) : Option ((List Put) × Int) :=
  br (decide (k1 < i1))
  (ob (ix ids k1) fun y3 =>
  ob (ix ids i1) fun y4 =>
  br (y3 == y4)
  (some (([] : List Put), (2 : Int)))
  (L2 (wi (k1 + (1 : Int)))))
  (L1 (wi (i1 + (1 : Int))))

def ref_Split09L2 (ids : List Int) (i1 : Int) (L1 : Int → Option ((List Put) × Int)) : Nat → Int → Option ((List Put) × Int)
  | 0, _ => none
  | nf + 1, k1 => ref_Split09L2B ids i1 L1 (ref_Split09L2 ids i1 L1 nf) k1

def ref_Split09J5 (ids : List Int) (i2 : Int) (L3 : (List Put) → Int → Option ((List Put) × Int)) (l2 : List Put) (m2 : Desc) : Option ((List Put) × Int) :=
  ob (ix ids i2) fun y5 =>
  chk (fits l2.length [(Put.mk y5 m2)].length 24) <|
  L3 (l2 ++ [(Put.mk y5 m2)]) (wi (i2 + (1 : Int)))

def ref_Split09J4 (ids : List Int) (l : List Seg) (i2 : Int) (L3 : (List Put) → Int → Option ((List Put) × Int)) (l1 : List Put) (m1 : Desc) : Option ((List Put) × Int) :=
  br (decide ((wi (i2 + (1 : Int))) < (len l)))
  (ob (ix ids (wi (i2 + (1 : Int)))) fun y6 =>
  ref_Split09J5 ids i2 L3 l1 (Desc.mk m1.Addr m1.Len (m1.Flags ||| (1 : UInt16)) (u16 y6)))
  (ref_Split09J5 ids i2 L3 l1 m1)

def ref_Split09L3B (ids : List Int) (l : List Seg) (L3 : (List Put) → Int → Option ((List Put) × Int)) (out1 : List Put) (i2 : Int) : Option ((List Put) × Int) :=
  br (decide (i2 < (len l)))
  (ob (ix l i2) fun s1 =>
  ob (ix l i2) fun s2 =>
  ob (ix l i2) fun s3 =>
  br (s3.Write)
  (ref_Split09J4 ids l i2 L3 out1 (Desc.mk s1.At s2.Len (2 : UInt16) (0 : UInt16)))
  (ref_Split09J4 ids l i2 L3 out1 (Desc.mk s1.At s2.Len (0 : UInt16) (0 : UInt16))))
  (some (out1, (0 : Int)))

def ref_Split09L3 (ids : List Int) (l : List Seg) : Nat → (List Put) → Int → Option ((List Put) × Int)
  | 0, _, _ => none
  | nf + 1, out1, i2 => ref_Split09L3B ids l (ref_Split09L3 ids l nf) out1 i2

def ref_Split09L1B (ids : List Int) (l : List Seg) (L1 : Int → Option ((List Put) × Int)) (i1 : Int) : Option ((List Put) × Int) :=
  br (decide (i1 < (len ids)))
  (ob (ix ids i1) fun y1 =>
  br (decide (y1 < (0 : Int)))
  (some (([] : List Put), (2 : Int)))
  (ob (ix ids i1) fun y2 =>
  br (decide (y2 ≥ (32768 : Int)))
  (some (([] : List Put), (2 : Int)))
  (ref_Split09L2 ids i1 L1 fuel (0 : Int))))
  (ref_Split09L3 ids l fuel [] (0 : Int))

def ref_Split09L1 (ids : List Int) (l : List Seg) : Nat → Int → Option ((List Put) × Int)
  | 0, _ => none
  | nf + 1, i1 => ref_Split09L1B ids l (ref_Split09L1 ids l nf) i1

/-- dumbwaiterref09.Split -/
def ref_Split09 (ids : List Int) (l : List Seg) : Option ((List Put) × Int) :=
  ob (ref_may09 l) fun may1 =>
  br (may1 != (0 : Int))
  (some (([] : List Put), may1))
  (br ((len ids) != (len l))
  (some (([] : List Put), (2 : Int)))
  (ref_Split09L1 ids l fuel (0 : Int)))

/-- dumbwaiterref01.size -/
def ref_size01 (np0 : Int) : Option Bool :=
  br (decide (np0 ≥ (1 : Int)))
  (some (decide (np0 ≤ (32768 : Int))))
  (some false)

/-- dumbwaiterref01.Check -/
def ref_Check01 (pp0 : Pos) (np1 : Int) : Option Int :=
  ob (ref_size01 np1) fun size1 =>
  br ((!size1))
  (some (2 : Int))
  (br (decide (pp0.At < (0 : Int)))
  (some (2 : Int))
  (br (decide (pp0.At ≥ np1))
  (some (2 : Int))
  (some (0 : Int))))

def ref_Mark03J1 (wrap : Bool) (used : Bool) (flags1 : UInt16) : Option UInt16 :=
  br (wrap == used)
  (some (flags1 ||| (32768 : UInt16)))
  (some flags1)

/-- dumbwaiterref03.Mark -/
def ref_Mark03 (flags : UInt16) (wrap : Bool) (used : Bool) : Option UInt16 :=
  br (wrap)
  (ref_Mark03J1 wrap used ((flags &&& ~~~(32896 : UInt16)) ||| (128 : UInt16)))
  (ref_Mark03J1 wrap used (flags &&& ~~~(32896 : UInt16)))

/-- dumbwaiterref01.Go -/
def ref_Go01 (pp0 : Pos) (byp1 : Int) (np2 : Int) : Option (Pos × Int) :=
  ob (ref_Check01 pp0 np2) fun check1 =>
  br (check1 != (0 : Int))
  (some ((Pos.mk (0 : Int) false), (2 : Int)))
  (br (decide (byp1 < (0 : Int)))
  (some ((Pos.mk (0 : Int) false), (2 : Int)))
  (br (decide (byp1 > np2))
  (some ((Pos.mk (0 : Int) false), (2 : Int)))
  (br (decide ((wi (pp0.At + byp1)) ≥ np2))
  (some ((Pos.mk (wi ((wi (pp0.At + byp1)) - np2)) (!pp0.Wrap)), (0 : Int)))
  (some ((Pos.mk (wi (pp0.At + byp1)) pp0.Wrap), (0 : Int))))))

def ref_Packed09J3 (size : Int) (id : Int) (l : List Seg) (m1 : Pos) (out1 : List PutPacked) (i1 : Int) (L1 : Pos → (List PutPacked) → Int → Option ((List PutPacked) × Int)) (f2 : UInt16) : Option ((List PutPacked) × Int) :=
  ob (ix l i1) fun s2 =>
  ob (ix l i1) fun s3 =>
  ob (ref_Mark03 f2 m1.Wrap false) fun mark1 =>
  chk (fits out1.length [(PutPacked.mk m1.At (Packed.mk s2.At s3.Len (u16 id) mark1))].length 24) <|
  ob (ref_Go01 m1 (1 : Int) size) fun go1 =>
  L1 go1.1 (out1 ++ [(PutPacked.mk m1.At (Packed.mk s2.At s3.Len (u16 id) mark1))]) (wi (i1 + (1 : Int)))

def ref_Packed09J2 (size : Int) (id : Int) (l : List Seg) (m1 : Pos) (out1 : List PutPacked) (i1 : Int) (L1 : Pos → (List PutPacked) → Int → Option ((List PutPacked) × Int)) (f1 : UInt16) : Option ((List PutPacked) × Int) :=
  br (decide ((wi (i1 + (1 : Int))) < (len l)))
  (ref_Packed09J3 size id l m1 out1 i1 L1 (f1 ||| (1 : UInt16)))
  (ref_Packed09J3 size id l m1 out1 i1 L1 f1)

def ref_Packed09L1B (size : Int) (id : Int) (l : List Seg) (L1 : Pos → (List PutPacked) → Int → Option ((List PutPacked) × Int)) (m1 : Pos) (out1 : List PutPacked) (i1 : Int) : Option ((List PutPacked) × Int) :=
  br (decide (i1 < (len l)))
  (ob (ix l i1) fun s1 =>
  br (s1.Write)
  (ref_Packed09J2 size id l m1 out1 i1 L1 (2 : UInt16))
  (ref_Packed09J2 size id l m1 out1 i1 L1 (0 : UInt16)))
  (some (out1, (0 : Int)))

def ref_Packed09L1 (size : Int) (id : Int) (l : List Seg) : Nat → Pos → (List PutPacked) → Int → Option ((List PutPacked) × Int)
  | 0, _, _, _ => none
  | nf + 1, m1, out1, i1 => ref_Packed09L1B size id l (ref_Packed09L1 size id l nf) m1 out1 i1

/-- dumbwaiterref09.Packed -/
def ref_Packed09 (pp0 : Pos) (size : Int) (id : Int) (l : List Seg) : Option ((List PutPacked) × Int) :=
  ob (ref_may09 l) fun may1 =>
  br (may1 != (0 : Int))
  (some (([] : List PutPacked), may1))
  (ob (ref_Check01 pp0 size) fun check1 =>
  br (check1 != (0 : Int))
  (some (([] : List PutPacked), (2 : Int)))
  (br (decide (id < (0 : Int)))
  (some (([] : List PutPacked), (2 : Int)))
  (br (decide (id ≥ size))
  (some (([] : List PutPacked), (2 : Int)))
  (br (decide ((len l) > size))
  (some (([] : List PutPacked), (2 : Int)))
  (ref_Packed09L1 size id l fuel pp0 [] (0 : Int))))))

def ref_put03L1B (vp1 : UInt64) (np2 : Int) (L1 : (List UInt8) → Int → Option (List UInt8)) (b1 : List UInt8) (i1 : Int) : Option (List UInt8) :=
  br (decide (i1 < np2))
  (chk (fits b1.length [(shr64 vp1 ((u64 (wi ((8 : Int) * i1))).toNat)).toUInt8].length 1) <|
  L1 (b1 ++ [(shr64 vp1 ((u64 (wi ((8 : Int) * i1))).toNat)).toUInt8]) (wi (i1 + (1 : Int))))
  (some b1)

def ref_put03L1 (vp1 : UInt64) (np2 : Int) : Nat → (List UInt8) → Int → Option (List UInt8)
  | 0, _, _ => none
  | nf + 1, b1, i1 => ref_put03L1B vp1 np2 (ref_put03L1 vp1 np2 nf) b1 i1

/-- dumbwaiterref03.put -/
def ref_put03 (b : List UInt8) (vp1 : UInt64) (np2 : Int) : Option (List UInt8) :=
  ref_put03L1 vp1 np2 fuel b (0 : Int)

/-- dumbwaiterref03.Bytes -/
def ref_Bytes03 (dp0 : Desc) : Option (List UInt8) :=
  ob (ref_put03 ([] : List UInt8) dp0.Addr (8 : Int)) fun put1 =>
  ob (ref_put03 put1 dp0.Len.toUInt64 (4 : Int)) fun put2 =>
  ob (ref_put03 put2 dp0.Flags.toUInt64 (2 : Int)) fun put3 =>
  ob (ref_put03 put3 dp0.Next.toUInt64 (2 : Int)) fun put4 =>
  some put4

def ref_SplitTable09L2B (split1 : ((List Put) × Int)) (L2 : (List Put) → (List UInt8) → Int → Option ((List UInt8) × Int)) (l1 : List Put) (out1 : List UInt8) (i2 : Int) : Option ((List UInt8) × Int) :=
  br (decide (i2 < (len l1)))
  (ob (ix l1 i2) fun p1 =>
  ob (ref_Bytes03 p1.Desc) fun bytes1 =>
  chk (fits out1.length bytes1.length 1) <|
  L2 l1 (out1 ++ bytes1) (wi (i2 + (1 : Int))))
  (some (out1, split1.2))

def ref_SplitTable09L2 (split1 : ((List Put) × Int)) : Nat → (List Put) → (List UInt8) → Int → Option ((List UInt8) × Int)
  | 0, _, _, _ => none
  | nf + 1, l1, out1, i2 => ref_SplitTable09L2B split1 (ref_SplitTable09L2 split1 nf) l1 out1 i2

def ref_SplitTable09L1B (l : List Seg) (L1 : (List Int) → Int → Option ((List UInt8) × Int)) (ids1 : List Int) (i1 : Int) : Option ((List UInt8) × Int) :=
  br (decide (i1 < (len l)))
  (chk (fits ids1.length [i1].length 8) <|
  L1 (ids1 ++ [i1]) (wi (i1 + (1 : Int))))
  (ob (ref_Split09 ids1 l) fun split1 =>
  ref_SplitTable09L2 split1 fuel split1.1 [] (0 : Int))

def ref_SplitTable09L1 (l : List Seg) : Nat → (List Int) → Int → Option ((List UInt8) × Int)
  | 0, _, _ => none
  | nf + 1, ids1, i1 => ref_SplitTable09L1B l (ref_SplitTable09L1 l nf) ids1 i1

/-- dumbwaiterref09.SplitTable -/
def ref_SplitTable09 (l : List Seg) : Option ((List UInt8) × Int) :=
  ref_SplitTable09L1 l fuel [] (0 : Int)

/-- dumbwaiterref03.PackedBytes -/
def ref_PackedBytes03 (dp0 : Packed) : Option (List UInt8) :=
  ob (ref_put03 ([] : List UInt8) dp0.Addr (8 : Int)) fun put1 =>
  ob (ref_put03 put1 dp0.Len.toUInt64 (4 : Int)) fun put2 =>
  ob (ref_put03 put2 dp0.ID.toUInt64 (2 : Int)) fun put3 =>
  ob (ref_put03 put3 dp0.Flags.toUInt64 (2 : Int)) fun put4 =>
  some put4

def ref_PackedTable09J2 (i1 : Int) (L1 : (List UInt8) → Int → Option ((List UInt8) × Int)) (l1 : List UInt8) (m1 : Packed) : Option ((List UInt8) × Int) :=
  ob (ref_PackedBytes03 m1) fun packed1 =>
  chk (fits l1.length packed1.length 1) <|
  L1 (l1 ++ packed1) (wi (i1 + (1 : Int)))

def ref_PackedTable09L1B (l : List Seg) (L1 : (List UInt8) → Int → Option ((List UInt8) × Int)) (out1 : List UInt8) (i1 : Int) : Option ((List UInt8) × Int) :=
  br (decide (i1 < (len l)))
  (ob (ix l i1) fun s1 =>
  ob (ix l i1) fun s2 =>
  ob (ix l i1) fun s3 =>
  br (s3.Write)
  (ref_PackedTable09J2 i1 L1 out1 (Packed.mk s1.At s2.Len (0 : UInt16) (2 : UInt16)))
  (ref_PackedTable09J2 i1 L1 out1 (Packed.mk s1.At s2.Len (0 : UInt16) (0 : UInt16))))
  (some (out1, (0 : Int)))

def ref_PackedTable09L1 (l : List Seg) : Nat → (List UInt8) → Int → Option ((List UInt8) × Int)
  | 0, _, _ => none
  | nf + 1, out1, i1 => ref_PackedTable09L1B l (ref_PackedTable09L1 l nf) out1 i1

/-- dumbwaiterref09.PackedTable -/
def ref_PackedTable09 (l : List Seg) : Option ((List UInt8) × Int) :=
  ob (ref_may09 l) fun may1 =>
  br (may1 != (0 : Int))
  (some (([] : List UInt8), may1))
  (ref_PackedTable09L1 l fuel [] (0 : Int))

/-- dumbwaiterref09.Needs -/
def ref_Needs09 (l : List Seg) (table : Bool) : Option Int :=
  ob (ref_may09 l) fun may1 =>
  br (may1 != (0 : Int))
  (some (0 : Int))
  (br (table)
  (some (1 : Int))
  (some (len l)))

/-- dumbwaiterref09.SplitOne -/
def ref_SplitOne09 (id : Int) (atp1 : UInt64) (np2 : Int) : Option (Put × Int) :=
  br (decide (id < (0 : Int)))
  (some ((Put.mk (0 : Int) (Desc.mk (0 : UInt64) (0 : UInt32) (0 : UInt16) (0 : UInt16))), (2 : Int)))
  (br (decide (id ≥ (32768 : Int)))
  (some ((Put.mk (0 : Int) (Desc.mk (0 : UInt64) (0 : UInt32) (0 : UInt16) (0 : UInt16))), (2 : Int)))
  (br (decide (np2 < (1 : Int)))
  (some ((Put.mk (0 : Int) (Desc.mk (0 : UInt64) (0 : UInt32) (0 : UInt16) (0 : UInt16))), (2 : Int)))
  (br (decide (np2 > (64 : Int)))
  (some ((Put.mk (0 : Int) (Desc.mk (0 : UInt64) (0 : UInt32) (0 : UInt16) (0 : UInt16))), (2 : Int)))
  (some ((Put.mk id (Desc.mk atp1 (u32 (wi ((16 : Int) * np2))) (4 : UInt16) (0 : UInt16))), (0 : Int))))))

/-- dumbwaiterref09.PackedOne -/
def ref_PackedOne09 (pp0 : Pos) (size : Int) (id : Int) (atp3 : UInt64) (np4 : Int) : Option (PutPacked × Int) :=
  ob (ref_Check01 pp0 size) fun check1 =>
  br (check1 != (0 : Int))
  (some ((PutPacked.mk (0 : Int) (Packed.mk (0 : UInt64) (0 : UInt32) (0 : UInt16) (0 : UInt16))), (2 : Int)))
  (br (decide (id < (0 : Int)))
  (some ((PutPacked.mk (0 : Int) (Packed.mk (0 : UInt64) (0 : UInt32) (0 : UInt16) (0 : UInt16))), (2 : Int)))
  (br (decide (id ≥ size))
  (some ((PutPacked.mk (0 : Int) (Packed.mk (0 : UInt64) (0 : UInt32) (0 : UInt16) (0 : UInt16))), (2 : Int)))
  (br (decide (np4 < (1 : Int)))
  (some ((PutPacked.mk (0 : Int) (Packed.mk (0 : UInt64) (0 : UInt32) (0 : UInt16) (0 : UInt16))), (2 : Int)))
  (br (decide (np4 > (64 : Int)))
  (some ((PutPacked.mk (0 : Int) (Packed.mk (0 : UInt64) (0 : UInt32) (0 : UInt16) (0 : UInt16))), (2 : Int)))
  (ob (ref_Mark03 (4 : UInt16) pp0.Wrap false) fun mark1 =>
  some ((PutPacked.mk pp0.At (Packed.mk atp3 (u32 (wi ((16 : Int) * np4))) (u16 id) mark1)), (0 : Int)))))))

/-- dumbwaiterlaw09.BuildCalls -/
def law09zBuildCalls (ids : List Int) (l : List Seg) (pp2 : Pos) (size : Int) (id : Int) (atp5 : UInt64) (np6 : Int) : Option Bool :=
  ob (law09zlives) fun lives1 =>
  chk (!((!lives1))) <|
  br (decide ((len ids) > (100 : Int)))
  (some true)
  (br (decide ((len l) > (100 : Int)))
  (some true)
  (chk (fits ([] : List Int).length ids.length 8) <|
  ob (kit_Segs l) fun segs1 =>
  ob (build_Split ids segs1) fun split1 =>
  ob (ref_Split09 ids l) fun split2 =>
  ob (kit_Segs l) fun segs2 =>
  ob (build_Packed pp2 size id segs2) fun packed1 =>
  ob (ref_Packed09 pp2 size id l) fun packed2 =>
  ob (kit_SamePuts split1.1 split2.1) fun samepu1 =>
  chk (!((!samepu1))) <|
  chk (!(split1.2 != split2.2)) <|
  ob (kit_SamePacked packed1.1 packed2.1) fun samepa1 =>
  chk (!((!samepa1))) <|
  chk (!(packed1.2 != packed2.2)) <|
  ob (build_SplitTable l) fun splitt1 =>
  ob (ref_SplitTable09 l) fun splitt2 =>
  ob (build_PackedTable l) fun packed3 =>
  ob (ref_PackedTable09 l) fun packed4 =>
  chk (!(splitt1.1 != splitt2.1)) <|
  chk (!(splitt1.2 != splitt2.2)) <|
  chk (!(packed3.1 != packed4.1)) <|
  chk (!(packed3.2 != packed4.2)) <|
  ob (build_SplitOne id atp5 np6) fun splito1 =>
  ob (ref_SplitOne09 id atp5 np6) fun splito2 =>
  ob (build_PackedOne pp2 size id atp5 np6) fun packed5 =>
  ob (ref_PackedOne09 pp2 size id atp5 np6) fun packed6 =>
  chk (splito1.1 == splito2.1) <|
  chk (splito1.2 == splito2.2) <|
  chk (packed5.1 == packed6.1) <|
  chk (packed5.2 == packed6.2) <|
  ob (build_Needs l false) fun needs1 =>
  ob (ref_Needs09 l false) fun needs2 =>
  chk (needs1 == needs2) <|
  ob (build_Needs l true) fun needs3 =>
  ob (ref_Needs09 l true) fun needs4 =>
  chk (needs3 == needs4) <|
  some true))

end Go.Proofs.Ytihcimjfabdafaa
