/- Split chains that are walked: what both read out of one memory. No condition. -/
import Derived.Test.YtlofegfaphijpaaPuCovMem
import Derived.Test.YtlofegfaphijpaaPuDescCalls
import Derived.Test.YtlofegfaphijpaaPuBuild
namespace Go.Proofs.Ytlofegfaphijpaa
/-! few different numbers -/
theorem few : ∀ (s : Nat) (l : List Int), l.Nodup → (∀ x ∈ l, 0 ≤ x ∧ x < (s : Int)) → l.length ≤ s
  | 0, l, _, h => by
    cases l with
    | nil => exact Nat.le_refl _
    | cons x l => have := h x (List.mem_cons_self ..); omega
  | s + 1, l, hn, h => by
    by_cases hm : (s : Int) ∈ l
    · have h1 := few s (l.erase (s : Int)) (hn.erase _) (fun x hx => by
        have hx2 := (hn.mem_erase_iff).1 hx
        have := h x hx2.2
        have hne : x ≠ (s : Int) := hx2.1
        omega)
      have h2 := List.length_erase_of_mem hm
      have h3 : 0 < l.length := List.length_pos_of_mem hm
      omega
    · have := few s l hn (fun x hx => by
        have := h x hx
        have hne : x ≠ (s : Int) := fun q => hm (q ▸ hx)
        omega)
      omega
/-! one descriptor -/
def mkS (d : Desc) : Seg := ⟨d.Addr, d.Len, d.Flags &&& 2 != 0⟩
def plK (a : UInt64) (k : Int) : Nat := (a + 16 * u64 k).toNat
def dAt (x : List UInt8) (a : Nat) : Desc := dOf (rdF x a 16)
theorem rdF_len16 {x : List UInt8} {a : Nat} (h : a + 16 ≤ x.length) : (rdF x a 16).length = 16 := rdF_len h
theorem mread {N : UInt64} {x : List UInt8} (hx : flatOk N x) (a : UInt64) : gmem_Mem_Read ⟨rg N, [x]⟩ a 16 = some (if a.toNat + 16 ≤ N.toNat then (rdF x a.toNat 16, 0) else ([], 5)) := by
  rw [read_eqM ⟨rg N, [x]⟩ (flat_mem hx) a 16 (by omega), if_neg (by omega), if_neg (by omega)]
  dsimp only
  rw [show (16 : Int).toNat = 16 from rfl, read1]
  by_cases h : a.toNat + 16 ≤ N.toNat
  · rw [if_pos ⟨by omega, h⟩, if_pos h]
  · rw [if_neg (fun q => h q.2), if_neg h]
/-- a chain: the error, how many were read, the segments; tb: what a table comes to -/
def chF (N : Nat) (x : List UInt8) (a : UInt64) (size : Int) (tb : Desc → Nat → List Seg → Int × Nat × List Seg) : Nat → Int → List Int → Nat → List Seg → Int × Nat × List Seg
  | 0, _, _, n, l => (4, n, l)
  | f + 1, k, seen, n, l =>
    if seen.contains k = true ∨ k < 0 ∨ k ≥ size then (4, n, l)
    else if ¬ plK a k + 16 ≤ N then (5, n, l)
    else if (dAt x (plK a k)).Flags &&& 4 ≠ 0 then tb (dAt x (plK a k)) (n + 1) l
    else if (dAt x (plK a k)).Flags &&& 1 = 0 then (0, n + 1, l ++ [mkS (dAt x (plK a k))])
    else chF N x a size tb f (i16 (dAt x (plK a k)).Next) (seen ++ [k]) (n + 1) (l ++ [mkS (dAt x (plK a k))])
def noT : Desc → Nat → List Seg → Int × Nat × List Seg := fun _ n l => (4, n, l)
/-- how many entries a table has -/
def entE (N : Nat) (a : UInt64) (n : UInt32) : Int := if n = 0 ∨ n % 16 ≠ 0 ∨ n / 16 > 64 then 4 else if a.toNat + n.toNat ≤ N then 0 else 5
def tabT (N : Nat) (x : List UInt8) (table : Bool) : Desc → Nat → List Seg → Int × Nat × List Seg := fun d n l =>
  if table = false ∨ d.Flags &&& 1 ≠ 0 then (4, n, l)
  else if entE N d.Addr d.Len ≠ 0 then (entE N d.Addr d.Len, n, l)
  else chF N x d.Addr (i32 (d.Len / 16)) noT (d.Len / 16).toNat.succ 0 [] n l
/-- seen: different, and numbers of the ring -/
def seenOk (size : Int) (seen : List Int) : Prop := seen.Nodup ∧ ∀ x ∈ seen, 0 ≤ x ∧ x < size
theorem seen_snoc {size : Int} {seen : List Int} {k : Int} (h : seenOk size seen) (hc : seen.contains k = false) (h1 : ¬ k < 0) (h2 : ¬ k ≥ size) : seenOk size (seen ++ [k]) := by
  refine ⟨?_, fun x hx => ?_⟩
  · rw [List.nodup_append]
    refine ⟨h.1, by simp, fun a ha b hb => ?_⟩
    rw [List.mem_singleton] at hb
    subst hb
    intro q; subst q
    have : seen.contains a = true := by simpa using ha
    rw [this] at hc; cases hc
  · rcases List.mem_append.1 hx with q | q
    · exact h.2 x q
    · rw [List.mem_singleton] at q; subst q; omega
theorem seen_le {size : Nat} {seen : List Int} (h : seenOk (size : Int) seen) : seen.length ≤ size := few size seen h.1 h.2
/-! the program's, in a table -/
theorem walkI {N : UInt64} {x : List UInt8} (hx : flatOk N x) (a : UInt64) (size : Nat) (hs : size ≤ 32768) (m3 : Bool) : ∀ (nf f : Nat) (k : Int) (seen : List Int) (n : Nat) (l : List Seg) (map : List (Int × Bool)), f < nf → seen.length + f = size + 1 → seenOk (size : Int) seen → (∀ q, mget false q map = seen.contains q) → n + f ≤ 100000 → l.length + f ≤ 100000 →
    walk_split_1ct3L1 a (size : Int) ⟨rg N, [x]⟩ nf k 0 (n : Int) m3 l map = some ((chF N.toNat x a (size : Int) noT f k seen n l).1, (((chF N.toNat x a (size : Int) noT f k seen n l).2.1 : Nat) : Int), m3, (chF N.toNat x a (size : Int) noT f k seen n l).2.2)
  | 0, f, k, seen, n, l, map, h, _, _, _, _, _ => absurd h (Nat.not_lt_zero _)
  | nf + 1, 0, k, seen, n, l, map, _, h, hk, _, _, _ => by have := seen_le hk; omega
  | nf + 1, f + 1, k, seen, n, l, map, hf, hsl, hk, hm, hn, hl => by
    unfold walk_split_1ct3L1 walk_split_1ct3L1B chF
    rw [hm k]
    cases hc : seen.contains k with
    | true => rw [brT, if_pos (Or.inl rfl)]
    | false =>
      rw [brF]
      by_cases h1 : k < 0
      · rw [bP h1, if_pos (Or.inr (Or.inl h1))]
      · rw [bN h1]
        by_cases h2 : k ≥ (size : Int)
        · rw [bP h2, if_pos (Or.inr (Or.inr h2))]
        · have hno : ¬ (false = true ∨ k < 0 ∨ k ≥ (size : Int)) := by rintro (q | q | q) <;> first | cases q | omega
          rw [bN h2, if_neg hno, oS (mread hx _)]
          unfold plK
          by_cases h3 : (a + 16 * u64 k).toNat + 16 ≤ N.toNat
          · have hd := dOf_eq (rdF_len16 (x := x) (a := (a + 16 * u64 k).toNat) (by rw [hx.2.2]; exact h3))
            rw [if_pos h3, if_neg (by simpa using h3), nE rfl, oS hd.1]
            dsimp only
            unfold dAt
            generalize dOf (rdF x (a + 16 * u64 k).toNat 16) = d at *
            by_cases h4 : d.Flags &&& 4 = 0
            · rw [nE h4, if_neg (by simp [h4]), oS (show walk_made d.Addr d.Len d.Flags = some (mkS d) from rfl), cFits (by simp; omega), wi_succ (by omega)]
              by_cases h5 : d.Flags &&& 1 = 0
              · rw [bE h5, if_pos h5]
              · rw [bF h5, if_neg h5]
                exact walkI hx a size hs m3 nf f (i16 d.Next) (seen ++ [k]) (n + 1) (l ++ [mkS d]) (mput k true map) (by omega) (by rw [List.length_append, List.length_singleton]; omega) (seen_snoc hk hc h1 h2) (fun q => by
                  rw [mgpB, List.contains_append, hm q]
                  by_cases z : q = k
                  · rw [if_pos z, z]; simp
                  · rw [if_neg z]; simp [z]) (by omega) (by rw [List.length_append, List.length_singleton]; omega)
            · rw [nF h4, if_pos h4, wi_succ (by omega)]; rfl
          · rw [if_neg h3, if_pos (by simpa using h3), nF (by decide)]
theorem div16 (n : UInt32) (h : ¬ n / 16 > 64) : (n / 16).toNat ≤ 64 := by
  have : ¬ (64 : UInt32) < n / 16 := h
  rw [UInt32.lt_iff_toNat_lt] at this
  simp only [UInt32.reduceToNat] at this; omega
theorem ent_eq {N : UInt64} {x : List UInt8} (hx : flatOk N x) (a : UInt64) (n : UInt32) : walk_entries ⟨rg N, [x]⟩ a n = some (if entE N.toNat a n = 0 then (i32 (n / 16), 0) else (0, entE N.toNat a n)) := by
  unfold walk_entries entE
  by_cases h1 : n = 0
  · rw [bE h1, if_pos (Or.inl h1), if_neg (by decide)]
  · rw [bF h1]
    by_cases h2 : n % 16 = 0
    · rw [nE h2]
      by_cases h3 : n / 16 > 64
      · rw [bP h3, if_pos (Or.inr (Or.inr h3)), if_neg (by decide)]
      · have hno : ¬ (n = 0 ∨ n % 16 ≠ 0 ∨ n / 16 > 64) := by
          rintro (q | q | q)
          · exact h1 q
          · exact q h2
          · exact h3 q
        have hpos : 0 < n.toNat := by
          rcases Nat.eq_zero_or_pos n.toNat with q | q
          · exact absurd (UInt32.toNat_inj.1 (by simpa using q)) h1
          · exact q
        rw [bN h3, oS (has_eq _ (flat_mem hx) _ _), find1, UInt32.toNat_toUInt64, if_neg hno]
        by_cases h4 : a.toNat + n.toNat ≤ N.toNat
        · rw [if_pos ⟨hpos, h4⟩, if_pos h4, if_pos rfl]; rfl
        · rw [if_neg (fun q => h4 q.2), if_neg h4, if_neg (by decide)]; rfl
    · rw [nF h2, if_pos (Or.inr (Or.inl h2)), if_neg (by decide)]
theorem ent_le {N : Nat} {a : UInt64} {n : UInt32} (h : entE N a n = 0) : (n / 16).toNat ≤ 64 := by
  unfold entE at h
  by_cases q : n = 0 ∨ n % 16 ≠ 0 ∨ n / 16 > 64
  · rw [if_pos q] at h; cases h
  · exact div16 n (fun z => q (Or.inr (Or.inr z)))
/-! the program's, in the ring -/
theorem walkO {N : UInt64} {x : List UInt8} (hx : flatOk N x) (a : UInt64) (size : Nat) (hs : size ≤ 32768) (m3 : Bool) : ∀ (nf f : Nat) (k : Int) (seen : List Int) (n : Nat) (l : List Seg) (map : List (Int × Bool)), f < nf → seen.length + f = size + 1 → seenOk (size : Int) seen → (∀ q, mget false q map = seen.contains q) → n + f ≤ 90000 → l.length + f ≤ 90000 →
    walk_split_1cf3L1 a (size : Int) ⟨rg N, [x]⟩ nf k 0 (n : Int) m3 l map = some ((chF N.toNat x a (size : Int) (tabT N.toNat x m3) f k seen n l).1, (((chF N.toNat x a (size : Int) (tabT N.toNat x m3) f k seen n l).2.1 : Nat) : Int), m3, (chF N.toNat x a (size : Int) (tabT N.toNat x m3) f k seen n l).2.2)
  | 0, f, k, seen, n, l, map, h, _, _, _, _, _ => absurd h (Nat.not_lt_zero _)
  | nf + 1, 0, k, seen, n, l, map, _, h, hk, _, _, _ => by have := seen_le hk; omega
  | nf + 1, f + 1, k, seen, n, l, map, hf, hsl, hk, hm, hn, hl => by
    unfold walk_split_1cf3L1 walk_split_1cf3L1B chF
    rw [hm k]
    cases hc : seen.contains k with
    | true => rw [brT, if_pos (Or.inl rfl)]
    | false =>
      rw [brF]
      by_cases h1 : k < 0
      · rw [bP h1, if_pos (Or.inr (Or.inl h1))]
      · rw [bN h1]
        by_cases h2 : k ≥ (size : Int)
        · rw [bP h2, if_pos (Or.inr (Or.inr h2))]
        · have hno : ¬ (false = true ∨ k < 0 ∨ k ≥ (size : Int)) := by rintro (q | q | q) <;> first | cases q | omega
          rw [bN h2, if_neg hno, oS (mread hx _)]
          unfold plK
          by_cases h3 : (a + 16 * u64 k).toNat + 16 ≤ N.toNat
          · have hd := dOf_eq (rdF_len16 (x := x) (a := (a + 16 * u64 k).toNat) (by rw [hx.2.2]; exact h3))
            rw [if_pos h3, if_neg (by simpa using h3), nE rfl, oS hd.1]
            dsimp only
            unfold dAt
            generalize dOf (rdF x (a + 16 * u64 k).toNat 16) = d at *
            by_cases h4 : d.Flags &&& 4 = 0
            · rw [nE h4, if_neg (by simp [h4]), oS (show walk_made d.Addr d.Len d.Flags = some (mkS d) from rfl), cFits (by simp; omega), wi_succ (by omega)]
              by_cases h5 : d.Flags &&& 1 = 0
              · rw [bE h5, if_pos h5]
              · rw [bF h5, if_neg h5]
                exact walkO hx a size hs m3 nf f (i16 d.Next) (seen ++ [k]) (n + 1) (l ++ [mkS d]) (mput k true map) (by omega) (by rw [List.length_append, List.length_singleton]; omega) (seen_snoc hk hc h1 h2) (fun q => by
                  rw [mgpB, List.contains_append, hm q]
                  by_cases z : q = k
                  · rw [if_pos z, z]; simp
                  · rw [if_neg z]; simp [z]) (by omega) (by rw [List.length_append, List.length_singleton]; omega)
            · rw [nF h4, if_pos h4, wi_succ (by omega)]
              unfold tabT walk_split_1cf3J2
              cases m3 with
              | false => rw [notF, brT, if_pos (Or.inl rfl)]
              | true =>
                rw [notT, brF]
                by_cases h5 : d.Flags &&& 1 = 0
                · have hno2 : ¬ (true = false ∨ d.Flags &&& 1 ≠ 0) := by
                    rintro (q | q)
                    · cases q
                    · exact q h5
                  rw [nE h5, if_neg hno2, oS (ent_eq hx _ _)]
                  by_cases h6 : entE N.toNat d.Addr d.Len = 0
                  · have h64 := ent_le h6
                    have hi := walkI hx d.Addr (d.Len / 16).toNat (by omega) true fuel (d.Len / 16).toNat.succ 0 [] (n + 1) l [] (by rw [fuelS]; omega) (by simp) ⟨List.nodup_nil, fun x hx => by cases hx⟩ (fun q => by simp [mget]) (by omega) (by omega)
                    rw [if_pos h6, if_neg (by simp [h6]), bE rfl]
                    unfold walk_split_1ct3
                    exact oS hi
                  · rw [if_neg h6, if_pos h6, bF h6]
                · rw [nF h5, if_pos (Or.inr h5)]
          · rw [if_neg h3, if_pos (by simpa using h3), nF (by decide)]
/-- what a split chain comes to -/
def splW (N : Nat) (x : List UInt8) (r : Rings) (head : Int) (table : Bool) : Int × Nat × List Seg := chF N x r.Desc r.Size (tabT N x table) (r.Size.toNat + 1) head [] 0 []
theorem wsplit_eq {N : UInt64} {x : List UInt8} (hx : flatOk N x) (r : Rings) (head : Int) (table : Bool) (h1 : 0 ≤ r.Size) (h2 : r.Size ≤ 32768) : walk_split ⟨rg N, [x]⟩ r head table = some ((splW N.toNat x r head table).2.2, (((splW N.toNat x r head table).2.1 : Nat) : Int), (splW N.toNat x r head table).1) := by
  obtain ⟨s, hs⟩ : ∃ s : Nat, r.Size = (s : Int) := ⟨r.Size.toNat, by omega⟩
  have := walkO hx r.Desc s (by omega) table fuel (s + 1) head [] 0 [] [] (by rw [fuelS]; omega) (by simp) ⟨List.nodup_nil, fun x hx => by cases hx⟩ (fun q => by simp [mget]) (by omega) (by simp; omega)
  unfold walk_split walk_split_1cf3 splW
  rw [hs, Int.toNat_natCast]
  rw [show ((0 : Nat) : Int) = 0 from rfl] at this
  rw [oS this]
end Go.Proofs.Ytlofegfaphijpaa
