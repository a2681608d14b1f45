/- Joined: What a world in which the table of math/bits is laid gives a walk; math/bits.TrailingZeros64, walked. report.all, walked: the lights that are on anywhere, as two sets in memory. The iterator of report.all: it yields the lights that are on anywhere, by floors, up before down. -/
import Derived.Shelf.Spec.TrailingZeros
import Derived.Test.YtenlokaaloenmaaDoorM5

section
namespace Go.Proofs.YtenlokaaloenmaaDoor.S
open Go.RowKit Go.Proofs.YtenlokaaloenmaaDoorW.PrintWords Go.Proofs.YtenlokaaloenmaaDoorW.PrintLast Go.Proofs.YtenlokaaloenmaaDoorW.PrintMore
set_option linter.unusedVariables false
set_option linter.unusedSimpArgs false

structure LaidAt (w : World) : Prop where mk :: (out : ∀ j, j < Lib.deBruijn64tab.length → w.cell? ⟨0, j, none⟩ = some (.int .u8 (Lib.deBruijn64tab.getD j 0)))
theorem LaidAt.below {w W : World} (h : LaidAt w) (hb : Below w.heap.size w W) : LaidAt W :=
  ⟨fun i hi => (hb.cell (p := ⟨0, i, none⟩) (World.block_lt_of_cell? w _ (h.out i hi))).trans (h.out i hi)⟩
theorem LaidAt.drewN {w : World} (h : LaidAt w) (n : Nat) : LaidAt (w.drewN n) := ⟨h.out⟩
theorem LaidAt.drawn {w W : World} (h : LaidAt w) (hd : Drawn0 w W) : LaidAt W := h.below hd.below

set_option maxHeartbeats 1000000 in
theorem tz_core (x k idx : Nat) (w : World) (hx0 : ((x : Int) == 0) = false)
    (key : IntKind.u64.wrap (Go.bits BinOp.and IntKind.u64 (x : Int) (IntKind.u64.wrap (-(x : Int))) * 285870213051353865) / 288230376151711744 = (idx : Int))
    (hi : idx < 64) (hk : k < 64) (hcell : w.cell? ⟨0, idx, none⟩ = some (.int .u8 k)) :
    Calls Tryd.prog 50 #[.int .u64 x] w fun e w' => e = .returned (.int .i64 k) ∧ w' = w := by
  have hu91 := Tryd.underlying91
  go_enter Tryd.func50, Tryd.ntmps50
  go_wp2_with (simp only [key])
  go_ret
  exact ⟨rfl, rfl⟩

/-- The number of the lowest light of a set that is not empty. -/
theorem tz_any (x : Nat) (hx0 : x ≠ 0) (hx : x < 18446744073709551616) (w : World) (hT : LaidAt w) :
    Calls Tryd.prog 50 #[.int .u64 x] w fun e w' => e = .returned (.int .i64 (Lib.ctz 64 x)) ∧ w' = w := by
  obtain ⟨hlow, hk⟩ := Lib.lowest_bit 64 x hx0 hx
  obtain ⟨hi, htab⟩ := Lib.deBruijn64_at _ hk
  have hcell := hT.out _ hi
  rw [htab] at hcell
  have key := tz64_key x _ hx hx0 hlow
  exact tz_core x (Lib.ctz 64 x) _ w (by simpa using hx0) key (by exact hi) hk hcell

end Go.Proofs.YtenlokaaloenmaaDoor.S
end

section
set_option linter.unusedVariables false
set_option linter.unusedSimpArgs false
namespace Go.Proofs.YtenlokaaloenmaaDoor.S
open Go.RowKit Go.Proofs.YtenlokaaloenmaaDoorW.PrintWords Go.Proofs.YtenlokaaloenmaaDoorW.PrintLast Go.Proofs.YtenlokaaloenmaaDoorW.PrintMore
set_option linter.unusedVariables false
set_option linter.unusedSimpArgs false
attribute [local go_sem] Oper.semAt_some wide_fn wideR_fn
attribute [local simp] wide_fn wideR_fn

def orU (l : List S41) : Int := l.foldl (fun a v => Go.bits .or .u64 a v.f3) 0
def orD (l : List S41) : Int := l.foldl (fun a v => Go.bits .or .u64 a v.f4) 0
theorem orU_snoc (l : List S41) (v : S41) : orU (l ++ [v]) = Go.bits .or .u64 (orU l) v.f3 := by simp [orU]
theorem orD_snoc (l : List S41) (v : S41) : orD (l ++ [v]) = Go.bits .or .u64 (orD l) v.f4 := by simp [orD]
theorem take_rd (l : List S41) (i : Nat) (h : i < l.length) : l.take (i + 1) = l.take i ++ [rd_T41 l (i : Int)] := by
  rw [List.take_succ_eq_append_getElem h]
  congr 1
  unfold rd_T41
  simp [h]

set_option maxHeartbeats 4000000 in
set_option maxRecDepth 100000 in
theorem all_any (A : Option Addr) (c : Nat) (l : List S41) (hc : l.length ≤ c) (w : World) (hC : k41.C w A l.length l) :
    Calls Tryd.prog 39 #[.slice A l.length c] w fun e w' => e = .returned (.func (.func 49) #[] #[.pointer (some ⟨w.heap.size, 0, none⟩)]) ∧ Blk w' w.heap.size #[.int .u64 (orU l), .int .u64 (orD l)] 85 ∧ Below w.heap.size w w' := by
  have hu41 := Tryd.underlying41
  have hu85 := Tryd.underlying85
  have hmf : ∀ (fn : Fn) (first cap : Array Value) (w : World), (Instr.makeFunc fn first cap).run Tryd.prog w = .ok (.func fn first cap) w := fun _ _ _ _ => rfl
  have hmax := Kd.C_max hC
  have HC := Aside0.mk hC
  clear hC
  go_enter Tryd.func39, Tryd.ntmps39
  go_wp2_with fail
  go_loopw [10] (fun v10 wr => ∃ i : Nat, v10 = .int .i64 i ∧ i ≤ l.length ∧ Aside0 (Blk wr w.heap.size #[.int .u64 (orU (l.take i)), .int .u64 (orD (l.take i))] 85) ∧ Aside0 (Below w.heap.size w wr)) (fun v10 _ => l.length - (intOf v10).toNat)
  case atStart => exact ⟨0, rfl, by omega, ⟨Blk.new w _ _⟩, ⟨(Below.refl _ w).alloc (Nat.le_refl _) _⟩⟩
  case round =>
    obtain ⟨i, rfl, hi, hb1, hbw⟩ := hrel
    by_cases hlt : i < l.length
    · obtain ⟨ad, A1, c1, A2, c2, e, x0, x1, x2, x3, x4, x5, hl1, hi1, hl2, hi2⟩ := at_T41 (Kd.C_below HC.out hbw.out) (i : Int) (by omega) (by omega)
      cases e
      clear hl1 hi1 hl2 hi2
      have p1 : (0 ≤ (i : Int)) = True := eq_true (by omega)
      have q1 : ((i : Int) < (l.length : Int)) = True := eq_true (by omega)
      have htk := take_rd l i hlt
      obtain ⟨v, hv⟩ : ∃ v, rd_T41 l (i : Int) = v := ⟨_, rfl⟩
      rw [hv, Int.toNat_natCast] at x0 x1 x2 x3 x4 x5
      rw [hv] at htk
      have HTK := Aside0.mk htk
      clear hv htk
      go_upto_region 5 with (fail)
      obtain ⟨w1, hw1⟩ : ∃ x, wr.alloc (.cells #[.int .i64 v.f0, .slice A1 v.f1.length c1, .slice A2 v.f2.length c2, .int .u64 v.f3, .int .u64 v.f4, .int .i64 v.f5] 41) = x := ⟨_, rfl⟩
      obtain ⟨bv, hbv⟩ : ∃ x, wr.heap.size = x := ⟨_, rfl⟩
      have bv1 : Blk w1 bv #[.int .i64 v.f0, .slice A1 v.f1.length c1, .slice A2 v.f2.length c2, .int .u64 v.f3, .int .u64 v.f4, .int .i64 v.f5] 41 := by rw [← hw1, ← hbv]; exact Blk.new wr _ _
      have bb1 : Blk w1 w.heap.size #[.int .u64 (orU (l.take i)), .int .u64 (orD (l.take i))] 85 := by rw [← hw1]; exact hb1.out.alloc _
      have bw1 : Below w.heap.size w w1 := by rw [← hw1]; exact hbw.out.alloc hbw.out.size _
      rw [hw1, hbv]
      clear hw1 hbv x0 x1 x2 x3 x4 x5
      have cv0 := bv1.cell 0 rfl
      have cv1 := bv1.cell 1 rfl
      have cv2 := bv1.cell 2 rfl
      have cv3 := bv1.cell 3 rfl
      have cv4 := bv1.cell 4 rfl
      have cv5 := bv1.cell 5 rfl
      have BB1 := Aside0.mk bb1
      have BW1 := Aside0.mk bw1
      clear bv1 bb1 bw1
      go_wp2_with fail
      refine (lights_any _ _ _ _ _ _ _ _ _ _ _).mono ?_
      rintro e w2 ⟨rfl, hb⟩
      have BB2 := Aside0.mk (BB1.out.below hb BB1.out.lt)
      have BW2 := Aside0.mk (BW1.out.trans (hb.mono BW1.out.size))
      clear hb cv0 cv1 cv2 cv3 cv4 cv5
      have i0 := index0 v.f3 v.f4
      have i1 := index1 v.f3 v.f4
      go_wp2_with fail
      go_loopw [16] (fun v16 W => Aside0 (Below w.heap.size w W) ∧ ((v16 = .int .i64 0 ∧ Aside0 (Blk W w.heap.size #[.int .u64 (orU (l.take i)), .int .u64 (orD (l.take i))] 85)) ∨ (v16 = .int .i64 1 ∧ Aside0 (Blk W w.heap.size #[.int .u64 (Go.bits .or .u64 (orU (l.take i)) v.f3), .int .u64 (orD (l.take i))] 85)) ∨ (v16 = .int .i64 2 ∧ Aside0 (Blk W w.heap.size #[.int .u64 (Go.bits .or .u64 (orU (l.take i)) v.f3), .int .u64 (Go.bits .or .u64 (orD (l.take i)) v.f4)] 85)))) (fun v16 _ => (2 - intOf v16).toNat)
      case atStart => exact ⟨BW2, .inl ⟨rfl, BB2⟩⟩
      case round =>
        obtain ⟨hbw2, hs⟩ := hrel
        rcases hs with ⟨rfl, hs⟩ | ⟨rfl, hs⟩ | ⟨rfl, hs⟩
        · have k0 := hs.out.cell 0 rfl
          have k1 := hs.out.cell 1 rfl
          have f0 := hs.out.fr 0
          have f1 := hs.out.fr 1
          go_wp2_with fail
          go_roundw
          case rel => exact ⟨⟨hbw2.out.setCell (p := ⟨w.heap.size, 0, none⟩) (Nat.le_refl _) _⟩, .inr (.inl ⟨rfl, ⟨hs.out.set 0 _⟩⟩)⟩
          case measure => simp [intOf]
        · have k0 := hs.out.cell 0 rfl
          have k1 := hs.out.cell 1 rfl
          have f0 := hs.out.fr 0
          have f1 := hs.out.fr 1
          go_wp2_with fail
          go_roundw
          case rel => exact ⟨⟨hbw2.out.setCell (p := ⟨w.heap.size, 1, none⟩) (Nat.le_refl _) _⟩, .inr (.inr ⟨rfl, ⟨hs.out.set 1 _⟩⟩)⟩
          case measure => simp [intOf]
        · go_wp2_with fail
          go_roundw
          case rel => exact ⟨i + 1, by go_num, by omega, ⟨by rw [HTK.out, orU_snoc, orD_snoc]; exact hs.out⟩, hbw2⟩
          case measure => simp [intOf]; omega
    · have hle : i = l.length := by omega
      subst hle
      have hb := hb1.out
      rw [List.take_length] at hb
      have HB := Aside0.mk hb
      clear hb
      go_wp2_with fail
      go_ret
      exact ⟨rfl, HB.out, hbw.out⟩

end Go.Proofs.YtenlokaaloenmaaDoor.S

namespace Go.Proofs.YtenlokaaloenmaaDoor.S
open Go.RowKit Go.Proofs.YtenlokaaloenmaaDoorW.PrintWords Go.Proofs.YtenlokaaloenmaaDoorW.PrintLast Go.Proofs.YtenlokaaloenmaaDoorW.PrintMore
attribute [local go_sem] Oper.semAt_some wide_fn wideR_fn
attribute [local simp] wide_fn wideR_fn

/-- The lights of two sets, a set of floors being left. -/
def lgt (m : Nat) : Fin 64 := ⟨Lib.ctz 64 m % 64, Nat.mod_lt _ (by decide)⟩
def allF : Nat → Nat → Int → Int → Option (List (Fin 64 × Bool))
  | 0, _, _, _ => none
  | k + 1, m, u, d => if m = 0 then some [] else (allF k (m &&& (m - 1)) u d).map fun t =>
      (if onV ((lgt m).val : Int) true u d = true then [(lgt m, true)] else []) ++ ((if onV ((lgt m).val : Int) false u d = true then [(lgt m, false)] else []) ++ t)

def encA (x : Fin 64 × Bool) : Array Value := #[.agg #[.int .i64 (x.1.val : Int), .bool x.2]]
/-- What a round must keep: the iterator's two sets, and whatever lay when the caller began. -/
def KeepA (n0 b : Nat) (W W' : World) : Prop := W'.heap[b]? = W.heap[b]? ∧ Below n0 W W'

set_option maxHeartbeats 4000000 in
set_option maxRecDepth 100000 in
theorem all_stops (n : Nat) (hn : 2 ≤ n) (n0 ba : Nat) (hba : n0 ≤ ba) (u d : Int) (hu0 : 0 ≤ u) (hu1 : u < 18446744073709551616) (hd0 : 0 ≤ d) (hd1 : d < 18446744073709551616) (w00 : World) (h00 : w00.heap.size = n0) (hL : LaidAt w00)
    (k : Nat) (xs : List (Fin 64 × Bool)) (hx : allF k (u.toNat ||| d.toNat) u d = some xs) (w : World) (hB : Blk w ba #[.int .u64 u, .int .u64 d] 85) (hw : Below n0 w00 w) :
    SeqStopsK Fence.wide n Tryd.prog 49 #[.pointer (some ⟨ba, 0, none⟩)] encA (KeepA n0 ba) (fun ys => ys = xs) (fun pre => pre <+: xs) xs.length w := by
  intro lp J Jx W hW hJ hJx hY hj0
  have hu77 := Tryd.underlying77
  have hu85 := Tryd.underlying85
  have bB : Blk W ba #[.int .u64 u, .int .u64 d] 85 := (hW.block ba hB.lt).trans hB
  have bW : Below n0 w00 W := hw.trans (hW.mono (by have := hw.size; omega))
  have hmax : u.toNat ||| d.toNat < 18446744073709551616 := Nat.or_lt_two_pow (n := 64) (by omega) (by omega)
  have hor : Go.bits .or .u64 u d = ((u.toNat ||| d.toNat : Nat) : Int) := by
    obtain ⟨a, rfl⟩ := Int.eq_ofNat_of_zero_le hu0
    obtain ⟨b, rfl⟩ := Int.eq_ofNat_of_zero_le hd0
    simp only [Int.toNat_natCast]
    exact bits_or_u64_nat a b (by omega) (by omega)
  obtain ⟨m0, hm0⟩ : ∃ m0, u.toNat ||| d.toNat = m0 := ⟨_, rfl⟩
  rw [hm0] at hor hmax hx
  have k0 := bB.cell 0 rfl
  have k1 := bB.cell 1 rfl
  have HJ := Aside0.mk hJ
  have HY := Aside0.mk hY
  have HXS := Aside0.mk hx
  have BW := Aside0.mk bW
  have BB := Aside0.mk bB
  have HL := Aside0.mk hL
  clear hJ hJx hY hx hW hB hw bW bB hm0 hL
  refine callsIn_of_wp Tryd.func49 rfl trivial ?_ rfl
  simp only [Tryd.ntmps49, List.size_toArray, List.length_cons, List.length_nil, Nat.reduceAdd, Nat.reduceSub, Array.replicate_succ, Array.replicate_zero, List.push_toArray, List.append_toArray, List.nil_append, List.cons_append]
  gi_wp2
  clear k0 k1
  clear hor
  gi_loopw [3] (fun v3 wr => ∃ (m : Nat) (pre rest : List (Fin 64 × Bool)), v3 = .int .u64 m ∧ m < 18446744073709551616 ∧ (∃ k, Aside0 (allF k m u d = some rest)) ∧ Aside0 (xs = pre ++ rest) ∧ J pre wr ∧ Aside0 (Blk wr ba #[.int .u64 u, .int .u64 d] 85) ∧ Aside0 (Below n0 w00 wr))
    (fun v3 _ => (intOf v3).toNat)
  case atStart => exact ⟨m0, [], xs, rfl, hmax, ⟨k, HXS⟩, ⟨rfl⟩, hj0, BB, BW⟩
  case round =>
    obtain ⟨m, pre, rest, rfl, hm, ⟨k', hk'⟩, hp1, hj, hb, hbw⟩ := hrel
    cases k' with
    | zero => exact absurd hk'.out (by simp [allF])
    | succ k' =>
    by_cases hm0 : m = 0
    · subst hm0
      have hr : rest = [] := by have h := hk'.out; rw [allF, if_pos rfl] at h; exact (Option.some.inj h).symm
      gi_wp2_with fail
      go_end0
      exact ⟨⟨_, rfl⟩, .inl ⟨xs, rfl, by rw [hp1.out, hr, List.append_nil]; exact hj⟩⟩
    · obtain ⟨g, hg⟩ : ∃ g, lgt m = g := ⟨_, rfl⟩
      have hf : Lib.ctz 64 m = g.val := by rw [← hg]; exact (Nat.mod_eq_of_lt (Lib.lowest_bit 64 m hm0 hm).2).symm
      obtain ⟨rest2, hr2, hre⟩ : ∃ rest2, allF k' (m &&& (m - 1)) u d = some rest2 ∧ rest = (if onV (g.val : Int) true u d = true then [(g, true)] else []) ++ ((if onV (g.val : Int) false u d = true then [(g, false)] else []) ++ rest2) := by
        have h := hk'.out
        rw [allF, if_neg hm0, hg] at h
        obtain ⟨t, ht, he⟩ := Option.map_eq_some_iff.1 h
        exact ⟨t, ht, he.symm⟩
      have HR2 := Aside0.mk hr2
      have HRE := Aside0.mk hre
      have HF := Aside0.mk hf
      clear hr2 hre hf hg hk'
      have hmne : ((m : Int) == 0) = false := by simpa using hm0
      gi_wp2_with fail
      refine ⟨fun _ => by omega, ?_⟩
      refine (callsIn_wide.2 (tz_any m hm0 hm _ (HL.out.below (by rw [h00]; exact hbw.out)))).mono ?_
      rintro e w2 ⟨rfl, rfl⟩
      rw [HF.out]
      gi_wp2_with fail
      gi_loopw [19] (fun v19 wi => Aside0 (Below n0 w00 wi) ∧ Aside0 (Blk wi ba #[.int .u64 u, .int .u64 d] 85) ∧ ((v19 = .int .i64 0 ∧ J pre wi) ∨ (v19 = .int .i64 1 ∧ J (pre ++ (if onV (g.val : Int) true u d = true then [(g, true)] else [])) wi) ∨ (v19 = .int .i64 2 ∧ J (pre ++ (if onV (g.val : Int) true u d = true then [(g, true)] else []) ++ (if onV (g.val : Int) false u d = true then [(g, false)] else [])) wi))) (fun v19 _ => (2 - intOf v19).toNat)
      case atStart => exact ⟨hbw, hb, .inl ⟨rfl, hj⟩⟩
      case round =>
        obtain ⟨hbw2, hb2, hs⟩ := hrel
        rcases hs with ⟨rfl, hji⟩ | ⟨rfl, hji⟩ | ⟨rfl, hji⟩
        · cases hon : onV (g.val : Int) true u d with
          | true =>
            have h1 : (Go.bits .and .u64 (u / 2 ^ g.val) 1 == 1) = true := hon
            have HON := Aside0.mk hon
            clear hon
            have c0 := hb2.out.cell 0 rfl
            have hlen : pre.length < xs.length := by rw [hp1.out, HRE.out, HON.out]; simp
            obtain ⟨fn, tmps, assign, body, hyy, hR⟩ := HY.out pre (g, true) wr hji hlen
            simp only [encA] at hyy
            gi_wp2_with fail
            refine ⟨fun _ => by omega, hR.mono ?_⟩
            rintro e W4 (⟨rfl, hJ4, hk4⟩ | ⟨rfl, hJx4⟩)
            · gi_wp2_with fail
              go_roundw
              case rel => exact ⟨⟨hbw2.out.trans hk4.2⟩, ⟨hk4.1.trans hb2.out⟩, .inr (.inl ⟨rfl, hJ4⟩)⟩
              case measure => simp [intOf]
            · gi_wp2_with fail
              refine bodyPost_ret (results_none rfl _ _ _) rfl ?_
              exact ⟨⟨_, rfl⟩, .inr ⟨_, ⟨_, by rw [hp1.out, HRE.out, HON.out]; simp; rfl⟩, hJx4⟩⟩
          | false =>
            have h1 : (Go.bits .and .u64 (u / 2 ^ g.val) 1 == 1) = false := hon
            have HON := Aside0.mk hon
            clear hon
            have c0 := hb2.out.cell 0 rfl
            gi_wp2_with fail
            go_roundw
            case rel => exact ⟨hbw2, hb2, .inr (.inl ⟨rfl, by rw [if_neg (show ¬ (false = true) by decide), List.append_nil]; exact hji⟩)⟩
            case measure => simp [intOf]
        · cases hon : onV (g.val : Int) false u d with
          | true =>
            have h1 : (Go.bits .and .u64 (d / 2 ^ g.val) 1 == 1) = true := hon
            have HON := Aside0.mk hon
            clear hon
            have c0 := hb2.out.cell 1 rfl
            have hlen : (pre ++ (if onV (g.val : Int) true u d = true then [(g, true)] else [])).length < xs.length := by rw [hp1.out, HRE.out, HON.out]; simp
            obtain ⟨fn, tmps, assign, body, hyy, hR⟩ := HY.out (pre ++ (if onV (g.val : Int) true u d = true then [(g, true)] else [])) (g, false) wr hji hlen
            simp only [encA] at hyy
            gi_wp2_with fail
            refine ⟨fun _ => by omega, hR.mono ?_⟩
            rintro e W4 (⟨rfl, hJ4, hk4⟩ | ⟨rfl, hJx4⟩)
            · gi_wp2_with fail
              go_roundw
              case rel => exact ⟨⟨hbw2.out.trans hk4.2⟩, ⟨hk4.1.trans hb2.out⟩, .inr (.inr ⟨rfl, hJ4⟩)⟩
              case measure => simp [intOf]
            · gi_wp2_with fail
              refine bodyPost_ret (results_none rfl _ _ _) rfl ?_
              exact ⟨⟨_, rfl⟩, .inr ⟨_, ⟨_, by rw [hp1.out, HRE.out, HON.out]; simp; rfl⟩, hJx4⟩⟩
          | false =>
            have h1 : (Go.bits .and .u64 (d / 2 ^ g.val) 1 == 1) = false := hon
            have HON := Aside0.mk hon
            clear hon
            have c0 := hb2.out.cell 1 rfl
            gi_wp2_with fail
            go_roundw
            case rel => exact ⟨hbw2, hb2, .inr (.inr ⟨rfl, by rw [if_neg (show ¬ (false = true) by decide), List.append_nil]; exact hji⟩)⟩
            case measure => simp [intOf]
        · have hm1 : Go.bits .and .u64 (m : Int) ((m : Int) - 1) = ((m &&& (m - 1) : Nat) : Int) := by
            rw [show (m : Int) - 1 = ((m - 1 : Nat) : Int) by omega]; exact bits_and_u64_nat m (m - 1) hm (by omega)
          have hlt : m &&& (m - 1) ≤ m - 1 := Nat.and_le_right
          gi_wp2_with fail
          go_roundw
          case rel => exact ⟨m &&& (m - 1), _, rest2, rfl, by omega, ⟨k', HR2⟩, ⟨by rw [hp1.out, HRE.out]; simp⟩, hji, hb2, hbw2⟩
          case measure => simp [intOf]; omega

end Go.Proofs.YtenlokaaloenmaaDoor.S
end
