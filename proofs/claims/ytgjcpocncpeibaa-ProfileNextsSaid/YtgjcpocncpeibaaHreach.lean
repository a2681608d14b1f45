/- profile.Reach, walked: the search by halves over Travel. -/
import Derived.Test.YtgjcpocncpeibaaHsearch
import Derived.Test.YtgjcpocncpeibaaHspeeds
namespace Go.Proofs.Ytgjcpocncpeibaa.S
open Go.RowKit Go.Proofs.YtgjcpocncpeibaaW.PrintWords Go.Proofs.YtgjcpocncpeibaaW.PrintLast Go.Proofs.YtgjcpocncpeibaaW.PrintMore Go.Shelf
set_option linter.unusedVariables false
set_option linter.unusedSimpArgs false

/-- Does this distance take longer? -/
def longer (k : Nat) (t lim : Int) (i : Int) : Option Bool := (profile_travel.f k i lim).map fun p => decide (p.1 > t)
def profile_Reach.f (k : Nat) (a0 a1 : Int) : Option (Int × Int) :=
  (profile_limits.f a0 a1).bind fun b => if b = true then (searchF (longer k a0 a1) k 0 63001).map fun n => (wrap64 (n - 1), 0) else some (0, 2)
theorem longer_mono (k : Nat) (t lim i : Int) : LeO (longer k t lim i) (longer (k + 1) t lim i) := LeO.map _ (profile_travel.mono i lim k)
theorem profile_Reach.mono : ∀ a0 a1 k, LeO (profile_Reach.f k a0 a1) (profile_Reach.f (k + 1) a0 a1) := fun a0 a1 k =>
  LeO.bind (LeO.refl _) (fun _ => LeO.ite (LeO.map _ (searchF_mono (fun i => longer_mono k a0 a1 i) k 0 63001)) (LeO.refl _))

theorem travel_any (k : Nat) (a b : Int) (p : Int × Int) (h : profile_travel.f k a b = some p) (w : World) :
    Calls Try.prog 31 #[.int .i64 a, .int .i64 b] w fun e w' => e = .returned (.tuple #[.int .i64 p.1, .int .i64 p.2]) ∧ Below w.heap.size w w' := profile_travel.calls k a b p.1 p.2 w h

set_option maxHeartbeats 1000000 in
set_option maxRecDepth 100000 in
theorem longer_any (k : Nat) (t lim i : Int) (b : Bool) (Bl Bt : Nat) (w : World) (hl : Boxed w Bl 3 (.int .i64 lim)) (ht : Boxed w Bt 3 (.int .i64 t)) (h : longer k t lim i = some b) :
    Calls Try.prog 40 #[.int .i64 i, .pointer (some ⟨Bl, 0, none⟩), .pointer (some ⟨Bt, 0, none⟩)] w fun e w' => e = .returned (.bool b) ∧ Below w.heap.size w w' := by
  obtain ⟨p, hp, rfl⟩ := Option.map_eq_some_iff.1 h
  have HP := Aside0.mk hp
  clear h hp
  have cl := hl.cell
  have HT := Aside0.mk ht
  clear ht
  go_enter Try.func40, Try.ntmps40
  go_wp2_with fail
  refine (travel_any k _ _ p HP.out _).mono ?_
  rintro e w' ⟨rfl, hb⟩
  have ct : w'.cell? ⟨Bt, 0, none⟩ = some (.int .i64 t) := Boxed.cell (t := 3) ((hb.block Bt HT.out.lt).trans HT.out)
  go_wp2
  go_ret
  exact ⟨rfl, hb⟩

set_option maxHeartbeats 1000000 in
set_option maxRecDepth 100000 in
theorem profile_Reach.calls (k : Nat) (a0 : Int) (a1 : Int) (r1 : Int) (r2 : Int) (w : World) (h : profile_Reach.f k a0 a1 = some (r1, r2)) :
    Calls Try.prog 25 #[.int .i64 a0, .int .i64 a1] w fun e w' => e = .returned (.tuple #[.int .i64 r1, .int .i64 r2]) ∧ Below w.heap.size w w' := by
  have hmf : ∀ (fn : Fn) (first cap : Array Value) (w : World), (Instr.makeFunc fn first cap).run Try.prog w = .ok (.func fn first cap) w := fun _ _ _ _ => rfl
  obtain ⟨b, hb, h⟩ := Option.bind_eq_some_iff.1 h
  have HBb := Aside0.mk hb
  cases b with
  | false =>
    rw [if_neg (by decide)] at h
    simp only [Option.some.injEq, Prod.mk.injEq] at h
    obtain ⟨rfl, rfl⟩ := h
    clear hb
    go_enter Try.func25, Try.ntmps25
    go_wp2_with fail
    refine (limits_any a0 a1 false HBb.out _).mono ?_
    rintro e w' ⟨rfl, m, rfl⟩
    go_wp2
    go_ret2
    exact ⟨rfl, below_drewN (((Below.refl _ w).alloc (Nat.le_refl _) _).alloc (by simp) _) m⟩
  | true =>
    rw [if_pos rfl] at h
    obtain ⟨n, hn, h'⟩ := Option.map_eq_some_iff.1 h
    simp only [Prod.mk.injEq] at h'
    obtain ⟨rfl, rfl⟩ := h'
    have HN := Aside0.mk hn
    clear hb h hn
    go_enter Try.func25, Try.ntmps25
    go_wp2_with fail
    refine (limits_any a0 a1 true HBb.out _).mono ?_
    rintro e w' ⟨rfl, m, rfl⟩
    obtain ⟨wd, hwd⟩ : ∃ wd, ((w.alloc (.cells #[.int .i64 a0] 3)).alloc (.cells #[.int .i64 a1] 3)).drewN m = wd := ⟨_, rfl⟩
    have hbt : Boxed wd w.heap.size 3 (.int .i64 a0) := by rw [← hwd]; exact boxed_drewN ((Boxed.new w 3 _).alloc _) m
    have hbl : Boxed wd (w.heap.size + 1) 3 (.int .i64 a1) := by rw [← hwd]; have := Boxed.new (w.alloc (.cells #[.int .i64 a0] 3)) 3 (.int .i64 a1); rw [World.size_alloc] at this; exact boxed_drewN this m
    have hBd : Below w.heap.size w wd := by rw [← hwd]; exact below_drewN (((Below.refl _ w).alloc (Nat.le_refl _) _).alloc (by simp) _) m
    rw [hwd]
    clear hwd
    have HBd := Aside0.mk hBd
    clear hBd
    have hs := search_any 40 #[.pointer (some ⟨w.heap.size + 1, 0, none⟩), .pointer (some ⟨w.heap.size, 0, none⟩)] (longer k a0 a1) 63001 n k wd (enters_of Try.func40 (by kernel_rfl) rfl) (by omega) (by omega)
      (fun W i b h0 h1 hq hb => longer_any k a0 a1 i b _ _ W ((hb.block _ hbl.lt).trans hbl) ((hb.block _ hbt.lt).trans hbt) hq) HN.out
    have HS := Aside0.mk hs
    clear hs
    go_wp2_with fail
    refine HS.out.mono ?_
    rintro e w' ⟨rfl, hb⟩
    go_wp2
    go_ret2
    exact ⟨rfl, HBd.out.trans (hb.mono HBd.out.size)⟩

end Go.Proofs.Ytgjcpocncpeibaa.S
