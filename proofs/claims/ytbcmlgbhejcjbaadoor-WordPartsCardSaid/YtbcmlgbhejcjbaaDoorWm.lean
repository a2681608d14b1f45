/- Made loads and entries for three cars, and what a slot of them comes to, car by car. -/
import Derived.Test.YtbcmlgbhejcjbaaDoorS8
import Derived.Test.YtbcmlgbhejcjbaaDoorWd2
import Derived.Test.YtbcmlgbhejcjbaaDoorKitMod
namespace Go.Proofs.YtbcmlgbhejcjbaaDoor.Pure
open Go.RowKit Go.Proofs.YtbcmlgbhejcjbaaDoor.S Go.Proofs.YtbcmlgbhejcjbaaDoorW.PrintWords Go.Proofs.YtbcmlgbhejcjbaaDoorW.PrintLast
set_option linter.unusedVariables false
set_option linter.unusedSimpArgs false

/-- A made entry. -/
structure MadeE (e : S38) : Prop where
  kind : e.f1 = 2
  car : 1 ≤ e.f4 ∧ e.f4 ≤ 3
  what : (e.f5 = 1 ∧ 0 ≤ e.f6 ∧ e.f6 < 90) ∨ ((e.f5 = 2 ∨ e.f5 = 3 ∨ e.f5 = 6) ∧ e.f6 = 0)
  tick : 0 ≤ e.f0 ∧ e.f0 ≤ 1000
structure MadeL (l : List S38) : Prop where
  len : l.length ≤ 30
  all : ∀ e ∈ l, MadeE e
  sorted : l.Pairwise (fun a b => a.f0 ≤ b.f0)

theorem tab_fin : ∀ i : Fin 5, rd [1, 1, 2, 3, 6] (i.val : Int) = 1 ∨ rd [1, 1, 2, 3, 6] (i.val : Int) = 2 ∨ rd [1, 1, 2, 3, 6] (i.val : Int) = 3 ∨ rd [1, 1, 2, 3, 6] (i.val : Int) = 6 := by decide +kernel
theorem part_ok (t c n : Int) (h0 : 0 ≤ t) (h1 : t < 1048576) (hc : 0 < c) (hn : 0 < n) : 0 ≤ Int.tmod (wrap64 (Int.tdiv t c)) n ∧ Int.tmod (wrap64 (Int.tdiv t c)) n < n := by
  have e : Int.tdiv t c = t / c := Int.tdiv_eq_ediv_of_nonneg h0
  have h2 : 0 ≤ t / c := Int.ediv_nonneg h0 (by omega)
  have h3 : t / c ≤ t := Int.ediv_le_self c h0
  rw [e, wrap_id _ (by omega) (by omega)]
  exact ⟨Int.tmod_nonneg _ h2, Int.tmod_lt_of_pos _ hn⟩

theorem made_loop (x ld : List Int) (hw : ∀ y ∈ x, (Lit.int .i64 y).wf = true) : ∀ (d i : Nat) (acc : List S38), d + i = min 30 x.length → acc.length = i → MadeL acc → (∀ e ∈ acc, e.f0 < 2 * (i : Int)) → ∃ v, Ev (fun k => tipstafflaw33_made.l0 k x ld acc (i : Int)) (ld, v) ∧ MadeL v := by
  intro d
  induction d with
  | zero =>
    intro i acc hd ha hm _
    refine ⟨acc, ?_, hm⟩
    refine Ev.step (g' := fun k => tipstafflaw33_made.j1 k x ld acc (i : Int) false) (Ev.step (Ev.const _) (fun k => ?_)) (fun k => ?_)
    · rw [tipstafflaw33_made.j1, if_neg (by decide)]
    · rw [tipstafflaw33_made.l0]
      by_cases h : (i : Int) < (x.length : Int)
      · rw [if_pos h, decide_eq_false (by omega)]
      · rw [if_neg h]
  | succ d ih =>
    intro i acc hd ha hm hlt
    have hI : I64 (rd x (i : Int)) := i64_of (hw _ (by rw [rd_nat x i (by omega)]; exact List.getElem_mem _))
    obtain ⟨t, ht⟩ : ∃ t, rd x (i : Int) % 1048576 = t := ⟨_, rfl⟩
    have t0 : 0 ≤ t := by omega
    have t1 : t < 1048576 := by omega
    have hmod : tipstaffkit_Mod.f (rd x (i : Int)) 1048576 = some t := by rw [mod_val _ _ hI (by omega) (by omega), ht]
    have p1 := part_ok t 3 5 t0 t1 (by omega) (by omega)
    have p2 := part_ok t 15 90 t0 t1 (by omega) (by omega)
    have p3 : 0 ≤ Int.tmod t 3 ∧ Int.tmod t 3 < 3 := ⟨Int.tmod_nonneg _ t0, Int.tmod_lt_of_pos _ (by omega)⟩
    obtain ⟨q, hq⟩ : ∃ q : Nat, Int.tmod (wrap64 (Int.tdiv t 3)) 5 = q := ⟨(Int.tmod (wrap64 (Int.tdiv t 3)) 5).toNat, by omega⟩
    have hq5 : q < 5 := by omega
    have htab := tab_fin ⟨q, hq5⟩
    obtain ⟨u, hu⟩ : ∃ u, rd [1, 1, 2, 3, 6] (q : Int) = u := ⟨_, rfl⟩
    have htab : u = 1 ∨ u = 2 ∨ u = 3 ∨ u = 6 := by rw [← hu]; exact htab
    obtain ⟨z, hz⟩ : ∃ z, Int.tmod (wrap64 (Int.tdiv t 15)) 90 = z := ⟨_, rfl⟩
    obtain ⟨c, hc⟩ : ∃ c, Int.tmod t 3 = c := ⟨_, rfl⟩
    rw [hz] at p2
    rw [hc] at p3
    have hc1 : wrap64 (1 + c) = 1 + c := wrap_id _ (by omega) (by omega)
    have hi2 : wrap64 (2 * (i : Int)) = 2 * (i : Int) := wrap_id _ (by omega) (by omega)
    have hlen5 : (([1, 1, 2, 3, 6] : List Int).length : Int) = 5 := rfl
    have hl0 : ∀ k, tipstafflaw33_made.l0 (k + 1) x ld acc (i : Int) = tipstafflaw33_made.j1 k x ld acc (i : Int) true := fun k => by
      rw [tipstafflaw33_made.l0, if_pos (by omega), decide_eq_true (by omega)]
    have more : ∀ m : S38, MadeE m → m.f0 = 2 * (i : Int) → MadeL (acc ++ [m]) ∧ ∀ e ∈ acc ++ [m], e.f0 < 2 * ((i + 1 : Nat) : Int) := by
      intro m h1 h2
      refine ⟨⟨by rw [List.length_append, ha]; show i + 1 ≤ 30; omega, ?_, ?_⟩, ?_⟩
      · intro e he
        rcases List.mem_append.1 he with he | he
        · exact hm.all e he
        · rw [List.mem_singleton.1 he]; exact h1
      · refine List.pairwise_append.2 ⟨hm.sorted, List.pairwise_singleton _ _, ?_⟩
        intro a ha b hb
        rw [List.mem_singleton.1 hb]
        have := hlt a ha; omega
      · intro e he
        rcases List.mem_append.1 he with he | he
        · have := hlt e he; omega
        · rw [List.mem_singleton.1 he]; omega
    by_cases hu1 : u = 1
    · obtain ⟨g1, g2⟩ := more ⟨2 * (i : Int), 2, 0, ⟨#[]⟩, 1 + c, u, z⟩ ⟨rfl, ⟨show (1 : Int) ≤ 1 + c by omega, show 1 + c ≤ (3 : Int) by omega⟩, Or.inl ⟨hu1, p2.1, p2.2⟩, ⟨show (0 : Int) ≤ 2 * (i : Int) by omega, show 2 * (i : Int) ≤ 1000 by omega⟩⟩ rfl
      obtain ⟨v, hv, h2⟩ := ih (i + 1) _ (by omega) (by simp [ha]) g1 g2
      refine ⟨v, Ev.step (g' := fun k => tipstafflaw33_made.j1 k x ld acc (i : Int) true) (hv.step (fun k => ?_)) hl0, h2⟩
      rw [tipstafflaw33_made.j1, if_pos rfl, if_pos (by omega), if_pos (by omega), hmod, Option.bind_some, Option.bind_some, hq, hlen5, if_pos (by omega), if_pos (by omega), hu, if_pos hu1, if_pos (by omega), hz, hc, hc1, hi2, wrap_succ i (by omega)]
    · obtain ⟨g1, g2⟩ := more ⟨2 * (i : Int), 2, 0, ⟨#[]⟩, 1 + c, u, 0⟩ ⟨rfl, ⟨show (1 : Int) ≤ 1 + c by omega, show 1 + c ≤ (3 : Int) by omega⟩, Or.inr ⟨show u = 2 ∨ u = 3 ∨ u = 6 by omega, rfl⟩, ⟨show (0 : Int) ≤ 2 * (i : Int) by omega, show 2 * (i : Int) ≤ 1000 by omega⟩⟩ rfl
      obtain ⟨v, hv, h2⟩ := ih (i + 1) _ (by omega) (by simp [ha]) g1 g2
      refine ⟨v, Ev.step (g' := fun k => tipstafflaw33_made.j1 k x ld acc (i : Int) true) (hv.step (fun k => ?_)) hl0, h2⟩
      rw [tipstafflaw33_made.j1, if_pos rfl, if_pos (by omega), if_pos (by omega), hmod, Option.bind_some, Option.bind_some, hq, hlen5, if_pos (by omega), if_pos (by omega), hu, if_neg hu1, if_pos (by omega), hc, hc1, hi2, wrap_succ i (by omega)]
theorem at_ok (x : List Int) (hw : ∀ y ∈ x, (Lit.int .i64 y).wf = true) (i : Nat) : ∃ v, tipstaffkit_At.f x (i : Int) = some v ∧ I64 v := by
  by_cases h : i < x.length
  · exact ⟨rd x (i : Int), by rw [tipstaffkit_At.f, if_neg (by omega), if_neg (by omega), if_pos (by omega), if_pos (by omega)], i64_of (hw _ (by rw [rd_nat x i h]; exact List.getElem_mem _))⟩
  · exact ⟨0, by rw [tipstaffkit_At.f, if_neg (by omega), if_pos (by omega)], by unfold I64; omega⟩
theorem made_val (x : List Int) (hw : ∀ y ∈ x, (Lit.int .i64 y).wf = true) : ∃ p q v, (0 ≤ p ∧ p < 90) ∧ (0 ≤ q ∧ q < 90) ∧ Ev (fun k => tipstafflaw33_made.f k x) ([p, q, 0], v) ∧ MadeL v := by
  obtain ⟨a, ha, ia⟩ := at_ok x hw 0
  obtain ⟨b, hb, ib⟩ := at_ok x hw 1
  have ha' : tipstaffkit_At.f x 0 = some a := ha
  have hb' : tipstaffkit_At.f x 1 = some b := hb
  obtain ⟨v, h, h'⟩ := made_loop x [a % 90, b % 90, 0] hw (min 30 x.length) 0 [] (by omega) rfl ⟨by simp, by simp, List.Pairwise.nil⟩ (by simp)
  refine ⟨a % 90, b % 90, v, by omega, by omega, h.congr (fun k => ?_), h'⟩
  rw [tipstafflaw33_made.f, ha', Option.bind_some, mod_val a 90 ia (by omega) (by omega), Option.bind_some, hb', Option.bind_some, mod_val b 90 ib (by omega) (by omega), Option.bind_some]; rfl

theorem MadeL.filter {l : List S38} (h : MadeL l) (p : S38 → Bool) : MadeL (l.filter p) :=
  ⟨Nat.le_trans (List.length_filter_le _ _) h.len, fun e he => h.all e (List.mem_filter.1 he).1, h.sorted.filter p⟩
theorem MadeL.take {l : List S38} (h : MadeL l) (n : Nat) : MadeL (l.take n) :=
  ⟨by rw [List.length_take]; have := h.len; omega, fun e he => h.all e (List.mem_of_mem_take he), h.sorted.sublist (List.take_sublist n l)⟩
theorem MadeL.drop {l : List S38} (h : MadeL l) (n : Nat) : MadeL (l.drop n) :=
  ⟨by rw [List.length_drop]; have := h.len; omega, fun e he => h.all e (List.mem_of_mem_drop he), h.sorted.sublist (List.drop_sublist n l)⟩
theorem made_ent {e : S38} (h : MadeE e) (p : Option Int) (hp : ∀ q, p = some q → q ≤ e.f0) : entE e 3 p = 0 := by
  rw [entE_one, if_neg (by rw [(inB_iff _ _ _).2 (by have := h.tick; omega)]; decide), if_neg]
  · have hv : validB e 3 = true := by
      rw [validB_iff]
      have := h.car
      rcases h.what with ⟨h5, h6, h7⟩ | ⟨h5, h6⟩
      · rw [if_pos h5]; omega
      · rw [if_neg (by omega)]; omega
    unfold oneV
    rw [if_neg (by have := h.kind; omega), if_neg (fun h => by rw [hv] at h; exact absurd h.2 (by decide))]
  · intro ho
    cases p with
    | none => have ho : false = true := ho; cases ho
    | some q =>
      have : decide (e.f0 < q) = true := ho
      have := of_decide_eq_true this
      have := hp q rfl
      omega
theorem made_wrongG : ∀ (l : List S38) (p : Option Int), (∀ e ∈ l, MadeE e) → l.Pairwise (fun a b => a.f0 ≤ b.f0) → (∀ q, p = some q → ∀ e ∈ l, q ≤ e.f0) → wrongG 3 l p = 0
  | [], p, _, _, _ => rfl
  | e :: es, p, h1, h2, h3 => by
    rw [wrongG, if_pos (made_ent (h1 e (by simp)) p (fun q hq => h3 q hq e (by simp)))]
    exact made_wrongG es _ (fun y hy => h1 y (by simp [hy])) (List.pairwise_cons.1 h2).2 (fun q hq y hy => by
      obtain rfl := Option.some.inj hq
      exact (List.pairwise_cons.1 h2).1 y hy)
theorem made_wrong {l : List S38} (h : MadeL l) (a0 p q r : Int) (ha : 0 ≤ a0 ∧ a0 ≤ 10000) (hp : 0 ≤ p ∧ p < 90) (hq : 0 ≤ q ∧ q < 90) (hr : 0 ≤ r ∧ r < 90) : wrongV a0 [p, q, r] l = 0 := by
  unfold wrongV
  have hl := h.len
  rw [if_neg (by rw [(inB_iff _ _ _).2 ha]; decide), if_neg (show ¬ (inB ((([p, q, r] : List Int).length : Nat) : Int) 1 8 = false) from (by decide : ¬ inB 3 1 8 = false)), if_neg, if_neg (by omega)]
  · exact made_wrongG l none h.all h.sorted (fun q hq => by cases hq)
  · have : loadsB [p, q, r] = true := by
      rw [loadsB, if_pos ((inB_iff _ _ _).2 (by omega)), loadsB, if_pos ((inB_iff _ _ _).2 (by omega)), loadsB, if_pos ((inB_iff _ _ _).2 (by omega))]; rfl
    rw [this]; decide

/-- The word of three cars. -/
def w3 (a b c : Bool) : Nat := (if a then 1 else 0) + (if b then 2 else 0) + (if c then 4 else 0)
def outB (a0 : Int) (L : Nat → Int) (F : Nat → Bool) (i : Nat) : Bool := F i || decide (a0 < L i)
theorem or3_fin : ∀ a b c : Bool, (if c then Go.bits .or .u64 (if b then Go.bits .or .u64 (if a then Go.bits .or .u64 0 (IntKind.u64.wrap (2 ^ 0)) else 0) (IntKind.u64.wrap (2 ^ 1)) else (if a then Go.bits .or .u64 0 (IntKind.u64.wrap (2 ^ 0)) else 0)) (IntKind.u64.wrap (2 ^ 2)) else (if b then Go.bits .or .u64 (if a then Go.bits .or .u64 0 (IntKind.u64.wrap (2 ^ 0)) else 0) (IntKind.u64.wrap (2 ^ 1)) else (if a then Go.bits .or .u64 0 (IntKind.u64.wrap (2 ^ 0)) else 0))) = (w3 a b c : Int) := by decide +kernel
theorem word3 (a0 : Int) (L : Nat → Int) (F : Nat → Bool) : wordW a0 L F 3 0 0 = (w3 (outB a0 L F 0) (outB a0 L F 1) (outB a0 L F 2) : Int) := by
  rw [← or3_fin]
  have e : ∀ i, (F i = true ∨ a0 < L i) = (outB a0 L F i = true) := fun i => by unfold outB; simp
  simp only [wordW, e]
theorem slot3 (a0 p q r : Int) (l : List S38) : slotV a0 [p, q, r] l = ((w3 (outB a0 (entsL l (startL [p, q, r])) (entsF l fun _ => false) 0) (outB a0 (entsL l (startL [p, q, r])) (entsF l fun _ => false) 1) (outB a0 (entsL l (startL [p, q, r])) (entsF l fun _ => false) 2) : Int), [entsL l (startL [p, q, r]) 0, entsL l (startL [p, q, r]) 1, entsL l (startL [p, q, r]) 2]) := by
  unfold slotV
  rw [show [p, q, r].length = 3 from rfl, word3]; rfl

/-- What happens to a car, its own entries alone. -/
theorem entL_other {e : S38} {L : Nat → Int} {i : Nat} (h : (e.f4 - 1).toNat ≠ i) : entL e L i = L i := by
  unfold entL; split
  · unfold updF; rw [if_neg (fun h' => h h'.symm)]
  · rfl
theorem entF_other {e : S38} {F : Nat → Bool} {i : Nat} (h : (e.f4 - 1).toNat ≠ i) : entF e F i = F i := by
  unfold entF; split
  · unfold updF; rw [if_neg (fun h' => h h'.symm)]
  · rfl
theorem entL_at {e : S38} {L L' : Nat → Int} {i : Nat} (h : L i = L' i) : entL e L i = entL e L' i := by
  unfold entL; split
  · unfold updF; split
    · rfl
    · exact h
  · exact h
theorem entF_at {e : S38} {F F' : Nat → Bool} {i : Nat} (h : F i = F' i) : entF e F i = entF e F' i := by
  unfold entF; split
  · unfold updF; split
    · rfl
    · exact h
  · exact h
theorem entsL_at {i : Nat} : ∀ (l : List S38) {L L' : Nat → Int}, L i = L' i → entsL l L i = entsL l L' i
  | [], _, _, h => h
  | e :: es, _, _, h => entsL_at es (entL_at h)
theorem entsF_at {i : Nat} : ∀ (l : List S38) {F F' : Nat → Bool}, F i = F' i → entsF l F i = entsF l F' i
  | [], _, _, h => h
  | e :: es, _, _, h => entsF_at es (entF_at h)
theorem entsL_own (c : Int) (i : Nat) (hc : c = (i : Int) + 1) : ∀ (l : List S38) (L : Nat → Int), (∀ e ∈ l, MadeE e) → entsL (l.filter fun e => decide (e.f4 = c)) L i = entsL l L i
  | [], L, _ => rfl
  | e :: es, L, h => by
    have h' : ∀ y ∈ es, MadeE y := fun y hy => h y (by simp [hy])
    by_cases he : e.f4 = c
    · rw [List.filter_cons_of_pos (by simpa using he), entsL, entsL]
      exact entsL_own c i hc es _ h'
    · rw [List.filter_cons_of_neg (by simpa using he), entsL, entsL_own c i hc es L h']
      have := (h e (by simp)).car
      exact entsL_at es (entL_other (by omega)).symm
theorem entsF_own (c : Int) (i : Nat) (hc : c = (i : Int) + 1) : ∀ (l : List S38) (F : Nat → Bool), (∀ e ∈ l, MadeE e) → entsF (l.filter fun e => decide (e.f4 = c)) F i = entsF l F i
  | [], F, _ => rfl
  | e :: es, F, h => by
    have h' : ∀ y ∈ es, MadeE y := fun y hy => h y (by simp [hy])
    by_cases he : e.f4 = c
    · rw [List.filter_cons_of_pos (by simpa using he), entsF, entsF]
      exact entsF_own c i hc es _ h'
    · rw [List.filter_cons_of_neg (by simpa using he), entsF, entsF_own c i hc es F h']
      have := (h e (by simp)).car
      exact entsF_at es (entF_other (by omega)).symm
theorem entsL_moving : ∀ (l : List S38) (L : Nat → Int), entsL (l.filter fun e => decide (e.f5 ≠ 2)) L = entsL l L
  | [], L => rfl
  | e :: es, L => by
    by_cases he : e.f5 ≠ 2
    · rw [List.filter_cons_of_pos (by simpa using he), entsL, entsL, entsL_moving es]
    · rw [List.filter_cons_of_neg (by simpa using he), entsL, entsL_moving es, show entL e L = L from if_neg (by omega)]
theorem entsF_moving : ∀ (l : List S38) (F : Nat → Bool), entsF (l.filter fun e => decide (e.f5 ≠ 2)) F = entsF l F
  | [], F => rfl
  | e :: es, F => by
    by_cases he : e.f5 ≠ 2
    · rw [List.filter_cons_of_pos (by simpa using he), entsF, entsF, entsF_moving es]
    · rw [List.filter_cons_of_neg (by simpa using he), entsF, entsF_moving es, show entF e F = F from if_neg (by omega)]
theorem entsL_app : ∀ (l l' : List S38) (L : Nat → Int), entsL (l ++ l') L = entsL l' (entsL l L)
  | [], l', L => rfl
  | e :: es, l', L => by rw [List.cons_append, entsL, entsL, entsL_app es l']
theorem entsF_app : ∀ (l l' : List S38) (F : Nat → Bool), entsF (l ++ l') F = entsF l' (entsF l F)
  | [], l', F => rfl
  | e :: es, l', F => by rw [List.cons_append, entsF, entsF, entsF_app es l']
/-- A fault of a car, told. -/
def faultB (c : Int) (l : List S38) : Bool := l.any fun e => decide (e.f4 = c) && decide (e.f5 ≥ 3)
theorem entsF_fault (c : Int) (i : Nat) (hc : c = (i : Int) + 1) : ∀ (l : List S38) (F : Nat → Bool), (∀ e ∈ l, MadeE e) → entsF l F i = (F i || faultB c l)
  | [], F, _ => by simp [entsF, faultB]
  | e :: es, F, h => by
    have h' : ∀ y ∈ es, MadeE y := fun y hy => h y (by simp [hy])
    have hk := (h e (by simp)).kind
    have hcar := (h e (by simp)).car
    rw [entsF, entsF_fault c i hc es _ h', show faultB c (e :: es) = ((decide (e.f4 = c) && decide (e.f5 ≥ 3)) || faultB c es) from rfl]
    by_cases he : e.f4 = c
    · by_cases h3 : e.f5 ≥ 3
      · have e1 : entF e F i = true := by unfold entF; rw [if_pos ⟨hk, h3⟩]; unfold updF; rw [if_pos (by omega)]
        rw [e1, decide_eq_true he, decide_eq_true h3]; simp
      · have e1 : entF e F i = F i := by unfold entF; rw [if_neg (by omega)]
        rw [e1, decide_eq_false h3]; simp
    · rw [entF_other (by omega), decide_eq_false he]; simp
theorem entsL_range (i : Nat) : ∀ (l : List S38) (L : Nat → Int), (∀ e ∈ l, MadeE e) → (0 ≤ L i ∧ L i < 90) → 0 ≤ entsL l L i ∧ entsL l L i < 90
  | [], L, _, h => h
  | e :: es, L, hm, h => by
    rw [entsL]
    refine entsL_range i es _ (fun y hy => hm y (by simp [hy])) ?_
    unfold entL
    by_cases hc : e.f1 = 2 ∧ e.f5 = 1
    · rw [if_pos hc]; unfold updF
      split
      · rcases (hm e (by simp)).what with h1 | h1
        · exact ⟨h1.2.1, h1.2.2⟩
        · exact absurd hc.2 (by omega)
      · exact h
    · rw [if_neg hc]; exact h

end Go.Proofs.YtbcmlgbhejcjbaaDoor.Pure
