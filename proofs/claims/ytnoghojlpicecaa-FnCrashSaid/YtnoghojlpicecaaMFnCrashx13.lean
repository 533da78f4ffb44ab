-- What each Go function that this law reaches comes to: written by a program out of the translation.
import Derived.Test.YtnoghojlpicecaaMFnCrashx0
import Derived.Test.YtnoghojlpicecaaMFnCrashx12
namespace Go.Proofs.Ytnoghojlpicecaa.PFnCrash
open Go.RowKit Go.Proofs.YtnoghojlpicecaaW.PrintWords Go.Proofs.YtnoghojlpicecaaW.PrintLast Go.Proofs.YtnoghojlpicecaaW.PrintMore
attribute [local go_sem] max2_int min2_int max_two min_two max_three min_three max_four min_four   -- for this text's walks alone
set_option linter.unusedVariables false
set_option linter.unusedSimpArgs false

/-! ### impl_Entry: function 88 -/
-- TAKE 0 0
-- OWN 2 0
-- NOROUNDS
-- IMPORTS Derived.Shelf.Spec.SlicesInsertGrow
def encE (x : S35) : List Value := [.int .i64 x.f0, .int .i64 x.f1, .bool x.f2, .string x.f3]
def flatE : List S35 → List Value
 | [] => []
 | x :: t => encE x ++ flatE t
theorem flatE_len (l : List S35) : (flatE l).length = l.length * 4 := by
 induction l with
 | nil => rfl
 | cons x t ih => simp only [flatE, encE, List.length_append, List.length_cons, List.length_nil, ih]; omega
theorem flatE_append (l m : List S35) : flatE (l ++ m) = flatE l ++ flatE m := by
 induction l with
 | nil => rfl
 | cons x t ih => simp only [flatE, List.cons_append, ih, List.append_assoc]
theorem flatE_one (x : S35) : flatE [x] = encE x := by simp [flatE]
theorem encE_one (x : S35) : ∀ u ∈ encE x, u.oneCell' = true := by
 intro u hu
 simp only [encE, List.mem_cons, List.not_mem_nil, or_false] at hu
 rcases hu with rfl | rfl | rfl | rfl <;> rfl
theorem flatE_one' (l : List S35) : ∀ u ∈ flatE l, u.oneCell' = true := by
 induction l with
 | nil => intro u hu; simp [flatE] at hu
 | cons x t ih =>
  intro u hu
  rcases List.mem_append.1 (show u ∈ encE x ++ flatE t from hu) with h | h
  ·exact encE_one x u h
  ·exact ih u h
theorem flatE_take (l : List S35) (i : Nat) : (flatE l).take (i * 4) = flatE (l.take i) := by
 induction l generalizing i with
 | nil => simp [flatE]
 | cons x t ih =>
  cases i with
  | zero => simp [flatE]
  | succ i =>
   rw [List.take_succ_cons, flatE, flatE, ← ih, List.take_append, show (encE x).length = 4 from rfl, List.take_of_length_le (by rw [show (encE x).length = 4 from rfl]; omega), show (i + 1) * 4 - 4 = i * 4 by omega]
theorem flatE_drop (l : List S35) (i : Nat) : (flatE l).drop (i * 4) = flatE (l.drop i) := by
 induction l generalizing i with
 | nil => simp [flatE]
 | cons x t ih =>
  cases i with
  | zero => simp
  | succ i =>
   rw [List.drop_succ_cons, flatE, ← ih, List.drop_append, show (encE x).length = 4 from rfl, List.drop_of_length_le (by rw [show (encE x).length = 4 from rfl]; omega), show (i + 1) * 4 - 4 = i * 4 by omega, List.nil_append]
theorem reps_flat (w : World) (base : Nat) (ok : Nat → Prop) (l : List S35) : Reps (k35.M w base ok) 4 l (flatE l) := by
 refine ⟨flatE_len l, fun j p hj => ?_⟩
 have hlt := (List.getElem?_eq_some_iff.1 hj).1
 rw [flatE_drop, List.drop_eq_getElem_cons hlt]
 have hp : l[j] = p := (List.getElem?_eq_some_iff.1 hj).2
 rw [hp, flatE, List.take_append_of_le_length (by rw [show (encE p).length = 4 from rfl]; exact Nat.le_refl _), List.take_of_length_le (by rw [show (encE p).length = 4 from rfl]; exact Nat.le_refl _)]
 exact k35_mkM w base ok p
theorem flat_of_reps (w : World) (base : Nat) (ok : Nat → Prop) : ∀ (l : List S35) (cs : List Value), Reps (k35.M w base ok) 4 l cs → cs = flatE l
 | [], cs, h => by have := h.1; simp at this; rw [this]; rfl
 | x :: t, cs, h => by
  have h0 := k35_openM (h.2 0 x rfl)
  rw [Nat.zero_mul, List.drop_zero] at h0
  have ht : Reps (k35.M w base ok) 4 t (cs.drop 4) := by
   refine ⟨by rw [List.length_drop, h.1, List.length_cons]; omega, fun j p hj => ?_⟩
   have := h.2 (j + 1) p (by simpa using hj)
   rw [List.drop_drop, show 4 + j * 4 = (j + 1) * 4 by omega]
   exact this
  have ih := flat_of_reps w base ok t _ ht
  rw [flatE, ← ih, ← List.take_append_drop 4 cs, h0]
  simp [encE]
theorem own_of_RE {e : Nat} {w : World} {base : Nat} {ok : Nat → Prop} {v : Value} {l : List S35} (h : Kd.R k35 e w base ok v l) : w.ownsRow base e 4 v l.length (flatE l) := by
 obtain ⟨_, inner, ho, hr⟩ := h
 rw [← flat_of_reps _ _ _ _ _ hr]; exact ho
theorem R_of_ownE {e : Nat} {w : World} {base : Nat} {ok : Nat → Prop} {v : Value} {l : List S35} (ho : w.ownsRow base e 4 v l.length (flatE l)) (hok : ∀ k, v.ownBlock = some k → ok k) : Kd.R k35 e w base ok v l := ⟨hok, flatE l, ho, reps_flat _ _ _ _⟩
theorem run_copy_rowS {P : Program} (w : World) (dT sT ty elem : TypeId) (sz g o dLen dCap : Nat) (a : Addr) (sLen sCap : Nat) (cur : Array Value) (t : TypeId) (cs : List Value)
  (hu : P.underlying dT = some (.slice elem)) (hs : (P.info? elem).map (·.size) = some sz)
  (hg : w.heap[g]? = some (.cells cur t (0, 0))) (hn : cs.length = Nat.min sLen dLen * sz)
  (hsrc : ∀ j v, cs[j]? = some v → w.cell? (a.add j) = some v) (hfit : o + cs.length ≤ cur.size) (h1 : ∀ v ∈ cs, v.oneCell' = true) :
  (Builtin.copy_ #[dT, sT] ty #[.slice (some ⟨g, o, none⟩) dLen dCap, .slice (some a) sLen sCap]).run P w =
   .ok (goInt (Nat.min sLen dLen)) (w.setRow g (cur.toList.take o ++ cs ++ cur.toList.drop (o + cs.length)).toArray) := by
 have hl := run_loadCells_list (P := P) w a cs hsrc
 have hst := run_storeCells_at P g o t cs 0 cur w hg (by simpa using hfit) h1
 cases hq : P.info? elem with
 | none => simp [hq] at hs
 | some i =>
  have hi : i.size = sz := by simpa [hq] using hs
  simp [Builtin.copy_, run_underlying hu, Builtin.lenOf, Builtin.firstCells, sizeOf, typeInfo, hq, hi, ← hn, hl, hst]
theorem infoE : (Try.prog.info? 35).map (fun i => (i.zero, i.size, i.bytes)) = some (some (.agg #[.int .i64 0, .int .i64 0, .bool false, .string ⟨#[]⟩]), 4, 40) := by kernel_rfl
theorem cellsE {W : World} {vb : Nat} {x : S35} {cv : Array Value} (h : W.heap[vb]? = some (.cells cv 35 (0, 0))) (hcv : cv.toList.take 4 = encE x) : ∀ j u, (encE x)[j]? = some u → W.cell? ((⟨vb, 0, none⟩ : Addr).add j) = some u := by
 intro j u hj
 have hjl := (List.getElem?_eq_some_iff.1 hj).1
 rw [show (encE x).length = 4 from rfl] at hjl
 rw [add_plain]
 simp only [World.cell?, h, Option.isSome_none, Bool.false_eq_true, if_false]
 rw [← hcv, List.getElem?_take_of_lt hjl, Array.getElem?_toList] at hj
 exact hj
def InsPost (base : Nat) (W : World) (v : Value) (l : List S35) (e : Ending) (w' : World) : Prop :=
 ∃ v' : Value, e = .returned v' ∧ w'.ownsRow base 35 4 v' l.length (flatE l) ∧ W.grownBy w' v.ownBlock ∧ (v'.ownBlock = v.ownBlock ∨ ∃ k, v'.ownBlock = some k ∧ W.heap.size ≤ k)
set_option maxHeartbeats 4000000 in
set_option maxRecDepth 100000 in
theorem ins_end (v : Value) (l : List S35) (x : S35) (W : World) (base vb capv : Nat) (cv : Array Value) (hl : l.length < 1000000) (hbase : base ≤ W.heap.size) (hO : W.ownsRow base 35 4 v l.length (flatE l)) (hvb : W.heap[vb]? = some (.cells cv 35 (0, 0))) (hcv : cv.toList.take 4 = encE x) :
  Calls Try.prog 88 #[v, .int .i64 l.length, .slice (some ⟨vb, 0, none⟩) 1 capv] W (InsPost base W v (l ++ [x])) := by
 obtain ⟨i0, hi, hzz⟩ := Option.map_eq_some_iff.1 infoE
 simp only [Prod.mk.injEq] at hzz
 obtain ⟨hz0, hz1, hz2⟩ := hzz
 obtain ⟨v', w', hr, h2, h3, h4, h5⟩ := run_append_own_at (P := Try.prog) W base 29 29 35 i0 _ 4 40 Try.underlying29 hi hz0 hz1 hz2 rfl (by omega) v l.length (flatE l) hO ⟨vb, 0, none⟩ 1 capv (encE x) (by rfl) (cellsE hvb hcv) (encE_one x) (by simp only [maxLen]; omega) (by omega) hbase
 have hO2 := own_slice hO
 have HN := Aside0.mk hO
 have HV := Aside0.mk h2
 have HG := Aside0.mk h3
 have HB := Aside0.mk h5
 clear hO hvb hcv h2 h3 h4 h5 hi hz0 hz1 hz2
 obtain ⟨A, c, rfl⟩ := hO2
 have hnc : l.length ≤ c := own_le HN.out
 go_enter Try.func88, Try.ntmps88
 cases A with
 | none =>
  go_wp2_with (at_builtin; refine Lib.wpList_append_run _ rfl _ _ _ _ rfl _ _ rfl rfl _ _ hr ?_)
  go_ret
  exact ⟨v', rfl, by rw [flatE_append, flatE_one, List.length_append]; exact HV.out, HG.out, HB.out.imp id (fun h => ⟨_, h, Nat.le_refl _⟩)⟩
 | some a =>
  obtain ⟨ab, ao, asp⟩ := a
  go_wp2_with (at_builtin; refine Lib.wpList_append_run _ rfl _ _ _ _ rfl _ _ rfl rfl _ _ hr ?_)
  all_goals
   go_ret
   exact ⟨v', rfl, by rw [flatE_append, flatE_one, List.length_append]; exact HV.out, HG.out, HB.out.imp id (fun h => ⟨_, h, Nat.le_refl _⟩)⟩
theorem cells_of_row {W : World} {g : Nat} {cur : Array Value} {t : TypeId} (h : W.heap[g]? = some (.cells cur t (0, 0))) (j : Nat) : W.cell? ⟨g, j, none⟩ = cur[j]? := by
 simp only [World.cell?, h, Option.isSome_none, Bool.false_eq_true, if_false]
theorem ins_list (cur : List Value) (A X B : List Value) (i n : Nat) (hc : cur.take (n * 4) = A ++ B) (hA : A.length = i * 4) (hX : X.length = 4) (hB : B.length = (n - i) * 4) (hi : i ≤ n) (hn : (n + 1) * 4 ≤ cur.length) :
  (((cur.take ((i + 1) * 4) ++ B ++ cur.drop ((i + 1) * 4 + B.length)).take (i * 4) ++ X ++ (cur.take ((i + 1) * 4) ++ B ++ cur.drop ((i + 1) * 4 + B.length)).drop (i * 4 + X.length)).take ((n + 1) * 4)) = A ++ X ++ B := by
 have h1 : cur.take (i * 4) = A := by
  have := congrArg (List.take (i * 4)) hc
  rw [List.take_take, Nat.min_eq_left (by omega), List.take_append_of_le_length (by omega)] at this
  exact this.trans (List.take_of_length_le (by omega))
 have h2 : (cur.take ((i + 1) * 4) ++ B ++ cur.drop ((i + 1) * 4 + B.length)).take (i * 4) = A := by
  rw [List.append_assoc, List.take_append_of_le_length (by rw [List.length_take]; omega), List.take_take, Nat.min_eq_left (by omega), h1]
 have h3 : (cur.take ((i + 1) * 4) ++ B ++ cur.drop ((i + 1) * 4 + B.length)).drop (i * 4 + X.length) = B ++ cur.drop ((i + 1) * 4 + B.length) := by
  rw [hX, show i * 4 + 4 = (i + 1) * 4 by omega, List.append_assoc]
  have hl : (cur.take ((i + 1) * 4)).length = (i + 1) * 4 := by rw [List.length_take]; omega
  rw [List.drop_append_of_le_length (by omega), List.drop_of_length_le (by omega), List.nil_append]
 rw [h2, h3, ← List.append_assoc, List.take_append_of_le_length (by simp only [List.length_append]; omega), List.take_of_length_le (by simp only [List.length_append]; omega)]
theorem heap_setRow_same {W : World} {g : Nat} {cur c2 : Array Value} {t : TypeId} (h : W.heap[g]? = some (.cells cur t (0, 0))) : (W.setRow g c2).heap[g]? = some (.cells c2 t (0, 0)) := setRow_heap W g cur c2 t (0, 0) h
theorem grown_setRow (W : World) (g : Nat) (c : Array Value) : W.grownBy (W.setRow g c) (some g) := ⟨rfl, rfl, rfl, by simp [World.setRow], fun k _ hk => setRow_other W g k _ (fun e => hk (by simp [e]))⟩
theorem drew_setRow (W : World) (g : Nat) (c : Array Value) : (W.setRow g c).drew = W.drew.setRow g c := rfl
set_option maxHeartbeats 4000000 in
set_option maxRecDepth 100000 in
theorem ins_shift (g cap : Nat) (cur : Array Value) (l L : List S35) (x : S35) (i : Nat) (W : World) (base vb capv : Nat) (cv : Array Value) (hl : l.length < 1000000) (hi : i < l.length) (hbase : base ≤ g) (hg : W.heap[g]? = some (.cells cur 35 (0, 0)))
  (h1 : l.length + 1 ≤ cap) (h2 : cap ≤ maxLen) (h3 : cur.size = cap * 4) (h4 : cur.toList.take (l.length * 4) = flatE l) (hvb : W.heap[vb]? = some (.cells cv 35 (0, 0))) (hcv : cv.toList.take 4 = encE x) (hne : vb ≠ g) (hL : L = l.take i ++ [x] ++ l.drop i) :
  Calls Try.prog 88 #[.slice (some ⟨g, 0, none⟩) l.length cap, .int .i64 i, .slice (some ⟨vb, 0, none⟩) 1 capv] W (InsPost base W (.slice (some ⟨g, 0, none⟩) l.length cap) L) := by
 have h2' := h2
 unfold maxLen at h2
 have hz2 : ¬ ((i : Int) = (l.length : Int)) := by omega
 have hw1 : IntKind.i64.wrap ((i : Int) + 1) = (i : Int) + 1 := by rw [IntKind.wrap_i64]; omega
 have hw2 : IntKind.i64.wrap ((l.length : Int) + 1) = (l.length : Int) + 1 := by rw [IntKind.wrap_i64]; omega
 have hb1 : (0 : Int) ≤ (i : Int) + 1 := by omega
 have hin : i ≤ l.length := by omega
 have hin2 : (i : Int) ≤ (l.length : Int) := by omega
 have htn : ((i : Int) + 1).toNat = i + 1 := by omega
 have htn2 : ((l.length : Int) + 1).toNat = l.length + 1 := by omega
 have hb2 : ¬ (cap = i + 1) := by omega
 have hb3 : (i : Int) ≤ (l.length : Int) + 1 := by omega
 have hb4 : ¬ (cap = i) := by omega
 have hb5 : ¬ ((cap : Int) < (l.length : Int) + 1) := by omega
 have mixed : Try.prog.follows Departure.mixedOrders = true := by kernel_rfl
 have hsz : (Try.prog.info? 35).map (·.size) = some 4 := by kernel_rfl
 have hov : ∀ lb cb, (callFunc 92 #[.slice (some ⟨vb, 0, none⟩) 1 capv, .slice (some ⟨g, (i + 1) * 4, none⟩) lb cb]).run Try.prog W = .ok (.value (.bool false)) W := fun lb cb => by
  rw [run_callFunc_extern Try.func92 (by kernel_rfl) (by kernel_rfl) (by kernel_rfl) (e := Extern.SlicesOverlaps.overlaps #[29, 29] #[4]) (by kernel_rfl),
   Lib.run_overlaps_apart W 29 4 35 Try.underlying29 4 Try.sizeOf35 ⟨vb, 0, none⟩ ⟨g, (i + 1) * 4, none⟩ 1 capv lb cb hne 35 35 cv.size cur.size (by simp [World.shape?, hvb]) (by simp [World.shape?, hg]) (by omega) (by simp [World.frozen?, hvb]) (by simp [World.frozen?, hvb])]
  rfl
 have hBl : (flatE (l.drop i)).length = (l.length - i) * 4 := by rw [flatE_len, List.length_drop]
 obtain ⟨c1, hc1⟩ : ∃ c1, c1 = (cur.toList.take ((i + 1) * 4) ++ flatE (l.drop i) ++ cur.toList.drop ((i + 1) * 4 + (flatE (l.drop i)).length)).toArray := ⟨_, rfl⟩
 have hc1s : c1.size = cur.size := by rw [hc1]; simp only [List.size_toArray, List.length_append, List.length_take, List.length_drop, Array.length_toList, hBl]; omega
 obtain ⟨c2, hc2⟩ : ∃ c2, c2 = (c1.toList.take (i * 4) ++ encE x ++ c1.toList.drop (i * 4 + (encE x).length)).toArray := ⟨_, rfl⟩
 have hc2s : c2.size = cur.size := by rw [hc2]; simp only [List.size_toArray, List.length_append, List.length_take, List.length_drop, Array.length_toList, show (encE x).length = 4 from rfl]; omega
 have hfin : c2.toList.take ((l.length + 1) * 4) = flatE L := by
  rw [hc2, hc1, hL, flatE_append, flatE_append, flatE_one]
  simp only []
  refine ins_list cur.toList (flatE (l.take i)) (encE x) (flatE (l.drop i)) i l.length ?_ (by rw [flatE_len, List.length_take]; omega) rfl hBl hin (show (l.length + 1) * 4 ≤ cur.toList.length by have : cur.toList.length = cur.size := Array.length_toList; omega)
  rw [h4, ← flatE_append, List.take_append_drop]
 have hcp1 : ∀ ty dc sc, (Builtin.copy_ #[29, 29] ty #[.slice (some ⟨g, (i + 1) * 4, none⟩) (l.length - i) dc, .slice (some ⟨g, i * 4, none⟩) (l.length + 1 - i) sc]).run Try.prog W.drew = .ok (goInt (Nat.min (l.length + 1 - i) (l.length - i))) (W.drew.setRow g c1) := fun ty dc sc => by
  rw [hc1]
  refine run_copy_rowS W.drew 29 29 ty 35 4 g ((i + 1) * 4) _ dc ⟨g, i * 4, none⟩ _ sc cur 35 (flatE (l.drop i)) Try.underlying29 hsz hg ?_ ?_ (by rw [hBl]; omega) (flatE_one' _)
  ·rw [hBl]; congr 1; simp only [Nat.min_def]; split <;> omega
  ·intro j v hj
   rw [Addr.add_lit]
   show W.cell? _ = _
   rw [cells_of_row hg]
   have hlt := (List.getElem?_eq_some_iff.1 hj).1
   rw [hBl] at hlt
   rw [← flatE_drop, List.getElem?_drop, ← h4, List.getElem?_take_of_lt (by omega), Array.getElem?_toList] at hj
   exact hj
 have hg1 : (W.drew.setRow g c1).heap[g]? = some (.cells c1 35 (0, 0)) := heap_setRow_same (W := W.drew) hg
 have hv1 : (W.drew.setRow g c1).heap[vb]? = some (.cells cv 35 (0, 0)) := (setRow_other W.drew g vb c1 hne).trans hvb
 obtain ⟨W1, hW1⟩ : ∃ W1, W1 = W.drew.setRow g c1 := ⟨_, rfl⟩
 rw [← hW1] at hg1 hv1 hcp1
 have hcp2 : ∀ ty dc, (Builtin.copy_ #[29, 29] ty #[.slice (some ⟨g, i * 4, none⟩) (l.length + 1 - i) dc, .slice (some ⟨vb, 0, none⟩) 1 capv]).run Try.prog W1 = .ok (goInt (Nat.min 1 (l.length + 1 - i))) (W1.setRow g c2) := fun ty dc => by
  rw [hc2]
  refine run_copy_rowS W1 29 29 ty 35 4 g (i * 4) _ dc ⟨vb, 0, none⟩ 1 capv c1 35 (encE x) Try.underlying29 hsz hg1 ?_ (cellsE hv1 hcv) (by rw [show (encE x).length = 4 from rfl]; omega) (encE_one x)
  rw [show (encE x).length = 4 from rfl]; simp only [Nat.min_def]; split <;> omega
 have hlL : L.length = l.length + 1 := by rw [hL]; simp; omega
 have hrow : (W1.setRow g c2).ownsRow base 35 4 (.slice (some ⟨g, 0, none⟩) (l.length + 1) cap) L.length (flatE L) := by
  rw [hlL]
  exact ⟨by rw [flatE_len, hlL], .inr ⟨g, cap, c2, rfl, hbase, heap_setRow_same hg1, h1, h2', by rw [hc2s, h3], hfin⟩⟩
 have hgr : W.grownBy (W1.setRow g c2) (some g) := by
  rw [hW1]
  exact ⟨rfl, rfl, rfl, by simp [World.setRow], fun k hk hne => by
   have : k ≠ g := fun e => hne (by rw [e])
   exact (setRow_other _ g k _ this).trans (setRow_other W.drew g k _ this)⟩
 have HR := Aside0.mk hrow
 have HGR := Aside0.mk hgr
 clear hrow hgr hg1 hv1 hW1 hfin hc1 hc2 hc1s hc2s hBl hg hvb hcv h4 h3 hL hlL h2' hsz
 generalize l.length = n at *
 go_enter Try.func88, Try.ntmps88
 go_wp2_with (simp only [hov])
 go_region_law_o (refine step_copy_runI rfl _ _ 29 29 rfl _ _ (by simp [Act.eval, Act.put]) (by simp [Act.eval, Act.put]) (hcp1 _ _ _) ?_)
 go_wp2_with (at_builtin; refine wpList_copy_runI _ rfl _ _ 29 29 rfl _ _ rfl rfl (hcp2 _ _) ?_)
 go_ret
 exact ⟨_, rfl, HR.out, HGR.out, .inl rfl⟩
theorem ins_list2 (row A X B : List Value) (i n : Nat) (hrow : row.take (i * 4) = A) (hA : A.length = i * 4) (hX : X.length = 4) (hB : B.length = (n - i) * 4) (hi : i ≤ n) :
  (((row.take (i * 4) ++ X ++ row.drop (i * 4 + X.length)).take ((i + 1) * 4) ++ B ++ (row.take (i * 4) ++ X ++ row.drop (i * 4 + X.length)).drop ((i + 1) * 4 + B.length)).take ((n + 1) * 4)) = A ++ X ++ B := by
 have h2 : (row.take (i * 4) ++ X ++ row.drop (i * 4 + X.length)).take ((i + 1) * 4) = A ++ X := by
  rw [hrow, List.take_append_of_le_length (by simp only [List.length_append]; omega), List.take_of_length_le (by simp only [List.length_append]; omega)]
 rw [h2, List.take_append_of_le_length (by simp only [List.length_append]; omega), List.take_of_length_le (by simp only [List.length_append]; omega)]
set_option maxHeartbeats 4000000 in
set_option maxRecDepth 100000 in
theorem ins_grow (g cap : Nat) (cur : Array Value) (l L : List S35) (x : S35) (i : Nat) (W : World) (base vb capv : Nat) (cv : Array Value) (hl : l.length < 1000000) (hi : i < l.length) (hbase : base ≤ W.heap.size) (hg : W.heap[g]? = some (.cells cur 35 (0, 0)))
  (h1 : l.length ≤ cap) (h1' : cap < l.length + 1) (h2 : cap ≤ maxLen) (h3 : cur.size = cap * 4) (h4 : cur.toList.take (l.length * 4) = flatE l) (hvb : W.heap[vb]? = some (.cells cv 35 (0, 0))) (hcv : cv.toList.take 4 = encE x) (hL : L = l.take i ++ [x] ++ l.drop i) :
  Calls Try.prog 88 #[.slice (some ⟨g, 0, none⟩) l.length cap, .int .i64 i, .slice (some ⟨vb, 0, none⟩) 1 capv] W (InsPost base W (.slice (some ⟨g, 0, none⟩) l.length cap) L) := by
 obtain ⟨i0, hi0, hzz⟩ := Option.map_eq_some_iff.1 infoE
 simp only [Prod.mk.injEq] at hzz
 obtain ⟨hz0, hz1, hzb⟩ := hzz
 have h2' := h2
 unfold maxLen at h2
 have hz2 : ¬ ((i : Int) = (l.length : Int)) := by omega
 have hw1 : IntKind.i64.wrap ((i : Int) + 1) = (i : Int) + 1 := by rw [IntKind.wrap_i64]; omega
 have hw2 : IntKind.i64.wrap ((l.length : Int) + 1) = (l.length : Int) + 1 := by rw [IntKind.wrap_i64]; omega
 have hw3 : IntKind.i64.wrap ((l.length : Int) + 1 - (i : Int)) = (l.length : Int) + 1 - (i : Int) := by rw [IntKind.wrap_i64]; omega
 have hb1 : (0 : Int) ≤ (i : Int) + 1 := by omega
 have hin : i ≤ l.length := by omega
 have hin2 : (i : Int) ≤ (l.length : Int) := by omega
 have htn : ((i : Int) + 1).toNat = i + 1 := by omega
 have hb2 : ¬ (cap = i + 1) ∨ True := .inr trivial
 have hb4 : ¬ (cap = i) := by omega
 have hb5 : (cap : Int) < (l.length : Int) + 1 := by omega
 have mixed : Try.prog.follows Departure.mixedOrders = true := by kernel_rfl
 have aom : Try.prog.follows Departure.appendOfMake = true := by kernel_rfl
 have hsz : (Try.prog.info? 35).map (·.size) = some 4 := by kernel_rfl
 have hlt : g < W.heap.size := (Array.getElem?_eq_some_iff.1 hg).1
 have hltv : vb < W.heap.size := (Array.getElem?_eq_some_iff.1 hvb).1
 have hAl : (flatE (l.take i)).length = i * 4 := by rw [flatE_len, List.length_take]; omega
 have hBl : (flatE (l.drop i)).length = (l.length - i) * 4 := by rw [flatE_len, List.length_drop]
 have hkk : (l.length : Int) + 1 - (i : Int) = ((l.length + 1 - i : Nat) : Int) := by omega
 have hik : i + (l.length + 1 - i) = l.length + 1 := by omega
 have hold : (Builtin.firstCells i0.size i (.slice (some ⟨g, 0, none⟩) i cap)).run Try.prog W.drew = .ok (flatE (l.take i)).toArray W.drew := by
  rw [hz1]
  refine run_firstCells_some W.drew 4 i ⟨g, 0, none⟩ i cap (flatE (l.take i)) hAl (fun j v hj => ?_)
  rw [add_plain]
  show W.cell? _ = _
  rw [cells_of_row hg]
  have hjl := (List.getElem?_eq_some_iff.1 hj).1
  rw [hAl] at hjl
  rw [← flatE_take, List.getElem?_take_of_lt hjl, ← h4, List.getElem?_take_of_lt (by omega), Array.getElem?_toList] at hj
  exact hj
 have hrz : ∀ ty, (Builtin.append_ #[29, 3] ty #[.slice (some ⟨g, 0, none⟩) i cap, .int .i64 ((l.length : Int) + 1 - (i : Int))]).run Try.prog W =
   .ok (.slice (some ⟨W.heap.size, 0, none⟩) (l.length + 1) (grownCap W (l.length + 1) cap 35)) (W.drew.alloc (.cells ((flatE (l.take i)).toArray ++ Builtin.zeroCells (Value.agg #[.int .i64 0, .int .i64 0, .bool false, .string ⟨#[]⟩]).cells (l.length + 1 - i) ++ Builtin.zeroCells (Value.agg #[.int .i64 0, .int .i64 0, .bool false, .string ⟨#[]⟩]).cells (grownCap W (l.length + 1) cap 35 - (l.length + 1))) 35)) := fun ty => by
  have h := Lib.run_append_grow_zeros W 29 3 ty 35 i0 _ .i64 .i64 Try.underlying29 Try.underlying3 hi0 hz0 (some ⟨g, 0, none⟩) i cap (flatE (l.take i)) hold (l.length + 1 - i) (by omega) (by omega) (by omega) (by omega) (by rw [hzb]; omega) (by rw [hzb, hik]; exact growslice_fits h1' (by omega))
  rw [hik] at h
  rw [hkk]
  exact h
 have hGn : l.length + 1 ≤ grownCap W (l.length + 1) cap 35 := grownCap_ge W _ _ _
 have hG63 := grownCap_le_maxLen W (l.length + 1) cap 35 (by unfold maxLen; omega)
 obtain ⟨G, hG⟩ : ∃ G, G = grownCap W (l.length + 1) cap 35 := ⟨_, rfl⟩
 rw [← hG] at hrz hGn hG63
 have hG63' := hG63
 unfold maxLen at hG63'
 have hGi1 : ¬ (G = i + 1) := by omega
 have hGi2 : ¬ (G = i) := by omega
 obtain ⟨ROW, hROW⟩ : ∃ ROW : Array Value, ROW = (flatE (l.take i)).toArray ++ Builtin.zeroCells (Value.agg #[.int .i64 0, .int .i64 0, .bool false, .string ⟨#[]⟩]).cells (l.length + 1 - i) ++ Builtin.zeroCells (Value.agg #[.int .i64 0, .int .i64 0, .bool false, .string ⟨#[]⟩]).cells (G - (l.length + 1)) := ⟨_, rfl⟩
 rw [← hROW] at hrz
 have hRs : ROW.size = G * 4 := by
  rw [hROW]
  simp [Builtin.zeroCells, Value.cells, hAl]
  omega
 have hRt : ROW.toList.take (i * 4) = flatE (l.take i) := by
  rw [hROW]
  simp only [Array.toList_append, List.append_assoc]
  rw [List.take_append_of_le_length (by omega), List.take_of_length_le (by omega)]
 obtain ⟨c1, hc1⟩ : ∃ c1, c1 = (ROW.toList.take (i * 4) ++ encE x ++ ROW.toList.drop (i * 4 + (encE x).length)).toArray := ⟨_, rfl⟩
 have hRl : ROW.toList.length = ROW.size := Array.length_toList
 have hc1s : c1.size = ROW.size := by rw [hc1]; simp only [List.size_toArray, List.length_append, List.length_take, List.length_drop, show (encE x).length = 4 from rfl]; omega
 have hc1l : c1.toList.length = c1.size := Array.length_toList
 obtain ⟨c2, hc2⟩ : ∃ c2, c2 = (c1.toList.take ((i + 1) * 4) ++ flatE (l.drop i) ++ c1.toList.drop ((i + 1) * 4 + (flatE (l.drop i)).length)).toArray := ⟨_, rfl⟩
 have hc2s : c2.size = ROW.size := by rw [hc2]; simp only [List.size_toArray, List.length_append, List.length_take, List.length_drop, hBl]; omega
 have hfin : c2.toList.take ((l.length + 1) * 4) = flatE L := by
  rw [hc2, hc1, hL, flatE_append, flatE_append, flatE_one]
  simp only []
  exact ins_list2 ROW.toList (flatE (l.take i)) (encE x) (flatE (l.drop i)) i l.length hRt hAl rfl hBl hin
 obtain ⟨W1, hW1⟩ : ∃ W1, W1 = W.drew.alloc (.cells ROW 35) := ⟨_, rfl⟩
 rw [← hW1] at hrz
 have hN1 : W1.heap[W.heap.size]? = some (.cells ROW 35 (0, 0)) := by rw [hW1]; exact heap_alloc_new W.drew _
 have hold1 : ∀ k, k < W.heap.size → W1.heap[k]? = W.heap[k]? := fun k hk => by rw [hW1]; exact (below_alloc (w := W.drew) (Below.refl _ _) (.cells ROW 35)).block k hk
 have hcpA : ∀ X : World, X.heap = W1.heap → ∀ ty dc, (Builtin.copy_ #[29, 29] ty #[.slice (some ⟨W.heap.size, i * 4, none⟩) (l.length + 1 - i) dc, .slice (some ⟨vb, 0, none⟩) 1 capv]).run Try.prog X = .ok (goInt (Nat.min 1 (l.length + 1 - i))) (X.setRow W.heap.size c1) := fun X hX ty dc => by
  rw [hc1]
  refine run_copy_rowS X 29 29 ty 35 4 W.heap.size (i * 4) _ dc ⟨vb, 0, none⟩ 1 capv ROW 35 (encE x) Try.underlying29 hsz (by rw [hX]; exact hN1) ?_ (cellsE (W := X) (by rw [hX, hold1 vb hltv]; exact hvb) hcv) (by rw [show (encE x).length = 4 from rfl]; omega) (encE_one x)
  rw [show (encE x).length = 4 from rfl]; simp only [Nat.min_def]; split <;> omega
 have hcpB : ∀ X : World, X.heap = (W1.setRow W.heap.size c1).heap → ∀ ty dc sc, (Builtin.copy_ #[29, 29] ty #[.slice (some ⟨W.heap.size, (i + 1) * 4, none⟩) (l.length - i) dc, .slice (some ⟨g, i * 4, none⟩) (l.length - i) sc]).run Try.prog X = .ok (goInt (Nat.min (l.length - i) (l.length - i))) (X.setRow W.heap.size c2) := fun X hX ty dc sc => by
  rw [hc2]
  refine run_copy_rowS X 29 29 ty 35 4 W.heap.size ((i + 1) * 4) _ dc ⟨g, i * 4, none⟩ _ sc c1 35 (flatE (l.drop i)) Try.underlying29 hsz (by rw [hX]; exact heap_setRow_same hN1) (by rw [hBl]; congr 1; simp only [Nat.min_def]; split <;> omega) ?_ (by rw [hBl]; omega) (flatE_one' _)
  intro j v hj
  have hgX : X.heap[g]? = some (.cells cur 35 (0, 0)) := by rw [hX, setRow_other _ _ g _ (by omega), hold1 g hlt]; exact hg
  rw [Addr.add_lit, cells_of_row hgX]
  have hlt := (List.getElem?_eq_some_iff.1 hj).1
  rw [hBl] at hlt
  rw [← flatE_drop, List.getElem?_drop, ← h4, List.getElem?_take_of_lt (by omega), Array.getElem?_toList] at hj
  exact hj
 have hlL : L.length = l.length + 1 := by rw [hL]; simp; omega
 have hrow : ∀ X : World, X.heap = ((W1.setRow W.heap.size c1).setRow W.heap.size c2).heap → X.ownsRow base 35 4 (.slice (some ⟨W.heap.size, 0, none⟩) (l.length + 1) G) L.length (flatE L) := fun X hX => by
  rw [hlL]
  exact ⟨by rw [flatE_len, hlL], .inr ⟨W.heap.size, G, c2, rfl, hbase, by rw [hX]; exact heap_setRow_same (heap_setRow_same hN1), hGn, hG63, by rw [hc2s, hRs], hfin⟩⟩
 have HR := Aside0.mk hrow
 have HW1 := Aside0.mk hW1
 have hcB2 : ∀ X : World, X.heap = W1.heap → ∀ ty dc sc, (Builtin.copy_ #[29, 29] ty #[.slice (some ⟨W.heap.size, (i + 1) * 4, none⟩) (l.length - i) dc, .slice (some ⟨g, i * 4, none⟩) (l.length - i) sc]).run Try.prog (X.setRow W.heap.size c1).drew = .ok (goInt (Nat.min (l.length - i) (l.length - i))) ((X.setRow W.heap.size c1).drew.setRow W.heap.size c2) := fun X hX ty dc sc => hcpB _ (by show (X.setRow W.heap.size c1).heap = _; simp only [World.setRow, hX]) ty dc sc
 have hN := Aside0.mk hN1
 have hO1 := Aside0.mk hold1
 have hcA := fun ty dc => hcpA W1 rfl ty dc
 have hcB := fun ty dc sc => hcB2 W1 rfl ty dc sc
 clear hrow hfin hc1 hc2 hc1s hc2s hBl hAl hg hvb hcv h4 h3 hL hlL h2' hsz hROW hRs hRt hRl hc1l hG hG63 hold hi0 hz0 hz1 hzb hN1 hold1 hcpA hcpB hcB2 hW1 hkk hik
 generalize l.length = n at *
 go_enter Try.func88, Try.ntmps88
 go_wp2_with (at_builtin; refine Lib.wpList_append_run _ rfl _ _ _ _ rfl _ _ rfl rfl _ _ (hrz _) ?_)
 go_region_law_o (refine step_copy_runI rfl _ _ 29 29 rfl _ _ (by simp [Act.eval, Act.put]) (by simp [Act.eval, Act.put]) (hcB _ _ _) ?_)
 go_wp2
 go_ret
 refine ⟨_, rfl, HR.out _ rfl, ⟨?_, ?_, ?_, ?_, ?_⟩, .inr ⟨W.heap.size, rfl, Nat.le_refl _⟩⟩
 ·rw [HW1.out]; rfl
 ·rw [HW1.out]; rfl
 ·rw [HW1.out]; rfl
 ·simp [World.setRow]; rw [HW1.out]; simp [World.alloc]
 ·intro k hk hne
  rw [setRow_other _ _ k _ (by omega)]
  show (W1.setRow W.heap.size c1).heap[k]? = _
  rw [setRow_other _ _ k _ (by omega)]
  exact hO1.out k hk
theorem ins_any (v : Value) (l : List S35) (x : S35) (i : Nat) (W : World) (base vb capv : Nat) (cv : Array Value) (hl : l.length < 1000000) (hi : i ≤ l.length) (hbase : base ≤ W.heap.size) (hO : W.ownsRow base 35 4 v l.length (flatE l)) (hvb : W.heap[vb]? = some (.cells cv 35 (0, 0))) (hcv : cv.toList.take 4 = encE x) (hne : v.ownBlock ≠ some vb) :
  Calls Try.prog 88 #[v, .int .i64 i, .slice (some ⟨vb, 0, none⟩) 1 capv] W (InsPost base W v (l.take i ++ [x] ++ l.drop i)) := by
 by_cases hn : i = l.length
 ·subst hn
  rw [List.take_length, List.drop_length, List.append_nil]
  exact ins_end v l x W base vb capv cv hl hbase hO hvb hcv
 ·have hO2 := hO
  obtain ⟨_, ⟨hv, h0⟩ | ⟨g, cap, cur, hv, hg, hb, h1, h2, h3, h4⟩⟩ := hO2
  ·omega
  ·subst hv
   by_cases hr : l.length + 1 ≤ cap
   ·exact ins_shift g cap cur l _ x i W base vb capv cv hl (by omega) hg hb hr h2 h3 h4 hvb hcv (fun e => hne (by rw [e]; rfl)) rfl
   ·exact ins_grow g cap cur l _ x i W base vb capv cv hl (by omega) hbase hb h1 (by omega) h2 h3 h4 hvb hcv rfl
def impl_Entry.f (l0 : List S35) (a1 : Int) (l2 : List S35) : Option (List S35 × List S35) := if 0 ≤ a1 ∧ a1 ≤ (l0.length : Int) ∧ l0.length < 1000000 ∧ l2.length = 1 then (some (l0.take a1.toNat ++ l2 ++ l0.drop a1.toNat, l2)) else (none)
set_option maxHeartbeats 8000000 in
set_option maxRecDepth 100000 in
theorem impl_Entry.calls (P0_ : Nat → Prop) (u9000_ : Value) (l0 : List S35) (a1 : Int) (P2_ : Nat → Prop) (u9001_ : Value) (l2 : List S35) (r1 : List S35) (r2 : List S35) (w0 w : World) (hB : Below w0.heap.size w0 w) (ho0 : Kd.R k35 35 w w0.heap.size P0_ u9000_ l0) (hp0_2 : ∀ k_, P0_ k_ → ¬ P2_ k_) (ho2 : Kd.R k35 35 w w0.heap.size P2_ u9001_ l2) (hp2_0 : ∀ k_, P2_ k_ → ¬ P0_ k_) (h : impl_Entry.f l0 a1 l2 = some (r1, r2)) :
  Calls Try.prog 88 #[u9000_, .int .i64 a1, u9001_] w fun e w' => ∃ v0_ : Value, e = .returned (v0_) ∧ Kd.R k35 35 w' w0.heap.size (fun k_ => ((P0_ k_ ∨ P2_ k_) ∨ w.heap.size ≤ k_) ∧ some k_ ≠ (u9001_ : Value).ownBlock) v0_ r1 ∧ Kd.R k35 35 w' w0.heap.size (fun k_ => ((P0_ k_ ∨ P2_ k_) ∨ w.heap.size ≤ k_)) u9001_ r2 ∧ Below w0.heap.size w0 w' ∧ Kept w w' (fun k_ => P0_ k_ ∨ P2_ k_) := by
 unfold impl_Entry.f at h
 by_cases hl : 0 ≤ a1 ∧ a1 ≤ (l0.length : Int) ∧ l0.length < 1000000 ∧ l2.length = 1
 ·rw [if_pos hl] at h
  simp only [Option.some.injEq, Prod.mk.injEq] at h
  obtain ⟨rfl, rfl⟩ := h
  obtain ⟨i, rfl⟩ := Int.eq_ofNat_of_zero_le hl.1
  obtain ⟨x, rfl⟩ : ∃ x, l2 = [x] := by
   cases l2 with
   | nil => exact absurd hl.2.2.2 (by simp)
   | cons x t => cases t with
    | nil => exact ⟨x, rfl⟩
    | cons y t => exact absurd hl.2.2.2 (by simp)
  have hO := own_of_RE ho0
  have hO2 := own_of_RE ho2
  have hO2' := hO2
  obtain ⟨_, ⟨hv, h0⟩ | ⟨g, cap, cur, hv, hg, hb, h1, h2, h3, h4⟩⟩ := hO2'
  ·simp at h0
  subst hv
  rw [Int.toNat_natCast]
  have hcv : cur.toList.take 4 = encE x := by
   rw [flatE_one] at h4
   simpa using h4
  have hne : u9000_.ownBlock ≠ some g := fun e => hp0_2 g (ho0.1 g e) (ho2.1 g rfl)
  refine Calls.mono (ins_any u9000_ l0 x i w w0.heap.size g cap cur hl.2.2.1 (by omega) hB.size hO hb hcv hne) ?_
  rintro e w' ⟨v', rfl, ho, hgr, hat⟩
  have hk0 : ∀ k, u9000_.ownBlock = some k → w0.heap.size ≤ k := fun k hk => own_base hO k hk
  refine ⟨v', rfl, R_of_ownE ho (fun k hk => ?_), ?_, pw_below_grown hB u9000_.ownBlock hB.size hgr hk0, hgr.size, ?_⟩
  ·rcases hat with hat | ⟨k', hk', hle⟩
   ·rw [hat] at hk
    exact ⟨.inl (.inl (ho0.1 k hk)), fun e => hne (by rw [hk, e]; rfl)⟩
   ·rw [hk'] at hk
    cases hk
    exact ⟨.inr hle, fun e => by
     have : k = g := by simpa [Value.ownBlock] using e
     have hlt : g < w.heap.size := (Array.getElem?_eq_some_iff.1 hb).1
     omega⟩
  ·exact Kd.R_mono (Kd.R_grown ho2 hgr (fun k hk e => hp2_0 k hk (ho0.1 k e.symm))) (fun k hk => .inl (.inr hk))
  ·intro k hk hnp
   exact hgr.block k hk (fun e => hnp (.inl (ho0.1 k e.symm)))
 ·rw [if_neg hl] at h
  exact absurd h (by simp)

/-! ### impl_Better: function 89 -/
def impl_Better.f (a0_0 : Int) (a0_1 : Int) (a0_2 : Bool) (a0_3 : ByteArray) (a1_0 : Int) (a1_1 : Int) (a1_2 : Bool) (a1_3 : ByteArray) : Option (Int × Int × Bool × ByteArray) := if a1_1 > a0_1 then (some (a1_0, a1_1, a1_2, a1_3)) else (some (a0_0, a0_1, a0_2, a0_3))
set_option maxHeartbeats 8000000 in
set_option maxRecDepth 100000 in
theorem impl_Better.calls (a0_0 : Int) (a0_1 : Int) (a0_2 : Bool) (a0_3 : ByteArray) (a1_0 : Int) (a1_1 : Int) (a1_2 : Bool) (a1_3 : ByteArray) (r1 : Int) (r2 : Int) (r3 : Bool) (r4 : ByteArray) (w : World) (h : impl_Better.f a0_0 a0_1 a0_2 a0_3 a1_0 a1_1 a1_2 a1_3 = some (r1, r2, r3, r4)) :
  Calls Try.prog 89 #[.agg #[.int .i64 a0_0, .int .i64 a0_1, .bool a0_2, .string a0_3], .agg #[.int .i64 a1_0, .int .i64 a1_1, .bool a1_2, .string a1_3]] w fun e w' => e = .returned (.agg #[.int .i64 r1, .int .i64 r2, .bool r3, .string r4]) ∧ Below w.heap.size w w' := by
 have hu35 := Try.underlying35
 have HB := Aside0.mk (Below.refl w.heap.size w)
 have H : (if a1_1 > a0_1 then (some (a1_0, a1_1, a1_2, a1_3)) else (some (a0_0, a0_1, a0_2, a0_3))) = some (r1, r2, r3, r4) := h
 clear h
 by_cases c3 : a1_1 > a0_1
 ·rw [if_pos c3] at H
  have c3b0 : decide (a0_1 < a1_1) = true := decide_eq_true c3
  clear c3
  simp only [Option.some.injEq, Prod.mk.injEq] at H
  obtain ⟨rfl, rfl, rfl, rfl⟩ := H
  go_enter Try.func89, Try.ntmps89
  go_wp2_with (first | ((with_reducible refine gate_dst (N := 2) rfl ?_); refine BE 2 #[.int .i64 a0_0, .int .i64 a0_1, .bool a0_2, .string a0_3] 35 ?_; intro gb544 hg w4 hbox hb; have h_ := P4 (below_step KB hb) hbox (KG hg : w.heap.size ≤ gb544) (KG hg : w.heap.size ≤ gb544); clear HB; obtain ⟨HB, BK544, GW544, GE544⟩ := h_; clear hb hbox hg) | ((with_reducible refine gate_dst (N := 3) rfl ?_); refine BE 3 #[.int .i64 a1_0, .int .i64 a1_1, .bool a1_2, .string a1_3] 35 ?_; intro gb545 hg w5 hbox hb; have h_ := P7 (BL BK544.out hb) (below_step KB hb) hbox (KG hg : w.heap.size ≤ gb545) (KG hg : w.heap.size ≤ gb545) (NX hg BK544.out) (Ne.symm (NX hg BK544.out)); clear BK544 HB; obtain ⟨BK544, HB, BK545, GW545, GE545, NB544_545, NB545_544⟩ := h_; clear hb hbox hg) | ((with_reducible refine gate_dst (N := 4) rfl ?_); refine BE 4 #[.int .i64 0, .int .i64 0, .bool false, .string (⟨#[]⟩ : ByteArray)] 35 ?_; intro gb546 hg w6 hbox hb; have h_ := P10 (BL BK544.out hb) (BL BK545.out hb) (below_step KB hb) hbox (KG hg : w.heap.size ≤ gb546) (KG hg : w.heap.size ≤ gb546) (NX hg BK544.out) (Ne.symm (NX hg BK544.out)) (NX hg BK545.out) (Ne.symm (NX hg BK545.out)); clear BK544 BK545 HB; obtain ⟨BK544, BK545, HB, BK546, GW546, GE546, NB544_546, NB546_544, NB545_546, NB546_545⟩ := h_; clear hb hbox hg; have hnb7 := NB545_544.out; have hnc7 := NB544_545.out; have hnb8 := NB545_546.out; have hnc8 := NB546_545.out; obtain ⟨hcz9_0, hcz9_1, hcz9_2, hcz9_3, hfz9_0, hfz9_1, hfz9_2, hfz9_3⟩ := C4 BK545.out; have hnb10 := NB544_546.out; have hnc10 := NB546_544.out; obtain ⟨hcz11_0, hcz11_1, hcz11_2, hcz11_3, hfz11_0, hfz11_1, hfz11_2, hfz11_3⟩ := C4 BK544.out; obtain ⟨hcz12_0, hcz12_1, hcz12_2, hcz12_3, hfz12_0, hfz12_1, hfz12_2, hfz12_3⟩ := C4 BK546.out))
  refine bodyPost_ret (results_cell_row rfl _ _ gb546 35 #[.int .i64 a1_0, .int .i64 a1_1, .bool a1_2, .string a1_3] (0, 0) _ rfl (by refine SK ?_; refine blk_put (cs := #[.int .i64 a1_0, .int .i64 a1_1, .bool a1_2, .string (⟨#[]⟩ : ByteArray)]) ?_ 3 _ rfl; refine SK ?_; refine blk_put (cs := #[.int .i64 a1_0, .int .i64 a1_1, .bool false, .string (⟨#[]⟩ : ByteArray)]) ?_ 2 _ rfl; refine SK ?_; refine blk_put (cs := #[.int .i64 a1_0, .int .i64 0, .bool false, .string (⟨#[]⟩ : ByteArray)]) ?_ 1 _ rfl; refine SK ?_; refine blk_put (cs := #[.int .i64 0, .int .i64 0, .bool false, .string (⟨#[]⟩ : ByteArray)]) ?_ 0 _ rfl; exact SK BK546.out) Try.underlying35 rfl (by kernel_rfl)) rfl ?_
  exact ⟨KE, KB⟩
 ·rw [if_neg c3] at H
  have c3b0 : decide (a0_1 < a1_1) = false := decide_eq_false c3
  clear c3
  simp only [Option.some.injEq, Prod.mk.injEq] at H
  obtain ⟨rfl, rfl, rfl, rfl⟩ := H
  go_enter Try.func89, Try.ntmps89
  go_wp2_with (first | ((with_reducible refine gate_dst (N := 2) rfl ?_); refine BE 2 #[.int .i64 a0_0, .int .i64 a0_1, .bool a0_2, .string a0_3] 35 ?_; intro gb544 hg w13 hbox hb; have h_ := P4 (below_step KB hb) hbox (KG hg : w.heap.size ≤ gb544) (KG hg : w.heap.size ≤ gb544); clear HB; obtain ⟨HB, BK544, GW544, GE544⟩ := h_; clear hb hbox hg) | ((with_reducible refine gate_dst (N := 3) rfl ?_); refine BE 3 #[.int .i64 a1_0, .int .i64 a1_1, .bool a1_2, .string a1_3] 35 ?_; intro gb545 hg w14 hbox hb; have h_ := P7 (BL BK544.out hb) (below_step KB hb) hbox (KG hg : w.heap.size ≤ gb545) (KG hg : w.heap.size ≤ gb545) (NX hg BK544.out) (Ne.symm (NX hg BK544.out)); clear BK544 HB; obtain ⟨BK544, HB, BK545, GW545, GE545, NB544_545, NB545_544⟩ := h_; clear hb hbox hg) | ((with_reducible refine gate_dst (N := 4) rfl ?_); refine BE 4 #[.int .i64 0, .int .i64 0, .bool false, .string (⟨#[]⟩ : ByteArray)] 35 ?_; intro gb546 hg w15 hbox hb; have h_ := P10 (BL BK544.out hb) (BL BK545.out hb) (below_step KB hb) hbox (KG hg : w.heap.size ≤ gb546) (KG hg : w.heap.size ≤ gb546) (NX hg BK544.out) (Ne.symm (NX hg BK544.out)) (NX hg BK545.out) (Ne.symm (NX hg BK545.out)); clear BK544 BK545 HB; obtain ⟨BK544, BK545, HB, BK546, GW546, GE546, NB544_546, NB546_544, NB545_546, NB546_545⟩ := h_; clear hb hbox hg; have hnb16 := NB545_544.out; have hnc16 := NB544_545.out; have hnb17 := NB545_546.out; have hnc17 := NB546_545.out; obtain ⟨hcz18_0, hcz18_1, hcz18_2, hcz18_3, hfz18_0, hfz18_1, hfz18_2, hfz18_3⟩ := C4 BK545.out; have hnb19 := NB544_546.out; have hnc19 := NB546_544.out; obtain ⟨hcz20_0, hcz20_1, hcz20_2, hcz20_3, hfz20_0, hfz20_1, hfz20_2, hfz20_3⟩ := C4 BK544.out; obtain ⟨hcz21_0, hcz21_1, hcz21_2, hcz21_3, hfz21_0, hfz21_1, hfz21_2, hfz21_3⟩ := C4 BK546.out))
  refine bodyPost_ret (results_cell_row rfl _ _ gb546 35 #[.int .i64 a0_0, .int .i64 a0_1, .bool a0_2, .string a0_3] (0, 0) _ rfl (by refine SK ?_; refine blk_put (cs := #[.int .i64 a0_0, .int .i64 a0_1, .bool a0_2, .string (⟨#[]⟩ : ByteArray)]) ?_ 3 _ rfl; refine SK ?_; refine blk_put (cs := #[.int .i64 a0_0, .int .i64 a0_1, .bool false, .string (⟨#[]⟩ : ByteArray)]) ?_ 2 _ rfl; refine SK ?_; refine blk_put (cs := #[.int .i64 a0_0, .int .i64 0, .bool false, .string (⟨#[]⟩ : ByteArray)]) ?_ 1 _ rfl; refine SK ?_; refine blk_put (cs := #[.int .i64 0, .int .i64 0, .bool false, .string (⟨#[]⟩ : ByteArray)]) ?_ 0 _ rfl; exact SK BK546.out) Try.underlying35 rfl (by kernel_rfl)) rfl ?_
  exact ⟨KE, KB⟩

/-! ### impl_kept: function 64 -/
def impl_kept.f (l0 : List (S35)) (a1_0 : Int) (a1_1 : Int) (a1_2 : Bool) (a1_3 : ByteArray) : Option ((List (S35))) := (impl_placeIn.f l0 a1_0).bind fun bt548 => (if bt548.2 = true then (if 0 ≤ bt548.1 then (if bt548.1 < (l0.length : Int) then ((impl_Better.f ((rd_T35 l0 bt548.1).f0) ((rd_T35 l0 bt548.1).f1) ((rd_T35 l0 bt548.1).f2) ((rd_T35 l0 bt548.1).f3) a1_0 a1_1 a1_2 a1_3).bind fun bt551 => (some (l0.set (bt548.1 : Int).toNat (⟨bt551.1, bt551.2.1, bt551.2.2.1, bt551.2.2.2⟩ : S35)))) else (none)) else (none)) else ((impl_Entry.f l0 bt548.1 (([(⟨a1_0, a1_1, a1_2, a1_3⟩ : S35)] : List (S35)))).bind fun bt559 => (some bt559.1)))
def impl_kept.T4 : Bool × List (List Nat × List Nat) := (true, [([], []), ([], []), ([], []), ([], []), ([2, 3], [2, 3]), ([4], [4]), ([], []), ([5, 6], [5, 6]), ([0, 1, 0, 1, 2, 3, 4, 5, 6, 7], [0, 1]), ([8, 7, 7, 0, 1, 2, 3, 4, 5, 6, 7], [7, 8])])
def impl_kept.B4 : List Nat := [0, 0, 0, 0, 12, 28, 0, 124, 255, 511]
theorem impl_kept.tab4 : rtab .any (opsOf Try.f64 4) = impl_kept.T4 := by kernel_rfl
theorem impl_kept.bits4 : waitsOk impl_kept.T4.2 impl_kept.B4 = true := by kernel_rfl
set_option maxHeartbeats 8000000 in
set_option maxRecDepth 100000 in
theorem impl_kept.calls (P0_ : Nat → Prop) (u9000_ : Value) (l0 : List (S35)) (a1_0 : Int) (a1_1 : Int) (a1_2 : Bool) (a1_3 : ByteArray) (r : List (S35)) (w0 w : World) (hB : Below w0.heap.size w0 w) (ho0 : Kd.R k35 35 w w0.heap.size P0_ u9000_ l0) (h : impl_kept.f l0 a1_0 a1_1 a1_2 a1_3 = some r) :
  Calls Try.prog 64 #[u9000_, .agg #[.int .i64 a1_0, .int .i64 a1_1, .bool a1_2, .string a1_3]] w fun e w' => ∃ v0_ : Value, e = .returned (v0_) ∧ Kd.R k35 35 w' w0.heap.size (fun k_ => (P0_ k_ ∨ w.heap.size ≤ k_)) v0_ r ∧ Below w0.heap.size w0 w' ∧ Kept w w' (fun k_ => P0_ k_) := by
 have hu35 := Try.underlying35
 have HO0 := Aside0.mk (show Kd.R k35 35 w w0.heap.size (fun k_ => (P0_ k_ ∨ w.heap.size ≤ k_)) u9000_ l0 from Kd.R_mono ho0 (fun k_ hk => (.inl hk)))
 have HK := Aside0.mk (Kept.refl w (fun k_ => P0_ k_))
 have HW0 := Aside0.mk hB.size
 have HB := Aside0.mk hB
 clear hB
 have H : ((impl_placeIn.f l0 a1_0).bind fun bt548 => (if bt548.2 = true then (if 0 ≤ bt548.1 then (if bt548.1 < (l0.length : Int) then ((impl_Better.f ((rd_T35 l0 bt548.1).f0) ((rd_T35 l0 bt548.1).f1) ((rd_T35 l0 bt548.1).f2) ((rd_T35 l0 bt548.1).f3) a1_0 a1_1 a1_2 a1_3).bind fun bt551 => (some (l0.set (bt548.1 : Int).toNat (⟨bt551.1, bt551.2.1, bt551.2.2.1, bt551.2.2.2⟩ : S35)))) else (none)) else (none)) else ((impl_Entry.f l0 bt548.1 (([(⟨a1_0, a1_1, a1_2, a1_3⟩ : S35)] : List (S35)))).bind fun bt559 => (some bt559.1)))) = some r := h
 clear h
 replace H := Option.bind_eq_some_iff.mp H
 obtain ⟨⟨t548, t549⟩, A30, H⟩ := H
 replace H : (if t549 = true then (if 0 ≤ t548 then (if t548 < (l0.length : Int) then ((impl_Better.f ((rd_T35 l0 t548).f0) ((rd_T35 l0 t548).f1) ((rd_T35 l0 t548).f2) ((rd_T35 l0 t548).f3) a1_0 a1_1 a1_2 a1_3).bind fun bt551 => (some (l0.set (t548 : Int).toNat (⟨bt551.1, bt551.2.1, bt551.2.2.1, bt551.2.2.2⟩ : S35)))) else (none)) else (none)) else ((impl_Entry.f l0 t548 (([(⟨a1_0, a1_1, a1_2, a1_3⟩ : S35)] : List (S35)))).bind fun bt559 => (some bt559.1))) = some r := H
 have A3 := Aside0.mk A30
 clear A30
 by_cases c4 : t549 = true
 ·subst c4
  have H1 : (if 0 ≤ t548 then (if t548 < (l0.length : Int) then ((impl_Better.f ((rd_T35 l0 t548).f0) ((rd_T35 l0 t548).f1) ((rd_T35 l0 t548).f2) ((rd_T35 l0 t548).f3) a1_0 a1_1 a1_2 a1_3).bind fun bt551 => (some (l0.set (t548 : Int).toNat (⟨bt551.1, bt551.2.1, bt551.2.2.1, bt551.2.2.2⟩ : S35)))) else (none)) else (none)) = some r := by rw [if_pos rfl] at H; exact H
  clear H
  have H := H1
  clear H1
  by_cases c5 : 0 ≤ t548
  ·rw [if_pos c5] at H
   have c5b0 : decide (0 ≤ t548) = true := decide_eq_true c5
   clear c5
   by_cases c6 : t548 < (l0.length : Int)
   ·rw [if_pos c6] at H
    have c6b0 : decide (t548 < (l0.length : Int)) = true := decide_eq_true c6
    clear c6
    replace H := Option.bind_eq_some_iff.mp H
    obtain ⟨⟨t551, t552, t553, t554⟩, A70, H⟩ := H
    replace H : (some (l0.set (t548 : Int).toNat (⟨t551, t552, t553, t554⟩ : S35))) = some r := H
    have A7 := Aside0.mk A70
    clear A70
    obtain ⟨y555, hy555⟩ : ∃ y_ : List (S35), y_ = (l0.set (t548 : Int).toNat (⟨t551, t552, t553, t554⟩ : S35)) := ⟨_, rfl⟩
    replace H : (some y555) = some r := by first | (rw [hy555]; with_reducible exact H) | (have H2_ := (Option.bind_some _ _).symm.trans H; rw [hy555]; with_reducible exact H2_) | (have H2_ := (Option.bind_some _ _).symm.trans H; with_reducible exact H2_) | with_reducible exact H | (rw [hy555]; exact H) | exact H
    have Ny555 := Aside0.mk hy555
    clear hy555
    obtain rfl := Option.some.inj H
    go_enter Try.func64, Try.ntmps64
    try go_wp2_with (first | ((with_reducible refine gate_dst (N := 3) rfl ?_); refine BE 3 #[.int .i64 a1_0, .int .i64 a1_1, .bool a1_2, .string a1_3] 35 ?_; intro gb547 hg w9 hbox hb; have h_ := P6 (Kd.R_below (Kd.R_elderB (KR HO0.out) gb547 (Nat.le_of_eq hg.symm)) hb) (Kept.below (S := (fun k_ => P0_ k_)) KH hb) (below_step KB hb) hbox (by rw [hg]; exact (by first | exact HK.out.1 | exact (show Kept w _ (fun k_ => P0_ k_) from KH).1) : w.heap.size ≤ gb547) (by rw [hg]; exact (below_size KB) : w0.heap.size ≤ gb547); clear HO0 HK HB; obtain ⟨HO0, HK, HB, BK547, GW547, GE547⟩ := h_; clear hb hbox hg; obtain ⟨hcz10_0, hcz10_1, hcz10_2, hcz10_3, hfz10_0, hfz10_1, hfz10_2, hfz10_3⟩ := C4 BK547.out; obtain ⟨Ao11, co11, eo11⟩ := Kd.R_slice HO0.out; subst eo11) | ((with_reducible refine gate_callee (f := 59) rfl ?_); refine goesL_ (some 11) rfl rfl Try.func59 (by kernel_rfl) rfl #[.slice Ao11 l0.length co11, .int .i64 a1_0] rfl KL ?_; (with_reducible refine (impl_placeIn.calls _ _ l0 a1_0 t548 true _ ?side1 ?side2 A3.out).mono ?_); (case side1 => repeat (first | exact (Kd.R_reads' HO0.out).2.2 | (with_reducible refine Kd.C_alloc ?_ _) | (with_reducible refine Kd.C_drewN ?_ _) | (with_reducible refine Kd.C_drew ?_))); (case side2 => exact (Kd.R_reads' HO0.out).2.1); rintro e w12 ⟨rfl, hb⟩; refine ⟨_, rfl, ?_⟩; have h_ := P4 (Kd.R_below (KR HO0.out) hb) (BL BK547.out hb) (Kept.below (S := (fun k_ => P0_ k_)) (by repeat (first | (with_reducible first | exact HK.out | apply Kept.alloc | apply Kept.drewN | apply Kept.drew | refine Kept.setCell ?_ (.inr GW547.out) _) | exact HK.out)) hb) (below_step (KBh HB.out) hb); clear HO0 BK547 HK HB; obtain ⟨HO0, BK547, HK, HB⟩ := h_; (try clear hb); (try clear hk); (try clear hi)))
    have h_ := P4 (Kd.R_drew HO0.out) (blk_drew BK547.out) (Kept.drew HK.out) (below_drew1 HB.out)
    clear HO0 BK547 HK HB
    obtain ⟨HO0, BK547, HK, HB⟩ := h_
    have p550 : 0 ≤ (t548 : Int) := of_decide_eq_true (by first | (with_reducible assumption) | assumption)
    have q550 : t548 < (l0.length : Int) := of_decide_eq_true (by first | (with_reducible assumption) | assumption)
    obtain ⟨ad550, e550, hx550_0, hx550_1, hx550_2, hx550_3⟩ := at_T35 (Kd.R_reads' HO0.out).2.2 t548 p550 q550
    cases e550
    replace p550 := eq_true p550
    replace q550 := eq_true q550
    refine start_ (n := 10) (S := fun w' => w'.cell? ⟨gb547, 0, none⟩ = some (.int .i64 a1_0) ∧ w'.cell? ⟨gb547, 1, none⟩ = some (.int .i64 a1_1) ∧ w'.cell? ⟨gb547, 2, none⟩ = some (.bool a1_2) ∧ w'.cell? ⟨gb547, 3, none⟩ = some (.string a1_3) ∧ w'.cell? (ad550.add ((t548).toNat * 4)) = some (.int .i64 ((rd_T35 l0 t548).f0)) ∧ w'.cell? ⟨(ad550.add ((t548).toNat * 4)).block, (ad550.add ((t548).toNat * 4)).off + 1, none⟩ = some (.int .i64 ((rd_T35 l0 t548).f1)) ∧ w'.cell? ⟨(ad550.add ((t548).toNat * 4)).block, (ad550.add ((t548).toNat * 4)).off + 2, none⟩ = some (.bool ((rd_T35 l0 t548).f2)) ∧ w'.cell? ⟨(ad550.add ((t548).toNat * 4)).block, (ad550.add ((t548).toNat * 4)).off + 3, none⟩ = some (.string ((rd_T35 l0 t548).f3))) (ds := [9]) #[false, false, false, false, false, false, false, false, false, false] (by kernel_rfl) rfl rfl ⟨(blk_cell BK547.out 0).trans rfl, (blk_cell BK547.out 1).trans rfl, (blk_cell BK547.out 2).trans rfl, (blk_cell BK547.out 3).trans rfl, hx550_0, hx550_1, hx550_2, hx550_3⟩ (fun hHeld => ?_); refine with_tabW impl_kept.tab4 impl_kept.bits4 (fun HT_ HW_ => ?_)
    generalize w12.drew = w13 at HO0 BK547 HK HB hx550_0 hx550_1 hx550_2 hx550_3 hHeld ⊢
    refine pure_ (i := 0) (N := some 21) (v := ?_) (a' := ?_) #[true, false, false, false, false, false, false, false, false, false] rfl rfl (any_of HT_.out (by kernel_rfl)) (fun _ _ _ h => h) (Or.inl ⟨by rfl, ?_⟩) ?_ ?_
    rotate_left
    ·intro w'
     go_simp
     with_reducible rfl
    rotate_left
    ·exact KA
    refine pure_ (i := 1) (N := some 22) (v := ?_) (a' := ?_) #[true, true, false, false, false, false, false, false, false, false] rfl rfl (any_of HT_.out (by kernel_rfl)) (fun _ _ _ h => h) (Or.inl ⟨by rfl, ?_⟩) ?_ ?_
    rotate_left
    ·intro w'
     go_simp
     with_reducible rfl
    rotate_left
    ·exact KA
    refine pure_ (i := 2) (N := some 23) (v := ?_) (a' := ?_) #[true, true, true, false, false, false, false, false, false, false] rfl rfl (any_of HT_.out (by kernel_rfl)) (fun _ _ _ h => h) (Or.inl ⟨by rfl, ?_⟩) ?_ ?_
    rotate_left
    ·intro w'
     go_simp
     with_reducible rfl
    rotate_left
    ·exact KA
    refine pure_ (i := 3) (N := some 24) (v := ?_) (a' := ?_) #[true, true, true, true, false, false, false, false, false, false] rfl rfl (any_of HT_.out (by kernel_rfl)) (fun _ _ _ h => h) (Or.inl ⟨by rfl, ?_⟩) ?_ ?_
    rotate_left
    ·intro w'
     go_simp
     with_reducible rfl
    rotate_left
    ·exact KA
    refine pure_ (i := 4) (N := some 25) (v := ?_) (a' := ?_) #[true, true, true, true, true, false, false, false, false, false] rfl rfl (any_of HT_.out (by kernel_rfl)) (fun _ _ _ h => h) (Or.inl ⟨by rfl, ?_⟩) ?_ ?_
    rotate_left
    ·intro w'
     go_simp
     with_reducible rfl
    rotate_left
    ·exact KA
    refine take_ (i := 5) (N := some 26) (v := ?_) (a' := ?_) #[true, true, true, true, true, true, false, false, false, false] rfl rfl (take_ofW HT_.out HW_.out (by kernel_rfl)) (fun _ _ _ h => h) (Or.inl ⟨by rfl, ?_⟩) hHeld ?_ ?_
    rotate_left
    ·rintro w' ⟨s0, s1, s2, s3, s4, s5, s6, s7⟩
     go_simp
     with_reducible rfl
    rotate_left
    ·exact KA
    refine take_ (i := 6) (N := some 27) (v := ?_) (a' := ?_) #[true, true, true, true, true, true, true, false, false, false] rfl rfl (take_ofW HT_.out HW_.out (by kernel_rfl)) (fun _ _ _ h => h) (Or.inl ⟨by rfl, ?_⟩) hHeld ?_ ?_
    rotate_left
    ·rintro w' ⟨s0, s1, s2, s3, s4, s5, s6, s7⟩
     go_simp
     with_reducible rfl
    rotate_left
    ·exact KA
    refine one_ (i := 7) (N := some 28) #[true, true, true, true, true, true, true, true, false, false] rfl rfl (one_of HT_.out (by kernel_rfl)) (by decide) (fun K hK => ?_)
    refine goes_ Try.func89 (by kernel_rfl) rfl #[.agg #[.int .i64 ((rd_T35 l0 t548).f0), .int .i64 ((rd_T35 l0 t548).f1), .bool ((rd_T35 l0 t548).f2), .string ((rd_T35 l0 t548).f3)], .agg #[.int .i64 a1_0, .int .i64 a1_1, .bool a1_2, .string a1_3]] (by rfl) rfl rfl KL ?_
    with_reducible refine (impl_Better.calls ((rd_T35 l0 t548).f0) ((rd_T35 l0 t548).f1) ((rd_T35 l0 t548).f2) ((rd_T35 l0 t548).f3) a1_0 a1_1 a1_2 a1_3 t551 t552 t553 t554 _ A7.out).mono ?_
    rintro e w14 ⟨rfl, hb⟩
    have HS4_ := (hb.cell (World.block_lt_of_cell? _ _ (hHeld.2.2.2.2.1))).trans (hHeld.2.2.2.2.1)
    have HS5_ := (hb.cell (World.block_lt_of_cell? _ _ (hHeld.2.2.2.2.2.1))).trans (hHeld.2.2.2.2.2.1)
    have HS6_ := (hb.cell (World.block_lt_of_cell? _ _ (hHeld.2.2.2.2.2.2.1))).trans (hHeld.2.2.2.2.2.2.1)
    have HS7_ := (hb.cell (World.block_lt_of_cell? _ _ (hHeld.2.2.2.2.2.2.2))).trans (hHeld.2.2.2.2.2.2.2)
    refine ⟨_, rfl, ?_⟩
    have h_ := P4 (Kd.R_below (KR HO0.out) hb) (BL BK547.out hb) (Kept.below (S := (fun k_ => P0_ k_)) (by repeat (first | (with_reducible first | exact HK.out | apply Kept.alloc | apply Kept.drewN | apply Kept.drew | refine Kept.setCell ?_ (.inr GW547.out) _) | exact HK.out)) hb) (below_step (KBh HB.out) hb)
    clear HO0 BK547 HK HB
    obtain ⟨HO0, BK547, HK, HB⟩ := h_
    (try clear hb); (try clear hk); (try clear hi)
    have p8 : 0 ≤ (t548 : Int) := of_decide_eq_true (by first | (with_reducible assumption) | assumption)
    have q8 : (t548 : Int) < ((l0.length : Int) : Int) := of_decide_eq_true (by first | (with_reducible assumption) | assumption)
    obtain ⟨go8, co8, eo8, gb8, gl8, cl8, HG8⟩ := Kd.R_form HO0.out (by omega)
    (first | cases eo8 | (injection eo8 with ea_ en_ ec_; (first | subst ea_ | (injection ea_ with ea_; subst ea_)); subst ec_; clear en_))
    have GB8 := Aside0.mk gb8
    have GG8 := Aside0.mk HG8
    clear gb8 gl8 HG8
    have HMgo8 := Aside0.mk (show (P0_ go8 ∨ w.heap.size ≤ go8) from (HO0.out.1 _ rfl).1)
    (first | simp only [add_plain] at hx550_0 | skip)
    (first | simp only [add_plain] at hx550_1 | skip)
    (first | simp only [add_plain] at hx550_2 | skip)
    (first | simp only [add_plain] at hx550_3 | skip)
    obtain ⟨ce8, hcl8, hM8, hcc8, hfr8⟩ := Kd.R_elem HO0.out z35 (t548 : Int) p8 q8
    obtain rfl := k35_openM hM8
    have hx8_0 : World.cell? _ ⟨go8, (t548 : Int).toNat * 4, none⟩ = some (.int .i64 ((rd_T35 l0 t548).f0)) := hcc8 0 _ rfl
    have hx8_1 : World.cell? _ ⟨go8, (t548 : Int).toNat * 4 + 1, none⟩ = some (.int .i64 ((rd_T35 l0 t548).f1)) := hcc8 1 _ rfl
    have hx8_2 : World.cell? _ ⟨go8, (t548 : Int).toNat * 4 + 2, none⟩ = some (.bool ((rd_T35 l0 t548).f2)) := hcc8 2 _ rfl
    have hx8_3 : World.cell? _ ⟨go8, (t548 : Int).toNat * 4 + 3, none⟩ = some (.string ((rd_T35 l0 t548).f3)) := hcc8 3 _ rfl
    have hf8_0 : World.frozen? _ ⟨go8, (t548 : Int).toNat * 4, none⟩ = false := hfr8 0
    have hf8_1 : World.frozen? _ ⟨go8, (t548 : Int).toNat * 4 + 1, none⟩ = false := hfr8 1
    have hf8_2 : World.frozen? _ ⟨go8, (t548 : Int).toNat * 4 + 2, none⟩ = false := hfr8 2
    have hf8_3 : World.frozen? _ ⟨go8, (t548 : Int).toNat * 4 + 3, none⟩ = false := hfr8 3
    clear hcl8 hcc8 hfr8 hM8
    replace p8 := eq_true p8
    replace q8 := eq_true q8
    obtain ⟨ce15, hcl15, hM15, hcc15, hfr15⟩ := Kd.R_elem HO0.out z35 (t548 : Int) (of_decide_eq_true (by first | (with_reducible assumption) | assumption)) (by have h_ : (t548 : Int) < ((l0.length : Int) : Int) := of_decide_eq_true (by first | (with_reducible assumption) | assumption); first | exact h_ | (have e_ := (Kd.R_reads' HO0.out).1; omega) | simpa using h_)
    obtain rfl := k35_openM hM15
    have HP15 := (Kd.R_seg HO0.out (t548 : Int) (of_decide_eq_true (by first | (with_reducible assumption) | assumption)) (by have h_ : (t548 : Int) < ((l0.length : Int) : Int) := of_decide_eq_true (by first | (with_reducible assumption) | assumption); first | exact h_ | (have e_ := (Kd.R_reads' HO0.out).1; omega) | simpa using h_) (seg := [.int .i64 t551, .int .i64 t552, .bool t553, .string t554]) (j := 0) hcl15 hcc15 (show 4 ≤ 4 from by decide) (x' := (⟨t551, t552, t553, t554⟩ : S35)) (k35_mkM _ _ _ (⟨t551, t552, t553, t554⟩ : S35) ) (fun _ hk => hk)).1
    rw [← Ny555.out] at HP15
    have HQ15 := Aside0.mk HP15
    clear hcl15 hcc15 hfr15 hM15 HP15
    refine hK.out _ _ ⟨(blk_cell BK547.out 0).trans rfl, (blk_cell BK547.out 1).trans rfl, (blk_cell BK547.out 2).trans rfl, (blk_cell BK547.out 3).trans rfl, HS4_, HS5_, HS6_, HS7_⟩ (fun hHeld => ?_)
    clear hK K
    refine norm_ (a' := ?_) ?_ ?_
    rotate_left
    ·show Act.put _ (some 28) _ = _; exact KA
    refine pure_ (i := 8) (N := some 29) (v := ?_) (a' := ?_) #[true, true, true, true, true, true, true, true, true, false] rfl rfl (any_of HT_.out (by kernel_rfl)) (fun _ _ _ h => h) (Or.inl ⟨by rfl, ?_⟩) ?_ ?_
    rotate_left
    ·intro w'
     go_simp
     with_reducible rfl
    rotate_left
    ·exact KA
    refine last_ (i := 9) (N := none) #[true, true, true, true, true, true, true, true, true, true] rfl rfl (one_of HT_.out (by kernel_rfl)) (by decide) (fun K hK => ?_)
    refine skip_ (w1 := ?_) (by rfl) rfl ?_ ?_
    rotate_left
    ·go_simp
     rfl
    refine hK.out _ _ ?_
    clear hK K
    refine done_ (done_of HT_.out (by kernel_rfl)) ?_
    try go_wp2
    go_ret
    exact ⟨_, KE, by (with_reducible repeat (first | apply Kd.R_alloc | apply Kd.R_drewN | apply Kd.R_drew)); exact Kd.R_mono HQ15.out (fun _ hk => hk.1), KBh HB.out, by repeat (first | (with_reducible first | exact HK.out | apply Kept.alloc | apply Kept.drewN | apply Kept.drew | refine Kept.setCell ?_ HMgo8.out _ | refine Kept.setCell ?_ HMgo8.out _ | refine Kept.setCell ?_ HMgo8.out _ | refine Kept.setCell ?_ HMgo8.out _ | refine Kept.setCell ?_ (.inr GW547.out) _) | exact HK.out)⟩
   ·rw [if_neg c6] at H
    exact absurd H (by simp)
  ·rw [if_neg c5] at H
   exact absurd H (by simp)
 ·replace c4 := Bool.eq_false_iff.mpr c4
  subst c4
  have H1 : ((impl_Entry.f l0 t548 (([(⟨a1_0, a1_1, a1_2, a1_3⟩ : S35)] : List (S35)))).bind fun bt559 => (some bt559.1)) = some r := by rw [if_neg (show ¬ (false = true) by decide)] at H; exact H
  clear H
  have H := H1
  clear H1
  obtain ⟨y556, hy556⟩ : ∃ y_ : List (S35), y_ = (([(⟨a1_0, a1_1, a1_2, a1_3⟩ : S35)] : List (S35))) := ⟨_, rfl⟩
  replace H : ((impl_Entry.f l0 t548 y556).bind fun bt559 => (some bt559.1)) = some r := by first | (rw [hy556]; with_reducible exact H) | (have H2_ := (Option.bind_some _ _).symm.trans H; rw [hy556]; with_reducible exact H2_) | (have H2_ := (Option.bind_some _ _).symm.trans H; with_reducible exact H2_) | with_reducible exact H | (rw [hy556]; exact H) | exact H
  have Ny556 := Aside0.mk hy556
  clear hy556
  replace H := Option.bind_eq_some_iff.mp H
  obtain ⟨⟨t559, t562⟩, A160, H⟩ := H
  replace H : (some t559) = some r := H
  have A16 := Aside0.mk A160
  clear A160
  obtain rfl := Option.some.inj H
  go_enter Try.func64, Try.ntmps64
  go_wp2_with (first | ((with_reducible refine gate_dst (N := 3) rfl ?_); refine BE 3 #[.int .i64 a1_0, .int .i64 a1_1, .bool a1_2, .string a1_3] 35 ?_; intro gb547 hg w17 hbox hb; have h_ := P6 (Kd.R_below (Kd.R_elderB (KR HO0.out) gb547 (Nat.le_of_eq hg.symm)) hb) (Kept.below (S := (fun k_ => P0_ k_)) KH hb) (below_step KB hb) hbox (by rw [hg]; exact (by first | exact HK.out.1 | exact (show Kept w _ (fun k_ => P0_ k_) from KH).1) : w.heap.size ≤ gb547) (by rw [hg]; exact (below_size KB) : w0.heap.size ≤ gb547); clear HO0 HK HB; obtain ⟨HO0, HK, HB, BK547, GW547, GE547⟩ := h_; clear hb hbox hg; obtain ⟨hcz18_0, hcz18_1, hcz18_2, hcz18_3, hfz18_0, hfz18_1, hfz18_2, hfz18_3⟩ := C4 BK547.out; obtain ⟨Ao19, co19, eo19⟩ := Kd.R_slice HO0.out; subst eo19) | ((with_reducible refine gate_callee (f := 59) rfl ?_); refine goesL_ (some 11) rfl rfl Try.func59 (by kernel_rfl) rfl #[.slice Ao19 l0.length co19, .int .i64 a1_0] rfl KL ?_; (with_reducible refine (impl_placeIn.calls _ _ l0 a1_0 t548 false _ ?side1 ?side2 A3.out).mono ?_); (case side1 => repeat (first | exact (Kd.R_reads' HO0.out).2.2 | (with_reducible refine Kd.C_alloc ?_ _) | (with_reducible refine Kd.C_drewN ?_ _) | (with_reducible refine Kd.C_drew ?_))); (case side2 => exact (Kd.R_reads' HO0.out).2.1); rintro e w20 ⟨rfl, hb⟩; refine ⟨_, rfl, ?_⟩; have h_ := P4 (Kd.R_below (KR HO0.out) hb) (BL BK547.out hb) (Kept.below (S := (fun k_ => P0_ k_)) (by repeat (first | (with_reducible first | exact HK.out | apply Kept.alloc | apply Kept.drewN | apply Kept.drew | refine Kept.setCell ?_ (.inr GW547.out) _) | exact HK.out)) hb) (below_step (KBh HB.out) hb); clear HO0 BK547 HK HB; obtain ⟨HO0, BK547, HK, HB⟩ := h_; (try clear hb); (try clear hk); (try clear hi); obtain ⟨hcz21_0, hcz21_1, hcz21_2, hcz21_3, hfz21_0, hfz21_1, hfz21_2, hfz21_3⟩ := C4 BK547.out) | ((with_reducible refine gate_dst (N := 19) rfl ?_); refine Kd.R_lit k35 _ 35 ?hg (N := 19) ?hd (xs := ([(⟨a1_0, a1_1, a1_2, a1_3⟩ : S35)] : List (S35))) (inner := [.int .i64 a1_0, .int .i64 a1_1, .bool a1_2, .string a1_3]) (ok := fun _ => True) (okp := fun _ => True) ?hr ?hp (fun _ hk => hk) trivial (Below.refl _ _) (Nat.le_refl _) (by simp) ?_; (case hd => rfl); (case hg => rfl); (case hr => first | (go_simp; done) | (go_simp; rfl)); (case hp => exact (Reps.c4 (show Kd.M k35 _ _ _ (⟨a1_0, a1_1, a1_2, a1_3⟩ : S35) [.int .i64 a1_0, .int .i64 a1_1, .bool a1_2, .string a1_3] from (k35_mkM _ _ _ (⟨a1_0, a1_1, a1_2, a1_3⟩ : S35) )) (Reps.none _ _))); intro v557 w22 ho23 hb hg_ hnew_; clear hg_ hnew_; (first | rw [← Ny556.out] at ho23 | (simp only [Int.reduceToNat] at ho23; rw [← Ny556.out] at ho23)); have h_ := P5 (Kd.R_elder' (KR HO0.out) (Kd.R_base ho23) hb) (Kd.R_lower (Kd.R_newB (Kd.R_new' (Kd.R_newM (M := fun k_ => (P0_ k_ ∨ w.heap.size ≤ k_)) ho23 (by first | exact HK.out.1 | exact (show Kept w _ (fun k_ => P0_ k_) from by repeat (first | (with_reducible first | exact HK.out | apply Kept.alloc | apply Kept.drewN | apply Kept.drew | refine Kept.setCell ?_ (.inr GW547.out) _) | exact HK.out)).1) (fun k_ h_ => .inr h_)) (Kd.R_lt (KR HO0.out))) (g := gb547) (o := .cells #[.int .i64 a1_0, .int .i64 a1_1, .bool a1_2, .string a1_3] 35 (0, 0)) KK) (below_size (KBh HB.out))) (BL BK547.out hb) (Kept.below (S := (fun k_ => P0_ k_)) (by repeat (first | (with_reducible first | exact HK.out | apply Kept.alloc | apply Kept.drewN | apply Kept.drew | refine Kept.setCell ?_ (.inr GW547.out) _) | exact HK.out)) hb) (below_step (KBh HB.out) hb); clear HO0 BK547 HK HB; obtain ⟨HO0, HO558, BK547, HK, HB⟩ := h_; clear hb ho23; obtain ⟨Ao24, co24, eo24⟩ := Kd.R_slice HO558.out; subst eo24) | ((with_reducible refine gate_callee (f := 88) rfl ?_); refine goesL_ (some 20) rfl rfl Try.func88 (by kernel_rfl) rfl #[.slice Ao19 l0.length co19, .int .i64 t548, .slice Ao24 y556.length co24] rfl KL ?_; (with_reducible refine (impl_Entry.calls (fun k_ => some k_ = (.slice Ao19 l0.length co19 : Value).ownBlock) (.slice Ao19 l0.length co19) l0 t548 (fun k_ => some k_ = (.slice Ao24 y556.length co24 : Value).ownBlock) (.slice Ao24 y556.length co24) y556 t559 t562 w0 _ ?side1 ?side2 ?side3 ?side4 ?side5 A16.out).mono ?_); (case side1 => exact KBh HB.out); (case side2 => exact Kd.R_tight rfl HO0.out); (case side3 => exact fun k_ e_ => (HO0.out.1 k_ e_.symm).2); (case side4 => exact Kd.R_tight rfl HO558.out); (case side5 => exact fun k_ e_ => (HO558.out.1 k_ e_.symm).1.2); rintro e w25 ⟨v560, rfl, ho0, hy0, hb, hkp⟩; refine ⟨_, rfl, ?_⟩; have h_ := P5 (blk_kept KK hkp (fun hs_ => Or.elim hs_ (fun e_ => (fun e_ => (Kd.R_away HO0.out (fun _ hk => hk.1.2)) e_) e_) (fun e_ => (fun e_ => (Kd.R_away HO558.out (fun _ hk => hk.2)) e_) e_))) (Kd.R_reok rfl hy0 (fun k_ e_ => HO558.out.1 k_ e_)) (Kd.R_mono (ok' := fun k_ => (P0_ k_ ∨ w.heap.size ≤ k_) ∧ some k_ ≠ (.slice Ao24 y556.length co24 : Value).ownBlock ∧ k_ ≠ gb547) ho0 (fun k_ hk_ => ⟨Or.elim hk_.1 (fun hs_ => Or.elim hs_ (fun hs_ => (HO0.out.1 k_ (hs_).symm).1.1) (fun hs_ => (HO558.out.1 k_ (hs_).symm).1.1.1)) (fun hn_ => (.inr (Nat.le_trans (by first | exact HK.out.1 | exact (show Kept w _ (fun k_ => P0_ k_) from by repeat (first | (with_reducible first | exact HK.out | apply Kept.alloc | apply Kept.drewN | apply Kept.drew | refine Kept.setCell ?_ (.inr GW547.out) _) | exact HK.out)).1) hn_))), hk_.2, Or.elim hk_.1 (fun hs_ => Or.elim hs_ (fun hs_ => fun e_ => (Kd.R_away HO0.out (fun _ hk => hk.1.2)) (by rw [← e_]; exact hs_)) (fun hs_ => fun e_ => (Kd.R_away HO558.out (fun _ hk => hk.2)) (by rw [← e_]; exact hs_))) (fun hn_ => (Kd.freshB (g := gb547) (o := .cells #[.int .i64 a1_0, .int .i64 a1_1, .bool a1_2, .string a1_3] 35 (0, 0)) KK k_ hn_))⟩)) (Kept.then_ (S := (fun k_ => P0_ k_)) (by repeat (first | (with_reducible first | exact HK.out | apply Kept.alloc | apply Kept.drewN | apply Kept.drew | refine Kept.setCell ?_ (.inr GW547.out) _) | exact HK.out)) hkp (fun k_ hs_ => Or.elim hs_ (fun e_ => (fun e_ => (HO0.out.1 k_ e_.symm).1.1) e_) (fun e_ => (fun e_ => (HO558.out.1 k_ e_.symm).1.1.1) e_))) hb; clear BK547 HO558 HK HB HO0; obtain ⟨BK547, HO558, HO561, HK, HB⟩ := h_; (try clear hb); (try clear hkp); (try clear ho0); (try clear hy0)))
  go_ret
  exact ⟨_, KE, by (with_reducible repeat (first | apply Kd.R_alloc | apply Kd.R_drewN | apply Kd.R_drew)); exact Kd.R_mono HO561.out (fun _ hk => hk.1), KBh HB.out, by repeat (first | (with_reducible first | exact HK.out | apply Kept.alloc | apply Kept.drewN | apply Kept.drew | refine Kept.setCell ?_ (.inr GW547.out) _) | exact HK.out)⟩

end Go.Proofs.Ytnoghojlpicecaa.PFnCrash
