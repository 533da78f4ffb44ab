-- What each Go function that this law reaches comes to: written by a program out of the translation.
import Derived.Test.YtnoghojlpicecaaMFnStoredx0
import Derived.Test.YtnoghojlpicecaaMFnStoredx5
import Derived.Test.YtnoghojlpicecaaMFnStoredx6
import Derived.Test.YtnoghojlpicecaaMFnStoredx11
namespace Go.Proofs.Ytnoghojlpicecaa.PFnStored
open Go.RowKit Go.Proofs.YtnoghojlpicecaaW.PrintWords Go.Proofs.YtnoghojlpicecaaW.PrintLast Go.Proofs.YtnoghojlpicecaaW.PrintMore
attribute [local go_sem] max2_int min2_int max_two min_two max_three min_three max_four min_four   -- for this text's walks alone
set_option linter.unusedVariables false
set_option linter.unusedSimpArgs false

/-! ### spec_DrawStorePut: function 33 -/
def spec_DrawStorePut.f (k : Nat) (l0 : List Int) : Option ((List (S35)) × (List (S35)) × Int × Int × Int × Bool × ByteArray) := (spec_l1New.f k l0).bind fun bt556 => ((spec_l6Draw.f k bt556.1 bt556.2.1 bt556.2.2).bind fun bt560 => ((spec_l3Draw.f bt556.1 bt560.2.2.2.1 bt560.2.2.2.2).bind fun bt570 => (some (bt560.1, bt560.2.1, bt560.2.2.1, bt570.1, bt570.2.1, bt570.2.2.1, bt570.2.2.2.1))))
theorem spec_DrawStorePut.mono : ∀ a0 k, LeO (spec_DrawStorePut.f k a0) (spec_DrawStorePut.f (k + 1) a0) := by
 intro a0 k
 unfold spec_DrawStorePut.f
 repeat' first
   | (with_reducible exact spec_l1New.mono _ _)
   | (with_reducible exact spec_l6Draw.mono _ _ _ _)
   | (with_reducible exact LeO.refl _)
   | (with_reducible exact LeO.none _)
   | (with_reducible refine LeO.ite ?_ ?_)
   | (with_reducible refine LeO.bind ?_ (fun _ => ?_))
   | exact spec_l1New.mono _ _
   | exact spec_l6Draw.mono _ _ _ _
   | exact LeO.none _
   | refine LeO.ite ?_ ?_
   | refine LeO.bind ?_ (fun _ => ?_)
set_option maxHeartbeats 8000000 in
set_option maxRecDepth 100000 in
theorem spec_DrawStorePut.calls (k : Nat) (A0 : Option Addr) (c0 : Nat) (l0 : List Int) (r1 : List (S35)) (r2 : List (S35)) (r3 : Int) (r4 : Int) (r5 : Int) (r6 : Bool) (r7 : ByteArray) (w : World) (hr0 : Kd.C (Kd.int .u8) w A0 l0.length l0) (hc0 : l0.length ≤ c0) (h : spec_DrawStorePut.f k l0 = some (r1, r2, r3, r4, r5, r6, r7)) :
  Calls Try.prog 33 #[.slice A0 l0.length c0] w fun e w' => ∃ v0_ v1_ : Value, e = .returned (.tuple #[.agg #[v0_, v1_, .int .i64 r3], .agg #[.int .i64 r4, .int .i64 r5, .bool r6, .string r7]]) ∧ Kd.R k35 35 w' w.heap.size (fun k_ => some k_ ≠ (v1_ : Value).ownBlock) v0_ r1 ∧ Kd.R k35 35 w' w.heap.size (fun k_ => some k_ ≠ (v0_ : Value).ownBlock) v1_ r2 ∧ Below w.heap.size w w' := by
 have hu31 := Try.underlying31; have hu35 := Try.underlying35; have HR0 := Aside0.mk hr0; have HC0 := Aside0.mk hc0; clear hr0 hc0; have HB := Aside0.mk (Below.refl w.heap.size w); have H : ((spec_l1New.f k l0).bind fun bt556 => ((spec_l6Draw.f k bt556.1 bt556.2.1 bt556.2.2).bind fun bt560 => ((spec_l3Draw.f bt556.1 bt560.2.2.2.1 bt560.2.2.2.2).bind fun bt570 => (some (bt560.1, bt560.2.1, bt560.2.2.1, bt570.1, bt570.2.1, bt570.2.2.1, bt570.2.2.2.1))))) = some (r1, r2, r3, r4, r5, r6, r7) := h; clear h; replace H := Option.bind_eq_some_iff.mp H; obtain ⟨⟨t556, t557, t558⟩, A20, H⟩ := H
 try dsimp only at H
 have A2 := Aside0.mk A20; clear A20; replace H := Option.bind_eq_some_iff.mp H; obtain ⟨⟨t560, t563, t566, t567, t568⟩, A30, H⟩ := H
 try dsimp only at H
 have A3 := Aside0.mk A30; clear A30; replace H := Option.bind_eq_some_iff.mp H; obtain ⟨⟨t570, t571, t572, t573, t574, t575⟩, A40, H⟩ := H
 try dsimp only at H
 have A4 := Aside0.mk A40; clear A40; simp only [Option.some.injEq, Prod.mk.injEq] at H; obtain ⟨rfl, rfl, rfl, rfl, rfl, rfl, rfl⟩ := H
 go_enter Try.func33, Try.ntmps33
 try go_wp2_with (first | ((with_reducible refine GD 2 ?_); refine BE 2 #[.slice none 0 0, .slice none 0 0, .int .i64 0] 31 ?_; intro gb554 hg w5 hbox hb; have h_ := P4 (below_step KB hb) hbox (Kg w hg) (Kg w hg); clear HB; obtain ⟨HB, BK554, GW554, GE554⟩ := h_; clear hb hbox hg) | ((with_reducible refine GD 3 ?_); refine BE 3 #[.int .i64 0, .int .i64 0, .bool false, .string (⟨#[]⟩ : ByteArray)] 35 ?_; intro gb555 hg w6 hbox hb; have h_ := P7 (BL BK554.out hb) (below_step KB hb) hbox (Kg w hg) (Kg w hg) (NX hg BK554.out) (NY hg BK554.out); clear BK554 HB; obtain ⟨BK554, HB, BK555, GW555, GE555, NB554_555, NB555_554⟩ := h_; clear hb hbox hg) | ((with_reducible refine GC 55 ?_); refine goesL_ (some 7) rfl rfl Try.func55 (by kernel_rfl) rfl #[.slice A0 l0.length c0] rfl KL ?_; (with_reducible refine (spec_l1New.calls k _ _ l0 t556 t557 t558 w _ ?side1 ?side2 ?side3 A2.out).mono ?_); (case side1 => exact KB); (case side2 => exact HR0.out); (case side3 => exact HC0.out); rintro e w7 ⟨g559, rfl, hi, hb, hb2⟩; refine ⟨_, rfl, ?_⟩; have h_ := P8 (BL BK554.out hb2) (BL BK555.out hb2) hb hi (IsS87.ne_blk hi (BL BK554.out hb2) (by decide)) (Ne.symm (IsS87.ne_blk hi (BL BK554.out hb2) (by decide))) (IsS87.ne_blk hi (BL BK555.out hb2) (by decide)) (Ne.symm (IsS87.ne_blk hi (BL BK555.out hb2) (by decide))); clear BK554 BK555 HB; obtain ⟨BK554, BK555, HB, HI559, NB559_554, NB554_559, NB559_555, NB555_559⟩ := h_; (try clear hb); (try clear hk); (try clear hi)) | ((with_reducible refine GC 56 ?_); refine goesL_ (some 9) rfl rfl Try.func56 (by kernel_rfl) rfl #[.pointer (some ⟨g559, 0, none⟩)] rfl KL ?_; (with_reducible refine (spec_l6Draw.calls k g559 t556 t557 t558 t560 t563 t566 t567 t568 w _ ?side1 ?side2 A3.out).mono ?_); (case side1 => exact KI87); (case side2 => exact KB87); rintro e w8 ⟨v561, v564, rfl, ho0, ho1, hi, hb, hk⟩; refine ⟨_, rfl, ?_⟩; have h_ := P6 (KW BK554.out hk NB554_559.out) (KW BK555.out hk NB555_559.out) (Kd.R_lower (Kd.R_newB ho0 (g := gb555) (o := .cells #[.int .i64 0, .int .i64 0, .bool false, .string (⟨#[]⟩ : ByteArray)] 35 (0, 0)) KK) (below_size KB87)) (Kd.R_lower (Kd.R_newB ho1 (g := gb555) (o := .cells #[.int .i64 0, .int .i64 0, .bool false, .string (⟨#[]⟩ : ByteArray)] 35 (0, 0)) KK) (below_size KB87)) hb hi; clear BK554 BK555 HB HI559; obtain ⟨BK554, BK555, HO562, HO565, HB, HI559⟩ := h_; (try clear hb); (try clear hk); (try clear hi); (try clear ho0); (try clear ho1)) | ((with_reducible refine GD 5 ?_); refine BE 5 #[.slice none 0 0, .slice none 0 0, .int .i64 0] 31 ?_; intro gb569 hg w9 hbox hb; have h_ := P15 (Kd.R_below (KR HO562.out) hb) (Kd.R_below (KR HO565.out) hb) (BL BK554.out hb) (BL BK555.out hb) (IsS87.below (KI87) hb) (below_step KB87 hb) hbox (by rw [hg]; exact (below_size KB87) : w.heap.size ≤ gb569) (by rw [hg]; exact (below_size KB87) : w.heap.size ≤ gb569) (NX hg BK554.out) (NY hg BK554.out) (NX hg BK555.out) (NY hg BK555.out) (by rw [hg]; exact Nat.ne_of_lt (IsS87.lt (show IsS87 w _ g559 t556 t567 t568 from KI87)) : g559 ≠ gb569) (by rw [hg]; exact Nat.ne_of_gt (IsS87.lt (show IsS87 w _ g559 t556 t567 t568 from KI87)) : gb569 ≠ g559); clear HO562 HO565 BK554 BK555 HI559 HB; obtain ⟨HO562, HO565, BK554, BK555, HI559, HB, BK569, GW569, GE569, NB554_569, NB569_554, NB555_569, NB569_555, NB559_569, NB569_559⟩ := h_; clear hb hbox hg; obtain ⟨Ao10, co10, eo10⟩ := Kd.R_slice HO562.out; subst eo10; have hnb11 := NB569_554.out; have hnc11 := NB554_569.out; have hnb12 := NB569_555.out; have hnc12 := NB555_569.out; have hnb13 := NB569_559.out; have hnc13 := NB559_569.out; obtain ⟨hcz14_0, hcz14_1, hcz14_2, hfz14_0, hfz14_1, hfz14_2⟩ := C3 BK569.out; obtain ⟨Ao15, co15, eo15⟩ := Kd.R_slice HO565.out; subst eo15))
 have n0_ : Aside0 (Kd.R k35 35 (((w9.setCell ⟨gb569, 0, none⟩ (.slice Ao10 t560.length co10)).setCell ⟨gb569, 1, none⟩ (.slice Ao15 t563.length co15)).setCell ⟨gb569, 2, none⟩ (.int .i64 t566)) w.heap.size (fun k_ => some k_ ≠ (.slice Ao15 t563.length co15 : Value).ownBlock ∧ k_ ≠ gb555) (.slice Ao10 t560.length co10) t560) := ⟨Kd.R_mono (RF (RT HO562.out BK569.out)) (fun _ hk => ⟨hk.1.1, hk.1.2⟩)⟩; have n1_ : Aside0 (Kd.R k35 35 (((w9.setCell ⟨gb569, 0, none⟩ (.slice Ao10 t560.length co10)).setCell ⟨gb569, 1, none⟩ (.slice Ao15 t563.length co15)).setCell ⟨gb569, 2, none⟩ (.int .i64 t566)) w.heap.size (fun k_ => some k_ ≠ (.slice Ao10 t560.length co10 : Value).ownBlock ∧ k_ ≠ gb555) (.slice Ao15 t563.length co15) t563) := ⟨Kd.R_mono (RF (RT HO565.out BK569.out)) (fun _ hk => ⟨hk.1.1, hk.1.2⟩)⟩; have n2_ : Aside0 ((((w9.setCell ⟨gb569, 0, none⟩ (.slice Ao10 t560.length co10)).setCell ⟨gb569, 1, none⟩ (.slice Ao15 t563.length co15)).setCell ⟨gb569, 2, none⟩ (.int .i64 t566)).heap[gb554]? = some (.cells #[.slice none 0 0, .slice none 0 0, .int .i64 0] 31 (0, 0))) := ⟨KK⟩; have n3_ : Aside0 ((((w9.setCell ⟨gb569, 0, none⟩ (.slice Ao10 t560.length co10)).setCell ⟨gb569, 1, none⟩ (.slice Ao15 t563.length co15)).setCell ⟨gb569, 2, none⟩ (.int .i64 t566)).heap[gb555]? = some (.cells #[.int .i64 0, .int .i64 0, .bool false, .string (⟨#[]⟩ : ByteArray)] 35 (0, 0))) := ⟨KK⟩; have n4_ : Aside0 ((((w9.setCell ⟨gb569, 0, none⟩ (.slice Ao10 t560.length co10)).setCell ⟨gb569, 1, none⟩ (.slice Ao15 t563.length co15)).setCell ⟨gb569, 2, none⟩ (.int .i64 t566)).heap[gb569]? = some (.cells #[.slice Ao10 t560.length co10, .slice Ao15 t563.length co15, .int .i64 t566] 31 (0, 0))) := ⟨by refine SK ?_; refine BP #[.slice Ao10 t560.length co10, .slice Ao15 t563.length co15, .int .i64 0] ?_ 2; refine SK ?_; refine BP #[.slice Ao10 t560.length co10, .slice none 0 0, .int .i64 0] ?_ 1; refine SK ?_; refine BP #[.slice none 0 0, .slice none 0 0, .int .i64 0] ?_ 0; exact SK BK569.out⟩; have n5_ : Aside0 (IsS87 w (((w9.setCell ⟨gb569, 0, none⟩ (.slice Ao10 t560.length co10)).setCell ⟨gb569, 1, none⟩ (.slice Ao15 t563.length co15)).setCell ⟨gb569, 2, none⟩ (.int .i64 t566)) g559 t556 t567 t568) := ⟨KI87⟩; have n6_ : Aside0 (Below w.heap.size w (((w9.setCell ⟨gb569, 0, none⟩ (.slice Ao10 t560.length co10)).setCell ⟨gb569, 1, none⟩ (.slice Ao15 t563.length co15)).setCell ⟨gb569, 2, none⟩ (.int .i64 t566))) := ⟨KB87⟩; (try clear HO562); (try clear HO565); (try clear BK554); (try clear BK555); (try clear BK569); (try clear HI559); (try clear HB); generalize (((w9.setCell ⟨gb569, 0, none⟩ (.slice Ao10 t560.length co10)).setCell ⟨gb569, 1, none⟩ (.slice Ao15 t563.length co15)).setCell ⟨gb569, 2, none⟩ (.int .i64 t566)) = w16 at n0_ n1_ n2_ n3_ n4_ n5_ n6_ ⊢; have HO562 := n0_; have HO565 := n1_; have BK554 := n2_; have BK555 := n3_; have BK569 := n4_; have HI559 := n5_; have HB := n6_; clear n0_ n1_ n2_ n3_ n4_ n5_ n6_; have h_ := P7 (Kd.R_drew HO562.out) (Kd.R_drew HO565.out) (blk_drew BK554.out) (blk_drew BK555.out) (blk_drew BK569.out) (IsS87.drew HI559.out) (below_drew1 HB.out); clear HO562 HO565 BK554 BK555 BK569 HI559 HB; obtain ⟨HO562, HO565, BK554, BK555, BK569, HI559, HB⟩ := h_; refine start_ (n := 5) (S := fun w' => w'.cell? ⟨gb569, 0, none⟩ = some (.slice Ao10 t560.length co10) ∧ w'.cell? ⟨gb569, 1, none⟩ = some (.slice Ao15 t563.length co15) ∧ w'.cell? ⟨gb569, 2, none⟩ = some (.int .i64 t566)) (ds := []) #[false, false, false, false, false] (by kernel_rfl) rfl rfl ⟨(blk_cell BK569.out 0).trans rfl, (blk_cell BK569.out 1).trans rfl, (blk_cell BK569.out 2).trans rfl⟩ (fun hHeld => ?_); generalize w16.drew = w17 at HO562 HO565 BK554 BK555 BK569 HI559 HB hHeld ⊢; refine pure_ (i := 1) (N := some 11) (v := ?_) (a' := ?_) #[false, true, false, false, false] rfl rfl (by kernel_rfl) (fun _ _ _ h => h) (Or.inl ⟨by rfl, ?_⟩) ?_ ?_; rotate_left
 ·intro w'
  go_simp; with_reducible rfl
 rotate_left
 ·exact KA
 refine take_ (i := 0) (N := some 10) (v := ?_) (a' := ?_) #[true, true, false, false, false] rfl rfl (by kernel_rfl) (fun _ _ _ h => h) (Or.inl ⟨by rfl, ?_⟩) hHeld ?_ ?_; rotate_left
 ·rintro w' ⟨s0, s1, s2⟩
  go_simp; with_reducible rfl
 rotate_left
 ·exact KA
 refine one_ (i := 2) (N := some 12) #[true, true, true, false, false] rfl rfl (by kernel_rfl) (by decide) (fun K hK => ?_); refine goes_ Try.func70 (by kernel_rfl) rfl #[.pointer (some ⟨g559, 0, none⟩)] (by rfl) rfl rfl KL ?_; (with_reducible refine (spec_l3Draw.calls g559 t556 t567 t568 t570 t571 t572 t573 t574 t575 w _ ?side1 ?side2 A4.out).mono ?_); (case side1 => exact KI87); (case side2 => exact KB87); rintro e w18 ⟨rfl, hi, hb, hk⟩; refine ⟨_, rfl, ?_⟩; have h_ := P7 (KW BK554.out hk NB554_559.out) (KW BK555.out hk NB555_559.out) (Kd.R_mono (Kd.R_keep (IsS87.apart (show IsS87 w _ g559 t556 t567 t568 from KI87) (KR HO562.out) (by decide)) hk (fun _ h => h.2)) (fun _ h => h.1)) (Kd.R_mono (Kd.R_keep (IsS87.apart (show IsS87 w _ g559 t556 t567 t568 from KI87) (KR HO565.out) (by decide)) hk (fun _ h => h.2)) (fun _ h => h.1)) (KW BK569.out hk NB569_559.out) hb hi; clear BK554 BK555 HO562 HO565 BK569 HB HI559; obtain ⟨BK554, BK555, HO562, HO565, BK569, HB, HI559⟩ := h_; (try clear hb); (try clear hk); (try clear hi); refine hK.out _ _ ⟨(blk_cell BK569.out 0).trans rfl, (blk_cell BK569.out 1).trans rfl, (blk_cell BK569.out 2).trans rfl⟩ (fun hHeld => ?_); clear hK K; refine norm_ (a' := ?_) ?_ ?_; rotate_left
 ·show Act.put _ (some 12) _ = _; exact KA
 refine one_ (i := 3) (N := none) #[true, true, true, true, false] rfl rfl (by kernel_rfl) (by decide) (fun K hK => ?_); have hs19 : w18.cell? ⟨gb554, 0, none⟩ = some (.slice none 0 0) := (blk_cell BK554.out 0).trans rfl; have hfs19 := blk_frozen BK554.out 0; have hns19_1 := NB555_554.out; have hns19_2 := NB569_554.out; have hms19_1 := NB554_555.out; have hms19_2 := NB554_569.out; have hs20 : w18.cell? ⟨gb554, 1, none⟩ = some (.slice none 0 0) := (blk_cell BK554.out 1).trans rfl; have hfs20 := blk_frozen BK554.out 1; have hns20_1 := NB555_554.out; have hns20_2 := NB569_554.out; have hms20_1 := NB554_555.out; have hms20_2 := NB554_569.out; have hs21 : w18.cell? ⟨gb554, 2, none⟩ = some (.int .i64 0) := (blk_cell BK554.out 2).trans rfl; have hfs21 := blk_frozen BK554.out 2; have hns21_1 := NB555_554.out; have hns21_2 := NB569_554.out; have hms21_1 := NB554_555.out; have hms21_2 := NB554_569.out; refine skip_ (w1 := ?_) (by rfl) rfl ?_ ?_; rotate_left
 ·go_simp
  rfl
 refine hK.out _ _ ⟨((cell_far (p := ⟨gb554, _, none⟩) NB569_554.out _).trans (((cell_far (p := ⟨gb554, _, none⟩) NB569_554.out _).trans (((cell_far (p := ⟨gb554, _, none⟩) NB569_554.out _).trans (hHeld.1)))))), ((cell_far (p := ⟨gb554, _, none⟩) NB569_554.out _).trans (((cell_far (p := ⟨gb554, _, none⟩) NB569_554.out _).trans (((cell_far (p := ⟨gb554, _, none⟩) NB569_554.out _).trans (hHeld.2.1)))))), ((cell_far (p := ⟨gb554, _, none⟩) NB569_554.out _).trans (((cell_far (p := ⟨gb554, _, none⟩) NB569_554.out _).trans (((cell_far (p := ⟨gb554, _, none⟩) NB569_554.out _).trans (hHeld.2.2))))))⟩ (fun hHeld => ?_); clear hK K; refine one_ (i := 4) (N := none) #[true, true, true, true, true] rfl rfl (by kernel_rfl) (by decide) (fun K hK => ?_); have hs22 : w18.cell? ⟨gb555, 0, none⟩ = some (.int .i64 0) := (blk_cell BK555.out 0).trans rfl; have hfs22 := blk_frozen BK555.out 0; have hns22_0 := NB554_555.out; have hns22_2 := NB569_555.out; have hms22_0 := NB555_554.out; have hms22_2 := NB555_569.out; have hs23 : w18.cell? ⟨gb555, 1, none⟩ = some (.int .i64 0) := (blk_cell BK555.out 1).trans rfl; have hfs23 := blk_frozen BK555.out 1; have hns23_0 := NB554_555.out; have hns23_2 := NB569_555.out; have hms23_0 := NB555_554.out; have hms23_2 := NB555_569.out; have hs24 : w18.cell? ⟨gb555, 2, none⟩ = some (.bool false) := (blk_cell BK555.out 2).trans rfl; have hfs24 := blk_frozen BK555.out 2; have hns24_0 := NB554_555.out; have hns24_2 := NB569_555.out; have hms24_0 := NB555_554.out; have hms24_2 := NB555_569.out; have hs25 : w18.cell? ⟨gb555, 3, none⟩ = some (.string (⟨#[]⟩ : ByteArray)) := (blk_cell BK555.out 3).trans rfl; have hfs25 := blk_frozen BK555.out 3; have hns25_0 := NB554_555.out; have hns25_2 := NB569_555.out; have hms25_0 := NB555_554.out; have hms25_2 := NB555_569.out; refine skip_ (w1 := ?_) (by rfl) rfl ?_ ?_; rotate_left
 ·go_simp
  rfl
 refine hK.out _ _ ⟨((cell_far (p := ⟨gb555, _, none⟩) NB569_555.out _).trans (((cell_far (p := ⟨gb555, _, none⟩) NB569_555.out _).trans (((cell_far (p := ⟨gb555, _, none⟩) NB569_555.out _).trans (((cell_far (p := ⟨gb555, _, none⟩) NB569_555.out _).trans (hHeld.1)))))))), ((cell_far (p := ⟨gb555, _, none⟩) NB569_555.out _).trans (((cell_far (p := ⟨gb555, _, none⟩) NB569_555.out _).trans (((cell_far (p := ⟨gb555, _, none⟩) NB569_555.out _).trans (((cell_far (p := ⟨gb555, _, none⟩) NB569_555.out _).trans (hHeld.2.1)))))))), ((cell_far (p := ⟨gb555, _, none⟩) NB569_555.out _).trans (((cell_far (p := ⟨gb555, _, none⟩) NB569_555.out _).trans (((cell_far (p := ⟨gb555, _, none⟩) NB569_555.out _).trans (((cell_far (p := ⟨gb555, _, none⟩) NB569_555.out _).trans (hHeld.2.2))))))))⟩ (fun hHeld => ?_); clear hK K; refine done_ (by kernel_rfl) ?_
 try go_wp2
 refine bodyPost_ret (results_cc rfl _ _ gb554 gb555 31 35 #[.slice Ao10 t560.length co10, .slice Ao15 t563.length co15, .int .i64 t566] #[.int .i64 t570, .int .i64 t571, .bool t572, .string t573] (0, 0) (0, 0) _ _ rfl (by refine SK ?_; refine blk_far ?_ NB554_555.out _; refine SK ?_; refine blk_far ?_ NB554_555.out _; refine SK ?_; refine blk_far ?_ NB554_555.out _; refine SK ?_; refine blk_far ?_ NB554_555.out _; refine SK ?_; refine BP #[.slice Ao10 t560.length co10, .slice Ao15 t563.length co15, .int .i64 0] ?_ 2; refine SK ?_; refine BP #[.slice Ao10 t560.length co10, .slice none 0 0, .int .i64 0] ?_ 1; refine SK ?_; refine BP #[.slice none 0 0, .slice none 0 0, .int .i64 0] ?_ 0; exact SK BK554.out) Try.underlying31 rfl (by kernel_rfl) rfl (by refine SK ?_; refine BP #[.int .i64 t570, .int .i64 t571, .bool t572, .string (⟨#[]⟩ : ByteArray)] ?_ 3; refine SK ?_; refine BP #[.int .i64 t570, .int .i64 t571, .bool false, .string (⟨#[]⟩ : ByteArray)] ?_ 2; refine SK ?_; refine BP #[.int .i64 t570, .int .i64 0, .bool false, .string (⟨#[]⟩ : ByteArray)] ?_ 1; refine SK ?_; refine BP #[.int .i64 0, .int .i64 0, .bool false, .string (⟨#[]⟩ : ByteArray)] ?_ 0; refine SK ?_; refine blk_far ?_ NB555_554.out _; refine SK ?_; refine blk_far ?_ NB555_554.out _; refine SK ?_; refine blk_far ?_ NB555_554.out _; exact SK BK555.out) Try.underlying35 rfl (by kernel_rfl)) rfl ?_; exact ⟨_, _, KE, RQ (Kd.R_mono (RT HO562.out BK554.out) (fun k_ hk => (⟨hk, hk.1.2⟩ : _ ∧ k_ ≠ gb555))) (hm := fun _ h => h.1.1.1), RQ (Kd.R_mono (RT HO565.out BK554.out) (fun k_ hk => (⟨hk, hk.1.2⟩ : _ ∧ k_ ≠ gb555))) (hm := fun _ h => h.1.1.1), KB87⟩

/-! ### impl_Entry: function 88 -/
-- TAKE 0 0
-- OWN 2 0
-- NOROUNDS
-- IMPORTS Derived.Shelf.Spec.SlicesInsertGrow
def encE (x : S35) : List Value := [.int .i64 x.f0, .int .i64 x.f1, .bool x.f2, .string x.f3]
def flatE : List S35 → List Value
 | [] => []
 | x :: t => encE x ++ flatE t
theorem flatE_len (l : List S35) : (flatE l).length = l.length * 4 := by
 induction l with
 | nil => rfl
 | cons x t ih => simp only [flatE, encE, List.length_append, List.length_cons, List.length_nil, ih]; omega
theorem flatE_append (l m : List S35) : flatE (l ++ m) = flatE l ++ flatE m := by
 induction l with
 | nil => rfl
 | cons x t ih => simp only [flatE, List.cons_append, ih, List.append_assoc]
theorem flatE_one (x : S35) : flatE [x] = encE x := by simp [flatE]
theorem encE_one (x : S35) : ∀ u ∈ encE x, u.oneCell' = true := by
 intro u hu
 simp only [encE, List.mem_cons, List.not_mem_nil, or_false] at hu
 rcases hu with rfl | rfl | rfl | rfl <;> rfl
theorem flatE_one' (l : List S35) : ∀ u ∈ flatE l, u.oneCell' = true := by
 induction l with
 | nil => intro u hu; simp [flatE] at hu
 | cons x t ih =>
  intro u hu
  rcases List.mem_append.1 (show u ∈ encE x ++ flatE t from hu) with h | h
  ·exact encE_one x u h
  ·exact ih u h
theorem flatE_take (l : List S35) (i : Nat) : (flatE l).take (i * 4) = flatE (l.take i) := by
 induction l generalizing i with
 | nil => simp [flatE]
 | cons x t ih =>
  cases i with
  | zero => simp [flatE]
  | succ i =>
   rw [List.take_succ_cons, flatE, flatE, ← ih, List.take_append, show (encE x).length = 4 from rfl, List.take_of_length_le (by rw [show (encE x).length = 4 from rfl]; omega), show (i + 1) * 4 - 4 = i * 4 by omega]
theorem flatE_drop (l : List S35) (i : Nat) : (flatE l).drop (i * 4) = flatE (l.drop i) := by
 induction l generalizing i with
 | nil => simp [flatE]
 | cons x t ih =>
  cases i with
  | zero => simp
  | succ i =>
   rw [List.drop_succ_cons, flatE, ← ih, List.drop_append, show (encE x).length = 4 from rfl, List.drop_of_length_le (by rw [show (encE x).length = 4 from rfl]; omega), show (i + 1) * 4 - 4 = i * 4 by omega, List.nil_append]
theorem reps_flat (w : World) (base : Nat) (ok : Nat → Prop) (l : List S35) : Reps (k35.M w base ok) 4 l (flatE l) := by
 refine ⟨flatE_len l, fun j p hj => ?_⟩
 have hlt := (List.getElem?_eq_some_iff.1 hj).1
 rw [flatE_drop, List.drop_eq_getElem_cons hlt]
 have hp : l[j] = p := (List.getElem?_eq_some_iff.1 hj).2
 rw [hp, flatE, List.take_append_of_le_length (by rw [show (encE p).length = 4 from rfl]; exact Nat.le_refl _), List.take_of_length_le (by rw [show (encE p).length = 4 from rfl]; exact Nat.le_refl _)]
 exact k35_mkM w base ok p
theorem flat_of_reps (w : World) (base : Nat) (ok : Nat → Prop) : ∀ (l : List S35) (cs : List Value), Reps (k35.M w base ok) 4 l cs → cs = flatE l
 | [], cs, h => by have := h.1; simp at this; rw [this]; rfl
 | x :: t, cs, h => by
  have h0 := k35_openM (h.2 0 x rfl)
  rw [Nat.zero_mul, List.drop_zero] at h0
  have ht : Reps (k35.M w base ok) 4 t (cs.drop 4) := by
   refine ⟨by rw [List.length_drop, h.1, List.length_cons]; omega, fun j p hj => ?_⟩
   have := h.2 (j + 1) p (by simpa using hj)
   rw [List.drop_drop, show 4 + j * 4 = (j + 1) * 4 by omega]
   exact this
  have ih := flat_of_reps w base ok t _ ht
  rw [flatE, ← ih, ← List.take_append_drop 4 cs, h0]
  simp [encE]
theorem own_of_RE {e : Nat} {w : World} {base : Nat} {ok : Nat → Prop} {v : Value} {l : List S35} (h : Kd.R k35 e w base ok v l) : w.ownsRow base e 4 v l.length (flatE l) := by
 obtain ⟨_, inner, ho, hr⟩ := h
 rw [← flat_of_reps _ _ _ _ _ hr]; exact ho
theorem R_of_ownE {e : Nat} {w : World} {base : Nat} {ok : Nat → Prop} {v : Value} {l : List S35} (ho : w.ownsRow base e 4 v l.length (flatE l)) (hok : ∀ k, v.ownBlock = some k → ok k) : Kd.R k35 e w base ok v l := ⟨hok, flatE l, ho, reps_flat _ _ _ _⟩
theorem run_copy_rowS {P : Program} (w : World) (dT sT ty elem : TypeId) (sz g o dLen dCap : Nat) (a : Addr) (sLen sCap : Nat) (cur : Array Value) (t : TypeId) (cs : List Value)
  (hu : P.underlying dT = some (.slice elem)) (hs : (P.info? elem).map (·.size) = some sz)
  (hg : w.heap[g]? = some (.cells cur t (0, 0))) (hn : cs.length = Nat.min sLen dLen * sz)
  (hsrc : ∀ j v, cs[j]? = some v → w.cell? (a.add j) = some v) (hfit : o + cs.length ≤ cur.size) (h1 : ∀ v ∈ cs, v.oneCell' = true) :
  (Builtin.copy_ #[dT, sT] ty #[.slice (some ⟨g, o, none⟩) dLen dCap, .slice (some a) sLen sCap]).run P w =
   .ok (goInt (Nat.min sLen dLen)) (w.setRow g (cur.toList.take o ++ cs ++ cur.toList.drop (o + cs.length)).toArray) := by
 have hl := run_loadCells_list (P := P) w a cs hsrc
 have hst := run_storeCells_at P g o t cs 0 cur w hg (by simpa using hfit) h1
 cases hq : P.info? elem with
 | none => simp [hq] at hs
 | some i =>
  have hi : i.size = sz := by simpa [hq] using hs
  simp [Builtin.copy_, run_underlying hu, Builtin.lenOf, Builtin.firstCells, sizeOf, typeInfo, hq, hi, ← hn, hl, hst]
theorem infoE : (Try.prog.info? 35).map (fun i => (i.zero, i.size, i.bytes)) = some (some (.agg #[.int .i64 0, .int .i64 0, .bool false, .string ⟨#[]⟩]), 4, 40) := by kernel_rfl
theorem cellsE {W : World} {vb : Nat} {x : S35} {cv : Array Value} (h : W.heap[vb]? = some (.cells cv 35 (0, 0))) (hcv : cv.toList.take 4 = encE x) : ∀ j u, (encE x)[j]? = some u → W.cell? ((⟨vb, 0, none⟩ : Addr).add j) = some u := by
 intro j u hj
 have hjl := (List.getElem?_eq_some_iff.1 hj).1
 rw [show (encE x).length = 4 from rfl] at hjl
 rw [add_plain]
 simp only [World.cell?, h, Option.isSome_none, Bool.false_eq_true, if_false]
 rw [← hcv, List.getElem?_take_of_lt hjl, Array.getElem?_toList] at hj
 exact hj
def InsPost (base : Nat) (W : World) (v : Value) (l : List S35) (e : Ending) (w' : World) : Prop :=
 ∃ v' : Value, e = .returned v' ∧ w'.ownsRow base 35 4 v' l.length (flatE l) ∧ W.grownBy w' v.ownBlock ∧ (v'.ownBlock = v.ownBlock ∨ ∃ k, v'.ownBlock = some k ∧ W.heap.size ≤ k)
set_option maxHeartbeats 4000000 in
set_option maxRecDepth 100000 in
theorem ins_end (v : Value) (l : List S35) (x : S35) (W : World) (base vb capv : Nat) (cv : Array Value) (hl : l.length < 1000000) (hbase : base ≤ W.heap.size) (hO : W.ownsRow base 35 4 v l.length (flatE l)) (hvb : W.heap[vb]? = some (.cells cv 35 (0, 0))) (hcv : cv.toList.take 4 = encE x) :
  Calls Try.prog 88 #[v, .int .i64 l.length, .slice (some ⟨vb, 0, none⟩) 1 capv] W (InsPost base W v (l ++ [x])) := by
 obtain ⟨i0, hi, hzz⟩ := Option.map_eq_some_iff.1 infoE
 simp only [Prod.mk.injEq] at hzz
 obtain ⟨hz0, hz1, hz2⟩ := hzz
 obtain ⟨v', w', hr, h2, h3, h4, h5⟩ := run_append_own_at (P := Try.prog) W base 29 29 35 i0 _ 4 40 Try.underlying29 hi hz0 hz1 hz2 rfl (by omega) v l.length (flatE l) hO ⟨vb, 0, none⟩ 1 capv (encE x) (by rfl) (cellsE hvb hcv) (encE_one x) (by simp only [maxLen]; omega) (by omega) hbase
 have hO2 := own_slice hO
 have HN := Aside0.mk hO
 have HV := Aside0.mk h2
 have HG := Aside0.mk h3
 have HB := Aside0.mk h5
 clear hO hvb hcv h2 h3 h4 h5 hi hz0 hz1 hz2
 obtain ⟨A, c, rfl⟩ := hO2
 have hnc : l.length ≤ c := own_le HN.out
 go_enter Try.func88, Try.ntmps88
 cases A with
 | none =>
  go_wp2_with (at_builtin; refine Lib.wpList_append_run _ rfl _ _ _ _ rfl _ _ rfl rfl _ _ hr ?_)
  go_ret
  exact ⟨v', rfl, by rw [flatE_append, flatE_one, List.length_append]; exact HV.out, HG.out, HB.out.imp id (fun h => ⟨_, h, Nat.le_refl _⟩)⟩
 | some a =>
  obtain ⟨ab, ao, asp⟩ := a
  go_wp2_with (at_builtin; refine Lib.wpList_append_run _ rfl _ _ _ _ rfl _ _ rfl rfl _ _ hr ?_)
  all_goals
   go_ret
   exact ⟨v', rfl, by rw [flatE_append, flatE_one, List.length_append]; exact HV.out, HG.out, HB.out.imp id (fun h => ⟨_, h, Nat.le_refl _⟩)⟩
theorem cells_of_row {W : World} {g : Nat} {cur : Array Value} {t : TypeId} (h : W.heap[g]? = some (.cells cur t (0, 0))) (j : Nat) : W.cell? ⟨g, j, none⟩ = cur[j]? := by
 simp only [World.cell?, h, Option.isSome_none, Bool.false_eq_true, if_false]
theorem ins_list (cur : List Value) (A X B : List Value) (i n : Nat) (hc : cur.take (n * 4) = A ++ B) (hA : A.length = i * 4) (hX : X.length = 4) (hB : B.length = (n - i) * 4) (hi : i ≤ n) (hn : (n + 1) * 4 ≤ cur.length) :
  (((cur.take ((i + 1) * 4) ++ B ++ cur.drop ((i + 1) * 4 + B.length)).take (i * 4) ++ X ++ (cur.take ((i + 1) * 4) ++ B ++ cur.drop ((i + 1) * 4 + B.length)).drop (i * 4 + X.length)).take ((n + 1) * 4)) = A ++ X ++ B := by
 have h1 : cur.take (i * 4) = A := by
  have := congrArg (List.take (i * 4)) hc
  rw [List.take_take, Nat.min_eq_left (by omega), List.take_append_of_le_length (by omega)] at this
  exact this.trans (List.take_of_length_le (by omega))
 have h2 : (cur.take ((i + 1) * 4) ++ B ++ cur.drop ((i + 1) * 4 + B.length)).take (i * 4) = A := by
  rw [List.append_assoc, List.take_append_of_le_length (by rw [List.length_take]; omega), List.take_take, Nat.min_eq_left (by omega), h1]
 have h3 : (cur.take ((i + 1) * 4) ++ B ++ cur.drop ((i + 1) * 4 + B.length)).drop (i * 4 + X.length) = B ++ cur.drop ((i + 1) * 4 + B.length) := by
  rw [hX, show i * 4 + 4 = (i + 1) * 4 by omega, List.append_assoc]
  have hl : (cur.take ((i + 1) * 4)).length = (i + 1) * 4 := by rw [List.length_take]; omega
  rw [List.drop_append_of_le_length (by omega), List.drop_of_length_le (by omega), List.nil_append]
 rw [h2, h3, ← List.append_assoc, List.take_append_of_le_length (by simp only [List.length_append]; omega), List.take_of_length_le (by simp only [List.length_append]; omega)]
theorem heap_setRow_same {W : World} {g : Nat} {cur c2 : Array Value} {t : TypeId} (h : W.heap[g]? = some (.cells cur t (0, 0))) : (W.setRow g c2).heap[g]? = some (.cells c2 t (0, 0)) := setRow_heap W g cur c2 t (0, 0) h
theorem grown_setRow (W : World) (g : Nat) (c : Array Value) : W.grownBy (W.setRow g c) (some g) := ⟨rfl, rfl, rfl, by simp [World.setRow], fun k _ hk => setRow_other W g k _ (fun e => hk (by simp [e]))⟩
theorem drew_setRow (W : World) (g : Nat) (c : Array Value) : (W.setRow g c).drew = W.drew.setRow g c := rfl
set_option maxHeartbeats 4000000 in
set_option maxRecDepth 100000 in
theorem ins_shift (g cap : Nat) (cur : Array Value) (l L : List S35) (x : S35) (i : Nat) (W : World) (base vb capv : Nat) (cv : Array Value) (hl : l.length < 1000000) (hi : i < l.length) (hbase : base ≤ g) (hg : W.heap[g]? = some (.cells cur 35 (0, 0)))
  (h1 : l.length + 1 ≤ cap) (h2 : cap ≤ maxLen) (h3 : cur.size = cap * 4) (h4 : cur.toList.take (l.length * 4) = flatE l) (hvb : W.heap[vb]? = some (.cells cv 35 (0, 0))) (hcv : cv.toList.take 4 = encE x) (hne : vb ≠ g) (hL : L = l.take i ++ [x] ++ l.drop i) :
  Calls Try.prog 88 #[.slice (some ⟨g, 0, none⟩) l.length cap, .int .i64 i, .slice (some ⟨vb, 0, none⟩) 1 capv] W (InsPost base W (.slice (some ⟨g, 0, none⟩) l.length cap) L) := by
 have h2' := h2
 unfold maxLen at h2
 have hz2 : ¬ ((i : Int) = (l.length : Int)) := by omega
 have hw1 : IntKind.i64.wrap ((i : Int) + 1) = (i : Int) + 1 := by rw [IntKind.wrap_i64]; omega
 have hw2 : IntKind.i64.wrap ((l.length : Int) + 1) = (l.length : Int) + 1 := by rw [IntKind.wrap_i64]; omega
 have hb1 : (0 : Int) ≤ (i : Int) + 1 := by omega
 have hin : i ≤ l.length := by omega
 have hin2 : (i : Int) ≤ (l.length : Int) := by omega
 have htn : ((i : Int) + 1).toNat = i + 1 := by omega
 have htn2 : ((l.length : Int) + 1).toNat = l.length + 1 := by omega
 have hb2 : ¬ (cap = i + 1) := by omega
 have hb3 : (i : Int) ≤ (l.length : Int) + 1 := by omega
 have hb4 : ¬ (cap = i) := by omega
 have hb5 : ¬ ((cap : Int) < (l.length : Int) + 1) := by omega
 have mixed : Try.prog.follows Departure.mixedOrders = true := by kernel_rfl
 have hsz : (Try.prog.info? 35).map (·.size) = some 4 := by kernel_rfl
 have hov : ∀ lb cb, (callFunc 92 #[.slice (some ⟨vb, 0, none⟩) 1 capv, .slice (some ⟨g, (i + 1) * 4, none⟩) lb cb]).run Try.prog W = .ok (.value (.bool false)) W := fun lb cb => by
  rw [run_callFunc_extern Try.func92 (by kernel_rfl) (by kernel_rfl) (by kernel_rfl) (e := Extern.SlicesOverlaps.overlaps #[29, 29] #[4]) (by kernel_rfl),
   Lib.run_overlaps_apart W 29 4 35 Try.underlying29 4 Try.sizeOf35 ⟨vb, 0, none⟩ ⟨g, (i + 1) * 4, none⟩ 1 capv lb cb hne 35 35 cv.size cur.size (by simp [World.shape?, hvb]) (by simp [World.shape?, hg]) (by omega) (by simp [World.frozen?, hvb]) (by simp [World.frozen?, hvb])]
  rfl
 have hBl : (flatE (l.drop i)).length = (l.length - i) * 4 := by rw [flatE_len, List.length_drop]
 obtain ⟨c1, hc1⟩ : ∃ c1, c1 = (cur.toList.take ((i + 1) * 4) ++ flatE (l.drop i) ++ cur.toList.drop ((i + 1) * 4 + (flatE (l.drop i)).length)).toArray := ⟨_, rfl⟩
 have hc1s : c1.size = cur.size := by rw [hc1]; simp only [List.size_toArray, List.length_append, List.length_take, List.length_drop, Array.length_toList, hBl]; omega
 obtain ⟨c2, hc2⟩ : ∃ c2, c2 = (c1.toList.take (i * 4) ++ encE x ++ c1.toList.drop (i * 4 + (encE x).length)).toArray := ⟨_, rfl⟩
 have hc2s : c2.size = cur.size := by rw [hc2]; simp only [List.size_toArray, List.length_append, List.length_take, List.length_drop, Array.length_toList, show (encE x).length = 4 from rfl]; omega
 have hfin : c2.toList.take ((l.length + 1) * 4) = flatE L := by
  rw [hc2, hc1, hL, flatE_append, flatE_append, flatE_one]
  simp only []
  refine ins_list cur.toList (flatE (l.take i)) (encE x) (flatE (l.drop i)) i l.length ?_ (by rw [flatE_len, List.length_take]; omega) rfl hBl hin (show (l.length + 1) * 4 ≤ cur.toList.length by have : cur.toList.length = cur.size := Array.length_toList; omega)
  rw [h4, ← flatE_append, List.take_append_drop]
 have hcp1 : ∀ ty dc sc, (Builtin.copy_ #[29, 29] ty #[.slice (some ⟨g, (i + 1) * 4, none⟩) (l.length - i) dc, .slice (some ⟨g, i * 4, none⟩) (l.length + 1 - i) sc]).run Try.prog W.drew = .ok (goInt (Nat.min (l.length + 1 - i) (l.length - i))) (W.drew.setRow g c1) := fun ty dc sc => by
  rw [hc1]
  refine run_copy_rowS W.drew 29 29 ty 35 4 g ((i + 1) * 4) _ dc ⟨g, i * 4, none⟩ _ sc cur 35 (flatE (l.drop i)) Try.underlying29 hsz hg ?_ ?_ (by rw [hBl]; omega) (flatE_one' _)
  ·rw [hBl]; congr 1; simp only [Nat.min_def]; split <;> omega
  ·intro j v hj
   rw [Addr.add_lit]
   show W.cell? _ = _
   rw [cells_of_row hg]
   have hlt := (List.getElem?_eq_some_iff.1 hj).1
   rw [hBl] at hlt
   rw [← flatE_drop, List.getElem?_drop, ← h4, List.getElem?_take_of_lt (by omega), Array.getElem?_toList] at hj
   exact hj
 have hg1 : (W.drew.setRow g c1).heap[g]? = some (.cells c1 35 (0, 0)) := heap_setRow_same (W := W.drew) hg
 have hv1 : (W.drew.setRow g c1).heap[vb]? = some (.cells cv 35 (0, 0)) := (setRow_other W.drew g vb c1 hne).trans hvb
 obtain ⟨W1, hW1⟩ : ∃ W1, W1 = W.drew.setRow g c1 := ⟨_, rfl⟩
 rw [← hW1] at hg1 hv1 hcp1
 have hcp2 : ∀ ty dc, (Builtin.copy_ #[29, 29] ty #[.slice (some ⟨g, i * 4, none⟩) (l.length + 1 - i) dc, .slice (some ⟨vb, 0, none⟩) 1 capv]).run Try.prog W1 = .ok (goInt (Nat.min 1 (l.length + 1 - i))) (W1.setRow g c2) := fun ty dc => by
  rw [hc2]
  refine run_copy_rowS W1 29 29 ty 35 4 g (i * 4) _ dc ⟨vb, 0, none⟩ 1 capv c1 35 (encE x) Try.underlying29 hsz hg1 ?_ (cellsE hv1 hcv) (by rw [show (encE x).length = 4 from rfl]; omega) (encE_one x)
  rw [show (encE x).length = 4 from rfl]; simp only [Nat.min_def]; split <;> omega
 have hlL : L.length = l.length + 1 := by rw [hL]; simp; omega
 have hrow : (W1.setRow g c2).ownsRow base 35 4 (.slice (some ⟨g, 0, none⟩) (l.length + 1) cap) L.length (flatE L) := by
  rw [hlL]
  exact ⟨by rw [flatE_len, hlL], .inr ⟨g, cap, c2, rfl, hbase, heap_setRow_same hg1, h1, h2', by rw [hc2s, h3], hfin⟩⟩
 have hgr : W.grownBy (W1.setRow g c2) (some g) := by
  rw [hW1]
  exact ⟨rfl, rfl, rfl, by simp [World.setRow], fun k hk hne => by
   have : k ≠ g := fun e => hne (by rw [e])
   exact (setRow_other _ g k _ this).trans (setRow_other W.drew g k _ this)⟩
 have HR := Aside0.mk hrow
 have HGR := Aside0.mk hgr
 clear hrow hgr hg1 hv1 hW1 hfin hc1 hc2 hc1s hc2s hBl hg hvb hcv h4 h3 hL hlL h2' hsz
 generalize l.length = n at *
 go_enter Try.func88, Try.ntmps88
 go_wp2_with (simp only [hov])
 go_region_law_o (refine step_copy_runI rfl _ _ 29 29 rfl _ _ (by simp [Act.eval, Act.put]) (by simp [Act.eval, Act.put]) (hcp1 _ _ _) ?_)
 go_wp2_with (at_builtin; refine wpList_copy_runI _ rfl _ _ 29 29 rfl _ _ rfl rfl (hcp2 _ _) ?_)
 go_ret
 exact ⟨_, rfl, HR.out, HGR.out, .inl rfl⟩
theorem ins_list2 (row A X B : List Value) (i n : Nat) (hrow : row.take (i * 4) = A) (hA : A.length = i * 4) (hX : X.length = 4) (hB : B.length = (n - i) * 4) (hi : i ≤ n) :
  (((row.take (i * 4) ++ X ++ row.drop (i * 4 + X.length)).take ((i + 1) * 4) ++ B ++ (row.take (i * 4) ++ X ++ row.drop (i * 4 + X.length)).drop ((i + 1) * 4 + B.length)).take ((n + 1) * 4)) = A ++ X ++ B := by
 have h2 : (row.take (i * 4) ++ X ++ row.drop (i * 4 + X.length)).take ((i + 1) * 4) = A ++ X := by
  rw [hrow, List.take_append_of_le_length (by simp only [List.length_append]; omega), List.take_of_length_le (by simp only [List.length_append]; omega)]
 rw [h2, List.take_append_of_le_length (by simp only [List.length_append]; omega), List.take_of_length_le (by simp only [List.length_append]; omega)]
set_option maxHeartbeats 4000000 in
set_option maxRecDepth 100000 in
theorem ins_grow (g cap : Nat) (cur : Array Value) (l L : List S35) (x : S35) (i : Nat) (W : World) (base vb capv : Nat) (cv : Array Value) (hl : l.length < 1000000) (hi : i < l.length) (hbase : base ≤ W.heap.size) (hg : W.heap[g]? = some (.cells cur 35 (0, 0)))
  (h1 : l.length ≤ cap) (h1' : cap < l.length + 1) (h2 : cap ≤ maxLen) (h3 : cur.size = cap * 4) (h4 : cur.toList.take (l.length * 4) = flatE l) (hvb : W.heap[vb]? = some (.cells cv 35 (0, 0))) (hcv : cv.toList.take 4 = encE x) (hL : L = l.take i ++ [x] ++ l.drop i) :
  Calls Try.prog 88 #[.slice (some ⟨g, 0, none⟩) l.length cap, .int .i64 i, .slice (some ⟨vb, 0, none⟩) 1 capv] W (InsPost base W (.slice (some ⟨g, 0, none⟩) l.length cap) L) := by
 obtain ⟨i0, hi0, hzz⟩ := Option.map_eq_some_iff.1 infoE
 simp only [Prod.mk.injEq] at hzz
 obtain ⟨hz0, hz1, hzb⟩ := hzz
 have h2' := h2
 unfold maxLen at h2
 have hz2 : ¬ ((i : Int) = (l.length : Int)) := by omega
 have hw1 : IntKind.i64.wrap ((i : Int) + 1) = (i : Int) + 1 := by rw [IntKind.wrap_i64]; omega
 have hw2 : IntKind.i64.wrap ((l.length : Int) + 1) = (l.length : Int) + 1 := by rw [IntKind.wrap_i64]; omega
 have hw3 : IntKind.i64.wrap ((l.length : Int) + 1 - (i : Int)) = (l.length : Int) + 1 - (i : Int) := by rw [IntKind.wrap_i64]; omega
 have hb1 : (0 : Int) ≤ (i : Int) + 1 := by omega
 have hin : i ≤ l.length := by omega
 have hin2 : (i : Int) ≤ (l.length : Int) := by omega
 have htn : ((i : Int) + 1).toNat = i + 1 := by omega
 have hb2 : ¬ (cap = i + 1) ∨ True := .inr trivial
 have hb4 : ¬ (cap = i) := by omega
 have hb5 : (cap : Int) < (l.length : Int) + 1 := by omega
 have mixed : Try.prog.follows Departure.mixedOrders = true := by kernel_rfl
 have aom : Try.prog.follows Departure.appendOfMake = true := by kernel_rfl
 have hsz : (Try.prog.info? 35).map (·.size) = some 4 := by kernel_rfl
 have hlt : g < W.heap.size := (Array.getElem?_eq_some_iff.1 hg).1
 have hltv : vb < W.heap.size := (Array.getElem?_eq_some_iff.1 hvb).1
 have hAl : (flatE (l.take i)).length = i * 4 := by rw [flatE_len, List.length_take]; omega
 have hBl : (flatE (l.drop i)).length = (l.length - i) * 4 := by rw [flatE_len, List.length_drop]
 have hkk : (l.length : Int) + 1 - (i : Int) = ((l.length + 1 - i : Nat) : Int) := by omega
 have hik : i + (l.length + 1 - i) = l.length + 1 := by omega
 have hold : (Builtin.firstCells i0.size i (.slice (some ⟨g, 0, none⟩) i cap)).run Try.prog W.drew = .ok (flatE (l.take i)).toArray W.drew := by
  rw [hz1]
  refine run_firstCells_some W.drew 4 i ⟨g, 0, none⟩ i cap (flatE (l.take i)) hAl (fun j v hj => ?_)
  rw [add_plain]
  show W.cell? _ = _
  rw [cells_of_row hg]
  have hjl := (List.getElem?_eq_some_iff.1 hj).1
  rw [hAl] at hjl
  rw [← flatE_take, List.getElem?_take_of_lt hjl, ← h4, List.getElem?_take_of_lt (by omega), Array.getElem?_toList] at hj
  exact hj
 have hrz : ∀ ty, (Builtin.append_ #[29, 3] ty #[.slice (some ⟨g, 0, none⟩) i cap, .int .i64 ((l.length : Int) + 1 - (i : Int))]).run Try.prog W =
   .ok (.slice (some ⟨W.heap.size, 0, none⟩) (l.length + 1) (grownCap W (l.length + 1) cap 35)) (W.drew.alloc (.cells ((flatE (l.take i)).toArray ++ Builtin.zeroCells (Value.agg #[.int .i64 0, .int .i64 0, .bool false, .string ⟨#[]⟩]).cells (l.length + 1 - i) ++ Builtin.zeroCells (Value.agg #[.int .i64 0, .int .i64 0, .bool false, .string ⟨#[]⟩]).cells (grownCap W (l.length + 1) cap 35 - (l.length + 1))) 35)) := fun ty => by
  have h := Lib.run_append_grow_zeros W 29 3 ty 35 i0 _ .i64 .i64 Try.underlying29 Try.underlying3 hi0 hz0 (some ⟨g, 0, none⟩) i cap (flatE (l.take i)) hold (l.length + 1 - i) (by omega) (by omega) (by omega) (by omega) (by rw [hzb]; omega) (by rw [hzb, hik]; exact growslice_fits h1' (by omega))
  rw [hik] at h
  rw [hkk]
  exact h
 have hGn : l.length + 1 ≤ grownCap W (l.length + 1) cap 35 := grownCap_ge W _ _ _
 have hG63 := grownCap_le_maxLen W (l.length + 1) cap 35 (by unfold maxLen; omega)
 obtain ⟨G, hG⟩ : ∃ G, G = grownCap W (l.length + 1) cap 35 := ⟨_, rfl⟩
 rw [← hG] at hrz hGn hG63
 have hG63' := hG63
 unfold maxLen at hG63'
 have hGi1 : ¬ (G = i + 1) := by omega
 have hGi2 : ¬ (G = i) := by omega
 obtain ⟨ROW, hROW⟩ : ∃ ROW : Array Value, ROW = (flatE (l.take i)).toArray ++ Builtin.zeroCells (Value.agg #[.int .i64 0, .int .i64 0, .bool false, .string ⟨#[]⟩]).cells (l.length + 1 - i) ++ Builtin.zeroCells (Value.agg #[.int .i64 0, .int .i64 0, .bool false, .string ⟨#[]⟩]).cells (G - (l.length + 1)) := ⟨_, rfl⟩
 rw [← hROW] at hrz
 have hRs : ROW.size = G * 4 := by
  rw [hROW]
  simp [Builtin.zeroCells, Value.cells, hAl]
  omega
 have hRt : ROW.toList.take (i * 4) = flatE (l.take i) := by
  rw [hROW]
  simp only [Array.toList_append, List.append_assoc]
  rw [List.take_append_of_le_length (by omega), List.take_of_length_le (by omega)]
 obtain ⟨c1, hc1⟩ : ∃ c1, c1 = (ROW.toList.take (i * 4) ++ encE x ++ ROW.toList.drop (i * 4 + (encE x).length)).toArray := ⟨_, rfl⟩
 have hRl : ROW.toList.length = ROW.size := Array.length_toList
 have hc1s : c1.size = ROW.size := by rw [hc1]; simp only [List.size_toArray, List.length_append, List.length_take, List.length_drop, show (encE x).length = 4 from rfl]; omega
 have hc1l : c1.toList.length = c1.size := Array.length_toList
 obtain ⟨c2, hc2⟩ : ∃ c2, c2 = (c1.toList.take ((i + 1) * 4) ++ flatE (l.drop i) ++ c1.toList.drop ((i + 1) * 4 + (flatE (l.drop i)).length)).toArray := ⟨_, rfl⟩
 have hc2s : c2.size = ROW.size := by rw [hc2]; simp only [List.size_toArray, List.length_append, List.length_take, List.length_drop, hBl]; omega
 have hfin : c2.toList.take ((l.length + 1) * 4) = flatE L := by
  rw [hc2, hc1, hL, flatE_append, flatE_append, flatE_one]
  simp only []
  exact ins_list2 ROW.toList (flatE (l.take i)) (encE x) (flatE (l.drop i)) i l.length hRt hAl rfl hBl hin
 obtain ⟨W1, hW1⟩ : ∃ W1, W1 = W.drew.alloc (.cells ROW 35) := ⟨_, rfl⟩
 rw [← hW1] at hrz
 have hN1 : W1.heap[W.heap.size]? = some (.cells ROW 35 (0, 0)) := by rw [hW1]; exact heap_alloc_new W.drew _
 have hold1 : ∀ k, k < W.heap.size → W1.heap[k]? = W.heap[k]? := fun k hk => by rw [hW1]; exact (below_alloc (w := W.drew) (Below.refl _ _) (.cells ROW 35)).block k hk
 have hcpA : ∀ X : World, X.heap = W1.heap → ∀ ty dc, (Builtin.copy_ #[29, 29] ty #[.slice (some ⟨W.heap.size, i * 4, none⟩) (l.length + 1 - i) dc, .slice (some ⟨vb, 0, none⟩) 1 capv]).run Try.prog X = .ok (goInt (Nat.min 1 (l.length + 1 - i))) (X.setRow W.heap.size c1) := fun X hX ty dc => by
  rw [hc1]
  refine run_copy_rowS X 29 29 ty 35 4 W.heap.size (i * 4) _ dc ⟨vb, 0, none⟩ 1 capv ROW 35 (encE x) Try.underlying29 hsz (by rw [hX]; exact hN1) ?_ (cellsE (W := X) (by rw [hX, hold1 vb hltv]; exact hvb) hcv) (by rw [show (encE x).length = 4 from rfl]; omega) (encE_one x)
  rw [show (encE x).length = 4 from rfl]; simp only [Nat.min_def]; split <;> omega
 have hcpB : ∀ X : World, X.heap = (W1.setRow W.heap.size c1).heap → ∀ ty dc sc, (Builtin.copy_ #[29, 29] ty #[.slice (some ⟨W.heap.size, (i + 1) * 4, none⟩) (l.length - i) dc, .slice (some ⟨g, i * 4, none⟩) (l.length - i) sc]).run Try.prog X = .ok (goInt (Nat.min (l.length - i) (l.length - i))) (X.setRow W.heap.size c2) := fun X hX ty dc sc => by
  rw [hc2]
  refine run_copy_rowS X 29 29 ty 35 4 W.heap.size ((i + 1) * 4) _ dc ⟨g, i * 4, none⟩ _ sc c1 35 (flatE (l.drop i)) Try.underlying29 hsz (by rw [hX]; exact heap_setRow_same hN1) (by rw [hBl]; congr 1; simp only [Nat.min_def]; split <;> omega) ?_ (by rw [hBl]; omega) (flatE_one' _)
  intro j v hj
  have hgX : X.heap[g]? = some (.cells cur 35 (0, 0)) := by rw [hX, setRow_other _ _ g _ (by omega), hold1 g hlt]; exact hg
  rw [Addr.add_lit, cells_of_row hgX]
  have hlt := (List.getElem?_eq_some_iff.1 hj).1
  rw [hBl] at hlt
  rw [← flatE_drop, List.getElem?_drop, ← h4, List.getElem?_take_of_lt (by omega), Array.getElem?_toList] at hj
  exact hj
 have hlL : L.length = l.length + 1 := by rw [hL]; simp; omega
 have hrow : ∀ X : World, X.heap = ((W1.setRow W.heap.size c1).setRow W.heap.size c2).heap → X.ownsRow base 35 4 (.slice (some ⟨W.heap.size, 0, none⟩) (l.length + 1) G) L.length (flatE L) := fun X hX => by
  rw [hlL]
  exact ⟨by rw [flatE_len, hlL], .inr ⟨W.heap.size, G, c2, rfl, hbase, by rw [hX]; exact heap_setRow_same (heap_setRow_same hN1), hGn, hG63, by rw [hc2s, hRs], hfin⟩⟩
 have HR := Aside0.mk hrow
 have HW1 := Aside0.mk hW1
 have hcB2 : ∀ X : World, X.heap = W1.heap → ∀ ty dc sc, (Builtin.copy_ #[29, 29] ty #[.slice (some ⟨W.heap.size, (i + 1) * 4, none⟩) (l.length - i) dc, .slice (some ⟨g, i * 4, none⟩) (l.length - i) sc]).run Try.prog (X.setRow W.heap.size c1).drew = .ok (goInt (Nat.min (l.length - i) (l.length - i))) ((X.setRow W.heap.size c1).drew.setRow W.heap.size c2) := fun X hX ty dc sc => hcpB _ (by show (X.setRow W.heap.size c1).heap = _; simp only [World.setRow, hX]) ty dc sc
 have hN := Aside0.mk hN1
 have hO1 := Aside0.mk hold1
 have hcA := fun ty dc => hcpA W1 rfl ty dc
 have hcB := fun ty dc sc => hcB2 W1 rfl ty dc sc
 clear hrow hfin hc1 hc2 hc1s hc2s hBl hAl hg hvb hcv h4 h3 hL hlL h2' hsz hROW hRs hRt hRl hc1l hG hG63 hold hi0 hz0 hz1 hzb hN1 hold1 hcpA hcpB hcB2 hW1 hkk hik
 generalize l.length = n at *
 go_enter Try.func88, Try.ntmps88
 go_wp2_with (at_builtin; refine Lib.wpList_append_run _ rfl _ _ _ _ rfl _ _ rfl rfl _ _ (hrz _) ?_)
 go_region_law_o (refine step_copy_runI rfl _ _ 29 29 rfl _ _ (by simp [Act.eval, Act.put]) (by simp [Act.eval, Act.put]) (hcB _ _ _) ?_)
 go_wp2
 go_ret
 refine ⟨_, rfl, HR.out _ rfl, ⟨?_, ?_, ?_, ?_, ?_⟩, .inr ⟨W.heap.size, rfl, Nat.le_refl _⟩⟩
 ·rw [HW1.out]; rfl
 ·rw [HW1.out]; rfl
 ·rw [HW1.out]; rfl
 ·simp [World.setRow]; rw [HW1.out]; simp [World.alloc]
 ·intro k hk hne
  rw [setRow_other _ _ k _ (by omega)]
  show (W1.setRow W.heap.size c1).heap[k]? = _
  rw [setRow_other _ _ k _ (by omega)]
  exact hO1.out k hk
theorem ins_any (v : Value) (l : List S35) (x : S35) (i : Nat) (W : World) (base vb capv : Nat) (cv : Array Value) (hl : l.length < 1000000) (hi : i ≤ l.length) (hbase : base ≤ W.heap.size) (hO : W.ownsRow base 35 4 v l.length (flatE l)) (hvb : W.heap[vb]? = some (.cells cv 35 (0, 0))) (hcv : cv.toList.take 4 = encE x) (hne : v.ownBlock ≠ some vb) :
  Calls Try.prog 88 #[v, .int .i64 i, .slice (some ⟨vb, 0, none⟩) 1 capv] W (InsPost base W v (l.take i ++ [x] ++ l.drop i)) := by
 by_cases hn : i = l.length
 ·subst hn
  rw [List.take_length, List.drop_length, List.append_nil]
  exact ins_end v l x W base vb capv cv hl hbase hO hvb hcv
 ·have hO2 := hO
  obtain ⟨_, ⟨hv, h0⟩ | ⟨g, cap, cur, hv, hg, hb, h1, h2, h3, h4⟩⟩ := hO2
  ·omega
  ·subst hv
   by_cases hr : l.length + 1 ≤ cap
   ·exact ins_shift g cap cur l _ x i W base vb capv cv hl (by omega) hg hb hr h2 h3 h4 hvb hcv (fun e => hne (by rw [e]; rfl)) rfl
   ·exact ins_grow g cap cur l _ x i W base vb capv cv hl (by omega) hbase hb h1 (by omega) h2 h3 h4 hvb hcv rfl
def impl_Entry.f (l0 : List S35) (a1 : Int) (l2 : List S35) : Option (List S35 × List S35) := if 0 ≤ a1 ∧ a1 ≤ (l0.length : Int) ∧ l0.length < 1000000 ∧ l2.length = 1 then (some (l0.take a1.toNat ++ l2 ++ l0.drop a1.toNat, l2)) else (none)
set_option maxHeartbeats 8000000 in
set_option maxRecDepth 100000 in
theorem impl_Entry.calls (P0_ : Nat → Prop) (u9000_ : Value) (l0 : List S35) (a1 : Int) (P2_ : Nat → Prop) (u9001_ : Value) (l2 : List S35) (r1 : List S35) (r2 : List S35) (w0 w : World) (hB : Below w0.heap.size w0 w) (ho0 : Kd.R k35 35 w w0.heap.size P0_ u9000_ l0) (hp0_2 : ∀ k_, P0_ k_ → ¬ P2_ k_) (ho2 : Kd.R k35 35 w w0.heap.size P2_ u9001_ l2) (hp2_0 : ∀ k_, P2_ k_ → ¬ P0_ k_) (h : impl_Entry.f l0 a1 l2 = some (r1, r2)) :
  Calls Try.prog 88 #[u9000_, .int .i64 a1, u9001_] w fun e w' => ∃ v0_ : Value, e = .returned (v0_) ∧ Kd.R k35 35 w' w0.heap.size (fun k_ => ((P0_ k_ ∨ P2_ k_) ∨ w.heap.size ≤ k_) ∧ some k_ ≠ (u9001_ : Value).ownBlock) v0_ r1 ∧ Kd.R k35 35 w' w0.heap.size (fun k_ => ((P0_ k_ ∨ P2_ k_) ∨ w.heap.size ≤ k_)) u9001_ r2 ∧ Below w0.heap.size w0 w' ∧ Kept w w' (fun k_ => P0_ k_ ∨ P2_ k_) := by
 unfold impl_Entry.f at h
 by_cases hl : 0 ≤ a1 ∧ a1 ≤ (l0.length : Int) ∧ l0.length < 1000000 ∧ l2.length = 1
 ·rw [if_pos hl] at h
  simp only [Option.some.injEq, Prod.mk.injEq] at h
  obtain ⟨rfl, rfl⟩ := h
  obtain ⟨i, rfl⟩ := Int.eq_ofNat_of_zero_le hl.1
  obtain ⟨x, rfl⟩ : ∃ x, l2 = [x] := by
   cases l2 with
   | nil => exact absurd hl.2.2.2 (by simp)
   | cons x t => cases t with
    | nil => exact ⟨x, rfl⟩
    | cons y t => exact absurd hl.2.2.2 (by simp)
  have hO := own_of_RE ho0
  have hO2 := own_of_RE ho2
  have hO2' := hO2
  obtain ⟨_, ⟨hv, h0⟩ | ⟨g, cap, cur, hv, hg, hb, h1, h2, h3, h4⟩⟩ := hO2'
  ·simp at h0
  subst hv
  rw [Int.toNat_natCast]
  have hcv : cur.toList.take 4 = encE x := by
   rw [flatE_one] at h4
   simpa using h4
  have hne : u9000_.ownBlock ≠ some g := fun e => hp0_2 g (ho0.1 g e) (ho2.1 g rfl)
  refine Calls.mono (ins_any u9000_ l0 x i w w0.heap.size g cap cur hl.2.2.1 (by omega) hB.size hO hb hcv hne) ?_
  rintro e w' ⟨v', rfl, ho, hgr, hat⟩
  have hk0 : ∀ k, u9000_.ownBlock = some k → w0.heap.size ≤ k := fun k hk => own_base hO k hk
  refine ⟨v', rfl, R_of_ownE ho (fun k hk => ?_), ?_, pw_below_grown hB u9000_.ownBlock hB.size hgr hk0, hgr.size, ?_⟩
  ·rcases hat with hat | ⟨k', hk', hle⟩
   ·rw [hat] at hk
    exact ⟨.inl (.inl (ho0.1 k hk)), fun e => hne (by rw [hk, e]; rfl)⟩
   ·rw [hk'] at hk
    cases hk
    exact ⟨.inr hle, fun e => by
     have : k = g := by simpa [Value.ownBlock] using e
     have hlt : g < w.heap.size := (Array.getElem?_eq_some_iff.1 hb).1
     omega⟩
  ·exact Kd.R_mono (Kd.R_grown ho2 hgr (fun k hk e => hp2_0 k hk (ho0.1 k e.symm))) (fun k hk => .inl (.inr hk))
  ·intro k hk hnp
   exact hgr.block k hk (fun e => hnp (.inl (ho0.1 k e.symm)))
 ·rw [if_neg hl] at h
  exact absurd h (by simp)

/-! ### impl_Better: function 89 -/
def impl_Better.f (a0_0 : Int) (a0_1 : Int) (a0_2 : Bool) (a0_3 : ByteArray) (a1_0 : Int) (a1_1 : Int) (a1_2 : Bool) (a1_3 : ByteArray) : Option (Int × Int × Bool × ByteArray) := if a1_1 > a0_1 then (some (a1_0, a1_1, a1_2, a1_3)) else (some (a0_0, a0_1, a0_2, a0_3))
set_option maxHeartbeats 8000000 in
set_option maxRecDepth 100000 in
theorem impl_Better.calls (a0_0 : Int) (a0_1 : Int) (a0_2 : Bool) (a0_3 : ByteArray) (a1_0 : Int) (a1_1 : Int) (a1_2 : Bool) (a1_3 : ByteArray) (r1 : Int) (r2 : Int) (r3 : Bool) (r4 : ByteArray) (w : World) (h : impl_Better.f a0_0 a0_1 a0_2 a0_3 a1_0 a1_1 a1_2 a1_3 = some (r1, r2, r3, r4)) :
  Calls Try.prog 89 #[.agg #[.int .i64 a0_0, .int .i64 a0_1, .bool a0_2, .string a0_3], .agg #[.int .i64 a1_0, .int .i64 a1_1, .bool a1_2, .string a1_3]] w fun e w' => e = .returned (.agg #[.int .i64 r1, .int .i64 r2, .bool r3, .string r4]) ∧ Below w.heap.size w w' := by
 have hu35 := Try.underlying35; have HB := Aside0.mk (Below.refl w.heap.size w); have H : (if a1_1 > a0_1 then (some (a1_0, a1_1, a1_2, a1_3)) else (some (a0_0, a0_1, a0_2, a0_3))) = some (r1, r2, r3, r4) := h; clear h
 by_cases c3 : a1_1 > a0_1
 ·rw [if_pos c3] at H
  have c3b0 : decide (a0_1 < a1_1) = true := decide_eq_true c3; clear c3; simp only [Option.some.injEq, Prod.mk.injEq] at H; obtain ⟨rfl, rfl, rfl, rfl⟩ := H
  go_enter Try.func89, Try.ntmps89
  go_wp2_with (first | ((with_reducible refine GD 2 ?_); refine BE 2 #[.int .i64 a0_0, .int .i64 a0_1, .bool a0_2, .string a0_3] 35 ?_; intro gb576 hg w4 hbox hb; have h_ := P4 (below_step KB hb) hbox (Kg w hg) (Kg w hg); clear HB; obtain ⟨HB, BK576, GW576, GE576⟩ := h_; clear hb hbox hg) | ((with_reducible refine GD 3 ?_); refine BE 3 #[.int .i64 a1_0, .int .i64 a1_1, .bool a1_2, .string a1_3] 35 ?_; intro gb577 hg w5 hbox hb; have h_ := P7 (BL BK576.out hb) (below_step KB hb) hbox (Kg w hg) (Kg w hg) (NX hg BK576.out) (NY hg BK576.out); clear BK576 HB; obtain ⟨BK576, HB, BK577, GW577, GE577, NB576_577, NB577_576⟩ := h_; clear hb hbox hg) | ((with_reducible refine GD 4 ?_); refine BE 4 #[.int .i64 0, .int .i64 0, .bool false, .string (⟨#[]⟩ : ByteArray)] 35 ?_; intro gb578 hg w6 hbox hb; have h_ := P10 (BL BK576.out hb) (BL BK577.out hb) (below_step KB hb) hbox (Kg w hg) (Kg w hg) (NX hg BK576.out) (NY hg BK576.out) (NX hg BK577.out) (NY hg BK577.out); clear BK576 BK577 HB; obtain ⟨BK576, BK577, HB, BK578, GW578, GE578, NB576_578, NB578_576, NB577_578, NB578_577⟩ := h_; clear hb hbox hg; have hnb7 := NB577_576.out; have hnc7 := NB576_577.out; have hnb8 := NB577_578.out; have hnc8 := NB578_577.out; obtain ⟨hcz9_0, hcz9_1, hcz9_2, hcz9_3, hfz9_0, hfz9_1, hfz9_2, hfz9_3⟩ := C4 BK577.out; have hnb10 := NB576_578.out; have hnc10 := NB578_576.out; obtain ⟨hcz11_0, hcz11_1, hcz11_2, hcz11_3, hfz11_0, hfz11_1, hfz11_2, hfz11_3⟩ := C4 BK576.out; obtain ⟨hcz12_0, hcz12_1, hcz12_2, hcz12_3, hfz12_0, hfz12_1, hfz12_2, hfz12_3⟩ := C4 BK578.out))
  refine bodyPost_ret (results_cell_row rfl _ _ gb578 35 #[.int .i64 a1_0, .int .i64 a1_1, .bool a1_2, .string a1_3] (0, 0) _ rfl (by refine SK ?_; refine BP #[.int .i64 a1_0, .int .i64 a1_1, .bool a1_2, .string (⟨#[]⟩ : ByteArray)] ?_ 3; refine SK ?_; refine BP #[.int .i64 a1_0, .int .i64 a1_1, .bool false, .string (⟨#[]⟩ : ByteArray)] ?_ 2; refine SK ?_; refine BP #[.int .i64 a1_0, .int .i64 0, .bool false, .string (⟨#[]⟩ : ByteArray)] ?_ 1; refine SK ?_; refine BP #[.int .i64 0, .int .i64 0, .bool false, .string (⟨#[]⟩ : ByteArray)] ?_ 0; exact SK BK578.out) Try.underlying35 rfl (by kernel_rfl)) rfl ?_; exact ⟨KE, KB⟩
 ·rw [if_neg c3] at H
  have c3b0 : decide (a0_1 < a1_1) = false := decide_eq_false c3; clear c3; simp only [Option.some.injEq, Prod.mk.injEq] at H; obtain ⟨rfl, rfl, rfl, rfl⟩ := H
  go_enter Try.func89, Try.ntmps89
  go_wp2_with (first | ((with_reducible refine GD 2 ?_); refine BE 2 #[.int .i64 a0_0, .int .i64 a0_1, .bool a0_2, .string a0_3] 35 ?_; intro gb576 hg w13 hbox hb; have h_ := P4 (below_step KB hb) hbox (Kg w hg) (Kg w hg); clear HB; obtain ⟨HB, BK576, GW576, GE576⟩ := h_; clear hb hbox hg) | ((with_reducible refine GD 3 ?_); refine BE 3 #[.int .i64 a1_0, .int .i64 a1_1, .bool a1_2, .string a1_3] 35 ?_; intro gb577 hg w14 hbox hb; have h_ := P7 (BL BK576.out hb) (below_step KB hb) hbox (Kg w hg) (Kg w hg) (NX hg BK576.out) (NY hg BK576.out); clear BK576 HB; obtain ⟨BK576, HB, BK577, GW577, GE577, NB576_577, NB577_576⟩ := h_; clear hb hbox hg) | ((with_reducible refine GD 4 ?_); refine BE 4 #[.int .i64 0, .int .i64 0, .bool false, .string (⟨#[]⟩ : ByteArray)] 35 ?_; intro gb578 hg w15 hbox hb; have h_ := P10 (BL BK576.out hb) (BL BK577.out hb) (below_step KB hb) hbox (Kg w hg) (Kg w hg) (NX hg BK576.out) (NY hg BK576.out) (NX hg BK577.out) (NY hg BK577.out); clear BK576 BK577 HB; obtain ⟨BK576, BK577, HB, BK578, GW578, GE578, NB576_578, NB578_576, NB577_578, NB578_577⟩ := h_; clear hb hbox hg; have hnb16 := NB577_576.out; have hnc16 := NB576_577.out; have hnb17 := NB577_578.out; have hnc17 := NB578_577.out; obtain ⟨hcz18_0, hcz18_1, hcz18_2, hcz18_3, hfz18_0, hfz18_1, hfz18_2, hfz18_3⟩ := C4 BK577.out; have hnb19 := NB576_578.out; have hnc19 := NB578_576.out; obtain ⟨hcz20_0, hcz20_1, hcz20_2, hcz20_3, hfz20_0, hfz20_1, hfz20_2, hfz20_3⟩ := C4 BK576.out; obtain ⟨hcz21_0, hcz21_1, hcz21_2, hcz21_3, hfz21_0, hfz21_1, hfz21_2, hfz21_3⟩ := C4 BK578.out))
  refine bodyPost_ret (results_cell_row rfl _ _ gb578 35 #[.int .i64 a0_0, .int .i64 a0_1, .bool a0_2, .string a0_3] (0, 0) _ rfl (by refine SK ?_; refine BP #[.int .i64 a0_0, .int .i64 a0_1, .bool a0_2, .string (⟨#[]⟩ : ByteArray)] ?_ 3; refine SK ?_; refine BP #[.int .i64 a0_0, .int .i64 a0_1, .bool false, .string (⟨#[]⟩ : ByteArray)] ?_ 2; refine SK ?_; refine BP #[.int .i64 a0_0, .int .i64 0, .bool false, .string (⟨#[]⟩ : ByteArray)] ?_ 1; refine SK ?_; refine BP #[.int .i64 0, .int .i64 0, .bool false, .string (⟨#[]⟩ : ByteArray)] ?_ 0; exact SK BK578.out) Try.underlying35 rfl (by kernel_rfl)) rfl ?_; exact ⟨KE, KB⟩

/-! ### impl_kept: function 64 -/
def impl_kept.f (l0 : List (S35)) (a1_0 : Int) (a1_1 : Int) (a1_2 : Bool) (a1_3 : ByteArray) : Option ((List (S35))) := (impl_placeIn.f l0 a1_0).bind fun bt580 => (if bt580.2 = true then (if 0 ≤ bt580.1 then (if bt580.1 < (l0.length : Int) then ((impl_Better.f ((rd_T35 l0 bt580.1).f0) ((rd_T35 l0 bt580.1).f1) ((rd_T35 l0 bt580.1).f2) ((rd_T35 l0 bt580.1).f3) a1_0 a1_1 a1_2 a1_3).bind fun bt583 => (some (l0.set (bt580.1 : Int).toNat (⟨bt583.1, bt583.2.1, bt583.2.2.1, bt583.2.2.2⟩ : S35)))) else (none)) else (none)) else ((impl_Entry.f l0 bt580.1 (([(⟨a1_0, a1_1, a1_2, a1_3⟩ : S35)] : List (S35)))).bind fun bt591 => (some bt591.1)))
def impl_kept.T4 : Bool × List (List Nat × List Nat) := (true, [([], []), ([], []), ([], []), ([], []), ([2, 3], [2, 3]), ([4], [4]), ([], []), ([5, 6], [5, 6]), ([0, 1, 0, 1, 2, 3, 4, 5, 6, 7], [0, 1]), ([8, 7, 7, 0, 1, 2, 3, 4, 5, 6, 7], [7, 8])])
def impl_kept.B4 : List Nat := [0, 0, 0, 0, 12, 28, 0, 124, 255, 511]
theorem impl_kept.tab4 : rtab .any (opsOf Try.f64 4) = impl_kept.T4 := by kernel_rfl
theorem impl_kept.bits4 : waitsOk impl_kept.T4.2 impl_kept.B4 = true := by kernel_rfl
set_option maxHeartbeats 8000000 in
set_option maxRecDepth 100000 in
theorem impl_kept.calls (P0_ : Nat → Prop) (u9000_ : Value) (l0 : List (S35)) (a1_0 : Int) (a1_1 : Int) (a1_2 : Bool) (a1_3 : ByteArray) (r : List (S35)) (w0 w : World) (hB : Below w0.heap.size w0 w) (ho0 : Kd.R k35 35 w w0.heap.size P0_ u9000_ l0) (h : impl_kept.f l0 a1_0 a1_1 a1_2 a1_3 = some r) :
  Calls Try.prog 64 #[u9000_, .agg #[.int .i64 a1_0, .int .i64 a1_1, .bool a1_2, .string a1_3]] w fun e w' => ∃ v0_ : Value, e = .returned (v0_) ∧ Kd.R k35 35 w' w0.heap.size (fun k_ => (P0_ k_ ∨ w.heap.size ≤ k_)) v0_ r ∧ Below w0.heap.size w0 w' ∧ Kept w w' (fun k_ => P0_ k_) := by
 have hu35 := Try.underlying35; have HO0 := Aside0.mk (show Kd.R k35 35 w w0.heap.size (fun k_ => (P0_ k_ ∨ w.heap.size ≤ k_)) u9000_ l0 from Kd.R_mono ho0 (fun k_ hk => (.inl hk))); have HK := Aside0.mk (Kept.refl w (fun k_ => P0_ k_)); have HW0 := Aside0.mk hB.size; have HB := Aside0.mk hB; clear hB; have H : ((impl_placeIn.f l0 a1_0).bind fun bt580 => (if bt580.2 = true then (if 0 ≤ bt580.1 then (if bt580.1 < (l0.length : Int) then ((impl_Better.f ((rd_T35 l0 bt580.1).f0) ((rd_T35 l0 bt580.1).f1) ((rd_T35 l0 bt580.1).f2) ((rd_T35 l0 bt580.1).f3) a1_0 a1_1 a1_2 a1_3).bind fun bt583 => (some (l0.set (bt580.1 : Int).toNat (⟨bt583.1, bt583.2.1, bt583.2.2.1, bt583.2.2.2⟩ : S35)))) else (none)) else (none)) else ((impl_Entry.f l0 bt580.1 (([(⟨a1_0, a1_1, a1_2, a1_3⟩ : S35)] : List (S35)))).bind fun bt591 => (some bt591.1)))) = some r := h; clear h; replace H := Option.bind_eq_some_iff.mp H; obtain ⟨⟨t580, t581⟩, A30, H⟩ := H
 try dsimp only at H
 have A3 := Aside0.mk A30; clear A30
 by_cases c4 : t581 = true
 ·subst c4
  have H1 : (if 0 ≤ t580 then (if t580 < (l0.length : Int) then ((impl_Better.f ((rd_T35 l0 t580).f0) ((rd_T35 l0 t580).f1) ((rd_T35 l0 t580).f2) ((rd_T35 l0 t580).f3) a1_0 a1_1 a1_2 a1_3).bind fun bt583 => (some (l0.set (t580 : Int).toNat (⟨bt583.1, bt583.2.1, bt583.2.2.1, bt583.2.2.2⟩ : S35)))) else (none)) else (none)) = some r := by rw [if_pos rfl] at H; exact H
  clear H; have H := H1; clear H1
  by_cases c5 : 0 ≤ t580
  ·rw [if_pos c5] at H
   have c5b0 : decide (0 ≤ t580) = true := decide_eq_true c5; clear c5
   by_cases c6 : t580 < (l0.length : Int)
   ·rw [if_pos c6] at H
    have c6b0 : decide (t580 < (l0.length : Int)) = true := decide_eq_true c6; clear c6; replace H := Option.bind_eq_some_iff.mp H; obtain ⟨⟨t583, t584, t585, t586⟩, A70, H⟩ := H
    try dsimp only at H
    have A7 := Aside0.mk A70; clear A70; obtain ⟨y587, hy587⟩ : ∃ y_ : List (S35), y_ = (l0.set (t580 : Int).toNat (⟨t583, t584, t585, t586⟩ : S35)) := ⟨_, rfl⟩; replace H : (some y587) = some r := by first | (rw [hy587]; with_reducible exact H) | (have H2_ := (Option.bind_some _ _).symm.trans H; rw [hy587]; with_reducible exact H2_) | (have H2_ := (Option.bind_some _ _).symm.trans H; with_reducible exact H2_) | with_reducible exact H | (rw [hy587]; exact H) | exact H
    have Ny587 := Aside0.mk hy587; clear hy587; obtain rfl := Option.some.inj H
    go_enter Try.func64, Try.ntmps64
    try go_wp2_with (first | ((with_reducible refine GD 3 ?_); refine BE 3 #[.int .i64 a1_0, .int .i64 a1_1, .bool a1_2, .string a1_3] 35 ?_; intro gb579 hg w9 hbox hb; have h_ := P6 (Kd.R_below (Kd.R_elderB (KR HO0.out) gb579 (Nat.le_of_eq hg.symm)) hb) (Kept.below (S := (fun k_ => P0_ k_)) KH hb) (below_step KB hb) hbox (by rw [hg]; exact (by first | exact HK.out.1 | exact (show Kept w _ (fun k_ => P0_ k_) from KH).1) : w.heap.size ≤ gb579) (by rw [hg]; exact (below_size KB) : w0.heap.size ≤ gb579); clear HO0 HK HB; obtain ⟨HO0, HK, HB, BK579, GW579, GE579⟩ := h_; clear hb hbox hg; obtain ⟨hcz10_0, hcz10_1, hcz10_2, hcz10_3, hfz10_0, hfz10_1, hfz10_2, hfz10_3⟩ := C4 BK579.out; obtain ⟨Ao11, co11, eo11⟩ := Kd.R_slice HO0.out; subst eo11) | ((with_reducible refine GC 59 ?_); refine goesL_ (some 11) rfl rfl Try.func59 (by kernel_rfl) rfl #[.slice Ao11 l0.length co11, .int .i64 a1_0] rfl KL ?_; (with_reducible refine (impl_placeIn.calls _ _ l0 a1_0 t580 true _ ?side1 ?side2 A3.out).mono ?_); (case side1 => repeat (first | exact (Kd.R_reads' HO0.out).2.2 | (with_reducible refine Kd.C_alloc ?_ _) | (with_reducible refine Kd.C_drewN ?_ _) | (with_reducible refine Kd.C_drew ?_))); (case side2 => exact (Kd.R_reads' HO0.out).2.1); rintro e w12 ⟨rfl, hb⟩; refine ⟨_, rfl, ?_⟩; have h_ := P4 (Kd.R_below (KR HO0.out) hb) (BL BK579.out hb) (Kept.below (S := (fun k_ => P0_ k_)) (by repeat (first | (with_reducible first | exact HK.out | apply Kept.alloc | apply Kept.drewN | apply Kept.drew | refine Kept.setCell ?_ (.inr GW579.out) _) | exact HK.out)) hb) (below_step (KBh HB.out) hb); clear HO0 BK579 HK HB; obtain ⟨HO0, BK579, HK, HB⟩ := h_; (try clear hb); (try clear hk); (try clear hi)))
    have h_ := P4 (Kd.R_drew HO0.out) (blk_drew BK579.out) (Kept.drew HK.out) (below_drew1 HB.out); clear HO0 BK579 HK HB; obtain ⟨HO0, BK579, HK, HB⟩ := h_; have p582 : 0 ≤ (t580 : Int) := of_decide_eq_true (by first | (with_reducible assumption) | assumption); have q582 : t580 < (l0.length : Int) := of_decide_eq_true (by first | (with_reducible assumption) | assumption); obtain ⟨ad582, e582, hx582_0, hx582_1, hx582_2, hx582_3⟩ := at_T35 (Kd.R_reads' HO0.out).2.2 t580 p582 q582
    cases e582
    replace p582 := eq_true p582; replace q582 := eq_true q582; refine start_ (n := 10) (S := fun w' => w'.cell? ⟨gb579, 0, none⟩ = some (.int .i64 a1_0) ∧ w'.cell? ⟨gb579, 1, none⟩ = some (.int .i64 a1_1) ∧ w'.cell? ⟨gb579, 2, none⟩ = some (.bool a1_2) ∧ w'.cell? ⟨gb579, 3, none⟩ = some (.string a1_3) ∧ w'.cell? (ad582.add ((t580).toNat * 4)) = some (.int .i64 ((rd_T35 l0 t580).f0)) ∧ w'.cell? ⟨(ad582.add ((t580).toNat * 4)).block, (ad582.add ((t580).toNat * 4)).off + 1, none⟩ = some (.int .i64 ((rd_T35 l0 t580).f1)) ∧ w'.cell? ⟨(ad582.add ((t580).toNat * 4)).block, (ad582.add ((t580).toNat * 4)).off + 2, none⟩ = some (.bool ((rd_T35 l0 t580).f2)) ∧ w'.cell? ⟨(ad582.add ((t580).toNat * 4)).block, (ad582.add ((t580).toNat * 4)).off + 3, none⟩ = some (.string ((rd_T35 l0 t580).f3))) (ds := [9]) #[false, false, false, false, false, false, false, false, false, false] (by kernel_rfl) rfl rfl ⟨(blk_cell BK579.out 0).trans rfl, (blk_cell BK579.out 1).trans rfl, (blk_cell BK579.out 2).trans rfl, (blk_cell BK579.out 3).trans rfl, hx582_0, hx582_1, hx582_2, hx582_3⟩ (fun hHeld => ?_); refine with_tabW impl_kept.tab4 impl_kept.bits4 (fun HT_ HW_ => ?_); generalize w12.drew = w13 at HO0 BK579 HK HB hx582_0 hx582_1 hx582_2 hx582_3 hHeld ⊢; refine pure_ (i := 0) (N := some 21) (v := ?_) (a' := ?_) #[true, false, false, false, false, false, false, false, false, false] rfl rfl (any_of HT_.out (by kernel_rfl)) (fun _ _ _ h => h) (Or.inl ⟨by rfl, ?_⟩) ?_ ?_; rotate_left
    ·intro w'
     go_simp; with_reducible rfl
    rotate_left
    ·exact KA
    refine pure_ (i := 1) (N := some 22) (v := ?_) (a' := ?_) #[true, true, false, false, false, false, false, false, false, false] rfl rfl (any_of HT_.out (by kernel_rfl)) (fun _ _ _ h => h) (Or.inl ⟨by rfl, ?_⟩) ?_ ?_; rotate_left
    ·intro w'
     go_simp; with_reducible rfl
    rotate_left
    ·exact KA
    refine pure_ (i := 2) (N := some 23) (v := ?_) (a' := ?_) #[true, true, true, false, false, false, false, false, false, false] rfl rfl (any_of HT_.out (by kernel_rfl)) (fun _ _ _ h => h) (Or.inl ⟨by rfl, ?_⟩) ?_ ?_; rotate_left
    ·intro w'
     go_simp; with_reducible rfl
    rotate_left
    ·exact KA
    refine pure_ (i := 3) (N := some 24) (v := ?_) (a' := ?_) #[true, true, true, true, false, false, false, false, false, false] rfl rfl (any_of HT_.out (by kernel_rfl)) (fun _ _ _ h => h) (Or.inl ⟨by rfl, ?_⟩) ?_ ?_; rotate_left
    ·intro w'
     go_simp; with_reducible rfl
    rotate_left
    ·exact KA
    refine pure_ (i := 4) (N := some 25) (v := ?_) (a' := ?_) #[true, true, true, true, true, false, false, false, false, false] rfl rfl (any_of HT_.out (by kernel_rfl)) (fun _ _ _ h => h) (Or.inl ⟨by rfl, ?_⟩) ?_ ?_; rotate_left
    ·intro w'
     go_simp; with_reducible rfl
    rotate_left
    ·exact KA
    refine take_ (i := 5) (N := some 26) (v := ?_) (a' := ?_) #[true, true, true, true, true, true, false, false, false, false] rfl rfl (take_ofW HT_.out HW_.out (by kernel_rfl)) (fun _ _ _ h => h) (Or.inl ⟨by rfl, ?_⟩) hHeld ?_ ?_; rotate_left
    ·rintro w' ⟨s0, s1, s2, s3, s4, s5, s6, s7⟩
     go_simp; with_reducible rfl
    rotate_left
    ·exact KA
    refine take_ (i := 6) (N := some 27) (v := ?_) (a' := ?_) #[true, true, true, true, true, true, true, false, false, false] rfl rfl (take_ofW HT_.out HW_.out (by kernel_rfl)) (fun _ _ _ h => h) (Or.inl ⟨by rfl, ?_⟩) hHeld ?_ ?_; rotate_left
    ·rintro w' ⟨s0, s1, s2, s3, s4, s5, s6, s7⟩
     go_simp; with_reducible rfl
    rotate_left
    ·exact KA
    refine one_ (i := 7) (N := some 28) #[true, true, true, true, true, true, true, true, false, false] rfl rfl (one_of HT_.out (by kernel_rfl)) (by decide) (fun K hK => ?_); refine goes_ Try.func89 (by kernel_rfl) rfl #[.agg #[.int .i64 ((rd_T35 l0 t580).f0), .int .i64 ((rd_T35 l0 t580).f1), .bool ((rd_T35 l0 t580).f2), .string ((rd_T35 l0 t580).f3)], .agg #[.int .i64 a1_0, .int .i64 a1_1, .bool a1_2, .string a1_3]] (by rfl) rfl rfl KL ?_; (with_reducible refine (impl_Better.calls ((rd_T35 l0 t580).f0) ((rd_T35 l0 t580).f1) ((rd_T35 l0 t580).f2) ((rd_T35 l0 t580).f3) a1_0 a1_1 a1_2 a1_3 t583 t584 t585 t586 _ A7.out).mono ?_); rintro e w14 ⟨rfl, hb⟩; have HS4_ := (hb.cell (World.block_lt_of_cell? _ _ (hHeld.2.2.2.2.1))).trans (hHeld.2.2.2.2.1); have HS5_ := (hb.cell (World.block_lt_of_cell? _ _ (hHeld.2.2.2.2.2.1))).trans (hHeld.2.2.2.2.2.1); have HS6_ := (hb.cell (World.block_lt_of_cell? _ _ (hHeld.2.2.2.2.2.2.1))).trans (hHeld.2.2.2.2.2.2.1); have HS7_ := (hb.cell (World.block_lt_of_cell? _ _ (hHeld.2.2.2.2.2.2.2))).trans (hHeld.2.2.2.2.2.2.2); refine ⟨_, rfl, ?_⟩; have h_ := P4 (Kd.R_below (KR HO0.out) hb) (BL BK579.out hb) (Kept.below (S := (fun k_ => P0_ k_)) (by repeat (first | (with_reducible first | exact HK.out | apply Kept.alloc | apply Kept.drewN | apply Kept.drew | refine Kept.setCell ?_ (.inr GW579.out) _) | exact HK.out)) hb) (below_step (KBh HB.out) hb); clear HO0 BK579 HK HB; obtain ⟨HO0, BK579, HK, HB⟩ := h_; (try clear hb); (try clear hk); (try clear hi); have p8 : 0 ≤ (t580 : Int) := of_decide_eq_true (by first | (with_reducible assumption) | assumption); have q8 : (t580 : Int) < ((l0.length : Int) : Int) := of_decide_eq_true (by first | (with_reducible assumption) | assumption); obtain ⟨go8, co8, eo8, gb8, gl8, cl8, HG8⟩ := Kd.R_form HO0.out (by omega); (first | cases eo8 | (injection eo8 with ea_ en_ ec_; (first | subst ea_ | (injection ea_ with ea_; subst ea_)); subst ec_; clear en_)); have GB8 := Aside0.mk gb8; have GG8 := Aside0.mk HG8; clear gb8 gl8 HG8; have HMgo8 := Aside0.mk (show (P0_ go8 ∨ w.heap.size ≤ go8) from (HO0.out.1 _ rfl).1); (first | simp only [add_plain] at hx582_0 | skip); (first | simp only [add_plain] at hx582_1 | skip); (first | simp only [add_plain] at hx582_2 | skip); (first | simp only [add_plain] at hx582_3 | skip); obtain ⟨ce8, hcl8, hM8, hcc8, hfr8⟩ := Kd.R_elem HO0.out z35 (t580 : Int) p8 q8; obtain rfl := k35_openM hM8; have hx8_0 : World.cell? _ ⟨go8, (t580 : Int).toNat * 4, none⟩ = some (.int .i64 ((rd_T35 l0 t580).f0)) := hcc8 0 _ rfl; have hx8_1 : World.cell? _ ⟨go8, (t580 : Int).toNat * 4 + 1, none⟩ = some (.int .i64 ((rd_T35 l0 t580).f1)) := hcc8 1 _ rfl; have hx8_2 : World.cell? _ ⟨go8, (t580 : Int).toNat * 4 + 2, none⟩ = some (.bool ((rd_T35 l0 t580).f2)) := hcc8 2 _ rfl; have hx8_3 : World.cell? _ ⟨go8, (t580 : Int).toNat * 4 + 3, none⟩ = some (.string ((rd_T35 l0 t580).f3)) := hcc8 3 _ rfl; have hf8_0 : World.frozen? _ ⟨go8, (t580 : Int).toNat * 4, none⟩ = false := hfr8 0; have hf8_1 : World.frozen? _ ⟨go8, (t580 : Int).toNat * 4 + 1, none⟩ = false := hfr8 1; have hf8_2 : World.frozen? _ ⟨go8, (t580 : Int).toNat * 4 + 2, none⟩ = false := hfr8 2; have hf8_3 : World.frozen? _ ⟨go8, (t580 : Int).toNat * 4 + 3, none⟩ = false := hfr8 3; clear hcl8 hcc8 hfr8 hM8; replace p8 := eq_true p8; replace q8 := eq_true q8; obtain ⟨ce15, hcl15, hM15, hcc15, hfr15⟩ := Kd.R_elem HO0.out z35 (t580 : Int) (of_decide_eq_true (by first | (with_reducible assumption) | assumption)) (by have h_ : (t580 : Int) < ((l0.length : Int) : Int) := of_decide_eq_true (by first | (with_reducible assumption) | assumption); first | exact h_ | (have e_ := (Kd.R_reads' HO0.out).1; omega) | simpa using h_); obtain rfl := k35_openM hM15; have HP15 := (Kd.R_seg HO0.out (t580 : Int) (of_decide_eq_true (by first | (with_reducible assumption) | assumption)) (by have h_ : (t580 : Int) < ((l0.length : Int) : Int) := of_decide_eq_true (by first | (with_reducible assumption) | assumption); first | exact h_ | (have e_ := (Kd.R_reads' HO0.out).1; omega) | simpa using h_) (seg := [.int .i64 t583, .int .i64 t584, .bool t585, .string t586]) (j := 0) hcl15 hcc15 (show 4 ≤ 4 from by decide) (x' := (⟨t583, t584, t585, t586⟩ : S35)) (k35_mkM _ _ _ (⟨t583, t584, t585, t586⟩ : S35) ) (fun _ hk => hk)).1; rw [← Ny587.out] at HP15; have HQ15 := Aside0.mk HP15; clear hcl15 hcc15 hfr15 hM15 HP15; refine hK.out _ _ ⟨(blk_cell BK579.out 0).trans rfl, (blk_cell BK579.out 1).trans rfl, (blk_cell BK579.out 2).trans rfl, (blk_cell BK579.out 3).trans rfl, HS4_, HS5_, HS6_, HS7_⟩ (fun hHeld => ?_); clear hK K; refine norm_ (a' := ?_) ?_ ?_; rotate_left
    ·show Act.put _ (some 28) _ = _; exact KA
    refine pure_ (i := 8) (N := some 29) (v := ?_) (a' := ?_) #[true, true, true, true, true, true, true, true, true, false] rfl rfl (any_of HT_.out (by kernel_rfl)) (fun _ _ _ h => h) (Or.inl ⟨by rfl, ?_⟩) ?_ ?_; rotate_left
    ·intro w'
     go_simp; with_reducible rfl
    rotate_left
    ·exact KA
    refine last_ (i := 9) (N := none) #[true, true, true, true, true, true, true, true, true, true] rfl rfl (one_of HT_.out (by kernel_rfl)) (by decide) (fun K hK => ?_); refine skip_ (w1 := ?_) (by rfl) rfl ?_ ?_; rotate_left
    ·go_simp
     rfl
    refine hK.out _ _ ?_; clear hK K; refine done_ (done_of HT_.out (by kernel_rfl)) ?_
    try go_wp2
    go_ret
    exact ⟨_, KE, by (with_reducible repeat (first | apply Kd.R_alloc | apply Kd.R_drewN | apply Kd.R_drew)); exact Kd.R_mono HQ15.out (fun _ hk => hk.1), KBh HB.out, by repeat (first | (with_reducible first | exact HK.out | apply Kept.alloc | apply Kept.drewN | apply Kept.drew | refine Kept.setCell ?_ HMgo8.out _ | refine Kept.setCell ?_ HMgo8.out _ | refine Kept.setCell ?_ HMgo8.out _ | refine Kept.setCell ?_ HMgo8.out _ | refine Kept.setCell ?_ (.inr GW579.out) _) | exact HK.out)⟩
   ·rw [if_neg c6] at H
    exact absurd H (by simp)
  ·rw [if_neg c5] at H
   exact absurd H (by simp)
 ·replace c4 := Bool.eq_false_iff.mpr c4
  subst c4; have H1 : ((impl_Entry.f l0 t580 (([(⟨a1_0, a1_1, a1_2, a1_3⟩ : S35)] : List (S35)))).bind fun bt591 => (some bt591.1)) = some r := by rw [if_neg (show ¬ (false = true) by decide)] at H; exact H
  clear H; have H := H1; clear H1; obtain ⟨y588, hy588⟩ : ∃ y_ : List (S35), y_ = (([(⟨a1_0, a1_1, a1_2, a1_3⟩ : S35)] : List (S35))) := ⟨_, rfl⟩; replace H : ((impl_Entry.f l0 t580 y588).bind fun bt591 => (some bt591.1)) = some r := by first | (rw [hy588]; with_reducible exact H) | (have H2_ := (Option.bind_some _ _).symm.trans H; rw [hy588]; with_reducible exact H2_) | (have H2_ := (Option.bind_some _ _).symm.trans H; with_reducible exact H2_) | with_reducible exact H | (rw [hy588]; exact H) | exact H
  have Ny588 := Aside0.mk hy588; clear hy588; replace H := Option.bind_eq_some_iff.mp H; obtain ⟨⟨t591, t594⟩, A160, H⟩ := H
  try dsimp only at H
  have A16 := Aside0.mk A160; clear A160; obtain rfl := Option.some.inj H
  go_enter Try.func64, Try.ntmps64
  go_wp2_with (first | ((with_reducible refine GD 3 ?_); refine BE 3 #[.int .i64 a1_0, .int .i64 a1_1, .bool a1_2, .string a1_3] 35 ?_; intro gb579 hg w17 hbox hb; have h_ := P6 (Kd.R_below (Kd.R_elderB (KR HO0.out) gb579 (Nat.le_of_eq hg.symm)) hb) (Kept.below (S := (fun k_ => P0_ k_)) KH hb) (below_step KB hb) hbox (by rw [hg]; exact (by first | exact HK.out.1 | exact (show Kept w _ (fun k_ => P0_ k_) from KH).1) : w.heap.size ≤ gb579) (by rw [hg]; exact (below_size KB) : w0.heap.size ≤ gb579); clear HO0 HK HB; obtain ⟨HO0, HK, HB, BK579, GW579, GE579⟩ := h_; clear hb hbox hg; obtain ⟨hcz18_0, hcz18_1, hcz18_2, hcz18_3, hfz18_0, hfz18_1, hfz18_2, hfz18_3⟩ := C4 BK579.out; obtain ⟨Ao19, co19, eo19⟩ := Kd.R_slice HO0.out; subst eo19) | ((with_reducible refine GC 59 ?_); refine goesL_ (some 11) rfl rfl Try.func59 (by kernel_rfl) rfl #[.slice Ao19 l0.length co19, .int .i64 a1_0] rfl KL ?_; (with_reducible refine (impl_placeIn.calls _ _ l0 a1_0 t580 false _ ?side1 ?side2 A3.out).mono ?_); (case side1 => repeat (first | exact (Kd.R_reads' HO0.out).2.2 | (with_reducible refine Kd.C_alloc ?_ _) | (with_reducible refine Kd.C_drewN ?_ _) | (with_reducible refine Kd.C_drew ?_))); (case side2 => exact (Kd.R_reads' HO0.out).2.1); rintro e w20 ⟨rfl, hb⟩; refine ⟨_, rfl, ?_⟩; have h_ := P4 (Kd.R_below (KR HO0.out) hb) (BL BK579.out hb) (Kept.below (S := (fun k_ => P0_ k_)) (by repeat (first | (with_reducible first | exact HK.out | apply Kept.alloc | apply Kept.drewN | apply Kept.drew | refine Kept.setCell ?_ (.inr GW579.out) _) | exact HK.out)) hb) (below_step (KBh HB.out) hb); clear HO0 BK579 HK HB; obtain ⟨HO0, BK579, HK, HB⟩ := h_; (try clear hb); (try clear hk); (try clear hi); obtain ⟨hcz21_0, hcz21_1, hcz21_2, hcz21_3, hfz21_0, hfz21_1, hfz21_2, hfz21_3⟩ := C4 BK579.out) | ((with_reducible refine GD 19 ?_); refine Kd.R_lit k35 _ 35 ?hg (N := 19) ?hd (xs := ([(⟨a1_0, a1_1, a1_2, a1_3⟩ : S35)] : List (S35))) (inner := [.int .i64 a1_0, .int .i64 a1_1, .bool a1_2, .string a1_3]) (ok := fun _ => True) (okp := fun _ => True) ?hr ?hp (fun _ hk => hk) trivial (Below.refl _ _) (Nat.le_refl _) (by simp) ?_; (case hd => rfl); (case hg => rfl); (case hr => first | (go_simp; done) | (go_simp; rfl)); (case hp => exact (Reps.c4 (show Kd.M k35 _ _ _ (⟨a1_0, a1_1, a1_2, a1_3⟩ : S35) [.int .i64 a1_0, .int .i64 a1_1, .bool a1_2, .string a1_3] from (k35_mkM _ _ _ (⟨a1_0, a1_1, a1_2, a1_3⟩ : S35) )) (Reps.none _ _))); intro v589 w22 ho23 hb hg_ hnew_; clear hg_ hnew_; (first | rw [← Ny588.out] at ho23 | (simp only [Int.reduceToNat] at ho23; rw [← Ny588.out] at ho23)); have h_ := P5 (Kd.R_elder' (KR HO0.out) (Kd.R_base ho23) hb) (Kd.R_lower (Kd.R_newB (Kd.R_new' (Kd.R_newM (M := fun k_ => (P0_ k_ ∨ w.heap.size ≤ k_)) ho23 (by first | exact HK.out.1 | exact (show Kept w _ (fun k_ => P0_ k_) from by repeat (first | (with_reducible first | exact HK.out | apply Kept.alloc | apply Kept.drewN | apply Kept.drew | refine Kept.setCell ?_ (.inr GW579.out) _) | exact HK.out)).1) (fun k_ h_ => .inr h_)) (Kd.R_lt (KR HO0.out))) (g := gb579) (o := .cells #[.int .i64 a1_0, .int .i64 a1_1, .bool a1_2, .string a1_3] 35 (0, 0)) KK) (below_size (KBh HB.out))) (BL BK579.out hb) (Kept.below (S := (fun k_ => P0_ k_)) (by repeat (first | (with_reducible first | exact HK.out | apply Kept.alloc | apply Kept.drewN | apply Kept.drew | refine Kept.setCell ?_ (.inr GW579.out) _) | exact HK.out)) hb) (below_step (KBh HB.out) hb); clear HO0 BK579 HK HB; obtain ⟨HO0, HO590, BK579, HK, HB⟩ := h_; clear hb ho23; obtain ⟨Ao24, co24, eo24⟩ := Kd.R_slice HO590.out; subst eo24) | ((with_reducible refine GC 88 ?_); refine goesL_ (some 20) rfl rfl Try.func88 (by kernel_rfl) rfl #[.slice Ao19 l0.length co19, .int .i64 t580, .slice Ao24 y588.length co24] rfl KL ?_; (with_reducible refine (impl_Entry.calls (fun k_ => some k_ = (.slice Ao19 l0.length co19 : Value).ownBlock) (.slice Ao19 l0.length co19) l0 t580 (fun k_ => some k_ = (.slice Ao24 y588.length co24 : Value).ownBlock) (.slice Ao24 y588.length co24) y588 t591 t594 w0 _ ?side1 ?side2 ?side3 ?side4 ?side5 A16.out).mono ?_); (case side1 => exact KBh HB.out); (case side2 => exact Kd.R_tight rfl HO0.out); (case side3 => exact fun k_ e_ => (HO0.out.1 k_ e_.symm).2); (case side4 => exact Kd.R_tight rfl HO590.out); (case side5 => exact fun k_ e_ => (HO590.out.1 k_ e_.symm).1.2); rintro e w25 ⟨v592, rfl, ho0, hy0, hb, hkp⟩; refine ⟨_, rfl, ?_⟩; have h_ := P5 (blk_kept KK hkp (fun hs_ => Or.elim hs_ (fun e_ => (fun e_ => (Kd.R_away HO0.out (fun _ hk => hk.1.2)) e_) e_) (fun e_ => (fun e_ => (Kd.R_away HO590.out (fun _ hk => hk.2)) e_) e_))) (Kd.R_reok rfl hy0 (fun k_ e_ => HO590.out.1 k_ e_)) (Kd.R_mono (ok' := fun k_ => (P0_ k_ ∨ w.heap.size ≤ k_) ∧ some k_ ≠ (.slice Ao24 y588.length co24 : Value).ownBlock ∧ k_ ≠ gb579) ho0 (fun k_ hk_ => ⟨Or.elim hk_.1 (fun hs_ => Or.elim hs_ (fun hs_ => (HO0.out.1 k_ (hs_).symm).1.1) (fun hs_ => (HO590.out.1 k_ (hs_).symm).1.1.1)) (fun hn_ => (.inr (Nat.le_trans (by first | exact HK.out.1 | exact (show Kept w _ (fun k_ => P0_ k_) from by repeat (first | (with_reducible first | exact HK.out | apply Kept.alloc | apply Kept.drewN | apply Kept.drew | refine Kept.setCell ?_ (.inr GW579.out) _) | exact HK.out)).1) hn_))), hk_.2, Or.elim hk_.1 (fun hs_ => Or.elim hs_ (fun hs_ => fun e_ => (Kd.R_away HO0.out (fun _ hk => hk.1.2)) (by rw [← e_]; exact hs_)) (fun hs_ => fun e_ => (Kd.R_away HO590.out (fun _ hk => hk.2)) (by rw [← e_]; exact hs_))) (fun hn_ => (Kd.freshB (g := gb579) (o := .cells #[.int .i64 a1_0, .int .i64 a1_1, .bool a1_2, .string a1_3] 35 (0, 0)) KK k_ hn_))⟩)) (Kept.then_ (S := (fun k_ => P0_ k_)) (by repeat (first | (with_reducible first | exact HK.out | apply Kept.alloc | apply Kept.drewN | apply Kept.drew | refine Kept.setCell ?_ (.inr GW579.out) _) | exact HK.out)) hkp (fun k_ hs_ => Or.elim hs_ (fun e_ => (fun e_ => (HO0.out.1 k_ e_.symm).1.1) e_) (fun e_ => (fun e_ => (HO590.out.1 k_ e_.symm).1.1.1) e_))) hb; clear BK579 HO590 HK HB HO0; obtain ⟨BK579, HO590, HO593, HK, HB⟩ := h_; (try clear hb); (try clear hkp); (try clear ho0); (try clear hy0)))
  go_ret
  exact ⟨_, KE, by (with_reducible repeat (first | apply Kd.R_alloc | apply Kd.R_drewN | apply Kd.R_drew)); exact Kd.R_mono HO593.out (fun _ hk => hk.1), KBh HB.out, by repeat (first | (with_reducible first | exact HK.out | apply Kept.alloc | apply Kept.drewN | apply Kept.drew | refine Kept.setCell ?_ (.inr GW579.out) _) | exact HK.out)⟩

end Go.Proofs.Ytnoghojlpicecaa.PFnStored
