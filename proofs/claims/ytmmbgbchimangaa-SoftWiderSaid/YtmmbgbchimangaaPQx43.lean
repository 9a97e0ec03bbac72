-- by a program of this claim
import Derived.Test.YtmmbgbchimangaaPQx0
import Derived.Test.YtmmbgbchimangaaPQx3
import Derived.Test.YtmmbgbchimangaaPQx4
import Derived.Test.YtmmbgbchimangaaPQx5
import Derived.Test.YtmmbgbchimangaaPQx6
import Derived.Test.YtmmbgbchimangaaPQx7
import Derived.Test.YtmmbgbchimangaaPQx8
import Derived.Test.YtmmbgbchimangaaPQx20
import Derived.Test.YtmmbgbchimangaaPQx26
import Derived.Test.YtmmbgbchimangaaPQx29
namespace Go.Proofs.Ytmmbgbchimangaa.PQ
open Go.RowKit Go.Proofs.YtmmbgbchimangaaW.PrintWords Go.Proofs.YtmmbgbchimangaaW.PrintLast Go.Proofs.YtmmbgbchimangaaW.PrintMore Go.Proofs.Ytmmbgbchimangaa.Z
attribute [local go_sem] max2_int min2_int max_two min_two max_three min_three max_four min_four   -- for this text's walks alone
set_option linter.unusedVariables false
set_option linter.unusedSimpArgs false

/-! ### grottolaw03_SoftWider: function 14 -/
mutual
def grottolaw03_SoftWider.j0 : Nat → Int → Int → Bool → Int → Int → Int → Int → Option (Bool)
 | 0, _, _, _, _, _, _, _ => none
 | k + 1, x1, x2, x58, x1258000, x1258001, x1259000, x1259001 => if x58 = true then ((grottolaw03_live.f k).bind fun t1271 => (some t1271)) else ((soft_Convert.f k x1258000 x1258001 x1259000 x1259001 x1).bind fun bt1272 => ((soft_Convert.f k x1258000 x1258001 x1259000 x1259001 x2).bind fun bt1274 => ((grottolaw03_num.f bt1272.2).bind fun t1276 => ((grottolaw03_num.f bt1274.2).bind fun t1277 => (if (wrap64 (t1276 + t1277)) = 0 then (grottolaw03_SoftWider.l0 k x1 x2 bt1272.1 bt1274.1 0 x1258000 x1258001 x1259000 x1259001) else (some false))))))
def grottolaw03_SoftWider.l0 : Nat → Int → Int → Int → Int → Int → Int → Int → Int → Int → Option (Bool)
 | 0, _, _, _, _, _, _, _, _, _ => none
 | k + 1, x1, x2, x12, x14, x16, x1258000, x1258001, x1259000, x1259001 => if x16 < 5 then (if x16 = 0 then ((soft_Add.f k x1258000 x1258001 x1 x2).bind fun bt1279 => ((soft_Add.f k x1259000 x1259001 x12 x14).bind fun bt1281 => (grottolaw03_SoftWider.j2 k x1 x2 x12 x14 x16 bt1279.1 bt1281.1 bt1279.2 bt1281.2 x1258000 x1258001 x1259000 x1259001))) else (if x16 = 1 then ((soft_Sub.f k x1258000 x1258001 x1 x2).bind fun bt1283 => ((soft_Sub.f k x1259000 x1259001 x12 x14).bind fun bt1285 => (grottolaw03_SoftWider.j2 k x1 x2 x12 x14 x16 bt1283.1 bt1285.1 bt1283.2 bt1285.2 x1258000 x1258001 x1259000 x1259001))) else (if x16 = 2 then ((soft_Mul.f k x1258000 x1258001 x1 x2).bind fun bt1287 => ((soft_Mul.f k x1259000 x1259001 x12 x14).bind fun bt1289 => (grottolaw03_SoftWider.j2 k x1 x2 x12 x14 x16 bt1287.1 bt1289.1 bt1287.2 bt1289.2 x1258000 x1258001 x1259000 x1259001))) else (if x16 = 3 then ((soft_Div.f k x1258000 x1258001 x1 x2).bind fun bt1291 => ((soft_Div.f k x1259000 x1259001 x12 x14).bind fun bt1293 => (grottolaw03_SoftWider.j2 k x1 x2 x12 x14 x16 bt1291.1 bt1293.1 bt1291.2 bt1293.2 x1258000 x1258001 x1259000 x1259001))) else (if x16 = 4 then ((soft_Sqrt.f k x1258000 x1258001 x1).bind fun bt1295 => ((soft_Sqrt.f k x1259000 x1259001 x12).bind fun bt1297 => (grottolaw03_SoftWider.j2 k x1 x2 x12 x14 x16 bt1295.1 bt1297.1 bt1295.2 bt1297.2 x1258000 x1258001 x1259000 x1259001))) else (grottolaw03_SoftWider.j2 k x1 x2 x12 x14 x16 0 0 0 0 x1258000 x1258001 x1259000 x1259001)))))) else ((grottolaw03_live.f k).bind fun t1278 => (some t1278))
def grottolaw03_SoftWider.j2 : Nat → Int → Int → Int → Int → Int → Int → Int → Int → Int → Int → Int → Int → Int → Option (Bool)
 | 0, _, _, _, _, _, _, _, _, _, _, _, _, _ => none
 | k + 1, x1, x2, x12, x14, x16, x17, x18, x20, x21, x1258000, x1258001, x1259000, x1259001 => (soft_Convert.f k x1259000 x1259001 x1258000 x1258001 x18).bind fun bt1299 => ((grottolaw03_num.f x20).bind fun t1301 => ((grottolaw03_num.f x21).bind fun t1302 => ((grottolaw03_num.f bt1299.2).bind fun t1303 => (if (wrap64 ((wrap64 (t1301 + t1302)) + t1303)) = 0 then (if x17 = bt1299.1 then (grottolaw03_SoftWider.l0 k x1 x2 x12 x14 (wrap64 (x16 + 1)) x1258000 x1258001 x1259000 x1259001) else (some false)) else (some false)))))
end
def grottolaw03_SoftWider.f (k : Nat) (a0_0 : Int) (a0_1 : Int) (a1 : Int) (a2 : Int) : Option (Bool) := (grottoref02_Open.f k a0_0 a0_1 a1).bind fun bt1259 => ((grottoref02_Open.f k a0_0 a0_1 a2).bind fun bt1265 => (if a0_0 > 23 then (grottolaw03_SoftWider.j0 k a1 a2 true a0_0 a0_1 (wrap64 ((wrap64 (2 * a0_0)) + 4)) (wrap64 (a0_1 + 2))) else (if a0_1 > 9 then (grottolaw03_SoftWider.j0 k a1 a2 true a0_0 a0_1 (wrap64 ((wrap64 (2 * a0_0)) + 4)) (wrap64 (a0_1 + 2))) else (if bt1259.2.2.2.2 = 0 then (grottolaw03_SoftWider.j0 k a1 a2 (bt1265.2.2.2.2 != 0) a0_0 a0_1 (wrap64 ((wrap64 (2 * a0_0)) + 4)) (wrap64 (a0_1 + 2))) else (grottolaw03_SoftWider.j0 k a1 a2 true a0_0 a0_1 (wrap64 ((wrap64 (2 * a0_0)) + 4)) (wrap64 (a0_1 + 2)))))))
theorem grottolaw03_SoftWider.mono_l : ∀ k, (∀ y0 y1 y2 y3 y4 y5 y6, LeO (grottolaw03_SoftWider.j0 k y0 y1 y2 y3 y4 y5 y6) (grottolaw03_SoftWider.j0 (k + 1) y0 y1 y2 y3 y4 y5 y6)) ∧ (∀ y0 y1 y2 y3 y4 y5 y6 y7 y8, LeO (grottolaw03_SoftWider.l0 k y0 y1 y2 y3 y4 y5 y6 y7 y8) (grottolaw03_SoftWider.l0 (k + 1) y0 y1 y2 y3 y4 y5 y6 y7 y8)) ∧ (∀ y0 y1 y2 y3 y4 y5 y6 y7 y8 y9 y10 y11 y12, LeO (grottolaw03_SoftWider.j2 k y0 y1 y2 y3 y4 y5 y6 y7 y8 y9 y10 y11 y12) (grottolaw03_SoftWider.j2 (k + 1) y0 y1 y2 y3 y4 y5 y6 y7 y8 y9 y10 y11 y12))
 | 0 => ⟨fun _ _ _ _ _ _ _ r h => by simp [grottolaw03_SoftWider.j0] at h, fun _ _ _ _ _ _ _ _ _ r h => by simp [grottolaw03_SoftWider.l0] at h, fun _ _ _ _ _ _ _ _ _ _ _ _ _ r h => by simp [grottolaw03_SoftWider.j2] at h⟩
 | k + 1 => by
  obtain ⟨ih0, ih1, ih2⟩ := grottolaw03_SoftWider.mono_l k
  refine ⟨?_, ?_, ?_⟩
  ·intro y0 y1 y2 y3 y4 y5 y6
   unfold grottolaw03_SoftWider.j0
   repeat' first
   | (with_reducible exact ih0 _ _ _ _ _ _ _)
   | (with_reducible exact ih1 _ _ _ _ _ _ _ _ _)
   | (with_reducible exact ih2 _ _ _ _ _ _ _ _ _ _ _ _ _)
   | (with_reducible exact grottolaw03_live.mono _)
   | (with_reducible exact grottoref02_Open.mono _ _ _ _)
   | (with_reducible exact soft_Add.mono _ _ _ _ _)
   | (with_reducible exact soft_Convert.mono _ _ _ _ _ _)
   | (with_reducible exact soft_Div.mono _ _ _ _ _)
   | (with_reducible exact soft_Mul.mono _ _ _ _ _)
   | (with_reducible exact soft_Sqrt.mono _ _ _ _)
   | (with_reducible exact soft_Sub.mono _ _ _ _ _)
   | (with_reducible exact LeO.refl _)
   | (with_reducible exact LeO.none _)
   | (with_reducible refine LeO.ite ?_ ?_)
   | (with_reducible refine LeO.bind ?_ (fun _ => ?_))
   | exact ih0 _ _ _ _ _ _ _
   | exact ih1 _ _ _ _ _ _ _ _ _
   | exact ih2 _ _ _ _ _ _ _ _ _ _ _ _ _
   | exact grottolaw03_live.mono _
   | exact grottoref02_Open.mono _ _ _ _
   | exact soft_Add.mono _ _ _ _ _
   | exact soft_Convert.mono _ _ _ _ _ _
   | exact soft_Div.mono _ _ _ _ _
   | exact soft_Mul.mono _ _ _ _ _
   | exact soft_Sqrt.mono _ _ _ _
   | exact soft_Sub.mono _ _ _ _ _
   | exact LeO.none _
   | refine LeO.ite ?_ ?_
   | refine LeO.bind ?_ (fun _ => ?_)
  ·intro y0 y1 y2 y3 y4 y5 y6 y7 y8
   unfold grottolaw03_SoftWider.l0
   repeat' first
   | (with_reducible exact ih0 _ _ _ _ _ _ _)
   | (with_reducible exact ih1 _ _ _ _ _ _ _ _ _)
   | (with_reducible exact ih2 _ _ _ _ _ _ _ _ _ _ _ _ _)
   | (with_reducible exact grottolaw03_live.mono _)
   | (with_reducible exact grottoref02_Open.mono _ _ _ _)
   | (with_reducible exact soft_Add.mono _ _ _ _ _)
   | (with_reducible exact soft_Convert.mono _ _ _ _ _ _)
   | (with_reducible exact soft_Div.mono _ _ _ _ _)
   | (with_reducible exact soft_Mul.mono _ _ _ _ _)
   | (with_reducible exact soft_Sqrt.mono _ _ _ _)
   | (with_reducible exact soft_Sub.mono _ _ _ _ _)
   | (with_reducible exact LeO.refl _)
   | (with_reducible exact LeO.none _)
   | (with_reducible refine LeO.ite ?_ ?_)
   | (with_reducible refine LeO.bind ?_ (fun _ => ?_))
   | exact ih0 _ _ _ _ _ _ _
   | exact ih1 _ _ _ _ _ _ _ _ _
   | exact ih2 _ _ _ _ _ _ _ _ _ _ _ _ _
   | exact grottolaw03_live.mono _
   | exact grottoref02_Open.mono _ _ _ _
   | exact soft_Add.mono _ _ _ _ _
   | exact soft_Convert.mono _ _ _ _ _ _
   | exact soft_Div.mono _ _ _ _ _
   | exact soft_Mul.mono _ _ _ _ _
   | exact soft_Sqrt.mono _ _ _ _
   | exact soft_Sub.mono _ _ _ _ _
   | exact LeO.none _
   | refine LeO.ite ?_ ?_
   | refine LeO.bind ?_ (fun _ => ?_)
  ·intro y0 y1 y2 y3 y4 y5 y6 y7 y8 y9 y10 y11 y12
   unfold grottolaw03_SoftWider.j2
   repeat' first
   | (with_reducible exact ih0 _ _ _ _ _ _ _)
   | (with_reducible exact ih1 _ _ _ _ _ _ _ _ _)
   | (with_reducible exact ih2 _ _ _ _ _ _ _ _ _ _ _ _ _)
   | (with_reducible exact grottolaw03_live.mono _)
   | (with_reducible exact grottoref02_Open.mono _ _ _ _)
   | (with_reducible exact soft_Add.mono _ _ _ _ _)
   | (with_reducible exact soft_Convert.mono _ _ _ _ _ _)
   | (with_reducible exact soft_Div.mono _ _ _ _ _)
   | (with_reducible exact soft_Mul.mono _ _ _ _ _)
   | (with_reducible exact soft_Sqrt.mono _ _ _ _)
   | (with_reducible exact soft_Sub.mono _ _ _ _ _)
   | (with_reducible exact LeO.refl _)
   | (with_reducible exact LeO.none _)
   | (with_reducible refine LeO.ite ?_ ?_)
   | (with_reducible refine LeO.bind ?_ (fun _ => ?_))
   | exact ih0 _ _ _ _ _ _ _
   | exact ih1 _ _ _ _ _ _ _ _ _
   | exact ih2 _ _ _ _ _ _ _ _ _ _ _ _ _
   | exact grottolaw03_live.mono _
   | exact grottoref02_Open.mono _ _ _ _
   | exact soft_Add.mono _ _ _ _ _
   | exact soft_Convert.mono _ _ _ _ _ _
   | exact soft_Div.mono _ _ _ _ _
   | exact soft_Mul.mono _ _ _ _ _
   | exact soft_Sqrt.mono _ _ _ _
   | exact soft_Sub.mono _ _ _ _ _
   | exact LeO.none _
   | refine LeO.ite ?_ ?_
   | refine LeO.bind ?_ (fun _ => ?_)
theorem grottolaw03_SoftWider.mono : ∀ a0 a1 a2 a3 k, LeO (grottolaw03_SoftWider.f k a0 a1 a2 a3) (grottolaw03_SoftWider.f (k + 1) a0 a1 a2 a3) := by
 intro a0 a1 a2 a3 k
 obtain ⟨ih0, ih1, ih2⟩ := grottolaw03_SoftWider.mono_l k
 unfold grottolaw03_SoftWider.f
 repeat' first
   | (with_reducible exact ih0 _ _ _ _ _ _ _)
   | (with_reducible exact ih1 _ _ _ _ _ _ _ _ _)
   | (with_reducible exact ih2 _ _ _ _ _ _ _ _ _ _ _ _ _)
   | (with_reducible exact grottolaw03_live.mono _)
   | (with_reducible exact grottoref02_Open.mono _ _ _ _)
   | (with_reducible exact soft_Add.mono _ _ _ _ _)
   | (with_reducible exact soft_Convert.mono _ _ _ _ _ _)
   | (with_reducible exact soft_Div.mono _ _ _ _ _)
   | (with_reducible exact soft_Mul.mono _ _ _ _ _)
   | (with_reducible exact soft_Sqrt.mono _ _ _ _)
   | (with_reducible exact soft_Sub.mono _ _ _ _ _)
   | (with_reducible exact LeO.refl _)
   | (with_reducible exact LeO.none _)
   | (with_reducible refine LeO.ite ?_ ?_)
   | (with_reducible refine LeO.bind ?_ (fun _ => ?_))
   | exact ih0 _ _ _ _ _ _ _
   | exact ih1 _ _ _ _ _ _ _ _ _
   | exact ih2 _ _ _ _ _ _ _ _ _ _ _ _ _
   | exact grottolaw03_live.mono _
   | exact grottoref02_Open.mono _ _ _ _
   | exact soft_Add.mono _ _ _ _ _
   | exact soft_Convert.mono _ _ _ _ _ _
   | exact soft_Div.mono _ _ _ _ _
   | exact soft_Mul.mono _ _ _ _ _
   | exact soft_Sqrt.mono _ _ _ _
   | exact soft_Sub.mono _ _ _ _ _
   | exact LeO.none _
   | refine LeO.ite ?_ ?_
   | refine LeO.bind ?_ (fun _ => ?_)
set_option maxHeartbeats 8000000 in
set_option maxRecDepth 100000 in
theorem grottolaw03_SoftWider.calls {k : Nat} {j : Int} {l : Int} {a1 : Int} {a2 : Int} {r : Bool} {w : World} (h : grottolaw03_SoftWider.f k j l a1 a2 = some r) :
  Calls Try.prog 14 #[.agg #[.int .i64 j, .int .i64 l], .int .u64 a1, .int .u64 a2] w fun e w' => e = .returned (.bool r) ∧ Below w.heap.size w w' := by
 have hu23 := Try.underlying23
 have hu34 := Try.underlying34
 have HB := Aside0.mk (Below.refl w.heap.size w)
 have H : ((grottoref02_Open.f k j l a1).bind fun bM => ((grottoref02_Open.f k j l a2).bind fun bN => (if j > 23 then (grottolaw03_SoftWider.j0 k a1 a2 true j l (wrap64 ((wrap64 (2 * j)) + 4)) (wrap64 (l + 2))) else (if l > 9 then (grottolaw03_SoftWider.j0 k a1 a2 true j l (wrap64 ((wrap64 (2 * j)) + 4)) (wrap64 (l + 2))) else (if bM.2.2.2.2 = 0 then (grottolaw03_SoftWider.j0 k a1 a2 (bN.2.2.2.2 != 0) j l (wrap64 ((wrap64 (2 * j)) + 4)) (wrap64 (l + 2))) else (grottolaw03_SoftWider.j0 k a1 a2 true j l (wrap64 ((wrap64 (2 * j)) + 4)) (wrap64 (l + 2)))))))) = some r := h
 clear h
 obtain ⟨⟨ak, al, am, an, bY⟩, A4, H⟩ := oB H
 try dsimp only at H
 obtain ⟨⟨bi, bj, bk, bl, bZ⟩, A5, H⟩ := oB H
 try dsimp only at H
 have b0 := Aside0.mk H
 clear H
 go_enter Try.func14, Try.ntmps14
 go_upto_region 4 with (first | ((with_reducible refine gate_dst (N := 3) rfl ?_); refine zbox (N := 3) (cs := #[.int .i64 j, .int .i64 l]) (t := 23) ?_; intro ao hg w7 hbox hb; have a := Aside0.mk hbox; have d8 := zge hg HB; have d9 := zge hg HB; replace HB := zbs HB hb; clear hb hbox hg; obtain ⟨ap, aq, ar, au⟩ := zc2 a) | ((with_reducible refine gate_dst (N := 7) rfl ?_); refine zbox (N := 7) (cs := #[.int .i64 0, .int .i64 0]) (t := 23) ?_; intro i hg w9 hbox hb; have b := Aside0.mk hbox; have ea := zge hg HB; have eb := zge hg HB; have p := znl hg a; have v := zng hg a; obtain ⟨a, HB⟩ := zu1 a HB hb; clear hb hbox hg; obtain ⟨fe, ff⟩ := z2 v; obtain ⟨F, G, I, J⟩ := zc2 b; obtain ⟨K, L, M, O⟩ := zc2 a) | ((with_reducible refine gate_callee (f := 20) rfl ?_); refine zgc (some 34) Try.func20 (grottoref02_Open.calls A4.out) ?_; intro g9 hb; replace a := zkb a hb; replace b := Aside0.mk (blk_below (g := i) (o := .cells #[.int .i64 (wrap64 ((wrap64 (2 * j)) + 4)), .int .i64 (wrap64 (l + 2))] 23 (0, 0)) (zkp b) hb); replace HB := zbs HB hb; clear hb) | ((with_reducible refine gate_dst (N := 8) rfl ?_); refine zbox (N := 8) (cs := #[.int .i64 0, .bool false, .int .i64 0, .int .u64 0]) (t := 34) ?_; intro C hg ha hbox hb; have c := Aside0.mk hbox; have ec := zge hg HB; have ed := zge hg HB; have m := znl hg a; have av := zng hg a; have q := Aside0.mk ((by rw [hg]; exact Nat.ne_of_lt (blk_lt (g := i) (o := .cells #[.int .i64 (wrap64 ((wrap64 (2 * j)) + 4)), .int .i64 (wrap64 (l + 2))] 23 (0, 0)) (zk b)) : i ≠ C)); have aw := Aside0.mk ((by rw [hg]; exact Nat.ne_of_gt (blk_lt (g := i) (o := .cells #[.int .i64 (wrap64 ((wrap64 (2 * j)) + 4)), .int .i64 (wrap64 (l + 2))] 23 (0, 0)) (zk b)) : C ≠ i)); replace a := zkb a hb; replace b := Aside0.mk (blk_below (g := i) (o := .cells #[.int .i64 (wrap64 ((wrap64 (2 * j)) + 4)), .int .i64 (wrap64 (l + 2))] 23 (0, 0)) (zk b) hb); replace HB := zbs HB hb; clear hb hbox hg; obtain ⟨fg, fh⟩ := z2 av; obtain ⟨fi, fj⟩ := z2 aw; obtain ⟨P, Q, R, S, T, U, V, W⟩ := zc4 c; obtain ⟨X, Y, Z, aa⟩ := zc2 a) | ((with_reducible refine gate_callee (f := 20) rfl ?_); refine zgc (some 40) Try.func20 (grottoref02_Open.calls A5.out) ?_; intro hc hb; replace a := zkb a hb; replace b := Aside0.mk (blk_below (g := i) (o := .cells #[.int .i64 (wrap64 ((wrap64 (2 * j)) + 4)), .int .i64 (wrap64 (l + 2))] 23 (0, 0)) (zk b) hb); replace c := zkbo (o := .cells #[.int .i64 ak, .bool al, .int .i64 am, .int .u64 an] 34 (0, 0)) c hb; replace HB := zbs HB hb; clear hb) | ((with_reducible refine gate_dst (N := 10) rfl ?_); refine zbox (N := 10) (cs := #[.int .i64 0, .bool false, .int .i64 0, .int .u64 0]) (t := 34) ?_; intro D hg hd hbox hb; have d := Aside0.mk hbox; have ee := zge hg HB; have ef := zge hg HB; have n := znl hg a; have ax := zng hg a; have s := Aside0.mk ((by rw [hg]; exact Nat.ne_of_lt (blk_lt (g := i) (o := .cells #[.int .i64 (wrap64 ((wrap64 (2 * j)) + 4)), .int .i64 (wrap64 (l + 2))] 23 (0, 0)) (zk b)) : i ≠ D)); have ay := Aside0.mk ((by rw [hg]; exact Nat.ne_of_gt (blk_lt (g := i) (o := .cells #[.int .i64 (wrap64 ((wrap64 (2 * j)) + 4)), .int .i64 (wrap64 (l + 2))] 23 (0, 0)) (zk b)) : D ≠ i)); have bO := znl hg c; have az := zng hg c; replace a := zkb a hb; replace b := Aside0.mk (blk_below (g := i) (o := .cells #[.int .i64 (wrap64 ((wrap64 (2 * j)) + 4)), .int .i64 (wrap64 (l + 2))] 23 (0, 0)) (zk b) hb); obtain ⟨c, HB⟩ := zu1 c HB hb; clear hb hbox hg; obtain ⟨fk, fl⟩ := z2 ax; obtain ⟨fm, fn⟩ := z2 ay; obtain ⟨fo, fp⟩ := z2 az; obtain ⟨ab, ac, ad, ae, af, ag, ah, ai⟩ := zc4 d))
 (try simp only [Act.put, List.setIfInBounds_toArray, List.set_cons_zero, List.set_cons_succ])
 go_cut [58] (fun v58 wc => ∃ (kq : Nat) (aA : Bool), v58 = .bool aA ∧ Aside0 (grottolaw03_SoftWider.j0 kq a1 a2 aA j l (wrap64 ((wrap64 (2 * j)) + 4)) (wrap64 (l + 2)) = some r) ∧ Aside0 (kq ≤ k) ∧ Aside0 (wc.heap[ao]? = some (.cells #[.int .i64 j, .int .i64 l] 23 (0, 0))) ∧ Aside0 (wc.heap[i]? = some (.cells #[.int .i64 (wrap64 ((wrap64 (2 * j)) + 4)), .int .i64 (wrap64 (l + 2))] 23 (0, 0))) ∧ Aside0 (wc.heap[C]? = some (.cells #[.int .i64 ak, .bool al, .int .i64 am, .int .u64 an] 34 (0, 0))) ∧ Aside0 (wc.heap[D]? = some (.cells #[.int .i64 bi, .bool bj, .int .i64 bk, .int .u64 bl] 34 (0, 0))) ∧ Aside0 (Below w.heap.size w wc))
 case first =>
  have H := b0.out
  clear b0
  by_cases aC : j > 23
  ·rw [if_pos aC] at H
   have B : decide (23 < j) = true := decide_eq_true aC
   clear aC
   (first | rw [B] | (simp only [i64_w, i32_w]; rw [B]) | skip)
   have H' := Aside0.mk H
   clear H
   obtain ⟨fq, fr⟩ := z2 p
   obtain ⟨fs, ft⟩ := z2 m
   obtain ⟨fu, fv⟩ := z2 n
   obtain ⟨aD, aE, aF, aG⟩ := zc2 a
   go_wp2
   go_meet
   case rel => exact ⟨_, (true), (by first | rfl | (simp [*]; done)), H', ⟨by omega⟩, ⟨zk a⟩, ⟨zk b⟩, ⟨zk c⟩, ⟨zkp d⟩, ⟨zb HB⟩⟩
  ·rw [if_neg aC] at H
   have B : decide (23 < j) = false := decide_eq_false aC
   clear aC
   (first | rw [B] | (simp only [i64_w, i32_w]; rw [B]) | skip)
   by_cases aH : l > 9
   ·rw [if_pos aH] at H
    have bm : decide (9 < l) = true := decide_eq_true aH
    clear aH
    have H' := Aside0.mk H
    clear H
    obtain ⟨fw, fx⟩ := z2 p
    obtain ⟨fy, fz⟩ := z2 m
    obtain ⟨fA, fB⟩ := z2 n
    obtain ⟨aI, aJ, aK, aL⟩ := zc2 a
    go_wp2
    go_meet
    case rel => exact ⟨_, (true), (by first | rfl | (simp [*]; done)), H', ⟨by omega⟩, ⟨zk a⟩, ⟨zk b⟩, ⟨zk c⟩, ⟨zkp d⟩, ⟨zb HB⟩⟩
   ·rw [if_neg aH] at H
    have bm : decide (9 < l) = false := decide_eq_false aH
    clear aH
    by_cases bn : bY = 0
    ·rw [if_pos bn] at H
     obtain ⟨bo, bp⟩ := zt bn
     clear bn
     have H' := Aside0.mk H
     clear H
     obtain ⟨fC, fD⟩ := z2 p
     obtain ⟨fE, fF⟩ := z2 m
     obtain ⟨fG, fH⟩ := z2 n
     obtain ⟨aM, aN, aO, aP⟩ := zc2 a
     go_wp2
     go_meet
     case rel => exact ⟨_, ((bZ != 0)), (by first | rfl | (simp [*]; done)), H', ⟨by omega⟩, ⟨zk a⟩, ⟨zk b⟩, ⟨zk c⟩, ⟨zkp d⟩, ⟨zb HB⟩⟩
    ·rw [if_neg bn] at H
     obtain ⟨bo, bp⟩ := zf bn
     have H' := Aside0.mk H
     clear H
     obtain ⟨fI, fJ⟩ := z2 p
     obtain ⟨fK, fL⟩ := z2 m
     obtain ⟨fM, fN⟩ := z2 n
     obtain ⟨aQ, aR, aS, aT⟩ := zc2 a
     go_wp2
     go_meet
     case rel => exact ⟨_, (true), (by first | rfl | (simp [*]; done)), H', ⟨by omega⟩, ⟨zk a⟩, ⟨zk b⟩, ⟨zk c⟩, ⟨zkp d⟩, ⟨zb HB⟩⟩
 case rest =>
  clear b0
  try clear F G K L P Q R S X Y ab ac ad ae ap aq I J M O T U V W Z aa af ag ah ai ar au
  obtain ⟨kq, aA, rfl, HA, aU, a, b, c, d, HB⟩ := hcut
  cases kq with
  | zero => exact absurd HA.out (by simp [grottolaw03_SoftWider.j0])
  | succ b1 =>
   have H := HA.out
   clear HA
   simp only [grottolaw03_SoftWider.j0] at H
   by_cases bt : aA = true
   ·subst bt
    rw [if_pos rfl] at H
    obtain ⟨b2, fO, H⟩ := oB H
    obtain rfl := Option.some.inj H
    go_wp2_with (first | ((with_reducible refine gate_callee (f := 19) rfl ?_); refine zgc (some 59) Try.func19 (grottolaw03_live.calls b1  b2 _ fO.out) ?_; intro he hb; replace a := zkb a hb; replace b := Aside0.mk (blk_below (g := i) (o := .cells #[.int .i64 (wrap64 ((wrap64 (2 * j)) + 4)), .int .i64 (wrap64 (l + 2))] 23 (0, 0)) (zk b) hb); obtain ⟨c, d, HB⟩ := zu2 c d HB hb; clear hb))
    go_ret
    exact zr HB
   ·replace bt := Bool.eq_false_iff.mpr bt
    subst bt
    rw [if_neg nft] at H
    obtain ⟨⟨bv, bw⟩, dA, H⟩ := oB H
    try dsimp only at H
    obtain ⟨⟨bx, bz⟩, dB, H⟩ := oB H
    try dsimp only at H
    obtain ⟨b3, dC, H⟩ := oB H
    obtain ⟨b4, dD, H⟩ := oB H
    by_cases bA : (wrap64 (b3 + b4)) = 0
    ·rw [if_pos bA] at H
     obtain ⟨bq, br⟩ := zt bA
     clear bA
     have H' := Aside0.mk H
     clear H
     obtain ⟨fP, fQ⟩ := z2 p
     obtain ⟨fR, fS⟩ := z2 m
     obtain ⟨fT, fU⟩ := z2 n
     obtain ⟨aV, aW, aX, aY⟩ := zc2 a
     obtain ⟨fV, fW⟩ := z2 q
     obtain ⟨fX, fY⟩ := z2 s
     obtain ⟨aZ, a0, a3, a4⟩ := zc2 b
     go_wp2_with (first | ((with_reducible refine gate_callee (f := 30) rfl ?_); refine zgc (some 64) Try.func30 (soft_Convert.calls dA.out) ?_; intro hf hb; replace a := zkb a hb; replace b := Aside0.mk (blk_below (g := i) (o := .cells #[.int .i64 (wrap64 ((wrap64 (2 * j)) + 4)), .int .i64 (wrap64 (l + 2))] 23 (0, 0)) (zk b) hb); obtain ⟨c, d, HB⟩ := zu2 c d HB hb; clear hb; obtain ⟨a5, a6, a7, a8⟩ := zc2 a; obtain ⟨a9, ba, bb, bc⟩ := zc2 b) | ((with_reducible refine gate_callee (f := 30) rfl ?_); refine zgc (some 71) Try.func30 (soft_Convert.calls dB.out) ?_; intro hh hb; replace a := zkb a hb; replace b := Aside0.mk (blk_below (g := i) (o := .cells #[.int .i64 (wrap64 ((wrap64 (2 * j)) + 4)), .int .i64 (wrap64 (l + 2))] 23 (0, 0)) (zk b) hb); obtain ⟨c, d, HB⟩ := zu2 c d HB hb; clear hb) | ((with_reducible refine gate_callee (f := 18) rfl ?_); refine zgo (some 75) Try.func18 #[.int .i64 bw] ?_; (with_reducible refine (grottolaw03_num.calls dC.out).mono ?_); rintro e w' ⟨rfl, ⟨nd, rfl⟩⟩; refine ⟨_, rfl, ?_⟩) | ((with_reducible refine gate_callee (f := 18) rfl ?_); refine zgo (some 77) Try.func18 #[.int .i64 bz] ?_; (with_reducible refine (grottolaw03_num.calls dD.out).mono ?_); rintro e w' ⟨rfl, ⟨nd, rfl⟩⟩; refine ⟨_, rfl, ?_⟩))
     go_loopg [16] b1 (fun kq v16 w' => ∃ (u : Int), v16 = .int .i64 u ∧ Aside0 (grottolaw03_SoftWider.l0 kq a1 a2 bv bx u j l (wrap64 ((wrap64 (2 * j)) + 4)) (wrap64 (l + 2)) = some r) ∧ Aside0 (kq ≤ b1) ∧ Aside0 (w'.heap[ao]? = some (.cells #[.int .i64 j, .int .i64 l] 23 (0, 0))) ∧ Aside0 (w'.heap[i]? = some (.cells #[.int .i64 (wrap64 ((wrap64 (2 * j)) + 4)), .int .i64 (wrap64 (l + 2))] 23 (0, 0))) ∧ Aside0 (w'.heap[C]? = some (.cells #[.int .i64 ak, .bool al, .int .i64 am, .int .u64 an] 34 (0, 0))) ∧ Aside0 (w'.heap[D]? = some (.cells #[.int .i64 bi, .bool bj, .int .i64 bk, .int .u64 bl] 34 (0, 0))) ∧ Aside0 (Below w.heap.size w w'))
     case atStart => exact ⟨(0), (by first | rfl | (simp [*]; done)), H', ⟨Nat.le_refl _⟩, ⟨zk a⟩, ⟨zk b⟩, ⟨zk c⟩, ⟨zk d⟩, ⟨zb HB⟩⟩
     case round =>
      clear H'
      try clear c1 c2 p2 c3 c4 p6 f1 f2 f3 f4 f5 f6 f7 f8 aC B f9 ga gb aH bm gc gd ge bn bo bp gf gg gh gi gj gl bt bq br F G K L P Q R S X Y ab ac ad ae aD aE aI aJ aM aN aQ aR aV aW aZ a0 a5 a6 a9 ba ap aq I J M O T U V W Z aa af ag ah ai aF aG aK aL aO aP aS aT aX aY a3 a4 a7 a8 bb bc ar au p2 p6
      obtain ⟨u, rfl, HA, bd, a, b, c, d, HB⟩ := hrel
      cases gk with
      | zero => exact absurd HA.out (by simp [grottolaw03_SoftWider.l0])
      | succ k2 =>
       have H := HA.out
       clear HA
       simp only [grottolaw03_SoftWider.l0] at H
       by_cases bu : u < 5
       ·rw [if_pos bu] at H
        have bB : decide (u < 5) = true := decide_eq_true bu
        clear bu
        have bC := Aside0.mk H
        clear H
        go_upto_block 2 with (fail)
        go_cut [17, 18, 20, 21] (fun v17 v18 v20 v21 wc => ∃ (kq : Nat) (E : Int) (aB : Int) (y : Int) (z : Int), v17 = .int .u64 E ∧ v18 = .int .u64 aB ∧ v20 = .int .i64 y ∧ v21 = .int .i64 z ∧ Aside0 (grottolaw03_SoftWider.j2 kq a1 a2 bv bx u E aB y z j l (wrap64 ((wrap64 (2 * j)) + 4)) (wrap64 (l + 2)) = some r) ∧ Aside0 (kq ≤ k2) ∧ Aside0 (wc.heap[ao]? = some (.cells #[.int .i64 j, .int .i64 l] 23 (0, 0))) ∧ Aside0 (wc.heap[i]? = some (.cells #[.int .i64 (wrap64 ((wrap64 (2 * j)) + 4)), .int .i64 (wrap64 (l + 2))] 23 (0, 0))) ∧ Aside0 (wc.heap[C]? = some (.cells #[.int .i64 ak, .bool al, .int .i64 am, .int .u64 an] 34 (0, 0))) ∧ Aside0 (wc.heap[D]? = some (.cells #[.int .i64 bi, .bool bj, .int .i64 bk, .int .u64 bl] 34 (0, 0))) ∧ Aside0 (Below w.heap.size w wc))
        case first =>
         have H := bC.out
         clear bC
         by_cases bD : u = 0
         ·rw [if_pos bD] at H
          obtain ⟨aj, b5⟩ := zt bD
          clear bD
          (first | rw [aj] | (simp only [i64_w, i32_w]; rw [aj]) | skip)
          obtain ⟨⟨b6, b7⟩, gm, H⟩ := oB H
          try dsimp only at H
          obtain ⟨⟨b8, b9⟩, gn, H⟩ := oB H
          try dsimp only at H
          have H' := Aside0.mk H
          clear H
          obtain ⟨go, gp⟩ := z2 p
          obtain ⟨gq, gr⟩ := z2 m
          obtain ⟨gs, gt⟩ := z2 n
          obtain ⟨dE, dF, dG, dH⟩ := zc2 a
          go_wp2_with (first | ((with_reducible refine gate_callee (f := 24) rfl ?_); refine zgc (some 91) Try.func24 (soft_Add.calls gm.out) ?_; intro hm hb; replace a := zkb a hb; replace b := Aside0.mk (blk_below (g := i) (o := .cells #[.int .i64 (wrap64 ((wrap64 (2 * j)) + 4)), .int .i64 (wrap64 (l + 2))] 23 (0, 0)) (zk b) hb); obtain ⟨c, d, HB⟩ := zu2 c d HB hb; clear hb; obtain ⟨gu, gv⟩ := z2 q; obtain ⟨gw, gx⟩ := z2 s; obtain ⟨dI, dJ, dK, dL⟩ := zc2 b) | ((with_reducible refine gate_callee (f := 24) rfl ?_); refine zgc (some 98) Try.func24 (soft_Add.calls gn.out) ?_; intro hn hb; replace a := zkb a hb; replace b := Aside0.mk (blk_below (g := i) (o := .cells #[.int .i64 (wrap64 ((wrap64 (2 * j)) + 4)), .int .i64 (wrap64 (l + 2))] 23 (0, 0)) (zk b) hb); obtain ⟨c, d, HB⟩ := zu2 c d HB hb; clear hb))
          go_meet
          case rel => exact ⟨_, (b6), (b8), (b7), (b9), (by first | rfl | (simp [*]; done)), (by first | rfl | (simp [*]; done)), (by first | rfl | (simp [*]; done)), (by first | rfl | (simp [*]; done)), H', ⟨by have := aU.out; have := bd.out; first | omega | exact Nat.le_refl _⟩, ⟨zk a⟩, ⟨zk b⟩, ⟨zk c⟩, ⟨zk d⟩, ⟨zb HB⟩⟩
         ·rw [if_neg bD] at H
          obtain ⟨aj, b5⟩ := zf bD
          (first | rw [aj] | (simp only [i64_w, i32_w]; rw [aj]) | skip)
          by_cases bE : u = 1
          ·rw [if_pos bE] at H
           obtain ⟨ca, cb⟩ := zt bE
           clear bE
           obtain ⟨⟨cc, cd⟩, gy, H⟩ := oB H
           try dsimp only at H
           obtain ⟨⟨ce, cf⟩, gz, H⟩ := oB H
           try dsimp only at H
           have H' := Aside0.mk H
           clear H
           obtain ⟨gA, gB⟩ := z2 p
           obtain ⟨gC, gD⟩ := z2 m
           obtain ⟨gE, gF⟩ := z2 n
           obtain ⟨dM, dN, dO, dP⟩ := zc2 a
           go_wp2_with (first | ((with_reducible refine gate_callee (f := 26) rfl ?_); refine zgc (some 107) Try.func26 (soft_Sub.calls gy.out) ?_; intro ho hb; replace a := zkb a hb; replace b := Aside0.mk (blk_below (g := i) (o := .cells #[.int .i64 (wrap64 ((wrap64 (2 * j)) + 4)), .int .i64 (wrap64 (l + 2))] 23 (0, 0)) (zk b) hb); obtain ⟨c, d, HB⟩ := zu2 c d HB hb; clear hb; obtain ⟨gG, gH⟩ := z2 q; obtain ⟨gI, gJ⟩ := z2 s; obtain ⟨dQ, dR, dS, dT⟩ := zc2 b) | ((with_reducible refine gate_callee (f := 26) rfl ?_); refine zgc (some 114) Try.func26 (soft_Sub.calls gz.out) ?_; intro hp hb; replace a := zkb a hb; replace b := Aside0.mk (blk_below (g := i) (o := .cells #[.int .i64 (wrap64 ((wrap64 (2 * j)) + 4)), .int .i64 (wrap64 (l + 2))] 23 (0, 0)) (zk b) hb); obtain ⟨c, d, HB⟩ := zu2 c d HB hb; clear hb))
           go_meet
           case rel => exact ⟨_, (cc), (ce), (cd), (cf), (by first | rfl | (simp [*]; done)), (by first | rfl | (simp [*]; done)), (by first | rfl | (simp [*]; done)), (by first | rfl | (simp [*]; done)), H', ⟨by have := aU.out; have := bd.out; first | omega | exact Nat.le_refl _⟩, ⟨zk a⟩, ⟨zk b⟩, ⟨zk c⟩, ⟨zk d⟩, ⟨zb HB⟩⟩
          ·rw [if_neg bE] at H
           obtain ⟨ca, cb⟩ := zf bE
           by_cases bF : u = 2
           ·rw [if_pos bF] at H
            obtain ⟨cg, ch⟩ := zt bF
            clear bF
            obtain ⟨⟨ci, cj⟩, gK, H⟩ := oB H
            try dsimp only at H
            obtain ⟨⟨ck, cl⟩, gL, H⟩ := oB H
            try dsimp only at H
            have H' := Aside0.mk H
            clear H
            obtain ⟨gM, gN⟩ := z2 p
            obtain ⟨gO, gP⟩ := z2 m
            obtain ⟨gQ, gR⟩ := z2 n
            obtain ⟨dU, dV, dW, dX⟩ := zc2 a
            go_wp2_with (first | ((with_reducible refine gate_callee (f := 32) rfl ?_); refine zgc (some 123) Try.func32 (soft_Mul.calls gK.out) ?_; intro hq hb; replace a := zkb a hb; replace b := Aside0.mk (blk_below (g := i) (o := .cells #[.int .i64 (wrap64 ((wrap64 (2 * j)) + 4)), .int .i64 (wrap64 (l + 2))] 23 (0, 0)) (zk b) hb); obtain ⟨c, d, HB⟩ := zu2 c d HB hb; clear hb; obtain ⟨gS, gT⟩ := z2 q; obtain ⟨gU, gV⟩ := z2 s; obtain ⟨dY, dZ, d0, d1⟩ := zc2 b) | ((with_reducible refine gate_callee (f := 32) rfl ?_); refine zgc (some 130) Try.func32 (soft_Mul.calls gL.out) ?_; intro gW hb; replace a := zkb a hb; replace b := Aside0.mk (blk_below (g := i) (o := .cells #[.int .i64 (wrap64 ((wrap64 (2 * j)) + 4)), .int .i64 (wrap64 (l + 2))] 23 (0, 0)) (zk b) hb); obtain ⟨c, d, HB⟩ := zu2 c d HB hb; clear hb))
            go_meet
            case rel => exact ⟨_, (ci), (ck), (cj), (cl), (by first | rfl | (simp [*]; done)), (by first | rfl | (simp [*]; done)), (by first | rfl | (simp [*]; done)), (by first | rfl | (simp [*]; done)), H', ⟨by have := aU.out; have := bd.out; first | omega | exact Nat.le_refl _⟩, ⟨zk a⟩, ⟨zk b⟩, ⟨zk c⟩, ⟨zk d⟩, ⟨zb HB⟩⟩
           ·rw [if_neg bF] at H
            obtain ⟨cg, ch⟩ := zf bF
            by_cases be : u = 3
            ·rw [if_pos be] at H
             obtain ⟨bP, bQ⟩ := zt be
             clear be
             obtain ⟨⟨cm, cn⟩, d2, H⟩ := oB H
             try dsimp only at H
             obtain ⟨⟨co, cp⟩, d3, H⟩ := oB H
             try dsimp only at H
             have H' := Aside0.mk H
             clear H
             obtain ⟨eg, eh⟩ := z2 p
             obtain ⟨ei, ej⟩ := z2 m
             obtain ⟨ek, el⟩ := z2 n
             obtain ⟨cA, cB, cC, cD⟩ := zc2 a
             go_wp2_with (first | ((with_reducible refine gate_callee (f := 34) rfl ?_); refine zgc (some 139) Try.func34 (soft_Div.calls d2.out) ?_; intro gX hb; replace a := zkb a hb; replace b := Aside0.mk (blk_below (g := i) (o := .cells #[.int .i64 (wrap64 ((wrap64 (2 * j)) + 4)), .int .i64 (wrap64 (l + 2))] 23 (0, 0)) (zk b) hb); obtain ⟨c, d, HB⟩ := zu2 c d HB hb; clear hb; obtain ⟨em, en⟩ := z2 q; obtain ⟨eo, ep⟩ := z2 s; obtain ⟨cE, cF, cG, cH⟩ := zc2 b) | ((with_reducible refine gate_callee (f := 34) rfl ?_); refine zgc (some 146) Try.func34 (soft_Div.calls d3.out) ?_; intro gY hb; replace a := zkb a hb; replace b := Aside0.mk (blk_below (g := i) (o := .cells #[.int .i64 (wrap64 ((wrap64 (2 * j)) + 4)), .int .i64 (wrap64 (l + 2))] 23 (0, 0)) (zk b) hb); obtain ⟨c, d, HB⟩ := zu2 c d HB hb; clear hb))
             go_meet
             case rel => exact ⟨_, (cm), (co), (cn), (cp), (by first | rfl | (simp [*]; done)), (by first | rfl | (simp [*]; done)), (by first | rfl | (simp [*]; done)), (by first | rfl | (simp [*]; done)), H', ⟨by have := aU.out; have := bd.out; first | omega | exact Nat.le_refl _⟩, ⟨zk a⟩, ⟨zk b⟩, ⟨zk c⟩, ⟨zk d⟩, ⟨zb HB⟩⟩
            ·rw [if_neg be] at H
             obtain ⟨bP, bQ⟩ := zf be
             by_cases bf : u = 4
             ·rw [if_pos bf] at H
              obtain ⟨bR, bS⟩ := zt bf
              clear bf
              obtain ⟨⟨cq, cr⟩, d4, H⟩ := oB H
              try dsimp only at H
              obtain ⟨⟨ct, cu⟩, d5, H⟩ := oB H
              try dsimp only at H
              have H' := Aside0.mk H
              clear H
              obtain ⟨eq, er⟩ := z2 p
              obtain ⟨es, et⟩ := z2 m
              obtain ⟨eu, ev⟩ := z2 n
              obtain ⟨cI, cJ, cK, cL⟩ := zc2 a
              go_wp2_with (first | ((with_reducible refine gate_callee (f := 28) rfl ?_); refine zgc (some 154) Try.func28 (soft_Sqrt.calls d4.out) ?_; intro gZ hb; replace a := zkb a hb; replace b := Aside0.mk (blk_below (g := i) (o := .cells #[.int .i64 (wrap64 ((wrap64 (2 * j)) + 4)), .int .i64 (wrap64 (l + 2))] 23 (0, 0)) (zk b) hb); obtain ⟨c, d, HB⟩ := zu2 c d HB hb; clear hb; obtain ⟨ew, ex⟩ := z2 q; obtain ⟨ey, ez⟩ := z2 s; obtain ⟨cM, cN, cO, cP⟩ := zc2 b) | ((with_reducible refine gate_callee (f := 28) rfl ?_); refine zgc (some 160) Try.func28 (soft_Sqrt.calls d5.out) ?_; intro g0 hb; replace a := zkb a hb; replace b := Aside0.mk (blk_below (g := i) (o := .cells #[.int .i64 (wrap64 ((wrap64 (2 * j)) + 4)), .int .i64 (wrap64 (l + 2))] 23 (0, 0)) (zk b) hb); obtain ⟨c, d, HB⟩ := zu2 c d HB hb; clear hb))
              go_meet
              case rel => exact ⟨_, (cq), (ct), (cr), (cu), (by first | rfl | (simp [*]; done)), (by first | rfl | (simp [*]; done)), (by first | rfl | (simp [*]; done)), (by first | rfl | (simp [*]; done)), H', ⟨by have := aU.out; have := bd.out; first | omega | exact Nat.le_refl _⟩, ⟨zk a⟩, ⟨zk b⟩, ⟨zk c⟩, ⟨zk d⟩, ⟨zb HB⟩⟩
             ·rw [if_neg bf] at H
              obtain ⟨bR, bS⟩ := zf bf
              have H' := Aside0.mk H
              clear H
              go_wp2
              go_meet
              case rel => exact ⟨_, (0), (0), (0), (0), (by first | rfl | (simp [*]; done)), (by first | rfl | (simp [*]; done)), (by first | rfl | (simp [*]; done)), (by first | rfl | (simp [*]; done)), H', ⟨by have := aU.out; have := bd.out; first | omega | exact Nat.le_refl _⟩, ⟨zk a⟩, ⟨zk b⟩, ⟨zk c⟩, ⟨zk d⟩, ⟨zb HB⟩⟩
        case rest =>
         clear bC
         try clear c1 c2 p2 c3 c4 c5 p6 f1 f2 f3 f4 hr hs f5 f6 f7 f8 aC B f9 ga gb aH bm gc gd ge bn bo bp gf gg gh gi gj gl bt bq br ht hu hv hw hx bB F G K L P Q R S X Y ab ac ad ae aD aE aI aJ aM aN aQ aR aV aW aZ a0 a5 a6 a9 ba ap aq I J M O T U V W Z aa af ag ah ai aF aG aK aL aO aP aS aT aX aY a3 a4 a7 a8 bb bc ar au p2 p6
         obtain ⟨kq, E, aB, y, z, rfl, rfl, rfl, rfl, HA, bX, a, b, c, d, HB⟩ := hcut
         cases kq with
         | zero => exact absurd HA.out (by simp [grottolaw03_SoftWider.j2])
         | succ d6 =>
          have H := HA.out
          clear HA
          simp only [grottolaw03_SoftWider.j2] at H
          obtain ⟨⟨cv, bs⟩, bG, H⟩ := oB H
          try dsimp only at H
          obtain ⟨cw, bH, H⟩ := oB H
          obtain ⟨cx, bI, H⟩ := oB H
          obtain ⟨cy, bJ, H⟩ := oB H
          by_cases bg : (wrap64 ((wrap64 (cw + cx)) + cy)) = 0
          ·rw [if_pos bg] at H
           obtain ⟨bT, bU⟩ := zt bg
           clear bg
           by_cases bh : E = cv
           ·rw [if_pos bh] at H
            obtain ⟨bV, bW⟩ := zt bh
            clear bh
            have H' := Aside0.mk H
            clear H
            obtain ⟨eA, eB⟩ := z2 v
            obtain ⟨eC, eD⟩ := z2 q
            obtain ⟨eE, eF⟩ := z2 s
            obtain ⟨cQ, cR, cS, cT⟩ := zc2 b
            obtain ⟨eG, eH⟩ := z2 m
            obtain ⟨eI, eJ⟩ := z2 n
            obtain ⟨cU, cV, cW, cX⟩ := zc2 a
            go_wp2_with (first | ((with_reducible refine gate_callee (f := 30) rfl ?_); refine zgc (some 167) Try.func30 (soft_Convert.calls bG.out) ?_; intro g1 hb; replace a := zkb a hb; replace b := Aside0.mk (blk_below (g := i) (o := .cells #[.int .i64 (wrap64 ((wrap64 (2 * j)) + 4)), .int .i64 (wrap64 (l + 2))] 23 (0, 0)) (zk b) hb); obtain ⟨c, d, HB⟩ := zu2 c d HB hb; clear hb) | ((with_reducible refine gate_callee (f := 18) rfl ?_); refine zgo (some 171) Try.func18 #[.int .i64 y] ?_; (with_reducible refine (grottolaw03_num.calls bH.out).mono ?_); rintro e w' ⟨rfl, ⟨nd, rfl⟩⟩; refine ⟨_, rfl, ?_⟩) | ((with_reducible refine gate_callee (f := 18) rfl ?_); refine zgo (some 173) Try.func18 #[.int .i64 z] ?_; (with_reducible refine (grottolaw03_num.calls bI.out).mono ?_); rintro e w' ⟨rfl, ⟨nd, rfl⟩⟩; refine ⟨_, rfl, ?_⟩) | ((with_reducible refine gate_callee (f := 18) rfl ?_); refine zgo (some 176) Try.func18 #[.int .i64 bs] ?_; (with_reducible refine (grottolaw03_num.calls bJ.out).mono ?_); rintro e w' ⟨rfl, ⟨nd, rfl⟩⟩; refine ⟨_, rfl, ?_⟩))
            go_roundg d6
            case measure => have := aU.out; have := bd.out; have := bX.out; omega
            case rel => exact ⟨(wrap64 (u + 1)), (by first | rfl | (simp [*]; done)), H', ⟨by have := aU.out; have := bd.out; have := bX.out; omega⟩, ⟨zk a⟩, ⟨zk b⟩, ⟨zk c⟩, ⟨zk d⟩, ⟨zb HB⟩⟩
           ·rw [if_neg bh] at H
            obtain ⟨bV, bW⟩ := zf bh
            obtain rfl := Option.some.inj H
            obtain ⟨eK, eL⟩ := z2 v
            obtain ⟨eM, eN⟩ := z2 q
            obtain ⟨eO, eP⟩ := z2 s
            obtain ⟨cY, cZ, c0, c6⟩ := zc2 b
            obtain ⟨eQ, eR⟩ := z2 m
            obtain ⟨eS, eT⟩ := z2 n
            obtain ⟨c7, c8, c9, da⟩ := zc2 a
            go_wp2_with (first | ((with_reducible refine gate_callee (f := 30) rfl ?_); refine zgc (some 167) Try.func30 (soft_Convert.calls bG.out) ?_; intro g2 hb; replace a := zkb a hb; replace b := Aside0.mk (blk_below (g := i) (o := .cells #[.int .i64 (wrap64 ((wrap64 (2 * j)) + 4)), .int .i64 (wrap64 (l + 2))] 23 (0, 0)) (zk b) hb); obtain ⟨c, d, HB⟩ := zu2 c d HB hb; clear hb) | ((with_reducible refine gate_callee (f := 18) rfl ?_); refine zgo (some 171) Try.func18 #[.int .i64 y] ?_; (with_reducible refine (grottolaw03_num.calls bH.out).mono ?_); rintro e w' ⟨rfl, ⟨nd, rfl⟩⟩; refine ⟨_, rfl, ?_⟩) | ((with_reducible refine gate_callee (f := 18) rfl ?_); refine zgo (some 173) Try.func18 #[.int .i64 z] ?_; (with_reducible refine (grottolaw03_num.calls bI.out).mono ?_); rintro e w' ⟨rfl, ⟨nd, rfl⟩⟩; refine ⟨_, rfl, ?_⟩) | ((with_reducible refine gate_callee (f := 18) rfl ?_); refine zgo (some 176) Try.func18 #[.int .i64 bs] ?_; (with_reducible refine (grottolaw03_num.calls bJ.out).mono ?_); rintro e w' ⟨rfl, ⟨nd, rfl⟩⟩; refine ⟨_, rfl, ?_⟩))
            go_ret
            exact zr HB
          ·rw [if_neg bg] at H
           obtain ⟨bT, bU⟩ := zf bg
           obtain rfl := Option.some.inj H
           obtain ⟨eU, eV⟩ := z2 v
           obtain ⟨eW, eX⟩ := z2 q
           obtain ⟨eY, eZ⟩ := z2 s
           obtain ⟨db, dc, dd, de⟩ := zc2 b
           obtain ⟨e0, e1⟩ := z2 m
           obtain ⟨e2, e3⟩ := z2 n
           obtain ⟨df, dg, dh, di⟩ := zc2 a
           go_wp2_with (first | ((with_reducible refine gate_callee (f := 30) rfl ?_); refine zgc (some 167) Try.func30 (soft_Convert.calls bG.out) ?_; intro g3 hb; replace a := zkb a hb; replace b := Aside0.mk (blk_below (g := i) (o := .cells #[.int .i64 (wrap64 ((wrap64 (2 * j)) + 4)), .int .i64 (wrap64 (l + 2))] 23 (0, 0)) (zk b) hb); obtain ⟨c, d, HB⟩ := zu2 c d HB hb; clear hb) | ((with_reducible refine gate_callee (f := 18) rfl ?_); refine zgo (some 171) Try.func18 #[.int .i64 y] ?_; (with_reducible refine (grottolaw03_num.calls bH.out).mono ?_); rintro e w' ⟨rfl, ⟨nd, rfl⟩⟩; refine ⟨_, rfl, ?_⟩) | ((with_reducible refine gate_callee (f := 18) rfl ?_); refine zgo (some 173) Try.func18 #[.int .i64 z] ?_; (with_reducible refine (grottolaw03_num.calls bI.out).mono ?_); rintro e w' ⟨rfl, ⟨nd, rfl⟩⟩; refine ⟨_, rfl, ?_⟩) | ((with_reducible refine gate_callee (f := 18) rfl ?_); refine zgo (some 176) Try.func18 #[.int .i64 bs] ?_; (with_reducible refine (grottolaw03_num.calls bJ.out).mono ?_); rintro e w' ⟨rfl, ⟨nd, rfl⟩⟩; refine ⟨_, rfl, ?_⟩))
           go_ret
           exact zr HB
       ·rw [if_neg bu] at H
        have bB : decide (u < 5) = false := decide_eq_false bu
        clear bu
        obtain ⟨cz, d7, H⟩ := oB H
        obtain rfl := Option.some.inj H
        go_wp2_with (first | ((with_reducible refine gate_callee (f := 19) rfl ?_); refine zgc (some 184) Try.func19 (grottolaw03_live.calls k2  cz _ d7.out) ?_; intro g4 hb; replace a := zkb a hb; replace b := Aside0.mk (blk_below (g := i) (o := .cells #[.int .i64 (wrap64 ((wrap64 (2 * j)) + 4)), .int .i64 (wrap64 (l + 2))] 23 (0, 0)) (zk b) hb); obtain ⟨c, d, HB⟩ := zu2 c d HB hb; clear hb))
        go_ret
        exact zr HB
    ·rw [if_neg bA] at H
     obtain ⟨bq, br⟩ := zf bA
     obtain rfl := Option.some.inj H
     obtain ⟨e4, e5⟩ := z2 p
     obtain ⟨e6, e7⟩ := z2 m
     obtain ⟨e8, e9⟩ := z2 n
     obtain ⟨dj, dk, dl, dm⟩ := zc2 a
     obtain ⟨fa, fb⟩ := z2 q
     obtain ⟨fc, fd⟩ := z2 s
     obtain ⟨dn, dp, dq, dr⟩ := zc2 b
     go_wp2_with (first | ((with_reducible refine gate_callee (f := 30) rfl ?_); refine zgc (some 64) Try.func30 (soft_Convert.calls dA.out) ?_; intro g5 hb; replace a := zkb a hb; replace b := Aside0.mk (blk_below (g := i) (o := .cells #[.int .i64 (wrap64 ((wrap64 (2 * j)) + 4)), .int .i64 (wrap64 (l + 2))] 23 (0, 0)) (zk b) hb); obtain ⟨c, d, HB⟩ := zu2 c d HB hb; clear hb; obtain ⟨ds, dt, du, dv⟩ := zc2 a; obtain ⟨dw, dx, dy, dz⟩ := zc2 b) | ((with_reducible refine gate_callee (f := 30) rfl ?_); refine zgc (some 71) Try.func30 (soft_Convert.calls dB.out) ?_; intro g6 hb; replace a := zkb a hb; replace b := Aside0.mk (blk_below (g := i) (o := .cells #[.int .i64 (wrap64 ((wrap64 (2 * j)) + 4)), .int .i64 (wrap64 (l + 2))] 23 (0, 0)) (zk b) hb); obtain ⟨c, d, HB⟩ := zu2 c d HB hb; clear hb) | ((with_reducible refine gate_callee (f := 18) rfl ?_); refine zgo (some 75) Try.func18 #[.int .i64 bw] ?_; (with_reducible refine (grottolaw03_num.calls dC.out).mono ?_); rintro e w' ⟨rfl, ⟨nd, rfl⟩⟩; refine ⟨_, rfl, ?_⟩) | ((with_reducible refine gate_callee (f := 18) rfl ?_); refine zgo (some 77) Try.func18 #[.int .i64 bz] ?_; (with_reducible refine (grottolaw03_num.calls dD.out).mono ?_); rintro e w' ⟨rfl, ⟨nd, rfl⟩⟩; refine ⟨_, rfl, ?_⟩))
     go_ret
     exact zr HB

end Go.Proofs.Ytmmbgbchimangaa.PQ
