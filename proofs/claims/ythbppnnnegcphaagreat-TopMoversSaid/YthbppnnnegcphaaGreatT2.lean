/- Part 2 of a proof: what the functions of the program compute, and at the end that the law answers true for every input. No conditions beyond the statement's own. -/
import Derived.Test.YthbppnnnegcphaaGreatT1
import Derived.Laws.StructEq
import Derived.Maps.RangeRun
import Derived.ScopeJumps
import Derived.Laws.Strings
set_option linter.unusedVariables false
set_option linter.unusedSimpArgs false
namespace Go.Sl
open Go.Proofs Go.Proofs.Tryz
theorem prt_take {ps : List Prt} {k j : Nat} (h : j < k) : prt (ps.take k) j = prt ps j := by simp [prt, List.getD_eq_getElem?_getD, List.getElem?_take, h]
set_option maxHeartbeats 1000000 in
theorem cdec_s {W0 w : World} {L : List Asn} {f : HF} {p n k : Nat} (hc : CodeP f p n k) {la : Option Addr} {kk lc mm : Nat} {cs : List Value} {ps : List Prt} (hvl : Reads f 2 (.slice la kk lc) kk cs) (hrl : PsR f cs ps) (hpk : ps.length = kk) (hok : PsOk ps n mm) (z : Nat) (hz1 : 1 ≤ z) (hz : z ≤ 10000) (hmm : mm = (k - 1) * z) (hkk : k ≤ kk) (hkk2 : kk ≤ 24) (hd : DecOk n k (ps.take k)) (hs : Sep W0 w (pool f :: L)) :
 Calls Tryz.prog 49 [ptr p, .slice la kk lc].toArray w (Ret fun r w' => ∃ f' a' c', r = .tuple #[.slice a' (k * (k - 1) * z) c', .int .i64 0] ∧ FLe f f' ∧ RB f' a' (k * (k - 1) * z) c' (dUp n k z (ps.take k) z) ∧ Sep W0 w' (pool f' :: L)) := by
 obtain ⟨hk, h2k, hn24, hpl, ca, ccp, hp, hb⟩ := id hc
 have hbl := RB.len hb
 have hk3 : 2 ≤ k ∧ k ≤ 3 := by omega
 have hkz2 : (k - 1) * z ≤ 2 * 10000 := Nat.mul_le_mul (by omega) hz
 have hkz1 : 1 * 1 ≤ (k - 1) * z := Nat.mul_le_mul (by omega) hz1
 have hmm1 : 1 ≤ mm := by omega
 have hkk6 : k * (k - 1) ≤ 6 := by rcases hk with rfl | rfl <;> decide
 have hkz : k * (k - 1) * z ≤ 6 * 10000 := Nat.mul_le_mul hkk6 hz
 have hqk : (ps.take k).length = k := by rw [List.length_take]; omega
 have hqs : ∀ j, j < k → (prt (ps.take k) j).1 < n := fun j hj => by rw [prt_take hj]; exact hok.slot j (by omega)
 have hqz : ∀ j, j < k → (prt (ps.take k) j).2.length = (k - 1) * z := fun j hj => by rw [prt_take hj, hok.size j (by omega), hmm]
 have hp0 := hok.size 0 (by omega); have hq0 := hqz 0 (by omega)
 refine enter (args := [(ptr p), (.slice la kk lc)]) (n := 125) (rs := [.tmp 4, .tmp 5]) func49 rfl rfl rfl rfl ?_
 refine rSeq (rReg (oV (xAssign rfl) rfl (oV (xAssign rfl) rfl (oEnd (kSeq (rSeq (rBlk (rSeq (rReg (oV (xMove rfl) rfl (oV (xBin (r := .bool false) rfl rfl (fun _ => rfl) (fun w => by kernel_rfl)) rfl (oV (xMove rfl) rfl (oGuardT rfl rfl (oV (xMove rfl) rfl (oGuardT rfl rfl (oV (xMove rfl) rfl (oGuardT rfl rfl (oCall call101 rfl rfl (cright_s hc hvl hrl hpk hok hmm1 (by omega) hs) ?_))))))))))))))))))
 rintro _ w1 ⟨rfl, hs2⟩; clear hs
 refine oGuardT rfl rfl (oV (xNot rfl) rfl (oV (xPickF rfl rfl) rfl (oV (xAssign rfl) rfl (oEnd (kSeq (rCondF rfl (rSeq (rReg (oV (xMove rfl) rfl (oV (xB1 rfl (rLenS underlying121)) rfl (oV (xMove rfl) rfl (oV (xNil rfl) rfl (oV (xFA (j' := 1) underlying206 rfl sizeOf3 rfl rfl) rfl (oV (xLoadC isAgg3 rfl (PR.cell hp hs2 (i := 0) rfl rfl)) rfl (oV (xCmp rfl rfl rLss) rfl (oV (xAssign rfl) rfl (oEnd (kSeq ?_))))))))))))))))))
 refine rCondD rfl (fun hc3 => ?_) (fun hc3 => ?_)
 · refine rSeq (rReg (oV (xAssign rfl) rfl (oV (xAssign rfl) rfl (oEnd (kSeq (rRet (kBlkR (kSeqR (kFin (.tmp rfl (.tmp rfl (.nil))) ?_)))))))))
   exfalso; omega
 · refine rSeq ?_
   refine rRegG [(none, fun w => ∃ M, Sep W0 w (pool f :: M))] (by kernel_rfl) hs2 (fun w4 hs5 => ⟨?_, fun hS => ?_⟩)
   · exact ⟨⟨_, (Sep.front (i := 0) rfl hs5)⟩, trivial⟩
   clear hs2
   refine gTake0 0 rfl (by kernel_rfl) hS (fun w => xMove rfl) rfl ?_
   clear hS; intro hS
   obtain ⟨b6, off7, rfl⟩ := Reads.at hvl (by omega)
   refine gTake0 1 rfl (by kernel_rfl) hS (fun w => xIA (o' := off7 + 0 * 2) underlying121 sizeOf123 rfl rfl (by omega) (by omega) (by omega)) rfl ?_
   clear hS; intro hS
   refine gTake0 2 rfl (by kernel_rfl) hS (fun w => xFA (j' := (off7 + 0 * 2 + 1)) underlying123 rfl sizeOf26 rfl rfl) rfl ?_
   clear hS; intro hS
   obtain ⟨a8, k9, cp10, ht11, hb12⟩ := PsR.get hrl 0 (by omega)
   have hl13 := RB.len hb12
   refine gTake 3 0 rfl (by kernel_rfl) rfl (by kernel_rfl) hS (fun w hq0 => by obtain ⟨M, hq⟩ := hq0; exact xLoadC isAgg26 rfl (reads_cells hvl hq (i := 0) rfl ht11 1 _ rfl)) rfl ?_
   clear hS; intro hS
   refine gTake0 4 rfl (by kernel_rfl) hS (fun w => xB1 rfl (rLenS underlying26)) rfl ?_
   clear hS; intro hS
   refine gTake0 5 rfl (by kernel_rfl) hS (fun w => xMove rfl) rfl ?_
   clear hS; intro hS
   refine gEff 6 (by kernel_rfl) rfl ?_
   refine oCall call102 rfl rfl (cparts_s hc hs5) ?_
   rintro _ w14 ⟨rfl, hs15⟩; clear hs5
   refine oEnd (kG ⟨⟨_, (Sep.front (i := 0) rfl hs15)⟩, trivial⟩ ?_)
   clear hS; intro hS
   refine gTake0 7 rfl (by kernel_rfl) hS (fun w => xAr rfl rfl (rRemN (by omega) (by omega))) rfl ?_
   clear hS; intro hS
   refine gTake0 8 rfl (by kernel_rfl) hS (fun w => xCmp rfl rfl rNeq) rfl ?_
   clear hS; intro hS
   refine gTake0 9 rfl (by kernel_rfl) hS (fun w => xAssign rfl) rfl ?_
   clear hS; intro hS
   refine gEnd (by kernel_rfl) ?_
   clear hS
   refine kSeq ?_
   have hrem : ((k9 : Int) % ((k - 1 : Nat) : Int)) = 0 := by
     rw [show (k9 : Int) = (((k - 1) * z : Nat) : Int) by omega, Int.natCast_mul]; exact Int.mul_emod_right _ _
   refine rCondD rfl (fun hc16 => absurd hc16 (fun hh => hh hrem)) (fun hc16 => ?_)
   refine rSkip (kBlk (kSeq (rSeq (rReg (oV (xMove rfl) rfl (oV (xMove rfl) rfl (oV (xNil rfl) rfl (oV (xFA (j' := 1) underlying206 rfl sizeOf3 rfl rfl) rfl (oV (xLoadC isAgg3 rfl (PR.cell hp hs15 (i := 0) rfl rfl)) rfl ?_)))))))))
   obtain ⟨a17, cp18, hv19, hx21⟩ := Reads.slice (P := Tryz.prog) (t := 121) (lo := 0) (hi := k) hvl underlying121 sizeOf123 Bd.none (Bd.some (k := .i64) (i := (k : Int)) (by omega)) (by omega) (by omega)
   have hr20 := PsR.take hrl (k := k) (by omega)
   rw [Nat.sub_zero] at hv19 hx21
   refine oV (xSlice rfl rfl rfl hx21) rfl (oV (xAssign rfl) rfl (oEnd (kSeq (rSeq ?_))))
   refine rRegG [(none, fun w => ∃ M, Sep W0 w (pool f :: M))] (by kernel_rfl) hs15 (fun w22 hs23 => ⟨?_, fun hS => ?_⟩)
   · exact ⟨⟨_, (Sep.front (i := 0) rfl hs23)⟩, trivial⟩
   clear hs15
   refine gTake0 0 rfl (by kernel_rfl) hS (fun w => xMove rfl) rfl ?_
   clear hS; intro hS
   obtain ⟨b24, off25, rfl⟩ := Reads.at hv19 (by omega)
   refine gTake0 1 rfl (by kernel_rfl) hS (fun w => xIA (o' := off25 + 0 * 2) underlying121 sizeOf123 rfl rfl (by omega) (by omega) (by omega)) rfl ?_
   clear hS; intro hS
   refine gTake0 2 rfl (by kernel_rfl) hS (fun w => xFA (j' := (off25 + 0 * 2 + 1)) underlying123 rfl sizeOf26 rfl rfl) rfl ?_
   clear hS; intro hS
   obtain ⟨a26, k27, cp28, ht29, hb30⟩ := PsR.get hr20 0 (by omega)
   have hl31 := RB.len hb30
   refine gTake 3 0 rfl (by kernel_rfl) rfl (by kernel_rfl) hS (fun w hq0 => by obtain ⟨M, hq⟩ := hq0; exact xLoadC isAgg26 rfl (reads_cells hv19 hq (i := 0) rfl ht29 1 _ rfl)) rfl ?_
   clear hS; intro hS
   refine gTake0 4 rfl (by kernel_rfl) hS (fun w => xB1 rfl (rLenS underlying26)) rfl ?_
   clear hS; intro hS
   refine gTake0 5 rfl (by kernel_rfl) hS (fun w => xMove rfl) rfl ?_
   clear hS; intro hS
   refine gEff 6 (by kernel_rfl) rfl ?_
   refine oCall call102 rfl rfl (cparts_s hc hs23) ?_
   rintro _ w32 ⟨rfl, hs33⟩; clear hs23
   refine oEnd (kG ⟨⟨_, (Sep.front (i := 0) rfl hs33)⟩, trivial⟩ ?_)
   clear hS; intro hS
   have hq : ((k27 : Int) : Int) / ((k - 1 : Nat) : Int) = (z : Int) := by
     rw [show ((k27 : Int) : Int) = (((k - 1) * z : Nat) : Int) by omega, Int.natCast_mul]; exact Int.mul_ediv_cancel_left _ (by omega)
   refine gTake0 7 rfl (by kernel_rfl) hS (fun w => xAr (r := (z : Int)) rfl rfl (by rw [← hq]; exact rQuoN (by omega) (by omega) (by omega))) rfl ?_
   clear hS; intro hS
   refine gTake0 8 rfl (by kernel_rfl) hS (fun w => xAssign rfl) rfl ?_
   clear hS; intro hS
   refine gEnd (by kernel_rfl) ?_
   clear hS
   refine kSeq ?_
   refine rSeq (Run.sub (e' := [(0, (ptr p)), (1, (.slice (some ⟨b24, off25, none⟩) k cp18)), (4, (.slice none 0 0)), (5, (I 0)), (6, (I (z : Int)))]) ⟨rfl, rfl, rfl, rfl, rfl, trivial⟩ ?_)
   refine rReg (oV (xMove rfl) rfl (oCall call99 rfl rfl (csym_s hc hs33) ?_))
   rintro _ w34 ⟨rfl, hs35⟩; clear hs33
   refine oV (xMove rfl) rfl (oV (xAr rfl rfl (rMul (wI (by omega) (by omega)))) rfl (oMake (k := ((k * (k - 1) : Nat) * z)) (c := ((k * (k - 1) : Nat) * z)) (size := 1) (bytes := 1) (inf := Tryz.t5) hs35 underlying26 (by kernel_rfl) rfl rfl rfl rfl rfl (by omega) (by omega) (by omega) (by omega) (by omega) rfl ?_))
   intro b36 w37 hs38; clear hs35
   rw [made1 (.int .u8 0) rfl] at hs38
   have hdz : List.replicate (k * (k - 1) * z) (Value.int .u8 0) = (dUp n k z (ps.take k) 0).map B := by rw [dUp, List.map_replicate]; rfl
   have hs39 := hs38; clear hs38; rw [hdz] at hs39
   refine oV (xAssign rfl) rfl (oEnd (kSeq (rSeq (rSeq (rReg (oV (xMove rfl) rfl (oV (xMove rfl) rfl (oEnd (kSeq (rBlk (rLoop (fun mz e w => ∃ (i : Nat) (f40 : HF), z - i = mz ∧ e = [(0, (ptr p)), (1, (.slice (some ⟨b24, off25, none⟩) k cp18)), (6, (I (z : Int))), (7, (.slice (some ⟨b36, 0, none⟩) (k * (k - 1) * z) (k * (k - 1) * z))), (61, (I (z : Int))), (62, (I (i : Int)))] ∧ (i ≤ z) ∧ (FLe f f40) ∧ (CodeP f40 p n k) ∧ (Reads f40 2 (.slice (some ⟨b24, off25, none⟩) k cp18) k _) ∧ (PsR f40 _ (ps.take k)) ∧ (PR f40 p [(I (n : Int)), (I (k : Int)), (.slice ca n ccp)]) ∧ Sep W0 w (own 5 1 (.slice (some ⟨b36, 0, none⟩) (k * (k - 1) * z) (k * (k - 1) * z)) (k * (k - 1) * z) ((dUp n k z (ps.take k) i).map B) :: pool f40 :: L)) ⟨_, _, ⟨0, f, rfl, rfl, (by omega), (FLe.refl _), (hc), (hv19), (hr20), (hp), hs39⟩, ⟨rfl, rfl, rfl, rfl, rfl, rfl, trivial⟩⟩ ?_)))))))))))
   clear hs39; rintro mz e w ⟨i, f40, rfl, rfl, hi, hle41, hc, hv19, hr20, hp, hs⟩
   have hdl := dUp_length n k z (ps.take k) i
   refine rSeq (rReg (oV (xCmp rfl rfl rLss) rfl (oEnd (kSeq (rSeq ?_)))))
   refine rCondD rfl (fun hc42 => ?_) (fun hc42 => ?_)
   · refine rSkip (kSeq (rSeq (rBlk (rSeq (rReg (oV (xMove rfl) rfl (oV (xAssign rfl) rfl (oEnd (kSeq (rSeq (rReg (oV (xMove rfl) rfl (oV (xNil rfl) rfl (oV (xFA (j' := 1) underlying206 rfl sizeOf3 rfl rfl) rfl (oV (xLoadC isAgg3 rfl (PR.cell hp hs (i := 1) rfl rfl)) rfl (oMake (k := k) (c := k) (size := 1) (bytes := 24) (inf := Tryz.t26) hs underlying22 (by kernel_rfl) rfl rfl rfl rfl rfl (by omega) (by omega) (by omega) (by omega) (by omega) rfl ?_))))))))))))))))
     intro b43 w44 hs45; clear hs
     rw [made1 (.slice none 0 0) rfl] at hs45
     replace hs45 := rows_nils k hs45; rw [← xsU_zero k z i (ps.take k)] at hs45
     refine oV (xAssign rfl) rfl (oEnd (kSeq (rSeq (rSeq (rReg (oV (xMove rfl) rfl (oV (xB1 rfl (rLenS underlying121)) rfl (oV (xMove rfl) rfl (oEnd (kSeq (rBlk ?_)))))))))))
     replace hs45 := hs45.f3
     replace hs45 := hs45.f3
     replace hs45 := hs45.f2
     replace hs45 := hs45.f3
     refine rLoop (fun mz e w => ∃ (j : Nat) (vsx : List Value), k - j = mz ∧ e = [(0, (ptr p)), (1, (.slice (some ⟨b24, off25, none⟩) k cp18)), (6, (I (z : Int))), (7, (.slice (some ⟨b36, 0, none⟩) (k * (k - 1) * z) (k * (k - 1) * z))), (8, (I (i : Int))), (9, (.slice (some ⟨b43, 0, none⟩) k k)), (61, (I (z : Int))), (62, (I (i : Int))), (70, (.slice (some ⟨b24, off25, none⟩) k cp18)), (71, (I (k : Int))), (72, (I (j : Int)))] ∧ (j ≤ k) ∧ (vsx.length = k) ∧ Sep W0 w (own 26 1 (.slice (some ⟨b43, 0, none⟩) k k) k vsx :: sepL (rowCh vsx (xsU k z i (ps.take k) j 0)) :: own 5 1 (.slice (some ⟨b36, 0, none⟩) (k * (k - 1) * z) (k * (k - 1) * z)) (k * (k - 1) * z) ((dUp n k z (ps.take k) i).map B) :: pool f40 :: L)) ⟨_, _, ⟨0, _, rfl, rfl, (by omega), (by simp), hs45⟩, ⟨rfl, rfl, rfl, rfl, rfl, rfl, rfl, rfl, rfl, rfl, rfl, trivial⟩⟩ ?_
     clear hs45; rintro mz e w ⟨j, vsx, rfl, rfl, hj, hvx, hs⟩
     have h1x : vsx.length = (xsU k z i (ps.take k) j 0).length := by rw [xsU_length]; exact hvx
     refine rSeq (rReg (oV (xCmp rfl rfl rLss) rfl (oEnd (kSeq (rSeq ?_)))))
     refine rCondD rfl (fun hc46 => ?_) (fun hc46 => ?_)
     · have hqj := hqz j (by omega)
       refine rSkip (kSeq (rSeq (rBlk (rSeq (rReg (oV (xMove rfl) rfl (oV (xIA (o' := off25 + j * 2) underlying121 sizeOf123 rfl rfl (by omega) (by omega) (by omega)) rfl ?_)))))))
       obtain ⟨a47, k48, cp49, ht50, hb51⟩ := PsR.get hr20 j (by omega)
       have hl52 := RB.len hb51
       refine oV (xLoadGC isAgg123 sizeOf123 rfl rfl (reads_cells hv19 hs (i := 3) rfl ht50)) rfl (oAlloc hs zeroValue123 rfl rfl ?_)
       intro b53 w54 hs55; clear hs
       refine oV (xAssign rfl) rfl (oStoreG hs55 sizeOf123 rfl rfl rfl rfl (i := 0) rfl rfl ?_)
       intro w56 hs57; clear hs55; dsimp only [List.set, putAt] at hs57
       refine oEnd (kSeq (rSeq (rReg (oV (xMove rfl) rfl ?_))))
       replace hs57 := hs57.f4
       refine oCall call102 rfl rfl (cparts_s hc hs57) ?_
       rintro _ w58 ⟨rfl, hs59⟩; clear hs57
       refine oV (xMove rfl) rfl (oEnd (kSeq (rBlk ?_)))
       replace hs59 := hs59.f4
       replace hs59 := hs59.f2
       replace hs59 := hs59.f4
       replace hs59 := hs59.f4
       refine rLoop (fun mz e w => ∃ (c : Nat) (vsc : List Value), k - 1 - c = mz ∧ e = [(0, (ptr p)), (1, (.slice (some ⟨b24, off25, none⟩) k cp18)), (6, (I (z : Int))), (7, (.slice (some ⟨b36, 0, none⟩) (k * (k - 1) * z) (k * (k - 1) * z))), (8, (I (i : Int))), (9, (.slice (some ⟨b43, 0, none⟩) k k)), (10, (I (j : Int))), (11, (ptr b53)), (61, (I (z : Int))), (62, (I (i : Int))), (70, (.slice (some ⟨b24, off25, none⟩) k cp18)), (71, (I (k : Int))), (72, (I (j : Int))), (78, (I ((k - 1 : Nat) : Int))), (79, (I (c : Int)))] ∧ (c ≤ k - 1) ∧ (vsc.length = k) ∧ Sep W0 w (own 26 1 (.slice (some ⟨b43, 0, none⟩) k k) k vsc :: sepL (rowCh vsc (xsU k z i (ps.take k) j c)) :: row b53 123 [(I ((prt (ps.take k) j).1 : Int)), (.slice a47 k48 cp49)] :: own 5 1 (.slice (some ⟨b36, 0, none⟩) (k * (k - 1) * z) (k * (k - 1) * z)) (k * (k - 1) * z) ((dUp n k z (ps.take k) i).map B) :: pool f40 :: L)) ⟨_, _, ⟨0, vsx, rfl, rfl, (by omega), (by omega), hs59⟩, ⟨rfl, rfl, rfl, rfl, rfl, rfl, rfl, rfl, rfl, rfl, rfl, rfl, rfl, rfl, rfl, trivial⟩⟩ ?_
       clear hs59; rintro mz e w ⟨c, vsc, rfl, rfl, hcc, hvc, hs⟩
       have hxl := xsU_length k z i (ps.take k) j c
       have h1c : vsc.length = (xsU k z i (ps.take k) j c).length := by omega
       refine rSeq (rReg (oV (xCmp rfl rfl rLss) rfl (oEnd (kSeq (rSeq ?_)))))
       refine rCondD rfl (fun hc60 => ?_) (fun hc60 => ?_)
       · have hcz1 : (c + 1) * z ≤ (k - 1) * z := Nat.mul_le_mul_right _ (by omega)
         have hcz2 : (c + 1) * z = c * z + z := by rw [Nat.add_mul, Nat.one_mul]
         have hxlen := xrU_length z i (ps.take k) j c
         refine rSkip (kSeq (rSeq (rBlk (rSeq (rReg (oV (xMove rfl) rfl (oV (xAssign rfl) rfl (oEnd (kSeq ?_)))))))))
         refine rRegG [(none, fun w => ∃ M, Sep W0 w (pool f40 :: M)), (none, fun w => ∃ M, Sep W0 w (row b53 123 [(I ((prt (ps.take k) j).1 : Int)), (.slice a47 k48 cp49)] :: M)), (some 18, fun w => ∃ M, Sep W0 w (own 26 1 (.slice (some ⟨b43, 0, none⟩) k k) k vsc :: M))] (by kernel_rfl) hs (fun w61 hs62 => ⟨?_, fun hS => ?_⟩)
         · exact ⟨⟨_, (Sep.front (i := 4) rfl hs62)⟩, ⟨_, (Sep.front (i := 2) rfl hs62)⟩, fun _ => ⟨_, (Sep.front (i := 0) rfl hs62)⟩, trivial⟩
         clear hs
         refine gTake0 0 rfl (by kernel_rfl) hS (fun w => xMove rfl) rfl ?_
         clear hS; intro hS
         refine gTake0 1 rfl (by kernel_rfl) hS (fun w => xMove rfl) rfl ?_
         clear hS; intro hS
         refine gTake0 2 rfl (by kernel_rfl) hS (fun w => xMove rfl) rfl ?_
         clear hS; intro hS
         refine gTake0 3 rfl (by kernel_rfl) hS (fun w => xMove rfl) rfl ?_
         clear hS; intro hS
         refine gTake0 4 rfl (by kernel_rfl) hS (fun w => xIA (o' := j) underlying22 sizeOf26 rfl rfl (by omega) (by omega) (by omega)) rfl ?_
         clear hS; intro hS
         obtain ⟨a63, cp64, hv65⟩ := rows_head (i := j) hs62 (p := 1) rfl h1c (by omega)
         refine gTake 5 2 rfl (by kernel_rfl) rfl (by kernel_rfl) hS (fun w hq0 => by obtain ⟨M, hq⟩ := hq0; exact xLoadC isAgg26 rfl (Sep.ownCell hq (i := 0) rfl ((getV (by first | omega | (simp only [List.length_append, List.length_set, List.length_cons, List.length_nil, List.length_map, List.length_replicate, mixd_length]; omega))).trans (congrArg some hv65)))) rfl ?_
         clear hS; intro hS
         refine gTake0 6 rfl (by kernel_rfl) hS (fun w => xFA (j' := 1) underlying123 rfl sizeOf26 rfl rfl) rfl ?_
         clear hS; intro hS
         refine gTake 7 1 rfl (by kernel_rfl) rfl (by kernel_rfl) hS (fun w hq0 => by obtain ⟨M, hq⟩ := hq0; exact xLoad hq isAgg26 rfl (i := 0) rfl rfl) rfl ?_
         clear hS; intro hS
         refine gTake0 8 rfl (by kernel_rfl) hS (fun w => xMove rfl) rfl ?_
         clear hS; intro hS
         refine gTake0 9 rfl (by kernel_rfl) hS (fun w => xMove rfl) rfl ?_
         clear hS; intro hS
         refine gTake0 10 rfl (by kernel_rfl) hS (fun w => xAr rfl rfl (rMul (wI (by omega) (by omega)))) rfl ?_
         clear hS; intro hS
         refine gTake0 11 rfl (by kernel_rfl) hS (fun w => xMove rfl) rfl ?_
         clear hS; intro hS
         refine gTake0 12 rfl (by kernel_rfl) hS (fun w => xAr rfl rfl (rAdd (wI (by omega) (by omega)))) rfl ?_
         clear hS; intro hS
         obtain ⟨b66, off67, rfl⟩ := Reads.at hb51 (by omega)
         refine gTake0 13 rfl (by kernel_rfl) hS (fun w => xIA (o' := off67 + ((c * z) + i)) underlying26 sizeOf5 rfl rfl (by omega) (by omega) (by omega)) rfl ?_
         clear hS; intro hS
         refine gTake 14 0 rfl (by kernel_rfl) rfl (by kernel_rfl) hS (fun w hq0 => by obtain ⟨M, hq⟩ := hq0; exact xLoadC isAgg5 rfl (Reads.cell hb51 hq (i := 0) rfl (getB (by omega)))) rfl ?_
         clear hS; intro hS
         refine gEff 15 (by kernel_rfl) rfl ?_
         refine oBuildSlice (el := 5) (cs := [(.int .u8 ((((prt (ps.take k) j).2).getD ((c * z) + i) 0).toNat : Int))]) hs62 rfl (fun w => by kernel_rfl) rfl ?_
         intro b68 w69 hs70; clear hs62
         refine oEnd (kG ⟨⟨_, (Sep.front (i := 5) rfl hs70)⟩, ⟨_, (Sep.front (i := 3) rfl hs70)⟩, fun _ => ⟨_, (Sep.front (i := 1) rfl hs70)⟩, trivial⟩ ?_)
         clear hS; intro hS
         refine gEff 16 (by kernel_rfl) rfl ?_
         replace hs70 := hs70.f2
         obtain ⟨_, hs71⟩ := rows_out h1c (by omega) hv65 hs70; clear hs70
         rw [xsU_get (by omega)] at hs71 ⊢
         refine oAppend (inf := Tryz.t5) (size := 1) (bytes := 1) hs71 (i := 0) rfl underlying26 (by kernel_rfl) rfl rfl rfl rfl rfl rfl rfl (src_row hs71 (i := 2) rfl rfl rfl) (by first | omega | (simp only [List.length_append, List.length_cons, List.length_nil, List.length_map]; omega)) (by first | omega | (simp only [List.length_append, List.length_cons, List.length_nil, List.length_map]; omega)) rfl ?_
         intro a72 c73 w74 hs75; clear hs71; dsimp only [List.set] at hs75
         refine oEnd (kG ⟨⟨_, (Sep.front (i := 6) rfl hs75)⟩, ⟨_, (Sep.front (i := 4) rfl hs75)⟩, fun _ => ⟨_, (Sep.front (i := 3) rfl hs75)⟩, trivial⟩ ?_)
         clear hS; intro hS
         refine gTake0 17 rfl (by kernel_rfl) hS (fun w => xIA (o' := j) underlying22 sizeOf26 rfl rfl (by omega) (by omega) (by omega)) rfl ?_
         clear hS; intro hS
         refine gEff 18 (by kernel_rfl) rfl ?_
         refine oStoreO hs75 sizeOf26 rfl rfl rfl (i := 3) rfl (getV (by first | omega | (simp only [List.length_append, List.length_set, List.length_cons, List.length_nil, List.length_map, List.length_replicate, mixd_length]; omega))) ?_
         intro w76 hs77; clear hs75; dsimp only [List.set] at hs77
         replace hs77 := hs77.f1
         replace hs77 := hs77.f1
         have hs78 := rows_fill (i := j) h1c (by omega) (ownB_mk (l := (xrU z i (ps.take k) j (c + 1))) (by rw [xrU_succ, List.length_append, List.length_singleton]) (by rw [xrU_succ, List.map_append]; exact hs77)); rw [xsU_set] at hs78; clear hs77
         refine oEnd (kG ⟨⟨_, (Sep.front (i := 5) rfl hs78)⟩, ⟨_, (Sep.front (i := 3) rfl hs78)⟩, (tillDone (by kernel_rfl)), trivial⟩ ?_)
         clear hS; intro hS
         refine gEnd (by kernel_rfl) ?_
         clear hS
         refine kBlk (kSeq ?_)
         refine rReg (oV (xAr rfl rfl (rAdd (wI (by omega) (by omega)))) rfl (oV (xMove rfl) rfl ?_))
         replace hs78 := hs78.d1
         replace hs78 := hs78.f4
         replace hs78 := hs78.f4
         replace hs78 := hs78.f4
         replace hs78 := hs78.f3
         replace hs78 := hs78.f4
         exact oEnd (kLoop (k - 1 - (c + 1)) _ (by omega) ⟨c + 1, _, rfl, rfl, (by omega), (by rw [List.length_set]; exact hvc), hs78⟩ ⟨rfl, rfl, rfl, rfl, rfl, rfl, rfl, rfl, rfl, rfl, rfl, rfl, rfl, rfl, rfl, trivial⟩)
       · refine rExit (kSeqX (kLoopX (kBlkH (kBlk (kSeq (rReg (oV (xAr rfl rfl (rAdd (wI (by omega) (by omega)))) rfl (oV (xMove rfl) rfl ?_))))))))
         obtain rfl : c = k - 1 := by omega
         rw [xsU_next] at hs
         replace hs := hs.d2
         exact oEnd (kLoop (k - (j + 1)) _ (by omega) ⟨j + 1, vsc, rfl, rfl, (by omega), (by omega), hs⟩ ⟨rfl, rfl, rfl, rfl, rfl, rfl, rfl, rfl, rfl, rfl, rfl, trivial⟩)
     · refine rExit (kSeqX (kLoopX (kBlkH (kSeq (rSeq (rReg ?_))))))
       obtain rfl : k = j := by omega
       rw [xsU_end] at hs
       have h1m : vsx.length = (xMat k z i (ps.take k)).length := by rw [← xsU_end]; exact h1x
       replace hs := hs.f1
       replace hs := hs.f1
       have hs79 := rowsE_shut h1m (Shape.len (xMat_shape k z i (ps.take k))) hs; clear hs
       replace hs79 := hs79.f2
       obtain ⟨vs80, f81, hle82, hv83, hr84, hs85⟩ := rowsE_freeze hs79; clear hs79
       replace hc := hc.mono hle82
       replace hv19 := hv19.mono hle82
       replace hr20 := hr20.mono hle82
       replace hp := hp.mono hle82
       refine oV (xMove rfl) rfl (oV (xMove rfl) rfl (oV (xMove rfl) rfl (oCall call103 rfl rfl (halves_s hc hv19 hr20 hv83 hr84 (xMat_shape k z i (ps.take k)) hqk hqs hd.ne hd.full hd.fullC hs85) ?_)))
       rintro _ w98 ⟨f86, a87, c88, v89, a90, c91, v92, rfl, hle93, hv94, hr95, hv96, hr97, hs99⟩; clear hs85
       replace hc := hc.mono hle93
       replace hv19 := hv19.mono hle93
       replace hr20 := hr20.mono hle93
       replace hp := hp.mono hle93
       replace hv83 := hv83.mono hle93
       replace hr84 := hr84.mono hle93
       refine oV (xMove rfl) rfl (oV (xExtract rfl rfl) rfl (oV (xExtract rfl rfl) rfl (oV (xAssign rfl) rfl (oV (xAssign rfl) rfl (oEnd (kSeq (rSeq (rReg (oV (xMove rfl) rfl (oV (xMove rfl) rfl (oV (xMove rfl) rfl (oV (xMove rfl) rfl (oV (xMove rfl) rfl ?_)))))))))))))
       replace hs99 := hs99.f1
       refine oCall call104 rfl rfl (put_s hc hv94 hr95 (wholeF_shape (by omega)) 0 i z (by omega) (by omega) (by omega) rfl (hdl) hs99) ?_
       intro r100 w101 hs102; clear hs99
       refine oEnd (kSeq (rReg (oV (xMove rfl) rfl (oV (xMove rfl) rfl (oV (xMove rfl) rfl (oV (xMove rfl) rfl ?_))))))
       replace hs102 := hs102.f1
       refine oCall call102 rfl rfl (cparts_s hc hs102) ?_
       rintro _ w103 ⟨rfl, hs104⟩; clear hs102
       refine oV (xMove rfl) rfl (oV (xMove rfl) rfl ?_)
       replace hs104 := hs104.f1
       refine oCall call104 rfl rfl (put_s hc hv96 hr97 (wholeF_shape (by omega)) (k - 1 : Nat) i z (by omega) (by omega) (by omega) rfl ((by rw [putAll_length]; exact hdl)) hs104) ?_
       intro r105 w106 hs107; clear hs104
       refine oEnd (kBlk (kSeq (rReg (oV (xAr rfl rfl (rAdd (wI (by omega) (by omega)))) rfl (oV (xMove rfl) rfl ?_)))))
       exact oEnd (kLoop (z - (i + 1)) _ (by omega) ⟨i + 1, f86, rfl, rfl, (by omega), (FLe.trans hle41 (FLe.trans hle82 hle93)), (hc), (hv19), (hr20), (hp), hs107⟩ ⟨rfl, rfl, rfl, rfl, rfl, rfl, trivial⟩)
   · refine rExit (kSeqX (kLoopX (kBlkH (kSeq (rSeq (rReg (oV (xMove rfl) rfl (oV (xAssign rfl) rfl (oV (xAssign rfl) rfl (oEnd (kSeq (rRet (kFin (.tmp rfl (.tmp rfl (.nil))) ?_)))))))))))))
     replace hs := hs.f1
     obtain rfl : i = z := by omega
     obtain ⟨f1, hle1, hb1, hs1⟩ := Sep.freezeOwn (i := 0) hs rfl
     exact ⟨f1, _, _, rfl, FLe.trans hle41 hle1, hb1, hs1⟩
end Go.Sl
namespace Go.Sl
open Go.Proofs Go.Proofs.Tryz
theorem rQuoNat {P : Program} {t : TypeId} {a b q : Nat} (h1 : 0 < b) (h2 : a ≤ 9223372036854775807) (hq : a / b = q) (w : World) : Sem.run P (binOp .quo t (I (a : Int)) (I (b : Int))) w = .ok (I (q : Int)) w := by
 subst hq
 rw [Int.natCast_ediv]
 exact rQuoN (by omega) (by omega) (by omega) w
def planCnt (k piece len : Nat) : Nat := (len + k * (k - 1) * piece - 1) / (k * (k - 1) * piece)
def planPc (k piece len : Nat) : Nat := if 0 < len ∧ len < k * (k - 1) * piece then (len + k * (k - 1) - 1) / (k * (k - 1)) else piece
theorem pmsg_s {W0 w : World} {L : List Asn} {f : HF} {p n k : Nat} (hc : CodeP f p n k) (len cnt pc : Nat) (hpc : pc ≤ 256) (hs : Sep W0 w (pool f :: L)) :
 Calls Tryz.prog 286 [.agg #[.int .i64 len, .int .i64 cnt, .int .i64 pc], ptr p].toArray w (Ret fun r w' => r = .int .i64 ((k * (k - 1) * pc : Nat) : Int) ∧ Sep W0 w' (pool f :: L)) := by
 obtain ⟨hk, h2k, hn24, hpl, ca, ccp, hp, hb⟩ := id hc
 have hbl := RB.len hb
 have hkk : k * (k - 1) ≤ 6 ∧ 2 ≤ k * (k - 1) := by rcases hk with rfl | rfl <;> decide
 have hkp : k * (k - 1) * pc ≤ 6 * 256 := Nat.mul_le_mul (by omega) hpc
 have hkp2 : (k - 1) * pc ≤ 2 * 256 := Nat.mul_le_mul (by omega) hpc
 refine enter (args := [(.agg #[(I (len : Int)), (I (cnt : Int)), (I (pc : Int))]), (ptr p)]) (n := 10) (rs := [.tmp 4]) func286 rfl rfl rfl rfl ?_
 refine rSeq (rReg (oBox hs rfl rfl rfl ?_))
 intro b1 w2 hs3; clear hs
 refine oV (xAssign rfl) rfl (oEnd (kSeq (rSeq ?_)))
 refine rRegG [(none, fun w => ∃ M, Sep W0 w (row b1 270 [(I (len : Int)), (I (cnt : Int)), (I (pc : Int))] :: M))] (by kernel_rfl) hs3 (fun w4 hs5 => ⟨?_, fun hS => ?_⟩)
 · exact ⟨⟨_, (Sep.front (i := 0) rfl hs5)⟩, trivial⟩
 clear hs3
 refine gTake0 0 rfl (by kernel_rfl) hS (fun w => xMove rfl) rfl ?_
 clear hS; intro hS
 refine gTake0 2 rfl (by kernel_rfl) hS (fun w => xFA (j' := 2) underlying270 rfl sizeOf3 rfl rfl) rfl ?_
 clear hS; intro hS
 refine gTake 3 0 rfl (by kernel_rfl) rfl (by kernel_rfl) hS (fun w hq0 => by obtain ⟨M, hq⟩ := hq0; exact xLoad hq isAgg3 rfl (i := 0) rfl rfl) rfl ?_
 clear hS; intro hS
 refine gEff 1 (by kernel_rfl) rfl ?_
 replace hs5 := hs5.f1
 refine oCall call99 rfl rfl (csym_s hc hs5) ?_
 rintro _ w6 ⟨rfl, hs7⟩; clear hs5
 refine oEnd (kG ⟨⟨_, (Sep.front (i := 1) rfl hs7)⟩, trivial⟩ ?_)
 clear hS; intro hS
 refine gTake0 4 rfl (by kernel_rfl) hS (fun w => xAr rfl rfl (rMul (wI (by omega) (by omega)))) rfl ?_
 clear hS; intro hS
 refine gTake0 5 rfl (by kernel_rfl) hS (fun w => xAssign rfl) rfl ?_
 clear hS; intro hS
 refine gEnd (by kernel_rfl) ?_
 clear hS
 refine kSeq ?_
 refine rRet (kFin (.tmp rfl (.nil)) ?_)
 replace hs7 := hs7.d1
 exact ⟨vI0 (by simp only [Int.natCast_mul]), hs7⟩
theorem pshard_s {W0 w : World} {L : List Asn} {f : HF} {p n k : Nat} (hc : CodeP f p n k) (len cnt pc : Nat) (hpc : pc ≤ 256) (hs : Sep W0 w (pool f :: L)) :
 Calls Tryz.prog 345 [.agg #[.int .i64 len, .int .i64 cnt, .int .i64 pc], ptr p].toArray w (Ret fun r w' => r = .int .i64 (((k - 1) * pc : Nat) : Int) ∧ Sep W0 w' (pool f :: L)) := by
 obtain ⟨hk, h2k, hn24, hpl, ca, ccp, hp, hb⟩ := id hc
 have hbl := RB.len hb
 have hkk : k * (k - 1) ≤ 6 ∧ 2 ≤ k * (k - 1) := by rcases hk with rfl | rfl <;> decide
 have hkp : k * (k - 1) * pc ≤ 6 * 256 := Nat.mul_le_mul (by omega) hpc
 have hkp2 : (k - 1) * pc ≤ 2 * 256 := Nat.mul_le_mul (by omega) hpc
 refine enter (args := [(.agg #[(I (len : Int)), (I (cnt : Int)), (I (pc : Int))]), (ptr p)]) (n := 10) (rs := [.tmp 4]) func345 rfl rfl rfl rfl ?_
 refine rSeq (rReg (oBox hs rfl rfl rfl ?_))
 intro b1 w2 hs3; clear hs
 refine oV (xAssign rfl) rfl (oEnd (kSeq (rSeq ?_)))
 refine rRegG [(none, fun w => ∃ M, Sep W0 w (row b1 270 [(I (len : Int)), (I (cnt : Int)), (I (pc : Int))] :: M))] (by kernel_rfl) hs3 (fun w4 hs5 => ⟨?_, fun hS => ?_⟩)
 · exact ⟨⟨_, (Sep.front (i := 0) rfl hs5)⟩, trivial⟩
 clear hs3
 refine gTake0 0 rfl (by kernel_rfl) hS (fun w => xMove rfl) rfl ?_
 clear hS; intro hS
 refine gTake0 2 rfl (by kernel_rfl) hS (fun w => xFA (j' := 2) underlying270 rfl sizeOf3 rfl rfl) rfl ?_
 clear hS; intro hS
 refine gTake 3 0 rfl (by kernel_rfl) rfl (by kernel_rfl) hS (fun w hq0 => by obtain ⟨M, hq⟩ := hq0; exact xLoad hq isAgg3 rfl (i := 0) rfl rfl) rfl ?_
 clear hS; intro hS
 refine gEff 1 (by kernel_rfl) rfl ?_
 replace hs5 := hs5.f1
 refine oCall call102 rfl rfl (cparts_s hc hs5) ?_
 rintro _ w6 ⟨rfl, hs7⟩; clear hs5
 refine oEnd (kG ⟨⟨_, (Sep.front (i := 1) rfl hs7)⟩, trivial⟩ ?_)
 clear hS; intro hS
 refine gTake0 4 rfl (by kernel_rfl) hS (fun w => xAr rfl rfl (rMul (wI (by omega) (by omega)))) rfl ?_
 clear hS; intro hS
 refine gTake0 5 rfl (by kernel_rfl) hS (fun w => xAssign rfl) rfl ?_
 clear hS; intro hS
 refine gEnd (by kernel_rfl) ?_
 clear hS
 refine kSeq ?_
 refine rRet (kFin (.tmp rfl (.nil)) ?_)
 replace hs7 := hs7.d1
 exact ⟨vI0 (by simp only [Int.natCast_mul]), hs7⟩
theorem pof_s {W0 w : World} {L : List Asn} {f : HF} {p n k : Nat} (hc : CodeP f p n k) (len piece : Nat) (hl : len ≤ 16384) (hp1 : 1 ≤ piece) (hp2 : piece ≤ 256) (hcnt : planCnt k piece len ≤ 32) (hs : Sep W0 w (pool f :: L)) :
 Calls Tryz.prog 279 [ptr p, .int .i64 len, .int .i64 piece].toArray w (Ret fun r w' => r = .tuple #[.agg #[I (len : Int), I ((planCnt k piece len : Nat) : Int), I ((planPc k piece len : Nat) : Int)], .int .i64 0] ∧ Sep W0 w' (pool f :: L)) := by
 obtain ⟨hk, h2k, hn24, hpl, ca, ccp, hp, hb⟩ := id hc
 have hbl := RB.len hb
 have hkk : k * (k - 1) ≤ 6 ∧ 2 ≤ k * (k - 1) := by rcases hk with rfl | rfl <;> decide
 have hkp : k * (k - 1) * piece ≤ 6 * 256 := Nat.mul_le_mul (by omega) hp2
 have hkp1 : 1 * 1 ≤ k * (k - 1) * piece := Nat.mul_le_mul (by omega) hp1
 have hcd : planCnt k piece len = (len + k * (k - 1) * piece - 1) / (k * (k - 1) * piece) := rfl
 refine enter (args := [(ptr p), (I (len : Int)), (I (piece : Int))]) (n := 64) (rs := [.cell 6 270, .tmp 7]) func279 rfl rfl rfl rfl ?_
 refine rSeq (rReg (oAlloc hs zeroValue270 rfl rfl ?_))
 intro b1 w2 hs3; clear hs
 refine oV (xAssign rfl) rfl (oEnd (kSeq (rSeq (rBlk (rSeq (rReg (oV (xMove rfl) rfl (oV (xBin (r := .bool false) rfl rfl (fun _ => rfl) (fun w => by kernel_rfl)) rfl (oV (xMove rfl) rfl (oGuardT rfl rfl (oV (xMove rfl) rfl (oGuardT rfl rfl (oV (xCmp rfl rfl rLss) rfl (oV (xPickF rfl rfl) rfl (oV (xMove rfl) rfl ?_)))))))))))))))
 refine oCase (d := 17) rfl (fun hg4 => ?_) (fun hg4 => ?_)
 · replace hg4 := of_decide_eq_true hg4
   refine oGuardF rfl rfl rfl rfl (oGuardF rfl rfl rfl rfl (oV (xPickT rfl rfl) rfl (oV (xMove rfl) rfl (oGuardF rfl rfl rfl rfl (oGuardF rfl rfl rfl rfl (oV (xPickT rfl rfl) rfl (oV (xAssign rfl) rfl (oEnd (kSeq (rCondT rfl (rSeq (rReg (oV (xBuild (v := (.agg #[(I 0), (I 0), (I 0)])) rfl (fun w => by kernel_rfl)) rfl (oStoreG hs3 sizeOf270 rfl rfl rfl rfl (i := 0) rfl rfl ?_))))))))))))))
   intro w5 hs6; clear hs3; dsimp only [List.set, putAt] at hs6
   refine oV (xAssign rfl) rfl (oEnd (kSeq (rRet (kBlkR (kSeqR (kFin (.cell rfl (run_varG hs6 isAgg270 sizeOf270 (i := 0) rfl rfl) (.tmp rfl (.nil))) ?_))))))
   exfalso; omega
 · replace hg4 := of_decide_eq_false hg4
   refine oGuardT rfl rfl (oV (xMove rfl) rfl (oGuardT rfl rfl (oV (xCmp rfl rfl rLss) rfl (oV (xPickF rfl rfl) rfl (oV (xMove rfl) rfl ?_)))))
   refine oCase (d := 21) rfl (fun hg7 => ?_) (fun hg7 => ?_)
   · replace hg7 := of_decide_eq_true hg7
     refine oGuardF rfl rfl rfl rfl (oGuardF rfl rfl rfl rfl (oV (xPickT rfl rfl) rfl (oV (xAssign rfl) rfl (oEnd (kSeq (rCondT rfl (rSeq (rReg (oV (xBuild (v := (.agg #[(I 0), (I 0), (I 0)])) rfl (fun w => by kernel_rfl)) rfl (oStoreG hs3 sizeOf270 rfl rfl rfl rfl (i := 0) rfl rfl ?_))))))))))
     intro w8 hs9; clear hs3; dsimp only [List.set, putAt] at hs9
     refine oV (xAssign rfl) rfl (oEnd (kSeq (rRet (kBlkR (kSeqR (kFin (.cell rfl (run_varG hs9 isAgg270 sizeOf270 (i := 0) rfl rfl) (.tmp rfl (.nil))) ?_))))))
     exfalso; omega
   · replace hg7 := of_decide_eq_false hg7
     refine oGuardT rfl rfl (oV (xMove rfl) rfl (oGuardT rfl rfl (oV (xCmp rfl rfl rGtr) rfl (oV (xPickF rfl rfl) rfl (oV (xAssign rfl) rfl (oEnd (kSeq ?_)))))))
     refine rCondD rfl (fun hc10 => ?_) (fun hc10 => ?_)
     · refine rSeq (rReg (oV (xBuild (v := (.agg #[(I 0), (I 0), (I 0)])) rfl (fun w => by kernel_rfl)) rfl (oStoreG hs3 sizeOf270 rfl rfl rfl rfl (i := 0) rfl rfl ?_)))
       intro w11 hs12; clear hs3; dsimp only [List.set, putAt] at hs12
       refine oV (xAssign rfl) rfl (oEnd (kSeq (rRet (kBlkR (kSeqR (kFin (.cell rfl (run_varG hs12 isAgg270 sizeOf270 (i := 0) rfl rfl) (.tmp rfl (.nil))) ?_))))))
       exfalso; omega
     · refine rSeq (rReg (oV (xMove rfl) rfl (oV (xCmp rfl rfl rGtr) rfl (oV (xAssign rfl) rfl (oEnd (kSeq ?_))))))
       refine rCondD rfl (fun hc13 => ?_) (fun hc13 => ?_)
       · refine rSeq (rReg (oV (xBuild (v := (.agg #[(I 0), (I 0), (I 0)])) rfl (fun w => by kernel_rfl)) rfl (oStoreG hs3 sizeOf270 rfl rfl rfl rfl (i := 0) rfl rfl ?_)))
         intro w14 hs15; clear hs3; dsimp only [List.set, putAt] at hs15
         refine oV (xAssign rfl) rfl (oEnd (kSeq (rRet (kBlkR (kSeqR (kFin (.cell rfl (run_varG hs15 isAgg270 sizeOf270 (i := 0) rfl rfl) (.tmp rfl (.nil))) ?_))))))
         exfalso; omega
       · refine rSkip (kBlk (kSeq (rSeq (rReg (oV (xMove rfl) rfl ?_)))))
         replace hs3 := hs3.f1
         refine oCall call99 rfl rfl (csym_s hc hs3) ?_
         rintro _ w16 ⟨rfl, hs17⟩; clear hs3
         refine oV (xMove rfl) rfl (oV (xAr (r := ((k * (k - 1) * piece : Nat) : Int)) rfl rfl (rMul (by rw [wI (by omega) (by omega)]; omega))) rfl (oV (xAssign rfl) rfl (oEnd (kSeq (rSeq (rReg (oV (xMove rfl) rfl (oV (xMove rfl) rfl (oV (xMove rfl) rfl (oV (xAr rfl rfl (rAdd (wI (by omega) (by omega)))) rfl (oV (xAr (r := ((len + k * (k - 1) * piece - 1 : Nat) : Int)) rfl rfl (rSub (by rw [wI (by omega) (by omega)]; omega))) rfl (oV (xMove rfl) rfl (oV (xAr (r := ((planCnt k piece len : Nat) : Int)) rfl rfl (rQuoNat (by omega) (by omega) rfl)) rfl (oV (xMove rfl) rfl (oV (xBuild (v := (.agg #[(I (len : Int)), (I ((planCnt k piece len : Nat) : Int)), (I (piece : Int))])) rfl (fun w => by kernel_rfl)) rfl (oAlloc hs17 zeroValue270 rfl rfl ?_))))))))))))))))
         intro b18 w19 hs20; clear hs17
         refine oStoreG hs20 sizeOf270 rfl rfl rfl rfl (i := 0) rfl rfl ?_
         intro w21 hs22; clear hs20; dsimp only [List.set, putAt] at hs22
         refine oEnd (kSeq (rSeq (rSeq (rReg (oV (xMove rfl) rfl (oV (xCmp rfl rfl rGtr) rfl (oV (xMove rfl) rfl ?_)))))))
         refine oCase (d := 45) rfl (fun hg23 => ?_) (fun hg23 => ?_)
         · replace hg23 := of_decide_eq_true hg23
           refine oGuardT rfl rfl (oV (xMove rfl) rfl (oGuardT rfl rfl (oV (xMove rfl) rfl (oGuardT rfl rfl (oV (xCmp rfl rfl rLss) rfl (oV (xPickT rfl rfl) rfl (oEnd (kSeq ?_))))))))
           refine rCondD rfl (fun hc24 => ?_) (fun hc24 => ?_)
           · refine Run.sub (e' := [(0, (ptr p)), (1, (I (len : Int))), (6, (ptr b1)), (7, (I 0)), (9, (ptr b18))]) ⟨rfl, rfl, rfl, rfl, rfl, trivial⟩ ?_
             refine rReg (oV (xMove rfl) rfl (oV (xMove rfl) rfl ?_))
             replace hs22 := hs22.f1
             refine oCall call99 rfl rfl (csym_s hc hs22) ?_
             rintro _ w25 ⟨rfl, hs26⟩; clear hs22
             refine oV (xAr rfl rfl (rAdd (wI (by omega) (by omega)))) rfl (oV (xAr (r := ((len + k * (k - 1) - 1 : Nat) : Int)) rfl rfl (rSub (by rw [wI (by omega) (by omega)]; omega))) rfl (oV (xMove rfl) rfl (oCall call99 rfl rfl (csym_s hc hs26) ?_)))
             rintro _ w27 ⟨rfl, hs28⟩; clear hs26
             refine oV (xAr (r := (((len + k * (k - 1) - 1) / (k * (k - 1)) : Nat) : Int)) rfl rfl (rQuoNat (by omega) (by omega) rfl)) rfl (oV (xFA (j' := 2) underlying270 rfl sizeOf3 rfl rfl) rfl (oStore hs28 sizeOf3 rfl rfl rfl (i := 1) rfl rfl ?_))
             intro w29 hs30; clear hs28; dsimp only [List.set] at hs30
             refine oEnd (kSeq (rSeq (rSeq (rReg (oV (xFA (j' := 1) underlying270 rfl sizeOf3 rfl rfl) rfl (oV (xLoad hs30 isAgg3 rfl (i := 1) rfl rfl) rfl (oV (xCmp rfl rfl rGtr) rfl (oEnd (kSeq ?_)))))))))
             refine rCondD rfl (fun hc31 => ?_) (fun hc31 => ?_)
             · refine rSeq (rReg (oV (xBuild (v := (.agg #[(I 0), (I 0), (I 0)])) rfl (fun w => by kernel_rfl)) rfl (oStoreG hs30 sizeOf270 rfl rfl rfl rfl (i := 2) rfl rfl ?_)))
               intro w32 hs33; clear hs30; dsimp only [List.set, putAt] at hs33
               refine oV (xAssign rfl) rfl (oEnd (kSeq (rRet (kSeqR (kFin (.cell rfl (run_varG hs33 isAgg270 sizeOf270 (i := 2) rfl rfl) (.tmp rfl (.nil))) ?_)))))
               exfalso; omega
             · refine rSkip (kSeq (rSeq (rReg (oV (xLoadG hs30 isAgg270 sizeOf270 rfl (i := 1) rfl rfl) rfl (oStoreG hs30 sizeOf270 rfl rfl rfl rfl (i := 2) rfl rfl ?_)))))
               intro w34 hs35; clear hs30; dsimp only [List.set, putAt] at hs35
               refine oV (xAssign rfl) rfl (oEnd (kSeq (rRet (kFin (.cell rfl (run_varG hs35 isAgg270 sizeOf270 (i := 2) rfl rfl) (.tmp rfl (.nil))) ?_))))
               replace hs35 := hs35.d2
               replace hs35 := hs35.d1
               have hpcv : planPc k piece len = (len + k * (k - 1) - 1) / (k * (k - 1)) := by unfold planPc; rw [if_pos (by omega)]
               rw [hpcv]
               exact ⟨rfl, hs35⟩
           · refine rSkip (kSeq (rSeq (rSeq (Run.sub (e' := [(6, (ptr b1)), (7, (I 0)), (9, (ptr b18))]) ⟨rfl, rfl, rfl, trivial⟩ ?_))))
             refine rReg (oV (xFA (j' := 1) underlying270 rfl sizeOf3 rfl rfl) rfl (oV (xLoad hs22 isAgg3 rfl (i := 0) rfl rfl) rfl (oV (xCmp rfl rfl rGtr) rfl (oEnd (kSeq ?_)))))
             refine rCondD rfl (fun hc36 => ?_) (fun hc36 => ?_)
             · refine rSeq (rReg (oV (xBuild (v := (.agg #[(I 0), (I 0), (I 0)])) rfl (fun w => by kernel_rfl)) rfl (oStoreG hs22 sizeOf270 rfl rfl rfl rfl (i := 2) rfl rfl ?_)))
               intro w37 hs38; clear hs22; dsimp only [List.set, putAt] at hs38
               refine oV (xAssign rfl) rfl (oEnd (kSeq (rRet (kSeqR (kFin (.cell rfl (run_varG hs38 isAgg270 sizeOf270 (i := 2) rfl rfl) (.tmp rfl (.nil))) ?_)))))
               exfalso; omega
             · refine rSkip (kSeq (rSeq (rReg (oV (xLoadG hs22 isAgg270 sizeOf270 rfl (i := 0) rfl rfl) rfl (oStoreG hs22 sizeOf270 rfl rfl rfl rfl (i := 2) rfl rfl ?_)))))
               intro w39 hs40; clear hs22; dsimp only [List.set, putAt] at hs40
               refine oV (xAssign rfl) rfl (oEnd (kSeq (rRet (kFin (.cell rfl (run_varG hs40 isAgg270 sizeOf270 (i := 2) rfl rfl) (.tmp rfl (.nil))) ?_))))
               replace hs40 := hs40.d2
               replace hs40 := hs40.d0
               have hpcv : planPc k piece len = piece := by unfold planPc; rw [if_neg (by omega)]
               rw [hpcv]
               exact ⟨rfl, hs40⟩
         · replace hg23 := of_decide_eq_false hg23
           refine oGuardF rfl rfl rfl rfl (oGuardF rfl rfl rfl rfl (oGuardF rfl rfl rfl rfl (oV (xPickF rfl rfl) rfl (oEnd (kSeq (rCondF rfl (rSkip (kSeq (rSeq (rSeq (Run.sub (e' := [(6, (ptr b1)), (7, (I 0)), (9, (ptr b18))]) ⟨rfl, rfl, rfl, trivial⟩ ?_)))))))))))
           refine rReg (oV (xFA (j' := 1) underlying270 rfl sizeOf3 rfl rfl) rfl (oV (xLoad hs22 isAgg3 rfl (i := 0) rfl rfl) rfl (oV (xCmp rfl rfl rGtr) rfl (oEnd (kSeq ?_)))))
           refine rCondD rfl (fun hc41 => ?_) (fun hc41 => ?_)
           · refine rSeq (rReg (oV (xBuild (v := (.agg #[(I 0), (I 0), (I 0)])) rfl (fun w => by kernel_rfl)) rfl (oStoreG hs22 sizeOf270 rfl rfl rfl rfl (i := 2) rfl rfl ?_)))
             intro w42 hs43; clear hs22; dsimp only [List.set, putAt] at hs43
             refine oV (xAssign rfl) rfl (oEnd (kSeq (rRet (kSeqR (kFin (.cell rfl (run_varG hs43 isAgg270 sizeOf270 (i := 2) rfl rfl) (.tmp rfl (.nil))) ?_)))))
             exfalso; omega
           · refine rSkip (kSeq (rSeq (rReg (oV (xLoadG hs22 isAgg270 sizeOf270 rfl (i := 0) rfl rfl) rfl (oStoreG hs22 sizeOf270 rfl rfl rfl rfl (i := 2) rfl rfl ?_)))))
             intro w44 hs45; clear hs22; dsimp only [List.set, putAt] at hs45
             refine oV (xAssign rfl) rfl (oEnd (kSeq (rRet (kFin (.cell rfl (run_varG hs45 isAgg270 sizeOf270 (i := 2) rfl rfl) (.tmp rfl (.nil))) ?_))))
             replace hs45 := hs45.d2
             replace hs45 := hs45.d0
             have hpcv : planPc k piece len = piece := by unfold planPc; rw [if_neg (by omega)]
             rw [hpcv]
             exact ⟨rfl, hs45⟩
end Go.Sl
namespace Go.Sl
section
variable {P : Program} {n : Nat} {K : Kont} {e : Env} {w w' : World} {ops : Array Oper} {rest : List Oper} {W0 : World} {L : List Asn}
theorem Src.take {size : Nat} {v : Value} {s : Nat} {cs : List Value} (h : Src w 1 v s cs) {m : Nat} (hm : m ≤ s) : ∃ a c, v = .slice a s c ∧ (0 < m → ∃ ad, a = some ad ∧ ∀ j u, (cs.take m)[j]? = some u → w.cell? (ad.add j) = some u) := by
  obtain ⟨h1, h2, h3⟩ := h
  rcases h3 with ⟨a, c, rfl, hc⟩ | ⟨c, rfl, h0⟩
  · refine ⟨some a, c, rfl, fun _ => ⟨a, rfl, fun j u hu => hc j u ?_⟩⟩
    rw [List.getElem?_take] at hu
    split at hu
    · exact hu
    · cases hu
  · exact ⟨none, c, by rw [h0], fun h => by omega⟩
theorem oCopyM {d i : Nat} {x y : Operand} {t ty el : TypeId} {g off dLen dCap s m k cap : Nat} {dp : Option Addr} {yv : Value} {cs xs : List Value} {pos : String} {af : Array Edge} (hs : Sep W0 w L)
    (hi : L[i]? = some (own el 1 (.slice (some ⟨g, 0, none⟩) k cap) k xs)) (hu : P.underlying t = some (.slice el)) (hsz : (P.info? el).map (·.size) = some 1)
    (hx : e.ev x = some (.slice dp dLen dCap)) (hpos : 0 < m → dp = some ⟨g, off, none⟩) (hy : e.ev y = some yv) (hsrc : Src w 1 yv s cs) (hm : m = Min.min s dLen) (h2 : off + m ≤ k) (hn : Nat.blt d n = true)
    (hk : ∀ w', Sep W0 w' (L.set i (own el 1 (.slice (some ⟨g, 0, none⟩) k cap) k (xs.take off ++ (cs.take m ++ xs.drop (off + m))))) → Ops P n ops K rest ((d, .int .i64 (m : Int)) :: e) w') :
    Ops P n ops K (⟨some d, .call ⟨.builtin .copy, #[x, y], #[t, t]⟩, ty, pos, af, none⟩ :: rest) e w := by
  have hcl : cs.length = s := by have := hsrc.1; omega
  have hc1 : ∀ u ∈ cs.take m, u.oneCell' = true := fun u hu => hsrc.2.1 u (List.mem_of_mem_take hu)
  obtain ⟨sp, sCap, rfl, hcell⟩ := Src.take (size := 1) hsrc (m := m) (by omega)
  have hml : (cs.take m).length = m := by rw [List.length_take]; omega
  have hmm : Nat.min s dLen = m := hm.symm
  by_cases h0 : m = 0
  · subst h0
    have hrun := run_copy_none (P := P) w t t ty el dp sp dLen dCap s sCap hu hsz hmm
    refine Ops.val (w' := w) rfl rfl hn (fun a ha => ?_) (hk w ?_)
    · simp only [execOp, resolve, invoke, builtin, Sem.run_bind, Sem.run_pure, Result.andThen_ok, List.map_toArray, List.map_cons, List.map_nil, ha.ev hx, ha.ev hy, hrun]
      rfl
    · simp only [List.take_zero, List.nil_append, Nat.add_zero, List.take_append_drop]
      rwa [set_self hi]
  · obtain rfl := hpos (by omega)
    obtain ⟨a0, rfl, hcells⟩ := hcell (by omega)
    obtain ⟨S, ⟨hl, h⟩, hSn, hupd⟩ := hs.upd hi
    rcases h with ⟨he, _⟩ | ⟨g', cap', cur, he, hb, h4, h5, h6, htk⟩
    · cases he
    · simp at he
      obtain ⟨rfl, rfl⟩ := he
      obtain ⟨hSg, hb⟩ := only_of hb
      have hb : w.heap[g]? = some (.cells cur el (0, 0)) := hb
      rw [Nat.mul_one] at h6 htk hl
      have hfit : off + (cs.take m).length ≤ cur.size := by omega
      have hrun := run_copy_row (P := P) w t t ty el g off dLen dCap a0 s sCap cur el (cs.take m) hu hsz hb (by rw [hml, hmm]) hcells hfit hc1
      refine Ops.val rfl rfl hn (fun a ha => ?_) (hk _ (hupd (w.setRow g (cur.toList.take off ++ cs.take m ++ cur.toList.drop (off + (cs.take m).length)).toArray) _ rfl rfl rfl (fun b hSb => ?_) ⟨?_, .inr ⟨g, cap, (cur.toList.take off ++ cs.take m ++ cur.toList.drop (off + (cs.take m).length)).toArray, rfl, ?_, h4, h5, ?_, ?_⟩⟩))
      · simp only [execOp, resolve, invoke, builtin, Sem.run_bind, Sem.run_pure, Result.andThen_ok, List.map_toArray, List.map_cons, List.map_nil, ha.ev hx, ha.ev hy, hrun, hml]
        rfl
      · exact setRow_other w g b _ (fun e => by subst e; rw [hSg] at hSb; cases hSb)
      · simp only [List.length_append, List.length_take, List.length_drop, hl]; omega
      · simp only [only, hSg, hfOf]; exact setRow_heap w g cur _ el _ hb
      · simp only [List.size_toArray, List.length_append, List.length_take, List.length_drop, Array.length_toList] at *; omega
      · rw [← htk, Nat.mul_one, List.append_assoc]
        simp only []
        have hA : (cur.toList.take off).length = off := by rw [List.length_take, Array.length_toList]; omega
        have e1 : List.take k (List.take off cur.toList ++ (cs.take m ++ List.drop (off + (cs.take m).length) cur.toList)) = List.take off cur.toList ++ (cs.take m ++ List.take (k - off - m) (List.drop (off + (cs.take m).length) cur.toList)) := by
          rw [List.take_append, hA, List.take_of_length_le (l := List.take off cur.toList) (by omega), List.take_append, hml, List.take_of_length_le (l := cs.take m) (by omega)]
        rw [e1, List.take_take, Nat.min_eq_left (show off ≤ k by omega), List.drop_take, Nat.sub_sub, hml]
end
def padTo (z : Nat) (l : List UInt8) : List UInt8 := l ++ List.replicate (z - l.length) 0
theorem padTo_length {z : Nat} {l : List UInt8} (h : l.length ≤ z) : (padTo z l).length = z := by simp [padTo]; omega
def cutZ (l : List UInt8) (z i : Nat) : List UInt8 := padTo z ((l.drop (i * z)).take z)
theorem cutZ_length (l : List UInt8) (z i : Nat) : (cutZ l z i).length = z := padTo_length (by simp; omega)
def cutsZ (l : List UInt8) (z : Nat) : Nat → LL
  | 0 => []
  | i + 1 => cutsZ l z i ++ [cutZ l z i]
theorem cutsZ_length (l : List UInt8) (z : Nat) : ∀ i, (cutsZ l z i).length = i
  | 0 => rfl
  | i + 1 => by simp [cutsZ, cutsZ_length l z i]
end Go.Sl
namespace Go.Sl
open Go.Proofs Go.Proofs.Tryz
theorem cut_pad {l : List UInt8} {z m : Nat} (hm : m = Min.min l.length z) : (List.replicate z (Value.int .u8 0)).take 0 ++ ((l.map B).take m ++ (List.replicate z (Value.int .u8 0)).drop (0 + m)) = (padTo z (l.take z)).map B := by
 subst hm
 rw [List.take_zero, List.nil_append, Nat.zero_add, List.drop_replicate, padTo, List.map_append, List.map_replicate, List.length_take, ← List.map_take, Nat.min_comm z l.length]
 congr 2
 rcases Nat.le_total l.length z with h | h
 · rw [Nat.min_eq_left h, List.take_of_length_le (Nat.le_refl _), List.take_of_length_le h]
 · rw [Nat.min_eq_right h]
theorem drop_step {l : List UInt8} {z i : Nat} : (l.drop (i * z)).drop (Min.min (l.drop (i * z)).length z) = l.drop ((i + 1) * z) := by
 rw [List.drop_drop, Nat.add_mul, Nat.one_mul]
 rcases Nat.le_total (l.drop (i * z)).length z with h | h
 · rw [Nat.min_eq_left h, List.drop_of_length_le, List.drop_of_length_le]
   · simp at h; omega
   · simp at h ⊢; omega
 · rw [Nat.min_eq_right h]
theorem rounds_eq {i z m : Nat} (h1 : m ≤ i * z) (h2 : i * z < m + z) (hz : 0 < z) : (m + z - 1) / z = i := by
 apply Nat.div_eq_of_lt_le
 · omega
 · rw [Nat.add_mul, Nat.one_mul]; omega
theorem pcut_s {W0 w : World} {L : List Asn} {f : HF} {p n k : Nat} (hc : CodeP f p n k) {a : Option Addr} {m cp : Nat} {l : List UInt8} (hb2 : RB f a m cp l) (cnt pc : Nat) (hp1 : 1 ≤ pc) (hp2 : pc ≤ 256) (hm : m ≤ 16384) (hs : Sep W0 w (pool f :: L)) :
 Calls Tryz.prog 280 [ptr p, .agg #[.int .i64 m, .int .i64 cnt, .int .i64 pc], .slice a m cp].toArray w (Ret fun r w' => ∃ f' a' c' vs, r = .tuple #[.slice a' ((m + (k * (k - 1) * pc) - 1) / (k * (k - 1) * pc)) c', .int .i64 0] ∧ FLe f f' ∧ Reads f' 1 (.slice a' ((m + (k * (k - 1) * pc) - 1) / (k * (k - 1) * pc)) c') ((m + (k * (k - 1) * pc) - 1) / (k * (k - 1) * pc)) vs ∧ RR f' vs (cutsZ l (k * (k - 1) * pc) ((m + (k * (k - 1) * pc) - 1) / (k * (k - 1) * pc))) ∧ Sep W0 w' (pool f' :: L)) := by
 obtain ⟨hk, h2k, hn24, hpl, ca, ccp, hp, hb⟩ := id hc
 have hbl := RB.len hb
 have hkk : k * (k - 1) ≤ 6 ∧ 2 ≤ k * (k - 1) := by rcases hk with rfl | rfl <;> decide
 have hkp : (k * (k - 1) * pc) ≤ 6 * 256 := Nat.mul_le_mul (by omega) hp2
 have hkp1 : 1 * 1 ≤ (k * (k - 1) * pc) := Nat.mul_le_mul (by omega) hp1
 have hbl2 := RB.len hb2
 refine enter (args := [(ptr p), (.agg #[(I (m : Int)), (I (cnt : Int)), (I (pc : Int))]), (.slice a m cp)]) (n := 45) (rs := [.tmp 6, .tmp 7]) func280 rfl rfl rfl rfl ?_
 refine rSeq (rReg (oBox hs rfl rfl rfl ?_))
 intro b1 w2 hs3; clear hs
 refine oV (xAssign rfl) rfl (oV (xAssign rfl) rfl (oEnd (kSeq (rSeq (rSeq (rReg (oV (xMove rfl) rfl (oV (xBin (r := .bool false) rfl rfl (fun _ => rfl) (fun w => by kernel_rfl)) rfl (oV (xMove rfl) rfl (oGuardT rfl rfl (oV (xMove rfl) rfl (oGuardT rfl rfl (oV (xB1 rfl (rLenS underlying26)) rfl (oGuardT rfl rfl (oV (xFA (j' := 0) underlying270 rfl sizeOf3 rfl rfl) rfl (oGuardT rfl rfl (oV (xLoad hs3 isAgg3 rfl (i := 0) rfl rfl) rfl (oGuardT rfl rfl (oV (xCmp rfl rfl rNeq) rfl (oV (xPickF rfl rfl) rfl (oV (xMove rfl) rfl ?_)))))))))))))))))))))
 refine oCase (d := 21) rfl (fun hg4 => ?_) (fun hg4 => ?_)
 · replace hg4 := of_decide_eq_true hg4
   refine oGuardF rfl rfl rfl rfl (oGuardF rfl rfl rfl rfl (oGuardF rfl rfl rfl rfl (oV (xPickT rfl rfl) rfl (oEnd (kSeq (rCondT rfl (rSeq (rReg (oV (xAssign rfl) rfl (oV (xAssign rfl) rfl (oEnd (kSeq (rRet (kSeqR (kFin (.tmp rfl (.tmp rfl (.nil))) ?_)))))))))))))))
   exfalso; omega
 · replace hg4 := of_decide_eq_false hg4
   refine oGuardT rfl rfl (oV (xFA (j' := 2) underlying270 rfl sizeOf3 rfl rfl) rfl (oGuardT rfl rfl (oV (xLoad hs3 isAgg3 rfl (i := 0) rfl rfl) rfl (oGuardT rfl rfl (oV (xCmp rfl rfl rLss) rfl (oV (xPickF rfl rfl) rfl (oEnd (kSeq ?_))))))))
   refine rCondD rfl (fun hc5 => ?_) (fun hc5 => ?_)
   · refine rSeq (rReg (oV (xAssign rfl) rfl (oV (xAssign rfl) rfl (oEnd (kSeq (rRet (kSeqR (kFin (.tmp rfl (.tmp rfl (.nil))) ?_))))))))
     exfalso; omega
   · refine rSkip (kSeq (rSeq (rReg (oV (xLoadG hs3 isAgg270 sizeOf270 rfl (i := 0) rfl rfl) rfl (oV (xMove rfl) rfl ?_)))))
     replace hs3 := hs3.f1
     refine oCall call286 rfl rfl (pmsg_s hc m cnt pc (by omega) hs3) ?_
     rintro _ w6 ⟨rfl, hs7⟩; clear hs3
     refine oV (xAssign rfl) rfl (oEnd (kSeq (rSeq (rReg (oV (xAssign rfl) rfl (oEnd (kSeq (rSeq (rBlk ?_)))))))))
     replace hs7 := Sep.nil 26 1 hs7
     generalize hzd : (k * (k - 1) * pc) = z at *
     replace hs7 := hs7.d2
     refine rLoop (fun mz e w => ∃ (i : Nat) (ab : Option Addr) (kb : Nat) (cb : Nat) (ao : Option Addr) (co : Nat) (vso : List Value) (f8 : HF), kb = mz ∧ e = [(2, (.slice ab kb cb)), (8, (I (z : Int))), (9, (.slice ao i co))] ∧ (RB f8 ab kb cb (l.drop (i * z))) ∧ (kb = m - i * z) ∧ (i * z < m + z) ∧ (RR f8 vso (cutsZ l z i)) ∧ (FLe f f8) ∧ Sep W0 w (own 26 1 (.slice ao i co) i vso :: pool f8 :: L)) ⟨_, _, ⟨0, _, _, _, _, _, [], f, rfl, rfl, (by rw [Nat.zero_mul]; exact hb2), (by omega), (by omega), (RR.nil), (FLe.refl _), hs7⟩, ⟨rfl, rfl, rfl, trivial⟩⟩ ?_
     clear hs7; rintro mz e w ⟨i, ab, kb, cb, ao, co, vso, f8, rfl, rfl, hbb, hkb, hlt, hro, hle9, hs⟩
     have hiz : i ≤ i * z := Nat.le_mul_of_pos_right i (by omega)
     refine rSeq (rSeq (rReg (oV (xMove rfl) rfl (oV (xB1 rfl (rLenS underlying26)) rfl (oV (xCmp rfl rfl rGtr) rfl (oEnd (kSeq ?_)))))))
     refine rCondD rfl (fun hc10 => ?_) (fun hc10 => ?_)
     · refine rSkip (kSeq (rBlk (rSeq (rReg (oV (xMove rfl) rfl (oMake (k := z) (c := z) (size := 1) (bytes := 1) (inf := Tryz.t5) hs underlying26 (by kernel_rfl) rfl rfl rfl rfl rfl (by omega) (by omega) (by omega) (by omega) (by omega) rfl ?_))))))
       intro b11 w12 hs13; clear hs
       rw [made1 (.int .u8 0) rfl] at hs13
       refine oV (xAssign rfl) rfl (oEnd (kSeq (rSeq (rReg (oV (xMove rfl) rfl (oV (xMove rfl) rfl (oCopyM (m := (Min.min kb z)) (s := kb) (off := 0) (dLen := z) (dCap := z) (k := z) hs13 (i := 0) rfl underlying26 (by kernel_rfl) rfl (fun _ => rfl) rfl (Reads.src hbb hs13 (i := 2) rfl (oneB _)) rfl (by omega) rfl ?_)))))))
       intro w14 hs15; clear hs13; dsimp only [List.set] at hs15
       refine oV (xAssign rfl) rfl (oEnd (kSeq (rSeq (rReg (oV (xMove rfl) rfl (oV (xMove rfl) rfl ?_))))))
       obtain ⟨a16, k17, cp18, hb19, hk20, hx21⟩ := RB.slice_lo (P := Tryz.prog) (t := 26) (lo := (Min.min kb z)) hbb underlying26 sizeOf5 (Bd.some (k := .i64) (i := (((Min.min kb z) : Nat) : Int)) (by omega)) (by omega)
       have hl22 := RB.len hb19
       refine oV (xSlice rfl rfl rfl hx21) rfl (oV (xAssign rfl) rfl (oEnd (kSeq (rReg (oV (xMove rfl) rfl (oV (xMove rfl) rfl (oBuildSlice (el := 26) (cs := [(.slice (some ⟨b11, 0, none⟩) z z)]) hs15 rfl (fun w => by kernel_rfl) rfl ?_)))))))
       intro b23 w24 hs25; clear hs15
       refine oAppend (inf := Tryz.t26) (size := 1) (bytes := 24) hs25 (i := 2) rfl underlying22 (by kernel_rfl) rfl rfl rfl rfl rfl rfl rfl (src_row hs25 (i := 0) rfl rfl rfl) (by first | omega | (simp only [List.length_append, List.length_cons, List.length_nil, List.length_map]; omega)) (by first | omega | (simp only [List.length_append, List.length_cons, List.length_nil, List.length_map]; omega)) rfl ?_
       intro a26 c27 w28 hs29; clear hs25; dsimp only [List.set] at hs29
       refine oV (xAssign rfl) rfl ?_
       replace hs29 := hs29.f1
       replace hs29 := hs29.f3
       have hll : (l.drop (i * z)).length = kb := RB.len hbb
       rw [cut_pad (l := l.drop (i * z)) (by rw [hll])] at hs29
       obtain ⟨f30, hle31, hv32, hs33⟩ := Sep.freezeOwn (i := 0) hs29 rfl; clear hs29; dsimp only [List.eraseIdx] at hs33
       replace hbb := hbb.mono hle31
       replace hro := hro.mono hle31
       replace hb19 := hb19.mono hle31
       have hbn := hb19
       rw [show (Min.min kb z) = Min.min (l.drop (i * z)).length z by rw [hll], drop_step] at hbn
       have hi1 : (i + 1) * z = i * z + z := by rw [Nat.add_mul, Nat.one_mul]
       replace hs33 := hs33.d1
       replace hs33 := hs33.f1
       exact oEnd (kBlk (kLoop (k17) _ (by omega) ⟨i + 1, a16, k17, cp18, _, _, _, f30, rfl, rfl, (hbn), (by omega), (by omega), (RR.snoc hro hv32), (FLe.trans hle9 hle31), hs33⟩ ⟨rfl, rfl, rfl, trivial⟩))
     · refine rExit (kSeqX (kLoopX (kBlkH (kSeq (rSeq (rReg (oV (xMove rfl) rfl (oV (xAssign rfl) rfl (oV (xAssign rfl) rfl (oEnd (kSeq (rRet (kFin (.tmp rfl (.tmp rfl (.nil))) ?_)))))))))))))
       replace hs := hs.f1
       have hre := rounds_eq (i := i) (z := z) (m := m) (by omega) (by omega) (by omega)
       rw [hre]
       obtain ⟨f2, hle2, hv2, hs2⟩ := Sep.freezeOwn (i := 0) hs rfl
       exact ⟨f2, _, _, _, rfl, FLe.trans hle9 hle2, hv2, hro.mono hle2, hs2⟩
end Go.Sl
namespace Go.Sl
open Go.Proofs Go.Proofs.Tryz
theorem xSlice3 {P : Program} {n : Nat} {e : Env} {w : World} {d : Nat} {t : TypeId} {x h m : Operand} {xv v hv mv : Value} {ty : TypeId} {pos : String} {af : Array Edge} (hx : e.ev x = some xv) (hh : e.ev h = some hv) (hm : e.ev m = some mv)
   (hr : ∀ w, Sem.run P (Instr.sliceAt t xv .none (some hv) (some mv)) w = .ok v w) : Xq P n e w d (.slice t x .none (some h) (some m)) ty pos af v := fun a ha => by
 simp only [execOp, ha.ev hx, ha.ev hh, ha.ev hm, Option.map_none, Option.map_some, Sem.run_bind, hr, Result.andThen_ok, Sem.run_pure]
theorem RB.slice3 {P : Program} {f : HF} {t : TypeId} {a : Option Addr} {k cp hi : Nat} {l : List UInt8} {i : Int} (hr : RB f a k cp l) (hu : P.underlying t = some (.slice 5)) (hsz : ∀ w, Sem.run P (sizeOf 5) w = .ok 1 w) (hi' : i = (hi : Int)) (h2 : hi ≤ k) :
   ∃ a', RB f a' hi hi (l.take hi) ∧ ∀ w, Sem.run P (Instr.sliceAt t (.slice a k cp) .none (some (I i)) (some (I i))) w = .ok (.slice a' hi hi) w := by
 subst hi'
 have hcap := hr.cap
 have hlen := hr.len
 refine ⟨if hi = 0 then a else a.map (·.add 0), ?_, fun w => ?_⟩
 · obtain ⟨h3, h4⟩ := hr
   refine ⟨by simp; omega, ?_⟩
   by_cases h0 : hi = 0
   · subst h0; exact .inr ⟨_, _, rfl, rfl⟩
   · rcases h4 with ⟨b, off, cap, c, ty, fr, he, hnc, hb, hc⟩ | ⟨a', cap, he, h0'⟩
     · simp at he
       obtain ⟨rfl, rfl⟩ := he
       refine .inl ⟨b, off, hi, c, ty, fr, ?_, Nat.le_refl _, hb, fun j u hj => hc j u ?_⟩
       · rw [if_neg h0]; simp [add_lit]
       · rw [List.map_take, List.getElem?_take] at hj
         split at hj
         · exact hj
         · cases hj
     · omega
 · simp [Instr.sliceAt, run_underlying hu, Instr.slice, Instr.sliceBounds, Instr.sliceBound, asIntOf, hsz]
   intro h; omega
theorem pjoin_s {W0 w : World} {L : List Asn} {f : HF} {p n k : Nat} (hc : CodeP f p n k) {a : Option Addr} {cnt cp : Nat} {vs : List Value} {ls : LL} (hv : Reads f 1 (.slice a cnt cp) cnt vs) (hr : RR f vs ls) (len pc : Nat) (hp2 : pc ≤ 256) (hcn : cnt ≤ 32) (hall : ∀ x ∈ ls, x.length = (k * (k - 1) * pc)) (hlen : len ≤ cnt * (k * (k - 1) * pc)) (hs : Sep W0 w (pool f :: L)) :
 Calls Tryz.prog 222 [ptr p, .agg #[.int .i64 len, .int .i64 cnt, .int .i64 pc], .slice a cnt cp].toArray w (Ret fun r w' => ∃ f' a', r = .tuple #[.slice a' len len, .int .i64 0] ∧ FLe f f' ∧ RB f' a' len len (ls.flatten.take len) ∧ Sep W0 w' (pool f' :: L)) := by
 obtain ⟨hk, h2k, hn24, hpl, ca, ccp, hp, hb⟩ := id hc
 have hbl := RB.len hb
 have hkk : k * (k - 1) ≤ 6 ∧ 2 ≤ k * (k - 1) := by rcases hk with rfl | rfl <;> decide
 have hkp : (k * (k - 1) * pc) ≤ 6 * 256 := Nat.mul_le_mul (by omega) hp2
 have hkc : cnt * (k * (k - 1) * pc) ≤ 32 * (6 * 256) := Nat.mul_le_mul hcn hkp
 have hln : ls.length = cnt := by have := hr.len; have := hv.1; omega
 have hc2 : ∀ j, j < cnt → (ls.getD j []).length = (k * (k - 1) * pc) := fun j hj => (Shape.at ⟨hln, hall⟩ hj)
 refine enter (args := [(ptr p), (.agg #[(I (len : Int)), (I (cnt : Int)), (I (pc : Int))]), (.slice a cnt cp)]) (n := 52) (rs := [.tmp 6, .tmp 7]) func222 rfl rfl rfl rfl ?_
 refine rSeq (rReg (oBox hs rfl rfl rfl ?_))
 intro b1 w2 hs3; clear hs
 refine oV (xAssign rfl) rfl (oV (xAssign rfl) rfl (oEnd (kSeq (rSeq (rSeq (rReg (oV (xMove rfl) rfl (oV (xBin (r := .bool false) rfl rfl (fun _ => rfl) (fun w => by kernel_rfl)) rfl (oV (xMove rfl) rfl (oGuardT rfl rfl (oV (xMove rfl) rfl (oGuardT rfl rfl (oV (xB1 rfl (rLenS underlying22)) rfl (oGuardT rfl rfl (oV (xFA (j' := 1) underlying270 rfl sizeOf3 rfl rfl) rfl (oGuardT rfl rfl (oV (xLoad hs3 isAgg3 rfl (i := 0) rfl rfl) rfl (oGuardT rfl rfl (oV (xCmp rfl rfl rNeq) rfl (oV (xPickF rfl rfl) rfl (oEnd (kSeq ?_))))))))))))))))))))))
 refine rCondD rfl (fun hc4 => ?_) (fun hc4 => ?_)
 · refine rSeq (rReg (oV (xAssign rfl) rfl (oV (xAssign rfl) rfl (oEnd (kSeq (rRet (kSeqR (kFin (.tmp rfl (.tmp rfl (.nil))) ?_))))))))
   exfalso
   first
     | omega
     | (obtain rfl : i = cnt := by omega
        omega)
 · refine rSkip (kSeq (rSeq (rReg (oV (xAssign rfl) rfl (oEnd (kSeq (rSeq (rSeq (rReg (oV (xMove rfl) rfl (oV (xB1 rfl (rLenS underlying22)) rfl (oV (xMove rfl) rfl (oEnd (kSeq (rBlk ?_)))))))))))))))
   replace hs3 := Sep.nil 5 1 hs3
   refine rLoop (fun mz e w => ∃ (i : Nat) (ao : Option Addr) (co : Nat), cnt - i = mz ∧ e = [(0, (ptr p)), (4, (ptr b1)), (8, (.slice ao (i * (k * (k - 1) * pc)) co)), (20, (.slice a cnt cp)), (21, (I (cnt : Int))), (22, (I (i : Int)))] ∧ (i ≤ cnt) ∧ Sep W0 w (own 5 1 (.slice ao (i * (k * (k - 1) * pc)) co) (i * (k * (k - 1) * pc)) (((ls.take i).flatten).map B) :: row b1 270 [(I (len : Int)), (I (cnt : Int)), (I (pc : Int))] :: pool f :: L)) ⟨_, _, ⟨0, _, _, rfl, rfl, (by omega), by rw [Nat.zero_mul]; exact hs3⟩, ⟨rfl, rfl, by rw [Nat.zero_mul]; rfl, rfl, rfl, rfl, trivial⟩⟩ ?_
   clear hs3; rintro mz e w ⟨i, ao, co, rfl, rfl, hi, hs⟩
   refine rSeq (rReg (oV (xCmp rfl rfl rLss) rfl (oEnd (kSeq (rSeq ?_)))))
   refine rCondD rfl (fun hc5 => ?_) (fun hc5 => ?_)
   · have hci := hc2 i (by omega)
     have hiz1 : (i + 1) * (k * (k - 1) * pc) ≤ cnt * (k * (k - 1) * pc) := Nat.mul_le_mul_right _ (by omega)
     have hiz2 : (i + 1) * (k * (k - 1) * pc) = i * (k * (k - 1) * pc) + (k * (k - 1) * pc) := by rw [Nat.add_mul, Nat.one_mul]
     refine rSkip (kSeq (rSeq (rBlk (rSeq (rReg ?_)))))
     obtain ⟨b6, off7, rfl⟩ := Reads.at hv (by omega)
     refine oV (xIA (o' := off7 + i) underlying22 sizeOf26 rfl rfl (by omega) (by omega) (by omega)) rfl ?_
     obtain ⟨a8, k9, cp10, he11, hb12⟩ := RR.get hr i (by omega)
     have hl13 := RB.len hb12
     refine oV (xLoadC isAgg26 rfl (Reads.cell hv hs (i := 2) rfl he11)) rfl (oV (xAssign rfl) rfl (oEnd (kSeq (rSeq (rSeq (rReg (oV (xMove rfl) rfl (oV (xB1 rfl (rLenS underlying26)) rfl (oV (xLoadG hs isAgg270 sizeOf270 rfl (i := 1) rfl rfl) rfl (oV (xMove rfl) rfl ?_))))))))))
     replace hs := hs.f2
     refine oCall call286 rfl rfl (pmsg_s hc len cnt pc (by omega) hs) ?_
     rintro _ w14 ⟨rfl, hs15⟩; clear hs
     refine oV (xCmp rfl rfl rNeq) rfl (oEnd (kSeq ?_))
     refine rCondD rfl (fun hc16 => ?_) (fun hc16 => ?_)
     · refine rSeq (rReg (oV (xAssign rfl) rfl (oV (xAssign rfl) rfl (oEnd (kSeq (rRet (kSeqR (kBlkR (kSeqR (kLoopR (kBlkR (kSeqR (kFin (.tmp rfl (.tmp rfl (.nil))) ?_)))))))))))))
       exfalso
       first
         | omega
         | (obtain rfl : i = cnt := by omega
            omega)
     · refine rSkip (kSeq (rReg ?_))
       have hiz : (i + 1) * (k * (k - 1) * pc) = i * (k * (k - 1) * pc) + k9 := by omega
       refine oV (xMove rfl) rfl (oV (xMove rfl) rfl (oAppend (inf := Tryz.t5) (size := 1) (bytes := 1) hs15 (i := 1) rfl underlying26 (by kernel_rfl) rfl rfl rfl rfl rfl rfl rfl (Reads.src hb12 hs15 (i := 0) rfl (oneB _)) (by first | omega | (simp only [List.length_append, List.length_cons, List.length_nil, List.length_map]; omega)) (by first | omega | (simp only [List.length_append, List.length_cons, List.length_nil, List.length_map]; omega)) rfl ?_))
       intro a17 c18 w19 hs20; clear hs15; dsimp only [List.set] at hs20
       refine oV (xAssign rfl) rfl (oEnd (kBlk (kSeq (rReg (oV (xAr rfl rfl (rAdd (wI (by omega) (by omega)))) rfl (oV (xMove rfl) rfl ?_))))))
       replace hs20 := hs20.f2
       replace hs20 := hs20.f2
       have eF : (ls.take (i + 1)).flatten = (ls.take i).flatten ++ ls.getD i [] := by rw [← take_snoc [] (by omega), List.flatten_append, List.flatten_singleton]
       exact oEnd (kLoop (cnt - (i + 1)) _ (by omega) ⟨i + 1, _, _, rfl, rfl, (by omega), by rw [eF, List.map_append, hiz]; exact hs20⟩ ⟨rfl, rfl, by rw [hiz]; rfl, rfl, rfl, rfl, trivial⟩)
   · refine rExit (kSeqX (kLoopX (kBlkH (kSeq (rSeq (rSeq (rReg (oV (xFA (j' := 0) underlying270 rfl sizeOf3 rfl rfl) rfl (oV (xLoad hs isAgg3 rfl (i := 1) rfl rfl) rfl (oV (xCmp rfl rfl rLss) rfl (oV (xMove rfl) rfl ?_)))))))))))
     refine oCase (d := 39) rfl (fun hg21 => ?_) (fun hg21 => ?_)
     · replace hg21 := of_decide_eq_true hg21
       refine oGuardF rfl rfl rfl rfl (oGuardF rfl rfl rfl rfl (oGuardF rfl rfl rfl rfl (oGuardF rfl rfl rfl rfl (oGuardF rfl rfl rfl rfl (oV (xPickT rfl rfl) rfl (oEnd (kSeq (rCondT rfl (rSeq (rReg (oV (xAssign rfl) rfl (oV (xAssign rfl) rfl (oEnd (kSeq (rRet (kSeqR (kFin (.tmp rfl (.tmp rfl (.nil))) ?_)))))))))))))))))
       exfalso
       first
         | omega
         | (obtain rfl : i = cnt := by omega
            omega)
     · replace hg21 := of_decide_eq_false hg21
       refine oGuardT rfl rfl (oV (xMove rfl) rfl (oGuardT rfl rfl (oV (xB1 rfl (rLenS underlying26)) rfl (oGuardT rfl rfl (oV (xFA (j' := 0) underlying270 rfl sizeOf3 rfl rfl) rfl (oGuardT rfl rfl (oV (xLoad hs isAgg3 rfl (i := 1) rfl rfl) rfl (oGuardT rfl rfl (oV (xCmp rfl rfl rLss) rfl (oV (xPickF rfl rfl) rfl (oEnd (kSeq ?_))))))))))))
       refine rCondD rfl (fun hc22 => ?_) (fun hc22 => ?_)
       · refine rSeq (rReg (oV (xAssign rfl) rfl (oV (xAssign rfl) rfl (oEnd (kSeq (rRet (kSeqR (kFin (.tmp rfl (.tmp rfl (.nil))) ?_))))))))
         exfalso
         first
           | omega
           | (obtain rfl : i = cnt := by omega
              omega)
       · refine rSkip (kSeq (rSeq (rReg ?_)))
         obtain rfl : i = cnt := by omega
         rw [List.take_of_length_le (by omega)] at hs
         replace hs := hs.f2
         obtain ⟨f23, hle24, hv25, hs26⟩ := Sep.freezeOwn (i := 0) hs rfl; clear hs; dsimp only [List.eraseIdx] at hs26
         replace hc := hc.mono hle24
         replace hv := hv.mono hle24
         replace hr := hr.mono hle24
         replace hp := hp.mono hle24
         refine oV (xMove rfl) rfl (oV (xFA (j' := 0) underlying270 rfl sizeOf3 rfl rfl) rfl (oV (xLoad hs26 isAgg3 rfl (i := 1) rfl rfl) rfl (oV (xFA (j' := 0) underlying270 rfl sizeOf3 rfl rfl) rfl (oV (xLoad hs26 isAgg3 rfl (i := 1) rfl rfl) rfl ?_))))
         obtain ⟨a27, hb28, hx29⟩ := RB.slice3 (P := Tryz.prog) (t := 26) (hi := len) (i := (len : Int)) hv25 underlying26 sizeOf5 rfl (by omega)
         refine oV (xSlice3 rfl rfl rfl hx29) rfl ?_
         refine oV (xAssign rfl) rfl (oV (xAssign rfl) rfl (oEnd (kSeq (rRet (kFin (.tmp rfl (.tmp rfl (.nil))) ?_)))))
         replace hs26 := hs26.d1
         exact ⟨_, _, rfl, hle24, hb28, hs26⟩
end Go.Sl
namespace Go.Sl
open Go.Proofs Go.Proofs.Tryz
structure RRR (f : HF) (vs : List Value) (lls : List LL) : Prop where
 len : vs.length = lls.length
 get : ∀ j, j < lls.length → ∃ a k cp us, vs[j]? = some (.slice a k cp) ∧ Reads f 1 (.slice a k cp) k us ∧ RR f us (lls.getD j [])
theorem RRR.mono {f f' : HF} {vs : List Value} {lls : List LL} (h : RRR f vs lls) (hf : FLe f f') : RRR f' vs lls :=
 ⟨h.len, fun j hj => let ⟨a, k, cp, us, h1, h2, h3⟩ := h.get j hj; ⟨a, k, cp, us, h1, h2.mono hf, h3.mono hf⟩⟩
theorem RRR.nil {f : HF} : RRR f [] [] := ⟨rfl, fun j hj => by simp at hj⟩
theorem RRR.snoc {f : HF} {vs us : List Value} {lls : List LL} {a : Option Addr} {k cp : Nat} {ls : LL} (h : RRR f vs lls) (h1 : Reads f 1 (.slice a k cp) k us) (h2 : RR f us ls) : RRR f (vs ++ [.slice a k cp]) (lls ++ [ls]) := by
 refine ⟨by simp [h.len], fun j hj => ?_⟩
 by_cases hj2 : j < lls.length
 · obtain ⟨a', k', cp', us', h3, h4, h5⟩ := h.get j hj2
   refine ⟨a', k', cp', us', ?_, h4, ?_⟩
   · rw [List.getElem?_append_left (by rw [h.len]; exact hj2)]; exact h3
   · rw [List.getD_eq_getElem?_getD, List.getElem?_append_left hj2, ← List.getD_eq_getElem?_getD]; exact h5
 · simp at hj
   obtain rfl : j = lls.length := by omega
   refine ⟨a, k, cp, us, ?_, h1, ?_⟩
   · rw [List.getElem?_append_right (by rw [h.len]; exact Nat.le_refl _), h.len]; simp
   · rw [List.getD_eq_getElem?_getD, List.getElem?_append_right (Nat.le_refl _)]; simpa using h2
theorem RRR.one {f : HF} {vs : List Value} {lls : List LL} (h : RRR f vs lls) : ∀ u ∈ vs, u.oneCell' = true := by
 intro u hu
 obtain ⟨i, hi, rfl⟩ := List.getElem_of_mem hu
 obtain ⟨a, k, cp, us, h1, _⟩ := h.get i (by rw [← h.len]; exact hi)
 rw [List.getElem?_eq_getElem hi] at h1
 simp at h1; rw [h1]; rfl
theorem planPc_ok {k piece len : Nat} (hk : k = 2 ∨ k = 3) (h1 : 1 ≤ piece) (h2 : piece ≤ 256) : 1 ≤ planPc k piece len ∧ planPc k piece len ≤ 256 := by
 unfold planPc
 split
 · rename_i h
   have hkk : 2 ≤ k * (k - 1) ∧ k * (k - 1) ≤ 6 := by rcases hk with rfl | rfl <;> decide
   generalize k * (k - 1) = s at *
   constructor
   · exact (Nat.le_div_iff_mul_le (by omega)).2 (by omega)
   · have h3 : s * piece ≤ s * 256 := Nat.mul_le_mul_left _ h2
     have h4 : (len + s - 1) / s < 257 := Nat.div_lt_of_lt_mul (by rw [show s * 257 = s * 256 + s by rw [Nat.mul_succ]]; omega)
     omega
 · exact ⟨h1, h2⟩
theorem planCnt_eq {k piece len : Nat} (hk : k = 2 ∨ k = 3) (h1 : 1 ≤ piece) : (len + k * (k - 1) * planPc k piece len - 1) / (k * (k - 1) * planPc k piece len) = planCnt k piece len := by
 unfold planPc planCnt
 split
 · rename_i h
   have hkk : 2 ≤ k * (k - 1) ∧ k * (k - 1) ≤ 6 := by rcases hk with rfl | rfl <;> decide
   generalize k * (k - 1) = s at *
   obtain ⟨h2, h3⟩ := h
   have h4 := Nat.div_add_mod (len + s - 1) s
   have h5 := Nat.mod_lt (len + s - 1) (show s > 0 by omega)
   generalize (len + s - 1) / s = q at *
   generalize (len + s - 1) % s = r at *
   have e1 : (len + s * q - 1) / (s * q) = 1 := by
     apply Nat.div_eq_of_lt_le
     · omega
     · omega
   have e2 : (len + s * piece - 1) / (s * piece) = 1 := by
     apply Nat.div_eq_of_lt_le
     · omega
     · omega
   rw [e1, e2]
 · rfl
def encsUp (n k : Nat) (l : List UInt8) (z : Nat) : Nat → List LL
 | 0 => []
 | i + 1 => encsUp n k l z i ++ [encF n k (cutZ l z i)]
theorem cutsZ_at {l : List UInt8} {z : Nat} : ∀ {t i : Nat}, i < t → (cutsZ l z t).getD i [] = cutZ l z i
 | 0, _, h => by omega
 | t + 1, i, h => by
   simp only [cutsZ, List.getD_eq_getElem?_getD]
   by_cases hi : i < t
   · rw [List.getElem?_append_left (by rw [cutsZ_length]; exact hi)]
     have := cutsZ_at (l := l) (z := z) hi
     rwa [List.getD_eq_getElem?_getD] at this
   · obtain rfl : i = t := by omega
     rw [List.getElem?_append_right (by rw [cutsZ_length]; exact Nat.le_refl _), cutsZ_length]; simp
theorem pspread_s {W0 w : World} {L : List Asn} {f : HF} {p n k : Nat} (hc : CodeP f p n k) {a : Option Addr} {m cp : Nat} {l : List UInt8} (hb2 : RB f a m cp l) (piece : Nat) (hp1 : 1 ≤ piece) (hp2 : piece ≤ 256) (hm : m ≤ 16384) (hcnt : planCnt k piece m ≤ 32) (hs : Sep W0 w (pool f :: L)) :
 Calls Tryz.prog 214 [ptr p, .int .i64 piece, .slice a m cp].toArray w (Ret fun r w' => ∃ f' a' c' vs, r = .tuple #[.agg #[I (m : Int), I (((planCnt k piece m) : Nat) : Int), I (((planPc k piece m) : Nat) : Int)], .slice a' (planCnt k piece m) c', .int .i64 0] ∧ FLe f f' ∧ Reads f' 1 (.slice a' (planCnt k piece m) c') (planCnt k piece m) vs ∧ RRR f' vs (encsUp n k l (k * (k - 1) * (planPc k piece m)) (planCnt k piece m)) ∧ Sep W0 w' (pool f' :: L)) := by
 obtain ⟨hk, h2k, hn24, hpl, ca, ccp, hp, hb⟩ := id hc
 have hbl := RB.len hb
 have hpo := planPc_ok (len := m) hk hp1 hp2
 have hce := planCnt_eq (len := m) hk hp1
 have hbl2 := RB.len hb2
 refine enter (args := [(ptr p), (I (piece : Int)), (.slice a m cp)]) (n := 60) (rs := [.cell 6 270, .tmp 7, .tmp 8]) func214 rfl rfl rfl rfl ?_
 refine rSeq (rReg (oAlloc hs zeroValue270 rfl rfl ?_))
 intro b1 w2 hs3; clear hs
 refine oV (xAssign rfl) rfl (oV (xAssign rfl) rfl (oEnd (kSeq (rSeq (rReg (oV (xMove rfl) rfl (oV (xMove rfl) rfl (oV (xB1 rfl (rLenS underlying26)) rfl (oV (xMove rfl) rfl ?_)))))))))
 replace hs3 := hs3.f1
 refine oCall call279 rfl rfl (pof_s hc m piece (by omega) (by omega) (by omega) (by omega) hs3) ?_
 rintro _ w4 ⟨rfl, hs5⟩; clear hs3
 refine oV (xMove rfl) rfl (oV (xExtract rfl rfl) rfl (oV (xExtract rfl rfl) rfl (oAlloc hs5 zeroValue270 rfl rfl ?_)))
 intro b6 w7 hs8; clear hs5
 refine oStoreG hs8 sizeOf270 rfl rfl rfl rfl (i := 0) rfl rfl ?_
 intro w9 hs10; clear hs8; dsimp only [List.set, putAt] at hs10
 refine oV (xAssign rfl) rfl (oEnd (kSeq (rSeq (rSeq (rReg (oV (xMove rfl) rfl (oV (xCmp (r := false) rfl rfl rNeq) rfl (oEnd (kSeq (rCondF rfl (rSkip (kSeq (rSeq (rReg (oV (xMove rfl) rfl (oV (xLoadG hs10 isAgg270 sizeOf270 rfl (i := 0) rfl rfl) rfl (oV (xMove rfl) rfl ?_)))))))))))))))))
 replace hs10 := hs10.f1
 refine oCall call280 rfl rfl (pcut_s hc hb2 (planCnt k piece m) (planPc k piece m) (by omega) (by omega) (by omega) hs10) ?_
 rintro _ w18 ⟨f11, a12, c13, vs14, rfl, hle15, hv16, hr17, hs19⟩; clear hs10
 rw [hce] at hv16 hr17; rw [hce]
 replace hc := hc.mono hle15
 replace hb2 := hb2.mono hle15
 replace hp := hp.mono hle15
 refine oV (xMove rfl) rfl (oV (xExtract rfl rfl) rfl (oV (xExtract rfl rfl) rfl (oV (xAssign rfl) rfl (oV (xAssign rfl) rfl (oEnd (kSeq (rSeq (rReg (oV (xAssign rfl) rfl (oEnd (kSeq (rSeq (rSeq (rReg (oV (xMove rfl) rfl (oV (xB1 rfl (rLenS underlying22)) rfl (oV (xMove rfl) rfl (oEnd (kSeq (rBlk ?_))))))))))))))))))))
 replace hs19 := Sep.nil 22 1 hs19
 replace hs19 := hs19.f1
 replace hs19 := hs19.f3
 replace hs19 := hs19.f3
 replace hs19 := hs19.f3
 refine rLoop (fun mz e w => ∃ (i : Nat) (ao : Option Addr) (co : Nat) (vso : List Value) (f20 : HF), (planCnt k piece m) - i = mz ∧ e = [(0, (ptr p)), (6, (ptr b1)), (9, (ptr b6)), (13, (.slice ao i co)), (37, (.slice a12 (planCnt k piece m) c13)), (38, (I ((planCnt k piece m) : Int))), (39, (I (i : Int)))] ∧ (i ≤ (planCnt k piece m)) ∧ (RRR f20 vso (encsUp n k l (k * (k - 1) * (planPc k piece m)) i)) ∧ (FLe f11 f20) ∧ (CodeP f20 p n k) ∧ (Reads f20 1 (.slice a12 (planCnt k piece m) c13) (planCnt k piece m) vs14) ∧ (RR f20 vs14 (cutsZ l (k * (k - 1) * (planPc k piece m)) (planCnt k piece m))) ∧ Sep W0 w (own 22 1 (.slice ao i co) i vso :: row b6 270 [(I (m : Int)), (I ((planCnt k piece m : Nat) : Int)), (I ((planPc k piece m : Nat) : Int))] :: row b1 270 [(I 0), (I 0), (I 0)] :: pool f20 :: L)) ⟨_, _, ⟨0, _, _, [], f11, rfl, rfl, (by omega), (RRR.nil), (FLe.refl _), (hc), (hv16), (hr17), hs19⟩, ⟨rfl, rfl, rfl, rfl, rfl, rfl, rfl, trivial⟩⟩ ?_
 clear hs19; rintro mz e w ⟨i, ao, co, vso, f20, rfl, rfl, hi, hro, hle21, hc, hv16, hr17, hs⟩
 refine rSeq (rReg (oV (xCmp rfl rfl rLss) rfl (oEnd (kSeq (rSeq ?_)))))
 refine rCondD rfl (fun hc22 => ?_) (fun hc22 => ?_)
 · have hzl := cutsZ_length l (k * (k - 1) * (planPc k piece m)) (planCnt k piece m); have hzz0 : ((cutsZ l (k * (k - 1) * (planPc k piece m)) (planCnt k piece m)).getD i []).length = (k * (k - 1) * (planPc k piece m)) := by rw [cutsZ_at (by omega)]; exact cutZ_length _ _ _
   refine rSkip (kSeq (rSeq (rBlk (rSeq (rReg ?_)))))
   obtain ⟨b23, off24, rfl⟩ := Reads.at hv16 (by omega)
   refine oV (xIA (o' := off24 + i) underlying22 sizeOf26 rfl rfl (by omega) (by omega) (by omega)) rfl ?_
   obtain ⟨a25, k26, cp27, he28, hb29⟩ := RR.get hr17 i (by omega)
   have hl30 := RB.len hb29
   refine oV (xLoadC isAgg26 rfl (Reads.cell hv16 hs (i := 3) rfl he28)) rfl (oV (xAssign rfl) rfl (oEnd (kSeq (rSeq (rReg (oV (xMove rfl) rfl (oV (xMove rfl) rfl ?_)))))))
   replace hs := hs.f3
   refine oCall call48 rfl rfl (cenc_s hc hb29 (planPc k piece m) (by omega) (by omega) (by omega) hs) ?_
   rintro _ w38 ⟨f31, a32, c33, vs34, rfl, hle35, hv36, hr37, hs39⟩; clear hs
   replace hc := hc.mono hle35
   replace hv16 := hv16.mono hle35
   replace hr17 := hr17.mono hle35
   replace hro := hro.mono hle35
   replace hb29 := hb29.mono hle35
   refine oV (xMove rfl) rfl (oV (xExtract rfl rfl) rfl (oV (xExtract rfl rfl) rfl (oV (xAssign rfl) rfl (oV (xAssign rfl) rfl (oEnd (kSeq (rSeq (rSeq (rReg (oV (xMove rfl) rfl (oV (xCmp (r := false) rfl rfl rNeq) rfl (oEnd (kSeq (rCondF rfl (rSkip (kSeq (rReg (oV (xMove rfl) rfl (oV (xMove rfl) rfl (oBuildSlice (el := 22) (cs := [(.slice a32 n c33)]) hs39 rfl (fun w => by kernel_rfl) rfl ?_))))))))))))))))))))
   intro b40 w41 hs42; clear hs39
   refine oAppend (inf := Tryz.t22) (size := 1) (bytes := 24) hs42 (i := 2) rfl underlying246 (by kernel_rfl) rfl rfl rfl rfl rfl rfl rfl (src_row hs42 (i := 0) rfl rfl rfl) (by first | omega | (simp only [List.length_append, List.length_cons, List.length_nil, List.length_map]; omega)) (by first | omega | (simp only [List.length_append, List.length_cons, List.length_nil, List.length_map]; omega)) rfl ?_
   intro a43 c44 w45 hs46; clear hs42; dsimp only [List.set] at hs46
   refine oV (xAssign rfl) rfl (oEnd (kBlk (kSeq (rReg (oV (xAr rfl rfl (rAdd (wI (by omega) (by omega)))) rfl (oV (xMove rfl) rfl ?_))))))
   have hzz := cutsZ_at (l := l) (z := (k * (k - 1) * (planPc k piece m))) (t := (planCnt k piece m)) (i := i) (by omega)
   replace hs46 := hs46.d0
   replace hs46 := hs46.f3
   replace hs46 := hs46.f3
   replace hs46 := hs46.f3
   exact oEnd (kLoop ((planCnt k piece m) - (i + 1)) _ (by omega) ⟨i + 1, _, _, _, f31, rfl, rfl, (by omega), (RRR.snoc hro hv36 (by rw [← hzz]; exact hr37)), (FLe.trans hle21 hle35), (hc), (hv16), (hr17), hs46⟩ ⟨rfl, rfl, rfl, rfl, rfl, rfl, rfl, trivial⟩)
 · refine rExit (kSeqX (kLoopX (kBlkH (kSeq (rSeq (rReg (oV (xLoadG hs isAgg270 sizeOf270 rfl (i := 1) rfl rfl) rfl (oV (xMove rfl) rfl (oStoreG hs sizeOf270 rfl rfl rfl rfl (i := 2) rfl rfl ?_)))))))))
   intro w47 hs48; clear hs; dsimp only [List.set, putAt] at hs48
   refine oV (xAssign rfl) rfl (oV (xAssign rfl) rfl (oEnd (kSeq (rRet (kFin (.cell rfl (run_varG hs48 isAgg270 sizeOf270 (i := 2) rfl rfl) (.tmp rfl (.tmp rfl (.nil)))) ?_)))))
   replace hs48 := hs48.d2
   replace hs48 := hs48.d1
   replace hs48 := hs48.f1
   obtain rfl : i = (planCnt k piece m) := by omega
   obtain ⟨f2, hle2, hv2, hs2⟩ := Sep.freezeOwn (i := 0) hs48 rfl
   exact ⟨f2, _, _, _, rfl, FLe.trans (FLe.trans hle15 hle21) hle2, hv2, hro.mono hle2, hs2⟩
end Go.Sl
namespace Go.Sl
open Go.Proofs Go.Proofs.Tryz
def tapeA (t m most : Nat) : Asn := fun h => ∃ x : Option Addr × Nat × Nat × List UInt8, sepL [row t 416 [.slice x.1 m x.2.1, I (x.2.2.1 : Int), I (most : Int)], own 5 1 (.slice x.1 m x.2.1) m (x.2.2.2.map B)] h
theorem tapeA_open {W0 w : World} {L : List Asn} {t m most : Nat} (hs : Sep W0 w (tapeA t m most :: L)) : ∃ a cp sf bs, Sep W0 w (row t 416 [.slice a m cp, I ((sf : Nat) : Int), I (most : Int)] :: own 5 1 (.slice a m cp) m (List.map B bs) :: L) := by
 obtain ⟨⟨a, cp, sf, bs⟩, h⟩ := Sep.ex hs
 exact ⟨a, cp, sf, bs, Sep.open (M := [_, _]) h⟩
theorem tapeA_shut {W0 w : World} {L : List Asn} {t m most : Nat} {a : Option Addr} {cp sf : Nat} {bs : List UInt8} (hs : Sep W0 w (row t 416 [.slice a m cp, I ((sf : Nat) : Int), I (most : Int)] :: own 5 1 (.slice a m cp) m (List.map B bs) :: L)) : Sep W0 w (tapeA t m most :: L) :=
 Sep.intro (a, cp, sf, bs) (Sep.shut [_, _] hs)
theorem tnew_s {W0 w : World} {L : List Asn} (most : Nat) (hm : most ≤ 1073741824) (hs : Sep W0 w L) : Calls Tryz.prog 201 [.int .i64 most].toArray w (Ret fun r w' => ∃ t, r = ptr t ∧ Sep W0 w' (row t 416 [.slice none 0 0, I 0, I (most : Int)] :: L)) := by
 refine enter (args := [(I (most : Int))]) (n := 7) (rs := [.tmp 2]) func201 rfl rfl rfl rfl ?_
 refine rSeq (rReg (oV (xAssign rfl) rfl (oEnd (kSeq (rSeq (rReg (oV (xMove rfl) rfl (oV (xB1 rfl rMax) rfl (oV (xBuild (v := (.agg #[(.slice none 0 0), (I 0), (I (if (most : Int) < 0 then 0 else (most : Int)))])) rfl (fun w => by kernel_rfl)) rfl (oBox hs rfl rfl rfl ?_))))))))))
 intro b1 w2 hs3; clear hs
 refine oV (xAssign rfl) rfl (oEnd (kSeq (rRet (kFin (.tmp rfl (.nil)) ?_))))
 rw [show (if (most : Int) < 0 then 0 else (most : Int)) = (most : Int) by omega] at hs3
 exact ⟨_, rfl, hs3⟩
theorem clone0_s {W0 w : World} {L : List Asn} (hs : Sep W0 w L) : Calls Tryz.prog 29 [.slice none 0 0].toArray w (Ret fun r w' => r = .slice none 0 0 ∧ Sep W0 w' L) := by
 refine enter (args := [(.slice none 0 0)]) (n := 8) (rs := [.tmp 2]) func29 rfl rfl rfl rfl ?_
 refine rSeq (rReg (oV (xAssign rfl) rfl (oEnd (kSeq (rSeq (rSeq (rReg (oV (xMove rfl) rfl (oV (xBin (r := .bool true) rfl rfl (fun _ => rfl) (rEqlSlNil underlying26)) rfl (oEnd (kSeq (rCondT rfl (rSeq (rReg (oV (xAssign rfl) rfl (oEnd (kSeq (rRet (kSeqR (kFin (.tmp rfl (.nil)) ?_))))))))))))))))))))
 exact ⟨rfl, hs⟩
theorem tread0_s {W0 w : World} {L : List Asn} {t most : Nat} (hs : Sep W0 w (row t 416 [.slice none 0 0, I 0, I (most : Int)] :: L)) : Calls Tryz.prog 320 [ptr t].toArray w (Ret fun r w' => r = .slice none 0 0 ∧ Sep W0 w' (row t 416 [.slice none 0 0, I 0, I (most : Int)] :: L)) := by
 refine enter (args := [(ptr t)]) (n := 10) (rs := [.tmp 2]) func320 rfl rfl rfl rfl ?_
 refine rSeq (rReg (oV (xAssign rfl) rfl (oEnd (kSeq (rSeq (rSeq (rReg (oV (xMove rfl) rfl (oV (xBin (r := .bool false) rfl rfl (fun _ => rfl) (fun w => by kernel_rfl)) rfl (oEnd (kSeq (rCondF rfl (rSkip (kSeq (rSeq (rReg (oV (xMove rfl) rfl (oV (xNil rfl) rfl (oV (xFA (j' := 0) underlying416 rfl sizeOf26 rfl rfl) rfl (oV (xLoad hs isAgg26 rfl (i := 0) rfl rfl) rfl (oCall call29 rfl rfl (clone0_s hs) ?_)))))))))))))))))))))
 rintro _ w1 ⟨rfl, hs2⟩; clear hs
 refine oV (xAssign rfl) rfl (oEnd (kSeq (rRet (kFin (.tmp rfl (.nil)) ?_))))
 exact ⟨rfl, hs2⟩
theorem tcut0_s {W0 w : World} {L : List Asn} {t most : Nat} (hs : Sep W0 w (row t 416 [.slice none 0 0, I 0, I (most : Int)] :: L)) : Calls Tryz.prog 321 [ptr t, .int .i64 0].toArray w (Ret fun r w' => r = .int .i64 0 ∧ Sep W0 w' (row t 416 [.slice none 0 0, I 0, I (most : Int)] :: L)) := by
 refine enter (args := [(ptr t), (I 0)]) (n := 34) (rs := [.tmp 4]) func321 rfl rfl rfl rfl ?_
 refine rSeq (rReg (oV (xAssign rfl) rfl (oEnd (kSeq (rSeq (rBlk (rSeq (rReg (oV (xMove rfl) rfl (oV (xBin (r := .bool false) rfl rfl (fun _ => rfl) (fun w => by kernel_rfl)) rfl (oV (xAssign rfl) rfl (oEnd (kSeq (rCondF rfl (rSeq (rReg (oV (xMove rfl) rfl (oV (xCmp (r := false) rfl rfl rLss) rfl (oV (xMove rfl) rfl (oGuardT rfl rfl (oV (xMove rfl) rfl (oGuardT rfl rfl (oV (xMove rfl) rfl (oGuardT rfl rfl (oV (xNil rfl) rfl (oGuardT rfl rfl (oV (xFA (j' := 0) underlying416 rfl sizeOf26 rfl rfl) rfl (oGuardT rfl rfl (oV (xLoad hs isAgg26 rfl (i := 0) rfl rfl) rfl (oGuardT rfl rfl (oV (xB1 rfl (rLenS underlying26)) rfl (oGuardT rfl rfl (oV (xCmp (r := false) rfl rfl rGtr) rfl (oV (xPickF rfl rfl) rfl (oV (xAssign rfl) rfl (oEnd (kSeq (rCondF rfl (rSkip (kBlk (kSeq (rSeq (rReg (oV (xMove rfl) rfl (oV (xMove rfl) rfl (oV (xNil rfl) rfl ?_))))))))))))))))))))))))))))))))))))))))))))))
 refine oV (xFA (j' := 0) underlying416 rfl sizeOf26 rfl rfl) rfl (oV (xLoad hs isAgg26 rfl (i := 0) rfl rfl) rfl (oV (xMove rfl) rfl (oV (xSlice (v := .slice none 0 0) (lv := none) (hv := some (I 0)) rfl rfl rfl (fun w => by kernel_rfl)) rfl (oCall call29 rfl rfl (clone0_s hs) ?_))))
 rintro _ w1 ⟨rfl, hs2⟩; clear hs
 refine oV (xNil rfl) rfl (oV (xFA (j' := 0) underlying416 rfl sizeOf26 rfl rfl) rfl (oStore hs2 sizeOf26 rfl rfl rfl (i := 0) rfl rfl ?_))
 intro w3 hs4; clear hs2; dsimp only [List.set] at hs4
 refine oEnd (kSeq (rSeq (rReg (oV (xMove rfl) rfl (oV (xMove rfl) rfl (oV (xNil rfl) rfl (oV (xFA (j' := 1) underlying416 rfl sizeOf3 rfl rfl) rfl (oStore hs4 sizeOf3 rfl rfl rfl (i := 0) rfl rfl ?_))))))))
 intro w5 hs6; clear hs4; dsimp only [List.set] at hs6
 refine oEnd (kSeq (rSeq (rReg (oV (xAssign rfl) rfl (oEnd (kSeq (rRet (kFin (.tmp rfl (.nil)) ?_))))))))
 exact ⟨rfl, hs6⟩
theorem tsync_s {W0 w : World} {L : List Asn} {t m most : Nat} (hs : Sep W0 w (tapeA t m most :: L)) : Calls Tryz.prog 366 [ptr t].toArray w (Ret fun r w' => r = .int .i64 0 ∧ Sep W0 w' (tapeA t m most :: L)) := by
 refine enter (args := [(ptr t)]) (n := 13) (rs := [.tmp 2]) func366 rfl rfl rfl rfl ?_
 obtain ⟨a2, cp3, sf4, bs5, hs1⟩ := tapeA_open hs; clear hs
 refine rSeq (rReg (oV (xAssign rfl) rfl (oEnd (kSeq (rSeq (rSeq (rReg (oV (xMove rfl) rfl (oV (xBin (r := .bool false) rfl rfl (fun _ => rfl) (fun w => by kernel_rfl)) rfl (oEnd (kSeq (rCondF rfl (rSkip (kSeq (rSeq (rReg (oV (xMove rfl) rfl (oV (xMove rfl) rfl (oV (xNil rfl) rfl (oV (xFA (j' := 0) underlying416 rfl sizeOf26 rfl rfl) rfl (oV (xLoad hs1 isAgg26 rfl (i := 0) rfl rfl) rfl (oV (xB1 rfl (rLenS underlying26)) rfl (oV (xNil rfl) rfl (oV (xFA (j' := 1) underlying416 rfl sizeOf3 rfl rfl) rfl (oStore hs1 sizeOf3 rfl rfl rfl (i := 0) rfl rfl ?_)))))))))))))))))))))))))
 intro w6 hs7; clear hs1; dsimp only [List.set] at hs7
 refine oEnd (kSeq (rSeq (rReg (oV (xAssign rfl) rfl (oEnd (kSeq (rRet (kFin (.tmp rfl (.nil)) ?_))))))))
 replace hs7 := hs7.f1
 replace hs7 := hs7.f1
 have hs8 := tapeA_shut hs7; clear hs7
 exact ⟨rfl, hs8⟩
theorem tappend_s {W0 w : World} {L : List Asn} {f : HF} {t m most n cp : Nat} {a : Option Addr} {l : List UInt8} (hb : RB f a n cp l) (hn : m + n ≤ most) (hm : most ≤ 1073741824) (hs : Sep W0 w (tapeA t m most :: pool f :: L)) : Calls Tryz.prog 367 [ptr t, .slice a n cp].toArray w (Ret fun r w' => r = .int .i64 0 ∧ Sep W0 w' (tapeA t (m + n) most :: pool f :: L)) := by
 refine enter (args := [(ptr t), (.slice a n cp)]) (n := 31) (rs := [.tmp 4]) func367 rfl rfl rfl rfl ?_
 obtain ⟨a2, cp3, sf4, bs5, hs1⟩ := tapeA_open hs; clear hs
 refine rSeq (rReg (oV (xAssign rfl) rfl (oEnd (kSeq (rSeq (rBlk (rSeq (rReg (oV (xMove rfl) rfl (oV (xBin (r := .bool false) rfl rfl (fun _ => rfl) (fun w => by kernel_rfl)) rfl (oV (xAssign rfl) rfl (oEnd (kSeq (rCondF rfl (rSeq (rRegQ (by kernel_rfl) (by kernel_rfl) hs1 ?_))))))))))))))))
 refine qV (fun w hq => xMove rfl) rfl ?_
 refine qV (fun w hq => xB1 rfl (rLenS underlying26)) rfl ?_
 refine qV (fun w hq => xMove rfl) rfl ?_
 refine qV (fun w hq => xNil rfl) rfl ?_
 refine qV (fun w hq => xFA (j' := 2) underlying416 rfl sizeOf3 rfl rfl) rfl ?_
 refine qV (fun w hq => xLoad hq isAgg3 rfl (i := 0) rfl rfl) rfl ?_
 refine qV (fun w hq => xMove rfl) rfl ?_
 refine qV (fun w hq => xNil rfl) rfl ?_
 refine qV (fun w hq => xFA (j' := 0) underlying416 rfl sizeOf26 rfl rfl) rfl ?_
 refine qV (fun w hq => xLoad hq isAgg26 rfl (i := 0) rfl rfl) rfl ?_
 refine qV (fun w hq => xB1 rfl (rLenS underlying26)) rfl ?_
 refine qV (fun w hq => xAr rfl rfl (rSub (wI (by omega) (by omega)))) rfl ?_
 refine qV (fun w hq => xCmp rfl rfl rGtr) rfl ?_
 refine qV (fun w hq => xAssign rfl) rfl ?_
 refine qEnd (fun w7 hs6 => ?_); clear hs1
 refine kSeq ?_
 refine rCondD rfl (fun hc8 => ?_) (fun hc8 => ?_)
 · refine rSeq (rReg (oV (xAssign rfl) rfl (oEnd (kSeq (rRet (kBlkR (kSeqR (kFin (.tmp rfl (.nil)) ?_))))))))
   exfalso; omega
 · refine rSkip (kBlk (kSeq (rSeq (rReg (oV (xMove rfl) rfl (oV (xMove rfl) rfl (oV (xNil rfl) rfl (oV (xFA (j' := 0) underlying416 rfl sizeOf26 rfl rfl) rfl (oV (xLoad hs6 isAgg26 rfl (i := 0) rfl rfl) rfl (oV (xMove rfl) rfl (oAppend (inf := Tryz.t5) (size := 1) (bytes := 1) hs6 (i := 1) rfl underlying26 (by kernel_rfl) rfl rfl rfl rfl rfl rfl rfl (Reads.src hb hs6 (i := 2) rfl (oneB _)) (by first | omega | (simp only [List.length_append, List.length_cons, List.length_nil, List.length_map]; omega)) (by first | omega | (simp only [List.length_append, List.length_cons, List.length_nil, List.length_map]; omega)) rfl ?_)))))))))))
   intro a9 c10 w11 hs12; clear hs6; dsimp only [List.set] at hs12
   refine oV (xNil rfl) rfl (oV (xFA (j' := 0) underlying416 rfl sizeOf26 rfl rfl) rfl (oStore hs12 sizeOf26 rfl rfl rfl (i := 0) rfl rfl ?_))
   intro w13 hs14; clear hs12; dsimp only [List.set] at hs14
   refine oEnd (kSeq (rSeq (rReg (oV (xAssign rfl) rfl (oEnd (kSeq (rRet (kFin (.tmp rfl (.nil)) ?_))))))))
   rw [← List.map_append] at hs14
   replace hs14 := hs14.f1
   replace hs14 := hs14.f1
   have hs15 := tapeA_shut hs14; clear hs14
   exact ⟨rfl, hs15⟩
end Go.Sl
namespace Go.Sl
section
variable {P : Program} {n : Nat} {K : Kont} {e : Env} {w : World}
def Kscope (K : Kont) : Kont
  | .goto _, _, _ => False
  | x, e, w => K x e w
theorem rScope {c : Code} (h : Run P n c (Kscope K) e w) : Run P n (.scope c) K e w := fun a ha => by
  refine wp_scope_straight (wp_mono (h a ha) fun x a w h2 => ?_)
  obtain ⟨e, h3, h4⟩ := h2
  cases x with
  | goto l => exact h4.elim
  | normal => exact ⟨e, h3, h4⟩
  | exit id => exact ⟨e, h3, h4⟩
  | ret => exact ⟨e, h3, h4⟩
  | panic ch => exact ⟨e, h3, h4⟩
  | outgrown => exact ⟨e, h3, h4⟩
theorem kScopeR (h : K .ret e w) : Kscope K .ret e w := h
end
end Go.Sl
namespace Go.Sl
open Go.Proofs Go.Proofs.Tryz
theorem openE_nil : openE [] = 21 := by decide
theorem scan0_s {W0 w : World} {L : List Asn} {f : HF} (hs : Sep W0 w (pool f :: L)) : Calls Tryz.prog 356 [.slice none 0 0].toArray w (Ret fun r w' => ∃ f', r = .tuple #[.slice none 0 0, .int .i64 0] ∧ FLe f f' ∧ Sep W0 w' (pool f' :: L)) := by
 refine enter (args := [(.slice none 0 0)]) (n := 33) (rs := [.tmp 2, .tmp 3]) func356 rfl rfl rfl rfl ?_
 refine rSeq (rReg (oV (xAssign rfl) rfl (oV (xAssign rfl) rfl (oEnd (kSeq (rScope (rSeq (rReg (oV (xAssign rfl) rfl (oEnd (kSeq (rSeq (rReg (oV (xAssign rfl) rfl (oEnd (kSeq (rSeq (rLabel (kSeq ?_)))))))))))))))))))
 refine rSeq (rReg (oV (xMove rfl) rfl (oV (xMove rfl) rfl (oV (xSlice (v := .slice none 0 0) (lv := some (I 0)) (hv := none) rfl rfl rfl (fun w => by kernel_rfl)) rfl (oCall call276 rfl rfl (open_s [] RB.nil (by first | omega | (simp only [List.length_append, le_length, List.length_cons, List.length_nil, List.length_map, List.length_replicate]; omega)) hs) ?_)))))
 rintro _ w8 ⟨f1, a2, k3, cp4, rfl, hle5, hb6, hs9⟩; clear hs; have hl7 := RB.len hb6
 refine oV (xMove rfl) rfl (oV (xExtract rfl rfl) rfl (oV (xExtract rfl rfl) rfl (oV (xExtract rfl rfl) rfl (oV (xExtract rfl rfl) rfl (oV (xAssign rfl) rfl (oV (xAssign rfl) rfl (oV (xAssign rfl) rfl (oV (xAssign rfl) rfl (oEnd (kSeq (rSeq (rSeq (rReg (oV (xMove rfl) rfl (oV (xCmp rfl rfl rNeq) rfl (oEnd (kSeq (rCondD rfl (fun hc10 => ?_) (fun hc10 => absurd (by rw [openE_nil]; decide) hc10)))))))))))))))))))
 refine rSeq (rReg (oV (xMove rfl) rfl (oV (xMove rfl) rfl (oV (xAssign rfl) rfl (oV (xAssign rfl) rfl (oEnd (kSeq (rRet (kSeqR (kScopeR (kFin (.tmp rfl (.tmp rfl (.nil))) ?_)))))))))))
 exact ⟨_, rfl, hle5, hs9⟩
theorem records0_s {W0 w : World} {L : List Asn} {f : HF} (hs : Sep W0 w (pool f :: L)) : Calls Tryz.prog 319 [.slice none 0 0].toArray w (Ret fun r w' => ∃ f', r = .tuple #[.slice none 0 0, .int .i64 0] ∧ FLe f f' ∧ Sep W0 w' (pool f' :: L)) := by
 refine enter (args := [(.slice none 0 0)]) (n := 58) (rs := [.tmp 2, .tmp 3]) func319 rfl rfl rfl rfl ?_
 refine rSeq (rReg (oV (xAssign rfl) rfl (oV (xAssign rfl) rfl (oEnd (kSeq (rSeq (rReg (oV (xAssign rfl) rfl (oEnd (kSeq (rSeq (rReg (oV (xMove rfl) rfl (oCall call356 rfl rfl (scan0_s hs) ?_))))))))))))))
 rintro _ w3 ⟨f1, rfl, hle2, hs4⟩; clear hs
 refine oV (xMove rfl) rfl (oV (xExtract rfl rfl) rfl (oV (xExtract rfl rfl) rfl (oV (xAssign rfl) rfl (oV (xAssign rfl) rfl (oEnd (kSeq (rSeq (rSeq (rReg (oV (xMove rfl) rfl (oV (xB1 rfl (rLenS underlying521)) rfl (oV (xMove rfl) rfl (oEnd (kSeq (rBlk (rLoop (fun mz e w => 0 = mz ∧ e = [(4, (.slice none 0 0)), (6, (I 0)), (16, (.slice none 0 0)), (17, (I 0)), (18, (I 0))] ∧ Sep W0 w (pool f1 :: L)) ⟨_, _, ⟨rfl, rfl, hs4⟩, ⟨rfl, rfl, rfl, rfl, rfl, trivial⟩⟩ ?_))))))))))))))))
 clear hs4; rintro mz e w ⟨rfl, rfl, hs⟩
 refine rSeq (rReg (oV (xCmp (r := false) rfl rfl rLss) rfl (oEnd (kSeq (rSeq (rCondF rfl (rExit (kSeqX (kLoopX (kBlkH (kSeq (rSeq (rReg (oV (xMove rfl) rfl (oV (xMove rfl) rfl (oV (xAssign rfl) rfl (oV (xAssign rfl) rfl (oEnd (kSeq (rRet (kFin (.tmp rfl (.tmp rfl (.nil))) ?_)))))))))))))))))))))
 exact ⟨_, rfl, hle2, hs⟩
end Go.Sl
namespace Go.Sl
open Go.Proofs Go.Proofs.Tryz
def diaryA (d t m : Nat) : Asn := fun h => ∃ x : Option Addr × Nat × Nat × List Value, sepL [row d 501 [ptr t, .slice x.1 m x.2.1, I (x.2.2.1 : Int)], own 26 1 (.slice x.1 m x.2.1) m x.2.2.2] h
theorem diaryA_open {W0 w : World} {L : List Asn} {d t m : Nat} (hs : Sep W0 w (diaryA d t m :: L)) : ∃ a cp sf vs, Sep W0 w (row d 501 [ptr t, .slice a m cp, I ((sf : Nat) : Int)] :: own 26 1 (.slice a m cp) m vs :: L) := by
 obtain ⟨⟨a, cp, sf, vs⟩, h⟩ := Sep.ex hs
 exact ⟨a, cp, sf, vs, Sep.open (M := [_, _]) h⟩
theorem diaryA_shut {W0 w : World} {L : List Asn} {d t m : Nat} {a : Option Addr} {cp sf : Nat} {vs : List Value} (hs : Sep W0 w (row d 501 [ptr t, .slice a m cp, I ((sf : Nat) : Int)] :: own 26 1 (.slice a m cp) m vs :: L)) : Sep W0 w (diaryA d t m :: L) :=
 Sep.intro (a, cp, sf, vs) (Sep.shut [_, _] hs)
theorem dframe_s {W0 w : World} {L : List Asn} {f : HF} {a : Option Addr} {n cp : Nat} {l : List UInt8} (num : UInt64) (hb : RB f a n cp l) (hn : n ≤ 60000) (hs : Sep W0 w (pool f :: L)) : Calls Tryz.prog 368 [Q num, .slice a n cp].toArray w (Ret fun r w' => ∃ f' a' k' cp', r = .slice a' k' cp' ∧ FLe f f' ∧ RB f' a' k' cp' (frame 2 (le num 8 ++ l)) ∧ Sep W0 w' (pool f' :: L)) := by
 have hbl := RB.len hb
 have h8 := le_length num 8
 refine enter (args := [(.int .u64 (num.toNat : Int)), (.slice a n cp)]) (n := 18) (rs := [.tmp 4]) func368 rfl rfl rfl rfl ?_
 refine rSeq (rReg (oV (xAssign rfl) rfl (oEnd (kSeq (rSeq (rSeq (rReg (oV (xMove rfl) rfl (oV (xB1 rfl (rLenS underlying26)) rfl (oV (xCmp rfl rfl rGtr) rfl (oEnd (kSeq ?_))))))))))))
 refine rCondD rfl (fun hc1 => ?_) (fun hc1 => ?_)
 · refine rSeq (rReg (oV (xAssign rfl) rfl (oEnd (kSeq (rRet (kSeqR (kFin (.tmp rfl (.nil)) ?_)))))))
   exfalso; omega
 · refine rSkip (kSeq (rSeq (rReg (oV (xBuild (v := (.agg #[(.slice none 0 0)])) rfl (fun w => by kernel_rfl)) rfl (oBox hs rfl rfl rfl ?_)))))
   intro b2 w3 hs4; clear hs
   replace hs4 := writer_new hs4
   refine oV (xAssign rfl) rfl (oEnd (kSeq (rSeq (rReg (oV (xMove rfl) rfl (oV (xMove rfl) rfl (oCall call88 rfl rfl (num_s b2 [] num 8 (by decide) (by first | omega | (simp only [List.length_append, le_length, List.length_cons, List.length_nil, List.length_map, List.length_replicate]; omega)) hs4) ?_)))))))
   rintro _ w5 ⟨rfl, hs6⟩; clear hs4
   refine oV (xMove rfl) rfl ?_
   replace hs6 := hs6.f1
   refine oCall call89 rfl rfl (raw_s b2 ([] ++ le num 8) l hb (by first | omega | (simp only [List.length_append, le_length, List.length_cons, List.length_nil, List.length_map, List.length_replicate]; omega)) hs6) ?_
   rintro _ w7 ⟨rfl, hs8⟩; clear hs6
   replace hs8 := hs8.f1
   replace hs8 := hs8.f1
   refine oCall call90 rfl rfl (bytes_s b2 (([] ++ le num 8) ++ l) (by first | omega | (simp only [List.length_append, le_length, List.length_cons, List.length_nil, List.length_map, List.length_replicate]; omega)) hs8) ?_
   rintro _ w16 ⟨f9, a10, k11, cp12, rfl, hle13, hb14, hs17⟩; clear hs8; have hl15 := RB.len hb14
   replace hb := hb.mono hle13
   refine oCall call383 rfl rfl (frame_s (([] ++ le num 8) ++ l) hb14 (2 : UInt16) (by first | omega | (simp only [List.length_append, le_length, List.length_cons, List.length_nil, List.length_map, List.length_replicate]; omega)) hs17) ?_
   rintro _ w25 ⟨f18, a19, k20, cp21, rfl, hle22, hb23, hs26⟩; clear hs17; have hl24 := RB.len hb23
   replace hb := hb.mono hle22
   replace hb14 := hb14.mono hle22
   refine oV (xAssign rfl) rfl (oEnd (kSeq (rRet (kFin (.tmp rfl (.nil)) ?_))))
   replace hs26 := hs26.d1
   exact ⟨_, _, _, _, rfl, (FLe.trans hle13 hle22), by simpa only [List.nil_append] using hb23, hs26⟩
theorem dopen_s {W0 w : World} {L : List Asn} {f : HF} {t most : Nat} (hs : Sep W0 w (row t 416 [.slice none 0 0, I 0, I (most : Int)] :: pool f :: L)) : Calls Tryz.prog 248 [ptr t].toArray w (Ret fun r w' => ∃ f' d, r = .tuple #[ptr d, .int .i64 0] ∧ FLe f f' ∧ Sep W0 w' (diaryA d t 0 :: tapeA t 0 most :: pool f' :: L)) := by
 refine enter (args := [(ptr t)]) (n := 27) (rs := [.tmp 2, .tmp 3]) func248 rfl rfl rfl rfl ?_
 refine rSeq (rReg (oV (xAssign rfl) rfl (oV (xAssign rfl) rfl (oEnd (kSeq (rSeq (rSeq (rReg (oV (xMove rfl) rfl (oV (xBin (r := .bool false) rfl rfl (fun _ => rfl) (fun w => by kernel_rfl)) rfl (oEnd (kSeq (rCondF rfl (rSkip (kSeq (rSeq (rReg (oV (xMove rfl) rfl (oCall call320 rfl rfl (tread0_s hs) ?_)))))))))))))))))))
 rintro _ w1 ⟨rfl, hs2⟩; clear hs
 replace hs2 := hs2.f1
 refine oCall call319 rfl rfl (records0_s hs2) ?_
 rintro _ w5 ⟨f3, rfl, hle4, hs6⟩; clear hs2
 refine oV (xMove rfl) rfl (oV (xExtract rfl rfl) rfl (oV (xExtract rfl rfl) rfl (oV (xAssign rfl) rfl (oV (xAssign rfl) rfl (oEnd (kSeq (rSeq (rSeq (rReg (oV (xMove rfl) rfl (oV (xMove rfl) rfl ?_)))))))))))
 replace hs6 := hs6.f1
 refine oCall call321 rfl rfl (tcut0_s hs6) ?_
 rintro _ w7 ⟨rfl, hs8⟩; clear hs6
 refine oV (xAssign rfl) rfl (oEnd (kSeq (rSeq (rReg (oV (xMove rfl) rfl (oV (xCmp (r := false) rfl rfl rNeq) rfl (oEnd (kSeq (rCondF rfl (rSkip (kSeq (rSeq (rReg (oV (xMove rfl) rfl (oV (xMove rfl) rfl (oV (xMove rfl) rfl (oV (xB1 rfl (rLenS underlying22)) rfl (oV (xBuild (v := (.agg #[(ptr t), (.slice none 0 0), (I 0)])) rfl (fun w => by kernel_rfl)) rfl (oBox hs8 rfl rfl rfl ?_)))))))))))))))))))
 intro b9 w10 hs11; clear hs8
 refine oV (xAssign rfl) rfl (oV (xAssign rfl) rfl (oEnd (kSeq (rRet (kFin (.tmp rfl (.tmp rfl (.nil))) ?_)))))
 replace hs11 := Sep.nil 26 1 hs11
 replace hs11 := hs11.f1
 have hs12 := diaryA_shut (sf := 0) hs11; clear hs11
 replace hs12 := Sep.nil 5 1 hs12
 replace hs12 := hs12.f2
 have hs13 := tapeA_shut (sf := 0) (bs := []) hs12; clear hs12
 replace hs13 := hs13.f2
 replace hs13 := hs13.f1
 replace hs13 := hs13.f2
 exact ⟨_, b9, rfl, hle4, hs13⟩
theorem dlen_s {W0 w : World} {L : List Asn} {d t m : Nat} (hs : Sep W0 w (diaryA d t m :: L)) : Calls Tryz.prog 249 [ptr d].toArray w (Ret fun r w' => ∃ sf : Nat, r = .tuple #[I (m : Int), I (sf : Int)] ∧ Sep W0 w' (diaryA d t m :: L)) := by
 refine enter (args := [(ptr d)]) (n := 15) (rs := [.tmp 2, .tmp 3]) func249 rfl rfl rfl rfl ?_
 obtain ⟨a2, cp3, sf4, vs5, hs1⟩ := diaryA_open hs; clear hs
 refine rSeq (rReg (oV (xAssign rfl) rfl (oV (xAssign rfl) rfl (oEnd (kSeq (rSeq (rSeq (rReg (oV (xMove rfl) rfl (oV (xBin (r := .bool false) rfl rfl (fun _ => rfl) (fun w => by kernel_rfl)) rfl (oEnd (kSeq (rCondF rfl (rSkip (kSeq (rSeq (rRegQ (by kernel_rfl) (by kernel_rfl) hs1 ?_)))))))))))))))))
 refine qV (fun w hq => xMove rfl) rfl ?_
 refine qV (fun w hq => xNil rfl) rfl ?_
 refine qV (fun w hq => xFA (j' := 1) underlying501 rfl sizeOf22 rfl rfl) rfl ?_
 refine qV (fun w hq => xLoad hq isAgg22 rfl (i := 0) rfl rfl) rfl ?_
 refine qV (fun w hq => xB1 rfl (rLenS underlying22)) rfl ?_
 refine qV (fun w hq => xMove rfl) rfl ?_
 refine qV (fun w hq => xNil rfl) rfl ?_
 refine qV (fun w hq => xFA (j' := 2) underlying501 rfl sizeOf3 rfl rfl) rfl ?_
 refine qV (fun w hq => xLoad hq isAgg3 rfl (i := 0) rfl rfl) rfl ?_
 refine qV (fun w hq => xAssign rfl) rfl ?_
 refine qV (fun w hq => xAssign rfl) rfl ?_
 refine qEnd (fun w7 hs6 => ?_); clear hs1
 refine kSeq ?_
 refine rRet (kFin (.tmp rfl (.tmp rfl (.nil))) ?_)
 replace hs6 := hs6.f1
 replace hs6 := hs6.f1
 have hs8 := diaryA_shut hs6; clear hs6
 exact ⟨_, rfl, hs8⟩
theorem dsync_s {W0 w : World} {L : List Asn} {d t m n most : Nat} (hs : Sep W0 w (diaryA d t m :: tapeA t n most :: L)) : Calls Tryz.prog 338 [ptr d].toArray w (Ret fun r w' => r = .int .i64 0 ∧ Sep W0 w' (diaryA d t m :: tapeA t n most :: L)) := by
 refine enter (args := [(ptr d)]) (n := 25) (rs := [.tmp 2]) func338 rfl rfl rfl rfl ?_
 obtain ⟨a2, cp3, sf4, vs5, hs1⟩ := diaryA_open hs; clear hs
 refine rSeq (rReg (oV (xAssign rfl) rfl (oEnd (kSeq (rSeq (rSeq (rReg (oV (xMove rfl) rfl (oV (xBin (r := .bool false) rfl rfl (fun _ => rfl) (fun w => by kernel_rfl)) rfl (oV (xMove rfl) rfl (oGuardT rfl rfl (oV (xMove rfl) rfl (oGuardT rfl rfl (oV (xNil rfl) rfl (oGuardT rfl rfl (oV (xFA (j' := 0) underlying501 rfl sizeOf262 rfl rfl) rfl (oGuardT rfl rfl (oV (xLoad hs1 isAgg262 rfl (i := 0) rfl rfl) rfl (oGuardT rfl rfl (oV (xBin (r := .bool false) rfl rfl (fun _ => rfl) (fun w => by kernel_rfl)) rfl (oV (xPickF rfl rfl) rfl (oEnd (kSeq (rCondF rfl (rSkip (kSeq (rSeq (rReg (oV (xMove rfl) rfl (oV (xMove rfl) rfl (oV (xNil rfl) rfl (oV (xFA (j' := 1) underlying501 rfl sizeOf22 rfl rfl) rfl (oV (xLoad hs1 isAgg22 rfl (i := 0) rfl rfl) rfl (oV (xB1 rfl (rLenS underlying22)) rfl (oV (xNil rfl) rfl ?_)))))))))))))))))))))))))))))))))))
 refine oV (xFA (j' := 2) underlying501 rfl sizeOf3 rfl rfl) rfl (oStore hs1 sizeOf3 rfl rfl rfl (i := 0) rfl rfl ?_)
 intro w6 hs7; clear hs1; dsimp only [List.set] at hs7
 refine oEnd (kSeq (rSeq (rReg (oV (xMove rfl) rfl (oV (xNil rfl) rfl (oV (xFA (j' := 0) underlying501 rfl sizeOf262 rfl rfl) rfl (oV (xLoad hs7 isAgg262 rfl (i := 0) rfl rfl) rfl ?_)))))))
 replace hs7 := hs7.f2
 refine oCall call366 rfl rfl (tsync_s hs7) ?_
 rintro _ w8 ⟨rfl, hs9⟩; clear hs7
 refine oV (xAssign rfl) rfl (oEnd (kSeq (rRet (kFin (.tmp rfl (.nil)) ?_))))
 replace hs9 := hs9.f2
 replace hs9 := hs9.f2
 have hs10 := diaryA_shut hs9; clear hs9
 replace hs10 := hs10.f1
 replace hs10 := hs10.f1
 exact ⟨rfl, hs10⟩
theorem dwrite_s {W0 w : World} {L : List Asn} {f : HF} {d t m tm most n cp : Nat} {a : Option Addr} {l : List UInt8} (hb : RB f a n cp l) (hn : n ≤ 60000) (hm : m ≤ 1000000) (hfit : tm + (20 + n) ≤ most) (hmost : most ≤ 1073741824) (hs : Sep W0 w (diaryA d t m :: tapeA t tm most :: pool f :: L)) :
 Calls Tryz.prog 340 [ptr d, .slice a n cp].toArray w (Ret fun r w' => ∃ f', r = .int .i64 0 ∧ FLe f f' ∧ Sep W0 w' (diaryA d t (m + 1) :: tapeA t (tm + (20 + n)) most :: pool f' :: L)) := by
 have hbl := RB.len hb
 refine enter (args := [(ptr d), (.slice a n cp)]) (n := 48) (rs := [.tmp 4]) func340 rfl rfl rfl rfl ?_
 obtain ⟨a2, cp3, sf4, vs5, hs1⟩ := diaryA_open hs; clear hs
 refine rSeq (rReg (oV (xAssign rfl) rfl (oEnd (kSeq (rSeq (rBlk (rSeq (rReg (oV (xMove rfl) rfl (oV (xBin (r := .bool false) rfl rfl (fun _ => rfl) (fun w => by kernel_rfl)) rfl (oV (xMove rfl) rfl (oGuardT rfl rfl (oV (xMove rfl) rfl (oGuardT rfl rfl (oV (xNil rfl) rfl (oGuardT rfl rfl (oV (xFA (j' := 0) underlying501 rfl sizeOf262 rfl rfl) rfl (oGuardT rfl rfl (oV (xLoad hs1 isAgg262 rfl (i := 0) rfl rfl) rfl (oGuardT rfl rfl (oV (xBin (r := .bool false) rfl rfl (fun _ => rfl) (fun w => by kernel_rfl)) rfl (oV (xPickF rfl rfl) rfl (oV (xAssign rfl) rfl (oEnd (kSeq (rCondF rfl (rSeq (rReg (oV (xMove rfl) rfl (oV (xB1 rfl (rLenS underlying26)) rfl (oV (xCmp rfl rfl rGtr) rfl (oV (xAssign rfl) rfl (oEnd (kSeq ?_))))))))))))))))))))))))))))))))))
 refine rCondD rfl (fun hc6 => ?_) (fun hc6 => ?_)
 · refine rSeq (rReg (oV (xAssign rfl) rfl (oEnd (kSeq (rRet (kBlkR (kSeqR (kFin (.tmp rfl (.nil)) ?_))))))))
   exfalso; omega
 · refine rSkip (kBlk (kSeq (rSeq (rSeq ?_))))
   refine rRegG [(none, fun w => ∃ M, Sep W0 w (row d 501 [(ptr t), (.slice a2 m cp3), (I (sf4 : Int))] :: M))] (by kernel_rfl) hs1 (fun w7 hs8 => ⟨?_, fun hS => ?_⟩)
   · exact ⟨⟨_, (Sep.front (i := 0) rfl hs8)⟩, trivial⟩
   clear hs1
   refine gTake0 0 rfl (by kernel_rfl) hS (fun w => xMove rfl) rfl ?_
   clear hS; intro hS
   refine gTake0 1 rfl (by kernel_rfl) hS (fun w => xNil rfl) rfl ?_
   clear hS; intro hS
   refine gTake0 2 rfl (by kernel_rfl) hS (fun w => xFA (j' := 0) underlying501 rfl sizeOf262 rfl rfl) rfl ?_
   clear hS; intro hS
   refine gTake 3 0 rfl (by kernel_rfl) rfl (by kernel_rfl) hS (fun w hq0 => by obtain ⟨M, hq⟩ := hq0; exact xLoad hq isAgg262 rfl (i := 0) rfl rfl) rfl ?_
   clear hS; intro hS
   refine gTake0 4 rfl (by kernel_rfl) hS (fun w => xMove rfl) rfl ?_
   clear hS; intro hS
   refine gTake0 5 rfl (by kernel_rfl) hS (fun w => xNil rfl) rfl ?_
   clear hS; intro hS
   refine gTake0 6 rfl (by kernel_rfl) hS (fun w => xFA (j' := 1) underlying501 rfl sizeOf22 rfl rfl) rfl ?_
   clear hS; intro hS
   refine gTake 7 0 rfl (by kernel_rfl) rfl (by kernel_rfl) hS (fun w hq0 => by obtain ⟨M, hq⟩ := hq0; exact xLoad hq isAgg22 rfl (i := 0) rfl rfl) rfl ?_
   clear hS; intro hS
   refine gTake0 8 rfl (by kernel_rfl) hS (fun w => xB1 rfl (rLenS underlying22)) rfl ?_
   clear hS; intro hS
   refine gTake0 9 rfl (by kernel_rfl) hS (fun w => xConv underlying3 underlying53 rfl (wIto64 (m : Int))) rfl ?_
   clear hS; intro hS
   refine gTake0 10 rfl (by kernel_rfl) hS (fun w => xAr rfl rfl (uAdd64 (UInt64.ofInt (m : Int)) (1 : UInt64))) rfl ?_
   clear hS; intro hS
   refine gTake0 11 rfl (by kernel_rfl) hS (fun w => xMove rfl) rfl ?_
   clear hS; intro hS
   refine gEff 12 (by kernel_rfl) rfl ?_
   replace hs8 := hs8.f3
   refine oCall call368 rfl rfl (dframe_s ((UInt64.ofInt (m : Int)) + (1 : UInt64)) hb (by omega) hs8) ?_
   rintro _ w16 ⟨f9, a10, k11, cp12, rfl, hle13, hb14, hs17⟩; clear hs8; have hl15 := RB.len hb14
   replace hb := hb.mono hle13
   have hfr := frame_length 2 (le ((UInt64.ofInt (m : Int)) + (1 : UInt64)) 8 ++ l); rw [List.length_append, le_length] at hfr
   refine oEnd (kG ⟨⟨_, (Sep.front (i := 1) rfl hs17)⟩, trivial⟩ ?_)
   clear hS; intro hS
   refine gEff 13 (by kernel_rfl) rfl ?_
   replace hs17 := hs17.f3
   refine oCall call367 rfl rfl (tappend_s hb14 (by omega) (by omega) hs17) ?_
   rintro _ w18 ⟨rfl, hs19⟩; clear hs17
   refine oEnd (kG ⟨⟨_, (Sep.front (i := 2) rfl hs19)⟩, trivial⟩ ?_)
   clear hS; intro hS
   refine gTake0 14 rfl (by kernel_rfl) hS (fun w => xAssign rfl) rfl ?_
   clear hS; intro hS
   refine gEnd (by kernel_rfl) ?_
   clear hS
   refine kSeq ?_
   refine rSeq (rReg (oV (xMove rfl) rfl (oV (xCmp (r := false) rfl rfl rNeq) rfl (oEnd (kSeq (rCondF rfl (rSkip (kSeq (rSeq ?_)))))))))
   refine rRegG [(some 11, fun w => ∃ M, Sep W0 w (row d 501 [(ptr t), (.slice a2 m cp3), (I (sf4 : Int))] :: M))] (by kernel_rfl) hs19 (fun w20 hs21 => ⟨?_, fun hS => ?_⟩)
   · exact ⟨fun _ => ⟨_, (Sep.front (i := 2) rfl hs21)⟩, trivial⟩
   clear hs19
   refine gTake0 0 rfl (by kernel_rfl) hS (fun w => xMove rfl) rfl ?_
   clear hS; intro hS
   refine gTake0 1 rfl (by kernel_rfl) hS (fun w => xMove rfl) rfl ?_
   clear hS; intro hS
   refine gTake0 2 rfl (by kernel_rfl) hS (fun w => xNil rfl) rfl ?_
   clear hS; intro hS
   refine gTake0 3 rfl (by kernel_rfl) hS (fun w => xFA (j' := 1) underlying501 rfl sizeOf22 rfl rfl) rfl ?_
   clear hS; intro hS
   refine gTake 4 0 rfl (by kernel_rfl) rfl (by kernel_rfl) hS (fun w hq0 => by obtain ⟨M, hq⟩ := hq0; exact xLoad hq isAgg22 rfl (i := 0) rfl rfl) rfl ?_
   clear hS; intro hS
   refine gTake0 5 rfl (by kernel_rfl) hS (fun w => xMove rfl) rfl ?_
   clear hS; intro hS
   refine gEff 6 (by kernel_rfl) rfl ?_
   replace hs21 := hs21.f1
   refine oCall call29 rfl rfl (cloneB_o _ hb (oneB _) (by omega) hs21) ?_
   rintro _ w25 ⟨a22, k23, cp24, rfl, hk27, hs26⟩; clear hs21; replace hk27 := Eq.symm hk27; subst hk27
   refine oEnd (kG ⟨fun _ => ⟨_, (Sep.front (i := 3) rfl hs26)⟩, trivial⟩ ?_)
   clear hS; intro hS
   refine gEff 7 (by kernel_rfl) rfl ?_
   refine oBuildSlice (el := 26) (cs := [(.slice a22 n cp24)]) hs26 rfl (fun w => by kernel_rfl) rfl ?_
   intro b29 w30 hs31; clear hs26
   refine oEnd (kG ⟨fun _ => ⟨_, (Sep.front (i := 4) rfl hs31)⟩, trivial⟩ ?_)
   clear hS; intro hS
   refine gEff 8 (by kernel_rfl) rfl ?_
   refine oAppend (inf := Tryz.t26) (size := 1) (bytes := 24) hs31 (i := 5) rfl underlying22 (by kernel_rfl) rfl rfl rfl rfl rfl rfl rfl (src_row hs31 (i := 0) rfl rfl rfl) (by first | omega | (simp only [List.length_append, List.length_cons, List.length_nil, List.length_map]; omega)) (by first | omega | (simp only [List.length_append, List.length_cons, List.length_nil, List.length_map]; omega)) rfl ?_
   intro a32 c33 w34 hs35; clear hs31; dsimp only [List.set] at hs35
   refine oEnd (kG ⟨fun _ => ⟨_, (Sep.front (i := 4) rfl hs35)⟩, trivial⟩ ?_)
   clear hS; intro hS
   refine gTake0 9 rfl (by kernel_rfl) hS (fun w => xNil rfl) rfl ?_
   clear hS; intro hS
   refine gTake0 10 rfl (by kernel_rfl) hS (fun w => xFA (j' := 1) underlying501 rfl sizeOf22 rfl rfl) rfl ?_
   clear hS; intro hS
   refine gEff 11 (by kernel_rfl) rfl ?_
   refine oStore hs35 sizeOf22 rfl rfl rfl (i := 4) rfl rfl ?_
   intro w36 hs37; clear hs35; dsimp only [List.set] at hs37
   refine oEnd (kG ⟨(tillDone (by kernel_rfl)), trivial⟩ ?_)
   clear hS; intro hS
   refine gEnd (by kernel_rfl) ?_
   clear hS
   refine kSeq ?_
   refine rSeq (Run.sub (e' := [(4, (I 0))]) ⟨rfl, trivial⟩ ?_)
   refine rReg (oV (xAssign rfl) rfl (oEnd (kSeq (rRet (kFin (.tmp rfl (.nil)) ?_)))))
   replace hs37 := hs37.f5
   replace hs37 := hs37.f5
   have hs38 := diaryA_shut hs37; clear hs37
   replace hs38 := hs38.d2
   replace hs38 := hs38.d1
   replace hs38 := hs38.f1
   replace hs38 := hs38.f2
   replace hs38 := hs38.f2
   have htl : (tm + k11) = tm + (20 + n) := by omega
   rw [htl] at hs38
   exact ⟨_, rfl, hle13, hs38⟩
end Go.Sl
namespace Go.Sl
section
variable {α : Type} [DecidableEq α]
structure KeyOps (P : Program) (kt : TypeId) (enc : α → Value) : Prop where
  check : ∀ em a w, (Instr.checkKey em 10000 kt (enc a)).run P w = .ok () w
  eq : ∀ a b w, (Op.equal kt (enc a) (enc b)).run P w = .ok (decide (a = b)) w
  desc : ∃ fs, P.underlying kt = some (.struct fs)
  agg : ∀ a, ∃ cs, enc a = .agg cs
  same : ∀ a, Instr.sameBits 10000 (enc a) (enc a) = true
def mfind {β : Type} (es : List (α × β)) (k : α) : Option Nat := es.findIdx? (fun p => decide (p.1 = k))
def mget {β : Type} (es : List (α × β)) (k : α) : Option β := (es.find? (fun p => decide (p.1 = k))).map (·.2)
def mset {β : Type} (es : List (α × β)) (k : α) (v : β) : List (α × β) := match mfind es k with
  | some i => es.set i (k, v)
  | none => es ++ [(k, v)]
def mdel {β : Type} (es : List (α × β)) (k : α) : List (α × β) := match mfind es k with
  | some i => es.eraseIdx i
  | none => es
def mval {β γ : Type} (g : β → γ) (es : List (α × β)) : List (α × γ) := es.map (fun p => (p.1, g p.2))
theorem mfind_val {β γ : Type} {g : β → γ} {es : List (α × β)} {k : α} : mfind (mval g es) k = mfind es k := by
  simp [mfind, mval, List.findIdx?_map, Function.comp_def]
theorem mget_val {β γ : Type} {g : β → γ} {es : List (α × β)} {k : α} : mget (mval g es) k = (mget es k).map g := by
  simp only [mget, mval, List.find?_map, Function.comp_def, Option.map_map]
theorem mdel_val {β γ : Type} {g : β → γ} {es : List (α × β)} {k : α} : mdel (mval g es) k = mval g (mdel es k) := by
  simp only [mdel, mfind_val]
  cases mfind es k with
  | none => rfl
  | some i =>
    simp only [mval]
    apply List.ext_getElem?
    intro t
    simp only [List.getElem?_map, List.getElem?_eraseIdx]
    split <;> rfl
def mapC (enc : α → Value) (r : Nat) (es : List (α × Value)) : Asn := fun h => ∃ (l : List MapEntry) (clock : Nat), h r = some (.map l.toArray clock) ∧ l.map (fun e => (e.key, e.val)) = es.map (fun p => (enc p.1, p.2)) ∧ (∀ e ∈ l, e.born < clock) ∧ (l.map (·.born)).Nodup
variable {P : Program} {kt : TypeId} {enc : α → Value}
theorem findNow_agg {fs : Array Field} {cs : Array Value} : ∀ (l : List MapEntry) (i : Nat), Instr.findNow (.struct fs) (.agg cs) l i = if l.isEmpty then some none else none
  | [], _ => rfl
  | e :: l, i => by simp [Instr.findNow, Instr.sameNow]
theorem findAsking_run (K : KeyOps P kt enc) (k : α) (w : World) : ∀ (l : List MapEntry) (es : List (α × Value)) (i : Nat), l.map (fun e => (e.key, e.val)) = es.map (fun p => (enc p.1, p.2)) →
    (Instr.findAsking kt (enc k) l i).run P w = .ok ((mfind es k).bind fun j => (mget es k).map fun v => (i + j, v)) w
  | [], es, i, h => by
    have : es = [] := by simpa using h.symm
    subst this
    simp [Instr.findAsking, mfind]
  | e :: l, [], i, h => by simp at h
  | e :: l, p :: es, i, h => by
    simp only [List.map_cons, List.cons.injEq, Prod.mk.injEq] at h
    obtain ⟨⟨h1, h2⟩, h3⟩ := h
    have ih := findAsking_run K k w l es (i + 1) h3
    simp only [Instr.findAsking, Sem.run_bind, h1, K.eq, Result.andThen_ok]
    by_cases hk : k = p.1
    · subst hk
      simp [mfind, mget, List.findIdx?_cons, h2]
    · have hk' : ¬ p.1 = k := fun h => hk h.symm
      simp only [hk, decide_false, Bool.false_eq_true, if_false, ih]
      simp only [mfind, mget, List.findIdx?_cons, List.find?_cons, hk', decide_false]
      cases h4 : List.findIdx? (fun p => decide (p.1 = k)) es with
      | none => simp
      | some j => simp [Nat.add_assoc, Nat.add_comm 1 j]
theorem mfind_lt {β : Type} {es : List (α × β)} {k : α} {i : Nat} (h : mfind es k = some i) : i < es.length := by
  have := List.findIdx?_eq_some_iff_getElem.1 h
  exact this.1
theorem mfind_get {β : Type} {es : List (α × β)} {k : α} {i : Nat} (h : mfind es k = some i) : ∃ v, es[i]? = some (k, v) ∧ mget es k = some v := by
  have h1 := List.findIdx?_eq_some_iff_getElem.1 h
  obtain ⟨h2, h3, h4⟩ := h1
  refine ⟨es[i].2, ?_, ?_⟩
  · rw [List.getElem?_eq_getElem h2]
    have : es[i].1 = k := by simpa using h3
    rw [← this]
  · unfold mget
    have : es.find? (fun p => decide (p.1 = k)) = some es[i] := by
      rw [List.find?_eq_some_iff_getElem]
      exact ⟨h3, i, h2, rfl, fun j hj => by simpa using h4 j hj⟩
    rw [this]; rfl
theorem mfind_none {β : Type} {es : List (α × β)} {k : α} (h : mfind es k = none) : mget es k = none := by
  unfold mget mfind at *
  rw [List.findIdx?_eq_none_iff] at h
  have : es.find? (fun p => decide (p.1 = k)) = none := by
    rw [List.find?_eq_none]; intro x hx; simpa using h x hx
  rw [this]; rfl
theorem mget_none {β : Type} {es : List (α × β)} {k : α} (h : mget es k = none) : mfind es k = none := by
  cases h2 : mfind es k with
  | none => rfl
  | some i => obtain ⟨v, _, h3⟩ := mfind_get h2; rw [h] at h3; cases h3
theorem findKey_run (K : KeyOps P kt enc) (k : α) (w : World) (l : List MapEntry) (es : List (α × Value)) (h : l.map (fun e => (e.key, e.val)) = es.map (fun p => (enc p.1, p.2))) :
    (Instr.findKey kt (enc k) l).run P w = .ok ((mfind es k).bind fun j => (mget es k).map fun v => (j, v)) w := by
  obtain ⟨fs, hd⟩ := K.desc
  obtain ⟨cs, hc⟩ := K.agg k
  have h1 := findAsking_run K k w l es 0 h
  unfold Instr.findKey
  rw [hc] at h1 ⊢
  simp only [Sem.run_bind, run_underlying hd, Result.andThen_ok, findNow_agg]
  cases l with
  | nil =>
    have : es = [] := by simpa using h.symm
    subst this
    simp [mfind]
  | cons e l => simpa using h1
end
section
variable {α : Type} {P : Program} {n : Nat} {K : Kont} {e : Env} {w w' : World} {ops : Array Oper} {rest : List Oper} {W0 : World} {L : List Asn} {kt vt mt : TypeId} {enc : α → Value} {r : Nat} {es : List (α × Value)}
theorem run_getObj {r c : Nat} {es : Array MapEntry} (h : w.heap[r]? = some (.map es c)) : (getObj r).run P w = .ok (.map es c) w := by simp [getObj, Sem.run, h]
theorem run_setObj {r c : Nat} {es : Array MapEntry} {o' : Obj} (h : w.heap[r]? = some (.map es c)) : (setObj r o').run P w = .ok () { w with heap := w.heap.setIfInBounds r o' } := by
  have hlt : r < w.heap.size := (Array.getElem?_eq_some_iff.1 h).1
  have h2 : w.heap[r] = .map es c := by simpa [hlt] using h
  simp [setObj, Sem.run, hlt, Array.setIfInBounds, h2]
theorem map_eraseIdx {β γ : Type} {f : β → γ} : ∀ {l : List β} {i : Nat}, (l.eraseIdx i).map f = (l.map f).eraseIdx i
  | [], _ => rfl
  | _ :: _, 0 => rfl
  | b :: l, i + 1 => by simp [map_eraseIdx]
theorem Sep.mapHeap {i : Nat} (hs : Sep W0 w L) (hi : L[i]? = some (mapC enc r es)) : ∃ (l : List MapEntry) (clock : Nat), w.heap[r]? = some (.map l.toArray clock) ∧ l.map (fun e => (e.key, e.val)) = es.map (fun p => (enc p.1, p.2)) ∧ (∀ e ∈ l, e.born < clock) ∧ (l.map (·.born)).Nodup := by
  obtain ⟨S, l, clock, h1, h2⟩ := sepL_at hi hs.sep
  exact ⟨l, clock, (only_of h1).2, h2⟩
theorem Sep.mapSet {i : Nat} {es' : List (α × Value)} {l' : List MapEntry} {clock' : Nat} (hs : Sep W0 w L) (hi : L[i]? = some (mapC enc r es)) (h2 : l'.map (fun e => (e.key, e.val)) = es'.map (fun p => (enc p.1, p.2))) (h3 : ∀ e ∈ l', e.born < clock') (h4 : (l'.map (·.born)).Nodup) :
    Sep W0 { w with heap := w.heap.setIfInBounds r (.map l'.toArray clock') } (L.set i (mapC enc r es')) := by
  obtain ⟨S, ⟨l, clock, h1, _⟩, hSn, hupd⟩ := hs.upd hi
  obtain ⟨hSr, hr⟩ := only_of h1
  have hr : w.heap[r]? = some (.map l.toArray clock) := hr
  have hlt : r < w.heap.size := (Array.getElem?_eq_some_iff.1 hr).1
  refine hupd _ _ rfl rfl rfl (fun b hb => ?_) ⟨l', clock', ?_, h2, h3, h4⟩
  · have : r ≠ b := fun h => by subst h; rw [hSr] at hb; cases hb
    simp [Array.getElem?_setIfInBounds, this]
  · simp [only, hSr, hfOf, hlt]
theorem run_lookup [DecidableEq α] {i : Nat} (Q : KeyOps P kt enc) (hu : P.underlying mt = some (.map kt vt)) (hs : Sep W0 w L) (hi : L[i]? = some (mapC enc r es)) (k : α) (ok : Bool) {z : Value} (hz : ∀ w, Sem.run P (zeroValue vt) w = .ok z w) :
    (Instr.lookup mt (.map (some r)) (enc k) ok).run P w = .ok (if ok then .tuple #[(mget es k).getD z, .bool (mget es k).isSome] else (mget es k).getD z) w := by
  obtain ⟨l, clock, h1, h2, h3, h4⟩ := hs.mapHeap hi
  simp only [Instr.lookup, Sem.run_bind, run_underlying hu, Result.andThen_ok, run_getObj h1, Sem.run_pure, Q.check, findKey_run Q k w l es h2]
  cases h5 : mfind es k with
  | none =>
    rw [mfind_none h5]
    simp [hz]
  | some j =>
    obtain ⟨v, h6, h7⟩ := mfind_get h5
    rw [h7]
    simp
theorem xLookup [DecidableEq α] {d i : Nat} {x y : Operand} {z : Value} {ty : TypeId} {pos : String} {af : Array Edge} (Q : KeyOps P kt enc) (hu : P.underlying mt = some (.map kt vt)) (hz : ∀ w, Sem.run P (zeroValue vt) w = .ok z w) (hs : Sep W0 w L) (hi : L[i]? = some (mapC enc r es)) (k : α)
    (hx : e.ev x = some (.map (some r))) (hy : e.ev y = some (enc k)) : Xq P n e w d (.lookup mt x y false) ty pos af ((mget es k).getD z) := fun a ha => by
  have := run_lookup (ok := false) Q hu hs hi k hz
  simp only [execOp, ha.ev hx, ha.ev hy, Sem.run_bind, this, Result.andThen_ok, Sem.run_pure] <;> rfl
theorem xLookupO [DecidableEq α] {d i : Nat} {x y : Operand} {z : Value} {ty : TypeId} {pos : String} {af : Array Edge} (Q : KeyOps P kt enc) (hu : P.underlying mt = some (.map kt vt)) (hz : ∀ w, Sem.run P (zeroValue vt) w = .ok z w) (hs : Sep W0 w L) (hi : L[i]? = some (mapC enc r es)) (k : α)
    (hx : e.ev x = some (.map (some r))) (hy : e.ev y = some (enc k)) : Xq P n e w d (.lookup mt x y true) ty pos af (.tuple #[(mget es k).getD z, .bool (mget es k).isSome]) := fun a ha => by
  have := run_lookup (ok := true) Q hu hs hi k hz
  simp only [execOp, ha.ev hx, ha.ev hy, Sem.run_bind, this, Result.andThen_ok, Sem.run_pure] <;> rfl
theorem xLookupS [DecidableEq α] {d i : Nat} {x y : Operand} {z v : Value} {ty : TypeId} {pos : String} {af : Array Edge} (Q : KeyOps P kt enc) (hu : P.underlying mt = some (.map kt vt)) (hz : ∀ w, Sem.run P (zeroValue vt) w = .ok z w) (hs : Sep W0 w L) (hi : L[i]? = some (mapC enc r es)) (k : α)
    (hx : e.ev x = some (.map (some r))) (hy : e.ev y = some (enc k)) (hg : mget es k = some v) : Xq P n e w d (.lookup mt x y false) ty pos af v := by
  have h := xLookup (n := n) (d := d) (ty := ty) (pos := pos) (af := af) Q hu hz hs hi k hx hy
  rwa [hg] at h
theorem oMapUpdate [DecidableEq α] {i : Nat} {x y u : Operand} {v : Value} {ty : TypeId} {pos : String} {af : Array Edge} (Q : KeyOps P kt enc) (hu : P.underlying mt = some (.map kt vt)) (hs : Sep W0 w L) (hi : L[i]? = some (mapC enc r es)) (k : α)
    (hx : e.ev x = some (.map (some r))) (hy : e.ev y = some (enc k)) (hv : e.ev u = some v) (hk : ∀ w', Sep W0 w' (L.set i (mapC enc r (mset es k v))) → Ops P n ops K rest e w') :
    Ops P n ops K (⟨none, .mapUpdate mt x y u, ty, pos, af, none⟩ :: rest) e w := by
  obtain ⟨l, clock, h1, h2, h3, h4⟩ := hs.mapHeap hi
  cases h5 : mfind es k with
  | none =>
    have h6 := findKey_run Q k w l es h2
    rw [h5] at h6
    refine Ops.skipn rfl rfl (fun a ha => ?_) (hk _ (hs.mapSet (l' := l ++ [{ key := enc k, val := v, born := clock }]) (clock' := clock + 1) hi ?_ ?_ ?_))
    · simp only [execOp, ha.ev hx, ha.ev hy, ha.ev hv, Instr.mapUpdate, Sem.run_bind, run_underlying hu, Result.andThen_ok, run_getObj h1, Q.check, h6, Option.bind_none, run_setObj h1, Sem.run_pure]
      simp
    · simp [h2, mset, h5]
    · intro e he
      simp at he
      rcases he with he | rfl
      · have := h3 e he; omega
      · simp
    · rw [List.map_append, List.nodup_append]
      refine ⟨h4, by simp, ?_⟩
      intro b hb c hc
      simp at hc; subst hc
      simp at hb
      obtain ⟨e, he, rfl⟩ := hb
      have := h3 e he; omega
  | some j =>
    obtain ⟨u0, h8, h7⟩ := mfind_get h5
    have h6 := findKey_run Q k w l es h2
    rw [h5, h7] at h6
    have hlen : l.length = es.length := by simpa using congrArg List.length h2
    have hj : j < l.length := by rw [hlen]; exact mfind_lt h5
    have hkey : l[j].key = enc k := by
      have := congrArg (·[j]?) h2
      simp [hj, h8] at this
      exact this.1
    refine Ops.skipn rfl rfl (fun a ha => ?_) (hk _ (hs.mapSet (l' := l.modify j (fun e => { e with key := enc k, val := v })) (clock' := clock) hi ?_ ?_ ?_))
    · have hstay : (Instr.keyThatStays (enc k) (enc k)).run P w = .ok (enc k) w := by simp [Instr.keyThatStays, Q.same]
      have hj2 : (l.toArray[j]?.map (·.key)).getD (enc k) = enc k := by simp [hj, hkey]
      simp only [execOp, ha.ev hx, ha.ev hy, ha.ev hv, Instr.mapUpdate, Sem.run_bind, run_underlying hu, Result.andThen_ok, run_getObj h1, Q.check, h6, Option.bind_some, Option.map_some, hj2, hstay, run_setObj h1, Sem.run_pure]
      simp
    · apply List.ext_getElem?
      intro t
      have ht := congrArg (·[t]?) h2
      simp only [List.getElem?_map] at ht
      simp only [List.getElem?_map, List.getElem?_modify, mset, h5, List.getElem?_set]
      by_cases hjt : j = t
      · subst hjt
        simp [hj, ← hlen]
      · simp [hjt, ht]
    · intro e he
      obtain ⟨t, ht, rfl⟩ := List.getElem_of_mem he
      simp only [List.getElem_modify]
      simp at ht
      split
      · exact h3 l[t] (List.getElem_mem _)
      · exact h3 _ (List.getElem_mem _)
    · have : (l.modify j (fun e => { e with key := enc k, val := v })).map (·.born) = l.map (·.born) := by
        apply List.ext_getElem?
        intro t
        simp only [List.getElem?_map, List.getElem?_modify]
        split <;> cases l[t]? <;> simp
      rw [this]; exact h4
theorem oDelete [DecidableEq α] {i : Nat} {x y : Operand} {kt' : TypeId} {ty : TypeId} {pos : String} {af : Array Edge} (Q : KeyOps P kt enc) (hu : P.underlying mt = some (.map kt vt)) (hs : Sep W0 w L) (hi : L[i]? = some (mapC enc r es)) (k : α)
    (hx : e.ev x = some (.map (some r))) (hy : e.ev y = some (enc k)) (hk : ∀ w', Sep W0 w' (L.set i (mapC enc r (mdel es k))) → Ops P n ops K rest e w') :
    Ops P n ops K (⟨none, .call ⟨.builtin .delete, #[x, y], #[mt, kt']⟩, ty, pos, af, none⟩ :: rest) e w := by
  obtain ⟨l, clock, h1, h2, h3, h4⟩ := hs.mapHeap hi
  have h6 := findKey_run Q k w l es h2
  cases h5 : mfind es k with
  | none =>
    rw [h5] at h6
    refine Ops.valn (v := .tuple #[]) rfl rfl (fun a ha => ?_) (hk _ (hs.mapSet (l' := l) (clock' := clock) hi ?_ h3 h4))
    · simp only [execOp, resolve, invoke, builtin, List.map_toArray, List.map_cons, List.map_nil, ha.ev hx, ha.ev hy, Builtin.delete_, Sem.run_bind, run_underlying hu, Result.andThen_ok, run_getObj h1, Q.check, h6, Option.bind_none, run_setObj h1, Sem.run_pure]
      simp [run_underlying hu, run_getObj h1, Q.check, h6, run_setObj h1]
    · rw [mdel, h5]; exact h2
  | some j =>
    obtain ⟨u0, h8, h7⟩ := mfind_get h5
    rw [h5, h7] at h6
    have hlen : l.length = es.length := by simpa using congrArg List.length h2
    have hj : j < l.length := by rw [hlen]; exact mfind_lt h5
    refine Ops.valn (v := .tuple #[]) rfl rfl (fun a ha => ?_) (hk _ (hs.mapSet (l' := l.eraseIdx j) (clock' := clock) hi ?_ ?_ ?_))
    · simp only [execOp, resolve, invoke, builtin, List.map_toArray, List.map_cons, List.map_nil, ha.ev hx, ha.ev hy, Builtin.delete_, Sem.run_bind, run_underlying hu, Result.andThen_ok, run_getObj h1, Q.check, h6, Option.bind_some, Option.map_some, run_setObj h1, Sem.run_pure]
      simp [run_underlying hu, run_getObj h1, Q.check, h6, run_setObj h1, Array.eraseIdxIfInBounds, hj]
    · rw [mdel, h5]
      rw [map_eraseIdx, map_eraseIdx, h2]
    · exact fun e he => h3 e (List.mem_of_mem_eraseIdx he)
    · rw [map_eraseIdx]
      exact h4.sublist (List.eraseIdx_sublist _ _)
theorem oMakeMap {d : Nat} {t : TypeId} {ty : TypeId} {pos : String} {af : Array Edge} (enc : α → Value) (hs : Sep W0 w L) (hn : Nat.blt d n = true) (hk : ∀ r w', Sep W0 w' (mapC enc r [] :: L) → Ops P n ops K rest ((d, .map (some r)) :: e) w') :
    Ops P n ops K (⟨some d, .makeMap t none, ty, pos, af, none⟩ :: rest) e w :=
  Ops.val (w' := { w with heap := w.heap.push (.map #[] 0) }) rfl rfl hn (fun a ha => by
    simp [execOp, Instr.makeMap, newObj, Sem.run]) (hk w.heap.size _ (hs.new fun h hb => ⟨[], 0, hb, by simp, by simp, by simp⟩))
end
end Go.Sl
namespace Go.Sl
open Go.ChangeMaps (setBlock)
section
variable {α : Type} {P : Program} {n : Nat} {K : Kont} {e : Env} {w w' : World} {ops : Array Oper} {rest : List Oper} {W0 : World} {L : List Asn} {mt kt vt : TypeId} {enc : α → Value} {r it : Nat} {es left : List (α × Value)} {cur : Option (α × Value)}
def rangeC (enc : α → Value) (r it : Nat) (es left : List (α × Value)) (cur : Option (α × Value)) : Asn := fun h => ∃ (l : List MapEntry) (clock : Nat) (seen : Array Nat), h r = some (.map l.toArray clock) ∧ l.map (fun e => (e.key, e.val)) = es.map (fun p => (enc p.1, p.2)) ∧ (∀ e ∈ l, e.born < clock) ∧ (l.map (·.born)).Nodup ∧
  h it = some (.mapIter (some r) clock seen clock) ∧ (l.filter (fun e => !seen.contains e.born)).map (fun e => (e.key, e.val)) = left.map (fun p => (enc p.1, p.2)) ∧
  ∀ x, cur = some x → ∃ e ∈ l, (e.key, e.val) = (enc x.1, x.2) ∧ ∃ s0 : Array Nat, seen = s0.push e.born
theorem oRange {d i : Nat} {x : Operand} {ty : TypeId} {pos : String} {af : Array Edge} (hu : P.underlying mt = some (.map kt vt)) (hs : Sep W0 w L) (hi : L[i]? = some (mapC enc r es))
    (hx : e.ev x = some (.map (some r))) (hn : Nat.blt d n = true) (hk : ∀ it w', Sep W0 w' (L.set i (rangeC enc r it es es none)) → Ops P n ops K rest ((d, .pointer (some ⟨it, 0, none⟩)) :: e) w') :
    Ops P n ops K (⟨some d, .range mt x, ty, pos, af, none⟩ :: rest) e w := by
  obtain ⟨S, ⟨l, clock, h1, h2, h3, h4⟩, hSn, hupd⟩ := hs.upd hi
  obtain ⟨hSr, hr⟩ := only_of h1
  have hr : w.heap[r]? = some (.map l.toArray clock) := hr
  have hlt : r < w.heap.size := (Array.getElem?_eq_some_iff.1 hr).1
  refine Ops.val (w' := { w with heap := w.heap.push (.mapIter (some r) clock #[] clock) }) rfl rfl hn (fun a ha => ?_) (hk w.heap.size _ (hupd _ _ rfl rfl rfl (fun b hb => ?_) ⟨l, clock, #[], ?_, h2, h3, h4, ?_, ?_, ?_⟩))
  · have h5 := run_getObj (P := P) hr
    simp only [execOp, ha.ev hx, Instr.range, Sem.run_bind, run_underlying hu, Result.andThen_ok, h5, Sem.run_pure]
    simp [newObj, Sem.run]
  · have : b < w.heap.size := Nat.lt_of_not_le fun h => by rw [hSn b h] at hb; cases hb
    simp only [Array.getElem?_push]
    rw [if_neg (by omega)]
  · simp only [only, hSr, hfOf, Array.getElem?_push]
    rw [if_neg (by omega)]
    exact hr
  · simp only [only, hSn _ (Nat.le_refl _), hfOf, Array.getElem?_push]
    simp
  · rw [List.filter_eq_self.2 (by simp)]; exact h2
  · intro x hx; cases hx
theorem Sep.rangeEnd {i : Nat} (hs : Sep W0 w L) (hi : L[i]? = some (rangeC enc r it es left cur)) : Sep W0 w (L.set i (mapC enc r es)) :=
  hs.imp hi fun h ⟨l, clock, seen, h1, h2, h3, h4, _⟩ => ⟨l, clock, h1, h2, h3, h4⟩
theorem filter_out : ∀ {ll : List MapEntry} {e : MapEntry}, (ll.map (·.born)).Nodup → e ∈ ll → ∃ p q, ll = p ++ e :: q ∧ ll.filter (fun x => !(x.born == e.born)) = p ++ q
  | [], e, _, h => by simp at h
  | x :: ll, e, hn, h => by
    simp only [List.map_cons, List.nodup_cons] at hn
    obtain ⟨h1, h2⟩ := hn
    by_cases hx : x = e
    · subst hx
      refine ⟨[], ll, rfl, ?_⟩
      simp only [List.filter_cons, beq_self_eq_true, Bool.not_true, Bool.false_eq_true, if_false, List.nil_append]
      rw [List.filter_eq_self]
      intro y hy
      have : y.born ≠ x.born := fun hb => h1 (by rw [← hb]; exact List.mem_map_of_mem hy)
      simpa using this
    · have he : e ∈ ll := by
        rcases List.mem_cons.1 h with h | h
        · exact absurd h.symm hx
        · exact h
      obtain ⟨p, q, h3, h4⟩ := filter_out h2 he
      refine ⟨x :: p, q, by rw [h3]; rfl, ?_⟩
      have hb : x.born ≠ e.born := fun hb => h1 (by rw [hb]; exact List.mem_map_of_mem he)
      simp [List.filter_cons, hb, h4]
theorem map_split {β γ δ : Type} {f : β → δ} {g : γ → δ} : ∀ {p q : List β} {b : β} {l : List γ}, (p ++ b :: q).map f = l.map g → ∃ a x c, l = a ++ x :: c ∧ g x = f b ∧ (p ++ q).map f = (a ++ c).map g
  | [], q, b, [], h => by simp at h
  | [], q, b, x :: l, h => by
    simp at h
    exact ⟨[], x, l, rfl, h.1.symm, by simpa using h.2⟩
  | y :: p, q, b, [], h => by simp at h
  | y :: p, q, b, z :: l, h => by
    simp only [List.cons_append, List.map_cons, List.cons.injEq] at h
    obtain ⟨a, x, c, h1, h2, h3⟩ := map_split h.2
    exact ⟨z :: a, x, c, by rw [h1]; rfl, h2, by simp only [List.cons_append, List.map_cons, h.1, h3]⟩
theorem oNext {d i : Nat} {x : Operand} {ty : TypeId} {pos : String} {af : Array Edge} (hs : Sep W0 w L) (hi : L[i]? = some (rangeC enc r it es left cur))
    (hx : e.ev x = some (.pointer (some ⟨it, 0, none⟩))) (hn : Nat.blt d n = true)
    (hk0 : left = [] → ∀ w', Sep W0 w' (L.set i (rangeC enc r it es [] cur)) → Ops P n ops K rest ((d, .tuple #[.bool false]) :: e) w')
    (hk1 : ∀ a y c, left = a ++ y :: c → ∀ w', Sep W0 w' (L.set i (rangeC enc r it es (a ++ c) (some y))) → Ops P n ops K rest ((d, .tuple #[.bool true, enc y.1, y.2]) :: e) w') :
    Ops P n ops K (⟨some d, .next x false, ty, pos, af, none⟩ :: rest) e w := by
  obtain ⟨S, ⟨l, clock, seen, h1, h2, h3, h4, h5, h6, h7⟩, hSn, hupd⟩ := hs.upd hi
  obtain ⟨hSr, hr⟩ := only_of h1
  obtain ⟨hSi, hit⟩ := only_of h5
  have hr : w.heap[r]? = some (.map l.toArray clock) := hr
  have hit : w.heap[it]? = some (.mapIter (some r) clock seen clock) := hit
  have hlt : it < w.heap.size := (Array.getElem?_eq_some_iff.1 hit).1
  have hl : (leftOf l.toArray seen).toList = l.filter (fun e => !seen.contains e.born) := by simp [leftOf]
  rcases run_next_at (P := P) w ty it r clock clock seen l.toArray clock hit hr (by simpa using h3) (Nat.le_refl _) with ⟨h8, h9⟩ | ⟨e0, he0, w1, hw1, h9⟩
  · have : (leftOf l.toArray seen) = #[] := Array.eq_empty_of_size_eq_zero h8
    rw [this] at hl
    rw [← hl] at h6
    have hle : left = [] := by simpa using h6.symm
    subst hle
    refine Ops.val rfl rfl hn (fun a ha => ?_) (hk0 rfl w (by rw [set_self hi]; exact hs))
    simp only [execOp, ha.ev hx, Sem.run_bind, h9, Result.andThen_ok, Sem.run_pure]
  · rw [hl] at he0
    have hnd : ((l.filter (fun e => !seen.contains e.born)).map (·.born)).Nodup := h4.sublist (List.Sublist.map _ List.filter_sublist)
    obtain ⟨p, q, h10, h11⟩ := filter_out hnd he0
    rw [h10] at h6
    obtain ⟨a, y, c, h12, h13, h14⟩ := map_split h6
    simp only [Prod.mk.injEq] at h13
    obtain ⟨h13, h15⟩ := h13
    have hr2 : w1.heap[r]? = some (.map l.toArray clock) := by rcases hw1 with rfl | rfl <;> exact hr
    have hlt2 : it < w1.heap.size := by rcases hw1 with rfl | rfl <;> exact hlt
    have hold : ∀ b : Nat, w1.heap[b]? = w.heap[b]? := by rcases hw1 with rfl | rfl <;> exact fun _ => rfl
    refine Ops.val (v := .tuple #[.bool true, enc y.1, y.2]) rfl rfl hn (fun a' ha => ?_) (hk1 a y c h12 _ (hupd (setBlock w1 it (.mapIter (some r) clock (seen.push e0.born) clock)) _ ?_ ?_ ?_ (fun b hb => ?_) ⟨l, clock, seen.push e0.born, ?_, h2, h3, h4, ?_, ?_, ?_⟩))
    · simp only [execOp, ha.ev hx, Sem.run_bind, h9, Result.andThen_ok, Sem.run_pure, h13, h15]
    · rcases hw1 with rfl | rfl <;> rfl
    · rcases hw1 with rfl | rfl <;> rfl
    · rcases hw1 with rfl | rfl <;> rfl
    · have hne : it ≠ b := fun hne => by subst hne; rw [hSi] at hb; cases hb
      simp only [setBlock, Array.getElem?_setIfInBounds, hne, if_false]
      exact hold b
    · have hne : it ≠ r := fun hne => by subst hne; rw [hr] at hit; cases hit
      simp only [only, hSr, hfOf, setBlock, Array.getElem?_setIfInBounds, hne, if_false, cond_true]
      exact hr2
    · simp only [only, hSi, hfOf, setBlock, Array.getElem?_setIfInBounds, if_true, hlt2, cond_true]
    · have e1 : l.filter (fun e => !(seen.push e0.born).contains e.born) = p ++ q := by
        rw [← h11, List.filter_filter]
        congr 1
        funext z
        rw [Bool.eq_iff_iff]
        simp [Array.contains_push, Bool.and_comm]
      rw [e1]; exact h14
    · rintro z hz
      cases hz
      exact ⟨e0, (List.mem_filter.1 he0).1, by rw [h13, h15], seen, rfl⟩
theorem xEntry {d i : Nat} {x : Operand} {y : α × Value} {ty : TypeId} {pos : String} {af : Array Edge} (hs : Sep W0 w L) (hi : L[i]? = some (rangeC enc r it es left (some y)))
    (hx : e.ev x = some (.pointer (some ⟨it, 0, none⟩))) : Xq P n e w d (.entry x) ty pos af (.tuple #[enc y.1, y.2]) := fun a ha => by
  obtain ⟨S, l, clock, seen, h1, h2, h3, h4, h5, h6, h7⟩ := sepL_at hi hs.sep
  have hr : w.heap[r]? = some (.map l.toArray clock) := (only_of h1).2
  have hit : w.heap[it]? = some (.mapIter (some r) clock seen clock) := (only_of h5).2
  obtain ⟨e0, he0, h8, s0, rfl⟩ := h7 y rfl
  have h9 := run_entry_at (P := P) w it r clock s0 l.toArray clock e0 hit hr (by simpa using he0) (by simpa using h4)
  simp only [Prod.mk.injEq] at h8
  simp only [execOp, ha.ev hx, Sem.run_bind, h9, Result.andThen_ok, Sem.run_pure, h8.1, h8.2]
end
end Go.Sl
namespace Go.Sl
section
variable {P : Program} {n : Nat} {K : Kont} {e : Env} {w w' : World} {ops : Array Oper} {rest : List Oper} {W0 : World} {L : List Asn}
theorem xMakeFunc {d : Nat} {f : FuncId} {xs ys : List Operand} {vs us : List Value} {ty : TypeId} {pos : String} {af : Array Edge} (hx : e.evs xs = some vs) (hy : e.evs ys = some us) :
    Xq P n e w d (.makeFunc (.func f) xs.toArray ys.toArray) ty pos af (.func (.func f) vs.toArray us.toArray) := fun a ha => by
  have h1 := ha.evs hx
  have h2 := ha.evs hy
  simp [execOp, Instr.makeFunc, h1, h2]
theorem oCallV {d : Nat} {f : FuncId} {x : Operand} {fs cs : List Value} {xs : List Operand} {vs : List Value} {tys : Array TypeId} {ty : TypeId} {pos : String} {af : Array Edge} {R : Value → World → Prop}
    (hf : e.ev x = some (.func (.func f) fs.toArray cs.toArray)) (hcf : ∀ (args : Array Value) (w : World), Sem.run P (callFunc f args) w = .ok (.enter f args) w) (hn : Nat.blt d n = true) (hx : e.evs xs = some vs) (hc : Calls P f (fs ++ vs ++ cs).toArray w (Ret R))
    (hk : ∀ v w', R v w' → Ops P n ops K rest ((d, v) :: e) w') : Ops P n ops K (⟨some d, .call ⟨.value x, xs.toArray, tys⟩, ty, pos, af, none⟩ :: rest) e w := fun a ha =>
  wpList_plain rfl fun K' hK => by
    have hargs := ha.evs hx
    have hfv := ha.ev hf
    have : (execOp a.eval ⟨some d, .call ⟨.value x, xs.toArray, tys⟩, ty, pos, af, none⟩).run P w = .ok (.enter f (fs ++ vs ++ cs).toArray) w := by
      simp only [execOp, resolve, hfv, Deferred.ofValue]
      simp [invoke, hcf, hargs]
    unfold Oper.wp
    rw [this, Oper.upon_enter]
    refine hc.mono ?_
    rintro e' w' ⟨v, rfl, hR⟩
    exact hK _ _ (hk v w' hR _ (ha.put hn v))
theorem bT {P : Program} {s : Sem Value} {φ : Prop} {d : Decidable φ} (h : φ) (hr : ∀ w, Sem.run P s w = .ok (.bool (@decide φ d)) w) (w : World) : Sem.run P s w = .ok (.bool true) w := by rw [hr, decide_eq_true h]
theorem bF {P : Program} {s : Sem Value} {φ : Prop} {d : Decidable φ} (h : ¬ φ) (hr : ∀ w, Sem.run P s w = .ok (.bool (@decide φ d)) w) (w : World) : Sem.run P s w = .ok (.bool false) w := by rw [hr, decide_eq_false h]
def Kjmp (l : Nat) (J : Env → World → Prop) (K : Kont) : Kont
  | .goto l', e, w => l' = l ∧ J e w
  | x, e, w => K x e w
def Jany (I : Nat → Env → World → Prop) : Env → World → Prop := fun e w => ∃ m e', I m e' w ∧ Sub e' e
def Jlt (I : Nat → Env → World → Prop) (m : Nat) : Env → World → Prop := fun e w => ∃ m' e', m' < m ∧ I m' e' w ∧ Sub e' e
theorem Kjmp.mono {l : Nat} {J J' : Env → World → Prop} (h : ∀ e w, J e w → J' e w) : ∀ x e w, Kjmp l J K x e w → Kjmp l J' K x e w := by
  intro x e w hk
  cases x with
  | goto l' => exact ⟨hk.1, h _ _ hk.2⟩
  | normal => exact hk
  | exit id => exact hk
  | ret => exact hk
  | panic ch => exact hk
  | outgrown => exact hk
theorem least_of {p : Nat → Prop} (h : ∃ m, p m) : ∃ m, p m ∧ ∀ k, p k → m ≤ k := by
  obtain ⟨m, hm⟩ := h
  induction m using Nat.strongRecOn with
  | _ m ih =>
    by_cases hk : ∃ k, k < m ∧ p k
    · obtain ⟨k, h1, h2⟩ := hk; exact ih k h1 h2
    · exact ⟨m, hm, fun k hp => Nat.le_of_not_lt fun hlt => hk ⟨k, hlt, hp⟩⟩
theorem rScopeJ {c X : Code} (l : Nat) (I : Nat → Env → World → Prop) (hf : findLabel c l = some (.seq .skip X)) (hfirst : (∀ m e w, I m e w → Run P n X (Kjmp l (Jany I) K) e w) → Run P n c (Kjmp l (Jany I) K) e w)
    (hpass : ∀ m e w, I m e w → Run P n X (Kjmp l (Jlt I m) K) e w) : Run P n (.scope c) K e w := fun a ha => by
  have hp2 : ∀ m e w, I m e w → Run P n X (Kjmp l (Jany I) K) e w := fun m e w h => (hpass m e w h).mono (Kjmp.mono fun _ _ ⟨m', e', _, h2, h3⟩ => ⟨m', e', h2, h3⟩)
  have h1 := hfirst hp2 a ha
  let G : Act → World → Nat → Prop := fun a w m => ∃ e, Agrees a n e ∧ I m e w
  let μ : Act → World → Nat := fun a w => @dite _ (∃ m, G a w m) (Classical.propDecidable _) (fun h => Classical.choose (least_of h)) (fun _ => 0)
  refine wp_scope_jumps l (fun a w => ∃ m, G a w m) μ hf (wp_mono h1 ?_) ?_
  · rintro x a w ⟨e, hag, hk⟩
    cases x with
    | goto l' =>
      obtain ⟨rfl, m, e', hI, hsub⟩ := hk
      exact ⟨rfl, m, e', hag.sub hsub, hI⟩
    | normal => exact ⟨e, hag, hk⟩
    | exit id => exact ⟨e, hag, hk⟩
    | ret => exact ⟨e, hag, hk⟩
    | panic ch => exact ⟨e, hag, hk⟩
    | outgrown => exact ⟨e, hag, hk⟩
  · intro a w hJ
    have hμ : μ a w = Classical.choose (least_of hJ) := by simp only [μ, dif_pos hJ]
    obtain ⟨e, hag, hI⟩ := (Classical.choose_spec (least_of hJ)).1
    rw [← hμ] at hI
    have h2 := hpass _ e w hI a hag
    have h3 : (Code.seq .skip X).wp P (lift n (Kjmp l (Jlt I (μ a w)) K)) a w := wp_seq (wp_skip h2)
    refine wp_mono h3 ?_
    rintro x a' w' ⟨e', hag', hk⟩
    cases x with
    | goto l' =>
      obtain ⟨rfl, m', e'', hlt, hI', hsub⟩ := hk
      have hJ' : ∃ m, G a' w' m := ⟨m', e'', hag'.sub hsub, hI'⟩
      refine ⟨rfl, hJ', ?_⟩
      have hμ' : μ a' w' = Classical.choose (least_of hJ') := by simp only [μ, dif_pos hJ']
      have : μ a' w' ≤ m' := by rw [hμ']; exact (Classical.choose_spec (least_of hJ')).2 m' ⟨e'', hag'.sub hsub, hI'⟩
      omega
    | normal => exact ⟨e', hag', hk⟩
    | exit id => exact ⟨e', hag', hk⟩
    | ret => exact ⟨e', hag', hk⟩
    | panic ch => exact ⟨e', hag', hk⟩
    | outgrown => exact ⟨e', hag', hk⟩
theorem kJmpR {l : Nat} {J : Env → World → Prop} (h : K .ret e w) : Kjmp l J K .ret e w := h
theorem kJmpG {l : Nat} {J : Env → World → Prop} (h : J e w) : Kjmp l J K (.goto l) e w := ⟨rfl, h⟩
theorem kSeqG {y : Code} {l : Nat} (h : K (.goto l) e w) : Kseq P n y K (.goto l) e w := h
end
end Go.Sl
namespace Go.Sl
theorem shr8_nat (c : UInt64) : ∀ k, (shr8 c k).toNat = c.toNat / 2 ^ (8 * k)
  | 0 => by simp [shr8]
  | k + 1 => by
    have h1 : (UInt64.ofNat 8).toNat % 64 = 8 := rfl
    rw [shr8, UInt64.toNat_shiftRight, h1, shr8_nat c k, Nat.shiftRight_eq_div_pow, Nat.div_div_eq_div_mul, ← Nat.pow_add]
    congr 2
theorem le_getD (c : UInt64) : ∀ {m k : Nat}, k < m → (le c m).getD k 0 = (shr8 c k).toUInt8
  | 0, _, h => by omega
  | m + 1, k, h => by
    rw [le, List.getD_eq_getElem?_getD]
    by_cases hk : k < m
    · rw [List.getElem?_append_left (by rw [le_length]; exact hk), ← List.getD_eq_getElem?_getD]
      exact le_getD c hk
    · obtain rfl : k = m := by omega
      rw [List.getElem?_append_right (by rw [le_length]; exact Nat.le_refl _), le_length]; simp
theorem numP_le (c : UInt64) (m : Nat) (hm : m ≤ 8) : ∀ k, k ≤ m → (numP (le c m) k).toNat = c.toNat % 2 ^ (8 * k)
  | 0, _ => by simp [numP, Nat.mod_one]
  | k + 1, h => by
    have ih := numP_le c m hm k (by omega)
    have hb : ((le c m).getD k 0).toUInt64.toNat = c.toNat / 2 ^ (8 * k) % 256 := by
      rw [le_getD c (by omega)]; simp [shr8_nat]
    have h8 : (UInt64.ofNat (8 * k)).toNat % 64 = 8 * k := by
      have : 8 * k < 64 := by omega
      simp; omega
    have hlt : c.toNat % 2 ^ (8 * k) < 2 ^ (8 * k) := Nat.mod_lt _ (Nat.two_pow_pos _)
    have hsh : (c.toNat / 2 ^ (8 * k) % 256) * 2 ^ (8 * k) < 2 ^ 64 := by
      have h1 : c.toNat / 2 ^ (8 * k) % 256 ≤ 255 := by omega
      have h2 : (c.toNat / 2 ^ (8 * k) % 256) * 2 ^ (8 * k) ≤ 255 * 2 ^ (8 * k) := Nat.mul_le_mul_right _ h1
      have h3 : 255 * 2 ^ (8 * k) < 256 * 2 ^ (8 * k) := Nat.mul_lt_mul_of_pos_right (by omega) (Nat.two_pow_pos _)
      have h4 : 256 * 2 ^ (8 * k) = 2 ^ (8 * (k + 1)) := by rw [show 8 * (k + 1) = 8 + 8 * k by omega, Nat.pow_add]
      have h5 : 2 ^ (8 * (k + 1)) ≤ 2 ^ 64 := Nat.pow_le_pow_right (by omega) (by omega)
      omega
    rw [numP, UInt64.toNat_or, UInt64.toNat_shiftLeft, ih, hb, h8, Nat.shiftLeft_eq, Nat.mod_eq_of_lt hsh, Nat.or_comm, Nat.mul_comm]
    have h6 := Nat.two_pow_add_eq_or_of_lt hlt (c.toNat / 2 ^ (8 * k) % 256)
    rw [show 8 * (k + 1) = 8 * k + 8 by omega, Nat.pow_add, Nat.mod_mul, show (2 : Nat) ^ 8 = 256 from rfl, Nat.or_comm, Nat.or_comm (c.toNat % 2 ^ (8 * k)), ← h6]
    omega
theorem num_le (c : UInt64) (m : Nat) (hm : m ≤ 8) : (num (le c m)).toNat = c.toNat % 2 ^ (8 * m) := by
  rw [num, le_length]; exact numP_le c m hm m (Nat.le_refl _)
theorem num_le8 (c : UInt64) : num (le c 8) = c := by
  apply UInt64.toNat_inj.1; rw [num_le c 8 (by omega)]; have := c.toNat_lt; omega
theorem num_le4 (c : UInt32) : (num (le c.toUInt64 4)).toUInt32 = c := by
  apply UInt32.toNat_inj.1
  have h := num_le c.toUInt64 4 (by omega)
  have := c.toNat_lt
  simp at h ⊢; omega
theorem num_le2 (c : UInt16) : (num (le c.toUInt64 2)).toUInt16 = c := by
  apply UInt16.toNat_inj.1
  have h := num_le c.toUInt64 2 (by omega)
  have := c.toNat_lt
  simp at h ⊢; omega
theorem rawR_app {a b : List UInt8} {m : Nat} (h : a.length = m) : rawR (a ++ b) ((m : Nat) : Int) = a := by
  have : rawOk (a ++ b) ((m : Nat) : Int) = true := by simp [rawOk]; omega
  rw [rawR, if_pos this]; simp [← h]
theorem rawL_app {a b : List UInt8} {m : Nat} (h : a.length = m) : rawL (a ++ b) ((m : Nat) : Int) = b := by
  have : rawOk (a ++ b) ((m : Nat) : Int) = true := by simp [rawOk]; omega
  rw [rawL, if_pos this]; simp [← h]
theorem rawT_app {a b : List UInt8} {m : Nat} {tn : Bool} (h : a.length = m) : rawT (a ++ b) tn ((m : Nat) : Int) = tn := by
  have : rawOk (a ++ b) ((m : Nat) : Int) = true := by simp [rawOk]; omega
  rw [rawT, if_pos this]
theorem rawR_all {a : List UInt8} {m : Nat} (h : a.length = m) : rawR a ((m : Nat) : Int) = a := by have := rawR_app (b := []) h; simpa using this
theorem sh_app (s : Sh) (b : List UInt8) : s.bytes ++ b = le s.o.toUInt64 4 ++ (le s.st.toUInt64 2 ++ (le s.sl.toUInt64 2 ++ (le s.g.toUInt64 4 ++ b))) := by simp [Sh.bytes]
theorem shOf_bytes (s : Sh) (b : List UInt8) : shOf (s.bytes ++ b) = s := by
  rw [sh_app, shOf]
  simp only [rawL_app (le_length _ _), rawR_app (le_length _ _), num_le4, num_le2]
theorem shL_bytes (s : Sh) (b : List UInt8) : shL (s.bytes ++ b) = b := by
  rw [sh_app, shL]
  simp only [rawL_app (le_length _ _)]
theorem shT_bytes (s : Sh) (b : List UInt8) (tn : Bool) : shT (s.bytes ++ b) tn = tn := by
  rw [sh_app, shT]
  simp only [rawL_app (le_length _ _), rawT_app (le_length _ _)]
theorem frame_app (kind : UInt16) (l : List UInt8) : frame kind l = le 53021 2 ++ (le kind.toUInt64 2 ++ (le (UInt64.ofInt l.length) 4 ++ (le (crc (crc 0 (frameH kind l)) l).toUInt64 4 ++ l))) := by simp [frame, frameH]
theorem frame_take8 (kind : UInt16) (l : List UInt8) : (frame kind l).take 8 = frameH kind l := by
  rw [frame, List.append_assoc, List.take_append, frameH_length, List.take_of_length_le (by rw [frameH_length]; omega)]; simp
theorem num_len {l : List UInt8} (h : l.length ≤ 65536) : (num (le (UInt64.ofInt (l.length : Int)) 4)).toNat = l.length := by
  rw [num_le _ 4 (by omega)]
  have : (UInt64.ofInt (l.length : Int)).toNat = l.length := by
    have h2 : UInt64.ofInt (l.length : Int) = UInt64.ofNat l.length := by
      apply UInt64.toNat_inj.1
      simp [UInt64.ofInt]
      omega
    rw [h2]; simp; omega
  rw [this]; omega
theorem num_magic : (num (le (53021 : UInt64) 2)).toNat = 53021 := by rw [num_le _ 2 (by omega)]; rfl
theorem openE_frame {kind : UInt16} {l : List UInt8} (h : l.length ≤ 65536) : openE (frame kind l) = 0 := by
  have hl := num_len h
  unfold openE
  rw [frame_take8, frame_app]
  simp only [rawL_app (le_length _ _), rawR_app (le_length _ _), rawT_app (le_length _ _), hl, num_magic, num_le4]
  rw [rawR_all rfl]
  simp; omega
theorem openK_frame {kind : UInt16} {l : List UInt8} (h : l.length ≤ 65536) : openK (frame kind l) = kind := by
  rw [openK, if_pos (openE_frame h), frame_app]
  simp only [rawL_app (le_length _ _), rawR_app (le_length _ _), num_le2]
theorem openL_frame {kind : UInt16} {l : List UInt8} (h : l.length ≤ 65536) : openL (frame kind l) = l := by
  have hl := num_len h
  rw [openL, if_pos (openE_frame h), frame_app]
  simp only [rawL_app (le_length _ _), rawR_app (le_length _ _), hl]
  rw [rawR_all rfl]
theorem openZ_frame {kind : UInt16} {l : List UInt8} (h : l.length ≤ 65536) : openZ (frame kind l) = 12 + (l.length : Int) := by
  have hl := num_len h
  rw [openZ, if_pos (openE_frame h), frame_app]
  simp only [rawL_app (le_length _ _), rawR_app (le_length _ _), hl]
end Go.Sl
namespace Go.Sl
open Go.Proofs
structure Ky where
  o : UInt32
  st : UInt16
  deriving DecidableEq
abbrev Ky.val (s : Ky) : Value := .agg #[U s.o, H s.st]
theorem map4 {α β : Type} {g : α → β} {l : List α} {a b c d : β} (h : l.map g = [a, b, c, d]) : ∃ x y z u, l = [x, y, z, u] ∧ g x = a ∧ g y = b ∧ g z = c ∧ g u = d := by
  rcases l with _ | ⟨x, _ | ⟨y, _ | ⟨z, _ | ⟨u, _ | ⟨v, l⟩⟩⟩⟩⟩ <;> simp at h
  exact ⟨x, y, z, u, rfl, h.1, h.2.1, h.2.2.1, h.2.2.2⟩
theorem map2 {α β : Type} {g : α → β} {l : List α} {a b : β} (h : l.map g = [a, b]) : ∃ x y, l = [x, y] ∧ g x = a ∧ g y = b := by
  rcases l with _ | ⟨x, _ | ⟨y, _ | ⟨z, l⟩⟩⟩ <;> simp at h
  exact ⟨x, y, rfl, h.1, h.2⟩
theorem shVal_eq (a b : Sh) : decide (a = b) = ((a.o.toNat : Int) == b.o.toNat && ((a.st.toNat : Int) == b.st.toNat && ((a.sl.toNat : Int) == b.sl.toNat && (a.g.toNat : Int) == b.g.toNat))) := by
  obtain ⟨o, st, sl, g⟩ := a
  obtain ⟨o', st', sl', g'⟩ := b
  rw [Bool.eq_iff_iff]
  simp only [decide_eq_true_eq, Sh.mk.injEq, Bool.and_eq_true, beq_iff_eq, Int.natCast_inj, UInt32.toNat_inj, UInt16.toNat_inj]
theorem kyVal_eq (a b : Ky) : decide (a = b) = ((a.o.toNat : Int) == b.o.toNat && (a.st.toNat : Int) == b.st.toNat) := by
  obtain ⟨o, st⟩ := a
  obtain ⟨o', st'⟩ := b
  rw [Bool.eq_iff_iff]
  simp only [decide_eq_true_eq, Ky.mk.injEq, Bool.and_eq_true, beq_iff_eq, Int.natCast_inj, UInt32.toNat_inj, UInt16.toNat_inj]
theorem sh_eqIn (a b : Sh) (w : World) : (Op.equalIn 10000 280 a.val b.val).run Tryz.prog w = .ok (decide (a = b)) w := by
  rw [run_equalIn_struct w 9999 280 _ _ (by kernel_rfl) (by kernel_rfl)]
  have h33 : ∀ (d : Nat) (p q : Int) (w : World), (Op.equalIn (d + 1) 33 (.int .u32 p) (.int .u32 q)).run Tryz.prog w = .ok (p == q) w := fun d p q w => run_equalIn_int w d 33 .u32 .u32 p q (by kernel_rfl)
  have h34 : ∀ (d : Nat) (p q : Int) (w : World), (Op.equalIn (d + 1) 34 (.int .u16 p) (.int .u16 q)).run Tryz.prog w = .ok (p == q) w := fun d p q w => run_equalIn_int w d 34 .u16 .u16 p q (by kernel_rfl)
  have hf : (Tryz.prog.fieldsOf 280).toList.map (fun f => (f.name, f.type, f.offset)) = [("Object", 33, 0), ("Stripe", 34, 1), ("Slot", 34, 2), ("Gen", 33, 3)] := by kernel_rfl
  generalize (Tryz.prog.fieldsOf 280).toList = fs at hf
  obtain ⟨f1, f2, f3, f4, rfl, e1, e2, e3, e4⟩ := map4 hf
  · simp only [Prod.mk.injEq] at e1 e2 e3 e4
    obtain ⟨n1, t1, o1⟩ := e1
    obtain ⟨n2, t2, o2⟩ := e2
    obtain ⟨n3, t3, o3⟩ := e3
    obtain ⟨n4, t4, o4⟩ := e4
    have i33 : ∀ w, Sem.run Tryz.prog (isAgg 33) w = .ok false w := Tryz.isAgg33
    have i34 : ∀ w, Sem.run Tryz.prog (isAgg 34) w = .ok false w := Tryz.isAgg34
    rw [shVal_eq]
    simp only [Op.eqFields, n1, n2, n3, n4, t1, t2, t3, t4, o1, o2, o3, o4, part, Sem.run_bind, i33, i34, Result.andThen_ok]
    simp [h33, h34]
    by_cases h1 : (a.o.toNat : Int) = b.o.toNat <;> by_cases h2 : (a.st.toNat : Int) = b.st.toNat <;> by_cases h3 : (a.sl.toNat : Int) = b.sl.toNat <;> by_cases h4 : (a.g.toNat : Int) = b.g.toNat <;> simp_all
theorem ky_eqIn (a b : Ky) (w : World) : (Op.equalIn 10000 36 a.val b.val).run Tryz.prog w = .ok (decide (a = b)) w := by
  rw [run_equalIn_struct w 9999 36 _ _ (by kernel_rfl) (by kernel_rfl)]
  have h33 : ∀ (d : Nat) (p q : Int) (w : World), (Op.equalIn (d + 1) 33 (.int .u32 p) (.int .u32 q)).run Tryz.prog w = .ok (p == q) w := fun d p q w => run_equalIn_int w d 33 .u32 .u32 p q (by kernel_rfl)
  have h34 : ∀ (d : Nat) (p q : Int) (w : World), (Op.equalIn (d + 1) 34 (.int .u16 p) (.int .u16 q)).run Tryz.prog w = .ok (p == q) w := fun d p q w => run_equalIn_int w d 34 .u16 .u16 p q (by kernel_rfl)
  have hf : (Tryz.prog.fieldsOf 36).toList.map (fun f => (f.name, f.type, f.offset)) = [("Object", 33, 0), ("Stripe", 34, 1)] := by kernel_rfl
  generalize (Tryz.prog.fieldsOf 36).toList = fs at hf
  obtain ⟨f1, f2, rfl, e1, e2⟩ := map2 hf
  · simp only [Prod.mk.injEq] at e1 e2
    obtain ⟨n1, t1, o1⟩ := e1
    obtain ⟨n2, t2, o2⟩ := e2
    have i33 : ∀ w, Sem.run Tryz.prog (isAgg 33) w = .ok false w := Tryz.isAgg33
    have i34 : ∀ w, Sem.run Tryz.prog (isAgg 34) w = .ok false w := Tryz.isAgg34
    rw [kyVal_eq]
    simp only [Op.eqFields, n1, n2, t1, t2, o1, o2, part, Sem.run_bind, i33, i34, Result.andThen_ok]
    simp [h33, h34]
    by_cases h1 : (a.o.toNat : Int) = b.o.toNat <;> by_cases h2 : (a.st.toNat : Int) = b.st.toNat <;> simp_all
theorem sameBits_agg (n : Nat) (cs : Array Value) (h : ∀ v ∈ cs.toList, Instr.sameBits n v v = true) : Instr.sameBits (n + 1) (.agg cs) (.agg cs) = true := by
  simp only [Instr.sameBits, beq_self_eq_true, Bool.true_and, List.all_eq_true]
  rintro ⟨x, y⟩ hxy
  have := List.of_mem_zip hxy
  obtain ⟨i, hi, he⟩ := List.getElem_of_mem hxy
  simp at he hi
  obtain ⟨rfl, rfl⟩ := he
  exact h _ (by simp)
theorem ck_int {P : Program} (em : Bool) (d : Nat) (t : TypeId) (k k' : IntKind) (p : Int) (w : World) (hu : P.underlying t = some (.int k')) : (Instr.checkKey em (d + 1) t (.int k p)).run P w = .ok () w := by
  unfold Instr.checkKey
  simp only [Sem.run_bind, run_underlying hu, Result.andThen_ok, Sem.run_pure]
theorem ck_struct {P : Program} (em : Bool) (d : Nat) (t : TypeId) (cs : Array Value) (w : World) {fs : Array Field} (hu : P.underlying t = some (.struct fs)) (h : ∀ f ∈ fs.toList, f.name ≠ "_" ∧ ∃ v, (part f.type cs f.offset).run P w = .ok v w ∧ (Instr.checkKey em d f.type v).run P w = .ok () w) :
    (Instr.checkKey em (d + 1) t (.agg cs)).run P w = .ok () w := by
  unfold Instr.checkKey
  simp only [Sem.run_bind, run_underlying hu, Result.andThen_ok]
  rw [← Array.forIn_toList]
  generalize fs.toList = l at h
  clear hu
  induction l with
  | nil => simp
  | cons f l ih =>
    obtain ⟨h1, v, h2, h3⟩ := h f (by simp)
    have ih := ih (fun g hg => h g (by simp [hg]))
    simp only [List.forIn_cons, Sem.run_bind, Sem.run_ite, h1, ne_eq, not_false_eq_true, if_true, h2, h3, Result.andThen_ok, Sem.run_pure]
    simp only [Sem.run_bind, Sem.run_ite, ne_eq] at ih
    exact ih
theorem part_int {P : Program} {t : TypeId} {cs : Array Value} {o : Nat} {v : Value} (hag : ∀ w, Sem.run P (isAgg t) w = .ok false w) (hv : cs[o]? = some v) (w : World) : (part t cs o).run P w = .ok v w := by
  simp [part, hag, hv]
theorem shOps : KeyOps Tryz.prog 280 Sh.val where
  check em a w := by
    have hf : (Tryz.prog.fieldsOf 280).toList.map (fun f => (f.name, f.type, f.offset)) = [("Object", 33, 0), ("Stripe", 34, 1), ("Slot", 34, 2), ("Gen", 33, 3)] := by kernel_rfl
    have hu : Tryz.prog.underlying 280 = some (.struct (Tryz.prog.fieldsOf 280)) := by kernel_rfl
    refine ck_struct em 9999 280 _ w hu ?_
    generalize (Tryz.prog.fieldsOf 280).toList = fs at hf
    obtain ⟨f1, f2, f3, f4, rfl, e1, e2, e3, e4⟩ := map4 hf
    simp only [Prod.mk.injEq] at e1 e2 e3 e4
    intro f hfm
    simp only [List.mem_cons, List.not_mem_nil, or_false] at hfm
    rcases hfm with rfl | rfl | rfl | rfl
    · rw [e1.1, e1.2.1, e1.2.2]; exact ⟨by decide, _, part_int Tryz.isAgg33 rfl w, ck_int em 9998 33 .u32 .u32 _ w (by kernel_rfl)⟩
    · rw [e2.1, e2.2.1, e2.2.2]; exact ⟨by decide, _, part_int Tryz.isAgg34 rfl w, ck_int em 9998 34 .u16 .u16 _ w (by kernel_rfl)⟩
    · rw [e3.1, e3.2.1, e3.2.2]; exact ⟨by decide, _, part_int Tryz.isAgg34 rfl w, ck_int em 9998 34 .u16 .u16 _ w (by kernel_rfl)⟩
    · rw [e4.1, e4.2.1, e4.2.2]; exact ⟨by decide, _, part_int Tryz.isAgg33 rfl w, ck_int em 9998 33 .u32 .u32 _ w (by kernel_rfl)⟩
  eq a b w := sh_eqIn a b w
  desc := ⟨Tryz.prog.fieldsOf 280, by kernel_rfl⟩
  agg a := ⟨_, rfl⟩
  same a := sameBits_agg 9999 _ (by
    intro v hv
    simp only [List.mem_cons, List.not_mem_nil, or_false] at hv
    rcases hv with rfl | rfl | rfl | rfl <;> simp only [Instr.sameBits, beq_self_eq_true, Bool.and_self])
theorem kyOps : KeyOps Tryz.prog 36 Ky.val where
  check em a w := by
    have hf : (Tryz.prog.fieldsOf 36).toList.map (fun f => (f.name, f.type, f.offset)) = [("Object", 33, 0), ("Stripe", 34, 1)] := by kernel_rfl
    have hu : Tryz.prog.underlying 36 = some (.struct (Tryz.prog.fieldsOf 36)) := by kernel_rfl
    refine ck_struct em 9999 36 _ w hu ?_
    generalize (Tryz.prog.fieldsOf 36).toList = fs at hf
    obtain ⟨f1, f2, rfl, e1, e2⟩ := map2 hf
    simp only [Prod.mk.injEq] at e1 e2
    intro f hfm
    simp only [List.mem_cons, List.not_mem_nil, or_false] at hfm
    rcases hfm with rfl | rfl
    · rw [e1.1, e1.2.1, e1.2.2]; exact ⟨by decide, _, part_int Tryz.isAgg33 rfl w, ck_int em 9998 33 .u32 .u32 _ w (by kernel_rfl)⟩
    · rw [e2.1, e2.2.1, e2.2.2]; exact ⟨by decide, _, part_int Tryz.isAgg34 rfl w, ck_int em 9998 34 .u16 .u16 _ w (by kernel_rfl)⟩
  eq a b w := ky_eqIn a b w
  desc := ⟨Tryz.prog.fieldsOf 36, by kernel_rfl⟩
  agg a := ⟨_, rfl⟩
  same a := sameBits_agg 9999 _ (by
    intro v hv
    simp only [List.mem_cons, List.not_mem_nil, or_false] at hv
    rcases hv with rfl | rfl <;> simp only [Instr.sameBits, beq_self_eq_true, Bool.and_self])
theorem rNeqSh (a b : Sh) (w : World) : Sem.run Tryz.prog (binOp .neq 280 a.val b.val) w = .ok (.bool (decide (a ≠ b))) w := by
  have h : binOp .neq 280 a.val b.val = (do pure (.bool (!(← Op.equalIn 10000 280 a.val b.val)))) := rfl
  rw [h]
  simp only [Sem.run_bind, sh_eqIn, Result.andThen_ok, Sem.run_pure]
  simp
abbrev LB := List UInt8
abbrev VS := List (Sh × (LB × Nat))
abbrev KS := List (Sh × LB)
def cellI (p : LB × Nat) : Value := I (p.2 : Int)
def shFrame (s : Sh) (b : LB) : LB := frame 1 (s.bytes ++ b)
structure VOk (f : HF) (sz NC : Nat) (dc : List Value) (vs : VS) : Prop where
  len : dc.length = NC
  nd : (vs.map (fun p => p.2.2)).Nodup
  lt : ∀ p ∈ vs, p.2.2 < NC
  at' : ∀ p ∈ vs, (24 + p.2.1.length ≤ sz) ∧ ∃ a k cp, dc[p.2.2]? = some (.slice a k cp) ∧ RB f a k cp (shFrame p.1 p.2.1)
theorem VOk.mono {f f' : HF} {sz NC : Nat} {dc : List Value} {vs : VS} (h : VOk f sz NC dc vs) (hf : FLe f f') : VOk f' sz NC dc vs :=
  ⟨h.len, h.nd, h.lt, fun p hp => let ⟨h0, a, k, cp, h1, h2⟩ := h.at' p hp; ⟨h0, a, k, cp, h1, h2.mono hf⟩⟩
theorem VOk.nil {f : HF} {sz NC : Nat} {dc : List Value} (h : dc.length = NC) : VOk f sz NC dc [] := ⟨h, by simp, by simp, by simp⟩
theorem shFrame_length (s : Sh) (b : LB) : (shFrame s b).length = 24 + b.length := by
  rw [shFrame, frame_length, List.length_append, Sh.bytes_length]; omega
theorem VOk.put {f : HF} {sz NC c : Nat} {dc : List Value} {vs : VS} {s : Sh} {b : LB} {a : Option Addr} {k cp : Nat} (h : VOk f sz NC dc vs) (hc : c < NC) (hfree : ∀ p ∈ vs, p.2.2 ≠ c) (hb : RB f a k cp (shFrame s b)) (hsz : 24 + b.length ≤ sz) :
    VOk f sz NC (dc.set c (.slice a k cp)) (vs ++ [(s, (b, c))]) := by
  refine ⟨by rw [List.length_set]; exact h.len, ?_, ?_, ?_⟩
  · rw [List.map_append, List.nodup_append]
    refine ⟨h.nd, by simp, ?_⟩
    intro x hx y hy
    simp at hy; subst hy
    obtain ⟨p, hp, rfl⟩ := List.mem_map.1 hx
    exact hfree p hp
  · intro p hp
    rcases List.mem_append.1 hp with hp | hp
    · exact h.lt p hp
    · simp at hp; subst hp; exact hc
  · intro p hp
    rcases List.mem_append.1 hp with hp | hp
    · obtain ⟨h0, a', k', cp', h1, h2⟩ := h.at' p hp
      exact ⟨h0, a', k', cp', by rw [List.getElem?_set_ne (Ne.symm (hfree p hp))]; exact h1, h2⟩
    · simp at hp; subst hp
      exact ⟨hsz, a, k, cp, by simp [h.len, hc], hb⟩
theorem mdel_sub {α β : Type} [DecidableEq α] {es : List (α × β)} {k : α} : (mdel es k).Sublist es := by
  unfold mdel
  split
  · exact List.eraseIdx_sublist _ _
  · exact List.Sublist.refl _
theorem VOk.drop {f : HF} {sz NC c : Nat} {dc : List Value} {vs : VS} {s : Sh} {b : LB} {u : Value} (h : VOk f sz NC dc vs) (hg : mget vs s = some (b, c)) : VOk f sz NC (dc.set c u) (mdel vs s) := by
  cases hm : mfind vs s with
  | none => rw [mfind_none hm] at hg; cases hg
  | some i =>
    obtain ⟨v, h1, h2⟩ := mfind_get hm
    rw [hg] at h2; cases h2
    have hi := mfind_lt hm
    have hne : ∀ p ∈ mdel vs s, p.2.2 ≠ c := by
      intro p hp he
      rw [mdel, hm] at hp
      simp only at hp
      obtain ⟨j, hj, rfl⟩ := List.getElem_of_mem hp
      have hlen : (vs.eraseIdx i).length = vs.length - 1 := by rw [List.length_eraseIdx]; simp [hi]
      rw [List.getElem_eraseIdx] at he
      have hiv : vs[i] = (s, (b, c)) := by simpa [hi] using h1
      have key : ∀ t (ht : t < vs.length), vs[t].2.2 = c → t = i := by
        intro t ht hc
        have hnd := h.nd
        have := (List.getElem_inj (h₀ := by simpa using ht) (h₁ := by simpa using hi) hnd).1 (by simp [hc, hiv])
        exact this
      split at he
      · rename_i hlt
        have := key j (by omega) he; omega
      · rename_i hge
        have := key (j + 1) (by omega) he; omega
    refine ⟨by rw [List.length_set]; exact h.len, h.nd.sublist (mdel_sub.map _), fun p hp => h.lt p (mdel_sub.mem hp), fun p hp => ?_⟩
    obtain ⟨h0, a', k', cp', h3, h4⟩ := h.at' p (mdel_sub.mem hp)
    exact ⟨h0, a', k', cp', by rw [List.getElem?_set_ne (Ne.symm (hne p hp))]; exact h3, h4⟩
theorem mget_mem {α β : Type} [DecidableEq α] {es : List (α × β)} {k : α} {v : β} (h : mget es k = some v) : (k, v) ∈ es := by
  cases hm : mfind es k with
  | none => rw [mfind_none hm] at h; cases h
  | some i =>
    obtain ⟨u, h1, h2⟩ := mfind_get hm
    rw [h] at h2; cases h2
    exact List.mem_of_getElem? h1
theorem cover : ∀ (n : Nat) (l : List Nat), (∀ c, c < n → c ∈ l) → n ≤ l.length
  | 0, _, _ => Nat.zero_le _
  | n + 1, l, h => by
    have h1 := cover n (l.erase n) (fun c hc => (List.mem_erase_of_ne (by omega)).2 (h c (by omega)))
    rw [List.length_erase_of_mem (h n (by omega))] at h1
    have : 0 < l.length := List.length_pos_of_mem (h n (by omega))
    omega
theorem some_free {NC : Nat} {fu : Nat → Bool} {l : List Nat} (hl : l.length < NC) (h : ∀ c, fu c = true → c ∈ l) : ∃ c, c < NC ∧ fu c = false := by
  apply Classical.byContradiction
  intro hn
  have := cover NC l (fun c hc => h c (by cases hf : fu c with
    | true => rfl
    | false => exact absurd ⟨c, hc, hf⟩ hn))
  omega
def vltA (f : HF) (v d sz NC : Nat) (vs : VS) : Asn := fun h => ∃ x : Nat × Option Addr × Nat × Int × List Value, VOk f sz NC x.2.2.2.2 vs ∧
  sepL [row v 380 [ptr d, .map (some x.1)], row d 471 [I (sz : Int), .slice x.2.1 NC x.2.2.1, .slice none 0 0, I x.2.2.2.1], own 26 1 (.slice x.2.1 NC x.2.2.1) NC x.2.2.2.2, mapC Sh.val x.1 (mval cellI vs)] h
theorem vltA_mono {f f' : HF} {v d sz NC : Nat} {vs : VS} (hf : FLe f f') (h : HF) (hr : vltA f v d sz NC vs h) : vltA f' v d sz NC vs h := by
  obtain ⟨x, h1, h2⟩ := hr
  exact ⟨x, h1.mono hf, h2⟩
section
variable {W0 w : World} {L : List Asn}
theorem vltA_open {f : HF} {v d sz NC : Nat} {vs : VS} (hs : Sep W0 w (vltA f v d sz NC vs :: L)) : ∃ (r : Nat) (da : Option Addr) (dcp : Nat) (sy : Int) (dc : List Value), VOk f sz NC dc vs ∧
    Sep W0 w (row v 380 [ptr d, .map (some r)] :: row d 471 [I (sz : Int), .slice da NC dcp, .slice none 0 0, I sy] :: own 26 1 (.slice da NC dcp) NC dc :: mapC Sh.val r (mval cellI vs) :: L) := by
  obtain ⟨⟨r, da, dcp, sy, dc⟩, h⟩ := Sep.ex hs
  obtain ⟨h1, h2⟩ := Sep.pure h
  exact ⟨r, da, dcp, sy, dc, h1, Sep.open (M := [_, _, _, _]) h2⟩
theorem vltA_shut {f : HF} {v d sz NC r : Nat} {vs : VS} {da : Option Addr} {dcp : Nat} {sy : Int} {dc : List Value} (hv : VOk f sz NC dc vs)
    (hs : Sep W0 w (row v 380 [ptr d, .map (some r)] :: row d 471 [I (sz : Int), .slice da NC dcp, .slice none 0 0, I sy] :: own 26 1 (.slice da NC dcp) NC dc :: mapC Sh.val r (mval cellI vs) :: L)) : Sep W0 w (vltA f v d sz NC vs :: L) :=
  Sep.intro (A := fun x : Nat × Option Addr × Nat × Int × List Value => fun h => VOk f sz NC x.2.2.2.2 vs ∧ sepL [row v 380 [ptr d, .map (some x.1)], row d 471 [I (sz : Int), .slice x.2.1 NC x.2.2.1, .slice none 0 0, I x.2.2.2.1], own 26 1 (.slice x.2.1 NC x.2.2.1) NC x.2.2.2.2, mapC Sh.val x.1 (mval cellI vs)] h) (r, da, dcp, sy, dc) (Sep.mkPure hv (Sep.shut [_, _, _, _] hs))
end
end Go.Sl
namespace Go.Sl
open Go.Proofs Go.Proofs.Tryz
theorem dklen_s {W0 w : World} {L : List Asn} {d sz NC dcp : Nat} {da : Option Addr} {sy : Int} {lo : Value} (hs : Sep W0 w (row d 471 [I (sz : Int), .slice da NC dcp, lo, I sy] :: L)) : Calls Tryz.prog 364 [ptr d].toArray w (Ret fun r w' => r = .tuple #[I (NC : Int), I (sz : Int)] ∧ Sep W0 w' (row d 471 [I (sz : Int), .slice da NC dcp, lo, I sy] :: L)) := by
 refine enter (args := [(ptr d)]) (n := 15) (rs := [.tmp 2, .tmp 3]) func364 rfl rfl rfl rfl ?_
 refine rSeq (rReg (oV (xAssign rfl) rfl (oV (xAssign rfl) rfl (oEnd (kSeq (rSeq (rSeq (rReg (oV (xMove rfl) rfl (oV (xBin (r := .bool false) rfl rfl (fun _ => rfl) (fun w => by kernel_rfl)) rfl (oEnd (kSeq (rCondF rfl (rSkip (kSeq (rSeq (rRegQ (by kernel_rfl) (by kernel_rfl) hs ?_)))))))))))))))))
 refine qV (fun w hq => xMove rfl) rfl ?_
 refine qV (fun w hq => xNil rfl) rfl ?_
 refine qV (fun w hq => xFA (j' := 1) underlying471 rfl sizeOf22 rfl rfl) rfl ?_
 refine qV (fun w hq => xLoad hq isAgg22 rfl (i := 0) rfl rfl) rfl ?_
 refine qV (fun w hq => xB1 rfl (rLenS underlying22)) rfl ?_
 refine qV (fun w hq => xMove rfl) rfl ?_
 refine qV (fun w hq => xNil rfl) rfl ?_
 refine qV (fun w hq => xFA (j' := 0) underlying471 rfl sizeOf3 rfl rfl) rfl ?_
 refine qV (fun w hq => xLoad hq isAgg3 rfl (i := 0) rfl rfl) rfl ?_
 refine qV (fun w hq => xAssign rfl) rfl ?_
 refine qV (fun w hq => xAssign rfl) rfl ?_
 refine qEnd (fun w2 hs1 => ?_); clear hs
 refine kSeq ?_
 refine rRet (kFin (.tmp rfl (.tmp rfl (.nil))) ?_)
 exact ⟨rfl, hs1⟩
theorem dkread_s {W0 w : World} {L : List Asn} {d sz NC dcp : Nat} {da : Option Addr} {sy : Int} {c : Nat} {dc : List Value} {f : HF} {b : Option Addr} {m bc : Nat} {l : List UInt8} (hb : RB f b m bc l) (hc : c < NC) (hm : m ≤ 1000000) (hcell : dc[c]? = some (.slice b m bc)) (hs : Sep W0 w (pool f :: row d 471 [I (sz : Int), .slice da NC dcp, .slice none 0 0, I sy] :: own 26 1 (.slice da NC dcp) NC dc :: L)) : Calls Tryz.prog 211 [ptr d, .int .i64 c].toArray w (Ret fun r w' => ∃ f' a' k' cp', r = .slice a' k' cp' ∧ FLe f f' ∧ RB f' a' k' cp' l ∧ Sep W0 w' (pool f' :: row d 471 [I (sz : Int), .slice da NC dcp, .slice none 0 0, I sy] :: own 26 1 (.slice da NC dcp) NC dc :: L)) := by
 have hbl := RB.len hb
 refine enter (args := [(ptr d), (I (c : Int))]) (n := 58) (rs := [.tmp 4]) func211 rfl rfl rfl rfl ?_
 refine rSeq (rReg (oV (xAssign rfl) rfl (oEnd (kSeq (rSeq (rSeq (rReg (oV (xMove rfl) rfl (oV (xBin (r := .bool false) rfl rfl (fun _ => rfl) (fun w => by kernel_rfl)) rfl (oV (xMove rfl) rfl (oGuardT rfl rfl (oV (xMove rfl) rfl (oGuardT rfl rfl (oV (xCmp (r := false) rfl rfl (bF (by omega) rLss)) rfl (oV (xPickF rfl rfl) rfl (oV (xMove rfl) rfl (oGuardT rfl rfl (oV (xMove rfl) rfl (oGuardT rfl rfl (oV (xMove rfl) rfl (oGuardT rfl rfl (oV (xNil rfl) rfl (oGuardT rfl rfl (oV (xFA (j' := 1) underlying471 rfl sizeOf22 rfl rfl) rfl (oGuardT rfl rfl (oV (xLoad hs isAgg22 rfl (i := 1) rfl rfl) rfl (oGuardT rfl rfl (oV (xB1 rfl (rLenS underlying22)) rfl (oGuardT rfl rfl (oV (xCmp (r := false) rfl rfl (bF (by omega) rGeq)) rfl (oV (xPickF rfl rfl) rfl (oEnd (kSeq (rCondF rfl (rSkip (kSeq (rSeq (rSeq (rReg (oV (xMove rfl) rfl (oV (xNil rfl) rfl ?_)))))))))))))))))))))))))))))))))))))))))
 refine oV (xFA (j' := 2) underlying471 rfl sizeOf469 rfl rfl) rfl (oV (xLoad hs isAgg469 rfl (i := 1) rfl rfl) rfl (oV (xB1 rfl (rLenS underlying469)) rfl (oV (xAr (r := -1) rfl rfl (rSub rfl)) rfl (oV (xAssign rfl) rfl (oEnd (kSeq (rBlk (rLoop (fun mz e w => 0 = mz ∧ e = [(0, (ptr d)), (1, (I (c : Int))), (5, (I (-1)))] ∧ Sep W0 w (pool f :: row d 471 [(I (sz : Int)), (.slice da NC dcp), (.slice none 0 0), (I sy)] :: own 26 1 (.slice da NC dcp) NC dc :: L)) ⟨_, _, ⟨rfl, rfl, hs⟩, ⟨rfl, rfl, rfl, trivial⟩⟩ ?_))))))))
 clear hs; rintro mz e w ⟨rfl, rfl, hs⟩
 refine rSeq (rSeq (rReg (oV (xMove rfl) rfl (oV (xCmp (r := false) rfl rfl rGeq) rfl (oEnd (kSeq (rCondF rfl (rExit (kSeqX (kLoopX (kBlkH (kSeq (rSeq (rReg (oV (xMove rfl) rfl (oV (xNil rfl) rfl (oV (xFA (j' := 1) underlying471 rfl sizeOf22 rfl rfl) rfl (oV (xLoad hs isAgg22 rfl (i := 1) rfl rfl) rfl (oV (xMove rfl) rfl ?_)))))))))))))))))))
 obtain ⟨b1, rfl⟩ := Sep.ownAddr (i := 2) hs rfl (by omega)
 refine oV (xIA (o' := c) underlying22 sizeOf26 rfl rfl (by omega) (by omega) (by omega)) rfl (oV (xLoadC isAgg26 rfl (Sep.ownCell hs (i := 2) rfl hcell)) rfl (oCall call29 rfl rfl (cloneB_b l hb (by omega) hs) ?_))
 rintro _ w10 ⟨f3, a4, k5, cp6, rfl, hle7, hb8, hs11⟩; clear hs; have hl9 := RB.len hb8
 refine oV (xAssign rfl) rfl (oEnd (kSeq (rRet (kFin (.tmp rfl (.nil)) ?_))))
 exact ⟨_, _, _, _, rfl, hle7, hb8, hs11⟩
theorem dkwrite_s {W0 w : World} {L : List Asn} {d sz NC dcp : Nat} {da : Option Addr} {sy : Int} {c : Nat} {f : HF} {b : Option Addr} {m bc : Nat} {l : List UInt8} (hb : RB f b m bc l) (hc : c < NC) (hm : m ≤ sz) (hsz : sz ≤ 1000000) (hs : Sep W0 w (pool f :: row d 471 [I (sz : Int), .slice da NC dcp, .slice none 0 0, I sy] :: L)) : Calls Tryz.prog 400 [ptr d, .int .i64 c, .slice b m bc].toArray w
  (Ret fun r w' => ∃ f' a' m' bc' oa oc, r = .int .i64 0 ∧ FLe f f' ∧ RB f' a' m' bc' l ∧ Sep W0 w' (pool f' :: row d 471 [I (sz : Int), .slice da NC dcp, .slice oa 1 oc, I sy] :: own 473 2 (.slice oa 1 oc) 1 [I (c : Int), .slice a' m' bc'] :: L)) := by
 have hbl := RB.len hb
 refine enter (args := [(ptr d), (I (c : Int)), (.slice b m bc)]) (n := 43) (rs := [.tmp 6]) func400 rfl rfl rfl rfl ?_
 refine rSeq (rReg (oV (xAssign rfl) rfl (oEnd (kSeq (rSeq (rBlk (rSeq (rReg (oV (xMove rfl) rfl (oV (xBin (r := .bool false) rfl rfl (fun _ => rfl) (fun w => by kernel_rfl)) rfl (oV (xAssign rfl) rfl (oEnd (kSeq (rCondF rfl (rSeq (rReg (oV (xMove rfl) rfl (oV (xCmp rfl rfl rLss) rfl (oV (xMove rfl) rfl ?_)))))))))))))))))))
 refine oCase (d := 13) rfl (fun hg1 => ?_) (fun hg1 => ?_)
 · replace hg1 := of_decide_eq_true hg1
   refine oGuardF rfl rfl rfl rfl (oGuardF rfl rfl rfl rfl (oGuardF rfl rfl rfl rfl (oGuardF rfl rfl rfl rfl (oGuardF rfl rfl rfl rfl (oGuardF rfl rfl rfl rfl (oGuardF rfl rfl rfl rfl (oV (xPickT rfl rfl) rfl (oV (xAssign rfl) rfl (oEnd (kSeq (rCondT rfl (rSeq (rReg (oV (xAssign rfl) rfl (oEnd (kSeq (rRet (kBlkR (kSeqR (kFin (.tmp rfl (.nil)) ?_))))))))))))))))))))
   exfalso; omega
 · replace hg1 := of_decide_eq_false hg1
   refine oGuardT rfl rfl (oV (xMove rfl) rfl (oGuardT rfl rfl (oV (xMove rfl) rfl (oGuardT rfl rfl (oV (xNil rfl) rfl (oGuardT rfl rfl (oV (xFA (j' := 1) underlying471 rfl sizeOf22 rfl rfl) rfl (oGuardT rfl rfl (oV (xLoad hs isAgg22 rfl (i := 1) rfl rfl) rfl (oGuardT rfl rfl (oV (xB1 rfl (rLenS underlying22)) rfl (oGuardT rfl rfl (oV (xCmp (r := false) rfl rfl (bF (by omega) rGeq)) rfl (oV (xPickF rfl rfl) rfl (oV (xAssign rfl) rfl (oEnd (kSeq (rCondF rfl (rSeq (rReg (oV (xMove rfl) rfl (oV (xB1 rfl (rLenS underlying26)) rfl (oV (xMove rfl) rfl (oV (xNil rfl) rfl (oV (xFA (j' := 0) underlying471 rfl sizeOf3 rfl rfl) rfl (oV (xLoad hs isAgg3 rfl (i := 1) rfl rfl) rfl (oV (xCmp (r := false) rfl rfl (bF (by omega) rGtr)) rfl (oV (xAssign rfl) rfl (oEnd (kSeq (rCondF rfl (rSkip (kBlk (kSeq (rSeq ?_)))))))))))))))))))))))))))))))))))
   refine rRegG [(some 10, fun w => ∃ M, Sep W0 w (row d 471 [(I (sz : Int)), (.slice da NC dcp), (.slice none 0 0), (I sy)] :: M))] (by kernel_rfl) hs (fun w2 hs3 => ⟨?_, fun hS => ?_⟩)
   · exact ⟨fun _ => ⟨_, (Sep.front (i := 1) rfl hs3)⟩, trivial⟩
   clear hs
   refine gTake0 0 rfl (by kernel_rfl) hS (fun w => xMove rfl) rfl ?_
   clear hS; intro hS
   refine gTake0 1 rfl (by kernel_rfl) hS (fun w => xMove rfl) rfl ?_
   clear hS; intro hS
   refine gTake0 2 rfl (by kernel_rfl) hS (fun w => xNil rfl) rfl ?_
   clear hS; intro hS
   refine gTake0 3 rfl (by kernel_rfl) hS (fun w => xFA (j' := 2) underlying471 rfl sizeOf469 rfl rfl) rfl ?_
   clear hS; intro hS
   refine gTake 4 0 rfl (by kernel_rfl) rfl (by kernel_rfl) hS (fun w hq0 => by obtain ⟨M, hq⟩ := hq0; exact xLoad hq isAgg469 rfl (i := 0) rfl rfl) rfl ?_
   clear hS; intro hS
   refine gTake0 5 rfl (by kernel_rfl) hS (fun w => xMove rfl) rfl ?_
   clear hS; intro hS
   refine gTake0 6 rfl (by kernel_rfl) hS (fun w => xMove rfl) rfl ?_
   clear hS; intro hS
   refine gEff 7 (by kernel_rfl) rfl ?_
   refine oCall call29 rfl rfl (cloneB_b l hb (by omega) hs3) ?_
   rintro _ w11 ⟨f4, a5, k6, cp7, rfl, hle8, hb9, hs12⟩; clear hs3; have hl10 := RB.len hb9
   replace hb := hb.mono hle8
   refine oEnd (kG ⟨fun _ => ⟨_, (Sep.front (i := 1) rfl hs12)⟩, trivial⟩ ?_)
   clear hS; intro hS
   refine gTake0 8 rfl (by kernel_rfl) hS (fun w => xBuild (v := (.agg #[(I (c : Int)), (.slice a5 k6 cp7)])) rfl (fun w => by kernel_rfl)) rfl ?_
   clear hS; intro hS
   refine gEff 9 (by kernel_rfl) rfl ?_
   refine oBuildSlice (el := 473) (cs := [(I (c : Int)), (.slice a5 k6 cp7)]) hs12 rfl (fun w => by kernel_rfl) rfl ?_
   intro b13 w14 hs15; clear hs12
   refine oEnd (kG ⟨fun _ => ⟨_, (Sep.front (i := 2) rfl hs15)⟩, trivial⟩ ?_)
   clear hS; intro hS
   refine gEff 10 (by kernel_rfl) rfl ?_
   replace hs15 := Sep.nil 473 2 hs15
   refine oAppend (inf := Tryz.t473) (size := 2) (bytes := 32) hs15 (i := 0) rfl underlying469 (by kernel_rfl) rfl rfl rfl rfl rfl rfl rfl (src_row hs15 (i := 1) rfl rfl rfl) (by first | omega | (simp only [List.length_append, List.length_cons, List.length_nil, List.length_map]; omega)) (by first | omega | (simp only [List.length_append, List.length_cons, List.length_nil, List.length_map]; omega)) rfl ?_
   intro a17 c18 w19 hs20; clear hs15; dsimp only [List.set] at hs20
   refine oEnd (kG ⟨(tillDone (by kernel_rfl)), trivial⟩ ?_)
   clear hS; intro hS
   refine gTake0 11 rfl (by kernel_rfl) hS (fun w => xNil rfl) rfl ?_
   clear hS; intro hS
   refine gTake0 12 rfl (by kernel_rfl) hS (fun w => xFA (j' := 2) underlying471 rfl sizeOf469 rfl rfl) rfl ?_
   clear hS; intro hS
   refine gEff 13 (by kernel_rfl) rfl ?_
   refine oStore hs20 sizeOf469 rfl rfl rfl (i := 3) rfl rfl ?_
   intro w21 hs22; clear hs20; dsimp only [List.set] at hs22
   refine oEnd (kG ⟨(tillDone (by kernel_rfl)), trivial⟩ ?_)
   clear hS; intro hS
   refine gEnd (by kernel_rfl) ?_
   clear hS
   refine kSeq ?_
   refine rSeq (Run.sub (e' := [(6, (I 0))]) ⟨rfl, trivial⟩ ?_)
   refine rReg (oV (xAssign rfl) rfl (oEnd (kSeq (rRet (kFin (.tmp rfl (.nil)) ?_)))))
   replace hs22 := hs22.d1
   replace hs22 := hs22.f2
   replace hs22 := hs22.f2
   exact ⟨_, _, _, _, _, _, rfl, hle8, hb9, hs22⟩
theorem dkwrite0_s {W0 w : World} {L : List Asn} {d sz NC dcp : Nat} {da : Option Addr} {sy : Int} {c : Nat} {f : HF} (hc : c < NC) (hs : Sep W0 w (pool f :: row d 471 [I (sz : Int), .slice da NC dcp, .slice none 0 0, I sy] :: L)) : Calls Tryz.prog 400 [ptr d, .int .i64 c, .slice none 0 0].toArray w
  (Ret fun r w' => ∃ oa oc, r = .int .i64 0 ∧ Sep W0 w' (pool f :: row d 471 [I (sz : Int), .slice da NC dcp, .slice oa 1 oc, I sy] :: own 473 2 (.slice oa 1 oc) 1 [I (c : Int), .slice none 0 0] :: L)) := by
 refine enter (args := [(ptr d), (I (c : Int)), (.slice none 0 0)]) (n := 43) (rs := [.tmp 6]) func400 rfl rfl rfl rfl ?_
 refine rSeq (rReg (oV (xAssign rfl) rfl (oEnd (kSeq (rSeq (rBlk (rSeq (rReg (oV (xMove rfl) rfl (oV (xBin (r := .bool false) rfl rfl (fun _ => rfl) (fun w => by kernel_rfl)) rfl (oV (xAssign rfl) rfl (oEnd (kSeq (rCondF rfl (rSeq (rReg (oV (xMove rfl) rfl (oV (xCmp rfl rfl rLss) rfl (oV (xMove rfl) rfl ?_)))))))))))))))))))
 refine oCase (d := 13) rfl (fun hg1 => ?_) (fun hg1 => ?_)
 · replace hg1 := of_decide_eq_true hg1
   refine oGuardF rfl rfl rfl rfl (oGuardF rfl rfl rfl rfl (oGuardF rfl rfl rfl rfl (oGuardF rfl rfl rfl rfl (oGuardF rfl rfl rfl rfl (oGuardF rfl rfl rfl rfl (oGuardF rfl rfl rfl rfl (oV (xPickT rfl rfl) rfl (oV (xAssign rfl) rfl (oEnd (kSeq (rCondT rfl (rSeq (rReg (oV (xAssign rfl) rfl (oEnd (kSeq (rRet (kBlkR (kSeqR (kFin (.tmp rfl (.nil)) ?_))))))))))))))))))))
   exfalso; omega
 · replace hg1 := of_decide_eq_false hg1
   refine oGuardT rfl rfl (oV (xMove rfl) rfl (oGuardT rfl rfl (oV (xMove rfl) rfl (oGuardT rfl rfl (oV (xNil rfl) rfl (oGuardT rfl rfl (oV (xFA (j' := 1) underlying471 rfl sizeOf22 rfl rfl) rfl (oGuardT rfl rfl (oV (xLoad hs isAgg22 rfl (i := 1) rfl rfl) rfl (oGuardT rfl rfl (oV (xB1 rfl (rLenS underlying22)) rfl (oGuardT rfl rfl (oV (xCmp (r := false) rfl rfl (bF (by omega) rGeq)) rfl (oV (xPickF rfl rfl) rfl (oV (xAssign rfl) rfl (oEnd (kSeq (rCondF rfl (rSeq (rReg (oV (xMove rfl) rfl (oV (xB1 rfl (rLenS underlying26)) rfl (oV (xMove rfl) rfl (oV (xNil rfl) rfl (oV (xFA (j' := 0) underlying471 rfl sizeOf3 rfl rfl) rfl (oV (xLoad hs isAgg3 rfl (i := 1) rfl rfl) rfl (oV (xCmp (r := false) rfl rfl (bF (by omega) rGtr)) rfl (oV (xAssign rfl) rfl (oEnd (kSeq (rCondF rfl (rSkip (kBlk (kSeq (rSeq ?_)))))))))))))))))))))))))))))))))))
   refine rRegG [(some 10, fun w => ∃ M, Sep W0 w (row d 471 [(I (sz : Int)), (.slice da NC dcp), (.slice none 0 0), (I sy)] :: M))] (by kernel_rfl) hs (fun w2 hs3 => ⟨?_, fun hS => ?_⟩)
   · exact ⟨fun _ => ⟨_, (Sep.front (i := 1) rfl hs3)⟩, trivial⟩
   clear hs
   refine gTake0 0 rfl (by kernel_rfl) hS (fun w => xMove rfl) rfl ?_
   clear hS; intro hS
   refine gTake0 1 rfl (by kernel_rfl) hS (fun w => xMove rfl) rfl ?_
   clear hS; intro hS
   refine gTake0 2 rfl (by kernel_rfl) hS (fun w => xNil rfl) rfl ?_
   clear hS; intro hS
   refine gTake0 3 rfl (by kernel_rfl) hS (fun w => xFA (j' := 2) underlying471 rfl sizeOf469 rfl rfl) rfl ?_
   clear hS; intro hS
   refine gTake 4 0 rfl (by kernel_rfl) rfl (by kernel_rfl) hS (fun w hq0 => by obtain ⟨M, hq⟩ := hq0; exact xLoad hq isAgg469 rfl (i := 0) rfl rfl) rfl ?_
   clear hS; intro hS
   refine gTake0 5 rfl (by kernel_rfl) hS (fun w => xMove rfl) rfl ?_
   clear hS; intro hS
   refine gTake0 6 rfl (by kernel_rfl) hS (fun w => xMove rfl) rfl ?_
   clear hS; intro hS
   refine gEff 7 (by kernel_rfl) rfl ?_
   refine oCall call29 rfl rfl (clone0_s hs3) ?_
   rintro _ w4 ⟨rfl, hs5⟩; clear hs3
   refine oEnd (kG ⟨fun _ => ⟨_, (Sep.front (i := 1) rfl hs5)⟩, trivial⟩ ?_)
   clear hS; intro hS
   refine gTake0 8 rfl (by kernel_rfl) hS (fun w => xBuild (v := (.agg #[(I (c : Int)), (.slice none 0 0)])) rfl (fun w => by kernel_rfl)) rfl ?_
   clear hS; intro hS
   refine gEff 9 (by kernel_rfl) rfl ?_
   refine oBuildSlice (el := 473) (cs := [(I (c : Int)), (.slice none 0 0)]) hs5 rfl (fun w => by kernel_rfl) rfl ?_
   intro b6 w7 hs8; clear hs5
   refine oEnd (kG ⟨fun _ => ⟨_, (Sep.front (i := 2) rfl hs8)⟩, trivial⟩ ?_)
   clear hS; intro hS
   refine gEff 10 (by kernel_rfl) rfl ?_
   replace hs8 := Sep.nil 473 2 hs8
   refine oAppend (inf := Tryz.t473) (size := 2) (bytes := 32) hs8 (i := 0) rfl underlying469 (by kernel_rfl) rfl rfl rfl rfl rfl rfl rfl (src_row hs8 (i := 1) rfl rfl rfl) (by first | omega | (simp only [List.length_append, List.length_cons, List.length_nil, List.length_map]; omega)) (by first | omega | (simp only [List.length_append, List.length_cons, List.length_nil, List.length_map]; omega)) rfl ?_
   intro a10 c11 w12 hs13; clear hs8; dsimp only [List.set] at hs13
   refine oEnd (kG ⟨(tillDone (by kernel_rfl)), trivial⟩ ?_)
   clear hS; intro hS
   refine gTake0 11 rfl (by kernel_rfl) hS (fun w => xNil rfl) rfl ?_
   clear hS; intro hS
   refine gTake0 12 rfl (by kernel_rfl) hS (fun w => xFA (j' := 2) underlying471 rfl sizeOf469 rfl rfl) rfl ?_
   clear hS; intro hS
   refine gEff 13 (by kernel_rfl) rfl ?_
   refine oStore hs13 sizeOf469 rfl rfl rfl (i := 3) rfl rfl ?_
   intro w14 hs15; clear hs13; dsimp only [List.set] at hs15
   refine oEnd (kG ⟨(tillDone (by kernel_rfl)), trivial⟩ ?_)
   clear hS; intro hS
   refine gEnd (by kernel_rfl) ?_
   clear hS
   refine kSeq ?_
   refine rSeq (Run.sub (e' := [(6, (I 0))]) ⟨rfl, trivial⟩ ?_)
   refine rReg (oV (xAssign rfl) rfl (oEnd (kSeq (rRet (kFin (.tmp rfl (.nil)) ?_)))))
   replace hs15 := hs15.d1
   replace hs15 := hs15.f2
   replace hs15 := hs15.f2
   exact ⟨_, _, rfl, hs15⟩
theorem Sep.ownCells {P : Program} {W0 w : World} {L : List Asn} {i : Nat} {el : TypeId} {size : Nat} {g k cap j m : Nat} {xs vs : List Value} (hs : Sep W0 w L) (hi : L[i]? = some (own el size (.slice (some ⟨g, 0, none⟩) k cap) k xs)) (hv : takeAt xs j m = some vs) : ∀ (i : Nat) (v : Value), vs[i]? = some v → w.cell? ⟨g, j + i, none⟩ = some v :=
 fun _ _ hu => hs.ownCell hi (takeAt_get hv hu)
theorem dksync_s {W0 w : World} {L : List Asn} {d sz NC dcp : Nat} {da : Option Addr} {sy : Int} {c : Nat} {dc : List Value} {ha oa : Option Addr} {hk hcp oc : Nat} (hc : c < NC) (hdl : dc.length = NC) (hs : Sep W0 w (row d 471 [I (sz : Int), .slice da NC dcp, .slice oa 1 oc, I sy] :: own 473 2 (.slice oa 1 oc) 1 [I (c : Int), .slice ha hk hcp] :: own 26 1 (.slice da NC dcp) NC dc :: L)) : Calls Tryz.prog 410 [ptr d].toArray w
  (Ret fun r w' => ∃ sy' : Int, r = .int .i64 0 ∧ Sep W0 w' (row d 471 [I (sz : Int), .slice da NC dcp, .slice none 0 0, I sy'] :: own 26 1 (.slice da NC dcp) NC (dc.set c (.slice ha hk hcp)) :: L)) := by
 refine enter (args := [(ptr d)]) (n := 36) (rs := [.tmp 2]) func410 rfl rfl rfl rfl ?_
 refine rSeq (rReg (oV (xAssign rfl) rfl (oEnd (kSeq (rSeq (rSeq (rReg (oV (xMove rfl) rfl (oV (xBin (r := .bool false) rfl rfl (fun _ => rfl) (fun w => by kernel_rfl)) rfl (oEnd (kSeq (rCondF rfl (rSkip (kSeq (rSeq (rSeq (rReg (oV (xMove rfl) rfl (oV (xNil rfl) rfl (oV (xFA (j' := 2) underlying471 rfl sizeOf469 rfl rfl) rfl (oV (xLoad hs isAgg469 rfl (i := 0) rfl rfl) rfl (oV (xB1 rfl (rLenS underlying469)) rfl (oV (xMove rfl) rfl (oEnd (kSeq (rBlk ?_))))))))))))))))))))))))))
 refine rLoop (fun mz e w => ∃ (i : Nat) (dcx : List Value), 1 - i = mz ∧ e = [(0, (ptr d)), (10, (.slice oa 1 oc)), (11, (I 1)), (12, (I (i : Int)))] ∧ (i ≤ 1) ∧ (dcx = if i = 0 then dc else dc.set c (.slice ha hk hcp)) ∧ Sep W0 w (row d 471 [(I (sz : Int)), (.slice da NC dcp), (.slice oa 1 oc), (I sy)] :: own 473 2 (.slice oa 1 oc) 1 [I (c : Int), .slice ha hk hcp] :: own 26 1 (.slice da NC dcp) NC dcx :: L)) ⟨_, _, ⟨0, _, rfl, rfl, (by omega), (by simp), hs⟩, ⟨rfl, rfl, rfl, rfl, trivial⟩⟩ ?_
 clear hs; rintro mz e w ⟨i, dcx, rfl, rfl, hi, hdc, hs⟩
 have hdxl : dcx.length = NC := by rw [hdc]; split <;> simp [hdl]
 refine rSeq (rReg (oV (xCmp rfl rfl rLss) rfl (oEnd (kSeq (rSeq ?_)))))
 refine rCondD rfl (fun hc1 => ?_) (fun hc1 => ?_)
 · obtain rfl : i = 0 := by omega
   refine rSkip (kSeq (rSeq (rBlk (rSeq (rReg ?_)))))
   obtain ⟨b2, rfl⟩ := Sep.ownAddr (i := 1) hs rfl (by omega)
   refine oV (xIA (o' := (0 * 2)) underlying469 sizeOf473 rfl rfl (by omega) (by omega) (by omega)) rfl (oV (xLoadGC isAgg473 sizeOf473 (j := 0 * 2) rfl rfl (Sep.ownCells (P := Tryz.prog) hs (i := 1) (j := 0 * 2) (m := 2) rfl rfl)) rfl (oAlloc hs zeroValue473 rfl rfl ?_))
   intro b4 w5 hs6; clear hs
   refine oStoreG hs6 sizeOf473 rfl rfl rfl rfl (i := 0) rfl rfl ?_
   intro w7 hs8; clear hs6; dsimp only [List.set, putAt] at hs8
   refine oEnd (kSeq ?_)
   refine rRegG [(some 9, fun w => ∃ M, Sep W0 w (row d 471 [(I (sz : Int)), (.slice da NC dcp), (.slice (some ⟨b2, 0, none⟩) 1 oc), (I sy)] :: M)), (some 9, fun w => ∃ M, Sep W0 w (row b4 473 [(I (c : Int)), (.slice ha hk hcp)] :: M))] (by kernel_rfl) hs8 (fun w9 hs10 => ⟨?_, fun hS => ?_⟩)
   · exact ⟨fun _ => ⟨_, (Sep.front (i := 1) rfl hs10)⟩, fun _ => ⟨_, (Sep.front (i := 0) rfl hs10)⟩, trivial⟩
   clear hs8
   refine gTake0 0 rfl (by kernel_rfl) hS (fun w => xMove rfl) rfl ?_
   clear hS; intro hS
   refine gTake0 1 rfl (by kernel_rfl) hS (fun w => xNil rfl) rfl ?_
   clear hS; intro hS
   refine gTake0 2 rfl (by kernel_rfl) hS (fun w => xFA (j' := 1) underlying471 rfl sizeOf22 rfl rfl) rfl ?_
   clear hS; intro hS
   refine gTake 3 0 rfl (by kernel_rfl) rfl (by kernel_rfl) hS (fun w hq0 => by obtain ⟨M, hq⟩ := hq0; exact xLoad hq isAgg22 rfl (i := 0) rfl rfl) rfl ?_
   clear hS; intro hS
   refine gTake0 4 rfl (by kernel_rfl) hS (fun w => xFA (j' := 0) underlying473 rfl sizeOf3 rfl rfl) rfl ?_
   clear hS; intro hS
   refine gTake 5 1 rfl (by kernel_rfl) rfl (by kernel_rfl) hS (fun w hq0 => by obtain ⟨M, hq⟩ := hq0; exact xLoad hq isAgg3 rfl (i := 0) rfl rfl) rfl ?_
   clear hS; intro hS
   refine gTake0 6 rfl (by kernel_rfl) hS (fun w => xFA (j' := 1) underlying473 rfl sizeOf26 rfl rfl) rfl ?_
   clear hS; intro hS
   refine gTake 7 1 rfl (by kernel_rfl) rfl (by kernel_rfl) hS (fun w hq0 => by obtain ⟨M, hq⟩ := hq0; exact xLoad hq isAgg26 rfl (i := 0) rfl rfl) rfl ?_
   clear hS; intro hS
   obtain ⟨b11, rfl⟩ := Sep.ownAddr (i := 3) hs10 rfl (by omega)
   refine gTake0 8 rfl (by kernel_rfl) hS (fun w => xIA (o' := c) underlying22 sizeOf26 rfl rfl (by omega) (by omega) (by omega)) rfl ?_
   clear hS; intro hS
   refine gEff 9 (by kernel_rfl) rfl ?_
   refine oStoreO hs10 sizeOf26 rfl rfl rfl (i := 3) rfl (getV (by first | omega | (simp only [List.length_append, List.length_set, List.length_cons, List.length_nil, List.length_map, List.length_replicate, mixd_length]; omega))) ?_
   intro w13 hs14; clear hs10; dsimp only [List.set] at hs14
   refine oEnd (kG ⟨(tillDone (by kernel_rfl)), (tillDone (by kernel_rfl)), trivial⟩ ?_)
   clear hS; intro hS
   refine gEnd (by kernel_rfl) ?_
   clear hS
   refine kBlk (kSeq ?_)
   refine rReg (oV (xAr rfl rfl (rAdd (wI (by omega) (by omega)))) rfl (oV (xMove rfl) rfl ?_))
   replace hs14 := hs14.d0
   exact oEnd (kLoop (1 - 1) _ (by omega) ⟨1, _, rfl, rfl, (by omega), (by rw [hdc]; simp), hs14⟩ ⟨rfl, rfl, rfl, rfl, trivial⟩)
 · refine rExit (kSeqX (kLoopX (kBlkH (kSeq (rSeq (rReg (oV (xMove rfl) rfl (oV (xNil rfl) rfl (oV (xFA (j' := 2) underlying471 rfl sizeOf469 rfl rfl) rfl (oStore hs sizeOf469 rfl rfl rfl (i := 0) rfl rfl ?_))))))))))
   intro w15 hs16; clear hs; dsimp only [List.set] at hs16
   refine oEnd (kSeq (rSeq (rReg (oV (xMove rfl) rfl (oV (xNil rfl) rfl (oV (xFA (j' := 3) underlying471 rfl sizeOf3 rfl rfl) rfl (oV (xLoad hs16 isAgg3 rfl (i := 0) rfl rfl) rfl (oV (xAr (r := IntKind.i64.wrap (sy + 1)) rfl rfl (rAdd rfl)) rfl (oV (xNil rfl) rfl (oV (xFA (j' := 3) underlying471 rfl sizeOf3 rfl rfl) rfl (oStore hs16 sizeOf3 rfl rfl rfl (i := 0) rfl rfl ?_)))))))))))
   intro w17 hs18; clear hs16; dsimp only [List.set] at hs18
   refine oEnd (kSeq (rSeq (rReg (oV (xAssign rfl) rfl (oEnd (kSeq (rRet (kFin (.tmp rfl (.nil)) ?_))))))))
   replace hs18 := hs18.d1
   have hi1 : i = 1 := by omega
   rw [hdc, if_neg (by omega)] at hs18
   exact ⟨_, rfl, hs18⟩
end Go.Sl
namespace Go.Sl
open Go.Proofs Go.Proofs.Tryz
theorem vhas_s {W0 w : World} {L : List Asn} {v d r : Nat} {vs : VS} (s : Sh) (hs : Sep W0 w (row v 380 [ptr d, .map (some r)] :: mapC Sh.val r (mval cellI vs) :: L)) : Calls Tryz.prog 209 [ptr v, s.val].toArray w (Ret fun r' w' => r' = .bool (mget vs s).isSome ∧ Sep W0 w' (row v 380 [ptr d, .map (some r)] :: mapC Sh.val r (mval cellI vs) :: L)) := by
 refine enter (args := [(ptr v), (.agg #[(.int .u32 (s.o.toNat : Int)), (.int .u16 (s.st.toNat : Int)), (.int .u16 (s.sl.toNat : Int)), (.int .u32 (s.g.toNat : Int))])]) (n := 19) (rs := [.tmp 4]) func209 rfl rfl rfl rfl ?_
 refine rSeq (rReg (oBox hs rfl rfl rfl ?_))
 intro b1 w2 hs3; clear hs
 refine oV (xAssign rfl) rfl (oEnd (kSeq (rSeq (rSeq (rReg (oV (xMove rfl) rfl (oV (xBin (r := .bool false) rfl rfl (fun _ => rfl) (fun w => by kernel_rfl)) rfl (oEnd (kSeq (rCondF rfl (rSkip (kSeq (rSeq (rRegQ (by kernel_rfl) (by kernel_rfl) hs3 ?_))))))))))))))
 refine qV (fun w hq => xMove rfl) rfl ?_
 refine qV (fun w hq => xNil rfl) rfl ?_
 refine qV (fun w hq => xFA (j' := 1) underlying380 rfl sizeOf378 rfl rfl) rfl ?_
 refine qV (fun w hq => xLoad hq isAgg378 rfl (i := 1) rfl rfl) rfl ?_
 refine qV (fun w hq => xLoadG hq isAgg280 sizeOf280 rfl (i := 0) rfl rfl) rfl ?_
 refine qV (fun w hq => xLookupO shOps underlying378 zeroValue3 hq (i := 2) rfl s rfl rfl) rfl ?_
 refine qV (fun w hq => xMove rfl) rfl ?_
 refine qV (fun w hq => xExtract rfl rfl) rfl ?_
 refine qV (fun w hq => xExtract rfl rfl) rfl ?_
 refine qV (fun w hq => xAssign rfl) rfl ?_
 refine qV (fun w hq => xAssign rfl) rfl ?_
 refine qEnd (fun w5 hs4 => ?_); clear hs3
 refine kSeq ?_
 refine rSeq (rReg (oV (xMove rfl) rfl (oV (xAssign rfl) rfl (oEnd (kSeq (rRet (kFin (.tmp rfl (.nil)) ?_)))))))
 replace hs4 := hs4.d0
 rw [mget_val, Option.isSome_map]
 exact ⟨rfl, hs4⟩
theorem vframe_s {W0 w : World} {L : List Asn} {f : HF} {b : Option Addr} {m bc : Nat} {l : List UInt8} (hb : RB f b m bc l) (s : Sh) (hm : m ≤ 60000) (hs : Sep W0 w (pool f :: L)) : Calls Tryz.prog 398 [s.val, .slice b m bc].toArray w (Ret fun r w' => ∃ f' a' k' cp', r = .slice a' k' cp' ∧ FLe f f' ∧ RB f' a' k' cp' (shFrame s l) ∧ Sep W0 w' (pool f' :: L)) := by
 have hbl := RB.len hb; have h12 := Sh.bytes_length s
 refine enter (args := [(.agg #[(.int .u32 (s.o.toNat : Int)), (.int .u16 (s.st.toNat : Int)), (.int .u16 (s.sl.toNat : Int)), (.int .u32 (s.g.toNat : Int))]), (.slice b m bc)]) (n := 15) (rs := [.tmp 4]) func398 rfl rfl rfl rfl ?_
 refine rSeq (rReg (oBox hs rfl rfl rfl ?_))
 intro b1 w2 hs3; clear hs
 refine oV (xAssign rfl) rfl (oEnd (kSeq (rSeq (rReg (oV (xBuild (v := (.agg #[(.slice none 0 0)])) rfl (fun w => by kernel_rfl)) rfl (oBox hs3 rfl rfl rfl ?_))))))
 intro b4 w5 hs6; clear hs3
 replace hs6 := writer_new hs6
 refine oV (xAssign rfl) rfl (oEnd (kSeq (rSeq (rReg (oV (xMove rfl) rfl (oV (xLoadG hs6 isAgg280 sizeOf280 rfl (i := 1) rfl rfl) rfl (oCall call388 rfl rfl (wshard_s b4 [] s (by first | omega | (simp only [List.length_append, le_length, List.length_cons, List.length_nil, List.length_map, List.length_replicate]; omega)) hs6) ?_)))))))
 rintro _ w7 ⟨rfl, hs8⟩; clear hs6
 refine oV (xMove rfl) rfl ?_
 replace hs8 := hs8.f2
 refine oCall call89 rfl rfl (raw_s b4 ([] ++ s.bytes) l hb (by first | omega | (simp only [List.length_append, le_length, List.length_cons, List.length_nil, List.length_map, List.length_replicate]; omega)) hs8) ?_
 rintro _ w9 ⟨rfl, hs10⟩; clear hs8
 replace hs10 := hs10.f1
 replace hs10 := hs10.f1
 refine oCall call90 rfl rfl (bytes_s b4 (([] ++ s.bytes) ++ l) (by first | omega | (simp only [List.length_append, le_length, List.length_cons, List.length_nil, List.length_map, List.length_replicate]; omega)) hs10) ?_
 rintro _ w18 ⟨f11, a12, k13, cp14, rfl, hle15, hb16, hs19⟩; clear hs10; have hl17 := RB.len hb16
 replace hb := hb.mono hle15
 refine oCall call383 rfl rfl (frame_s (([] ++ s.bytes) ++ l) hb16 (1 : UInt16) (by first | omega | (simp only [List.length_append, le_length, List.length_cons, List.length_nil, List.length_map, List.length_replicate]; omega)) hs19) ?_
 rintro _ w27 ⟨f20, a21, k22, cp23, rfl, hle24, hb25, hs28⟩; clear hs19; have hl26 := RB.len hb25
 replace hb := hb.mono hle24
 replace hb16 := hb16.mono hle24
 refine oV (xAssign rfl) rfl (oEnd (kSeq (rRet (kFin (.tmp rfl (.nil)) ?_))))
 replace hs28 := hs28.d2
 replace hs28 := hs28.d1
 exact ⟨_, _, _, _, rfl, (FLe.trans hle15 hle24), by simpa only [shFrame, List.nil_append] using hb25, hs28⟩
theorem openf_s {W0 w : World} {L : List Asn} {f : HF} {b : Option Addr} {m bc : Nat} {kind : UInt16} {l : List UInt8} (hb : RB f b m bc (frame kind l)) (hm : l.length ≤ 65536) (hs : Sep W0 w (pool f :: L)) : Calls Tryz.prog 276 [.slice b m bc].toArray w
   (Ret fun r w' => ∃ f' a k cp, r = .tuple #[H kind, .slice a k cp, .int .i64 (12 + (l.length : Int)), .int .i64 0] ∧ FLe f f' ∧ RB f' a k cp l ∧ Sep W0 w' (pool f' :: L)) := by
 refine (open_s _ hb (by rw [frame_length]; omega) hs).mono ?_
 rintro e w' ⟨_, rfl, f', a, k, cp, rfl, h1, h2, h3⟩
 rw [openL_frame hm] at h2
 exact ⟨_, rfl, f', a, k, cp, by rw [openK_frame hm, openZ_frame hm, openE_frame hm], h1, h2, h3⟩
theorem vread_s {W0 w : World} {L : List Asn} {f : HF} {b : Option Addr} {m bc : Nat} {s : Sh} {l : List UInt8} (hb : RB f b m bc (shFrame s l)) (hm : l.length ≤ 60000) (hs : Sep W0 w (pool f :: L)) : Calls Tryz.prog 210 [.slice b m bc].toArray w
   (Ret fun r w' => ∃ f' a k cp, r = .tuple #[s.val, .slice a k cp, .int .i64 0] ∧ FLe f f' ∧ RB f' a k cp l ∧ Sep W0 w' (pool f' :: L)) := by
 have hbl := RB.len hb; rw [shFrame_length] at hbl
 have h12 := Sh.bytes_length s
 have hsl : (shL (s.bytes ++ l)).length = l.length := by rw [shL_bytes]
 refine enter (args := [(.slice b m bc)]) (n := 43) (rs := [.cell 2 280, .tmp 3, .tmp 4]) func210 rfl rfl rfl rfl ?_
 refine rSeq (rReg (oAlloc hs zeroValue280 rfl rfl ?_))
 intro b1 w2 hs3; clear hs
 refine oV (xAssign rfl) rfl (oV (xAssign rfl) rfl (oEnd (kSeq (rSeq (rReg (oV (xMove rfl) rfl ?_))))))
 replace hs3 := hs3.f1
 refine oCall call276 rfl rfl (openf_s hb (by rw [List.length_append, Sh.bytes_length]; omega) hs3) ?_
 rintro _ w11 ⟨f4, a5, k6, cp7, rfl, hle8, hb9, hs12⟩; clear hs3; have hl10 := RB.len hb9; rw [List.length_append, Sh.bytes_length] at hl10
 replace hb := hb.mono hle8
 rw [show (12 : Int) + ((s.bytes ++ l).length : Int) = 24 + (l.length : Int) by rw [List.length_append, Sh.bytes_length]; omega]
 refine oV (xMove rfl) rfl (oV (xExtract rfl rfl) rfl (oV (xExtract rfl rfl) rfl (oV (xExtract rfl rfl) rfl (oV (xExtract rfl rfl) rfl (oV (xAssign rfl) rfl (oV (xAssign rfl) rfl (oV (xAssign rfl) rfl (oV (xAssign rfl) rfl (oEnd (kSeq (rSeq (rBlk (rSeq (rReg (oV (xMove rfl) rfl (oV (xCmp (r := false) rfl rfl rNeq) rfl (oV (xAssign rfl) rfl (oEnd (kSeq (rCondF rfl (rSeq (rReg (oV (xMove rfl) rfl (oV (xCmp (r := false) rfl rfl rNeq) rfl (oV (xMove rfl) rfl (oGuardT rfl rfl (oV (xMove rfl) rfl (oGuardT rfl rfl (oV (xB1 rfl (rLenS underlying26)) rfl (oGuardT rfl rfl (oV (xCmp (r := false) rfl rfl (bF (by omega) rLss)) rfl (oV (xPickF rfl rfl) rfl (oV (xMove rfl) rfl (oGuardT rfl rfl (oV (xMove rfl) rfl (oGuardT rfl rfl (oV (xMove rfl) rfl (oGuardT rfl rfl (oV (xB1 rfl (rLenS underlying26)) rfl (oGuardT rfl rfl ?_))))))))))))))))))))))))))))))))))))))))
 refine oV (xCmp (r := false) rfl rfl (bF (by omega) rNeq)) rfl (oV (xPickF rfl rfl) rfl (oV (xAssign rfl) rfl (oEnd (kSeq (rCondF rfl (rSkip (kBlk (kSeq (rSeq (rReg (oV (xMove rfl) rfl (oCall call83 rfl rfl (read_s (s.bytes ++ l) hb9 hs12) ?_))))))))))))
 rintro _ w14 ⟨r13, rfl, hs15⟩; clear hs12
 refine oV (xAssign rfl) rfl (oEnd (kSeq (rSeq (rReg (oV (xMove rfl) rfl ?_)))))
 replace hs15 := hs15.f1
 replace hs15 := hs15.f1
 refine oCall call277 rfl rfl (rshard_s r13 (s.bytes ++ l) false (by first | omega | (simp only [List.length_append, le_length, List.length_cons, List.length_nil, List.length_map, List.length_replicate]; omega)) hs15) ?_
 rintro _ w18 ⟨f16, rfl, hle17, hs19⟩; clear hs15
 have hR20 := shL_le (s.bytes ++ l)
 replace hb := hb.mono hle17
 replace hb9 := hb9.mono hle17
 refine oV (xMove rfl) rfl ?_
 replace hs19 := hs19.f1
 replace hs19 := hs19.f1
 refine oCall call278 rfl rfl (rest_s r13 (shL (s.bytes ++ l)) (shT (s.bytes ++ l) false) (by first | omega | (simp only [List.length_append, le_length, List.length_cons, List.length_nil, List.length_map, List.length_replicate]; omega)) hs19) ?_
 rintro _ w28 ⟨f21, a22, k23, cp24, rfl, hle25, hb26, hs29⟩; clear hs19; have hl27 := RB.len hb26
 replace hb := hb.mono hle25
 replace hb9 := hb9.mono hle25
 refine oStoreG hs29 sizeOf280 rfl rfl rfl rfl (i := 2) rfl rfl ?_
 intro w30 hs31; clear hs29; dsimp only [List.set, putAt] at hs31
 refine oV (xAssign rfl) rfl (oV (xAssign rfl) rfl (oEnd (kSeq (rRet (kFin (.cell rfl (run_varG hs31 isAgg280 sizeOf280 (i := 2) rfl rfl) (.tmp rfl (.tmp rfl (.nil)))) ?_)))))
 replace hs31 := hs31.d2
 replace hs31 := hs31.d1
 rw [shOf_bytes]
 exact ⟨_, _, _, _, rfl, (FLe.trans hle8 (FLe.trans hle17 hle25)), by rw [← shL_bytes s l]; exact hb26, hs31⟩
theorem rEqlBoolF {b : Bool} (w : World) : Sem.run Tryz.prog (binOp .eql 4 (.bool false) (.bool b)) w = .ok (.bool (decide (b = false))) w := by
 have h : binOp .eql 4 (.bool false) (.bool b) = (do pure (.bool (← Op.equalIn (9999 + 1) 4 (.bool false) (.bool b)))) := rfl
 rw [h]
 simp only [Sem.run_bind, run_equalIn_bool' (P := Tryz.prog) w 9999 4 false b (by kernel_rfl), Result.andThen_ok, Sem.run_pure]
 cases b <;> rfl
theorem bindex_s {W0 w : World} {L : List Asn} {n uc : Nat} {ua : Option Addr} {fu : Nat → Bool} (hn : n ≤ 1000000) (hex : ∃ c, c < n ∧ fu c = false) (hs : Sep W0 w (own 4 1 (.slice ua n uc) n (bools n fu) :: L)) : Calls Tryz.prog 409 [.slice ua n uc, .bool false].toArray w (Ret fun r w' => ∃ c : Nat, r = .int .i64 (c : Int) ∧ c < n ∧ fu c = false ∧ Sep W0 w' (own 4 1 (.slice ua n uc) n (bools n fu) :: L)) := by
 refine enter (args := [(.slice ua n uc), (.bool false)]) (n := 19) (rs := [.tmp 4]) func409 rfl rfl rfl rfl ?_
 refine rSeq (rReg (oV (xAssign rfl) rfl (oEnd (kSeq (rSeq (rSeq (rReg (oV (xMove rfl) rfl (oV (xB1 rfl (rLenS underlying348)) rfl (oV (xMove rfl) rfl (oEnd (kSeq (rBlk (rLoop (fun mz e w => ∃ (i : Nat), n - i = mz ∧ e = [(0, (.slice ua n uc)), (1, (.bool false)), (7, (I (n : Int))), (8, (I (i : Int)))] ∧ (i ≤ n) ∧ (∀ c, c < i → fu c = true) ∧ Sep W0 w (own 4 1 (.slice ua n uc) n (bools n fu) :: L)) ⟨_, _, ⟨0, rfl, rfl, (by omega), (fun c hc => by omega), hs⟩, ⟨rfl, rfl, rfl, rfl, trivial⟩⟩ ?_))))))))))))))
 clear hs; rintro mz e w ⟨i, rfl, rfl, hi, hall, hs⟩
 refine rSeq (rReg (oV (xCmp rfl rfl rLss) rfl (oEnd (kSeq (rSeq ?_)))))
 refine rCondD rfl (fun hc1 => ?_) (fun hc1 => ?_)
 · refine rSkip (kSeq (rSeq (rBlk (rSeq (rReg (oV (xMove rfl) rfl (oV (xAssign rfl) rfl (oEnd (kSeq (rSeq (rReg (oV (xMove rfl) rfl (oV (xMove rfl) rfl (oV (xMove rfl) rfl ?_))))))))))))))
   obtain ⟨b2, rfl⟩ := Sep.ownAddr (i := 0) hs rfl (by omega)
   refine oV (xIA (o' := i) underlying348 sizeOf4 rfl rfl (by omega) (by omega) (by omega)) rfl (oV (xLoadC isAgg4 rfl (Sep.ownCell hs (i := 0) rfl (bools_get (by omega)))) rfl (oV (xBin (r := .bool (decide (fu i = false))) rfl rfl (fun _ => rfl) rEqlBoolF) rfl (oEnd (kSeq ?_))))
   refine rCondD rfl (fun hc4 => ?_) (fun hc4 => ?_)
   · refine rSeq (rReg (oV (xMove rfl) rfl (oV (xAssign rfl) rfl (oEnd (kSeq (rRet (kBlkR (kSeqR (kLoopR (kBlkR (kSeqR (kFin (.tmp rfl (.nil)) ?_))))))))))))
     exact ⟨i, rfl, by omega, hc4, hs⟩
   · refine rSkip (kBlk (kSeq (rReg (oV (xAr rfl rfl (rAdd (wI (by omega) (by omega)))) rfl (oV (xMove rfl) rfl ?_)))))
     exact oEnd (kLoop (n - (i + 1)) _ (by omega) ⟨i + 1, rfl, rfl, (by omega), (fun c hc => by
             rcases Nat.lt_or_ge c i with h | h
             · exact hall c h
             · obtain rfl : c = i := by omega
               simpa using hc4), hs⟩ ⟨rfl, rfl, rfl, rfl, trivial⟩)
 · refine rExit (kSeqX (kLoopX (kBlkH (kSeq (rSeq (rReg (oV (xAssign rfl) rfl (oEnd (kSeq (rRet (kFin (.tmp rfl (.nil)) ?_)))))))))))
   obtain ⟨c, h1, h2⟩ := hex
   have h3 := hall c (by omega)
   rw [h2] at h3; cases h3
theorem bools_rep (n : Nat) : List.replicate n (Value.bool false) = bools n (fun _ => false) := by
 apply List.ext_getElem?
 intro i
 simp only [bools, List.getElem?_map, List.getElem?_replicate, List.getElem?_range]
 split <;> simp [*]
theorem mval_split {vs : VS} {la lc : List (Sh × Value)} {y : Sh × Value} (h : mval cellI vs = la ++ y :: lc) : ∃ a z c, vs = a ++ z :: c ∧ mval cellI a = la ∧ (z.1, cellI z.2) = y ∧ mval cellI c = lc := by
 obtain ⟨a, c', h1, h2, h3⟩ := List.map_eq_append_iff.1 h
 obtain ⟨z, c, rfl, h4, h5⟩ := List.map_eq_cons_iff.1 h3
 exact ⟨a, z, c, h1, h2, h4, h5⟩
theorem vfree_s {W0 w : World} {L : List Asn} {v d sz NC r dcp : Nat} {da : Option Addr} {sy : Int} {vs : VS} {dc : List Value} {f : HF} (hok : VOk f sz NC dc vs) (hNC : NC ≤ 1000000) (hfree : vs.length < NC) (hs : Sep W0 w (row v 380 [ptr d, .map (some r)] :: row d 471 [I (sz : Int), .slice da NC dcp, .slice none 0 0, I sy] :: mapC Sh.val r (mval cellI vs) :: L)) : Calls Tryz.prog 399 [ptr v].toArray w
 (Ret fun r' w' => ∃ c : Nat, r' = .int .i64 (c : Int) ∧ c < NC ∧ (∀ p ∈ vs, p.2.2 ≠ c) ∧ Sep W0 w' (row v 380 [ptr d, .map (some r)] :: row d 471 [I (sz : Int), .slice da NC dcp, .slice none 0 0, I sy] :: mapC Sh.val r (mval cellI vs) :: L)) := by
 refine enter (args := [(ptr v)]) (n := 32) (rs := [.tmp 2]) func399 rfl rfl rfl rfl ?_
 refine rSeq (rReg (oV (xAssign rfl) rfl (oEnd (kSeq (rSeq (rReg (oV (xMove rfl) rfl (oV (xNil rfl) rfl (oV (xFA (j' := 0) underlying380 rfl sizeOf371 rfl rfl) rfl (oV (xLoad hs isAgg371 rfl (i := 0) rfl rfl) rfl ?_))))))))))
 replace hs := hs.f1
 refine oCall call364 rfl rfl (dklen_s hs) ?_
 rintro _ w1 ⟨rfl, hs2⟩; clear hs
 refine oV (xMove rfl) rfl (oV (xExtract rfl rfl) rfl (oV (xExtract rfl rfl) rfl (oV (xAssign rfl) rfl (oV (xAssign rfl) rfl (oEnd (kSeq (rSeq (rReg (oV (xMove rfl) rfl (oMake (k := NC) (c := NC) (size := 1) (bytes := 1) (inf := Tryz.t4) hs2 underlying348 (by kernel_rfl) rfl rfl rfl rfl rfl (by omega) (by omega) (by omega) (by omega) (by omega) rfl ?_))))))))))
 intro b3 w4 hs5; clear hs2
 rw [made1 (.bool false) rfl] at hs5
 rw [bools_rep] at hs5
 refine oV (xAssign rfl) rfl (oEnd (kSeq (rSeq (rSeq (rReg (oV (xMove rfl) rfl (oV (xNil rfl) rfl (oV (xFA (j' := 1) underlying380 rfl sizeOf378 rfl rfl) rfl (oV (xLoad hs5 isAgg378 rfl (i := 2) rfl rfl) rfl (oRange underlying378 hs5 (i := 3) rfl rfl rfl ?_))))))))))
 intro it6 w7 hs8; clear hs5; dsimp only [List.set] at hs8
 refine oEnd (kSeq (rBlk ?_))
 replace hs8 := hs8.f3
 replace hs8 := hs8.f1
 replace hs8 := hs8.f2
 replace hs8 := hs8.f3
 refine rLoop (fun mz e w => ∃ (lv : VS) (fu : Nat → Bool) (cu : Option (Sh × Value)), lv.length = mz ∧ e = [(0, (ptr v)), (5, (.slice (some ⟨b3, 0, none⟩) NC NC)), (22, (ptr it6))] ∧ (∀ p, p ∈ lv → p ∈ vs) ∧ (∀ p, p ∈ vs → p ∈ lv ∨ fu p.2.2 = true) ∧ (∀ c, fu c = true → c ∈ vs.map (fun p => p.2.2)) ∧ Sep W0 w (row v 380 [(ptr d), (.map (some r))] :: row d 471 [(I (sz : Int)), (.slice da NC dcp), (.slice none 0 0), (I sy)] :: own 4 1 (.slice (some ⟨b3, 0, none⟩) NC NC) NC (bools NC fu) :: rangeC Sh.val r it6 (mval cellI vs) (mval cellI lv) cu :: L)) ⟨_, _, ⟨vs, _, _, rfl, rfl, (fun p h => h), (fun p h => .inl h), (fun c h => by cases h), hs8⟩, ⟨rfl, rfl, rfl, trivial⟩⟩ ?_
 clear hs8; rintro mz e w ⟨lv, fu, cu, rfl, rfl, hsub, hdone, hback, hs⟩
 refine rSeq (rReg ?_)
 refine oNext (i := 3) hs rfl rfl rfl (fun hl9 w10 hs11 => ?_) (fun la12 y13 lc14 hl9 w10 hs11 => ?_)
 · clear hs; dsimp only [List.set] at hs11
   have hlv : lv = [] := by simpa [mval] using hl9
   subst hlv
   obtain ⟨c0, hc0⟩ := some_free (NC := NC) (fu := fu) (l := vs.map (fun p => p.2.2)) (by rw [List.length_map]; exact hfree) hback
   refine oV (xExtract rfl rfl) rfl (oEnd (kSeq (rSeq (rCondF rfl (rExit (kSeqX (kLoopX (kBlkH (kSeq (rSeq (rReg (oV (xMove rfl) rfl ?_))))))))))))
   replace hs11 := hs11.f2
   refine oCall call409 rfl rfl (bindex_s (by omega) ⟨c0, hc0⟩ hs11) ?_
   rintro _ w18 ⟨c15, rfl, hcl16, hcf17, hs19⟩; clear hs11
   refine oV (xAssign rfl) rfl (oEnd (kSeq (rRet (kFin (.tmp rfl (.nil)) ?_))))
   replace hs19 := hs19.d0
   have hs20 := Sep.rangeEnd (i := 2) hs19 rfl; dsimp only [List.set] at hs20
   have hne : ∀ p ∈ vs, p.2.2 ≠ c15 := by
     intro p hp he
     rcases hdone p hp with h | h
     · cases h
     · rw [he, hcf17] at h; cases h
   exact ⟨c15, rfl, hcl16, hne, hs20⟩
 · clear hs; dsimp only [List.set] at hs11
   obtain ⟨la', y', lc', rfl, h1, h2, h3⟩ := mval_split hl9; clear hl9; obtain ⟨ys, yb, yc⟩ := y'; subst h1 h2 h3; simp only [cellI] at hs11
   have hym := hsub (ys, yb, yc) (by simp); have hylt := hok.lt _ hym; simp only at hylt
   refine oV (xExtract rfl rfl) rfl (oEnd (kSeq (rSeq (rCondT rfl (rSkip (kSeq (rBlk (rSeq (rReg (oV (xEntry hs11 (i := 3) rfl rfl) rfl ?_))))))))))
   refine oV (xExtract rfl rfl) rfl (oV (xAssign rfl) rfl (oEnd (kSeq (rReg (oV (xMove rfl) rfl (oV (xMove rfl) rfl (oV (xIA (o' := yc) underlying348 sizeOf4 rfl rfl (by omega) (by omega) (by omega)) rfl (oStoreO hs11 sizeOf4 rfl rfl rfl (i := 2) rfl (bools_get (by omega)) ?_))))))))
   intro w21 hs22; clear hs11; dsimp only [List.set] at hs22; rw [bools_set (by omega)] at hs22
   have hs1 : ∀ p, p ∈ la' ++ lc' → p ∈ vs := fun p h => hsub p (by simp only [List.mem_append, List.mem_cons] at h ⊢; rcases h with h | h <;> simp [h])
   have hd1 : ∀ p, p ∈ vs → p ∈ la' ++ lc' ∨ setF fu yc true p.2.2 = true := by
     intro p h
     rcases hdone p h with h1 | h1
     · simp only [List.mem_append, List.mem_cons] at h1 ⊢
       rcases h1 with h1 | rfl | h1
       · exact .inl (.inl h1)
       · exact .inr (by simp [setF])
       · exact .inl (.inr h1)
     · exact .inr (by simp only [setF]; split <;> simp [h1])
   have hb1 : ∀ c, setF fu yc true c = true → c ∈ vs.map (fun p => p.2.2) := by
     intro c h
     by_cases hc : c = yc
     · subst hc; exact List.mem_map.2 ⟨_, hym, rfl⟩
     · simp only [setF, hc, if_false] at h; exact hback c h
   exact oEnd (kBlk (kLoop ((la' ++ lc').length) _ (by simp only [List.length_append, List.length_cons]; omega) ⟨la' ++ lc', _, _, rfl, rfl, (hs1), (hd1), (hb1), by simpa only [mval, List.map_append] using hs22⟩ ⟨rfl, rfl, rfl, trivial⟩))
end Go.Sl
namespace Go.Sl
open Go.Proofs Go.Proofs.Tryz
theorem mget_app {α β : Type} [DecidableEq α] {es : List (α × β)} {k : α} {v : β} (h : mget es k = none) : mset es k v = es ++ [(k, v)] := by rw [mset, mget_none h]
theorem mset_cell {vs : VS} {s : Sh} {l : LB} {c : Nat} (h : mget vs s = none) : mset (mval cellI vs) s (I (c : Int)) = mval cellI (vs ++ [(s, (l, c))]) := by
 have h1 : mget (mval cellI vs) s = none := by rw [mget_val, h]; rfl
 rw [mget_app h1]; simp [mval, cellI]
theorem vbegin_s {W0 w : World} {L : List Asn} {v d sz NC r dcp : Nat} {da : Option Addr} {sy : Int} {vs : VS} {dc : List Value} (s : Sh) {f : HF} {b : Option Addr} {m bc : Nat} {l : List UInt8} (hb : RB f b m bc l) (hok : VOk f sz NC dc vs) (hNC : NC ≤ 1000000) (hfree : vs.length < NC) (hg : mget vs s = none) (hlen : 24 + m ≤ sz) (hsz : sz ≤ 60000) (hs : Sep W0 w (pool f :: row v 380 [ptr d, .map (some r)] :: row d 471 [I (sz : Int), .slice da NC dcp, .slice none 0 0, I sy] :: own 26 1 (.slice da NC dcp) NC dc :: mapC Sh.val r (mval cellI vs) :: L)) : Calls Tryz.prog 387 [ptr v, s.val, .slice b m bc].toArray w
 (Ret fun r' w' => ∃ f' c a' m' bc' oa oc, r' = .int .i64 0 ∧ FLe f f' ∧ RB f' a' m' bc' (shFrame s l) ∧ c < NC ∧ (∀ p ∈ vs, p.2.2 ≠ c) ∧ Sep W0 w' (pool f' :: row v 380 [ptr d, .map (some r)] :: row d 471 [I (sz : Int), .slice da NC dcp, .slice oa 1 oc, I sy] :: own 473 2 (.slice oa 1 oc) 1 [I (c : Int), .slice a' m' bc'] :: own 26 1 (.slice da NC dcp) NC dc :: mapC Sh.val r (mval cellI (vs ++ [(s, (l, c))])) :: L)) := by
 have hbl := RB.len hb
 refine enter (args := [(ptr v), (.agg #[(.int .u32 (s.o.toNat : Int)), (.int .u16 (s.st.toNat : Int)), (.int .u16 (s.sl.toNat : Int)), (.int .u32 (s.g.toNat : Int))]), (.slice b m bc)]) (n := 66) (rs := [.tmp 6]) func387 rfl rfl rfl rfl ?_
 refine rSeq (rReg (oBox hs rfl rfl rfl ?_))
 intro b1 w2 hs3; clear hs
 refine oV (xAssign rfl) rfl (oEnd (kSeq (rSeq (rSeq (rReg (oV (xMove rfl) rfl (oV (xBin (r := .bool false) rfl rfl (fun _ => rfl) (fun w => by kernel_rfl)) rfl (oV (xMove rfl) rfl (oGuardT rfl rfl (oV (xMove rfl) rfl (oGuardT rfl rfl (oV (xNil rfl) rfl (oGuardT rfl rfl (oV (xFA (j' := 0) underlying380 rfl sizeOf371 rfl rfl) rfl (oGuardT rfl rfl (oV (xLoad hs3 isAgg371 rfl (i := 2) rfl rfl) rfl (oGuardT rfl rfl (oV (xBin (r := .bool false) rfl rfl (fun _ => rfl) (fun w => by kernel_rfl)) rfl (oV (xPickF rfl rfl) rfl (oEnd (kSeq (rCondF rfl (rSkip (kSeq (rSeq (rReg (oV (xLoadG hs3 isAgg280 sizeOf280 rfl (i := 0) rfl rfl) rfl (oV (xMove rfl) rfl ?_))))))))))))))))))))))))))))
 replace hs3 := hs3.f1
 refine oCall call398 rfl rfl (vframe_s hb s (by omega) hs3) ?_
 rintro _ w11 ⟨f4, a5, k6, cp7, rfl, hle8, hb9, hs12⟩; clear hs3; have hl10 := RB.len hb9
 replace hb := hb.mono hle8
 have hfl13 := shFrame_length s l
 refine oV (xAssign rfl) rfl (oEnd (kSeq (rSeq (rReg (oV (xMove rfl) rfl (oV (xNil rfl) rfl (oV (xFA (j' := 0) underlying380 rfl sizeOf371 rfl rfl) rfl (oV (xLoad hs12 isAgg371 rfl (i := 2) rfl rfl) rfl ?_))))))))
 replace hs12 := hs12.f3
 refine oCall call364 rfl rfl (dklen_s hs12) ?_
 rintro _ w14 ⟨rfl, hs15⟩; clear hs12
 refine oV (xMove rfl) rfl (oV (xExtract rfl rfl) rfl (oV (xExtract rfl rfl) rfl (oV (xAssign rfl) rfl (oV (xAssign rfl) rfl (oEnd (kSeq (rSeq (rBlk (rSeq (rReg (oV (xMove rfl) rfl (oV (xLoadG hs15 isAgg280 sizeOf280 rfl (i := 2) rfl rfl) rfl ?_))))))))))))
 replace hs15 := hs15.f5
 replace hs15 := hs15.f4
 refine oCall call209 rfl rfl (vhas_s s hs15) ?_
 rintro _ w16 ⟨rfl, hs17⟩; clear hs15
 refine oV (xAssign rfl) rfl (oEnd (kSeq (rCond rfl (fun hc18 => absurd hc18 (by rw [hg]; simp)) (fun hc18 => ?_))))
 refine rSeq (rReg (oV (xMove rfl) rfl (oV (xB1 rfl (rLenS underlying26)) rfl (oV (xCmp (r := false) rfl rfl (bF (by omega) rEql)) rfl (oV (xMove rfl) rfl (oGuardT rfl rfl (oV (xMove rfl) rfl (oGuardT rfl rfl (oV (xB1 rfl (rLenS underlying26)) rfl (oGuardT rfl rfl (oV (xMove rfl) rfl (oGuardT rfl rfl (oV (xCmp (r := false) rfl rfl (bF (by omega) rGtr)) rfl (oV (xPickF rfl rfl) rfl (oV (xAssign rfl) rfl (oEnd (kSeq (rCondF rfl (rSkip (kBlk (kSeq (rSeq (Run.sub (e' := [(0, (ptr v)), (4, (ptr b1)), (6, (I 0)), (7, (.slice a5 k6 cp7))]) ⟨rfl, rfl, rfl, rfl, trivial⟩ ?_)))))))))))))))))))))))
 refine rReg (oV (xMove rfl) rfl ?_)
 replace hs17 := hs17.f1
 replace hs17 := hs17.f2
 replace hs17 := hs17.f2
 refine oCall call399 rfl rfl (vfree_s hok hNC hfree hs17) ?_
 rintro _ w22 ⟨c19, rfl, hcl20, hcn21, hs23⟩; clear hs17
 refine oV (xAssign rfl) rfl (oEnd (kSeq (rSeq (rSeq (rReg (oV (xMove rfl) rfl (oV (xCmp (r := false) rfl rfl (bF (by omega) rLss)) rfl (oEnd (kSeq (rCondF rfl (rSkip (kSeq (rSeq (rSeq (rReg (oV (xMove rfl) rfl (oV (xNil rfl) rfl (oV (xFA (j' := 0) underlying380 rfl sizeOf371 rfl rfl) rfl (oV (xLoad hs23 isAgg371 rfl (i := 0) rfl rfl) rfl (oV (xMove rfl) rfl (oV (xMove rfl) rfl ?_)))))))))))))))))))))
 replace hs23 := hs23.f1
 replace hs23 := hs23.f3
 refine oCall call400 rfl rfl (dkwrite_s (c := c19) hb9 (by omega) (by omega) (by omega) hs23) ?_
 rintro _ w32 ⟨f24, a25, m26, bc27, oa28, oc29, rfl, hle30, hb31, hs33⟩; clear hs23
 replace hb := hb.mono hle30
 replace hb9 := hb9.mono hle30
 refine oV (xAssign rfl) rfl (oEnd (kSeq (rSeq (rReg (oV (xMove rfl) rfl (oV (xCmp (r := false) rfl rfl rNeq) rfl (oEnd (kSeq (rCondF rfl (rSkip (kSeq (rSeq ?_))))))))))))
 refine rRegG [(some 6, fun w => ∃ M, Sep W0 w (row v 380 [(ptr d), (.map (some r))] :: M)), (some 6, fun w => ∃ M, Sep W0 w (row b1 280 [(.int .u32 (s.o.toNat : Int)), (.int .u16 (s.st.toNat : Int)), (.int .u16 (s.sl.toNat : Int)), (.int .u32 (s.g.toNat : Int))] :: M))] (by kernel_rfl) hs33 (fun w34 hs35 => ⟨?_, fun hS => ?_⟩)
 · exact ⟨fun _ => ⟨_, (Sep.front (i := 3) rfl hs35)⟩, fun _ => ⟨_, (Sep.front (i := 5) rfl hs35)⟩, trivial⟩
 clear hs33
 refine gTake0 0 rfl (by kernel_rfl) hS (fun w => xMove rfl) rfl ?_
 clear hS; intro hS
 refine gTake0 1 rfl (by kernel_rfl) hS (fun w => xNil rfl) rfl ?_
 clear hS; intro hS
 refine gTake0 2 rfl (by kernel_rfl) hS (fun w => xFA (j' := 1) underlying380 rfl sizeOf378 rfl rfl) rfl ?_
 clear hS; intro hS
 refine gTake 3 0 rfl (by kernel_rfl) rfl (by kernel_rfl) hS (fun w hq0 => by obtain ⟨M, hq⟩ := hq0; exact xLoad hq isAgg378 rfl (i := 0) rfl rfl) rfl ?_
 clear hS; intro hS
 refine gTake 4 1 rfl (by kernel_rfl) rfl (by kernel_rfl) hS (fun w hq0 => by obtain ⟨M, hq⟩ := hq0; exact xLoadG hq isAgg280 sizeOf280 rfl (i := 0) rfl rfl) rfl ?_
 clear hS; intro hS
 refine gTake0 5 rfl (by kernel_rfl) hS (fun w => xMove rfl) rfl ?_
 clear hS; intro hS
 refine gEff 6 (by kernel_rfl) rfl ?_
 refine oMapUpdate shOps underlying378 hs35 (i := 4) rfl s rfl rfl rfl ?_
 intro w36 hs37; clear hs35; dsimp only [List.set] at hs37
 refine oEnd (kG ⟨(tillDone (by kernel_rfl)), (tillDone (by kernel_rfl)), trivial⟩ ?_)
 clear hS; intro hS
 refine gEnd (by kernel_rfl) ?_
 clear hS
 refine kSeq ?_
 refine rSeq (rReg (oV (xAssign rfl) rfl (oEnd (kSeq (rRet (kFin (.tmp rfl (.nil)) ?_))))))
 replace hs37 := hs37.d5
 replace hs37 := hs37.f4
 replace hs37 := hs37.f5
 replace hs37 := hs37.f4
 replace hs37 := hs37.f4
 replace hs37 := hs37.f5
 replace hs37 := hs37.f5
 rw [mset_cell (l := l) hg] at hs37
 exact ⟨_, c19, _, _, _, _, _, rfl, (FLe.trans hle8 hle30), hb31, hcl20, hcn21, hs37⟩
theorem vput_s {W0 w : World} {L : List Asn} {v d sz NC : Nat} {vs : VS} (s : Sh) {f : HF} {b : Option Addr} {m bc : Nat} {l : List UInt8} (hb : RB f b m bc l) (hNC : NC ≤ 1000000) (hfree : vs.length < NC) (hg : mget vs s = none) (hlen : 24 + m ≤ sz) (hsz : sz ≤ 60000) (hs : Sep W0 w (pool f :: vltA f v d sz NC vs :: L)) : Calls Tryz.prog 401 [ptr v, s.val, .slice b m bc].toArray w
 (Ret fun r' w' => ∃ f' c, r' = .int .i64 0 ∧ FLe f f' ∧ Sep W0 w' (pool f' :: vltA f' v d sz NC (vs ++ [(s, (l, c))]) :: L)) := by
 have hbl := RB.len hb
 obtain ⟨r, da, dcp, sy, dc, hok, hs⟩ := vltA_open (Sep.front (i := 1) rfl hs); replace hs := hs.f4
 refine enter (args := [(ptr v), (.agg #[(.int .u32 (s.o.toNat : Int)), (.int .u16 (s.st.toNat : Int)), (.int .u16 (s.sl.toNat : Int)), (.int .u32 (s.g.toNat : Int))]), (.slice b m bc)]) (n := 20) (rs := [.tmp 6]) func401 rfl rfl rfl rfl ?_
 refine rSeq (rReg (oBox hs rfl rfl rfl ?_))
 intro b1 w2 hs3; clear hs
 refine oV (xAssign rfl) rfl (oEnd (kSeq (rSeq (rSeq (rReg (oV (xMove rfl) rfl (oV (xLoadG hs3 isAgg280 sizeOf280 rfl (i := 0) rfl rfl) rfl (oV (xMove rfl) rfl ?_))))))))
 replace hs3 := hs3.f5
 replace hs3 := hs3.f5
 replace hs3 := hs3.f5
 replace hs3 := hs3.f5
 replace hs3 := hs3.f5
 refine oCall call387 rfl rfl (vbegin_s s hb hok hNC hfree hg (by omega) (by omega) hs3) ?_
 rintro _ w15 ⟨f4, c5, a6, m7, bc8, oa9, oc10, rfl, hle11, hb12, hcl13, hcn14, hs16⟩; clear hs3
 replace hb := hb.mono hle11
 refine oV (xAssign rfl) rfl (oEnd (kSeq (rSeq (rReg (oV (xMove rfl) rfl (oV (xCmp (r := false) rfl rfl rNeq) rfl (oEnd (kSeq (rCondF rfl (rSkip (kSeq (rSeq (rReg (oV (xMove rfl) rfl (oV (xNil rfl) rfl (oV (xFA (j' := 0) underlying380 rfl sizeOf371 rfl rfl) rfl (oV (xLoad hs16 isAgg371 rfl (i := 1) rfl rfl) rfl ?_)))))))))))))))))
 replace hs16 := hs16.f4
 replace hs16 := hs16.f4
 replace hs16 := hs16.f4
 refine oCall call410 rfl rfl (dksync_s hcl13 hok.len hs16) ?_
 rintro _ w18 ⟨sy17, rfl, hs19⟩; clear hs16
 refine oV (xAssign rfl) rfl (oEnd (kSeq (rRet (kFin (.tmp rfl (.nil)) ?_))))
 replace hs19 := hs19.d5
 replace hs19 := hs19.f4
 replace hs19 := hs19.f2
 replace hs19 := hs19.f2
 replace hs19 := hs19.f4
 replace hs19 := hs19.f4
 replace hs19 := hs19.f4
 replace hs19 := hs19.f4
 replace hs19 := hs19.f4
 replace hs19 := hs19.f4
 have hs20 := vltA_shut (f := f4) (VOk.put (hok.mono hle11) hcl13 hcn14 hb12 (by omega)) hs19; replace hs20 := hs20.f1
 exact ⟨_, c5, rfl, hle11, hs20⟩
theorem vget_s {W0 w : World} {L : List Asn} {f : HF} {v d sz NC c : Nat} {vs : VS} {l : LB} (s : Sh) (hg : mget vs s = some (l, c)) (hsz : sz ≤ 60000) (hs : Sep W0 w (pool f :: vltA f v d sz NC vs :: L)) : Calls Tryz.prog 149 [ptr v, s.val].toArray w
 (Ret fun r' w' => ∃ f' a k cp, r' = .tuple #[.slice a k cp, .int .i64 0] ∧ FLe f f' ∧ RB f' a k cp l ∧ Sep W0 w' (pool f' :: vltA f' v d sz NC vs :: L)) := by
 obtain ⟨r, da, dcp, sy, dc, hok, hs⟩ := vltA_open (Sep.front (i := 1) rfl hs); replace hs := hs.f4
 have hmm := mget_mem hg; have hclt := hok.lt _ hmm; obtain ⟨hsz2, xa, xk, xc, hcell, hbx⟩ := hok.at' _ hmm; have hxl := RB.len hbx; rw [shFrame_length] at hxl; simp only at hclt hsz2 hxl hcell hbx
 refine enter (args := [(ptr v), (.agg #[(.int .u32 (s.o.toNat : Int)), (.int .u16 (s.st.toNat : Int)), (.int .u16 (s.sl.toNat : Int)), (.int .u32 (s.g.toNat : Int))])]) (n := 38) (rs := [.tmp 4, .tmp 5]) func149 rfl rfl rfl rfl ?_
 refine rSeq (rReg (oBox hs rfl rfl rfl ?_))
 intro b1 w2 hs3; clear hs
 refine oV (xAssign rfl) rfl (oV (xAssign rfl) rfl (oEnd (kSeq (rSeq (rSeq (rReg (oV (xMove rfl) rfl (oV (xLoadG hs3 isAgg280 sizeOf280 rfl (i := 0) rfl rfl) rfl ?_))))))))
 replace hs3 := hs3.f5
 replace hs3 := hs3.f3
 refine oCall call209 rfl rfl (vhas_s s hs3) ?_
 rintro _ w4 ⟨rfl, hs5⟩; clear hs3
 refine oV (xNot rfl) rfl (oEnd (kSeq (rCond rfl (fun hc6 => absurd hc6 (by rw [hg]; simp)) (fun hc6 => ?_))))
 refine rSkip (kSeq (rSeq ?_))
 refine rRegG [(none, fun w => ∃ M, Sep W0 w (row v 380 [(ptr d), (.map (some r))] :: M)), (none, fun w => ∃ M, Sep W0 w (row b1 280 [(.int .u32 (s.o.toNat : Int)), (.int .u16 (s.st.toNat : Int)), (.int .u16 (s.sl.toNat : Int)), (.int .u32 (s.g.toNat : Int))] :: M)), (none, fun w => ∃ M, Sep W0 w (mapC Sh.val r (mval cellI vs) :: M))] (by kernel_rfl) hs5 (fun w7 hs8 => ⟨?_, fun hS => ?_⟩)
 · exact ⟨⟨_, (Sep.front (i := 0) rfl hs8)⟩, ⟨_, (Sep.front (i := 2) rfl hs8)⟩, ⟨_, (Sep.front (i := 1) rfl hs8)⟩, trivial⟩
 clear hs5
 refine gTake0 0 rfl (by kernel_rfl) hS (fun w => xMove rfl) rfl ?_
 clear hS; intro hS
 refine gTake0 1 rfl (by kernel_rfl) hS (fun w => xNil rfl) rfl ?_
 clear hS; intro hS
 refine gTake0 2 rfl (by kernel_rfl) hS (fun w => xFA (j' := 0) underlying380 rfl sizeOf371 rfl rfl) rfl ?_
 clear hS; intro hS
 refine gTake 3 0 rfl (by kernel_rfl) rfl (by kernel_rfl) hS (fun w hq0 => by obtain ⟨M, hq⟩ := hq0; exact xLoad hq isAgg371 rfl (i := 0) rfl rfl) rfl ?_
 clear hS; intro hS
 refine gTake0 4 rfl (by kernel_rfl) hS (fun w => xMove rfl) rfl ?_
 clear hS; intro hS
 refine gTake0 5 rfl (by kernel_rfl) hS (fun w => xNil rfl) rfl ?_
 clear hS; intro hS
 refine gTake0 6 rfl (by kernel_rfl) hS (fun w => xFA (j' := 1) underlying380 rfl sizeOf378 rfl rfl) rfl ?_
 clear hS; intro hS
 refine gTake 7 0 rfl (by kernel_rfl) rfl (by kernel_rfl) hS (fun w hq0 => by obtain ⟨M, hq⟩ := hq0; exact xLoad hq isAgg378 rfl (i := 0) rfl rfl) rfl ?_
 clear hS; intro hS
 refine gTake 8 1 rfl (by kernel_rfl) rfl (by kernel_rfl) hS (fun w hq0 => by obtain ⟨M, hq⟩ := hq0; exact xLoadG hq isAgg280 sizeOf280 rfl (i := 0) rfl rfl) rfl ?_
 clear hS; intro hS
 refine gTake 9 2 rfl (by kernel_rfl) rfl (by kernel_rfl) hS (fun w hq0 => by obtain ⟨M, hq⟩ := hq0; exact xLookupS shOps underlying378 zeroValue3 hq (i := 0) rfl s rfl rfl (by rw [mget_val, hg]; rfl)) rfl ?_
 clear hS; intro hS
 refine gEff2 10 16 (by kernel_rfl) rfl rfl ?_ ?_
 · replace hs8 := hs8.f5
   replace hs8 := hs8.f5
   replace hs8 := hs8.f5
   refine oCall call211 rfl rfl (dkread_s (c := c) hbx (by omega) (by omega) hcell hs8) ?_
   rintro _ w16 ⟨f9, a10, k11, cp12, rfl, hle13, hb14, hs17⟩; clear hs8; have hl15 := RB.len hb14
   refine oEnd (kG ⟨⟨_, (Sep.front (i := 3) rfl hs17)⟩, ⟨_, (Sep.front (i := 5) rfl hs17)⟩, ⟨_, (Sep.front (i := 4) rfl hs17)⟩, trivial⟩ ?_)
   clear hS; intro hS
   refine gEff2 11 16 (by kernel_rfl) rfl rfl ?_ ?_
   · refine oCall call210 rfl rfl (vread_s (s := s) (l := l) hb14 (by omega) hs17) ?_
     rintro _ w25 ⟨f18, a19, k20, cp21, rfl, hle22, hb23, hs26⟩; clear hs17; have hl24 := RB.len hb23
     replace hb14 := hb14.mono hle22
     refine oEnd (kG ⟨⟨_, (Sep.front (i := 3) rfl hs26)⟩, ⟨_, (Sep.front (i := 5) rfl hs26)⟩, ⟨_, (Sep.front (i := 4) rfl hs26)⟩, trivial⟩ ?_)
     clear hS; intro hS
     refine gTake0 12 rfl (by kernel_rfl) hS (fun w => xMove rfl) rfl ?_
     clear hS; intro hS
     refine gTake0 13 rfl (by kernel_rfl) hS (fun w => xExtract rfl rfl) rfl ?_
     clear hS; intro hS
     refine gTake0 14 rfl (by kernel_rfl) hS (fun w => xExtract rfl rfl) rfl ?_
     clear hS; intro hS
     refine gTake0 15 rfl (by kernel_rfl) hS (fun w => xExtract rfl rfl) rfl ?_
     clear hS; intro hS
     refine gEff 16 (by kernel_rfl) rfl ?_
     refine oAlloc hs26 zeroValue280 rfl rfl ?_
     intro b27 w28 hs29; clear hs26
     refine oEnd (kG ⟨⟨_, (Sep.front (i := 4) rfl hs29)⟩, ⟨_, (Sep.front (i := 6) rfl hs29)⟩, ⟨_, (Sep.front (i := 5) rfl hs29)⟩, trivial⟩ ?_)
     clear hS; intro hS
     refine gEff 17 (by kernel_rfl) rfl ?_
     refine oStoreG hs29 sizeOf280 rfl rfl rfl rfl (i := 0) rfl rfl ?_
     intro w30 hs31; clear hs29; dsimp only [List.set, putAt] at hs31
     refine oEnd (kG ⟨⟨_, (Sep.front (i := 4) rfl hs31)⟩, ⟨_, (Sep.front (i := 6) rfl hs31)⟩, ⟨_, (Sep.front (i := 5) rfl hs31)⟩, trivial⟩ ?_)
     clear hS; intro hS
     refine gTake0 18 rfl (by kernel_rfl) hS (fun w => xAssign rfl) rfl ?_
     clear hS; intro hS
     refine gTake0 19 rfl (by kernel_rfl) hS (fun w => xAssign rfl) rfl ?_
     clear hS; intro hS
     refine gEnd (by kernel_rfl) ?_
     clear hS
     refine kSeq ?_
     refine rSeq (rBlk (rSeq (rReg (oV (xMove rfl) rfl (oV (xCmp (r := false) rfl rfl rNeq) rfl (oV (xAssign rfl) rfl (oEnd (kSeq (rCondF rfl (rSeq (rReg (oV (xLoadG hs31 isAgg280 sizeOf280 rfl (i := 0) rfl rfl) rfl (oV (xLoadG hs31 isAgg280 sizeOf280 rfl (i := 6) rfl rfl) rfl (oV (xBin (p := s.val) (q := s.val) (r := .bool false) rfl rfl (fun w => by kernel_rfl) (bF (by simp) (rNeqSh s s))) rfl (oV (xAssign rfl) rfl (oEnd (kSeq (rCondF rfl (rSkip (kBlk (kSeq (rSeq (rReg (oV (xMove rfl) rfl (oV (xAssign rfl) rfl (oV (xAssign rfl) rfl (oEnd (kSeq (rRet (kFin (.tmp rfl (.tmp rfl (.nil))) ?_))))))))))))))))))))))))))))))
     replace hs31 := hs31.d6
     replace hs31 := hs31.d0
     replace hs31 := hs31.f4
     replace hs31 := hs31.f3
     replace hs31 := hs31.f3
     replace hs31 := hs31.f4
     replace hs31 := hs31.f4
     replace hs31 := hs31.f4
     replace hs31 := hs31.f4
     replace hs31 := hs31.f4
     replace hs31 := hs31.f4
     have hs32 := vltA_shut (f := f18) (hok.mono (FLe.trans hle13 hle22)) hs31; replace hs32 := hs32.f1
     exact ⟨_, _, _, _, rfl, (FLe.trans hle13 hle22), hb23, hs32⟩
   · refine oAlloc hs17 zeroValue280 rfl rfl ?_
     intro b33 w34 hs35; clear hs17
     refine oEnd (kG ⟨⟨_, (Sep.front (i := 4) rfl hs35)⟩, ⟨_, (Sep.front (i := 6) rfl hs35)⟩, ⟨_, (Sep.front (i := 5) rfl hs35)⟩, trivial⟩ ?_)
     clear hS; intro hS
     refine gEff 11 (by kernel_rfl) rfl ?_
     replace hs35 := hs35.f1
     refine oCall call210 rfl rfl (vread_s (s := s) (l := l) hb14 (by omega) hs35) ?_
     rintro _ w43 ⟨f36, a37, k38, cp39, rfl, hle40, hb41, hs44⟩; clear hs35; have hl42 := RB.len hb41
     replace hb14 := hb14.mono hle40
     refine oEnd (kG ⟨⟨_, (Sep.front (i := 4) rfl hs44)⟩, ⟨_, (Sep.front (i := 6) rfl hs44)⟩, ⟨_, (Sep.front (i := 5) rfl hs44)⟩, trivial⟩ ?_)
     clear hS; intro hS
     refine gTake0 12 rfl (by kernel_rfl) hS (fun w => xMove rfl) rfl ?_
     clear hS; intro hS
     refine gTake0 13 rfl (by kernel_rfl) hS (fun w => xExtract rfl rfl) rfl ?_
     clear hS; intro hS
     refine gTake0 14 rfl (by kernel_rfl) hS (fun w => xExtract rfl rfl) rfl ?_
     clear hS; intro hS
     refine gTake0 15 rfl (by kernel_rfl) hS (fun w => xExtract rfl rfl) rfl ?_
     clear hS; intro hS
     refine gEff 17 (by kernel_rfl) rfl ?_
     refine oStoreG hs44 sizeOf280 rfl rfl rfl rfl (i := 1) rfl rfl ?_
     intro w45 hs46; clear hs44; dsimp only [List.set, putAt] at hs46
     refine oEnd (kG ⟨⟨_, (Sep.front (i := 4) rfl hs46)⟩, ⟨_, (Sep.front (i := 6) rfl hs46)⟩, ⟨_, (Sep.front (i := 5) rfl hs46)⟩, trivial⟩ ?_)
     clear hS; intro hS
     refine gTake0 18 rfl (by kernel_rfl) hS (fun w => xAssign rfl) rfl ?_
     clear hS; intro hS
     refine gTake0 19 rfl (by kernel_rfl) hS (fun w => xAssign rfl) rfl ?_
     clear hS; intro hS
     refine gEnd (by kernel_rfl) ?_
     clear hS
     refine kSeq ?_
     refine rSeq (rBlk (rSeq (rReg (oV (xMove rfl) rfl (oV (xCmp (r := false) rfl rfl rNeq) rfl (oV (xAssign rfl) rfl (oEnd (kSeq (rCondF rfl (rSeq (rReg (oV (xLoadG hs46 isAgg280 sizeOf280 rfl (i := 1) rfl rfl) rfl (oV (xLoadG hs46 isAgg280 sizeOf280 rfl (i := 6) rfl rfl) rfl (oV (xBin (p := s.val) (q := s.val) (r := .bool false) rfl rfl (fun w => by kernel_rfl) (bF (by simp) (rNeqSh s s))) rfl (oV (xAssign rfl) rfl (oEnd (kSeq (rCondF rfl (rSkip (kBlk (kSeq (rSeq (rReg (oV (xMove rfl) rfl (oV (xAssign rfl) rfl (oV (xAssign rfl) rfl (oEnd (kSeq (rRet (kFin (.tmp rfl (.tmp rfl (.nil))) ?_))))))))))))))))))))))))))))))
     replace hs46 := hs46.d6
     replace hs46 := hs46.d1
     replace hs46 := hs46.f4
     replace hs46 := hs46.f3
     replace hs46 := hs46.f3
     replace hs46 := hs46.f4
     replace hs46 := hs46.f4
     replace hs46 := hs46.f4
     replace hs46 := hs46.f4
     replace hs46 := hs46.f4
     replace hs46 := hs46.f4
     have hs47 := vltA_shut (f := f36) (hok.mono (FLe.trans hle13 hle40)) hs46; replace hs47 := hs47.f1
     exact ⟨_, _, _, _, rfl, (FLe.trans hle13 hle40), hb41, hs47⟩
 · refine oAlloc hs8 zeroValue280 rfl rfl ?_
   intro b48 w49 hs50; clear hs8
   refine oEnd (kG ⟨⟨_, (Sep.front (i := 1) rfl hs50)⟩, ⟨_, (Sep.front (i := 3) rfl hs50)⟩, ⟨_, (Sep.front (i := 2) rfl hs50)⟩, trivial⟩ ?_)
   clear hS; intro hS
   refine gEff 10 (by kernel_rfl) rfl ?_
   replace hs50 := hs50.f6
   replace hs50 := hs50.f6
   replace hs50 := hs50.f6
   refine oCall call211 rfl rfl (dkread_s (c := c) hbx (by omega) (by omega) hcell hs50) ?_
   rintro _ w58 ⟨f51, a52, k53, cp54, rfl, hle55, hb56, hs59⟩; clear hs50; have hl57 := RB.len hb56
   refine oEnd (kG ⟨⟨_, (Sep.front (i := 4) rfl hs59)⟩, ⟨_, (Sep.front (i := 6) rfl hs59)⟩, ⟨_, (Sep.front (i := 5) rfl hs59)⟩, trivial⟩ ?_)
   clear hS; intro hS
   refine gEff 11 (by kernel_rfl) rfl ?_
   refine oCall call210 rfl rfl (vread_s (s := s) (l := l) hb56 (by omega) hs59) ?_
   rintro _ w67 ⟨f60, a61, k62, cp63, rfl, hle64, hb65, hs68⟩; clear hs59; have hl66 := RB.len hb65
   replace hb56 := hb56.mono hle64
   refine oEnd (kG ⟨⟨_, (Sep.front (i := 4) rfl hs68)⟩, ⟨_, (Sep.front (i := 6) rfl hs68)⟩, ⟨_, (Sep.front (i := 5) rfl hs68)⟩, trivial⟩ ?_)
   clear hS; intro hS
   refine gTake0 12 rfl (by kernel_rfl) hS (fun w => xMove rfl) rfl ?_
   clear hS; intro hS
   refine gTake0 13 rfl (by kernel_rfl) hS (fun w => xExtract rfl rfl) rfl ?_
   clear hS; intro hS
   refine gTake0 14 rfl (by kernel_rfl) hS (fun w => xExtract rfl rfl) rfl ?_
   clear hS; intro hS
   refine gTake0 15 rfl (by kernel_rfl) hS (fun w => xExtract rfl rfl) rfl ?_
   clear hS; intro hS
   refine gEff 17 (by kernel_rfl) rfl ?_
   refine oStoreG hs68 sizeOf280 rfl rfl rfl rfl (i := 3) rfl rfl ?_
   intro w69 hs70; clear hs68; dsimp only [List.set, putAt] at hs70
   refine oEnd (kG ⟨⟨_, (Sep.front (i := 4) rfl hs70)⟩, ⟨_, (Sep.front (i := 6) rfl hs70)⟩, ⟨_, (Sep.front (i := 5) rfl hs70)⟩, trivial⟩ ?_)
   clear hS; intro hS
   refine gTake0 18 rfl (by kernel_rfl) hS (fun w => xAssign rfl) rfl ?_
   clear hS; intro hS
   refine gTake0 19 rfl (by kernel_rfl) hS (fun w => xAssign rfl) rfl ?_
   clear hS; intro hS
   refine gEnd (by kernel_rfl) ?_
   clear hS
   refine kSeq ?_
   refine rSeq (rBlk (rSeq (rReg (oV (xMove rfl) rfl (oV (xCmp (r := false) rfl rfl rNeq) rfl (oV (xAssign rfl) rfl (oEnd (kSeq (rCondF rfl (rSeq (rReg (oV (xLoadG hs70 isAgg280 sizeOf280 rfl (i := 3) rfl rfl) rfl (oV (xLoadG hs70 isAgg280 sizeOf280 rfl (i := 6) rfl rfl) rfl (oV (xBin (p := s.val) (q := s.val) (r := .bool false) rfl rfl (fun w => by kernel_rfl) (bF (by simp) (rNeqSh s s))) rfl (oV (xAssign rfl) rfl (oEnd (kSeq (rCondF rfl (rSkip (kBlk (kSeq (rSeq (rReg (oV (xMove rfl) rfl (oV (xAssign rfl) rfl (oV (xAssign rfl) rfl (oEnd (kSeq (rRet (kFin (.tmp rfl (.tmp rfl (.nil))) ?_))))))))))))))))))))))))))))))
   replace hs70 := hs70.d6
   replace hs70 := hs70.d3
   replace hs70 := hs70.f4
   replace hs70 := hs70.f3
   replace hs70 := hs70.f3
   replace hs70 := hs70.f4
   replace hs70 := hs70.f4
   replace hs70 := hs70.f4
   replace hs70 := hs70.f4
   replace hs70 := hs70.f4
   replace hs70 := hs70.f4
   have hs71 := vltA_shut (f := f60) (hok.mono (FLe.trans hle55 hle64)) hs70; replace hs71 := hs71.f1
   exact ⟨_, _, _, _, rfl, (FLe.trans hle55 hle64), hb65, hs71⟩
theorem vdrop_s {W0 w : World} {L : List Asn} {f : HF} {v d sz NC c : Nat} {vs : VS} {l : LB} (s : Sh) (hg : mget vs s = some (l, c)) (hsz : sz ≤ 60000) (hs : Sep W0 w (pool f :: vltA f v d sz NC vs :: L)) : Calls Tryz.prog 402 [ptr v, s.val].toArray w
 (Ret fun r' w' => ∃ f', r' = .int .i64 0 ∧ FLe f f' ∧ Sep W0 w' (pool f' :: vltA f' v d sz NC (mdel vs s) :: L)) := by
 obtain ⟨r, da, dcp, sy, dc, hok, hs⟩ := vltA_open (Sep.front (i := 1) rfl hs); replace hs := hs.f4
 have hmm := mget_mem hg; have hclt := hok.lt _ hmm; obtain ⟨hsz2, xa, xk, xc, hcell, hbx⟩ := hok.at' _ hmm; have hxl := RB.len hbx; rw [shFrame_length] at hxl; simp only at hclt hsz2 hxl hcell hbx
 refine enter (args := [(ptr v), (.agg #[(.int .u32 (s.o.toNat : Int)), (.int .u16 (s.st.toNat : Int)), (.int .u16 (s.sl.toNat : Int)), (.int .u32 (s.g.toNat : Int))])]) (n := 43) (rs := [.tmp 4]) func402 rfl rfl rfl rfl ?_
 refine rSeq (rReg (oBox hs rfl rfl rfl ?_))
 intro b1 w2 hs3; clear hs
 refine oV (xAssign rfl) rfl (oEnd (kSeq (rSeq (rSeq (rReg (oV (xMove rfl) rfl (oV (xBin (r := .bool false) rfl rfl (fun _ => rfl) (fun w => by kernel_rfl)) rfl (oV (xMove rfl) rfl (oGuardT rfl rfl (oV (xMove rfl) rfl (oGuardT rfl rfl (oV (xNil rfl) rfl (oGuardT rfl rfl (oV (xFA (j' := 0) underlying380 rfl sizeOf371 rfl rfl) rfl (oGuardT rfl rfl (oV (xLoad hs3 isAgg371 rfl (i := 2) rfl rfl) rfl (oGuardT rfl rfl (oV (xBin (r := .bool false) rfl rfl (fun _ => rfl) (fun w => by kernel_rfl)) rfl (oV (xPickF rfl rfl) rfl (oEnd (kSeq (rCondF rfl (rSkip (kSeq (rSeq (rSeq (rReg (oV (xMove rfl) rfl (oV (xLoadG hs3 isAgg280 sizeOf280 rfl (i := 0) rfl rfl) rfl ?_)))))))))))))))))))))))))))))
 replace hs3 := hs3.f5
 replace hs3 := hs3.f3
 refine oCall call209 rfl rfl (vhas_s s hs3) ?_
 rintro _ w4 ⟨rfl, hs5⟩; clear hs3
 refine oV (xNot rfl) rfl (oEnd (kSeq (rCond rfl (fun hc6 => absurd hc6 (by rw [hg]; simp)) (fun hc6 => ?_))))
 refine rSkip (kSeq (rSeq (rSeq ?_)))
 refine rRegG [(none, fun w => ∃ M, Sep W0 w (row v 380 [(ptr d), (.map (some r))] :: M)), (none, fun w => ∃ M, Sep W0 w (row b1 280 [(.int .u32 (s.o.toNat : Int)), (.int .u16 (s.st.toNat : Int)), (.int .u16 (s.sl.toNat : Int)), (.int .u32 (s.g.toNat : Int))] :: M)), (none, fun w => ∃ M, Sep W0 w (mapC Sh.val r (mval cellI vs) :: M))] (by kernel_rfl) hs5 (fun w7 hs8 => ⟨?_, fun hS => ?_⟩)
 · exact ⟨⟨_, (Sep.front (i := 0) rfl hs8)⟩, ⟨_, (Sep.front (i := 2) rfl hs8)⟩, ⟨_, (Sep.front (i := 1) rfl hs8)⟩, trivial⟩
 clear hs5
 refine gTake0 0 rfl (by kernel_rfl) hS (fun w => xMove rfl) rfl ?_
 clear hS; intro hS
 refine gTake0 1 rfl (by kernel_rfl) hS (fun w => xNil rfl) rfl ?_
 clear hS; intro hS
 refine gTake0 2 rfl (by kernel_rfl) hS (fun w => xFA (j' := 0) underlying380 rfl sizeOf371 rfl rfl) rfl ?_
 clear hS; intro hS
 refine gTake 3 0 rfl (by kernel_rfl) rfl (by kernel_rfl) hS (fun w hq0 => by obtain ⟨M, hq⟩ := hq0; exact xLoad hq isAgg371 rfl (i := 0) rfl rfl) rfl ?_
 clear hS; intro hS
 refine gTake0 4 rfl (by kernel_rfl) hS (fun w => xMove rfl) rfl ?_
 clear hS; intro hS
 refine gTake0 5 rfl (by kernel_rfl) hS (fun w => xNil rfl) rfl ?_
 clear hS; intro hS
 refine gTake0 6 rfl (by kernel_rfl) hS (fun w => xFA (j' := 1) underlying380 rfl sizeOf378 rfl rfl) rfl ?_
 clear hS; intro hS
 refine gTake 7 0 rfl (by kernel_rfl) rfl (by kernel_rfl) hS (fun w hq0 => by obtain ⟨M, hq⟩ := hq0; exact xLoad hq isAgg378 rfl (i := 0) rfl rfl) rfl ?_
 clear hS; intro hS
 refine gTake 8 1 rfl (by kernel_rfl) rfl (by kernel_rfl) hS (fun w hq0 => by obtain ⟨M, hq⟩ := hq0; exact xLoadG hq isAgg280 sizeOf280 rfl (i := 0) rfl rfl) rfl ?_
 clear hS; intro hS
 refine gTake 9 2 rfl (by kernel_rfl) rfl (by kernel_rfl) hS (fun w hq0 => by obtain ⟨M, hq⟩ := hq0; exact xLookupS shOps underlying378 zeroValue3 hq (i := 0) rfl s rfl rfl (by rw [mget_val, hg]; rfl)) rfl ?_
 clear hS; intro hS
 refine gEff 10 (by kernel_rfl) rfl ?_
 replace hs8 := hs8.f4
 replace hs8 := hs8.f4
 refine oCall call400 rfl rfl (dkwrite0_s (c := c) hclt hs8) ?_
 rintro _ w11 ⟨oa9, oc10, rfl, hs12⟩; clear hs8
 refine oEnd (kG ⟨⟨_, (Sep.front (i := 3) rfl hs12)⟩, ⟨_, (Sep.front (i := 5) rfl hs12)⟩, ⟨_, (Sep.front (i := 4) rfl hs12)⟩, trivial⟩ ?_)
 clear hS; intro hS
 refine gTake0 11 rfl (by kernel_rfl) hS (fun w => xAssign rfl) rfl ?_
 clear hS; intro hS
 refine gEnd (by kernel_rfl) ?_
 clear hS
 refine kSeq ?_
 refine rSeq (rReg (oV (xMove rfl) rfl (oV (xCmp (r := false) rfl rfl rNeq) rfl (oEnd (kSeq (rCondF rfl (rSkip (kSeq (rSeq ?_)))))))))
 refine rRegG [(some 5, fun w => ∃ M, Sep W0 w (row v 380 [(ptr d), (.map (some r))] :: M)), (some 5, fun w => ∃ M, Sep W0 w (row b1 280 [(.int .u32 (s.o.toNat : Int)), (.int .u16 (s.st.toNat : Int)), (.int .u16 (s.sl.toNat : Int)), (.int .u32 (s.g.toNat : Int))] :: M))] (by kernel_rfl) hs12 (fun w13 hs14 => ⟨?_, fun hS => ?_⟩)
 · exact ⟨fun _ => ⟨_, (Sep.front (i := 3) rfl hs14)⟩, fun _ => ⟨_, (Sep.front (i := 5) rfl hs14)⟩, trivial⟩
 clear hs12
 refine gTake0 0 rfl (by kernel_rfl) hS (fun w => xMove rfl) rfl ?_
 clear hS; intro hS
 refine gTake0 1 rfl (by kernel_rfl) hS (fun w => xNil rfl) rfl ?_
 clear hS; intro hS
 refine gTake0 2 rfl (by kernel_rfl) hS (fun w => xFA (j' := 1) underlying380 rfl sizeOf378 rfl rfl) rfl ?_
 clear hS; intro hS
 refine gTake 3 0 rfl (by kernel_rfl) rfl (by kernel_rfl) hS (fun w hq0 => by obtain ⟨M, hq⟩ := hq0; exact xLoad hq isAgg378 rfl (i := 0) rfl rfl) rfl ?_
 clear hS; intro hS
 refine gTake 4 1 rfl (by kernel_rfl) rfl (by kernel_rfl) hS (fun w hq0 => by obtain ⟨M, hq⟩ := hq0; exact xLoadG hq isAgg280 sizeOf280 rfl (i := 0) rfl rfl) rfl ?_
 clear hS; intro hS
 refine gEff 5 (by kernel_rfl) rfl ?_
 refine oDelete shOps underlying378 hs14 (i := 4) rfl s rfl rfl ?_
 intro w15 hs16; clear hs14; dsimp only [List.set] at hs16
 refine oEnd (kG ⟨(tillDone (by kernel_rfl)), (tillDone (by kernel_rfl)), trivial⟩ ?_)
 clear hS; intro hS
 refine gEnd (by kernel_rfl) ?_
 clear hS
 refine kSeq ?_
 refine rSeq (rReg (oV (xMove rfl) rfl (oV (xNil rfl) rfl (oV (xFA (j' := 0) underlying380 rfl sizeOf371 rfl rfl) rfl (oV (xLoad hs16 isAgg371 rfl (i := 3) rfl rfl) rfl ?_)))))
 replace hs16 := hs16.f6
 replace hs16 := hs16.f3
 replace hs16 := hs16.f3
 refine oCall call410 rfl rfl (dksync_s hclt hok.len hs16) ?_
 rintro _ w18 ⟨sy17, rfl, hs19⟩; clear hs16
 refine oV (xAssign rfl) rfl (oEnd (kSeq (rRet (kFin (.tmp rfl (.nil)) ?_))))
 replace hs19 := hs19.d5
 replace hs19 := hs19.f4
 replace hs19 := hs19.f2
 replace hs19 := hs19.f2
 replace hs19 := hs19.f4
 replace hs19 := hs19.f4
 rw [mdel_val] at hs19
 replace hs19 := hs19.f4
 replace hs19 := hs19.f4
 replace hs19 := hs19.f4
 replace hs19 := hs19.f4
 have hs20 := vltA_shut (f := f) ((hok.mono (FLe.refl f)).drop hg) hs19; replace hs20 := hs20.f1
 exact ⟨_, rfl, (FLe.refl f), hs20⟩
end Go.Sl
namespace Go.Sl
open Go.Proofs
def reqB (kd : Nat) (q : UInt64) (s : Sh) (l : LB) : LB := le (UInt64.ofInt (kd : Int)) 1 ++ (le q 8 ++ (s.bytes ++ (le 0 2 ++ l)))
def repB (q : UInt64) (l : LB) : LB := le q 8 ++ (le 0 1 ++ l)
theorem reqB_length (kd : Nat) (q : UInt64) (s : Sh) (l : LB) : (reqB kd q s l).length = 23 + l.length := by simp [reqB, le_length, Sh.bytes_length]; omega
theorem repB_length (q : UInt64) (l : LB) : (repB q l).length = 9 + l.length := by simp [repB, le_length]; omega
theorem num_le1 {kd : Nat} (h : kd < 256) : (num (le (UInt64.ofInt (kd : Int)) 1)).toNat = kd := by
  rw [num_le _ 1 (by omega)]
  have : (UInt64.ofInt (kd : Int)).toNat = kd := by
    have h2 : UInt64.ofInt (kd : Int) = UInt64.ofNat kd := by
      apply UInt64.toNat_inj.1; simp [UInt64.ofInt]; omega
    rw [h2]; simp; omega
  rw [this]; omega
section
variable {kd : Nat} {q : UInt64} {s : Sh} {l : LB}
theorem req1 (h : kd < 256) : (num (rawR (reqB kd q s l) ((1 : Nat) : Int))).toNat = kd := by rw [reqB, rawR_app (le_length _ _), num_le1 h]
theorem req1l : rawL (reqB kd q s l) ((1 : Nat) : Int) = le q 8 ++ (s.bytes ++ (le 0 2 ++ l)) := by rw [reqB, rawL_app (le_length _ _)]
theorem req2 : num (rawR (rawL (reqB kd q s l) ((1 : Nat) : Int)) ((8 : Nat) : Int)) = q := by rw [req1l, rawR_app (le_length _ _), num_le8]
theorem req2l : rawL (rawL (reqB kd q s l) ((1 : Nat) : Int)) ((8 : Nat) : Int) = s.bytes ++ (le 0 2 ++ l) := by rw [req1l, rawL_app (le_length _ _)]
theorem req3 : shOf (rawL (rawL (reqB kd q s l) ((1 : Nat) : Int)) ((8 : Nat) : Int)) = s := by rw [req2l, shOf_bytes]
theorem req3l : shL (rawL (rawL (reqB kd q s l) ((1 : Nat) : Int)) ((8 : Nat) : Int)) = le 0 2 ++ l := by rw [req2l, shL_bytes]
theorem req4 : (num (rawR (shL (rawL (rawL (reqB kd q s l) ((1 : Nat) : Int)) ((8 : Nat) : Int))) ((2 : Nat) : Int))).toUInt16 = 0 := by rw [req3l, rawR_app (le_length _ _)]; decide
theorem req4l : rawL (shL (rawL (rawL (reqB kd q s l) ((1 : Nat) : Int)) ((8 : Nat) : Int))) ((2 : Nat) : Int) = l := by rw [req3l, rawL_app (le_length _ _)]
theorem req4t : rawT (shL (rawL (rawL (reqB kd q s l) ((1 : Nat) : Int)) ((8 : Nat) : Int))) (shT (rawL (rawL (reqB kd q s l) ((1 : Nat) : Int)) ((8 : Nat) : Int)) (rawT (rawL (reqB kd q s l) ((1 : Nat) : Int)) (rawT (reqB kd q s l) false ((1 : Nat) : Int)) ((8 : Nat) : Int))) ((2 : Nat) : Int) = false := by
  rw [req3l, rawT_app (le_length _ _), req2l, shT_bytes, req1l, rawT_app (le_length _ _), reqB, rawT_app (le_length _ _)]
theorem rep1 : num (rawR (repB q l) ((8 : Nat) : Int)) = q := by rw [repB, rawR_app (le_length _ _), num_le8]
theorem rep1l : rawL (repB q l) ((8 : Nat) : Int) = le 0 1 ++ l := by rw [repB, rawL_app (le_length _ _)]
theorem rep2 : (num (rawR (rawL (repB q l) ((8 : Nat) : Int)) ((1 : Nat) : Int))).toNat = 0 := by rw [rep1l, rawR_app (le_length _ _)]; decide
theorem rep2l : rawL (rawL (repB q l) ((8 : Nat) : Int)) ((1 : Nat) : Int) = l := by rw [rep1l, rawL_app (le_length _ _)]
theorem rep2t : rawT (rawL (repB q l) ((8 : Nat) : Int)) (rawT (repB q l) false ((8 : Nat) : Int)) ((1 : Nat) : Int) = false := by
  rw [rep1l, rawT_app (le_length _ _), repB, rawT_app (le_length _ _)]
end
theorem rNeqStr {a b : ByteArray} (w : World) : Sem.run Tryz.prog (binOp .neq 9 (.string a) (.string b)) w = .ok (.bool (!(a.data.toList == b.data.toList))) w := by rw [binOp_string_neq, Sem.run_pure, ByteArray.toList_eq, ByteArray.toList_eq]
def doKs (kd : Nat) (s : Sh) (l : LB) (ks : KS) : KS := if kd = 2 then ks ++ [(s, l)] else if kd = 5 then mdel ks s else ks
def doD (kd : Nat) (s : Sh) (ks : KS) : LB := if kd = 3 then (mget ks s).getD [] else []
structure DoOk (sz NC kd : Nat) (s : Sh) (l : LB) (ks : KS) : Prop where
  kind : kd = 1 ∨ kd = 2 ∨ kd = 3 ∨ kd = 5 ∨ kd = 6
  none : kd = 2 → mget ks s = none
  room : kd = 2 → ks.length < NC
  fit : kd = 2 → 24 + l.length ≤ sz
  bare : kd = 2 ∨ l = []
  some : kd = 3 ∨ kd = 5 ∨ kd = 6 → (mget ks s).isSome = true
abbrev Mem := UInt64 × (Option Addr × Nat × Nat)
def memC (m : Mem) : List Value := [Q m.1, .slice m.2.1 m.2.2.1 m.2.2.2]
theorem memC_take : ∀ {ms : List Mem} {i : Nat}, i < ms.length → takeAt (ms.flatMap memC) (i * 2) 2 = some (memC (ms.getD i (0, (none, 0, 0))))
  | [], i, h => by simp at h
  | m :: ms, 0, h => by simp [List.flatMap_cons, memC, takeAt]
  | m :: ms, i + 1, h => by
    have ih := memC_take (ms := ms) (i := i) (by simpa using h)
    have h1 : ∀ (xs : List Value) (a b : Value) (j k : Nat), takeAt (a :: b :: xs) (j + 2) k = takeAt xs j k := by
      intro xs a b j k
      induction k generalizing j with
      | zero => rfl
      | succ k ih =>
        simp only [takeAt]
        rw [show (a :: b :: xs)[j + 2]? = xs[j]? from by simp]
        cases xs[j]? with
        | none => rfl
        | some v => simp only []; rw [show j + 2 + 1 = j + 1 + 2 by omega, ih]
    rw [List.flatMap_cons, show memC m = [Q m.1, .slice m.2.1 m.2.2.1 m.2.2.2] from rfl, Nat.add_mul, Nat.one_mul]
    simp only [List.cons_append, List.nil_append, List.getD_cons_succ]
    rw [h1, ih]
theorem memC_one (ms : List Mem) : ∀ u ∈ ms.flatMap memC, u.oneCell' = true := by
  intro u hu
  obtain ⟨m, _, h⟩ := List.mem_flatMap.1 hu
  simp only [memC, List.mem_cons, List.not_mem_nil, or_false] at h
  rcases h with rfl | rfl <;> rfl
section
variable {W0 w : World} {L : List Asn}
theorem src_own_tail {i : Nat} {el : TypeId} {size g k cap : Nat} {xs : List Value} (hs : Sep W0 w L) (hi : L[i]? = some (own el size (.slice (some ⟨g, 0, none⟩) k cap) k xs)) (h1 : ∀ u ∈ xs, u.oneCell' = true) (hk : 1 ≤ k) (c' : Nat) :
    Src w size (.slice (some ⟨g, 1 * size, none⟩) (k - 1) c') (k - 1) (xs.drop size) := by
  have hl : xs.length = k * size := by
    obtain ⟨S, h⟩ := sepL_at hi hs.sep
    exact h.1
  refine ⟨by rw [List.length_drop, hl, Nat.sub_mul]; simp, fun u hu => h1 u (List.mem_of_mem_drop hu), .inl ⟨_, _, rfl, fun j u hu => ?_⟩⟩
  rw [add_lit]
  refine hs.ownCell hi ?_
  rw [List.getElem?_drop] at hu
  rw [Nat.one_mul]; exact hu
def srvA (f : HF) (c sv sz NC q : Nat) (ks : KS) : Asn := fun h => ∃ x : (Nat × Nat) × (Option Addr × Nat) × List Mem × UInt64 × VS, (mval Prod.fst x.2.2.2.2 = ks ∧ x.2.2.1.length ≤ 32 ∧ ∀ m ∈ x.2.2.1, m.1.toNat ≤ q) ∧
  sepL [row sv 374 [ptr c, ptr x.1.1, ptr x.1.2, .slice x.2.1.1 x.2.2.1.length x.2.1.2, Q x.2.2.2.1], own 562 2 (.slice x.2.1.1 x.2.2.1.length x.2.1.2) x.2.2.1.length (x.2.2.1.flatMap memC), vltA f x.1.2 x.1.1 sz NC x.2.2.2.2] h
theorem srvA_open {f : HF} {c sv sz NC q : Nat} {ks : KS} (hs : Sep W0 w (srvA f c sv sz NC q ks :: L)) : ∃ (d v : Nat) (sa : Option Addr) (sc : Nat) (ms : List Mem) (dn : UInt64) (vs : VS), mval Prod.fst vs = ks ∧ ms.length ≤ 32 ∧ (∀ m ∈ ms, m.1.toNat ≤ q) ∧
    Sep W0 w (row sv 374 [ptr c, ptr d, ptr v, .slice sa ms.length sc, Q dn] :: own 562 2 (.slice sa ms.length sc) ms.length (ms.flatMap memC) :: vltA f v d sz NC vs :: L) := by
  obtain ⟨⟨⟨d, v⟩, ⟨sa, sc⟩, ms, dn, vs⟩, h⟩ := Sep.ex hs
  obtain ⟨⟨h1, h2, h3⟩, h4⟩ := Sep.pure h
  exact ⟨d, v, sa, sc, ms, dn, vs, h1, h2, h3, Sep.open (M := [_, _, _]) h4⟩
theorem srvA_shut {f : HF} {c sv sz NC q d v : Nat} {sa : Option Addr} {sc n : Nat} {ms : List Mem} {dn : UInt64} {vs : VS} (h1 : ms.length = n) (h2 : n ≤ 32) (h3 : ∀ m ∈ ms, m.1.toNat ≤ q)
    (hs : Sep W0 w (row sv 374 [ptr c, ptr d, ptr v, .slice sa n sc, Q dn] :: own 562 2 (.slice sa n sc) n (ms.flatMap memC) :: vltA f v d sz NC vs :: L)) : Sep W0 w (srvA f c sv sz NC q (mval Prod.fst vs) :: L) := by
  subst h1
  exact Sep.intro (A := fun x : (Nat × Nat) × (Option Addr × Nat) × List Mem × UInt64 × VS => fun h => (mval Prod.fst x.2.2.2.2 = mval Prod.fst vs ∧ x.2.2.1.length ≤ 32 ∧ ∀ m ∈ x.2.2.1, m.1.toNat ≤ q) ∧
    sepL [row sv 374 [ptr c, ptr x.1.1, ptr x.1.2, .slice x.2.1.1 x.2.2.1.length x.2.1.2, Q x.2.2.2.1], own 562 2 (.slice x.2.1.1 x.2.2.1.length x.2.1.2) x.2.2.1.length (x.2.2.1.flatMap memC), vltA f x.1.2 x.1.1 sz NC x.2.2.2.2] h)
    ((d, v), (sa, sc), ms, dn, vs) (Sep.mkPure ⟨rfl, h2, h3⟩ (Sep.shut [_, _, _] hs))
theorem sepL_three {A B C C' : Asn} {h : HF} (hC : ∀ h, C h → C' h) (hs : sepL [A, B, C] h) : sepL [A, B, C'] h :=
  sepL_imp (L := [A, B, C]) (i := 2) rfl hC hs
theorem srvA_mono {f f' : HF} {c sv sz NC q q' : Nat} {ks : KS} (hf : FLe f f') (hq : q ≤ q') (h : HF) (hr : srvA f c sv sz NC q ks h) : srvA f' c sv sz NC q' ks h := by
  obtain ⟨x, ⟨h1, h2, h3⟩, h4⟩ := hr
  exact ⟨x, ⟨h1, h2, fun m hm => Nat.le_trans (h3 m hm) hq⟩, sepL_three (fun h => vltA_mono hf h) h4⟩
end
end Go.Sl
namespace Go.Sl
open Go.Proofs Go.Proofs.Tryz
theorem wname1_s {W0 w : World} {L : List Asn} (hs : Sep W0 w L) : Calls Tryz.prog 371 [.int .i64 1].toArray w (Ret fun r w' => r = .string ⟨#[112, 105, 110, 103]⟩ ∧ Sep W0 w' L) := by
 refine enter (args := [(I 1)]) (n := 16) (rs := [.tmp 2]) func371 rfl rfl rfl rfl ?_
 refine rSeq (rReg (oV (xAssign rfl) rfl (oEnd (kSeq (rSeq (rSeq (rReg (oV (xMove rfl) rfl (oEnd (kSeq (rBlk (rSeq (rReg (oV (xCmp (r := true) rfl rfl rEql) rfl (oV (xAssign rfl) rfl (oEnd (kSeq (rCondT rfl (rSeq (rReg (oV (xAssign rfl) rfl (oEnd (kSeq (rRet (kBlkR (kSeqR (kFin (.tmp rfl (.nil)) ?_)))))))))))))))))))))))))))
 exact ⟨rfl, hs⟩
theorem wname2_s {W0 w : World} {L : List Asn} (hs : Sep W0 w L) : Calls Tryz.prog 371 [.int .i64 2].toArray w (Ret fun r w' => r = .string ⟨#[112, 117, 116]⟩ ∧ Sep W0 w' L) := by
 refine enter (args := [(I 2)]) (n := 16) (rs := [.tmp 2]) func371 rfl rfl rfl rfl ?_
 refine rSeq (rReg (oV (xAssign rfl) rfl (oEnd (kSeq (rSeq (rSeq (rReg (oV (xMove rfl) rfl (oEnd (kSeq (rBlk (rSeq (rReg (oV (xCmp (r := false) rfl rfl rEql) rfl (oV (xAssign rfl) rfl (oEnd (kSeq (rCondF rfl (rSeq (rReg (oV (xCmp (r := true) rfl rfl rEql) rfl (oV (xAssign rfl) rfl (oEnd (kSeq (rCondT rfl (rSeq (rReg (oV (xAssign rfl) rfl (oEnd (kSeq (rRet (kBlkR (kSeqR (kFin (.tmp rfl (.nil)) ?_))))))))))))))))))))))))))))))))))
 exact ⟨rfl, hs⟩
theorem wname3_s {W0 w : World} {L : List Asn} (hs : Sep W0 w L) : Calls Tryz.prog 371 [.int .i64 3].toArray w (Ret fun r w' => r = .string ⟨#[103, 101, 116]⟩ ∧ Sep W0 w' L) := by
 refine enter (args := [(I 3)]) (n := 16) (rs := [.tmp 2]) func371 rfl rfl rfl rfl ?_
 refine rSeq (rReg (oV (xAssign rfl) rfl (oEnd (kSeq (rSeq (rSeq (rReg (oV (xMove rfl) rfl (oEnd (kSeq (rBlk (rSeq (rReg (oV (xCmp (r := false) rfl rfl rEql) rfl (oV (xAssign rfl) rfl (oEnd (kSeq (rCondF rfl (rSeq (rReg (oV (xCmp (r := false) rfl rfl rEql) rfl (oV (xAssign rfl) rfl (oEnd (kSeq (rCondF rfl (rSeq (rReg (oV (xCmp (r := true) rfl rfl rEql) rfl (oV (xAssign rfl) rfl (oEnd (kSeq (rCondT rfl (rSeq (rReg (oV (xAssign rfl) rfl (oEnd (kSeq (rRet (kBlkR (kSeqR (kFin (.tmp rfl (.nil)) ?_)))))))))))))))))))))))))))))))))))))))))
 exact ⟨rfl, hs⟩
theorem wname5_s {W0 w : World} {L : List Asn} (hs : Sep W0 w L) : Calls Tryz.prog 371 [.int .i64 5].toArray w (Ret fun r w' => r = .string ⟨#[100, 114, 111, 112]⟩ ∧ Sep W0 w' L) := by
 refine enter (args := [(I 5)]) (n := 16) (rs := [.tmp 2]) func371 rfl rfl rfl rfl ?_
 refine rSeq (rReg (oV (xAssign rfl) rfl (oEnd (kSeq (rSeq (rSeq (rReg (oV (xMove rfl) rfl (oEnd (kSeq (rBlk (rSeq (rReg (oV (xCmp (r := false) rfl rfl rEql) rfl (oV (xAssign rfl) rfl (oEnd (kSeq (rCondF rfl (rSeq (rReg (oV (xCmp (r := false) rfl rfl rEql) rfl (oV (xAssign rfl) rfl (oEnd (kSeq (rCondF rfl (rSeq (rReg (oV (xCmp (r := false) rfl rfl rEql) rfl (oV (xAssign rfl) rfl (oEnd (kSeq (rCondF rfl (rSeq (rReg (oV (xCmp (r := false) rfl rfl rEql) rfl (oV (xAssign rfl) rfl (oEnd (kSeq (rCondF rfl (rSeq (rReg (oV (xCmp (r := true) rfl rfl rEql) rfl (oV (xAssign rfl) rfl (oEnd (kSeq (rCondT rfl (rSeq (rReg (oV (xAssign rfl) rfl (oEnd (kSeq (rRet (kBlkR (kSeqR (kFin (.tmp rfl (.nil)) ?_)))))))))))))))))))))))))))))))))))))))))))))))))))))))
 exact ⟨rfl, hs⟩
theorem wname6_s {W0 w : World} {L : List Asn} (hs : Sep W0 w L) : Calls Tryz.prog 371 [.int .i64 6].toArray w (Ret fun r w' => r = .string ⟨#[99, 104, 101, 99, 107]⟩ ∧ Sep W0 w' L) := by
 refine enter (args := [(I 6)]) (n := 16) (rs := [.tmp 2]) func371 rfl rfl rfl rfl ?_
 refine rSeq (rReg (oV (xAssign rfl) rfl (oEnd (kSeq (rSeq (rSeq (rReg (oV (xMove rfl) rfl (oEnd (kSeq (rBlk (rSeq (rReg (oV (xCmp (r := false) rfl rfl rEql) rfl (oV (xAssign rfl) rfl (oEnd (kSeq (rCondF rfl (rSeq (rReg (oV (xCmp (r := false) rfl rfl rEql) rfl (oV (xAssign rfl) rfl (oEnd (kSeq (rCondF rfl (rSeq (rReg (oV (xCmp (r := false) rfl rfl rEql) rfl (oV (xAssign rfl) rfl (oEnd (kSeq (rCondF rfl (rSeq (rReg (oV (xCmp (r := false) rfl rfl rEql) rfl (oV (xAssign rfl) rfl (oEnd (kSeq (rCondF rfl (rSeq (rReg (oV (xCmp (r := false) rfl rfl rEql) rfl (oV (xAssign rfl) rfl (oEnd (kSeq (rCondF rfl (rSeq (rReg (oV (xCmp (r := true) rfl rfl rEql) rfl (oV (xAssign rfl) rfl (oEnd (kSeq (rCondT rfl (rSeq (rReg (oV (xAssign rfl) rfl (oEnd (kSeq (rRet (kBlkR (kSeqR (kFin (.tmp rfl (.nil)) ?_))))))))))))))))))))))))))))))))))))))))))))))))))))))))))))))
 exact ⟨rfl, hs⟩
theorem wright1_s {W0 w : World} {L : List Asn} {nv : Value} {s : Sh} {a : Option Addr} {n cp : Nat} (hn : n = 0) (hs : Sep W0 w L) : Calls Tryz.prog 346 [.agg #[nv, I 1, U s.o, H s.st, H s.sl, U s.g, .int .u16 0, .slice a n cp]].toArray w (Ret fun r w' => r = .bool true ∧ Sep W0 w' L) := by
 refine enter (args := [(.agg #[nv, (I 1), (.int .u32 (s.o.toNat : Int)), (.int .u16 (s.st.toNat : Int)), (.int .u16 (s.sl.toNat : Int)), (.int .u32 (s.g.toNat : Int)), (.int .u16 0), (.slice a n cp)])]) (n := 28) (rs := [.tmp 2]) func346 rfl rfl rfl rfl ?_
 refine rSeq (rReg (oBox hs rfl rfl rfl ?_))
 intro b1 w2 hs3; clear hs
 refine oV (xAssign rfl) rfl (oEnd (kSeq (rSeq (rReg (oV (xFA (j' := 1) underlying394 rfl sizeOf3 rfl rfl) rfl (oV (xLoad hs3 isAgg3 rfl (i := 0) rfl rfl) rfl (oCall call371 rfl rfl (wname1_s hs3) ?_)))))))
 rintro _ w4 ⟨rfl, hs5⟩; clear hs3
 refine oV (xBin (r := .bool true) rfl rfl (fun _ => rfl) (fun w => by rw [rNeqStr]; rfl)) rfl (oV (xMove rfl) rfl (oGuardT rfl rfl (oV (xFA (j' := 1) underlying394 rfl sizeOf3 rfl rfl) rfl (oGuardT rfl rfl (oV (xLoad hs5 isAgg3 rfl (i := 0) rfl rfl) rfl (oGuardT rfl rfl (oV (xCmp (r := false) rfl rfl rEql) rfl (oGuardT rfl rfl (oV (xMove rfl) rfl (oGuardT rfl rfl (oV (xFA (j' := 7) underlying394 rfl sizeOf26 rfl rfl) rfl (oGuardT rfl rfl (oV (xLoad hs5 isAgg26 rfl (i := 0) rfl rfl) rfl (oGuardT rfl rfl (oV (xB1 rfl (rLenS underlying26)) rfl (oGuardT rfl rfl (oV (xCmp (r := true) rfl rfl (bT (by omega) rEql)) rfl (oGuardT rfl rfl (oV (xPickF rfl rfl) rfl (oV (xPickT rfl rfl) rfl (oV (xMove rfl) rfl (oGuardT rfl rfl (oV (xFA (j' := 1) underlying394 rfl sizeOf3 rfl rfl) rfl (oGuardT rfl rfl (oV (xLoad hs5 isAgg3 rfl (i := 0) rfl rfl) rfl (oGuardT rfl rfl ?_))))))))))))))))))))))))))
 refine oV (xCmp (r := false) rfl rfl rEql) rfl (oGuardT rfl rfl (oV (xMove rfl) rfl (oGuardT rfl rfl (oV (xFA (j' := 6) underlying394 rfl sizeOf34 rfl rfl) rfl (oGuardT rfl rfl (oV (xLoad hs5 isAgg34 rfl (i := 0) rfl rfl) rfl (oGuardT rfl rfl (oV (xCmp (r := true) rfl rfl rEql) rfl (oGuardT rfl rfl (oV (xPickF rfl rfl) rfl (oV (xPickT rfl rfl) rfl (oV (xAssign rfl) rfl (oEnd (kSeq (rRet (kFin (.tmp rfl (.nil)) ?_))))))))))))))))
 replace hs5 := hs5.d0
 exact ⟨rfl, hs5⟩
theorem wright2_s {W0 w : World} {L : List Asn} {nv : Value} {s : Sh} {a : Option Addr} {n cp : Nat} (hs : Sep W0 w L) : Calls Tryz.prog 346 [.agg #[nv, I 2, U s.o, H s.st, H s.sl, U s.g, .int .u16 0, .slice a n cp]].toArray w (Ret fun r w' => r = .bool true ∧ Sep W0 w' L) := by
 refine enter (args := [(.agg #[nv, (I 2), (.int .u32 (s.o.toNat : Int)), (.int .u16 (s.st.toNat : Int)), (.int .u16 (s.sl.toNat : Int)), (.int .u32 (s.g.toNat : Int)), (.int .u16 0), (.slice a n cp)])]) (n := 28) (rs := [.tmp 2]) func346 rfl rfl rfl rfl ?_
 refine rSeq (rReg (oBox hs rfl rfl rfl ?_))
 intro b1 w2 hs3; clear hs
 refine oV (xAssign rfl) rfl (oEnd (kSeq (rSeq (rReg (oV (xFA (j' := 1) underlying394 rfl sizeOf3 rfl rfl) rfl (oV (xLoad hs3 isAgg3 rfl (i := 0) rfl rfl) rfl (oCall call371 rfl rfl (wname2_s hs3) ?_)))))))
 rintro _ w4 ⟨rfl, hs5⟩; clear hs3
 refine oV (xBin (r := .bool true) rfl rfl (fun _ => rfl) (fun w => by rw [rNeqStr]; rfl)) rfl (oV (xMove rfl) rfl (oGuardT rfl rfl (oV (xFA (j' := 1) underlying394 rfl sizeOf3 rfl rfl) rfl (oGuardT rfl rfl (oV (xLoad hs5 isAgg3 rfl (i := 0) rfl rfl) rfl (oGuardT rfl rfl (oV (xCmp (r := true) rfl rfl rEql) rfl (oGuardT rfl rfl (oV (xMove rfl) rfl (oGuardF rfl rfl rfl rfl (oGuardF rfl rfl rfl rfl (oGuardF rfl rfl rfl rfl (oGuardF rfl rfl rfl rfl (oGuardT rfl rfl (oV (xPickT rfl rfl) rfl (oV (xPickT rfl rfl) rfl (oV (xMove rfl) rfl (oGuardT rfl rfl (oV (xFA (j' := 1) underlying394 rfl sizeOf3 rfl rfl) rfl (oGuardT rfl rfl (oV (xLoad hs5 isAgg3 rfl (i := 0) rfl rfl) rfl (oGuardT rfl rfl (oV (xCmp (r := false) rfl rfl rEql) rfl (oGuardT rfl rfl (oV (xMove rfl) rfl (oGuardT rfl rfl (oV (xFA (j' := 6) underlying394 rfl sizeOf34 rfl rfl) rfl (oGuardT rfl rfl ?_))))))))))))))))))))))))))))
 refine oV (xLoad hs5 isAgg34 rfl (i := 0) rfl rfl) rfl (oGuardT rfl rfl (oV (xCmp (r := true) rfl rfl rEql) rfl (oGuardT rfl rfl (oV (xPickF rfl rfl) rfl (oV (xPickT rfl rfl) rfl (oV (xAssign rfl) rfl (oEnd (kSeq (rRet (kFin (.tmp rfl (.nil)) ?_))))))))))
 replace hs5 := hs5.d0
 exact ⟨rfl, hs5⟩
theorem wright3_s {W0 w : World} {L : List Asn} {nv : Value} {s : Sh} {a : Option Addr} {n cp : Nat} (hn : n = 0) (hs : Sep W0 w L) : Calls Tryz.prog 346 [.agg #[nv, I 3, U s.o, H s.st, H s.sl, U s.g, .int .u16 0, .slice a n cp]].toArray w (Ret fun r w' => r = .bool true ∧ Sep W0 w' L) := by
 refine enter (args := [(.agg #[nv, (I 3), (.int .u32 (s.o.toNat : Int)), (.int .u16 (s.st.toNat : Int)), (.int .u16 (s.sl.toNat : Int)), (.int .u32 (s.g.toNat : Int)), (.int .u16 0), (.slice a n cp)])]) (n := 28) (rs := [.tmp 2]) func346 rfl rfl rfl rfl ?_
 refine rSeq (rReg (oBox hs rfl rfl rfl ?_))
 intro b1 w2 hs3; clear hs
 refine oV (xAssign rfl) rfl (oEnd (kSeq (rSeq (rReg (oV (xFA (j' := 1) underlying394 rfl sizeOf3 rfl rfl) rfl (oV (xLoad hs3 isAgg3 rfl (i := 0) rfl rfl) rfl (oCall call371 rfl rfl (wname3_s hs3) ?_)))))))
 rintro _ w4 ⟨rfl, hs5⟩; clear hs3
 refine oV (xBin (r := .bool true) rfl rfl (fun _ => rfl) (fun w => by rw [rNeqStr]; rfl)) rfl (oV (xMove rfl) rfl (oGuardT rfl rfl (oV (xFA (j' := 1) underlying394 rfl sizeOf3 rfl rfl) rfl (oGuardT rfl rfl (oV (xLoad hs5 isAgg3 rfl (i := 0) rfl rfl) rfl (oGuardT rfl rfl (oV (xCmp (r := false) rfl rfl rEql) rfl (oGuardT rfl rfl (oV (xMove rfl) rfl (oGuardT rfl rfl (oV (xFA (j' := 7) underlying394 rfl sizeOf26 rfl rfl) rfl (oGuardT rfl rfl (oV (xLoad hs5 isAgg26 rfl (i := 0) rfl rfl) rfl (oGuardT rfl rfl (oV (xB1 rfl (rLenS underlying26)) rfl (oGuardT rfl rfl (oV (xCmp (r := true) rfl rfl (bT (by omega) rEql)) rfl (oGuardT rfl rfl (oV (xPickF rfl rfl) rfl (oV (xPickT rfl rfl) rfl (oV (xMove rfl) rfl (oGuardT rfl rfl (oV (xFA (j' := 1) underlying394 rfl sizeOf3 rfl rfl) rfl (oGuardT rfl rfl (oV (xLoad hs5 isAgg3 rfl (i := 0) rfl rfl) rfl (oGuardT rfl rfl ?_))))))))))))))))))))))))))
 refine oV (xCmp (r := false) rfl rfl rEql) rfl (oGuardT rfl rfl (oV (xMove rfl) rfl (oGuardT rfl rfl (oV (xFA (j' := 6) underlying394 rfl sizeOf34 rfl rfl) rfl (oGuardT rfl rfl (oV (xLoad hs5 isAgg34 rfl (i := 0) rfl rfl) rfl (oGuardT rfl rfl (oV (xCmp (r := true) rfl rfl rEql) rfl (oGuardT rfl rfl (oV (xPickF rfl rfl) rfl (oV (xPickT rfl rfl) rfl (oV (xAssign rfl) rfl (oEnd (kSeq (rRet (kFin (.tmp rfl (.nil)) ?_))))))))))))))))
 replace hs5 := hs5.d0
 exact ⟨rfl, hs5⟩
theorem wright5_s {W0 w : World} {L : List Asn} {nv : Value} {s : Sh} {a : Option Addr} {n cp : Nat} (hn : n = 0) (hs : Sep W0 w L) : Calls Tryz.prog 346 [.agg #[nv, I 5, U s.o, H s.st, H s.sl, U s.g, .int .u16 0, .slice a n cp]].toArray w (Ret fun r w' => r = .bool true ∧ Sep W0 w' L) := by
 refine enter (args := [(.agg #[nv, (I 5), (.int .u32 (s.o.toNat : Int)), (.int .u16 (s.st.toNat : Int)), (.int .u16 (s.sl.toNat : Int)), (.int .u32 (s.g.toNat : Int)), (.int .u16 0), (.slice a n cp)])]) (n := 28) (rs := [.tmp 2]) func346 rfl rfl rfl rfl ?_
 refine rSeq (rReg (oBox hs rfl rfl rfl ?_))
 intro b1 w2 hs3; clear hs
 refine oV (xAssign rfl) rfl (oEnd (kSeq (rSeq (rReg (oV (xFA (j' := 1) underlying394 rfl sizeOf3 rfl rfl) rfl (oV (xLoad hs3 isAgg3 rfl (i := 0) rfl rfl) rfl (oCall call371 rfl rfl (wname5_s hs3) ?_)))))))
 rintro _ w4 ⟨rfl, hs5⟩; clear hs3
 refine oV (xBin (r := .bool true) rfl rfl (fun _ => rfl) (fun w => by rw [rNeqStr]; rfl)) rfl (oV (xMove rfl) rfl (oGuardT rfl rfl (oV (xFA (j' := 1) underlying394 rfl sizeOf3 rfl rfl) rfl (oGuardT rfl rfl (oV (xLoad hs5 isAgg3 rfl (i := 0) rfl rfl) rfl (oGuardT rfl rfl (oV (xCmp (r := false) rfl rfl rEql) rfl (oGuardT rfl rfl (oV (xMove rfl) rfl (oGuardT rfl rfl (oV (xFA (j' := 7) underlying394 rfl sizeOf26 rfl rfl) rfl (oGuardT rfl rfl (oV (xLoad hs5 isAgg26 rfl (i := 0) rfl rfl) rfl (oGuardT rfl rfl (oV (xB1 rfl (rLenS underlying26)) rfl (oGuardT rfl rfl (oV (xCmp (r := true) rfl rfl (bT (by omega) rEql)) rfl (oGuardT rfl rfl (oV (xPickF rfl rfl) rfl (oV (xPickT rfl rfl) rfl (oV (xMove rfl) rfl (oGuardT rfl rfl (oV (xFA (j' := 1) underlying394 rfl sizeOf3 rfl rfl) rfl (oGuardT rfl rfl (oV (xLoad hs5 isAgg3 rfl (i := 0) rfl rfl) rfl (oGuardT rfl rfl ?_))))))))))))))))))))))))))
 refine oV (xCmp (r := false) rfl rfl rEql) rfl (oGuardT rfl rfl (oV (xMove rfl) rfl (oGuardT rfl rfl (oV (xFA (j' := 6) underlying394 rfl sizeOf34 rfl rfl) rfl (oGuardT rfl rfl (oV (xLoad hs5 isAgg34 rfl (i := 0) rfl rfl) rfl (oGuardT rfl rfl (oV (xCmp (r := true) rfl rfl rEql) rfl (oGuardT rfl rfl (oV (xPickF rfl rfl) rfl (oV (xPickT rfl rfl) rfl (oV (xAssign rfl) rfl (oEnd (kSeq (rRet (kFin (.tmp rfl (.nil)) ?_))))))))))))))))
 replace hs5 := hs5.d0
 exact ⟨rfl, hs5⟩
theorem wright6_s {W0 w : World} {L : List Asn} {nv : Value} {s : Sh} {a : Option Addr} {n cp : Nat} (hn : n = 0) (hs : Sep W0 w L) : Calls Tryz.prog 346 [.agg #[nv, I 6, U s.o, H s.st, H s.sl, U s.g, .int .u16 0, .slice a n cp]].toArray w (Ret fun r w' => r = .bool true ∧ Sep W0 w' L) := by
 refine enter (args := [(.agg #[nv, (I 6), (.int .u32 (s.o.toNat : Int)), (.int .u16 (s.st.toNat : Int)), (.int .u16 (s.sl.toNat : Int)), (.int .u32 (s.g.toNat : Int)), (.int .u16 0), (.slice a n cp)])]) (n := 28) (rs := [.tmp 2]) func346 rfl rfl rfl rfl ?_
 refine rSeq (rReg (oBox hs rfl rfl rfl ?_))
 intro b1 w2 hs3; clear hs
 refine oV (xAssign rfl) rfl (oEnd (kSeq (rSeq (rReg (oV (xFA (j' := 1) underlying394 rfl sizeOf3 rfl rfl) rfl (oV (xLoad hs3 isAgg3 rfl (i := 0) rfl rfl) rfl (oCall call371 rfl rfl (wname6_s hs3) ?_)))))))
 rintro _ w4 ⟨rfl, hs5⟩; clear hs3
 refine oV (xBin (r := .bool true) rfl rfl (fun _ => rfl) (fun w => by rw [rNeqStr]; rfl)) rfl (oV (xMove rfl) rfl (oGuardT rfl rfl (oV (xFA (j' := 1) underlying394 rfl sizeOf3 rfl rfl) rfl (oGuardT rfl rfl (oV (xLoad hs5 isAgg3 rfl (i := 0) rfl rfl) rfl (oGuardT rfl rfl (oV (xCmp (r := false) rfl rfl rEql) rfl (oGuardT rfl rfl (oV (xMove rfl) rfl (oGuardT rfl rfl (oV (xFA (j' := 7) underlying394 rfl sizeOf26 rfl rfl) rfl (oGuardT rfl rfl (oV (xLoad hs5 isAgg26 rfl (i := 0) rfl rfl) rfl (oGuardT rfl rfl (oV (xB1 rfl (rLenS underlying26)) rfl (oGuardT rfl rfl (oV (xCmp (r := true) rfl rfl (bT (by omega) rEql)) rfl (oGuardT rfl rfl (oV (xPickF rfl rfl) rfl (oV (xPickT rfl rfl) rfl (oV (xMove rfl) rfl (oGuardT rfl rfl (oV (xFA (j' := 1) underlying394 rfl sizeOf3 rfl rfl) rfl (oGuardT rfl rfl (oV (xLoad hs5 isAgg3 rfl (i := 0) rfl rfl) rfl (oGuardT rfl rfl ?_))))))))))))))))))))))))))
 refine oV (xCmp (r := false) rfl rfl rEql) rfl (oGuardT rfl rfl (oV (xMove rfl) rfl (oGuardT rfl rfl (oV (xFA (j' := 6) underlying394 rfl sizeOf34 rfl rfl) rfl (oGuardT rfl rfl (oV (xLoad hs5 isAgg34 rfl (i := 0) rfl rfl) rfl (oGuardT rfl rfl (oV (xCmp (r := true) rfl rfl rEql) rfl (oGuardT rfl rfl (oV (xPickF rfl rfl) rfl (oV (xPickT rfl rfl) rfl (oV (xAssign rfl) rfl (oEnd (kSeq (rRet (kFin (.tmp rfl (.nil)) ?_))))))))))))))))
 replace hs5 := hs5.d0
 exact ⟨rfl, hs5⟩
theorem wright_s {W0 w : World} {L : List Asn} {nv : Value} {s : Sh} {a : Option Addr} {n cp : Nat} {kd : Nat} (hk : kd = 1 ∨ kd = 2 ∨ kd = 3 ∨ kd = 5 ∨ kd = 6) (hn : kd = 2 ∨ n = 0) (hs : Sep W0 w L) : Calls Tryz.prog 346 [.agg #[nv, I (kd : Int), U s.o, H s.st, H s.sl, U s.g, .int .u16 0, .slice a n cp]].toArray w (Ret fun r w' => r = .bool true ∧ Sep W0 w' L) := by
 rcases hk with rfl | rfl | rfl | rfl | rfl
 · exact wright1_s (by omega) hs
 · exact wright2_s hs
 · exact wright3_s (by omega) hs
 · exact wright5_s (by omega) hs
 · exact wright6_s (by omega) hs
theorem wbytes_s {W0 w : World} {L : List Asn} {q : UInt64} {s : Sh} {a : Option Addr} {n cp : Nat} {f : HF} {kd : Nat} {l : LB} (hb : RB f a n cp l) (hk : kd = 1 ∨ kd = 2 ∨ kd = 3 ∨ kd = 5 ∨ kd = 6) (hn : kd = 2 ∨ n = 0) (hm : n ≤ 1000000) (hs : Sep W0 w (pool f :: L)) : Calls Tryz.prog 373 [.agg #[Q q, I (kd : Int), U s.o, H s.st, H s.sl, U s.g, .int .u16 0, .slice a n cp]].toArray w (Ret fun r w' => ∃ f' a' k' cp', r = .slice a' k' cp' ∧ FLe f f' ∧ RB f' a' k' cp' (reqB kd q s l) ∧ Sep W0 w' (pool f' :: L)) := by
 have hbl := RB.len hb
 have h12 := Sh.bytes_length s
 refine enter (args := [(.agg #[(.int .u64 (q.toNat : Int)), (I (kd : Int)), (.int .u32 (s.o.toNat : Int)), (.int .u16 (s.st.toNat : Int)), (.int .u16 (s.sl.toNat : Int)), (.int .u32 (s.g.toNat : Int)), (.int .u16 0), (.slice a n cp)])]) (n := 28) (rs := [.tmp 2]) func373 rfl rfl rfl rfl ?_
 refine rSeq (rReg (oBox hs rfl rfl rfl ?_))
 intro b1 w2 hs3; clear hs
 refine oV (xAssign rfl) rfl (oEnd (kSeq (rSeq (rSeq (rReg (oV (xLoadG hs3 isAgg394 sizeOf394 rfl (i := 0) rfl rfl) rfl (oCall call346 rfl rfl (wright_s (s := s) (kd := kd) hk hn hs3) ?_)))))))
 rintro _ w4 ⟨rfl, hs5⟩; clear hs3
 refine oV (xNot rfl) rfl (oEnd (kSeq (rCondF rfl (rSkip (kSeq (rSeq (rReg (oV (xBuild (v := (.agg #[(.slice none 0 0)])) rfl (fun w => by kernel_rfl)) rfl (oBox hs5 rfl rfl rfl ?_)))))))))
 intro b6 w7 hs8; clear hs5
 replace hs8 := writer_new hs8
 refine oV (xAssign rfl) rfl (oEnd (kSeq (rSeq ?_)))
 refine rRegG [(none, fun w => ∃ M, Sep W0 w (row b1 394 [(.int .u64 (q.toNat : Int)), (I (kd : Int)), (.int .u32 (s.o.toNat : Int)), (.int .u16 (s.st.toNat : Int)), (.int .u16 (s.sl.toNat : Int)), (.int .u32 (s.g.toNat : Int)), (.int .u16 0), (.slice a n cp)] :: M))] (by kernel_rfl) hs8 (fun w9 hs10 => ⟨?_, fun hS => ?_⟩)
 · exact ⟨⟨_, (Sep.front (i := 1) rfl hs10)⟩, trivial⟩
 clear hs8
 refine gTake0 0 rfl (by kernel_rfl) hS (fun w => xMove rfl) rfl ?_
 clear hS; intro hS
 refine gTake0 1 rfl (by kernel_rfl) hS (fun w => xFA (j' := 1) underlying394 rfl sizeOf3 rfl rfl) rfl ?_
 clear hS; intro hS
 refine gTake 2 0 rfl (by kernel_rfl) rfl (by kernel_rfl) hS (fun w hq0 => by obtain ⟨M, hq⟩ := hq0; exact xLoad hq isAgg3 rfl (i := 0) rfl rfl) rfl ?_
 clear hS; intro hS
 refine gTake0 3 rfl (by kernel_rfl) hS (fun w => xConv underlying3 underlying53 rfl (wIto64 (kd : Int))) rfl ?_
 clear hS; intro hS
 refine gTake0 5 rfl (by kernel_rfl) hS (fun w => xFA (j' := 0) underlying394 rfl sizeOf53 rfl rfl) rfl ?_
 clear hS; intro hS
 refine gTake 6 0 rfl (by kernel_rfl) rfl (by kernel_rfl) hS (fun w hq0 => by obtain ⟨M, hq⟩ := hq0; exact xLoad hq isAgg53 rfl (i := 0) rfl rfl) rfl ?_
 clear hS; intro hS
 refine gTake0 8 rfl (by kernel_rfl) hS (fun w => xFA (j' := 2) underlying394 rfl sizeOf280 rfl rfl) rfl ?_
 clear hS; intro hS
 refine gTake 9 0 rfl (by kernel_rfl) rfl (by kernel_rfl) hS (fun w hq0 => by obtain ⟨M, hq⟩ := hq0; exact xLoadG hq isAgg280 sizeOf280 rfl (i := 0) rfl rfl) rfl ?_
 clear hS; intro hS
 refine gTake0 11 rfl (by kernel_rfl) hS (fun w => xFA (j' := 6) underlying394 rfl sizeOf34 rfl rfl) rfl ?_
 clear hS; intro hS
 refine gTake 12 0 rfl (by kernel_rfl) rfl (by kernel_rfl) hS (fun w hq0 => by obtain ⟨M, hq⟩ := hq0; exact xLoad hq isAgg34 rfl (i := 0) rfl rfl) rfl ?_
 clear hS; intro hS
 refine gTake0 13 rfl (by kernel_rfl) hS (fun w => xConv underlying34 underlying53 rfl (rfl)) rfl ?_
 clear hS; intro hS
 refine gTake0 15 rfl (by kernel_rfl) hS (fun w => xFA (j' := 7) underlying394 rfl sizeOf26 rfl rfl) rfl ?_
 clear hS; intro hS
 refine gTake 16 0 rfl (by kernel_rfl) rfl (by kernel_rfl) hS (fun w hq0 => by obtain ⟨M, hq⟩ := hq0; exact xLoad hq isAgg26 rfl (i := 0) rfl rfl) rfl ?_
 clear hS; intro hS
 refine gEff 4 (by kernel_rfl) rfl ?_
 refine oCall call88 rfl rfl (num_s b6 [] (UInt64.ofInt (kd : Int)) 1 (by decide) (by first | omega | (simp only [List.length_append, le_length, List.length_cons, List.length_nil, List.length_map, List.length_replicate]; omega)) hs10) ?_
 rintro _ w11 ⟨rfl, hs12⟩; clear hs10
 refine oEnd (kG ⟨⟨_, (Sep.front (i := 1) rfl hs12)⟩, trivial⟩ ?_)
 clear hS; intro hS
 refine gEff 7 (by kernel_rfl) rfl ?_
 refine oCall call88 rfl rfl (num_s b6 ([] ++ le (UInt64.ofInt (kd : Int)) 1) q 8 (by decide) (by first | omega | (simp only [List.length_append, le_length, List.length_cons, List.length_nil, List.length_map, List.length_replicate]; omega)) hs12) ?_
 rintro _ w13 ⟨rfl, hs14⟩; clear hs12
 refine oEnd (kG ⟨⟨_, (Sep.front (i := 1) rfl hs14)⟩, trivial⟩ ?_)
 clear hS; intro hS
 refine gEff 10 (by kernel_rfl) rfl ?_
 refine oCall call388 rfl rfl (wshard_s b6 (([] ++ le (UInt64.ofInt (kd : Int)) 1) ++ le q 8) s (by first | omega | (simp only [List.length_append, le_length, List.length_cons, List.length_nil, List.length_map, List.length_replicate]; omega)) hs14) ?_
 rintro _ w15 ⟨rfl, hs16⟩; clear hs14
 refine oEnd (kG ⟨⟨_, (Sep.front (i := 1) rfl hs16)⟩, trivial⟩ ?_)
 clear hS; intro hS
 refine gEff 14 (by kernel_rfl) rfl ?_
 refine oCall call88 rfl rfl (num_s b6 ((([] ++ le (UInt64.ofInt (kd : Int)) 1) ++ le q 8) ++ s.bytes) (0 : UInt64) 2 (by decide) (by first | omega | (simp only [List.length_append, le_length, List.length_cons, List.length_nil, List.length_map, List.length_replicate]; omega)) hs16) ?_
 rintro _ w17 ⟨rfl, hs18⟩; clear hs16
 refine oEnd (kG ⟨⟨_, (Sep.front (i := 1) rfl hs18)⟩, trivial⟩ ?_)
 clear hS; intro hS
 refine gEff 17 (by kernel_rfl) rfl ?_
 replace hs18 := hs18.f2
 refine oCall call89 rfl rfl (raw_s b6 (((([] ++ le (UInt64.ofInt (kd : Int)) 1) ++ le q 8) ++ s.bytes) ++ le (0 : UInt64) 2) l hb (by first | omega | (simp only [List.length_append, le_length, List.length_cons, List.length_nil, List.length_map, List.length_replicate]; omega)) hs18) ?_
 rintro _ w19 ⟨rfl, hs20⟩; clear hs18
 refine oEnd (kG ⟨⟨_, (Sep.front (i := 2) rfl hs20)⟩, trivial⟩ ?_)
 clear hS; intro hS
 refine gEff 18 (by kernel_rfl) rfl ?_
 replace hs20 := hs20.f1
 replace hs20 := hs20.f1
 refine oCall call90 rfl rfl (bytes_s b6 ((((([] ++ le (UInt64.ofInt (kd : Int)) 1) ++ le q 8) ++ s.bytes) ++ le (0 : UInt64) 2) ++ l) (by first | omega | (simp only [List.length_append, le_length, List.length_cons, List.length_nil, List.length_map, List.length_replicate]; omega)) hs20) ?_
 rintro _ w28 ⟨f21, a22, k23, cp24, rfl, hle25, hb26, hs29⟩; clear hs20; have hl27 := RB.len hb26
 refine oEnd (kG ⟨⟨_, (Sep.front (i := 2) rfl hs29)⟩, trivial⟩ ?_)
 clear hS; intro hS
 refine gTake0 19 rfl (by kernel_rfl) hS (fun w => xAssign rfl) rfl ?_
 clear hS; intro hS
 refine gEnd (by kernel_rfl) ?_
 clear hS
 refine kSeq ?_
 refine rRet (kFin (.tmp rfl (.nil)) ?_)
 replace hs29 := hs29.d2
 replace hs29 := hs29.d1
 exact ⟨_, _, _, _, rfl, hle25, by simpa only [reqB, List.nil_append, List.append_assoc] using hb26, hs29⟩
theorem wparse0_s {W0 w : World} {L : List Asn} {q : UInt64} {s : Sh} {b : Option Addr} {m bc : Nat} {f : HF} {kd : Nat} {l L0 : LB} (hb : RB f b m bc L0) (hk : kd = 1 ∨ kd = 2 ∨ kd = 3 ∨ kd = 5 ∨ kd = 6) (hn : kd = 2 ∨ l = []) (h0 : L0.length ≤ 1000100) (h1 : (num (rawR L0 ((1 : Nat) : Int))).toNat = kd) (h2 : num (rawR (rawL L0 ((1 : Nat) : Int)) ((8 : Nat) : Int)) = q) (h3 : shOf (rawL (rawL L0 ((1 : Nat) : Int)) ((8 : Nat) : Int)) = s) (h4 : (num (rawR (shL (rawL (rawL L0 ((1 : Nat) : Int)) ((8 : Nat) : Int))) ((2 : Nat) : Int))).toUInt16 = 0) (h5 : rawL (shL (rawL (rawL L0 ((1 : Nat) : Int)) ((8 : Nat) : Int))) ((2 : Nat) : Int) = l) (h6 : rawT (shL (rawL (rawL L0 ((1 : Nat) : Int)) ((8 : Nat) : Int))) (shT (rawL (rawL L0 ((1 : Nat) : Int)) ((8 : Nat) : Int)) (rawT (rawL L0 ((1 : Nat) : Int)) (rawT L0 false ((1 : Nat) : Int)) ((8 : Nat) : Int))) ((2 : Nat) : Int) = false) (hs : Sep W0 w (pool f :: L)) : Calls Tryz.prog 386 [.slice b m bc].toArray w
 (Ret fun r w' => ∃ f' a n cp, r = .tuple #[.agg #[Q q, I (kd : Int), U s.o, H s.st, H s.sl, U s.g, .int .u16 0, .slice a n cp], .int .i64 0] ∧ FLe f f' ∧ RB f' a n cp l ∧ Sep W0 w' (pool f' :: L)) := by
 refine enter (args := [(.slice b m bc)]) (n := 30) (rs := [.cell 2 394, .tmp 3]) func386 rfl rfl rfl rfl ?_
 refine rSeq (rReg (oAlloc hs zeroValue394 rfl rfl ?_))
 intro b1 w2 hs3; clear hs
 refine oV (xAssign rfl) rfl (oEnd (kSeq (rSeq (rReg (oV (xMove rfl) rfl ?_)))))
 replace hs3 := hs3.f1
 refine oCall call83 rfl rfl (read_s L0 hb hs3) ?_
 rintro _ w5 ⟨r4, rfl, hs6⟩; clear hs3
 refine oV (xAssign rfl) rfl (oEnd (kSeq (rSeq (rReg (oV (xMove rfl) rfl ?_)))))
 replace hs6 := hs6.f1
 replace hs6 := hs6.f1
 refine oCall call85 rfl rfl (rnum_s r4 L0 false 1 (by decide) (by first | omega | (simp only [List.length_append, le_length, List.length_cons, List.length_nil, List.length_map, List.length_replicate]; omega)) hs6) ?_
 rintro _ w9 ⟨f7, rfl, hle8, hs10⟩; clear hs6
 have hR11 := rawL_le L0 ((1 : Nat) : Int)
 replace hb := hb.mono hle8
 refine oV (xConv underlying53 underlying3 rfl (wI (by omega) (by omega))) rfl (oV (xMove rfl) rfl ?_)
 replace hs10 := hs10.f1
 replace hs10 := hs10.f1
 refine oCall call85 rfl rfl (rnum_s r4 (rawL L0 ((1 : Nat) : Int)) (rawT L0 false ((1 : Nat) : Int)) 8 (by decide) (by first | omega | (simp only [List.length_append, le_length, List.length_cons, List.length_nil, List.length_map, List.length_replicate]; omega)) hs10) ?_
 rintro _ w14 ⟨f12, rfl, hle13, hs15⟩; clear hs10
 have hR16 := rawL_le (rawL L0 ((1 : Nat) : Int)) ((8 : Nat) : Int)
 replace hb := hb.mono hle13
 refine oV (xMove rfl) rfl ?_
 replace hs15 := hs15.f1
 replace hs15 := hs15.f1
 refine oCall call277 rfl rfl (rshard_s r4 (rawL (rawL L0 ((1 : Nat) : Int)) ((8 : Nat) : Int)) (rawT (rawL L0 ((1 : Nat) : Int)) (rawT L0 false ((1 : Nat) : Int)) ((8 : Nat) : Int)) (by first | omega | (simp only [List.length_append, le_length, List.length_cons, List.length_nil, List.length_map, List.length_replicate]; omega)) hs15) ?_
 rintro _ w19 ⟨f17, rfl, hle18, hs20⟩; clear hs15
 have hR21 := shL_le (rawL (rawL L0 ((1 : Nat) : Int)) ((8 : Nat) : Int))
 replace hb := hb.mono hle18
 refine oV (xMove rfl) rfl ?_
 replace hs20 := hs20.f1
 replace hs20 := hs20.f1
 refine oCall call85 rfl rfl (rnum_s r4 (shL (rawL (rawL L0 ((1 : Nat) : Int)) ((8 : Nat) : Int))) (shT (rawL (rawL L0 ((1 : Nat) : Int)) ((8 : Nat) : Int)) (rawT (rawL L0 ((1 : Nat) : Int)) (rawT L0 false ((1 : Nat) : Int)) ((8 : Nat) : Int))) 2 (by decide) (by first | omega | (simp only [List.length_append, le_length, List.length_cons, List.length_nil, List.length_map, List.length_replicate]; omega)) hs20) ?_
 rintro _ w24 ⟨f22, rfl, hle23, hs25⟩; clear hs20
 have hR26 := rawL_le (shL (rawL (rawL L0 ((1 : Nat) : Int)) ((8 : Nat) : Int))) ((2 : Nat) : Int)
 replace hb := hb.mono hle23
 refine oV (xConv underlying53 underlying34 rfl (w64to16 (num (rawR (shL (rawL (rawL L0 ((1 : Nat) : Int)) ((8 : Nat) : Int))) ((2 : Nat) : Int))))) rfl (oV (xMove rfl) rfl ?_)
 replace hs25 := hs25.f1
 replace hs25 := hs25.f1
 refine oCall call278 rfl rfl (rest_s r4 (rawL (shL (rawL (rawL L0 ((1 : Nat) : Int)) ((8 : Nat) : Int))) ((2 : Nat) : Int)) (rawT (shL (rawL (rawL L0 ((1 : Nat) : Int)) ((8 : Nat) : Int))) (shT (rawL (rawL L0 ((1 : Nat) : Int)) ((8 : Nat) : Int)) (rawT (rawL L0 ((1 : Nat) : Int)) (rawT L0 false ((1 : Nat) : Int)) ((8 : Nat) : Int))) ((2 : Nat) : Int)) (by first | omega | (simp only [List.length_append, le_length, List.length_cons, List.length_nil, List.length_map, List.length_replicate]; omega)) hs25) ?_
 rintro _ w34 ⟨f27, a28, k29, cp30, rfl, hle31, hb32, hs35⟩; clear hs25; have hl33 := RB.len hb32
 replace hb := hb.mono hle31
 rw [h1, h2, h3, h4]
 refine oV (xBuild (v := (.agg #[(.int .u64 (q.toNat : Int)), (I (kd : Int)), (.int .u32 (s.o.toNat : Int)), (.int .u16 (s.st.toNat : Int)), (.int .u16 (s.sl.toNat : Int)), (.int .u32 (s.g.toNat : Int)), (.int .u16 ((0 : UInt16).toNat : Int)), (.slice a28 k29 cp30)])) rfl (fun w => by kernel_rfl)) rfl (oAlloc hs35 zeroValue394 rfl rfl ?_)
 intro b36 w37 hs38; clear hs35
 refine oStoreG hs38 sizeOf394 rfl rfl rfl rfl (i := 0) rfl rfl ?_
 intro w39 hs40; clear hs38; dsimp only [List.set, putAt] at hs40
 refine oEnd (kSeq (rSeq (rSeq (rReg (oV (xMove rfl) rfl ?_)))))
 replace hs40 := hs40.f2
 refine oCall call87 rfl rfl (torn_s r4 [] (rawT (shL (rawL (rawL L0 ((1 : Nat) : Int)) ((8 : Nat) : Int))) (shT (rawL (rawL L0 ((1 : Nat) : Int)) ((8 : Nat) : Int)) (rawT (rawL L0 ((1 : Nat) : Int)) (rawT L0 false ((1 : Nat) : Int)) ((8 : Nat) : Int))) ((2 : Nat) : Int)) hs40) ?_
 rintro _ w41 ⟨rfl, hs42⟩; clear hs40
 rw [h6]
 refine oV (xMove rfl) rfl (oGuardT rfl rfl (oV (xLoadG hs42 isAgg394 sizeOf394 rfl (i := 1) rfl rfl) rfl (oGuardT rfl rfl (oCall call346 rfl rfl (wright_s (s := s) (kd := kd) hk (by rcases hn with h | h; exact .inl h; right; rw [← hl33, h5, h]; rfl) hs42) ?_))))
 rintro _ w43 ⟨rfl, hs44⟩; clear hs42
 refine oGuardT rfl rfl (oV (xNot rfl) rfl (oV (xPickF rfl rfl) rfl (oEnd (kSeq (rCondF rfl (rSkip (kSeq (rSeq (rReg (oV (xLoadG hs44 isAgg394 sizeOf394 rfl (i := 1) rfl rfl) rfl (oStoreG hs44 sizeOf394 rfl rfl rfl rfl (i := 3) rfl rfl ?_)))))))))))
 intro w45 hs46; clear hs44; dsimp only [List.set, putAt] at hs46
 refine oV (xAssign rfl) rfl (oEnd (kSeq (rRet (kFin (.cell rfl (run_varG hs46 isAgg394 sizeOf394 (i := 3) rfl rfl) (.tmp rfl (.nil))) ?_))))
 replace hs46 := hs46.d3
 replace hs46 := hs46.d1
 replace hs46 := hs46.d0
 exact ⟨_, _, _, _, rfl, (FLe.trans hle8 (FLe.trans hle13 (FLe.trans hle18 (FLe.trans hle23 hle31)))), by rw [← h5]; exact hb32, hs46⟩
theorem wparse_s {W0 w : World} {L : List Asn} {q : UInt64} {s : Sh} {b : Option Addr} {m bc : Nat} {f : HF} {kd : Nat} {l : LB} (hb : RB f b m bc (reqB kd q s l)) (hk : kd = 1 ∨ kd = 2 ∨ kd = 3 ∨ kd = 5 ∨ kd = 6) (hn : kd = 2 ∨ l = []) (hm : l.length ≤ 1000000) (hs : Sep W0 w (pool f :: L)) : Calls Tryz.prog 386 [.slice b m bc].toArray w
 (Ret fun r w' => ∃ f' a n cp, r = .tuple #[.agg #[Q q, I (kd : Int), U s.o, H s.st, H s.sl, U s.g, .int .u16 0, .slice a n cp], .int .i64 0] ∧ FLe f f' ∧ RB f' a n cp l ∧ Sep W0 w' (pool f' :: L)) :=
 wparse0_s hb hk hn (by rw [reqB_length]; omega) (req1 (by omega)) req2 req3 req4 req4l req4t hs
theorem wreply_s {W0 w : World} {L : List Asn} {q : UInt64} {a : Option Addr} {n cp : Nat} {f : HF} {l : LB} (hb : RB f a n cp l) (hm : n ≤ 1000000) (hs : Sep W0 w (pool f :: L)) : Calls Tryz.prog 391 [.agg #[Q q, .int .i64 0, .slice a n cp]].toArray w (Ret fun r w' => ∃ f' a' k' cp', r = .slice a' k' cp' ∧ FLe f f' ∧ RB f' a' k' cp' (repB q l) ∧ Sep W0 w' (pool f' :: L)) := by
 have hbl := RB.len hb
 refine enter (args := [(.agg #[(.int .u64 (q.toNat : Int)), (I 0), (.slice a n cp)])]) (n := 18) (rs := [.tmp 2]) func391 rfl rfl rfl rfl ?_
 refine rSeq (rReg (oBox hs rfl rfl rfl ?_))
 intro b1 w2 hs3; clear hs
 refine oV (xAssign rfl) rfl (oEnd (kSeq (rSeq (rReg (oV (xBuild (v := (.agg #[(.slice none 0 0)])) rfl (fun w => by kernel_rfl)) rfl (oBox hs3 rfl rfl rfl ?_))))))
 intro b4 w5 hs6; clear hs3
 replace hs6 := writer_new hs6
 refine oV (xAssign rfl) rfl (oEnd (kSeq (rSeq ?_)))
 refine rRegG [(none, fun w => ∃ M, Sep W0 w (row b1 512 [(.int .u64 (q.toNat : Int)), (I 0), (.slice a n cp)] :: M))] (by kernel_rfl) hs6 (fun w7 hs8 => ⟨?_, fun hS => ?_⟩)
 · exact ⟨⟨_, (Sep.front (i := 1) rfl hs8)⟩, trivial⟩
 clear hs6
 refine gTake0 0 rfl (by kernel_rfl) hS (fun w => xMove rfl) rfl ?_
 clear hS; intro hS
 refine gTake0 1 rfl (by kernel_rfl) hS (fun w => xFA (j' := 0) underlying512 rfl sizeOf53 rfl rfl) rfl ?_
 clear hS; intro hS
 refine gTake 2 0 rfl (by kernel_rfl) rfl (by kernel_rfl) hS (fun w hq0 => by obtain ⟨M, hq⟩ := hq0; exact xLoad hq isAgg53 rfl (i := 0) rfl rfl) rfl ?_
 clear hS; intro hS
 refine gTake0 4 rfl (by kernel_rfl) hS (fun w => xFA (j' := 1) underlying512 rfl sizeOf29 rfl rfl) rfl ?_
 clear hS; intro hS
 refine gTake 5 0 rfl (by kernel_rfl) rfl (by kernel_rfl) hS (fun w hq0 => by obtain ⟨M, hq⟩ := hq0; exact xLoad hq isAgg29 rfl (i := 0) rfl rfl) rfl ?_
 clear hS; intro hS
 refine gTake0 6 rfl (by kernel_rfl) hS (fun w => xConv underlying29 underlying53 rfl (rfl)) rfl ?_
 clear hS; intro hS
 refine gTake0 8 rfl (by kernel_rfl) hS (fun w => xFA (j' := 2) underlying512 rfl sizeOf26 rfl rfl) rfl ?_
 clear hS; intro hS
 refine gTake 9 0 rfl (by kernel_rfl) rfl (by kernel_rfl) hS (fun w hq0 => by obtain ⟨M, hq⟩ := hq0; exact xLoad hq isAgg26 rfl (i := 0) rfl rfl) rfl ?_
 clear hS; intro hS
 refine gEff 3 (by kernel_rfl) rfl ?_
 refine oCall call88 rfl rfl (num_s b4 [] q 8 (by decide) (by first | omega | (simp only [List.length_append, le_length, List.length_cons, List.length_nil, List.length_map, List.length_replicate]; omega)) hs8) ?_
 rintro _ w9 ⟨rfl, hs10⟩; clear hs8
 refine oEnd (kG ⟨⟨_, (Sep.front (i := 1) rfl hs10)⟩, trivial⟩ ?_)
 clear hS; intro hS
 refine gEff 7 (by kernel_rfl) rfl ?_
 refine oCall call88 rfl rfl (num_s b4 ([] ++ le q 8) (0 : UInt64) 1 (by decide) (by first | omega | (simp only [List.length_append, le_length, List.length_cons, List.length_nil, List.length_map, List.length_replicate]; omega)) hs10) ?_
 rintro _ w11 ⟨rfl, hs12⟩; clear hs10
 refine oEnd (kG ⟨⟨_, (Sep.front (i := 1) rfl hs12)⟩, trivial⟩ ?_)
 clear hS; intro hS
 refine gEff 10 (by kernel_rfl) rfl ?_
 replace hs12 := hs12.f2
 refine oCall call89 rfl rfl (raw_s b4 (([] ++ le q 8) ++ le (0 : UInt64) 1) l hb (by first | omega | (simp only [List.length_append, le_length, List.length_cons, List.length_nil, List.length_map, List.length_replicate]; omega)) hs12) ?_
 rintro _ w13 ⟨rfl, hs14⟩; clear hs12
 refine oEnd (kG ⟨⟨_, (Sep.front (i := 2) rfl hs14)⟩, trivial⟩ ?_)
 clear hS; intro hS
 refine gEff 11 (by kernel_rfl) rfl ?_
 replace hs14 := hs14.f1
 replace hs14 := hs14.f1
 refine oCall call90 rfl rfl (bytes_s b4 ((([] ++ le q 8) ++ le (0 : UInt64) 1) ++ l) (by first | omega | (simp only [List.length_append, le_length, List.length_cons, List.length_nil, List.length_map, List.length_replicate]; omega)) hs14) ?_
 rintro _ w22 ⟨f15, a16, k17, cp18, rfl, hle19, hb20, hs23⟩; clear hs14; have hl21 := RB.len hb20
 refine oEnd (kG ⟨⟨_, (Sep.front (i := 2) rfl hs23)⟩, trivial⟩ ?_)
 clear hS; intro hS
 refine gTake0 12 rfl (by kernel_rfl) hS (fun w => xAssign rfl) rfl ?_
 clear hS; intro hS
 refine gEnd (by kernel_rfl) ?_
 clear hS
 refine kSeq ?_
 refine rRet (kFin (.tmp rfl (.nil)) ?_)
 replace hs23 := hs23.d2
 replace hs23 := hs23.d1
 exact ⟨_, _, _, _, rfl, hle19, by simpa only [repB, List.nil_append, List.append_assoc] using hb20, hs23⟩
theorem wprep0_s {W0 w : World} {L : List Asn} {q : UInt64} {b : Option Addr} {m bc : Nat} {f : HF} {l L0 : LB} (hb : RB f b m bc L0) (h0 : L0.length ≤ 1000100) (h1 : num (rawR L0 ((8 : Nat) : Int)) = q) (h2 : (num (rawR (rawL L0 ((8 : Nat) : Int)) ((1 : Nat) : Int))).toNat = 0) (h3 : rawL (rawL L0 ((8 : Nat) : Int)) ((1 : Nat) : Int) = l) (h4 : rawT (rawL L0 ((8 : Nat) : Int)) (rawT L0 false ((8 : Nat) : Int)) ((1 : Nat) : Int) = false) (hs : Sep W0 w (pool f :: L)) : Calls Tryz.prog 375 [.slice b m bc].toArray w (Ret fun r w' => ∃ f' a n cp, r = .tuple #[.agg #[Q q, .int .i64 0, .slice a n cp], .int .i64 0] ∧ FLe f f' ∧ RB f' a n cp l ∧ Sep W0 w' (pool f' :: L)) := by
 refine enter (args := [(.slice b m bc)]) (n := 31) (rs := [.cell 2 512, .tmp 3]) func375 rfl rfl rfl rfl ?_
 refine rSeq (rReg (oAlloc hs zeroValue512 rfl rfl ?_))
 intro b1 w2 hs3; clear hs
 refine oV (xAssign rfl) rfl (oEnd (kSeq (rSeq (rReg (oV (xMove rfl) rfl ?_)))))
 replace hs3 := hs3.f1
 refine oCall call83 rfl rfl (read_s L0 hb hs3) ?_
 rintro _ w5 ⟨r4, rfl, hs6⟩; clear hs3
 refine oV (xAssign rfl) rfl (oEnd (kSeq (rSeq (rReg (oV (xMove rfl) rfl ?_)))))
 replace hs6 := hs6.f1
 replace hs6 := hs6.f1
 refine oCall call85 rfl rfl (rnum_s r4 L0 false 8 (by decide) (by first | omega | (simp only [List.length_append, le_length, List.length_cons, List.length_nil, List.length_map, List.length_replicate]; omega)) hs6) ?_
 rintro _ w9 ⟨f7, rfl, hle8, hs10⟩; clear hs6
 have hR11 := rawL_le L0 ((8 : Nat) : Int)
 replace hb := hb.mono hle8
 refine oV (xMove rfl) rfl ?_
 replace hs10 := hs10.f1
 replace hs10 := hs10.f1
 refine oCall call85 rfl rfl (rnum_s r4 (rawL L0 ((8 : Nat) : Int)) (rawT L0 false ((8 : Nat) : Int)) 1 (by decide) (by first | omega | (simp only [List.length_append, le_length, List.length_cons, List.length_nil, List.length_map, List.length_replicate]; omega)) hs10) ?_
 rintro _ w14 ⟨f12, rfl, hle13, hs15⟩; clear hs10
 have hR16 := rawL_le (rawL L0 ((8 : Nat) : Int)) ((1 : Nat) : Int)
 replace hb := hb.mono hle13
 refine oV (xConv underlying53 underlying29 rfl (wI (by omega) (by omega))) rfl (oV (xMove rfl) rfl ?_)
 replace hs15 := hs15.f1
 replace hs15 := hs15.f1
 refine oCall call278 rfl rfl (rest_s r4 (rawL (rawL L0 ((8 : Nat) : Int)) ((1 : Nat) : Int)) (rawT (rawL L0 ((8 : Nat) : Int)) (rawT L0 false ((8 : Nat) : Int)) ((1 : Nat) : Int)) (by first | omega | (simp only [List.length_append, le_length, List.length_cons, List.length_nil, List.length_map, List.length_replicate]; omega)) hs15) ?_
 rintro _ w24 ⟨f17, a18, k19, cp20, rfl, hle21, hb22, hs25⟩; clear hs15; have hl23 := RB.len hb22
 replace hb := hb.mono hle21
 rw [h1, h2]
 refine oV (xBuild (v := (.agg #[(.int .u64 (q.toNat : Int)), (I 0), (.slice a18 k19 cp20)])) rfl (fun w => by kernel_rfl)) rfl (oAlloc hs25 zeroValue512 rfl rfl ?_)
 intro b26 w27 hs28; clear hs25
 refine oStoreG hs28 sizeOf512 rfl rfl rfl rfl (i := 0) rfl rfl ?_
 intro w29 hs30; clear hs28; dsimp only [List.set, putAt] at hs30
 refine oEnd (kSeq (rSeq (rSeq (rReg (oV (xMove rfl) rfl ?_)))))
 replace hs30 := hs30.f2
 refine oCall call87 rfl rfl (torn_s r4 [] (rawT (rawL L0 ((8 : Nat) : Int)) (rawT L0 false ((8 : Nat) : Int)) ((1 : Nat) : Int)) hs30) ?_
 rintro _ w31 ⟨rfl, hs32⟩; clear hs30
 rw [h4]
 refine oV (xMove rfl) rfl (oGuardT rfl rfl (oV (xFA (j' := 1) underlying512 rfl sizeOf29 rfl rfl) rfl (oGuardT rfl rfl (oV (xLoad hs32 isAgg29 rfl (i := 1) rfl rfl) rfl (oGuardT rfl rfl (oV (xCmp (r := false) rfl rfl rNeq) rfl (oGuardT rfl rfl (oV (xMove rfl) rfl (oGuardF rfl rfl rfl rfl (oGuardF rfl rfl rfl rfl (oGuardF rfl rfl rfl rfl (oGuardF rfl rfl rfl rfl (oGuardT rfl rfl (oV (xPickF rfl rfl) rfl (oV (xPickF rfl rfl) rfl (oEnd (kSeq (rCondF rfl (rSkip (kSeq (rSeq (rReg (oV (xLoadG hs32 isAgg512 sizeOf512 rfl (i := 1) rfl rfl) rfl (oStoreG hs32 sizeOf512 rfl rfl rfl rfl (i := 3) rfl rfl ?_))))))))))))))))))))))))
 intro w33 hs34; clear hs32; dsimp only [List.set, putAt] at hs34
 refine oV (xAssign rfl) rfl (oEnd (kSeq (rRet (kFin (.cell rfl (run_varG hs34 isAgg512 sizeOf512 (i := 3) rfl rfl) (.tmp rfl (.nil))) ?_))))
 replace hs34 := hs34.d3
 replace hs34 := hs34.d1
 replace hs34 := hs34.d0
 exact ⟨_, _, _, _, rfl, (FLe.trans hle8 (FLe.trans hle13 hle21)), by rw [← h3]; exact hb22, hs34⟩
theorem wprep_s {W0 w : World} {L : List Asn} {q : UInt64} {b : Option Addr} {m bc : Nat} {f : HF} {l : LB} (hb : RB f b m bc (repB q l)) (hm : l.length ≤ 1000000) (hs : Sep W0 w (pool f :: L)) : Calls Tryz.prog 375 [.slice b m bc].toArray w (Ret fun r w' => ∃ f' a n cp, r = .tuple #[.agg #[Q q, .int .i64 0, .slice a n cp], .int .i64 0] ∧ FLe f f' ∧ RB f' a n cp l ∧ Sep W0 w' (pool f' :: L)) :=
 wprep0_s hb (by rw [repB_length]; omega) rep1 rep2 rep2l rep2t hs
end Go.Sl
