/- Part 1 of a proof: what the functions of the program compute, and at the end that the law answers true for every input. No conditions beyond the statement's own. -/
import Derived.Test.YthbppnnnegcphaaGreatT0
set_option linter.unusedVariables false
set_option linter.unusedSimpArgs false
namespace Go.Sl
open Go.Proofs Go.Proofs.Tryz
theorem scale_s {W0 w : World} {L : List Asn} {a : Option Addr} {cp : Nat} {l : List UInt8} (x : UInt8) (hn : l.length ≤ 1000000) (hs : Sep W0 w (own 5 1 (.slice a l.length cp) l.length (l.map B) :: L)) :
 Calls Tryz.prog 362 [.slice a l.length cp, B x].toArray w (Ret fun r w' => Sep W0 w' (own 5 1 (.slice a l.length cp) l.length ((gScale x l).map B) :: L)) := by
 have hgl := gScale_length x l
 rw [← mixd_zero (gScale x l) l] at hs
 refine enter (args := [(.slice a l.length cp), (.int .u8 (x.toNat : Int))]) (n := 20) (rs := []) func362 rfl rfl rfl rfl ?_
 refine rSeq (rReg (oV (xMove rfl) rfl (oV (xB1 rfl (rLenS underlying26)) rfl (oV (xMove rfl) rfl (oEnd (kSeq (rBlk (rLoop (fun mz e w => ∃ (i : Nat), l.length - i = mz ∧ e = [(0, (.slice a l.length cp)), (1, (.int .u8 (x.toNat : Int))), (6, (I (l.length : Int))), (7, (I (i : Int)))] ∧ (i ≤ l.length) ∧ Sep W0 w (own 5 1 (.slice a l.length cp) l.length ((mixd (gScale x l) l i).map B) :: L)) ⟨_, _, ⟨0, rfl, rfl, (by omega), hs⟩, ⟨rfl, rfl, rfl, rfl, trivial⟩⟩ ?_))))))))
 clear hs; rintro mz e w ⟨i, rfl, rfl, hi, hs⟩
 have hml := mixd_length' hgl hi
 refine rSeq (rReg (oV (xCmp rfl rfl rLss) rfl (oEnd (kSeq (rSeq ?_)))))
 refine rCondD rfl (fun hc1 => ?_) (fun hc1 => ?_)
 · refine rSkip (kSeq (rSeq (rBlk (rSeq (rReg (oV (xMove rfl) rfl (oV (xAssign rfl) rfl (oEnd (kSeq (rReg (oV (xMove rfl) rfl (oV (xMove rfl) rfl (oV (xMove rfl) rfl (oV (xMove rfl) rfl ?_))))))))))))))
   obtain ⟨b2, rfl⟩ := Sep.ownAddr (i := 0) hs rfl (by omega)
   refine oV (xIA (o' := i) underlying26 sizeOf5 rfl rfl (by omega) (by omega) (by omega)) rfl (oV (xLoadC isAgg5 rfl (Sep.ownCell hs (i := 0) rfl (getB (by first | omega | (simp only [List.length_append, List.length_set, List.length_cons, List.length_nil, List.length_map, List.length_replicate, mixd_length]; omega))))) rfl (oV (xMove rfl) rfl (oCall call108 rfl rfl (gmul_s ((mixd (gScale x l) l i).getD i 0) x hs) ?_)))
   rintro _ w4 ⟨rfl, hs5⟩; clear hs
   refine oV (xIA (o' := i) underlying26 sizeOf5 rfl rfl (by omega) (by omega) (by omega)) rfl (oStoreO hs5 sizeOf5 rfl rfl rfl (i := 0) rfl (getB (by first | omega | (simp only [List.length_append, List.length_set, List.length_cons, List.length_nil, List.length_map, List.length_replicate, mixd_length]; omega))) ?_)
   intro w6 hs7; clear hs5; dsimp only [List.set] at hs7; rw [setB] at hs7
   refine oEnd (kBlk (kSeq (rReg (oV (xAr rfl rfl (rAdd (wI (by omega) (by omega)))) rfl (oV (xMove rfl) rfl ?_)))))
   rw [mixd_set hgl (by omega) (by rw [mixd_get hgl (by omega), gScale_get (by omega)])] at hs7
   exact oEnd (kLoop (l.length - (i + 1)) _ (by omega) ⟨i + 1, rfl, rfl, (by omega), hs7⟩ ⟨rfl, rfl, rfl, rfl, trivial⟩)
 · refine rExit (kSeqX (kLoopX (kBlkH (kFinN (.nil) ?_))))
   rw [mixd_end hgl (by omega)] at hs
   exact hs
theorem add_s {W0 w : World} {L : List Asn} {a b : Option Addr} {cp cq : Nat} {l m : List UInt8} (x : UInt8) (hlm : l.length ≤ m.length) (hn : l.length ≤ 1000000) (hm : m.length ≤ 1000000) (hs : Sep W0 w (own 5 1 (.slice a l.length cp) l.length (l.map B) :: own 5 1 (.slice b m.length cq) m.length (m.map B) :: L)) :
 Calls Tryz.prog 363 [.slice a l.length cp, .slice b m.length cq, B x].toArray w (Ret fun r w' => Sep W0 w' (own 5 1 (.slice a l.length cp) l.length ((gAddR x l m).map B) :: own 5 1 (.slice b m.length cq) m.length (m.map B) :: L)) := by
 have hgl := gAddR_length (x := x) hlm
 rw [← mixd_zero (gAddR x l m) l] at hs
 refine enter (args := [(.slice a l.length cp), (.slice b m.length cq), (.int .u8 (x.toNat : Int))]) (n := 27) (rs := []) func363 rfl rfl rfl rfl ?_
 refine rSeq (rReg (oV (xMove rfl) rfl (oV (xB1 rfl (rLenS underlying26)) rfl (oV (xMove rfl) rfl (oEnd (kSeq (rBlk (rLoop (fun mz e w => ∃ (i : Nat), l.length - i = mz ∧ e = [(0, (.slice a l.length cp)), (1, (.slice b m.length cq)), (2, (.int .u8 (x.toNat : Int))), (8, (I (l.length : Int))), (9, (I (i : Int)))] ∧ (i ≤ l.length) ∧ Sep W0 w (own 5 1 (.slice a l.length cp) l.length ((mixd (gAddR x l m) l i).map B) :: own 5 1 (.slice b m.length cq) m.length (m.map B) :: L)) ⟨_, _, ⟨0, rfl, rfl, (by omega), hs⟩, ⟨rfl, rfl, rfl, rfl, rfl, trivial⟩⟩ ?_))))))))
 clear hs; rintro mz e w ⟨i, rfl, rfl, hi, hs⟩
 have hml := mixd_length' hgl hi
 refine rSeq (rReg (oV (xCmp rfl rfl rLss) rfl (oEnd (kSeq (rSeq ?_)))))
 refine rCondD rfl (fun hc1 => ?_) (fun hc1 => ?_)
 · refine rSkip (kSeq (rSeq (rBlk (rSeq (rReg (oV (xMove rfl) rfl (oV (xAssign rfl) rfl (oEnd (kSeq ?_)))))))))
   refine rRegG [(some 14, fun w => ∃ M, Sep W0 w (own 5 1 (.slice a l.length cp) l.length ((mixd (gAddR x l m) l i).map B) :: M)), (none, fun w => ∃ M, Sep W0 w (own 5 1 (.slice b m.length cq) m.length (m.map B) :: M))] (by kernel_rfl) hs (fun w2 hs3 => ⟨?_, fun hS => ?_⟩)
   · exact ⟨fun _ => ⟨_, (Sep.front (i := 0) rfl hs3)⟩, ⟨_, (Sep.front (i := 1) rfl hs3)⟩, trivial⟩
   clear hs
   refine gTake0 0 rfl (by kernel_rfl) hS (fun w => xMove rfl) rfl ?_
   clear hS; intro hS
   refine gTake0 1 rfl (by kernel_rfl) hS (fun w => xMove rfl) rfl ?_
   clear hS; intro hS
   refine gTake0 2 rfl (by kernel_rfl) hS (fun w => xMove rfl) rfl ?_
   clear hS; intro hS
   refine gTake0 3 rfl (by kernel_rfl) hS (fun w => xMove rfl) rfl ?_
   clear hS; intro hS
   obtain ⟨b4, rfl⟩ := Sep.ownAddr (i := 0) hs3 rfl (by omega)
   refine gTake0 4 rfl (by kernel_rfl) hS (fun w => xIA (o' := i) underlying26 sizeOf5 rfl rfl (by omega) (by omega) (by omega)) rfl ?_
   clear hS; intro hS
   refine gTake 5 0 rfl (by kernel_rfl) rfl (by kernel_rfl) hS (fun w hq0 => by obtain ⟨M, hq⟩ := hq0; exact xLoadC isAgg5 rfl (Sep.ownCell hq (i := 0) rfl (getB (by first | omega | (simp only [List.length_append, List.length_set, List.length_cons, List.length_nil, List.length_map, List.length_replicate, mixd_length]; omega))))) rfl ?_
   clear hS; intro hS
   refine gTake0 6 rfl (by kernel_rfl) hS (fun w => xMove rfl) rfl ?_
   clear hS; intro hS
   refine gTake0 7 rfl (by kernel_rfl) hS (fun w => xMove rfl) rfl ?_
   clear hS; intro hS
   obtain ⟨b6, rfl⟩ := Sep.ownAddr (i := 1) hs3 rfl (by omega)
   refine gTake0 8 rfl (by kernel_rfl) hS (fun w => xIA (o' := i) underlying26 sizeOf5 rfl rfl (by omega) (by omega) (by omega)) rfl ?_
   clear hS; intro hS
   refine gTake 9 1 rfl (by kernel_rfl) rfl (by kernel_rfl) hS (fun w hq0 => by obtain ⟨M, hq⟩ := hq0; exact xLoadC isAgg5 rfl (Sep.ownCell hq (i := 0) rfl (getB (by first | omega | (simp only [List.length_append, List.length_set, List.length_cons, List.length_nil, List.length_map, List.length_replicate, mixd_length]; omega))))) rfl ?_
   clear hS; intro hS
   refine gTake0 10 rfl (by kernel_rfl) hS (fun w => xMove rfl) rfl ?_
   clear hS; intro hS
   refine gEff 11 (by kernel_rfl) rfl ?_
   refine oCall call108 rfl rfl (gmul_s (m.getD i 0) x hs3) ?_
   rintro _ w8 ⟨rfl, hs9⟩; clear hs3
   refine oEnd (kG ⟨fun _ => ⟨_, (Sep.front (i := 0) rfl hs9)⟩, ⟨_, (Sep.front (i := 1) rfl hs9)⟩, trivial⟩ ?_)
   clear hS; intro hS
   refine gEff 12 (by kernel_rfl) rfl ?_
   refine oCall call107 rfl rfl (gadd_s ((mixd (gAddR x l m) l i).getD i 0) (gmul (m.getD i 0) x) hs9) ?_
   rintro _ w10 ⟨rfl, hs11⟩; clear hs9
   refine oEnd (kG ⟨fun _ => ⟨_, (Sep.front (i := 0) rfl hs11)⟩, ⟨_, (Sep.front (i := 1) rfl hs11)⟩, trivial⟩ ?_)
   clear hS; intro hS
   refine gTake0 13 rfl (by kernel_rfl) hS (fun w => xIA (o' := i) underlying26 sizeOf5 rfl rfl (by omega) (by omega) (by omega)) rfl ?_
   clear hS; intro hS
   refine gEff 14 (by kernel_rfl) rfl ?_
   refine oStoreO hs11 sizeOf5 rfl rfl rfl (i := 0) rfl (getB (by first | omega | (simp only [List.length_append, List.length_set, List.length_cons, List.length_nil, List.length_map, List.length_replicate, mixd_length]; omega))) ?_
   intro w12 hs13; clear hs11; dsimp only [List.set] at hs13; rw [setB] at hs13
   rw [mixd_set hgl (by omega) (by rw [mixd_get hgl (by omega), gAddR_get hlm (by omega)])] at hs13
   refine oEnd (kG ⟨(tillDone (by kernel_rfl)), ⟨_, (Sep.front (i := 1) rfl hs13)⟩, trivial⟩ ?_)
   clear hS; intro hS
   refine gEnd (by kernel_rfl) ?_
   clear hS
   refine kBlk (kSeq ?_)
   refine rReg (oV (xAr rfl rfl (rAdd (wI (by omega) (by omega)))) rfl (oV (xMove rfl) rfl ?_))
   exact oEnd (kLoop (l.length - (i + 1)) _ (by omega) ⟨i + 1, rfl, rfl, (by omega), hs13⟩ ⟨rfl, rfl, rfl, rfl, rfl, trivial⟩)
 · refine rExit (kSeqX (kLoopX (kBlkH (kFinN (.nil) ?_))))
   rw [mixd_end hgl (by omega)] at hs
   exact hs
def pivI : Option Nat → Int
 | some k => k
 | none => -1
theorem pivot_s {W0 w : World} {L : List Asn} {f : HF} {p n c col fr ca : Nat} {aa : Option Addr} {vb : Value} {a : LL} (hp : PR f p [.slice aa n ca, vb]) (hsh : Shape a n c) (hcol : col < c) (hfr : fr ≤ n) (hn : n ≤ 64) (hcn : c ≤ 64) (hs : Sep W0 w (pool f :: rowsE (.slice aa n ca) n a :: L)) :
 Calls Tryz.prog 331 [ptr p, .int .i64 fr, .int .i64 col].toArray w (Ret fun r w' => r = .int .i64 (pivI (pivF a col (n - fr) fr)) ∧ Sep W0 w' (pool f :: rowsE (.slice aa n ca) n a :: L)) := by
 refine enter (args := [(ptr p), (I (fr : Int)), (I (col : Int))]) (n := 30) (rs := [.tmp 6]) func331 rfl rfl rfl rfl ?_
 refine rSeq (rReg (oV (xAssign rfl) rfl (oEnd (kSeq (rSeq (rSeq (rReg ?_)))))))
 replace hs := hs.f1
 obtain ⟨vs1, h12, h23, hs4⟩ := rowsE_open hs; clear hs
 have hv5 : vs1.length = n := by omega
 replace hs4 := hs4.f2
 refine oV (xMove rfl) rfl (oV (xAssign rfl) rfl (oEnd (kSeq (rBlk (rLoop (fun mz e w => ∃ (i : Nat), n - i = mz ∧ e = [(0, (ptr p)), (2, (I (col : Int))), (7, (I (i : Int)))] ∧ (i ≤ n) ∧ (pivF a col (n - fr) fr = pivF a col (n - i) i) ∧ Sep W0 w (pool f :: own 26 1 (.slice aa n ca) n vs1 :: sepL (rowCh vs1 a) :: L)) ⟨_, _, ⟨fr, rfl, rfl, (by omega), (rfl), hs4⟩, ⟨rfl, rfl, rfl, trivial⟩⟩ ?_)))))
 clear hs4; rintro mz e w ⟨i, rfl, rfl, hi, hpv, hs⟩
 have hlen := hsh.len
 refine rSeq (rSeq (rReg (oV (xMove rfl) rfl (oV (xMove rfl) rfl (oV (xNil rfl) rfl (oV (xFA (j' := 0) underlying446 rfl sizeOf22 rfl rfl) rfl (oV (xLoadC isAgg22 rfl (PR.cell hp hs (i := 0) rfl rfl)) rfl (oV (xB1 rfl (rLenS underlying22)) rfl (oV (xCmp rfl rfl rLss) rfl (oEnd (kSeq ?_)))))))))))
 refine rCondD rfl (fun hc6 => ?_) (fun hc6 => ?_)
 · refine rSkip (kSeq (rSeq (rBlk (rSeq (rReg (oV (xMove rfl) rfl (oV (xNil rfl) rfl (oV (xFA (j' := 0) underlying446 rfl sizeOf22 rfl rfl) rfl (oV (xLoadC isAgg22 rfl (PR.cell hp hs (i := 0) rfl rfl)) rfl (oV (xMove rfl) rfl ?_))))))))))
   obtain ⟨b7, rfl⟩ := Sep.ownAddr (i := 1) hs rfl (by omega)
   refine oV (xIA (o' := i) underlying22 sizeOf26 rfl rfl (by omega) (by omega) (by omega)) rfl ?_
   obtain ⟨a9, cp10, hv11⟩ := rows_head (i := i) hs (p := 2) rfl h12 (by omega)
   have hl12 := Shape.at (i := i) hsh (by omega)
   refine oV (xLoadC isAgg26 rfl (Sep.ownCell hs (i := 1) rfl ((getV (by first | omega | (simp only [List.length_append, List.length_set, List.length_cons, List.length_nil, List.length_map, List.length_replicate, mixd_length]; omega))).trans (congrArg some hv11)))) rfl (oV (xMove rfl) rfl ?_)
   obtain ⟨b13, rfl⟩ := rows_addr (i := i) hs (p := 2) rfl h12 (by omega) hv11 (by omega)
   refine oV (xIA (o' := col) underlying26 sizeOf5 rfl rfl (by omega) (by omega) (by omega)) rfl (oV (xLoadC isAgg5 rfl (rows_cell2 (i := i) hs (p := 2) rfl h12 (by omega) hv11 (by omega))) rfl (oV (xCmp rfl rfl rNeq) rfl (oEnd (kSeq ?_))))
   refine rCondD rfl (fun hc15 => ?_) (fun hc15 => ?_)
   · refine rSeq (rReg (oV (xMove rfl) rfl (oV (xAssign rfl) rfl (oEnd (kSeq (rRet (kBlkR (kSeqR (kLoopR (kBlkR (kSeqR (kFin (.tmp rfl (.nil)) ?_))))))))))))
     replace hs := hs.f2
     replace hs := hs.f2
     have hs16 := rowsE_shut h12 (Shape.len hsh) hs; clear hs
     replace hs16 := hs16.f1
     rw [hpv, show n - i = (n - (i + 1)) + 1 by omega]
     simp only [pivF]
     rw [if_neg (by omega)]
     exact ⟨rfl, hs16⟩
   · refine rSkip (kBlk (kSeq (rReg (oV (xMove rfl) rfl (oV (xAr rfl rfl (rAdd (wI (by omega) (by omega)))) rfl (oV (xAssign rfl) rfl ?_))))))
     have hpz : pivF a col (n - i) i = pivF a col (n - (i + 1)) (i + 1) := by
       rw [show n - i = (n - (i + 1)) + 1 by omega]; simp only [pivF]; rw [if_pos (by omega)]
     exact oEnd (kLoop (n - (i + 1)) _ (by omega) ⟨i + 1, rfl, rfl, (by omega), (hpv.trans hpz), hs⟩ ⟨rfl, rfl, rfl, trivial⟩)
 · refine rExit (kSeqX (kLoopX (kBlkH (kSeq (rSeq (rReg (oV (xAssign rfl) rfl (oEnd (kSeq (rRet (kFin (.tmp rfl (.nil)) ?_)))))))))))
   replace hs := hs.f2
   replace hs := hs.f2
   have hs17 := rowsE_shut h12 (Shape.len hsh) hs; clear hs
   replace hs17 := hs17.f1
   obtain rfl : i = n := by omega
   rw [hpv, Nat.sub_self]
   exact ⟨rfl, hs17⟩
theorem swap_s {W0 w : World} {L : List Asn} {f : HF} {p n c d ca cb : Nat} {aa ab : Option Addr} {a b : LL} (hp : PR f p [.slice aa n ca, .slice ab n cb]) (hsa : Shape a n c) (hsb : Shape b n d) (i k : Nat) (hi : i < n) (hk : k < n) (hn : n ≤ 64) (hs : Sep W0 w (pool f :: rowsE (.slice aa n ca) n a :: rowsE (.slice ab n cb) n b :: L)) :
 Calls Tryz.prog 332 [ptr p, .int .i64 i, .int .i64 k].toArray w (Ret fun r w' => Sep W0 w' (pool f :: rowsE (.slice aa n ca) n (swapL [] a i k) :: rowsE (.slice ab n cb) n (swapL [] b i k) :: L)) := by
 refine enter (args := [(ptr p), (I (i : Int)), (I (k : Int))]) (n := 58) (rs := []) func332 rfl rfl rfl rfl ?_
 have hla := hsa.len; have hlb := hsb.len
 replace hs := hs.f1
 obtain ⟨vs1, h12, h23, hs4⟩ := rowsE_open hs; clear hs
 have hv5 : vs1.length = n := by omega
 replace hs4 := hs4.f3
 obtain ⟨vs6, h17, h28, hs9⟩ := rowsE_open hs4; clear hs4
 have hv10 : vs6.length = n := by omega
 replace hs9 := hs9.f4
 refine rSeq ?_
 refine rRegG [(some 25, fun w => ∃ M, Sep W0 w (own 26 1 (.slice aa n ca) n vs1 :: M)), (none, fun w => ∃ M, Sep W0 w (pool f :: M))] (by kernel_rfl) hs9 (fun w11 hs12 => ⟨?_, fun hS => ?_⟩)
 · exact ⟨fun _ => ⟨_, (Sep.front (i := 3) rfl hs12)⟩, ⟨_, (Sep.front (i := 0) rfl hs12)⟩, trivial⟩
 clear hs9
 refine gTake0 0 rfl (by kernel_rfl) hS (fun w => xMove rfl) rfl ?_
 clear hS; intro hS
 refine gTake0 1 rfl (by kernel_rfl) hS (fun w => xNil rfl) rfl ?_
 clear hS; intro hS
 refine gTake0 2 rfl (by kernel_rfl) hS (fun w => xFA (j' := 0) underlying446 rfl sizeOf22 rfl rfl) rfl ?_
 clear hS; intro hS
 refine gTake 3 1 rfl (by kernel_rfl) rfl (by kernel_rfl) hS (fun w hq0 => by obtain ⟨M, hq⟩ := hq0; exact xLoadC isAgg22 rfl (PR.cell hp hq (i := 0) rfl rfl)) rfl ?_
 clear hS; intro hS
 refine gTake0 4 rfl (by kernel_rfl) hS (fun w => xMove rfl) rfl ?_
 clear hS; intro hS
 refine gTake0 5 rfl (by kernel_rfl) hS (fun w => xMove rfl) rfl ?_
 clear hS; intro hS
 refine gTake0 6 rfl (by kernel_rfl) hS (fun w => xNil rfl) rfl ?_
 clear hS; intro hS
 refine gTake0 7 rfl (by kernel_rfl) hS (fun w => xFA (j' := 0) underlying446 rfl sizeOf22 rfl rfl) rfl ?_
 clear hS; intro hS
 refine gTake 8 1 rfl (by kernel_rfl) rfl (by kernel_rfl) hS (fun w hq0 => by obtain ⟨M, hq⟩ := hq0; exact xLoadC isAgg22 rfl (PR.cell hp hq (i := 0) rfl rfl)) rfl ?_
 clear hS; intro hS
 refine gTake0 9 rfl (by kernel_rfl) hS (fun w => xMove rfl) rfl ?_
 clear hS; intro hS
 refine gTake0 10 rfl (by kernel_rfl) hS (fun w => xMove rfl) rfl ?_
 clear hS; intro hS
 refine gTake0 11 rfl (by kernel_rfl) hS (fun w => xNil rfl) rfl ?_
 clear hS; intro hS
 refine gTake0 12 rfl (by kernel_rfl) hS (fun w => xFA (j' := 0) underlying446 rfl sizeOf22 rfl rfl) rfl ?_
 clear hS; intro hS
 refine gTake 13 1 rfl (by kernel_rfl) rfl (by kernel_rfl) hS (fun w hq0 => by obtain ⟨M, hq⟩ := hq0; exact xLoadC isAgg22 rfl (PR.cell hp hq (i := 0) rfl rfl)) rfl ?_
 clear hS; intro hS
 refine gTake0 14 rfl (by kernel_rfl) hS (fun w => xMove rfl) rfl ?_
 clear hS; intro hS
 obtain ⟨b13, rfl⟩ := Sep.ownAddr (i := 3) hs12 rfl (by omega)
 refine gTake0 15 rfl (by kernel_rfl) hS (fun w => xIA (o' := k) underlying22 sizeOf26 rfl rfl (by omega) (by omega) (by omega)) rfl ?_
 clear hS; intro hS
 obtain ⟨a15, cp16, hv17⟩ := rows_head (i := k) hs12 (p := 4) rfl h12 (by omega)
 have hl18 := Shape.at (i := k) hsa (by omega)
 refine gTake 16 0 rfl (by kernel_rfl) rfl (by kernel_rfl) hS (fun w hq0 => by obtain ⟨M, hq⟩ := hq0; exact xLoadC isAgg26 rfl (Sep.ownCell hq (i := 0) rfl ((getV (by first | omega | (simp only [List.length_append, List.length_set, List.length_cons, List.length_nil, List.length_map, List.length_replicate, mixd_length]; omega))).trans (congrArg some hv17)))) rfl ?_
 clear hS; intro hS
 refine gTake0 17 rfl (by kernel_rfl) hS (fun w => xMove rfl) rfl ?_
 clear hS; intro hS
 refine gTake0 18 rfl (by kernel_rfl) hS (fun w => xNil rfl) rfl ?_
 clear hS; intro hS
 refine gTake0 19 rfl (by kernel_rfl) hS (fun w => xFA (j' := 0) underlying446 rfl sizeOf22 rfl rfl) rfl ?_
 clear hS; intro hS
 refine gTake 20 1 rfl (by kernel_rfl) rfl (by kernel_rfl) hS (fun w hq0 => by obtain ⟨M, hq⟩ := hq0; exact xLoadC isAgg22 rfl (PR.cell hp hq (i := 0) rfl rfl)) rfl ?_
 clear hS; intro hS
 refine gTake0 21 rfl (by kernel_rfl) hS (fun w => xMove rfl) rfl ?_
 clear hS; intro hS
 refine gTake0 22 rfl (by kernel_rfl) hS (fun w => xIA (o' := i) underlying22 sizeOf26 rfl rfl (by omega) (by omega) (by omega)) rfl ?_
 clear hS; intro hS
 obtain ⟨a19, cp20, hv21⟩ := rows_head (i := i) hs12 (p := 4) rfl h12 (by omega)
 have hl22 := Shape.at (i := i) hsa (by omega)
 refine gTake 23 0 rfl (by kernel_rfl) rfl (by kernel_rfl) hS (fun w hq0 => by obtain ⟨M, hq⟩ := hq0; exact xLoadC isAgg26 rfl (Sep.ownCell hq (i := 0) rfl ((getV (by first | omega | (simp only [List.length_append, List.length_set, List.length_cons, List.length_nil, List.length_map, List.length_replicate, mixd_length]; omega))).trans (congrArg some hv21)))) rfl ?_
 clear hS; intro hS
 refine gTake0 24 rfl (by kernel_rfl) hS (fun w => xIA (o' := i) underlying22 sizeOf26 rfl rfl (by omega) (by omega) (by omega)) rfl ?_
 clear hS; intro hS
 refine gEff 25 (by kernel_rfl) rfl ?_
 refine oStoreO hs12 sizeOf26 rfl rfl rfl (i := 3) rfl (getV (by first | omega | (simp only [List.length_append, List.length_set, List.length_cons, List.length_nil, List.length_map, List.length_replicate, mixd_length]; omega))) ?_
 intro w23 hs24; clear hs12; dsimp only [List.set] at hs24
 refine oEnd (kG ⟨(tillDone (by kernel_rfl)), ⟨_, (Sep.front (i := 0) rfl hs24)⟩, trivial⟩ ?_)
 clear hS; intro hS
 refine gTake0 26 rfl (by kernel_rfl) hS (fun w => xIA (o' := k) underlying22 sizeOf26 rfl rfl (by omega) (by omega) (by omega)) rfl ?_
 clear hS; intro hS
 refine gEff 27 (by kernel_rfl) rfl ?_
 refine oStoreO hs24 sizeOf26 rfl rfl rfl (i := 3) rfl (getV (by first | omega | (simp only [List.length_append, List.length_set, List.length_cons, List.length_nil, List.length_map, List.length_replicate, mixd_length]; omega))) ?_
 intro w25 hs26; clear hs24; dsimp only [List.set] at hs26
 rw [← hv17, ← hv21] at hs26
 have hs27 : Sep W0 _ (pool f :: own 26 1 (.slice ab n cb) n vs6 :: sepL (rowCh vs6 b) :: own 26 1 (.slice (some ⟨b13, 0, none⟩) n ca) n (swapL undef vs1 i k) :: sepL (rowCh vs1 a) :: L) := hs26; clear hs26
 refine oEnd (kG ⟨(tillDone (by kernel_rfl)), ⟨_, (Sep.front (i := 0) rfl hs27)⟩, trivial⟩ ?_)
 clear hS; intro hS
 refine gEnd (by kernel_rfl) ?_
 clear hS
 refine kSeq ?_
 refine rRegG [(some 25, fun w => ∃ M, Sep W0 w (own 26 1 (.slice ab n cb) n vs6 :: M)), (none, fun w => ∃ M, Sep W0 w (pool f :: M))] (by kernel_rfl) hs27 (fun w28 hs29 => ⟨?_, fun hS => ?_⟩)
 · exact ⟨fun _ => ⟨_, (Sep.front (i := 1) rfl hs29)⟩, ⟨_, (Sep.front (i := 0) rfl hs29)⟩, trivial⟩
 clear hs27
 refine gTake0 0 rfl (by kernel_rfl) hS (fun w => xMove rfl) rfl ?_
 clear hS; intro hS
 refine gTake0 1 rfl (by kernel_rfl) hS (fun w => xNil rfl) rfl ?_
 clear hS; intro hS
 refine gTake0 2 rfl (by kernel_rfl) hS (fun w => xFA (j' := 1) underlying446 rfl sizeOf22 rfl rfl) rfl ?_
 clear hS; intro hS
 refine gTake 3 1 rfl (by kernel_rfl) rfl (by kernel_rfl) hS (fun w hq0 => by obtain ⟨M, hq⟩ := hq0; exact xLoadC isAgg22 rfl (PR.cell hp hq (i := 0) rfl rfl)) rfl ?_
 clear hS; intro hS
 refine gTake0 4 rfl (by kernel_rfl) hS (fun w => xMove rfl) rfl ?_
 clear hS; intro hS
 refine gTake0 5 rfl (by kernel_rfl) hS (fun w => xMove rfl) rfl ?_
 clear hS; intro hS
 refine gTake0 6 rfl (by kernel_rfl) hS (fun w => xNil rfl) rfl ?_
 clear hS; intro hS
 refine gTake0 7 rfl (by kernel_rfl) hS (fun w => xFA (j' := 1) underlying446 rfl sizeOf22 rfl rfl) rfl ?_
 clear hS; intro hS
 refine gTake 8 1 rfl (by kernel_rfl) rfl (by kernel_rfl) hS (fun w hq0 => by obtain ⟨M, hq⟩ := hq0; exact xLoadC isAgg22 rfl (PR.cell hp hq (i := 0) rfl rfl)) rfl ?_
 clear hS; intro hS
 refine gTake0 9 rfl (by kernel_rfl) hS (fun w => xMove rfl) rfl ?_
 clear hS; intro hS
 refine gTake0 10 rfl (by kernel_rfl) hS (fun w => xMove rfl) rfl ?_
 clear hS; intro hS
 refine gTake0 11 rfl (by kernel_rfl) hS (fun w => xNil rfl) rfl ?_
 clear hS; intro hS
 refine gTake0 12 rfl (by kernel_rfl) hS (fun w => xFA (j' := 1) underlying446 rfl sizeOf22 rfl rfl) rfl ?_
 clear hS; intro hS
 refine gTake 13 1 rfl (by kernel_rfl) rfl (by kernel_rfl) hS (fun w hq0 => by obtain ⟨M, hq⟩ := hq0; exact xLoadC isAgg22 rfl (PR.cell hp hq (i := 0) rfl rfl)) rfl ?_
 clear hS; intro hS
 refine gTake0 14 rfl (by kernel_rfl) hS (fun w => xMove rfl) rfl ?_
 clear hS; intro hS
 obtain ⟨b30, rfl⟩ := Sep.ownAddr (i := 1) hs29 rfl (by omega)
 refine gTake0 15 rfl (by kernel_rfl) hS (fun w => xIA (o' := k) underlying22 sizeOf26 rfl rfl (by omega) (by omega) (by omega)) rfl ?_
 clear hS; intro hS
 obtain ⟨a32, cp33, hv34⟩ := rows_head (i := k) hs29 (p := 2) rfl h17 (by omega)
 have hl35 := Shape.at (i := k) hsb (by omega)
 refine gTake 16 0 rfl (by kernel_rfl) rfl (by kernel_rfl) hS (fun w hq0 => by obtain ⟨M, hq⟩ := hq0; exact xLoadC isAgg26 rfl (Sep.ownCell hq (i := 0) rfl ((getV (by first | omega | (simp only [List.length_append, List.length_set, List.length_cons, List.length_nil, List.length_map, List.length_replicate, mixd_length]; omega))).trans (congrArg some hv34)))) rfl ?_
 clear hS; intro hS
 refine gTake0 17 rfl (by kernel_rfl) hS (fun w => xMove rfl) rfl ?_
 clear hS; intro hS
 refine gTake0 18 rfl (by kernel_rfl) hS (fun w => xNil rfl) rfl ?_
 clear hS; intro hS
 refine gTake0 19 rfl (by kernel_rfl) hS (fun w => xFA (j' := 1) underlying446 rfl sizeOf22 rfl rfl) rfl ?_
 clear hS; intro hS
 refine gTake 20 1 rfl (by kernel_rfl) rfl (by kernel_rfl) hS (fun w hq0 => by obtain ⟨M, hq⟩ := hq0; exact xLoadC isAgg22 rfl (PR.cell hp hq (i := 0) rfl rfl)) rfl ?_
 clear hS; intro hS
 refine gTake0 21 rfl (by kernel_rfl) hS (fun w => xMove rfl) rfl ?_
 clear hS; intro hS
 refine gTake0 22 rfl (by kernel_rfl) hS (fun w => xIA (o' := i) underlying22 sizeOf26 rfl rfl (by omega) (by omega) (by omega)) rfl ?_
 clear hS; intro hS
 obtain ⟨a36, cp37, hv38⟩ := rows_head (i := i) hs29 (p := 2) rfl h17 (by omega)
 have hl39 := Shape.at (i := i) hsb (by omega)
 refine gTake 23 0 rfl (by kernel_rfl) rfl (by kernel_rfl) hS (fun w hq0 => by obtain ⟨M, hq⟩ := hq0; exact xLoadC isAgg26 rfl (Sep.ownCell hq (i := 0) rfl ((getV (by first | omega | (simp only [List.length_append, List.length_set, List.length_cons, List.length_nil, List.length_map, List.length_replicate, mixd_length]; omega))).trans (congrArg some hv38)))) rfl ?_
 clear hS; intro hS
 refine gTake0 24 rfl (by kernel_rfl) hS (fun w => xIA (o' := i) underlying22 sizeOf26 rfl rfl (by omega) (by omega) (by omega)) rfl ?_
 clear hS; intro hS
 refine gEff 25 (by kernel_rfl) rfl ?_
 refine oStoreO hs29 sizeOf26 rfl rfl rfl (i := 1) rfl (getV (by first | omega | (simp only [List.length_append, List.length_set, List.length_cons, List.length_nil, List.length_map, List.length_replicate, mixd_length]; omega))) ?_
 intro w40 hs41; clear hs29; dsimp only [List.set] at hs41
 refine oEnd (kG ⟨(tillDone (by kernel_rfl)), ⟨_, (Sep.front (i := 0) rfl hs41)⟩, trivial⟩ ?_)
 clear hS; intro hS
 refine gTake0 26 rfl (by kernel_rfl) hS (fun w => xIA (o' := k) underlying22 sizeOf26 rfl rfl (by omega) (by omega) (by omega)) rfl ?_
 clear hS; intro hS
 refine gEff 27 (by kernel_rfl) rfl ?_
 refine oStoreO hs41 sizeOf26 rfl rfl rfl (i := 1) rfl (getV (by first | omega | (simp only [List.length_append, List.length_set, List.length_cons, List.length_nil, List.length_map, List.length_replicate, mixd_length]; omega))) ?_
 intro w42 hs43; clear hs41; dsimp only [List.set] at hs43
 rw [← hv34, ← hv38] at hs43
 have hs44 : Sep W0 _ (pool f :: own 26 1 (.slice (some ⟨b30, 0, none⟩) n cb) n (swapL undef vs6 i k) :: sepL (rowCh vs6 b) :: own 26 1 (.slice (some ⟨b13, 0, none⟩) n ca) n (swapL undef vs1 i k) :: sepL (rowCh vs1 a) :: L) := hs43; clear hs43
 refine oEnd (kG ⟨(tillDone (by kernel_rfl)), ⟨_, (Sep.front (i := 0) rfl hs44)⟩, trivial⟩ ?_)
 clear hS; intro hS
 refine gEnd (by kernel_rfl) ?_
 clear hS
 refine kFinN (.nil) ?_
 replace hs44 := hs44.f4
 have hs45 := rows_swap (i := i) (k := k) h12 (by omega) (by omega) hs44; clear hs44
 have h146 : (swapL undef vs1 i k).length = (swapL [] a i k).length := by rw [swapL_length, swapL_length]; exact h12
 have hsh47 := Shape.swap hsa hi hk
 replace hs45 := hs45.f4
 have hs48 := rowsE_shut h146 (Shape.len hsh47) hs45; clear hs45
 replace hs48 := hs48.f3
 have hs49 := rows_swap (i := i) (k := k) h17 (by omega) (by omega) hs48; clear hs48
 have h150 : (swapL undef vs6 i k).length = (swapL [] b i k).length := by rw [swapL_length, swapL_length]; exact h17
 have hsh51 := Shape.swap hsb hi hk
 replace hs49 := hs49.f3
 have hs52 := rowsE_shut h150 (Shape.len hsh51) hs49; clear hs49
 replace hs52 := hs52.f1
 replace hs52 := hs52.f2
 exact hs52
theorem clear_s {W0 w : World} {L : List Asn} {f : HF} {p n c d ca cb : Nat} {aa ab : Option Addr} {a b : LL} (hp : PR f p [.slice aa n ca, .slice ab n cb]) (hsa : Shape a n c) (hsb : Shape b n d) (at' col : Nat) (hat : at' < n) (hcol : col < c) (hn : n ≤ 64) (hcn : c ≤ 64) (hdn : d ≤ 64) (hs : Sep W0 w (pool f :: rowsE (.slice aa n ca) n a :: rowsE (.slice ab n cb) n b :: L)) :
 Calls Tryz.prog 333 [ptr p, .int .i64 at', .int .i64 col].toArray w (Ret fun r w' => Sep W0 w' (pool f :: rowsE (.slice aa n ca) n (clrF at' col (a, b) n).1 :: rowsE (.slice ab n cb) n (clrF at' col (a, b) n).2 :: L)) := by
 refine enter (args := [(ptr p), (I (at' : Int)), (I (col : Int))]) (n := 100) (rs := []) func333 rfl rfl rfl rfl ?_
 have hla := hsa.len; have hlb := hsb.len
 replace hs := hs.f1
 obtain ⟨vs1, h12, h23, hs4⟩ := rowsE_open hs; clear hs
 have hv5 : vs1.length = n := by omega
 replace hs4 := hs4.f3
 obtain ⟨vs6, h17, h28, hs9⟩ := rowsE_open hs4; clear hs4
 have hv10 : vs6.length = n := by omega
 replace hs9 := hs9.f4
 refine rSeq (rReg (oV (xMove rfl) rfl (oV (xNil rfl) rfl (oV (xFA (j' := 0) underlying446 rfl sizeOf22 rfl rfl) rfl (oV (xLoadC isAgg22 rfl (PR.cell hp hs9 (i := 0) rfl rfl)) rfl (oV (xMove rfl) rfl ?_))))))
 obtain ⟨b11, rfl⟩ := Sep.ownAddr (i := 3) hs9 rfl (by omega)
 refine oV (xIA (o' := at') underlying22 sizeOf26 rfl rfl (by omega) (by omega) (by omega)) rfl ?_
 obtain ⟨a13, cp14, hv15⟩ := rows_head (i := at') hs9 (p := 4) rfl h12 (by omega)
 have hl16 := Shape.at (i := at') hsa (by omega)
 refine oV (xLoadC isAgg26 rfl (Sep.ownCell hs9 (i := 3) rfl ((getV (by first | omega | (simp only [List.length_append, List.length_set, List.length_cons, List.length_nil, List.length_map, List.length_replicate, mixd_length]; omega))).trans (congrArg some hv15)))) rfl (oV (xMove rfl) rfl ?_)
 obtain ⟨b17, rfl⟩ := rows_addr (i := at') hs9 (p := 4) rfl h12 (by omega) hv15 (by omega)
 refine oV (xIA (o' := col) underlying26 sizeOf5 rfl rfl (by omega) (by omega) (by omega)) rfl (oV (xLoadC isAgg5 rfl (rows_cell2 (i := at') hs9 (p := 4) rfl h12 (by omega) hv15 (by omega))) rfl (oCall call187 rfl rfl (ginv_s ((a.getD at' []).getD col 0) hs9) ?_))
 rintro _ w19 ⟨rfl, hs20⟩; clear hs9
 refine oV (xMove rfl) rfl (oV (xExtract rfl rfl) rfl (oV (xExtract rfl rfl) rfl (oV (xAssign rfl) rfl (oV (xAssign rfl) rfl (oEnd (kSeq (rSeq (rReg (oV (xMove rfl) rfl (oV (xNil rfl) rfl (oV (xFA (j' := 0) underlying446 rfl sizeOf22 rfl rfl) rfl (oV (xLoadC isAgg22 rfl (PR.cell hp hs20 (i := 0) rfl rfl)) rfl (oV (xMove rfl) rfl (oV (xIA (o' := at') underlying22 sizeOf26 rfl rfl (by omega) (by omega) (by omega)) rfl ?_))))))))))))))
 obtain ⟨a21, cp22, hv23⟩ := rows_head (i := at') hs20 (p := 4) rfl h12 (by omega)
 have hl24 := Shape.at (i := at') hsa (by omega)
 refine oV (xLoadC isAgg26 rfl (Sep.ownCell hs20 (i := 3) rfl ((getV (by first | omega | (simp only [List.length_append, List.length_set, List.length_cons, List.length_nil, List.length_map, List.length_replicate, mixd_length]; omega))).trans (congrArg some hv23)))) rfl (oV (xMove rfl) rfl ?_)
 replace hs20 := hs20.f4
 obtain ⟨N25, hs26, hcl27⟩ := rows_takeV (i := at') h12 (by omega) hv23 hs20; clear hs20
 refine oCall call362 rfl rfl (scale_s (ginv ((a.getD at' []).getD col 0)) (by omega) hs26) ?_
 intro r28 w29 hs30; clear hs26; have hs31 := hcl27 _ _ _ (gScale_length _ _) hs30; clear hs30
 have h132 : vs1.length = (a.set at' (gScale (ginv ((a.getD at' []).getD col 0)) (a.getD at' []))).length := by rw [List.length_set]; exact h12
 have hsh33 := Shape.set (i := at') (l := (gScale (ginv ((a.getD at' []).getD col 0)) (a.getD at' []))) hsa (by rw [gScale_length]; exact Shape.at hsa (by omega))
 refine oEnd (kSeq (rSeq (rReg (oV (xMove rfl) rfl (oV (xNil rfl) rfl (oV (xFA (j' := 1) underlying446 rfl sizeOf22 rfl rfl) rfl (oV (xLoadC isAgg22 rfl (PR.cell hp hs31 (i := 1) rfl rfl)) rfl (oV (xMove rfl) rfl ?_))))))))
 obtain ⟨b34, rfl⟩ := Sep.ownAddr (i := 2) hs31 rfl (by omega)
 refine oV (xIA (o' := at') underlying22 sizeOf26 rfl rfl (by omega) (by omega) (by omega)) rfl ?_
 obtain ⟨a36, cp37, hv38⟩ := rows_head (i := at') hs31 (p := 3) rfl h17 (by omega)
 have hl39 := Shape.at (i := at') hsb (by omega)
 refine oV (xLoadC isAgg26 rfl (Sep.ownCell hs31 (i := 2) rfl ((getV (by first | omega | (simp only [List.length_append, List.length_set, List.length_cons, List.length_nil, List.length_map, List.length_replicate, mixd_length]; omega))).trans (congrArg some hv38)))) rfl (oV (xMove rfl) rfl ?_)
 replace hs31 := hs31.f3
 obtain ⟨N40, hs41, hcl42⟩ := rows_takeV (i := at') h17 (by omega) hv38 hs31; clear hs31
 refine oCall call362 rfl rfl (scale_s (ginv ((a.getD at' []).getD col 0)) (by omega) hs41) ?_
 intro r43 w44 hs45; clear hs41; have hs46 := hcl42 _ _ _ (gScale_length _ _) hs45; clear hs45
 have h147 : vs6.length = (b.set at' (gScale (ginv ((a.getD at' []).getD col 0)) (b.getD at' []))).length := by rw [List.length_set]; exact h17
 have hsh48 := Shape.set (i := at') (l := (gScale (ginv ((a.getD at' []).getD col 0)) (b.getD at' []))) hsb (by rw [gScale_length]; exact Shape.at hsb (by omega))
 refine oEnd (kSeq (rSeq (rReg (oV (xMove rfl) rfl (oV (xNil rfl) rfl (oV (xFA (j' := 0) underlying446 rfl sizeOf22 rfl rfl) rfl (oV (xLoadC isAgg22 rfl (PR.cell hp hs46 (i := 2) rfl rfl)) rfl (oV (xB1 rfl (rLenS underlying22)) rfl (oV (xMove rfl) rfl (oEnd (kSeq (rBlk ?_))))))))))))
 have hva : vs1.length = n := by omega
 have hvb : vs6.length = n := by omega
 refine rLoop (fun mz e w => ∃ (i : Nat), n - i = mz ∧ e = [(0, (ptr p)), (1, (I (at' : Int))), (2, (I (col : Int))), (46, (I (n : Int))), (47, (I (i : Int)))] ∧ (i ≤ n) ∧ Sep W0 w (sepL (rowCh vs6 ((clrF at' col (a, b) i).2)) :: sepL (rowCh vs1 ((clrF at' col (a, b) i).1)) :: pool f :: own 26 1 (.slice (some ⟨b34, 0, none⟩) n cb) n vs6 :: own 26 1 (.slice (some ⟨b11, 0, none⟩) n ca) n vs1 :: L)) ⟨_, _, ⟨0, rfl, rfl, (by omega), hs46⟩, ⟨rfl, rfl, rfl, rfl, rfl, trivial⟩⟩ ?_
 clear hs46; rintro mz e w ⟨i, rfl, rfl, hi, hs⟩
 have hsF := clrF_shape (at' := at') (col := col) (i := i) (show Shp (a, b) n c d from ⟨hsa, hsb⟩) hat hi
 have hFa := hsF.1; have hFb := hsF.2; have hla := hFa.len; have hlb := hFb.len
 have h1a : vs1.length = (clrF at' col (a, b) i).1.length := by omega
 have h1b : vs6.length = (clrF at' col (a, b) i).2.length := by omega
 refine rSeq (rReg (oV (xCmp rfl rfl rLss) rfl (oEnd (kSeq (rSeq ?_)))))
 refine rCondD rfl (fun hc49 => ?_) (fun hc49 => ?_)
 · refine rSkip (kSeq (rSeq (rBlk (rSeq (rReg (oV (xMove rfl) rfl (oV (xAssign rfl) rfl (oEnd (kSeq (rSeq (rReg (oV (xMove rfl) rfl (oV (xNil rfl) rfl (oV (xFA (j' := 0) underlying446 rfl sizeOf22 rfl rfl) rfl (oV (xLoadC isAgg22 rfl (PR.cell hp hs (i := 2) rfl rfl)) rfl (oV (xMove rfl) rfl (oV (xIA (o' := i) underlying22 sizeOf26 rfl rfl (by omega) (by omega) (by omega)) rfl ?_)))))))))))))))))
   obtain ⟨a50, cp51, hv52⟩ := rows_head (i := i) hs (p := 1) rfl h1a (by omega)
   have hl53 := Shape.at (i := i) hFa (by omega)
   refine oV (xLoadC isAgg26 rfl (Sep.ownCell hs (i := 4) rfl ((getV (by first | omega | (simp only [List.length_append, List.length_set, List.length_cons, List.length_nil, List.length_map, List.length_replicate, mixd_length]; omega))).trans (congrArg some hv52)))) rfl (oV (xMove rfl) rfl ?_)
   obtain ⟨b54, rfl⟩ := rows_addr (i := i) hs (p := 1) rfl h1a (by omega) hv52 (by omega)
   refine oV (xIA (o' := col) underlying26 sizeOf5 rfl rfl (by omega) (by omega) (by omega)) rfl (oV (xLoadC isAgg5 rfl (rows_cell2 (i := i) hs (p := 1) rfl h1a (by omega) hv52 (by omega))) rfl (oV (xAssign rfl) rfl (oEnd (kSeq (rSeq (rReg (oV (xMove rfl) rfl (oV (xMove rfl) rfl (oV (xCmp rfl rfl rNeq) rfl (oV (xMove rfl) rfl ?_))))))))))
   refine oCase (d := 63) rfl (fun hg56 => ?_) (fun hg56 => ?_)
   · replace hg56 := of_decide_eq_true hg56
     refine oGuardT rfl rfl (oV (xMove rfl) rfl (oGuardT rfl rfl (oV (xCmp rfl rfl rNeq) rfl (oV (xPickT rfl rfl) rfl (oEnd (kSeq ?_))))))
     refine rCondD rfl (fun hc57 => ?_) (fun hc57 => ?_)
     · refine rSeq ?_
       refine rRegG [(none, fun w => ∃ M, Sep W0 w (own 26 1 (.slice (some ⟨b11, 0, none⟩) n ca) n vs1 :: M)), (none, fun w => ∃ M, Sep W0 w (pool f :: M))] (by kernel_rfl) hs (fun w58 hs59 => ⟨?_, fun hS => ?_⟩)
       · exact ⟨⟨_, (Sep.front (i := 4) rfl hs59)⟩, ⟨_, (Sep.front (i := 2) rfl hs59)⟩, trivial⟩
       clear hs
       refine gTake0 0 rfl (by kernel_rfl) hS (fun w => xMove rfl) rfl ?_
       clear hS; intro hS
       refine gTake0 1 rfl (by kernel_rfl) hS (fun w => xNil rfl) rfl ?_
       clear hS; intro hS
       refine gTake0 2 rfl (by kernel_rfl) hS (fun w => xFA (j' := 0) underlying446 rfl sizeOf22 rfl rfl) rfl ?_
       clear hS; intro hS
       refine gTake 3 1 rfl (by kernel_rfl) rfl (by kernel_rfl) hS (fun w hq0 => by obtain ⟨M, hq⟩ := hq0; exact xLoadC isAgg22 rfl (PR.cell hp hq (i := 0) rfl rfl)) rfl ?_
       clear hS; intro hS
       refine gTake0 4 rfl (by kernel_rfl) hS (fun w => xMove rfl) rfl ?_
       clear hS; intro hS
       refine gTake0 5 rfl (by kernel_rfl) hS (fun w => xIA (o' := i) underlying22 sizeOf26 rfl rfl (by omega) (by omega) (by omega)) rfl ?_
       clear hS; intro hS
       obtain ⟨a60, cp61, hv62⟩ := rows_head (i := i) hs59 (p := 1) rfl h1a (by omega)
       have hl63 := Shape.at (i := i) hFa (by omega)
       refine gTake 6 0 rfl (by kernel_rfl) rfl (by kernel_rfl) hS (fun w hq0 => by obtain ⟨M, hq⟩ := hq0; exact xLoadC isAgg26 rfl (Sep.ownCell hq (i := 0) rfl ((getV (by first | omega | (simp only [List.length_append, List.length_set, List.length_cons, List.length_nil, List.length_map, List.length_replicate, mixd_length]; omega))).trans (congrArg some hv62)))) rfl ?_
       clear hS; intro hS
       refine gTake0 7 rfl (by kernel_rfl) hS (fun w => xMove rfl) rfl ?_
       clear hS; intro hS
       refine gTake0 8 rfl (by kernel_rfl) hS (fun w => xNil rfl) rfl ?_
       clear hS; intro hS
       refine gTake0 9 rfl (by kernel_rfl) hS (fun w => xFA (j' := 0) underlying446 rfl sizeOf22 rfl rfl) rfl ?_
       clear hS; intro hS
       refine gTake 10 1 rfl (by kernel_rfl) rfl (by kernel_rfl) hS (fun w hq0 => by obtain ⟨M, hq⟩ := hq0; exact xLoadC isAgg22 rfl (PR.cell hp hq (i := 0) rfl rfl)) rfl ?_
       clear hS; intro hS
       refine gTake0 11 rfl (by kernel_rfl) hS (fun w => xMove rfl) rfl ?_
       clear hS; intro hS
       refine gTake0 12 rfl (by kernel_rfl) hS (fun w => xIA (o' := at') underlying22 sizeOf26 rfl rfl (by omega) (by omega) (by omega)) rfl ?_
       clear hS; intro hS
       obtain ⟨a64, cp65, hv66⟩ := rows_head (i := at') hs59 (p := 1) rfl h1a (by omega)
       have hl67 := Shape.at (i := at') hFa (by omega)
       refine gTake 13 0 rfl (by kernel_rfl) rfl (by kernel_rfl) hS (fun w hq0 => by obtain ⟨M, hq⟩ := hq0; exact xLoadC isAgg26 rfl (Sep.ownCell hq (i := 0) rfl ((getV (by first | omega | (simp only [List.length_append, List.length_set, List.length_cons, List.length_nil, List.length_map, List.length_replicate, mixd_length]; omega))).trans (congrArg some hv66)))) rfl ?_
       clear hS; intro hS
       refine gTake0 14 rfl (by kernel_rfl) hS (fun w => xMove rfl) rfl ?_
       clear hS; intro hS
       refine gEff 15 (by kernel_rfl) rfl ?_
       replace hs59 := hs59.f1
       obtain ⟨N68, hs69, hcl70⟩ := rows_take2V (i := i) (j := at') h1a (by omega) (by omega) (by omega) hv62 hv66 hs59; clear hs59
       refine oCall call363 rfl rfl (add_s ((((clrF at' col (a, b) i).1).getD i []).getD col 0) (by omega) (by omega) (by omega) hs69) ?_
       intro r71 w72 hs73; clear hs69; have hs74 := hcl70 _ _ _ (gAddR_length (by omega)) hs73; clear hs73
       have h175 : vs1.length = (((clrF at' col (a, b) i).1).set i (gAddR ((((clrF at' col (a, b) i).1).getD i []).getD col 0) (((clrF at' col (a, b) i).1).getD i []) (((clrF at' col (a, b) i).1).getD at' []))).length := by rw [List.length_set]; exact h1a
       have hsh76 := Shape.set (i := i) (l := (gAddR ((((clrF at' col (a, b) i).1).getD i []).getD col 0) (((clrF at' col (a, b) i).1).getD i []) (((clrF at' col (a, b) i).1).getD at' []))) hFa (by rw [gAddR_length (by omega)]; exact Shape.at hFa (by omega))
       refine oEnd (kG ⟨⟨_, (Sep.front (i := 4) rfl hs74)⟩, ⟨_, (Sep.front (i := 2) rfl hs74)⟩, trivial⟩ ?_)
       clear hS; intro hS
       refine gEnd (by kernel_rfl) ?_
       clear hS
       refine kSeq ?_
       refine Run.sub (e' := [(0, (ptr p)), (1, (I (at' : Int))), (2, (I (col : Int))), (46, (I (n : Int))), (47, (I (i : Int))), (8, (I (i : Int))), (9, (.int .u8 (((((clrF at' col (a, b) i).1).getD i []).getD col 0).toNat : Int)))]) ⟨rfl, rfl, rfl, rfl, rfl, rfl, rfl, trivial⟩ ?_
       refine rRegG [(none, fun w => ∃ M, Sep W0 w (own 26 1 (.slice (some ⟨b34, 0, none⟩) n cb) n vs6 :: M)), (none, fun w => ∃ M, Sep W0 w (pool f :: M))] (by kernel_rfl) hs74 (fun w77 hs78 => ⟨?_, fun hS => ?_⟩)
       · exact ⟨⟨_, (Sep.front (i := 3) rfl hs78)⟩, ⟨_, (Sep.front (i := 2) rfl hs78)⟩, trivial⟩
       clear hs74
       refine gTake0 0 rfl (by kernel_rfl) hS (fun w => xMove rfl) rfl ?_
       clear hS; intro hS
       refine gTake0 1 rfl (by kernel_rfl) hS (fun w => xNil rfl) rfl ?_
       clear hS; intro hS
       refine gTake0 2 rfl (by kernel_rfl) hS (fun w => xFA (j' := 1) underlying446 rfl sizeOf22 rfl rfl) rfl ?_
       clear hS; intro hS
       refine gTake 3 1 rfl (by kernel_rfl) rfl (by kernel_rfl) hS (fun w hq0 => by obtain ⟨M, hq⟩ := hq0; exact xLoadC isAgg22 rfl (PR.cell hp hq (i := 0) rfl rfl)) rfl ?_
       clear hS; intro hS
       refine gTake0 4 rfl (by kernel_rfl) hS (fun w => xMove rfl) rfl ?_
       clear hS; intro hS
       refine gTake0 5 rfl (by kernel_rfl) hS (fun w => xIA (o' := i) underlying22 sizeOf26 rfl rfl (by omega) (by omega) (by omega)) rfl ?_
       clear hS; intro hS
       obtain ⟨a79, cp80, hv81⟩ := rows_head (i := i) hs78 (p := 1) rfl h1b (by omega)
       have hl82 := Shape.at (i := i) hFb (by omega)
       refine gTake 6 0 rfl (by kernel_rfl) rfl (by kernel_rfl) hS (fun w hq0 => by obtain ⟨M, hq⟩ := hq0; exact xLoadC isAgg26 rfl (Sep.ownCell hq (i := 0) rfl ((getV (by first | omega | (simp only [List.length_append, List.length_set, List.length_cons, List.length_nil, List.length_map, List.length_replicate, mixd_length]; omega))).trans (congrArg some hv81)))) rfl ?_
       clear hS; intro hS
       refine gTake0 7 rfl (by kernel_rfl) hS (fun w => xMove rfl) rfl ?_
       clear hS; intro hS
       refine gTake0 8 rfl (by kernel_rfl) hS (fun w => xNil rfl) rfl ?_
       clear hS; intro hS
       refine gTake0 9 rfl (by kernel_rfl) hS (fun w => xFA (j' := 1) underlying446 rfl sizeOf22 rfl rfl) rfl ?_
       clear hS; intro hS
       refine gTake 10 1 rfl (by kernel_rfl) rfl (by kernel_rfl) hS (fun w hq0 => by obtain ⟨M, hq⟩ := hq0; exact xLoadC isAgg22 rfl (PR.cell hp hq (i := 0) rfl rfl)) rfl ?_
       clear hS; intro hS
       refine gTake0 11 rfl (by kernel_rfl) hS (fun w => xMove rfl) rfl ?_
       clear hS; intro hS
       refine gTake0 12 rfl (by kernel_rfl) hS (fun w => xIA (o' := at') underlying22 sizeOf26 rfl rfl (by omega) (by omega) (by omega)) rfl ?_
       clear hS; intro hS
       obtain ⟨a83, cp84, hv85⟩ := rows_head (i := at') hs78 (p := 1) rfl h1b (by omega)
       have hl86 := Shape.at (i := at') hFb (by omega)
       refine gTake 13 0 rfl (by kernel_rfl) rfl (by kernel_rfl) hS (fun w hq0 => by obtain ⟨M, hq⟩ := hq0; exact xLoadC isAgg26 rfl (Sep.ownCell hq (i := 0) rfl ((getV (by first | omega | (simp only [List.length_append, List.length_set, List.length_cons, List.length_nil, List.length_map, List.length_replicate, mixd_length]; omega))).trans (congrArg some hv85)))) rfl ?_
       clear hS; intro hS
       refine gTake0 14 rfl (by kernel_rfl) hS (fun w => xMove rfl) rfl ?_
       clear hS; intro hS
       refine gEff 15 (by kernel_rfl) rfl ?_
       replace hs78 := hs78.f1
       obtain ⟨N87, hs88, hcl89⟩ := rows_take2V (i := i) (j := at') h1b (by omega) (by omega) (by omega) hv81 hv85 hs78; clear hs78
       refine oCall call363 rfl rfl (add_s ((((clrF at' col (a, b) i).1).getD i []).getD col 0) (by omega) (by omega) (by omega) hs88) ?_
       intro r90 w91 hs92; clear hs88; have hs93 := hcl89 _ _ _ (gAddR_length (by omega)) hs92; clear hs92
       have h194 : vs6.length = (((clrF at' col (a, b) i).2).set i (gAddR ((((clrF at' col (a, b) i).1).getD i []).getD col 0) (((clrF at' col (a, b) i).2).getD i []) (((clrF at' col (a, b) i).2).getD at' []))).length := by rw [List.length_set]; exact h1b
       have hsh95 := Shape.set (i := i) (l := (gAddR ((((clrF at' col (a, b) i).1).getD i []).getD col 0) (((clrF at' col (a, b) i).2).getD i []) (((clrF at' col (a, b) i).2).getD at' []))) hFb (by rw [gAddR_length (by omega)]; exact Shape.at hFb (by omega))
       refine oEnd (kG ⟨⟨_, (Sep.front (i := 3) rfl hs93)⟩, ⟨_, (Sep.front (i := 2) rfl hs93)⟩, trivial⟩ ?_)
       clear hS; intro hS
       refine gEnd (by kernel_rfl) ?_
       clear hS
       refine kBlk (kSeq ?_)
       refine rReg (oV (xAr rfl rfl (rAdd (wI (by omega) (by omega)))) rfl (oV (xMove rfl) rfl ?_))
       have eF : clrF at' col (a, b) (i + 1) = ((((clrF at' col (a, b) i).1).set i (gAddR ((((clrF at' col (a, b) i).1).getD i []).getD col 0) (((clrF at' col (a, b) i).1).getD i []) (((clrF at' col (a, b) i).1).getD at' []))), (((clrF at' col (a, b) i).2).set i (gAddR ((((clrF at' col (a, b) i).1).getD i []).getD col 0) (((clrF at' col (a, b) i).2).getD i []) (((clrF at' col (a, b) i).2).getD at' [])))) := by
         show clr1 at' col i (clrF at' col (a, b) i) = _
         unfold clr1
         rw [if_pos (by omega)]
       exact oEnd (kLoop (n - (i + 1)) _ (by omega) ⟨i + 1, rfl, rfl, (by omega), by rw [eF]; exact hs93⟩ ⟨rfl, rfl, rfl, rfl, rfl, trivial⟩)
     · refine rSkip (kBlk (kSeq (rReg (oV (xAr rfl rfl (rAdd (wI (by omega) (by omega)))) rfl (oV (xMove rfl) rfl ?_)))))
       have eF : clrF at' col (a, b) (i + 1) = (clrF at' col (a, b) i) := by
         show clr1 at' col i (clrF at' col (a, b) i) = _
         unfold clr1
         rw [if_neg (by omega)]
       exact oEnd (kLoop (n - (i + 1)) _ (by omega) ⟨i + 1, rfl, rfl, (by omega), by rw [eF]; exact hs⟩ ⟨rfl, rfl, rfl, rfl, rfl, trivial⟩)
   · replace hg56 := of_decide_eq_false hg56
     refine oGuardF rfl rfl rfl rfl (oGuardF rfl rfl rfl rfl (oV (xPickF rfl rfl) rfl (oEnd (kSeq (rCondF rfl (rSkip (kBlk (kSeq (rReg (oV (xAr rfl rfl (rAdd (wI (by omega) (by omega)))) rfl (oV (xMove rfl) rfl ?_)))))))))))
     have eF : clrF at' col (a, b) (i + 1) = (clrF at' col (a, b) i) := by
       show clr1 at' col i (clrF at' col (a, b) i) = _
       unfold clr1
       rw [if_neg (by omega)]
     exact oEnd (kLoop (n - (i + 1)) _ (by omega) ⟨i + 1, rfl, rfl, (by omega), by rw [eF]; exact hs⟩ ⟨rfl, rfl, rfl, rfl, rfl, trivial⟩)
 · refine rExit (kSeqX (kLoopX (kBlkH (kFinN (.nil) ?_))))
   obtain rfl : i = n := by omega
   replace hs := hs.f1
   replace hs := hs.f4
   have hs96 := rowsE_shut h1a (Shape.len hFa) hs; clear hs
   replace hs96 := hs96.f1
   replace hs96 := hs96.f3
   have hs97 := rowsE_shut h1b (Shape.len hFb) hs96; clear hs96
   replace hs97 := hs97.f1
   replace hs97 := hs97.f2
   exact hs97
theorem pivI_some {o : Option Nat} (h : ¬ pivI o < 0) : ∃ k, o = some k := by
 cases o with
 | none => exact absurd (by decide) h
 | some k => exact ⟨k, rfl⟩
theorem pivI_none {o : Option Nat} (h : pivI o < 0) : o = none := by
 cases o with
 | none => rfl
 | some k => simp only [pivI] at h; omega
def Ints (l : List Nat) : List Value := l.map (fun k : Nat => Value.int .i64 (k : Int))
theorem Ints_snoc (l : List Nat) (k : Nat) : Ints l ++ [I (k : Int)] = Ints (l ++ [k]) := by simp [Ints]
theorem steps_s {W0 w : World} {L : List Asn} {f : HF} {p n c d ca cb : Nat} {aa ab : Option Addr} {a b : LL} (hp : PR f p [.slice aa n ca, .slice ab n cb]) (hsa : Shape a n c) (hsb : Shape b n d) (h0 : 1 ≤ n) (hc0 : 1 ≤ c) (hn : n ≤ 64) (hcn : c ≤ 64) (hdn : d ≤ 64) (hs : Sep W0 w (pool f :: rowsE (.slice aa n ca) n a :: rowsE (.slice ab n cb) n b :: L)) :
 Calls Tryz.prog 265 [ptr p].toArray w (Ret fun r w' => ∃ a' k', r = .slice a' (stepsF n c 0 (a, b) []).2.length k' ∧ Sep W0 w' (pool f :: rowsE (.slice aa n ca) n (stepsF n c 0 (a, b) []).1.1 :: rowsE (.slice ab n cb) n (stepsF n c 0 (a, b) []).1.2 :: L)) := by
 refine enter (args := [(ptr p)]) (n := 53) (rs := [.tmp 2]) func265 rfl rfl rfl rfl ?_
 refine rSeq (rReg (oV (xAssign rfl) rfl (oEnd (kSeq (rSeq (rReg (oV (xAssign rfl) rfl (oEnd (kSeq (rSeq (rSeq (rReg (oV (xMove rfl) rfl (oV (xNil rfl) rfl (oV (xFA (j' := 0) underlying446 rfl sizeOf22 rfl rfl) rfl (oV (xLoadC isAgg22 rfl (PR.cell hp hs (i := 0) rfl rfl)) rfl (oV (xB1 rfl (rLenS underlying22)) rfl (oV (xCmp rfl rfl rEql) rfl (oEnd (kSeq ?_))))))))))))))))))))
 refine rCondD rfl (fun hc1 => ?_) (fun hc1 => ?_)
 · refine rSeq (rReg (oV (xAssign rfl) rfl (oEnd (kSeq (rRet (kSeqR (kFin (.tmp rfl (.nil)) ?_)))))))
   replace hs := hs.f2
   replace hs := hs.f2
   replace hs := hs.f2
   exfalso; omega
 · refine rSkip (kSeq (rSeq (rSeq (rReg ?_))))
   have hla := hsa.len
   replace hs := hs.f1
   obtain ⟨vs2, h13, h24, hs5⟩ := rowsE_open hs; clear hs
   have hv6 : vs2.length = n := by omega
   replace hs5 := hs5.f2
   refine oV (xMove rfl) rfl (oV (xNil rfl) rfl (oV (xFA (j' := 0) underlying446 rfl sizeOf22 rfl rfl) rfl (oV (xLoadC isAgg22 rfl (PR.cell hp hs5 (i := 0) rfl rfl)) rfl ?_)))
   obtain ⟨b7, rfl⟩ := Sep.ownAddr (i := 1) hs5 rfl (by omega)
   refine oV (xIA (o' := 0) underlying22 sizeOf26 rfl rfl (by omega) (by omega) (rfl)) rfl ?_
   obtain ⟨a9, cp10, hv11⟩ := rows_head (i := 0) hs5 (p := 2) rfl h13 (by omega)
   have hl12 := Shape.at (i := 0) hsa (by omega)
   refine oV (xLoadC isAgg26 rfl (Sep.ownCell hs5 (i := 1) rfl ((getV (by first | omega | (simp only [List.length_append, List.length_set, List.length_cons, List.length_nil, List.length_map, List.length_replicate, mixd_length]; omega))).trans (congrArg some hv11)))) rfl (oV (xB1 rfl (rLenS underlying26)) rfl ?_)
   replace hs5 := hs5.f2
   replace hs5 := hs5.f2
   have hs13 := rowsE_shut h13 (Shape.len hsa) hs5; clear hs5
   replace hs13 := hs13.f2
   replace hs13 := hs13.f1
   replace hs13 := hs13.f2
   refine oV (xMove rfl) rfl (oEnd (kSeq (rBlk ?_)))
   replace hs13 := Sep.nil 3 1 hs13
   refine rLoop (fun mz e w => ∃ (i : Nat) (q : LL × LL) (cols : List Nat) (ac : Option Addr) (cpc : Nat), c - i = mz ∧ e = [(0, (ptr p)), (3, (.slice ac cols.length cpc)), (19, (I (c : Int))), (20, (I (i : Int)))] ∧ (i ≤ c) ∧ (cols.length < n) ∧ (Shp q n c d) ∧ (stepsF n c 0 (a, b) [] = stepsF n (c - i) i q cols) ∧ Sep W0 w (own 3 1 (.slice ac cols.length cpc) cols.length (Ints cols) :: pool f :: rowsE (.slice (some ⟨b7, 0, none⟩) n ca) n q.1 :: rowsE (.slice ab n cb) n q.2 :: L)) ⟨_, _, ⟨0, (a, b), [], _, _, rfl, rfl, (by omega), (by simp only [List.length_nil]; omega), (⟨hsa, hsb⟩), (rfl), hs13⟩, ⟨rfl, rfl, vI (by omega), rfl, trivial⟩⟩ ?_
   clear hs13; rintro mz e w ⟨i, q, cols, ac, cpc, rfl, rfl, hi, hcl, hsq, hst, hs⟩
   refine rSeq (rReg (oV (xCmp rfl rfl rLss) rfl (oEnd (kSeq (rSeq ?_)))))
   refine rCondD rfl (fun hc14 => ?_) (fun hc14 => ?_)
   · refine rSkip (kSeq (rSeq (rBlk (rSeq (rReg (oV (xMove rfl) rfl (oV (xAssign rfl) rfl (oEnd (kSeq (rSeq (rReg (oV (xMove rfl) rfl (oV (xB1 rfl (rLenS underlying52)) rfl (oV (xAssign rfl) rfl (oEnd (kSeq (rSeq (rReg (oV (xMove rfl) rfl (oV (xMove rfl) rfl (oV (xMove rfl) rfl ?_)))))))))))))))))))))
     replace hs := hs.f2
     replace hs := hs.f2
     refine oCall call331 rfl rfl (pivot_s (col := i) (fr := cols.length) hp hsq.1 (by omega) (by omega) (by omega) (by omega) hs) ?_
     rintro _ w15 ⟨rfl, hs16⟩; clear hs
     refine oV (xAssign rfl) rfl (oEnd (kSeq (rSeq (rSeq (rReg (oV (xMove rfl) rfl (oV (xCmp rfl rfl rLss) rfl (oEnd (kSeq ?_)))))))))
     refine rCondD rfl (fun hc17 => ?_) (fun hc17 => ?_)
     · have hk := pivI_none hc17
       refine rExit (kSeqX (kBlkH (kSeq (rReg (oV (xAr rfl rfl (rAdd (wI (by omega) (by omega)))) rfl (oV (xMove rfl) rfl ?_))))))
       replace hs16 := hs16.f3
       replace hs16 := hs16.f2
       replace hs16 := hs16.f2
       replace hs16 := hs16.f3
       have eS : stepsF n (c - i) i q cols = stepsF n (c - (i + 1)) (i + 1) q cols := by
         rw [show c - i = (c - (i + 1)) + 1 by omega]; simp only [stepsF]; rw [hk]
       exact oEnd (kLoop (c - (i + 1)) _ (by omega) ⟨i + 1, q, cols, _, _, rfl, rfl, (by omega), (hcl), (hsq), (hst.trans eS), hs16⟩ ⟨rfl, rfl, rfl, rfl, trivial⟩)
     · obtain ⟨k, hk⟩ := pivI_some hc17
       rw [hk]; have hkl := pivF_le hk
       refine rSkip (kSeq (rSeq (rReg (oV (xMove rfl) rfl (oV (xMove rfl) rfl (oV (xMove rfl) rfl ?_))))))
       replace hs16 := hs16.f3
       replace hs16 := hs16.f2
       replace hs16 := hs16.f2
       refine oCall call332 rfl rfl (swap_s hp hsq.1 hsq.2 cols.length k (by omega) (by omega) (by omega) hs16) ?_
       intro r18 w19 hs20; clear hs16
       have hsw21 : Shp (swp cols.length k q) n c d := swp_shape ⟨hsq.1, hsq.2⟩ (by omega) (by omega)
       have hs22 : Sep W0 _ (pool f :: rowsE (.slice (some ⟨b7, 0, none⟩) n ca) n ((swp cols.length k q).1) :: rowsE (.slice ab n cb) n ((swp cols.length k q).2) :: own 3 1 (.slice ac cols.length cpc) cols.length (Ints cols) :: L) := hs20; clear hs20
       refine oEnd (kSeq (rSeq (rReg (oV (xMove rfl) rfl (oV (xMove rfl) rfl (oV (xMove rfl) rfl ?_))))))
       replace hs22 := hs22.f2
       replace hs22 := hs22.f2
       replace hs22 := hs22.f2
       refine oCall call333 rfl rfl (clear_s hp hsw21.1 hsw21.2 cols.length i (by omega) (by omega) (by omega) (by omega) (by omega) hs22) ?_
       intro r23 w24 hs25; clear hs22
       have hsw26 : Shp (clrF cols.length i (swp cols.length k q) n) n c d := clrF_shape (show Shp (swp cols.length k q) n c d from ⟨hsw21.1, hsw21.2⟩) (by omega) (Nat.le_refl n)
       have hs27 : Sep W0 _ (pool f :: rowsE (.slice (some ⟨b7, 0, none⟩) n ca) n ((clrF cols.length i (swp cols.length k q) n).1) :: rowsE (.slice ab n cb) n ((clrF cols.length i (swp cols.length k q) n).2) :: own 3 1 (.slice ac cols.length cpc) cols.length (Ints cols) :: L) := hs25; clear hs25
       refine oEnd (kSeq (rSeq (rReg (oV (xMove rfl) rfl (oV (xMove rfl) rfl (oBuildSlice (el := 3) (cs := [(I (i : Int))]) hs27 rfl (fun w => by kernel_rfl) rfl ?_))))))
       intro b28 w29 hs30; clear hs27
       refine oAppend (inf := Tryz.t3) (size := 1) (bytes := 8) hs30 (i := 4) rfl underlying52 (by kernel_rfl) rfl rfl rfl rfl rfl rfl rfl (src_row hs30 (i := 0) rfl rfl rfl) (by first | omega | (simp only [List.length_append, List.length_cons, List.length_nil, List.length_map]; omega)) (by first | omega | (simp only [List.length_append, List.length_cons, List.length_nil, List.length_map]; omega)) rfl ?_
       intro a31 c32 w33 hs34; clear hs30; dsimp only [List.set] at hs34
       rw [Ints_snoc] at hs34
       refine oV (xAssign rfl) rfl (oEnd (kSeq (rSeq (rReg (oV (xMove rfl) rfl (oV (xB1 rfl (rLenS underlying52)) rfl (oV (xMove rfl) rfl (oV (xNil rfl) rfl (oV (xFA (j' := 0) underlying446 rfl sizeOf22 rfl rfl) rfl (oV (xLoadC isAgg22 rfl (PR.cell hp hs34 (i := 1) rfl rfl)) rfl (oV (xB1 rfl (rLenS underlying22)) rfl (oV (xCmp rfl rfl rEql) rfl (oEnd (kSeq ?_))))))))))))))
       refine rCondD rfl (fun hc35 => ?_) (fun hc35 => ?_)
       · refine rExit (kBlkX rfl (kSeqX (kLoopX (kBlkH (kSeq (rSeq (rReg (oV (xMove rfl) rfl (oV (xAssign rfl) rfl (oEnd (kSeq (rRet (kFin (.tmp rfl (.nil)) ?_)))))))))))))
         replace hs34 := hs34.f3
         replace hs34 := hs34.f3
         replace hs34 := hs34.f3
         have eS : stepsF n (c - i) i q cols = ((clrF cols.length i (swp cols.length k q) n), cols ++ [i]) := by
           rw [show c - i = (c - (i + 1)) + 1 by omega]; simp only [stepsF]; rw [hk]; simp only []; rw [if_pos (by omega)]
         rw [hst, eS]
         replace hs34 := hs34.d4
         replace hs34 := hs34.d3
         exact ⟨_, _, by rw [List.length_append]; rfl, hs34⟩
       · refine rSkip (kBlk (kSeq (rReg (oV (xAr rfl rfl (rAdd (wI (by omega) (by omega)))) rfl (oV (xMove rfl) rfl ?_)))))
         replace hs34 := hs34.d0
         replace hs34 := hs34.f2
         replace hs34 := hs34.f2
         replace hs34 := hs34.f2
         replace hs34 := hs34.f3
         have eS : stepsF n (c - i) i q cols = stepsF n (c - (i + 1)) (i + 1) (clrF cols.length i (swp cols.length k q) n) (cols ++ [i]) := by
           rw [show c - i = (c - (i + 1)) + 1 by omega]; simp only [stepsF]; rw [hk]; simp only []; rw [if_neg (by omega)]
         exact oEnd (kLoop (c - (i + 1)) _ (by omega) ⟨i + 1, (clrF cols.length i (swp cols.length k q) n), (cols ++ [i]), _, _, rfl, rfl, (by omega), (by rw [List.length_append, List.length_singleton]; omega), (hsw26), (hst.trans eS), by rw [List.length_append]; exact hs34⟩ ⟨rfl, by rw [List.length_append]; rfl, rfl, rfl, trivial⟩)
   · refine rExit (kSeqX (kLoopX (kBlkH (kSeq (rSeq (rReg (oV (xMove rfl) rfl (oV (xAssign rfl) rfl (oEnd (kSeq (rRet (kFin (.tmp rfl (.nil)) ?_))))))))))))
     replace hs := hs.f3
     replace hs := hs.f3
     replace hs := hs.f3
     obtain rfl : i = c := by omega
     rw [hst, Nat.sub_self]
     replace hs := hs.d3
     exact ⟨_, _, rfl, hs⟩
end Go.Sl
namespace Go.Sl
open Go.Proofs Go.Proofs.Tryz
theorem take_snoc {α : Type} (d : α) {l : List α} {i : Nat} (h : i < l.length) : l.take i ++ [l.getD i d] = l.take (i + 1) := by
 rw [List.take_add_one, List.getD_eq_getElem?_getD, List.getElem?_eq_getElem h]; rfl
theorem srows_s {W0 w : World} {L : List Asn} {f : HF} {p c : Nat} {ls : LL} (hm : MatP f p c ls) (h2 : 1 ≤ c) (h3 : ls.length ≤ 64) (h4 : c ≤ 64) (hs : Sep W0 w (pool f :: L)) :
 Calls Tryz.prog 330 [ptr p].toArray w (Ret fun r w' => ∃ a k, r = .slice a ls.length k ∧ Sep W0 w' (rowsE (.slice a ls.length k) ls.length ls :: pool f :: L)) := by
 refine enter (args := [(ptr p)]) (n := 24) (rs := [.tmp 2]) func330 rfl rfl rfl rfl ?_
 refine rSeq (rReg (oV (xAssign rfl) rfl (oEnd (kSeq (rSeq (rReg (oV (xAssign rfl) rfl (oEnd (kSeq (rSeq (rReg (oV (xMove rfl) rfl (oCall call191 rfl rfl (msize_s hm hs) ?_)))))))))))))
 rintro _ w1 ⟨rfl, hs2⟩; clear hs
 refine oV (xMove rfl) rfl (oV (xExtract rfl rfl) rfl (oV (xExtract rfl rfl) rfl (oV (xAssign rfl) rfl (oV (xAssign rfl) rfl (oEnd (kSeq (rSeq (rSeq (rReg (oV (xMove rfl) rfl (oV (xMove rfl) rfl (oEnd (kSeq (rBlk ?_))))))))))))))
 replace hs2 := Sep.nil 26 1 (rows_nil hs2)
 refine rLoop (fun mz e w => ∃ (i : Nat) (vs : List Value) (ao : Option Addr) (cpo : Nat), ls.length - i = mz ∧ e = [(0, (ptr p)), (3, (.slice ao i cpo)), (12, (I (ls.length : Int))), (13, (I (i : Int)))] ∧ (i ≤ ls.length) ∧ (vs.length = i) ∧ Sep W0 w (own 26 1 (.slice ao i cpo) i vs :: sepL (rowCh vs (ls.take i)) :: pool f :: L)) ⟨_, _, ⟨0, [], _, _, rfl, rfl, (by omega), (rfl), hs2⟩, ⟨rfl, rfl, rfl, rfl, trivial⟩⟩ ?_
 clear hs2; rintro mz e w ⟨i, vs, ao, cpo, rfl, rfl, hi, hvs, hs⟩
 refine rSeq (rReg (oV (xCmp rfl rfl rLss) rfl (oEnd (kSeq (rSeq ?_)))))
 refine rCondD rfl (fun hc3 => ?_) (fun hc3 => ?_)
 · refine rSkip (kSeq (rSeq (rBlk (rSeq (rReg (oV (xMove rfl) rfl (oV (xAssign rfl) rfl (oEnd (kSeq (rReg (oV (xMove rfl) rfl (oV (xMove rfl) rfl (oV (xMove rfl) rfl ?_)))))))))))))
   replace hs := hs.f2
   refine oCall call127 rfl rfl (mrow_s hm i (by omega) (by omega) (by omega) (by omega) hs) ?_
   intro v4 w5 hs6; clear hs; obtain ⟨a7, cp8, rfl, hs9⟩ := ownB_open hs6; clear hs6
   refine oBuildSlice (el := 26) (cs := [(.slice a7 ((ls.getD i []).length) cp8)]) hs9 rfl (fun w => by kernel_rfl) rfl ?_
   intro b10 w11 hs12; clear hs9
   refine oAppend (inf := Tryz.t26) (size := 1) (bytes := 24) hs12 (i := 3) rfl underlying22 (by kernel_rfl) rfl rfl rfl rfl rfl rfl rfl (src_row hs12 (i := 0) rfl rfl rfl) (by first | omega | (simp only [List.length_append, List.length_cons, List.length_nil, List.length_map]; omega)) (by first | omega | (simp only [List.length_append, List.length_cons, List.length_nil, List.length_map]; omega)) rfl ?_
   intro a13 c14 w15 hs16; clear hs12; dsimp only [List.set] at hs16
   refine oV (xAssign rfl) rfl (oEnd (kBlk (kSeq (rReg (oV (xAr rfl rfl (rAdd (wI (by omega) (by omega)))) rfl (oV (xMove rfl) rfl ?_))))))
   replace hs16 := hs16.f4
   replace hs16 := hs16.f2
   have hs17 := rows_snoc (by rw [List.length_take]; omega) (ownB_mk rfl hs16); clear hs16
   rw [take_snoc [] (by omega)] at hs17
   replace hs17 := hs17.d1
   replace hs17 := hs17.f1
   replace hs17 := hs17.f1
   replace hs17 := hs17.f2
   exact oEnd (kLoop (ls.length - (i + 1)) _ (by omega) ⟨i + 1, _, _, _, rfl, rfl, (by omega), (by rw [List.length_append, List.length_singleton]; omega), hs17⟩ ⟨rfl, rfl, rfl, rfl, trivial⟩)
 · refine rExit (kSeqX (kLoopX (kBlkH (kSeq (rSeq (rReg (oV (xMove rfl) rfl (oV (xAssign rfl) rfl (oEnd (kSeq (rRet (kFin (.tmp rfl (.nil)) ?_))))))))))))
   obtain rfl : i = ls.length := by omega
   rw [List.take_of_length_le (Nat.le_refl _)] at hs
   exact ⟨_, _, rfl, rowsE_shut (by omega) rfl hs⟩
theorem swith_s {W0 w : World} {L : List Asn} {f : HF} {p q c d : Nat} {la lb : LL} (hma : MatP f p c la) (hmb : MatP f q d lb) (h2 : 1 ≤ c) (h3 : la.length ≤ 64) (h4 : c ≤ 64) (h5 : 1 ≤ d) (h6 : lb.length ≤ 64) (h7 : d ≤ 64) (hs : Sep W0 w (pool f :: L)) :
 Calls Tryz.prog 264 [ptr p, ptr q].toArray w (Ret fun r w' => ∃ f' p aa ca ab cb, r = ptr p ∧ FLe f f' ∧ PR f' p [.slice aa la.length ca, .slice ab lb.length cb] ∧ Sep W0 w' (pool f' :: rowsE (.slice aa la.length ca) la.length la :: rowsE (.slice ab lb.length cb) lb.length lb :: L)) := by
 refine enter (args := [(ptr p), (ptr q)]) (n := 11) (rs := [.tmp 4]) func264 rfl rfl rfl rfl ?_
 refine rSeq (rReg (oV (xAssign rfl) rfl (oEnd (kSeq (rSeq (rReg (oV (xMove rfl) rfl (oCall call330 rfl rfl (srows_s hma (by omega) (by omega) (by omega) hs) ?_))))))))
 rintro _ w3 ⟨a1, cp2, rfl, hs4⟩; clear hs
 refine oV (xMove rfl) rfl ?_
 replace hs4 := hs4.f1
 refine oCall call330 rfl rfl (srows_s hmb (by omega) (by omega) (by omega) hs4) ?_
 rintro _ w7 ⟨a5, cp6, rfl, hs8⟩; clear hs4
 refine oV (xBuild (v := (.agg #[(.slice a1 la.length cp2), (.slice a5 lb.length cp6)])) rfl (fun w => by kernel_rfl)) rfl (oBox hs8 rfl rfl rfl ?_)
 intro b9 w10 hs11; clear hs8
 refine oV (xAssign rfl) rfl (oEnd (kSeq (rRet (kFin (.tmp rfl (.nil)) ?_))))
 replace hs11 := hs11.f2
 obtain ⟨f1, hle1, hp1, hs1⟩ := Sep.freezePR (i := 0) hs11 rfl; dsimp only [List.eraseIdx] at hs1
 replace hs1 := hs1.f1
 replace hs1 := hs1.f2
 replace hs1 := hs1.f2
 exact ⟨f1, b9, _, _, _, _, rfl, hle1, hp1, hs1⟩
theorem stepsF_shape {n c d : Nat} : ∀ {f col : Nat} {p : LL × LL} {cols : List Nat}, Shp p n c d → cols.length < n → Shp (stepsF n f col p cols).1 n c d
 | 0, _, _, _, h, _ => h
 | f + 1, col, p, cols, h, hc => by
   simp only [stepsF]
   split
   · exact stepsF_shape h hc
   · rename_i k hk
     have := pivF_le hk
     have h2 : Shp (clrF cols.length col (swp cols.length k p) n) n c d := clrF_shape (swp_shape h hc (by omega)) hc (Nat.le_refl n)
     split
     · exact h2
     · exact stepsF_shape h2 (by rw [List.length_append, List.length_singleton]; omega)
section
variable {W0 w : World} {L : List Asn}
theorem rowsE_freeze {f : HF} {v : Value} {k : Nat} {ls : LL} (hs : Sep W0 w (pool f :: rowsE v k ls :: L)) : ∃ vs f', FLe f f' ∧ Reads f' 1 v k vs ∧ RR f' vs ls ∧ Sep W0 w (pool f' :: L) := by
 obtain ⟨vs, h⟩ := Sep.ex (Sep.front (i := 1) rfl hs)
 exact ⟨vs, rowsB_freeze (Sep.front (i := 1) rfl h)⟩
end
def solF (n : Nat) (la lb : LL) : (LL × LL) × List Nat := stepsF n n 0 (la, lb) []
theorem solve_s {W0 w : World} {L : List Asn} {f : HF} {p q n d : Nat} {la lb : LL} (hma : MatP f p n la) (hmb : MatP f q d lb) (hla : la.length = n) (hlb : lb.length = n) (h1 : 1 ≤ n) (h2 : n ≤ 64) (h3 : 1 ≤ d) (h4 : d ≤ 64) (hfull : (solF n la lb).2.length = n) (hs : Sep W0 w (pool f :: L)) :
 Calls Tryz.prog 193 [ptr p, ptr q].toArray w (Ret fun r w' => ∃ f' p', r = .tuple #[ptr p', .int .i64 0] ∧ FLe f f' ∧ MatP f' p' d (solF n la lb).1.2 ∧ Sep W0 w' (pool f' :: L)) := by
 have hsa : Shape la n n := ⟨hla, hma.1⟩; have hsb : Shape lb n d := ⟨hlb, hmb.1⟩
 unfold solF at hfull ⊢
 refine enter (args := [(ptr p), (ptr q)]) (n := 52) (rs := [.tmp 4, .tmp 5]) func193 rfl rfl rfl rfl ?_
 refine rSeq (rReg (oV (xAssign rfl) rfl (oV (xAssign rfl) rfl (oEnd (kSeq (rSeq (rReg (oV (xMove rfl) rfl (oCall call191 rfl rfl (msize_s hma hs) ?_)))))))))
 rintro _ w1 ⟨rfl, hs2⟩; clear hs
 refine oV (xMove rfl) rfl (oV (xExtract rfl rfl) rfl (oV (xExtract rfl rfl) rfl (oV (xAssign rfl) rfl (oV (xAssign rfl) rfl (oEnd (kSeq (rSeq (rReg (oV (xMove rfl) rfl (oCall call191 rfl rfl (msize_s hmb hs2) ?_))))))))))
 rintro _ w3 ⟨rfl, hs4⟩; clear hs2
 refine oV (xMove rfl) rfl (oV (xExtract rfl rfl) rfl (oV (xExtract rfl rfl) rfl (oV (xAssign rfl) rfl (oV (xAssign rfl) rfl (oEnd (kSeq (rSeq (rSeq (rReg (oV (xMove rfl) rfl (oV (xBin (r := .bool false) rfl rfl (fun _ => rfl) (fun w => by kernel_rfl)) rfl (oV (xMove rfl) rfl (oGuardT rfl rfl (oV (xMove rfl) rfl (oGuardT rfl rfl (oV (xBin (r := .bool false) rfl rfl (fun _ => rfl) (fun w => by kernel_rfl)) rfl (oV (xPickF rfl rfl) rfl (oV (xMove rfl) rfl (oGuardT rfl rfl (oV (xMove rfl) rfl (oGuardT rfl rfl (oV (xMove rfl) rfl (oGuardT rfl rfl (oV (xCmp rfl rfl rNeq) rfl (oV (xPickF rfl rfl) rfl (oV (xMove rfl) rfl ?_))))))))))))))))))))))))))
 refine oCase (d := 32) rfl (fun hg5 => ?_) (fun hg5 => ?_)
 · replace hg5 := of_decide_eq_true hg5
   refine oGuardF rfl rfl rfl rfl (oGuardF rfl rfl rfl rfl (oGuardF rfl rfl rfl rfl (oV (xPickT rfl rfl) rfl (oEnd (kSeq (rCondT rfl (rSeq (rReg (oV (xAssign rfl) rfl (oV (xAssign rfl) rfl (oEnd (kSeq (rRet (kSeqR (kFin (.tmp rfl (.tmp rfl (.nil))) ?_)))))))))))))))
   exfalso; omega
 · replace hg5 := of_decide_eq_false hg5
   refine oGuardT rfl rfl (oV (xMove rfl) rfl (oGuardT rfl rfl (oV (xMove rfl) rfl (oGuardT rfl rfl (oV (xCmp rfl rfl rNeq) rfl (oV (xPickF rfl rfl) rfl (oEnd (kSeq ?_))))))))
   refine rCondD rfl (fun hc6 => ?_) (fun hc6 => ?_)
   · refine rSeq (rReg (oV (xAssign rfl) rfl (oV (xAssign rfl) rfl (oEnd (kSeq (rRet (kSeqR (kFin (.tmp rfl (.tmp rfl (.nil))) ?_))))))))
     exfalso; omega
   · refine rSkip (kSeq (rSeq (rReg (oV (xMove rfl) rfl (oV (xMove rfl) rfl (oCall call264 rfl rfl (swith_s hma hmb (by omega) (by omega) (by omega) (by omega) (by omega) (by omega) hs4) ?_))))))
     rintro _ w15 ⟨f7, p8, aa9, ca10, ab11, cb12, rfl, hle13, hp14, hs16⟩; clear hs4
     rw [hsa.len, hsb.len] at hp14 hs16
     replace hma := hma.mono hle13
     replace hmb := hmb.mono hle13
     refine oV (xAssign rfl) rfl (oEnd (kSeq (rSeq (rSeq (rReg (oV (xMove rfl) rfl ?_))))))
     replace hs16 := hs16.f2
     replace hs16 := hs16.f2
     replace hs16 := hs16.f2
     refine oCall call265 rfl rfl (steps_s hp14 hsa hsb (by omega) (by omega) (by omega) (by omega) (by omega) hs16) ?_
     rintro _ w19 ⟨a17, k18, rfl, hs20⟩; clear hs16
     have hsf21 := stepsF_shape (f := n) (col := 0) (cols := []) (show Shp (la, lb) n _ _ from ⟨hsa, hsb⟩) (by rw [List.length_nil]; omega)
     refine oV (xB1 rfl (rLenS underlying52)) rfl (oV (xMove rfl) rfl (oV (xCmp rfl rfl rLss) rfl (oEnd (kSeq ?_))))
     refine rCondD rfl (fun hc22 => ?_) (fun hc22 => ?_)
     · refine rSeq (Run.sub (e' := [(4, (.pointer none)), (5, (I 0)), (10, (ptr p8))]) ⟨rfl, rfl, rfl, trivial⟩ ?_)
       refine rReg (oV (xAssign rfl) rfl (oV (xAssign rfl) rfl (oEnd (kSeq (rRet (kSeqR (kFin (.tmp rfl (.tmp rfl (.nil))) ?_)))))))
       exfalso; omega
     · refine rSkip (kSeq (rSeq (Run.sub (e' := [(4, (.pointer none)), (5, (I 0)), (10, (ptr p8))]) ⟨rfl, rfl, rfl, trivial⟩ ?_)))
       refine rReg (oV (xMove rfl) rfl (oV (xNil rfl) rfl (oV (xFA (j' := 1) underlying446 rfl sizeOf22 rfl rfl) rfl (oV (xLoadC isAgg22 rfl (PR.cell hp14 hs20 (i := 0) rfl rfl)) rfl ?_))))
       replace hs20 := hs20.f2
       replace hs20 := hs20.f1
       obtain ⟨vs23, f24, hle25, hv26, hr27, hs28⟩ := rowsE_freeze hs20; clear hs20
       replace hma := hma.mono hle25
       replace hmb := hmb.mono hle25
       replace hp14 := hp14.mono hle25
       refine oCall call125 rfl rfl (mof_s d hv26 hr27 hsf21.2.all (by omega) (by omega) (by omega) (by omega) hs28) ?_
       rintro _ w33 ⟨f29, p30, rfl, hle31, hm32, hs34⟩; clear hs28
       replace hma := hma.mono hle31
       replace hmb := hmb.mono hle31
       replace hp14 := hp14.mono hle31
       replace hv26 := hv26.mono hle31
       replace hr27 := hr27.mono hle31
       refine oV (xExtract rfl rfl) rfl (oV (xExtract rfl rfl) rfl (oV (xAssign rfl) rfl (oV (xAssign rfl) rfl (oEnd (kSeq (rRet (kFin (.tmp rfl (.tmp rfl (.nil))) ?_)))))))
       replace hs34 := hs34.d1
       exact ⟨_, _, rfl, (FLe.trans hle13 (FLe.trans hle25 hle31)), hm32, hs34⟩
end Go.Sl
namespace Go.Sl
theorem pool_sub {f f' : HF} (h : FLe f f') (k : HF) (hp : pool f' k) : pool f k := fun b o hb => hp b o (h b o hb)
def bools (n : Nat) (F : Nat → Bool) : List Value := (List.range n).map fun i => .bool (F i)
def setF (F : Nat → Bool) (i : Nat) (b : Bool) : Nat → Bool := fun k => if k = i then b else F k
theorem bools_get {n : Nat} {F : Nat → Bool} {i : Nat} (h : i < n) : (bools n F)[i]? = some (.bool (F i)) := by simp [bools, h]
theorem bools_set {n : Nat} {F : Nat → Bool} {i : Nat} {b : Bool} (h : i < n) : (bools n F).set i (.bool b) = bools n (setF F i b) := by
  apply List.ext_getElem?
  intro j
  simp only [bools, List.getElem?_set, List.getElem?_map, List.getElem?_range, List.length_map, List.length_range, setF]
  by_cases hj : i = j
  · subst hj; simp [h]
  · rcases Nat.lt_or_ge j n with h2 | h2
    · have : ¬ j = i := fun h => hj h.symm
      simp [hj, this, h2]
    · simp [hj, List.getElem?_eq_none (l := List.range n) (i := j) (by simpa using h2)]
theorem Sep.rowEq {W0 w : World} {L : List Asn} {b : Nat} {el : TypeId} {xs ys : List Value} (hs : Sep W0 w (row b el xs :: L)) (h : xs = ys) : Sep W0 w (row b el ys :: L) := h ▸ hs
def vpow (x : UInt8) : Nat → UInt8
  | 0 => 1
  | i + 1 => gmul (vpow x i) x
def vrow (x : UInt8) (n : Nat) : List UInt8 := (List.range n).map (vpow x)
theorem vrow_length (x : UInt8) (n : Nat) : (vrow x n).length = n := by simp [vrow]
theorem vrow_succ (x : UInt8) (n : Nat) : vrow x (n + 1) = vrow x n ++ [vpow x n] := by simp [vrow, List.range_succ]
def ptsAt (n e : Nat) : Nat → List UInt8 × List UInt8
  | 0 => ([], [])
  | x + 1 =>
    if (ptsAt n e x).1.length < n then
      if (ptsAt n e x).2.any (fun p => p.toNat == (gpow (UInt8.ofInt (x : Int)) e).toNat) then ptsAt n e x
      else ((ptsAt n e x).1 ++ [UInt8.ofInt (x : Int)], gpow (UInt8.ofInt (x : Int)) e :: (ptsAt n e x).2)
    else ptsAt n e x
def pts (n e : Nat) : List UInt8 := (ptsAt n e 256).1
def seenF (s : List UInt8) : Nat → Bool := fun i => s.any (fun p => p.toNat == i)
theorem seenF_cons (s : List UInt8) (p : UInt8) : setF (seenF s) p.toNat true = seenF (p :: s) := by
  funext i
  simp only [setF, seenF, List.any_cons]
  by_cases h : i = p.toNat
  · simp [h]
  · have : (p.toNat == i) = false := by simpa using fun h2 => h h2.symm
    simp [h, this]
theorem ptsAt_stop {n e x : Nat} (h : ¬ (ptsAt n e x).1.length < n) : ∀ (k : Nat), ptsAt n e (x + k) = ptsAt n e x
  | 0 => rfl
  | k + 1 => by
    have ih := ptsAt_stop h k
    show ptsAt n e ((x + k) + 1) = _
    simp only [ptsAt]
    rw [ih, if_neg h]
theorem pts_stop {n e x : Nat} (hx : x ≤ 256) (h : ¬ (ptsAt n e x).1.length < n) : pts n e = (ptsAt n e x).1 := by
  have := ptsAt_stop h (256 - x)
  unfold pts
  rw [show (256 : Nat) = x + (256 - x) by omega, this]
theorem ptsAt_le (n e : Nat) : ∀ x, (ptsAt n e x).1.length ≤ n
  | 0 => by simp [ptsAt]
  | x + 1 => by
    have ih := ptsAt_le n e x
    simp only [ptsAt]
    split
    · split
      · exact ih
      · simp; omega
    · exact ih
end Go.Sl
namespace Go.Sl
open Go.Proofs Go.Proofs.Tryz
theorem vrow_s {W0 w : World} {L : List Asn} {f : HF} (x : UInt8) (n : Nat) (hn : n ≤ 64) (hs : Sep W0 w (pool f :: L)) :
 Calls Tryz.prog 260 [B x, .int .i64 n].toArray w (Ret fun r w' => ∃ f' a' k' cp', r = .slice a' k' cp' ∧ FLe f f' ∧ RB f' a' k' cp' (vrow x n) ∧ Sep W0 w' (pool f' :: L)) := by
 refine enter (args := [(.int .u8 (x.toNat : Int)), (I (n : Int))]) (n := 20) (rs := [.tmp 4]) func260 rfl rfl rfl rfl ?_
 refine rSeq (rReg (oV (xAssign rfl) rfl (oEnd (kSeq (rSeq (rReg (oV (xAssign rfl) rfl (oEnd (kSeq (rSeq (rReg (oV (xAssign rfl) rfl (oEnd (kSeq (rSeq (rSeq (rReg (oV (xMove rfl) rfl (oV (xB1 rfl rMax) rfl (oV (xMove rfl) rfl (oEnd (kSeq (rBlk ?_)))))))))))))))))))))))
 replace hs := Sep.nil 5 1 hs
 refine rLoop (fun mz e w => ∃ (i : Nat) (a : Option Addr) (cp : Nat), n - i = mz ∧ e = [(0, (.int .u8 (x.toNat : Int))), (5, (.slice a i cp)), (6, (.int .u8 ((vpow x i).toNat : Int))), (8, (I (n : Int))), (9, (I (i : Int)))] ∧ (i ≤ n) ∧ Sep W0 w (own 5 1 (.slice a i cp) i ((vrow x i).map B) :: pool f :: L)) ⟨_, _, ⟨0, _, _, rfl, rfl, (by omega), hs⟩, ⟨rfl, rfl, rfl, vI (by omega), rfl, trivial⟩⟩ ?_
 clear hs; rintro mz e w ⟨i, a, cp, rfl, rfl, hi, hs⟩
 refine rSeq (rReg (oV (xCmp rfl rfl rLss) rfl (oEnd (kSeq (rSeq ?_)))))
 refine rCondD rfl (fun hc1 => ?_) (fun hc1 => ?_)
 · refine rSkip (kSeq (rSeq (rBlk (rSeq (rReg (oV (xMove rfl) rfl (oV (xMove rfl) rfl (oBuildSlice (el := 5) (cs := [(.int .u8 ((vpow x i).toNat : Int))]) hs rfl (fun w => by kernel_rfl) rfl ?_))))))))
   intro b2 w3 hs4; clear hs
   refine oAppend (inf := Tryz.t5) (size := 1) (bytes := 1) hs4 (i := 1) rfl underlying26 (by kernel_rfl) rfl rfl rfl rfl rfl rfl rfl (src_row hs4 (i := 0) rfl rfl rfl) (by first | omega | (simp only [List.length_append, List.length_cons, List.length_nil, List.length_map]; omega)) (by first | omega | (simp only [List.length_append, List.length_cons, List.length_nil, List.length_map]; omega)) rfl ?_
   intro a5 c6 w7 hs8; clear hs4; dsimp only [List.set] at hs8
   refine oV (xAssign rfl) rfl (oEnd (kSeq (rReg (oV (xMove rfl) rfl (oV (xMove rfl) rfl (oCall call108 rfl rfl (gmul_s (vpow x i) x hs8) ?_))))))
   rintro _ w9 ⟨rfl, hs10⟩; clear hs8
   refine oV (xAssign rfl) rfl (oEnd (kBlk (kSeq (rReg (oV (xAr rfl rfl (rAdd (wI (by omega) (by omega)))) rfl (oV (xMove rfl) rfl ?_))))))
   replace hs10 := hs10.d0
   exact oEnd (kLoop (n - (i + 1)) _ (by omega) ⟨i + 1, _, _, rfl, rfl, (by omega), by rw [vrow_succ, List.map_append]; exact hs10⟩ ⟨rfl, rfl, rfl, rfl, rfl, trivial⟩)
 · refine rExit (kSeqX (kLoopX (kBlkH (kSeq (rSeq (rReg (oV (xMove rfl) rfl (oV (xAssign rfl) rfl (oEnd (kSeq (rRet (kFin (.tmp rfl (.nil)) ?_))))))))))))
   replace hs := hs.f1
   obtain rfl : i = n := by omega
   obtain ⟨f1, hle1, hb1, hs1⟩ := Sep.freezeOwn (i := 0) hs rfl
   exact ⟨f1, _, _, _, rfl, hle1, hb1, hs1⟩
theorem pts_s {W0 w : World} {L : List Asn} {f : HF} (n ex : Nat) (hn : 1 ≤ n) (hn2 : n ≤ 64) (he : 1 ≤ ex) (he2 : ex ≤ 64) (hpt : (pts n ex).length = n) (hs : Sep W0 w (pool f :: L)) :
 Calls Tryz.prog 97 [.int .i64 n, .int .i64 ex].toArray w (Ret fun r w' => ∃ f' a k cp, r = .tuple #[.slice a k cp, .int .i64 0] ∧ FLe f f' ∧ RB f' a k cp (pts n ex) ∧ Sep W0 w' (pool f' :: L)) := by
 refine enter (args := [(I (n : Int)), (I (ex : Int))]) (n := 46) (rs := [.tmp 4, .tmp 5]) func97 rfl rfl rfl rfl ?_
 refine rSeq (rReg (oV (xAssign rfl) rfl (oV (xAssign rfl) rfl (oEnd (kSeq (rSeq (rReg (oAlloc hs zeroValue321 rfl rfl ?_))))))))
 intro b1 w2 hs3; clear hs
 replace hs3 := Sep.rowEq (ys := bools 256 (seenF [])) hs3 (by kernel_rfl)
 refine oEnd (kSeq (rSeq (rReg (oV (xAssign rfl) rfl (oEnd (kSeq (rSeq (rSeq (rReg (oV (xMove rfl) rfl (oV (xCmp rfl rfl rLss) rfl (oV (xMove rfl) rfl ?_))))))))))))
 refine oCase (d := 12) rfl (fun hg4 => ?_) (fun hg4 => ?_)
 · replace hg4 := of_decide_eq_true hg4
   refine oGuardF rfl rfl rfl rfl (oGuardF rfl rfl rfl rfl (oV (xPickT rfl rfl) rfl (oEnd (kSeq (rCondT rfl (rSeq (rReg (oV (xAssign rfl) rfl (oV (xAssign rfl) rfl (oEnd (kSeq (rRet (kSeqR (kFin (.tmp rfl (.tmp rfl (.nil))) ?_))))))))))))))
   exfalso
   first
     | omega
     | (obtain rfl : x = 256 := by omega
        unfold pts at hpt; omega)
 · replace hg4 := of_decide_eq_false hg4
   refine oGuardT rfl rfl (oV (xMove rfl) rfl (oGuardT rfl rfl (oV (xCmp rfl rfl rLss) rfl (oV (xPickF rfl rfl) rfl (oEnd (kSeq ?_))))))
   refine rCondD rfl (fun hc5 => ?_) (fun hc5 => ?_)
   · refine rSeq (rReg (oV (xAssign rfl) rfl (oV (xAssign rfl) rfl (oEnd (kSeq (rRet (kSeqR (kFin (.tmp rfl (.tmp rfl (.nil))) ?_))))))))
     exfalso
     first
       | omega
       | (obtain rfl : x = 256 := by omega
          unfold pts at hpt; omega)
   · refine rSkip (kSeq (rSeq (rSeq (rReg (oV (xAssign rfl) rfl (oEnd (kSeq (rBlk ?_))))))))
     replace hs3 := Sep.nil 5 1 hs3
     refine rLoop (fun mz e w => ∃ (x : Nat) (a : Option Addr) (cp : Nat), 256 - x = mz ∧ e = [(0, (I (n : Int))), (1, (I (ex : Int))), (6, (ptr b1)), (7, (.slice a ((ptsAt n ex x).1.length) cp)), (8, (I (x : Int)))] ∧ (x ≤ 256) ∧ Sep W0 w (own 5 1 (.slice a ((ptsAt n ex x).1.length) cp) ((ptsAt n ex x).1.length) ((ptsAt n ex x).1.map B) :: row b1 321 (bools 256 (seenF (ptsAt n ex x).2)) :: pool f :: L)) ⟨_, _, ⟨0, _, _, rfl, rfl, (by omega), hs3⟩, ⟨rfl, rfl, rfl, rfl, rfl, trivial⟩⟩ ?_
     clear hs3; rintro mz e w ⟨x, a, cp, rfl, rfl, hx, hs⟩
     have hple := ptsAt_le n ex x
     refine rSeq (rSeq (rReg (oV (xMove rfl) rfl (oV (xCmp rfl rfl rLss) rfl (oV (xMove rfl) rfl ?_)))))
     refine oCase (d := 18) rfl (fun hg6 => ?_) (fun hg6 => ?_)
     · replace hg6 := of_decide_eq_true hg6
       refine oGuardT rfl rfl (oV (xMove rfl) rfl (oGuardT rfl rfl (oV (xB1 rfl (rLenS underlying26)) rfl (oGuardT rfl rfl (oV (xMove rfl) rfl (oGuardT rfl rfl (oV (xCmp rfl rfl rLss) rfl (oV (xPickT rfl rfl) rfl (oEnd (kSeq ?_))))))))))
       refine rCondD rfl (fun hc7 => ?_) (fun hc7 => ?_)
       · refine rSkip (kSeq (rSeq (rBlk (rSeq (rReg (oV (xMove rfl) rfl (oV (xConv underlying3 underlying5 rfl (wIto8 (x : Int))) rfl (oV (xMove rfl) rfl (oCall call171 rfl rfl (gpow_s (UInt8.ofInt (x : Int)) ex (by omega) hs) ?_)))))))))
         rintro _ w8 ⟨rfl, hs9⟩; clear hs
         refine oV (xAssign rfl) rfl (oEnd (kSeq (rSeq (rReg (oV (xMove rfl) rfl ?_)))))
         have hu8 := ((gpow (UInt8.ofInt (x : Int)) ex)).toNat_lt
         refine oV (xIAA (o' := ((gpow (UInt8.ofInt (x : Int)) ex).toNat)) underlying321 sizeOf4 rfl rfl (by omega) (by omega) (by omega)) rfl (oV (xLoad hs9 isAgg4 rfl (i := 1) rfl (bools_get (by omega))) rfl (oV (xNot rfl) rfl (oEnd (kSeq ?_))))
         refine rCond rfl (fun hc10 => ?_) (fun hc10 => ?_)
         · refine rSeq (rReg (oV (xMove rfl) rfl (oV (xIAA (o' := ((gpow (UInt8.ofInt (x : Int)) ex).toNat)) underlying321 sizeOf4 rfl rfl (by omega) (by omega) (by omega)) rfl (oStore hs9 sizeOf4 rfl rfl rfl (i := 1) rfl (bools_get (by omega)) ?_))))
           intro w11 hs12; clear hs9; dsimp only [List.set] at hs12; rw [bools_set (by omega)] at hs12
           refine oEnd (kSeq (rReg (oV (xMove rfl) rfl (oV (xMove rfl) rfl (oV (xConv underlying3 underlying5 rfl (wIto8 (x : Int))) rfl (oBuildSlice (el := 5) (cs := [(.int .u8 ((UInt8.ofInt (x : Int)).toNat : Int))]) hs12 rfl (fun w => by kernel_rfl) rfl ?_))))))
           intro b13 w14 hs15; clear hs12
           refine oAppend (inf := Tryz.t5) (size := 1) (bytes := 1) hs15 (i := 1) rfl underlying26 (by kernel_rfl) rfl rfl rfl rfl rfl rfl rfl (src_row hs15 (i := 0) rfl rfl rfl) (by first | omega | (simp only [List.length_append, List.length_cons, List.length_nil, List.length_map]; omega)) (by first | omega | (simp only [List.length_append, List.length_cons, List.length_nil, List.length_map]; omega)) rfl ?_
           intro a16 c17 w18 hs19; clear hs15; dsimp only [List.set] at hs19
           refine oV (xAssign rfl) rfl (oEnd (kBlk (kSeq (rReg (oV (xMove rfl) rfl (oV (xAr rfl rfl (rAdd (wI (by omega) (by omega)))) rfl (oV (xAssign rfl) rfl ?_)))))))
           rw [seenF_cons] at hs19
           replace hs19 := hs19.d0
           have eP : ptsAt n ex (x + 1) = ((ptsAt n ex x).1 ++ [UInt8.ofInt (x : Int)], (gpow (UInt8.ofInt (x : Int)) ex) :: (ptsAt n ex x).2) := by
             simp only [ptsAt]; rw [if_pos (by omega), if_neg (by have hh := hc10; unfold seenF at hh; simpa using hh)]
           exact oEnd (kLoop (256 - (x + 1)) _ (by omega) ⟨x + 1, _, _, rfl, rfl, (by omega), by rw [eP, List.length_append, List.map_append]; exact hs19⟩ ⟨rfl, rfl, rfl, by rw [eP, List.length_append]; rfl, vI (by omega), trivial⟩)
         · refine rSkip (kBlk (kSeq (rReg (oV (xMove rfl) rfl (oV (xAr rfl rfl (rAdd (wI (by omega) (by omega)))) rfl (oV (xAssign rfl) rfl ?_))))))
           have eP : ptsAt n ex (x + 1) = ptsAt n ex x := by
             simp only [ptsAt]; rw [if_pos (by omega), if_pos (by have hh := hc10; unfold seenF at hh; simpa using hh)]
           exact oEnd (kLoop (256 - (x + 1)) _ (by omega) ⟨x + 1, _, _, rfl, rfl, (by omega), by rw [eP]; exact hs9⟩ ⟨rfl, rfl, rfl, by rw [eP]; rfl, vI (by omega), trivial⟩)
       · refine rExit (kSeqX (kLoopX (kBlkH (kSeq (rSeq (rSeq (rReg (oV (xMove rfl) rfl (oV (xB1 rfl (rLenS underlying26)) rfl (oV (xMove rfl) rfl (oV (xCmp rfl rfl rLss) rfl (oEnd (kSeq ?_)))))))))))))
         refine rCondD rfl (fun hc20 => ?_) (fun hc20 => ?_)
         · refine rSeq (rReg (oV (xAssign rfl) rfl (oV (xAssign rfl) rfl (oEnd (kSeq (rRet (kSeqR (kFin (.tmp rfl (.tmp rfl (.nil))) ?_))))))))
           exfalso
           first
             | omega
             | (obtain rfl : x = 256 := by omega
                unfold pts at hpt; omega)
         · refine rSkip (kSeq (rSeq (rReg (oV (xMove rfl) rfl (oV (xAssign rfl) rfl (oV (xAssign rfl) rfl (oEnd (kSeq (rRet (kFin (.tmp rfl (.tmp rfl (.nil))) ?_))))))))))
           replace hs := hs.d1
           replace hs := hs.f1
           rw [pts_stop hx (by omega)]
           obtain ⟨f1, hle1, hb1, hs1⟩ := Sep.freezeOwn (i := 0) hs rfl
           exact ⟨f1, _, _, _, rfl, hle1, hb1, hs1⟩
     · replace hg6 := of_decide_eq_false hg6
       refine oGuardF rfl rfl rfl rfl (oGuardF rfl rfl rfl rfl (oGuardF rfl rfl rfl rfl (oGuardF rfl rfl rfl rfl (oV (xPickF rfl rfl) rfl (oEnd (kSeq (rCondF rfl (rExit (kSeqX (kLoopX (kBlkH (kSeq (rSeq (rSeq (rReg (oV (xMove rfl) rfl (oV (xB1 rfl (rLenS underlying26)) rfl (oV (xMove rfl) rfl (oV (xCmp rfl rfl rLss) rfl (oEnd (kSeq ?_)))))))))))))))))))))
       refine rCondD rfl (fun hc21 => ?_) (fun hc21 => ?_)
       · refine rSeq (rReg (oV (xAssign rfl) rfl (oV (xAssign rfl) rfl (oEnd (kSeq (rRet (kSeqR (kFin (.tmp rfl (.tmp rfl (.nil))) ?_))))))))
         exfalso
         first
           | omega
           | (obtain rfl : x = 256 := by omega
              unfold pts at hpt; omega)
       · refine rSkip (kSeq (rSeq (rReg (oV (xMove rfl) rfl (oV (xAssign rfl) rfl (oV (xAssign rfl) rfl (oEnd (kSeq (rRet (kFin (.tmp rfl (.tmp rfl (.nil))) ?_))))))))))
         replace hs := hs.d1
         replace hs := hs.f1
         rw [pts_stop hx (by omega)]
         obtain ⟨f1, hle1, hb1, hs1⟩ := Sep.freezeOwn (i := 0) hs rfl
         exact ⟨f1, _, _, _, rfl, hle1, hb1, hs1⟩
end Go.Sl
namespace Go.Sl
def CodeP (f : HF) (p n k : Nat) : Prop := (k = 2 ∨ k = 3) ∧ 2 * k - 1 ≤ n ∧ n ≤ 24 ∧ (pts n (k - 1)).length = n ∧ ∃ a cp, PR f p [I (n : Int), I (k : Int), .slice a n cp] ∧ RB f a n cp (pts n (k - 1))
theorem CodeP.mono {f f' : HF} {p n k : Nat} (h : CodeP f p n k) (hf : FLe f f') : CodeP f' p n k := by
  obtain ⟨h1, h2, h3, h4, a, cp, h5, h6⟩ := h
  exact ⟨h1, h2, h3, h4, a, cp, h5.mono hf, h6.mono hf⟩
abbrev pt (n k i : Nat) : UInt8 := (pts n (k - 1)).getD i 0
def placeN (k row col : Nat) : Nat :=
  let a := k - 1
  let base := if a ≤ row then a * (a + 1) / 2 else 0
  let r := if a ≤ row then row - a else row
  let i := min r col
  let m := max r col
  base + i * a - i * (i - 1) / 2 + m - i
theorem placeN_lt {k row col : Nat} (hk : k = 2 ∨ k = 3) (hr : row < 2 * k - 2) (hc : col < k - 1) : placeN k row col < k * (k - 1) := by
  rcases hk with rfl | rfl
  · obtain rfl : col = 0 := by omega
    rcases (by omega : row = 0 ∨ row = 1) with rfl | rfl <;> decide
  · rcases (by omega : col = 0 ∨ col = 1) with rfl | rfl <;> rcases (by omega : row = 0 ∨ row = 1 ∨ row = 2 ∨ row = 3) with rfl | rfl | rfl | rfl <;> decide
def cutsL (l : List UInt8) (n : Nat) : LL := (List.range n).map fun i => (l.drop (i * (l.length / n))).take (l.length / n)
def cutAt (l : List UInt8) (z i : Nat) : List UInt8 := (l.drop (i * z)).take ((i + 1) * z - i * z)
def cutsUp (l : List UInt8) (z : Nat) : Nat → LL
  | 0 => []
  | i + 1 => cutsUp l z i ++ [cutAt l z i]
theorem cutsUp_length (l : List UInt8) (z : Nat) : ∀ i, (cutsUp l z i).length = i
  | 0 => rfl
  | i + 1 => by simp [cutsUp, cutsUp_length l z i]
theorem cutsUp_at {l : List UInt8} {z : Nat} : ∀ {n i : Nat}, i < n → (cutsUp l z n).getD i [] = cutAt l z i
  | 0, _, h => by omega
  | n + 1, i, h => by
    simp only [cutsUp, List.getD_eq_getElem?_getD]
    by_cases hi : i < n
    · rw [List.getElem?_append_left (by rw [cutsUp_length]; exact hi)]
      have := cutsUp_at (l := l) (z := z) hi
      rwa [List.getD_eq_getElem?_getD] at this
    · obtain rfl : i = n := by omega
      rw [List.getElem?_append_right (by rw [cutsUp_length]; exact Nat.le_refl _), cutsUp_length]; simp
theorem cutAt_length {l : List UInt8} {z n i : Nat} (h : l.length = n * z) (hi : i < n) : (cutAt l z i).length = z := by
  have h1 : (i + 1) * z ≤ n * z := Nat.mul_le_mul_right _ hi
  have h2 : (i + 1) * z = i * z + z := by rw [Nat.add_mul, Nat.one_mul]
  simp only [cutAt, List.length_take, List.length_drop]
  omega
def mixF (x : UInt8) (t b : List UInt8) : List UInt8 := if x = 0 then t else gAddR x t b
theorem mixF_length {x : UInt8} {t b : List UInt8} (h : t.length ≤ b.length) : (mixF x t b).length = t.length := by
  unfold mixF; split
  · rfl
  · exact gAddR_length h
def colF (k : Nat) (x : UInt8) (ps : LL) (z col : Nat) : Nat → List UInt8
  | 0 => List.replicate z 0
  | i + 1 => mixF (vpow x i) (colF k x ps z col i) (ps.getD (placeN k i col) [])
theorem colF_length {k z col : Nat} {x : UInt8} {ps : LL} (hk : k = 2 ∨ k = 3) (hc : col < k - 1) (hp : ∀ i, i < k * (k - 1) → (ps.getD i []).length = z) : ∀ {i : Nat}, i ≤ 2 * k - 2 → (colF k x ps z col i).length = z
  | 0, _ => by simp [colF]
  | i + 1, hi => by
    have h1 := colF_length (x := x) hk hc hp (i := i) (by omega)
    have h2 := hp _ (placeN_lt (row := i) hk (by omega) hc)
    simp only [colF]
    rw [mixF_length (by omega), h1]
def shardUp (k : Nat) (x : UInt8) (ps : LL) (z : Nat) : Nat → List UInt8
  | 0 => []
  | c + 1 => shardUp k x ps z c ++ colF k x ps z c (2 * k - 2)
def shardF (k : Nat) (x : UInt8) (ps : LL) (z : Nat) : List UInt8 := shardUp k x ps z (k - 1)
def encUp (n k : Nat) (l : List UInt8) (z : Nat) : Nat → LL
  | 0 => []
  | s + 1 => encUp n k l z s ++ [shardF k (pt n k s) (cutsUp l z (k * (k - 1))) z]
def encF (n k : Nat) (l : List UInt8) : LL := encUp n k l (l.length / (k * (k - 1))) n
end Go.Sl
namespace Go.Sl
open Go.Proofs Go.Proofs.Tryz
theorem vI0 {i j : Int} {k : IntKind} (h : i = j) : Value.int k i = Value.int k j := by rw [h]
theorem ck_s {W0 w : World} {L : List Asn} {f : HF} {p n k : Nat} (hc : CodeP f p n k)  (hs : Sep W0 w (pool f :: L)) :
 Calls Tryz.prog 172 [ptr p].toArray w (Ret fun r w' => r = .int .i64 (k : Int) ∧ Sep W0 w' (pool f :: L)) := by
 obtain ⟨hk, h2k, hn24, hpl, ca, ccp, hp, hb⟩ := id hc
 have hbl := RB.len hb
 refine enter (args := [(ptr p)]) (n := 9) (rs := [.tmp 2]) func172 rfl rfl rfl rfl ?_
 refine rSeq (rReg (oV (xAssign rfl) rfl (oEnd (kSeq (rSeq (rSeq (rReg (oV (xMove rfl) rfl (oV (xBin (r := .bool false) rfl rfl (fun _ => rfl) (fun w => by kernel_rfl)) rfl (oEnd (kSeq (rCondF rfl (rSkip (kSeq (rSeq (rReg (oV (xMove rfl) rfl (oV (xNil rfl) rfl (oV (xFA (j' := 1) underlying206 rfl sizeOf3 rfl rfl) rfl (oV (xLoadC isAgg3 rfl (PR.cell hp hs (i := 0) rfl rfl)) rfl (oV (xAssign rfl) rfl (oEnd (kSeq (rRet (kFin (.tmp rfl (.nil)) ?_)))))))))))))))))))))))))
 exact ⟨vI0 (by omega), hs⟩
theorem cparts_s {W0 w : World} {L : List Asn} {f : HF} {p n k : Nat} (hc : CodeP f p n k)  (hs : Sep W0 w (pool f :: L)) :
 Calls Tryz.prog 102 [ptr p].toArray w (Ret fun r w' => r = .int .i64 ((k - 1 : Nat) : Int) ∧ Sep W0 w' (pool f :: L)) := by
 obtain ⟨hk, h2k, hn24, hpl, ca, ccp, hp, hb⟩ := id hc
 have hbl := RB.len hb
 refine enter (args := [(ptr p)]) (n := 7) (rs := [.tmp 2]) func102 rfl rfl rfl rfl ?_
 refine rSeq (rReg (oV (xAssign rfl) rfl (oEnd (kSeq (rSeq (rReg (oV (xMove rfl) rfl (oCall call172 rfl rfl (ck_s hc hs) ?_))))))))
 rintro _ w1 ⟨rfl, hs2⟩; clear hs
 refine oV (xAr rfl rfl (rSub (wI (by omega) (by omega)))) rfl (oV (xB1 rfl rMax) rfl (oV (xAssign rfl) rfl (oEnd (kSeq (rRet (kFin (.tmp rfl (.nil)) ?_))))))
 exact ⟨vI0 (by omega), hs2⟩
theorem csym_s {W0 w : World} {L : List Asn} {f : HF} {p n k : Nat} (hc : CodeP f p n k)  (hs : Sep W0 w (pool f :: L)) :
 Calls Tryz.prog 99 [ptr p].toArray w (Ret fun r w' => r = .int .i64 ((k * (k - 1) : Nat) : Int) ∧ Sep W0 w' (pool f :: L)) := by
 obtain ⟨hk, h2k, hn24, hpl, ca, ccp, hp, hb⟩ := id hc
 have hbl := RB.len hb
 have hkk : k * (k - 1) ≤ 6 ∧ (k : Int) * ((k - 1 : Nat) : Int) = ((k * (k - 1) : Nat) : Int) := by rcases hk with rfl | rfl <;> decide
 refine enter (args := [(ptr p)]) (n := 8) (rs := [.tmp 2]) func99 rfl rfl rfl rfl ?_
 refine rSeq (rReg (oV (xAssign rfl) rfl (oEnd (kSeq (rSeq (rReg (oV (xMove rfl) rfl (oCall call172 rfl rfl (ck_s hc hs) ?_))))))))
 rintro _ w1 ⟨rfl, hs2⟩; clear hs
 refine oV (xMove rfl) rfl (oCall call102 rfl rfl (cparts_s hc hs2) ?_)
 rintro _ w3 ⟨rfl, hs4⟩; clear hs2
 refine oV (xAr rfl rfl (rMul (wI (by omega) (by omega)))) rfl (oV (xAssign rfl) rfl (oEnd (kSeq (rRet (kFin (.tmp rfl (.nil)) ?_)))))
 exact ⟨vI0 (by omega), hs4⟩
theorem cshort_s {W0 w : World} {L : List Asn} {f : HF} {p n k : Nat} (hc : CodeP f p n k) (s : Nat) (hsl : s < n) (hs : Sep W0 w (pool f :: L)) :
 Calls Tryz.prog 177 [ptr p, .int .i64 s].toArray w (Ret fun r w' => ∃ f' a' k' cp', r = .slice a' k' cp' ∧ FLe f f' ∧ RB f' a' k' cp' (vrow (pt n k s) (k - 1)) ∧ Sep W0 w' (pool f' :: L)) := by
 obtain ⟨hk, h2k, hn24, hpl, ca, ccp, hp, hb⟩ := id hc
 have hbl := RB.len hb
 refine enter (args := [(ptr p), (I (s : Int))]) (n := 18) (rs := [.tmp 4]) func177 rfl rfl rfl rfl ?_
 refine rSeq (rReg (oV (xAssign rfl) rfl (oEnd (kSeq (rSeq ?_)))))
 refine rRegG [(none, fun w => ∃ M, Sep W0 w (pool f :: M))] (by kernel_rfl) hs (fun w1 hs2 => ⟨?_, fun hS => ?_⟩)
 · exact ⟨⟨_, (Sep.front (i := 0) rfl hs2)⟩, trivial⟩
 clear hs
 refine gTake0 0 rfl (by kernel_rfl) hS (fun w => xMove rfl) rfl ?_
 clear hS; intro hS
 refine gTake0 1 rfl (by kernel_rfl) hS (fun w => xNil rfl) rfl ?_
 clear hS; intro hS
 refine gTake0 2 rfl (by kernel_rfl) hS (fun w => xFA (j' := 2) underlying206 rfl sizeOf26 rfl rfl) rfl ?_
 clear hS; intro hS
 refine gTake 3 0 rfl (by kernel_rfl) rfl (by kernel_rfl) hS (fun w hq0 => by obtain ⟨M, hq⟩ := hq0; exact xLoadC isAgg26 rfl (PR.cell hp hq (i := 0) rfl rfl)) rfl ?_
 clear hS; intro hS
 refine gTake0 4 rfl (by kernel_rfl) hS (fun w => xMove rfl) rfl ?_
 clear hS; intro hS
 obtain ⟨b3, off4, rfl⟩ := Reads.at hb (by omega)
 refine gTake0 5 rfl (by kernel_rfl) hS (fun w => xIA (o' := off4 + s) underlying26 sizeOf5 rfl rfl (by omega) (by omega) (by omega)) rfl ?_
 clear hS; intro hS
 refine gTake 6 0 rfl (by kernel_rfl) rfl (by kernel_rfl) hS (fun w hq0 => by obtain ⟨M, hq⟩ := hq0; exact xLoadC isAgg5 rfl (Reads.cell hb hq (i := 0) rfl (getB (by omega)))) rfl ?_
 clear hS; intro hS
 refine gTake0 7 rfl (by kernel_rfl) hS (fun w => xMove rfl) rfl ?_
 clear hS; intro hS
 refine gTake0 8 rfl (by kernel_rfl) hS (fun w => xNil rfl) rfl ?_
 clear hS; intro hS
 refine gTake0 9 rfl (by kernel_rfl) hS (fun w => xFA (j' := 1) underlying206 rfl sizeOf3 rfl rfl) rfl ?_
 clear hS; intro hS
 refine gTake 10 0 rfl (by kernel_rfl) rfl (by kernel_rfl) hS (fun w hq0 => by obtain ⟨M, hq⟩ := hq0; exact xLoadC isAgg3 rfl (PR.cell hp hq (i := 0) rfl rfl)) rfl ?_
 clear hS; intro hS
 refine gTake0 11 rfl (by kernel_rfl) hS (fun w => xAr (r := ((k - 1 : Nat) : Int)) rfl rfl (rSub (by rw [wI (by omega) (by omega)]; omega))) rfl ?_
 clear hS; intro hS
 refine gEff 12 (by kernel_rfl) rfl ?_
 refine oCall call260 rfl rfl (vrow_s ((pts n (k - 1)).getD s 0) (k - 1) (by omega) hs2) ?_
 rintro _ w12 ⟨f5, a6, k7, cp8, rfl, hle9, hb10, hs13⟩; clear hs2; have hl11 := RB.len hb10
 replace hc := hc.mono hle9
 replace hp := hp.mono hle9
 have hvl14 := vrow_length ((pts n (k - 1)).getD s 0) (k - 1)
 refine oEnd (kG ⟨⟨_, (Sep.imp (i := 0) rfl (pool_sub hle9) (Sep.front (i := 0) rfl hs13))⟩, trivial⟩ ?_)
 clear hS; intro hS
 refine gTake0 13 rfl (by kernel_rfl) hS (fun w => xAssign rfl) rfl ?_
 clear hS; intro hS
 refine gEnd (by kernel_rfl) ?_
 clear hS
 refine kSeq ?_
 refine rRet (kFin (.tmp rfl (.nil)) ?_)
 exact ⟨_, _, _, _, rfl, hle9, hb10, hs13⟩
theorem cfact_s {W0 w : World} {L : List Asn} {f : HF} {p n k : Nat} (hc : CodeP f p n k) (s : Nat) (hsl : s < n) (hs : Sep W0 w (pool f :: L)) :
 Calls Tryz.prog 178 [ptr p, .int .i64 s].toArray w (Ret fun r w' => r = B (gpow (pt n k s) (k - 1)) ∧ Sep W0 w' (pool f :: L)) := by
 obtain ⟨hk, h2k, hn24, hpl, ca, ccp, hp, hb⟩ := id hc
 have hbl := RB.len hb
 refine enter (args := [(ptr p), (I (s : Int))]) (n := 18) (rs := [.tmp 4]) func178 rfl rfl rfl rfl ?_
 refine rSeq (rReg (oV (xAssign rfl) rfl (oEnd (kSeq (rSeq ?_)))))
 refine rRegG [(none, fun w => ∃ M, Sep W0 w (pool f :: M))] (by kernel_rfl) hs (fun w1 hs2 => ⟨?_, fun hS => ?_⟩)
 · exact ⟨⟨_, (Sep.front (i := 0) rfl hs2)⟩, trivial⟩
 clear hs
 refine gTake0 0 rfl (by kernel_rfl) hS (fun w => xMove rfl) rfl ?_
 clear hS; intro hS
 refine gTake0 1 rfl (by kernel_rfl) hS (fun w => xNil rfl) rfl ?_
 clear hS; intro hS
 refine gTake0 2 rfl (by kernel_rfl) hS (fun w => xFA (j' := 2) underlying206 rfl sizeOf26 rfl rfl) rfl ?_
 clear hS; intro hS
 refine gTake 3 0 rfl (by kernel_rfl) rfl (by kernel_rfl) hS (fun w hq0 => by obtain ⟨M, hq⟩ := hq0; exact xLoadC isAgg26 rfl (PR.cell hp hq (i := 0) rfl rfl)) rfl ?_
 clear hS; intro hS
 refine gTake0 4 rfl (by kernel_rfl) hS (fun w => xMove rfl) rfl ?_
 clear hS; intro hS
 obtain ⟨b3, off4, rfl⟩ := Reads.at hb (by omega)
 refine gTake0 5 rfl (by kernel_rfl) hS (fun w => xIA (o' := off4 + s) underlying26 sizeOf5 rfl rfl (by omega) (by omega) (by omega)) rfl ?_
 clear hS; intro hS
 refine gTake 6 0 rfl (by kernel_rfl) rfl (by kernel_rfl) hS (fun w hq0 => by obtain ⟨M, hq⟩ := hq0; exact xLoadC isAgg5 rfl (Reads.cell hb hq (i := 0) rfl (getB (by omega)))) rfl ?_
 clear hS; intro hS
 refine gTake0 7 rfl (by kernel_rfl) hS (fun w => xMove rfl) rfl ?_
 clear hS; intro hS
 refine gTake0 8 rfl (by kernel_rfl) hS (fun w => xNil rfl) rfl ?_
 clear hS; intro hS
 refine gTake0 9 rfl (by kernel_rfl) hS (fun w => xFA (j' := 1) underlying206 rfl sizeOf3 rfl rfl) rfl ?_
 clear hS; intro hS
 refine gTake 10 0 rfl (by kernel_rfl) rfl (by kernel_rfl) hS (fun w hq0 => by obtain ⟨M, hq⟩ := hq0; exact xLoadC isAgg3 rfl (PR.cell hp hq (i := 0) rfl rfl)) rfl ?_
 clear hS; intro hS
 refine gTake0 11 rfl (by kernel_rfl) hS (fun w => xAr (r := ((k - 1 : Nat) : Int)) rfl rfl (rSub (by rw [wI (by omega) (by omega)]; omega))) rfl ?_
 clear hS; intro hS
 refine gEff 12 (by kernel_rfl) rfl ?_
 refine oCall call171 rfl rfl (gpow_s ((pts n (k - 1)).getD s 0) (k - 1) (by omega) hs2) ?_
 rintro _ w5 ⟨rfl, hs6⟩; clear hs2
 refine oEnd (kG ⟨⟨_, (Sep.front (i := 0) rfl hs6)⟩, trivial⟩ ?_)
 clear hS; intro hS
 refine gTake0 13 rfl (by kernel_rfl) hS (fun w => xAssign rfl) rfl ?_
 clear hS; intro hS
 refine gEnd (by kernel_rfl) ?_
 clear hS
 refine kSeq ?_
 refine rRet (kFin (.tmp rfl (.nil)) ?_)
 exact ⟨rfl, hs6⟩
theorem crow_s {W0 w : World} {L : List Asn} {f : HF} {p n k : Nat} (hc : CodeP f p n k) (s : Nat) (hsl : s < n) (hs : Sep W0 w (pool f :: L)) :
 Calls Tryz.prog 173 [ptr p, .int .i64 s].toArray w (Ret fun r w' => ∃ f' a' k' cp', r = .slice a' k' cp' ∧ FLe f f' ∧ RB f' a' k' cp' (vrow (pt n k s) (2 * k - 2)) ∧ Sep W0 w' (pool f' :: L)) := by
 obtain ⟨hk, h2k, hn24, hpl, ca, ccp, hp, hb⟩ := id hc
 have hbl := RB.len hb
 refine enter (args := [(ptr p), (I (s : Int))]) (n := 33) (rs := [.tmp 4]) func173 rfl rfl rfl rfl ?_
 refine rSeq (rReg (oV (xAssign rfl) rfl (oEnd (kSeq (rSeq (rSeq (rReg (oV (xMove rfl) rfl (oV (xBin (r := .bool false) rfl rfl (fun _ => rfl) (fun w => by kernel_rfl)) rfl (oV (xMove rfl) rfl (oGuardT rfl rfl (oV (xMove rfl) rfl (oGuardT rfl rfl (oV (xCmp rfl rfl rLss) rfl (oV (xPickF rfl rfl) rfl (oV (xMove rfl) rfl ?_))))))))))))))))
 refine oCase (d := 11) rfl (fun hg1 => ?_) (fun hg1 => ?_)
 · replace hg1 := of_decide_eq_true hg1
   refine oGuardF rfl rfl rfl rfl (oGuardF rfl rfl rfl rfl (oGuardF rfl rfl rfl rfl (oGuardF rfl rfl rfl rfl (oGuardF rfl rfl rfl rfl (oGuardF rfl rfl rfl rfl (oV (xPickT rfl rfl) rfl (oEnd (kSeq (rCondT rfl (rSeq (rReg (oV (xAssign rfl) rfl (oEnd (kSeq (rRet (kSeqR (kFin (.tmp rfl (.nil)) ?_)))))))))))))))))
   exfalso; omega
 · replace hg1 := of_decide_eq_false hg1
   refine oGuardT rfl rfl (oV (xMove rfl) rfl (oGuardT rfl rfl (oV (xMove rfl) rfl (oGuardT rfl rfl (oV (xNil rfl) rfl (oGuardT rfl rfl (oV (xFA (j' := 0) underlying206 rfl sizeOf3 rfl rfl) rfl (oGuardT rfl rfl (oV (xLoadC isAgg3 rfl (PR.cell hp hs (i := 0) rfl rfl)) rfl (oGuardT rfl rfl (oV (xCmp rfl rfl rGeq) rfl (oV (xPickF rfl rfl) rfl (oEnd (kSeq ?_))))))))))))))
   refine rCondD rfl (fun hc2 => ?_) (fun hc2 => ?_)
   · refine rSeq (rReg (oV (xAssign rfl) rfl (oEnd (kSeq (rRet (kSeqR (kFin (.tmp rfl (.nil)) ?_)))))))
     exfalso; omega
   · refine rSkip (kSeq (rSeq ?_))
     refine rRegG [(none, fun w => ∃ M, Sep W0 w (pool f :: M))] (by kernel_rfl) hs (fun w3 hs4 => ⟨?_, fun hS => ?_⟩)
     · exact ⟨⟨_, (Sep.front (i := 0) rfl hs4)⟩, trivial⟩
     clear hs
     refine gTake0 0 rfl (by kernel_rfl) hS (fun w => xMove rfl) rfl ?_
     clear hS; intro hS
     refine gTake0 1 rfl (by kernel_rfl) hS (fun w => xNil rfl) rfl ?_
     clear hS; intro hS
     refine gTake0 2 rfl (by kernel_rfl) hS (fun w => xFA (j' := 2) underlying206 rfl sizeOf26 rfl rfl) rfl ?_
     clear hS; intro hS
     refine gTake 3 0 rfl (by kernel_rfl) rfl (by kernel_rfl) hS (fun w hq0 => by obtain ⟨M, hq⟩ := hq0; exact xLoadC isAgg26 rfl (PR.cell hp hq (i := 0) rfl rfl)) rfl ?_
     clear hS; intro hS
     refine gTake0 4 rfl (by kernel_rfl) hS (fun w => xMove rfl) rfl ?_
     clear hS; intro hS
     obtain ⟨b5, off6, rfl⟩ := Reads.at hb (by omega)
     refine gTake0 5 rfl (by kernel_rfl) hS (fun w => xIA (o' := off6 + s) underlying26 sizeOf5 rfl rfl (by omega) (by omega) (by omega)) rfl ?_
     clear hS; intro hS
     refine gTake 6 0 rfl (by kernel_rfl) rfl (by kernel_rfl) hS (fun w hq0 => by obtain ⟨M, hq⟩ := hq0; exact xLoadC isAgg5 rfl (Reads.cell hb hq (i := 0) rfl (getB (by omega)))) rfl ?_
     clear hS; intro hS
     refine gTake0 7 rfl (by kernel_rfl) hS (fun w => xMove rfl) rfl ?_
     clear hS; intro hS
     refine gTake0 8 rfl (by kernel_rfl) hS (fun w => xNil rfl) rfl ?_
     clear hS; intro hS
     refine gTake0 9 rfl (by kernel_rfl) hS (fun w => xFA (j' := 1) underlying206 rfl sizeOf3 rfl rfl) rfl ?_
     clear hS; intro hS
     refine gTake 10 0 rfl (by kernel_rfl) rfl (by kernel_rfl) hS (fun w hq0 => by obtain ⟨M, hq⟩ := hq0; exact xLoadC isAgg3 rfl (PR.cell hp hq (i := 0) rfl rfl)) rfl ?_
     clear hS; intro hS
     refine gTake0 11 rfl (by kernel_rfl) hS (fun w => xAr rfl rfl (rMul (wI (by omega) (by omega)))) rfl ?_
     clear hS; intro hS
     refine gTake0 12 rfl (by kernel_rfl) hS (fun w => xAr (r := ((2 * k - 2 : Nat) : Int)) rfl rfl (rSub (by rw [wI (by omega) (by omega)]; omega))) rfl ?_
     clear hS; intro hS
     refine gEff 13 (by kernel_rfl) rfl ?_
     refine oCall call260 rfl rfl (vrow_s ((pts n (k - 1)).getD s 0) (2 * k - 2) (by omega) hs4) ?_
     rintro _ w14 ⟨f7, a8, k9, cp10, rfl, hle11, hb12, hs15⟩; clear hs4; have hl13 := RB.len hb12
     replace hc := hc.mono hle11
     replace hp := hp.mono hle11
     have hvl16 := vrow_length ((pts n (k - 1)).getD s 0) (2 * k - 2)
     refine oEnd (kG ⟨⟨_, (Sep.imp (i := 0) rfl (pool_sub hle11) (Sep.front (i := 0) rfl hs15))⟩, trivial⟩ ?_)
     clear hS; intro hS
     refine gTake0 14 rfl (by kernel_rfl) hS (fun w => xAssign rfl) rfl ?_
     clear hS; intro hS
     refine gEnd (by kernel_rfl) ?_
     clear hS
     refine kSeq ?_
     refine rRet (kFin (.tmp rfl (.nil)) ?_)
     exact ⟨_, _, _, _, rfl, hle11, hb12, hs15⟩
theorem cplace200 {W0 w : World} {L : List Asn} {f : HF} {p n : Nat} (hc : CodeP f p n 2) (hs : Sep W0 w (pool f :: L)) :
 Calls Tryz.prog 175 [ptr p, .int .i64 0, .int .i64 0].toArray w (Ret fun r w' => r = .int .i64 ((placeN 2 0 0 : Nat) : Int) ∧ Sep W0 w' (pool f :: L)) := by
 obtain ⟨hk, h2k, hn24, hpl, ca, ccp, hp, hb⟩ := id hc
 refine enter (args := [(ptr p), (I 0), (I 0)]) (n := 48) (rs := [.tmp 6]) func175 rfl rfl rfl rfl ?_
 refine rSeq (rReg (oV (xAssign rfl) rfl (oEnd (kSeq (rSeq (rReg (oV (xMove rfl) rfl (oV (xNil rfl) rfl (oV (xFA (j' := 1) underlying206 rfl sizeOf3 rfl rfl) rfl (oV (xLoadC isAgg3 rfl (PR.cell hp hs (i := 0) rfl rfl)) rfl (oV (xAr (r := 1) rfl rfl (rSub rfl)) rfl (oV (xAssign rfl) rfl (oEnd (kSeq (rSeq (rReg (oV (xAssign rfl) rfl (oEnd (kSeq (rSeq (rSeq (rReg (oV (xMove rfl) rfl (oV (xMove rfl) rfl (oV (xCmp (r := false) rfl rfl rGeq) rfl (oEnd (kSeq (rCondF rfl (rSkip (kSeq (rSeq (rReg (oV (xMove rfl) rfl (oV (xMove rfl) rfl (oV (xB1 rfl rMin) rfl (oV (xMove rfl) rfl (oV (xMove rfl) rfl (oV (xB1 rfl rMax) rfl (oV (xAssign rfl) rfl (oV (xAssign rfl) rfl (oEnd (kSeq (rSeq (rReg (oV (xMove rfl) rfl (oV (xMove rfl) rfl (oV (xMove rfl) rfl (oV (xAr (r := 0) rfl rfl (rMul rfl)) rfl (oV (xAr (r := 0) rfl rfl (rAdd rfl)) rfl ?_)))))))))))))))))))))))))))))))))))))))))))))))))
 refine oV (xMove rfl) rfl (oV (xMove rfl) rfl (oV (xAr (r := -1) rfl rfl (rSub rfl)) rfl (oV (xAr (r := 0) rfl rfl (rMul rfl)) rfl (oV (xAr (r := 0) rfl rfl (rQuoN (by omega) (by omega) (by omega))) rfl (oV (xAr (r := 0) rfl rfl (rSub rfl)) rfl (oV (xMove rfl) rfl (oV (xAr (r := 0) rfl rfl (rAdd rfl)) rfl (oV (xMove rfl) rfl (oV (xAr (r := 0) rfl rfl (rSub rfl)) rfl (oV (xAssign rfl) rfl (oEnd (kSeq (rRet (kFin (.tmp rfl (.nil)) ?_))))))))))))))
 exact ⟨rfl, hs⟩
theorem cplace210 {W0 w : World} {L : List Asn} {f : HF} {p n : Nat} (hc : CodeP f p n 2) (hs : Sep W0 w (pool f :: L)) :
 Calls Tryz.prog 175 [ptr p, .int .i64 1, .int .i64 0].toArray w (Ret fun r w' => r = .int .i64 ((placeN 2 1 0 : Nat) : Int) ∧ Sep W0 w' (pool f :: L)) := by
 obtain ⟨hk, h2k, hn24, hpl, ca, ccp, hp, hb⟩ := id hc
 refine enter (args := [(ptr p), (I 1), (I 0)]) (n := 48) (rs := [.tmp 6]) func175 rfl rfl rfl rfl ?_
 refine rSeq (rReg (oV (xAssign rfl) rfl (oEnd (kSeq (rSeq (rReg (oV (xMove rfl) rfl (oV (xNil rfl) rfl (oV (xFA (j' := 1) underlying206 rfl sizeOf3 rfl rfl) rfl (oV (xLoadC isAgg3 rfl (PR.cell hp hs (i := 0) rfl rfl)) rfl (oV (xAr (r := 1) rfl rfl (rSub rfl)) rfl (oV (xAssign rfl) rfl (oEnd (kSeq (rSeq (rReg (oV (xAssign rfl) rfl (oEnd (kSeq (rSeq (rSeq (rReg (oV (xMove rfl) rfl (oV (xMove rfl) rfl (oV (xCmp (r := true) rfl rfl rGeq) rfl (oEnd (kSeq (rCondT rfl (rReg (oV (xMove rfl) rfl (oV (xMove rfl) rfl (oV (xAr (r := 2) rfl rfl (rAdd rfl)) rfl (oV (xAr (r := 2) rfl rfl (rMul rfl)) rfl (oV (xAr (r := 1) rfl rfl (rQuoN (by omega) (by omega) (by omega))) rfl (oV (xMove rfl) rfl (oV (xMove rfl) rfl (oV (xAr (r := 0) rfl rfl (rSub rfl)) rfl (oV (xAssign rfl) rfl (oV (xAssign rfl) rfl (oEnd (kSeq (rSeq (rReg (oV (xMove rfl) rfl ?_))))))))))))))))))))))))))))))))))))))))))))
 refine oV (xMove rfl) rfl (oV (xB1 rfl rMin) rfl (oV (xMove rfl) rfl (oV (xMove rfl) rfl (oV (xB1 rfl rMax) rfl (oV (xAssign rfl) rfl (oV (xAssign rfl) rfl (oEnd (kSeq (rSeq (rReg (oV (xMove rfl) rfl (oV (xMove rfl) rfl (oV (xMove rfl) rfl (oV (xAr (r := 0) rfl rfl (rMul rfl)) rfl (oV (xAr (r := 1) rfl rfl (rAdd rfl)) rfl (oV (xMove rfl) rfl (oV (xMove rfl) rfl (oV (xAr (r := -1) rfl rfl (rSub rfl)) rfl (oV (xAr (r := 0) rfl rfl (rMul rfl)) rfl (oV (xAr (r := 0) rfl rfl (rQuoN (by omega) (by omega) (by omega))) rfl (oV (xAr (r := 1) rfl rfl (rSub rfl)) rfl (oV (xMove rfl) rfl (oV (xAr (r := 1) rfl rfl (rAdd rfl)) rfl (oV (xMove rfl) rfl (oV (xAr (r := 1) rfl rfl (rSub rfl)) rfl (oV (xAssign rfl) rfl (oEnd (kSeq (rRet (kFin (.tmp rfl (.nil)) ?_))))))))))))))))))))))))))))))
 exact ⟨rfl, hs⟩
theorem cplace300 {W0 w : World} {L : List Asn} {f : HF} {p n : Nat} (hc : CodeP f p n 3) (hs : Sep W0 w (pool f :: L)) :
 Calls Tryz.prog 175 [ptr p, .int .i64 0, .int .i64 0].toArray w (Ret fun r w' => r = .int .i64 ((placeN 3 0 0 : Nat) : Int) ∧ Sep W0 w' (pool f :: L)) := by
 obtain ⟨hk, h2k, hn24, hpl, ca, ccp, hp, hb⟩ := id hc
 refine enter (args := [(ptr p), (I 0), (I 0)]) (n := 48) (rs := [.tmp 6]) func175 rfl rfl rfl rfl ?_
 refine rSeq (rReg (oV (xAssign rfl) rfl (oEnd (kSeq (rSeq (rReg (oV (xMove rfl) rfl (oV (xNil rfl) rfl (oV (xFA (j' := 1) underlying206 rfl sizeOf3 rfl rfl) rfl (oV (xLoadC isAgg3 rfl (PR.cell hp hs (i := 0) rfl rfl)) rfl (oV (xAr (r := 2) rfl rfl (rSub rfl)) rfl (oV (xAssign rfl) rfl (oEnd (kSeq (rSeq (rReg (oV (xAssign rfl) rfl (oEnd (kSeq (rSeq (rSeq (rReg (oV (xMove rfl) rfl (oV (xMove rfl) rfl (oV (xCmp (r := false) rfl rfl rGeq) rfl (oEnd (kSeq (rCondF rfl (rSkip (kSeq (rSeq (rReg (oV (xMove rfl) rfl (oV (xMove rfl) rfl (oV (xB1 rfl rMin) rfl (oV (xMove rfl) rfl (oV (xMove rfl) rfl (oV (xB1 rfl rMax) rfl (oV (xAssign rfl) rfl (oV (xAssign rfl) rfl (oEnd (kSeq (rSeq (rReg (oV (xMove rfl) rfl (oV (xMove rfl) rfl (oV (xMove rfl) rfl (oV (xAr (r := 0) rfl rfl (rMul rfl)) rfl (oV (xAr (r := 0) rfl rfl (rAdd rfl)) rfl ?_)))))))))))))))))))))))))))))))))))))))))))))))))
 refine oV (xMove rfl) rfl (oV (xMove rfl) rfl (oV (xAr (r := -1) rfl rfl (rSub rfl)) rfl (oV (xAr (r := 0) rfl rfl (rMul rfl)) rfl (oV (xAr (r := 0) rfl rfl (rQuoN (by omega) (by omega) (by omega))) rfl (oV (xAr (r := 0) rfl rfl (rSub rfl)) rfl (oV (xMove rfl) rfl (oV (xAr (r := 0) rfl rfl (rAdd rfl)) rfl (oV (xMove rfl) rfl (oV (xAr (r := 0) rfl rfl (rSub rfl)) rfl (oV (xAssign rfl) rfl (oEnd (kSeq (rRet (kFin (.tmp rfl (.nil)) ?_))))))))))))))
 exact ⟨rfl, hs⟩
theorem cplace301 {W0 w : World} {L : List Asn} {f : HF} {p n : Nat} (hc : CodeP f p n 3) (hs : Sep W0 w (pool f :: L)) :
 Calls Tryz.prog 175 [ptr p, .int .i64 0, .int .i64 1].toArray w (Ret fun r w' => r = .int .i64 ((placeN 3 0 1 : Nat) : Int) ∧ Sep W0 w' (pool f :: L)) := by
 obtain ⟨hk, h2k, hn24, hpl, ca, ccp, hp, hb⟩ := id hc
 refine enter (args := [(ptr p), (I 0), (I 1)]) (n := 48) (rs := [.tmp 6]) func175 rfl rfl rfl rfl ?_
 refine rSeq (rReg (oV (xAssign rfl) rfl (oEnd (kSeq (rSeq (rReg (oV (xMove rfl) rfl (oV (xNil rfl) rfl (oV (xFA (j' := 1) underlying206 rfl sizeOf3 rfl rfl) rfl (oV (xLoadC isAgg3 rfl (PR.cell hp hs (i := 0) rfl rfl)) rfl (oV (xAr (r := 2) rfl rfl (rSub rfl)) rfl (oV (xAssign rfl) rfl (oEnd (kSeq (rSeq (rReg (oV (xAssign rfl) rfl (oEnd (kSeq (rSeq (rSeq (rReg (oV (xMove rfl) rfl (oV (xMove rfl) rfl (oV (xCmp (r := false) rfl rfl rGeq) rfl (oEnd (kSeq (rCondF rfl (rSkip (kSeq (rSeq (rReg (oV (xMove rfl) rfl (oV (xMove rfl) rfl (oV (xB1 rfl rMin) rfl (oV (xMove rfl) rfl (oV (xMove rfl) rfl (oV (xB1 rfl rMax) rfl (oV (xAssign rfl) rfl (oV (xAssign rfl) rfl (oEnd (kSeq (rSeq (rReg (oV (xMove rfl) rfl (oV (xMove rfl) rfl (oV (xMove rfl) rfl (oV (xAr (r := 0) rfl rfl (rMul rfl)) rfl (oV (xAr (r := 0) rfl rfl (rAdd rfl)) rfl ?_)))))))))))))))))))))))))))))))))))))))))))))))))
 refine oV (xMove rfl) rfl (oV (xMove rfl) rfl (oV (xAr (r := -1) rfl rfl (rSub rfl)) rfl (oV (xAr (r := 0) rfl rfl (rMul rfl)) rfl (oV (xAr (r := 0) rfl rfl (rQuoN (by omega) (by omega) (by omega))) rfl (oV (xAr (r := 0) rfl rfl (rSub rfl)) rfl (oV (xMove rfl) rfl (oV (xAr (r := 1) rfl rfl (rAdd rfl)) rfl (oV (xMove rfl) rfl (oV (xAr (r := 1) rfl rfl (rSub rfl)) rfl (oV (xAssign rfl) rfl (oEnd (kSeq (rRet (kFin (.tmp rfl (.nil)) ?_))))))))))))))
 exact ⟨rfl, hs⟩
theorem cplace310 {W0 w : World} {L : List Asn} {f : HF} {p n : Nat} (hc : CodeP f p n 3) (hs : Sep W0 w (pool f :: L)) :
 Calls Tryz.prog 175 [ptr p, .int .i64 1, .int .i64 0].toArray w (Ret fun r w' => r = .int .i64 ((placeN 3 1 0 : Nat) : Int) ∧ Sep W0 w' (pool f :: L)) := by
 obtain ⟨hk, h2k, hn24, hpl, ca, ccp, hp, hb⟩ := id hc
 refine enter (args := [(ptr p), (I 1), (I 0)]) (n := 48) (rs := [.tmp 6]) func175 rfl rfl rfl rfl ?_
 refine rSeq (rReg (oV (xAssign rfl) rfl (oEnd (kSeq (rSeq (rReg (oV (xMove rfl) rfl (oV (xNil rfl) rfl (oV (xFA (j' := 1) underlying206 rfl sizeOf3 rfl rfl) rfl (oV (xLoadC isAgg3 rfl (PR.cell hp hs (i := 0) rfl rfl)) rfl (oV (xAr (r := 2) rfl rfl (rSub rfl)) rfl (oV (xAssign rfl) rfl (oEnd (kSeq (rSeq (rReg (oV (xAssign rfl) rfl (oEnd (kSeq (rSeq (rSeq (rReg (oV (xMove rfl) rfl (oV (xMove rfl) rfl (oV (xCmp (r := false) rfl rfl rGeq) rfl (oEnd (kSeq (rCondF rfl (rSkip (kSeq (rSeq (rReg (oV (xMove rfl) rfl (oV (xMove rfl) rfl (oV (xB1 rfl rMin) rfl (oV (xMove rfl) rfl (oV (xMove rfl) rfl (oV (xB1 rfl rMax) rfl (oV (xAssign rfl) rfl (oV (xAssign rfl) rfl (oEnd (kSeq (rSeq (rReg (oV (xMove rfl) rfl (oV (xMove rfl) rfl (oV (xMove rfl) rfl (oV (xAr (r := 0) rfl rfl (rMul rfl)) rfl (oV (xAr (r := 0) rfl rfl (rAdd rfl)) rfl ?_)))))))))))))))))))))))))))))))))))))))))))))))))
 refine oV (xMove rfl) rfl (oV (xMove rfl) rfl (oV (xAr (r := -1) rfl rfl (rSub rfl)) rfl (oV (xAr (r := 0) rfl rfl (rMul rfl)) rfl (oV (xAr (r := 0) rfl rfl (rQuoN (by omega) (by omega) (by omega))) rfl (oV (xAr (r := 0) rfl rfl (rSub rfl)) rfl (oV (xMove rfl) rfl (oV (xAr (r := 1) rfl rfl (rAdd rfl)) rfl (oV (xMove rfl) rfl (oV (xAr (r := 1) rfl rfl (rSub rfl)) rfl (oV (xAssign rfl) rfl (oEnd (kSeq (rRet (kFin (.tmp rfl (.nil)) ?_))))))))))))))
 exact ⟨rfl, hs⟩
theorem cplace311 {W0 w : World} {L : List Asn} {f : HF} {p n : Nat} (hc : CodeP f p n 3) (hs : Sep W0 w (pool f :: L)) :
 Calls Tryz.prog 175 [ptr p, .int .i64 1, .int .i64 1].toArray w (Ret fun r w' => r = .int .i64 ((placeN 3 1 1 : Nat) : Int) ∧ Sep W0 w' (pool f :: L)) := by
 obtain ⟨hk, h2k, hn24, hpl, ca, ccp, hp, hb⟩ := id hc
 refine enter (args := [(ptr p), (I 1), (I 1)]) (n := 48) (rs := [.tmp 6]) func175 rfl rfl rfl rfl ?_
 refine rSeq (rReg (oV (xAssign rfl) rfl (oEnd (kSeq (rSeq (rReg (oV (xMove rfl) rfl (oV (xNil rfl) rfl (oV (xFA (j' := 1) underlying206 rfl sizeOf3 rfl rfl) rfl (oV (xLoadC isAgg3 rfl (PR.cell hp hs (i := 0) rfl rfl)) rfl (oV (xAr (r := 2) rfl rfl (rSub rfl)) rfl (oV (xAssign rfl) rfl (oEnd (kSeq (rSeq (rReg (oV (xAssign rfl) rfl (oEnd (kSeq (rSeq (rSeq (rReg (oV (xMove rfl) rfl (oV (xMove rfl) rfl (oV (xCmp (r := false) rfl rfl rGeq) rfl (oEnd (kSeq (rCondF rfl (rSkip (kSeq (rSeq (rReg (oV (xMove rfl) rfl (oV (xMove rfl) rfl (oV (xB1 rfl rMin) rfl (oV (xMove rfl) rfl (oV (xMove rfl) rfl (oV (xB1 rfl rMax) rfl (oV (xAssign rfl) rfl (oV (xAssign rfl) rfl (oEnd (kSeq (rSeq (rReg (oV (xMove rfl) rfl (oV (xMove rfl) rfl (oV (xMove rfl) rfl (oV (xAr (r := 2) rfl rfl (rMul rfl)) rfl (oV (xAr (r := 2) rfl rfl (rAdd rfl)) rfl ?_)))))))))))))))))))))))))))))))))))))))))))))))))
 refine oV (xMove rfl) rfl (oV (xMove rfl) rfl (oV (xAr (r := 0) rfl rfl (rSub rfl)) rfl (oV (xAr (r := 0) rfl rfl (rMul rfl)) rfl (oV (xAr (r := 0) rfl rfl (rQuoN (by omega) (by omega) (by omega))) rfl (oV (xAr (r := 2) rfl rfl (rSub rfl)) rfl (oV (xMove rfl) rfl (oV (xAr (r := 3) rfl rfl (rAdd rfl)) rfl (oV (xMove rfl) rfl (oV (xAr (r := 2) rfl rfl (rSub rfl)) rfl (oV (xAssign rfl) rfl (oEnd (kSeq (rRet (kFin (.tmp rfl (.nil)) ?_))))))))))))))
 exact ⟨rfl, hs⟩
theorem cplace320 {W0 w : World} {L : List Asn} {f : HF} {p n : Nat} (hc : CodeP f p n 3) (hs : Sep W0 w (pool f :: L)) :
 Calls Tryz.prog 175 [ptr p, .int .i64 2, .int .i64 0].toArray w (Ret fun r w' => r = .int .i64 ((placeN 3 2 0 : Nat) : Int) ∧ Sep W0 w' (pool f :: L)) := by
 obtain ⟨hk, h2k, hn24, hpl, ca, ccp, hp, hb⟩ := id hc
 refine enter (args := [(ptr p), (I 2), (I 0)]) (n := 48) (rs := [.tmp 6]) func175 rfl rfl rfl rfl ?_
 refine rSeq (rReg (oV (xAssign rfl) rfl (oEnd (kSeq (rSeq (rReg (oV (xMove rfl) rfl (oV (xNil rfl) rfl (oV (xFA (j' := 1) underlying206 rfl sizeOf3 rfl rfl) rfl (oV (xLoadC isAgg3 rfl (PR.cell hp hs (i := 0) rfl rfl)) rfl (oV (xAr (r := 2) rfl rfl (rSub rfl)) rfl (oV (xAssign rfl) rfl (oEnd (kSeq (rSeq (rReg (oV (xAssign rfl) rfl (oEnd (kSeq (rSeq (rSeq (rReg (oV (xMove rfl) rfl (oV (xMove rfl) rfl (oV (xCmp (r := true) rfl rfl rGeq) rfl (oEnd (kSeq (rCondT rfl (rReg (oV (xMove rfl) rfl (oV (xMove rfl) rfl (oV (xAr (r := 3) rfl rfl (rAdd rfl)) rfl (oV (xAr (r := 6) rfl rfl (rMul rfl)) rfl (oV (xAr (r := 3) rfl rfl (rQuoN (by omega) (by omega) (by omega))) rfl (oV (xMove rfl) rfl (oV (xMove rfl) rfl (oV (xAr (r := 0) rfl rfl (rSub rfl)) rfl (oV (xAssign rfl) rfl (oV (xAssign rfl) rfl (oEnd (kSeq (rSeq (rReg (oV (xMove rfl) rfl ?_))))))))))))))))))))))))))))))))))))))))))))
 refine oV (xMove rfl) rfl (oV (xB1 rfl rMin) rfl (oV (xMove rfl) rfl (oV (xMove rfl) rfl (oV (xB1 rfl rMax) rfl (oV (xAssign rfl) rfl (oV (xAssign rfl) rfl (oEnd (kSeq (rSeq (rReg (oV (xMove rfl) rfl (oV (xMove rfl) rfl (oV (xMove rfl) rfl (oV (xAr (r := 0) rfl rfl (rMul rfl)) rfl (oV (xAr (r := 3) rfl rfl (rAdd rfl)) rfl (oV (xMove rfl) rfl (oV (xMove rfl) rfl (oV (xAr (r := -1) rfl rfl (rSub rfl)) rfl (oV (xAr (r := 0) rfl rfl (rMul rfl)) rfl (oV (xAr (r := 0) rfl rfl (rQuoN (by omega) (by omega) (by omega))) rfl (oV (xAr (r := 3) rfl rfl (rSub rfl)) rfl (oV (xMove rfl) rfl (oV (xAr (r := 3) rfl rfl (rAdd rfl)) rfl (oV (xMove rfl) rfl (oV (xAr (r := 3) rfl rfl (rSub rfl)) rfl (oV (xAssign rfl) rfl (oEnd (kSeq (rRet (kFin (.tmp rfl (.nil)) ?_))))))))))))))))))))))))))))))
 exact ⟨rfl, hs⟩
theorem cplace321 {W0 w : World} {L : List Asn} {f : HF} {p n : Nat} (hc : CodeP f p n 3) (hs : Sep W0 w (pool f :: L)) :
 Calls Tryz.prog 175 [ptr p, .int .i64 2, .int .i64 1].toArray w (Ret fun r w' => r = .int .i64 ((placeN 3 2 1 : Nat) : Int) ∧ Sep W0 w' (pool f :: L)) := by
 obtain ⟨hk, h2k, hn24, hpl, ca, ccp, hp, hb⟩ := id hc
 refine enter (args := [(ptr p), (I 2), (I 1)]) (n := 48) (rs := [.tmp 6]) func175 rfl rfl rfl rfl ?_
 refine rSeq (rReg (oV (xAssign rfl) rfl (oEnd (kSeq (rSeq (rReg (oV (xMove rfl) rfl (oV (xNil rfl) rfl (oV (xFA (j' := 1) underlying206 rfl sizeOf3 rfl rfl) rfl (oV (xLoadC isAgg3 rfl (PR.cell hp hs (i := 0) rfl rfl)) rfl (oV (xAr (r := 2) rfl rfl (rSub rfl)) rfl (oV (xAssign rfl) rfl (oEnd (kSeq (rSeq (rReg (oV (xAssign rfl) rfl (oEnd (kSeq (rSeq (rSeq (rReg (oV (xMove rfl) rfl (oV (xMove rfl) rfl (oV (xCmp (r := true) rfl rfl rGeq) rfl (oEnd (kSeq (rCondT rfl (rReg (oV (xMove rfl) rfl (oV (xMove rfl) rfl (oV (xAr (r := 3) rfl rfl (rAdd rfl)) rfl (oV (xAr (r := 6) rfl rfl (rMul rfl)) rfl (oV (xAr (r := 3) rfl rfl (rQuoN (by omega) (by omega) (by omega))) rfl (oV (xMove rfl) rfl (oV (xMove rfl) rfl (oV (xAr (r := 0) rfl rfl (rSub rfl)) rfl (oV (xAssign rfl) rfl (oV (xAssign rfl) rfl (oEnd (kSeq (rSeq (rReg (oV (xMove rfl) rfl ?_))))))))))))))))))))))))))))))))))))))))))))
 refine oV (xMove rfl) rfl (oV (xB1 rfl rMin) rfl (oV (xMove rfl) rfl (oV (xMove rfl) rfl (oV (xB1 rfl rMax) rfl (oV (xAssign rfl) rfl (oV (xAssign rfl) rfl (oEnd (kSeq (rSeq (rReg (oV (xMove rfl) rfl (oV (xMove rfl) rfl (oV (xMove rfl) rfl (oV (xAr (r := 0) rfl rfl (rMul rfl)) rfl (oV (xAr (r := 3) rfl rfl (rAdd rfl)) rfl (oV (xMove rfl) rfl (oV (xMove rfl) rfl (oV (xAr (r := -1) rfl rfl (rSub rfl)) rfl (oV (xAr (r := 0) rfl rfl (rMul rfl)) rfl (oV (xAr (r := 0) rfl rfl (rQuoN (by omega) (by omega) (by omega))) rfl (oV (xAr (r := 3) rfl rfl (rSub rfl)) rfl (oV (xMove rfl) rfl (oV (xAr (r := 4) rfl rfl (rAdd rfl)) rfl (oV (xMove rfl) rfl (oV (xAr (r := 4) rfl rfl (rSub rfl)) rfl (oV (xAssign rfl) rfl (oEnd (kSeq (rRet (kFin (.tmp rfl (.nil)) ?_))))))))))))))))))))))))))))))
 exact ⟨rfl, hs⟩
theorem cplace330 {W0 w : World} {L : List Asn} {f : HF} {p n : Nat} (hc : CodeP f p n 3) (hs : Sep W0 w (pool f :: L)) :
 Calls Tryz.prog 175 [ptr p, .int .i64 3, .int .i64 0].toArray w (Ret fun r w' => r = .int .i64 ((placeN 3 3 0 : Nat) : Int) ∧ Sep W0 w' (pool f :: L)) := by
 obtain ⟨hk, h2k, hn24, hpl, ca, ccp, hp, hb⟩ := id hc
 refine enter (args := [(ptr p), (I 3), (I 0)]) (n := 48) (rs := [.tmp 6]) func175 rfl rfl rfl rfl ?_
 refine rSeq (rReg (oV (xAssign rfl) rfl (oEnd (kSeq (rSeq (rReg (oV (xMove rfl) rfl (oV (xNil rfl) rfl (oV (xFA (j' := 1) underlying206 rfl sizeOf3 rfl rfl) rfl (oV (xLoadC isAgg3 rfl (PR.cell hp hs (i := 0) rfl rfl)) rfl (oV (xAr (r := 2) rfl rfl (rSub rfl)) rfl (oV (xAssign rfl) rfl (oEnd (kSeq (rSeq (rReg (oV (xAssign rfl) rfl (oEnd (kSeq (rSeq (rSeq (rReg (oV (xMove rfl) rfl (oV (xMove rfl) rfl (oV (xCmp (r := true) rfl rfl rGeq) rfl (oEnd (kSeq (rCondT rfl (rReg (oV (xMove rfl) rfl (oV (xMove rfl) rfl (oV (xAr (r := 3) rfl rfl (rAdd rfl)) rfl (oV (xAr (r := 6) rfl rfl (rMul rfl)) rfl (oV (xAr (r := 3) rfl rfl (rQuoN (by omega) (by omega) (by omega))) rfl (oV (xMove rfl) rfl (oV (xMove rfl) rfl (oV (xAr (r := 1) rfl rfl (rSub rfl)) rfl (oV (xAssign rfl) rfl (oV (xAssign rfl) rfl (oEnd (kSeq (rSeq (rReg (oV (xMove rfl) rfl ?_))))))))))))))))))))))))))))))))))))))))))))
 refine oV (xMove rfl) rfl (oV (xB1 rfl rMin) rfl (oV (xMove rfl) rfl (oV (xMove rfl) rfl (oV (xB1 rfl rMax) rfl (oV (xAssign rfl) rfl (oV (xAssign rfl) rfl (oEnd (kSeq (rSeq (rReg (oV (xMove rfl) rfl (oV (xMove rfl) rfl (oV (xMove rfl) rfl (oV (xAr (r := 0) rfl rfl (rMul rfl)) rfl (oV (xAr (r := 3) rfl rfl (rAdd rfl)) rfl (oV (xMove rfl) rfl (oV (xMove rfl) rfl (oV (xAr (r := -1) rfl rfl (rSub rfl)) rfl (oV (xAr (r := 0) rfl rfl (rMul rfl)) rfl (oV (xAr (r := 0) rfl rfl (rQuoN (by omega) (by omega) (by omega))) rfl (oV (xAr (r := 3) rfl rfl (rSub rfl)) rfl (oV (xMove rfl) rfl (oV (xAr (r := 4) rfl rfl (rAdd rfl)) rfl (oV (xMove rfl) rfl (oV (xAr (r := 4) rfl rfl (rSub rfl)) rfl (oV (xAssign rfl) rfl (oEnd (kSeq (rRet (kFin (.tmp rfl (.nil)) ?_))))))))))))))))))))))))))))))
 exact ⟨rfl, hs⟩
theorem cplace331 {W0 w : World} {L : List Asn} {f : HF} {p n : Nat} (hc : CodeP f p n 3) (hs : Sep W0 w (pool f :: L)) :
 Calls Tryz.prog 175 [ptr p, .int .i64 3, .int .i64 1].toArray w (Ret fun r w' => r = .int .i64 ((placeN 3 3 1 : Nat) : Int) ∧ Sep W0 w' (pool f :: L)) := by
 obtain ⟨hk, h2k, hn24, hpl, ca, ccp, hp, hb⟩ := id hc
 refine enter (args := [(ptr p), (I 3), (I 1)]) (n := 48) (rs := [.tmp 6]) func175 rfl rfl rfl rfl ?_
 refine rSeq (rReg (oV (xAssign rfl) rfl (oEnd (kSeq (rSeq (rReg (oV (xMove rfl) rfl (oV (xNil rfl) rfl (oV (xFA (j' := 1) underlying206 rfl sizeOf3 rfl rfl) rfl (oV (xLoadC isAgg3 rfl (PR.cell hp hs (i := 0) rfl rfl)) rfl (oV (xAr (r := 2) rfl rfl (rSub rfl)) rfl (oV (xAssign rfl) rfl (oEnd (kSeq (rSeq (rReg (oV (xAssign rfl) rfl (oEnd (kSeq (rSeq (rSeq (rReg (oV (xMove rfl) rfl (oV (xMove rfl) rfl (oV (xCmp (r := true) rfl rfl rGeq) rfl (oEnd (kSeq (rCondT rfl (rReg (oV (xMove rfl) rfl (oV (xMove rfl) rfl (oV (xAr (r := 3) rfl rfl (rAdd rfl)) rfl (oV (xAr (r := 6) rfl rfl (rMul rfl)) rfl (oV (xAr (r := 3) rfl rfl (rQuoN (by omega) (by omega) (by omega))) rfl (oV (xMove rfl) rfl (oV (xMove rfl) rfl (oV (xAr (r := 1) rfl rfl (rSub rfl)) rfl (oV (xAssign rfl) rfl (oV (xAssign rfl) rfl (oEnd (kSeq (rSeq (rReg (oV (xMove rfl) rfl ?_))))))))))))))))))))))))))))))))))))))))))))
 refine oV (xMove rfl) rfl (oV (xB1 rfl rMin) rfl (oV (xMove rfl) rfl (oV (xMove rfl) rfl (oV (xB1 rfl rMax) rfl (oV (xAssign rfl) rfl (oV (xAssign rfl) rfl (oEnd (kSeq (rSeq (rReg (oV (xMove rfl) rfl (oV (xMove rfl) rfl (oV (xMove rfl) rfl (oV (xAr (r := 2) rfl rfl (rMul rfl)) rfl (oV (xAr (r := 5) rfl rfl (rAdd rfl)) rfl (oV (xMove rfl) rfl (oV (xMove rfl) rfl (oV (xAr (r := 0) rfl rfl (rSub rfl)) rfl (oV (xAr (r := 0) rfl rfl (rMul rfl)) rfl (oV (xAr (r := 0) rfl rfl (rQuoN (by omega) (by omega) (by omega))) rfl (oV (xAr (r := 5) rfl rfl (rSub rfl)) rfl (oV (xMove rfl) rfl (oV (xAr (r := 6) rfl rfl (rAdd rfl)) rfl (oV (xMove rfl) rfl (oV (xAr (r := 5) rfl rfl (rSub rfl)) rfl (oV (xAssign rfl) rfl (oEnd (kSeq (rRet (kFin (.tmp rfl (.nil)) ?_))))))))))))))))))))))))))))))
 exact ⟨rfl, hs⟩
theorem cplace_s {W0 w : World} {L : List Asn} {f : HF} {p n k : Nat} (hc : CodeP f p n k) (row col : Nat) (hr : row < 2 * k - 2) (hcl : col < k - 1) (hs : Sep W0 w (pool f :: L)) :
 Calls Tryz.prog 175 [ptr p, .int .i64 row, .int .i64 col].toArray w (Ret fun r w' => r = .int .i64 ((placeN k row col : Nat) : Int) ∧ Sep W0 w' (pool f :: L)) := by
 rcases hc.1 with rfl | rfl
 · obtain rfl : col = 0 := by omega
   rcases (by omega : row = 0 ∨ row = 1) with rfl | rfl
   · exact cplace200 hc hs
   · exact cplace210 hc hs
 · rcases (by omega : col = 0 ∨ col = 1) with rfl | rfl <;> rcases (by omega : row = 0 ∨ row = 1 ∨ row = 2 ∨ row = 3) with rfl | rfl | rfl | rfl
   · exact cplace300 hc hs
   · exact cplace310 hc hs
   · exact cplace320 hc hs
   · exact cplace330 hc hs
   · exact cplace301 hc hs
   · exact cplace311 hc hs
   · exact cplace321 hc hs
   · exact cplace331 hc hs
theorem mparts_s {W0 w : World} {L : List Asn} {f : HF} {a : Option Addr} {m cp : Nat} {l : List UInt8} (hb : RB f a m cp l) (n z : Nat) (h1 : 1 ≤ n) (h2 : n ≤ 64) (hz : 1 ≤ z) (hl : m = n * z) (hm : m ≤ 1000000) (hs : Sep W0 w (pool f :: L)) :
 Calls Tryz.prog 98 [.slice a m cp, .int .i64 n].toArray w (Ret fun r w' => ∃ f' a' c' vs, r = .tuple #[.slice a' n c', .bool true] ∧ FLe f f' ∧ Reads f' 1 (.slice a' n c') n vs ∧ RR f' vs (cutsUp l z n) ∧ Sep W0 w' (pool f' :: L)) := by
 have hbl := RB.len hb
 have hzn : n * z = z * n := Nat.mul_comm n z
 have hm1 : 1 ≤ m := by rw [hl]; exact Nat.mul_pos h1 hz
 have hrem : (m : Int) % (n : Int) = 0 := by rw [hl]; push_cast; exact Int.mul_emod_right _ _
 have hzz : (m : Int) / (n : Int) = (z : Int) := by rw [hl]; push_cast; exact Int.mul_ediv_cancel_left _ (by omega)
 refine enter (args := [(.slice a m cp), (I (n : Int))]) (n := 45) (rs := [.tmp 4, .tmp 5]) func98 rfl rfl rfl rfl ?_
 refine rSeq (rReg (oV (xAssign rfl) rfl (oV (xAssign rfl) rfl (oEnd (kSeq (rSeq (rSeq (rReg (oV (xMove rfl) rfl (oV (xCmp rfl rfl rLss) rfl (oV (xMove rfl) rfl ?_)))))))))))
 refine oCase (d := 11) rfl (fun hg1 => ?_) (fun hg1 => ?_)
 · replace hg1 := of_decide_eq_true hg1
   refine oGuardF rfl rfl rfl rfl (oGuardF rfl rfl rfl rfl (oGuardF rfl rfl rfl rfl (oV (xPickT rfl rfl) rfl (oV (xMove rfl) rfl (oGuardF rfl rfl rfl rfl (oGuardF rfl rfl rfl rfl (oGuardF rfl rfl rfl rfl (oGuardF rfl rfl rfl rfl (oGuardF rfl rfl rfl rfl (oV (xPickT rfl rfl) rfl (oEnd (kSeq (rCondT rfl (rSeq (rReg (oV (xAssign rfl) rfl (oV (xAssign rfl) rfl (oEnd (kSeq (rRet (kSeqR (kFin (.tmp rfl (.tmp rfl (.nil))) ?_))))))))))))))))))))))
   exfalso
   omega
 · replace hg1 := of_decide_eq_false hg1
   refine oGuardT rfl rfl (oV (xMove rfl) rfl (oGuardT rfl rfl (oV (xB1 rfl (rLenS underlying26)) rfl (oGuardT rfl rfl (oV (xCmp rfl rfl rEql) rfl (oV (xPickF rfl rfl) rfl (oV (xMove rfl) rfl ?_)))))))
   refine oCase (d := 16) rfl (fun hg2 => ?_) (fun hg2 => ?_)
   · replace hg2 := of_decide_eq_true hg2
     refine oGuardF rfl rfl rfl rfl (oGuardF rfl rfl rfl rfl (oGuardF rfl rfl rfl rfl (oGuardF rfl rfl rfl rfl (oGuardF rfl rfl rfl rfl (oV (xPickT rfl rfl) rfl (oEnd (kSeq (rCondT rfl (rSeq (rReg (oV (xAssign rfl) rfl (oV (xAssign rfl) rfl (oEnd (kSeq (rRet (kSeqR (kFin (.tmp rfl (.tmp rfl (.nil))) ?_)))))))))))))))))
     exfalso
     omega
   · replace hg2 := of_decide_eq_false hg2
     refine oGuardT rfl rfl (oV (xMove rfl) rfl (oGuardT rfl rfl (oV (xB1 rfl (rLenS underlying26)) rfl (oGuardT rfl rfl (oV (xMove rfl) rfl (oGuardT rfl rfl (oV (xAr rfl rfl (rRemN (by omega) (by omega))) rfl (oGuardT rfl rfl (oV (xCmp rfl rfl rNeq) rfl (oV (xPickF rfl rfl) rfl (oEnd (kSeq ?_))))))))))))
     refine rCondD rfl (fun hc3 => ?_) (fun hc3 => ?_)
     · refine rSeq (rReg (oV (xAssign rfl) rfl (oV (xAssign rfl) rfl (oEnd (kSeq (rRet (kSeqR (kFin (.tmp rfl (.tmp rfl (.nil))) ?_))))))))
       exfalso
       omega
     · refine rSkip (kSeq (rSeq (rReg (oV (xMove rfl) rfl (oV (xB1 rfl (rLenS underlying26)) rfl (oV (xMove rfl) rfl (oV (xAr rfl rfl (rQuoN (by omega) (by omega) (by omega))) rfl (oV (xAssign rfl) rfl (oEnd (kSeq (rSeq (rReg (oV (xAssign rfl) rfl (oEnd (kSeq (rSeq (rSeq (rReg (oV (xMove rfl) rfl (oV (xMove rfl) rfl (oEnd (kSeq (rBlk ?_)))))))))))))))))))))))
       replace hs := Sep.nil 26 1 hs
       refine rLoop (fun mz e w => ∃ (i : Nat) (vs : List Value) (ao : Option Addr) (co : Nat), n - i = mz ∧ e = [(0, (.slice a m cp)), (1, (I (n : Int))), (6, (I (z : Int))), (7, (.slice ao i co)), (27, (I (n : Int))), (28, (I (i : Int)))] ∧ (i ≤ n) ∧ (RR f vs (cutsUp l z i)) ∧ Sep W0 w (own 26 1 (.slice ao i co) i vs :: pool f :: L)) ⟨_, _, ⟨0, [], _, _, rfl, rfl, (by omega), (RR.nil), hs⟩, ⟨rfl, rfl, vI hzz.symm, rfl, rfl, rfl, trivial⟩⟩ ?_
       clear hs; rintro mz e w ⟨i, vs, ao, co, rfl, rfl, hi, hr, hs⟩
       refine rSeq (rReg (oV (xCmp rfl rfl rLss) rfl (oEnd (kSeq (rSeq ?_)))))
       refine rCondD rfl (fun hc4 => ?_) (fun hc4 => ?_)
       · have hz1 : (i + 1) * z ≤ n * z := Nat.mul_le_mul_right _ (by omega)
         have hz2 : (i + 1) * z = i * z + z := by rw [Nat.add_mul, Nat.one_mul]
         have hz3 : ((i : Int) + 1) * (z : Int) = (i : Int) * (z : Int) + (z : Int) := by rw [Int.add_mul, Int.one_mul]
         refine rSkip (kSeq (rSeq (rBlk (rSeq (rReg (oV (xMove rfl) rfl (oV (xAssign rfl) rfl (oEnd (kSeq (rReg (oV (xMove rfl) rfl (oV (xMove rfl) rfl (oV (xMove rfl) rfl (oV (xMove rfl) rfl (oV (xAr rfl rfl (rMul (wI (by omega) (by omega)))) rfl (oV (xMove rfl) rfl (oV (xAr rfl rfl (rAdd (wI (by omega) (by omega)))) rfl (oV (xMove rfl) rfl (oV (xAr rfl rfl (rMul (wI (by omega) (by omega)))) rfl ?_)))))))))))))))))))
         obtain ⟨a5, k6, cp7, hb8, hk9, hx10⟩ := RB.slice (P := Tryz.prog) (t := 26) (lo := (i * z)) (hi := ((i + 1) * z)) hb underlying26 sizeOf5 (Bd.some (k := .i64) (i := ((i : Int) * (z : Int))) (by omega)) (Bd.some (k := .i64) (i := (((i : Int) + 1) * (z : Int))) (by omega)) (by omega) (by omega)
         have hl11 := RB.len hb8
         refine oV (xSlice rfl rfl rfl hx10) rfl (oBuildSlice (el := 26) (cs := [(.slice a5 k6 cp7)]) hs rfl (fun w => by kernel_rfl) rfl ?_)
         intro b12 w13 hs14; clear hs
         refine oAppend (inf := Tryz.t26) (size := 1) (bytes := 24) hs14 (i := 1) rfl underlying22 (by kernel_rfl) rfl rfl rfl rfl rfl rfl rfl (src_row hs14 (i := 0) rfl rfl rfl) (by first | omega | (simp only [List.length_append, List.length_cons, List.length_nil, List.length_map]; omega)) (by first | omega | (simp only [List.length_append, List.length_cons, List.length_nil, List.length_map]; omega)) rfl ?_
         intro a15 c16 w17 hs18; clear hs14; dsimp only [List.set] at hs18
         refine oV (xAssign rfl) rfl (oEnd (kBlk (kSeq (rReg (oV (xAr rfl rfl (rAdd (wI (by omega) (by omega)))) rfl (oV (xMove rfl) rfl ?_))))))
         replace hs18 := hs18.d0
         exact oEnd (kLoop (n - (i + 1)) _ (by omega) ⟨i + 1, _, _, _, rfl, rfl, (by omega), (RR.snoc hr hb8), hs18⟩ ⟨rfl, rfl, rfl, rfl, rfl, rfl, trivial⟩)
       · refine rExit (kSeqX (kLoopX (kBlkH (kSeq (rSeq (rReg (oV (xMove rfl) rfl (oV (xAssign rfl) rfl (oV (xAssign rfl) rfl (oEnd (kSeq (rRet (kFin (.tmp rfl (.tmp rfl (.nil))) ?_)))))))))))))
         obtain rfl : i = n := by omega
         replace hs := hs.f1
         have hle0 := cutsUp_length l z i; have hvl := hr.len
         obtain ⟨f1, hle1, hv1, hs1⟩ := Sep.freezeOwn (i := 0) hs rfl
         exact ⟨f1, _, _, _, rfl, hle1, hv1, hr.mono hle1, hs1⟩
theorem mmix_s {W0 w : World} {L : List Asn} {f : HF} {a b : Option Addr} {cp m cq : Nat} {t l : List UInt8} (x : UInt8) (hb : RB f b m cq l) (hlm : t.length = l.length) (hn : t.length ≤ 1000000) (hs : Sep W0 w (own 5 1 (.slice a t.length cp) t.length (t.map B) :: pool f :: L)) :
 Calls Tryz.prog 174 [.slice a t.length cp, .slice b m cq, B x].toArray w (Ret fun r w' => Sep W0 w' (own 5 1 (.slice a t.length cp) t.length ((mixF x t l).map B) :: pool f :: L)) := by
 have hbl := RB.len hb
 have hgl := gAddR_length (x := x) (t := t) (r := l) (by omega)
 refine enter (args := [(.slice a t.length cp), (.slice b m cq), (.int .u8 (x.toNat : Int))]) (n := 29) (rs := []) func174 rfl rfl rfl rfl ?_
 refine rSeq (rSeq (rReg (oV (xMove rfl) rfl (oV (xCmp rfl rfl rEql) rfl (oEnd (kSeq ?_))))))
 refine rCondD rfl (fun hc1 => ?_) (fun hc1 => ?_)
 · have hx0 : x = 0 := UInt8.toNat_inj.1 (by simpa using hc1)
   refine rRet (kSeqR (kFin (.nil) ?_))
   rw [mixF, if_pos hx0]
   exact hs
 · have hx0 : x ≠ 0 := fun hx => hc1 (by subst hx; rfl)
   rw [← mixd_zero (gAddR x t l) t] at hs
   refine rSkip (kSeq (rSeq (rReg (oV (xMove rfl) rfl (oV (xB1 rfl (rLenS underlying26)) rfl (oV (xMove rfl) rfl (oEnd (kSeq (rBlk (rLoop (fun mz e w => ∃ (i : Nat), m - i = mz ∧ e = [(0, (.slice a t.length cp)), (2, (.int .u8 (x.toNat : Int))), (10, (.slice b m cq)), (11, (I (m : Int))), (12, (I (i : Int)))] ∧ (i ≤ m) ∧ Sep W0 w (own 5 1 (.slice a t.length cp) t.length ((mixd (gAddR x t l) t i).map B) :: pool f :: L)) ⟨_, _, ⟨0, rfl, rfl, (by omega), hs⟩, ⟨rfl, rfl, rfl, rfl, rfl, trivial⟩⟩ ?_))))))))))
   clear hs; rintro mz e w ⟨i, rfl, rfl, hi, hs⟩
   have hml := mixd_length' (i := i) hgl (by omega)
   refine rSeq (rReg (oV (xCmp rfl rfl rLss) rfl (oEnd (kSeq (rSeq ?_)))))
   refine rCondD rfl (fun hc2 => ?_) (fun hc2 => ?_)
   · refine rSkip (kSeq (rSeq (rBlk (rSeq (rReg (oV (xMove rfl) rfl ?_))))))
     obtain ⟨b3, off4, rfl⟩ := Reads.at hb (by omega)
     refine oV (xIA (o' := off4 + i) underlying26 sizeOf5 rfl rfl (by omega) (by omega) (by omega)) rfl (oV (xLoadC isAgg5 rfl (Reads.cell hb hs (i := 1) rfl (getB (by omega)))) rfl (oV (xAssign rfl) rfl (oV (xAssign rfl) rfl (oEnd (kSeq ?_)))))
     refine rRegG [(some 11, fun w => ∃ M, Sep W0 w (own 5 1 (.slice a t.length cp) t.length ((mixd (gAddR x t l) t i).map B) :: M))] (by kernel_rfl) hs (fun w5 hs6 => ⟨?_, fun hS => ?_⟩)
     · exact ⟨fun _ => ⟨_, (Sep.front (i := 0) rfl hs6)⟩, trivial⟩
     clear hs
     refine gTake0 0 rfl (by kernel_rfl) hS (fun w => xMove rfl) rfl ?_
     clear hS; intro hS
     refine gTake0 1 rfl (by kernel_rfl) hS (fun w => xMove rfl) rfl ?_
     clear hS; intro hS
     refine gTake0 2 rfl (by kernel_rfl) hS (fun w => xMove rfl) rfl ?_
     clear hS; intro hS
     refine gTake0 3 rfl (by kernel_rfl) hS (fun w => xMove rfl) rfl ?_
     clear hS; intro hS
     obtain ⟨b7, rfl⟩ := Sep.ownAddr (i := 0) hs6 rfl (by omega)
     refine gTake0 4 rfl (by kernel_rfl) hS (fun w => xIA (o' := i) underlying26 sizeOf5 rfl rfl (by omega) (by omega) (by omega)) rfl ?_
     clear hS; intro hS
     refine gTake 5 0 rfl (by kernel_rfl) rfl (by kernel_rfl) hS (fun w hq0 => by obtain ⟨M, hq⟩ := hq0; exact xLoadC isAgg5 rfl (Sep.ownCell hq (i := 0) rfl (getB (by first | omega | (simp only [List.length_append, List.length_set, List.length_cons, List.length_nil, List.length_map, List.length_replicate, mixd_length]; omega))))) rfl ?_
     clear hS; intro hS
     refine gTake0 6 rfl (by kernel_rfl) hS (fun w => xMove rfl) rfl ?_
     clear hS; intro hS
     refine gTake0 7 rfl (by kernel_rfl) hS (fun w => xMove rfl) rfl ?_
     clear hS; intro hS
     refine gEff 8 (by kernel_rfl) rfl ?_
     refine oCall call108 rfl rfl (gmul_s (l.getD i 0) x hs6) ?_
     rintro _ w9 ⟨rfl, hs10⟩; clear hs6
     refine oEnd (kG ⟨fun _ => ⟨_, (Sep.front (i := 0) rfl hs10)⟩, trivial⟩ ?_)
     clear hS; intro hS
     refine gEff 9 (by kernel_rfl) rfl ?_
     refine oCall call107 rfl rfl (gadd_s ((mixd (gAddR x t l) t i).getD i 0) (gmul (l.getD i 0) x) hs10) ?_
     rintro _ w11 ⟨rfl, hs12⟩; clear hs10
     refine oEnd (kG ⟨fun _ => ⟨_, (Sep.front (i := 0) rfl hs12)⟩, trivial⟩ ?_)
     clear hS; intro hS
     refine gTake0 10 rfl (by kernel_rfl) hS (fun w => xIA (o' := i) underlying26 sizeOf5 rfl rfl (by omega) (by omega) (by omega)) rfl ?_
     clear hS; intro hS
     refine gEff 11 (by kernel_rfl) rfl ?_
     refine oStoreO hs12 sizeOf5 rfl rfl rfl (i := 0) rfl (getB (by first | omega | (simp only [List.length_append, List.length_set, List.length_cons, List.length_nil, List.length_map, List.length_replicate, mixd_length]; omega))) ?_
     intro w13 hs14; clear hs12; dsimp only [List.set] at hs14; rw [setB] at hs14
     rw [mixd_set hgl (by omega) (by rw [mixd_get hgl (by omega), gAddR_get (by omega) (by omega)])] at hs14
     refine oEnd (kG ⟨(tillDone (by kernel_rfl)), trivial⟩ ?_)
     clear hS; intro hS
     refine gEnd (by kernel_rfl) ?_
     clear hS
     refine kBlk (kSeq ?_)
     refine rReg (oV (xAr rfl rfl (rAdd (wI (by omega) (by omega)))) rfl (oV (xMove rfl) rfl ?_))
     exact oEnd (kLoop (m - (i + 1)) _ (by omega) ⟨i + 1, rfl, rfl, (by omega), hs14⟩ ⟨rfl, rfl, rfl, rfl, rfl, trivial⟩)
   · refine rExit (kSeqX (kLoopX (kBlkH (kFinN (.nil) ?_))))
     rw [mixd_end hgl (by omega)] at hs
     rw [mixF, if_neg hx0]
     exact hs
end Go.Sl
namespace Go.Sl
open Go.Proofs Go.Proofs.Tryz
theorem mmix_k {W0 w : World} {L : List Asn} {f : HF} {a b : Option Addr} {cp m cq k : Nat} {t l : List UInt8} (x : UInt8) (hb : RB f b m cq l) (hk : t.length = k) (hlm : l.length = k) (hn : k ≤ 1000000) (hs : Sep W0 w (own 5 1 (.slice a k cp) k (t.map B) :: pool f :: L)) :
 Calls Tryz.prog 174 [.slice a k cp, .slice b m cq, B x].toArray w (Ret fun r w' => Sep W0 w' (own 5 1 (.slice a k cp) k ((mixF x t l).map B) :: pool f :: L)) := by
 subst hk
 exact mmix_s x hb hlm.symm hn hs
theorem vrow_get {x : UInt8} {n i : Nat} (h : i < n) : (vrow x n).getD i 0 = vpow x i := by simp [vrow, List.getD_eq_getElem?_getD, h]
theorem cshard_s {W0 w : World} {L : List Asn} {f : HF} {p n k : Nat} (hc : CodeP f p n k) (s : Nat) (hsl : s < n) {a : Option Addr} {cp : Nat} {vs : List Value} {ps : LL} (hv : Reads f 1 (.slice a (k * (k - 1)) cp) (k * (k - 1)) vs) (hr : RR f vs ps) (z : Nat) (hz : z ≤ 10000) (hps : ∀ i, i < k * (k - 1) → (ps.getD i []).length = z) (hpsl : ps.length = k * (k - 1)) (hs : Sep W0 w (pool f :: L)) :
 Calls Tryz.prog 100 [ptr p, .int .i64 s, .slice a (k * (k - 1)) cp].toArray w (Ret fun r w' => ∃ f' a' k' cp', r = .slice a' k' cp' ∧ FLe f f' ∧ RB f' a' k' cp' (shardF k (pt n k s) ps z) ∧ Sep W0 w' (pool f' :: L)) := by
 obtain ⟨hk, h2k, hn24, hpl, ca, ccp, hp, hb⟩ := id hc
 have hbl := RB.len hb
 have hkk : k * (k - 1) ≤ 6 ∧ 2 ≤ k * (k - 1) ∧ 2 ≤ k ∧ k ≤ 3 := by rcases hk with rfl | rfl <;> decide
 have hkz : (k - 1) * z ≤ 2 * 10000 := Nat.mul_le_mul (by omega) hz
 refine enter (args := [(ptr p), (I (s : Int)), (.slice a (k * (k - 1)) cp)]) (n := 49) (rs := [.tmp 6]) func100 rfl rfl rfl rfl ?_
 refine rSeq (rReg (oV (xAssign rfl) rfl (oEnd (kSeq (rSeq (rReg (oV (xAssign rfl) rfl (oEnd (kSeq (rSeq (rReg (oV (xMove rfl) rfl (oV (xMove rfl) rfl (oCall call173 rfl rfl (crow_s hc s (by omega) hs) ?_))))))))))))))
 rintro _ w8 ⟨f1, a2, k3, cp4, rfl, hle5, hb6, hs9⟩; clear hs; have hl7 := RB.len hb6
 replace hc := hc.mono hle5
 replace hv := hv.mono hle5
 replace hr := hr.mono hle5
 replace hp := hp.mono hle5
 have hvl10 := vrow_length (pt n k s) (2 * k - 2)
 refine oV (xAssign rfl) rfl (oEnd (kSeq (rSeq (rSeq (rReg (oV (xMove rfl) rfl (oCall call102 rfl rfl (cparts_s hc hs9) ?_)))))))
 rintro _ w11 ⟨rfl, hs12⟩; clear hs9
 refine oV (xMove rfl) rfl (oEnd (kSeq (rBlk ?_)))
 replace hs12 := Sep.nil 5 1 hs12
 refine rLoop (fun mz e w => ∃ (col : Nat) (ao : Option Addr) (co : Nat), k - 1 - col = mz ∧ e = [(0, (ptr p)), (1, (I (s : Int))), (2, (.slice a (k * (k - 1)) cp)), (7, (.slice ao (col * z) co)), (8, (.slice a2 k3 cp4)), (17, (I ((k - 1 : Nat) : Int))), (18, (I (col : Int)))] ∧ (col ≤ k - 1) ∧ Sep W0 w (own 5 1 (.slice ao (col * z) co) (col * z) ((shardUp k (pt n k s) ps z col).map B) :: pool f1 :: L)) ⟨_, _, ⟨0, _, _, rfl, rfl, (by omega), by rw [Nat.zero_mul]; exact hs12⟩, ⟨rfl, rfl, rfl, by rw [Nat.zero_mul]; rfl, rfl, rfl, rfl, trivial⟩⟩ ?_
 clear hs12; rintro mz e w ⟨col, ao, co, rfl, rfl, hcol, hs⟩
 refine rSeq (rReg (oV (xCmp rfl rfl rLss) rfl (oEnd (kSeq (rSeq ?_)))))
 refine rCondD rfl (fun hc13 => ?_) (fun hc13 => ?_)
 · have hcz : (col + 1) * z ≤ (k - 1) * z := Nat.mul_le_mul_right _ (by omega)
   have hcz2 : (col + 1) * z = col * z + z := by rw [Nat.add_mul, Nat.one_mul]
   have hz0 := hps 0 (by omega)
   refine rSkip (kSeq (rSeq (rBlk (rSeq (rReg (oV (xMove rfl) rfl (oV (xAssign rfl) rfl (oEnd (kSeq (rSeq (rReg (oV (xMove rfl) rfl ?_))))))))))))
   obtain ⟨b14, off15, rfl⟩ := Reads.at hv (by omega)
   refine oV (xIA (o' := off15 + 0) underlying22 sizeOf26 rfl rfl (by omega) (by omega) (by omega)) rfl ?_
   obtain ⟨a16, k17, cp18, he19, hb20⟩ := RR.get hr 0 (by omega)
   have hl21 := RB.len hb20
   refine oV (xLoadC isAgg26 rfl (Reads.cell hv hs (i := 1) rfl he19)) rfl (oV (xB1 rfl (rLenS underlying26)) rfl (oMake (k := k17) (c := k17) (size := 1) (bytes := 1) (inf := Tryz.t5) hs underlying26 (by kernel_rfl) rfl rfl rfl rfl rfl (by omega) (by omega) (by omega) (by omega) (by omega) rfl ?_))
   intro b22 w23 hs24; clear hs
   rw [made1 (.int .u8 0) rfl] at hs24
   rw [show k17 = z by omega] at hs24
   rw [show k17 = z by omega]
   refine oV (xAssign rfl) rfl (oEnd (kSeq (rSeq (rSeq (rReg (oV (xMove rfl) rfl (oV (xB1 rfl (rLenS underlying26)) rfl (oV (xMove rfl) rfl (oEnd (kSeq (rBlk ?_)))))))))))
   refine rLoop (fun mz e w => ∃ (i : Nat), 2 * k - 2 - i = mz ∧ e = [(0, (ptr p)), (1, (I (s : Int))), (2, (.slice (some ⟨b14, off15, none⟩) (k * (k - 1)) cp)), (7, (.slice ao (col * z) co)), (8, (.slice a2 k3 cp4)), (9, (I (col : Int))), (10, (.slice (some ⟨b22, 0, none⟩) z z)), (17, (I ((k - 1 : Nat) : Int))), (18, (I (col : Int))), (26, (.slice a2 k3 cp4)), (27, (I (k3 : Int))), (28, (I (i : Int)))] ∧ (i ≤ 2 * k - 2) ∧ Sep W0 w (own 5 1 (.slice (some ⟨b22, 0, none⟩) z z) z ((colF k (pt n k s) ps z col i).map B) :: own 5 1 (.slice ao (col * z) co) (col * z) ((shardUp k (pt n k s) ps z col).map B) :: pool f1 :: L)) ⟨_, _, ⟨0, rfl, rfl, (by omega), by have e : (colF k (pt n k s) ps z col 0).map B = List.replicate z (Value.int .u8 0) := (by rw [colF, List.map_replicate]; rfl); rw [e]; exact hs24⟩, ⟨rfl, rfl, rfl, rfl, rfl, rfl, rfl, rfl, rfl, rfl, rfl, rfl, trivial⟩⟩ ?_
   clear hs24; rintro mz e w ⟨i, rfl, rfl, hi, hs⟩
   have hcf := colF_length (x := pt n k s) hk (show col < k - 1 by omega) hps hi
   refine rSeq (rReg (oV (xCmp rfl rfl rLss) rfl (oEnd (kSeq (rSeq ?_)))))
   refine rCondD rfl (fun hc25 => ?_) (fun hc25 => ?_)
   · have hpn := placeN_lt (row := i) hk (by omega) (show col < k - 1 by omega); have hpz := hps _ hpn
     refine rSkip (kSeq (rSeq (rBlk (rSeq (rReg (oV (xMove rfl) rfl ?_))))))
     obtain ⟨b26, off27, rfl⟩ := Reads.at hb6 (by omega)
     refine oV (xIA (o' := off27 + i) underlying26 sizeOf5 rfl rfl (by omega) (by omega) (by omega)) rfl (oV (xLoadC isAgg5 rfl (Reads.cell hb6 hs (i := 2) rfl (getB (by omega)))) rfl (oV (xAssign rfl) rfl (oV (xAssign rfl) rfl (oEnd (kSeq (rReg (oV (xMove rfl) rfl (oV (xMove rfl) rfl (oV (xMove rfl) rfl (oV (xMove rfl) rfl (oV (xMove rfl) rfl ?_)))))))))))
     replace hs := hs.f2
     refine oCall call175 rfl rfl (cplace_s hc i col (by omega) (by omega) hs) ?_
     rintro _ w28 ⟨rfl, hs29⟩; clear hs
     refine oV (xIA (o' := off15 + (placeN k i col : Nat)) underlying22 sizeOf26 rfl rfl (by omega) (by omega) (by omega)) rfl ?_
     obtain ⟨a30, k31, cp32, he33, hb34⟩ := RR.get hr (placeN k i col : Nat) (by omega)
     have hl35 := RB.len hb34
     refine oV (xLoadC isAgg26 rfl (Reads.cell hv hs29 (i := 0) rfl he33)) rfl (oV (xMove rfl) rfl ?_)
     replace hs29 := hs29.f1
     refine oCall call174 rfl rfl (mmix_k ((vrow (pt n k s) (2 * k - 2)).getD i 0) hb34 (hcf) (hpz) (by omega) hs29) ?_
     intro r36 w37 hs38; clear hs29
     refine oEnd (kBlk (kSeq (rReg (oV (xAr rfl rfl (rAdd (wI (by omega) (by omega)))) rfl (oV (xMove rfl) rfl ?_)))))
     rw [vrow_get (by omega)] at hs38
     replace hs38 := hs38.f1
     replace hs38 := hs38.f2
     replace hs38 := hs38.f2
     exact oEnd (kLoop (2 * k - 2 - (i + 1)) _ (by omega) ⟨i + 1, rfl, rfl, (by omega), hs38⟩ ⟨rfl, rfl, rfl, rfl, rfl, rfl, rfl, rfl, rfl, rfl, rfl, rfl, trivial⟩)
   · refine rExit (kSeqX (kLoopX (kBlkH (kSeq (rReg (oV (xMove rfl) rfl (oV (xMove rfl) rfl (oAppend (inf := Tryz.t5) (size := 1) (bytes := 1) hs (i := 1) rfl underlying26 (by kernel_rfl) rfl rfl rfl rfl rfl rfl rfl (src_own hs (i := 0) rfl (oneB _)) (by first | omega | (simp only [List.length_append, List.length_cons, List.length_nil, List.length_map]; omega)) (by first | omega | (simp only [List.length_append, List.length_cons, List.length_nil, List.length_map]; omega)) rfl ?_))))))))
     intro a39 c40 w41 hs42; clear hs; dsimp only [List.set] at hs42
     refine oV (xAssign rfl) rfl (oEnd (kBlk (kSeq (rReg (oV (xAr rfl rfl (rAdd (wI (by omega) (by omega)))) rfl (oV (xMove rfl) rfl ?_))))))
     obtain rfl : i = 2 * k - 2 := by omega
     rw [← List.map_append] at hs42
     replace hs42 := hs42.d0
     exact oEnd (kLoop (k - 1 - (col + 1)) _ (by omega) ⟨col + 1, a39, c40, rfl, rfl, (by omega), by rw [Nat.add_mul, Nat.one_mul]; exact hs42⟩ ⟨rfl, rfl, rfl, by rw [Nat.add_mul, Nat.one_mul]; rfl, rfl, rfl, rfl, trivial⟩)
 · refine rExit (kSeqX (kLoopX (kBlkH (kSeq (rSeq (rReg (oV (xMove rfl) rfl (oV (xAssign rfl) rfl (oEnd (kSeq (rRet (kFin (.tmp rfl (.nil)) ?_))))))))))))
   replace hs := hs.f1
   obtain rfl : col = k - 1 := by omega
   obtain ⟨f1, hle1, hb1, hs1⟩ := Sep.freezeOwn (i := 0) hs rfl
   exact ⟨f1, _, _, _, rfl, FLe.trans hle5 hle1, hb1, hs1⟩
theorem cenc_s {W0 w : World} {L : List Asn} {f : HF} {p n k : Nat} (hc : CodeP f p n k) {a : Option Addr} {m cp : Nat} {l : List UInt8} (hb2 : RB f a m cp l) (z : Nat) (hz1 : 1 ≤ z) (hz : z ≤ 10000) (hzl : m = k * (k - 1) * z) (hs : Sep W0 w (pool f :: L)) :
 Calls Tryz.prog 48 [ptr p, .slice a m cp].toArray w (Ret fun r w' => ∃ f' a' c' vs, r = .tuple #[.slice a' n c', .int .i64 0] ∧ FLe f f' ∧ Reads f' 1 (.slice a' n c') n vs ∧ RR f' vs (encF n k l) ∧ Sep W0 w' (pool f' :: L)) := by
 obtain ⟨hk, h2k, hn24, hpl, ca, ccp, hp, hb⟩ := id hc
 have hbl := RB.len hb
 have hkk : k * (k - 1) ≤ 6 ∧ 2 ≤ k * (k - 1) ∧ 2 ≤ k ∧ k ≤ 3 := by rcases hk with rfl | rfl <;> decide
 have hbl2 := RB.len hb2
 have hkz : k * (k - 1) * z ≤ 6 * 10000 := Nat.mul_le_mul (by omega) hz
 have hzq : l.length / (k * (k - 1)) = z := by rw [hbl2, hzl]; exact Nat.mul_div_cancel_left _ (by omega)
 refine enter (args := [(ptr p), (.slice a m cp)]) (n := 35) (rs := [.tmp 4, .tmp 5]) func48 rfl rfl rfl rfl ?_
 refine rSeq (rReg (oV (xAssign rfl) rfl (oV (xAssign rfl) rfl (oEnd (kSeq (rSeq (rReg (oV (xMove rfl) rfl (oV (xMove rfl) rfl (oCall call99 rfl rfl (csym_s hc hs) ?_))))))))))
 rintro _ w1 ⟨rfl, hs2⟩; clear hs
 refine oCall call98 rfl rfl (mparts_s hb2 (k * (k - 1) : Nat) z (by omega) (by omega) (by omega) (hzl) (by omega) hs2) ?_
 rintro _ w10 ⟨f3, a4, c5, vs6, rfl, hle7, hv8, hr9, hs11⟩; clear hs2
 replace hc := hc.mono hle7
 replace hb2 := hb2.mono hle7
 replace hp := hp.mono hle7
 refine oV (xMove rfl) rfl (oV (xExtract rfl rfl) rfl (oV (xExtract rfl rfl) rfl (oV (xAssign rfl) rfl (oV (xAssign rfl) rfl (oEnd (kSeq (rSeq (rSeq (rReg (oV (xMove rfl) rfl (oV (xNot rfl) rfl (oEnd (kSeq (rCondF rfl (rSkip (kSeq (rSeq (rReg (oV (xAssign rfl) rfl (oEnd (kSeq (rSeq (rSeq (rReg (oV (xMove rfl) rfl (oV (xNil rfl) rfl (oV (xFA (j' := 0) underlying206 rfl sizeOf3 rfl rfl) rfl (oV (xLoadC isAgg3 rfl (PR.cell hp hs11 (i := 0) rfl rfl)) rfl (oV (xMove rfl) rfl (oEnd (kSeq (rBlk ?_))))))))))))))))))))))))))))))))
 replace hs11 := Sep.nil 26 1 hs11
 have hpz : ∀ i, i < k * (k - 1) → ((cutsUp l z (k * (k - 1))).getD i []).length = z := fun i hi => by rw [cutsUp_at hi]; exact cutAt_length (n := k * (k - 1)) (by omega) hi
 have hcl := cutsUp_length l z (k * (k - 1))
 refine rLoop (fun mz e w => ∃ (s : Nat) (vso : List Value) (ao : Option Addr) (co : Nat) (f1 : HF), n - s = mz ∧ e = [(0, (ptr p)), (6, (.slice a4 (k * (k - 1) : Nat) c5)), (8, (.slice ao s co)), (22, (I (n : Int))), (23, (I (s : Int)))] ∧ (s ≤ n) ∧ (FLe f f1) ∧ (CodeP f1 p n k) ∧ (Reads f1 1 (.slice a4 (k * (k - 1) : Nat) c5) (k * (k - 1) : Nat) vs6) ∧ (RR f1 vs6 (cutsUp l z (k * (k - 1) : Nat))) ∧ (RR f1 vso (encUp n k l z s)) ∧ Sep W0 w (own 26 1 (.slice ao s co) s vso :: pool f1 :: L)) ⟨_, _, ⟨0, [], _, _, f3, rfl, rfl, (by omega), (hle7), (hc), (hv8), (hr9), (RR.nil), hs11⟩, ⟨rfl, rfl, rfl, rfl, rfl, trivial⟩⟩ ?_
 clear hs11; rintro mz e w ⟨s, vso, ao, co, f1, rfl, rfl, hi, hle, hc, hv, hr, hro, hs⟩
 obtain ⟨hk, h2k, hn24, hpl, _⟩ := id hc
 refine rSeq (rReg (oV (xCmp rfl rfl rLss) rfl (oEnd (kSeq (rSeq ?_)))))
 refine rCondD rfl (fun hc12 => ?_) (fun hc12 => ?_)
 · refine rSkip (kSeq (rSeq (rBlk (rSeq (rReg (oV (xMove rfl) rfl (oV (xAssign rfl) rfl (oEnd (kSeq (rReg (oV (xMove rfl) rfl (oV (xMove rfl) rfl (oV (xMove rfl) rfl (oV (xMove rfl) rfl ?_))))))))))))))
   replace hs := hs.f1
   refine oCall call100 rfl rfl (cshard_s hc s (by omega) hv hr z (by omega) hpz hcl hs) ?_
   rintro _ w20 ⟨f13, a14, k15, cp16, rfl, hle17, hb18, hs21⟩; clear hs; have hl19 := RB.len hb18
   replace hc := hc.mono hle17
   replace hv := hv.mono hle17
   replace hr := hr.mono hle17
   replace hro := hro.mono hle17
   refine oBuildSlice (el := 26) (cs := [(.slice a14 k15 cp16)]) hs21 rfl (fun w => by kernel_rfl) rfl ?_
   intro b22 w23 hs24; clear hs21
   refine oAppend (inf := Tryz.t26) (size := 1) (bytes := 24) hs24 (i := 2) rfl underlying22 (by kernel_rfl) rfl rfl rfl rfl rfl rfl rfl (src_row hs24 (i := 0) rfl rfl rfl) (by first | omega | (simp only [List.length_append, List.length_cons, List.length_nil, List.length_map]; omega)) (by first | omega | (simp only [List.length_append, List.length_cons, List.length_nil, List.length_map]; omega)) rfl ?_
   intro a25 c26 w27 hs28; clear hs24; dsimp only [List.set] at hs28
   refine oV (xAssign rfl) rfl (oEnd (kBlk (kSeq (rReg (oV (xAr rfl rfl (rAdd (wI (by omega) (by omega)))) rfl (oV (xMove rfl) rfl ?_))))))
   replace hs28 := hs28.d0
   replace hs28 := hs28.f1
   exact oEnd (kLoop (n - (s + 1)) _ (by omega) ⟨s + 1, _, _, _, f13, rfl, rfl, (by omega), (FLe.trans hle hle17), (hc), (hv), (hr), (RR.snoc hro hb18), hs28⟩ ⟨rfl, rfl, rfl, rfl, rfl, trivial⟩)
 · refine rExit (kSeqX (kLoopX (kBlkH (kSeq (rSeq (rReg (oV (xMove rfl) rfl (oV (xAssign rfl) rfl (oV (xAssign rfl) rfl (oEnd (kSeq (rRet (kFin (.tmp rfl (.tmp rfl (.nil))) ?_)))))))))))))
   replace hs := hs.f1
   obtain rfl : s = n := by omega
   rw [encF, hzq]
   obtain ⟨f2, hle2, hv2, hs2⟩ := Sep.freezeOwn (i := 0) hs rfl
   exact ⟨f2, _, _, _, rfl, FLe.trans hle hle2, hv2, hro.mono hle2, hs2⟩
theorem cnew_s {W0 w : World} {L : List Asn} {f : HF} (n k : Nat) (hk : k = 2 ∨ k = 3) (h2k : 2 * k - 1 ≤ n) (hn24 : n ≤ 24) (hpl : (pts n (k - 1)).length = n) (hs : Sep W0 w (pool f :: L)) :
 Calls Tryz.prog 47 [.int .i64 n, .int .i64 k].toArray w (Ret fun r w' => ∃ f' p, r = .tuple #[ptr p, .int .i64 0] ∧ FLe f f' ∧ CodeP f' p n k ∧ Sep W0 w' (pool f' :: L)) := by
 refine enter (args := [(I (n : Int)), (I (k : Int))]) (n := 40) (rs := [.tmp 4, .tmp 5]) func47 rfl rfl rfl rfl ?_
 refine rSeq (rReg (oV (xAssign rfl) rfl (oV (xAssign rfl) rfl (oEnd (kSeq (rSeq (rSeq (rReg (oV (xMove rfl) rfl (oV (xCmp rfl rfl rLss) rfl (oV (xMove rfl) rfl ?_)))))))))))
 refine oCase (d := 10) rfl (fun hg1 => ?_) (fun hg1 => ?_)
 · replace hg1 := of_decide_eq_true hg1
   refine oGuardF rfl rfl rfl rfl (oGuardF rfl rfl rfl rfl (oV (xPickT rfl rfl) rfl (oV (xMove rfl) rfl (oGuardF rfl rfl rfl rfl (oGuardF rfl rfl rfl rfl (oGuardF rfl rfl rfl rfl (oGuardF rfl rfl rfl rfl (oGuardF rfl rfl rfl rfl (oV (xPickT rfl rfl) rfl (oV (xMove rfl) rfl (oGuardF rfl rfl rfl rfl (oGuardF rfl rfl rfl rfl (oV (xPickT rfl rfl) rfl (oEnd (kSeq (rCondT rfl (rSeq (rReg (oV (xAssign rfl) rfl (oV (xAssign rfl) rfl (oEnd (kSeq (rRet (kSeqR (kFin (.tmp rfl (.tmp rfl (.nil))) ?_)))))))))))))))))))))))))
   exfalso; omega
 · replace hg1 := of_decide_eq_false hg1
   refine oGuardT rfl rfl (oV (xMove rfl) rfl (oGuardT rfl rfl (oV (xCmp rfl rfl rGtr) rfl (oV (xPickF rfl rfl) rfl (oV (xMove rfl) rfl ?_)))))
   refine oCase (d := 14) rfl (fun hg2 => ?_) (fun hg2 => ?_)
   · replace hg2 := of_decide_eq_true hg2
     refine oGuardF rfl rfl rfl rfl (oGuardF rfl rfl rfl rfl (oGuardF rfl rfl rfl rfl (oGuardF rfl rfl rfl rfl (oGuardF rfl rfl rfl rfl (oV (xPickT rfl rfl) rfl (oV (xMove rfl) rfl (oGuardF rfl rfl rfl rfl (oGuardF rfl rfl rfl rfl (oV (xPickT rfl rfl) rfl (oEnd (kSeq (rCondT rfl (rSeq (rReg (oV (xAssign rfl) rfl (oV (xAssign rfl) rfl (oEnd (kSeq (rRet (kSeqR (kFin (.tmp rfl (.tmp rfl (.nil))) ?_)))))))))))))))))))))
     exfalso; omega
   · replace hg2 := of_decide_eq_false hg2
     refine oGuardT rfl rfl (oV (xMove rfl) rfl (oGuardT rfl rfl (oV (xMove rfl) rfl (oGuardT rfl rfl (oV (xAr rfl rfl (rMul (wI (by omega) (by omega)))) rfl (oGuardT rfl rfl (oV (xAr rfl rfl (rSub (wI (by omega) (by omega)))) rfl (oGuardT rfl rfl (oV (xCmp rfl rfl rLss) rfl (oV (xPickF rfl rfl) rfl (oV (xMove rfl) rfl ?_)))))))))))
     refine oCase (d := 21) rfl (fun hg3 => ?_) (fun hg3 => ?_)
     · replace hg3 := of_decide_eq_true hg3
       refine oGuardF rfl rfl rfl rfl (oGuardF rfl rfl rfl rfl (oV (xPickT rfl rfl) rfl (oEnd (kSeq (rCondT rfl (rSeq (rReg (oV (xAssign rfl) rfl (oV (xAssign rfl) rfl (oEnd (kSeq (rRet (kSeqR (kFin (.tmp rfl (.tmp rfl (.nil))) ?_))))))))))))))
       exfalso; omega
     · replace hg3 := of_decide_eq_false hg3
       refine oGuardT rfl rfl (oV (xMove rfl) rfl (oGuardT rfl rfl (oV (xCmp rfl rfl rGtr) rfl (oV (xPickF rfl rfl) rfl (oEnd (kSeq ?_))))))
       refine rCondD rfl (fun hc4 => ?_) (fun hc4 => ?_)
       · refine rSeq (rReg (oV (xAssign rfl) rfl (oV (xAssign rfl) rfl (oEnd (kSeq (rRet (kSeqR (kFin (.tmp rfl (.tmp rfl (.nil))) ?_))))))))
         exfalso; omega
       · refine rSkip (kSeq (rSeq (rReg (oV (xMove rfl) rfl (oV (xMove rfl) rfl (oV (xAr (r := ((k - 1 : Nat) : Int)) rfl rfl (rSub (by rw [wI (by omega) (by omega)]; omega))) rfl (oCall call97 rfl rfl (pts_s n (k - 1) (by omega) (by omega) (by omega) (by omega) (by first | assumption | omega) hs) ?_)))))))
         rintro _ w11 ⟨f5, a6, k7, c8, rfl, hle9, hb10, hs12⟩; clear hs; have hl13 := RB.len hb10
         refine oV (xMove rfl) rfl (oV (xExtract rfl rfl) rfl (oV (xExtract rfl rfl) rfl (oV (xAssign rfl) rfl (oV (xAssign rfl) rfl (oEnd (kSeq (rSeq (rSeq (rReg (oV (xMove rfl) rfl (oV (xCmp (r := false) rfl rfl rNeq) rfl (oEnd (kSeq (rCondF rfl (rSkip (kSeq (rSeq (rReg (oV (xMove rfl) rfl (oV (xMove rfl) rfl (oV (xMove rfl) rfl (oV (xBuild (v := (.agg #[(I (n : Int)), (I (k : Int)), (.slice a6 k7 c8)])) rfl (fun w => by kernel_rfl)) rfl (oBox hs12 rfl rfl rfl ?_)))))))))))))))))))))))
         intro b14 w15 hs16; clear hs12
         refine oV (xAssign rfl) rfl (oV (xAssign rfl) rfl (oEnd (kSeq (rRet (kFin (.tmp rfl (.tmp rfl (.nil))) ?_)))))
         replace hs16 := hs16.f1
         rw [show k7 = n by omega] at hb10 hs16
         obtain ⟨f1, hle1, hp1, hs1⟩ := Sep.freezePR (i := 0) hs16 rfl
         exact ⟨f1, b14, rfl, FLe.trans hle9 hle1, ⟨hk, h2k, hn24, hpl, _, _, hp1, hb10.mono hle1⟩, hs1⟩
end Go.Sl
namespace Go.Sl
abbrev Prt := Nat × List UInt8
abbrev prt (ps : List Prt) (j : Nat) : Prt := ps.getD j (0, [])
structure PsR (f : HF) (cs : List Value) (ps : List Prt) : Prop where
  len : cs.length = 2 * ps.length
  get : ∀ j, j < ps.length → ∃ a m cp, takeAt cs (j * 2) 2 = some [I ((prt ps j).1 : Int), .slice a m cp] ∧ RB f a m cp (prt ps j).2
theorem PsR.mono {f f' : HF} {cs : List Value} {ps : List Prt} (h : PsR f cs ps) (hf : FLe f f') : PsR f' cs ps :=
  ⟨h.len, fun j hj => let ⟨a, m, cp, h1, h2⟩ := h.get j hj; ⟨a, m, cp, h1, h2.mono hf⟩⟩
theorem PsR.nil {f : HF} : PsR f [] [] := ⟨rfl, fun j hj => by simp at hj⟩
theorem takeAt_two {cs : List Value} {j : Nat} {u v : Value} (h1 : cs[j]? = some u) (h2 : cs[j + 1]? = some v) : takeAt cs j 2 = some [u, v] := by simp [takeAt, h1, h2]
theorem PsR.snoc {f : HF} {cs : List Value} {ps : List Prt} {s : Nat} {a : Option Addr} {m cp : Nat} {l : List UInt8} (h : PsR f cs ps) (hb : RB f a m cp l) : PsR f (cs ++ [I (s : Int), .slice a m cp]) (ps ++ [(s, l)]) := by
  refine ⟨by simp [h.len]; omega, fun j hj => ?_⟩
  by_cases hj2 : j < ps.length
  · obtain ⟨a', m', cp', h1, h2⟩ := h.get j hj2
    have e : prt (ps ++ [(s, l)]) j = prt ps j := by simp [prt, List.getD_eq_getElem?_getD, List.getElem?_append_left hj2]
    rw [e]
    refine ⟨a', m', cp', ?_, h2⟩
    have hl := h.len
    have h3 := takeAt_get (i := 0) h1 rfl
    have h4 := takeAt_get (i := 1) h1 rfl
    exact takeAt_two (by rw [List.getElem?_append_left (by omega)]; exact h3) (by rw [List.getElem?_append_left (by omega)]; exact h4)
  · simp only [List.length_append, List.length_singleton] at hj
    obtain rfl : j = ps.length := by omega
    have e : prt (ps ++ [(s, l)]) ps.length = (s, l) := by simp [prt, List.getD_eq_getElem?_getD]
    rw [e]
    have hl := h.len
    refine ⟨a, m, cp, takeAt_two ?_ ?_, hb⟩
    · rw [List.getElem?_append_right (by omega), show ps.length * 2 - cs.length = 0 by omega]; rfl
    · rw [List.getElem?_append_right (by omega), show ps.length * 2 + 1 - cs.length = 1 by omega]; rfl
theorem PsR.take {f : HF} {cs : List Value} {ps : List Prt} (h : PsR f cs ps) {k : Nat} (hk : k ≤ ps.length) : PsR f ((cs.drop (0 * 2)).take ((k - 0) * 2)) (ps.take k) := by
  have hl := h.len
  refine ⟨by simp; omega, fun j hj => ?_⟩
  have hj' : j < k := by simp at hj; omega
  obtain ⟨a, m, cp, h1, h2⟩ := h.get j (by omega)
  have e : prt (ps.take k) j = prt ps j := by simp [prt, List.getD_eq_getElem?_getD, List.getElem?_take, hj']
  rw [e]
  refine ⟨a, m, cp, ?_, h2⟩
  have h3 := takeAt_get (i := 0) h1 rfl
  have h4 := takeAt_get (i := 1) h1 rfl
  simp only [Nat.zero_mul, List.drop_zero, Nat.sub_zero]
  refine takeAt_two ?_ ?_
  · rw [List.getElem?_take, if_pos (by omega)]; simpa using h3
  · rw [List.getElem?_take, if_pos (by omega)]; exact h4
theorem PsR.one {f : HF} {cs : List Value} {ps : List Prt} (h : PsR f cs ps) : ∀ u ∈ cs, u.oneCell' = true := by
  intro u hu
  obtain ⟨i, hi, rfl⟩ := List.getElem_of_mem hu
  have hl := h.len
  obtain ⟨a, m, cp, h1, h2⟩ := h.get (i / 2) (by omega)
  rcases (by omega : i % 2 = 0 ∨ i % 2 = 1) with h3 | h3
  · have h4 := takeAt_get (i := 0) h1 rfl
    rw [show i / 2 * 2 + 0 = i by omega, List.getElem?_eq_getElem hi] at h4
    simp at h4; rw [h4]; rfl
  · have h4 := takeAt_get (i := 1) h1 rfl
    rw [show i / 2 * 2 + 1 = i by omega, List.getElem?_eq_getElem hi] at h4
    simp at h4; rw [h4]; rfl
def seenN (ps : List Prt) : Nat → Bool := fun s => ps.any fun p => p.1 == s
theorem seenN_snoc {ps : List Prt} {i : Nat} (h : i < ps.length) : setF (seenN (ps.take i)) (prt ps i).1 true = seenN (ps.take (i + 1)) := by
  have h1 : ps.take (i + 1) = ps.take i ++ [prt ps i] := by
    rw [List.take_add_one, prt, List.getD_eq_getElem?_getD, List.getElem?_eq_getElem h]; rfl
  funext s
  rw [h1]
  simp only [setF, seenN, List.any_append, List.any_cons, List.any_nil, Bool.or_false]
  by_cases hs : s = (prt ps i).1
  · rw [if_pos hs, hs]; simp
  · have : ((prt ps i).1 == s) = false := by simpa using fun h2 => hs h2.symm
    rw [if_neg hs, this, Bool.or_false]
structure PsOk (ps : List Prt) (n m : Nat) : Prop where
  slot : ∀ j, j < ps.length → (prt ps j).1 < n
  size : ∀ j, j < ps.length → (prt ps j).2.length = m
  new : ∀ j, j < ps.length → seenN (ps.take j) (prt ps j).1 = false
def xRow (k z i : Nat) (l : List UInt8) : List UInt8 := (List.range (k - 1)).map fun c => l.getD (c * z + i) 0
abbrev sl (ps : List Prt) (j : Nat) : Nat := (prt ps j).1
abbrev fac (n k : Nat) (ps : List Prt) (j : Nat) : UInt8 := gpow (pt n k (sl ps j)) (k - 1)
abbrev shrt (n k : Nat) (ps : List Prt) (j : Nat) : List UInt8 := vrow (pt n k (sl ps j)) (k - 1)
abbrev get2 (m : LL) (i j : Nat) : UInt8 := (m.getD i []).getD j 0
def set2 (m : LL) (i j : Nat) (b : UInt8) : LL := m.set i ((m.getD i []).set j b)
def yOf (n k : Nat) (ps : List Prt) (x : LL) (i j : Nat) : UInt8 :=
  gmul (dot (x.getD i []) (shrt n k ps j) (k - 1) ^^^ dot (x.getD j []) (shrt n k ps i) (k - 1)) (ginv (fac n k ps i ^^^ fac n k ps j))
def hStep (n k : Nat) (ps : List Prt) (x : LL) (i j : Nat) (s : LL × LL) : LL × LL :=
  let y := yOf n k ps x i j
  let p1 := set2 s.1 i j (dot (x.getD i []) (shrt n k ps j) (k - 1) ^^^ gmul (fac n k ps i) y)
  (set2 p1 j i (get2 p1 i j), set2 (set2 s.2 i j y) j i y)
def hRow (n k : Nat) (ps : List Prt) (x : LL) (i : Nat) (s : LL × LL) : Nat → LL × LL
  | 0 => s
  | j + 1 => hStep n k ps x i j (hRow n k ps x i s j)
def hAll (n k : Nat) (ps : List Prt) (x : LL) : Nat → LL × LL
  | 0 => (List.replicate k (List.replicate k 0), List.replicate k (List.replicate k 0))
  | i + 1 => hRow n k ps x i (hAll n k ps x i) i
def wA (n k : Nat) (ps : List Prt) (i : Nat) : Nat → LL
  | 0 => []
  | j + 1 => if j ≠ i then wA n k ps i j ++ [shrt n k ps j] else wA n k ps i j
def wBs (m : LL) (i : Nat) : Nat → LL
  | 0 => []
  | j + 1 => if j ≠ i then wBs m i j ++ [[get2 m i j]] else wBs m i j
def firsts (l : LL) : List UInt8 := l.map fun r => r.getD 0 0
def wRows (n k : Nat) (ps : List Prt) (m : LL) : Nat → LL
  | 0 => []
  | i + 1 => wRows n k ps m i ++ [firsts (solF (k - 1) (wA n k ps i k) (wBs m i k)).1.2]
def wC (n k : Nat) (ps : List Prt) : Nat → LL
  | 0 => []
  | j + 1 => wC n k ps j ++ [shrt n k ps j]
def wholeF (n k : Nat) (ps : List Prt) (m : LL) : LL := (solF (k - 1) (wC n k ps (k - 1)) (wRows n k ps m (k - 1))).1.2
def putRow (k z at' fr : Nat) (half : LL) (i : Nat) (out : List UInt8) : Nat → List UInt8
  | 0 => out
  | j + 1 => (putRow k z at' fr half i out j).set (placeN k (fr + i) (i + j) * z + at') (get2 half i (i + j))
def putAll (k z at' fr : Nat) (half : LL) (out : List UInt8) : Nat → List UInt8
  | 0 => out
  | i + 1 => putRow k z at' fr half i (putAll k z at' fr half out i) (k - 1 - i)
def xAll (k z i : Nat) (ps : List Prt) : LL := (ps.take k).map fun p => xRow k z i p.2
def decB (n k z : Nat) (ps : List Prt) (i : Nat) (out : List UInt8) : List UInt8 :=
  let h := hAll n k ps (xAll k z i ps) k
  putAll k z i (k - 1) (wholeF n k ps h.2) (putAll k z i 0 (wholeF n k ps h.1) out (k - 1)) (k - 1)
def decUp (n k z : Nat) (ps : List Prt) : Nat → List UInt8
  | 0 => List.replicate (k * (k - 1) * z) 0
  | i + 1 => decB n k z ps i (decUp n k z ps i)
def decF (n k z : Nat) (ps : List Prt) : List UInt8 := decUp n k z ps z
structure DecOk (n k : Nat) (ps : List Prt) : Prop where
  ne : ∀ i j, j < i → i < k → (fac n k ps i ^^^ fac n k ps j).toNat ≠ 0
  full : ∀ i, i < k - 1 → (solF (k - 1) (wA n k ps i k) []).2.length = k - 1
  fullC : (solF (k - 1) (wC n k ps (k - 1)) []).2.length = k - 1
theorem stepsF_ind {n : Nat} : ∀ {f col : Nat} {a b b' : LL} {cols : List Nat}, (stepsF n f col (a, b) cols).2 = (stepsF n f col (a, b') cols).2 ∧ (stepsF n f col (a, b) cols).1.1 = (stepsF n f col (a, b') cols).1.1
  | 0, _, _, _, _, _ => ⟨rfl, rfl⟩
  | f + 1, col, a, b, b', cols => by
    have key : ∀ {at' c : Nat} {p p' : LL × LL}, p.1 = p'.1 → ∀ i, (clrF at' c p i).1 = (clrF at' c p' i).1 := by
      intro at' c p p' h i
      induction i with
      | zero => simp only [clrF, clr0]; rw [h]
      | succ i ih =>
        simp only [clrF, clr1]
        rw [ih]
        split <;> rename_i hh
        · rfl
        · exact ih
    simp only [stepsF]
    split
    · exact stepsF_ind
    · rename_i k hk
      have h1 : (clrF cols.length col (swp cols.length k (a, b)) n).1 = (clrF cols.length col (swp cols.length k (a, b')) n).1 := key (p := swp cols.length k (a, b)) (p' := swp cols.length k (a, b')) rfl n
      split
      · exact ⟨rfl, h1⟩
      · generalize hp : clrF cols.length col (swp cols.length k (a, b)) n = p at *
        generalize hq : clrF cols.length col (swp cols.length k (a, b')) n = q at *
        obtain ⟨p1, p2⟩ := p
        obtain ⟨q1, q2⟩ := q
        simp only at h1
        subst h1
        exact stepsF_ind
theorem solF_full {n : Nat} {a : LL} (b : LL) (h : (solF n a []).2.length = n) : (solF n a b).2.length = n := by
  unfold solF at *
  rw [(stepsF_ind (b := b) (b' := [])).1]
  exact h
end Go.Sl
namespace Go.Sl
open Go.Proofs Go.Proofs.Tryz
theorem solF_shape {n d : Nat} {la lb : LL} (ha : Shape la n n) (hb : Shape lb n d) (h1 : 1 ≤ n) : Shp (solF n la lb).1 n n d := stepsF_shape ⟨ha, hb⟩ h1
theorem grid_s {W0 w : World} {L : List Asn} {f : HF} {a b : Option Addr} {n ca cb d : Nat} {va vb : List Value} {la lb : LL} (hva : Reads f 1 (.slice a n ca) n va) (hra : RR f va la) (hvb : Reads f 1 (.slice b n cb) n vb) (hrb : RR f vb lb) (hca : ∀ x ∈ la, x.length = n) (hcb : ∀ x ∈ lb, x.length = d) (h1 : 1 ≤ n) (h2 : n ≤ 64) (h3 : 1 ≤ d) (h4 : d ≤ 64) (hfull : (solF n la lb).2.length = n) (hs : Sep W0 w (pool f :: L)) :
 Calls Tryz.prog 262 [.slice a n ca, .slice b n cb].toArray w (Ret fun r w' => ∃ f' a' c' vs, r = .slice a' n c' ∧ FLe f f' ∧ Reads f' 1 (.slice a' n c') n vs ∧ RR f' vs (solF n la lb).1.2 ∧ Sep W0 w' (pool f' :: L)) := by
 have hla : la.length = n := by have := hra.len; have := hva.1; omega
 have hlb : lb.length = n := by have := hrb.len; have := hvb.1; omega
 have hsp := solF_shape ⟨hla, hca⟩ ⟨hlb, hcb⟩ h1
 have hsl := hsp.2.len
 refine enter (args := [(.slice a n ca), (.slice b n cb)]) (n := 48) (rs := [.tmp 4]) func262 rfl rfl rfl rfl ?_
 refine rSeq (rReg (oV (xAssign rfl) rfl (oEnd (kSeq (rSeq (rReg (oV (xMove rfl) rfl (oCall call125 rfl rfl (mof_s n hva hra hca (by omega) (by omega) (by omega) (by omega) hs) ?_))))))))
 rintro _ w5 ⟨f1, p2, rfl, hle3, hm4, hs6⟩; clear hs
 replace hva := hva.mono hle3
 replace hra := hra.mono hle3
 replace hvb := hvb.mono hle3
 replace hrb := hrb.mono hle3
 refine oV (xMove rfl) rfl (oV (xExtract rfl rfl) rfl (oV (xExtract rfl rfl) rfl (oV (xAssign rfl) rfl (oV (xAssign rfl) rfl (oEnd (kSeq (rSeq (rReg (oV (xMove rfl) rfl (oCall call125 rfl rfl (mof_s d hvb hrb hcb (by omega) (by omega) (by omega) (by omega) hs6) ?_))))))))))
 rintro _ w11 ⟨f7, p8, rfl, hle9, hm10, hs12⟩; clear hs6
 replace hva := hva.mono hle9
 replace hra := hra.mono hle9
 replace hvb := hvb.mono hle9
 replace hrb := hrb.mono hle9
 replace hm4 := hm4.mono hle9
 refine oV (xMove rfl) rfl (oV (xExtract rfl rfl) rfl (oV (xExtract rfl rfl) rfl (oV (xAssign rfl) rfl (oV (xAssign rfl) rfl (oEnd (kSeq (rSeq (rReg (oV (xMove rfl) rfl (oV (xMove rfl) rfl (oCall call193 rfl rfl (solve_s (n := n) hm4 hm10 hla hlb (by omega) (by omega) (by omega) (by omega) hfull hs12) ?_)))))))))))
 rintro _ w17 ⟨f13, p14, rfl, hle15, hm16, hs18⟩; clear hs12
 replace hva := hva.mono hle15
 replace hra := hra.mono hle15
 replace hvb := hvb.mono hle15
 replace hrb := hrb.mono hle15
 replace hm4 := hm4.mono hle15
 replace hm10 := hm10.mono hle15
 refine oV (xMove rfl) rfl (oV (xExtract rfl rfl) rfl (oV (xExtract rfl rfl) rfl (oV (xAssign rfl) rfl (oV (xAssign rfl) rfl (oEnd (kSeq (rSeq (rReg (oV (xMove rfl) rfl (oCall call191 rfl rfl (msize_s hm16 hs18) ?_))))))))))
 rintro _ w19 ⟨rfl, hs20⟩; clear hs18
 refine oV (xMove rfl) rfl (oV (xExtract rfl rfl) rfl (oV (xExtract rfl rfl) rfl (oV (xAssign rfl) rfl (oV (xAssign rfl) rfl (oEnd (kSeq (rSeq (rReg (oV (xAssign rfl) rfl (oEnd (kSeq (rSeq (rSeq (rReg (oV (xMove rfl) rfl (oV (xMove rfl) rfl (oEnd (kSeq (rBlk ?_)))))))))))))))))))
 replace hs20 := Sep.nil 26 1 (rows_nil hs20)
 refine rLoop (fun mz e w => ∃ (i : Nat) (vs : List Value) (ao : Option Addr) (cpo : Nat), (solF n la lb).1.2.length - i = mz ∧ e = [(9, (ptr p14)), (13, (.slice ao i cpo)), (36, (I (((solF n la lb).1.2).length : Int))), (37, (I (i : Int)))] ∧ (i ≤ (solF n la lb).1.2.length) ∧ (vs.length = i) ∧ Sep W0 w (own 26 1 (.slice ao i cpo) i vs :: sepL (rowCh vs ((solF n la lb).1.2.take i)) :: pool f13 :: L)) ⟨_, _, ⟨0, [], _, _, rfl, rfl, (by omega), (rfl), hs20⟩, ⟨rfl, rfl, rfl, rfl, trivial⟩⟩ ?_
 clear hs20; rintro mz e w ⟨i, vs, ao, cpo, rfl, rfl, hi, hvs, hs⟩
 refine rSeq (rReg (oV (xCmp rfl rfl rLss) rfl (oEnd (kSeq (rSeq ?_)))))
 refine rCondD rfl (fun hc21 => ?_) (fun hc21 => ?_)
 · refine rSkip (kSeq (rSeq (rBlk (rSeq (rReg (oV (xMove rfl) rfl (oV (xAssign rfl) rfl (oEnd (kSeq (rReg (oV (xMove rfl) rfl (oV (xMove rfl) rfl (oV (xMove rfl) rfl ?_)))))))))))))
   replace hs := hs.f2
   refine oCall call127 rfl rfl (mrow_s hm16 i (by omega) (by omega) (by omega) (by omega) hs) ?_
   intro v22 w23 hs24; clear hs; obtain ⟨a25, cp26, rfl, hs27⟩ := ownB_open hs24; clear hs24
   refine oBuildSlice (el := 26) (cs := [(.slice a25 ((((solF n la lb).1.2).getD i []).length) cp26)]) hs27 rfl (fun w => by kernel_rfl) rfl ?_
   intro b28 w29 hs30; clear hs27
   refine oAppend (inf := Tryz.t26) (size := 1) (bytes := 24) hs30 (i := 3) rfl underlying22 (by kernel_rfl) rfl rfl rfl rfl rfl rfl rfl (src_row hs30 (i := 0) rfl rfl rfl) (by first | omega | (simp only [List.length_append, List.length_cons, List.length_nil, List.length_map]; omega)) (by first | omega | (simp only [List.length_append, List.length_cons, List.length_nil, List.length_map]; omega)) rfl ?_
   intro a31 c32 w33 hs34; clear hs30; dsimp only [List.set] at hs34
   refine oV (xAssign rfl) rfl (oEnd (kBlk (kSeq (rReg (oV (xAr rfl rfl (rAdd (wI (by omega) (by omega)))) rfl (oV (xMove rfl) rfl ?_))))))
   replace hs34 := hs34.f4
   replace hs34 := hs34.f2
   have hs35 := rows_snoc (by rw [List.length_take]; omega) (ownB_mk rfl hs34); clear hs34
   rw [take_snoc [] (by omega)] at hs35
   replace hs35 := hs35.d1
   replace hs35 := hs35.f1
   replace hs35 := hs35.f1
   replace hs35 := hs35.f2
   exact oEnd (kLoop ((solF n la lb).1.2.length - (i + 1)) _ (by omega) ⟨i + 1, _, _, _, rfl, rfl, (by omega), (by rw [List.length_append, List.length_singleton]; omega), hs35⟩ ⟨rfl, rfl, rfl, rfl, trivial⟩)
 · refine rExit (kSeqX (kLoopX (kBlkH (kSeq (rSeq (rReg (oV (xMove rfl) rfl (oV (xAssign rfl) rfl (oEnd (kSeq (rRet (kFin (.tmp rfl (.nil)) ?_))))))))))))
   have hie : i = (solF n la lb).1.2.length := by omega
   rw [List.take_of_length_le (by omega)] at hs
   obtain ⟨vs1, f1, hle1, hv1, hr1, hs1⟩ := rowsE_freeze (Sep.front (i := 1) rfl (rowsE_shut (by omega) (by omega) hs))
   obtain rfl : i = n := by omega
   exact ⟨f1, _, _, _, rfl, FLe.trans (FLe.trans hle3 (FLe.trans hle9 hle15)) hle1, hv1, hr1, hs1⟩
def fstUp (ls : LL) : Nat → List UInt8
 | 0 => []
 | i + 1 => fstUp ls i ++ [(ls.getD i []).getD 0 0]
theorem fstUp_all (ls : LL) : ∀ i, i ≤ ls.length → fstUp ls i = firsts (ls.take i)
 | 0, _ => rfl
 | i + 1, h => by
   rw [← take_snoc [] (show i < ls.length by omega)]
   simp only [fstUp, firsts, List.map_append, List.map_cons, List.map_nil]
   rw [fstUp_all ls i (by omega)]; rfl
theorem solved_s {W0 w : World} {L : List Asn} {f : HF} {a b : Option Addr} {n ca cb : Nat} {va vb : List Value} {la lb : LL} (hva : Reads f 1 (.slice a n ca) n va) (hra : RR f va la) (hvb : Reads f 1 (.slice b n cb) n vb) (hrb : RR f vb lb) (hca : ∀ x ∈ la, x.length = n) (hcb : ∀ x ∈ lb, x.length = 1) (h1 : 1 ≤ n) (h2 : n ≤ 64) (hfull : (solF n la lb).2.length = n) (hs : Sep W0 w (pool f :: L)) :
 Calls Tryz.prog 261 [.slice a n ca, .slice b n cb].toArray w (Ret fun r w' => ∃ f' a' k' cp', r = .slice a' k' cp' ∧ FLe f f' ∧ RB f' a' k' cp' (firsts (solF n la lb).1.2) ∧ Sep W0 w' (pool f' :: L)) := by
 have hla : la.length = n := by have := hra.len; have := hva.1; omega
 have hlb : lb.length = n := by have := hrb.len; have := hvb.1; omega
 have hsp := solF_shape ⟨hla, hca⟩ ⟨hlb, hcb⟩ h1
 have hsl := hsp.2.len
 refine enter (args := [(.slice a n ca), (.slice b n cb)]) (n := 24) (rs := [.tmp 4]) func261 rfl rfl rfl rfl ?_
 refine rSeq (rReg (oV (xAssign rfl) rfl (oEnd (kSeq (rSeq (rReg (oV (xAssign rfl) rfl (oEnd (kSeq (rSeq (rSeq (rReg (oV (xMove rfl) rfl (oV (xMove rfl) rfl (oCall call262 rfl rfl (grid_s hva hra hvb hrb hca hcb (by omega) (by omega) (by omega) (by omega) hfull hs) ?_)))))))))))))))
 rintro _ w8 ⟨f1, a2, c3, vs4, rfl, hle5, hv6, hr7, hs9⟩; clear hs
 replace hva := hva.mono hle5
 replace hra := hra.mono hle5
 replace hvb := hvb.mono hle5
 replace hrb := hrb.mono hle5
 refine oV (xB1 rfl (rLenS underlying22)) rfl (oV (xMove rfl) rfl (oEnd (kSeq (rBlk ?_))))
 replace hs9 := Sep.nil 5 1 hs9
 refine rLoop (fun mz e w => ∃ (i : Nat) (ao : Option Addr) (co : Nat), n - i = mz ∧ e = [(5, (.slice ao i co)), (10, (.slice a2 n c3)), (11, (I (n : Int))), (12, (I (i : Int)))] ∧ (i ≤ n) ∧ Sep W0 w (own 5 1 (.slice ao i co) i ((fstUp (solF n la lb).1.2 i).map B) :: pool f1 :: L)) ⟨_, _, ⟨0, _, _, rfl, rfl, (by omega), hs9⟩, ⟨rfl, rfl, rfl, rfl, trivial⟩⟩ ?_
 clear hs9; rintro mz e w ⟨i, ao, co, rfl, rfl, hi, hs⟩
 refine rSeq (rReg (oV (xCmp rfl rfl rLss) rfl (oEnd (kSeq (rSeq ?_)))))
 refine rCondD rfl (fun hc10 => ?_) (fun hc10 => ?_)
 · have hii := (hsp.2).at (i := i) (by omega)
   refine rSkip (kSeq (rSeq (rBlk (rSeq (rReg ?_)))))
   obtain ⟨b11, off12, rfl⟩ := Reads.at hv6 (by omega)
   refine oV (xIA (o' := off12 + i) underlying22 sizeOf26 rfl rfl (by omega) (by omega) (by omega)) rfl ?_
   obtain ⟨a13, k14, cp15, he16, hb17⟩ := RR.get hr7 i (by omega)
   have hl18 := RB.len hb17
   refine oV (xLoadC isAgg26 rfl (Reads.cell hv6 hs (i := 1) rfl he16)) rfl (oV (xAssign rfl) rfl (oEnd (kSeq (rReg (oV (xMove rfl) rfl (oV (xMove rfl) rfl ?_))))))
   obtain ⟨b19, off20, rfl⟩ := Reads.at hb17 (by omega)
   refine oV (xIA (o' := off20 + 0) underlying26 sizeOf5 rfl rfl (by omega) (by omega) (by omega)) rfl (oV (xLoadC isAgg5 rfl (Reads.cell hb17 hs (i := 1) rfl (getB (by omega)))) rfl (oBuildSlice (el := 5) (cs := [(.int .u8 (((((solF n la lb).1.2).getD i []).getD 0 0).toNat : Int))]) hs rfl (fun w => by kernel_rfl) rfl ?_))
   intro b21 w22 hs23; clear hs
   refine oAppend (inf := Tryz.t5) (size := 1) (bytes := 1) hs23 (i := 1) rfl underlying26 (by kernel_rfl) rfl rfl rfl rfl rfl rfl rfl (src_row hs23 (i := 0) rfl rfl rfl) (by first | omega | (simp only [List.length_append, List.length_cons, List.length_nil, List.length_map]; omega)) (by first | omega | (simp only [List.length_append, List.length_cons, List.length_nil, List.length_map]; omega)) rfl ?_
   intro a24 c25 w26 hs27; clear hs23; dsimp only [List.set] at hs27
   refine oV (xAssign rfl) rfl (oEnd (kBlk (kSeq (rReg (oV (xAr rfl rfl (rAdd (wI (by omega) (by omega)))) rfl (oV (xMove rfl) rfl ?_))))))
   replace hs27 := hs27.d0
   exact oEnd (kLoop (n - (i + 1)) _ (by omega) ⟨i + 1, _, _, rfl, rfl, (by omega), by rw [fstUp, List.map_append]; exact hs27⟩ ⟨rfl, rfl, rfl, rfl, trivial⟩)
 · refine rExit (kSeqX (kLoopX (kBlkH (kSeq (rSeq (rReg (oV (xMove rfl) rfl (oV (xAssign rfl) rfl (oEnd (kSeq (rRet (kFin (.tmp rfl (.nil)) ?_))))))))))))
   replace hs := hs.f1
   obtain rfl : i = n := by omega
   rw [fstUp_all _ _ (by omega), List.take_of_length_le (by omega)] at hs
   obtain ⟨f1, hle1, hb1, hs1⟩ := Sep.freezeOwn (i := 0) hs rfl
   exact ⟨f1, _, _, _, rfl, FLe.trans hle5 hle1, hb1, hs1⟩
end Go.Sl
namespace Go.Sl
open Go.Proofs Go.Proofs.Tryz
theorem wA_length {n k : Nat} {ps : List Prt} {i : Nat} : ∀ j, (wA n k ps i j).length = if i < j then j - 1 else j
 | 0 => by simp [wA]
 | j + 1 => by
   have ih := wA_length (n := n) (k := k) (ps := ps) (i := i) j
   simp only [wA]
   split
   · rw [List.length_append, ih, List.length_singleton]; split <;> split <;> omega
   · rw [ih]; split <;> split <;> omega
theorem wA_all {n k : Nat} {ps : List Prt} {i : Nat} : ∀ j, ∀ x ∈ wA n k ps i j, x.length = k - 1
 | 0 => by simp [wA]
 | j + 1 => by
   have ih := wA_all (n := n) (k := k) (ps := ps) (i := i) j
   simp only [wA]
   split
   · intro x hx
     rcases List.mem_append.1 hx with h | h
     · exact ih x h
     · rw [List.mem_singleton.1 h]; exact vrow_length _ _
   · exact ih
theorem wBs_length {m : LL} {i : Nat} : ∀ j, (wBs m i j).length = if i < j then j - 1 else j
 | 0 => by simp [wBs]
 | j + 1 => by
   have ih := wBs_length (m := m) (i := i) j
   simp only [wBs]
   split
   · rw [List.length_append, ih, List.length_singleton]; split <;> split <;> omega
   · rw [ih]; split <;> split <;> omega
theorem wBs_all {m : LL} {i : Nat} : ∀ j, ∀ x ∈ wBs m i j, x.length = 1
 | 0 => by simp [wBs]
 | j + 1 => by
   have ih := wBs_all (m := m) (i := i) j
   simp only [wBs]
   split
   · intro x hx
     rcases List.mem_append.1 hx with h | h
     · exact ih x h
     · rw [List.mem_singleton.1 h]; rfl
   · exact ih
theorem wC_length {n k : Nat} {ps : List Prt} : ∀ j, (wC n k ps j).length = j
 | 0 => rfl
 | j + 1 => by simp [wC, wC_length j]
theorem wC_all {n k : Nat} {ps : List Prt} : ∀ j, ∀ x ∈ wC n k ps j, x.length = k - 1
 | 0 => by simp [wC]
 | j + 1 => by
   intro x hx
   rcases List.mem_append.1 hx with h | h
   · exact wC_all j x h
   · rw [List.mem_singleton.1 h]; exact vrow_length _ _
theorem wRows_length {n k : Nat} {ps : List Prt} {m : LL} : ∀ j, (wRows n k ps m j).length = j
 | 0 => rfl
 | j + 1 => by simp [wRows, wRows_length j]
theorem wRows_all {n k : Nat} {ps : List Prt} {m : LL} (h2 : 2 ≤ k) : ∀ j, j ≤ k - 1 → ∀ x ∈ wRows n k ps m j, x.length = k - 1
 | 0, _ => by simp [wRows]
 | j + 1, hj => by
   intro x hx
   rcases List.mem_append.1 hx with h | h
   · exact wRows_all h2 j (by omega) x h
   · rw [List.mem_singleton.1 h]
     have h1 : Shape (wA n k ps j k) (k - 1) (k - 1) := ⟨by rw [wA_length, if_pos (by omega)], wA_all k⟩
     have h3 : Shape (wBs m j k) (k - 1) 1 := ⟨by rw [wBs_length, if_pos (by omega)], wBs_all k⟩
     have := (solF_shape h1 h3 (by omega)).2.len
     simpa [firsts] using this
theorem whole_s {W0 w : World} {L : List Asn} {f : HF} {p n k : Nat} (hc : CodeP f p n k) {la pa : Option Addr} {lc pc : Nat} {cs vp : List Value} {ps : List Prt} {m : LL} (hvl : Reads f 2 (.slice la k lc) k cs) (hrl : PsR f cs ps) (hpk : ps.length = k) (hvp : Reads f 1 (.slice pa k pc) k vp) (hrp : RR f vp m) (hsm : Shape m k k) (hsl : ∀ j, j < k → (prt ps j).1 < n)
 (hful : ∀ i, i < k - 1 → (solF (k - 1) (wA n k ps i k) []).2.length = k - 1) (hfulC : (solF (k - 1) (wC n k ps (k - 1)) []).2.length = k - 1) (hs : Sep W0 w (pool f :: L)) :
 Calls Tryz.prog 180 [ptr p, .slice la k lc, .slice pa k pc].toArray w (Ret fun r w' => ∃ f' a' c' vs, r = .slice a' (k - 1) c' ∧ FLe f f' ∧ Reads f' 1 (.slice a' (k - 1) c') (k - 1) vs ∧ RR f' vs (wholeF n k ps m) ∧ Sep W0 w' (pool f' :: L)) := by
 obtain ⟨hk, h2k, hn24, hpl, ca, ccp, hp, hb⟩ := id hc
 have hbl := RB.len hb
 have hk3 : 2 ≤ k ∧ k ≤ 3 := by omega
 have hml := hsm.len
 refine enter (args := [(ptr p), (.slice la k lc), (.slice pa k pc)]) (n := 75) (rs := [.tmp 6]) func180 rfl rfl rfl rfl ?_
 refine rSeq (rReg (oV (xAssign rfl) rfl (oEnd (kSeq (rSeq (rReg (oV (xAssign rfl) rfl (oEnd (kSeq (rSeq (rSeq (rReg (oV (xMove rfl) rfl (oCall call102 rfl rfl (cparts_s hc hs) ?_))))))))))))))
 rintro _ w1 ⟨rfl, hs2⟩; clear hs
 refine oV (xMove rfl) rfl (oEnd (kSeq (rBlk ?_)))
 replace hs2 := Sep.nil 26 1 hs2
 refine rLoop (fun mz e w => ∃ (i : Nat) (ao : Option Addr) (co : Nat) (vso : List Value) (f3 : HF), k - 1 - i = mz ∧ e = [(0, (ptr p)), (1, (.slice la k lc)), (2, (.slice pa k pc)), (7, (.slice ao i co)), (15, (I ((k - 1 : Nat) : Int))), (16, (I (i : Int)))] ∧ (i ≤ k - 1) ∧ (RR f3 vso (wRows n k ps m i)) ∧ (FLe f f3) ∧ (CodeP f3 p n k) ∧ (Reads f3 2 (.slice la k lc) k cs) ∧ (PsR f3 cs ps) ∧ (Reads f3 1 (.slice pa k pc) k vp) ∧ (RR f3 vp m) ∧ Sep W0 w (own 26 1 (.slice ao i co) i vso :: pool f3 :: L)) ⟨_, _, ⟨0, _, _, [], f, rfl, rfl, (by omega), (RR.nil), (FLe.refl _), (hc), (hvl), (hrl), (hvp), (hrp), hs2⟩, ⟨rfl, rfl, rfl, rfl, rfl, rfl, trivial⟩⟩ ?_
 clear hs2; rintro mz e w ⟨i, ao, co, vso, f3, rfl, rfl, hi, hro, hle4, hc, hvl, hrl, hvp, hrp, hs⟩
 refine rSeq (rReg (oV (xCmp rfl rfl rLss) rfl (oEnd (kSeq (rSeq ?_)))))
 refine rCondD rfl (fun hc5 => ?_) (fun hc5 => ?_)
 · refine rSkip (kSeq (rSeq (rBlk (rSeq (rReg (oV (xMove rfl) rfl (oV (xAssign rfl) rfl (oEnd (kSeq (rSeq (rReg (oV (xAssign rfl) rfl (oEnd (kSeq (rSeq (rReg (oV (xAssign rfl) rfl (oEnd (kSeq (rSeq (rSeq (rReg (oV (xMove rfl) rfl (oV (xB1 rfl (rLenS underlying121)) rfl (oV (xMove rfl) rfl (oEnd (kSeq (rBlk ?_))))))))))))))))))))))))))))
   replace hs := Sep.nil 26 1 hs
   replace hs := Sep.nil 26 1 hs
   replace hs := hs.f3
   replace hs := hs.f3
   replace hs := hs.f2
   replace hs := hs.f3
   refine rLoop (fun mz e w => ∃ (j : Nat) (aa : Option Addr) (ac : Nat) (vsa : List Value) (ab : Option Addr) (bc : Nat) (vsb : List Value) (f6 : HF), k - j = mz ∧ e = [(0, (ptr p)), (1, (.slice la k lc)), (2, (.slice pa k pc)), (7, (.slice ao i co)), (8, (I (i : Int))), (9, (.slice aa ((wA n k ps i j).length) ac)), (10, (.slice ab ((wBs m i j).length) bc)), (15, (I ((k - 1 : Nat) : Int))), (16, (I (i : Int))), (20, (I (k : Int))), (21, (I (j : Int)))] ∧ (j ≤ k) ∧ (RR f6 vsa (wA n k ps i j)) ∧ (RR f6 vsb (wBs m i j)) ∧ (FLe f3 f6) ∧ (CodeP f6 p n k) ∧ (Reads f6 2 (.slice la k lc) k cs) ∧ (PsR f6 cs ps) ∧ (Reads f6 1 (.slice pa k pc) k vp) ∧ (RR f6 vp m) ∧ (RR f6 vso (wRows n k ps m i)) ∧ Sep W0 w (own 26 1 (.slice aa ((wA n k ps i j).length) ac) ((wA n k ps i j).length) vsa :: own 26 1 (.slice ab ((wBs m i j).length) bc) ((wBs m i j).length) vsb :: own 26 1 (.slice ao i co) i vso :: pool f6 :: L)) ⟨_, _, ⟨0, _, _, [], _, _, [], f3, rfl, rfl, (by omega), (RR.nil), (RR.nil), (FLe.refl _), (hc), (hvl), (hrl), (hvp), (hrp), (hro), hs⟩, ⟨rfl, rfl, rfl, rfl, rfl, rfl, rfl, rfl, rfl, rfl, rfl, trivial⟩⟩ ?_
   clear hs; rintro mz e w ⟨j, aa, ac, vsa, ab, bc, vsb, f6, rfl, rfl, hj, hra, hrb, hle7, hc, hvl, hrl, hvp, hrp, hro, hs⟩
   have hAl : (wA n k ps i j).length ≤ j := by rw [wA_length]; split <;> omega
   have hBl : (wBs m i j).length ≤ j := by rw [wBs_length]; split <;> omega
   refine rSeq (rReg (oV (xCmp rfl rfl rLss) rfl (oEnd (kSeq (rSeq ?_)))))
   refine rCondD rfl (fun hc8 => ?_) (fun hc8 => ?_)
   · have hsj := hsl j (by omega)
     refine rSkip (kSeq (rSeq (rBlk (rSeq (rReg (oV (xMove rfl) rfl (oV (xAssign rfl) rfl (oEnd (kSeq (rSeq (rReg (oV (xMove rfl) rfl (oV (xMove rfl) rfl (oV (xCmp rfl rfl rNeq) rfl (oEnd (kSeq ?_))))))))))))))))
     refine rCondD rfl (fun hc9 => ?_) (fun hc9 => ?_)
     · refine rSeq (rReg (oV (xMove rfl) rfl (oV (xMove rfl) rfl (oV (xMove rfl) rfl (oV (xMove rfl) rfl ?_)))))
       obtain ⟨b10, off11, rfl⟩ := Reads.at hvl (by omega)
       refine oV (xIA (o' := off11 + j * 2) underlying121 sizeOf123 rfl rfl (by omega) (by omega) (by omega)) rfl (oV (xFA (j' := (off11 + j * 2)) underlying123 rfl sizeOf3 rfl rfl) rfl ?_)
       obtain ⟨a12, k13, cp14, ht15, _⟩ := PsR.get hrl j (by omega)
       refine oV (xLoadC isAgg3 rfl (reads_cells hvl hs (i := 3) rfl ht15 0 _ rfl)) rfl ?_
       replace hs := hs.f3
       refine oCall call177 rfl rfl (cshort_s hc ((prt ps j).1) (by omega) hs) ?_
       rintro _ w24 ⟨f17, a18, k19, cp20, rfl, hle21, hb22, hs25⟩; clear hs; have hl23 := RB.len hb22
       replace hc := hc.mono hle21
       replace hvl := hvl.mono hle21
       replace hrl := hrl.mono hle21
       replace hvp := hvp.mono hle21
       replace hrp := hrp.mono hle21
       replace hro := hro.mono hle21
       replace hra := hra.mono hle21
       replace hrb := hrb.mono hle21
       have hvl26 := vrow_length (pt n k ((prt ps j).1)) (k - 1)
       refine oBuildSlice (el := 26) (cs := [(.slice a18 k19 cp20)]) hs25 rfl (fun w => by kernel_rfl) rfl ?_
       intro b27 w28 hs29; clear hs25
       refine oAppend (inf := Tryz.t26) (size := 1) (bytes := 24) hs29 (i := 2) rfl underlying22 (by kernel_rfl) rfl rfl rfl rfl rfl rfl rfl (src_row hs29 (i := 0) rfl rfl rfl) (by first | omega | (simp only [List.length_append, List.length_cons, List.length_nil, List.length_map]; omega)) (by first | omega | (simp only [List.length_append, List.length_cons, List.length_nil, List.length_map]; omega)) rfl ?_
       intro a30 c31 w32 hs33; clear hs29; dsimp only [List.set] at hs33
       refine oV (xAssign rfl) rfl (oEnd (kSeq (rReg ?_)))
       have hmi := hsm.at (i := i) (by omega)
       refine oV (xMove rfl) rfl (oV (xMove rfl) rfl (oV (xMove rfl) rfl ?_))
       obtain ⟨b34, off35, rfl⟩ := Reads.at hvp (by omega)
       refine oV (xIA (o' := off35 + i) underlying22 sizeOf26 rfl rfl (by omega) (by omega) (by omega)) rfl ?_
       obtain ⟨a36, k37, cp38, he39, hb40⟩ := RR.get hrp i (by omega)
       have hl41 := RB.len hb40
       refine oV (xLoadC isAgg26 rfl (Reads.cell hvp hs33 (i := 1) rfl he39)) rfl (oV (xMove rfl) rfl ?_)
       obtain ⟨b42, off43, rfl⟩ := Reads.at hb40 (by omega)
       refine oV (xIA (o' := off43 + j) underlying26 sizeOf5 rfl rfl (by omega) (by omega) (by omega)) rfl (oV (xLoadC isAgg5 rfl (Reads.cell hb40 hs33 (i := 1) rfl (getB (by omega)))) rfl (oBuildSlice (el := 5) (cs := [(.int .u8 (((m.getD i []).getD j 0).toNat : Int))]) hs33 rfl (fun w => by kernel_rfl) rfl ?_))
       intro b44 w45 hs46; clear hs33
       refine oBuildSlice (el := 26) (cs := [(.slice (some ⟨b44, 0, none⟩) 1 1)]) hs46 rfl (fun w => by kernel_rfl) rfl ?_
       intro b47 w48 hs49; clear hs46
       refine oAppend (inf := Tryz.t26) (size := 1) (bytes := 24) hs49 (i := 5) rfl underlying22 (by kernel_rfl) rfl rfl rfl rfl rfl rfl rfl (src_row hs49 (i := 0) rfl rfl rfl) (by first | omega | (simp only [List.length_append, List.length_cons, List.length_nil, List.length_map]; omega)) (by first | omega | (simp only [List.length_append, List.length_cons, List.length_nil, List.length_map]; omega)) rfl ?_
       intro a50 c51 w52 hs53; clear hs49; dsimp only [List.set] at hs53
       refine oV (xAssign rfl) rfl (oEnd (kBlk (kSeq (rReg (oV (xAr rfl rfl (rAdd (wI (by omega) (by omega)))) rfl (oV (xMove rfl) rfl ?_))))))
       replace hs53 := hs53.f1
       replace hs53 := hs53.f3
       obtain ⟨f54, hle55, hv56, hs57⟩ := Sep.freezeRow (i := 0) (size := 1) (len := 1) hs53 rfl rfl 1 (Nat.le_refl 1); clear hs53; dsimp only [List.eraseIdx] at hs57
       replace hc := hc.mono hle55
       replace hvl := hvl.mono hle55
       replace hrl := hrl.mono hle55
       replace hvp := hvp.mono hle55
       replace hrp := hrp.mono hle55
       replace hro := hro.mono hle55
       replace hra := hra.mono hle55
       replace hrb := hrb.mono hle55
       replace hb22 := hb22.mono hle55
       replace hb40 := hb40.mono hle55
       replace hs57 := hs57.d2
       replace hs57 := hs57.d1
       replace hs57 := hs57.f3
       replace hs57 := hs57.f3
       replace hs57 := hs57.f3
       have eA : wA n k ps i (j + 1) = wA n k ps i j ++ [shrt n k ps j] := by simp only [wA]; rw [if_pos (by omega)]
       have eB : wBs m i (j + 1) = wBs m i j ++ [[get2 m i j]] := by simp only [wBs]; rw [if_pos (by omega)]
       exact oEnd (kLoop (k - (j + 1)) _ (by omega) ⟨j + 1, a30, c31, vsa ++ [(.slice a18 k19 cp20)], a50, c51, vsb ++ [(.slice (some ⟨b44, 0, none⟩) 1 1)], f54, rfl, rfl, (by omega), (by rw [eA]; exact RR.snoc hra hb22), (by rw [eB]; exact RR.snoc (l := [get2 m i j]) hrb hv56), (FLe.trans hle7 (FLe.trans hle21 hle55)), (hc), (hvl), (hrl), (hvp), (hrp), (hro), by rw [eA, eB, List.length_append, List.length_append]; exact hs57⟩ ⟨rfl, rfl, rfl, rfl, rfl, by rw [eA, List.length_append]; rfl, by rw [eB, List.length_append]; rfl, rfl, rfl, rfl, rfl, trivial⟩)
     · refine rSkip (kBlk (kSeq (rReg (oV (xAr rfl rfl (rAdd (wI (by omega) (by omega)))) rfl (oV (xMove rfl) rfl ?_)))))
       have eA : wA n k ps i (j + 1) = wA n k ps i j := by simp only [wA]; rw [if_neg (by omega)]
       have eB : wBs m i (j + 1) = wBs m i j := by simp only [wBs]; rw [if_neg (by omega)]
       exact oEnd (kLoop (k - (j + 1)) _ (by omega) ⟨j + 1, _, _, _, _, _, _, f6, rfl, rfl, (by omega), (by rw [eA]; exact hra), (by rw [eB]; exact hrb), (FLe.trans hle7 (FLe.refl f6)), (hc), (hvl), (hrl), (hvp), (hrp), (hro), by rw [eA, eB]; exact hs⟩ ⟨rfl, rfl, rfl, rfl, rfl, by rw [eA]; rfl, by rw [eB]; rfl, rfl, rfl, rfl, rfl, trivial⟩)
   · refine rExit (kSeqX (kLoopX (kBlkH (kSeq (rReg ?_)))))
     obtain rfl : k = j := by omega
     have hA1 : (wA n k ps i k).length = k - 1 := by rw [wA_length, if_pos (by omega)]
     have hB1 : (wBs m i k).length = k - 1 := by rw [wBs_length, if_pos (by omega)]
     rw [hA1, hB1] at hs; rw [hA1, hB1]
     refine oV (xMove rfl) rfl (oV (xMove rfl) rfl (oV (xMove rfl) rfl ?_))
     replace hs := hs.f3
     obtain ⟨f58, hle59, hv60, hs61⟩ := Sep.freezeOwn (i := 0) hs rfl; clear hs; dsimp only [List.eraseIdx] at hs61
     replace hc := hc.mono hle59
     replace hvl := hvl.mono hle59
     replace hrl := hrl.mono hle59
     replace hvp := hvp.mono hle59
     replace hrp := hrp.mono hle59
     replace hro := hro.mono hle59
     replace hra := hra.mono hle59
     replace hrb := hrb.mono hle59
     replace hs61 := hs61.f1
     replace hs61 := hs61.f1
     obtain ⟨f62, hle63, hv64, hs65⟩ := Sep.freezeOwn (i := 0) hs61 rfl; clear hs61; dsimp only [List.eraseIdx] at hs65
     replace hc := hc.mono hle63
     replace hvl := hvl.mono hle63
     replace hrl := hrl.mono hle63
     replace hvp := hvp.mono hle63
     replace hrp := hrp.mono hle63
     replace hro := hro.mono hle63
     replace hra := hra.mono hle63
     replace hrb := hrb.mono hle63
     replace hv60 := hv60.mono hle63
     refine oCall call261 rfl rfl (solved_s hv60 hra hv64 hrb (wA_all k) (wBs_all k) (by omega) (by omega) (solF_full _ (hful i (by omega))) hs65) ?_
     rintro _ w73 ⟨f66, a67, k68, cp69, rfl, hle70, hb71, hs74⟩; clear hs65; have hl72 := RB.len hb71
     replace hc := hc.mono hle70
     replace hvl := hvl.mono hle70
     replace hrl := hrl.mono hle70
     replace hvp := hvp.mono hle70
     replace hrp := hrp.mono hle70
     replace hro := hro.mono hle70
     replace hra := hra.mono hle70
     replace hrb := hrb.mono hle70
     replace hv60 := hv60.mono hle70
     replace hv64 := hv64.mono hle70
     refine oBuildSlice (el := 26) (cs := [(.slice a67 k68 cp69)]) hs74 rfl (fun w => by kernel_rfl) rfl ?_
     intro b75 w76 hs77; clear hs74
     refine oAppend (inf := Tryz.t26) (size := 1) (bytes := 24) hs77 (i := 2) rfl underlying22 (by kernel_rfl) rfl rfl rfl rfl rfl rfl rfl (src_row hs77 (i := 0) rfl rfl rfl) (by first | omega | (simp only [List.length_append, List.length_cons, List.length_nil, List.length_map]; omega)) (by first | omega | (simp only [List.length_append, List.length_cons, List.length_nil, List.length_map]; omega)) rfl ?_
     intro a78 c79 w80 hs81; clear hs77; dsimp only [List.set] at hs81
     refine oV (xAssign rfl) rfl (oEnd (kBlk (kSeq (rReg (oV (xAr rfl rfl (rAdd (wI (by omega) (by omega)))) rfl (oV (xMove rfl) rfl ?_))))))
     replace hs81 := hs81.d0
     replace hs81 := hs81.f1
     exact oEnd (kLoop (k - 1 - (i + 1)) _ (by omega) ⟨i + 1, _, _, _, f66, rfl, rfl, (by omega), (RR.snoc hro hb71), (FLe.trans hle4 (FLe.trans hle7 (FLe.trans hle59 (FLe.trans hle63 hle70)))), (hc), (hvl), (hrl), (hvp), (hrp), hs81⟩ ⟨rfl, rfl, rfl, rfl, rfl, rfl, trivial⟩)
 · refine rExit (kSeqX (kLoopX (kBlkH (kSeq (rSeq (rReg (oV (xAssign rfl) rfl (oEnd (kSeq (rSeq (rSeq (rReg (oV (xMove rfl) rfl ?_)))))))))))))
   replace hs := hs.f1
   refine oCall call102 rfl rfl (cparts_s hc hs) ?_
   rintro _ w82 ⟨rfl, hs83⟩; clear hs
   refine oV (xMove rfl) rfl (oEnd (kSeq (rBlk ?_)))
   obtain rfl : i = k - 1 := by omega
   replace hs83 := Sep.nil 26 1 hs83
   replace hs83 := hs83.f1
   replace hs83 := hs83.f2
   replace hs83 := hs83.f2
   refine rLoop (fun mz e w => ∃ (j : Nat) (ac : Option Addr) (cc : Nat) (vsc : List Value) (f84 : HF), k - 1 - j = mz ∧ e = [(0, (ptr p)), (1, (.slice la k lc)), (7, (.slice ao (k - 1) co)), (12, (.slice ac j cc)), (57, (I ((k - 1 : Nat) : Int))), (58, (I (j : Int)))] ∧ (j ≤ k - 1) ∧ (RR f84 vsc (wC n k ps j)) ∧ (FLe f3 f84) ∧ (CodeP f84 p n k) ∧ (Reads f84 2 (.slice la k lc) k cs) ∧ (PsR f84 cs ps) ∧ (RR f84 vso (wRows n k ps m (k - 1))) ∧ Sep W0 w (own 26 1 (.slice ac j cc) j vsc :: own 26 1 (.slice ao (k - 1) co) (k - 1) vso :: pool f84 :: L)) ⟨_, _, ⟨0, _, _, [], f3, rfl, rfl, (by omega), (RR.nil), (FLe.refl _), (hc), (hvl), (hrl), (hro), hs83⟩, ⟨rfl, rfl, rfl, rfl, rfl, rfl, trivial⟩⟩ ?_
   clear hs83; rintro mz e w ⟨j, ac, cc, vsc, f84, rfl, rfl, hj, hrc, hle85, hc, hvl, hrl, hro, hs⟩
   refine rSeq (rReg (oV (xCmp rfl rfl rLss) rfl (oEnd (kSeq (rSeq ?_)))))
   refine rCondD rfl (fun hc86 => ?_) (fun hc86 => ?_)
   · have hsj := hsl j (by omega)
     refine rSkip (kSeq (rSeq (rBlk (rSeq (rReg (oV (xMove rfl) rfl (oV (xAssign rfl) rfl (oEnd (kSeq (rReg (oV (xMove rfl) rfl (oV (xMove rfl) rfl (oV (xMove rfl) rfl (oV (xMove rfl) rfl ?_))))))))))))))
     obtain ⟨b87, off88, rfl⟩ := Reads.at hvl (by omega)
     refine oV (xIA (o' := off88 + j * 2) underlying121 sizeOf123 rfl rfl (by omega) (by omega) (by omega)) rfl (oV (xFA (j' := (off88 + j * 2)) underlying123 rfl sizeOf3 rfl rfl) rfl ?_)
     obtain ⟨a89, k90, cp91, ht92, _⟩ := PsR.get hrl j (by omega)
     refine oV (xLoadC isAgg3 rfl (reads_cells hvl hs (i := 2) rfl ht92 0 _ rfl)) rfl ?_
     replace hs := hs.f2
     refine oCall call177 rfl rfl (cshort_s hc ((prt ps j).1) (by omega) hs) ?_
     rintro _ w101 ⟨f94, a95, k96, cp97, rfl, hle98, hb99, hs102⟩; clear hs; have hl100 := RB.len hb99
     replace hc := hc.mono hle98
     replace hvl := hvl.mono hle98
     replace hrl := hrl.mono hle98
     replace hro := hro.mono hle98
     replace hrc := hrc.mono hle98
     have hvl103 := vrow_length (pt n k ((prt ps j).1)) (k - 1)
     refine oBuildSlice (el := 26) (cs := [(.slice a95 k96 cp97)]) hs102 rfl (fun w => by kernel_rfl) rfl ?_
     intro b104 w105 hs106; clear hs102
     refine oAppend (inf := Tryz.t26) (size := 1) (bytes := 24) hs106 (i := 2) rfl underlying22 (by kernel_rfl) rfl rfl rfl rfl rfl rfl rfl (src_row hs106 (i := 0) rfl rfl rfl) (by first | omega | (simp only [List.length_append, List.length_cons, List.length_nil, List.length_map]; omega)) (by first | omega | (simp only [List.length_append, List.length_cons, List.length_nil, List.length_map]; omega)) rfl ?_
     intro a107 c108 w109 hs110; clear hs106; dsimp only [List.set] at hs110
     refine oV (xAssign rfl) rfl (oEnd (kBlk (kSeq (rReg (oV (xAr rfl rfl (rAdd (wI (by omega) (by omega)))) rfl (oV (xMove rfl) rfl ?_))))))
     replace hs110 := hs110.d0
     replace hs110 := hs110.f2
     replace hs110 := hs110.f2
     exact oEnd (kLoop (k - 1 - (j + 1)) _ (by omega) ⟨j + 1, _, _, _, f94, rfl, rfl, (by omega), (RR.snoc hrc hb99), (FLe.trans hle85 hle98), (hc), (hvl), (hrl), (hro), hs110⟩ ⟨rfl, rfl, rfl, rfl, rfl, rfl, trivial⟩)
   · refine rExit (kSeqX (kLoopX (kBlkH (kSeq (rSeq (rReg (oV (xMove rfl) rfl (oV (xMove rfl) rfl ?_))))))))
     obtain rfl : j = k - 1 := by omega
     replace hs := hs.f2
     obtain ⟨f111, hle112, hv113, hs114⟩ := Sep.freezeOwn (i := 0) hs rfl; clear hs; dsimp only [List.eraseIdx] at hs114
     replace hc := hc.mono hle112
     replace hvl := hvl.mono hle112
     replace hrl := hrl.mono hle112
     replace hro := hro.mono hle112
     replace hrc := hrc.mono hle112
     replace hs114 := hs114.f1
     replace hs114 := hs114.f1
     obtain ⟨f115, hle116, hv117, hs118⟩ := Sep.freezeOwn (i := 0) hs114 rfl; clear hs114; dsimp only [List.eraseIdx] at hs118
     replace hc := hc.mono hle116
     replace hvl := hvl.mono hle116
     replace hrl := hrl.mono hle116
     replace hro := hro.mono hle116
     replace hrc := hrc.mono hle116
     replace hv113 := hv113.mono hle116
     refine oCall call262 rfl rfl (grid_s hv113 hrc hv117 hro (wC_all (k - 1)) (wRows_all (by omega) (k - 1) (Nat.le_refl _)) (by omega) (by omega) (by omega) (by omega) (solF_full _ hfulC) hs118) ?_
     rintro _ w126 ⟨f119, a120, c121, vs122, rfl, hle123, hv124, hr125, hs127⟩; clear hs118
     replace hc := hc.mono hle123
     replace hvl := hvl.mono hle123
     replace hrl := hrl.mono hle123
     replace hro := hro.mono hle123
     replace hrc := hrc.mono hle123
     replace hv113 := hv113.mono hle123
     replace hv117 := hv117.mono hle123
     refine oV (xAssign rfl) rfl (oEnd (kSeq (rRet (kFin (.tmp rfl (.nil)) ?_))))
     exact ⟨_, _, _, _, rfl, (FLe.trans hle4 (FLe.trans hle85 (FLe.trans hle112 (FLe.trans hle116 hle123)))), hv124, hr125, hs127⟩
end Go.Sl
namespace Go.Sl
open Go.Proofs Go.Proofs.Tryz
theorem putRow_length {k z at' fr : Nat} {half : LL} {i : Nat} {out : List UInt8} : ∀ j, (putRow k z at' fr half i out j).length = out.length
 | 0 => rfl
 | j + 1 => by simp [putRow, putRow_length j]
theorem putAll_length {k z at' fr : Nat} {half : LL} {out : List UInt8} : ∀ i, (putAll k z at' fr half out i).length = out.length
 | 0 => rfl
 | i + 1 => by simp only [putAll]; rw [putRow_length, putAll_length i]
theorem put_s {W0 w : World} {L : List Asn} {f : HF} {p n k : Nat} (hc : CodeP f p n k) {oa ha : Option Addr} {ol oc hc2 : Nat} {vh : List Value} {half : LL} {out : List UInt8} (hvh : Reads f 1 (.slice ha (k - 1) hc2) (k - 1) vh) (hrh : RR f vh half) (hsh : Shape half (k - 1) (k - 1)) (fr at' z : Nat) (hfr : fr = 0 ∨ fr = k - 1) (hat : at' < z) (hz : z ≤ 10000) (hol : ol = k * (k - 1) * z) (hout : out.length = ol) (hs : Sep W0 w (own 5 1 (.slice oa ol oc) ol (out.map B) :: pool f :: L)) :
 Calls Tryz.prog 104 [ptr p, .slice oa ol oc, .slice ha (k - 1) hc2, .int .i64 fr, .int .i64 at', .int .i64 z].toArray w (Ret fun r w' => Sep W0 w' (own 5 1 (.slice oa ol oc) ol ((putAll k z at' fr half out (k - 1)).map B) :: pool f :: L)) := by
 obtain ⟨hk, h2k, hn24, hpl, ca, ccp, hp, hb⟩ := id hc
 have hbl := RB.len hb
 have hhl := hsh.len
 have hkz : k * (k - 1) * z ≤ 6 * 10000 := Nat.mul_le_mul (by rcases hk with rfl | rfl <;> decide) hz
 refine enter (args := [(ptr p), (.slice oa ol oc), (.slice ha (k - 1) hc2), (I (fr : Int)), (I (at' : Int)), (I (z : Int))]) (n := 46) (rs := []) func104 rfl rfl rfl rfl ?_
 refine rSeq (rReg (oV (xMove rfl) rfl (oV (xB1 rfl (rLenS underlying22)) rfl (oV (xMove rfl) rfl (oEnd (kSeq (rBlk (rLoop (fun mz e w => ∃ (i : Nat), k - 1 - i = mz ∧ e = [(0, (ptr p)), (1, (.slice oa ol oc)), (2, (.slice ha (k - 1) hc2)), (3, (I (fr : Int))), (4, (I (at' : Int))), (5, (I (z : Int))), (15, (I (((k - 1) : Nat) : Int))), (16, (I (i : Int)))] ∧ (i ≤ k - 1) ∧ Sep W0 w (own 5 1 (.slice oa ol oc) ol ((putAll k z at' fr half out i).map B) :: pool f :: L)) ⟨_, _, ⟨0, rfl, rfl, (by omega), hs⟩, ⟨rfl, rfl, rfl, rfl, rfl, rfl, rfl, rfl, trivial⟩⟩ ?_))))))))
 clear hs; rintro mz e w ⟨i, rfl, rfl, hi, hs⟩
 have hpl1 := putAll_length (k := k) (z := z) (at' := at') (fr := fr) (half := half) (out := out) i
 refine rSeq (rReg (oV (xCmp rfl rfl rLss) rfl (oEnd (kSeq (rSeq ?_)))))
 refine rCondD rfl (fun hc1 => ?_) (fun hc1 => ?_)
 · refine rSkip (kSeq (rSeq (rBlk (rSeq (rReg (oV (xMove rfl) rfl (oV (xAssign rfl) rfl (oEnd (kSeq (rSeq (rReg (oV (xMove rfl) rfl (oV (xAssign rfl) rfl (oEnd (kSeq (rBlk (rLoop (fun mz e w => ∃ (j : Nat), k - 1 - i - j = mz ∧ e = [(0, (ptr p)), (1, (.slice oa ol oc)), (2, (.slice ha (k - 1) hc2)), (3, (I (fr : Int))), (4, (I (at' : Int))), (5, (I (z : Int))), (12, (I (i : Int))), (13, (I ((i + j : Nat) : Int))), (15, (I (((k - 1) : Nat) : Int))), (16, (I (i : Int)))] ∧ (j ≤ k - 1 - i) ∧ Sep W0 w (own 5 1 (.slice oa ol oc) ol ((putRow k z at' fr half i (putAll k z at' fr half out i) j).map B) :: pool f :: L)) ⟨_, _, ⟨0, rfl, rfl, (by omega), hs⟩, ⟨rfl, rfl, rfl, rfl, rfl, rfl, rfl, vI (by omega), rfl, rfl, trivial⟩⟩ ?_)))))))))))))))))
   clear hs; rintro mz e w ⟨j, rfl, rfl, hj, hs⟩
   have hpl2 := putRow_length (k := k) (z := z) (at' := at') (fr := fr) (half := half) (i := i) (out := (putAll k z at' fr half out i)) j
   refine rSeq (rSeq (rReg (oV (xMove rfl) rfl (oV (xMove rfl) rfl (oV (xB1 rfl (rLenS underlying22)) rfl (oV (xCmp rfl rfl rLss) rfl (oEnd (kSeq ?_))))))))
   refine rCondD rfl (fun hc2 => ?_) (fun hc2 => ?_)
   · have hpn := placeN_lt (k := k) (row := fr + i) (col := i + j) hk (by omega) (by omega)
     have hm1 : (placeN k (fr + i) (i + j) + 1) * z ≤ k * (k - 1) * z := Nat.mul_le_mul_right _ hpn
     have hm2 : (placeN k (fr + i) (i + j) + 1) * z = placeN k (fr + i) (i + j) * z + z := by rw [Nat.add_mul, Nat.one_mul]
     have hhi := hsh.at (i := i) (by omega)
     refine rSkip (kSeq (rSeq (rBlk ?_)))
     refine rRegG [(none, fun w => ∃ M, Sep W0 w (pool f :: M))] (by kernel_rfl) hs (fun w3 hs4 => ⟨?_, fun hS => ?_⟩)
     · exact ⟨⟨_, (Sep.front (i := 1) rfl hs4)⟩, trivial⟩
     clear hs
     refine gTake0 0 rfl (by kernel_rfl) hS (fun w => xMove rfl) rfl ?_
     clear hS; intro hS
     refine gTake0 1 rfl (by kernel_rfl) hS (fun w => xMove rfl) rfl ?_
     clear hS; intro hS
     refine gTake0 2 rfl (by kernel_rfl) hS (fun w => xMove rfl) rfl ?_
     clear hS; intro hS
     refine gTake0 3 rfl (by kernel_rfl) hS (fun w => xMove rfl) rfl ?_
     clear hS; intro hS
     refine gTake0 4 rfl (by kernel_rfl) hS (fun w => xAr (r := ((fr + i : Nat) : Int)) rfl rfl (rAdd (by rw [wI (by omega) (by omega)]; omega))) rfl ?_
     clear hS; intro hS
     refine gTake0 5 rfl (by kernel_rfl) hS (fun w => xMove rfl) rfl ?_
     clear hS; intro hS
     refine gTake0 7 rfl (by kernel_rfl) hS (fun w => xMove rfl) rfl ?_
     clear hS; intro hS
     refine gTake0 9 rfl (by kernel_rfl) hS (fun w => xMove rfl) rfl ?_
     clear hS; intro hS
     refine gTake0 11 rfl (by kernel_rfl) hS (fun w => xMove rfl) rfl ?_
     clear hS; intro hS
     refine gTake0 12 rfl (by kernel_rfl) hS (fun w => xMove rfl) rfl ?_
     clear hS; intro hS
     obtain ⟨b5, off6, rfl⟩ := Reads.at hvh (by omega)
     refine gTake0 13 rfl (by kernel_rfl) hS (fun w => xIA (o' := off6 + i) underlying22 sizeOf26 rfl rfl (by omega) (by omega) (by omega)) rfl ?_
     clear hS; intro hS
     obtain ⟨a7, k8, cp9, he10, hb11⟩ := RR.get hrh i (by omega)
     have hl12 := RB.len hb11
     refine gTake 14 0 rfl (by kernel_rfl) rfl (by kernel_rfl) hS (fun w hq0 => by obtain ⟨M, hq⟩ := hq0; exact xLoadC isAgg26 rfl (Reads.cell hvh hq (i := 0) rfl he10)) rfl ?_
     clear hS; intro hS
     refine gTake0 15 rfl (by kernel_rfl) hS (fun w => xMove rfl) rfl ?_
     clear hS; intro hS
     obtain ⟨b13, off14, rfl⟩ := Reads.at hb11 (by omega)
     refine gTake0 16 rfl (by kernel_rfl) hS (fun w => xIA (o' := off14 + (i + j : Nat)) underlying26 sizeOf5 rfl rfl (by omega) (by omega) (by omega)) rfl ?_
     clear hS; intro hS
     refine gTake 17 0 rfl (by kernel_rfl) rfl (by kernel_rfl) hS (fun w hq0 => by obtain ⟨M, hq⟩ := hq0; exact xLoadC isAgg5 rfl (Reads.cell hb11 hq (i := 0) rfl (getB (by omega)))) rfl ?_
     clear hS; intro hS
     refine gEff 6 (by kernel_rfl) rfl ?_
     replace hs4 := hs4.f1
     refine oCall call175 rfl rfl (cplace_s hc (fr + i) (i + j : Nat) (by omega) (by omega) hs4) ?_
     rintro _ w15 ⟨rfl, hs16⟩; clear hs4
     refine oEnd (kG ⟨⟨_, (Sep.front (i := 0) rfl hs16)⟩, trivial⟩ ?_)
     clear hS; intro hS
     refine gTake0 8 rfl (by kernel_rfl) hS (fun w => xAr rfl rfl (rMul (wI (by omega) (by omega)))) rfl ?_
     clear hS; intro hS
     refine gTake0 10 rfl (by kernel_rfl) hS (fun w => xAr rfl rfl (rAdd (wI (by omega) (by omega)))) rfl ?_
     clear hS; intro hS
     obtain ⟨b17, rfl⟩ := Sep.ownAddr (i := 1) hs16 rfl (by omega)
     refine gTake0 18 rfl (by kernel_rfl) hS (fun w => xIA (o' := (((placeN k (fr + i) (i + j : Nat) : Nat) * z) + at')) underlying26 sizeOf5 rfl rfl (by omega) (by omega) (by omega)) rfl ?_
     clear hS; intro hS
     refine gEff 19 (by kernel_rfl) rfl ?_
     refine oStoreO hs16 sizeOf5 rfl rfl rfl (i := 1) rfl (getB (by first | omega | (simp only [List.length_append, List.length_set, List.length_cons, List.length_nil, List.length_map, List.length_replicate, mixd_length]; omega))) ?_
     intro w19 hs20; clear hs16; dsimp only [List.set] at hs20; rw [setB] at hs20
     refine oEnd (kG ⟨⟨_, (Sep.front (i := 0) rfl hs20)⟩, trivial⟩ ?_)
     clear hS; intro hS
     refine gEnd (by kernel_rfl) ?_
     clear hS
     refine kBlk (kSeq ?_)
     refine rReg (oV (xMove rfl) rfl (oV (xAr rfl rfl (rAdd (wI (by omega) (by omega)))) rfl (oV (xAssign rfl) rfl ?_)))
     replace hs20 := hs20.f1
     exact oEnd (kLoop (k - 1 - i - (j + 1)) _ (by omega) ⟨j + 1, rfl, rfl, (by omega), hs20⟩ ⟨rfl, rfl, rfl, rfl, rfl, rfl, rfl, vI (by omega), rfl, rfl, trivial⟩)
   · refine rExit (kSeqX (kLoopX (kBlkH (kBlk (kSeq (rReg (oV (xAr rfl rfl (rAdd (wI (by omega) (by omega)))) rfl (oV (xMove rfl) rfl ?_))))))))
     obtain rfl : j = k - 1 - i := by omega
     exact oEnd (kLoop (k - 1 - (i + 1)) _ (by omega) ⟨i + 1, rfl, rfl, (by omega), hs⟩ ⟨rfl, rfl, rfl, rfl, rfl, rfl, rfl, rfl, trivial⟩)
 · refine rExit (kSeqX (kLoopX (kBlkH (kFinN (.nil) ?_))))
   obtain rfl : i = k - 1 := by omega
   exact hs
theorem cright_s {W0 w : World} {L : List Asn} {f : HF} {p n k : Nat} (hc : CodeP f p n k) {la : Option Addr} {kk lc mm : Nat} {cs : List Value} {ps : List Prt} (hvl : Reads f 2 (.slice la kk lc) kk cs) (hrl : PsR f cs ps) (hpk : ps.length = kk) (hok : PsOk ps n mm) (hmm : 1 ≤ mm) (hkk : kk ≤ 64) (hs : Sep W0 w (pool f :: L)) :
 Calls Tryz.prog 101 [ptr p, .slice la kk lc].toArray w (Ret fun r w' => r = .bool true ∧ Sep W0 w' (pool f :: L)) := by
 obtain ⟨hk, h2k, hn24, hpl, ca, ccp, hp, hb⟩ := id hc
 have hbl := RB.len hb
 refine enter (args := [(ptr p), (.slice la kk lc)]) (n := 53) (rs := [.tmp 4]) func101 rfl rfl rfl rfl ?_
 refine rSeq (rReg (oV (xAssign rfl) rfl (oEnd (kSeq (rSeq (rReg (oAlloc hs zeroValue325 rfl rfl ?_)))))))
 intro b1 w2 hs3; clear hs
 replace hs3 := Sep.rowEq (ys := bools 24 (seenN (ps.take 0))) hs3 (by kernel_rfl)
 refine oEnd (kSeq (rSeq (rSeq (rReg (oV (xMove rfl) rfl (oV (xB1 rfl (rLenS underlying121)) rfl (oV (xMove rfl) rfl (oEnd (kSeq (rBlk (rLoop (fun mz e w => ∃ (i : Nat), kk - i = mz ∧ e = [(0, (ptr p)), (1, (.slice la kk lc)), (5, (ptr b1)), (8, (.slice la kk lc)), (9, (I (kk : Int))), (10, (I (i : Int)))] ∧ (i ≤ kk) ∧ Sep W0 w (row b1 325 (bools 24 (seenN (ps.take i))) :: pool f :: L)) ⟨_, _, ⟨0, rfl, rfl, (by omega), hs3⟩, ⟨rfl, rfl, rfl, rfl, rfl, rfl, trivial⟩⟩ ?_)))))))))))
 clear hs3; rintro mz e w ⟨i, rfl, rfl, hi, hs⟩
 refine rSeq (rReg (oV (xCmp rfl rfl rLss) rfl (oEnd (kSeq (rSeq ?_)))))
 refine rCondD rfl (fun hc4 => ?_) (fun hc4 => ?_)
 · have ho1 := hok.slot i (by omega); have ho2 := hok.size i (by omega); have ho3 := hok.new i (by omega); have ho4 := hok.size 0 (by omega)
   refine rSkip (kSeq (rSeq (rBlk (rSeq (rReg ?_)))))
   obtain ⟨b5, off6, rfl⟩ := Reads.at hvl (by omega)
   refine oV (xIA (o' := off6 + i * 2) underlying121 sizeOf123 rfl rfl (by omega) (by omega) (by omega)) rfl ?_
   obtain ⟨a7, k8, cp9, ht10, hb11⟩ := PsR.get hrl i (by omega)
   have hl12 := RB.len hb11
   refine oV (xLoadGC isAgg123 sizeOf123 rfl rfl (reads_cells hvl hs (i := 1) rfl ht10)) rfl (oAlloc hs zeroValue123 rfl rfl ?_)
   intro b13 w14 hs15; clear hs
   refine oStoreG hs15 sizeOf123 rfl rfl rfl rfl (i := 0) rfl rfl ?_
   intro w16 hs17; clear hs15; dsimp only [List.set, putAt] at hs17
   refine oEnd (kSeq (rSeq (rSeq (rRegQ (by kernel_rfl) (by kernel_rfl) hs17 ?_))))
   refine qV (fun w hq => xFA (j' := 0) underlying123 rfl sizeOf3 rfl rfl) rfl ?_
   refine qV (fun w hq => xLoad hq isAgg3 rfl (i := 0) rfl rfl) rfl ?_
   refine qV (fun w hq => xCmp rfl rfl rLss) rfl ?_
   refine qV (fun w hq => xMove rfl) rfl ?_
   refine qCase (d := 17) rfl (fun hg18 => ?_) (fun hg18 => ?_)
   · replace hg18 := of_decide_eq_true hg18
     refine qGuardF rfl rfl rfl rfl ?_
     refine qGuardF rfl rfl rfl rfl ?_
     refine qGuardF rfl rfl rfl rfl ?_
     refine qGuardF rfl rfl rfl rfl ?_
     refine qGuardF rfl rfl rfl rfl ?_
     refine qGuardF rfl rfl rfl rfl ?_
     refine qGuardF rfl rfl rfl rfl ?_
     refine qV (fun w hq => xPickT rfl rfl) rfl ?_
     refine qV (fun w hq => xMove rfl) rfl ?_
     refine qGuardF rfl rfl rfl rfl ?_
     refine qGuardF rfl rfl rfl rfl ?_
     refine qGuardF rfl rfl rfl rfl ?_
     refine qGuardF rfl rfl rfl rfl ?_
     refine qV (fun w hq => xPickT rfl rfl) rfl ?_
     refine qV (fun w hq => xMove rfl) rfl ?_
     refine qGuardF rfl rfl rfl rfl ?_
     refine qGuardF rfl rfl rfl rfl ?_
     refine qGuardF rfl rfl rfl rfl ?_
     refine qGuardF rfl rfl rfl rfl ?_
     refine qGuardF rfl rfl rfl rfl ?_
     refine qGuardF rfl rfl rfl rfl ?_
     refine qGuardF rfl rfl rfl rfl ?_
     refine qGuardF rfl rfl rfl rfl ?_
     refine qGuardF rfl rfl rfl rfl ?_
     refine qV (fun w hq => xPickT rfl rfl) rfl ?_
     refine qV (fun w hq => xMove rfl) rfl ?_
     refine qGuardF rfl rfl rfl rfl ?_
     refine qGuardF rfl rfl rfl rfl ?_
     refine qGuardF rfl rfl rfl rfl ?_
     refine qGuardF rfl rfl rfl rfl ?_
     refine qV (fun w hq => xPickT rfl rfl) rfl ?_
     refine qEnd (fun w20 hs19 => ?_); clear hs17
     refine kSeq ?_
     refine rCondT rfl (rSeq (Run.sub (e' := [(0, (ptr p)), (1, (.slice (some ⟨b5, off6, none⟩) kk lc)), (5, (ptr b1)), (8, (.slice (some ⟨b5, off6, none⟩) kk lc)), (9, (I (kk : Int))), (10, (I (i : Int))), (7, (ptr b13))]) ⟨rfl, rfl, rfl, rfl, rfl, rfl, rfl, trivial⟩ ?_))
     refine rReg (oV (xAssign rfl) rfl (oEnd (kSeq (rRet (kSeqR (kBlkR (kSeqR (kLoopR (kBlkR (kSeqR (kFin (.tmp rfl (.nil)) ?_)))))))))))
     exfalso
     first
       | omega
       | (rename_i hg; rw [ho3] at hg; cases hg)
       | simp_all
   · replace hg18 := of_decide_eq_false hg18
     refine qGuardT rfl rfl ?_
     refine qV (fun w hq => xFA (j' := 0) underlying123 rfl sizeOf3 rfl rfl) rfl ?_
     refine qGuardT rfl rfl ?_
     refine qV (fun w hq => xLoad hq isAgg3 rfl (i := 0) rfl rfl) rfl ?_
     refine qGuardT rfl rfl ?_
     refine qV (fun w hq => xMove rfl) rfl ?_
     refine qGuardT rfl rfl ?_
     refine qV (fun w hq => xNil rfl) rfl ?_
     refine qGuardT rfl rfl ?_
     refine qV (fun w hq => xFA (j' := 0) underlying206 rfl sizeOf3 rfl rfl) rfl ?_
     refine qGuardT rfl rfl ?_
     refine qV (fun w hq => xLoadC isAgg3 rfl (PR.cell hp hq (i := 2) rfl rfl)) rfl ?_
     refine qGuardT rfl rfl ?_
     refine qV (fun w hq => xCmp rfl rfl rGeq) rfl ?_
     refine qV (fun w hq => xPickF rfl rfl) rfl ?_
     refine qV (fun w hq => xMove rfl) rfl ?_
     refine qCase (d := 26) rfl (fun hg21 => ?_) (fun hg21 => ?_)
     · replace hg21 := of_decide_eq_true hg21
       refine qGuardF rfl rfl rfl rfl ?_
       refine qGuardF rfl rfl rfl rfl ?_
       refine qGuardF rfl rfl rfl rfl ?_
       refine qGuardF rfl rfl rfl rfl ?_
       refine qV (fun w hq => xPickT rfl rfl) rfl ?_
       refine qV (fun w hq => xMove rfl) rfl ?_
       refine qGuardF rfl rfl rfl rfl ?_
       refine qGuardF rfl rfl rfl rfl ?_
       refine qGuardF rfl rfl rfl rfl ?_
       refine qGuardF rfl rfl rfl rfl ?_
       refine qGuardF rfl rfl rfl rfl ?_
       refine qGuardF rfl rfl rfl rfl ?_
       refine qGuardF rfl rfl rfl rfl ?_
       refine qGuardF rfl rfl rfl rfl ?_
       refine qGuardF rfl rfl rfl rfl ?_
       refine qV (fun w hq => xPickT rfl rfl) rfl ?_
       refine qV (fun w hq => xMove rfl) rfl ?_
       refine qGuardF rfl rfl rfl rfl ?_
       refine qGuardF rfl rfl rfl rfl ?_
       refine qGuardF rfl rfl rfl rfl ?_
       refine qGuardF rfl rfl rfl rfl ?_
       refine qV (fun w hq => xPickT rfl rfl) rfl ?_
       refine qEnd (fun w23 hs22 => ?_); clear hs17
       refine kSeq ?_
       refine rCondT rfl (rSeq (Run.sub (e' := [(0, (ptr p)), (1, (.slice (some ⟨b5, off6, none⟩) kk lc)), (5, (ptr b1)), (8, (.slice (some ⟨b5, off6, none⟩) kk lc)), (9, (I (kk : Int))), (10, (I (i : Int))), (7, (ptr b13))]) ⟨rfl, rfl, rfl, rfl, rfl, rfl, rfl, trivial⟩ ?_))
       refine rReg (oV (xAssign rfl) rfl (oEnd (kSeq (rRet (kSeqR (kBlkR (kSeqR (kLoopR (kBlkR (kSeqR (kFin (.tmp rfl (.nil)) ?_)))))))))))
       exfalso
       first
         | omega
         | (rename_i hg; rw [ho3] at hg; cases hg)
         | simp_all
     · replace hg21 := of_decide_eq_false hg21
       refine qGuardT rfl rfl ?_
       refine qV (fun w hq => xFA (j' := 0) underlying123 rfl sizeOf3 rfl rfl) rfl ?_
       refine qGuardT rfl rfl ?_
       refine qV (fun w hq => xLoad hq isAgg3 rfl (i := 0) rfl rfl) rfl ?_
       refine qGuardT rfl rfl ?_
       refine qV (fun w hq => xIAA (o' := ((prt ps i).1)) underlying325 sizeOf4 rfl rfl (by omega) (by omega) (by omega)) rfl ?_
       refine qGuardT rfl rfl ?_
       refine qV (fun w hq => xLoad hq isAgg4 rfl (i := 1) rfl (bools_get (by omega))) rfl ?_
       refine qV (fun w hq => xPickF rfl rfl) rfl ?_
       refine qV (fun w hq => xMove rfl) rfl ?_
       refine qCase (d := 32) rfl (fun hg24 => ?_) (fun hg24 => ?_)
       · refine qGuardF rfl rfl rfl rfl ?_
         refine qGuardF rfl rfl rfl rfl ?_
         refine qGuardF rfl rfl rfl rfl ?_
         refine qGuardF rfl rfl rfl rfl ?_
         refine qGuardF rfl rfl rfl rfl ?_
         refine qGuardF rfl rfl rfl rfl ?_
         refine qGuardF rfl rfl rfl rfl ?_
         refine qGuardF rfl rfl rfl rfl ?_
         refine qGuardF rfl rfl rfl rfl ?_
         refine qV (fun w hq => xPickT rfl rfl) rfl ?_
         refine qV (fun w hq => xMove rfl) rfl ?_
         refine qGuardF rfl rfl rfl rfl ?_
         refine qGuardF rfl rfl rfl rfl ?_
         refine qGuardF rfl rfl rfl rfl ?_
         refine qGuardF rfl rfl rfl rfl ?_
         refine qV (fun w hq => xPickT rfl rfl) rfl ?_
         refine qEnd (fun w26 hs25 => ?_); clear hs17
         refine kSeq ?_
         refine rCondT rfl (rSeq (Run.sub (e' := [(0, (ptr p)), (1, (.slice (some ⟨b5, off6, none⟩) kk lc)), (5, (ptr b1)), (8, (.slice (some ⟨b5, off6, none⟩) kk lc)), (9, (I (kk : Int))), (10, (I (i : Int))), (7, (ptr b13))]) ⟨rfl, rfl, rfl, rfl, rfl, rfl, rfl, trivial⟩ ?_))
         refine rReg (oV (xAssign rfl) rfl (oEnd (kSeq (rRet (kSeqR (kBlkR (kSeqR (kLoopR (kBlkR (kSeqR (kFin (.tmp rfl (.nil)) ?_)))))))))))
         exfalso
         first
           | omega
           | (rename_i hg; rw [ho3] at hg; cases hg)
           | simp_all
       · refine qGuardT rfl rfl ?_
         refine qV (fun w hq => xFA (j' := 1) underlying123 rfl sizeOf26 rfl rfl) rfl ?_
         refine qGuardT rfl rfl ?_
         refine qV (fun w hq => xLoad hq isAgg26 rfl (i := 0) rfl rfl) rfl ?_
         refine qGuardT rfl rfl ?_
         refine qV (fun w hq => xB1 rfl (rLenS underlying26)) rfl ?_
         refine qGuardT rfl rfl ?_
         refine qV (fun w hq => xMove rfl) rfl ?_
         refine qGuardT rfl rfl ?_
         refine qV (fun w hq => xIA (o' := off6 + 0 * 2) underlying121 sizeOf123 rfl rfl (by omega) (by omega) (by omega)) rfl ?_
         refine qGuardT rfl rfl ?_
         refine qV (fun w hq => xFA (j' := (off6 + 0 * 2 + 1)) underlying123 rfl sizeOf26 rfl rfl) rfl ?_
         refine qGuardT rfl rfl ?_
         obtain ⟨a27, k28, cp29, ht30, hb31⟩ := PsR.get hrl 0 (by omega)
         have hl32 := RB.len hb31
         refine qV (fun w hq => xLoadC isAgg26 rfl (reads_cells hvl hq (i := 2) rfl ht30 1 _ rfl)) rfl ?_
         refine qGuardT rfl rfl ?_
         refine qV (fun w hq => xB1 rfl (rLenS underlying26)) rfl ?_
         refine qGuardT rfl rfl ?_
         refine qV (fun w hq => xCmp rfl rfl rNeq) rfl ?_
         refine qV (fun w hq => xPickF rfl rfl) rfl ?_
         refine qV (fun w hq => xMove rfl) rfl ?_
         refine qCase (d := 43) rfl (fun hg33 => ?_) (fun hg33 => ?_)
         · replace hg33 := of_decide_eq_true hg33
           refine qGuardF rfl rfl rfl rfl ?_
           refine qGuardF rfl rfl rfl rfl ?_
           refine qGuardF rfl rfl rfl rfl ?_
           refine qGuardF rfl rfl rfl rfl ?_
           refine qV (fun w hq => xPickT rfl rfl) rfl ?_
           refine qEnd (fun w35 hs34 => ?_); clear hs17
           refine kSeq ?_
           refine rCondT rfl (rSeq (Run.sub (e' := [(0, (ptr p)), (1, (.slice (some ⟨b5, off6, none⟩) kk lc)), (5, (ptr b1)), (8, (.slice (some ⟨b5, off6, none⟩) kk lc)), (9, (I (kk : Int))), (10, (I (i : Int))), (7, (ptr b13))]) ⟨rfl, rfl, rfl, rfl, rfl, rfl, rfl, trivial⟩ ?_))
           refine rReg (oV (xAssign rfl) rfl (oEnd (kSeq (rRet (kSeqR (kBlkR (kSeqR (kLoopR (kBlkR (kSeqR (kFin (.tmp rfl (.nil)) ?_)))))))))))
           exfalso
           first
             | omega
             | (rename_i hg; rw [ho3] at hg; cases hg)
             | simp_all
         · replace hg33 := of_decide_eq_false hg33
           refine qGuardT rfl rfl ?_
           refine qV (fun w hq => xFA (j' := 1) underlying123 rfl sizeOf26 rfl rfl) rfl ?_
           refine qGuardT rfl rfl ?_
           refine qV (fun w hq => xLoad hq isAgg26 rfl (i := 0) rfl rfl) rfl ?_
           refine qGuardT rfl rfl ?_
           refine qV (fun w hq => xB1 rfl (rLenS underlying26)) rfl ?_
           refine qGuardT rfl rfl ?_
           refine qV (fun w hq => xCmp rfl rfl rEql) rfl ?_
           refine qV (fun w hq => xPickF rfl rfl) rfl ?_
           refine qEnd (fun w37 hs36 => ?_); clear hs17
           refine kSeq ?_
           refine rCondD rfl (fun hc38 => ?_) (fun hc38 => ?_)
           · refine rSeq (Run.sub (e' := [(0, (ptr p)), (1, (.slice (some ⟨b5, off6, none⟩) kk lc)), (5, (ptr b1)), (8, (.slice (some ⟨b5, off6, none⟩) kk lc)), (9, (I (kk : Int))), (10, (I (i : Int))), (7, (ptr b13))]) ⟨rfl, rfl, rfl, rfl, rfl, rfl, rfl, trivial⟩ ?_)
             refine rReg (oV (xAssign rfl) rfl (oEnd (kSeq (rRet (kSeqR (kBlkR (kSeqR (kLoopR (kBlkR (kSeqR (kFin (.tmp rfl (.nil)) ?_)))))))))))
             exfalso
             first
               | omega
               | (rename_i hg; rw [ho3] at hg; cases hg)
               | simp_all
           · refine rSkip (kSeq (Run.sub (e' := [(0, (ptr p)), (1, (.slice (some ⟨b5, off6, none⟩) kk lc)), (5, (ptr b1)), (8, (.slice (some ⟨b5, off6, none⟩) kk lc)), (9, (I (kk : Int))), (10, (I (i : Int))), (7, (ptr b13))]) ⟨rfl, rfl, rfl, rfl, rfl, rfl, rfl, trivial⟩ ?_))
             refine rReg (oV (xFA (j' := 0) underlying123 rfl sizeOf3 rfl rfl) rfl (oV (xLoad hs36 isAgg3 rfl (i := 0) rfl rfl) rfl (oV (xIAA (o' := ((prt ps i).1)) underlying325 sizeOf4 rfl rfl (by omega) (by omega) (by omega)) rfl (oStore hs36 sizeOf4 rfl rfl rfl (i := 1) rfl (bools_get (by omega)) ?_))))
             intro w39 hs40; clear hs36; dsimp only [List.set] at hs40; rw [bools_set (by omega)] at hs40
             refine oEnd (kBlk (kSeq (rReg (oV (xAr rfl rfl (rAdd (wI (by omega) (by omega)))) rfl (oV (xMove rfl) rfl ?_)))))
             rw [seenN_snoc (by omega)] at hs40
             replace hs40 := hs40.d0
             exact oEnd (kLoop (kk - (i + 1)) _ (by omega) ⟨i + 1, rfl, rfl, (by omega), hs40⟩ ⟨rfl, rfl, rfl, rfl, rfl, rfl, trivial⟩)
 · refine rExit (kSeqX (kLoopX (kBlkH (kSeq (rSeq (rReg (oV (xAssign rfl) rfl (oEnd (kSeq (rRet (kFin (.tmp rfl (.nil)) ?_)))))))))))
   exact ⟨rfl, Sep.tail hs⟩
end Go.Sl
namespace Go.Sl
section
variable {P : Program} {n : Nat} {K : Kont} {e : Env} {w w' : World} {ops : Array Oper} {rest : List Oper} {W0 : World} {L : List Asn}
theorem sepL_triv : ∀ {M : List Asn}, (∀ A ∈ M, ∀ h, A h) → ∀ h, sepL M h
  | [], _, _ => trivial
  | A :: M, hM, h => ⟨fun _ => false, hM A (by simp) _, sepL_triv (fun B hB => hM B (by simp [hB])) _⟩
abbrev nils (k : Nat) : List Value := List.replicate k (.slice none 0 0)
theorem rows_nils (k : Nat) (hs : Sep W0 w L) : Sep W0 w (sepL (rowCh (nils k) (List.replicate k [])) :: L) := by
  refine hs.add (A := sepL (rowCh (nils k) (List.replicate k []))) (sepL_triv fun A hA => ?_)
  have : rowCh (nils k) (List.replicate k []) = List.replicate k (ownB (.slice none 0 0) []) := by simp [rowCh, nils]
  rw [this] at hA
  rw [List.eq_of_mem_replicate hA]
  exact fun h => ⟨none, 0, rfl, own_nil 5 1 h⟩
theorem rows_put {vs : List Value} {ls : LL} {i : Nat} {v : Value} {l : List UInt8} (h1 : vs.length = ls.length) (hi : i < ls.length) (hs : Sep W0 w (ownB v l :: sepL (rowCh vs ls) :: L)) : Sep W0 w (sepL (rowCh (vs.set i v) (ls.set i l)) :: L) := by
  have h2 := sep_hole (rowCh_at h1 hi) (Sep.front (i := 1) rfl hs)
  have h3 : Sep W0 w (sepL ((rowCh vs ls).set i emp) :: ownB v l :: L) := Sep.drop (i := 0) h2 rfl
  have h4 := sep_fill (by rw [rowCh_length h1]; exact hi) (Sep.front (i := 1) rfl h3)
  have h5 : (rowCh vs ls).set i (ownB v l) = rowCh (vs.set i v) (ls.set i l) := (zipWith_set ownB vs ls i v l).symm
  rwa [h5] at h4
theorem set2_length (m : LL) (i j : Nat) (b : UInt8) : (set2 m i j b).length = m.length := by simp [set2]
theorem Shape.set2 {ls : LL} {n c i j : Nat} {b : UInt8} (h : Shape ls n c) (hi : i < n) : Shape (Go.Sl.set2 ls i j b) n c := h.set (by rw [List.length_set]; exact h.at hi)
theorem oStoreRow {i j p g k cp : Nat} {x y : Operand} {t : TypeId} {vs : List Value} {ls : LL} {b : UInt8} {ty : TypeId} {pos : String} {af : Array Edge} (hs : Sep W0 w L) (hsz : ∀ w, Sem.run P (sizeOf t) w = .ok 1 w)
    (hx : e.ev x = some (.pointer (some ⟨g, j, none⟩))) (hy : e.ev y = some (.int .u8 (b.toNat : Int))) (hp : L[p]? = some (sepL (rowCh vs ls))) (h1 : vs.length = ls.length) (hi : i < ls.length) (hv : vs.getD i undef = .slice (some ⟨g, 0, none⟩) k cp) (hj : j < (ls.getD i []).length)
    (hk : ∀ w', Sep W0 w' (L.set p (sepL (rowCh vs (set2 ls i j b)))) → Ops P n ops K rest e w') :
    Ops P n ops K (⟨none, .store t x y, ty, pos, af, none⟩ :: rest) e w := by
  obtain ⟨N, h2, h3⟩ := rows_take h1 hi (Sep.front (i := p) hp hs)
  obtain ⟨h4, h5⟩ := ownB_at hv h2
  have hc := run_store1 (P := P) (v := .int .u8 (b.toNat : Int)) (Sep.ownCell (i := 0) h5 rfl (getB hj)) (Sep.ownFree (i := 0) h5 rfl) rfl
  refine Ops.skipn (w' := w.setCell ⟨g, j, none⟩ (.int .u8 (b.toNat : Int))) rfl rfl (fun a ha => ?_) (hk _ (Sep.back hp (h3 _ ((ls.getD i []).set j b) _ ?_)))
  · simp [execOp, ha.ev hx, ha.ev hy, Instr.storeAt, Instr.sureAddr, storeVar, hsz, Value.cells, storeCells, add_lit, hc]
  · have h6 := Sep.ownSet (i := 0) (v := .int .u8 (b.toNat : Int)) h5 rfl (getB hj)
    simp only [List.set_cons_zero] at h6
    rw [setB] at h6
    rw [hv]
    rw [h4] at h6
    exact ownB_mk (by rw [List.length_set]; exact h4) h6
theorem rows_head3 {i p m c : Nat} {vs : List Value} {ls : LL} (hs : Sep W0 w L) (hp : L[p]? = some (sepL (rowCh vs ls))) (h1 : vs.length = ls.length) (sh : Shape ls m c) (hi : i < m) : ∃ a cp, vs.getD i undef = .slice a c cp := by
  obtain ⟨a, cp, h⟩ := rows_head hs hp h1 (by rw [sh.len]; exact hi)
  exact ⟨a, cp, by rw [h, sh.at hi]⟩
theorem rows_addr3 {i p m c cp : Nat} {a : Option Addr} {vs : List Value} {ls : LL} (hs : Sep W0 w L) (hp : L[p]? = some (sepL (rowCh vs ls))) (h1 : vs.length = ls.length) (sh : Shape ls m c) (hi : i < m) (hv : vs.getD i undef = .slice a c cp) (hk : 0 < c) : ∃ g, a = some ⟨g, 0, none⟩ :=
  rows_addr hs hp h1 (by rw [sh.len]; exact hi) hv hk
theorem rows_cell3 {i j p m c g cp : Nat} {vs : List Value} {ls : LL} (hs : Sep W0 w L) (hp : L[p]? = some (sepL (rowCh vs ls))) (h1 : vs.length = ls.length) (sh : Shape ls m c) (hi : i < m) (hv : vs.getD i undef = .slice (some ⟨g, 0, none⟩) c cp) (hj : j < c) : w.cell? ⟨g, j, none⟩ = some (B ((ls.getD i []).getD j 0)) :=
  rows_cell2 hs hp h1 (by rw [sh.len]; exact hi) hv (by rw [sh.at hi]; exact hj)
theorem oStoreRow3 {i j p m c g cp : Nat} {x y : Operand} {t : TypeId} {vs : List Value} {ls : LL} {b : UInt8} {ty : TypeId} {pos : String} {af : Array Edge} (hs : Sep W0 w L) (hsz : ∀ w, Sem.run P (sizeOf t) w = .ok 1 w)
    (hx : e.ev x = some (.pointer (some ⟨g, j, none⟩))) (hy : e.ev y = some (.int .u8 (b.toNat : Int))) (hp : L[p]? = some (sepL (rowCh vs ls))) (h1 : vs.length = ls.length) (sh : Shape ls m c) (hi : i < m) (hv : vs.getD i undef = .slice (some ⟨g, 0, none⟩) c cp) (hj : j < c)
    (hk : ∀ w', Sep W0 w' (L.set p (sepL (rowCh vs (set2 ls i j b)))) → Ops P n ops K rest e w') :
    Ops P n ops K (⟨none, .store t x y, ty, pos, af, none⟩ :: rest) e w :=
  oStoreRow hs hsz hx hy hp h1 (by rw [sh.len]; exact hi) hv (by rw [sh.at hi]; exact hj) hk
end
def initL (k i : Nat) : LL := List.replicate i (List.replicate k 0) ++ List.replicate (k - i) []
theorem initL_zero (k : Nat) : initL k 0 = List.replicate k [] := by simp [initL]
theorem initL_end (k : Nat) : initL k k = List.replicate k (List.replicate k 0) := by simp [initL]
theorem initL_length {k i : Nat} (h : i ≤ k) : (initL k i).length = k := by simp [initL]; omega
theorem initL_set {k i : Nat} (h : i < k) : (initL k i).set i (List.replicate k 0) = initL k (i + 1) := by
  unfold initL
  rw [List.set_append_right _ _ (by simp), List.length_replicate, Nat.sub_self, show k - i = (k - (i + 1)) + 1 by omega, List.replicate_succ, List.set_cons_zero, List.replicate_succ', List.append_assoc]
  rfl
theorem hStep_shape {n k : Nat} {ps : List Prt} {x : LL} {i j : Nat} {s : LL × LL} (h : Shp s k k k) (hi : i < k) (hj : j < k) : Shp (hStep n k ps x i j s) k k k :=
  ⟨(h.1.set2 hi).set2 hj, (h.2.set2 hi).set2 hj⟩
theorem hRow_shape {n k : Nat} {ps : List Prt} {x : LL} {i : Nat} {s : LL × LL} (h : Shp s k k k) (hi : i < k) : ∀ {j}, j ≤ i → Shp (hRow n k ps x i s j) k k k
  | 0, _ => h
  | j + 1, hj => hStep_shape (hRow_shape h hi (by omega)) hi (by omega)
theorem hAll_shape {n k : Nat} {ps : List Prt} {x : LL} : ∀ {i}, i ≤ k → Shp (hAll n k ps x i) k k k
  | 0, _ => ⟨⟨by simp [hAll], by simp [hAll]⟩, ⟨by simp [hAll], by simp [hAll]⟩⟩
  | i + 1, hi => hRow_shape (hAll_shape (by omega)) (by omega) (Nat.le_refl i)
theorem wholeF_shape {n k : Nat} {ps : List Prt} {m : LL} (h2 : 2 ≤ k) : Shape (wholeF n k ps m) (k - 1) (k - 1) :=
  (solF_shape ⟨wC_length _, wC_all _⟩ ⟨wRows_length _, wRows_all h2 (k - 1) (Nat.le_refl _)⟩ (by omega)).2
theorem mdot_k {W0 w : World} {L : List Asn} {f : HF} {a b : Option Addr} {n m ca cb t : Nat} {la lb : List UInt8} (ha : RB f a n ca la) (hb : RB f b m cb lb) (hn : n = t) (hm : m = t) (ht : t ≤ 1000000) (hs : Sep W0 w (pool f :: L)) :
    Calls Proofs.Tryz.prog 176 [.slice a n ca, .slice b m cb].toArray w (Ret fun r w' => r = B (dot la lb t) ∧ Sep W0 w' (pool f :: L)) := by
  subst hn; subst hm
  have := mdot_s ha hb ht ht hs
  rwa [Nat.min_self] at this
end Go.Sl
namespace Go.Sl
open Go.Proofs Go.Proofs.Tryz
set_option maxHeartbeats 4000000 in
theorem halves_s {W0 w : World} {L : List Asn} {f : HF} {p n k : Nat} (hc : CodeP f p n k) {la xa : Option Addr} {lc xc : Nat} {cs vx : List Value} {ps : List Prt} {x : LL} (hvl : Reads f 2 (.slice la k lc) k cs) (hrl : PsR f cs ps) (hvx : Reads f 1 (.slice xa k xc) k vx) (hrx : RR f vx x) (hsx : Shape x k (k - 1)) (hpk : ps.length = k) (hsl : ∀ j, j < k → (prt ps j).1 < n) (hne : ∀ i j, j < i → i < k → (fac n k ps i ^^^ fac n k ps j).toNat ≠ 0) (hful : ∀ i, i < k - 1 → (solF (k - 1) (wA n k ps i k) []).2.length = k - 1) (hfulC : (solF (k - 1) (wC n k ps (k - 1)) []).2.length = k - 1) (hs : Sep W0 w (pool f :: L)) :
 Calls Tryz.prog 103 [ptr p, .slice la k lc, .slice xa k xc].toArray w (Ret fun r w' => ∃ f' a1 c1 v1 a2 c2 v2, r = .tuple #[.slice a1 (k - 1) c1, .slice a2 (k - 1) c2] ∧ FLe f f' ∧ Reads f' 1 (.slice a1 (k - 1) c1) (k - 1) v1 ∧ RR f' v1 (wholeF n k ps (hAll n k ps x k).1) ∧ Reads f' 1 (.slice a2 (k - 1) c2) (k - 1) v2 ∧ RR f' v2 (wholeF n k ps (hAll n k ps x k).2) ∧ Sep W0 w' (pool f' :: L)) := by
 obtain ⟨hk, h2k, hn24, hpl, ca, ccp, hp, hb⟩ := id hc
 have hbl := RB.len hb
 have hk3 : 2 ≤ k ∧ k ≤ 3 := by omega
 have hxl := hsx.len
 clear hk
 refine enter (args := [(ptr p), (.slice la k lc), (.slice xa k xc)]) (n := 156) (rs := [.tmp 6, .tmp 7]) func103 rfl rfl rfl rfl ?_
 refine rSeq (rReg (oV (xAssign rfl) rfl (oV (xAssign rfl) rfl (oEnd (kSeq ?_)))))
 refine rCut' (fun e w => ∃ (bp : Nat) (bq : Nat), e = [(0, (ptr p)), (1, (.slice la k lc)), (2, (.slice xa k xc)), (8, (.slice (some ⟨bp, 0, none⟩) k k)), (9, (.slice (some ⟨bq, 0, none⟩) k k))] ∧ Sep W0 w (own 26 1 (.slice (some ⟨bp, 0, none⟩) k k) k (nils k) :: own 26 1 (.slice (some ⟨bq, 0, none⟩) k k) k (nils k) :: pool f :: L)) ?_ ?_
 · refine rRegG [(none, fun w => ∃ M, Sep W0 w (pool f :: M))] (by kernel_rfl) hs (fun w1 hs2 => ⟨?_, fun hS => ?_⟩)
   · exact ⟨⟨_, (Sep.front (i := 0) rfl hs2)⟩, trivial⟩
   clear hs
   refine gTake0 0 rfl (by kernel_rfl) hS (fun w => xMove rfl) rfl ?_
   clear hS; intro hS
   refine gTake0 1 rfl (by kernel_rfl) hS (fun w => xNil rfl) rfl ?_
   clear hS; intro hS
   refine gTake0 2 rfl (by kernel_rfl) hS (fun w => xFA (j' := 1) underlying206 rfl sizeOf3 rfl rfl) rfl ?_
   clear hS; intro hS
   refine gTake 3 0 rfl (by kernel_rfl) rfl (by kernel_rfl) hS (fun w hq0 => by obtain ⟨M, hq⟩ := hq0; exact xLoadC isAgg3 rfl (PR.cell hp hq (i := 0) rfl rfl)) rfl ?_
   clear hS; intro hS
   refine gTake0 5 rfl (by kernel_rfl) hS (fun w => xMove rfl) rfl ?_
   clear hS; intro hS
   refine gTake0 6 rfl (by kernel_rfl) hS (fun w => xNil rfl) rfl ?_
   clear hS; intro hS
   refine gTake0 7 rfl (by kernel_rfl) hS (fun w => xFA (j' := 1) underlying206 rfl sizeOf3 rfl rfl) rfl ?_
   clear hS; intro hS
   refine gTake 8 0 rfl (by kernel_rfl) rfl (by kernel_rfl) hS (fun w hq0 => by obtain ⟨M, hq⟩ := hq0; exact xLoadC isAgg3 rfl (PR.cell hp hq (i := 0) rfl rfl)) rfl ?_
   clear hS; intro hS
   refine gEff2 4 9 (by kernel_rfl) rfl rfl ?_ ?_
   · refine oMake (k := k) (c := k) (size := 1) (bytes := 24) (inf := Tryz.t26) hs2 underlying22 (by kernel_rfl) rfl rfl rfl rfl rfl (by omega) (by omega) (by omega) (by omega) (by omega) rfl ?_
     intro b3 w4 hs5; clear hs2
     rw [made1 (.slice none 0 0) rfl] at hs5
     refine oEnd (kG ⟨⟨_, (Sep.front (i := 1) rfl hs5)⟩, trivial⟩ ?_)
     clear hS; intro hS
     refine gTake0 10 rfl (by kernel_rfl) hS (fun w => xAssign rfl) rfl ?_
     clear hS; intro hS
     refine gEff 9 (by kernel_rfl) rfl ?_
     refine oMake (k := k) (c := k) (size := 1) (bytes := 24) (inf := Tryz.t26) hs5 underlying22 (by kernel_rfl) rfl rfl rfl rfl rfl (by omega) (by omega) (by omega) (by omega) (by omega) rfl ?_
     intro b6 w7 hs8; clear hs5
     rw [made1 (.slice none 0 0) rfl] at hs8
     refine oEnd (kG ⟨⟨_, (Sep.front (i := 2) rfl hs8)⟩, trivial⟩ ?_)
     clear hS; intro hS
     refine gTake0 11 rfl (by kernel_rfl) hS (fun w => xAssign rfl) rfl ?_
     clear hS; intro hS
     refine gEnd (by kernel_rfl) ?_
     clear hS
     replace hs8 := hs8.f2
     replace hs8 := hs8.f1
     replace hs8 := hs8.f2
     exact kCut _ ⟨b3, b6, rfl, hs8⟩ ⟨rfl, rfl, rfl, rfl, rfl, trivial⟩
   · refine oMake (k := k) (c := k) (size := 1) (bytes := 24) (inf := Tryz.t26) hs2 underlying22 (by kernel_rfl) rfl rfl rfl rfl rfl (by omega) (by omega) (by omega) (by omega) (by omega) rfl ?_
     intro b9 w10 hs11; clear hs2
     rw [made1 (.slice none 0 0) rfl] at hs11
     refine oEnd (kG ⟨⟨_, (Sep.front (i := 1) rfl hs11)⟩, trivial⟩ ?_)
     clear hS; intro hS
     refine gEff 4 (by kernel_rfl) rfl ?_
     refine oMake (k := k) (c := k) (size := 1) (bytes := 24) (inf := Tryz.t26) hs11 underlying22 (by kernel_rfl) rfl rfl rfl rfl rfl (by omega) (by omega) (by omega) (by omega) (by omega) rfl ?_
     intro b12 w13 hs14; clear hs11
     rw [made1 (.slice none 0 0) rfl] at hs14
     refine oEnd (kG ⟨⟨_, (Sep.front (i := 2) rfl hs14)⟩, trivial⟩ ?_)
     clear hS; intro hS
     refine gTake0 10 rfl (by kernel_rfl) hS (fun w => xAssign rfl) rfl ?_
     clear hS; intro hS
     refine gTake0 11 rfl (by kernel_rfl) hS (fun w => xAssign rfl) rfl ?_
     clear hS; intro hS
     refine gEnd (by kernel_rfl) ?_
     clear hS
     exact kCut _ ⟨b12, b9, rfl, hs14⟩ ⟨rfl, rfl, rfl, rfl, rfl, trivial⟩
 clear hs; rintro e w ⟨bp, bq, rfl, hs⟩
 refine rSeq (rSeq (rReg (oV (xMove rfl) rfl (oV (xB1 rfl (rLenS underlying121)) rfl (oV (xMove rfl) rfl (oEnd (kSeq (rBlk ?_))))))))
 replace hs := rows_nils k hs
 replace hs := rows_nils k hs
 rw [← initL_zero] at hs
 replace hs := hs.f4
 replace hs := hs.f2
 replace hs := hs.f4
 replace hs := hs.f3
 replace hs := hs.f4
 refine rLoop (fun mz e w => ∃ (i : Nat) (vsp : List Value) (vsq : List Value), k - i = mz ∧ e = [(0, (ptr p)), (1, (.slice la k lc)), (2, (.slice xa k xc)), (8, (.slice (some ⟨bp, 0, none⟩) k k)), (9, (.slice (some ⟨bq, 0, none⟩) k k)), (30, (I (k : Int))), (31, (I (i : Int)))] ∧ (i ≤ k) ∧ (vsp.length = k) ∧ (vsq.length = k) ∧ Sep W0 w (own 26 1 (.slice (some ⟨bp, 0, none⟩) k k) k vsp :: sepL (rowCh vsp (initL k i)) :: own 26 1 (.slice (some ⟨bq, 0, none⟩) k k) k vsq :: sepL (rowCh vsq (initL k i)) :: pool f :: L)) ⟨_, _, ⟨0, _, _, rfl, rfl, (by omega), (by simp), (by simp), hs⟩, ⟨rfl, rfl, rfl, rfl, rfl, rfl, rfl, trivial⟩⟩ ?_
 clear hs; rintro mz e w ⟨i, vsp, vsq, rfl, rfl, hi, hp1, hq1, hs⟩
 have hil := initL_length hi
 have h1p : vsp.length = (initL k i).length := by omega
 have h1q : vsq.length = (initL k i).length := by omega
 refine rSeq (rReg (oV (xCmp rfl rfl rLss) rfl (oEnd (kSeq (rSeq ?_)))))
 refine rCondD rfl (fun hc15 => ?_) (fun hc15 => ?_)
 · refine rSkip (kSeq (rSeq (rBlk (rSeq (rReg (oV (xMove rfl) rfl (oV (xAssign rfl) rfl (oEnd (kSeq ?_)))))))))
   refine rRegG [(none, fun w => ∃ M, Sep W0 w (pool f :: M))] (by kernel_rfl) hs (fun w16 hs17 => ⟨?_, fun hS => ?_⟩)
   · exact ⟨⟨_, (Sep.front (i := 4) rfl hs17)⟩, trivial⟩
   clear hs
   refine gTake0 0 rfl (by kernel_rfl) hS (fun w => xMove rfl) rfl ?_
   clear hS; intro hS
   refine gTake0 1 rfl (by kernel_rfl) hS (fun w => xMove rfl) rfl ?_
   clear hS; intro hS
   refine gTake0 2 rfl (by kernel_rfl) hS (fun w => xMove rfl) rfl ?_
   clear hS; intro hS
   refine gTake0 3 rfl (by kernel_rfl) hS (fun w => xMove rfl) rfl ?_
   clear hS; intro hS
   refine gTake0 4 rfl (by kernel_rfl) hS (fun w => xMove rfl) rfl ?_
   clear hS; intro hS
   refine gTake0 5 rfl (by kernel_rfl) hS (fun w => xNil rfl) rfl ?_
   clear hS; intro hS
   refine gTake0 6 rfl (by kernel_rfl) hS (fun w => xFA (j' := 1) underlying206 rfl sizeOf3 rfl rfl) rfl ?_
   clear hS; intro hS
   refine gTake 7 0 rfl (by kernel_rfl) rfl (by kernel_rfl) hS (fun w hq0 => by obtain ⟨M, hq⟩ := hq0; exact xLoadC isAgg3 rfl (PR.cell hp hq (i := 0) rfl rfl)) rfl ?_
   clear hS; intro hS
   refine gTake0 9 rfl (by kernel_rfl) hS (fun w => xMove rfl) rfl ?_
   clear hS; intro hS
   refine gTake0 10 rfl (by kernel_rfl) hS (fun w => xNil rfl) rfl ?_
   clear hS; intro hS
   refine gTake0 11 rfl (by kernel_rfl) hS (fun w => xFA (j' := 1) underlying206 rfl sizeOf3 rfl rfl) rfl ?_
   clear hS; intro hS
   refine gTake 12 0 rfl (by kernel_rfl) rfl (by kernel_rfl) hS (fun w hq0 => by obtain ⟨M, hq⟩ := hq0; exact xLoadC isAgg3 rfl (PR.cell hp hq (i := 0) rfl rfl)) rfl ?_
   clear hS; intro hS
   refine gEff2 8 13 (by kernel_rfl) rfl rfl ?_ ?_
   · refine oMake (k := k) (c := k) (size := 1) (bytes := 1) (inf := Tryz.t5) hs17 underlying26 (by kernel_rfl) rfl rfl rfl rfl rfl (by omega) (by omega) (by omega) (by omega) (by omega) rfl ?_
     intro b18 w19 hs20; clear hs17
     rw [made1 (.int .u8 0) rfl] at hs20
     refine oEnd (kG ⟨⟨_, (Sep.front (i := 5) rfl hs20)⟩, trivial⟩ ?_)
     clear hS; intro hS
     refine gTake0 14 rfl (by kernel_rfl) hS (fun w => xIA (o' := i) underlying22 sizeOf26 rfl rfl (by omega) (by omega) (by omega)) rfl ?_
     clear hS; intro hS
     refine gEff2 13 15 (by kernel_rfl) rfl rfl ?_ ?_
     · refine oMake (k := k) (c := k) (size := 1) (bytes := 1) (inf := Tryz.t5) hs20 underlying26 (by kernel_rfl) rfl rfl rfl rfl rfl (by omega) (by omega) (by omega) (by omega) (by omega) rfl ?_
       intro b21 w22 hs23; clear hs20
       rw [made1 (.int .u8 0) rfl] at hs23
       refine oEnd (kG ⟨⟨_, (Sep.front (i := 6) rfl hs23)⟩, trivial⟩ ?_)
       clear hS; intro hS
       refine gEff 15 (by kernel_rfl) rfl ?_
       refine oStoreO hs23 sizeOf26 rfl rfl rfl (i := 2) rfl (getV (by first | omega | (simp only [List.length_append, List.length_set, List.length_cons, List.length_nil, List.length_map, List.length_replicate, mixd_length]; omega))) ?_
       intro w24 hs25; clear hs23; dsimp only [List.set] at hs25
       replace hs25 := hs25.f3
       replace hs25 := hs25.f2
       have hs26 := rows_put (i := i) (l := List.replicate k 0) h1p (by omega) (ownB_mk (by rw [List.length_replicate]) (by rw [List.map_replicate]; exact hs25)); clear hs25
       rw [initL_set (by omega)] at hs26
       refine oEnd (kG ⟨⟨_, (Sep.front (i := 5) rfl hs26)⟩, trivial⟩ ?_)
       clear hS; intro hS
       refine gTake0 16 rfl (by kernel_rfl) hS (fun w => xIA (o' := i) underlying22 sizeOf26 rfl rfl (by omega) (by omega) (by omega)) rfl ?_
       clear hS; intro hS
       refine gEff 17 (by kernel_rfl) rfl ?_
       refine oStoreO hs26 sizeOf26 rfl rfl rfl (i := 3) rfl (getV (by first | omega | (simp only [List.length_append, List.length_set, List.length_cons, List.length_nil, List.length_map, List.length_replicate, mixd_length]; omega))) ?_
       intro w27 hs28; clear hs26; dsimp only [List.set] at hs28
       replace hs28 := hs28.f4
       replace hs28 := hs28.f2
       have hs29 := rows_put (i := i) (l := List.replicate k 0) h1q (by omega) (ownB_mk (by rw [List.length_replicate]) (by rw [List.map_replicate]; exact hs28)); clear hs28
       rw [initL_set (by omega)] at hs29
       refine oEnd (kG ⟨⟨_, (Sep.front (i := 4) rfl hs29)⟩, trivial⟩ ?_)
       clear hS; intro hS
       refine gEnd (by kernel_rfl) ?_
       clear hS
       refine kBlk (kSeq ?_)
       refine rReg (oV (xAr rfl rfl (rAdd (wI (by omega) (by omega)))) rfl (oV (xMove rfl) rfl ?_))
       replace hs29 := hs29.f4
       replace hs29 := hs29.f1
       replace hs29 := hs29.f4
       replace hs29 := hs29.f3
       replace hs29 := hs29.f4
       exact oEnd (kLoop (k - (i + 1)) _ (by omega) ⟨i + 1, _, _, rfl, rfl, (by omega), (by rw [List.length_set]; exact hp1), (by rw [List.length_set]; exact hq1), hs29⟩ ⟨rfl, rfl, rfl, rfl, rfl, rfl, rfl, trivial⟩)
     · refine oStoreO hs20 sizeOf26 rfl rfl rfl (i := 1) rfl (getV (by first | omega | (simp only [List.length_append, List.length_set, List.length_cons, List.length_nil, List.length_map, List.length_replicate, mixd_length]; omega))) ?_
       intro w30 hs31; clear hs20; dsimp only [List.set] at hs31
       replace hs31 := hs31.f2
       replace hs31 := hs31.f1
       have hs32 := rows_put (i := i) (l := List.replicate k 0) h1p (by omega) (ownB_mk (by rw [List.length_replicate]) (by rw [List.map_replicate]; exact hs31)); clear hs31
       rw [initL_set (by omega)] at hs32
       refine oEnd (kG ⟨⟨_, (Sep.front (i := 4) rfl hs32)⟩, trivial⟩ ?_)
       clear hS; intro hS
       refine gEff 13 (by kernel_rfl) rfl ?_
       refine oMake (k := k) (c := k) (size := 1) (bytes := 1) (inf := Tryz.t5) hs32 underlying26 (by kernel_rfl) rfl rfl rfl rfl rfl (by omega) (by omega) (by omega) (by omega) (by omega) rfl ?_
       intro b33 w34 hs35; clear hs32
       rw [made1 (.int .u8 0) rfl] at hs35
       refine oEnd (kG ⟨⟨_, (Sep.front (i := 5) rfl hs35)⟩, trivial⟩ ?_)
       clear hS; intro hS
       refine gTake0 16 rfl (by kernel_rfl) hS (fun w => xIA (o' := i) underlying22 sizeOf26 rfl rfl (by omega) (by omega) (by omega)) rfl ?_
       clear hS; intro hS
       refine gEff 17 (by kernel_rfl) rfl ?_
       refine oStoreO hs35 sizeOf26 rfl rfl rfl (i := 3) rfl (getV (by first | omega | (simp only [List.length_append, List.length_set, List.length_cons, List.length_nil, List.length_map, List.length_replicate, mixd_length]; omega))) ?_
       intro w36 hs37; clear hs35; dsimp only [List.set] at hs37
       replace hs37 := hs37.f4
       replace hs37 := hs37.f1
       have hs38 := rows_put (i := i) (l := List.replicate k 0) h1q (by omega) (ownB_mk (by rw [List.length_replicate]) (by rw [List.map_replicate]; exact hs37)); clear hs37
       rw [initL_set (by omega)] at hs38
       refine oEnd (kG ⟨⟨_, (Sep.front (i := 4) rfl hs38)⟩, trivial⟩ ?_)
       clear hS; intro hS
       refine gEnd (by kernel_rfl) ?_
       clear hS
       refine kBlk (kSeq ?_)
       refine rReg (oV (xAr rfl rfl (rAdd (wI (by omega) (by omega)))) rfl (oV (xMove rfl) rfl ?_))
       replace hs38 := hs38.f4
       replace hs38 := hs38.f1
       replace hs38 := hs38.f4
       replace hs38 := hs38.f3
       replace hs38 := hs38.f4
       exact oEnd (kLoop (k - (i + 1)) _ (by omega) ⟨i + 1, _, _, rfl, rfl, (by omega), (by rw [List.length_set]; exact hp1), (by rw [List.length_set]; exact hq1), hs38⟩ ⟨rfl, rfl, rfl, rfl, rfl, rfl, rfl, trivial⟩)
   · refine oMake (k := k) (c := k) (size := 1) (bytes := 1) (inf := Tryz.t5) hs17 underlying26 (by kernel_rfl) rfl rfl rfl rfl rfl (by omega) (by omega) (by omega) (by omega) (by omega) rfl ?_
     intro b39 w40 hs41; clear hs17
     rw [made1 (.int .u8 0) rfl] at hs41
     refine oEnd (kG ⟨⟨_, (Sep.front (i := 5) rfl hs41)⟩, trivial⟩ ?_)
     clear hS; intro hS
     refine gEff 8 (by kernel_rfl) rfl ?_
     refine oMake (k := k) (c := k) (size := 1) (bytes := 1) (inf := Tryz.t5) hs41 underlying26 (by kernel_rfl) rfl rfl rfl rfl rfl (by omega) (by omega) (by omega) (by omega) (by omega) rfl ?_
     intro b42 w43 hs44; clear hs41
     rw [made1 (.int .u8 0) rfl] at hs44
     refine oEnd (kG ⟨⟨_, (Sep.front (i := 6) rfl hs44)⟩, trivial⟩ ?_)
     clear hS; intro hS
     refine gTake0 14 rfl (by kernel_rfl) hS (fun w => xIA (o' := i) underlying22 sizeOf26 rfl rfl (by omega) (by omega) (by omega)) rfl ?_
     clear hS; intro hS
     refine gEff 15 (by kernel_rfl) rfl ?_
     refine oStoreO hs44 sizeOf26 rfl rfl rfl (i := 2) rfl (getV (by first | omega | (simp only [List.length_append, List.length_set, List.length_cons, List.length_nil, List.length_map, List.length_replicate, mixd_length]; omega))) ?_
     intro w45 hs46; clear hs44; dsimp only [List.set] at hs46
     replace hs46 := hs46.f3
     replace hs46 := hs46.f1
     have hs47 := rows_put (i := i) (l := List.replicate k 0) h1p (by omega) (ownB_mk (by rw [List.length_replicate]) (by rw [List.map_replicate]; exact hs46)); clear hs46
     rw [initL_set (by omega)] at hs47
     refine oEnd (kG ⟨⟨_, (Sep.front (i := 5) rfl hs47)⟩, trivial⟩ ?_)
     clear hS; intro hS
     refine gTake0 16 rfl (by kernel_rfl) hS (fun w => xIA (o' := i) underlying22 sizeOf26 rfl rfl (by omega) (by omega) (by omega)) rfl ?_
     clear hS; intro hS
     refine gEff 17 (by kernel_rfl) rfl ?_
     refine oStoreO hs47 sizeOf26 rfl rfl rfl (i := 3) rfl (getV (by first | omega | (simp only [List.length_append, List.length_set, List.length_cons, List.length_nil, List.length_map, List.length_replicate, mixd_length]; omega))) ?_
     intro w48 hs49; clear hs47; dsimp only [List.set] at hs49
     replace hs49 := hs49.f4
     replace hs49 := hs49.f2
     have hs50 := rows_put (i := i) (l := List.replicate k 0) h1q (by omega) (ownB_mk (by rw [List.length_replicate]) (by rw [List.map_replicate]; exact hs49)); clear hs49
     rw [initL_set (by omega)] at hs50
     refine oEnd (kG ⟨⟨_, (Sep.front (i := 4) rfl hs50)⟩, trivial⟩ ?_)
     clear hS; intro hS
     refine gEnd (by kernel_rfl) ?_
     clear hS
     refine kBlk (kSeq ?_)
     refine rReg (oV (xAr rfl rfl (rAdd (wI (by omega) (by omega)))) rfl (oV (xMove rfl) rfl ?_))
     replace hs50 := hs50.f4
     replace hs50 := hs50.f1
     replace hs50 := hs50.f4
     replace hs50 := hs50.f3
     replace hs50 := hs50.f4
     exact oEnd (kLoop (k - (i + 1)) _ (by omega) ⟨i + 1, _, _, rfl, rfl, (by omega), (by rw [List.length_set]; exact hp1), (by rw [List.length_set]; exact hq1), hs50⟩ ⟨rfl, rfl, rfl, rfl, rfl, rfl, rfl, trivial⟩)
 · refine rExit (kSeqX (kLoopX (kBlkH (kSeq (rSeq (rSeq (rReg (oV (xMove rfl) rfl (oV (xB1 rfl (rLenS underlying121)) rfl (oV (xMove rfl) rfl (oEnd (kSeq (rBlk ?_)))))))))))))
   obtain rfl : k = i := by omega
   rw [initL_end] at hs
   refine rLoop (fun mz e w => ∃ (i : Nat) (mo : LL × LL) (f51 : HF), k - i = mz ∧ e = [(0, (ptr p)), (1, (.slice la k lc)), (2, (.slice xa k xc)), (8, (.slice (some ⟨bp, 0, none⟩) k k)), (9, (.slice (some ⟨bq, 0, none⟩) k k)), (52, (I (k : Int))), (53, (I (i : Int)))] ∧ (i ≤ k) ∧ (mo = hAll n k ps x i) ∧ (FLe f f51) ∧ (CodeP f51 p n k) ∧ (Reads f51 2 (.slice la k lc) k cs) ∧ (PsR f51 cs ps) ∧ (Reads f51 1 (.slice xa k xc) k vx) ∧ (RR f51 vx x) ∧ Sep W0 w (own 26 1 (.slice (some ⟨bp, 0, none⟩) k k) k vsp :: sepL (rowCh vsp mo.1) :: own 26 1 (.slice (some ⟨bq, 0, none⟩) k k) k vsq :: sepL (rowCh vsq mo.2) :: pool f51 :: L)) ⟨_, _, ⟨0, (hAll n k ps x 0), f, rfl, rfl, (by omega), (rfl), (FLe.refl _), (hc), (hvl), (hrl), (hvx), (hrx), hs⟩, ⟨rfl, rfl, rfl, rfl, rfl, rfl, rfl, trivial⟩⟩ ?_
   clear hs; rintro mz e w ⟨i, mo, f51, rfl, rfl, hi, hmo, hle52, hc, hvl, hrl, hvx, hrx, hs⟩
   have hap : Shp mo k k k := hmo ▸ hAll_shape (n := n) (ps := ps) (x := x) hi
   refine rSeq (rReg (oV (xCmp rfl rfl rLss) rfl (oEnd (kSeq (rSeq ?_)))))
   refine rCondD rfl (fun hc53 => ?_) (fun hc53 => ?_)
   · refine rSkip (kSeq (rSeq (rBlk (rSeq (rReg (oV (xMove rfl) rfl (oV (xAssign rfl) rfl (oEnd (kSeq (rSeq (rReg (oV (xMove rfl) rfl (oV (xMove rfl) rfl (oEnd (kSeq (rBlk ?_))))))))))))))))
     refine rLoop (fun mz e w => ∃ (j : Nat) (mm : LL × LL) (f54 : HF), i - j = mz ∧ e = [(0, (ptr p)), (1, (.slice la k lc)), (2, (.slice xa k xc)), (8, (.slice (some ⟨bp, 0, none⟩) k k)), (9, (.slice (some ⟨bq, 0, none⟩) k k)), (11, (I (i : Int))), (52, (I (k : Int))), (53, (I (i : Int))), (56, (I (i : Int))), (57, (I (j : Int)))] ∧ (j ≤ i) ∧ (mm = hRow n k ps x i mo j) ∧ (FLe f51 f54) ∧ (CodeP f54 p n k) ∧ (Reads f54 2 (.slice la k lc) k cs) ∧ (PsR f54 cs ps) ∧ (Reads f54 1 (.slice xa k xc) k vx) ∧ (RR f54 vx x) ∧ Sep W0 w (own 26 1 (.slice (some ⟨bp, 0, none⟩) k k) k vsp :: sepL (rowCh vsp mm.1) :: own 26 1 (.slice (some ⟨bq, 0, none⟩) k k) k vsq :: sepL (rowCh vsq mm.2) :: pool f54 :: L)) ⟨_, _, ⟨0, mo, f51, rfl, rfl, (by omega), (rfl), (FLe.refl _), (hc), (hvl), (hrl), (hvx), (hrx), hs⟩, ⟨rfl, rfl, rfl, rfl, rfl, rfl, rfl, rfl, rfl, rfl, trivial⟩⟩ ?_
     clear hs; rintro mz e w ⟨j, mm, f54, rfl, rfl, hj, hmm, hle55, hc, hvl, hrl, hvx, hrx, hs⟩
     have hrp : Shp mm k k k := hmm ▸ hRow_shape (n := n) (ps := ps) (x := x) hap (show i < k by omega) hj
     refine rSeq (rReg (oV (xCmp rfl rfl rLss) rfl (oEnd (kSeq (rSeq ?_)))))
     refine rCondD rfl (fun hc56 => ?_) (fun hc56 => ?_)
     · have hxi := hsx.at (i := i) (by omega); have hxj := hsx.at (i := j) (by omega); have hsi := hsl i (by omega); have hsj := hsl j (by omega); have hdv : ((gpow (pt n k ((prt ps i).1)) (k - 1)) ^^^ (gpow (pt n k ((prt ps j).1)) (k - 1))).toNat ≠ 0 := hne i j (by omega) (by omega)
       refine rSkip (kSeq (rSeq (rBlk (rSeq (rReg (oV (xMove rfl) rfl (oV (xAssign rfl) rfl (oEnd (kSeq (rSeq ?_))))))))))
       refine rRegG [(none, fun w => ∃ M, Sep W0 w (pool f54 :: M))] (by kernel_rfl) hs (fun w57 hs58 => ⟨?_, fun hS => ?_⟩)
       · exact ⟨⟨_, (Sep.front (i := 4) rfl hs58)⟩, trivial⟩
       clear hs
       refine gTake0 0 rfl (by kernel_rfl) hS (fun w => xMove rfl) rfl ?_
       clear hS; intro hS
       refine gTake0 1 rfl (by kernel_rfl) hS (fun w => xMove rfl) rfl ?_
       clear hS; intro hS
       obtain ⟨b59, off60, rfl⟩ := Reads.at hvx (by omega)
       refine gTake0 2 rfl (by kernel_rfl) hS (fun w => xIA (o' := off60 + i) underlying22 sizeOf26 rfl rfl (by omega) (by omega) (by omega)) rfl ?_
       clear hS; intro hS
       obtain ⟨a61, k62, cp63, he64, hb65⟩ := RR.get hrx i (by omega)
       have hl66 := RB.len hb65
       refine gTake 3 0 rfl (by kernel_rfl) rfl (by kernel_rfl) hS (fun w hq0 => by obtain ⟨M, hq⟩ := hq0; exact xLoadC isAgg26 rfl (Reads.cell hvx hq (i := 0) rfl he64)) rfl ?_
       clear hS; intro hS
       refine gTake0 4 rfl (by kernel_rfl) hS (fun w => xMove rfl) rfl ?_
       clear hS; intro hS
       refine gTake0 5 rfl (by kernel_rfl) hS (fun w => xMove rfl) rfl ?_
       clear hS; intro hS
       refine gTake0 6 rfl (by kernel_rfl) hS (fun w => xMove rfl) rfl ?_
       clear hS; intro hS
       obtain ⟨b67, off68, rfl⟩ := Reads.at hvl (by omega)
       refine gTake0 7 rfl (by kernel_rfl) hS (fun w => xIA (o' := off68 + j * 2) underlying121 sizeOf123 rfl rfl (by omega) (by omega) (by omega)) rfl ?_
       clear hS; intro hS
       refine gTake0 8 rfl (by kernel_rfl) hS (fun w => xFA (j' := (off68 + j * 2)) underlying123 rfl sizeOf3 rfl rfl) rfl ?_
       clear hS; intro hS
       obtain ⟨a69, k70, cp71, ht72, _⟩ := PsR.get hrl j (by omega)
       refine gTake 9 0 rfl (by kernel_rfl) rfl (by kernel_rfl) hS (fun w hq0 => by obtain ⟨M, hq⟩ := hq0; exact xLoadC isAgg3 rfl (reads_cells hvl hq (i := 0) rfl ht72 0 _ rfl)) rfl ?_
       clear hS; intro hS
       refine gEff 10 (by kernel_rfl) rfl ?_
       replace hs58 := hs58.f4
       refine oCall call177 rfl rfl (cshort_s hc ((prt ps j).1) (by omega) hs58) ?_
       rintro _ w81 ⟨f74, a75, k76, cp77, rfl, hle78, hb79, hs82⟩; clear hs58; have hl80 := RB.len hb79
       replace hc := hc.mono hle78
       replace hvl := hvl.mono hle78
       replace hrl := hrl.mono hle78
       replace hvx := hvx.mono hle78
       replace hrx := hrx.mono hle78
       replace hb65 := hb65.mono hle78
       have hvl83 := vrow_length (pt n k ((prt ps j).1)) (k - 1)
       refine oEnd (kG ⟨⟨_, (Sep.imp (i := 0) rfl (pool_sub hle78) (Sep.front (i := 0) rfl hs82))⟩, trivial⟩ ?_)
       clear hS; intro hS
       refine gEff 11 (by kernel_rfl) rfl ?_
       refine oCall call176 rfl rfl (mdot_k (t := k - 1) hb65 hb79 (by omega) (by omega) (by omega) hs82) ?_
       rintro _ w84 ⟨rfl, hs85⟩; clear hs82
       refine oEnd (kG ⟨⟨_, (Sep.imp (i := 0) rfl (pool_sub hle78) (Sep.front (i := 0) rfl hs85))⟩, trivial⟩ ?_)
       clear hS; intro hS
       refine gTake0 12 rfl (by kernel_rfl) hS (fun w => xAssign rfl) rfl ?_
       clear hS; intro hS
       refine gEnd (by kernel_rfl) ?_
       clear hS
       refine kSeq ?_
       refine rSeq ?_
       refine rRegG [(none, fun w => ∃ M, Sep W0 w (pool f74 :: M))] (by kernel_rfl) hs85 (fun w86 hs87 => ⟨?_, fun hS => ?_⟩)
       · exact ⟨⟨_, (Sep.front (i := 0) rfl hs87)⟩, trivial⟩
       clear hs85
       refine gTake0 0 rfl (by kernel_rfl) hS (fun w => xMove rfl) rfl ?_
       clear hS; intro hS
       refine gTake0 1 rfl (by kernel_rfl) hS (fun w => xMove rfl) rfl ?_
       clear hS; intro hS
       refine gTake0 2 rfl (by kernel_rfl) hS (fun w => xIA (o' := off60 + j) underlying22 sizeOf26 rfl rfl (by omega) (by omega) (by omega)) rfl ?_
       clear hS; intro hS
       obtain ⟨a88, k89, cp90, he91, hb92⟩ := RR.get hrx j (by omega)
       have hl93 := RB.len hb92
       refine gTake 3 0 rfl (by kernel_rfl) rfl (by kernel_rfl) hS (fun w hq0 => by obtain ⟨M, hq⟩ := hq0; exact xLoadC isAgg26 rfl (Reads.cell hvx hq (i := 0) rfl he91)) rfl ?_
       clear hS; intro hS
       refine gTake0 4 rfl (by kernel_rfl) hS (fun w => xMove rfl) rfl ?_
       clear hS; intro hS
       refine gTake0 5 rfl (by kernel_rfl) hS (fun w => xMove rfl) rfl ?_
       clear hS; intro hS
       refine gTake0 6 rfl (by kernel_rfl) hS (fun w => xMove rfl) rfl ?_
       clear hS; intro hS
       refine gTake0 7 rfl (by kernel_rfl) hS (fun w => xIA (o' := off68 + i * 2) underlying121 sizeOf123 rfl rfl (by omega) (by omega) (by omega)) rfl ?_
       clear hS; intro hS
       refine gTake0 8 rfl (by kernel_rfl) hS (fun w => xFA (j' := (off68 + i * 2)) underlying123 rfl sizeOf3 rfl rfl) rfl ?_
       clear hS; intro hS
       obtain ⟨a94, k95, cp96, ht97, _⟩ := PsR.get hrl i (by omega)
       refine gTake 9 0 rfl (by kernel_rfl) rfl (by kernel_rfl) hS (fun w hq0 => by obtain ⟨M, hq⟩ := hq0; exact xLoadC isAgg3 rfl (reads_cells hvl hq (i := 0) rfl ht97 0 _ rfl)) rfl ?_
       clear hS; intro hS
       refine gEff 10 (by kernel_rfl) rfl ?_
       refine oCall call177 rfl rfl (cshort_s hc ((prt ps i).1) (by omega) hs87) ?_
       rintro _ w106 ⟨f99, a100, k101, cp102, rfl, hle103, hb104, hs107⟩; clear hs87; have hl105 := RB.len hb104
       replace hc := hc.mono hle103
       replace hvl := hvl.mono hle103
       replace hrl := hrl.mono hle103
       replace hvx := hvx.mono hle103
       replace hrx := hrx.mono hle103
       replace hb65 := hb65.mono hle103
       replace hb79 := hb79.mono hle103
       replace hb92 := hb92.mono hle103
       have hvl108 := vrow_length (pt n k ((prt ps i).1)) (k - 1)
       refine oEnd (kG ⟨⟨_, (Sep.imp (i := 0) rfl (pool_sub hle103) (Sep.front (i := 0) rfl hs107))⟩, trivial⟩ ?_)
       clear hS; intro hS
       refine gEff 11 (by kernel_rfl) rfl ?_
       refine oCall call176 rfl rfl (mdot_k (t := k - 1) hb92 hb104 (by omega) (by omega) (by omega) hs107) ?_
       rintro _ w109 ⟨rfl, hs110⟩; clear hs107
       refine oEnd (kG ⟨⟨_, (Sep.imp (i := 0) rfl (pool_sub hle103) (Sep.front (i := 0) rfl hs110))⟩, trivial⟩ ?_)
       clear hS; intro hS
       refine gTake0 12 rfl (by kernel_rfl) hS (fun w => xAssign rfl) rfl ?_
       clear hS; intro hS
       refine gEnd (by kernel_rfl) ?_
       clear hS
       refine kSeq ?_
       refine rSeq ?_
       refine rRegG [(none, fun w => ∃ M, Sep W0 w (pool f99 :: M))] (by kernel_rfl) hs110 (fun w111 hs112 => ⟨?_, fun hS => ?_⟩)
       · exact ⟨⟨_, (Sep.front (i := 0) rfl hs112)⟩, trivial⟩
       clear hs110
       refine gTake0 0 rfl (by kernel_rfl) hS (fun w => xMove rfl) rfl ?_
       clear hS; intro hS
       refine gTake0 1 rfl (by kernel_rfl) hS (fun w => xMove rfl) rfl ?_
       clear hS; intro hS
       refine gTake0 2 rfl (by kernel_rfl) hS (fun w => xMove rfl) rfl ?_
       clear hS; intro hS
       refine gTake0 3 rfl (by kernel_rfl) hS (fun w => xIA (o' := off68 + i * 2) underlying121 sizeOf123 rfl rfl (by omega) (by omega) (by omega)) rfl ?_
       clear hS; intro hS
       refine gTake0 4 rfl (by kernel_rfl) hS (fun w => xFA (j' := (off68 + i * 2)) underlying123 rfl sizeOf3 rfl rfl) rfl ?_
       clear hS; intro hS
       obtain ⟨a113, k114, cp115, ht116, _⟩ := PsR.get hrl i (by omega)
       refine gTake 5 0 rfl (by kernel_rfl) rfl (by kernel_rfl) hS (fun w hq0 => by obtain ⟨M, hq⟩ := hq0; exact xLoadC isAgg3 rfl (reads_cells hvl hq (i := 0) rfl ht116 0 _ rfl)) rfl ?_
       clear hS; intro hS
       refine gTake0 7 rfl (by kernel_rfl) hS (fun w => xMove rfl) rfl ?_
       clear hS; intro hS
       refine gTake0 8 rfl (by kernel_rfl) hS (fun w => xMove rfl) rfl ?_
       clear hS; intro hS
       refine gTake0 9 rfl (by kernel_rfl) hS (fun w => xMove rfl) rfl ?_
       clear hS; intro hS
       refine gTake0 10 rfl (by kernel_rfl) hS (fun w => xIA (o' := off68 + j * 2) underlying121 sizeOf123 rfl rfl (by omega) (by omega) (by omega)) rfl ?_
       clear hS; intro hS
       refine gTake0 11 rfl (by kernel_rfl) hS (fun w => xFA (j' := (off68 + j * 2)) underlying123 rfl sizeOf3 rfl rfl) rfl ?_
       clear hS; intro hS
       obtain ⟨a118, k119, cp120, ht121, _⟩ := PsR.get hrl j (by omega)
       refine gTake 12 0 rfl (by kernel_rfl) rfl (by kernel_rfl) hS (fun w hq0 => by obtain ⟨M, hq⟩ := hq0; exact xLoadC isAgg3 rfl (reads_cells hvl hq (i := 0) rfl ht121 0 _ rfl)) rfl ?_
       clear hS; intro hS
       refine gEff 6 (by kernel_rfl) rfl ?_
       refine oCall call178 rfl rfl (cfact_s hc ((prt ps i).1) (by omega) hs112) ?_
       rintro _ w123 ⟨rfl, hs124⟩; clear hs112
       refine oEnd (kG ⟨⟨_, (Sep.front (i := 0) rfl hs124)⟩, trivial⟩ ?_)
       clear hS; intro hS
       refine gEff 13 (by kernel_rfl) rfl ?_
       refine oCall call178 rfl rfl (cfact_s hc ((prt ps j).1) (by omega) hs124) ?_
       rintro _ w125 ⟨rfl, hs126⟩; clear hs124
       refine oEnd (kG ⟨⟨_, (Sep.front (i := 0) rfl hs126)⟩, trivial⟩ ?_)
       clear hS; intro hS
       refine gTake0 14 rfl (by kernel_rfl) hS (fun w => xAssign rfl) rfl ?_
       clear hS; intro hS
       refine gTake0 15 rfl (by kernel_rfl) hS (fun w => xAssign rfl) rfl ?_
       clear hS; intro hS
       refine gEnd (by kernel_rfl) ?_
       clear hS
       refine kSeq ?_
       refine rSeq (Run.sub (e' := [(0, (ptr p)), (1, (.slice (some ⟨b67, off68, none⟩) k lc)), (2, (.slice (some ⟨b59, off60, none⟩) k xc)), (8, (.slice (some ⟨bp, 0, none⟩) k k)), (9, (.slice (some ⟨bq, 0, none⟩) k k)), (11, (I (i : Int))), (52, (I (k : Int))), (53, (I (i : Int))), (56, (I (i : Int))), (57, (I (j : Int))), (12, (I (j : Int))), (13, (.int .u8 ((dot (x.getD i []) (vrow (pt n k ((prt ps j).1)) (k - 1)) (k - 1)).toNat : Int))), (14, (.int .u8 ((dot (x.getD j []) (vrow (pt n k ((prt ps i).1)) (k - 1)) (k - 1)).toNat : Int))), (15, (.int .u8 ((gpow (pt n k ((prt ps i).1)) (k - 1)).toNat : Int))), (16, (.int .u8 ((gpow (pt n k ((prt ps j).1)) (k - 1)).toNat : Int)))]) ⟨rfl, rfl, rfl, rfl, rfl, rfl, rfl, rfl, rfl, rfl, rfl, rfl, rfl, rfl, rfl, trivial⟩ ?_)
       refine rReg ?_
       generalize hA : (dot (x.getD i []) (vrow (pt n k ((prt ps j).1)) (k - 1)) (k - 1)) = da
       generalize hB : (dot (x.getD j []) (vrow (pt n k ((prt ps i).1)) (k - 1)) (k - 1)) = db
       generalize hF : (gpow (pt n k ((prt ps i).1)) (k - 1)) = df at hdv ⊢
       generalize hG : (gpow (pt n k ((prt ps j).1)) (k - 1)) = dg at hdv ⊢
       refine oV (xMove rfl) rfl (oV (xMove rfl) rfl (oCall call107 rfl rfl (gadd_s da db hs126) ?_))
       rintro _ w127 ⟨rfl, hs128⟩; clear hs126
       refine oV (xMove rfl) rfl (oV (xMove rfl) rfl (oCall call107 rfl rfl (gadd_s df dg hs128) ?_))
       rintro _ w129 ⟨rfl, hs130⟩; clear hs128
       refine oCall call179 rfl rfl (gdiv_s (da ^^^ db) (df ^^^ dg) (by first | assumption | omega) hs130) ?_
       rintro _ w131 ⟨rfl, hs132⟩; clear hs130
       refine oV (xMove rfl) rfl (oV (xExtract rfl rfl) rfl (oV (xExtract rfl rfl) rfl (oV (xAssign rfl) rfl ?_)))
       clear hdv
       generalize hY : (gmul (da ^^^ db) (ginv (df ^^^ dg))) = y
       refine oV (xAssign rfl) rfl (oEnd (kSeq (rSeq ?_)))
       refine rRegG [(none, fun w => ∃ M, Sep W0 w (own 26 1 (.slice (some ⟨bq, 0, none⟩) k k) k vsq :: M))] (by kernel_rfl) hs132 (fun w133 hs134 => ⟨?_, fun hS => ?_⟩)
       · exact ⟨⟨_, (Sep.front (i := 3) rfl hs134)⟩, trivial⟩
       clear hs132
       refine gTake0 0 rfl (by kernel_rfl) hS (fun w => xMove rfl) rfl ?_
       clear hS; intro hS
       refine gTake0 1 rfl (by kernel_rfl) hS (fun w => xMove rfl) rfl ?_
       clear hS; intro hS
       refine gTake0 2 rfl (by kernel_rfl) hS (fun w => xIA (o' := i) underlying22 sizeOf26 rfl rfl (by omega) (by omega) (by omega)) rfl ?_
       clear hS; intro hS
       obtain ⟨a135, cp136, hv137⟩ := rows_head3 (i := i) hs134 (p := 4) rfl (hq1.trans hrp.2.len.symm) hrp.2 (by omega)
       refine gTake 3 0 rfl (by kernel_rfl) rfl (by kernel_rfl) hS (fun w hq0 => by obtain ⟨M, hq⟩ := hq0; exact xLoadC isAgg26 rfl (Sep.ownCell hq (i := 0) rfl ((getV (by omega)).trans (congrArg some hv137)))) rfl ?_
       clear hS; intro hS
       refine gTake0 4 rfl (by kernel_rfl) hS (fun w => xMove rfl) rfl ?_
       clear hS; intro hS
       refine gTake0 5 rfl (by kernel_rfl) hS (fun w => xMove rfl) rfl ?_
       clear hS; intro hS
       refine gTake0 6 rfl (by kernel_rfl) hS (fun w => xMove rfl) rfl ?_
       clear hS; intro hS
       refine gTake0 7 rfl (by kernel_rfl) hS (fun w => xIA (o' := j) underlying22 sizeOf26 rfl rfl (by omega) (by omega) (by omega)) rfl ?_
       clear hS; intro hS
       obtain ⟨a138, cp139, hv140⟩ := rows_head3 (i := j) hs134 (p := 4) rfl (hq1.trans hrp.2.len.symm) hrp.2 (by omega)
       refine gTake 8 0 rfl (by kernel_rfl) rfl (by kernel_rfl) hS (fun w hq0 => by obtain ⟨M, hq⟩ := hq0; exact xLoadC isAgg26 rfl (Sep.ownCell hq (i := 0) rfl ((getV (by omega)).trans (congrArg some hv140)))) rfl ?_
       clear hS; intro hS
       refine gTake0 9 rfl (by kernel_rfl) hS (fun w => xMove rfl) rfl ?_
       clear hS; intro hS
       refine gTake0 10 rfl (by kernel_rfl) hS (fun w => xMove rfl) rfl ?_
       clear hS; intro hS
       refine gTake0 11 rfl (by kernel_rfl) hS (fun w => xMove rfl) rfl ?_
       clear hS; intro hS
       obtain ⟨b141, rfl⟩ := rows_addr3 (i := i) hs134 (p := 4) rfl (hq1.trans hrp.2.len.symm) hrp.2 (by omega) hv137 (by omega)
       refine gTake0 12 rfl (by kernel_rfl) hS (fun w => xIA (o' := j) underlying26 sizeOf5 rfl rfl (by omega) (by omega) (by omega)) rfl ?_
       clear hS; intro hS
       refine gEff 13 (by kernel_rfl) rfl ?_
       refine oStoreRow3 (i := i) (j := j) hs134 sizeOf5 rfl rfl (p := 4) rfl (hq1.trans hrp.2.len.symm) hrp.2 (by omega) hv137 (by omega) ?_
       intro w143 hs144; clear hs134; dsimp only [List.set] at hs144
       refine oEnd (kG ⟨⟨_, (Sep.front (i := 3) rfl hs144)⟩, trivial⟩ ?_)
       clear hS; intro hS
       obtain ⟨b147, rfl⟩ := rows_addr3 (i := j) hs144 (p := 4) rfl ((hq1.trans hrp.2.len.symm).trans (set2_length _ _ _ _).symm) (hrp.2.set2 (i := i) (by omega)) (by omega) hv140 (by omega)
       refine gTake0 14 rfl (by kernel_rfl) hS (fun w => xIA (o' := i) underlying26 sizeOf5 rfl rfl (by omega) (by omega) (by omega)) rfl ?_
       clear hS; intro hS
       refine gEff 15 (by kernel_rfl) rfl ?_
       refine oStoreRow3 (i := j) (j := i) hs144 sizeOf5 rfl rfl (p := 4) rfl ((hq1.trans hrp.2.len.symm).trans (set2_length _ _ _ _).symm) (hrp.2.set2 (i := i) (by omega)) (by omega) hv140 (by omega) ?_
       intro w149 hs150; clear hs144; dsimp only [List.set] at hs150
       refine oEnd (kG ⟨⟨_, (Sep.front (i := 3) rfl hs150)⟩, trivial⟩ ?_)
       clear hS; intro hS
       refine gEnd (by kernel_rfl) ?_
       clear hS
       refine kSeq ?_
       refine rSeq (Run.sub (e' := [(0, (ptr p)), (1, (.slice (some ⟨b67, off68, none⟩) k lc)), (2, (.slice (some ⟨b59, off60, none⟩) k xc)), (8, (.slice (some ⟨bp, 0, none⟩) k k)), (9, (.slice (some ⟨bq, 0, none⟩) k k)), (11, (I (i : Int))), (52, (I (k : Int))), (53, (I (i : Int))), (56, (I (i : Int))), (57, (I (j : Int))), (12, (I (j : Int))), (13, (.int .u8 (da.toNat : Int))), (15, (.int .u8 (df.toNat : Int))), (17, (.int .u8 (y.toNat : Int)))]) ⟨rfl, rfl, rfl, rfl, rfl, rfl, rfl, rfl, rfl, rfl, rfl, rfl, rfl, rfl, trivial⟩ ?_)
       refine rRegG [(none, fun w => ∃ M, Sep W0 w (own 26 1 (.slice (some ⟨bp, 0, none⟩) k k) k vsp :: M))] (by kernel_rfl) hs150 (fun w153 hs154 => ⟨?_, fun hS => ?_⟩)
       · exact ⟨⟨_, (Sep.front (i := 1) rfl hs154)⟩, trivial⟩
       clear hs150
       refine gTake0 0 rfl (by kernel_rfl) hS (fun w => xMove rfl) rfl ?_
       clear hS; intro hS
       refine gTake0 1 rfl (by kernel_rfl) hS (fun w => xMove rfl) rfl ?_
       clear hS; intro hS
       refine gTake0 2 rfl (by kernel_rfl) hS (fun w => xIA (o' := i) underlying22 sizeOf26 rfl rfl (by omega) (by omega) (by omega)) rfl ?_
       clear hS; intro hS
       obtain ⟨a155, cp156, hv157⟩ := rows_head3 (i := i) hs154 (p := 2) rfl (hp1.trans hrp.1.len.symm) hrp.1 (by omega)
       refine gTake 3 0 rfl (by kernel_rfl) rfl (by kernel_rfl) hS (fun w hq0 => by obtain ⟨M, hq⟩ := hq0; exact xLoadC isAgg26 rfl (Sep.ownCell hq (i := 0) rfl ((getV (by omega)).trans (congrArg some hv157)))) rfl ?_
       clear hS; intro hS
       refine gTake0 4 rfl (by kernel_rfl) hS (fun w => xMove rfl) rfl ?_
       clear hS; intro hS
       refine gTake0 5 rfl (by kernel_rfl) hS (fun w => xMove rfl) rfl ?_
       clear hS; intro hS
       refine gTake0 6 rfl (by kernel_rfl) hS (fun w => xMove rfl) rfl ?_
       clear hS; intro hS
       refine gTake0 7 rfl (by kernel_rfl) hS (fun w => xMove rfl) rfl ?_
       clear hS; intro hS
       refine gEff 8 (by kernel_rfl) rfl ?_
       refine oCall call108 rfl rfl (gmul_s df y hs154) ?_
       rintro _ w158 ⟨rfl, hs159⟩; clear hs154
       refine oEnd (kG ⟨⟨_, (Sep.front (i := 1) rfl hs159)⟩, trivial⟩ ?_)
       clear hS; intro hS
       refine gEff 9 (by kernel_rfl) rfl ?_
       refine oCall call107 rfl rfl (gadd_s da (gmul df y) hs159) ?_
       rintro _ w160 ⟨rfl, hs161⟩; clear hs159
       refine oEnd (kG ⟨⟨_, (Sep.front (i := 1) rfl hs161)⟩, trivial⟩ ?_)
       clear hS; intro hS
       obtain ⟨b162, rfl⟩ := rows_addr3 (i := i) hs161 (p := 2) rfl (hp1.trans hrp.1.len.symm) hrp.1 (by omega) hv157 (by omega)
       refine gTake0 10 rfl (by kernel_rfl) hS (fun w => xIA (o' := j) underlying26 sizeOf5 rfl rfl (by omega) (by omega) (by omega)) rfl ?_
       clear hS; intro hS
       refine gEff 11 (by kernel_rfl) rfl ?_
       refine oStoreRow3 (i := i) (j := j) hs161 sizeOf5 rfl rfl (p := 2) rfl (hp1.trans hrp.1.len.symm) hrp.1 (by omega) hv157 (by omega) ?_
       intro w164 hs165; clear hs161; dsimp only [List.set] at hs165
       refine oEnd (kG ⟨⟨_, (Sep.front (i := 1) rfl hs165)⟩, trivial⟩ ?_)
       clear hS; intro hS
       refine gEnd (by kernel_rfl) ?_
       clear hS
       refine kSeq ?_
       refine rRegG [(none, fun w => ∃ M, Sep W0 w (own 26 1 (.slice (some ⟨bp, 0, none⟩) k k) k vsp :: M)), (some 13, fun w => ∃ M, Sep W0 w (sepL (rowCh vsp (set2 mm.1 i j (da ^^^ (gmul df y)))) :: M))] (by kernel_rfl) hs165 (fun w168 hs169 => ⟨?_, fun hS => ?_⟩)
       · exact ⟨⟨_, (Sep.front (i := 1) rfl hs169)⟩, fun _ => ⟨_, (Sep.front (i := 2) rfl hs169)⟩, trivial⟩
       clear hs165
       refine gTake0 0 rfl (by kernel_rfl) hS (fun w => xMove rfl) rfl ?_
       clear hS; intro hS
       refine gTake0 1 rfl (by kernel_rfl) hS (fun w => xMove rfl) rfl ?_
       clear hS; intro hS
       refine gTake0 2 rfl (by kernel_rfl) hS (fun w => xIA (o' := j) underlying22 sizeOf26 rfl rfl (by omega) (by omega) (by omega)) rfl ?_
       clear hS; intro hS
       obtain ⟨a170, cp171, hv172⟩ := rows_head3 (i := j) hs169 (p := 2) rfl ((hp1.trans hrp.1.len.symm).trans (set2_length _ _ _ _).symm) (hrp.1.set2 (i := i) (by omega)) (by omega)
       refine gTake 3 0 rfl (by kernel_rfl) rfl (by kernel_rfl) hS (fun w hq0 => by obtain ⟨M, hq⟩ := hq0; exact xLoadC isAgg26 rfl (Sep.ownCell hq (i := 0) rfl ((getV (by omega)).trans (congrArg some hv172)))) rfl ?_
       clear hS; intro hS
       refine gTake0 4 rfl (by kernel_rfl) hS (fun w => xMove rfl) rfl ?_
       clear hS; intro hS
       refine gTake0 5 rfl (by kernel_rfl) hS (fun w => xMove rfl) rfl ?_
       clear hS; intro hS
       refine gTake0 6 rfl (by kernel_rfl) hS (fun w => xMove rfl) rfl ?_
       clear hS; intro hS
       refine gTake0 7 rfl (by kernel_rfl) hS (fun w => xIA (o' := i) underlying22 sizeOf26 rfl rfl (by omega) (by omega) (by omega)) rfl ?_
       clear hS; intro hS
       obtain ⟨a173, cp174, hv175⟩ := rows_head3 (i := i) hs169 (p := 2) rfl ((hp1.trans hrp.1.len.symm).trans (set2_length _ _ _ _).symm) (hrp.1.set2 (i := i) (by omega)) (by omega)
       refine gTake 8 0 rfl (by kernel_rfl) rfl (by kernel_rfl) hS (fun w hq0 => by obtain ⟨M, hq⟩ := hq0; exact xLoadC isAgg26 rfl (Sep.ownCell hq (i := 0) rfl ((getV (by omega)).trans (congrArg some hv175)))) rfl ?_
       clear hS; intro hS
       refine gTake0 9 rfl (by kernel_rfl) hS (fun w => xMove rfl) rfl ?_
       clear hS; intro hS
       obtain ⟨b176, rfl⟩ := rows_addr3 (i := i) hs169 (p := 2) rfl ((hp1.trans hrp.1.len.symm).trans (set2_length _ _ _ _).symm) (hrp.1.set2 (i := i) (by omega)) (by omega) hv175 (by omega)
       refine gTake0 10 rfl (by kernel_rfl) hS (fun w => xIA (o' := j) underlying26 sizeOf5 rfl rfl (by omega) (by omega) (by omega)) rfl ?_
       clear hS; intro hS
       refine gTake 11 1 rfl (by kernel_rfl) rfl (by kernel_rfl) hS (fun w hq0 => by obtain ⟨M, hq⟩ := hq0; exact xLoadC isAgg5 rfl (rows_cell3 (i := i) hq (p := 0) rfl ((hp1.trans hrp.1.len.symm).trans (set2_length _ _ _ _).symm) (hrp.1.set2 (i := i) (by omega)) (by omega) hv175 (by omega))) rfl ?_
       clear hS; intro hS
       obtain ⟨b178, rfl⟩ := rows_addr3 (i := j) hs169 (p := 2) rfl ((hp1.trans hrp.1.len.symm).trans (set2_length _ _ _ _).symm) (hrp.1.set2 (i := i) (by omega)) (by omega) hv172 (by omega)
       refine gTake0 12 rfl (by kernel_rfl) hS (fun w => xIA (o' := i) underlying26 sizeOf5 rfl rfl (by omega) (by omega) (by omega)) rfl ?_
       clear hS; intro hS
       refine gEff 13 (by kernel_rfl) rfl ?_
       generalize hV : (((set2 mm.1 i j (da ^^^ (gmul df y))).getD i []).getD j 0) = v2
       refine oStoreRow3 (i := j) (j := i) hs169 sizeOf5 rfl rfl (p := 2) rfl ((hp1.trans hrp.1.len.symm).trans (set2_length _ _ _ _).symm) (hrp.1.set2 (i := i) (by omega)) (by omega) hv172 (by omega) ?_
       intro w180 hs181; clear hs169; dsimp only [List.set] at hs181
       refine oEnd (kG ⟨⟨_, (Sep.front (i := 1) rfl hs181)⟩, (tillDone (by kernel_rfl)), trivial⟩ ?_)
       clear hS; intro hS
       refine gEnd (by kernel_rfl) ?_
       clear hS
       refine kBlk (kSeq ?_)
       refine rReg (oV (xAr rfl rfl (rAdd (wI (by omega) (by omega)))) rfl (oV (xMove rfl) rfl ?_))
       replace hs181 := hs181.f4
       replace hs181 := hs181.f4
       replace hs181 := hs181.f4
       replace hs181 := hs181.f4
       exact oEnd (kLoop (i - (j + 1)) _ (by omega) ⟨j + 1, (set2 (set2 mm.1 i j (da ^^^ (gmul df y))) j i v2, set2 (set2 mm.2 i j y) j i y), f99, rfl, rfl, (by omega), (by subst hV; subst hY; subst hA; subst hB; subst hF; subst hG; show _ = hStep n k ps x i j (hRow n k ps x i mo j); rw [← hmm]; rfl), (FLe.trans hle55 (FLe.trans hle78 hle103)), (hc), (hvl), (hrl), (hvx), (hrx), hs181⟩ ⟨rfl, rfl, rfl, rfl, rfl, rfl, rfl, rfl, rfl, rfl, trivial⟩)
     · refine rExit (kSeqX (kLoopX (kBlkH (kBlk (kSeq (rReg (oV (xAr rfl rfl (rAdd (wI (by omega) (by omega)))) rfl (oV (xMove rfl) rfl ?_))))))))
       obtain rfl : j = i := by omega
       exact oEnd (kLoop (k - (j + 1)) _ (by omega) ⟨j + 1, mm, f54, rfl, rfl, (by omega), (by rw [hmm, hmo]; rfl), (FLe.trans hle52 hle55), (hc), (hvl), (hrl), (hvx), (hrx), hs⟩ ⟨rfl, rfl, rfl, rfl, rfl, rfl, rfl, trivial⟩)
   · refine rExit (kSeqX (kLoopX (kBlkH (kSeq (rSeq (rReg ?_))))))
     obtain rfl : k = i := by omega
     subst hmo
     replace hs := hs.f1
     replace hs := hs.f1
     have hs184 := rowsE_shut (hp1.trans hap.1.len.symm) (Shape.len hap.1) hs; clear hs
     replace hs184 := hs184.f3
     obtain ⟨vs185, f186, hle187, hv188, hr189, hs190⟩ := rowsE_freeze hs184; clear hs184
     replace hc := hc.mono hle187
     replace hvl := hvl.mono hle187
     replace hrl := hrl.mono hle187
     replace hvx := hvx.mono hle187
     replace hrx := hrx.mono hle187
     replace hs190 := hs190.f2
     replace hs190 := hs190.f2
     have hs191 := rowsE_shut (hq1.trans hap.2.len.symm) (Shape.len hap.2) hs190; clear hs190
     replace hs191 := hs191.f1
     obtain ⟨vs192, f193, hle194, hv195, hr196, hs197⟩ := rowsE_freeze hs191; clear hs191
     replace hc := hc.mono hle194
     replace hvl := hvl.mono hle194
     replace hrl := hrl.mono hle194
     replace hvx := hvx.mono hle194
     replace hrx := hrx.mono hle194
     replace hv188 := hv188.mono hle194
     replace hr189 := hr189.mono hle194
     refine oV (xMove rfl) rfl (oV (xMove rfl) rfl (oV (xMove rfl) rfl (oCall call180 rfl rfl (whole_s hc hvl hrl hpk hv188 hr189 (hAll_shape (Nat.le_refl k)).1 hsl hful hfulC hs197) ?_)))
     rintro _ w205 ⟨f198, a199, c200, vs201, rfl, hle202, hv203, hr204, hs206⟩; clear hs197
     replace hc := hc.mono hle202
     replace hvl := hvl.mono hle202
     replace hrl := hrl.mono hle202
     replace hvx := hvx.mono hle202
     replace hrx := hrx.mono hle202
     replace hv188 := hv188.mono hle202
     replace hr189 := hr189.mono hle202
     replace hv195 := hv195.mono hle202
     replace hr196 := hr196.mono hle202
     refine oV (xMove rfl) rfl (oV (xMove rfl) rfl (oV (xMove rfl) rfl (oCall call180 rfl rfl (whole_s hc hvl hrl hpk hv195 hr196 (hAll_shape (Nat.le_refl k)).2 hsl hful hfulC hs206) ?_)))
     rintro _ w214 ⟨f207, a208, c209, vs210, rfl, hle211, hv212, hr213, hs215⟩; clear hs206
     replace hc := hc.mono hle211
     replace hvl := hvl.mono hle211
     replace hrl := hrl.mono hle211
     replace hvx := hvx.mono hle211
     replace hrx := hrx.mono hle211
     replace hv188 := hv188.mono hle211
     replace hr189 := hr189.mono hle211
     replace hv195 := hv195.mono hle211
     replace hr196 := hr196.mono hle211
     replace hv203 := hv203.mono hle211
     replace hr204 := hr204.mono hle211
     refine oV (xAssign rfl) rfl (oV (xAssign rfl) rfl (oEnd (kSeq (rRet (kFin (.tmp rfl (.tmp rfl (.nil))) ?_)))))
     exact ⟨_, _, _, _, _, _, _, rfl, (FLe.trans hle52 (FLe.trans hle187 (FLe.trans hle194 (FLe.trans hle202 hle211)))), hv203, hr204, hv212, hr213, hs215⟩
end Go.Sl
namespace Go.Sl
def xrU (z i : Nat) (ps : List Prt) (a c : Nat) : List UInt8 := (List.range c).map fun q => (prt ps a).2.getD (q * z + i) 0
theorem xrU_length (z i : Nat) (ps : List Prt) (a c : Nat) : (xrU z i ps a c).length = c := by simp [xrU]
theorem xrU_succ (z i : Nat) (ps : List Prt) (a c : Nat) : xrU z i ps a (c + 1) = xrU z i ps a c ++ [(prt ps a).2.getD (c * z + i) 0] := by simp [xrU, List.range_succ]
def xsU (k z i : Nat) (ps : List Prt) (j c : Nat) : LL := (List.range k).map fun a => if a < j then xrU z i ps a (k - 1) else if a = j then xrU z i ps a c else []
theorem xsU_length (k z i : Nat) (ps : List Prt) (j c : Nat) : (xsU k z i ps j c).length = k := by simp [xsU]
theorem xsU_zero (k z i : Nat) (ps : List Prt) : xsU k z i ps 0 0 = List.replicate k [] := by
  apply List.ext_getElem
  · simp [xsU]
  · intro a h1 h2
    simp [xsU, xrU]
theorem xsU_get {k z i : Nat} {ps : List Prt} {j c : Nat} (hj : j < k) : (xsU k z i ps j c).getD j [] = xrU z i ps j c := by
  simp [xsU, List.getD_eq_getElem?_getD, hj]
theorem xsU_set {k z i : Nat} {ps : List Prt} {j c c' : Nat} : (xsU k z i ps j c).set j (xrU z i ps j c') = xsU k z i ps j c' := by
  apply List.ext_getElem?
  intro a
  simp only [xsU, List.getElem?_set, List.getElem?_map, List.length_map, List.length_range]
  by_cases ha : j = a
  · subst ha
    by_cases hk : j < k
    · simp [hk]
    · simp [hk]
  · by_cases hk : a < k
    · have : ¬ a = j := fun h => ha h.symm
      simp [ha, hk, this]
    · simp [ha, List.getElem?_eq_none (l := List.range k) (i := a) (by simpa using hk)]
theorem xsU_next {k z i : Nat} {ps : List Prt} {j : Nat} : xsU k z i ps j (k - 1) = xsU k z i ps (j + 1) 0 := by
  simp only [xsU]
  apply List.map_congr_left
  intro a _
  by_cases h1 : a < j
  · simp [h1, show a < j + 1 by omega]
  · by_cases h2 : a = j
    · subst h2; simp
    · by_cases h3 : a = j + 1
      · subst h3; rw [if_neg (by omega), if_neg (by omega), if_neg (by omega), if_pos rfl]; simp [xrU]
      · simp [h1, h2, h3, show ¬ a < j + 1 by omega]
def xMat (k z i : Nat) (ps : List Prt) : LL := (List.range k).map fun a => xrU z i ps a (k - 1)
theorem xsU_end {k z i : Nat} {ps : List Prt} : xsU k z i ps k 0 = xMat k z i ps := by
  simp only [xsU, xMat]
  apply List.map_congr_left
  intro a ha
  simp [List.mem_range.1 ha]
theorem xMat_shape (k z i : Nat) (ps : List Prt) : Shape (xMat k z i ps) k (k - 1) := ⟨by simp [xMat], fun x hx => by
  obtain ⟨a, _, rfl⟩ := List.mem_map.1 hx
  exact xrU_length _ _ _ _ _⟩
def dStep (n k z : Nat) (ps : List Prt) (i : Nat) (out : List UInt8) : List UInt8 :=
  putAll k z i (k - 1) (wholeF n k ps (hAll n k ps (xMat k z i ps) k).2) (putAll k z i 0 (wholeF n k ps (hAll n k ps (xMat k z i ps) k).1) out (k - 1)) (k - 1)
def dUp (n k z : Nat) (ps : List Prt) : Nat → List UInt8
  | 0 => List.replicate (k * (k - 1) * z) 0
  | i + 1 => dStep n k z ps i (dUp n k z ps i)
theorem dUp_length (n k z : Nat) (ps : List Prt) : ∀ i, (dUp n k z ps i).length = k * (k - 1) * z
  | 0 => by simp [dUp]
  | i + 1 => by simp only [dUp, dStep]; rw [putAll_length, putAll_length, dUp_length n k z ps i]
section
variable {W0 w : World} {L : List Asn}
theorem rows_fill {vs : List Value} {ls : LL} {i : Nat} {v : Value} {l : List UInt8} (h1 : vs.length = ls.length) (hi : i < ls.length) (hs : Sep W0 w (ownB v l :: sepL ((rowCh vs ls).set i emp) :: L)) : Sep W0 w (sepL (rowCh (vs.set i v) (ls.set i l)) :: L) := by
  have h4 := sep_fill (by rw [rowCh_length h1]; exact hi) hs
  have h5 : (rowCh vs ls).set i (ownB v l) = rowCh (vs.set i v) (ls.set i l) := (zipWith_set ownB vs ls i v l).symm
  rwa [h5] at h4
theorem rows_out {vs : List Value} {ls : LL} {i : Nat} {a : Option Addr} {k cp : Nat} (h1 : vs.length = ls.length) (hi : i < ls.length) (hv : vs.getD i undef = .slice a k cp) (hs : Sep W0 w (sepL (rowCh vs ls) :: L)) :
    (ls.getD i []).length = k ∧ Sep W0 w (own 5 1 (.slice a (ls.getD i []).length cp) (ls.getD i []).length ((ls.getD i []).map B) :: sepL ((rowCh vs ls).set i emp) :: L) := ownB_at hv (sep_hole (rowCh_at h1 hi) hs)
end
end Go.Sl
