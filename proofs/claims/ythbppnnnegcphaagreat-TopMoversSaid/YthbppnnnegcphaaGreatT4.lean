/- Part 4 of a proof: what the functions of the program compute, and at the end that the law answers true for every input. No conditions beyond the statement's own. -/
import Derived.Test.YthbppnnnegcphaaGreatT3
set_option linter.unusedVariables false
set_option linter.unusedSimpArgs false
namespace Go.Sl
open Go.Proofs Go.Proofs.Tryz
theorem wlen_s {W0 w : World} {L : List Asn} {wp nn : Nat} {now : Int} (hs : Sep W0 w (watchA wp nn now :: L)) : Calls Tryz.prog 293 [ptr wp].toArray w (Ret fun r w' => r = I (nn : Int) ∧ Sep W0 w' (watchA wp nn now :: L)) := by
 obtain ⟨v1, v2, v3, ha, hc, sa, sc, hs⟩ := watchA_open hs
 have hrl : (List.replicate nn (0 : Int)).length = nn := by simp
 refine enter (args := [(ptr wp)]) (n := 10) (rs := [.tmp 2]) func293 rfl rfl rfl rfl ?_
 refine rSeq (rReg (oV (xAssign rfl) rfl (oEnd (kSeq (rSeq (rSeq (rReg (oV (xMove rfl) rfl (oV (xBin (r := .bool false) rfl rfl (fun _ => rfl) (fun w => by kernel_rfl)) rfl (oEnd (kSeq (rCondF rfl (rSkip (kSeq (rSeq (rReg (oV (xMove rfl) rfl (oV (xNil rfl) rfl (oV (xFA (j' := 4) underlying458 rfl sizeOf52 rfl rfl) rfl (oV (xLoad hs isAgg52 rfl (i := 0) rfl rfl) rfl (oV (xB1 rfl (rLenS underlying52)) rfl (oV (xAssign rfl) rfl (oEnd (kSeq (rRet (kFin (.tmp rfl (.nil)) ?_))))))))))))))))))))))))))
 exact ⟨rfl, watchA_shut hs⟩
theorem wof_s {W0 w : World} {L : List Asn} {wp nn i : Nat} {now : Int} (hi : i < nn) (hs : Sep W0 w (watchA wp nn now :: L)) : Calls Tryz.prog 296 [ptr wp, .int .i64 i].toArray w (Ret fun r w' => r = I 0 ∧ Sep W0 w' (watchA wp nn now :: L)) := by
 obtain ⟨v1, v2, v3, ha, hc, sa, sc, hs⟩ := watchA_open hs
 have hrl : (List.replicate nn (0 : Int)).length = nn := by simp
 refine enter (args := [(ptr wp), (I (i : Int))]) (n := 20) (rs := [.tmp 4]) func296 rfl rfl rfl rfl ?_
 refine rSeq (rReg (oV (xAssign rfl) rfl (oEnd (kSeq (rSeq (rSeq (rReg (oV (xMove rfl) rfl (oV (xCmp (r := false) rfl rfl (bF (by omega) rLss)) rfl (oV (xMove rfl) rfl (oGuardT rfl rfl (oV (xMove rfl) rfl (oGuardT rfl rfl (oV (xMove rfl) rfl (oGuardT rfl rfl ?_)))))))))))))))
 replace hs := hs.f2
 replace hs := hs.f2
 replace hs := hs.f2
 refine oCall call293 rfl rfl (wlen_s (watchA_shut hs)) ?_
 rintro _ w1 ⟨rfl, hs2⟩; clear hs
 obtain ⟨v4, v5, v6, ha7, hc8, sa9, sc10, hs3⟩ := watchA_open hs2; clear hs2
 refine oGuardT rfl rfl (oV (xCmp (r := false) rfl rfl (bF (by omega) rGeq)) rfl (oV (xPickF rfl rfl) rfl (oEnd (kSeq (rCondF rfl (rSkip (kSeq (rSeq (rReg (oV (xMove rfl) rfl (oV (xNil rfl) rfl (oV (xFA (j' := 5) underlying458 rfl sizeOf456 rfl rfl) rfl (oV (xLoad hs3 isAgg456 rfl (i := 0) rfl rfl) rfl (oV (xMove rfl) rfl ?_))))))))))))))
 obtain ⟨b11, rfl⟩ := Sep.ownAddr (i := 2) hs3 rfl (by omega)
 refine oV (xIA (o' := i) underlying456 sizeOf485 rfl rfl (by omega) (by omega) (by omega)) rfl (oV (xLoadC isAgg485 rfl (Sep.ownCell hs3 (i := 2) rfl (Iv_zero hi))) rfl (oV (xAssign rfl) rfl (oEnd (kSeq (rRet (kFin (.tmp rfl (.nil)) ?_))))))
 exact ⟨rfl, watchA_shut hs3⟩
theorem lcmp_s {W0 w : World} {L : List Asn} {f : HF} {u n : Nat} {a : Option Addr} {cp : Nat} {ls : List Int} (hu : PR f u [.slice a n cp]) (hv : Reads f 1 (.slice a n cp) n (Iv ls)) (hn : ls.length = n) {x y : Nat} (hx : x < n) (hy : y < n) (hs : Sep W0 w (pool f :: L)) : Calls Tryz.prog 344 [.int .i64 x, .int .i64 y, ptr u].toArray w
 (Ret fun r w' => r = .int .i64 (cmpv ls x y) ∧ Sep W0 w' (pool f :: L)) := by
 refine enter (args := [(I (x : Int)), (I (y : Int)), (ptr u)]) (n := 15) (rs := [.tmp 5]) func344 rfl rfl rfl rfl ?_
 refine rSeq (rReg (oV (xAssign rfl) rfl (oEnd (kSeq (rSeq (rRegQ (by kernel_rfl) (by kernel_rfl) hs ?_))))))
 refine qV (fun w hq => xLoadC isAgg52 rfl (PR.cell hu hq (i := 0) rfl rfl)) rfl ?_
 refine qV (fun w hq => xMove rfl) rfl ?_
 obtain ⟨b1, off2, rfl⟩ := Reads.at hv (by omega)
 refine qV (fun w hq => xIA (o' := off2 + x) underlying52 sizeOf3 rfl rfl (by omega) (by omega) (by omega)) rfl ?_
 refine qV (fun w hq => xLoadC isAgg3 rfl (Reads.cell hv hq (i := 0) rfl (Iv_get (by omega)))) rfl ?_
 refine qV (fun w hq => xLoadC isAgg52 rfl (PR.cell hu hq (i := 0) rfl rfl)) rfl ?_
 refine qV (fun w hq => xMove rfl) rfl ?_
 refine qV (fun w hq => xIA (o' := off2 + y) underlying52 sizeOf3 rfl rfl (by omega) (by omega) (by omega)) rfl ?_
 refine qV (fun w hq => xLoadC isAgg3 rfl (Reads.cell hv hq (i := 0) rfl (Iv_get (by omega)))) rfl ?_
 refine qV (fun w hq => xAr (r := cmpv ls x y) rfl rfl (rSub rfl)) rfl ?_
 refine qV (fun w hq => xAssign rfl) rfl ?_
 refine qEnd (fun w4 hs3 => ?_); clear hs
 refine kSeq ?_
 refine rRet (kFin (.tmp rfl (.nil)) ?_)
 exact ⟨rfl, hs3⟩
theorem sins_s {W0 w : World} {L : List Asn} {f : HF} {u n : Nat} {a : Option Addr} {cp : Nat} {ls : List Int} (hu : PR f u [.slice a n cp]) (hv : Reads f 1 (.slice a n cp) n (Iv ls)) (hn : ls.length = n) {da : Option Addr} {m dc : Nat} {ds : List Nat} (hm : ds.length = m) (hds : ∀ x ∈ ds, x < n) (hm2 : m ≤ 1000) (hs : Sep W0 w (pool f :: own 3 1 (.slice da m dc) m (Nv ds) :: L)) : Calls Tryz.prog 384 [.slice da m dc, .int .i64 0, .int .i64 m, .func (.func 344) #[] #[ptr u]].toArray w
 (Ret fun _ w' => ∃ ds', ds'.Perm ds ∧ Sep W0 w' (pool f :: own 3 1 (.slice da m dc) m (Nv ds') :: L)) := by
 refine enter (args := [(.slice da m dc), (I 0), (I (m : Int)), (.func (.func 344) #[] #[(ptr u)])]) (n := 53) (rs := []) func384 rfl rfl rfl rfl ?_
 refine rSeq (rReg (oV (xMove rfl) rfl (oV (xAr (r := 1) rfl rfl (rAdd rfl)) rfl (oV (xAssign rfl) rfl (oEnd (kSeq (rBlk (rLoop (fun mz e w => ∃ (i : Nat) (ds1 : List Nat), m + 1 - i = mz ∧ e = [(0, (.slice da m dc)), (1, (I 0)), (2, (I (m : Int))), (3, (.func (.func 344) #[] #[(ptr u)])), (8, (I (i : Int)))] ∧ (1 ≤ i ∧ (i ≤ m ∨ i = 1)) ∧ (ds1.Perm ds) ∧ Sep W0 w (pool f :: own 3 1 (.slice da m dc) m (Nv ds1) :: L)) ⟨_, _, ⟨1, ds, rfl, rfl, (by omega), (List.Perm.refl _), hs⟩, ⟨rfl, rfl, rfl, rfl, rfl, trivial⟩⟩ ?_))))))))
 clear hs; rintro mz e w ⟨i, ds1, rfl, rfl, hi, hp, hs⟩
 have hl1 : ds1.length = m := by rw [hp.length_eq, hm]
 refine rSeq (rSeq (rReg (oV (xMove rfl) rfl (oV (xMove rfl) rfl (oV (xCmp rfl rfl rLss) rfl (oEnd (kSeq ?_)))))))
 refine rCondD rfl (fun hc1 => ?_) (fun hc1 => ?_)
 · refine rSkip (kSeq (rSeq (rBlk (rSeq (rReg (oV (xMove rfl) rfl (oV (xAssign rfl) rfl (oEnd (kSeq (rBlk (rLoop (fun mz e w => ∃ (j : Nat) (ds2 : List Nat), j = mz ∧ e = [(0, (.slice da m dc)), (1, (I 0)), (2, (I (m : Int))), (3, (.func (.func 344) #[] #[(ptr u)])), (8, (I (i : Int))), (9, (I (j : Int)))] ∧ (j ≤ i) ∧ (ds2.Perm ds) ∧ Sep W0 w (pool f :: own 3 1 (.slice da m dc) m (Nv ds2) :: L)) ⟨_, _, ⟨i, ds1, rfl, rfl, (by omega), (hp), hs⟩, ⟨rfl, rfl, rfl, rfl, rfl, rfl, trivial⟩⟩ ?_)))))))))))
   clear hs; rintro mz e w ⟨j, ds2, rfl, rfl, hj, hp2, hs⟩
   have hl2 : ds2.length = m := by rw [hp2.length_eq, hm]
   replace hds := perm_all hp2 hds
   refine rSeq (rSeq ?_)
   refine rRegG [(none, fun w => ∃ M, Sep W0 w (pool f :: M)), (none, fun w => ∃ M, Sep W0 w (own 3 1 (.slice da m dc) m (Nv ds2) :: M))] (by kernel_rfl) hs (fun w2 hs3 => ⟨?_, fun hS => ?_⟩)
   · exact ⟨⟨_, (Sep.front (i := 0) rfl hs3)⟩, ⟨_, (Sep.front (i := 1) rfl hs3)⟩, trivial⟩
   clear hs
   refine gTake0 0 rfl (by kernel_rfl) hS (fun w => xMove rfl) rfl ?_
   clear hS; intro hS
   refine gTake0 1 rfl (by kernel_rfl) hS (fun w => xMove rfl) rfl ?_
   clear hS; intro hS
   refine gTake0 2 rfl (by kernel_rfl) hS (fun w => xCmp rfl rfl rGtr) rfl ?_
   clear hS; intro hS
   refine gTake0 3 rfl (by kernel_rfl) hS (fun w => xMove rfl) rfl ?_
   clear hS; intro hS
   refine gCase (d := 21) rfl (fun hg4 => ?_) (fun hg4 => ?_)
   · replace hg4 := of_decide_eq_true hg4
     refine gTake0G 4 rfl (by kernel_rfl) rfl rfl hS (fun w => xMove rfl) rfl ?_
     clear hS; intro hS
     refine gTake0G 5 rfl (by kernel_rfl) rfl rfl hS (fun w => xMove rfl) rfl ?_
     clear hS; intro hS
     refine gTake0G 6 rfl (by kernel_rfl) rfl rfl hS (fun w => xMove rfl) rfl ?_
     clear hS; intro hS
     obtain ⟨b5, rfl⟩ := Sep.ownAddr (i := 1) hs3 rfl (by omega)
     refine gTake0G 7 rfl (by kernel_rfl) rfl rfl hS (fun w => xIA (o' := j) underlying52 sizeOf3 rfl rfl (by omega) (by omega) (by omega)) rfl ?_
     clear hS; intro hS
     refine gTakeG 8 1 rfl (by kernel_rfl) rfl rfl rfl (by kernel_rfl) hS (fun w hq0 => by obtain ⟨M, hq⟩ := hq0; exact xLoadC isAgg3 rfl (Sep.ownCell hq (i := 0) rfl (Nv_get (by first | omega | (simp only [List.length_append, List.length_set, List.length_cons, List.length_nil, List.length_map, List.length_replicate, mixd_length]; omega))))) rfl ?_
     clear hS; intro hS
     refine gTake0G 9 rfl (by kernel_rfl) rfl rfl hS (fun w => xMove rfl) rfl ?_
     clear hS; intro hS
     refine gTake0G 10 rfl (by kernel_rfl) rfl rfl hS (fun w => xMove rfl) rfl ?_
     clear hS; intro hS
     refine gTake0G 11 rfl (by kernel_rfl) rfl rfl hS (fun w => xAr (r := (((j - 1) : Nat) : Int)) rfl rfl (rSub (by rw [wI (by omega) (by omega)]; omega))) rfl ?_
     clear hS; intro hS
     refine gTake0G 12 rfl (by kernel_rfl) rfl rfl hS (fun w => xIA (o' := (j - 1)) underlying52 sizeOf3 rfl rfl (by omega) (by omega) (by omega)) rfl ?_
     clear hS; intro hS
     refine gTakeG 13 1 rfl (by kernel_rfl) rfl rfl rfl (by kernel_rfl) hS (fun w hq0 => by obtain ⟨M, hq⟩ := hq0; exact xLoadC isAgg3 rfl (Sep.ownCell hq (i := 0) rfl (Nv_get (by first | omega | (simp only [List.length_append, List.length_set, List.length_cons, List.length_nil, List.length_map, List.length_replicate, mixd_length]; omega))))) rfl ?_
     clear hS; intro hS
     refine gEff 14 (by kernel_rfl) rfl ?_
     refine oGuardT rfl rfl (oCallV (f := 344) rfl call344 rfl rfl (lcmp_s hu hv hn (x := (ds2.getD j 0 : Nat)) (y := (ds2.getD (j - 1) 0 : Nat)) (perm_lt hds (by omega)) (perm_lt hds (by omega)) hs3) ?_)
     rintro _ w7 ⟨rfl, hs8⟩; clear hs3
     refine oEnd (kG ⟨⟨_, (Sep.front (i := 0) rfl hs8)⟩, ⟨_, (Sep.front (i := 1) rfl hs8)⟩, trivial⟩ ?_)
     clear hS; intro hS
     refine gTake0G 15 rfl (by kernel_rfl) rfl rfl hS (fun w => xCmp rfl rfl rLss) rfl ?_
     clear hS; intro hS
     refine gTake0 16 rfl (by kernel_rfl) hS (fun w => xPickT rfl rfl) rfl ?_
     clear hS; intro hS
     refine gEnd (by kernel_rfl) ?_
     clear hS
     refine kSeq ?_
     refine rCondD rfl (fun hc9 => ?_) (fun hc9 => ?_)
     · refine rSkip (kSeq (rSeq (rBlk ?_)))
       refine rRegG [(some 15, fun w => ∃ M, Sep W0 w (own 3 1 (.slice (some ⟨b5, 0, none⟩) m dc) m (Nv ds2) :: M))] (by kernel_rfl) hs8 (fun w10 hs11 => ⟨?_, fun hS => ?_⟩)
       · exact ⟨fun _ => ⟨_, (Sep.front (i := 1) rfl hs11)⟩, trivial⟩
       clear hs8
       refine gTake0 0 rfl (by kernel_rfl) hS (fun w => xMove rfl) rfl ?_
       clear hS; intro hS
       refine gTake0 1 rfl (by kernel_rfl) hS (fun w => xMove rfl) rfl ?_
       clear hS; intro hS
       refine gTake0 2 rfl (by kernel_rfl) hS (fun w => xMove rfl) rfl ?_
       clear hS; intro hS
       refine gTake0 3 rfl (by kernel_rfl) hS (fun w => xMove rfl) rfl ?_
       clear hS; intro hS
       refine gTake0 4 rfl (by kernel_rfl) hS (fun w => xAr (r := (((j - 1) : Nat) : Int)) rfl rfl (rSub (by rw [wI (by omega) (by omega)]; omega))) rfl ?_
       clear hS; intro hS
       refine gTake0 5 rfl (by kernel_rfl) hS (fun w => xMove rfl) rfl ?_
       clear hS; intro hS
       refine gTake0 6 rfl (by kernel_rfl) hS (fun w => xMove rfl) rfl ?_
       clear hS; intro hS
       refine gTake0 7 rfl (by kernel_rfl) hS (fun w => xAr (r := (((j - 1) : Nat) : Int)) rfl rfl (rSub (by rw [wI (by omega) (by omega)]; omega))) rfl ?_
       clear hS; intro hS
       refine gTake0 8 rfl (by kernel_rfl) hS (fun w => xIA (o' := (j - 1)) underlying52 sizeOf3 rfl rfl (by omega) (by omega) (by omega)) rfl ?_
       clear hS; intro hS
       refine gTake 9 0 rfl (by kernel_rfl) rfl (by kernel_rfl) hS (fun w hq0 => by obtain ⟨M, hq⟩ := hq0; exact xLoadC isAgg3 rfl (Sep.ownCell hq (i := 0) rfl (Nv_get (by first | omega | (simp only [List.length_append, List.length_set, List.length_cons, List.length_nil, List.length_map, List.length_replicate, mixd_length]; omega))))) rfl ?_
       clear hS; intro hS
       refine gTake0 10 rfl (by kernel_rfl) hS (fun w => xMove rfl) rfl ?_
       clear hS; intro hS
       refine gTake0 11 rfl (by kernel_rfl) hS (fun w => xMove rfl) rfl ?_
       clear hS; intro hS
       refine gTake0 12 rfl (by kernel_rfl) hS (fun w => xIA (o' := j) underlying52 sizeOf3 rfl rfl (by omega) (by omega) (by omega)) rfl ?_
       clear hS; intro hS
       refine gTake 13 0 rfl (by kernel_rfl) rfl (by kernel_rfl) hS (fun w hq0 => by obtain ⟨M, hq⟩ := hq0; exact xLoadC isAgg3 rfl (Sep.ownCell hq (i := 0) rfl (Nv_get (by first | omega | (simp only [List.length_append, List.length_set, List.length_cons, List.length_nil, List.length_map, List.length_replicate, mixd_length]; omega))))) rfl ?_
       clear hS; intro hS
       refine gTake0 14 rfl (by kernel_rfl) hS (fun w => xIA (o' := j) underlying52 sizeOf3 rfl rfl (by omega) (by omega) (by omega)) rfl ?_
       clear hS; intro hS
       refine gEff 15 (by kernel_rfl) rfl ?_
       refine oStoreO hs11 sizeOf3 rfl rfl rfl (i := 1) rfl (Nv_get (by first | omega | (simp only [List.length_append, List.length_set, List.length_cons, List.length_nil, List.length_map, List.length_replicate, mixd_length]; omega))) ?_
       intro w12 hs13; clear hs11; dsimp only [List.set] at hs13; rw [Nv_set] at hs13
       refine oEnd (kG ⟨(tillDone (by kernel_rfl)), trivial⟩ ?_)
       clear hS; intro hS
       refine gTake0 16 rfl (by kernel_rfl) hS (fun w => xIA (o' := (j - 1)) underlying52 sizeOf3 rfl rfl (by omega) (by omega) (by omega)) rfl ?_
       clear hS; intro hS
       refine gEff 17 (by kernel_rfl) rfl ?_
       refine oStoreO hs13 sizeOf3 rfl rfl rfl (i := 1) rfl (Nv_get (by first | omega | (simp only [List.length_append, List.length_set, List.length_cons, List.length_nil, List.length_map, List.length_replicate, mixd_length]; omega))) ?_
       intro w14 hs15; clear hs13; dsimp only [List.set] at hs15; rw [Nv_set] at hs15
       refine oEnd (kG ⟨(tillDone (by kernel_rfl)), trivial⟩ ?_)
       clear hS; intro hS
       refine gEnd (by kernel_rfl) ?_
       clear hS
       refine kBlk (kSeq ?_)
       refine rReg (oV (xMove rfl) rfl (oV (xAr (r := (((j - 1) : Nat) : Int)) rfl rfl (rSub (by rw [wI (by omega) (by omega)]; omega))) rfl (oV (xAssign rfl) rfl ?_)))
       exact oEnd (kLoop (j - 1) _ (by omega) ⟨j - 1, swpN ds2 j, rfl, rfl, (by omega), ((swpN_perm (by omega) (by omega)).trans hp2), hs15⟩ ⟨rfl, rfl, rfl, rfl, rfl, rfl, trivial⟩)
     · refine rExit (kSeqX (kLoopX (kBlkH (kBlk (kSeq (rReg (oV (xMove rfl) rfl (oV (xAr rfl rfl (rAdd (wI (by omega) (by omega)))) rfl (oV (xAssign rfl) rfl ?_)))))))))
       exact oEnd (kLoop (m + 1 - (i + 1)) _ (by omega) ⟨i + 1, ds2, rfl, rfl, (by omega), (hp2), hs8⟩ ⟨rfl, rfl, rfl, rfl, rfl, trivial⟩)
   · replace hg4 := of_decide_eq_false hg4
     refine gSkip 4 rfl (by kernel_rfl) rfl rfl rfl hS rfl ?_
     clear hS; intro hS
     refine gSkip 5 rfl (by kernel_rfl) rfl rfl rfl hS rfl ?_
     clear hS; intro hS
     refine gSkip 6 rfl (by kernel_rfl) rfl rfl rfl hS rfl ?_
     clear hS; intro hS
     refine gSkip 7 rfl (by kernel_rfl) rfl rfl rfl hS rfl ?_
     clear hS; intro hS
     refine gSkip 8 rfl (by kernel_rfl) rfl rfl rfl hS rfl ?_
     clear hS; intro hS
     refine gSkip 9 rfl (by kernel_rfl) rfl rfl rfl hS rfl ?_
     clear hS; intro hS
     refine gSkip 10 rfl (by kernel_rfl) rfl rfl rfl hS rfl ?_
     clear hS; intro hS
     refine gSkip 11 rfl (by kernel_rfl) rfl rfl rfl hS rfl ?_
     clear hS; intro hS
     refine gSkip 12 rfl (by kernel_rfl) rfl rfl rfl hS rfl ?_
     clear hS; intro hS
     refine gSkip 13 rfl (by kernel_rfl) rfl rfl rfl hS rfl ?_
     clear hS; intro hS
     refine gEff 14 (by kernel_rfl) rfl ?_
     refine oGuardF rfl rfl rfl rfl (oEnd (kG hS ?_))
     clear hS; intro hS
     refine gSkip 15 rfl (by kernel_rfl) rfl rfl rfl hS rfl ?_
     clear hS; intro hS
     refine gTake0 16 rfl (by kernel_rfl) hS (fun w => xPickF rfl rfl) rfl ?_
     clear hS; intro hS
     refine gEnd (by kernel_rfl) ?_
     clear hS
     refine kSeq ?_
     refine rCondF rfl (rExit (kSeqX (kLoopX (kBlkH (kBlk (kSeq (rReg (oV (xMove rfl) rfl (oV (xAr rfl rfl (rAdd (wI (by omega) (by omega)))) rfl (oV (xAssign rfl) rfl ?_))))))))))
     exact oEnd (kLoop (m + 1 - (i + 1)) _ (by omega) ⟨i + 1, ds2, rfl, rfl, (by omega), (hp2), hs3⟩ ⟨rfl, rfl, rfl, rfl, rfl, trivial⟩)
 · refine rExit (kSeqX (kLoopX (kBlkH (kFinN (.nil) ?_))))
   exact ⟨_, hp, hs⟩
theorem sstc_s {W0 w : World} {L : List Asn} {f : HF} {u n : Nat} {a : Option Addr} {cp : Nat} {ls : List Int} (hu : PR f u [.slice a n cp]) (hv : Reads f 1 (.slice a n cp) n (Iv ls)) (hn : ls.length = n) {da : Option Addr} {m dc : Nat} {ds : List Nat} (hm : ds.length = m) (hds : ∀ x ∈ ds, x < n) (hm2 : m ≤ 19) (hs : Sep W0 w (pool f :: own 3 1 (.slice da m dc) m (Nv ds) :: L)) : Calls Tryz.prog 370 [.slice da m dc, .int .i64 m, .func (.func 344) #[] #[ptr u]].toArray w
 (Ret fun _ w' => ∃ ds', ds'.Perm ds ∧ Sep W0 w' (pool f :: own 3 1 (.slice da m dc) m (Nv ds') :: L)) := by
 refine enter (args := [(.slice da m dc), (I (m : Int)), (.func (.func 344) #[] #[(ptr u)])]) (n := 63) (rs := []) func370 rfl rfl rfl rfl ?_
 refine rSeq (rReg (oV (xAssign rfl) rfl (oEnd (kSeq (rSeq (rReg (oV (xMove rfl) rfl (oV (xAssign rfl) rfl (oV (xAssign rfl) rfl (oEnd (kSeq (rSeq (rBlk (rLoop (fun mz e w => 0 = mz ∧ e = [(0, (.slice da m dc)), (1, (I (m : Int))), (2, (.func (.func 344) #[] #[(ptr u)])), (6, (I 20)), (7, (I 0)), (8, (I 20))] ∧ Sep W0 w (pool f :: own 3 1 (.slice da m dc) m (Nv ds) :: L)) ⟨_, _, ⟨rfl, rfl, hs⟩, ⟨rfl, rfl, rfl, rfl, rfl, rfl, trivial⟩⟩ ?_))))))))))))))
 clear hs; rintro mz e w ⟨rfl, rfl, hs⟩
 refine rSeq (rSeq (rReg (oV (xMove rfl) rfl (oV (xMove rfl) rfl (oV (xCmp (r := false) rfl rfl (bF (by omega) rLeq)) rfl (oEnd (kSeq (rCondF rfl (rExit (kSeqX (kLoopX (kBlkH (kSeq (rSeq (rReg (oV (xMove rfl) rfl (oV (xMove rfl) rfl (oV (xMove rfl) rfl (oV (xMove rfl) rfl ?_)))))))))))))))))))
 replace hs := hs.f1
 replace hs := hs.f1
 refine oCall call384 rfl rfl (sins_s hu hv hn hm hds (by omega) hs) ?_
 rintro _ w3 ⟨ds1, hp2, hs4⟩; clear hs
 refine oEnd (kSeq (rBlk (rLoop (fun mz e w => 0 = mz ∧ e = [(0, (.slice da m dc)), (1, (I (m : Int))), (2, (.func (.func 344) #[] #[(ptr u)])), (6, (I 20))] ∧ Sep W0 w (pool f :: own 3 1 (.slice da m dc) m (Nv ds1) :: L)) ⟨_, _, ⟨rfl, rfl, hs4⟩, ⟨rfl, rfl, rfl, rfl, trivial⟩⟩ ?_)))
 clear hs4; rintro mz e w ⟨rfl, rfl, hs⟩
 refine rSeq (rSeq (rReg (oV (xMove rfl) rfl (oV (xMove rfl) rfl (oV (xCmp (r := false) rfl rfl (bF (by omega) rLss)) rfl (oEnd (kSeq (rCondF rfl (rExit (kSeqX (kLoopX (kBlkH (kFinN (.nil) ?_)))))))))))))
 exact ⟨_, hp2, hs⟩
theorem sort_s {W0 w : World} {L : List Asn} {f : HF} {u n : Nat} {a : Option Addr} {cp : Nat} {ls : List Int} (hu : PR f u [.slice a n cp]) (hv : Reads f 1 (.slice a n cp) n (Iv ls)) (hn : ls.length = n) {da : Option Addr} {m dc : Nat} {ds : List Nat} (hm : ds.length = m) (hds : ∀ x ∈ ds, x < n) (hm2 : m ≤ 19) (hs : Sep W0 w (pool f :: own 3 1 (.slice da m dc) m (Nv ds) :: L)) : Calls Tryz.prog 343 [.slice da m dc, .func (.func 344) #[] #[ptr u]].toArray w
 (Ret fun _ w' => ∃ ds', ds'.Perm ds ∧ Sep W0 w' (pool f :: own 3 1 (.slice da m dc) m (Nv ds') :: L)) := by
 refine enter (args := [(.slice da m dc), (.func (.func 344) #[] #[(ptr u)])]) (n := 9) (rs := []) func343 rfl rfl rfl rfl ?_
 refine rReg (oV (xMove rfl) rfl (oV (xMove rfl) rfl (oV (xB1 rfl (rLenS underlying52)) rfl (oV (xMove rfl) rfl ?_))))
 replace hs := hs.f1
 replace hs := hs.f1
 refine oCall call370 rfl rfl (sstc_s hu hv hn hm hds hm2 hs) ?_
 rintro _ w3 ⟨ds1, hp2, hs4⟩; clear hs
 refine oEnd (kFinN (.nil) ?_)
 exact ⟨_, hp2, hs4⟩
theorem hleast_s {W0 w : World} {L : List Asn} {f : HF} {h : Nat} {p : Hp} (hh : HallP f h p) {t ns nn n cp : Nat} {nx la : UInt32} {a : Option Addr} {cs : List Value} {obs : List Ob} (hv : Reads f 6 (.slice a n cp) n cs) (ho : ObsR f cs obs) (hn : obs.length = n) {now : Int} {ma : Option Addr} {mc : Nat} {mo : List Int} (hmo : mo.length = nn) (hgood : ObsG ns nn obs) (hB : ObsB obs) (hnn : nn ≤ 19) (hn2 : n ≤ 1000) (hs : Sep W0 w (pool f :: row p.t 365 [I (ns : Int), I (nn : Int), U nx, U la, .slice a n cp] :: watchA p.wp nn now :: own 3 1 (.slice ma nn mc) nn (Iv mo) :: L)) : Calls Tryz.prog 284 [ptr h, .slice ma nn mc].toArray w (Ret fun r w' => ∃ f' oa oc ord, r = .slice oa nn oc ∧ FLe f f' ∧ ord.Perm (List.range nn) ∧ Sep W0 w' (own 3 1 (.slice oa nn oc) nn (Nv ord) :: pool f' :: row p.t 365 [I (ns : Int), I (nn : Int), U nx, U la, .slice a n cp] :: watchA p.wp nn now :: own 3 1 (.slice ma nn mc) nn (Iv mo) :: L)) := by
 obtain ⟨⟨s5, s6, s8, s9, s10, s11, s12, s13, s14, s15, s20, s22, hh0⟩, hbk, hqp, hbad, hqm, hcode⟩ := id hh
 refine enter (args := [(ptr h), (.slice ma nn mc)]) (n := 48) (rs := [.tmp 4]) func284 rfl rfl rfl rfl ?_
 refine rSeq (rReg (oV (xAssign rfl) rfl (oEnd (kSeq (rSeq (rSeq (rReg (oV (xMove rfl) rfl (oV (xBin (r := .bool false) rfl rfl (fun _ => rfl) (fun w => by kernel_rfl)) rfl (oEnd (kSeq (rCondF rfl (rSkip (kSeq (rSeq (rReg (oV (xMove rfl) rfl (oCall call143 rfl rfl (htable_s hh hs) ?_))))))))))))))))))
 rintro _ w1 ⟨rfl, hs2⟩; clear hs
 replace hs2 := hs2.f1
 replace hs2 := hs2.f1
 refine oCall call342 rfl rfl (tuse_s hv ho hn hgood hB (by omega) (by omega) hs2) ?_
 rintro _ w7 ⟨a3, cp4, ls5, rfl, hl6, hs8⟩; clear hs2
 refine oAlloc hs8 zeroValue52 rfl rfl ?_
 intro b9 w10 hs11; clear hs8
 refine oStore hs11 sizeOf52 rfl rfl rfl (i := 0) rfl rfl ?_
 intro w12 hs13; clear hs11; dsimp only [List.set] at hs13
 refine oEnd (kSeq (rSeq (rReg (oV (xAssign rfl) rfl (oEnd (kSeq (rSeq (rSeq (rReg (oV (xLoad hs13 isAgg52 rfl (i := 0) rfl rfl) rfl (oV (xB1 rfl (rLenS underlying52)) rfl (oV (xMove rfl) rfl (oEnd (kSeq (rBlk ?_)))))))))))))))
 replace hs13 := Sep.nil 3 1 hs13
 rw [← Nv_nil] at hs13
 replace hs13 := hs13.f6
 replace hs13 := hs13.f6
 replace hs13 := hs13.f6
 replace hs13 := hs13.f6
 replace hs13 := hs13.f5
 replace hs13 := hs13.f6
 replace hs13 := hs13.f6
 refine rLoop (fun mz e w => ∃ (i : Nat) (ls : List Int) (oa : Option Addr) (oc : Nat), nn - i = mz ∧ e = [(0, (ptr h)), (1, (.slice ma nn mc)), (5, (ptr b9)), (6, (.slice oa i oc)), (14, (I (nn : Int))), (15, (I (i : Int)))] ∧ (i ≤ nn) ∧ (ls.length = nn) ∧ Sep W0 w (own 3 1 (.slice oa i oc) i (Nv (List.range i)) :: own 3 1 (.slice a3 nn cp4) nn (Iv ls) :: row b9 52 [(.slice a3 nn cp4)] :: pool f :: row p.t 365 [(I (ns : Int)), (I (nn : Int)), (.int .u32 (nx.toNat : Int)), (.int .u32 (la.toNat : Int)), (.slice a n cp)] :: watchA p.wp nn now :: own 3 1 (.slice ma nn mc) nn (Iv mo) :: L)) ⟨_, _, ⟨0, ls5, _, _, rfl, rfl, (by omega), (hl6), hs13⟩, ⟨rfl, rfl, rfl, rfl, rfl, rfl, trivial⟩⟩ ?_
 clear hs13; rintro mz e w ⟨i, ls, oa, oc, rfl, rfl, hi, hll, hs⟩
 refine rSeq (rReg (oV (xCmp rfl rfl rLss) rfl (oEnd (kSeq (rSeq ?_)))))
 refine rCondD rfl (fun hc14 => ?_) (fun hc14 => ?_)
 · refine rSkip (kSeq (rSeq (rBlk (rSeq (rReg (oV (xMove rfl) rfl (oV (xAssign rfl) rfl (oEnd (kSeq (rSeq (rSeq (rReg (oV (xMove rfl) rfl (oV (xMove rfl) rfl (oV (xB1 rfl (rLenS underlying52)) rfl (oV (xCmp (r := true) rfl rfl (bT (by omega) rLss)) rfl (oEnd (kSeq (rCondT rfl ?_)))))))))))))))))))
   refine rRegG [(some 10, fun w => ∃ M, Sep W0 w (own 3 1 (.slice a3 nn cp4) nn (Iv ls) :: M)), (none, fun w => ∃ M, Sep W0 w (row b9 52 [(.slice a3 nn cp4)] :: M)), (none, fun w => ∃ M, Sep W0 w (own 3 1 (.slice ma nn mc) nn (Iv mo) :: M))] (by kernel_rfl) hs (fun w15 hs16 => ⟨?_, fun hS => ?_⟩)
   · exact ⟨fun _ => ⟨_, (Sep.front (i := 1) rfl hs16)⟩, ⟨_, (Sep.front (i := 2) rfl hs16)⟩, ⟨_, (Sep.front (i := 6) rfl hs16)⟩, trivial⟩
   clear hs
   refine gTake 0 1 rfl (by kernel_rfl) rfl (by kernel_rfl) hS (fun w hq0 => by obtain ⟨M, hq⟩ := hq0; exact xLoad hq isAgg52 rfl (i := 0) rfl rfl) rfl ?_
   clear hS; intro hS
   refine gTake0 1 rfl (by kernel_rfl) hS (fun w => xMove rfl) rfl ?_
   clear hS; intro hS
   obtain ⟨b17, rfl⟩ := Sep.ownAddr (i := 1) hs16 rfl (by omega)
   refine gTake0 2 rfl (by kernel_rfl) hS (fun w => xIA (o' := i) underlying52 sizeOf3 rfl rfl (by omega) (by omega) (by omega)) rfl ?_
   clear hS; intro hS
   refine gTake 3 0 rfl (by kernel_rfl) rfl (by kernel_rfl) hS (fun w hq0 => by obtain ⟨M, hq⟩ := hq0; exact xLoadC isAgg3 rfl (Sep.ownCell hq (i := 0) rfl (Iv_get (by first | omega | (simp only [List.length_append, List.length_set, List.length_cons, List.length_nil, List.length_map, List.length_replicate, mixd_length]; omega))))) rfl ?_
   clear hS; intro hS
   refine gTake0 4 rfl (by kernel_rfl) hS (fun w => xMove rfl) rfl ?_
   clear hS; intro hS
   refine gTake0 5 rfl (by kernel_rfl) hS (fun w => xMove rfl) rfl ?_
   clear hS; intro hS
   obtain ⟨b19, rfl⟩ := Sep.ownAddr (i := 6) hs16 rfl (by omega)
   refine gTake0 6 rfl (by kernel_rfl) hS (fun w => xIA (o' := i) underlying52 sizeOf3 rfl rfl (by omega) (by omega) (by omega)) rfl ?_
   clear hS; intro hS
   refine gTake 7 2 rfl (by kernel_rfl) rfl (by kernel_rfl) hS (fun w hq0 => by obtain ⟨M, hq⟩ := hq0; exact xLoadC isAgg3 rfl (Sep.ownCell hq (i := 0) rfl (Iv_get (by first | omega | (simp only [List.length_append, List.length_set, List.length_cons, List.length_nil, List.length_map, List.length_replicate, mixd_length]; omega))))) rfl ?_
   clear hS; intro hS
   refine gTake0 8 rfl (by kernel_rfl) hS (fun w => xAr (r := (IntKind.i64.wrap ((ls.getD i 0) + (mo.getD i 0)))) rfl rfl (rAdd rfl)) rfl ?_
   clear hS; intro hS
   refine gTake0 9 rfl (by kernel_rfl) hS (fun w => xIA (o' := i) underlying52 sizeOf3 rfl rfl (by omega) (by omega) (by omega)) rfl ?_
   clear hS; intro hS
   refine gEff 10 (by kernel_rfl) rfl ?_
   refine oStoreO hs16 sizeOf3 rfl rfl rfl (i := 1) rfl (Iv_get (by first | omega | (simp only [List.length_append, List.length_set, List.length_cons, List.length_nil, List.length_map, List.length_replicate, mixd_length]; omega))) ?_
   intro w21 hs22; clear hs16; dsimp only [List.set] at hs22; rw [Iv_set] at hs22
   refine oEnd (kG ⟨(tillDone (by kernel_rfl)), ⟨_, (Sep.front (i := 2) rfl hs22)⟩, ⟨_, (Sep.front (i := 6) rfl hs22)⟩, trivial⟩ ?_)
   clear hS; intro hS
   refine gEnd (by kernel_rfl) ?_
   clear hS
   refine kSeq ?_
   refine rSeq (rReg (oV (xMove rfl) rfl (oV (xNil rfl) rfl (oV (xFA (j' := 2) underlying266 rfl sizeOf259 rfl rfl) rfl (oV (xLoadC isAgg259 rfl (PR.cell hh0 hs22 (i := 3) rfl rfl)) rfl (oV (xMove rfl) rfl ?_))))))
   replace hs22 := hs22.f5
   refine oCall call296 rfl rfl (wof_s (i := i) (by omega) hs22) ?_
   rintro _ w23 ⟨rfl, hs24⟩; clear hs22
   refine oV (xCmp (r := true) rfl rfl rEql) rfl (oEnd (kSeq (rCondT rfl (rReg (oV (xMove rfl) rfl (oV (xMove rfl) rfl (oBuildSlice (el := 3) (cs := [(I (i : Int))]) hs24 rfl (fun w => by kernel_rfl) rfl ?_)))))))
   intro b25 w26 hs27; clear hs24
   refine oAppend (inf := Tryz.t3) (size := 1) (bytes := 8) hs27 (i := 2) rfl underlying52 (by kernel_rfl) rfl rfl rfl rfl rfl rfl rfl (src_row hs27 (i := 0) rfl rfl rfl) (by first | omega | (simp only [List.length_append, List.length_cons, List.length_nil, List.length_map]; omega)) (by first | omega | (simp only [List.length_append, List.length_cons, List.length_nil, List.length_map]; omega)) rfl ?_
   intro a28 c29 w30 hs31; clear hs27; dsimp only [List.set] at hs31
   rw [Nv_range] at hs31
   refine oV (xAssign rfl) rfl (oEnd (kBlk (kSeq (rReg (oV (xAr rfl rfl (rAdd (wI (by omega) (by omega)))) rfl (oV (xMove rfl) rfl ?_))))))
   replace hs31 := hs31.d0
   replace hs31 := hs31.f6
   replace hs31 := hs31.f1
   replace hs31 := hs31.f6
   replace hs31 := hs31.f6
   replace hs31 := hs31.f6
   replace hs31 := hs31.f6
   replace hs31 := hs31.f6
   exact oEnd (kLoop (nn - (i + 1)) _ (by omega) ⟨i + 1, _, _, _, rfl, rfl, (by omega), (by rw [List.length_set]; exact hll), hs31⟩ ⟨rfl, rfl, rfl, rfl, rfl, rfl, trivial⟩)
 · refine rExit (kSeqX (kLoopX (kBlkH (kSeq (rSeq (rReg ?_))))))
   obtain rfl : nn = i := by omega
   replace hs := hs.f2
   replace hs := hs.f2
   replace hs := hs.f3
   obtain ⟨f32, hle33, hv34, hs35⟩ := Sep.freezeOwn (i := 0) hs rfl; clear hs; dsimp only [List.eraseIdx] at hs35
   replace hh := hh.mono hle33
   replace hh0 := hh0.mono hle33
   replace hbk := hbk.mono hle33
   replace hqp := hqp.mono hle33
   replace hbad := hbad.mono hle33
   replace hqm := hqm.mono hle33
   replace hcode := hcode.mono hle33
   replace hv := hv.mono hle33
   replace ho := ho.mono hle33
   obtain ⟨f36, hle37, hu38, hs39⟩ := Sep.freezePR (i := 0) hs35 rfl; clear hs35; dsimp only [List.eraseIdx] at hs39
   replace hh := hh.mono hle37
   replace hh0 := hh0.mono hle37
   replace hbk := hbk.mono hle37
   replace hqp := hqp.mono hle37
   replace hbad := hbad.mono hle37
   replace hqm := hqm.mono hle37
   replace hcode := hcode.mono hle37
   replace hv := hv.mono hle37
   replace ho := ho.mono hle37
   replace hv34 := hv34.mono hle37
   refine oV (xMove rfl) rfl (oV (xMakeFunc rfl rfl) rfl ?_)
   replace hs39 := hs39.f1
   replace hs39 := hs39.f1
   refine oCall call343 rfl rfl (sort_s hu38 hv34 hll (ds := (List.range nn)) (by simp) (by intro x hx; exact List.mem_range.1 hx) (by omega) hs39) ?_
   rintro _ w42 ⟨ds40, hp41, hs43⟩; clear hs39
   refine oEnd (kSeq (rSeq (rReg (oV (xMove rfl) rfl (oV (xAssign rfl) rfl (oEnd (kSeq (rRet (kFin (.tmp rfl (.nil)) ?_)))))))))
   replace hs43 := hs43.f4
   replace hs43 := hs43.f4
   replace hs43 := hs43.f4
   replace hs43 := hs43.f3
   replace hs43 := hs43.f4
   exact ⟨_, _, _, _, rfl, (FLe.trans hle33 hle37), hp41, hs43⟩
end Go.Sl
namespace Go.Sl
open Go.Proofs
def era (b : Bool) : Int := if b = true then 0 else 26
def callN (nds : List Nd) (i kd : Nat) (s : Sh) (l : LB) : List Nd := match nds[i]? with
  | some nd => if nd.up = true then nds.set i { nd with ks := doKs kd s l nd.ks } else nds
  | none => nds
def callD (nds : List Nd) (i kd : Nat) (s : Sh) : LB := match nds[i]? with
  | some nd => if nd.up = true then doD kd s nd.ks else []
  | none => []
def isUp (nds : List Nd) (i : Nat) : Bool := (nds[i]?.map Nd.up).getD false
structure CallOk (sz NC kd : Nat) (s : Sh) (l : LB) (nd : Nd) : Prop where
  kind : kd = 1 ∨ kd = 2 ∨ kd = 3 ∨ kd = 5 ∨ kd = 6
  bare : kd = 2 ∨ l = []
  ok : nd.up = true → DoOk sz NC kd s l nd.ks
  dd : nd.up = true → (doD kd s nd.ks).length ≤ 60000
theorem callN_length {nds : List Nd} {i kd : Nat} {s : Sh} {l : LB} : (callN nds i kd s l).length = nds.length := by
  unfold callN
  split
  · split <;> simp
  · rfl
theorem callN_up {nds : List Nd} {i kd : Nat} {s : Sh} {l : LB} {j : Nat} : isUp (callN nds i kd s l) j = isUp nds j := by
  unfold callN isUp
  split
  · rename_i nd h
    split
    · by_cases hj : i = j
      · subst hj
        have hlt := (List.getElem?_eq_some_iff.1 h).1
        rw [List.getElem?_set_self hlt, h]; rfl
      · rw [List.getElem?_set_ne hj]
    · rfl
  · rfl
theorem callN_ne {nds : List Nd} {i kd : Nat} {s : Sh} {l : LB} {j : Nat} (h : i ≠ j) : (callN nds i kd s l)[j]? = nds[j]? := by
  unfold callN
  split
  · split
    · rw [List.getElem?_set_ne h]
    · rfl
  · rfl
theorem callN_at {nds : List Nd} {i kd : Nat} {s : Sh} {l : LB} {nd : Nd} (h : nds[i]? = some nd) : (callN nds i kd s l)[i]? = some (if nd.up = true then { nd with ks := doKs kd s l nd.ks } else nd) := by
  have hlt := (List.getElem?_eq_some_iff.1 h).1
  unfold callN; rw [h]; simp only; split
  · rw [List.getElem?_set_self hlt]
  · exact h
theorem callN_up1 {nds : List Nd} {i kd : Nat} {s : Sh} {l : LB} {nd : Nd} (h : nds[i]? = some nd) (hu : nd.up = true) : callN nds i kd s l = nds.set i { nd with ks := doKs kd s l nd.ks } := by
  unfold callN; rw [h]; simp only; rw [if_pos hu]
theorem callN_dn {nds : List Nd} {i kd : Nat} {s : Sh} {l : LB} {nd : Nd} (h : nds[i]? = some nd) (hu : nd.up = false) : callN nds i kd s l = nds := by
  unfold callN; rw [h]; simp [hu]
theorem isUp_at {nds : List Nd} {i : Nat} {nd : Nd} (h : nds[i]? = some nd) : isUp nds i = nd.up := by unfold isUp; rw [h]; rfl
theorem era_up {b : Bool} (h : era b = 0) : b = true := by
  cases b
  · cases h
  · rfl
theorem era_dn {b : Bool} (h : ¬ era b = 0) : b = false := by
  cases b
  · rfl
  · exact absurd rfl h
theorem Reads.tailN {P : Program} {f : HF} {a : Option Addr} {n cp : Nat} {l : List Nat} {t : TypeId} (h : Reads f 1 (.slice a n cp) n (Nv l)) (hn : 1 ≤ n) (hu : P.underlying t = some (.slice 3)) (hsz : ∀ w, Sem.run P (sizeOf 3) w = .ok 1 w) :
    ∃ a' cp', Reads f 1 (.slice a' (n - 1) cp') (n - 1) (Nv (l.drop 1)) ∧ ∀ w, Sem.run P (Instr.sliceAt t (.slice a n cp) (some (.int .i64 1)) Option.none Option.none) w = .ok (.slice a' (n - 1) cp') w := by
  have hl : (Nv l).length = n := by have := h.1; simpa using this
  obtain ⟨a', cp', h1, h2⟩ := Reads.slice (t := t) (lo := 1) (hi := n) h hu hsz (.some (k := .i64) (i := 1) (by omega)) .none hn (Nat.le_refl _)
  refine ⟨a', cp', ?_, h2⟩
  have e : ((Nv l).drop (1 * 1)).take ((n - 1) * 1) = Nv (l.drop 1) := by
    rw [Nat.mul_one, Nat.mul_one, List.take_of_length_le (by rw [List.length_drop, hl]; exact Nat.le_refl _)]
    simp [Nv, List.map_drop]
  rw [e] at h1; exact h1
end Go.Sl
namespace Go.Sl
open Go.Proofs Go.Proofs.Tryz
theorem hcall1_s {W0 w : World} {L : List Asn} {f : HF} {h : Nat} {p : Hp} (hh : HallP f h p) {sz NC q nn i kd : Nat} {nds : List Nd} {nd : Nd} {s : Sh} {a : Option Addr} {m bc : Nat} {l : LB} (hb : RB f a m bc l) (hnd : nds[i]? = some nd) (hq : q ≤ 1152921504606846976) (hNC : NC ≤ 1000000) (hsz : sz ≤ 60000) (hl : l.length ≤ 60000) (hok : CallOk sz NC kd s l nd) (hup : nd.up = true) (hs : Sep W0 w (pool f :: rackA f p.x p.c sz NC q nn nds :: L)) : Calls Tryz.prog 223 [ptr h, .int .i64 i, .agg #[.int .u64 0, I (kd : Int), U s.o, H s.st, H s.sl, U s.g, .int .u16 0, .slice a m bc]].toArray w (Ret fun r w' => ∃ f' a' m' bc', r = .tuple #[.slice a' m' bc', .int .i64 0] ∧ FLe f f' ∧ RB f' a' m' bc' (doD kd s nd.ks) ∧ Sep W0 w' (pool f' :: rackA f' p.x p.c sz NC (q + 1) nn (nds.set i { nd with ks := doKs kd s l nd.ks }) :: L)) := by
 obtain ⟨⟨s5, s6, s8, s9, s10, s11, s12, s13, s14, s15, s20, s22, hh0⟩, hbk, hqp, hbad, hqm, hcode⟩ := id hh
 refine enter (args := [(ptr h), (I (i : Int)), (.agg #[(.int .u64 0), (I (kd : Int)), (.int .u32 (s.o.toNat : Int)), (.int .u16 (s.st.toNat : Int)), (.int .u16 (s.sl.toNat : Int)), (.int .u32 (s.g.toNat : Int)), (.int .u16 0), (.slice a m bc)])]) (n := 23) (rs := [.tmp 6, .tmp 7]) func223 rfl rfl rfl rfl ?_
 refine rSeq (rReg (oBox hs rfl rfl rfl ?_))
 intro b1 w2 hs3; clear hs
 refine oV (xAssign rfl) rfl (oV (xAssign rfl) rfl (oEnd (kSeq (rSeq (rSeq (rReg (oV (xMove rfl) rfl (oV (xBin (r := .bool false) rfl rfl (fun _ => rfl) (fun w => by kernel_rfl)) rfl (oV (xMove rfl) rfl (oGuardT rfl rfl (oV (xMove rfl) rfl (oGuardT rfl rfl ?_))))))))))))
 replace hs3 := hs3.f1
 refine oCall call281 rfl rfl (hburns_s hh hs3) ?_
 rintro _ w4 ⟨rfl, hs5⟩; clear hs3
 refine oV (xPickF rfl rfl) rfl (oEnd (kSeq (rCondF rfl (rSkip (kSeq (rSeq ?_))))))
 refine rRegG [(none, fun w => ∃ M, Sep W0 w (pool f :: M)), (none, fun w => ∃ M, Sep W0 w (row b1 394 [(.int .u64 0), (I (kd : Int)), (.int .u32 (s.o.toNat : Int)), (.int .u16 (s.st.toNat : Int)), (.int .u16 (s.sl.toNat : Int)), (.int .u32 (s.g.toNat : Int)), (.int .u16 0), (.slice a m bc)] :: M))] (by kernel_rfl) hs5 (fun w6 hs7 => ⟨?_, fun hS => ?_⟩)
 · exact ⟨⟨_, (Sep.front (i := 0) rfl hs7)⟩, ⟨_, (Sep.front (i := 1) rfl hs7)⟩, trivial⟩
 clear hs5
 refine gTake0 0 rfl (by kernel_rfl) hS (fun w => xMove rfl) rfl ?_
 clear hS; intro hS
 refine gTake0 1 rfl (by kernel_rfl) hS (fun w => xNil rfl) rfl ?_
 clear hS; intro hS
 refine gTake0 2 rfl (by kernel_rfl) hS (fun w => xFA (j' := 1) underlying266 rfl sizeOf258 rfl rfl) rfl ?_
 clear hS; intro hS
 refine gTake 3 0 rfl (by kernel_rfl) rfl (by kernel_rfl) hS (fun w hq0 => by obtain ⟨M, hq⟩ := hq0; exact xLoadC isAgg258 rfl (PR.cell hh0 hq (i := 0) rfl rfl)) rfl ?_
 clear hS; intro hS
 refine gTake0 4 rfl (by kernel_rfl) hS (fun w => xMove rfl) rfl ?_
 clear hS; intro hS
 refine gTake 5 1 rfl (by kernel_rfl) rfl (by kernel_rfl) hS (fun w hq0 => by obtain ⟨M, hq⟩ := hq0; exact xLoadG hq isAgg394 sizeOf394 rfl (i := 0) rfl rfl) rfl ?_
 clear hS; intro hS
 refine gEff 6 (by kernel_rfl) rfl ?_
 replace hs7 := hs7.f2
 replace hs7 := hs7.f1
 refine oCall call287 rfl rfl (rcall_s hb hnd hq hNC hsz hl (hok.ok hup) (hok.dd hup) hup hs7) ?_
 rintro _ w14 ⟨f8, a9, m10, bc11, rfl, hle12, hb13, hs15⟩; clear hs7
 replace hh := hh.mono hle12
 replace hh0 := hh0.mono hle12
 replace hbk := hbk.mono hle12
 replace hqp := hqp.mono hle12
 replace hbad := hbad.mono hle12
 replace hqm := hqm.mono hle12
 replace hcode := hcode.mono hle12
 replace hb := hb.mono hle12
 refine oEnd (kG ⟨⟨_, (Sep.imp (i := 0) rfl (pool_sub hle12) (Sep.front (i := 0) rfl hs15))⟩, ⟨_, (Sep.front (i := 2) rfl hs15)⟩, trivial⟩ ?_)
 clear hS; intro hS
 refine gTake0 7 rfl (by kernel_rfl) hS (fun w => xExtract rfl rfl) rfl ?_
 clear hS; intro hS
 refine gTake0 8 rfl (by kernel_rfl) hS (fun w => xExtract rfl rfl) rfl ?_
 clear hS; intro hS
 refine gTake0 9 rfl (by kernel_rfl) hS (fun w => xAssign rfl) rfl ?_
 clear hS; intro hS
 refine gTake0 10 rfl (by kernel_rfl) hS (fun w => xAssign rfl) rfl ?_
 clear hS; intro hS
 refine gEnd (by kernel_rfl) ?_
 clear hS
 refine kSeq ?_
 refine rRet (kFin (.tmp rfl (.tmp rfl (.nil))) ?_)
 replace hs15 := hs15.d2
 exact ⟨_, _, _, _, rfl, hle12, hb13, hs15⟩
theorem hcall0_s {W0 w : World} {L : List Asn} {f : HF} {h : Nat} {p : Hp} (hh : HallP f h p) {sz NC q nn i kd : Nat} {nds : List Nd} {nd : Nd} {s : Sh} {a : Option Addr} {m bc : Nat} {l : LB} (hb : RB f a m bc l) (hnd : nds[i]? = some nd) (hq : q ≤ 1152921504606846976) (hNC : NC ≤ 1000000) (hsz : sz ≤ 60000) (hl : l.length ≤ 60000) (hok : CallOk sz NC kd s l nd) (hka : kd = 2 ∨ m = 0) (hup : nd.up = false) (hs : Sep W0 w (pool f :: rackA f p.x p.c sz NC q nn nds :: L)) : Calls Tryz.prog 223 [ptr h, .int .i64 i, .agg #[.int .u64 0, I (kd : Int), U s.o, H s.st, H s.sl, U s.g, .int .u16 0, .slice a m bc]].toArray w (Ret fun r w' => r = .tuple #[.slice none 0 0, .int .i64 26] ∧ Sep W0 w' (pool f :: rackA f p.x p.c sz NC (q + 1) nn nds :: L)) := by
 obtain ⟨⟨s5, s6, s8, s9, s10, s11, s12, s13, s14, s15, s20, s22, hh0⟩, hbk, hqp, hbad, hqm, hcode⟩ := id hh
 refine enter (args := [(ptr h), (I (i : Int)), (.agg #[(.int .u64 0), (I (kd : Int)), (.int .u32 (s.o.toNat : Int)), (.int .u16 (s.st.toNat : Int)), (.int .u16 (s.sl.toNat : Int)), (.int .u32 (s.g.toNat : Int)), (.int .u16 0), (.slice a m bc)])]) (n := 23) (rs := [.tmp 6, .tmp 7]) func223 rfl rfl rfl rfl ?_
 refine rSeq (rReg (oBox hs rfl rfl rfl ?_))
 intro b1 w2 hs3; clear hs
 refine oV (xAssign rfl) rfl (oV (xAssign rfl) rfl (oEnd (kSeq (rSeq (rSeq (rReg (oV (xMove rfl) rfl (oV (xBin (r := .bool false) rfl rfl (fun _ => rfl) (fun w => by kernel_rfl)) rfl (oV (xMove rfl) rfl (oGuardT rfl rfl (oV (xMove rfl) rfl (oGuardT rfl rfl ?_))))))))))))
 replace hs3 := hs3.f1
 refine oCall call281 rfl rfl (hburns_s hh hs3) ?_
 rintro _ w4 ⟨rfl, hs5⟩; clear hs3
 refine oV (xPickF rfl rfl) rfl (oEnd (kSeq (rCondF rfl (rSkip (kSeq (rSeq ?_))))))
 refine rRegG [(none, fun w => ∃ M, Sep W0 w (pool f :: M)), (none, fun w => ∃ M, Sep W0 w (row b1 394 [(.int .u64 0), (I (kd : Int)), (.int .u32 (s.o.toNat : Int)), (.int .u16 (s.st.toNat : Int)), (.int .u16 (s.sl.toNat : Int)), (.int .u32 (s.g.toNat : Int)), (.int .u16 0), (.slice a m bc)] :: M))] (by kernel_rfl) hs5 (fun w6 hs7 => ⟨?_, fun hS => ?_⟩)
 · exact ⟨⟨_, (Sep.front (i := 0) rfl hs7)⟩, ⟨_, (Sep.front (i := 1) rfl hs7)⟩, trivial⟩
 clear hs5
 refine gTake0 0 rfl (by kernel_rfl) hS (fun w => xMove rfl) rfl ?_
 clear hS; intro hS
 refine gTake0 1 rfl (by kernel_rfl) hS (fun w => xNil rfl) rfl ?_
 clear hS; intro hS
 refine gTake0 2 rfl (by kernel_rfl) hS (fun w => xFA (j' := 1) underlying266 rfl sizeOf258 rfl rfl) rfl ?_
 clear hS; intro hS
 refine gTake 3 0 rfl (by kernel_rfl) rfl (by kernel_rfl) hS (fun w hq0 => by obtain ⟨M, hq⟩ := hq0; exact xLoadC isAgg258 rfl (PR.cell hh0 hq (i := 0) rfl rfl)) rfl ?_
 clear hS; intro hS
 refine gTake0 4 rfl (by kernel_rfl) hS (fun w => xMove rfl) rfl ?_
 clear hS; intro hS
 refine gTake 5 1 rfl (by kernel_rfl) rfl (by kernel_rfl) hS (fun w hq0 => by obtain ⟨M, hq⟩ := hq0; exact xLoadG hq isAgg394 sizeOf394 rfl (i := 0) rfl rfl) rfl ?_
 clear hS; intro hS
 refine gEff 6 (by kernel_rfl) rfl ?_
 replace hs7 := hs7.f2
 replace hs7 := hs7.f1
 refine oCall call287 rfl rfl (rcalldn_s (l := l) hnd hq hok.kind hka hup hs7) ?_
 rintro _ w8 ⟨rfl, hs9⟩; clear hs7
 refine oEnd (kG ⟨⟨_, (Sep.front (i := 0) rfl hs9)⟩, ⟨_, (Sep.front (i := 2) rfl hs9)⟩, trivial⟩ ?_)
 clear hS; intro hS
 refine gTake0 7 rfl (by kernel_rfl) hS (fun w => xExtract rfl rfl) rfl ?_
 clear hS; intro hS
 refine gTake0 8 rfl (by kernel_rfl) hS (fun w => xExtract rfl rfl) rfl ?_
 clear hS; intro hS
 refine gTake0 9 rfl (by kernel_rfl) hS (fun w => xAssign rfl) rfl ?_
 clear hS; intro hS
 refine gTake0 10 rfl (by kernel_rfl) hS (fun w => xAssign rfl) rfl ?_
 clear hS; intro hS
 refine gEnd (by kernel_rfl) ?_
 clear hS
 refine kSeq ?_
 refine rRet (kFin (.tmp rfl (.tmp rfl (.nil))) ?_)
 replace hs9 := hs9.d2
 exact ⟨rfl, hs9⟩
theorem hcall_s {W0 w : World} {L : List Asn} {f : HF} {h : Nat} {p : Hp} (hh : HallP f h p) {sz NC q nn i kd : Nat} {nds : List Nd} {nd : Nd} {s : Sh} {a : Option Addr} {m bc : Nat} {l : LB} (hb : RB f a m bc l) (hnd : nds[i]? = some nd) (hq : q ≤ 1152921504606846976) (hNC : NC ≤ 1000000) (hsz : sz ≤ 60000) (hl : l.length ≤ 60000) (hok : CallOk sz NC kd s l nd) (hs : Sep W0 w (pool f :: rackA f p.x p.c sz NC q nn nds :: L)) : Calls Tryz.prog 223 [ptr h, .int .i64 i, .agg #[.int .u64 0, I (kd : Int), U s.o, H s.st, H s.sl, U s.g, .int .u16 0, .slice a m bc]].toArray w
 (Ret fun r w' => ∃ f' a' m' bc', r = .tuple #[.slice a' m' bc', .int .i64 (era nd.up)] ∧ FLe f f' ∧ RB f' a' m' bc' (callD nds i kd s) ∧ Sep W0 w' (pool f' :: rackA f' p.x p.c sz NC (q + 1) nn (callN nds i kd s l) :: L)) := by
 have hka : kd = 2 ∨ m = 0 := by rcases hok.bare with h | h; exact .inl h; right; rw [← RB.len hb, h]; rfl
 cases hup : nd.up with
 | true =>
   refine (hcall1_s hh hb hnd hq hNC hsz hl hok hup hs).mono ?_
   rintro e' w' ⟨v, rfl, f', a', m', bc', rfl, h1, h2, h3⟩
   rw [callN_up1 hnd hup]
   refine ⟨_, rfl, f', a', m', bc', rfl, h1, ?_, h3⟩
   unfold callD; rw [hnd]; simp only [hup, if_true]; exact h2
 | false =>
   refine (hcall0_s hh hb hnd hq hNC hsz hl hok hka hup hs).mono ?_
   rintro e' w' ⟨v, rfl, rfl, h3⟩
   rw [callN_dn hnd hup]
   refine ⟨_, rfl, f, none, 0, 0, rfl, FLe.refl _, ?_, h3⟩
   unfold callD; rw [hnd]; simp only [hup]; exact RB.nil
theorem hdob_s {W0 w : World} {L : List Asn} {f : HF} {h : Nat} {p : Hp} (hh : HallP f h p) {n cp : Nat} {nx la : UInt32} {a : Option Addr} {cs : List Value} {obs : List Ob} (hv : Reads f 6 (.slice a n cp) n cs) (ho : ObsR f cs obs) (hn : obs.length = n) {m tm most : Nat} (hB : ObsB obs) (hm : m ≤ 100000) (hfit : tm + 6000 ≤ most) (hmost : most ≤ 1073741824) (hn64 : n ≤ 64) (hnx : nx.toNat < 4294967295) (hs : Sep W0 w (pool f :: row p.t 365 [I (p.n : Int), I (p.nn : Int), U nx, U la, .slice a n cp] :: diaryA p.d p.tp m :: tapeA p.tp tm most :: L)) : Calls Tryz.prog 217 [ptr h, .agg #[I 1, U nx, .string ⟨#[]⟩, I 0, I 0, I 0, .slice none 0 0, I 0, I 0, I 0, .int .u32 0]].toArray w (Ret fun r w' => ∃ f' tm', r = .int .i64 0 ∧ FLe f f' ∧ tm' ≤ tm + 5020 ∧ Sep W0 w' (pool f' :: row p.t 365 [I (p.n : Int), I (p.nn : Int), U (nx + 1), U la, .slice a n cp] :: diaryA p.d p.tp (m + 1) :: tapeA p.tp tm' most :: L)) := by
 obtain ⟨⟨s5, s6, s8, s9, s10, s11, s12, s13, s14, s15, s20, s22, hh0⟩, hbk, hqp, hbad, hqm, hcode⟩ := id hh
 refine enter (args := [(ptr h), (.agg #[(I 1), (.int .u32 (nx.toNat : Int)), (.string ⟨#[]⟩), (I 0), (I 0), (I 0), (.slice none 0 0), (I 0), (I 0), (I 0), (.int .u32 0)])]) (n := 28) (rs := [.tmp 4]) func217 rfl rfl rfl rfl ?_
 refine rSeq (rReg (oBox hs rfl rfl rfl ?_))
 intro b1 w2 hs3; clear hs
 refine oV (xAssign rfl) rfl (oEnd (kSeq (rSeq (rSeq (rReg (oV (xMove rfl) rfl (oV (xBin (r := .bool false) rfl rfl (fun _ => rfl) (fun w => by kernel_rfl)) rfl (oV (xMove rfl) rfl (oGuardT rfl rfl (oV (xMove rfl) rfl (oGuardT rfl rfl (oV (xNil rfl) rfl (oGuardT rfl rfl (oV (xFA (j' := 21) underlying266 rfl sizeOf4 rfl rfl) rfl (oGuardT rfl rfl (oV (xLoadC isAgg4 rfl (PR.cell hh0 hs3 (i := 1) rfl rfl)) rfl (oV (xPickF rfl rfl) rfl (oEnd (kSeq (rCondF rfl (rSkip (kSeq (rSeq (rSeq (rReg (oV (xMove rfl) rfl ?_))))))))))))))))))))))))))
 replace hs3 := hs3.f1
 refine oCall call281 rfl rfl (hburns_s hh hs3) ?_
 rintro _ w4 ⟨rfl, hs5⟩; clear hs3
 refine oV (xNot rfl) rfl (oEnd (kSeq (rCondT rfl (rSeq ?_))))
 refine rRegG [(none, fun w => ∃ M, Sep W0 w (pool f :: M)), (none, fun w => ∃ M, Sep W0 w (row b1 386 [(I 1), (.int .u32 (nx.toNat : Int)), (.string ⟨#[]⟩), (I 0), (I 0), (I 0), (.slice none 0 0), (I 0), (I 0), (I 0), (.int .u32 0)] :: M))] (by kernel_rfl) hs5 (fun w6 hs7 => ⟨?_, fun hS => ?_⟩)
 · exact ⟨⟨_, (Sep.front (i := 0) rfl hs7)⟩, ⟨_, (Sep.front (i := 1) rfl hs7)⟩, trivial⟩
 clear hs5
 refine gTake0 0 rfl (by kernel_rfl) hS (fun w => xMove rfl) rfl ?_
 clear hS; intro hS
 refine gTake0 1 rfl (by kernel_rfl) hS (fun w => xNil rfl) rfl ?_
 clear hS; intro hS
 refine gTake0 2 rfl (by kernel_rfl) hS (fun w => xFA (j' := 17) underlying266 rfl sizeOf263 rfl rfl) rfl ?_
 clear hS; intro hS
 refine gTake 3 0 rfl (by kernel_rfl) rfl (by kernel_rfl) hS (fun w hq0 => by obtain ⟨M, hq⟩ := hq0; exact xLoadC isAgg263 rfl (PR.cell hh0 hq (i := 0) rfl rfl)) rfl ?_
 clear hS; intro hS
 refine gTake 4 1 rfl (by kernel_rfl) rfl (by kernel_rfl) hS (fun w hq0 => by obtain ⟨M, hq⟩ := hq0; exact xLoadG hq isAgg386 sizeOf386 rfl (i := 0) rfl rfl) rfl ?_
 clear hS; intro hS
 refine gEff 5 (by kernel_rfl) rfl ?_
 replace hs7 := hs7.f4
 replace hs7 := hs7.f4
 replace hs7 := hs7.f4
 replace hs7 := hs7.f3
 refine oCall call282 rfl rfl (bdob_s hv ho hn hbk hB hm hfit hmost (by omega) hnx hs7) ?_
 rintro _ w12 ⟨f8, tm9, rfl, hle10, htm11, hs13⟩; clear hs7
 replace hh := hh.mono hle10
 replace hh0 := hh0.mono hle10
 replace hbk := hbk.mono hle10
 replace hqp := hqp.mono hle10
 replace hbad := hbad.mono hle10
 replace hqm := hqm.mono hle10
 replace hcode := hcode.mono hle10
 replace hv := hv.mono hle10
 replace ho := ho.mono hle10
 refine oEnd (kG ⟨⟨_, (Sep.imp (i := 0) rfl (pool_sub hle10) (Sep.front (i := 0) rfl hs13))⟩, ⟨_, (Sep.front (i := 4) rfl hs13)⟩, trivial⟩ ?_)
 clear hS; intro hS
 refine gTake0 6 rfl (by kernel_rfl) hS (fun w => xAssign rfl) rfl ?_
 clear hS; intro hS
 refine gEnd (by kernel_rfl) ?_
 clear hS
 refine kSeq ?_
 refine rRet (kSeqR (kFin (.tmp rfl (.nil)) ?_))
 replace hs13 := hs13.d4
 exact ⟨_, _, rfl, hle10, by omega, hs13⟩
theorem hdoc_s {W0 w : World} {L : List Asn} {f : HF} {h : Nat} {p : Hp} (hh : HallP f h p) {n cp : Nat} {nx la : UInt32} {a : Option Addr} {cs : List Value} {obs : List Ob} (hv : Reads f 6 (.slice a n cp) n cs) (ho : ObsR f cs obs) (hn : obs.length = n) {o : Ob} {oa : Option Addr} {ocp : Nat} {us : List Value} (hv2 : Reads f 1 (.slice oa o.pl.length ocp) o.pl.length us) (hp2 : PlR f us o.pl) {m tm most : Nat} (hB : ObsB obs) (hm : m ≤ 100000) (hfit : tm + 6000 ≤ most) (hmost : most ≤ 1073741824) (hok : ObOk p.n p.nn o) (hnn : p.nn ≤ 32) (hns : p.n ≤ 24) (hc1 : 32 < o.nm.toNat) (hc2 : o.nm.toNat ≤ 126) (hsort : SortO obs) (hend : ∀ x ∈ obs, x.nm < o.nm) (hnum : ∀ x ∈ obs, x.num ≠ o.num) (hla : la.toNat < o.num.toNat) (hnx : o.num.toNat < nx.toNat) (hn64 : n < 64) (hs : Sep W0 w (pool f :: row p.t 365 [I (p.n : Int), I (p.nn : Int), U nx, U la, .slice a n cp] :: diaryA p.d p.tp m :: tapeA p.tp tm most :: L)) : Calls Tryz.prog 217 [ptr h, .agg #[I 2, U o.num, nmS o.nm, I (o.len : Int), I (o.cnt : Int), I (o.pc : Int), .slice oa o.pl.length ocp, I 0, I 0, I 0, .int .u32 0]].toArray w (Ret fun r w' => ∃ f' tm' a' cp' cs', r = .int .i64 0 ∧ FLe f f' ∧ tm' ≤ tm + 5020 ∧ Reads f' 6 (.slice a' (n + 1) cp') (n + 1) cs' ∧ ObsR f' cs' (obs ++ [o]) ∧ Sep W0 w' (pool f' :: row p.t 365 [I (p.n : Int), I (p.nn : Int), U nx, U o.num, .slice a' (n + 1) cp'] :: diaryA p.d p.tp (m + 1) :: tapeA p.tp tm' most :: L)) := by
 obtain ⟨⟨s5, s6, s8, s9, s10, s11, s12, s13, s14, s15, s20, s22, hh0⟩, hbk, hqp, hbad, hqm, hcode⟩ := id hh
 refine enter (args := [(ptr h), (.agg #[(I 2), (.int .u32 (o.num.toNat : Int)), (.string ⟨#[o.nm]⟩), (I (o.len : Int)), (I (o.cnt : Int)), (I (o.pc : Int)), (.slice oa o.pl.length ocp), (I 0), (I 0), (I 0), (.int .u32 0)])]) (n := 28) (rs := [.tmp 4]) func217 rfl rfl rfl rfl ?_
 refine rSeq (rReg (oBox hs rfl rfl rfl ?_))
 intro b1 w2 hs3; clear hs
 refine oV (xAssign rfl) rfl (oEnd (kSeq (rSeq (rSeq (rReg (oV (xMove rfl) rfl (oV (xBin (r := .bool false) rfl rfl (fun _ => rfl) (fun w => by kernel_rfl)) rfl (oV (xMove rfl) rfl (oGuardT rfl rfl (oV (xMove rfl) rfl (oGuardT rfl rfl (oV (xNil rfl) rfl (oGuardT rfl rfl (oV (xFA (j' := 21) underlying266 rfl sizeOf4 rfl rfl) rfl (oGuardT rfl rfl (oV (xLoadC isAgg4 rfl (PR.cell hh0 hs3 (i := 1) rfl rfl)) rfl (oV (xPickF rfl rfl) rfl (oEnd (kSeq (rCondF rfl (rSkip (kSeq (rSeq (rSeq (rReg (oV (xMove rfl) rfl ?_))))))))))))))))))))))))))
 replace hs3 := hs3.f1
 refine oCall call281 rfl rfl (hburns_s hh hs3) ?_
 rintro _ w4 ⟨rfl, hs5⟩; clear hs3
 refine oV (xNot rfl) rfl (oEnd (kSeq (rCondT rfl (rSeq ?_))))
 refine rRegG [(none, fun w => ∃ M, Sep W0 w (pool f :: M)), (none, fun w => ∃ M, Sep W0 w (row b1 386 [(I 2), (.int .u32 (o.num.toNat : Int)), (.string ⟨#[o.nm]⟩), (I (o.len : Int)), (I (o.cnt : Int)), (I (o.pc : Int)), (.slice oa o.pl.length ocp), (I 0), (I 0), (I 0), (.int .u32 0)] :: M))] (by kernel_rfl) hs5 (fun w6 hs7 => ⟨?_, fun hS => ?_⟩)
 · exact ⟨⟨_, (Sep.front (i := 0) rfl hs7)⟩, ⟨_, (Sep.front (i := 1) rfl hs7)⟩, trivial⟩
 clear hs5
 refine gTake0 0 rfl (by kernel_rfl) hS (fun w => xMove rfl) rfl ?_
 clear hS; intro hS
 refine gTake0 1 rfl (by kernel_rfl) hS (fun w => xNil rfl) rfl ?_
 clear hS; intro hS
 refine gTake0 2 rfl (by kernel_rfl) hS (fun w => xFA (j' := 17) underlying266 rfl sizeOf263 rfl rfl) rfl ?_
 clear hS; intro hS
 refine gTake 3 0 rfl (by kernel_rfl) rfl (by kernel_rfl) hS (fun w hq0 => by obtain ⟨M, hq⟩ := hq0; exact xLoadC isAgg263 rfl (PR.cell hh0 hq (i := 0) rfl rfl)) rfl ?_
 clear hS; intro hS
 refine gTake 4 1 rfl (by kernel_rfl) rfl (by kernel_rfl) hS (fun w hq0 => by obtain ⟨M, hq⟩ := hq0; exact xLoadG hq isAgg386 sizeOf386 rfl (i := 0) rfl rfl) rfl ?_
 clear hS; intro hS
 refine gEff 5 (by kernel_rfl) rfl ?_
 replace hs7 := hs7.f4
 replace hs7 := hs7.f4
 replace hs7 := hs7.f4
 replace hs7 := hs7.f3
 refine oCall call282 rfl rfl (bdoc_s hv ho hn hv2 hp2 hbk hB hm hfit hmost hok hnn hns hc1 hc2 hsort hend hnum hla hnx hn64 hs7) ?_
 rintro _ w12 ⟨f8, tm9, a14, cp15, cs16, rfl, hle10, htm11, hv17, ho18, hs13⟩; clear hs7
 replace hh := hh.mono hle10
 replace hh0 := hh0.mono hle10
 replace hbk := hbk.mono hle10
 replace hqp := hqp.mono hle10
 replace hbad := hbad.mono hle10
 replace hqm := hqm.mono hle10
 replace hcode := hcode.mono hle10
 replace hv := hv.mono hle10
 replace ho := ho.mono hle10
 replace hv2 := hv2.mono hle10
 replace hp2 := hp2.mono hle10
 refine oEnd (kG ⟨⟨_, (Sep.imp (i := 0) rfl (pool_sub hle10) (Sep.front (i := 0) rfl hs13))⟩, ⟨_, (Sep.front (i := 4) rfl hs13)⟩, trivial⟩ ?_)
 clear hS; intro hS
 refine gTake0 6 rfl (by kernel_rfl) hS (fun w => xAssign rfl) rfl ?_
 clear hS; intro hS
 refine gEnd (by kernel_rfl) ?_
 clear hS
 refine kSeq ?_
 refine rRet (kSeqR (kFin (.tmp rfl (.nil)) ?_))
 replace hs13 := hs13.d4
 exact ⟨_, _, _, _, _, rfl, hle10, by omega, hv17, ho18, hs13⟩
end Go.Sl
namespace Go.Sl
open Go.Proofs
def layJ (nds : List Nd) (num : UInt32) (st : Nat) (ups : List Nat) (bs : List LB) : Nat → List Nd
  | 0 => nds
  | j + 1 => callN (layJ nds num st ups bs j) (ups.getD j 0) 2 (shN num st j) (bs.getD j [])
section
variable {nds : List Nd} {num : UInt32} {st : Nat} {ups ord : List Nat} {bs : List LB}
theorem layJ_length : ∀ j, (layJ nds num st ups bs j).length = nds.length
  | 0 => rfl
  | j + 1 => by rw [layJ, callN_length, layJ_length j]
theorem layJ_up (i : Nat) : ∀ j, isUp (layJ nds num st ups bs j) i = isUp nds i
  | 0 => rfl
  | j + 1 => by rw [layJ, callN_up, layJ_up i j]
theorem layJ_ne {i : Nat} : ∀ j, (∀ k, k < j → ups.getD k 0 ≠ i) → (layJ nds num st ups bs j)[i]? = nds[i]?
  | 0, _ => rfl
  | j + 1, h => by rw [layJ, callN_ne (h j (by omega)), layJ_ne j fun k hk => h k (by omega)]
theorem getD_nd {l : List Nat} (h : l.Nodup) {i j : Nat} (hij : i < j) (hj : j < l.length) : l.getD i 0 ≠ l.getD j 0 := by
  rw [List.getD_eq_getElem?_getD, List.getD_eq_getElem?_getD, List.getElem?_eq_getElem hj, List.getElem?_eq_getElem (show i < l.length by omega)]
  simp only [Option.getD_some]
  exact (List.pairwise_iff_getElem.1 h) i j (by omega) hj hij
structure LayOk (sz NC : Nat) (nds : List Nd) (num : UInt32) (st : Nat) (bs : List LB) : Prop where
  free : ∀ (i : Nat) (nd : Nd), nds[i]? = some nd → nd.up = true → (∀ sl : Nat, mget nd.ks (shN num st sl) = none) ∧ nd.ks.length < NC
  fit : ∀ b ∈ bs, 24 + b.length ≤ sz
theorem lay_step {sz NC j : Nat} {od : List Nat} (h : LayOk sz NC nds num st bs) (hu : ups.Nodup) (hod : od.filter (isUp nds) = ups.drop j) (h0 : 0 < od.length) (hlt : ∀ x ∈ od, x < nds.length) (hj : j < bs.length) :
    ∃ nd, (layJ nds num st ups bs j)[od.getD 0 0]? = some nd ∧ CallOk sz NC 2 (shN num st j) (bs.getD j []) nd ∧ (bs.getD j []).length ≤ sz ∧
      (nd.up = true → layJ nds num st ups bs (j + 1) = callN (layJ nds num st ups bs j) (od.getD 0 0) 2 (shN num st j) (bs.getD j []) ∧ (od.drop 1).filter (isUp nds) = ups.drop (j + 1) ∧ j + 1 ≤ ups.length ∧ ups.take j ++ [od.getD 0 0] = ups.take (j + 1)) ∧
      (nd.up = false → callN (layJ nds num st ups bs j) (od.getD 0 0) 2 (shN num st j) (bs.getD j []) = layJ nds num st ups bs j ∧ (od.drop 1).filter (isUp nds) = ups.drop j) := by
  obtain ⟨x, od, rfl⟩ : ∃ x t, od = x :: t := by
    cases od with
    | nil => simp at h0
    | cons x t => exact ⟨x, t, rfl⟩
  have hx : x < (layJ nds num st ups bs j).length := by rw [layJ_length]; exact hlt x (by simp)
  have hb : bs.getD j [] ∈ bs := by rw [List.getD_eq_getElem?_getD, List.getElem?_eq_getElem hj]; exact List.getElem_mem _
  have hfit := h.fit _ hb
  simp only [List.getD_cons_zero, List.drop_one, List.tail_cons]
  refine ⟨(layJ nds num st ups bs j)[x], List.getElem?_eq_getElem hx, ?_, by omega, ?_, ?_⟩
  · have hup : isUp nds x = (layJ nds num st ups bs j)[x].up := by rw [← layJ_up x j]; exact isUp_at (List.getElem?_eq_getElem hx)
    refine ⟨by simp, .inl rfl, fun hu' => ?_, fun _ => by simp [doD]⟩
    rw [hu'] at hup
    rw [List.filter_cons_of_pos (by exact hup)] at hod
    have hjl : j < ups.length := by
      have := congrArg List.length hod; simp at this; omega
    rw [List.drop_eq_getElem_cons hjl] at hod
    have hxe : ups.getD j 0 = x := by
      rw [List.getD_eq_getElem?_getD, List.getElem?_eq_getElem hjl]; simp only [Option.getD_some]; exact (List.cons.inj hod).1.symm
    have he : (layJ nds num st ups bs j)[x]? = nds[x]? := layJ_ne j fun k hk => by rw [← hxe]; exact getD_nd hu hk hjl
    have hf := h.free x _ (he.symm.trans (List.getElem?_eq_getElem hx)) hu'
    exact ⟨by simp, fun _ => hf.1 j, fun _ => hf.2, fun _ => hfit, .inl rfl, fun hk => by simp at hk⟩
  · intro hu'
    have hup : isUp nds x = true := by rw [← hu', ← layJ_up x j]; exact isUp_at (List.getElem?_eq_getElem hx)
    rw [List.filter_cons_of_pos (by exact hup)] at hod
    have hjl : j < ups.length := by
      have := congrArg List.length hod; simp at this; omega
    rw [List.drop_eq_getElem_cons hjl] at hod
    have hxe : ups.getD j 0 = x := by
      rw [List.getD_eq_getElem?_getD, List.getElem?_eq_getElem hjl]; simp only [Option.getD_some]; exact (List.cons.inj hod).1.symm
    refine ⟨by rw [layJ, hxe], (List.cons.inj hod).2, hjl, ?_⟩
    rw [List.take_add_one, List.getElem?_eq_getElem hjl, (List.cons.inj hod).1]; rfl
  · intro hu'
    have hup : isUp nds x = false := by rw [← hu', ← layJ_up x j]; exact isUp_at (List.getElem?_eq_getElem hx)
    rw [List.filter_cons_of_neg (by simp [hup])] at hod
    exact ⟨callN_dn (List.getElem?_eq_getElem hx) hu', hod⟩
theorem mem_drop1 {od : List Nat} {m : Nat} (h : ∀ x ∈ od, x < m) : ∀ x ∈ od.drop 1, x < m := fun x hx => h x (List.mem_of_mem_drop hx)
theorem filter_nil {od : List Nat} {p : Nat → Bool} {j : Nat} (h : od.filter p = ups.drop j) (h0 : od.length = 0) : ups.length ≤ j := by
  rw [List.length_eq_zero_iff.1 h0] at h
  have := congrArg List.length h; simp at this; omega
end
end Go.Sl
namespace Go.Sl
open Go.Proofs Go.Proofs.Tryz
theorem lay_s {W0 w : World} {L : List Asn} {f : HF} {h : Nat} {p : Hp} (hh : HallP f h p) {n cp : Nat} {nx la : UInt32} {a : Option Addr} {cs : List Value} {obs : List Ob} (hv : Reads f 6 (.slice a n cp) n cs) (ho : ObsR f cs obs) (hn : obs.length = n) {sz NC q m st : Nat} {nds : List Nd} {num : UInt32} {sa ma : Option Addr} {sc mc : Nat} {vs : List Value} {bs : List LB} {now : Int} {mo : List Int} (hsv : Reads f 1 (.slice sa m sc) m vs) (hsr : RR f vs bs) (hbm : bs.length = m) (hmo : mo.length = p.nn) (hgood : ObsG p.n p.nn obs) (hB : ObsB obs) (hnn : p.nn ≤ 19) (hn2 : n ≤ 1000) (hndl : nds.length = p.nn) (hst : st ≤ 1000) (hm : m ≤ 1000) (hq : q + 19 ≤ 1152921504606846976) (hNC : NC ≤ 1000000) (hsz : sz ≤ 60000) (hlay : LayOk sz NC nds num st bs) (hs : Sep W0 w (pool f :: rackA f p.x p.c sz NC q p.nn nds :: row p.t 365 [I (p.n : Int), I (p.nn : Int), U nx, U la, .slice a n cp] :: watchA p.wp p.nn now :: own 3 1 (.slice ma p.nn mc) p.nn (Iv mo) :: L)) : Calls Tryz.prog 219 [ptr h, U num, .int .i64 st, .slice sa m sc, .slice ma p.nn mc].toArray w
 (Ret fun r w' => ∃ (f' : HF) (a' : Option Addr) (cp' : Nat) (ord : List Nat), r = .tuple #[.slice a' (min m (ord.filter (isUp nds)).length) cp', .int .i64 (if m ≤ (ord.filter (isUp nds)).length then 0 else 26)] ∧ FLe f f' ∧ ord.Perm (List.range p.nn) ∧ Reads f' 2 (.slice a' (min m (ord.filter (isUp nds)).length) cp') (min m (ord.filter (isUp nds)).length) (plC ((ord.filter (isUp nds)).take (min m (ord.filter (isUp nds)).length))) ∧
   Sep W0 w' (pool f' :: rackA f' p.x p.c sz NC (q + p.nn) p.nn (layJ nds num st (ord.filter (isUp nds)) bs (min m (ord.filter (isUp nds)).length)) :: row p.t 365 [I (p.n : Int), I (p.nn : Int), U nx, U la, .slice a n cp] :: watchA p.wp p.nn now :: own 3 1 (.slice ma p.nn mc) p.nn (Iv mo) :: L)) := by
 obtain ⟨⟨s5, s6, s8, s9, s10, s11, s12, s13, s14, s15, s20, s22, hh0⟩, hbk, hqp, hbad, hqm, hcode⟩ := id hh
 have hlsr := hsr.len
 refine enter (args := [(ptr h), (.int .u32 (num.toNat : Int)), (I (st : Int)), (.slice sa m sc), (.slice ma p.nn mc)]) (n := 70) (rs := [.tmp 10, .tmp 11]) func219 rfl rfl rfl rfl ?_
 refine rSeq (rReg (oV (xAssign rfl) rfl (oV (xAssign rfl) rfl (oEnd (kSeq (rSeq (rReg (oV (xAssign rfl) rfl (oEnd (kSeq (rSeq (rReg (oV (xMove rfl) rfl (oV (xMove rfl) rfl ?_))))))))))))))
 replace hs := hs.f4
 replace hs := hs.f4
 replace hs := hs.f4
 replace hs := hs.f3
 refine oCall call284 rfl rfl (hleast_s (t := 0) hh hv ho hn hmo hgood hB hnn (by omega) hs) ?_
 rintro _ w7 ⟨f1, oa2, oc3, ord4, rfl, hle5, hp6, hs8⟩; clear hs
 replace hh := hh.mono hle5
 replace hsv := hsv.mono hle5
 replace hsr := hsr.mono hle5
 replace hh0 := hh0.mono hle5
 replace hbk := hbk.mono hle5
 replace hqp := hqp.mono hle5
 replace hv := hv.mono hle5
 replace ho := ho.mono hle5
 refine oV (xAssign rfl) rfl ?_
 replace hs8 := hs8.f1
 obtain ⟨f9, hle10, hv11, hs12⟩ := Sep.freezeOwn (i := 0) hs8 rfl; clear hs8; dsimp only [List.eraseIdx] at hs12
 replace hh := hh.mono hle10
 replace hsv := hsv.mono hle10
 replace hsr := hsr.mono hle10
 replace hh0 := hh0.mono hle10
 replace hbk := hbk.mono hle10
 replace hqp := hqp.mono hle10
 replace hv := hv.mono hle10
 replace ho := ho.mono hle10
 obtain ⟨ups, hups⟩ : ∃ u, u = ord4.filter (isUp nds) := ⟨_, rfl⟩
 have hul : ∀ x ∈ ord4, x < nds.length := by rw [hndl]; exact perm_all hp6 (fun x hx => List.mem_range.1 hx)
 have hund : ups.Nodup := by rw [hups]; exact (hp6.nodup_iff.2 List.nodup_range).filter _
 have holn : ord4.length = p.nn := by rw [hp6.length_eq, List.length_range]
 skip
 replace hs12 := Sep.nil 278 2 hs12
 have hs13 := Sep.imp (i := 5) (A' := rackA f9 p.x p.c sz NC q p.nn nds) rfl (fun h => rackA_mono (FLe.trans hle5 hle10) (Nat.le_refl _) h) hs12; dsimp only [List.set] at hs13; clear hs12
 have hs14 := Sep.imp (i := 5) (A' := rackA f9 p.x p.c sz NC (q + (p.nn - p.nn)) p.nn nds) rfl (fun h => rackA_mono (FLe.refl _) (by omega) h) hs13; dsimp only [List.set] at hs14; clear hs13
 refine oEnd (kSeq (rSeq (rSeq (rReg (oV (xMove rfl) rfl (oV (xB1 rfl (rLenS underlying22)) rfl (oV (xMove rfl) rfl (oEnd (kSeq (rBlk ?_))))))))))
 replace hs14 := hs14.f4
 replace hs14 := hs14.f4
 replace hs14 := hs14.f4
 replace hs14 := hs14.f5
 replace hs14 := hs14.f5
 replace hs14 := hs14.f5
 refine rLoop (fun mz e w => ∃ (j : Nat) (od : List Nat) (k : Nat) (ra : Option Addr) (rc : Nat) (oa : Option Addr) (oc : Nat) (f15 : HF), m - j = mz ∧ e = [(0, (ptr h)), (1, (.int .u32 (num.toNat : Int))), (2, (I (st : Int))), (24, (.slice sa m sc)), (25, (I (m : Int))), (12, (.slice oa j oc)), (13, (.slice ra k rc)), (26, (I (j : Int)))] ∧ (j ≤ m) ∧ (j ≤ ups.length) ∧ (od.filter (isUp nds) = ups.drop j) ∧ (od.length = k) ∧ (k ≤ p.nn) ∧ (∀ x ∈ od, x < nds.length) ∧ (Reads f15 1 (.slice ra k rc) k (Nv od)) ∧ (FLe f9 f15) ∧ (HallP f15 h p) ∧ (Reads f15 1 (.slice sa m sc) m vs) ∧ (RR f15 vs bs) ∧ (Reads f15 6 (.slice a n cp) n cs) ∧ (ObsR f15 cs obs) ∧ Sep W0 w (own 278 2 (.slice oa j oc) j (plC (ups.take j)) :: pool f15 :: rackA f15 p.x p.c sz NC (q + (p.nn - k)) p.nn (layJ nds num st ups bs j) :: row p.t 365 [(I (p.n : Int)), (I (p.nn : Int)), (.int .u32 (nx.toNat : Int)), (.int .u32 (la.toNat : Int)), (.slice a n cp)] :: watchA p.wp p.nn now :: own 3 1 (.slice ma p.nn mc) p.nn (Iv mo) :: L)) ⟨_, _, ⟨0, ord4, _, _, _, _, _, f9, rfl, rfl, (by omega), (by omega), (hups.symm), (holn), (by omega), (hul), (hv11), (FLe.refl _), (hh), (hsv), (hsr), (hv), (ho), hs14⟩, ⟨rfl, rfl, rfl, rfl, rfl, rfl, rfl, rfl, trivial⟩⟩ ?_
 clear hs14; rintro mz e w ⟨j, od, k, ra, rc, oa, oc, f15, rfl, rfl, hj, hju, hod, hk, hkn, hlt, hrv, hle16, hh, hsv, hsr, hv, ho, hs⟩
 refine rSeq (rReg (oV (xCmp rfl rfl rLss) rfl (oEnd (kSeq (rSeq ?_)))))
 refine rCondD rfl (fun hc17 => ?_) (fun hc17 => ?_)
 · refine rSkip (kSeq (rSeq (rBlk (rSeq (rReg (oV (xMove rfl) rfl ?_))))))
   obtain ⟨b18, off19, rfl⟩ := Reads.at hsv (by omega)
   refine oV (xIA (o' := off19 + j) underlying22 sizeOf26 rfl rfl (by omega) (by omega) (by omega)) rfl ?_
   obtain ⟨a20, k21, cp22, he23, hb24⟩ := RR.get hsr j (by omega)
   have hl25 := RB.len hb24
   refine oV (xLoadC isAgg26 rfl (Reads.cell hsv hs (i := 1) rfl he23)) rfl (oV (xAssign rfl) rfl (oV (xAssign rfl) rfl (oEnd (kSeq (rSeq (rReg (oV (xAssign rfl) rfl (oEnd (kSeq (rSeq (rBlk ?_)))))))))))
   refine rLoop (fun mz e w => ∃ (j2 : Nat) (od2 : List Nat) (k2 : Nat) (dn : Bool) (ra2 : Option Addr) (rc2 : Nat) (oa2 : Option Addr) (oc2 : Nat) (f26 : HF), k2 = mz ∧ e = [(0, (ptr h)), (1, (.int .u32 (num.toNat : Int))), (2, (I (st : Int))), (14, (I (j : Int))), (15, (.slice a20 k21 cp22)), (24, (.slice (some ⟨b18, off19, none⟩) m sc)), (25, (I (m : Int))), (26, (I (j : Int))), (12, (.slice oa2 j2 oc2)), (13, (.slice ra2 k2 rc2)), (16, (.bool dn))] ∧ (j2 = j + dn.toNat) ∧ (j2 ≤ ups.length) ∧ (od2.filter (isUp nds) = ups.drop j2) ∧ (od2.length = k2) ∧ (k2 ≤ p.nn) ∧ (∀ x ∈ od2, x < nds.length) ∧ (Reads f26 1 (.slice ra2 k2 rc2) k2 (Nv od2)) ∧ (FLe f15 f26) ∧ (HallP f26 h p) ∧ (Reads f26 1 (.slice (some ⟨b18, off19, none⟩) m sc) m vs) ∧ (RR f26 vs bs) ∧ (RB f26 a20 k21 cp22 (bs.getD j [])) ∧ (Reads f26 6 (.slice a n cp) n cs) ∧ (ObsR f26 cs obs) ∧ Sep W0 w (own 278 2 (.slice oa2 j2 oc2) j2 (plC (ups.take j2)) :: pool f26 :: rackA f26 p.x p.c sz NC (q + (p.nn - k2)) p.nn (layJ nds num st ups bs j2) :: row p.t 365 [(I (p.n : Int)), (I (p.nn : Int)), (.int .u32 (nx.toNat : Int)), (.int .u32 (la.toNat : Int)), (.slice a n cp)] :: watchA p.wp p.nn now :: own 3 1 (.slice ma p.nn mc) p.nn (Iv mo) :: L)) ⟨_, _, ⟨j, od, _, false, _, _, _, _, f15, rfl, rfl, (rfl), (hju), (hod), (hk), (hkn), (hlt), (hrv), (FLe.refl _), (hh), (hsv), (hsr), (hb24), (hv), (ho), hs⟩, ⟨rfl, rfl, rfl, rfl, rfl, rfl, rfl, rfl, rfl, rfl, rfl, trivial⟩⟩ ?_
   clear hs; rintro mz e w ⟨j2, od2, k2, dn, ra2, rc2, oa2, oc2, f26, rfl, rfl, hd2, hju2, hod2, hk2, hkn2, hlt2, hrv2, hle27, hh, hsv, hsr, hb24, hv, ho, hs⟩
   refine rSeq (rSeq (rReg (oV (xMove rfl) rfl (oV (xB1 rfl (rLenS underlying52)) rfl (oV (xCmp rfl rfl rGtr) rfl (oV (xMove rfl) rfl ?_))))))
   refine oCase (d := 34) rfl (fun hg28 => ?_) (fun hg28 => ?_)
   · replace hg28 := of_decide_eq_true hg28
     refine oGuardT rfl rfl (oV (xMove rfl) rfl (oGuardT rfl rfl (oV (xNot rfl) rfl (oV (xPickT rfl rfl) rfl (oEnd (kSeq ?_))))))
     refine rCond rfl (fun hc29 => ?_) (fun hc29 => ?_)
     · obtain rfl : dn = false := by simpa using hc29
       obtain rfl : j = j2 := by simpa using hd2.symm
       obtain ⟨nd, hnd, hcok, hcl, hstu, hstd⟩ := lay_step hlay hund hod2 (by omega) hlt2 (by omega)
       refine rSkip (kSeq (rBlk (rSeq (rReg (oV (xMove rfl) rfl ?_)))))
       obtain ⟨b30, off31, rfl⟩ := Reads.at hrv2 (by omega)
       refine oV (xIA (o' := off31 + 0) underlying52 sizeOf3 rfl rfl (by omega) (by omega) (by omega)) rfl (oV (xLoadC isAgg3 rfl (Reads.cell hrv2 hs (i := 1) rfl (Nv_get (by omega)))) rfl (oV (xAssign rfl) rfl (oEnd (kSeq (rSeq (rReg (oV (xMove rfl) rfl ?_)))))))
       obtain ⟨a32, cp33, hv34, hx35⟩ := Reads.tailN (P := Tryz.prog) (t := 52) hrv2 (by omega) underlying52 sizeOf3
       refine oV (xSlice rfl rfl rfl hx35) rfl (oV (xAssign rfl) rfl (oEnd (kSeq (rSeq (rReg (oV (xMove rfl) rfl (oV (xMove rfl) rfl (oV (xConv underlying3 underlying34 rfl (wIto16 (st : Int))) rfl (oV (xMove rfl) rfl (oV (xConv underlying3 underlying34 rfl (wIto16 (j : Int))) rfl (oV (xBuild (v := (.agg #[(.int .u32 (num.toNat : Int)), (.int .u16 ((UInt16.ofInt (st : Int)).toNat : Int)), (.int .u16 ((UInt16.ofInt (j : Int)).toNat : Int)), (.int .u32 0)])) rfl (fun w => by kernel_rfl)) rfl (oAlloc hs zeroValue280 rfl rfl ?_))))))))))))
       intro b36 w37 hs38; clear hs
       refine oStoreG hs38 sizeOf280 rfl rfl rfl rfl (i := 0) rfl rfl ?_
       intro w39 hs40; clear hs38; dsimp only [List.set, putAt] at hs40
       refine oEnd (kSeq (rSeq (rReg (oV (xMove rfl) rfl (oV (xMove rfl) rfl (oV (xLoadG hs40 isAgg280 sizeOf280 rfl (i := 0) rfl rfl) rfl (oV (xMove rfl) rfl (oV (xBuild (v := (.agg #[(.int .u64 0), (I 2), (.int .u32 (num.toNat : Int)), (.int .u16 ((UInt16.ofInt (st : Int)).toNat : Int)), (.int .u16 ((UInt16.ofInt (j : Int)).toNat : Int)), (.int .u32 0), (.int .u16 0), (.slice a20 k21 cp22)])) rfl (fun w => by kernel_rfl)) rfl ?_))))))))
       replace hs40 := hs40.f3
       replace hs40 := hs40.f3
       refine oCall call223 rfl rfl (hcall_s hh (i := (od2.getD 0 0 : Nat)) (kd := 2) (s := (shN num st j)) (l := (bs.getD j [])) hb24 hnd (by omega) hNC hsz (Nat.le_trans hcl hsz) hcok hs40) ?_
       rintro _ w47 ⟨f41, a42, m43, bc44, rfl, hle45, hb46, hs48⟩; clear hs40; have hl49 := RB.len hb46
       replace hh := hh.mono hle45
       replace hsv := hsv.mono hle45
       replace hsr := hsr.mono hle45
       replace hb24 := hb24.mono hle45
       replace hv := hv.mono hle45
       replace ho := ho.mono hle45
       replace hrv2 := hrv2.mono hle45
       replace hv34 := hv34.mono hle45
       refine oV (xMove rfl) rfl (oV (xExtract rfl rfl) rfl (oV (xExtract rfl rfl) rfl (oV (xAssign rfl) rfl (oV (xAssign rfl) rfl (oEnd (kSeq (rSeq (Run.sub (e' := [(0, (ptr h)), (1, (.int .u32 (num.toNat : Int))), (2, (I (st : Int))), (14, (I (j : Int))), (15, (.slice a20 k21 cp22)), (24, (.slice (some ⟨b18, off19, none⟩) m sc)), (25, (I (m : Int))), (26, (I (j : Int))), (12, (.slice oa2 j oc2)), (13, (.slice a32 (k2 - 1) cp33)), (16, (.bool false)), (17, (I ((od2.getD 0 0 : Nat) : Int))), (20, (I (era nd.up)))]) ⟨rfl, rfl, rfl, rfl, rfl, rfl, rfl, rfl, rfl, rfl, rfl, rfl, rfl, trivial⟩ ?_))))))))
       refine rReg (oV (xMove rfl) rfl (oV (xCmp rfl rfl rEql) rfl (oEnd (kSeq ?_))))
       refine rCondD rfl (fun hc50 => ?_) (fun hc50 => ?_)
       · have hup := era_up hc50; have hst := hstu hup; rw [← hst.1] at hs48
         refine rSeq (rReg (oV (xMove rfl) rfl (oV (xMove rfl) rfl (oV (xBuild (v := (.agg #[(I ((od2.getD 0 0 : Nat) : Int)), (.int .u32 0)])) rfl (fun w => by kernel_rfl)) rfl (oBuildSlice (el := 278) (cs := [(I ((od2.getD 0 0 : Nat) : Int)), (.int .u32 0)]) hs48 rfl (fun w => by kernel_rfl) rfl ?_)))))
         intro b51 w52 hs53; clear hs48
         refine oAppend (inf := Tryz.t278) (size := 2) (bytes := 16) hs53 (i := 4) rfl underlying276 (by kernel_rfl) rfl rfl rfl rfl rfl rfl rfl (src_row hs53 (i := 0) rfl rfl rfl) (by first | omega | (simp only [List.length_append, List.length_cons, List.length_nil, List.length_map]; omega)) (by first | omega | (simp only [List.length_append, List.length_cons, List.length_nil, List.length_map]; omega)) rfl ?_
         intro a54 c55 w56 hs57; clear hs53; dsimp only [List.set] at hs57
         refine oV (xAssign rfl) rfl ?_
         rw [plC_app, hst.2.2.2] at hs57
         refine oEnd (kSeq (rReg (oV (xAssign rfl) rfl ?_)))
         have hs58 := Sep.imp (i := 2) (A' := rackA f41 p.x p.c sz NC (q + (p.nn - (k2 - 1))) p.nn (layJ nds num st ups bs (j + 1))) rfl (fun h => rackA_mono (FLe.refl _) (by omega) h) hs57; dsimp only [List.set] at hs58; clear hs57
         replace hs58 := hs58.d3
         replace hs58 := hs58.d0
         replace hs58 := hs58.f5
         replace hs58 := hs58.f5
         replace hs58 := hs58.f5
         replace hs58 := hs58.f4
         replace hs58 := hs58.f4
         replace hs58 := hs58.f5
         exact oEnd (kBlk (kLoop (k2 - 1) _ (by omega) ⟨j + 1, (od2.drop 1), _, true, _, _, _, _, f41, rfl, rfl, (rfl), (hst.2.2.1), (hst.2.1), (by rw [List.length_drop, hk2]), (by omega), (mem_drop1 hlt2), (hv34), (FLe.trans hle27 hle45), (hh), (hsv), (hsr), (hb24), (hv), (ho), hs58⟩ ⟨rfl, rfl, rfl, rfl, rfl, rfl, rfl, rfl, rfl, rfl, rfl, trivial⟩))
       · have hup := era_dn hc50; have hst := hstd hup; rw [hst.1] at hs48
         have hs59 := Sep.imp (i := 1) (A' := rackA f41 p.x p.c sz NC (q + (p.nn - (k2 - 1))) p.nn (layJ nds num st ups bs j)) rfl (fun h => rackA_mono (FLe.refl _) (by omega) h) hs48; dsimp only [List.set] at hs59; clear hs48
         replace hs59 := hs59.d2
         replace hs59 := hs59.f5
         replace hs59 := hs59.f5
         replace hs59 := hs59.f5
         replace hs59 := hs59.f4
         replace hs59 := hs59.f4
         replace hs59 := hs59.f5
         exact rSkip (kBlk (kLoop (k2 - 1) _ (by omega) ⟨j, (od2.drop 1), _, false, _, _, _, _, f41, rfl, rfl, (rfl), (hju2), (hst.2), (by rw [List.length_drop, hk2]), (by omega), (mem_drop1 hlt2), (hv34), (FLe.trans hle27 hle45), (hh), (hsv), (hsr), (hb24), (hv), (ho), hs59⟩ ⟨rfl, rfl, rfl, rfl, rfl, rfl, rfl, rfl, rfl, rfl, rfl, trivial⟩))
     · refine rExit (kSeqX (kLoopX (kBlkH (kSeq (rSeq (rReg (oV (xMove rfl) rfl (oV (xNot rfl) rfl (oEnd (kSeq ?_))))))))))
       refine rCond rfl (fun hc60 => ?_) (fun hc60 => ?_)
       · exact absurd hc60 (by rw [hc29]; simp)
       · obtain rfl : dn = true := by simpa using hc60
         obtain rfl : j2 = j + 1 := hd2
         refine rSkip (kBlk (kSeq (rReg (oV (xAr rfl rfl (rAdd (wI (by omega) (by omega)))) rfl (oV (xMove rfl) rfl ?_)))))
         exact oEnd (kLoop (m - (j + 1)) _ (by omega) ⟨j + 1, od2, _, _, _, _, _, f26, rfl, rfl, (by omega), (hju2), (hod2), (hk2), (hkn2), (hlt2), (hrv2), (FLe.trans hle16 hle27), (hh), (hsv), (hsr), (hv), (ho), hs⟩ ⟨rfl, rfl, rfl, rfl, rfl, rfl, rfl, rfl, trivial⟩)
   · replace hg28 := of_decide_eq_false hg28
     refine oGuardF rfl rfl rfl rfl (oGuardF rfl rfl rfl rfl (oV (xPickF rfl rfl) rfl (oEnd (kSeq (rCondF rfl (rExit (kSeqX (kLoopX (kBlkH (kSeq (rSeq (rReg (oV (xMove rfl) rfl (oV (xNot rfl) rfl (oEnd (kSeq ?_))))))))))))))))
     refine rCond rfl (fun hc61 => ?_) (fun hc61 => ?_)
     · obtain rfl : dn = false := by simpa using hc61
       obtain rfl : j = j2 := by simpa using hd2.symm
       refine rSeq (rReg (oV (xMove rfl) rfl (oV (xAssign rfl) rfl (oV (xAssign rfl) rfl (oEnd (kSeq (rRet (kBlkR (kSeqR (kLoopR (kBlkR (kSeqR (kFin (.tmp rfl (.tmp rfl (.nil))) ?_)))))))))))))
       have hjm : j = ups.length := by have := filter_nil hod2 (by omega); simp only [Bool.toNat_false, Nat.add_zero] at hd2; omega
       replace hs := hs.f1
       obtain ⟨f62, hle63, hv64, hs65⟩ := Sep.freezeOwn (i := 0) hs rfl; clear hs; dsimp only [List.eraseIdx] at hs65
       replace hh := hh.mono hle63
       replace hsv := hsv.mono hle63
       replace hsr := hsr.mono hle63
       replace hb24 := hb24.mono hle63
       replace hv := hv.mono hle63
       replace ho := ho.mono hle63
       replace hrv2 := hrv2.mono hle63
       have hs66 := Sep.imp (i := 1) (A' := rackA f62 p.x p.c sz NC (q + (p.nn - k2)) p.nn (layJ nds num st ups bs j)) rfl (fun h => rackA_mono hle63 (Nat.le_refl _) h) hs65; dsimp only [List.set] at hs66; clear hs65
       have hs67 := Sep.imp (i := 1) (A' := rackA f62 p.x p.c sz NC (q + p.nn) p.nn (layJ nds num st ups bs j)) rfl (fun h => rackA_mono (FLe.refl _) (by omega) h) hs66; dsimp only [List.set] at hs67
       have hc : j = min m ups.length := by omega
       rw [hc] at hv64 hs67
       subst hups
       exact ⟨_, _, _, ord4, by rw [if_neg (by omega), ← hc]; rfl, (FLe.trans hle5 (FLe.trans hle10 (FLe.trans hle16 (FLe.trans hle27 hle63)))), hp6, hv64, hs67⟩
     · obtain rfl : dn = true := by simpa using hc61
       obtain rfl : j2 = j + 1 := hd2
       refine rSkip (kBlk (kSeq (rReg (oV (xAr rfl rfl (rAdd (wI (by omega) (by omega)))) rfl (oV (xMove rfl) rfl ?_)))))
       exact oEnd (kLoop (m - (j + 1)) _ (by omega) ⟨j + 1, od2, _, _, _, _, _, f26, rfl, rfl, (by omega), (hju2), (hod2), (hk2), (hkn2), (hlt2), (hrv2), (FLe.trans hle16 hle27), (hh), (hsv), (hsr), (hv), (ho), hs⟩ ⟨rfl, rfl, rfl, rfl, rfl, rfl, rfl, rfl, trivial⟩)
 · refine rExit (kSeqX (kLoopX (kBlkH (kSeq (rSeq (rReg (oV (xMove rfl) rfl (oV (xAssign rfl) rfl (oV (xAssign rfl) rfl (oEnd (kSeq (rRet (kFin (.tmp rfl (.tmp rfl (.nil))) ?_)))))))))))))
   replace hs := hs.f1
   obtain ⟨f68, hle69, hv70, hs71⟩ := Sep.freezeOwn (i := 0) hs rfl; clear hs; dsimp only [List.eraseIdx] at hs71
   replace hh := hh.mono hle69
   replace hsv := hsv.mono hle69
   replace hsr := hsr.mono hle69
   replace hv := hv.mono hle69
   replace ho := ho.mono hle69
   replace hrv := hrv.mono hle69
   have hs72 := Sep.imp (i := 1) (A' := rackA f68 p.x p.c sz NC (q + (p.nn - k)) p.nn (layJ nds num st ups bs j)) rfl (fun h => rackA_mono hle69 (Nat.le_refl _) h) hs71; dsimp only [List.set] at hs72; clear hs71
   have hs73 := Sep.imp (i := 1) (A' := rackA f68 p.x p.c sz NC (q + p.nn) p.nn (layJ nds num st ups bs j)) rfl (fun h => rackA_mono (FLe.refl _) (by omega) h) hs72; dsimp only [List.set] at hs73
   have hc : j = min m ups.length := by omega
   rw [hc] at hv70 hs73
   subst hups
   exact ⟨_, _, _, ord4, by rw [if_pos (by omega), ← hc]; rfl, (FLe.trans hle5 (FLe.trans hle10 (FLe.trans hle16 hle69))), hp6, hv70, hs73⟩
end Go.Sl
namespace Go.Sl
open Go.Proofs
theorem mget_plus {α β : Type} [DecidableEq α] {es xs : List (α × β)} {k : α} : mget (es ++ xs) k = match mget es k with | some v => some v | none => mget xs k := by
  unfold mget
  rw [List.find?_append]
  cases es.find? (fun p => decide (p.1 = k)) <;> rfl
theorem mget_one {α β : Type} [DecidableEq α] {k k' : α} {v : β} : mget [(k', v)] k = if k' = k then some v else none := by
  unfold mget; by_cases h : k' = k <;> simp [List.find?, h]
def look (nds : List Nd) (i : Nat) (s : Sh) : Option LB := nds[i]?.bind (fun nd => mget nd.ks s)
def kcnt (nds : List Nd) (i : Nat) : Nat := (nds[i]?.map (fun nd => nd.ks.length)).getD 0
section
variable {nds : List Nd} {num : UInt32} {st : Nat} {pl : List Nat} {bs : List LB}
theorem callN_look {i j : Nat} {s s' : Sh} {l : LB} : look (callN nds i 2 s l) j s' = match look nds j s' with | some v => some v | none => if i = j ∧ isUp nds i = true ∧ s = s' then some l else none := by
  unfold look
  by_cases hij : i = j
  · subst hij
    cases hn : nds[i]? with
    | none => unfold callN; rw [hn]; simp only [hn]; simp [isUp, hn]
    | some nd =>
      rw [callN_at hn]
      simp only [Option.bind_some]
      cases hu : nd.up with
      | false =>
        simp only [Bool.false_eq_true, if_false, isUp_at hn, hu, false_and, and_false]
        cases mget nd.ks s' <;> rfl
      | true =>
        simp only [if_true, doKs, mget_plus, mget_one, isUp_at hn, hu, true_and]
        cases mget nd.ks s' <;> rfl
  · rw [callN_ne hij]
    simp only [hij, false_and, if_false]
    cases nds[j]?.bind _ <;> rfl
theorem callN_kcnt {i j : Nat} {s : Sh} {l : LB} : kcnt (callN nds i 2 s l) j ≤ kcnt nds j + 1 := by
  unfold kcnt
  by_cases hij : i = j
  · subst hij
    cases hn : nds[i]? with
    | none => unfold callN; rw [hn]; simp [hn]
    | some nd =>
      rw [callN_at hn]; split <;> simp [doKs]
  · rw [callN_ne hij]; omega
theorem layJ_some {i : Nat} {s : Sh} {v : LB} : ∀ j, look nds i s = some v → look (layJ nds num st pl bs j) i s = some v
  | 0, h => h
  | j + 1, h => by rw [layJ, callN_look, layJ_some j h]
theorem layJ_none {i : Nat} {s : Sh} : ∀ j, (∀ sl, s ≠ shN num st sl) → look nds i s = none → look (layJ nds num st pl bs j) i s = none
  | 0, _, h => h
  | j + 1, hn, h => by rw [layJ, callN_look, layJ_none j hn h]; simp [Ne.symm (hn j)]
theorem layJ_kcnt {i : Nat} : ∀ j, kcnt (layJ nds num st pl bs j) i ≤ kcnt nds i + j
  | 0 => Nat.le_refl _
  | j + 1 => by
    have h1 := layJ_kcnt (i := i) j
    have h2 := callN_kcnt (nds := layJ nds num st pl bs j) (i := pl.getD j 0) (j := i) (s := shN num st j) (l := bs.getD j [])
    rw [layJ]; omega
theorem layJ_at (hup : ∀ i ∈ pl, isUp nds i = true) (hnd : pl.Nodup) (hfree : ∀ i sl : Nat, i ∈ pl → look nds i (shN num st sl) = none) : ∀ j, j ≤ pl.length → ∀ i, i < j → look (layJ nds num st pl bs j) (pl.getD i 0) (shN num st i) = some (bs.getD i [])
  | 0, _, i, hi => by omega
  | j + 1, hj, i, hi => by
    rw [layJ, callN_look]
    by_cases he : i = j
    · subst he
      have hm : pl.getD i 0 ∈ pl := by rw [List.getD_eq_getElem?_getD, List.getElem?_eq_getElem (show i < pl.length by omega)]; exact List.getElem_mem _
      have h0 : look (layJ nds num st pl bs i) (pl.getD i 0) (shN num st i) = none := by
        unfold look
        rw [layJ_ne i fun k hk => getD_nd hnd hk (by omega)]
        exact hfree _ i hm
      rw [h0]; simp only [layJ_up, hup _ hm, and_self, true_and, if_true]
    · rw [layJ_at hup hnd hfree j (by omega) i (by omega)]
def putS (nds : List Nd) (num : UInt32) (m : Nat) (pls : List (List Nat)) (bss : List (List LB)) : Nat → List Nd
  | 0 => nds
  | i + 1 => layJ (putS nds num m pls bss i) num i (pls.getD i []) (bss.getD i []) m
end
section
variable {nds : List Nd} {num : UInt32} {m : Nat} {pls : List (List Nat)} {bss : List (List LB)}
theorem putS_length : ∀ i, (putS nds num m pls bss i).length = nds.length
  | 0 => rfl
  | i + 1 => by rw [putS, layJ_length, putS_length i]
theorem putS_up (j : Nat) : ∀ i, isUp (putS nds num m pls bss i) j = isUp nds j
  | 0 => rfl
  | i + 1 => by rw [putS, layJ_up, putS_up j i]
theorem putS_upf (i : Nat) : isUp (putS nds num m pls bss i) = isUp nds := funext fun j => putS_up j i
theorem putS_none {j : Nat} {s : Sh} : ∀ i, (∀ st sl, st < i → s ≠ shN num st sl) → look nds j s = none → look (putS nds num m pls bss i) j s = none
  | 0, _, h => h
  | i + 1, hn, h => layJ_none _ (fun sl => hn i sl (by omega)) (putS_none i (fun st sl h => hn st sl (by omega)) h)
theorem putS_kcnt {j : Nat} : ∀ i, kcnt (putS nds num m pls bss i) j ≤ kcnt nds j + i * m
  | 0 => by simp [putS]
  | i + 1 => by
    have h1 := putS_kcnt (j := j) i
    have h2 := layJ_kcnt (nds := putS nds num m pls bss i) (num := num) (st := i) (pl := pls.getD i []) (bs := bss.getD i []) (i := j) m
    rw [putS, Nat.succ_mul]; omega
theorem putS_snoc {pl : List Nat} : ∀ i, i ≤ pls.length → putS nds num m (pls ++ [pl]) bss i = putS nds num m pls bss i
  | 0, _ => rfl
  | i + 1, h => by
    rw [putS, putS, putS_snoc i (by omega)]
    rw [show (pls ++ [pl]).getD i [] = pls.getD i [] by rw [List.getD_eq_getElem?_getD, List.getElem?_append_left (by omega), ← List.getD_eq_getElem?_getD]]
theorem putS_next {pl : List Nat} {i : Nat} (h : pls.length = i) : layJ (putS nds num m pls bss i) num i pl (bss.getD i []) m = putS nds num m (pls ++ [pl]) bss (i + 1) := by
  rw [putS, putS_snoc i (by omega)]
  rw [show (pls ++ [pl]).getD i [] = pl by rw [List.getD_eq_getElem?_getD, List.getElem?_append_right (by omega), h]; simp]
structure PutOk (sz NC m cnt : Nat) (nds : List Nd) (num : UInt32) (bss : List (List LB)) : Prop where
  free : ∀ (i : Nat) (st sl : Nat), look nds i (shN num st sl) = none
  room : ∀ i, kcnt nds i + cnt * m < NC
  fit : ∀ bs ∈ bss, bs.length = m ∧ ∀ b ∈ bs, 24 + b.length ≤ sz
  len : bss.length = cnt
  small : cnt ≤ 1000
theorem PutOk.bs {sz NC cnt i : Nat} (h : PutOk sz NC m cnt nds num bss) (hi : i < cnt) : (bss.getD i []).length = m ∧ ∀ b ∈ bss.getD i [], 24 + b.length ≤ sz := by
  have h1 := h.len
  rw [List.getD_eq_getElem?_getD, List.getElem?_eq_getElem (by omega)]; exact h.fit _ (List.getElem_mem _)
theorem shN_st {st st' sl sl' : Nat} (h1 : st < 65536) (h2 : st' < 65536) (hne : st ≠ st') : shN num st sl ≠ shN num st' sl' := by
  intro h
  have e : ∀ {a b : Nat}, a < 65536 → b < 65536 → UInt16.ofInt (a : Int) = UInt16.ofInt (b : Int) → a = b := by
    intro a b ha hb he
    have := congrArg UInt16.toNat he
    simp [UInt16.ofInt] at this
    omega
  simp only [shN, Sh.mk.injEq] at h
  exact hne (e h1 h2 h.2.1)
theorem PutOk.lay {sz NC cnt i : Nat} (h : PutOk sz NC m cnt nds num bss) (hi : i < cnt) : LayOk sz NC (putS nds num m pls bss i) num i (bss.getD i []) where
  free := fun j nd hj _ => by
    have h3 := h.small
    refine ⟨fun sl => ?_, ?_⟩
    · have h1 : look (putS nds num m pls bss i) j (shN num i sl) = none := putS_none i (fun st sl' hst => shN_st (by omega) (by omega) (by omega)) (h.free _ _ _)
      unfold look at h1; rw [hj] at h1; exact h1
    · have h1 := putS_kcnt (nds := nds) (num := num) (m := m) (pls := pls) (bss := bss) (j := j) i
      have h2 := h.room j
      have h4 : i * m ≤ cnt * m := Nat.mul_le_mul_right _ (by omega)
      have h5 : kcnt (putS nds num m pls bss i) j = nd.ks.length := by unfold kcnt; rw [hj]; rfl
      omega
  fit := (h.bs hi).2
theorem putS_at {sz NC cnt nn : Nat} (h : PutOk sz NC m cnt nds num bss) (hpl : ∀ l ∈ pls, PlOk m nn l ∧ ∀ i ∈ l, isUp nds i = true) (hlen : pls.length = cnt) : ∀ c, c ≤ cnt → ∀ i, i < c → ∀ j, j < m → look (putS nds num m pls bss c) ((pls.getD i []).getD j 0) (shN num i j) = some ((bss.getD i []).getD j [])
  | 0, _, i, hi, _, _ => by omega
  | c + 1, hc, i, hi, j, hj => by
    have h3 := h.small
    by_cases he : i = c
    · subst he
      have hm : pls.getD i [] ∈ pls := by rw [List.getD_eq_getElem?_getD, List.getElem?_eq_getElem (show i < pls.length by omega)]; exact List.getElem_mem _
      obtain ⟨h1, h2⟩ := hpl _ hm
      rw [putS]
      refine layJ_at (fun x hx => by rw [putS_up]; exact h2 x hx) h1.nd (fun x sl _ => putS_none i (fun st sl' hst => shN_st (by omega) (by omega) (by omega)) (h.free _ _ _)) m (by rw [h1.len]; exact Nat.le_refl _) j hj
    · exact layJ_some _ (putS_at h hpl hlen c (by omega) i (by omega) j hj)
end
end Go.Sl
namespace Go.Sl
open Go.Proofs Go.Proofs.Tryz
theorem range_up {nds : List Nd} {ord : List Nat} {nn : Nat} (hp : ord.Perm (List.range nn)) : (ord.filter (isUp nds)).length = ((List.range nn).filter (isUp nds)).length := (hp.filter _).length_eq
theorem layJ_take {nds : List Nd} {num : UInt32} {st m : Nat} {ups : List Nat} {bs : List LB} : ∀ j, j ≤ m → layJ nds num st (ups.take m) bs j = layJ nds num st ups bs j
 | 0, _ => rfl
 | j + 1, h => by
   rw [layJ, layJ, layJ_take j (by omega)]
   rw [show (ups.take m).getD j 0 = ups.getD j 0 by rw [List.getD_eq_getElem?_getD, List.getD_eq_getElem?_getD, List.getElem?_take, if_pos (by omega)]]
theorem lay1_s {W0 w : World} {L : List Asn} {f : HF} {h : Nat} {p : Hp} (hh : HallP f h p) {n cp : Nat} {nx la : UInt32} {a : Option Addr} {cs : List Value} {obs : List Ob} (hv : Reads f 6 (.slice a n cp) n cs) (ho : ObsR f cs obs) (hn : obs.length = n) {sz NC q st : Nat} {nds : List Nd} {num : UInt32} {sa ma : Option Addr} {sc mc : Nat} {vs : List Value} {bs : List LB} {now : Int} {mo : List Int} (hsv : Reads f 1 (.slice sa p.n sc) p.n vs) (hsr : RR f vs bs) (hbm : bs.length = p.n) (hmo : mo.length = p.nn) (hgood : ObsG p.n p.nn obs) (hB : ObsB obs) (hnn : p.nn ≤ 19) (hn2 : n ≤ 1000) (hndl : nds.length = p.nn) (hst : st ≤ 1000) (hm : p.n ≤ 1000) (hq : q + 19 ≤ 1152921504606846976) (hNC : NC ≤ 1000000) (hsz : sz ≤ 60000) (hlay : LayOk sz NC nds num st bs) (hup : p.n ≤ ((List.range p.nn).filter (isUp nds)).length) (hs : Sep W0 w (pool f :: rackA f p.x p.c sz NC q p.nn nds :: row p.t 365 [I (p.n : Int), I (p.nn : Int), U nx, U la, .slice a n cp] :: watchA p.wp p.nn now :: own 3 1 (.slice ma p.nn mc) p.nn (Iv mo) :: L)) : Calls Tryz.prog 219 [ptr h, U num, .int .i64 st, .slice sa p.n sc, .slice ma p.nn mc].toArray w
 (Ret fun r w' => ∃ (f' : HF) (a' : Option Addr) (cp' : Nat) (pl : List Nat), r = .tuple #[.slice a' pl.length cp', .int .i64 0] ∧ FLe f f' ∧ PlOk p.n p.nn pl ∧ (∀ i ∈ pl, isUp nds i = true) ∧ Reads f' 2 (.slice a' pl.length cp') pl.length (plC pl) ∧
   Sep W0 w' (pool f' :: rackA f' p.x p.c sz NC (q + p.nn) p.nn (layJ nds num st pl bs p.n) :: row p.t 365 [I (p.n : Int), I (p.nn : Int), U nx, U la, .slice a n cp] :: watchA p.wp p.nn now :: own 3 1 (.slice ma p.nn mc) p.nn (Iv mo) :: L)) := by
 refine (lay_s hh hv ho hn hsv hsr hbm hmo hgood hB hnn hn2 hndl hst hm hq hNC hsz hlay hs).mono ?_
 rintro e' w' ⟨v, rfl, f', a', cp', ord, rfl, h1, h2, h3, h4⟩
 have hle : p.n ≤ (ord.filter (isUp nds)).length := by rw [range_up h2]; exact hup
 have hmin : min p.n (ord.filter (isUp nds)).length = p.n := Nat.min_eq_left hle
 have hlen : ((ord.filter (isUp nds)).take p.n).length = p.n := by rw [List.length_take, hmin]
 rw [hmin] at h3 h4
 rw [hmin, if_pos hle]
 refine ⟨_, rfl, f', a', cp', (ord.filter (isUp nds)).take p.n, by rw [hlen], h1, ⟨hlen, ?_, ?_⟩, ?_, ?_, ?_⟩
 · exact ((h2.nodup_iff.2 List.nodup_range).filter _).sublist (List.take_sublist _ _)
 · exact fun x hx => List.mem_range.1 (h2.mem_iff.1 ((List.mem_filter.1 (List.mem_of_mem_take hx)).1))
 · exact fun x hx => (List.mem_filter.1 (List.mem_of_mem_take hx)).2
 · rw [hlen]; exact h3
 · rw [layJ_take _ (Nat.le_refl _)]; exact h4
theorem hspread_s {W0 w : World} {L : List Asn} {f : HF} {p n k : Nat} (hc : CodeP f p n k) {a : Option Addr} {m cp : Nat} {l : List UInt8} (hb2 : RB f a m cp l) {piece cnt pc : Nat} {bss : List (List LB)} (hp1 : 1 ≤ piece) (hp2 : piece ≤ 256) (hm : m ≤ 16384) (e1 : planCnt k piece m = cnt) (e2 : planPc k piece m = pc) (e3 : encsUp n k l (k * (k - 1) * pc) cnt = bss) (hcnt : cnt ≤ 32) (hs : Sep W0 w (pool f :: L)) :
 Calls Tryz.prog 214 [ptr p, .int .i64 piece, .slice a m cp].toArray w (Ret fun r w' => ∃ f' a' c' vs, r = .tuple #[.agg #[I (m : Int), I (cnt : Int), I (pc : Int)], .slice a' cnt c', .int .i64 0] ∧ FLe f f' ∧ Reads f' 1 (.slice a' cnt c') cnt vs ∧ RRR f' vs bss ∧ Sep W0 w' (pool f' :: L)) := by
 subst e1 e2 e3; exact pspread_s hc hb2 piece hp1 hp2 hm hcnt hs
theorem rlenA_s {W0 w : World} {L : List Asn} {f : HF} {x c sz NC q n : Nat} {nds : List Nd} (hs : Sep W0 w (rackA f x c sz NC q n nds :: L)) : Calls Tryz.prog 218 [ptr x].toArray w (Ret fun r w' => r = I (n : Int) ∧ Sep W0 w' (rackA f x c sz NC q n nds :: L)) := by
 obtain ⟨la, cp, nm, cl, h1, h2, hs⟩ := rackA_open hs
 refine (rlen_s hs).mono ?_
 rintro e' w' ⟨v, rfl, rfl, h⟩
 exact ⟨_, rfl, rfl, rackA_shut h1 h2 h⟩
theorem pls_snoc {pls : List (List Nat)} {pl : List Nat} {ns nn : Nat} {nds : List Nd} (h : ∀ l ∈ pls, PlOk ns nn l ∧ ∀ j ∈ l, isUp nds j = true) (h1 : PlOk ns nn pl) (h2 : ∀ j ∈ pl, isUp nds j = true) : ∀ l ∈ pls ++ [pl], PlOk ns nn l ∧ ∀ j ∈ l, isUp nds j = true := by
 intro l hl
 rcases List.mem_append.1 hl with h3 | h3
 · exact h l h3
 · rw [List.mem_singleton.1 h3]; exact ⟨h1, h2⟩
theorem sput_s {W0 w : World} {L : List Asn} {f : HF} {h : Nat} {p : Hp} (hh : HallP f h p) {n cp : Nat} {nx la : UInt32} {a : Option Addr} {cs : List Value} {obs : List Ob} (hv : Reads f 6 (.slice a n cp) n cs) (ho : ObsR f cs obs) (hn : obs.length = n) {sz NC q m dm tm most cnt pc : Nat} {nds : List Nd} {da : Option Addr} {dc : Nat} {l : LB} {c : UInt8} {now : Int} {bss : List (List LB)} (hdb : RB f da m dc l) (hp1 : 1 ≤ p.piece) (hp2 : p.piece ≤ 256) (hlen2 : m ≤ 16384) (hcn : planCnt p.k p.piece m = cnt) (hpc : planPc p.k p.piece m = pc) (hbss : encsUp p.n p.k l (p.k * (p.k - 1) * pc) cnt = bss) (hcn32 : cnt ≤ 32) (hpc1 : 1 ≤ pc) (hpc2 : pc ≤ 256)
 (hput : PutOk sz NC p.n cnt nds nx bss) (hups : p.n ≤ ((List.range p.nn).filter (isUp nds)).length) (hndl : nds.length = p.nn) (hgood : ObsG p.n p.nn obs) (hB : ObsB obs) (hnn : p.nn ≤ 19) (hn2 : n < 64) (hns : p.n ≤ 24) (hq : q + 10000 ≤ 1152921504606846976) (hNC : NC ≤ 1000000) (hsz : sz ≤ 60000) (hnx : nx.toNat < 4294967295) (hla : la.toNat < nx.toNat) (hc1 : 32 < c.toNat) (hc2 : c.toNat ≤ 126) (hsort : SortO obs) (hend : ∀ x ∈ obs, x.nm < c) (hnum : ∀ x ∈ obs, x.num ≠ nx) (hm : dm ≤ 99998) (hfit : tm + 12000 ≤ most) (hmost : most ≤ 1073741824)
 (hs : Sep W0 w (pool f :: rackA f p.x p.c sz NC q p.nn nds :: row p.t 365 [I (p.n : Int), I (p.nn : Int), U nx, U la, .slice a n cp] :: watchA p.wp p.nn now :: diaryA p.d p.tp dm :: tapeA p.tp tm most :: L)) : Calls Tryz.prog 150 [ptr h, nmS c, .slice da m dc].toArray w
 (Ret fun r w' => ∃ (f' : HF) (tm' : Nat) (a' : Option Addr) (cp' : Nat) (cs' : List Value) (pls : List (List Nat)), r = .int .i64 0 ∧ FLe f f' ∧ tm' ≤ tm + 10040 ∧ pls.length = cnt ∧ (∀ l ∈ pls, PlOk p.n p.nn l ∧ ∀ j ∈ l, isUp nds j = true) ∧ Reads f' 6 (.slice a' (n + 1) cp') (n + 1) cs' ∧ ObsR f' cs' (obs ++ [⟨nx, c, m, pls.length, pc, pls⟩]) ∧
   Sep W0 w' (pool f' :: rackA f' p.x p.c sz NC (q + pls.length * p.nn) p.nn (putS nds nx p.n pls bss pls.length) :: row p.t 365 [I (p.n : Int), I (p.nn : Int), U (nx + 1), U nx, .slice a' (n + 1) cp'] :: watchA p.wp p.nn now :: diaryA p.d p.tp (dm + 1 + 1) :: tapeA p.tp tm' most :: L)) := by
 obtain ⟨⟨s5, s6, s8, s9, s10, s11, s12, s13, s14, s15, s20, s22, hh0⟩, hbk, hqp, hbad, hqm, hcode⟩ := id hh
 have hbl2 := hput.len
 have hno : ∀ x ∈ obs, x.nm ≠ c := fun x hx => UInt8.ne_of_lt (hend x hx)
 have hnx1 : (nx + 1).toNat = nx.toNat + 1 := by rw [UInt32.toNat_add]; simp; omega
 have hqb : ∀ i, i < cnt → i * p.nn ≤ 608 := fun i hi => by have : i * p.nn ≤ 32 * 19 := Nat.mul_le_mul (by omega) (by omega); omega
 refine enter (args := [(ptr h), (.string ⟨#[c]⟩), (.slice da m dc)]) (n := 127) (rs := [.tmp 6]) func150 rfl rfl rfl rfl ?_
 refine rSeq (rReg (oV (xAssign rfl) rfl (oEnd (kSeq (rSeq (rSeq (rReg (oV (xMove rfl) rfl (oV (xBin (r := .bool false) rfl rfl (fun _ => rfl) (fun w => by kernel_rfl)) rfl (oEnd (kSeq (rCondF rfl (rSkip (kSeq (rSeq (rReg (oV (xMove rfl) rfl (oCall call143 rfl rfl (htable_s hh hs) ?_))))))))))))))))))
 rintro _ w1 ⟨rfl, hs2⟩; clear hs
 refine oV (xAssign rfl) rfl (oEnd (kSeq (rSeq (rReg (oV (xMove rfl) rfl (oV (xMove rfl) rfl ?_))))))
 replace hs2 := hs2.f2
 replace hs2 := hs2.f1
 refine oCall call144 rfl rfl (tfindno_s hv ho hn hsort (by omega) hno hs2) ?_
 rintro _ w3 ⟨rfl, hs4⟩; clear hs2
 refine oV (xMove rfl) rfl (oV (xExtract rfl rfl) rfl (oV (xExtract rfl rfl) rfl (oAlloc hs4 zeroValue273 rfl rfl ?_)))
 intro b5 w6 hs7; clear hs4
 refine oStoreG hs7 sizeOf273 rfl rfl rfl rfl (i := 0) rfl rfl ?_
 intro w8 hs9; clear hs7; dsimp only [List.set, putAt] at hs9
 refine oV (xAssign rfl) rfl (oEnd (kSeq (rSeq (rBlk (rSeq (rReg (oV (xMove rfl) rfl (oCall call212 rfl rfl (rname_s hc1 hc2 hs9) ?_))))))))
 rintro _ w10 ⟨rfl, hs11⟩; clear hs9
 refine oV (xNot rfl) rfl (oV (xAssign rfl) rfl (oEnd (kSeq (rCondF rfl (rSeq (rReg (oV (xMove rfl) rfl (oV (xAssign rfl) rfl (oEnd (kSeq (rCondF rfl (rSeq (rReg (oV (xMove rfl) rfl ?_))))))))))))))
 replace hs11 := hs11.f2
 refine oCall call213 rfl rfl (tlen_s hs11) ?_
 rintro _ w12 ⟨rfl, hs13⟩; clear hs11
 refine oV (xCmp (r := false) rfl rfl (bF (by omega) rGeq)) rfl (oV (xAssign rfl) rfl (oEnd (kSeq (rCondF rfl (rSkip (kBlk (kSeq ?_)))))))
 refine rCut' (fun e w => ∃ (f2 : HF) (sa : Option Addr) (sc : Nat) (vs : List Value) (bp : Nat), e = [(0, (ptr h)), (1, (.string ⟨#[c]⟩)), (6, (I 0)), (7, (ptr p.t)), (10, (ptr bp)), (11, (.slice sa cnt sc)), (12, (I 0))] ∧ (FLe f f2) ∧ (Reads f2 1 (.slice sa cnt sc) cnt vs) ∧ (RRR f2 vs bss) ∧ Sep W0 w (row bp 270 [(I (m : Int)), (I (cnt : Int)), (I (pc : Int))] :: pool f2 :: rackA f2 p.x p.c sz NC q p.nn nds :: row p.t 365 [(I (p.n : Int)), (I (p.nn : Int)), (.int .u32 (nx.toNat : Int)), (.int .u32 (la.toNat : Int)), (.slice a n cp)] :: watchA p.wp p.nn now :: diaryA p.d p.tp dm :: tapeA p.tp tm most :: L)) ?_ ?_
 · refine rRegG [(none, fun w => ∃ M, Sep W0 w (pool f :: M))] (by kernel_rfl) hs13 (fun w14 hs15 => ⟨?_, fun hS => ?_⟩)
   · exact ⟨⟨_, (Sep.front (i := 2) rfl hs15)⟩, trivial⟩
   clear hs13
   refine gTake0 0 rfl (by kernel_rfl) hS (fun w => xMove rfl) rfl ?_
   clear hS; intro hS
   refine gTake0 1 rfl (by kernel_rfl) hS (fun w => xNil rfl) rfl ?_
   clear hS; intro hS
   refine gTake0 2 rfl (by kernel_rfl) hS (fun w => xFA (j' := 0) underlying266 rfl sizeOf116 rfl rfl) rfl ?_
   clear hS; intro hS
   refine gTake 3 0 rfl (by kernel_rfl) rfl (by kernel_rfl) hS (fun w hq0 => by obtain ⟨M, hq⟩ := hq0; exact xLoadC isAgg116 rfl (PR.cell hh0 hq (i := 0) rfl rfl)) rfl ?_
   clear hS; intro hS
   refine gTake0 4 rfl (by kernel_rfl) hS (fun w => xMove rfl) rfl ?_
   clear hS; intro hS
   refine gTake0 6 rfl (by kernel_rfl) hS (fun w => xMove rfl) rfl ?_
   clear hS; intro hS
   refine gEff2 5 12 (by kernel_rfl) rfl rfl ?_ ?_
   · replace hs15 := hs15.f2
     refine oCall call215 rfl rfl (hpiece_s hh hs15) ?_
     rintro _ w16 ⟨rfl, hs17⟩; clear hs15
     refine oEnd (kG ⟨⟨_, (Sep.front (i := 0) rfl hs17)⟩, trivial⟩ ?_)
     clear hS; intro hS
     refine gEff2 7 12 (by kernel_rfl) rfl rfl ?_ ?_
     · refine oCall call214 rfl rfl (hspread_s hcode hdb hp1 hp2 hlen2 hcn hpc hbss (by omega) hs17) ?_
       rintro _ w25 ⟨f18, a19, c20, vs21, rfl, hle22, hv23, hr24, hs26⟩; clear hs17
       replace hh := hh.mono hle22
       replace hdb := hdb.mono hle22
       replace hh0 := hh0.mono hle22
       replace hbk := hbk.mono hle22
       replace hqp := hqp.mono hle22
       replace hv := hv.mono hle22
       replace ho := ho.mono hle22
       refine oEnd (kG ⟨⟨_, (Sep.imp (i := 0) rfl (pool_sub hle22) (Sep.front (i := 0) rfl hs26))⟩, trivial⟩ ?_)
       clear hS; intro hS
       refine gTake0 8 rfl (by kernel_rfl) hS (fun w => xMove rfl) rfl ?_
       clear hS; intro hS
       refine gTake0 9 rfl (by kernel_rfl) hS (fun w => xExtract rfl rfl) rfl ?_
       clear hS; intro hS
       refine gTake0 10 rfl (by kernel_rfl) hS (fun w => xExtract rfl rfl) rfl ?_
       clear hS; intro hS
       refine gTake0 11 rfl (by kernel_rfl) hS (fun w => xExtract rfl rfl) rfl ?_
       clear hS; intro hS
       refine gEff 12 (by kernel_rfl) rfl ?_
       refine oAlloc hs26 zeroValue270 rfl rfl ?_
       intro b27 w28 hs29; clear hs26
       refine oEnd (kG ⟨⟨_, (Sep.imp (i := 0) rfl (pool_sub hle22) (Sep.front (i := 1) rfl hs29))⟩, trivial⟩ ?_)
       clear hS; intro hS
       refine gEff 13 (by kernel_rfl) rfl ?_
       refine oStoreG hs29 sizeOf270 rfl rfl rfl rfl (i := 0) rfl rfl ?_
       intro w30 hs31; clear hs29; dsimp only [List.set, putAt] at hs31
       refine oEnd (kG ⟨⟨_, (Sep.imp (i := 0) rfl (pool_sub hle22) (Sep.front (i := 1) rfl hs31))⟩, trivial⟩ ?_)
       clear hS; intro hS
       refine gTake0 14 rfl (by kernel_rfl) hS (fun w => xAssign rfl) rfl ?_
       clear hS; intro hS
       refine gTake0 15 rfl (by kernel_rfl) hS (fun w => xAssign rfl) rfl ?_
       clear hS; intro hS
       refine gEnd (by kernel_rfl) ?_
       clear hS
       have hs32 := Sep.imp (i := 4) (A' := rackA f18 p.x p.c sz NC q p.nn nds) rfl (fun h => rackA_mono hle22 (Nat.le_refl _) h) hs31; dsimp only [List.set] at hs32; clear hs31
       replace hs32 := hs32.d3
       replace hs32 := hs32.f6
       replace hs32 := hs32.f6
       replace hs32 := hs32.f6
       replace hs32 := hs32.f5
       replace hs32 := hs32.f6
       replace hs32 := hs32.f6
       replace hs32 := hs32.f6
       exact kCut _ ⟨f18, _, _, _, _, rfl, (hle22), (hv23), (hr24), hs32⟩ ⟨rfl, rfl, rfl, rfl, rfl, rfl, rfl, trivial⟩
     · refine oAlloc hs17 zeroValue270 rfl rfl ?_
       intro b33 w34 hs35; clear hs17
       refine oEnd (kG ⟨⟨_, (Sep.front (i := 1) rfl hs35)⟩, trivial⟩ ?_)
       clear hS; intro hS
       refine gEff 7 (by kernel_rfl) rfl ?_
       replace hs35 := hs35.f1
       refine oCall call214 rfl rfl (hspread_s hcode hdb hp1 hp2 hlen2 hcn hpc hbss (by omega) hs35) ?_
       rintro _ w43 ⟨f36, a37, c38, vs39, rfl, hle40, hv41, hr42, hs44⟩; clear hs35
       replace hh := hh.mono hle40
       replace hdb := hdb.mono hle40
       replace hh0 := hh0.mono hle40
       replace hbk := hbk.mono hle40
       replace hqp := hqp.mono hle40
       replace hv := hv.mono hle40
       replace ho := ho.mono hle40
       refine oEnd (kG ⟨⟨_, (Sep.imp (i := 0) rfl (pool_sub hle40) (Sep.front (i := 0) rfl hs44))⟩, trivial⟩ ?_)
       clear hS; intro hS
       refine gTake0 8 rfl (by kernel_rfl) hS (fun w => xMove rfl) rfl ?_
       clear hS; intro hS
       refine gTake0 9 rfl (by kernel_rfl) hS (fun w => xExtract rfl rfl) rfl ?_
       clear hS; intro hS
       refine gTake0 10 rfl (by kernel_rfl) hS (fun w => xExtract rfl rfl) rfl ?_
       clear hS; intro hS
       refine gTake0 11 rfl (by kernel_rfl) hS (fun w => xExtract rfl rfl) rfl ?_
       clear hS; intro hS
       refine gEff 13 (by kernel_rfl) rfl ?_
       refine oStoreG hs44 sizeOf270 rfl rfl rfl rfl (i := 1) rfl rfl ?_
       intro w45 hs46; clear hs44; dsimp only [List.set, putAt] at hs46
       refine oEnd (kG ⟨⟨_, (Sep.imp (i := 0) rfl (pool_sub hle40) (Sep.front (i := 0) rfl hs46))⟩, trivial⟩ ?_)
       clear hS; intro hS
       refine gTake0 14 rfl (by kernel_rfl) hS (fun w => xAssign rfl) rfl ?_
       clear hS; intro hS
       refine gTake0 15 rfl (by kernel_rfl) hS (fun w => xAssign rfl) rfl ?_
       clear hS; intro hS
       refine gEnd (by kernel_rfl) ?_
       clear hS
       have hs47 := Sep.imp (i := 4) (A' := rackA f36 p.x p.c sz NC q p.nn nds) rfl (fun h => rackA_mono hle40 (Nat.le_refl _) h) hs46; dsimp only [List.set] at hs47; clear hs46
       replace hs47 := hs47.d3
       replace hs47 := hs47.f6
       replace hs47 := hs47.f6
       replace hs47 := hs47.f6
       replace hs47 := hs47.f5
       replace hs47 := hs47.f6
       replace hs47 := hs47.f5
       replace hs47 := hs47.f6
       exact kCut _ ⟨f36, _, _, _, _, rfl, (hle40), (hv41), (hr42), hs47⟩ ⟨rfl, rfl, rfl, rfl, rfl, rfl, rfl, trivial⟩
   · refine oAlloc hs15 zeroValue270 rfl rfl ?_
     intro b48 w49 hs50; clear hs15
     refine oEnd (kG ⟨⟨_, (Sep.front (i := 3) rfl hs50)⟩, trivial⟩ ?_)
     clear hS; intro hS
     refine gEff 5 (by kernel_rfl) rfl ?_
     replace hs50 := hs50.f3
     refine oCall call215 rfl rfl (hpiece_s hh hs50) ?_
     rintro _ w51 ⟨rfl, hs52⟩; clear hs50
     refine oEnd (kG ⟨⟨_, (Sep.front (i := 0) rfl hs52)⟩, trivial⟩ ?_)
     clear hS; intro hS
     refine gEff 7 (by kernel_rfl) rfl ?_
     refine oCall call214 rfl rfl (hspread_s hcode hdb hp1 hp2 hlen2 hcn hpc hbss (by omega) hs52) ?_
     rintro _ w60 ⟨f53, a54, c55, vs56, rfl, hle57, hv58, hr59, hs61⟩; clear hs52
     replace hh := hh.mono hle57
     replace hdb := hdb.mono hle57
     replace hh0 := hh0.mono hle57
     replace hbk := hbk.mono hle57
     replace hqp := hqp.mono hle57
     replace hv := hv.mono hle57
     replace ho := ho.mono hle57
     refine oEnd (kG ⟨⟨_, (Sep.imp (i := 0) rfl (pool_sub hle57) (Sep.front (i := 0) rfl hs61))⟩, trivial⟩ ?_)
     clear hS; intro hS
     refine gTake0 8 rfl (by kernel_rfl) hS (fun w => xMove rfl) rfl ?_
     clear hS; intro hS
     refine gTake0 9 rfl (by kernel_rfl) hS (fun w => xExtract rfl rfl) rfl ?_
     clear hS; intro hS
     refine gTake0 10 rfl (by kernel_rfl) hS (fun w => xExtract rfl rfl) rfl ?_
     clear hS; intro hS
     refine gTake0 11 rfl (by kernel_rfl) hS (fun w => xExtract rfl rfl) rfl ?_
     clear hS; intro hS
     refine gEff 13 (by kernel_rfl) rfl ?_
     refine oStoreG hs61 sizeOf270 rfl rfl rfl rfl (i := 1) rfl rfl ?_
     intro w62 hs63; clear hs61; dsimp only [List.set, putAt] at hs63
     refine oEnd (kG ⟨⟨_, (Sep.imp (i := 0) rfl (pool_sub hle57) (Sep.front (i := 0) rfl hs63))⟩, trivial⟩ ?_)
     clear hS; intro hS
     refine gTake0 14 rfl (by kernel_rfl) hS (fun w => xAssign rfl) rfl ?_
     clear hS; intro hS
     refine gTake0 15 rfl (by kernel_rfl) hS (fun w => xAssign rfl) rfl ?_
     clear hS; intro hS
     refine gEnd (by kernel_rfl) ?_
     clear hS
     have hs64 := Sep.imp (i := 4) (A' := rackA f53 p.x p.c sz NC q p.nn nds) rfl (fun h => rackA_mono hle57 (Nat.le_refl _) h) hs63; dsimp only [List.set] at hs64; clear hs63
     replace hs64 := hs64.d3
     replace hs64 := hs64.f6
     replace hs64 := hs64.f6
     replace hs64 := hs64.f6
     replace hs64 := hs64.f5
     replace hs64 := hs64.f6
     replace hs64 := hs64.f5
     replace hs64 := hs64.f6
     exact kCut _ ⟨f53, _, _, _, _, rfl, (hle57), (hv58), (hr59), hs64⟩ ⟨rfl, rfl, rfl, rfl, rfl, rfl, rfl, trivial⟩
 clear hs13; rintro e w ⟨f2, sa, sc, vs, bp, rfl, hle2, hsv, hsr, hs⟩
 replace hh := hh.mono hle2
 replace hdb := hdb.mono hle2
 replace hh0 := hh0.mono hle2
 replace hbk := hbk.mono hle2
 replace hqp := hqp.mono hle2
 replace hv := hv.mono hle2
 replace ho := ho.mono hle2
 refine rSeq (rSeq (rReg (oV (xMove rfl) rfl (oV (xCmp (r := false) rfl rfl rNeq) rfl (oEnd (kSeq (rCondF rfl (rSkip (kSeq (rSeq (rReg (oV (xMove rfl) rfl ?_))))))))))))
 replace hs := hs.f3
 refine oCall call216 rfl rfl (tnext_s hs) ?_
 rintro _ w65 ⟨rfl, hs66⟩; clear hs
 refine oV (xAssign rfl) rfl (oEnd (kSeq (rSeq (rSeq (rReg (oV (xMove rfl) rfl (oV (xMove rfl) rfl (oV (xBuild (v := (.agg #[(I 1), (.int .u32 (nx.toNat : Int)), (.string ⟨#[]⟩), (I 0), (I 0), (I 0), (.slice none 0 0), (I 0), (I 0), (I 0), (.int .u32 0)])) rfl (fun w => by kernel_rfl)) rfl ?_))))))))
 replace hs66 := hs66.f6
 replace hs66 := hs66.f6
 replace hs66 := hs66.f2
 replace hs66 := hs66.f4
 refine oCall call217 rfl rfl (hdob_s hh hv ho hn hB (by omega) (by omega) hmost (by omega) (by omega) hs66) ?_
 rintro _ w71 ⟨f67, tm68, rfl, hle69, htm70, hs72⟩; clear hs66
 replace hh := hh.mono hle69
 replace hdb := hdb.mono hle69
 replace hh0 := hh0.mono hle69
 replace hbk := hbk.mono hle69
 replace hqp := hqp.mono hle69
 replace hv := hv.mono hle69
 replace ho := ho.mono hle69
 replace hsv := hsv.mono hle69
 replace hsr := hsr.mono hle69
 refine oV (xAssign rfl) rfl (oEnd (kSeq (rSeq (rReg (oV (xMove rfl) rfl (oV (xCmp (r := false) rfl rfl rNeq) rfl (oEnd (kSeq (rCondF rfl (rSkip (kSeq (rSeq (rReg (oV (xAssign rfl) rfl (oEnd (kSeq (rSeq (rReg (oV (xMove rfl) rfl (oV (xNil rfl) rfl (oV (xFA (j' := 1) underlying266 rfl sizeOf258 rfl rfl) rfl (oV (xLoadC isAgg258 rfl (PR.cell hh0 hs72 (i := 0) rfl rfl)) rfl ?_))))))))))))))))))))))
 replace hs72 := hs72.f5
 refine oCall call218 rfl rfl (rlenA_s hs72) ?_
 rintro _ w73 ⟨rfl, hs74⟩; clear hs72
 refine oMake (k := p.nn) (c := p.nn) (size := 1) (bytes := 8) (inf := Tryz.t3) hs74 underlying52 (by kernel_rfl) rfl rfl rfl rfl rfl (by omega) (by omega) (by omega) (by omega) (by omega) rfl ?_
 intro b75 w76 hs77; clear hs74
 rw [made1 (I 0) rfl] at hs77
 rw [Iv_rep] at hs77
 refine oV (xAssign rfl) rfl (oEnd (kSeq (rSeq (rSeq (rReg (oV (xMove rfl) rfl (oV (xB1 rfl (rLenS underlying246)) rfl (oV (xMove rfl) rfl (oEnd (kSeq (rBlk ?_)))))))))))
 replace hs77 := Sep.nil 276 1 hs77
 have hs78 := Sep.imp (i := 2) (A' := rackA f67 p.x p.c sz NC q p.nn nds) rfl (fun h => rackA_mono hle69 (Nat.le_refl _) h) hs77; dsimp only [List.set] at hs78; clear hs77
 have e0 : q = q + 0 * p.nn := by omega
 rw [e0] at hs78
 replace hs78 := hs78.f6
 replace hs78 := hs78.f6
 replace hs78 := hs78.f3
 replace hs78 := hs78.f8
 replace hs78 := hs78.f7
 replace hs78 := hs78.f6
 replace hs78 := hs78.f7
 replace hs78 := hs78.f8
 replace hs78 := hs78.f8
 refine rLoop (fun mz e w => ∃ (i : Nat) (pls : List (List Nat)) (oa : Option Addr) (oc : Nat) (uso : List Value) (mo : List Int) (f79 : HF), cnt - i = mz ∧ e = [(0, (ptr h)), (1, (.string ⟨#[c]⟩)), (6, (I 0)), (7, (ptr p.t)), (10, (ptr bp)), (13, (.int .u32 (nx.toNat : Int))), (12, (I 0)), (16, (.slice (some ⟨b75, 0, none⟩) p.nn p.nn)), (73, (.slice sa cnt sc)), (74, (I (cnt : Int))), (15, (.slice oa i oc)), (75, (I (i : Int)))] ∧ (i ≤ cnt) ∧ (pls.length = i) ∧ (∀ l ∈ pls, PlOk p.n p.nn l ∧ ∀ j ∈ l, isUp nds j = true) ∧ (PlR f79 uso pls) ∧ (mo.length = p.nn) ∧ (FLe f67 f79) ∧ (HallP f79 h p) ∧ (Reads f79 1 (.slice sa cnt sc) cnt vs) ∧ (RRR f79 vs bss) ∧ (Reads f79 6 (.slice a n cp) n cs) ∧ (ObsR f79 cs obs) ∧ Sep W0 w (own 276 1 (.slice oa i oc) i uso :: row bp 270 [(I (m : Int)), (I (cnt : Int)), (I (pc : Int))] :: pool f79 :: rackA f79 p.x p.c sz NC (q + i * p.nn) p.nn (putS nds nx p.n pls bss i) :: row p.t 365 [(I (p.n : Int)), (I (p.nn : Int)), (.int .u32 ((nx + 1).toNat : Int)), (.int .u32 (la.toNat : Int)), (.slice a n cp)] :: watchA p.wp p.nn now :: own 3 1 (.slice (some ⟨b75, 0, none⟩) p.nn p.nn) p.nn (Iv mo) :: diaryA p.d p.tp (dm + 1) :: tapeA p.tp tm68 most :: L)) ⟨_, _, ⟨0, [], _, _, [], (List.replicate p.nn 0), f67, rfl, rfl, (by omega), (rfl), ((fun l hl => by cases hl)), (PlR.nil), (by simp), (FLe.refl _), (hh), (hsv), (hsr), (hv), (ho), hs78⟩, ⟨rfl, rfl, rfl, rfl, rfl, rfl, rfl, rfl, rfl, rfl, rfl, rfl, trivial⟩⟩ ?_
 clear hs78; rintro mz e w ⟨i, pls, oa, oc, uso, mo, f79, rfl, rfl, hi, hpll, hpls, hro, hmo, hle80, hh, hsv, hsr, hv, ho, hs⟩
 refine rSeq (rReg (oV (xCmp rfl rfl rLss) rfl (oEnd (kSeq (rSeq ?_)))))
 refine rCondD rfl (fun hc81 => ?_) (fun hc81 => ?_)
 · refine rSkip (kSeq (rSeq (rBlk (rSeq (rReg (oV (xMove rfl) rfl ?_))))))
   obtain ⟨b82, off83, rfl⟩ := Reads.at hsv (by omega)
   refine oV (xIA (o' := off83 + i) underlying246 sizeOf22 rfl rfl (by omega) (by omega) (by omega)) rfl ?_
   have hrl := hsr.len; obtain ⟨a84, k85, cp86, us87, he88, hv89, hr90⟩ := RRR.get hsr i (by omega)
   obtain rfl : k85 = p.n := by have := hv89.1; have := hr90.len; have := (hput.bs (i := i) (by omega)).1; omega
   refine oV (xLoadC isAgg22 rfl (Reads.cell hsv hs (i := 2) rfl he88)) rfl (oV (xAssign rfl) rfl (oV (xAssign rfl) rfl (oEnd (kSeq (rSeq (rReg (oV (xMove rfl) rfl (oV (xMove rfl) rfl (oV (xMove rfl) rfl (oV (xMove rfl) rfl (oV (xMove rfl) rfl ?_)))))))))))
   replace hs := hs.f6
   replace hs := hs.f6
   replace hs := hs.f6
   replace hs := hs.f6
   replace hs := hs.f6
   have hqm := hqb i (by omega)
   refine oCall call219 rfl rfl (lay1_s hh hv ho hn hv89 hr90 (hput.bs (by omega)).1 hmo hgood hB hnn (by omega) (by rw [putS_length]; exact hndl) (by omega) (by omega) (by omega) hNC hsz (hput.lay (by omega)) (by rw [putS_upf]; exact hups) hs) ?_
   rintro _ w100 ⟨f92, a93, cp94, pl95, rfl, hle96, hpk97, hpu98, hv99, hs101⟩; clear hs; rw [putS_next hpll] at hs101; have hplen := hpk97.len
   replace hh := hh.mono hle96
   replace hsv := hsv.mono hle96
   replace hsr := hsr.mono hle96
   replace hv := hv.mono hle96
   replace ho := ho.mono hle96
   replace hro := hro.mono hle96
   replace hv89 := hv89.mono hle96
   replace hr90 := hr90.mono hle96
   refine oV (xMove rfl) rfl (oV (xExtract rfl rfl) rfl (oV (xExtract rfl rfl) rfl (oV (xAssign rfl) rfl (oV (xAssign rfl) rfl (oEnd (kSeq (rSeq (rReg (oV (xMove rfl) rfl (oV (xMove rfl) rfl (oBuildSlice (el := 276) (cs := [(.slice a93 pl95.length cp94)]) hs101 rfl (fun w => by kernel_rfl) rfl ?_)))))))))))
   intro b102 w103 hs104; clear hs101
   refine oAppend (inf := Tryz.t276) (size := 1) (bytes := 24) hs104 (i := 6) rfl underlying271 (by kernel_rfl) rfl rfl rfl rfl rfl rfl rfl (src_row hs104 (i := 0) rfl rfl rfl) (by first | omega | (simp only [List.length_append, List.length_cons, List.length_nil, List.length_map]; omega)) (by first | omega | (simp only [List.length_append, List.length_cons, List.length_nil, List.length_map]; omega)) rfl ?_
   intro a105 c106 w107 hs108; clear hs104; dsimp only [List.set] at hs108
   refine oV (xAssign rfl) rfl (oEnd (kSeq (rSeq (rSeq (rReg (oV (xMove rfl) rfl (oV (xB1 rfl (rLenS underlying276)) rfl (oV (xMove rfl) rfl (oEnd (kSeq (rBlk ?_)))))))))))
   replace hs108 := hs108.d0
   refine rLoop (fun mz e w => ∃ (k : Nat) (mo2 : List Int), pl95.length - k = mz ∧ e = [(0, (ptr h)), (1, (.string ⟨#[c]⟩)), (6, (I 0)), (7, (ptr p.t)), (10, (ptr bp)), (12, (I 0)), (13, (.int .u32 (nx.toNat : Int))), (15, (.slice a105 (i + 1) c106)), (16, (.slice (some ⟨b75, 0, none⟩) p.nn p.nn)), (19, (.slice a93 pl95.length cp94)), (20, (I 0)), (17, (I (i : Int))), (73, (.slice (some ⟨b82, off83, none⟩) cnt sc)), (74, (I (cnt : Int))), (75, (I (i : Int))), (93, (.slice a93 pl95.length cp94)), (94, (I (pl95.length : Int))), (95, (I (k : Int)))] ∧ (k ≤ pl95.length) ∧ (mo2.length = p.nn) ∧ Sep W0 w (pool f92 :: rackA f92 p.x p.c sz NC (q + i * p.nn + p.nn) p.nn (putS nds nx p.n (pls ++ [pl95]) bss (i + 1)) :: row p.t 365 [(I (p.n : Int)), (I (p.nn : Int)), (.int .u32 ((nx + 1).toNat : Int)), (.int .u32 (la.toNat : Int)), (.slice a n cp)] :: watchA p.wp p.nn now :: own 3 1 (.slice (some ⟨b75, 0, none⟩) p.nn p.nn) p.nn (Iv mo2) :: own 276 1 (.slice a105 (i + 1) c106) (i + 1) (uso ++ [(.slice a93 pl95.length cp94)]) :: row bp 270 [(I (m : Int)), (I (cnt : Int)), (I (pc : Int))] :: diaryA p.d p.tp (dm + 1) :: tapeA p.tp tm68 most :: L)) ⟨_, _, ⟨0, _, rfl, rfl, (by omega), (hmo), hs108⟩, ⟨rfl, rfl, rfl, rfl, rfl, rfl, rfl, rfl, rfl, rfl, rfl, rfl, rfl, rfl, rfl, rfl, rfl, rfl, trivial⟩⟩ ?_
   clear hs108; rintro mz e w ⟨k, mo2, rfl, rfl, hk, hmo2, hs⟩
   refine rSeq (rReg (oV (xCmp rfl rfl rLss) rfl (oEnd (kSeq (rSeq ?_)))))
   refine rCondD rfl (fun hc109 => ?_) (fun hc109 => ?_)
   · have hlt := hpk97.at (i := k) (by omega)
     refine rSkip (kSeq (rSeq (rBlk (rSeq (rReg ?_)))))
     obtain ⟨b110, off111, rfl⟩ := Reads.at hv99 (by omega)
     refine oV (xIA (o' := off111 + k * 2) underlying276 sizeOf278 rfl rfl (by omega) (by omega) (by omega)) rfl (oV (xLoadGC isAgg278 sizeOf278 rfl rfl (reads_cells hv99 hs (i := 0) rfl (plC_take (by omega)))) rfl (oAlloc hs zeroValue278 rfl rfl ?_))
     intro b112 w113 hs114; clear hs
     refine oStoreG hs114 sizeOf278 rfl rfl rfl rfl (i := 0) rfl rfl ?_
     intro w115 hs116; clear hs114; dsimp only [List.set, putAt] at hs116
     refine oEnd (kSeq (rReg (oV (xMove rfl) rfl (oV (xFA (j' := 0) underlying278 rfl sizeOf3 rfl rfl) rfl (oV (xLoad hs116 isAgg3 rfl (i := 0) rfl rfl) rfl (oV (xIA (o' := ((pl95.getD k 0 : Nat))) underlying52 sizeOf3 rfl rfl (by omega) (by omega) (by omega)) rfl (oV (xLoadC isAgg3 rfl (Sep.ownCell hs116 (i := 5) rfl (Iv_get (by first | omega | (simp only [List.length_append, List.length_set, List.length_cons, List.length_nil, List.length_map, List.length_replicate, mixd_length]; omega))))) rfl (oV (xAr (r := (IntKind.i64.wrap ((mo2.getD ((pl95.getD k 0 : Nat)) 0) + 1))) rfl rfl (rAdd rfl)) rfl (oV (xIA (o' := ((pl95.getD k 0 : Nat))) underlying52 sizeOf3 rfl rfl (by omega) (by omega) (by omega)) rfl ?_)))))))))
     refine oStoreO hs116 sizeOf3 rfl rfl rfl (i := 5) rfl (Iv_get (by first | omega | (simp only [List.length_append, List.length_set, List.length_cons, List.length_nil, List.length_map, List.length_replicate, mixd_length]; omega))) ?_
     intro w117 hs118; clear hs116; dsimp only [List.set] at hs118; rw [Iv_set] at hs118
     refine oEnd (kBlk (kSeq (rReg (oV (xAr rfl rfl (rAdd (wI (by omega) (by omega)))) rfl (oV (xMove rfl) rfl ?_)))))
     replace hs118 := hs118.d0
     exact oEnd (kLoop (pl95.length - (k + 1)) _ (by omega) ⟨k + 1, _, rfl, rfl, (by omega), (by rw [List.length_set]; exact hmo2), hs118⟩ ⟨rfl, rfl, rfl, rfl, rfl, rfl, rfl, rfl, rfl, rfl, rfl, rfl, rfl, rfl, rfl, rfl, rfl, rfl, trivial⟩)
   · refine rExit (kSeqX (kLoopX (kBlkH (kSeq (rSeq (rReg (oV (xMove rfl) rfl (oV (xAssign rfl) rfl (oEnd (kSeq (rSeq (rReg (oV (xMove rfl) rfl (oV (xCmp (r := false) rfl rfl rNeq) rfl (oEnd (kSeq (rCondF rfl (rSkip (kBlk (kSeq (rReg (oV (xAr rfl rfl (rAdd (wI (by omega) (by omega)))) rfl (oV (xMove rfl) rfl ?_)))))))))))))))))))))))
     have e1 : q + i * p.nn + p.nn = q + (i + 1) * p.nn := by rw [Nat.succ_mul]; omega
     rw [e1] at hs
     replace hs := hs.f8
     replace hs := hs.f8
     replace hs := hs.f6
     replace hs := hs.f6
     replace hs := hs.f6
     replace hs := hs.f6
     replace hs := hs.f6
     replace hs := hs.f8
     replace hs := hs.f8
     exact oEnd (kLoop (cnt - (i + 1)) _ (by omega) ⟨i + 1, pls ++ [pl95], _, _, _, mo2, f92, rfl, rfl, (by omega), (by simp [hpll]), (pls_snoc hpls hpk97 (fun x hx => by rw [← putS_upf i (num := nx) (m := p.n) (pls := pls) (bss := bss)]; exact hpu98 x hx)), (PlR.snoc hro hv99), (hmo2), (FLe.trans hle80 hle96), (hh), (hsv), (hsr), (hv), (ho), hs⟩ ⟨rfl, rfl, rfl, rfl, rfl, rfl, rfl, rfl, rfl, rfl, rfl, rfl, trivial⟩)
 · refine rExit (kSeqX (kLoopX (kBlkH (kSeq (rSeq (rSeq (rReg (oV (xMove rfl) rfl (oV (xCmp (r := true) rfl rfl rEql) rfl (oEnd (kSeq (rCondT rfl (rReg ?_)))))))))))))
   obtain rfl : i = pls.length := hpll.symm; obtain rfl : cnt = pls.length := by omega
   replace hs := hs.f2
   obtain ⟨f120, hle121, hv122, hs123⟩ := Sep.freezeOwn (i := 0) hs rfl; clear hs; dsimp only [List.eraseIdx] at hs123
   replace hh := hh.mono hle121
   replace hsv := hsv.mono hle121
   replace hsr := hsr.mono hle121
   replace hv := hv.mono hle121
   replace ho := ho.mono hle121
   replace hro := hro.mono hle121
   have hs124 := Sep.imp (i := 2) (A' := rackA f120 p.x p.c sz NC (q + pls.length * p.nn) p.nn (putS nds nx p.n pls bss pls.length)) rfl (fun h => rackA_mono hle121 (Nat.le_refl _) h) hs123; dsimp only [List.set] at hs124; clear hs123
   refine oV (xMove rfl) rfl (oV (xMove rfl) rfl (oV (xMove rfl) rfl (oV (xLoadG hs124 isAgg270 sizeOf270 rfl (i := 1) rfl rfl) rfl (oV (xMove rfl) rfl (oV (xBuild (v := (.agg #[(I 2), (.int .u32 (nx.toNat : Int)), (.string ⟨#[c]⟩), (I (m : Int)), (I (pls.length : Int)), (I (pc : Int)), (.slice oa pls.length oc), (I 0), (I 0), (I 0), (.int .u32 0)])) rfl (fun w => by kernel_rfl)) rfl ?_)))))
   replace hs124 := hs124.f7
   replace hs124 := hs124.f7
   replace hs124 := hs124.f5
   replace hs124 := hs124.f3
   refine oCall call217 rfl rfl (hdoc_s (o := (⟨nx, c, m, pls.length, pc, pls⟩ : Ob)) hh hv ho hn hv122 hro hB (by omega) (by omega) hmost ⟨hlen2, hcn32, hpc1, hpc2, rfl, fun l hl => (hpls l hl).1⟩ (by omega) (by omega) hc1 hc2 hsort hend hnum hla (show nx.toNat < (nx + 1).toNat by omega) (by omega) hs124) ?_
   rintro _ w129 ⟨f125, tm126, a131, cp132, cs133, rfl, hle127, htm128, hv134, ho135, hs130⟩; clear hs124
   replace hh := hh.mono hle127
   replace hsv := hsv.mono hle127
   replace hsr := hsr.mono hle127
   replace hv := hv.mono hle127
   replace ho := ho.mono hle127
   replace hro := hro.mono hle127
   replace hv122 := hv122.mono hle127
   refine oV (xAssign rfl) rfl (oEnd (kSeq (rSeq (rSeq (rReg (oV (xMove rfl) rfl (oV (xCmp (r := false) rfl rfl rNeq) rfl (oEnd (kSeq (rCondF rfl (rSkip (kSeq (rSeq (rReg (oV (xMove rfl) rfl (oV (xAssign rfl) rfl (oEnd (kSeq (rRet (kFin (.tmp rfl (.nil)) ?_))))))))))))))))))))
   have hs136 := Sep.imp (i := 5) (A' := rackA f125 p.x p.c sz NC (q + pls.length * p.nn) p.nn (putS nds nx p.n pls bss pls.length)) rfl (fun h => rackA_mono hle127 (Nat.le_refl _) h) hs130; dsimp only [List.set] at hs136; clear hs130
   replace hs136 := hs136.d7
   replace hs136 := hs136.d4
   replace hs136 := hs136.f3
   replace hs136 := hs136.f3
   replace hs136 := hs136.f5
   replace hs136 := hs136.f4
   replace hs136 := hs136.f5
   replace hs136 := hs136.f5
   exact ⟨_, _, _, _, _, pls, rfl, (FLe.trans hle2 (FLe.trans hle69 (FLe.trans hle80 (FLe.trans hle121 hle127)))), by omega, rfl, hpls, hv134, ho135, hs136⟩
end Go.Sl
namespace Go.Sl
open Go.Proofs
theorem set_same {α : Type} {l : List α} {i : Nat} {x : α} (h : l[i]? = some x) : l.set i x = l := by
  apply List.ext_getElem?
  intro j
  rw [List.getElem?_set]
  split
  · rename_i hj; subst hj
    split
    · exact h.symm
    · rename_i hl; rw [List.getElem?_eq_none (by omega)] at h; cases h
  · rfl
theorem callN_same {nds : List Nd} {i kd : Nat} {s : Sh} {l : LB} {nd : Nd} (hnd : nds[i]? = some nd) (h : kd ≠ 2 ∧ kd ≠ 5) : callN nds i kd s l = nds := by
  unfold callN; rw [hnd]; simp only
  split
  · exact set_same (by rw [hnd]; simp [doKs, h.1, h.2])
  · rfl
theorem read_ok {nds : List Nd} {i sz NC : Nat} {s : Sh} {l : LB} {nd : Nd} (hnd : nds[i]? = some nd) (h : isUp nds i = true → look nds i s = some l) (hl : l.length ≤ 60000) :
    CallOk sz NC 3 s [] nd ∧ callN nds i 3 s [] = nds ∧ (nd.up = true → callD nds i 3 s = l) ∧ isUp nds i = nd.up := by
  have hu := isUp_at hnd
  have hg : nd.up = true → mget nd.ks s = some l := fun hup => by
    have := h (hu.trans hup); unfold look at this; rw [hnd] at this; exact this
  refine ⟨⟨by simp, .inr rfl, fun hup => ⟨by simp, by simp, by simp, by simp, .inr rfl, fun _ => by rw [hg hup]; rfl⟩, fun hup => ?_⟩, callN_same hnd (by decide), fun hup => ?_, hu⟩
  · simp only [doD]; rw [hg hup]; exact hl
  · unfold callD; rw [hnd]; simp only [hup, if_true, doD]; rw [hg hup]; rfl
def upJ (nds : List Nd) (pl : List Nat) (bs : List LB) (j : Nat) : List Prt := ((List.range j).filter (fun s => isUp nds (pl.getD s 0))).map (fun s => (s, bs.getD s []))
section
variable {nds : List Nd} {pl : List Nat} {bs : List LB}
theorem upJ_up {j : Nat} (h : isUp nds (pl.getD j 0) = true) : upJ nds pl bs (j + 1) = upJ nds pl bs j ++ [(j, bs.getD j [])] := by
  unfold upJ; rw [List.range_succ, List.filter_append, List.map_append, List.filter_cons_of_pos (by exact h)]; rfl
theorem upJ_dn {j : Nat} (h : isUp nds (pl.getD j 0) = false) : upJ nds pl bs (j + 1) = upJ nds pl bs j := by
  unfold upJ; rw [List.range_succ, List.filter_append, List.map_append, List.filter_cons_of_neg (by simp only [h]; decide)]; simp
theorem upJ_pre (j d : Nat) : ∃ t, upJ nds pl bs (j + d) = upJ nds pl bs j ++ t := by
  induction d with
  | zero => exact ⟨[], by simp⟩
  | succ d ih =>
    obtain ⟨t, ht⟩ := ih
    cases hu : isUp nds (pl.getD (j + d) 0) with
    | true => exact ⟨t ++ [(j + d, bs.getD (j + d) [])], by rw [← Nat.add_assoc, upJ_up hu, ht, List.append_assoc]⟩
    | false => exact ⟨t, by rw [← Nat.add_assoc, upJ_dn hu, ht]⟩
theorem upJ_take {j m k : Nat} (h : (upJ nds pl bs j).length = k) (hj : j ≤ m) : upJ nds pl bs j = (upJ nds pl bs m).take k := by
  obtain ⟨t, ht⟩ := upJ_pre (nds := nds) (pl := pl) (bs := bs) j (m - j)
  rw [show j + (m - j) = m by omega] at ht
  rw [ht, ← h, List.take_left']
  rfl
theorem upJ_all {m : Nat} (h : ∀ s, s < m → isUp nds (pl.getD s 0) = true) : upJ nds pl bs m = (List.range m).map (fun s => (s, bs.getD s [])) := by
  unfold upJ; rw [List.filter_eq_self.2]; intro s hs; exact h s (List.mem_range.1 hs)
theorem upJ_mem {m : Nat} {x : Prt} (h : x ∈ upJ nds pl bs m) : x.1 < m ∧ x.2 = bs.getD x.1 [] := by
  unfold upJ at h
  obtain ⟨s, hs, rfl⟩ := List.mem_map.1 h
  exact ⟨List.mem_range.1 (List.mem_filter.1 hs).1, rfl⟩
theorem upJ_nodup (m : Nat) : ((upJ nds pl bs m).map (·.1)).Nodup := by
  unfold upJ; rw [List.map_map]
  exact (List.nodup_range.filter _).map _ (fun a b h => h)
theorem psok_of {ps : List Prt} {n mm : Nat} (h1 : ∀ x ∈ ps, x.1 < n ∧ x.2.length = mm) (h2 : (ps.map (·.1)).Nodup) : PsOk ps n mm := by
  have hm : ∀ j, j < ps.length → prt ps j ∈ ps := fun j hj => by
    unfold prt; rw [List.getD_eq_getElem?_getD, List.getElem?_eq_getElem hj]; exact List.getElem_mem _
  refine ⟨fun j hj => (h1 _ (hm j hj)).1, fun j hj => (h1 _ (hm j hj)).2, fun j hj => ?_⟩
  unfold seenN
  rw [List.any_eq_false]
  intro x hx
  obtain ⟨i, hi, rfl⟩ := List.getElem_of_mem hx
  rw [List.length_take] at hi
  have h3 := List.pairwise_iff_getElem.1 h2 i j (by rw [List.length_map]; omega) (by rw [List.length_map]; exact hj) (by omega)
  simp only [List.getElem_map] at h3
  rw [List.getElem_take]
  unfold prt
  rw [List.getD_eq_getElem?_getD, List.getElem?_eq_getElem hj]
  simpa using h3
theorem upJ_ok {m n mm k : Nat} (hm : m ≤ n) (hb : ∀ j, j < m → (bs.getD j []).length = mm) : PsOk ((upJ nds pl bs m).take k) n mm := by
  refine psok_of (fun x hx => ?_) ?_
  · obtain ⟨h1, h2⟩ := upJ_mem (List.mem_of_mem_take hx)
    exact ⟨by omega, by rw [h2]; exact hb _ h1⟩
  · exact (upJ_nodup m).sublist ((List.take_sublist _ _).map _)
end
end Go.Sl
namespace Go.Sl
open Go.Proofs Go.Proofs.Tryz
theorem ssize_s {W0 w : World} {L : List Asn} {f : HF} {h : Nat} {p : Hp} (hh : HallP f h p) {o : Ob} {a : Option Addr} {cp : Nat} (hpc2 : o.pc ≤ 256) (hs : Sep W0 w (pool f :: L)) : Calls Tryz.prog 285 [ptr h, .agg (obC o (.slice a o.pl.length cp)).toArray].toArray w (Ret fun r w' => r = I ((((p.k - 1) * o.pc : Nat)) : Int) ∧ Sep W0 w' (pool f :: L)) := by
 obtain ⟨⟨s5, s6, s8, s9, s10, s11, s12, s13, s14, s15, s20, s22, hh0⟩, hbk, hqp, hbad, hqm, hcode⟩ := id hh
 refine enter (args := [(ptr h), (.agg #[(.int .u32 (o.num.toNat : Int)), (.string ⟨#[o.nm]⟩), (I (o.len : Int)), (I (o.cnt : Int)), (I (o.pc : Int)), (.slice a o.pl.length cp)])]) (n := 14) (rs := [.tmp 4]) func285 rfl rfl rfl rfl ?_
 refine rSeq (rReg (oBox hs rfl rfl rfl ?_))
 intro b1 w2 hs3; clear hs
 refine oV (xAssign rfl) rfl (oEnd (kSeq (rSeq (rSeq (rReg (oV (xMove rfl) rfl (oV (xBin (r := .bool false) rfl rfl (fun _ => rfl) (fun w => by kernel_rfl)) rfl (oEnd (kSeq (rCondF rfl (rSkip (kSeq (rSeq ?_)))))))))))))
 refine rRegG [(none, fun w => ∃ M, Sep W0 w (pool f :: M)), (none, fun w => ∃ M, Sep W0 w (row b1 273 [(.int .u32 (o.num.toNat : Int)), (.string ⟨#[o.nm]⟩), (I (o.len : Int)), (I (o.cnt : Int)), (I (o.pc : Int)), (.slice a o.pl.length cp)] :: M))] (by kernel_rfl) hs3 (fun w4 hs5 => ⟨?_, fun hS => ?_⟩)
 · exact ⟨⟨_, (Sep.front (i := 1) rfl hs5)⟩, ⟨_, (Sep.front (i := 0) rfl hs5)⟩, trivial⟩
 clear hs3
 refine gTake0 0 rfl (by kernel_rfl) hS (fun w => xFA (j' := 2) underlying273 rfl sizeOf270 rfl rfl) rfl ?_
 clear hS; intro hS
 refine gTake 1 1 rfl (by kernel_rfl) rfl (by kernel_rfl) hS (fun w hq0 => by obtain ⟨M, hq⟩ := hq0; exact xLoadG hq isAgg270 sizeOf270 rfl (i := 0) rfl rfl) rfl ?_
 clear hS; intro hS
 refine gTake0 2 rfl (by kernel_rfl) hS (fun w => xMove rfl) rfl ?_
 clear hS; intro hS
 refine gTake0 3 rfl (by kernel_rfl) hS (fun w => xNil rfl) rfl ?_
 clear hS; intro hS
 refine gTake0 4 rfl (by kernel_rfl) hS (fun w => xFA (j' := 0) underlying266 rfl sizeOf116 rfl rfl) rfl ?_
 clear hS; intro hS
 refine gTake 5 0 rfl (by kernel_rfl) rfl (by kernel_rfl) hS (fun w hq0 => by obtain ⟨M, hq⟩ := hq0; exact xLoadC isAgg116 rfl (PR.cell hh0 hq (i := 0) rfl rfl)) rfl ?_
 clear hS; intro hS
 refine gEff 6 (by kernel_rfl) rfl ?_
 replace hs5 := hs5.f1
 refine oCall call345 rfl rfl (pshard_s hcode o.len o.cnt o.pc (by omega) hs5) ?_
 rintro _ w6 ⟨rfl, hs7⟩; clear hs5
 refine oEnd (kG ⟨⟨_, (Sep.front (i := 0) rfl hs7)⟩, ⟨_, (Sep.front (i := 1) rfl hs7)⟩, trivial⟩ ?_)
 clear hS; intro hS
 refine gTake0 7 rfl (by kernel_rfl) hS (fun w => xAssign rfl) rfl ?_
 clear hS; intro hS
 refine gEnd (by kernel_rfl) ?_
 clear hS
 refine kSeq ?_
 refine rRet (kFin (.tmp rfl (.nil)) ?_)
 replace hs7 := hs7.d1
 exact ⟨rfl, hs7⟩
theorem sread_s {W0 w : World} {L : List Asn} {f : HF} {h : Nat} {p : Hp} (hh : HallP f h p) {o : Ob} {a : Option Addr} {cp : Nat} {us : List Value} (hv : Reads f 1 (.slice a o.pl.length cp) o.pl.length us) (hp : PlR f us o.pl) {sz NC q st : Nat} {nds : List Nd} {bs : List LB} (hstl : st < o.pl.length) (hplk : PlOk p.n p.nn (o.pl.getD st [])) (hndl : nds.length = p.nn) (hst : ∀ j, j < p.n → isUp nds ((o.pl.getD st []).getD j 0) = true → look nds ((o.pl.getD st []).getD j 0) (shN o.num st j) = some (bs.getD j [])) (hbl : ∀ j, j < p.n → (bs.getD j []).length = (p.k - 1) * o.pc) (hpc1 : 1 ≤ o.pc) (hpc2 : o.pc ≤ 256) (hn24 : p.n ≤ 24) (hst2 : st ≤ 1000) (hq : q + 1000 ≤ 1152921504606846976) (hNC : NC ≤ 1000000) (hsz : sz ≤ 60000) (hge : p.k ≤ (upJ nds (o.pl.getD st []) bs p.n).length) (hd : DecOk p.n p.k ((upJ nds (o.pl.getD st []) bs p.n).take p.k)) (hs : Sep W0 w (pool f :: rackA f p.x p.c sz NC q p.nn nds :: L)) : Calls Tryz.prog 221 [ptr h, .agg (obC o (.slice a o.pl.length cp)).toArray, .int .i64 st].toArray w (Ret fun r w' => ∃ f' a' c', r = .tuple #[.slice a' (p.k * (p.k - 1) * o.pc) c', .int .i64 0] ∧ FLe f f' ∧ RB f' a' (p.k * (p.k - 1) * o.pc) c' (dUp p.n p.k o.pc ((upJ nds (o.pl.getD st []) bs p.n).take p.k) o.pc) ∧ Sep W0 w' (pool f' :: rackA f' p.x p.c sz NC (q + p.n) p.nn nds :: L)) := by
 obtain ⟨⟨s5, s6, s8, s9, s10, s11, s12, s13, s14, s15, s20, s22, hh0⟩, hbk, hqp, hbad, hqm, hcode⟩ := id hh
 obtain ⟨hk, h2k, hn24', hpl', ca, ccp, hp', hb'⟩ := id hcode
 have hkz : (p.k - 1) * o.pc ≤ 60000 := by have : (p.k - 1) * o.pc ≤ 2 * 256 := Nat.mul_le_mul (by omega) hpc2; omega
 have hpll := hplk.len
 refine enter (args := [(ptr h), (.agg #[(.int .u32 (o.num.toNat : Int)), (.string ⟨#[o.nm]⟩), (I (o.len : Int)), (I (o.cnt : Int)), (I (o.pc : Int)), (.slice a o.pl.length cp)]), (I (st : Int))]) (n := 125) (rs := [.tmp 6, .tmp 7]) func221 rfl rfl rfl rfl ?_
 refine rSeq (rReg (oBox hs rfl rfl rfl ?_))
 intro b1 w2 hs3; clear hs
 refine oV (xAssign rfl) rfl (oV (xAssign rfl) rfl (oEnd (kSeq (rSeq (rSeq (rReg (oV (xMove rfl) rfl (oV (xBin (r := .bool false) rfl rfl (fun _ => rfl) (fun w => by kernel_rfl)) rfl (oV (xMove rfl) rfl (oGuardT rfl rfl (oV (xMove rfl) rfl (oGuardT rfl rfl (oV (xCmp (r := false) rfl rfl (bF (by omega) rLss)) rfl (oV (xPickF rfl rfl) rfl (oV (xMove rfl) rfl (oGuardT rfl rfl (oV (xMove rfl) rfl (oGuardT rfl rfl (oV (xFA (j' := 5) underlying273 rfl sizeOf271 rfl rfl) rfl (oGuardT rfl rfl (oV (xLoad hs3 isAgg271 rfl (i := 0) rfl rfl) rfl (oGuardT rfl rfl (oV (xB1 rfl (rLenS underlying271)) rfl (oGuardT rfl rfl (oV (xCmp (r := false) rfl rfl (bF (by omega) rGeq)) rfl (oV (xPickF rfl rfl) rfl (oEnd (kSeq (rCondF rfl (rSkip (kSeq (rSeq (rReg (oV (xAssign rfl) rfl (oEnd (kSeq (rSeq (rReg (oV (xAssign rfl) rfl (oEnd (kSeq ?_)))))))))))))))))))))))))))))))))))))))))
 refine rCut' (fun e w => ∃ (f2 : HF) (kk : Nat) (aw : Nat) (oa : Option Addr) (oc : Nat) (cso : List Value), e = [(0, (ptr h)), (2, (I (st : Int))), (4, (ptr b1)), (6, (.slice none 0 0)), (7, (I 0)), (8, (.slice oa kk oc)), (9, (I (aw : Int)))] ∧ (FLe f f2) ∧ (PsR f2 cso ((upJ nds (o.pl.getD st []) bs p.n).take p.k)) ∧ (((upJ nds (o.pl.getD st []) bs p.n).take p.k).length = kk) ∧ (kk < p.k → aw + kk = p.n) ∧ (aw ≤ p.n) ∧ Sep W0 w (own 123 2 (.slice oa kk oc) kk cso :: row b1 273 [(.int .u32 (o.num.toNat : Int)), (.string ⟨#[o.nm]⟩), (I (o.len : Int)), (I (o.cnt : Int)), (I (o.pc : Int)), (.slice a o.pl.length cp)] :: pool f2 :: rackA f2 p.x p.c sz NC (q + p.n) p.nn nds :: L)) ?_ ?_
 · refine rSeq (rReg (oV (xFA (j' := 5) underlying273 rfl sizeOf271 rfl rfl) rfl (oV (xLoad hs3 isAgg271 rfl (i := 0) rfl rfl) rfl (oV (xMove rfl) rfl ?_))))
   obtain ⟨b4, off5, rfl⟩ := Reads.at hv (by omega)
   refine oV (xIA (o' := off5 + st) underlying271 sizeOf276 rfl rfl (by omega) (by omega) (by omega)) rfl ?_
   obtain ⟨a6, cp7, he8, hb9⟩ := PlR.get hp st (by omega)
   refine oV (xLoadC isAgg276 rfl (Reads.cell hv hs3 (i := 1) rfl he8)) rfl (oV (xB1 rfl (rLenS underlying276)) rfl (oV (xMove rfl) rfl (oEnd (kSeq (rBlk ?_)))))
   replace hs3 := Sep.nil 123 2 hs3
   have e0 : q = q + 0 := rfl
   rw [e0] at hs3
   refine rLoop (fun mz e w => ∃ (j : Nat) (kk : Nat) (aw : Nat) (oa : Option Addr) (oc : Nat) (cso : List Value) (f10 : HF), p.n - j = mz ∧ e = [(0, (ptr h)), (2, (I (st : Int))), (4, (ptr b1)), (6, (.slice none 0 0)), (7, (I 0)), (33, (.slice a6 ((o.pl.getD st []).length) cp7)), (34, (I ((o.pl.getD st []).length : Int))), (8, (.slice oa kk oc)), (9, (I (aw : Int))), (35, (I (j : Int)))] ∧ (j ≤ p.n) ∧ (PsR f10 cso (upJ nds (o.pl.getD st []) bs j)) ∧ ((upJ nds (o.pl.getD st []) bs j).length = kk) ∧ (kk ≤ p.k) ∧ (aw + kk = j) ∧ (FLe f f10) ∧ (HallP f10 h p) ∧ (PR f10 h [(ptr p.c), (ptr p.x), (ptr p.wp), (ptr p.pp), (ptr p.qp), s5, s6, (I (p.piece : Int)), s8, s9, s10, s11, s12, s13, s14, s15, (ptr p.tp), (ptr p.bk), (.map (some p.bad)), (I 0), s20, (.bool false), s22]) ∧ (CodeP f10 p.c p.n p.k) ∧ (Reads f10 1 (.slice (some ⟨b4, off5, none⟩) o.pl.length cp) o.pl.length us) ∧ (PlR f10 us o.pl) ∧ (Reads f10 2 (.slice a6 ((o.pl.getD st []).length) cp7) ((o.pl.getD st []).length) (plC (o.pl.getD st []))) ∧ Sep W0 w (own 123 2 (.slice oa kk oc) kk cso :: row b1 273 [(.int .u32 (o.num.toNat : Int)), (.string ⟨#[o.nm]⟩), (I (o.len : Int)), (I (o.cnt : Int)), (I (o.pc : Int)), (.slice (some ⟨b4, off5, none⟩) o.pl.length cp)] :: pool f10 :: rackA f10 p.x p.c sz NC (q + j) p.nn nds :: L)) ⟨_, _, ⟨0, 0, 0, _, _, [], f, rfl, rfl, (by omega), (PsR.nil), (rfl), (by omega), (rfl), (FLe.refl _), (hh), (hh0), (hcode), (hv), (hp), (hb9), hs3⟩, ⟨rfl, rfl, rfl, rfl, rfl, rfl, rfl, rfl, rfl, rfl, trivial⟩⟩ ?_
   clear hs3; rintro mz e w ⟨j, kk, aw, oa, oc, cso, f10, rfl, rfl, hj, hpr, hkk, hkk2, haw, hle11, hh, hh0, hcode, hv, hp, hb9, hs⟩
   refine rSeq (rReg (oV (xCmp rfl rfl rLss) rfl (oEnd (kSeq (rSeq ?_)))))
   refine rCondD rfl (fun hc12 => ?_) (fun hc12 => ?_)
   · have hplat := hplk.at (i := j) (by omega)
     obtain ⟨nd, hnd⟩ : ∃ nd, nds[(o.pl.getD st []).getD j 0]? = some nd := ⟨_, List.getElem?_eq_getElem (by omega)⟩
     obtain ⟨hcok, hcn, hcd, hcu⟩ := read_ok (sz := sz) (NC := NC) hnd (hst j (by omega)) (by rw [hbl j (by omega)]; exact hkz)
     refine rSkip (kSeq (rSeq (rBlk (rSeq (rReg (oV (xMove rfl) rfl ?_))))))
     obtain ⟨b13, off14, rfl⟩ := Reads.at hb9 (by omega)
     refine oV (xIA (o' := off14 + j * 2) underlying276 sizeOf278 rfl rfl (by omega) (by omega) (by omega)) rfl (oV (xLoadGC isAgg278 sizeOf278 rfl rfl (reads_cells hb9 hs (i := 2) rfl (plC_take (by omega)))) rfl (oAlloc hs zeroValue278 rfl rfl ?_))
     intro b15 w16 hs17; clear hs
     refine oV (xAssign rfl) rfl (oStoreG hs17 sizeOf278 rfl rfl rfl rfl (i := 0) rfl rfl ?_)
     intro w18 hs19; clear hs17; dsimp only [List.set, putAt] at hs19
     refine oEnd (kSeq (rSeq (rSeq (rReg (oV (xMove rfl) rfl (oV (xB1 rfl (rLenS underlying121)) rfl (oV (xMove rfl) rfl (oV (xNil rfl) rfl (oV (xFA (j' := 0) underlying266 rfl sizeOf116 rfl rfl) rfl (oV (xLoadC isAgg116 rfl (PR.cell hh0 hs19 (i := 3) rfl rfl)) rfl ?_))))))))))
     replace hs19 := hs19.f3
     refine oCall call172 rfl rfl (ck_s hcode hs19) ?_
     rintro _ w20 ⟨rfl, hs21⟩; clear hs19
     refine oV (xCmp rfl rfl rEql) rfl (oEnd (kSeq ?_))
     refine rCondD rfl (fun hc22 => ?_) (fun hc22 => ?_)
     · have hs23 := Sep.imp (i := 4) (A' := rackA f10 p.x p.c sz NC (q + p.n) p.nn nds) rfl (fun h => rackA_mono (FLe.refl _) (by omega) h) hs21; dsimp only [List.set] at hs23; clear hs21
       have hps : (upJ nds (o.pl.getD st []) bs j) = (upJ nds (o.pl.getD st []) bs p.n).take p.k := upJ_take (by omega) (by omega)
       replace hs23 := hs23.d1
       replace hs23 := hs23.f3
       replace hs23 := hs23.f1
       replace hs23 := hs23.f3
       replace hs23 := hs23.f3
       exact rExit (kSeqX (kBlkX rfl (kSeqX (kLoopX (kBlkH (kCut _ ⟨f10, _, _, _, _, _, rfl, (hle11), (by rw [← hps]; exact hpr), (by rw [← hps]; exact hkk), (fun hlt => absurd hlt (by omega)), (by omega), hs23⟩ ⟨rfl, rfl, rfl, rfl, rfl, rfl, rfl, trivial⟩))))))
     · refine rSkip (kSeq (rSeq (rReg (oV (xLoadG hs21 isAgg273 sizeOf273 rfl (i := 3) rfl rfl) rfl (oV (xMove rfl) rfl (oV (xMove rfl) rfl (oCall call145 rfl rfl (hshard_s (o := o) hv hp st j (by omega) (by omega) hs21) ?_)))))))
       rintro _ w24 ⟨rfl, hs25⟩; clear hs21
       refine oV (xMove rfl) rfl (oV (xExtract rfl rfl) rfl (oV (xExtract rfl rfl) rfl (oAlloc hs25 zeroValue280 rfl rfl ?_)))
       intro b26 w27 hs28; clear hs25
       refine oStoreG hs28 sizeOf280 rfl rfl rfl rfl (i := 0) rfl rfl ?_
       intro w29 hs30; clear hs28; dsimp only [List.set, putAt] at hs30
       refine oV (xAssign rfl) rfl (oEnd (kSeq (rSeq (rReg (oV (xMove rfl) rfl (oV (xFA (j' := 0) underlying278 rfl sizeOf3 rfl rfl) rfl (oV (xLoad hs30 isAgg3 rfl (i := 2) rfl rfl) rfl (oV (xLoadG hs30 isAgg280 sizeOf280 rfl (i := 0) rfl rfl) rfl (oV (xBuild (v := (.agg #[(.int .u64 0), (I 3), (.int .u32 ((shN o.num st j).o.toNat : Int)), (.int .u16 ((shN o.num st j).st.toNat : Int)), (.int .u16 ((shN o.num st j).sl.toNat : Int)), (.int .u32 ((shN o.num st j).g.toNat : Int)), (.int .u16 0), (.slice none 0 0)])) rfl (fun w => by kernel_rfl)) rfl ?_)))))))))
       replace hs30 := hs30.f5
       replace hs30 := hs30.f2
       refine oCall call223 rfl rfl (hcall_s hh (i := (((o.pl.getD st []).getD j 0 : Nat))) (kd := 3) (s := (shN o.num st j)) (l := []) RB.nil hnd (by omega) hNC hsz (by simp) hcok hs30) ?_
       rintro _ w37 ⟨f31, a32, m33, bc34, rfl, hle35, hb36, hs38⟩; clear hs30; have hl39 := RB.len hb36
       replace hh := hh.mono hle35
       replace hh0 := hh0.mono hle35
       replace hcode := hcode.mono hle35
       replace hv := hv.mono hle35
       replace hp := hp.mono hle35
       replace hb9 := hb9.mono hle35
       replace hpr := hpr.mono hle35
       refine oV (xMove rfl) rfl (oV (xExtract rfl rfl) rfl (oV (xExtract rfl rfl) rfl (oV (xAssign rfl) rfl (oV (xAssign rfl) rfl (oEnd (kSeq (rBlk (rSeq (Run.sub (e' := [(0, (ptr h)), (2, (I (st : Int))), (4, (ptr b1)), (6, (.slice none 0 0)), (7, (I 0)), (33, (.slice (some ⟨b13, off14, none⟩) ((o.pl.getD st []).length) cp7)), (34, (I ((o.pl.getD st []).length : Int))), (8, (.slice oa kk oc)), (9, (I (aw : Int))), (35, (I (j : Int))), (10, (I (j : Int))), (12, (ptr b26)), (14, (.slice a32 m33 bc34)), (15, (I (era nd.up)))]) ⟨rfl, rfl, rfl, rfl, rfl, rfl, rfl, rfl, rfl, rfl, rfl, rfl, rfl, rfl, trivial⟩ ?_)))))))))
       refine rReg (oV (xMove rfl) rfl (oV (xCmp rfl rfl rEql) rfl (oV (xAssign rfl) rfl (oEnd (kSeq ?_)))))
       refine rCondD rfl (fun hc40 => ?_) (fun hc40 => ?_)
       · have hup : nd.up = false := by cases hx : nd.up with | false => rfl | true => rw [hx] at hc40; exact absurd hc40 (by decide)
         have hupj := hcu.trans hup
         rw [hcn] at hs38
         refine rReg (oV (xMove rfl) rfl (oV (xAr rfl rfl (rAdd (wI (by omega) (by omega)))) rfl (oV (xAssign rfl) rfl (oEnd (kBlk (kBlk (kSeq (rReg (oV (xAr rfl rfl (rAdd (wI (by omega) (by omega)))) rfl (oV (xMove rfl) rfl ?_))))))))))
         replace hs38 := hs38.d3
         replace hs38 := hs38.d2
         replace hs38 := hs38.f1
         replace hs38 := hs38.f1
         replace hs38 := hs38.f3
         replace hs38 := hs38.f3
         exact oEnd (kLoop (p.n - (j + 1)) _ (by omega) ⟨j + 1, kk, aw + 1, _, _, _, f31, rfl, rfl, (by omega), (by rw [upJ_dn hupj]; exact hpr), (by rw [upJ_dn hupj]; exact hkk), (by omega), (by omega), (FLe.trans hle11 hle35), (hh), (hh0), (hcode), (hv), (hp), (hb9), hs38⟩ ⟨rfl, rfl, rfl, rfl, rfl, rfl, rfl, rfl, rfl, rfl, trivial⟩)
       · have hup : nd.up = true := by cases hx : nd.up with | true => rfl | false => rw [hx] at hc40; exact absurd rfl hc40
         have hupj := hcu.trans hup
         rw [hcd hup] at hb36; have hbj := RB.len hb36; have hbj2 := hbl j (by omega)
         rw [hcn] at hs38
         refine rSeq (rReg (oV (xMove rfl) rfl (oV (xCmp (r := true) rfl rfl (bT (by rw [hup]; rfl) rEql)) rfl (oV (xMove rfl) rfl (oGuardT rfl rfl (oV (xMove rfl) rfl (oGuardT rfl rfl (oV (xB1 rfl (rLenS underlying26)) rfl (oGuardT rfl rfl (oV (xMove rfl) rfl (oGuardT rfl rfl (oV (xLoadG hs38 isAgg273 sizeOf273 rfl (i := 5) rfl rfl) rfl (oGuardT rfl rfl (oCall call285 rfl rfl (ssize_s hh (o := o) (cp := cp) hpc2 hs38) ?_))))))))))))))
         rintro _ w41 ⟨rfl, hs42⟩; clear hs38
         refine oGuardT rfl rfl (oV (xCmp (r := true) rfl rfl (bT (by omega) rEql)) rfl (oV (xPickT rfl rfl) rfl (oV (xAssign rfl) rfl (oEnd (kSeq (rCondT rfl (rSeq (rReg (oV (xMove rfl) rfl (oV (xMove rfl) rfl (oV (xMove rfl) rfl (oV (xBuild (v := (.agg #[(I (j : Int)), (.slice a32 m33 bc34)])) rfl (fun w => by kernel_rfl)) rfl (oBuildSlice (el := 123) (cs := [(I (j : Int)), (.slice a32 m33 bc34)]) hs42 rfl (fun w => by kernel_rfl) rfl ?_)))))))))))))
         intro b43 w44 hs45; clear hs42
         refine oAppend (inf := Tryz.t123) (size := 2) (bytes := 32) hs45 (i := 5) rfl underlying121 (by kernel_rfl) rfl rfl rfl rfl rfl rfl rfl (src_row hs45 (i := 0) rfl rfl rfl) (by first | omega | (simp only [List.length_append, List.length_cons, List.length_nil, List.length_map]; omega)) (by first | omega | (simp only [List.length_append, List.length_cons, List.length_nil, List.length_map]; omega)) rfl ?_
         intro a46 c47 w48 hs49; clear hs45; dsimp only [List.set] at hs49
         refine oV (xAssign rfl) rfl (oEnd (kSeq (rReg (oV (xMove rfl) rfl (oV (xLoadG hs49 isAgg280 sizeOf280 rfl (i := 3) rfl rfl) rfl ?_)))))
         replace hs49 := hs49.f1
         refine oCall call224 rfl rfl (hnote_s hh (shN o.num st j) hs49) ?_
         intro r50 w51 hs52; clear hs49
         refine oEnd (kBlk (kBlk (kSeq (rReg (oV (xAr rfl rfl (rAdd (wI (by omega) (by omega)))) rfl (oV (xMove rfl) rfl ?_))))))
         replace hs52 := hs52.d4
         replace hs52 := hs52.d3
         replace hs52 := hs52.d1
         replace hs52 := hs52.f1
         replace hs52 := hs52.f1
         replace hs52 := hs52.f3
         replace hs52 := hs52.f3
         exact oEnd (kLoop (p.n - (j + 1)) _ (by omega) ⟨j + 1, kk + 1, aw, _, _, _, f31, rfl, rfl, (by omega), (PsR.snoc hpr hb36 |> fun h => by rw [upJ_up hupj]; exact h), (by rw [upJ_up hupj, List.length_append, hkk]; rfl), (by omega), (by omega), (FLe.trans hle11 hle35), (hh), (hh0), (hcode), (hv), (hp), (hb9), hs52⟩ ⟨rfl, rfl, rfl, rfl, rfl, rfl, rfl, rfl, rfl, rfl, trivial⟩)
   · have hs53 := Sep.imp (i := 3) (A' := rackA f10 p.x p.c sz NC (q + p.n) p.nn nds) rfl (fun h => rackA_mono (FLe.refl _) (by omega) h) hs; dsimp only [List.set] at hs53; clear hs
     have hjn : j = p.n := by omega
     have hps : (upJ nds (o.pl.getD st []) bs j) = (upJ nds (o.pl.getD st []) bs p.n).take p.k := by rw [hjn] at hkk ⊢; exact (List.take_of_length_le (by omega)).symm
     exact rExit (kSeqX (kLoopX (kBlkH (kCut _ ⟨f10, _, _, _, _, _, rfl, (hle11), (by rw [← hps]; exact hpr), (by rw [← hps]; exact hkk), (fun _ => by omega), (by omega), hs53⟩ ⟨rfl, rfl, rfl, rfl, rfl, rfl, rfl, trivial⟩))))
 clear hs3; rintro e w ⟨f2, kk, aw, oa, oc, cso, rfl, hle2, hpr, hkk, haw, haw2, hs⟩
 replace hh := hh.mono hle2
 replace hh0 := hh0.mono hle2
 replace hbk := hbk.mono hle2
 replace hqp := hqp.mono hle2
 replace hbad := hbad.mono hle2
 replace hqm := hqm.mono hle2
 replace hcode := hcode.mono hle2
 replace hv := hv.mono hle2
 replace hp := hp.mono hle2
 have hkle : kk ≤ p.k := by rw [← hkk]; exact List.length_take_le _ _
 refine rSeq (rReg (oV (xMove rfl) rfl (oV (xLoadG hs isAgg273 sizeOf273 rfl (i := 1) rfl rfl) rfl (oV (xMove rfl) rfl ?_))))
 replace hs := hs.f2
 refine oCall call225 rfl rfl (hrank_s hh (o := o) hv hp st (by omega) (by omega) hs) ?_
 intro r54 w55 hs56; clear hs
 refine oEnd (kSeq (rSeq (rBlk (rSeq (rReg (oV (xMove rfl) rfl (oV (xB1 rfl (rLenS underlying121)) rfl (oV (xMove rfl) rfl (oV (xNil rfl) rfl (oV (xFA (j' := 0) underlying266 rfl sizeOf116 rfl rfl) rfl (oV (xLoadC isAgg116 rfl (PR.cell hh0 hs56 (i := 0) rfl rfl)) rfl (oCall call172 rfl rfl (ck_s hcode hs56) ?_))))))))))))
 rintro _ w57 ⟨rfl, hs58⟩; clear hs56
 refine oV (xCmp (r := true) rfl rfl (bT (by have := List.length_take (i := p.k) (l := (upJ nds (o.pl.getD st []) bs p.n)); omega) rEql)) rfl (oV (xAssign rfl) rfl (oEnd (kSeq (rCondT rfl (rSeq (rReg ?_))))))
 replace hs58 := hs58.f1
 replace hs58 := hs58.f1
 obtain ⟨f59, hle60, hv61, hs62⟩ := Sep.freezeOwn (i := 0) hs58 rfl; clear hs58; dsimp only [List.eraseIdx] at hs62
 replace hh := hh.mono hle60
 replace hh0 := hh0.mono hle60
 replace hbk := hbk.mono hle60
 replace hqp := hqp.mono hle60
 replace hbad := hbad.mono hle60
 replace hqm := hqm.mono hle60
 replace hcode := hcode.mono hle60
 replace hv := hv.mono hle60
 replace hp := hp.mono hle60
 replace hpr := hpr.mono hle60
 have hs63 := Sep.imp (i := 2) (A' := rackA f59 p.x p.c sz NC (q + p.n) p.nn nds) rfl (fun h => rackA_mono hle60 (Nat.le_refl _) h) hs62; dsimp only [List.set] at hs63; clear hs62
 refine oV (xMove rfl) rfl (oV (xNil rfl) rfl (oV (xFA (j' := 0) underlying266 rfl sizeOf116 rfl rfl) rfl (oV (xLoadC isAgg116 rfl (PR.cell hh0 hs63 (i := 0) rfl rfl)) rfl (oV (xMove rfl) rfl ?_))))
 have hpok : PsOk ((upJ nds (o.pl.getD st []) bs p.n).take p.k) p.n ((p.k - 1) * o.pc) := upJ_ok (Nat.le_refl _) hbl
 have hkeq : kk = p.k := by rw [← hkk, List.length_take]; omega
 have htt : ((upJ nds (o.pl.getD st []) bs p.n).take p.k).take p.k = (upJ nds (o.pl.getD st []) bs p.n).take p.k := by rw [List.take_take, Nat.min_self]
 refine oCall call49 rfl rfl (cdec_s hcode hv61 hpr hkk hpok o.pc hpc1 (by omega) rfl (by omega) (by omega) (by rw [htt]; exact hd) hs63) ?_
 rintro _ w69 ⟨f64, a65, c66, rfl, hle67, hb68, hs70⟩; clear hs63; rw [htt] at hb68
 replace hh := hh.mono hle67
 replace hh0 := hh0.mono hle67
 replace hbk := hbk.mono hle67
 replace hqp := hqp.mono hle67
 replace hbad := hbad.mono hle67
 replace hqm := hqm.mono hle67
 replace hcode := hcode.mono hle67
 replace hv := hv.mono hle67
 replace hp := hp.mono hle67
 replace hpr := hpr.mono hle67
 replace hv61 := hv61.mono hle67
 refine oV (xExtract rfl rfl) rfl (oV (xExtract rfl rfl) rfl (oV (xAssign rfl) rfl (oV (xAssign rfl) rfl (oEnd (kSeq (rRet (kBlkR (kSeqR (kFin (.tmp rfl (.tmp rfl (.nil))) ?_)))))))))
 have hs71 := Sep.imp (i := 2) (A' := rackA f64 p.x p.c sz NC (q + p.n) p.nn nds) rfl (fun h => rackA_mono hle67 (Nat.le_refl _) h) hs70; dsimp only [List.set] at hs71; clear hs70
 replace hs71 := hs71.d1
 exact ⟨_, _, _, rfl, (FLe.trans hle2 (FLe.trans hle60 hle67)), hb68, hs71⟩
end Go.Sl
namespace Go.Sl
open Go.Proofs Go.Proofs.Tryz
structure RdOk (p : Hp) (nds : List Nd) (o : Ob) (bss : List (List LB)) (i : Nat) : Prop where
 pl : PlOk p.n p.nn (o.pl.getD i [])
 st : ∀ j, j < p.n → isUp nds ((o.pl.getD i []).getD j 0) = true → look nds ((o.pl.getD i []).getD j 0) (shN o.num i j) = some ((bss.getD i []).getD j [])
 len : ∀ j, j < p.n → ((bss.getD i []).getD j []).length = (p.k - 1) * o.pc
def rdPs (p : Hp) (nds : List Nd) (o : Ob) (bss : List (List LB)) (i : Nat) : List Prt := upJ nds (o.pl.getD i []) (bss.getD i []) p.n
structure GetOk (p : Hp) (nds : List Nd) (o : Ob) (bss : List (List LB)) (rows : LL) (i : Nat) : Prop extends RdOk p nds o bss i where
 ge : p.k ≤ (rdPs p nds o bss i).length
 dec : DecOk p.n p.k ((rdPs p nds o bss i).take p.k)
 row : dUp p.n p.k o.pc ((rdPs p nds o bss i).take p.k) o.pc = rows.getD i []
theorem rows_take1 {rows : LL} {i : Nat} (h : i < rows.length) : rows.take (i + 1) = rows.take i ++ [rows.getD i []] := by
 rw [List.take_add_one, List.getD_eq_getElem?_getD, List.getElem?_eq_getElem h]; rfl
theorem sget_s {W0 w : World} {L : List Asn} {f : HF} {h : Nat} {p : Hp} (hh : HallP f h p) {n cp : Nat} {nx la : UInt32} {a : Option Addr} {cs : List Value} {obs : List Ob} (hv : Reads f 6 (.slice a n cp) n cs) (ho : ObsR f cs obs) (hn : obs.length = n) {sz NC q ix : Nat} {nds : List Nd} {o : Ob} {bss : List (List LB)} (hix : obs[ix]? = some o) (hsort : SortO obs) (hB : ObsB obs) (hn2 : n ≤ 64) (hopl : o.pl.length = o.cnt) (hcnt : o.cnt ≤ 32) (hndl : nds.length = p.nn) (hpc1 : 1 ≤ o.pc) (hpc2 : o.pc ≤ 256) (hn24 : p.n ≤ 24) (hq : q + 10000 ≤ 1152921504606846976) (hNC : NC ≤ 1000000) (hsz : sz ≤ 60000) {rows : LL} (hget : ∀ i, i < o.pl.length → GetOk p nds o bss rows i) (hrl : rows.length = o.cnt) (hrowl : ∀ x ∈ rows, x.length = p.k * (p.k - 1) * o.pc) (hlen : o.len ≤ o.cnt * (p.k * (p.k - 1) * o.pc)) (hs : Sep W0 w (pool f :: rackA f p.x p.c sz NC q p.nn nds :: row p.t 365 [I (p.n : Int), I (p.nn : Int), U nx, U la, .slice a n cp] :: L)) : Calls Tryz.prog 151 [ptr h, nmS o.nm].toArray w (Ret fun r w' => ∃ f' a', r = .tuple #[.slice a' o.len o.len, .int .i64 0] ∧ FLe f f' ∧ RB f' a' o.len o.len (rows.flatten.take o.len) ∧ Sep W0 w' (pool f' :: rackA f' p.x p.c sz NC (q + o.pl.length * p.n) p.nn nds :: row p.t 365 [I (p.n : Int), I (p.nn : Int), U nx, U la, .slice a n cp] :: L)) := by
 obtain ⟨⟨s5, s6, s8, s9, s10, s11, s12, s13, s14, s15, s20, s22, hh0⟩, hbk, hqp, hbad, hqm, hcode⟩ := id hh
 have hopw := hB.pl (List.mem_of_getElem? hix)
 have hqb : ∀ i, i < o.pl.length → i * p.n ≤ 768 := fun i hi => by have : i * p.n ≤ 32 * 24 := Nat.mul_le_mul (by omega) hn24; omega
 refine enter (args := [(ptr h), (.string ⟨#[o.nm]⟩)]) (n := 54) (rs := [.tmp 4, .tmp 5]) func151 rfl rfl rfl rfl ?_
 refine rSeq (rReg (oV (xAssign rfl) rfl (oV (xAssign rfl) rfl (oEnd (kSeq (rSeq (rSeq (rReg (oV (xMove rfl) rfl (oV (xBin (r := .bool false) rfl rfl (fun _ => rfl) (fun w => by kernel_rfl)) rfl (oEnd (kSeq (rCondF rfl (rSkip (kSeq (rSeq (rReg (oV (xMove rfl) rfl (oCall call143 rfl rfl (htable_s hh hs) ?_)))))))))))))))))))
 rintro _ w1 ⟨rfl, hs2⟩; clear hs
 refine oV (xMove rfl) rfl ?_
 replace hs2 := hs2.f2
 replace hs2 := hs2.f1
 refine oCall call144 rfl rfl (tfind_s hv ho hn hsort hB hn2 hix hs2) ?_
 rintro _ w10 ⟨f3, a4, cp5, us6, rfl, hle7, hv8, hp9, hs11⟩; clear hs2
 replace hh := hh.mono hle7
 replace hh0 := hh0.mono hle7
 replace hbk := hbk.mono hle7
 replace hqp := hqp.mono hle7
 replace hbad := hbad.mono hle7
 replace hqm := hqm.mono hle7
 replace hcode := hcode.mono hle7
 replace hv := hv.mono hle7
 replace ho := ho.mono hle7
 refine oV (xMove rfl) rfl (oV (xExtract rfl rfl) rfl (oV (xExtract rfl rfl) rfl (oAlloc hs11 zeroValue273 rfl rfl ?_)))
 intro b12 w13 hs14; clear hs11
 refine oStoreG hs14 sizeOf273 rfl rfl rfl rfl (i := 0) rfl rfl ?_
 intro w15 hs16; clear hs14; dsimp only [List.set, putAt] at hs16
 refine oV (xAssign rfl) rfl (oEnd (kSeq (rSeq (rSeq (rReg (oV (xMove rfl) rfl (oV (xNot rfl) rfl (oEnd (kSeq (rCondF rfl (rSkip (kSeq (rSeq (rReg (oV (xAssign rfl) rfl (oEnd (kSeq (rSeq (rSeq (rReg (oV (xFA (j' := 5) underlying273 rfl sizeOf271 rfl rfl) rfl (oV (xLoad hs16 isAgg271 rfl (i := 0) rfl rfl) rfl (oV (xB1 rfl (rLenS underlying271)) rfl (oV (xMove rfl) rfl (oEnd (kSeq (rBlk ?_)))))))))))))))))))))))))))
 replace hs16 := Sep.nil 26 1 hs16
 have hs17 := Sep.imp (i := 4) (A' := rackA f3 p.x p.c sz NC q p.nn nds) rfl (fun h => rackA_mono hle7 (Nat.le_refl _) h) hs16; dsimp only [List.set] at hs17; clear hs16
 have e0 : q = q + 0 * p.n := by omega
 rw [e0] at hs17
 replace hs17 := hs17.f3
 replace hs17 := hs17.f4
 replace hs17 := hs17.f4
 replace hs17 := hs17.f4
 replace hs17 := hs17.f4
 refine rLoop (fun mz e w => ∃ (i : Nat) (oa : Option Addr) (oc : Nat) (vso : List Value) (f18 : HF), o.pl.length - i = mz ∧ e = [(0, (ptr h)), (4, (.slice none 0 0)), (5, (I 0)), (6, (ptr b12)), (25, (I (o.pl.length : Int))), (8, (.slice oa i oc)), (26, (I (i : Int)))] ∧ (i ≤ o.pl.length) ∧ (RR f18 vso (rows.take i)) ∧ (FLe f3 f18) ∧ (HallP f18 h p) ∧ (PR f18 h [(ptr p.c), (ptr p.x), (ptr p.wp), (ptr p.pp), (ptr p.qp), s5, s6, (I (p.piece : Int)), s8, s9, s10, s11, s12, s13, s14, s15, (ptr p.tp), (ptr p.bk), (.map (some p.bad)), (I 0), s20, (.bool false), s22]) ∧ (CodeP f18 p.c p.n p.k) ∧ (Reads f18 1 (.slice a4 o.pl.length cp5) o.pl.length us6) ∧ (PlR f18 us6 o.pl) ∧ Sep W0 w (own 26 1 (.slice oa i oc) i vso :: row b12 273 [(.int .u32 (o.num.toNat : Int)), (.string ⟨#[o.nm]⟩), (I (o.len : Int)), (I (o.cnt : Int)), (I (o.pc : Int)), (.slice a4 o.pl.length cp5)] :: pool f18 :: rackA f18 p.x p.c sz NC (q + i * p.n) p.nn nds :: row p.t 365 [(I (p.n : Int)), (I (p.nn : Int)), (.int .u32 (nx.toNat : Int)), (.int .u32 (la.toNat : Int)), (.slice a n cp)] :: L)) ⟨_, _, ⟨0, _, _, [], f3, rfl, rfl, (by omega), (RR.nil), (FLe.refl _), (hh), (hh0), (hcode), (hv8), (hp9), hs17⟩, ⟨rfl, rfl, rfl, rfl, rfl, rfl, rfl, trivial⟩⟩ ?_
 clear hs17; rintro mz e w ⟨i, oa, oc, vso, f18, rfl, rfl, hi, hro, hle19, hh, hh0, hcode, hv8, hp9, hs⟩
 refine rSeq (rReg (oV (xCmp rfl rfl rLss) rfl (oEnd (kSeq (rSeq ?_)))))
 refine rCondD rfl (fun hc20 => ?_) (fun hc20 => ?_)
 · refine rSkip (kSeq (rSeq (rBlk (rSeq (rReg (oV (xMove rfl) rfl (oV (xAssign rfl) rfl (oEnd (kSeq (rSeq (rReg (oV (xMove rfl) rfl (oV (xLoadG hs isAgg273 sizeOf273 rfl (i := 1) rfl rfl) rfl (oV (xMove rfl) rfl ?_))))))))))))))
   replace hs := hs.f3
   replace hs := hs.f3
   have hg := hget i (by omega); have hqm := hqb i (by omega)
   refine oCall call221 rfl rfl (sread_s hh hv8 hp9 (st := i) (bs := bss.getD i []) (by omega) hg.pl hndl hg.st hg.len hpc1 hpc2 (by omega) (by omega) (by omega) hNC hsz hg.ge hg.dec hs) ?_
   rintro _ w26 ⟨f21, a22, c23, rfl, hle24, hb25, hs27⟩; clear hs; rw [show dUp p.n p.k o.pc ((upJ nds (o.pl.getD i []) (bss.getD i []) p.n).take p.k) o.pc = rows.getD i [] from hg.row] at hb25
   replace hh := hh.mono hle24
   replace hh0 := hh0.mono hle24
   replace hcode := hcode.mono hle24
   replace hv8 := hv8.mono hle24
   replace hp9 := hp9.mono hle24
   replace hro := hro.mono hle24
   refine oV (xMove rfl) rfl (oV (xExtract rfl rfl) rfl (oV (xExtract rfl rfl) rfl (oV (xAssign rfl) rfl (oV (xAssign rfl) rfl (oEnd (kSeq (rSeq (rSeq (rReg (oV (xMove rfl) rfl (oV (xCmp (r := false) rfl rfl rNeq) rfl (oEnd (kSeq (rCondF rfl (rSkip (kSeq (rReg (oV (xMove rfl) rfl (oV (xMove rfl) rfl (oBuildSlice (el := 26) (cs := [(.slice a22 (p.k * (p.k - 1) * o.pc) c23)]) hs27 rfl (fun w => by kernel_rfl) rfl ?_))))))))))))))))))))
   intro b28 w29 hs30; clear hs27
   refine oAppend (inf := Tryz.t26) (size := 1) (bytes := 24) hs30 (i := 3) rfl underlying22 (by kernel_rfl) rfl rfl rfl rfl rfl rfl rfl (src_row hs30 (i := 0) rfl rfl rfl) (by first | omega | (simp only [List.length_append, List.length_cons, List.length_nil, List.length_map]; omega)) (by first | omega | (simp only [List.length_append, List.length_cons, List.length_nil, List.length_map]; omega)) rfl ?_
   intro a31 c32 w33 hs34; clear hs30; dsimp only [List.set] at hs34
   refine oV (xAssign rfl) rfl (oEnd (kBlk (kSeq (rReg (oV (xAr rfl rfl (rAdd (wI (by omega) (by omega)))) rfl (oV (xMove rfl) rfl ?_))))))
   have e1 : q + i * p.n + p.n = q + (i + 1) * p.n := by rw [Nat.succ_mul]; omega
   rw [e1] at hs34
   replace hs34 := hs34.d0
   replace hs34 := hs34.f4
   replace hs34 := hs34.f2
   replace hs34 := hs34.f2
   replace hs34 := hs34.f4
   replace hs34 := hs34.f4
   exact oEnd (kLoop (o.pl.length - (i + 1)) _ (by omega) ⟨i + 1, _, _, _, f21, rfl, rfl, (by omega), (by rw [rows_take1 (by omega)]; exact RR.snoc hro hb25), (FLe.trans hle19 hle24), (hh), (hh0), (hcode), (hv8), (hp9), hs34⟩ ⟨rfl, rfl, rfl, rfl, rfl, rfl, rfl, trivial⟩)
 · obtain rfl : i = o.cnt := by omega
   have hrw : rows.take o.cnt = rows := List.take_of_length_le (by omega)
   replace hs := hs.f2
   obtain ⟨f35, hle36, hv37, hs38⟩ := Sep.freezeOwn (i := 0) hs rfl; clear hs; dsimp only [List.eraseIdx] at hs38
   replace hh := hh.mono hle36
   replace hh0 := hh0.mono hle36
   replace hcode := hcode.mono hle36
   replace hv8 := hv8.mono hle36
   replace hp9 := hp9.mono hle36
   replace hro := hro.mono hle36
   have hs39 := Sep.imp (i := 2) (A' := rackA f35 p.x p.c sz NC (q + o.cnt * p.n) p.nn nds) rfl (fun h => rackA_mono hle36 (Nat.le_refl _) h) hs38; dsimp only [List.set] at hs39; clear hs38
   refine rExit (kSeqX (kLoopX (kBlkH (kSeq (rSeq ?_)))))
   refine rRegG [(none, fun w => ∃ M, Sep W0 w (pool f35 :: M)), (none, fun w => ∃ M, Sep W0 w (row b12 273 [(.int .u32 (o.num.toNat : Int)), (.string ⟨#[o.nm]⟩), (I (o.len : Int)), (I (o.cnt : Int)), (I (o.pc : Int)), (.slice a4 o.pl.length cp5)] :: M))] (by kernel_rfl) hs39 (fun w40 hs41 => ⟨?_, fun hS => ?_⟩)
   · exact ⟨⟨_, (Sep.front (i := 0) rfl hs41)⟩, ⟨_, (Sep.front (i := 1) rfl hs41)⟩, trivial⟩
   clear hs39
   refine gTake0 0 rfl (by kernel_rfl) hS (fun w => xMove rfl) rfl ?_
   clear hS; intro hS
   refine gTake0 1 rfl (by kernel_rfl) hS (fun w => xNil rfl) rfl ?_
   clear hS; intro hS
   refine gTake0 2 rfl (by kernel_rfl) hS (fun w => xFA (j' := 0) underlying266 rfl sizeOf116 rfl rfl) rfl ?_
   clear hS; intro hS
   refine gTake 3 0 rfl (by kernel_rfl) rfl (by kernel_rfl) hS (fun w hq0 => by obtain ⟨M, hq⟩ := hq0; exact xLoadC isAgg116 rfl (PR.cell hh0 hq (i := 0) rfl rfl)) rfl ?_
   clear hS; intro hS
   refine gTake0 4 rfl (by kernel_rfl) hS (fun w => xFA (j' := 2) underlying273 rfl sizeOf270 rfl rfl) rfl ?_
   clear hS; intro hS
   refine gTake 5 1 rfl (by kernel_rfl) rfl (by kernel_rfl) hS (fun w hq0 => by obtain ⟨M, hq⟩ := hq0; exact xLoadG hq isAgg270 sizeOf270 rfl (i := 0) rfl rfl) rfl ?_
   clear hS; intro hS
   refine gTake0 6 rfl (by kernel_rfl) hS (fun w => xMove rfl) rfl ?_
   clear hS; intro hS
   refine gEff 7 (by kernel_rfl) rfl ?_
   refine oCall call222 rfl rfl (pjoin_s hcode hv37 hro o.len o.pc hpc2 (by omega) (by rw [hrw]; exact hrowl) hlen hs41) ?_
   rintro _ w46 ⟨f42, a43, rfl, hle44, hb45, hs47⟩; clear hs41; rw [hrw] at hb45
   replace hh := hh.mono hle44
   replace hh0 := hh0.mono hle44
   replace hcode := hcode.mono hle44
   replace hv8 := hv8.mono hle44
   replace hp9 := hp9.mono hle44
   replace hro := hro.mono hle44
   replace hv37 := hv37.mono hle44
   refine oEnd (kG ⟨⟨_, (Sep.imp (i := 0) rfl (pool_sub hle44) (Sep.front (i := 0) rfl hs47))⟩, ⟨_, (Sep.front (i := 1) rfl hs47)⟩, trivial⟩ ?_)
   clear hS; intro hS
   refine gTake0 8 rfl (by kernel_rfl) hS (fun w => xExtract rfl rfl) rfl ?_
   clear hS; intro hS
   refine gTake0 9 rfl (by kernel_rfl) hS (fun w => xExtract rfl rfl) rfl ?_
   clear hS; intro hS
   refine gTake0 10 rfl (by kernel_rfl) hS (fun w => xAssign rfl) rfl ?_
   clear hS; intro hS
   refine gTake0 11 rfl (by kernel_rfl) hS (fun w => xAssign rfl) rfl ?_
   clear hS; intro hS
   refine gEnd (by kernel_rfl) ?_
   clear hS
   refine kSeq ?_
   refine rRet (kFin (.tmp rfl (.tmp rfl (.nil))) ?_)
   have hs48 := Sep.imp (i := 2) (A' := rackA f42 p.x p.c sz NC (q + o.cnt * p.n) p.nn nds) rfl (fun h => rackA_mono hle44 (Nat.le_refl _) h) hs47; dsimp only [List.set] at hs48; clear hs47
   replace hs48 := hs48.d1
   skip
   exact ⟨_, _, rfl, (FLe.trans hle7 (FLe.trans hle19 (FLe.trans hle36 hle44))), hb45, by rw [hopl]; exact hs48⟩
end Go.Sl
namespace Go.Sl
open Go.Proofs
section
variable {P : Program} {n : Nat} {e : Env} {w : World}
theorem xIntFloat {d : Nat} {k : IntKind} {k' : FloatKind} {x : Operand} {s t : TypeId} {ds : TypeDesc} {i : Int} {ty : TypeId} {pos : String} {af : Array Edge} (h1 : P.underlying s = some ds) (h2 : P.underlying t = some (.float k')) (hx : e.ev x = some (.int k i)) : Xq P n e w d (.convert s t x) ty pos af (.float k' (k'.nearest i)) := fun a ha => by
  simp only [execOp, convert, ha.ev hx, Sem.run_bind, run_underlying h1, run_underlying h2, Result.andThen_ok]
  cases ds <;> simp [Conv.intToFloat]
theorem rComplex {s t1 t2 : TypeId} {a b : Nat} (cs : Array Bool) (w : World) : Sem.run P (builtin .complex #[t1, t2] s cs [Value.float .f64 a, Value.float .f64 b].toArray) w = .ok (.value (.complex .f64 a b)) w := rfl
end
theorem VOk.fresh {f : HF} {sz NC : Nat} : VOk f sz NC (List.replicate NC (.slice none 0 0)) [] :=
  VOk.nil (by simp)
theorem rep_get {n i : Nat} {v : Value} (h : i < n) : (List.replicate n v)[i]? = some v := by simp [h]
abbrev Pt := Nat × Nat
def ptC (l : List Pt) : List Value := l.map (fun p => .complex .f64 p.1 p.2)
theorem ptC_get {l : List Pt} {i : Nat} (h : i < l.length) : (ptC l)[i]? = some (.complex .f64 (l.getD i (0, 0)).1 (l.getD i (0, 0)).2) := by simp [ptC, h]
theorem ptC_snoc (l : List Pt) (a b : Nat) : ptC l ++ [.complex .f64 a b] = ptC (l ++ [(a, b)]) := by simp [ptC]
end Go.Sl
namespace Go.Sl
open Go.Proofs Go.Proofs.Tryz
theorem site_s {W0 w : World} {L : List Asn} (x y : Nat) (hx : x ≤ 1048576) (hy : y ≤ 1048576) (hs : Sep W0 w L) : Calls Tryz.prog 65 [.int .i64 x, .int .i64 y].toArray w (Ret fun r w' => ∃ a b, r = .tuple #[.complex .f64 a b, .int .i64 0] ∧ Sep W0 w' L) := by
 refine enter (args := [(I (x : Int)), (I (y : Int))]) (n := 25) (rs := [.tmp 4, .tmp 5]) func65 rfl rfl rfl rfl ?_
 refine rSeq (rReg (oV (xAssign rfl) rfl (oV (xAssign rfl) rfl (oEnd (kSeq (rSeq (rSeq (rReg (oV (xMove rfl) rfl (oV (xCmp (r := false) rfl rfl (bF (by omega) rLss)) rfl (oV (xMove rfl) rfl (oGuardT rfl rfl (oV (xMove rfl) rfl (oGuardT rfl rfl (oV (xCmp (r := false) rfl rfl (bF (by omega) rGtr)) rfl (oV (xPickF rfl rfl) rfl (oV (xMove rfl) rfl (oGuardT rfl rfl (oV (xMove rfl) rfl (oGuardT rfl rfl (oV (xCmp (r := false) rfl rfl (bF (by omega) rLss)) rfl (oV (xPickF rfl rfl) rfl (oV (xMove rfl) rfl (oGuardT rfl rfl (oV (xMove rfl) rfl (oGuardT rfl rfl (oV (xCmp (r := false) rfl rfl (bF (by omega) rGtr)) rfl (oV (xPickF rfl rfl) rfl (oEnd (kSeq (rCondF rfl (rSkip (kSeq (rSeq (rReg (oV (xMove rfl) rfl (oV (xIntFloat underlying3 underlying253 rfl) rfl ?_)))))))))))))))))))))))))))))))))))))
 refine oV (xMove rfl) rfl (oV (xIntFloat underlying3 underlying253 rfl) rfl ?_)
 refine oV (xB1 rfl rComplex) rfl (oV (xAssign rfl) rfl (oV (xAssign rfl) rfl (oEnd (kSeq (rRet (kFin (.tmp rfl (.tmp rfl (.nil))) ?_))))))
 exact ⟨_, _, rfl, hs⟩
theorem dknew_s {W0 w : World} {L : List Asn} {sz NC : Nat} (h1 : 1 ≤ NC) (h2 : NC ≤ 1024) (h3 : 1 ≤ sz) (h4 : sz ≤ 4096) (hs : Sep W0 w L) : Calls Tryz.prog 269 [.int .i64 NC, .int .i64 sz].toArray w (Ret fun r w' => ∃ d da dcp, r = .tuple #[ptr d, .int .i64 0] ∧ Sep W0 w' (row d 471 [I (sz : Int), .slice da NC dcp, .slice none 0 0, I 0] :: own 26 1 (.slice da NC dcp) NC (List.replicate NC (.slice none 0 0)) :: L)) := by
 refine enter (args := [(I (NC : Int)), (I (sz : Int))]) (n := 25) (rs := [.tmp 4, .tmp 5]) func269 rfl rfl rfl rfl ?_
 refine rSeq (rReg (oV (xAssign rfl) rfl (oV (xAssign rfl) rfl (oEnd (kSeq (rSeq (rSeq (rReg (oV (xMove rfl) rfl (oV (xCmp (r := false) rfl rfl (bF (by omega) rLss)) rfl (oV (xMove rfl) rfl (oGuardT rfl rfl (oV (xMove rfl) rfl (oGuardT rfl rfl (oV (xCmp (r := false) rfl rfl (bF (by omega) rGtr)) rfl (oV (xPickF rfl rfl) rfl (oV (xMove rfl) rfl (oGuardT rfl rfl (oV (xMove rfl) rfl (oGuardT rfl rfl (oV (xCmp (r := false) rfl rfl (bF (by omega) rLss)) rfl (oV (xPickF rfl rfl) rfl (oV (xMove rfl) rfl (oGuardT rfl rfl (oV (xMove rfl) rfl (oGuardT rfl rfl (oV (xCmp (r := false) rfl rfl (bF (by omega) rGtr)) rfl (oV (xPickF rfl rfl) rfl (oEnd (kSeq (rCondF rfl (rSkip (kSeq (rSeq (rReg (oV (xMove rfl) rfl (oV (xMove rfl) rfl ?_)))))))))))))))))))))))))))))))))))))
 refine oMake (k := NC) (c := NC) (size := 1) (bytes := 24) (inf := Tryz.t26) hs underlying22 (by kernel_rfl) rfl rfl rfl rfl rfl (by omega) (by omega) (by omega) (by omega) (by omega) rfl ?_
 intro b1 w2 hs3; clear hs
 rw [made1 (.slice none 0 0) rfl] at hs3
 refine oV (xBuild (v := (.agg #[(I (sz : Int)), (.slice (some ⟨b1, 0, none⟩) NC NC), (.slice none 0 0), (I 0)])) rfl (fun w => by kernel_rfl)) rfl (oBox hs3 rfl rfl rfl ?_)
 intro b4 w5 hs6; clear hs3
 refine oV (xAssign rfl) rfl (oV (xAssign rfl) rfl (oEnd (kSeq (rRet (kFin (.tmp rfl (.tmp rfl (.nil))) ?_)))))
 exact ⟨_, _, _, rfl, hs6⟩
theorem vread0_s {W0 w : World} {L : List Asn} {f : HF} {b : Option Addr} {m bc : Nat} (hb : RB f b m bc []) (hs : Sep W0 w (pool f :: L)) : Calls Tryz.prog 210 [.slice b m bc].toArray w
   (Ret fun r w' => ∃ (f' : HF), r = .tuple #[.agg #[.int .u32 0, .int .u16 0, .int .u16 0, .int .u32 0], .slice none 0 0, .int .i64 (openE [])] ∧ FLe f f' ∧ Sep W0 w' (pool f' :: L)) := by
 refine enter (args := [(.slice b m bc)]) (n := 43) (rs := [.cell 2 280, .tmp 3, .tmp 4]) func210 rfl rfl rfl rfl ?_
 refine rSeq (rReg (oAlloc hs zeroValue280 rfl rfl ?_))
 intro b1 w2 hs3; clear hs
 refine oV (xAssign rfl) rfl (oV (xAssign rfl) rfl (oEnd (kSeq (rSeq (rReg (oV (xMove rfl) rfl ?_))))))
 replace hs3 := hs3.f1
 refine oCall call276 rfl rfl (open_s [] hb (by first | omega | (simp only [List.length_append, le_length, List.length_cons, List.length_nil, List.length_map, List.length_replicate]; omega)) hs3) ?_
 rintro _ w11 ⟨f4, a5, k6, cp7, rfl, hle8, hb9, hs12⟩; clear hs3; have hl10 := RB.len hb9
 replace hb := hb.mono hle8
 refine oV (xMove rfl) rfl (oV (xExtract rfl rfl) rfl (oV (xExtract rfl rfl) rfl (oV (xExtract rfl rfl) rfl (oV (xExtract rfl rfl) rfl (oV (xAssign rfl) rfl (oV (xAssign rfl) rfl (oV (xAssign rfl) rfl (oV (xAssign rfl) rfl (oEnd (kSeq (rSeq (rBlk (rSeq (rReg (oV (xMove rfl) rfl (oV (xCmp rfl rfl rNeq) rfl (oV (xAssign rfl) rfl (oEnd (kSeq (rCondD rfl (fun hc13 => ?_) (fun hc13 => absurd (by rw [openE_nil]; decide) hc13)))))))))))))))))))))
 refine rSeq (rReg (oV (xBuild (v := (.agg #[(.int .u32 0), (.int .u16 0), (.int .u16 0), (.int .u32 0)])) rfl (fun w => by kernel_rfl)) rfl (oV (xMove rfl) rfl (oStoreG hs12 sizeOf280 rfl rfl rfl rfl (i := 1) rfl rfl ?_))))
 intro w14 hs15; clear hs12; dsimp only [List.set, putAt] at hs15
 refine oV (xAssign rfl) rfl (oV (xAssign rfl) rfl (oEnd (kSeq (rRet (kBlkR (kSeqR (kFin (.cell rfl (run_varG hs15 isAgg280 sizeOf280 (i := 1) rfl rfl) (.tmp rfl (.tmp rfl (.nil)))) ?_)))))))
 replace hs15 := hs15.d1
 exact ⟨_, rfl, hle8, hs15⟩
theorem vopen_s {W0 w : World} {L : List Asn} {f : HF} {d sz NC dcp : Nat} {da : Option Addr} (hNC : NC ≤ 1000000) (hs : Sep W0 w (row d 471 [I (sz : Int), .slice da NC dcp, .slice none 0 0, I 0] :: own 26 1 (.slice da NC dcp) NC (List.replicate NC (.slice none 0 0)) :: pool f :: L)) : Calls Tryz.prog 334 [ptr d].toArray w
 (Ret fun r w' => ∃ f' v, r = .tuple #[ptr v, .int .i64 0] ∧ FLe f f' ∧ Sep W0 w' (vltA f' v d sz NC [] :: pool f' :: L)) := by
 refine enter (args := [(ptr d)]) (n := 57) (rs := [.tmp 2, .tmp 3]) func334 rfl rfl rfl rfl ?_
 refine rSeq (rReg (oV (xAssign rfl) rfl (oV (xAssign rfl) rfl (oEnd (kSeq (rSeq (rSeq (rReg (oV (xMove rfl) rfl (oV (xBin (r := .bool false) rfl rfl (fun _ => rfl) (fun w => by kernel_rfl)) rfl (oEnd (kSeq (rCondF rfl (rSkip (kSeq (rSeq (rReg (oV (xMove rfl) rfl (oMakeMap Sh.val hs rfl ?_)))))))))))))))))))
 intro r1 w2 hs3; clear hs
 refine oV (xBuild (v := (.agg #[(ptr d), (.map (some r1))])) rfl (fun w => by kernel_rfl)) rfl (oBox hs3 rfl rfl rfl ?_)
 intro b4 w5 hs6; clear hs3
 refine oV (xAssign rfl) rfl (oEnd (kSeq (rSeq (rReg (oV (xMove rfl) rfl ?_)))))
 replace hs6 := hs6.f2
 refine oCall call364 rfl rfl (dklen_s hs6) ?_
 rintro _ w7 ⟨rfl, hs8⟩; clear hs6
 refine oV (xMove rfl) rfl (oV (xExtract rfl rfl) rfl (oV (xExtract rfl rfl) rfl (oV (xAssign rfl) rfl (oV (xAssign rfl) rfl (oEnd (kSeq (rSeq (rSeq (rReg (oV (xMove rfl) rfl (oV (xMove rfl) rfl (oEnd (kSeq (rBlk ?_))))))))))))))
 replace hs8 := hs8.f2
 replace hs8 := hs8.f2
 replace hs8 := hs8.f4
 replace hs8 := hs8.f4
 replace hs8 := hs8.f4
 refine rLoop (fun mz e w => ∃ (i : Nat) (f9 : HF), NC - i = mz ∧ e = [(0, (ptr d)), (2, (.pointer none)), (3, (I 0)), (4, (ptr b4)), (24, (I (NC : Int))), (25, (I (i : Int)))] ∧ (i ≤ NC) ∧ (FLe f f9) ∧ Sep W0 w (row d 471 [(I (sz : Int)), (.slice da NC dcp), (.slice none 0 0), (I 0)] :: own 26 1 (.slice da NC dcp) NC (List.replicate NC (.slice none 0 0)) :: pool f9 :: row b4 380 [(ptr d), (.map (some r1))] :: mapC Sh.val r1 [] :: L)) ⟨_, _, ⟨0, f, rfl, rfl, (by omega), (FLe.refl _), hs8⟩, ⟨rfl, rfl, rfl, rfl, rfl, rfl, trivial⟩⟩ ?_
 clear hs8; rintro mz e w ⟨i, f9, rfl, rfl, hi, hle10, hs⟩
 refine rSeq (rReg (oV (xCmp rfl rfl rLss) rfl (oEnd (kSeq (rSeq ?_)))))
 refine rCondD rfl (fun hc11 => ?_) (fun hc11 => ?_)
 · refine rSkip (kSeq (rSeq (rBlk (rSeq (rReg (oV (xMove rfl) rfl (oV (xAssign rfl) rfl (oEnd (kSeq (rSeq (rReg (oV (xMove rfl) rfl (oV (xMove rfl) rfl ?_)))))))))))))
   replace hs := hs.f1
   replace hs := hs.f1
   replace hs := hs.f2
   refine oCall call211 rfl rfl (dkread_s (c := i) RB.nil (by omega) (by omega) (rep_get (by omega)) hs) ?_
   rintro _ w19 ⟨f12, a13, k14, cp15, rfl, hle16, hb17, hs20⟩; clear hs; have hl18 := RB.len hb17
   refine oCall call210 rfl rfl (vread0_s hb17 hs20) ?_
   rintro _ w23 ⟨f21, rfl, hle22, hs24⟩; clear hs20
   replace hb17 := hb17.mono hle22
   refine oV (xMove rfl) rfl (oV (xExtract rfl rfl) rfl (oV (xExtract rfl rfl) rfl (oV (xExtract rfl rfl) rfl (oAlloc hs24 zeroValue280 rfl rfl ?_))))
   intro b25 w26 hs27; clear hs24
   refine oStoreG hs27 sizeOf280 rfl rfl rfl rfl (i := 0) rfl rfl ?_
   intro w28 hs29; clear hs27; dsimp only [List.set, putAt] at hs29
   refine oV (xAssign rfl) rfl (oV (xAssign rfl) rfl (oEnd (kSeq (rSeq (rSeq (rReg (oV (xMove rfl) rfl (oV (xCmp rfl rfl rNeq) rfl (oEnd (kSeq (rCondD rfl (fun hc30 => ?_) (fun hc30 => absurd (by rw [openE_nil]; decide) hc30))))))))))))
   refine rExit (kSeqX (kBlkH (kSeq (rReg (oV (xAr rfl rfl (rAdd (wI (by omega) (by omega)))) rfl (oV (xMove rfl) rfl ?_))))))
   replace hs29 := hs29.d0
   replace hs29 := hs29.f4
   replace hs29 := hs29.f4
   replace hs29 := hs29.f2
   replace hs29 := hs29.f4
   replace hs29 := hs29.f4
   exact oEnd (kLoop (NC - (i + 1)) _ (by omega) ⟨i + 1, f21, rfl, rfl, (by omega), (FLe.trans hle10 (FLe.trans hle16 hle22)), hs29⟩ ⟨rfl, rfl, rfl, rfl, rfl, rfl, trivial⟩)
 · refine rExit (kSeqX (kLoopX (kBlkH (kSeq (rSeq (rReg (oV (xMove rfl) rfl (oV (xAssign rfl) rfl (oV (xAssign rfl) rfl (oEnd (kSeq (rRet (kFin (.tmp rfl (.tmp rfl (.nil))) ?_)))))))))))))
   replace hs := hs.f2
   replace hs := hs.f4
   replace hs := hs.f3
   replace hs := hs.f3
   replace hs := hs.f4
   exact ⟨_, _, rfl, hle10, vltA_shut (sy := 0) VOk.fresh hs⟩
end Go.Sl
namespace Go.Sl
open Go.Proofs
section
variable {W0 w : World} {L : List Asn} {f : HF} {c sz NC q : Nat} {nds : List Nd}
theorem srvL_nil (hs : Sep W0 w L) : Sep W0 w (srvL f c sz NC q [] :: L) := hs.add (A := srvL f c sz NC q []) (fun _ => trivial)
theorem srvL_snoc {nd : Nd} (hs : Sep W0 w (srvA f c nd.sv sz NC q nd.ks :: srvL f c sz NC q nds :: L)) : Sep W0 w (srvL f c sz NC q (nds ++ [nd]) :: L) := by
  have h1 := Sep.front (i := 1) rfl hs
  dsimp only [List.eraseIdx] at h1
  have h2 := Sep.open (M := srvs f c sz NC q nds) h1
  have h3 : srvs f c sz NC q (nds ++ [nd]) = srvs f c sz NC q nds ++ [srvA f c nd.sv sz NC q nd.ks] := by simp [srvs]
  rw [show srvs f c sz NC q nds ++ srvA f c nd.sv sz NC q nd.ks :: L = (srvs f c sz NC q nds ++ [srvA f c nd.sv sz NC q nd.ks]) ++ L by simp, ← h3] at h2
  exact Sep.shut _ h2
theorem nd_snoc (nds : List Nd) (nd : Nd) : nds.flatMap ndC ++ ndC nd = (nds ++ [nd]).flatMap ndC := by simp
theorem fresh_snoc {nds : List Nd} {sv ax ay : Nat} (h : ∀ nd ∈ nds, nd.up = true ∧ nd.ks = []) : ∀ nd ∈ nds ++ [(⟨sv, ax, ay, true, []⟩ : Nd)], nd.up = true ∧ nd.ks = [] := by
  intro nd hn
  rcases List.mem_append.1 hn with h1 | h1
  · exact h nd h1
  · rw [List.mem_singleton.1 h1]; exact ⟨rfl, rfl⟩
end
end Go.Sl
namespace Go.Sl
open Go.Proofs Go.Proofs.Tryz
theorem snew_s {W0 w : World} {L : List Asn} {f : HF} {c d sz NC q dcp : Nat} {da : Option Addr} (hNC : NC ≤ 1000000) (hs : Sep W0 w (row d 471 [I (sz : Int), .slice da NC dcp, .slice none 0 0, I 0] :: own 26 1 (.slice da NC dcp) NC (List.replicate NC (.slice none 0 0)) :: pool f :: L)) : Calls Tryz.prog 270 [ptr c, ptr d].toArray w
 (Ret fun r w' => ∃ f' sv, r = .tuple #[ptr sv, .int .i64 0] ∧ FLe f f' ∧ Sep W0 w' (srvA f' c sv sz NC q [] :: pool f' :: L)) := by
 refine enter (args := [(ptr c), (ptr d)]) (n := 25) (rs := [.tmp 4, .tmp 5]) func270 rfl rfl rfl rfl ?_
 refine rSeq (rReg (oV (xAssign rfl) rfl (oV (xAssign rfl) rfl (oEnd (kSeq (rSeq (rReg (oV (xMove rfl) rfl ?_))))))))
 replace hs := hs.f2
 replace hs := hs.f2
 replace hs := hs.f2
 refine oCall call334 rfl rfl (vopen_s (by omega) hs) ?_
 rintro _ w4 ⟨f1, v2, rfl, hle3, hs5⟩; clear hs
 refine oV (xMove rfl) rfl (oV (xExtract rfl rfl) rfl (oV (xExtract rfl rfl) rfl (oV (xAssign rfl) rfl (oV (xAssign rfl) rfl (oEnd (kSeq (rSeq (rBlk (rSeq (rReg (oV (xMove rfl) rfl (oV (xBin (r := .bool false) rfl rfl (fun _ => rfl) (fun w => by kernel_rfl)) rfl (oV (xAssign rfl) rfl (oEnd (kSeq (rCondF rfl (rSeq (rReg (oV (xMove rfl) rfl (oV (xCmp (r := false) rfl rfl rNeq) rfl (oV (xAssign rfl) rfl (oEnd (kSeq (rCondF rfl (rSkip (kBlk (kSeq (rSeq (rReg (oV (xMove rfl) rfl (oV (xMove rfl) rfl (oV (xMove rfl) rfl (oV (xBuild (v := (.agg #[(ptr c), (ptr d), (ptr v2), (.slice none 0 0), (.int .u64 0)])) rfl (fun w => by kernel_rfl)) rfl (oBox hs5 rfl rfl rfl ?_))))))))))))))))))))))))))))))))))
 intro b6 w7 hs8; clear hs5
 refine oV (xAssign rfl) rfl (oV (xAssign rfl) rfl (oEnd (kSeq (rRet (kFin (.tmp rfl (.tmp rfl (.nil))) ?_)))))
 replace hs8 := Sep.nil 562 2 hs8
 replace hs8 := hs8.f3
 replace hs8 := hs8.f3
 replace hs8 := hs8.f2
 replace hs8 := hs8.f3
 exact ⟨_, _, rfl, hle3, srvA_shut (vs := []) (ms := []) (n := 0) (dn := 0) rfl (by omega) (fun m hm => by cases hm) hs8⟩
theorem rnew_s {W0 w : World} {L : List Asn} {f : HF} {c sz NC nn pc : Nat} {pa : Option Addr} {pts : List Pt} (hpt : Reads f 1 (.slice pa nn pc) nn (ptC pts)) (hpl : pts.length = nn) (hnn : 1 ≤ nn) (hnn2 : nn ≤ 32) (h1 : 1 ≤ NC) (h2 : NC ≤ 1024) (h3 : 1 ≤ sz) (h4 : sz ≤ 4096) (hs : Sep W0 w (pool f :: L)) : Calls Tryz.prog 202 [ptr c, .slice pa nn pc, .int .i64 NC, .int .i64 sz].toArray w
 (Ret fun r w' => ∃ f' x nds, r = .tuple #[ptr x, .int .i64 0] ∧ FLe f f' ∧ nds.length = nn ∧ (∀ nd ∈ nds, nd.up = true ∧ nd.ks = []) ∧ Sep W0 w' (rackA f' x c sz NC 0 nn nds :: pool f' :: L)) := by
 refine enter (args := [(ptr c), (.slice pa nn pc), (I (NC : Int)), (I (sz : Int))]) (n := 67) (rs := [.tmp 8, .tmp 9]) func202 rfl rfl rfl rfl ?_
 refine rSeq (rReg (oV (xAssign rfl) rfl (oV (xAssign rfl) rfl (oEnd (kSeq (rSeq (rSeq (rReg (oV (xMove rfl) rfl (oV (xBin (r := .bool false) rfl rfl (fun _ => rfl) (fun w => by kernel_rfl)) rfl (oV (xMove rfl) rfl (oGuardT rfl rfl (oV (xMove rfl) rfl (oGuardT rfl rfl (oV (xB1 rfl (rLenS underlying145)) rfl (oGuardT rfl rfl (oV (xCmp (r := false) rfl rfl (bF (by omega) rLss)) rfl (oV (xPickF rfl rfl) rfl (oV (xMove rfl) rfl (oGuardT rfl rfl (oV (xMove rfl) rfl (oGuardT rfl rfl (oV (xB1 rfl (rLenS underlying145)) rfl (oGuardT rfl rfl (oV (xCmp (r := false) rfl rfl (bF (by omega) rGtr)) rfl (oV (xPickF rfl rfl) rfl (oEnd (kSeq (rCondF rfl (rSkip (kSeq (rSeq (rReg (oV (xMove rfl) rfl (oV (xBuild (v := (.agg #[(ptr c), (.slice none 0 0), (.int .u64 0), (.int .u64 0)])) rfl (fun w => by kernel_rfl)) rfl (oBox hs rfl rfl rfl ?_))))))))))))))))))))))))))))))))))))
 intro b1 w2 hs3; clear hs
 refine oV (xAssign rfl) rfl (oEnd (kSeq (rSeq (rSeq (rReg (oV (xMove rfl) rfl (oV (xB1 rfl (rLenS underlying145)) rfl (oV (xMove rfl) rfl (oEnd (kSeq (rBlk ?_)))))))))))
 replace hs3 := srvL_nil (f := f) (c := c) (sz := sz) (NC := NC) (q := 0) hs3
 replace hs3 := Sep.nil 367 9 hs3
 refine rLoop (fun mz e w => ∃ (i : Nat) (nds : List Nd) (la : Option Addr) (cp : Nat) (f4 : HF), nn - i = mz ∧ e = [(0, (ptr c)), (2, (I (NC : Int))), (3, (I (sz : Int))), (8, (.pointer none)), (9, (I 0)), (10, (ptr b1)), (32, (.slice pa nn pc)), (33, (I (nn : Int))), (34, (I (i : Int)))] ∧ (i ≤ nn) ∧ (nds.length = i) ∧ (∀ nd ∈ nds, nd.up = true ∧ nd.ks = []) ∧ (FLe f f4) ∧ (Reads f4 1 (.slice pa nn pc) nn (ptC pts)) ∧ Sep W0 w (own 367 9 (.slice la i cp) i (nds.flatMap ndC) :: srvL f4 c sz NC 0 nds :: row b1 370 [(ptr c), (.slice la i cp), (.int .u64 0), (.int .u64 0)] :: pool f4 :: L)) ⟨_, _, ⟨0, [], _, _, f, rfl, rfl, (by omega), (rfl), (fun nd hn => by cases hn), (FLe.refl _), (hpt), hs3⟩, ⟨rfl, rfl, rfl, rfl, rfl, rfl, rfl, rfl, rfl, trivial⟩⟩ ?_
 clear hs3; rintro mz e w ⟨i, nds, la, cp, f4, rfl, rfl, hi, hnl, hfr, hle5, hpt, hs⟩
 refine rSeq (rReg (oV (xCmp rfl rfl rLss) rfl (oEnd (kSeq (rSeq ?_)))))
 refine rCondD rfl (fun hc6 => ?_) (fun hc6 => ?_)
 · refine rSkip (kSeq (rSeq (rBlk (rSeq (rReg ?_)))))
   obtain ⟨b7, off8, rfl⟩ := Reads.at hpt (by omega)
   refine oV (xIA (o' := off8 + i) underlying145 sizeOf149 rfl rfl (by omega) (by omega) (by omega)) rfl (oV (xLoadC isAgg149 rfl (Reads.cell hpt hs (i := 3) rfl (ptC_get (by omega)))) rfl (oV (xAssign rfl) rfl (oEnd (kSeq (rSeq (rReg (oV (xMove rfl) rfl (oV (xMove rfl) rfl (oCall call269 rfl rfl (dknew_s h1 h2 h3 h4 hs) ?_)))))))))
   rintro _ w12 ⟨d9, da10, dcp11, rfl, hs13⟩; clear hs
   refine oV (xMove rfl) rfl (oV (xExtract rfl rfl) rfl (oV (xExtract rfl rfl) rfl (oV (xAssign rfl) rfl (oV (xAssign rfl) rfl (oEnd (kSeq (rSeq (rSeq (rReg (oV (xMove rfl) rfl (oV (xCmp (r := false) rfl rfl rNeq) rfl (oEnd (kSeq (rCondF rfl (rSkip (kSeq (rSeq (rReg (oV (xMove rfl) rfl (oV (xMove rfl) rfl ?_))))))))))))))))))))
   replace hs13 := hs13.f5
   replace hs13 := hs13.f2
   replace hs13 := hs13.f2
   refine oCall call270 rfl rfl (snew_s (q := 0) (by omega) hs13) ?_
   rintro _ w17 ⟨f14, sv15, rfl, hle16, hs18⟩; clear hs13
   replace hpt := hpt.mono hle16
   refine oV (xMove rfl) rfl (oV (xExtract rfl rfl) rfl (oV (xExtract rfl rfl) rfl (oV (xAssign rfl) rfl (oV (xAssign rfl) rfl (oEnd (kSeq (rReg (oV (xMove rfl) rfl (oV (xMove rfl) rfl (oV (xNil rfl) rfl (oV (xFA (j' := 1) underlying370 rfl sizeOf368 rfl rfl) rfl (oV (xLoad hs18 isAgg368 rfl (i := 4) rfl rfl) rfl (oV (xMove rfl) rfl (oV (xMove rfl) rfl (oV (xBuild (v := (.agg #[(ptr sv15), (.complex .f64 (pts.getD i (0, 0)).1 (pts.getD i (0, 0)).2), (.bool true), (.bool false), (I 0), (I 0), (.bool false), (I 0), (I 0)])) rfl (fun w => by kernel_rfl)) rfl (oBuildSlice (el := 367) (cs := [(ptr sv15), (.complex .f64 (pts.getD i (0, 0)).1 (pts.getD i (0, 0)).2), (.bool true), (.bool false), (I 0), (I 0), (.bool false), (I 0), (I 0)]) hs18 rfl (fun w => by kernel_rfl) rfl ?_))))))))))))))))
   intro b19 w20 hs21; clear hs18
   refine oAppend (inf := Tryz.t367) (size := 9) (bytes := 72) hs21 (i := 3) rfl underlying368 (by kernel_rfl) rfl rfl rfl rfl rfl rfl rfl (src_row hs21 (i := 0) rfl rfl rfl) (by first | omega | (simp only [List.length_append, List.length_cons, List.length_nil, List.length_map]; omega)) (by first | omega | (simp only [List.length_append, List.length_cons, List.length_nil, List.length_map]; omega)) rfl ?_
   intro a22 c23 w24 hs25; clear hs21; dsimp only [List.set] at hs25
   rw [show ∀ (L' : List Value), L' ++ [(ptr sv15), (.complex .f64 (pts.getD i (0, 0)).1 (pts.getD i (0, 0)).2), (.bool true), (.bool false), (I 0), (I 0), (.bool false), (I 0), (I 0)] = L' ++ ndC (⟨sv15, (pts.getD i (0, 0)).1, (pts.getD i (0, 0)).2, true, []⟩ : Nd) from fun _ => rfl, nd_snoc] at hs25
   refine oV (xNil rfl) rfl (oV (xFA (j' := 1) underlying370 rfl sizeOf368 rfl rfl) rfl (oStore hs25 sizeOf368 rfl rfl rfl (i := 5) rfl rfl ?_))
   intro w26 hs27; clear hs25; dsimp only [List.set] at hs27
   refine oEnd (kBlk (kSeq (Run.sub (e' := [(0, (ptr c)), (2, (I (NC : Int))), (3, (I (sz : Int))), (8, (.pointer none)), (9, (I 0)), (10, (ptr b1)), (32, (.slice (some ⟨b7, off8, none⟩) nn pc)), (33, (I (nn : Int))), (34, (I (i : Int)))]) ⟨rfl, rfl, rfl, rfl, rfl, rfl, rfl, rfl, rfl, trivial⟩ ?_)))
   refine rReg (oV (xAr rfl rfl (rAdd (wI (by omega) (by omega)))) rfl (oV (xMove rfl) rfl ?_))
   have hs28 := Sep.imp (i := 4) (A' := srvL f14 c sz NC 0 nds) rfl (fun h => srvL_mono hle16 (Nat.le_refl _) h) hs27; dsimp only [List.set] at hs28; clear hs27
   replace hs28 := hs28.f4
   replace hs28 := hs28.f2
   have hs29 := srvL_snoc (nd := (⟨sv15, (pts.getD i (0, 0)).1, (pts.getD i (0, 0)).2, true, []⟩ : Nd)) hs28; clear hs28
   skip
   replace hs29 := hs29.d1
   replace hs29 := hs29.f1
   replace hs29 := hs29.f3
   replace hs29 := hs29.f2
   replace hs29 := hs29.f3
   exact oEnd (kLoop (nn - (i + 1)) _ (by omega) ⟨i + 1, (nds ++ [(⟨sv15, (pts.getD i (0, 0)).1, (pts.getD i (0, 0)).2, true, []⟩ : Nd)]), _, _, f14, rfl, rfl, (by omega), (by rw [List.length_append, hnl]; rfl), (fresh_snoc hfr), (FLe.trans hle5 hle16), (hpt), hs29⟩ ⟨rfl, rfl, rfl, rfl, rfl, rfl, rfl, rfl, rfl, trivial⟩)
 · refine rExit (kSeqX (kLoopX (kBlkH (kSeq (rSeq (rReg (oV (xMove rfl) rfl (oV (xAssign rfl) rfl (oV (xAssign rfl) rfl (oEnd (kSeq (rRet (kFin (.tmp rfl (.tmp rfl (.nil))) ?_)))))))))))))
   obtain rfl : nn = i := by omega
   replace hs := hs.f3
   replace hs := hs.f2
   replace hs := hs.f2
   replace hs := hs.f3
   exact ⟨_, _, nds, rfl, hle5, hnl, hfr, rackA_shut (nm := 0) (cl := 0) (by decide) hnl hs⟩
end Go.Sl
namespace Go.Sl
open Go.Proofs
section
variable {W0 w : World} {L : List Asn} {f : HF} {α : Type} {enc : α → Value}
theorem Sep.freezeMap {i r : Nat} (hs : Sep W0 w (pool f :: L)) (hi : L[i]? = some (mapC enc r [])) : ∃ f' : HF, FLe f f' ∧ MapE f' r ∧ Sep W0 w (pool f' :: L.eraseIdx i) := by
  obtain ⟨f', g, h1, ⟨l, cl, h2, h3, _⟩, h4, h5⟩ := hs.freeze hi
  have : l = [] := by simpa using h3
  subst this
  exact ⟨f', h1, ⟨cl, h4 _ _ h2⟩, h5⟩
end
theorem idx5 {i : Nat} (h : i < 5) (w : World) : Sem.run Tryz.prog (Instr.index 353 (.agg #[.int .i64 0, .int .i64 0, .int .i64 0, .int .i64 0, .int .i64 0]) (.int .i64 (i : Int))) w = .ok (.int .i64 0) w := by
  obtain rfl | rfl | rfl | rfl | rfl : i = 0 ∨ i = 1 ∨ i = 2 ∨ i = 3 ∨ i = 4 := by omega
  all_goals kernel_rfl
theorem xIdx5 {n : Nat} {e : Env} {w : World} {d i : Nat} {x y : Operand} {ty : TypeId} {pos : String} {af : Array Edge} (h : i < 5) (hx : e.ev x = some (.agg #[.int .i64 0, .int .i64 0, .int .i64 0, .int .i64 0, .int .i64 0])) (hy : e.ev y = some (.int .i64 (i : Int))) :
    Xq Tryz.prog n e w d (.index 353 x y) ty pos af (.int .i64 0) := fun a ha => by
  simp only [execOp, ha.ev hx, ha.ev hy, Sem.run_bind, idx5 h w, Result.andThen_ok, Sem.run_pure] <;> rfl
end Go.Sl
namespace Go.Sl
open Go.Proofs Go.Proofs.Tryz
theorem wnew_s {W0 w : World} {L : List Asn} {nn late gone : Nat} (h1 : 1 ≤ nn) (h2 : nn ≤ 32) (h3 : 1 ≤ late) (h4 : late < gone) (h5 : gone ≤ 1000000) (hs : Sep W0 w L) : Calls Tryz.prog 203 [.int .i64 nn, .int .i64 late, .int .i64 gone].toArray w (Ret fun r w' => ∃ wp, r = .tuple #[ptr wp, .int .i64 0] ∧ Sep W0 w' (watchA wp nn 0 :: L)) := by
 refine enter (args := [(I (nn : Int)), (I (late : Int)), (I (gone : Int))]) (n := 35) (rs := [.tmp 6, .tmp 7]) func203 rfl rfl rfl rfl ?_
 refine rSeq (rReg (oV (xAssign rfl) rfl (oV (xAssign rfl) rfl (oEnd (kSeq (rSeq (rSeq (rReg (oV (xMove rfl) rfl (oV (xCmp (r := false) rfl rfl (bF (by omega) rLss)) rfl (oV (xMove rfl) rfl (oGuardT rfl rfl (oV (xMove rfl) rfl (oGuardT rfl rfl (oV (xCmp (r := false) rfl rfl (bF (by omega) rGtr)) rfl (oV (xPickF rfl rfl) rfl (oV (xMove rfl) rfl (oGuardT rfl rfl (oV (xMove rfl) rfl (oGuardT rfl rfl (oV (xCmp (r := false) rfl rfl (bF (by omega) rLss)) rfl (oV (xPickF rfl rfl) rfl (oV (xMove rfl) rfl (oGuardT rfl rfl (oV (xMove rfl) rfl (oGuardT rfl rfl (oV (xMove rfl) rfl (oGuardT rfl rfl (oV (xCmp (r := false) rfl rfl (bF (by omega) rLeq)) rfl (oV (xPickF rfl rfl) rfl (oV (xMove rfl) rfl (oGuardT rfl rfl (oV (xMove rfl) rfl (oGuardT rfl rfl (oV (xCmp (r := false) rfl rfl (bF (by omega) rGtr)) rfl (oV (xPickF rfl rfl) rfl (oEnd (kSeq (rCondF rfl ?_)))))))))))))))))))))))))))))))))))))))
 refine rSkip (kSeq (rSeq ?_))
 refine rRegG [] (by kernel_rfl) hs (fun w1 hs2 => ⟨?_, fun hS => ?_⟩)
 · exact trivial
 clear hs
 refine gTake0 0 rfl (by kernel_rfl) hS (fun w => xMove rfl) rfl ?_
 clear hS; intro hS
 refine gTake0 1 rfl (by kernel_rfl) hS (fun w => xMove rfl) rfl ?_
 clear hS; intro hS
 refine gTake0 2 rfl (by kernel_rfl) hS (fun w => xMove rfl) rfl ?_
 clear hS; intro hS
 refine gTake0 4 rfl (by kernel_rfl) hS (fun w => xMove rfl) rfl ?_
 clear hS; intro hS
 refine gEff2 3 5 (by kernel_rfl) rfl rfl ?_ ?_
 · refine oMake (k := nn) (c := nn) (size := 1) (bytes := 8) (inf := Tryz.t3) hs2 underlying52 (by kernel_rfl) rfl rfl rfl rfl rfl (by omega) (by omega) (by omega) (by omega) (by omega) rfl ?_
   intro b3 w4 hs5; clear hs2
   rw [made1 (I 0) rfl] at hs5
   refine oEnd (kG trivial ?_)
   clear hS; intro hS
   refine gEff 5 (by kernel_rfl) rfl ?_
   refine oMake (k := nn) (c := nn) (size := 1) (bytes := 8) (inf := Tryz.t485) hs5 underlying456 (by kernel_rfl) rfl rfl rfl rfl rfl (by omega) (by omega) (by omega) (by omega) (by omega) rfl ?_
   intro b6 w7 hs8; clear hs5
   rw [made1 (I 0) rfl] at hs8
   refine oEnd (kG trivial ?_)
   clear hS; intro hS
   refine gTake0 6 rfl (by kernel_rfl) hS (fun w => xBuild (v := (.agg #[(I (late : Int)), (I (gone : Int)), (I 0), (I 0), (.slice (some ⟨b3, 0, none⟩) nn nn), (.slice (some ⟨b6, 0, none⟩) nn nn)])) rfl (fun w => by kernel_rfl)) rfl ?_
   clear hS; intro hS
   refine gEff 7 (by kernel_rfl) rfl ?_
   refine oBox hs8 rfl rfl rfl ?_
   intro b9 w10 hs11; clear hs8
   refine oEnd (kG trivial ?_)
   clear hS; intro hS
   refine gTake0 8 rfl (by kernel_rfl) hS (fun w => xAssign rfl) rfl ?_
   clear hS; intro hS
   refine gTake0 9 rfl (by kernel_rfl) hS (fun w => xAssign rfl) rfl ?_
   clear hS; intro hS
   refine gEnd (by kernel_rfl) ?_
   clear hS
   refine kSeq ?_
   refine rRet (kFin (.tmp rfl (.tmp rfl (.nil))) ?_)
   replace hs11 := hs11.f1
   replace hs11 := hs11.f2
   replace hs11 := hs11.f2
   rw [Iv_rep] at hs11
   exact ⟨_, rfl, watchA_shut (now := 0) hs11⟩
 · refine oMake (k := nn) (c := nn) (size := 1) (bytes := 8) (inf := Tryz.t485) hs2 underlying456 (by kernel_rfl) rfl rfl rfl rfl rfl (by omega) (by omega) (by omega) (by omega) (by omega) rfl ?_
   intro b12 w13 hs14; clear hs2
   rw [made1 (I 0) rfl] at hs14
   refine oEnd (kG trivial ?_)
   clear hS; intro hS
   refine gEff 3 (by kernel_rfl) rfl ?_
   refine oMake (k := nn) (c := nn) (size := 1) (bytes := 8) (inf := Tryz.t3) hs14 underlying52 (by kernel_rfl) rfl rfl rfl rfl rfl (by omega) (by omega) (by omega) (by omega) (by omega) rfl ?_
   intro b15 w16 hs17; clear hs14
   rw [made1 (I 0) rfl] at hs17
   refine oEnd (kG trivial ?_)
   clear hS; intro hS
   refine gTake0 6 rfl (by kernel_rfl) hS (fun w => xBuild (v := (.agg #[(I (late : Int)), (I (gone : Int)), (I 0), (I 0), (.slice (some ⟨b15, 0, none⟩) nn nn), (.slice (some ⟨b12, 0, none⟩) nn nn)])) rfl (fun w => by kernel_rfl)) rfl ?_
   clear hS; intro hS
   refine gEff 7 (by kernel_rfl) rfl ?_
   refine oBox hs17 rfl rfl rfl ?_
   intro b18 w19 hs20; clear hs17
   refine oEnd (kG trivial ?_)
   clear hS; intro hS
   refine gTake0 8 rfl (by kernel_rfl) hS (fun w => xAssign rfl) rfl ?_
   clear hS; intro hS
   refine gTake0 9 rfl (by kernel_rfl) hS (fun w => xAssign rfl) rfl ?_
   clear hS; intro hS
   refine gEnd (by kernel_rfl) ?_
   clear hS
   refine kSeq ?_
   refine rRet (kFin (.tmp rfl (.tmp rfl (.nil))) ?_)
   rw [Iv_rep] at hs20
   exact ⟨_, rfl, watchA_shut (now := 0) hs20⟩
theorem pnew_s {W0 w : World} {L : List Asn} {rt bu : UInt64} (h1 : rt.toNat ≤ 1152921504606846976) (h2 : bu.toNat ≤ 1152921504606846976) (hs : Sep W0 w L) : Calls Tryz.prog 204 [Q rt, Q bu].toArray w (Ret fun r w' => ∃ pp, r = .tuple #[ptr pp, .int .i64 0] ∧ Sep W0 w' L) := by
 refine enter (args := [(.int .u64 (rt.toNat : Int)), (.int .u64 (bu.toNat : Int))]) (n := 17) (rs := [.tmp 4, .tmp 5]) func204 rfl rfl rfl rfl ?_
 refine rSeq (rReg (oV (xAssign rfl) rfl (oV (xAssign rfl) rfl (oEnd (kSeq (rSeq (rSeq (rReg (oV (xMove rfl) rfl (oV (xCmp (r := false) rfl rfl (bF (by omega) rGtr)) rfl (oV (xMove rfl) rfl (oGuardT rfl rfl (oV (xMove rfl) rfl (oGuardT rfl rfl (oV (xCmp (r := false) rfl rfl (bF (by omega) rGtr)) rfl (oV (xPickF rfl rfl) rfl (oEnd (kSeq (rCondF rfl (rSkip (kSeq (rSeq (rReg (oV (xMove rfl) rfl (oV (xMove rfl) rfl (oV (xMove rfl) rfl (oV (xBuild (v := (.agg #[(.int .u64 (rt.toNat : Int)), (.int .u64 (bu.toNat : Int)), (.int .u64 (bu.toNat : Int)), (.int .u64 0)])) rfl (fun w => by kernel_rfl)) rfl (oBox hs rfl rfl rfl ?_))))))))))))))))))))))))))))
 intro b1 w2 hs3; clear hs
 refine oV (xAssign rfl) rfl (oV (xAssign rfl) rfl (oEnd (kSeq (rRet (kFin (.tmp rfl (.tmp rfl (.nil))) ?_)))))
 replace hs3 := hs3.d0
 exact ⟨_, rfl, hs3⟩
theorem unew_s {W0 w : World} {L : List Asn} {f : HF} (hs : Sep W0 w (pool f :: L)) : Calls Tryz.prog 162 [].toArray w (Ret fun r w' => ∃ f' qp qm, r = ptr qp ∧ FLe f f' ∧ PR f' qp [.slice none 0 0, .map (some qm)] ∧ MapE f' qm ∧ Sep W0 w' (pool f' :: L)) := by
 refine enter (args := []) (n := 4) (rs := [.tmp 0]) func162 rfl rfl rfl rfl ?_
 refine rSeq (rReg (oV (xAssign rfl) rfl (oEnd (kSeq (rSeq (rReg (oMakeMap Ky.val hs rfl ?_)))))))
 intro r1 w2 hs3; clear hs
 refine oV (xBuild (v := (.agg #[(.slice none 0 0), (.map (some r1))])) rfl (fun w => by kernel_rfl)) rfl (oBox hs3 rfl rfl rfl ?_)
 intro b4 w5 hs6; clear hs3
 refine oV (xAssign rfl) rfl (oEnd (kSeq (rRet (kFin (.tmp rfl (.nil)) ?_))))
 replace hs6 := hs6.f1
 replace hs6 := hs6.f2
 obtain ⟨f7, hle8, hm9, hs10⟩ := Sep.freezeMap (i := 0) hs6 rfl; clear hs6; dsimp only [List.eraseIdx] at hs10
 replace hs10 := hs10.f1
 replace hs10 := hs10.f1
 obtain ⟨f11, hle12, hp13, hs14⟩ := Sep.freezePR (i := 0) hs10 rfl; clear hs10; dsimp only [List.eraseIdx] at hs14
 replace hm9 := hm9.mono hle12
 exact ⟨_, _, _, rfl, (FLe.trans hle8 hle12), hp13, hm9, hs14⟩
theorem bopen_s {W0 w : World} {L : List Asn} {f : HF} {t most ns nn : Nat} (h1 : 1 ≤ ns) (h2 : ns ≤ 24) (h3 : 1 ≤ nn) (h4 : nn ≤ 32) (hs : Sep W0 w (row t 416 [.slice none 0 0, I 0, I (most : Int)] :: pool f :: L)) : Calls Tryz.prog 161 [ptr t, .int .i64 ns, .int .i64 nn].toArray w
 (Ret fun r w' => ∃ f' bk d tt, r = .tuple #[ptr bk, .int .i64 0] ∧ FLe f f' ∧ PR f' bk [ptr d, ptr tt, I (ns : Int), I (nn : Int)] ∧ Sep W0 w' (row tt 365 [I (ns : Int), I (nn : Int), U 1, U 0, .slice none 0 0] :: diaryA d t 0 :: tapeA t 0 most :: pool f' :: L)) := by
 refine enter (args := [(ptr t), (I (ns : Int)), (I (nn : Int))]) (n := 70) (rs := [.tmp 6, .tmp 7]) func161 rfl rfl rfl rfl ?_
 refine rSeq (rReg (oV (xAssign rfl) rfl (oV (xAssign rfl) rfl (oEnd (kSeq (rSeq (rReg (oV (xMove rfl) rfl (oV (xMove rfl) rfl (oCall call247 rfl rfl (tnew_t h1 h2 h3 h4 hs) ?_))))))))))
 rintro _ w1 ⟨t3, rfl, hs2⟩; clear hs
 refine oV (xMove rfl) rfl (oV (xExtract rfl rfl) rfl (oV (xExtract rfl rfl) rfl (oV (xAssign rfl) rfl (oV (xAssign rfl) rfl (oEnd (kSeq (rSeq (rSeq (rReg (oV (xMove rfl) rfl (oV (xCmp (r := false) rfl rfl rNeq) rfl (oEnd (kSeq (rCondF rfl (rSkip (kSeq (rSeq (rReg (oV (xMove rfl) rfl ?_)))))))))))))))))))
 replace hs2 := hs2.f2
 replace hs2 := hs2.f2
 refine oCall call248 rfl rfl (dopen_s hs2) ?_
 rintro _ w7 ⟨f4, d5, rfl, hle6, hs8⟩; clear hs2
 refine oV (xMove rfl) rfl (oV (xExtract rfl rfl) rfl (oV (xExtract rfl rfl) rfl (oV (xAssign rfl) rfl (oV (xAssign rfl) rfl (oEnd (kSeq (rSeq (rSeq (rReg (oV (xMove rfl) rfl (oV (xCmp (r := false) rfl rfl rNeq) rfl (oEnd (kSeq (rCondF rfl (rSkip (kSeq (rSeq (rReg (oV (xMove rfl) rfl (oCall call249 rfl rfl (dlen_s hs8) ?_))))))))))))))))))))
 rintro _ w10 ⟨sf9, rfl, hs11⟩; clear hs8
 refine oV (xMove rfl) rfl (oV (xExtract rfl rfl) rfl (oV (xExtract rfl rfl) rfl (oV (xAssign rfl) rfl (oV (xAssign rfl) rfl (oEnd (kSeq (rSeq (rSeq (rReg (oV (xAssign rfl) rfl (oEnd (kSeq (rBlk ?_)))))))))))))
 replace hs11 := hs11.f2
 replace hs11 := hs11.f2
 replace hs11 := hs11.f2
 replace hs11 := hs11.f3
 refine rLoop (fun mz e w => 0 = mz ∧ e = [(1, (I (ns : Int))), (2, (I (nn : Int))), (6, (.pointer none)), (7, (I 0)), (8, (ptr t3)), (9, (I 0)), (10, (ptr d5)), (11, (I (0 : Int))), (12, (I (sf9 : Int))), (13, (I 1))] ∧ Sep W0 w (row t3 365 [(I (ns : Int)), (I (nn : Int)), (.int .u32 1), (.int .u32 0), (.slice none 0 0)] :: diaryA d5 t 0 :: tapeA t 0 most :: pool f4 :: L)) ⟨_, _, ⟨rfl, rfl, hs11⟩, ⟨rfl, rfl, rfl, rfl, rfl, rfl, rfl, rfl, rfl, rfl, trivial⟩⟩ ?_
 clear hs11; rintro mz e w ⟨rfl, rfl, hs⟩
 refine rSeq (rSeq (rReg (oV (xMove rfl) rfl (oV (xMove rfl) rfl (oV (xCmp (r := false) rfl rfl (bF (by omega) rLeq)) rfl (oEnd (kSeq (rCondF rfl (rExit (kSeqX (kLoopX (kBlkH (kSeq (rSeq (rReg (oV (xMove rfl) rfl (oV (xMove rfl) rfl (oV (xMove rfl) rfl (oV (xMove rfl) rfl (oV (xBuild (v := (.agg #[(ptr d5), (ptr t3), (I (ns : Int)), (I (nn : Int))])) rfl (fun w => by kernel_rfl)) rfl (oBox hs rfl rfl rfl ?_)))))))))))))))))))))
 intro b12 w13 hs14; clear hs
 refine oV (xAssign rfl) rfl (oV (xAssign rfl) rfl (oEnd (kSeq (rRet (kFin (.tmp rfl (.tmp rfl (.nil))) ?_)))))
 replace hs14 := hs14.f4
 obtain ⟨f15, hle16, hp17, hs18⟩ := Sep.freezePR (i := 0) hs14 rfl; clear hs14; dsimp only [List.eraseIdx] at hs18
 replace hs18 := hs18.f3
 replace hs18 := hs18.f3
 replace hs18 := hs18.f3
 exact ⟨_, _, _, _, rfl, (FLe.trans hle6 hle16), hp17, hs18⟩
end Go.Sl
namespace Go.Sl
open Go.Proofs Go.Proofs.Tryz
theorem hnew_s {W0 w : World} {L : List Asn} {f : HF} {N K piece nn pc NC sz most late gone : Nat} {rt bu : UInt64} {pa : Option Addr} {pts : List Pt} (hpt : Reads f 1 (.slice pa nn pc) nn (ptC pts)) (hpl : pts.length = nn) (hK : K = 2 ∨ K = 3) (hK2 : 2 * K - 1 ≤ N) (hN2 : N ≤ 24) (hN3 : N ≤ nn) (hpts : (Go.Sl.pts N (K - 1)).length = N) (hnn2 : nn ≤ 32) (hp1 : 1 ≤ piece) (hp2 : piece ≤ 256) (hNC1 : 1 ≤ NC) (hNC2 : NC ≤ 1024) (hsz1 : 1 ≤ sz) (hsz2 : sz ≤ 4096) (hmost : most ≤ 1073741824) (hla1 : 1 ≤ late) (hla2 : late < gone) (hla3 : gone ≤ 1000000) (hrt : rt.toNat ≤ 1152921504606846976) (hbu : bu.toNat ≤ 1152921504606846976) (hs : Sep W0 w (pool f :: L)) : Calls Tryz.prog 140 [.agg #[.int .i64 N, .int .i64 K, .int .i64 piece, .slice pa nn pc, .int .i64 NC, .int .i64 sz, .int .i64 most, .int .i64 late, .int .i64 gone, Q rt, Q bu]].toArray w
 (Ret fun r w' => ∃ (f' : HF) (h : Nat) (p : Hp) (nds : List Nd), r = .tuple #[ptr h, .int .i64 0] ∧ FLe f f' ∧ HallP f' h p ∧ (p.n = N ∧ p.k = K ∧ p.nn = nn ∧ p.piece = piece) ∧ nds.length = nn ∧ (∀ nd ∈ nds, nd.up = true ∧ nd.ks = []) ∧ Sep W0 w' (pool f' :: rackA f' p.x p.c sz NC 0 nn nds :: row p.t 365 [I (N : Int), I (nn : Int), U 1, U 0, .slice none 0 0] :: watchA p.wp nn 0 :: diaryA p.d p.tp 0 :: tapeA p.tp 0 most :: L)) := by
 have hnn : 1 ≤ nn := by omega
 have hN1 : 1 ≤ N := by omega
 refine enter (args := [(.agg #[(I (N : Int)), (I (K : Int)), (I (piece : Int)), (.slice pa nn pc), (I (NC : Int)), (I (sz : Int)), (I (most : Int)), (I (late : Int)), (I (gone : Int)), (.int .u64 (rt.toNat : Int)), (.int .u64 (bu.toNat : Int))])]) (n := 115) (rs := [.tmp 2, .tmp 3]) func140 rfl rfl rfl rfl ?_
 refine rSeq (rReg (oBox hs rfl rfl rfl ?_))
 intro b1 w2 hs3; clear hs
 refine oV (xAssign rfl) rfl (oV (xAssign rfl) rfl (oEnd (kSeq ?_)))
 refine rCut' (fun e w => ∃ (f2 : HF) (hb : Nat) (qp : Nat) (qm : Nat) (tp : Nat) (bad : Nat), e = [(1, (ptr b1)), (2, (.pointer none)), (3, (I 0)), (4, (ptr hb))] ∧ (FLe f f2) ∧ (PR f2 qp [.slice none 0 0, .map (some qm)]) ∧ (MapE f2 qm) ∧ Sep W0 w (row b1 147 [(I (N : Int)), (I (K : Int)), (I (piece : Int)), (.slice pa nn pc), (I (NC : Int)), (I (sz : Int)), (I (most : Int)), (I (late : Int)), (I (gone : Int)), (.int .u64 (rt.toNat : Int)), (.int .u64 (bu.toNat : Int))] :: row hb 266 [(.pointer none), (.pointer none), (.pointer none), (.pointer none), (ptr qp), (I (N : Int)), (I (K : Int)), (I (piece : Int)), (.slice pa nn pc), (I (NC : Int)), (I (sz : Int)), (I (most : Int)), (I (late : Int)), (I (gone : Int)), (.int .u64 (rt.toNat : Int)), (.int .u64 (bu.toNat : Int)), (ptr tp), (.pointer none), (.map (some bad)), (I 0), (I 0), (.bool false), (.int .u64 0)] :: row tp 416 [(.slice none 0 0), (I 0), (I (most : Int))] :: mapC Sh.val bad [] :: pool f2 :: L)) ?_ ?_
 · refine rRegG [(none, fun w => ∃ M, Sep W0 w (row b1 147 [(I (N : Int)), (I (K : Int)), (I (piece : Int)), (.slice pa nn pc), (I (NC : Int)), (I (sz : Int)), (I (most : Int)), (I (late : Int)), (I (gone : Int)), (.int .u64 (rt.toNat : Int)), (.int .u64 (bu.toNat : Int))] :: M))] (by kernel_rfl) hs3 (fun w4 hs5 => ⟨?_, fun hS => ?_⟩)
   · exact ⟨⟨_, (Sep.front (i := 0) rfl hs5)⟩, trivial⟩
   clear hs3
   refine gTake 0 0 rfl (by kernel_rfl) rfl (by kernel_rfl) hS (fun w hq0 => by obtain ⟨M, hq⟩ := hq0; exact xLoadG hq isAgg147 sizeOf147 rfl (i := 0) rfl rfl) rfl ?_
   clear hS; intro hS
   refine gTake0 3 rfl (by kernel_rfl) hS (fun w => xFA (j' := 6) underlying147 rfl sizeOf3 rfl rfl) rfl ?_
   clear hS; intro hS
   refine gTake 4 0 rfl (by kernel_rfl) rfl (by kernel_rfl) hS (fun w hq0 => by obtain ⟨M, hq⟩ := hq0; exact xLoad hq isAgg3 rfl (i := 0) rfl rfl) rfl ?_
   clear hS; intro hS
   refine gEff2 1 2 (by kernel_rfl) rfl rfl ?_ ?_
   · replace hs5 := hs5.f1
     refine oCall call162 rfl rfl (unew_s hs5) ?_
     rintro _ w12 ⟨f6, qp7, qm8, rfl, hle9, hq10, hm11, hs13⟩; clear hs5
     replace hpt := hpt.mono hle9
     refine oEnd (kG ⟨⟨_, (Sep.front (i := 1) rfl hs13)⟩, trivial⟩ ?_)
     clear hS; intro hS
     refine gEff2 2 5 (by kernel_rfl) rfl rfl ?_ ?_
     · refine oMakeMap Sh.val hs13 rfl ?_
       intro r14 w15 hs16; clear hs13
       refine oEnd (kG ⟨⟨_, (Sep.front (i := 2) rfl hs16)⟩, trivial⟩ ?_)
       clear hS; intro hS
       refine gEff 5 (by kernel_rfl) rfl ?_
       refine oCall call201 rfl rfl (tnew_s most (by omega) hs16) ?_
       rintro _ w17 ⟨tp19, rfl, hs18⟩; clear hs16
       refine oEnd (kG ⟨⟨_, (Sep.front (i := 3) rfl hs18)⟩, trivial⟩ ?_)
       clear hS; intro hS
       refine gTake0 6 rfl (by kernel_rfl) hS (fun w => xBuild (v := (.agg #[(.pointer none), (.pointer none), (.pointer none), (.pointer none), (ptr qp7), (I (N : Int)), (I (K : Int)), (I (piece : Int)), (.slice pa nn pc), (I (NC : Int)), (I (sz : Int)), (I (most : Int)), (I (late : Int)), (I (gone : Int)), (.int .u64 (rt.toNat : Int)), (.int .u64 (bu.toNat : Int)), (ptr tp19), (.pointer none), (.map (some r14)), (I 0), (I 0), (.bool false), (.int .u64 0)])) rfl (fun w => by kernel_rfl)) rfl ?_
       clear hS; intro hS
       refine gEff 7 (by kernel_rfl) rfl ?_
       refine oBox hs18 rfl rfl rfl ?_
       intro b20 w21 hs22; clear hs18
       refine oEnd (kG ⟨⟨_, (Sep.front (i := 4) rfl hs22)⟩, trivial⟩ ?_)
       clear hS; intro hS
       refine gTake0 8 rfl (by kernel_rfl) hS (fun w => xAssign rfl) rfl ?_
       clear hS; intro hS
       refine gEnd (by kernel_rfl) ?_
       clear hS
       replace hs22 := hs22.f3
       replace hs22 := hs22.f3
       replace hs22 := hs22.f3
       replace hs22 := hs22.f3
       replace hs22 := hs22.f4
       exact kCut _ ⟨f6, _, _, _, _, _, rfl, (hle9), (hq10), (hm11), hs22⟩ ⟨rfl, rfl, rfl, rfl, trivial⟩
     · refine oCall call201 rfl rfl (tnew_s most (by omega) hs13) ?_
       rintro _ w23 ⟨tp25, rfl, hs24⟩; clear hs13
       refine oEnd (kG ⟨⟨_, (Sep.front (i := 2) rfl hs24)⟩, trivial⟩ ?_)
       clear hS; intro hS
       refine gEff 2 (by kernel_rfl) rfl ?_
       refine oMakeMap Sh.val hs24 rfl ?_
       intro r26 w27 hs28; clear hs24
       refine oEnd (kG ⟨⟨_, (Sep.front (i := 3) rfl hs28)⟩, trivial⟩ ?_)
       clear hS; intro hS
       refine gTake0 6 rfl (by kernel_rfl) hS (fun w => xBuild (v := (.agg #[(.pointer none), (.pointer none), (.pointer none), (.pointer none), (ptr qp7), (I (N : Int)), (I (K : Int)), (I (piece : Int)), (.slice pa nn pc), (I (NC : Int)), (I (sz : Int)), (I (most : Int)), (I (late : Int)), (I (gone : Int)), (.int .u64 (rt.toNat : Int)), (.int .u64 (bu.toNat : Int)), (ptr tp25), (.pointer none), (.map (some r26)), (I 0), (I 0), (.bool false), (.int .u64 0)])) rfl (fun w => by kernel_rfl)) rfl ?_
       clear hS; intro hS
       refine gEff 7 (by kernel_rfl) rfl ?_
       refine oBox hs28 rfl rfl rfl ?_
       intro b29 w30 hs31; clear hs28
       refine oEnd (kG ⟨⟨_, (Sep.front (i := 4) rfl hs31)⟩, trivial⟩ ?_)
       clear hS; intro hS
       refine gTake0 8 rfl (by kernel_rfl) hS (fun w => xAssign rfl) rfl ?_
       clear hS; intro hS
       refine gEnd (by kernel_rfl) ?_
       clear hS
       replace hs31 := hs31.f3
       replace hs31 := hs31.f2
       replace hs31 := hs31.f3
       replace hs31 := hs31.f3
       replace hs31 := hs31.f4
       exact kCut _ ⟨f6, _, _, _, _, _, rfl, (hle9), (hq10), (hm11), hs31⟩ ⟨rfl, rfl, rfl, rfl, trivial⟩
   · refine oMakeMap Sh.val hs5 rfl ?_
     intro r32 w33 hs34; clear hs5
     refine oEnd (kG ⟨⟨_, (Sep.front (i := 1) rfl hs34)⟩, trivial⟩ ?_)
     clear hS; intro hS
     refine gEff 1 (by kernel_rfl) rfl ?_
     replace hs34 := hs34.f2
     refine oCall call162 rfl rfl (unew_s hs34) ?_
     rintro _ w41 ⟨f35, qp36, qm37, rfl, hle38, hq39, hm40, hs42⟩; clear hs34
     replace hpt := hpt.mono hle38
     refine oEnd (kG ⟨⟨_, (Sep.front (i := 2) rfl hs42)⟩, trivial⟩ ?_)
     clear hS; intro hS
     refine gEff 5 (by kernel_rfl) rfl ?_
     refine oCall call201 rfl rfl (tnew_s most (by omega) hs42) ?_
     rintro _ w43 ⟨tp45, rfl, hs44⟩; clear hs42
     refine oEnd (kG ⟨⟨_, (Sep.front (i := 3) rfl hs44)⟩, trivial⟩ ?_)
     clear hS; intro hS
     refine gTake0 6 rfl (by kernel_rfl) hS (fun w => xBuild (v := (.agg #[(.pointer none), (.pointer none), (.pointer none), (.pointer none), (ptr qp36), (I (N : Int)), (I (K : Int)), (I (piece : Int)), (.slice pa nn pc), (I (NC : Int)), (I (sz : Int)), (I (most : Int)), (I (late : Int)), (I (gone : Int)), (.int .u64 (rt.toNat : Int)), (.int .u64 (bu.toNat : Int)), (ptr tp45), (.pointer none), (.map (some r32)), (I 0), (I 0), (.bool false), (.int .u64 0)])) rfl (fun w => by kernel_rfl)) rfl ?_
     clear hS; intro hS
     refine gEff 7 (by kernel_rfl) rfl ?_
     refine oBox hs44 rfl rfl rfl ?_
     intro b46 w47 hs48; clear hs44
     refine oEnd (kG ⟨⟨_, (Sep.front (i := 4) rfl hs48)⟩, trivial⟩ ?_)
     clear hS; intro hS
     refine gTake0 8 rfl (by kernel_rfl) hS (fun w => xAssign rfl) rfl ?_
     clear hS; intro hS
     refine gEnd (by kernel_rfl) ?_
     clear hS
     replace hs48 := hs48.f2
     replace hs48 := hs48.f3
     replace hs48 := hs48.f3
     replace hs48 := hs48.f3
     replace hs48 := hs48.f4
     exact kCut _ ⟨f35, _, _, _, _, _, rfl, (hle38), (hq39), (hm40), hs48⟩ ⟨rfl, rfl, rfl, rfl, trivial⟩
 clear hs3; rintro e w ⟨f2, hb, qp, qm, tp, bad, rfl, hle2, hq, hqm, hs⟩
 replace hpt := hpt.mono hle2
 refine rSeq (rReg (oAlloc hs zeroValue353 rfl rfl ?_))
 intro b49 w50 hs51; clear hs
 refine oEnd (kSeq (rSeq (rReg (oV (xMove rfl) rfl (oV (xFA (j' := 0) underlying147 rfl sizeOf3 rfl rfl) rfl (oV (xLoad hs51 isAgg3 rfl (i := 1) rfl rfl) rfl (oV (xFA (j' := 1) underlying147 rfl sizeOf3 rfl rfl) rfl (oV (xLoad hs51 isAgg3 rfl (i := 1) rfl rfl) rfl ?_))))))))
 replace hs51 := hs51.f5
 refine oCall call47 rfl rfl (cnew_s N K hK hK2 hN2 hpts hs51) ?_
 rintro _ w56 ⟨f52, c53, rfl, hle54, hcode55, hs57⟩; clear hs51
 replace hpt := hpt.mono hle54
 replace hq := hq.mono hle54
 replace hqm := hqm.mono hle54
 refine oV (xMove rfl) rfl (oV (xExtract rfl rfl) rfl (oV (xExtract rfl rfl) rfl (oV (xNil rfl) rfl (oV (xFA (j' := 0) underlying266 rfl sizeOf116 rfl rfl) rfl (oStore hs57 sizeOf116 rfl rfl rfl (i := 3) rfl rfl ?_)))))
 intro w58 hs59; clear hs57; dsimp only [List.set] at hs59
 refine oV (xIAA (o' := 0) underlying353 sizeOf29 rfl rfl (by omega) (by omega) (rfl)) rfl (oStore hs59 sizeOf29 rfl rfl rfl (i := 1) rfl rfl ?_)
 intro w60 hs61; clear hs59; dsimp only [List.set] at hs61
 refine oEnd (kSeq (rSeq ?_))
 refine rRegG [(some 17, fun w => ∃ M, Sep W0 w (row hb 266 [(ptr c53), (.pointer none), (.pointer none), (.pointer none), (ptr qp), (I (N : Int)), (I (K : Int)), (I (piece : Int)), (.slice pa nn pc), (I (NC : Int)), (I (sz : Int)), (I (most : Int)), (I (late : Int)), (I (gone : Int)), (.int .u64 (rt.toNat : Int)), (.int .u64 (bu.toNat : Int)), (ptr tp), (.pointer none), (.map (some bad)), (I 0), (I 0), (.bool false), (.int .u64 0)] :: M)), (none, fun w => ∃ M, Sep W0 w (row b1 147 [(I (N : Int)), (I (K : Int)), (I (piece : Int)), (.slice pa nn pc), (I (NC : Int)), (I (sz : Int)), (I (most : Int)), (I (late : Int)), (I (gone : Int)), (.int .u64 (rt.toNat : Int)), (.int .u64 (bu.toNat : Int))] :: M))] (by kernel_rfl) hs61 (fun w62 hs63 => ⟨?_, fun hS => ?_⟩)
 · exact ⟨fun _ => ⟨_, (Sep.front (i := 3) rfl hs63)⟩, ⟨_, (Sep.front (i := 2) rfl hs63)⟩, trivial⟩
 clear hs61
 refine gTake0 0 rfl (by kernel_rfl) hS (fun w => xMove rfl) rfl ?_
 clear hS; intro hS
 refine gTake0 1 rfl (by kernel_rfl) hS (fun w => xMove rfl) rfl ?_
 clear hS; intro hS
 refine gTake0 2 rfl (by kernel_rfl) hS (fun w => xNil rfl) rfl ?_
 clear hS; intro hS
 refine gTake0 3 rfl (by kernel_rfl) hS (fun w => xFA (j' := 0) underlying266 rfl sizeOf116 rfl rfl) rfl ?_
 clear hS; intro hS
 refine gTake 4 0 rfl (by kernel_rfl) rfl (by kernel_rfl) hS (fun w hq0 => by obtain ⟨M, hq⟩ := hq0; exact xLoad hq isAgg116 rfl (i := 0) rfl rfl) rfl ?_
 clear hS; intro hS
 refine gTake0 5 rfl (by kernel_rfl) hS (fun w => xFA (j' := 3) underlying147 rfl sizeOf145 rfl rfl) rfl ?_
 clear hS; intro hS
 refine gTake 6 1 rfl (by kernel_rfl) rfl (by kernel_rfl) hS (fun w hq0 => by obtain ⟨M, hq⟩ := hq0; exact xLoad hq isAgg145 rfl (i := 0) rfl rfl) rfl ?_
 clear hS; intro hS
 refine gTake0 7 rfl (by kernel_rfl) hS (fun w => xFA (j' := 4) underlying147 rfl sizeOf3 rfl rfl) rfl ?_
 clear hS; intro hS
 refine gTake 8 1 rfl (by kernel_rfl) rfl (by kernel_rfl) hS (fun w hq0 => by obtain ⟨M, hq⟩ := hq0; exact xLoad hq isAgg3 rfl (i := 0) rfl rfl) rfl ?_
 clear hS; intro hS
 refine gTake0 9 rfl (by kernel_rfl) hS (fun w => xFA (j' := 5) underlying147 rfl sizeOf3 rfl rfl) rfl ?_
 clear hS; intro hS
 refine gTake 10 1 rfl (by kernel_rfl) rfl (by kernel_rfl) hS (fun w hq0 => by obtain ⟨M, hq⟩ := hq0; exact xLoad hq isAgg3 rfl (i := 0) rfl rfl) rfl ?_
 clear hS; intro hS
 refine gEff 11 (by kernel_rfl) rfl ?_
 refine oCall call202 rfl rfl (rnew_s hpt hpl hnn hnn2 hNC1 hNC2 hsz1 hsz2 hs63) ?_
 rintro _ w70 ⟨f64, x65, nds66, rfl, hle67, hnl68, hfr69, hs71⟩; clear hs63
 replace hpt := hpt.mono hle67
 replace hq := hq.mono hle67
 replace hqm := hqm.mono hle67
 replace hcode55 := hcode55.mono hle67
 refine oEnd (kG ⟨fun _ => ⟨_, (Sep.front (i := 4) rfl hs71)⟩, ⟨_, (Sep.front (i := 3) rfl hs71)⟩, trivial⟩ ?_)
 clear hS; intro hS
 refine gTake0 12 rfl (by kernel_rfl) hS (fun w => xMove rfl) rfl ?_
 clear hS; intro hS
 refine gTake0 13 rfl (by kernel_rfl) hS (fun w => xExtract rfl rfl) rfl ?_
 clear hS; intro hS
 refine gTake0 14 rfl (by kernel_rfl) hS (fun w => xExtract rfl rfl) rfl ?_
 clear hS; intro hS
 refine gTake0 15 rfl (by kernel_rfl) hS (fun w => xNil rfl) rfl ?_
 clear hS; intro hS
 refine gTake0 16 rfl (by kernel_rfl) hS (fun w => xFA (j' := 1) underlying266 rfl sizeOf258 rfl rfl) rfl ?_
 clear hS; intro hS
 refine gEff 17 (by kernel_rfl) rfl ?_
 refine oStore hs71 sizeOf258 rfl rfl rfl (i := 4) rfl rfl ?_
 intro w72 hs73; clear hs71; dsimp only [List.set] at hs73
 refine oEnd (kG ⟨(tillDone (by kernel_rfl)), ⟨_, (Sep.front (i := 3) rfl hs73)⟩, trivial⟩ ?_)
 clear hS; intro hS
 refine gTake0 18 rfl (by kernel_rfl) hS (fun w => xIAA (o' := 1) underlying353 sizeOf29 rfl rfl (by omega) (by omega) (rfl)) rfl ?_
 clear hS; intro hS
 refine gEff 19 (by kernel_rfl) rfl ?_
 refine oStore hs73 sizeOf29 rfl rfl rfl (i := 2) rfl rfl ?_
 intro w74 hs75; clear hs73; dsimp only [List.set] at hs75
 refine oEnd (kG ⟨(tillDone (by kernel_rfl)), ⟨_, (Sep.front (i := 3) rfl hs75)⟩, trivial⟩ ?_)
 clear hS; intro hS
 refine gEnd (by kernel_rfl) ?_
 clear hS
 refine kSeq ?_
 refine rSeq (rReg (oV (xMove rfl) rfl (oV (xFA (j' := 3) underlying147 rfl sizeOf145 rfl rfl) rfl (oV (xLoad hs75 isAgg145 rfl (i := 3) rfl rfl) rfl (oV (xB1 rfl (rLenS underlying145)) rfl (oV (xFA (j' := 7) underlying147 rfl sizeOf3 rfl rfl) rfl (oV (xLoad hs75 isAgg3 rfl (i := 3) rfl rfl) rfl (oV (xFA (j' := 8) underlying147 rfl sizeOf3 rfl rfl) rfl (oV (xLoad hs75 isAgg3 rfl (i := 3) rfl rfl) rfl (oCall call203 rfl rfl (wnew_s hnn hnn2 hla1 hla2 hla3 hs75) ?_))))))))))
 rintro _ w76 ⟨wp78, rfl, hs77⟩; clear hs75
 refine oV (xMove rfl) rfl (oV (xExtract rfl rfl) rfl (oV (xExtract rfl rfl) rfl (oV (xNil rfl) rfl (oV (xFA (j' := 2) underlying266 rfl sizeOf259 rfl rfl) rfl (oStore hs77 sizeOf259 rfl rfl rfl (i := 5) rfl rfl ?_)))))
 intro w79 hs80; clear hs77; dsimp only [List.set] at hs80
 refine oV (xIAA (o' := 2) underlying353 sizeOf29 rfl rfl (by omega) (by omega) (rfl)) rfl (oStore hs80 sizeOf29 rfl rfl rfl (i := 3) rfl rfl ?_)
 intro w81 hs82; clear hs80; dsimp only [List.set] at hs82
 refine oEnd (kSeq (rSeq (Run.sub (e' := [(1, (ptr b1)), (2, (.pointer none)), (3, (I 0)), (4, (ptr hb)), (5, (ptr b49))]) ⟨rfl, rfl, rfl, rfl, rfl, trivial⟩ ?_)))
 refine rReg (oV (xMove rfl) rfl (oV (xFA (j' := 9) underlying147 rfl sizeOf53 rfl rfl) rfl (oV (xLoad hs82 isAgg53 rfl (i := 4) rfl rfl) rfl (oV (xFA (j' := 10) underlying147 rfl sizeOf53 rfl rfl) rfl (oV (xLoad hs82 isAgg53 rfl (i := 4) rfl rfl) rfl (oCall call204 rfl rfl (pnew_s hrt hbu hs82) ?_))))))
 rintro _ w83 ⟨pp85, rfl, hs84⟩; clear hs82
 refine oV (xMove rfl) rfl (oV (xExtract rfl rfl) rfl (oV (xExtract rfl rfl) rfl (oV (xNil rfl) rfl (oV (xFA (j' := 3) underlying266 rfl sizeOf260 rfl rfl) rfl (oStore hs84 sizeOf260 rfl rfl rfl (i := 5) rfl rfl ?_)))))
 intro w86 hs87; clear hs84; dsimp only [List.set] at hs87
 refine oV (xIAA (o' := 3) underlying353 sizeOf29 rfl rfl (by omega) (by omega) (rfl)) rfl (oStore hs87 sizeOf29 rfl rfl rfl (i := 3) rfl rfl ?_)
 intro w88 hs89; clear hs87; dsimp only [List.set] at hs89
 refine oEnd (kSeq (rSeq ?_))
 refine rRegG [(some 16, fun w => ∃ M, Sep W0 w (row hb 266 [(ptr c53), (ptr x65), (ptr wp78), (ptr pp85), (ptr qp), (I (N : Int)), (I (K : Int)), (I (piece : Int)), (.slice pa nn pc), (I (NC : Int)), (I (sz : Int)), (I (most : Int)), (I (late : Int)), (I (gone : Int)), (.int .u64 (rt.toNat : Int)), (.int .u64 (bu.toNat : Int)), (ptr tp), (.pointer none), (.map (some bad)), (I 0), (I 0), (.bool false), (.int .u64 0)] :: M)), (none, fun w => ∃ M, Sep W0 w (row b1 147 [(I (N : Int)), (I (K : Int)), (I (piece : Int)), (.slice pa nn pc), (I (NC : Int)), (I (sz : Int)), (I (most : Int)), (I (late : Int)), (I (gone : Int)), (.int .u64 (rt.toNat : Int)), (.int .u64 (bu.toNat : Int))] :: M))] (by kernel_rfl) hs89 (fun w90 hs91 => ⟨?_, fun hS => ?_⟩)
 · exact ⟨fun _ => ⟨_, (Sep.front (i := 5) rfl hs91)⟩, ⟨_, (Sep.front (i := 4) rfl hs91)⟩, trivial⟩
 clear hs89
 refine gTake0 0 rfl (by kernel_rfl) hS (fun w => xMove rfl) rfl ?_
 clear hS; intro hS
 refine gTake0 1 rfl (by kernel_rfl) hS (fun w => xMove rfl) rfl ?_
 clear hS; intro hS
 refine gTake0 2 rfl (by kernel_rfl) hS (fun w => xNil rfl) rfl ?_
 clear hS; intro hS
 refine gTake0 3 rfl (by kernel_rfl) hS (fun w => xFA (j' := 16) underlying266 rfl sizeOf262 rfl rfl) rfl ?_
 clear hS; intro hS
 refine gTake 4 0 rfl (by kernel_rfl) rfl (by kernel_rfl) hS (fun w hq0 => by obtain ⟨M, hq⟩ := hq0; exact xLoad hq isAgg262 rfl (i := 0) rfl rfl) rfl ?_
 clear hS; intro hS
 refine gTake0 5 rfl (by kernel_rfl) hS (fun w => xFA (j' := 0) underlying147 rfl sizeOf3 rfl rfl) rfl ?_
 clear hS; intro hS
 refine gTake 6 1 rfl (by kernel_rfl) rfl (by kernel_rfl) hS (fun w hq0 => by obtain ⟨M, hq⟩ := hq0; exact xLoad hq isAgg3 rfl (i := 0) rfl rfl) rfl ?_
 clear hS; intro hS
 refine gTake0 7 rfl (by kernel_rfl) hS (fun w => xFA (j' := 3) underlying147 rfl sizeOf145 rfl rfl) rfl ?_
 clear hS; intro hS
 refine gTake 8 1 rfl (by kernel_rfl) rfl (by kernel_rfl) hS (fun w hq0 => by obtain ⟨M, hq⟩ := hq0; exact xLoad hq isAgg145 rfl (i := 0) rfl rfl) rfl ?_
 clear hS; intro hS
 refine gTake0 9 rfl (by kernel_rfl) hS (fun w => xB1 rfl (rLenS underlying145)) rfl ?_
 clear hS; intro hS
 refine gEff 10 (by kernel_rfl) rfl ?_
 replace hs91 := hs91.f2
 replace hs91 := hs91.f6
 refine oCall call161 rfl rfl (bopen_s hN1 hN2 hnn hnn2 hs91) ?_
 rintro _ w98 ⟨f92, bk93, d94, tt95, rfl, hle96, hbk97, hs99⟩; clear hs91
 replace hpt := hpt.mono hle96
 replace hq := hq.mono hle96
 replace hqm := hqm.mono hle96
 replace hcode55 := hcode55.mono hle96
 refine oEnd (kG ⟨fun _ => ⟨_, (Sep.front (i := 8) rfl hs99)⟩, ⟨_, (Sep.front (i := 7) rfl hs99)⟩, trivial⟩ ?_)
 clear hS; intro hS
 refine gTake0 11 rfl (by kernel_rfl) hS (fun w => xMove rfl) rfl ?_
 clear hS; intro hS
 refine gTake0 12 rfl (by kernel_rfl) hS (fun w => xExtract rfl rfl) rfl ?_
 clear hS; intro hS
 refine gTake0 13 rfl (by kernel_rfl) hS (fun w => xExtract rfl rfl) rfl ?_
 clear hS; intro hS
 refine gTake0 14 rfl (by kernel_rfl) hS (fun w => xNil rfl) rfl ?_
 clear hS; intro hS
 refine gTake0 15 rfl (by kernel_rfl) hS (fun w => xFA (j' := 17) underlying266 rfl sizeOf263 rfl rfl) rfl ?_
 clear hS; intro hS
 refine gEff 16 (by kernel_rfl) rfl ?_
 refine oStore hs99 sizeOf263 rfl rfl rfl (i := 8) rfl rfl ?_
 intro w100 hs101; clear hs99; dsimp only [List.set] at hs101
 refine oEnd (kG ⟨(tillDone (by kernel_rfl)), ⟨_, (Sep.front (i := 7) rfl hs101)⟩, trivial⟩ ?_)
 clear hS; intro hS
 refine gTake0 17 rfl (by kernel_rfl) hS (fun w => xIAA (o' := 4) underlying353 sizeOf29 rfl rfl (by omega) (by omega) (rfl)) rfl ?_
 clear hS; intro hS
 refine gEff 18 (by kernel_rfl) rfl ?_
 refine oStore hs101 sizeOf29 rfl rfl rfl (i := 6) rfl rfl ?_
 intro w102 hs103; clear hs101; dsimp only [List.set] at hs103
 refine oEnd (kG ⟨(tillDone (by kernel_rfl)), ⟨_, (Sep.front (i := 7) rfl hs103)⟩, trivial⟩ ?_)
 clear hS; intro hS
 refine gEnd (by kernel_rfl) ?_
 clear hS
 refine kSeq ?_
 refine rSeq (rSeq (rReg (oV (xLoadG hs103 isAgg353 sizeOf353 rfl (i := 6) rfl rfl) rfl (oV (xMove rfl) rfl (oEnd (kSeq (rBlk ?_)))))))
 replace hs103 := hs103.d6
 refine rLoop (fun mz e w => ∃ (i : Nat), 5 - i = mz ∧ e = [(1, (ptr b1)), (2, (.pointer none)), (3, (I 0)), (4, (ptr hb)), (90, (.agg #[(I 0), (I 0), (I 0), (I 0), (I 0)])), (91, (I (i : Int)))] ∧ (i ≤ 5) ∧ Sep W0 w (row tt95 365 [(I (N : Int)), (I (nn : Int)), (.int .u32 1), (.int .u32 0), (.slice none 0 0)] :: diaryA d94 tp 0 :: tapeA tp 0 most :: pool f92 :: watchA wp78 nn 0 :: rackA f64 x65 c53 sz NC 0 nn nds66 :: row b1 147 [(I (N : Int)), (I (K : Int)), (I (piece : Int)), (.slice pa nn pc), (I (NC : Int)), (I (sz : Int)), (I (most : Int)), (I (late : Int)), (I (gone : Int)), (.int .u64 (rt.toNat : Int)), (.int .u64 (bu.toNat : Int))] :: row hb 266 [(ptr c53), (ptr x65), (ptr wp78), (ptr pp85), (ptr qp), (I (N : Int)), (I (K : Int)), (I (piece : Int)), (.slice pa nn pc), (I (NC : Int)), (I (sz : Int)), (I (most : Int)), (I (late : Int)), (I (gone : Int)), (.int .u64 (rt.toNat : Int)), (.int .u64 (bu.toNat : Int)), (ptr tp), (ptr bk93), (.map (some bad)), (I 0), (I 0), (.bool false), (.int .u64 0)] :: mapC Sh.val bad [] :: L)) ⟨_, _, ⟨0, rfl, rfl, (by omega), hs103⟩, ⟨rfl, rfl, rfl, rfl, rfl, rfl, trivial⟩⟩ ?_
 clear hs103; rintro mz e w ⟨i, rfl, rfl, hi, hs⟩
 refine rSeq (rReg (oV (xCmp rfl rfl rLss) rfl (oEnd (kSeq (rSeq ?_)))))
 refine rCondD rfl (fun hc104 => ?_) (fun hc104 => ?_)
 · refine rSkip (kSeq (rSeq (rBlk (rSeq (rReg (oV (xIdx5 (by omega) rfl rfl) rfl ?_))))))
   refine oV (xAssign rfl) rfl (oEnd (kSeq (rSeq (rReg (oV (xMove rfl) rfl (oV (xCmp (r := false) rfl rfl rNeq) rfl (oEnd (kSeq (rCondF rfl (rSkip (kBlk (kSeq (rReg (oV (xAr rfl rfl (rAdd (wI (by omega) (by omega)))) rfl (oV (xMove rfl) rfl ?_)))))))))))))))
   exact oEnd (kLoop (5 - (i + 1)) _ (by omega) ⟨i + 1, rfl, rfl, (by omega), hs⟩ ⟨rfl, rfl, rfl, rfl, rfl, rfl, trivial⟩)
 · refine rExit (kSeqX (kLoopX (kBlkH (kSeq (rSeq (rSeq (rReg (oV (xFA (j' := 2) underlying147 rfl sizeOf3 rfl rfl) rfl (oV (xLoad hs isAgg3 rfl (i := 6) rfl rfl) rfl (oV (xCmp (r := false) rfl rfl (bF (by omega) rLss)) rfl (oV (xMove rfl) rfl (oGuardT rfl rfl (oV (xFA (j' := 2) underlying147 rfl sizeOf3 rfl rfl) rfl (oGuardT rfl rfl (oV (xLoad hs isAgg3 rfl (i := 6) rfl rfl) rfl (oGuardT rfl rfl (oV (xCmp (r := false) rfl rfl (bF (by omega) rGtr)) rfl (oV (xPickF rfl rfl) rfl (oV (xMove rfl) rfl (oGuardT rfl rfl (oV (xFA (j' := 3) underlying147 rfl sizeOf145 rfl rfl) rfl (oGuardT rfl rfl (oV (xLoad hs isAgg145 rfl (i := 6) rfl rfl) rfl (oGuardT rfl rfl (oV (xB1 rfl (rLenS underlying145)) rfl (oGuardT rfl rfl (oV (xFA (j' := 0) underlying147 rfl sizeOf3 rfl rfl) rfl (oGuardT rfl rfl (oV (xLoad hs isAgg3 rfl (i := 6) rfl rfl) rfl (oGuardT rfl rfl ?_))))))))))))))))))))))))))))))
   refine oV (xCmp (r := false) rfl rfl (bF (by omega) rLss)) rfl (oV (xPickF rfl rfl) rfl (oEnd (kSeq (rCondF rfl (rSkip (kSeq (rSeq (rReg (oV (xMove rfl) rfl (oV (xAssign rfl) rfl (oV (xAssign rfl) rfl (oEnd (kSeq (rRet (kFin (.tmp rfl (.tmp rfl (.nil))) ?_)))))))))))))))
   replace hs := hs.f8
   replace hs := hs.f4
   obtain ⟨f105, hle106, hm107, hs108⟩ := Sep.freezeMap (i := 0) hs rfl; clear hs; dsimp only [List.eraseIdx] at hs108
   replace hpt := hpt.mono hle106
   replace hq := hq.mono hle106
   replace hqm := hqm.mono hle106
   replace hcode55 := hcode55.mono hle106
   replace hbk97 := hbk97.mono hle106
   replace hs108 := hs108.f7
   replace hs108 := hs108.f1
   obtain ⟨f109, hle110, hp111, hs112⟩ := Sep.freezePR (i := 0) hs108 rfl; clear hs108; dsimp only [List.eraseIdx] at hs112
   replace hpt := hpt.mono hle110
   replace hq := hq.mono hle110
   replace hqm := hqm.mono hle110
   replace hcode55 := hcode55.mono hle110
   replace hbk97 := hbk97.mono hle110
   replace hm107 := hm107.mono hle110
   have hs113 := Sep.imp (i := 5) (A' := rackA f109 x65 c53 sz NC 0 nn nds66) rfl (fun h => rackA_mono (FLe.trans hle96 (FLe.trans hle106 hle110)) (Nat.le_refl _) h) hs112; dsimp only [List.set] at hs113; clear hs112
   replace hs113 := hs113.d6
   replace hs113 := hs113.f3
   replace hs113 := hs113.f3
   replace hs113 := hs113.f4
   replace hs113 := hs113.f4
   replace hs113 := hs113.f5
   replace hs113 := hs113.f5
   exact ⟨_, _, (⟨c53, x65, wp78, pp85, qp, tp, bk93, bad, d94, tt95, qm, N, K, nn, piece⟩ : Hp), nds66, rfl, (FLe.trans hle2 (FLe.trans hle54 (FLe.trans hle67 (FLe.trans hle96 (FLe.trans hle106 hle110))))), ⟨⟨_, _, _, _, _, _, _, _, _, _, _, _, hp111⟩, hbk97, hq, hm107, hqm, hcode55⟩, ⟨rfl, rfl, rfl, rfl⟩, hnl68, hfr69, hs113⟩
theorem ynew_s {W0 w : World} {L : List Asn} {f : HF} {N K piece nn pc NC sz most late gone : Nat} {rt bu : UInt64} {pa : Option Addr} {pts : List Pt} (hpt : Reads f 1 (.slice pa nn pc) nn (ptC pts)) (hpl : pts.length = nn) (hK : K = 2 ∨ K = 3) (hK2 : 2 * K - 1 ≤ N) (hN2 : N ≤ 24) (hN3 : N ≤ nn) (hpts : (Go.Sl.pts N (K - 1)).length = N) (hnn2 : nn ≤ 32) (hp1 : 1 ≤ piece) (hp2 : piece ≤ 256) (hNC1 : 1 ≤ NC) (hNC2 : NC ≤ 1024) (hsz1 : 1 ≤ sz) (hsz2 : sz ≤ 4096) (hmost : most ≤ 1073741824) (hla1 : 1 ≤ late) (hla2 : late < gone) (hla3 : gone ≤ 1000000) (hrt : rt.toNat ≤ 1152921504606846976) (hbu : bu.toNat ≤ 1152921504606846976) (hs : Sep W0 w (pool f :: L)) : Calls Tryz.prog 66 [.agg #[.int .i64 N, .int .i64 K, .int .i64 piece, .slice pa nn pc, .int .i64 NC, .int .i64 sz, .int .i64 most, .int .i64 late, .int .i64 gone, Q rt, Q bu]].toArray w
 (Ret fun r w' => ∃ (f' : HF) (y h : Nat) (p : Hp) (nds : List Nd), r = .tuple #[ptr y, .int .i64 0] ∧ FLe f f' ∧ PR f' y [ptr h, .string ⟨#[]⟩, I 0, I 0, I 0] ∧ HallP f' h p ∧ (p.n = N ∧ p.k = K ∧ p.nn = nn ∧ p.piece = piece) ∧ nds.length = nn ∧ (∀ nd ∈ nds, nd.up = true ∧ nd.ks = []) ∧ Sep W0 w' (pool f' :: rackA f' p.x p.c sz NC 0 nn nds :: row p.t 365 [I (N : Int), I (nn : Int), U 1, U 0, .slice none 0 0] :: watchA p.wp nn 0 :: diaryA p.d p.tp 0 :: tapeA p.tp 0 most :: L)) := by
 refine enter (args := [(.agg #[(I (N : Int)), (I (K : Int)), (I (piece : Int)), (.slice pa nn pc), (I (NC : Int)), (I (sz : Int)), (I (most : Int)), (I (late : Int)), (I (gone : Int)), (.int .u64 (rt.toNat : Int)), (.int .u64 (bu.toNat : Int))])]) (n := 17) (rs := [.tmp 2, .tmp 3]) func66 rfl rfl rfl rfl ?_
 refine rSeq (rReg (oBox hs rfl rfl rfl ?_))
 intro b1 w2 hs3; clear hs
 refine oV (xAssign rfl) rfl (oV (xAssign rfl) rfl (oEnd (kSeq (rSeq (rReg (oV (xLoadG hs3 isAgg147 sizeOf147 rfl (i := 0) rfl rfl) rfl ?_))))))
 replace hs3 := hs3.f1
 refine oCall call140 rfl rfl (hnew_s hpt hpl hK hK2 hN2 hN3 hpts hnn2 hp1 hp2 hNC1 hNC2 hsz1 hsz2 hmost hla1 hla2 hla3 hrt hbu hs3) ?_
 rintro _ w13 ⟨f4, h5, p6, nds7, rfl, hle8, hh9, hpe10, hnl11, hfr12, hs14⟩; clear hs3
 replace hpt := hpt.mono hle8
 refine oV (xMove rfl) rfl (oV (xExtract rfl rfl) rfl (oV (xExtract rfl rfl) rfl (oV (xAssign rfl) rfl (oV (xAssign rfl) rfl (oEnd (kSeq (rSeq (rSeq (rReg (oV (xMove rfl) rfl (oV (xCmp (r := false) rfl rfl rNeq) rfl (oEnd (kSeq (rCondF rfl (rSkip (kSeq (rSeq (rReg (oV (xMove rfl) rfl (oV (xBuild (v := (.agg #[(ptr h5), (.string ⟨#[]⟩), (I 0), (I 0), (I 0)])) rfl (fun w => by kernel_rfl)) rfl (oBox hs14 rfl rfl rfl ?_)))))))))))))))))))))
 intro b15 w16 hs17; clear hs14
 refine oV (xAssign rfl) rfl (oV (xAssign rfl) rfl (oEnd (kSeq (rRet (kFin (.tmp rfl (.tmp rfl (.nil))) ?_)))))
 replace hs17 := hs17.f1
 obtain ⟨f18, hle19, hp20, hs21⟩ := Sep.freezePR (i := 0) hs17 rfl; clear hs17; dsimp only [List.eraseIdx] at hs21
 replace hpt := hpt.mono hle19
 replace hh9 := hh9.mono hle19
 have hs22 := Sep.imp (i := 1) (A' := rackA f18 p6.x p6.c sz NC 0 nn nds7) rfl (fun h => rackA_mono hle19 (Nat.le_refl _) h) hs21; dsimp only [List.set] at hs22; clear hs21
 replace hs22 := hs22.d6
 exact ⟨_, _, h5, p6, nds7, rfl, (FLe.trans hle8 hle19), hp20, hh9, hpe10, hnl11, hfr12, hs22⟩
end Go.Sl
namespace Go.Sl
open Go.Proofs Go.Proofs.Tryz
theorem setting0_s {W0 w : World} {L : List Asn} {f : HF} (hs : Sep W0 w (pool f :: L)) : Calls Tryz.prog 141 [.agg #[.int .u8 0, .int .u8 0, .int .u8 0, .int .u8 0, .int .u8 0, .int .u8 0, .slice none 0 0]].toArray w
 (Ret fun r w' => ∃ f' pa pc pts, r = .agg #[I 3, I 2, I 1, .slice pa 3 pc, I 1000, I 100, I 1048576, I 2, I 4, Q 0, Q 0] ∧ FLe f f' ∧ pts.length = 3 ∧ Reads f' 1 (.slice pa 3 pc) 3 (ptC pts) ∧ Sep W0 w' (pool f' :: L)) := by
 refine enter (args := [(.agg #[(.int .u8 0), (.int .u8 0), (.int .u8 0), (.int .u8 0), (.int .u8 0), (.int .u8 0), (.slice none 0 0)])]) (n := 72) (rs := [.cell 2 147]) func141 rfl rfl rfl rfl ?_
 refine rSeq (rReg (oBox hs rfl rfl rfl ?_))
 intro b1 w2 hs3; clear hs
 refine oAlloc hs3 zeroValue147 rfl rfl ?_
 intro b4 w5 hs6; clear hs3
 refine oEnd (kSeq (rSeq (rReg (oV (xFA (j' := 1) underlying157 rfl sizeOf5 rfl rfl) rfl (oV (xLoad hs6 isAgg5 rfl (i := 1) rfl rfl) rfl (oV (xAr (r := 0) rfl rfl (fun w => by kernel_rfl)) rfl (oV (xConv underlying5 underlying3 rfl (rfl)) rfl (oV (xAr (r := 2) rfl rfl (rAdd rfl)) rfl (oV (xAssign rfl) rfl (oEnd (kSeq (rSeq (rReg (oV (xMove rfl) rfl (oV (xAr (r := 4) rfl rfl (rMul rfl)) rfl (oV (xAr (r := 3) rfl rfl (rSub rfl)) rfl (oV (xFA (j' := 0) underlying157 rfl sizeOf5 rfl rfl) rfl (oV (xLoad hs6 isAgg5 rfl (i := 1) rfl rfl) rfl (oV (xAr (r := 0) rfl rfl (fun w => by kernel_rfl)) rfl (oV (xConv underlying5 underlying3 rfl (rfl)) rfl (oV (xAr (r := 3) rfl rfl (rAdd rfl)) rfl (oV (xMove rfl) rfl (oV (xFA (j' := 2) underlying157 rfl sizeOf5 rfl rfl) rfl (oV (xLoad hs6 isAgg5 rfl (i := 1) rfl rfl) rfl (oV (xAr (r := 0) rfl rfl (fun w => by kernel_rfl)) rfl ?_)))))))))))))))))))))))))
 refine oV (xConv underlying5 underlying3 rfl (rfl)) rfl (oV (xAr (r := 1) rfl rfl (rAdd rfl)) rfl (oV (xFA (j' := 4) underlying157 rfl sizeOf5 rfl rfl) rfl (oV (xLoad hs6 isAgg5 rfl (i := 1) rfl rfl) rfl (oV (xConv underlying5 underlying53 rfl (rfl)) rfl (oV (xFA (j' := 5) underlying157 rfl sizeOf5 rfl rfl) rfl (oV (xLoad hs6 isAgg5 rfl (i := 1) rfl rfl) rfl (oV (xConv underlying5 underlying53 rfl (rfl)) rfl (oV (xBuild (v := (.agg #[(I 3), (I 2), (I 1), (.slice none 0 0), (I 1000), (I 100), (I 1048576), (I 2), (I 4), (.int .u64 0), (.int .u64 0)])) rfl (fun w => by kernel_rfl)) rfl (oAlloc hs6 zeroValue147 rfl rfl ?_)))))))))
 intro b7 w8 hs9; clear hs6
 refine oStoreG hs9 sizeOf147 rfl rfl rfl rfl (i := 0) rfl rfl ?_
 intro w10 hs11; clear hs9; dsimp only [List.set, putAt] at hs11
 refine oEnd (kSeq (rSeq (rSeq (rReg (oV (xAssign rfl) rfl (oEnd (kSeq (rBlk ?_))))))))
 replace hs11 := Sep.nil 149 1 hs11
 rw [show ([] : List Value) = ptC [] from rfl] at hs11
 replace hs11 := hs11.f4
 replace hs11 := hs11.f3
 replace hs11 := hs11.f4
 replace hs11 := hs11.f4
 replace hs11 := hs11.f4
 refine rLoop (fun mz e w => ∃ (i : Nat) (la : Option Addr) (cp : Nat) (pts : List Pt), 3 - i = mz ∧ e = [(1, (ptr b1)), (2, (ptr b4)), (4, (ptr b7)), (5, (I (i : Int)))] ∧ (i ≤ 3) ∧ (pts.length = i) ∧ Sep W0 w (own 149 1 (.slice la i cp) i (ptC pts) :: row b7 147 [(I 3), (I 2), (I 1), (.slice la i cp), (I 1000), (I 100), (I 1048576), (I 2), (I 4), (.int .u64 0), (.int .u64 0)] :: row b1 157 [(.int .u8 0), (.int .u8 0), (.int .u8 0), (.int .u8 0), (.int .u8 0), (.int .u8 0), (.slice none 0 0)] :: row b4 147 [(I 0), (I 0), (I 0), (.slice none 0 0), (I 0), (I 0), (I 0), (I 0), (I 0), (.int .u64 0), (.int .u64 0)] :: pool f :: L)) ⟨_, _, ⟨0, _, _, [], rfl, rfl, (by omega), (rfl), hs11⟩, ⟨rfl, rfl, rfl, rfl, trivial⟩⟩ ?_
 clear hs11; rintro mz e w ⟨i, la, cp, pts, rfl, rfl, hi, hpl, hs⟩
 refine rSeq (rSeq (rReg (oV (xMove rfl) rfl (oV (xFA (j' := 0) underlying147 rfl sizeOf3 rfl rfl) rfl (oV (xLoad hs isAgg3 rfl (i := 1) rfl rfl) rfl (oV (xFA (j' := 3) underlying157 rfl sizeOf5 rfl rfl) rfl (oV (xLoad hs isAgg5 rfl (i := 2) rfl rfl) rfl (oV (xAr (r := 0) rfl rfl (fun w => by kernel_rfl)) rfl (oV (xConv underlying5 underlying3 rfl (rfl)) rfl (oV (xAr (r := 3) rfl rfl (rAdd rfl)) rfl (oV (xCmp rfl rfl rLss) rfl (oEnd (kSeq ?_)))))))))))))
 refine rCondD rfl (fun hc12 => ?_) (fun hc12 => ?_)
 · refine rSkip (kSeq (rSeq (rBlk (rSeq (rReg (oV (xMove rfl) rfl (oV (xAssign rfl) rfl (oEnd (kSeq (rSeq (rSeq (rReg (oV (xMove rfl) rfl (oV (xFA (j' := 6) underlying157 rfl sizeOf155 rfl rfl) rfl (oV (xLoad hs isAgg155 rfl (i := 2) rfl rfl) rfl (oV (xB1 rfl (rLenS underlying155)) rfl (oV (xCmp (r := false) rfl rfl (bF (by omega) rLss)) rfl (oEnd (kSeq (rCondF rfl (rSkip (kSeq (rSeq (rReg (oV (xMove rfl) rfl (oV (xMove rfl) rfl (oV (xAr rfl rfl (rRemN (by omega) (by omega))) rfl (oCall call65 rfl rfl (site_s i (i % 3) (by omega) (by omega) hs) ?_))))))))))))))))))))))))))))
   rintro _ w15 ⟨ax13, ay14, rfl, hs16⟩; clear hs
   refine oV (xMove rfl) rfl (oV (xExtract rfl rfl) rfl (oV (xExtract rfl rfl) rfl (oV (xAssign rfl) rfl (oV (xAssign rfl) rfl (oEnd (kSeq (rReg (oV (xFA (j' := 3) underlying147 rfl sizeOf145 rfl rfl) rfl (oV (xLoad hs16 isAgg145 rfl (i := 1) rfl rfl) rfl (oV (xMove rfl) rfl (oBuildSlice (el := 149) (cs := [(.complex .f64 ax13 ay14)]) hs16 rfl (fun w => by kernel_rfl) rfl ?_)))))))))))
   intro b17 w18 hs19; clear hs16
   refine oAppend (inf := Tryz.t149) (size := 1) (bytes := 16) hs19 (i := 1) rfl underlying145 (by kernel_rfl) rfl rfl rfl rfl rfl rfl rfl (src_row hs19 (i := 0) rfl rfl rfl) (by first | omega | (simp only [List.length_append, List.length_cons, List.length_nil, List.length_map]; omega)) (by first | omega | (simp only [List.length_append, List.length_cons, List.length_nil, List.length_map]; omega)) rfl ?_
   intro a20 c21 w22 hs23; clear hs19; dsimp only [List.set] at hs23
   rw [ptC_snoc] at hs23
   refine oV (xFA (j' := 3) underlying147 rfl sizeOf145 rfl rfl) rfl (oStore hs23 sizeOf145 rfl rfl rfl (i := 2) rfl rfl ?_)
   intro w24 hs25; clear hs23; dsimp only [List.set] at hs25
   refine oEnd (kBlk (kSeq (rReg (oV (xMove rfl) rfl (oV (xAr rfl rfl (rAdd (wI (by omega) (by omega)))) rfl (oV (xAssign rfl) rfl ?_))))))
   replace hs25 := hs25.d0
   exact oEnd (kLoop (3 - (i + 1)) _ (by omega) ⟨i + 1, _, _, _, rfl, rfl, (by omega), (by rw [List.length_append, hpl]; rfl), hs25⟩ ⟨rfl, rfl, rfl, rfl, trivial⟩)
 · refine rExit (kSeqX (kLoopX (kBlkH (kSeq (rSeq (rReg (oV (xLoadG hs isAgg147 sizeOf147 rfl (i := 1) rfl rfl) rfl (oStoreG hs sizeOf147 rfl rfl rfl rfl (i := 3) rfl rfl ?_))))))))
   intro w26 hs27; clear hs; dsimp only [List.set, putAt] at hs27
   refine oEnd (kSeq (rRet (kFin (.cell rfl (run_varG hs27 isAgg147 sizeOf147 (i := 3) rfl rfl) (.nil)) ?_)))
   obtain rfl : i = 3 := by omega
   replace hs27 := hs27.f4
   obtain ⟨f28, hle29, hv30, hs31⟩ := Sep.freezeOwn (i := 0) hs27 rfl; clear hs27; dsimp only [List.eraseIdx] at hs31
   replace hs31 := hs31.d3
   replace hs31 := hs31.d2
   replace hs31 := hs31.d1
   exact ⟨_, _, _, pts, rfl, hle29, hpl, hv30, hs31⟩
theorem yhall_s {W0 w : World} {L : List Asn} {f : HF} {y h : Nat} (hy : PR f y [ptr h, .string ⟨#[]⟩, I 0, I 0, I 0]) (hs : Sep W0 w (pool f :: L)) : Calls Tryz.prog 142 [ptr y].toArray w (Ret fun r w' => r = ptr h ∧ Sep W0 w' (pool f :: L)) := by
 refine enter (args := [(ptr y)]) (n := 9) (rs := [.tmp 2]) func142 rfl rfl rfl rfl ?_
 refine rSeq (rReg (oV (xAssign rfl) rfl (oEnd (kSeq (rSeq (rSeq (rReg (oV (xMove rfl) rfl (oV (xBin (r := .bool false) rfl rfl (fun _ => rfl) (fun w => by kernel_rfl)) rfl (oEnd (kSeq (rCondF rfl (rSkip (kSeq (rSeq (rReg (oV (xMove rfl) rfl (oV (xNil rfl) rfl (oV (xFA (j' := 0) underlying165 rfl sizeOf161 rfl rfl) rfl (oV (xLoadC isAgg161 rfl (PR.cell hy hs (i := 0) rfl rfl)) rfl (oV (xAssign rfl) rfl (oEnd (kSeq (rRet (kFin (.tmp rfl (.nil)) ?_)))))))))))))))))))))))))
 exact ⟨rfl, hs⟩
theorem begun0_s {W0 w : World} {L : List Asn} {f : HF} (hs : Sep W0 w (pool f :: L)) : Calls Tryz.prog 67 [.agg #[.int .u8 0, .int .u8 0, .int .u8 0, .int .u8 0, .int .u8 0, .int .u8 0, .slice none 0 0]].toArray w
 (Ret fun r w' => ∃ (f' : HF) (y h : Nat) (p : Hp) (nds : List Nd), r = ptr y ∧ FLe f f' ∧ PR f' y [ptr h, .string ⟨#[]⟩, I 0, I 0, I 0] ∧ HallP f' h p ∧ (p.n = 3 ∧ p.k = 2 ∧ p.nn = 3 ∧ p.piece = 1) ∧ nds.length = 3 ∧ (∀ nd ∈ nds, nd.up = true ∧ nd.ks = []) ∧ Sep W0 w' (pool f' :: rackA f' p.x p.c 100 1000 0 3 nds :: row p.t 365 [I 3, I 3, U 1, U 0, .slice none 0 0] :: watchA p.wp 3 0 :: diaryA p.d p.tp 0 :: tapeA p.tp 0 1048576 :: L)) := by
 refine enter (args := [(.agg #[(.int .u8 0), (.int .u8 0), (.int .u8 0), (.int .u8 0), (.int .u8 0), (.int .u8 0), (.slice none 0 0)])]) (n := 61) (rs := [.tmp 2]) func67 rfl rfl rfl rfl ?_
 refine rSeq (rReg (oBox hs rfl rfl rfl ?_))
 intro b1 w2 hs3; clear hs
 refine oV (xAssign rfl) rfl (oEnd (kSeq (rSeq (rReg (oV (xLoadG hs3 isAgg157 sizeOf157 rfl (i := 0) rfl rfl) rfl ?_)))))
 replace hs3 := hs3.f1
 refine oCall call141 rfl rfl (setting0_s hs3) ?_
 rintro _ w11 ⟨f4, pa5, pc6, pts7, rfl, hle8, hpl9, hpt10, hs12⟩; clear hs3
 refine oCall call66 rfl rfl (ynew_s (N := 3) (K := 2) (piece := 1) (NC := 1000) (sz := 100) (most := 1048576) (late := 2) (gone := 4) (rt := 0) (bu := 0) hpt10 hpl9 (.inl rfl) (by decide) (by decide) (by decide) (by decide +kernel) (by decide) (by decide) (by decide) (by decide) (by decide) (by decide) (by decide) (by decide) (by decide) (by decide) (by decide) (by decide) (by decide) hs12) ?_
 rintro _ w15 ⟨f13, y, h, p, nds, rfl, hle14, hy, hh, hpe, hnl, hfr, hs16⟩; clear hs12
 replace hpt10 := hpt10.mono hle14
 obtain ⟨⟨s5, s6, s8, s9, s10, s11, s12, s13, s14, s15, s20, s22, hh0⟩, hbk, hqp, hbad, hqm, hcode⟩ := id hh
 refine oV (xMove rfl) rfl (oV (xExtract rfl rfl) rfl (oV (xExtract rfl rfl) rfl (oV (xAssign rfl) rfl (oV (xAssign rfl) rfl (oEnd (kSeq (rSeq (rSeq (rReg (oV (xMove rfl) rfl (oV (xCmp (r := false) rfl rfl rNeq) rfl (oV (xMove rfl) rfl (oGuardT rfl rfl (oV (xMove rfl) rfl (oGuardT rfl rfl (oV (xBin (r := .bool false) rfl rfl (fun _ => rfl) (fun w => by kernel_rfl)) rfl (oV (xPickF rfl rfl) rfl (oV (xMove rfl) rfl (oGuardT rfl rfl (oV (xMove rfl) rfl (oGuardT rfl rfl (oCall call142 rfl rfl (yhall_s hy hs16) ?_))))))))))))))))))))))
 rintro _ w17 ⟨rfl, hs18⟩; clear hs16
 refine oGuardT rfl rfl (oV (xBin (r := .bool false) rfl rfl (fun _ => rfl) (fun w => by kernel_rfl)) rfl (oV (xPickF rfl rfl) rfl (oV (xMove rfl) rfl (oGuardT rfl rfl (oV (xMove rfl) rfl (oGuardT rfl rfl (oCall call142 rfl rfl (yhall_s hy hs18) ?_)))))))
 rintro _ w19 ⟨rfl, hs20⟩; clear hs18
 refine oGuardT rfl rfl (oV (xNil rfl) rfl (oGuardT rfl rfl (oV (xFA (j' := 1) underlying266 rfl sizeOf258 rfl rfl) rfl (oGuardT rfl rfl (oV (xLoadC isAgg258 rfl (PR.cell hh0 hs20 (i := 0) rfl rfl)) rfl (oGuardT rfl rfl (oV (xBin (r := .bool false) rfl rfl (fun _ => rfl) (fun w => by kernel_rfl)) rfl (oV (xPickF rfl rfl) rfl (oV (xMove rfl) rfl (oGuardT rfl rfl (oV (xMove rfl) rfl (oGuardT rfl rfl (oCall call142 rfl rfl (yhall_s hy hs20) ?_)))))))))))))
 rintro _ w21 ⟨rfl, hs22⟩; clear hs20
 refine oGuardT rfl rfl (oV (xNil rfl) rfl (oGuardT rfl rfl (oV (xFA (j' := 4) underlying266 rfl sizeOf261 rfl rfl) rfl (oGuardT rfl rfl (oV (xLoadC isAgg261 rfl (PR.cell hh0 hs22 (i := 0) rfl rfl)) rfl (oGuardT rfl rfl (oV (xBin (r := .bool false) rfl rfl (fun _ => rfl) (fun w => by kernel_rfl)) rfl (oV (xPickF rfl rfl) rfl (oV (xMove rfl) rfl (oGuardT rfl rfl (oV (xMove rfl) rfl (oGuardT rfl rfl (oCall call142 rfl rfl (yhall_s hy hs22) ?_)))))))))))))
 rintro _ w23 ⟨rfl, hs24⟩; clear hs22
 refine oGuardT rfl rfl (oV (xNil rfl) rfl (oGuardT rfl rfl (oV (xFA (j' := 3) underlying266 rfl sizeOf260 rfl rfl) rfl (oGuardT rfl rfl (oV (xLoadC isAgg260 rfl (PR.cell hh0 hs24 (i := 0) rfl rfl)) rfl (oGuardT rfl rfl (oV (xBin (r := .bool false) rfl rfl (fun _ => rfl) (fun w => by kernel_rfl)) rfl (oV (xPickF rfl rfl) rfl (oV (xMove rfl) rfl (oGuardT rfl rfl (oV (xMove rfl) rfl (oGuardT rfl rfl (oCall call142 rfl rfl (yhall_s hy hs24) ?_)))))))))))))
 rintro _ w25 ⟨rfl, hs26⟩; clear hs24
 refine oGuardT rfl rfl (oV (xNil rfl) rfl (oGuardT rfl rfl (oV (xFA (j' := 2) underlying266 rfl sizeOf259 rfl rfl) rfl (oGuardT rfl rfl (oV (xLoadC isAgg259 rfl (PR.cell hh0 hs26 (i := 0) rfl rfl)) rfl (oGuardT rfl rfl (oV (xBin (r := .bool false) rfl rfl (fun _ => rfl) (fun w => by kernel_rfl)) rfl (oV (xPickF rfl rfl) rfl (oV (xMove rfl) rfl (oGuardT rfl rfl (oV (xMove rfl) rfl (oGuardT rfl rfl (oCall call142 rfl rfl (yhall_s hy hs26) ?_)))))))))))))
 rintro _ w27 ⟨rfl, hs28⟩; clear hs26
 refine oGuardT rfl rfl (oCall call143 rfl rfl (htable_s hh hs28) ?_)
 rintro _ w29 ⟨rfl, hs30⟩; clear hs28
 refine oGuardT rfl rfl (oV (xBin (r := .bool false) rfl rfl (fun _ => rfl) (fun w => by kernel_rfl)) rfl (oV (xPickF rfl rfl) rfl (oEnd (kSeq (rCondF rfl (rSkip (kSeq (rSeq (Run.sub (e' := [(2, (.pointer none)), (3, (ptr y))]) ⟨rfl, rfl, trivial⟩ ?_)))))))))
 refine rReg (oV (xMove rfl) rfl (oV (xAssign rfl) rfl (oEnd (kSeq (rRet (kFin (.tmp rfl (.nil)) ?_))))))
 replace hs30 := hs30.d6
 exact ⟨_, y, h, p, nds, rfl, (FLe.trans hle8 hle14), hy, hh, hpe, hnl, hfr, hs30⟩
end Go.Sl
namespace Go.Sl
open Go.Proofs
structure Sto where
  nds : List Nd
  obs : List Ob
  nx : UInt32
  la : UInt32
  q : Nat
  tm : Nat
  dm : Nat
def stoA (f : HF) (p : Hp) (sz NC most : Nat) (S : Sto) : Asn := fun h => ∃ y : (Option Addr × Nat) × List Value × Nat, (Reads f 6 (.slice y.1.1 S.obs.length y.1.2) S.obs.length y.2.1 ∧ ObsR f y.2.1 S.obs ∧ y.2.2 ≤ S.tm) ∧
  sepL [rackA f p.x p.c sz NC S.q p.nn S.nds, row p.t 365 [I (p.n : Int), I (p.nn : Int), U S.nx, U S.la, .slice y.1.1 S.obs.length y.1.2], watchA p.wp p.nn 0, diaryA p.d p.tp S.dm, tapeA p.tp y.2.2 most] h
section
variable {W0 w : World} {L : List Asn} {f f' : HF} {p : Hp} {sz NC most : Nat} {S : Sto}
theorem stoA_open (hs : Sep W0 w (stoA f p sz NC most S :: L)) : ∃ (a : Option Addr) (cp : Nat) (cs : List Value) (tm : Nat), Reads f 6 (.slice a S.obs.length cp) S.obs.length cs ∧ ObsR f cs S.obs ∧ tm ≤ S.tm ∧
    Sep W0 w (rackA f p.x p.c sz NC S.q p.nn S.nds :: row p.t 365 [I (p.n : Int), I (p.nn : Int), U S.nx, U S.la, .slice a S.obs.length cp] :: watchA p.wp p.nn 0 :: diaryA p.d p.tp S.dm :: tapeA p.tp tm most :: L) := by
  obtain ⟨⟨⟨a, cp⟩, cs, tm⟩, h⟩ := Sep.ex hs
  obtain ⟨⟨h1, h2, h3⟩, h4⟩ := Sep.pure h
  exact ⟨a, cp, cs, tm, h1, h2, h3, Sep.open (M := [_, _, _, _, _]) h4⟩
theorem stoA_shut {a : Option Addr} {n cp : Nat} {cs : List Value} {tm : Nat} (hn : S.obs.length = n) (h1 : Reads f 6 (.slice a n cp) n cs) (h2 : ObsR f cs S.obs) (h3 : tm ≤ S.tm)
    (hs : Sep W0 w (rackA f p.x p.c sz NC S.q p.nn S.nds :: row p.t 365 [I (p.n : Int), I (p.nn : Int), U S.nx, U S.la, .slice a n cp] :: watchA p.wp p.nn 0 :: diaryA p.d p.tp S.dm :: tapeA p.tp tm most :: L)) : Sep W0 w (stoA f p sz NC most S :: L) := by
  subst hn
  exact Sep.intro (A := fun y : (Option Addr × Nat) × List Value × Nat => fun h => (Reads f 6 (.slice y.1.1 S.obs.length y.1.2) S.obs.length y.2.1 ∧ ObsR f y.2.1 S.obs ∧ y.2.2 ≤ S.tm) ∧
    sepL [rackA f p.x p.c sz NC S.q p.nn S.nds, row p.t 365 [I (p.n : Int), I (p.nn : Int), U S.nx, U S.la, .slice y.1.1 S.obs.length y.1.2], watchA p.wp p.nn 0, diaryA p.d p.tp S.dm, tapeA p.tp y.2.2 most] h) ((a, cp), cs, tm) (Sep.mkPure ⟨h1, h2, h3⟩ (Sep.shut [_, _, _, _, _] hs))
theorem stoA_mono (hf : FLe f f') (h : HF) (hr : stoA f p sz NC most S h) : stoA f' p sz NC most S h := by
  obtain ⟨y, ⟨h1, h2, h3⟩, T, h4, h5⟩ := hr
  exact ⟨y, ⟨h1.mono hf, h2.mono hf, h3⟩, T, rackA_mono hf (Nat.le_refl _) _ h4, h5⟩
end
def evC (e : Int) (d : Value) (nm : Value) (lk : List Value) : List Value := [I e, d, nm] ++ lk ++ [.int .u32 0, .int .u16 0, I 0, I 0, .bool false, I 0, I 0, I 0]
def lk0 : List Value := [I 0, I 0, I 0, .bool false]
end Go.Sl
namespace Go.Sl
open Go.Proofs Go.Proofs.Tryz
section
variable {W0 w : World} {L : List Asn} {f : HF} {p : Hp} {sz NC most : Nat} {S : Sto}
theorem sto_in (hs : Sep W0 w (pool f :: stoA f p sz NC most S :: L)) : ∃ (a : Option Addr) (cp : Nat) (cs : List Value) (tm : Nat), Reads f 6 (.slice a S.obs.length cp) S.obs.length cs ∧ ObsR f cs S.obs ∧ tm ≤ S.tm ∧
   Sep W0 w (pool f :: rackA f p.x p.c sz NC S.q p.nn S.nds :: row p.t 365 [I (p.n : Int), I (p.nn : Int), U S.nx, U S.la, .slice a S.obs.length cp] :: watchA p.wp p.nn 0 :: diaryA p.d p.tp S.dm :: tapeA p.tp tm most :: L) := by
 obtain ⟨a, cp, cs, tm, h1, h2, h3, h4⟩ := stoA_open (Sep.front (i := 1) rfl hs)
 exact ⟨a, cp, cs, tm, h1, h2, h3, Sep.front (i := 5) rfl h4⟩
theorem sto_out {a : Option Addr} {n cp : Nat} {cs : List Value} {tm : Nat} (hn : S.obs.length = n) (h1 : Reads f 6 (.slice a n cp) n cs) (h2 : ObsR f cs S.obs) (h3 : tm ≤ S.tm)
   (hs : Sep W0 w (pool f :: rackA f p.x p.c sz NC S.q p.nn S.nds :: row p.t 365 [I (p.n : Int), I (p.nn : Int), U S.nx, U S.la, .slice a n cp] :: watchA p.wp p.nn 0 :: diaryA p.d p.tp S.dm :: tapeA p.tp tm most :: L)) : Sep W0 w (pool f :: stoA f p sz NC most S :: L) :=
 Sep.front (i := 1) rfl (stoA_shut hn h1 h2 h3 (Sep.front (i := 5) rfl (Sep.front (i := 5) rfl (Sep.front (i := 5) rfl (Sep.front (i := 5) rfl (Sep.front (i := 5) rfl hs))))))
end
structure PutHy (p : Hp) (sz NC most : Nat) (S : Sto) (l : LB) (c : UInt8) (cnt pc : Nat) (bss : List (List LB)) : Prop where
 p1 : 1 ≤ p.piece
 p2 : p.piece ≤ 256
 len : l.length ≤ 16384
 cn : planCnt p.k p.piece l.length = cnt
 epc : planPc p.k p.piece l.length = pc
 bs : encsUp p.n p.k l (p.k * (p.k - 1) * pc) cnt = bss
 cn32 : cnt ≤ 32
 pc1 : 1 ≤ pc
 pc2 : pc ≤ 256
 put : PutOk sz NC p.n cnt S.nds S.nx bss
 ups : p.n ≤ ((List.range p.nn).filter (isUp S.nds)).length
 ndl : S.nds.length = p.nn
 good : ObsG p.n p.nn S.obs
 B : ObsB S.obs
 nn : p.nn ≤ 19
 n2 : S.obs.length < 64
 ns : p.n ≤ 24
 q : S.q + 10000 ≤ 1152921504606846976
 lNC : NC ≤ 1000000
 lsz : sz ≤ 60000
 nx : S.nx.toNat < 4294967295
 la : S.la.toNat < S.nx.toNat
 c1 : 32 < c.toNat
 c2 : c.toNat ≤ 126
 sort : SortO S.obs
 fin : ∀ x ∈ S.obs, x.nm < c
 num : ∀ x ∈ S.obs, x.num ≠ S.nx
 dm : S.dm ≤ 99998
 tm : S.tm + 12000 ≤ most
 lmost : most ≤ 1073741824
def putSto (S : Sto) (p : Hp) (m : Nat) (c : UInt8) (pc : Nat) (pls : List (List Nat)) (bss : List (List LB)) : Sto :=
 ⟨putS S.nds S.nx p.n pls bss pls.length, S.obs ++ [⟨S.nx, c, m, pls.length, pc, pls⟩], S.nx + 1, S.nx, S.q + pls.length * p.nn, S.tm + 10040, S.dm + 1 + 1⟩
theorem stput_s {W0 w : World} {L : List Asn} {f : HF} {h : Nat} {p : Hp} (hh : HallP f h p) {sz NC most : Nat} {S : Sto} {l : LB} {c : UInt8} {cnt pc : Nat} {bss : List (List LB)} {da : Option Addr} {dc : Nat} (hdb : RB f da l.length dc l) (H : PutHy p sz NC most S l c cnt pc bss) (hs : Sep W0 w (pool f :: stoA f p sz NC most S :: L)) : Calls Tryz.prog 150 [ptr h, nmS c, .slice da l.length dc].toArray w
 (Ret fun r w' => ∃ f' pls, r = .int .i64 0 ∧ FLe f f' ∧ pls.length = cnt ∧ (∀ l ∈ pls, PlOk p.n p.nn l ∧ ∀ j ∈ l, isUp S.nds j = true) ∧ Sep W0 w' (pool f' :: stoA f' p sz NC most (putSto S p l.length c pc pls bss) :: L)) := by
 obtain ⟨a, cp, cs, tm, h1, h2, h3, h4⟩ := sto_in hs
 have h5 := H.tm
 refine (sput_s hh h1 h2 rfl hdb H.p1 H.p2 H.len H.cn H.epc H.bs H.cn32 H.pc1 H.pc2 H.put H.ups H.ndl H.good H.B H.nn H.n2 H.ns H.q H.lNC H.lsz H.nx H.la H.c1 H.c2 H.sort H.fin H.num H.dm (by omega) H.lmost h4).mono ?_
 rintro e' w' ⟨v, rfl, f', tm', a', cp', cs', pls, rfl, g1, g2, g3, g4, g5, g6, g7⟩
 exact ⟨_, rfl, f', pls, rfl, g1, g3, g4, sto_out (S := putSto S p l.length c pc pls bss) (by simp [putSto]) g5 g6 (by show tm' ≤ S.tm + 10040; omega) g7⟩
structure GetHy (p : Hp) (sz NC : Nat) (S : Sto) (ix : Nat) (o : Ob) (bss : List (List LB)) (rows : LL) : Prop where
 eix : S.obs[ix]? = some o
 sort : SortO S.obs
 B : ObsB S.obs
 n2 : S.obs.length ≤ 64
 opl : o.pl.length = o.cnt
 cnt : o.cnt ≤ 32
 ndl : S.nds.length = p.nn
 pc1 : 1 ≤ o.pc
 pc2 : o.pc ≤ 256
 n24 : p.n ≤ 24
 q : S.q + 10000 ≤ 1152921504606846976
 lNC : NC ≤ 1000000
 lsz : sz ≤ 60000
 get : ∀ i, i < o.pl.length → GetOk p S.nds o bss rows i
 rl : rows.length = o.cnt
 rowl : ∀ x ∈ rows, x.length = p.k * (p.k - 1) * o.pc
 len : o.len ≤ o.cnt * (p.k * (p.k - 1) * o.pc)
def getSto (S : Sto) (p : Hp) (o : Ob) : Sto := { S with q := S.q + o.pl.length * p.n }
theorem stget_s {W0 w : World} {L : List Asn} {f : HF} {h : Nat} {p : Hp} (hh : HallP f h p) {sz NC most ix : Nat} {S : Sto} {o : Ob} {bss : List (List LB)} {rows : LL} (H : GetHy p sz NC S ix o bss rows) (hs : Sep W0 w (pool f :: stoA f p sz NC most S :: L)) : Calls Tryz.prog 151 [ptr h, nmS o.nm].toArray w
 (Ret fun r w' => ∃ f' a', r = .tuple #[.slice a' o.len o.len, .int .i64 0] ∧ FLe f f' ∧ RB f' a' o.len o.len (rows.flatten.take o.len) ∧ Sep W0 w' (pool f' :: stoA f' p sz NC most (getSto S p o) :: L)) := by
 obtain ⟨a, cp, cs, tm, h1, h2, h3, h4⟩ := sto_in hs
 refine (sget_s hh h1 h2 rfl H.eix H.sort H.B H.n2 H.opl H.cnt H.ndl H.pc1 H.pc2 H.n24 H.q H.lNC H.lsz H.get H.rl H.rowl H.len h4).mono ?_
 rintro e' w' ⟨v, rfl, f', a', rfl, g1, g2, g3⟩
 exact ⟨_, rfl, f', a', rfl, g1, g2, sto_out (S := getSto S p o) rfl (h1.mono g1) (h2.mono g1) h3 g3⟩
theorem yrightp_s {W0 w : World} {L : List Asn} {da : Option Addr} {m dc : Nat} {c : UInt8} (hm : m ≤ 65536) (hs : Sep W0 w L) : Calls Tryz.prog 69 [.agg #[I 1, nmS c, .slice da m dc, I 0, I 0, I 0, .int .u8 0]].toArray w (Ret fun r w' => r = .bool true ∧ Sep W0 w' L) := by
 refine enter (args := [(.agg #[(I 1), (.string ⟨#[c]⟩), (.slice da m dc), (I 0), (I 0), (I 0), (.int .u8 0)])]) (n := 79) (rs := [.tmp 2]) func69 rfl rfl rfl rfl ?_
 refine rSeq (rReg (oBox hs rfl rfl rfl ?_))
 intro b1 w2 hs3; clear hs
 refine oV (xAssign rfl) rfl (oEnd (kSeq (rSeq (rSeq (rReg (oV (xFA (j' := 0) underlying44 rfl sizeOf3 rfl rfl) rfl (oV (xLoad hs3 isAgg3 rfl (i := 0) rfl rfl) rfl (oEnd (kSeq (rBlk (rSeq (rReg (oV (xCmp (r := true) rfl rfl rEql) rfl (oV (xAssign rfl) rfl (oEnd (kSeq (rCondT rfl (rSeq (rReg (oV (xFA (j' := 2) underlying44 rfl sizeOf26 rfl rfl) rfl (oV (xLoad hs3 isAgg26 rfl (i := 0) rfl rfl) rfl (oV (xB1 rfl (rLenS underlying26)) rfl (oV (xCmp (r := true) rfl rfl (bT (by omega) rLeq)) rfl (oV (xMove rfl) rfl (oGuardT rfl rfl (oV (xFA (j' := 1) underlying44 rfl sizeOf9 rfl rfl) rfl (oGuardT rfl rfl (oV (xLoad hs3 isAgg9 rfl (i := 0) rfl rfl) rfl (oGuardT rfl rfl (oV (xB1 (v := .int .i64 1) rfl (rLenStr underlying9)) rfl (oGuardT rfl rfl (oV (xCmp (r := true) rfl rfl rLeq) rfl (oV (xPickT rfl rfl) rfl (oV (xAssign rfl) rfl (oEnd (kSeq ?_))))))))))))))))))))))))))))))))))))
 refine rRet (kBlkR (kSeqR (kFin (.tmp rfl (.nil)) ?_)))
 replace hs3 := hs3.d0
 exact ⟨rfl, hs3⟩
theorem yrightg_s {W0 w : World} {L : List Asn} {kd : Nat} {c : UInt8} (hkd : kd = 2) (hs : Sep W0 w L) : Calls Tryz.prog 69 [.agg #[I 2, nmS c, .slice none 0 0, I 0, I 0, I 0, .int .u8 0]].toArray w (Ret fun r w' => r = .bool true ∧ Sep W0 w' L) := by
 refine enter (args := [(.agg #[(I 2), (.string ⟨#[c]⟩), (.slice none 0 0), (I 0), (I 0), (I 0), (.int .u8 0)])]) (n := 79) (rs := [.tmp 2]) func69 rfl rfl rfl rfl ?_
 refine rSeq (rReg (oBox hs rfl rfl rfl ?_))
 intro b1 w2 hs3; clear hs
 refine oV (xAssign rfl) rfl (oEnd (kSeq (rSeq (rSeq (rReg (oV (xFA (j' := 0) underlying44 rfl sizeOf3 rfl rfl) rfl (oV (xLoad hs3 isAgg3 rfl (i := 0) rfl rfl) rfl (oEnd (kSeq (rBlk (rSeq (rReg (oV (xCmp (r := false) rfl rfl rEql) rfl (oV (xAssign rfl) rfl (oEnd (kSeq (rCondF rfl (rSeq (rSeq (rReg (oV (xCmp (r := true) rfl rfl rEql) rfl (oV (xAssign rfl) rfl (oEnd (kSeq (rCondT rfl (rSkip (kSeq (rCondT rfl (rSeq (rReg (oV (xFA (j' := 1) underlying44 rfl sizeOf9 rfl rfl) rfl (oV (xLoad hs3 isAgg9 rfl (i := 0) rfl rfl) rfl (oV (xB1 (v := .int .i64 1) rfl (rLenStr underlying9)) rfl (oV (xCmp (r := true) rfl rfl rLeq) rfl (oV (xAssign rfl) rfl (oEnd (kSeq (rRet (kBlkR (kSeqR (kFin (.tmp rfl (.nil)) ?_)))))))))))))))))))))))))))))))))))))))))
 replace hs3 := hs3.d0
 exact ⟨rfl, hs3⟩
theorem ydoesp_s {W0 w : World} {L : List Asn} {f : HF} {h : Nat} {p : Hp} (hh : HallP f h p) {y : Nat} (hy : PR f y [ptr h, .string ⟨#[]⟩, I 0, I 0, I 0]) {sz NC most : Nat} {S : Sto} {l : LB} {c : UInt8} {cnt pc : Nat} {bss : List (List LB)} {da : Option Addr} {dc : Nat} (hdb : RB f da l.length dc l) (H : PutHy p sz NC most S l c cnt pc bss) (hs : Sep W0 w (pool f :: stoA f p sz NC most S :: L)) : Calls Tryz.prog 70 [ptr y, .agg #[I 1, nmS c, .slice da l.length dc, I 0, I 0, I 0, .int .u8 0]].toArray w (Ret fun r w' => ∃ f' pls, r = (.agg #[I 0, .slice none 0 0, .slice none 0 0, I 0, I 0, I 0, .bool false, .int .u32 0, .int .u16 0, I 0, I 0, .bool false, I 0, I 0, I 0]) ∧ FLe f f' ∧ pls.length = cnt ∧ (∀ l ∈ pls, PlOk p.n p.nn l ∧ ∀ j ∈ l, isUp S.nds j = true) ∧ Sep W0 w' (pool f' :: stoA f' p sz NC most (putSto S p l.length c pc pls bss) :: L)) := by
 refine enter (args := [(ptr y), (.agg #[(I 1), (.string ⟨#[c]⟩), (.slice da l.length dc), (I 0), (I 0), (I 0), (.int .u8 0)])]) (n := 136) (rs := [.cell 4 40]) func70 rfl rfl rfl rfl ?_
 refine rSeq (rReg (oBox hs rfl rfl rfl ?_))
 intro b1 w2 hs3; clear hs
 refine oAlloc hs3 zeroValue40 rfl rfl ?_
 intro b4 w5 hs6; clear hs3
 refine oEnd (kSeq (rSeq (rReg (oAlloc hs6 zeroValue40 rfl rfl ?_))))
 intro b7 w8 hs9; clear hs6
 refine oEnd (kSeq (rSeq (rSeq (rReg (oV (xFA (j' := 0) underlying44 rfl sizeOf3 rfl rfl) rfl (oV (xLoad hs9 isAgg3 rfl (i := 2) rfl rfl) rfl (oEnd (kSeq (rBlk (rSeq (rReg (oV (xCmp (r := true) rfl rfl rEql) rfl (oV (xAssign rfl) rfl (oEnd (kSeq (rCondT rfl ?_))))))))))))))))
 refine rRegG [(none, fun w => ∃ M, Sep W0 w (pool f :: M)), (none, fun w => ∃ M, Sep W0 w (row b1 44 [(I 1), (.string ⟨#[c]⟩), (.slice da l.length dc), (I 0), (I 0), (I 0), (.int .u8 0)] :: M))] (by kernel_rfl) hs9 (fun w10 hs11 => ⟨?_, fun hS => ?_⟩)
 · exact ⟨⟨_, (Sep.front (i := 3) rfl hs11)⟩, ⟨_, (Sep.front (i := 2) rfl hs11)⟩, trivial⟩
 clear hs9
 refine gTake0 0 rfl (by kernel_rfl) hS (fun w => xMove rfl) rfl ?_
 clear hS; intro hS
 refine gTake0 1 rfl (by kernel_rfl) hS (fun w => xNil rfl) rfl ?_
 clear hS; intro hS
 refine gTake0 2 rfl (by kernel_rfl) hS (fun w => xFA (j' := 0) underlying165 rfl sizeOf161 rfl rfl) rfl ?_
 clear hS; intro hS
 refine gTake 3 0 rfl (by kernel_rfl) rfl (by kernel_rfl) hS (fun w hq0 => by obtain ⟨M, hq⟩ := hq0; exact xLoadC isAgg161 rfl (PR.cell hy hq (i := 0) rfl rfl)) rfl ?_
 clear hS; intro hS
 refine gTake0 4 rfl (by kernel_rfl) hS (fun w => xFA (j' := 1) underlying44 rfl sizeOf9 rfl rfl) rfl ?_
 clear hS; intro hS
 refine gTake 5 1 rfl (by kernel_rfl) rfl (by kernel_rfl) hS (fun w hq0 => by obtain ⟨M, hq⟩ := hq0; exact xLoad hq isAgg9 rfl (i := 0) rfl rfl) rfl ?_
 clear hS; intro hS
 refine gTake0 6 rfl (by kernel_rfl) hS (fun w => xFA (j' := 2) underlying44 rfl sizeOf26 rfl rfl) rfl ?_
 clear hS; intro hS
 refine gTake 7 1 rfl (by kernel_rfl) rfl (by kernel_rfl) hS (fun w hq0 => by obtain ⟨M, hq⟩ := hq0; exact xLoad hq isAgg26 rfl (i := 0) rfl rfl) rfl ?_
 clear hS; intro hS
 refine gEff 8 (by kernel_rfl) rfl ?_
 replace hs11 := hs11.f4
 replace hs11 := hs11.f4
 refine oCall call150 rfl rfl (stput_s hh hdb H hs11) ?_
 rintro _ w17 ⟨f12, pls13, rfl, hle14, hpll15, hpls16, hs18⟩; clear hs11
 replace hy := hy.mono hle14
 replace hh := hh.mono hle14
 replace hdb := hdb.mono hle14
 refine oEnd (kG ⟨⟨_, (Sep.imp (i := 0) rfl (pool_sub hle14) (Sep.front (i := 0) rfl hs18))⟩, ⟨_, (Sep.front (i := 4) rfl hs18)⟩, trivial⟩ ?_)
 clear hS; intro hS
 refine gTake0 9 rfl (by kernel_rfl) hS (fun w => xFA (j' := 0) underlying40 rfl sizeOf29 rfl rfl) rfl ?_
 clear hS; intro hS
 refine gEff 10 (by kernel_rfl) rfl ?_
 refine oStore hs18 sizeOf29 rfl rfl rfl (i := 2) rfl rfl ?_
 intro w19 hs20; clear hs18; dsimp only [List.set] at hs20
 refine oEnd (kG ⟨⟨_, (Sep.imp (i := 0) rfl (pool_sub hle14) (Sep.front (i := 0) rfl hs20))⟩, ⟨_, (Sep.front (i := 4) rfl hs20)⟩, trivial⟩ ?_)
 clear hS; intro hS
 refine gEnd (by kernel_rfl) ?_
 clear hS
 refine kBlk (kSeq ?_)
 refine rSeq (rReg (oV (xLoadG hs20 isAgg40 sizeOf40 rfl (i := 2) rfl rfl) rfl (oStoreG hs20 sizeOf40 rfl rfl rfl rfl (i := 3) rfl rfl ?_)))
 intro w21 hs22; clear hs20; dsimp only [List.set, putAt] at hs22
 refine oEnd (kSeq (rRet (kFin (.cell rfl (run_varG hs22 isAgg40 sizeOf40 (i := 3) rfl rfl) (.nil)) ?_)))
 replace hs22 := hs22.d4
 replace hs22 := hs22.d3
 replace hs22 := hs22.d2
 exact ⟨_, pls13, rfl, hle14, hpll15, hpls16, hs22⟩
theorem ydop_s {W0 w : World} {L : List Asn} {f : HF} {h : Nat} {p : Hp} (hh : HallP f h p) {y : Nat} (hy : PR f y [ptr h, .string ⟨#[]⟩, I 0, I 0, I 0]) {sz NC most : Nat} {S : Sto} {l : LB} {c : UInt8} {cnt pc : Nat} {bss : List (List LB)} {da : Option Addr} {dc : Nat} (hdb : RB f da l.length dc l) (H : PutHy p sz NC most S l c cnt pc bss) (hs : Sep W0 w (pool f :: stoA f p sz NC most S :: L)) : Calls Tryz.prog 13 [ptr y, .agg #[I 1, nmS c, .slice da l.length dc, I 0, I 0, I 0, .int .u8 0]].toArray w (Ret fun r w' => ∃ f' pls, r = (.agg #[I 0, .slice none 0 0, .slice none 0 0, I 0, I 0, I 0, .bool false, .int .u32 0, .int .u16 0, I 0, I 0, .bool false, I 0, I 0, I 0]) ∧ FLe f f' ∧ pls.length = cnt ∧ (∀ l ∈ pls, PlOk p.n p.nn l ∧ ∀ j ∈ l, isUp S.nds j = true) ∧ Sep W0 w' (pool f' :: stoA f' p sz NC most (putSto S p l.length c pc pls bss) :: L)) := by
 have hl64 := H.len
 refine enter (args := [(ptr y), (.agg #[(I 1), (.string ⟨#[c]⟩), (.slice da l.length dc), (I 0), (I 0), (I 0), (.int .u8 0)])]) (n := 38) (rs := [.cell 4 40]) func13 rfl rfl rfl rfl ?_
 refine rSeq (rReg (oBox hs rfl rfl rfl ?_))
 intro b1 w2 hs3; clear hs
 refine oAlloc hs3 zeroValue40 rfl rfl ?_
 intro b4 w5 hs6; clear hs3
 refine oEnd (kSeq (rSeq (rBlk (rSeq (rReg (oV (xMove rfl) rfl (oV (xBin (r := .bool false) rfl rfl (fun _ => rfl) (fun w => by kernel_rfl)) rfl (oV (xAssign rfl) rfl (oEnd (kSeq (rCondF rfl (rSeq (rReg (oV (xLoadG hs6 isAgg44 sizeOf44 rfl (i := 1) rfl rfl) rfl (oCall call69 rfl rfl (yrightp_s (by omega) hs6) ?_)))))))))))))))
 rintro _ w7 ⟨rfl, hs8⟩; clear hs6
 refine oV (xNot rfl) rfl (oV (xAssign rfl) rfl (oEnd (kSeq (rCondF rfl (rSkip (kBlk (kSeq (rSeq (rReg (oV (xMove rfl) rfl (oV (xLoadG hs8 isAgg44 sizeOf44 rfl (i := 1) rfl rfl) rfl ?_)))))))))))
 replace hs8 := hs8.f3
 replace hs8 := hs8.f3
 refine oCall call70 rfl rfl (ydoesp_s hh hy hdb H hs8) ?_
 rintro _ w9 ⟨f11, pls13, rfl, hle12, hpll14, hpls15, hs10⟩; clear hs8
 replace hy := hy.mono hle12
 replace hh := hh.mono hle12
 replace hdb := hdb.mono hle12
 refine oAlloc hs10 zeroValue40 rfl rfl ?_
 intro b16 w17 hs18; clear hs10
 refine oStoreG hs18 sizeOf40 rfl rfl rfl rfl (i := 0) rfl rfl ?_
 intro w19 hs20; clear hs18; dsimp only [List.set, putAt] at hs20
 refine oEnd (kSeq (rSeq (rSeq (rReg (oV (xMove rfl) rfl (oV (xNil rfl) rfl (oV (xFA (j' := 0) underlying165 rfl sizeOf161 rfl rfl) rfl (oV (xLoadC isAgg161 rfl (PR.cell hy hs20 (i := 1) rfl rfl)) rfl ?_))))))))
 replace hs20 := hs20.f1
 refine oCall call71 rfl rfl (hblown_s hh hs20) ?_
 rintro _ w21 ⟨rfl, hs22⟩; clear hs20
 refine oEnd (kSeq (rCondF rfl (rSkip (kSeq (rSeq (rReg (oV (xLoadG hs22 isAgg40 sizeOf40 rfl (i := 1) rfl rfl) rfl (oStoreG hs22 sizeOf40 rfl rfl rfl rfl (i := 3) rfl rfl ?_))))))))
 intro w23 hs24; clear hs22; dsimp only [List.set, putAt] at hs24
 refine oEnd (kSeq (rRet (kFin (.cell rfl (run_varG hs24 isAgg40 sizeOf40 (i := 3) rfl rfl) (.nil)) ?_)))
 replace hs24 := hs24.d4
 replace hs24 := hs24.d3
 replace hs24 := hs24.d1
 exact ⟨_, pls13, rfl, hle12, hpll14, hpls15, hs24⟩
theorem ydoesg_s {W0 w : World} {L : List Asn} {f : HF} {h : Nat} {p : Hp} (hh : HallP f h p) {y : Nat} (hy : PR f y [ptr h, .string ⟨#[]⟩, I 0, I 0, I 0]) {sz NC most ix : Nat} {S : Sto} {o : Ob} {bss : List (List LB)} {rows : LL} (H : GetHy p sz NC S ix o bss rows) (hs : Sep W0 w (pool f :: stoA f p sz NC most S :: L)) : Calls Tryz.prog 70 [ptr y, .agg #[I 2, nmS o.nm, .slice none 0 0, I 0, I 0, I 0, .int .u8 0]].toArray w (Ret fun r w' => ∃ f' a', r = (.agg #[I 0, .slice a' o.len o.len, .slice none 0 0, I 0, I 0, I 0, .bool false, .int .u32 0, .int .u16 0, I 0, I 0, .bool false, I 0, I 0, I 0]) ∧ FLe f f' ∧ RB f' a' o.len o.len (rows.flatten.take o.len) ∧ Sep W0 w' (pool f' :: stoA f' p sz NC most (getSto S p o) :: L)) := by
 refine enter (args := [(ptr y), (.agg #[(I 2), (.string ⟨#[o.nm]⟩), (.slice none 0 0), (I 0), (I 0), (I 0), (.int .u8 0)])]) (n := 136) (rs := [.cell 4 40]) func70 rfl rfl rfl rfl ?_
 refine rSeq (rReg (oBox hs rfl rfl rfl ?_))
 intro b1 w2 hs3; clear hs
 refine oAlloc hs3 zeroValue40 rfl rfl ?_
 intro b4 w5 hs6; clear hs3
 refine oEnd (kSeq (rSeq (rReg (oAlloc hs6 zeroValue40 rfl rfl ?_))))
 intro b7 w8 hs9; clear hs6
 refine oEnd (kSeq (rSeq (rSeq (rReg (oV (xFA (j' := 0) underlying44 rfl sizeOf3 rfl rfl) rfl (oV (xLoad hs9 isAgg3 rfl (i := 2) rfl rfl) rfl (oEnd (kSeq (rBlk (rSeq (rReg (oV (xCmp (r := false) rfl rfl rEql) rfl (oV (xAssign rfl) rfl (oEnd (kSeq (rCondF rfl (rSeq (rReg (oV (xCmp (r := true) rfl rfl rEql) rfl (oV (xAssign rfl) rfl (oEnd (kSeq (rCondT rfl ?_)))))))))))))))))))))))
 refine rRegG [(none, fun w => ∃ M, Sep W0 w (pool f :: M)), (none, fun w => ∃ M, Sep W0 w (row b1 44 [(I 2), (.string ⟨#[o.nm]⟩), (.slice none 0 0), (I 0), (I 0), (I 0), (.int .u8 0)] :: M))] (by kernel_rfl) hs9 (fun w10 hs11 => ⟨?_, fun hS => ?_⟩)
 · exact ⟨⟨_, (Sep.front (i := 3) rfl hs11)⟩, ⟨_, (Sep.front (i := 2) rfl hs11)⟩, trivial⟩
 clear hs9
 refine gTake0 0 rfl (by kernel_rfl) hS (fun w => xMove rfl) rfl ?_
 clear hS; intro hS
 refine gTake0 1 rfl (by kernel_rfl) hS (fun w => xNil rfl) rfl ?_
 clear hS; intro hS
 refine gTake0 2 rfl (by kernel_rfl) hS (fun w => xFA (j' := 0) underlying165 rfl sizeOf161 rfl rfl) rfl ?_
 clear hS; intro hS
 refine gTake 3 0 rfl (by kernel_rfl) rfl (by kernel_rfl) hS (fun w hq0 => by obtain ⟨M, hq⟩ := hq0; exact xLoadC isAgg161 rfl (PR.cell hy hq (i := 0) rfl rfl)) rfl ?_
 clear hS; intro hS
 refine gTake0 4 rfl (by kernel_rfl) hS (fun w => xFA (j' := 1) underlying44 rfl sizeOf9 rfl rfl) rfl ?_
 clear hS; intro hS
 refine gTake 5 1 rfl (by kernel_rfl) rfl (by kernel_rfl) hS (fun w hq0 => by obtain ⟨M, hq⟩ := hq0; exact xLoad hq isAgg9 rfl (i := 0) rfl rfl) rfl ?_
 clear hS; intro hS
 refine gEff 6 (by kernel_rfl) rfl ?_
 replace hs11 := hs11.f4
 replace hs11 := hs11.f4
 refine oCall call151 rfl rfl (stget_s hh H hs11) ?_
 rintro _ w16 ⟨f12, a13, rfl, hle14, hb15, hs17⟩; clear hs11
 replace hy := hy.mono hle14
 replace hh := hh.mono hle14
 refine oEnd (kG ⟨⟨_, (Sep.imp (i := 0) rfl (pool_sub hle14) (Sep.front (i := 0) rfl hs17))⟩, ⟨_, (Sep.front (i := 4) rfl hs17)⟩, trivial⟩ ?_)
 clear hS; intro hS
 refine gTake0 7 rfl (by kernel_rfl) hS (fun w => xMove rfl) rfl ?_
 clear hS; intro hS
 refine gTake0 8 rfl (by kernel_rfl) hS (fun w => xExtract rfl rfl) rfl ?_
 clear hS; intro hS
 refine gTake0 9 rfl (by kernel_rfl) hS (fun w => xExtract rfl rfl) rfl ?_
 clear hS; intro hS
 refine gTake0 10 rfl (by kernel_rfl) hS (fun w => xFA (j' := 1) underlying40 rfl sizeOf26 rfl rfl) rfl ?_
 clear hS; intro hS
 refine gEff 11 (by kernel_rfl) rfl ?_
 refine oStore hs17 sizeOf26 rfl rfl rfl (i := 2) rfl rfl ?_
 intro w18 hs19; clear hs17; dsimp only [List.set] at hs19
 refine oEnd (kG ⟨⟨_, (Sep.imp (i := 0) rfl (pool_sub hle14) (Sep.front (i := 0) rfl hs19))⟩, ⟨_, (Sep.front (i := 4) rfl hs19)⟩, trivial⟩ ?_)
 clear hS; intro hS
 refine gTake0 12 rfl (by kernel_rfl) hS (fun w => xFA (j' := 0) underlying40 rfl sizeOf29 rfl rfl) rfl ?_
 clear hS; intro hS
 refine gEff 13 (by kernel_rfl) rfl ?_
 refine oStore hs19 sizeOf29 rfl rfl rfl (i := 2) rfl rfl ?_
 intro w20 hs21; clear hs19; dsimp only [List.set] at hs21
 refine oEnd (kG ⟨⟨_, (Sep.imp (i := 0) rfl (pool_sub hle14) (Sep.front (i := 0) rfl hs21))⟩, ⟨_, (Sep.front (i := 4) rfl hs21)⟩, trivial⟩ ?_)
 clear hS; intro hS
 refine gEnd (by kernel_rfl) ?_
 clear hS
 refine kBlk (kSeq ?_)
 refine rSeq (rReg (oV (xLoadG hs21 isAgg40 sizeOf40 rfl (i := 2) rfl rfl) rfl (oStoreG hs21 sizeOf40 rfl rfl rfl rfl (i := 3) rfl rfl ?_)))
 intro w22 hs23; clear hs21; dsimp only [List.set, putAt] at hs23
 refine oEnd (kSeq (rRet (kFin (.cell rfl (run_varG hs23 isAgg40 sizeOf40 (i := 3) rfl rfl) (.nil)) ?_)))
 replace hs23 := hs23.d4
 replace hs23 := hs23.d3
 replace hs23 := hs23.d2
 exact ⟨_, _, rfl, hle14, hb15, hs23⟩
theorem ydog_s {W0 w : World} {L : List Asn} {f : HF} {h : Nat} {p : Hp} (hh : HallP f h p) {y : Nat} (hy : PR f y [ptr h, .string ⟨#[]⟩, I 0, I 0, I 0]) {sz NC most ix : Nat} {S : Sto} {o : Ob} {bss : List (List LB)} {rows : LL} (H : GetHy p sz NC S ix o bss rows) (hs : Sep W0 w (pool f :: stoA f p sz NC most S :: L)) : Calls Tryz.prog 13 [ptr y, .agg #[I 2, nmS o.nm, .slice none 0 0, I 0, I 0, I 0, .int .u8 0]].toArray w (Ret fun r w' => ∃ f' a', r = (.agg #[I 0, .slice a' o.len o.len, .slice none 0 0, I 0, I 0, I 0, .bool false, .int .u32 0, .int .u16 0, I 0, I 0, .bool false, I 0, I 0, I 0]) ∧ FLe f f' ∧ RB f' a' o.len o.len (rows.flatten.take o.len) ∧ Sep W0 w' (pool f' :: stoA f' p sz NC most (getSto S p o) :: L)) := by
 refine enter (args := [(ptr y), (.agg #[(I 2), (.string ⟨#[o.nm]⟩), (.slice none 0 0), (I 0), (I 0), (I 0), (.int .u8 0)])]) (n := 38) (rs := [.cell 4 40]) func13 rfl rfl rfl rfl ?_
 refine rSeq (rReg (oBox hs rfl rfl rfl ?_))
 intro b1 w2 hs3; clear hs
 refine oAlloc hs3 zeroValue40 rfl rfl ?_
 intro b4 w5 hs6; clear hs3
 refine oEnd (kSeq (rSeq (rBlk (rSeq (rReg (oV (xMove rfl) rfl (oV (xBin (r := .bool false) rfl rfl (fun _ => rfl) (fun w => by kernel_rfl)) rfl (oV (xAssign rfl) rfl (oEnd (kSeq (rCondF rfl (rSeq (rReg (oV (xLoadG hs6 isAgg44 sizeOf44 rfl (i := 1) rfl rfl) rfl (oCall call69 rfl rfl (yrightg_s (kd := 2) rfl hs6) ?_)))))))))))))))
 rintro _ w7 ⟨rfl, hs8⟩; clear hs6
 refine oV (xNot rfl) rfl (oV (xAssign rfl) rfl (oEnd (kSeq (rCondF rfl (rSkip (kBlk (kSeq (rSeq (rReg (oV (xMove rfl) rfl (oV (xLoadG hs8 isAgg44 sizeOf44 rfl (i := 1) rfl rfl) rfl ?_)))))))))))
 replace hs8 := hs8.f3
 replace hs8 := hs8.f3
 refine oCall call70 rfl rfl (ydoesg_s hh hy H hs8) ?_
 rintro _ w9 ⟨f11, a13, rfl, hle12, hb14, hs10⟩; clear hs8
 replace hy := hy.mono hle12
 replace hh := hh.mono hle12
 refine oAlloc hs10 zeroValue40 rfl rfl ?_
 intro b15 w16 hs17; clear hs10
 refine oStoreG hs17 sizeOf40 rfl rfl rfl rfl (i := 0) rfl rfl ?_
 intro w18 hs19; clear hs17; dsimp only [List.set, putAt] at hs19
 refine oEnd (kSeq (rSeq (rSeq (rReg (oV (xMove rfl) rfl (oV (xNil rfl) rfl (oV (xFA (j' := 0) underlying165 rfl sizeOf161 rfl rfl) rfl (oV (xLoadC isAgg161 rfl (PR.cell hy hs19 (i := 1) rfl rfl)) rfl ?_))))))))
 replace hs19 := hs19.f1
 refine oCall call71 rfl rfl (hblown_s hh hs19) ?_
 rintro _ w20 ⟨rfl, hs21⟩; clear hs19
 refine oEnd (kSeq (rCondF rfl (rSkip (kSeq (rSeq (rReg (oV (xLoadG hs21 isAgg40 sizeOf40 rfl (i := 1) rfl rfl) rfl (oStoreG hs21 sizeOf40 rfl rfl rfl rfl (i := 3) rfl rfl ?_))))))))
 intro w22 hs23; clear hs21; dsimp only [List.set, putAt] at hs23
 refine oEnd (kSeq (rRet (kFin (.cell rfl (run_varG hs23 isAgg40 sizeOf40 (i := 3) rfl rfl) (.nil)) ?_)))
 replace hs23 := hs23.d4
 replace hs23 := hs23.d3
 replace hs23 := hs23.d1
 exact ⟨_, _, rfl, hle12, hb14, hs23⟩
end Go.Sl
namespace Go.Sl
open Go.Proofs Go.Proofs.Tryz
theorem rnodeA_s {W0 w : World} {L : List Asn} {f : HF} {x c sz NC q n i : Nat} {nds : List Nd} {nd : Nd} (hnd : nds[i]? = some nd) (hs : Sep W0 w (rackA f x c sz NC q n nds :: L)) : Calls Tryz.prog 147 [ptr x, .int .i64 i].toArray w (Ret fun r w' => r = ptr nd.sv ∧ Sep W0 w' (rackA f x c sz NC q n nds :: L)) := by
 obtain ⟨la, cp, nm, cl, h1, h2, hs⟩ := rackA_open hs
 refine (rnode_s hnd h2 hs).mono ?_
 rintro e' w' ⟨v, rfl, rfl, h⟩
 exact ⟨_, rfl, rfl, rackA_shut h1 h2 h⟩
theorem rupA_s {W0 w : World} {L : List Asn} {f : HF} {x c sz NC q n i : Nat} {nds : List Nd} {nd : Nd} (hnd : nds[i]? = some nd) (hup : nd.up = true) (hs : Sep W0 w (rackA f x c sz NC q n nds :: L)) : Calls Tryz.prog 146 [ptr x, .int .i64 i].toArray w (Ret fun r w' => r = .tuple #[.bool true, .bool false] ∧ Sep W0 w' (rackA f x c sz NC q n nds :: L)) := by
 obtain ⟨la, cp, nm, cl, h1, h2, hs⟩ := rackA_open hs
 refine (rup_s hnd h2 hs).mono ?_
 rintro e' w' ⟨v, rfl, rfl, h⟩
 rw [hup]
 exact ⟨_, rfl, rfl, rackA_shut h1 h2 h⟩
theorem svault_s {W0 w : World} {L : List Asn} {sv c d v sn sc : Nat} {sa : Option Addr} {dn : UInt64} (hs : Sep W0 w (row sv 374 [ptr c, ptr d, ptr v, .slice sa sn sc, Q dn] :: L)) : Calls Tryz.prog 148 [ptr sv].toArray w (Ret fun r w' => r = ptr v ∧ Sep W0 w' (row sv 374 [ptr c, ptr d, ptr v, .slice sa sn sc, Q dn] :: L)) := by
 refine enter (args := [(ptr sv)]) (n := 9) (rs := [.tmp 2]) func148 rfl rfl rfl rfl ?_
 refine rSeq (rReg (oV (xAssign rfl) rfl (oEnd (kSeq (rSeq (rSeq (rReg (oV (xMove rfl) rfl (oV (xBin (r := .bool false) rfl rfl (fun _ => rfl) (fun w => by kernel_rfl)) rfl (oEnd (kSeq (rCondF rfl (rSkip (kSeq (rSeq (rReg (oV (xMove rfl) rfl (oV (xNil rfl) rfl (oV (xFA (j' := 2) underlying374 rfl sizeOf285 rfl rfl) rfl (oV (xLoad hs isAgg285 rfl (i := 0) rfl rfl) rfl (oV (xAssign rfl) rfl (oEnd (kSeq (rRet (kFin (.tmp rfl (.nil)) ?_)))))))))))))))))))))))))
 exact ⟨rfl, hs⟩
theorem vget_ex {vs : VS} {nds : List Nd} {nd : Nd} {i : Nat} {s : Sh} {l : LB} (hks : mval Prod.fst vs = nd.ks) (hnd : nds[i]? = some nd) (h : look nds i s = some l) : ∃ vc, mget vs s = some (l, vc) := by
 unfold look at h
 rw [hnd] at h
 simp only [Option.bind_some] at h
 rw [← hks, mget_val] at h
 cases hm : mget vs s with
 | none => rw [hm] at h; cases h
 | some x => rw [hm] at h; simp at h; exact ⟨x.2, by rw [← h]⟩
theorem ytrue_s {W0 w : World} {L : List Asn} {f : HF} {h : Nat} {p : Hp} (hh : HallP f h p) {n cp : Nat} {nx la : UInt32} {a : Option Addr} {cs : List Value} {obs : List Ob} (hv : Reads f 6 (.slice a n cp) n cs) (ho : ObsR f cs obs) (hn : obs.length = n) (hsort : SortO obs) (hB : ObsB obs) (hn2 : n ≤ 64) {y sz NC q st ix : Nat} {o : Ob} {nds : List Nd} {bs : List LB} (hstl : st < o.pl.length) (hplk : PlOk p.n p.nn (o.pl.getD st [])) (hndl : nds.length = p.nn) (hst : ∀ j, j < p.n → isUp nds ((o.pl.getD st []).getD j 0) = true → look nds ((o.pl.getD st []).getD j 0) (shN o.num st j) = some (bs.getD j [])) (hbl : ∀ j, j < p.n → (bs.getD j []).length = (p.k - 1) * o.pc) (hn24 : p.n ≤ 24) (hst2 : st ≤ 1000) (hq : q + 1000 ≤ 1152921504606846976) (hNC : NC ≤ 1000000) (hsz : sz ≤ 60000) (hix : obs[ix]? = some o) (hy : PR f y [ptr h, .string ⟨#[]⟩, I 0, I 0, I 0]) (hupa : ∀ j, j < p.n → isUp nds ((o.pl.getD st []).getD j 0) = true) (hs : Sep W0 w (pool f :: rackA f p.x p.c sz NC q p.nn nds :: row p.t 365 [I (p.n : Int), I (p.nn : Int), U nx, U la, .slice a n cp] :: L)) : Calls Tryz.prog 68 [ptr y, nmS o.nm, .int .i64 st].toArray w
 (Ret fun r w' => ∃ f', r = .tuple #[I (p.n : Int), .bool true] ∧ FLe f f' ∧ Sep W0 w' (pool f' :: rackA f' p.x p.c sz NC q p.nn nds :: row p.t 365 [I (p.n : Int), I (p.nn : Int), U nx, U la, .slice a n cp] :: L)) := by
 obtain ⟨⟨s5, s6, s8, s9, s10, s11, s12, s13, s14, s15, s20, s22, hh0⟩, hbk, hqp, hbad, hqm, hcode⟩ := id hh
 have hpll := hplk.len
 have hopw := hB.pl (List.mem_of_getElem? hix)
 have hopw2 := hB.pw (List.mem_of_getElem? hix)
 refine enter (args := [(ptr y), (.string ⟨#[o.nm]⟩), (I (st : Int))]) (n := 100) (rs := [.tmp 6, .tmp 7]) func68 rfl rfl rfl rfl ?_
 refine rSeq (rReg (oV (xAssign rfl) rfl (oV (xAssign rfl) rfl (oEnd (kSeq (rSeq (rSeq (rReg (oV (xMove rfl) rfl (oV (xBin (r := .bool false) rfl rfl (fun _ => rfl) (fun w => by kernel_rfl)) rfl (oEnd (kSeq (rCondF rfl (rSkip (kSeq (rSeq (rReg (oV (xMove rfl) rfl (oV (xNil rfl) rfl (oV (xFA (j' := 0) underlying165 rfl sizeOf161 rfl rfl) rfl (oV (xLoadC isAgg161 rfl (PR.cell hy hs (i := 0) rfl rfl)) rfl (oCall call143 rfl rfl (htable_s hh hs) ?_))))))))))))))))))))))
 rintro _ w1 ⟨rfl, hs2⟩; clear hs
 refine oV (xMove rfl) rfl ?_
 replace hs2 := hs2.f2
 replace hs2 := hs2.f1
 refine oCall call144 rfl rfl (tfind_s hv ho hn hsort hB hn2 hix hs2) ?_
 rintro _ w10 ⟨f3, a4, cp5, us6, rfl, hle7, hv8, hp9, hs11⟩; clear hs2
 replace hh0 := hh0.mono hle7
 replace hbk := hbk.mono hle7
 replace hqp := hqp.mono hle7
 replace hy := hy.mono hle7
 replace hv := hv.mono hle7
 replace ho := ho.mono hle7
 replace hh := hh.mono hle7
 replace hcode := hcode.mono hle7
 refine oV (xMove rfl) rfl (oV (xExtract rfl rfl) rfl (oV (xExtract rfl rfl) rfl (oAlloc hs11 zeroValue273 rfl rfl ?_)))
 intro b12 w13 hs14; clear hs11
 refine oStoreG hs14 sizeOf273 rfl rfl rfl rfl (i := 0) rfl rfl ?_
 intro w15 hs16; clear hs14; dsimp only [List.set, putAt] at hs16
 refine oV (xAssign rfl) rfl (oEnd (kSeq (rSeq (rSeq (rReg (oV (xMove rfl) rfl (oV (xNot rfl) rfl (oV (xMove rfl) rfl (oGuardT rfl rfl (oV (xMove rfl) rfl (oGuardT rfl rfl (oV (xCmp (r := false) rfl rfl (bF (by omega) rLss)) rfl (oV (xPickF rfl rfl) rfl (oV (xMove rfl) rfl (oGuardT rfl rfl (oV (xMove rfl) rfl (oGuardT rfl rfl (oV (xFA (j' := 5) underlying273 rfl sizeOf271 rfl rfl) rfl (oGuardT rfl rfl (oV (xLoad hs16 isAgg271 rfl (i := 0) rfl rfl) rfl (oGuardT rfl rfl (oV (xB1 rfl (rLenS underlying271)) rfl (oGuardT rfl rfl (oV (xCmp (r := false) rfl rfl (bF (by omega) rGeq)) rfl (oV (xPickF rfl rfl) rfl (oEnd (kSeq (rCondF rfl (rSkip (kSeq (rSeq (rReg (oV (xAssign rfl) rfl (oEnd (kSeq (rSeq (rSeq (rReg (oV (xFA (j' := 5) underlying273 rfl sizeOf271 rfl rfl) rfl (oV (xLoad hs16 isAgg271 rfl (i := 0) rfl rfl) rfl (oV (xMove rfl) rfl ?_)))))))))))))))))))))))))))))))))))))))))
 obtain ⟨b17, off18, rfl⟩ := Reads.at hv8 (by omega)
 refine oV (xIA (o' := off18 + st) underlying271 sizeOf276 rfl rfl (by omega) (by omega) (by omega)) rfl ?_
 obtain ⟨a19, cp20, he21, hb22⟩ := PlR.get hp9 st (by omega)
 refine oV (xLoadC isAgg276 rfl (Reads.cell hv8 hs16 (i := 1) rfl he21)) rfl (oV (xB1 rfl (rLenS underlying276)) rfl (oV (xMove rfl) rfl (oEnd (kSeq (rBlk ?_)))))
 have hs23 := Sep.imp (i := 3) (A' := rackA f3 p.x p.c sz NC q p.nn nds) rfl (fun h => rackA_mono hle7 (Nat.le_refl _) h) hs16; dsimp only [List.set] at hs23; clear hs16
 replace hs23 := hs23.f2
 replace hs23 := hs23.f3
 replace hs23 := hs23.f3
 replace hs23 := hs23.f3
 refine rLoop (fun mz e w => ∃ (j : Nat) (f24 : HF), p.n - j = mz ∧ e = [(0, (ptr y)), (2, (I (st : Int))), (6, (I 0)), (7, (.bool false)), (8, (ptr b12)), (48, (.slice a19 ((o.pl.getD st []).length) cp20)), (49, (I ((o.pl.getD st []).length : Int))), (10, (I (j : Int))), (50, (I (j : Int)))] ∧ (j ≤ p.n) ∧ (FLe f3 f24) ∧ (PR f24 h [(ptr p.c), (ptr p.x), (ptr p.wp), (ptr p.pp), (ptr p.qp), s5, s6, (I (p.piece : Int)), s8, s9, s10, s11, s12, s13, s14, s15, (ptr p.tp), (ptr p.bk), (.map (some p.bad)), (I 0), s20, (.bool false), s22]) ∧ (PR f24 y [(ptr h), (.string ⟨#[]⟩), (I 0), (I 0), (I 0)]) ∧ (Reads f24 1 (.slice (some ⟨b17, off18, none⟩) o.pl.length cp5) o.pl.length us6) ∧ (PlR f24 us6 o.pl) ∧ (Reads f24 2 (.slice a19 ((o.pl.getD st []).length) cp20) ((o.pl.getD st []).length) (plC (o.pl.getD st []))) ∧ Sep W0 w (row b12 273 [(.int .u32 (o.num.toNat : Int)), (.string ⟨#[o.nm]⟩), (I (o.len : Int)), (I (o.cnt : Int)), (I (o.pc : Int)), (.slice (some ⟨b17, off18, none⟩) o.pl.length cp5)] :: pool f24 :: rackA f24 p.x p.c sz NC q p.nn nds :: row p.t 365 [(I (p.n : Int)), (I (p.nn : Int)), (.int .u32 (nx.toNat : Int)), (.int .u32 (la.toNat : Int)), (.slice a n cp)] :: L)) ⟨_, _, ⟨0, f3, rfl, rfl, (by omega), (FLe.refl _), (hh0), (hy), (hv8), (hp9), (hb22), hs23⟩, ⟨rfl, rfl, rfl, rfl, rfl, rfl, rfl, rfl, rfl, trivial⟩⟩ ?_
 clear hs23; rintro mz e w ⟨j, f24, rfl, rfl, hj, hle25, hh0, hy, hv8, hp9, hb22, hs⟩
 refine rSeq (rReg (oV (xCmp rfl rfl rLss) rfl (oEnd (kSeq (rSeq ?_)))))
 refine rCondD rfl (fun hc26 => ?_) (fun hc26 => ?_)
 · have hplat := hplk.at (i := j) (by omega)
   obtain ⟨nd, hnd⟩ : ∃ nd, nds[(o.pl.getD st []).getD j 0]? = some nd := ⟨_, List.getElem?_eq_getElem (by omega)⟩
   have hupj := hupa j (by omega); have hup : nd.up = true := (isUp_at hnd).symm.trans hupj
   refine rSkip (kSeq (rSeq (rBlk (rSeq (rReg (oV (xMove rfl) rfl ?_))))))
   obtain ⟨b27, off28, rfl⟩ := Reads.at hb22 (by omega)
   refine oV (xIA (o' := off28 + j * 2) underlying276 sizeOf278 rfl rfl (by omega) (by omega) (by omega)) rfl (oV (xLoadGC isAgg278 sizeOf278 rfl rfl (reads_cells hb22 hs (i := 1) rfl (plC_take (by omega)))) rfl (oAlloc hs zeroValue278 rfl rfl ?_))
   intro b29 w30 hs31; clear hs
   refine oV (xAssign rfl) rfl (oStoreG hs31 sizeOf278 rfl rfl rfl rfl (i := 0) rfl rfl ?_)
   intro w32 hs33; clear hs31; dsimp only [List.set, putAt] at hs33
   refine oEnd (kSeq (rSeq (rReg (oV (xLoadG hs33 isAgg273 sizeOf273 rfl (i := 1) rfl rfl) rfl (oV (xMove rfl) rfl (oV (xMove rfl) rfl ?_))))))
   replace hs33 := hs33.f2
   refine oCall call145 rfl rfl (hshard_s (o := o) hv8 hp9 st j (by omega) (by omega) hs33) ?_
   rintro _ w34 ⟨rfl, hs35⟩; clear hs33
   refine oV (xMove rfl) rfl (oV (xExtract rfl rfl) rfl (oV (xExtract rfl rfl) rfl (oAlloc hs35 zeroValue280 rfl rfl ?_)))
   intro b36 w37 hs38; clear hs35
   refine oStoreG hs38 sizeOf280 rfl rfl rfl rfl (i := 0) rfl rfl ?_
   intro w39 hs40; clear hs38; dsimp only [List.set, putAt] at hs40
   refine oV (xAssign rfl) rfl (oEnd (kSeq (rSeq ?_)))
   refine rRegG [(none, fun w => ∃ M, Sep W0 w (pool f24 :: M)), (none, fun w => ∃ M, Sep W0 w (row b29 278 [(I ((((o.pl.getD st []).getD j 0 : Nat)) : Int)), (.int .u32 0)] :: M))] (by kernel_rfl) hs40 (fun w41 hs42 => ⟨?_, fun hS => ?_⟩)
   · exact ⟨⟨_, (Sep.front (i := 1) rfl hs42)⟩, ⟨_, (Sep.front (i := 2) rfl hs42)⟩, trivial⟩
   clear hs40
   refine gTake0 0 rfl (by kernel_rfl) hS (fun w => xMove rfl) rfl ?_
   clear hS; intro hS
   refine gTake0 1 rfl (by kernel_rfl) hS (fun w => xNil rfl) rfl ?_
   clear hS; intro hS
   refine gTake0 2 rfl (by kernel_rfl) hS (fun w => xFA (j' := 0) underlying165 rfl sizeOf161 rfl rfl) rfl ?_
   clear hS; intro hS
   refine gTake 3 0 rfl (by kernel_rfl) rfl (by kernel_rfl) hS (fun w hq0 => by obtain ⟨M, hq⟩ := hq0; exact xLoadC isAgg161 rfl (PR.cell hy hq (i := 0) rfl rfl)) rfl ?_
   clear hS; intro hS
   refine gTake0 4 rfl (by kernel_rfl) hS (fun w => xNil rfl) rfl ?_
   clear hS; intro hS
   refine gTake0 5 rfl (by kernel_rfl) hS (fun w => xFA (j' := 1) underlying266 rfl sizeOf258 rfl rfl) rfl ?_
   clear hS; intro hS
   refine gTake 6 0 rfl (by kernel_rfl) rfl (by kernel_rfl) hS (fun w hq0 => by obtain ⟨M, hq⟩ := hq0; exact xLoadC isAgg258 rfl (PR.cell hh0 hq (i := 0) rfl rfl)) rfl ?_
   clear hS; intro hS
   refine gTake0 7 rfl (by kernel_rfl) hS (fun w => xFA (j' := 0) underlying278 rfl sizeOf3 rfl rfl) rfl ?_
   clear hS; intro hS
   refine gTake 8 1 rfl (by kernel_rfl) rfl (by kernel_rfl) hS (fun w hq0 => by obtain ⟨M, hq⟩ := hq0; exact xLoad hq isAgg3 rfl (i := 0) rfl rfl) rfl ?_
   clear hS; intro hS
   refine gEff 9 (by kernel_rfl) rfl ?_
   replace hs42 := hs42.f4
   refine oCall call146 rfl rfl (rupA_s hnd hup hs42) ?_
   rintro _ w43 ⟨rfl, hs44⟩; clear hs42
   refine oEnd (kG ⟨⟨_, (Sep.front (i := 2) rfl hs44)⟩, ⟨_, (Sep.front (i := 3) rfl hs44)⟩, trivial⟩ ?_)
   clear hS; intro hS
   refine gTake0 10 rfl (by kernel_rfl) hS (fun w => xMove rfl) rfl ?_
   clear hS; intro hS
   refine gTake0 11 rfl (by kernel_rfl) hS (fun w => xExtract rfl rfl) rfl ?_
   clear hS; intro hS
   refine gTake0 12 rfl (by kernel_rfl) hS (fun w => xExtract rfl rfl) rfl ?_
   clear hS; intro hS
   refine gTake0 13 rfl (by kernel_rfl) hS (fun w => xAssign rfl) rfl ?_
   clear hS; intro hS
   refine gTake0 14 rfl (by kernel_rfl) hS (fun w => xAssign rfl) rfl ?_
   clear hS; intro hS
   refine gEnd (by kernel_rfl) ?_
   clear hS
   refine kSeq ?_
   refine rSeq ?_
   refine rRegG [(none, fun w => ∃ M, Sep W0 w (pool f24 :: M)), (none, fun w => ∃ M, Sep W0 w (row b29 278 [(I ((((o.pl.getD st []).getD j 0 : Nat)) : Int)), (.int .u32 0)] :: M)), (none, fun w => ∃ M, Sep W0 w (row b36 280 [(.int .u32 ((shN o.num st j).o.toNat : Int)), (.int .u16 ((shN o.num st j).st.toNat : Int)), (.int .u16 ((shN o.num st j).sl.toNat : Int)), (.int .u32 ((shN o.num st j).g.toNat : Int))] :: M))] (by kernel_rfl) hs44 (fun w45 hs46 => ⟨?_, fun hS => ?_⟩)
   · exact ⟨⟨_, (Sep.front (i := 2) rfl hs46)⟩, ⟨_, (Sep.front (i := 3) rfl hs46)⟩, ⟨_, (Sep.front (i := 1) rfl hs46)⟩, trivial⟩
   clear hs44
   refine gTake0 0 rfl (by kernel_rfl) hS (fun w => xMove rfl) rfl ?_
   clear hS; intro hS
   refine gTake0 1 rfl (by kernel_rfl) hS (fun w => xNil rfl) rfl ?_
   clear hS; intro hS
   refine gTake0 2 rfl (by kernel_rfl) hS (fun w => xFA (j' := 0) underlying165 rfl sizeOf161 rfl rfl) rfl ?_
   clear hS; intro hS
   refine gTake 3 0 rfl (by kernel_rfl) rfl (by kernel_rfl) hS (fun w hq0 => by obtain ⟨M, hq⟩ := hq0; exact xLoadC isAgg161 rfl (PR.cell hy hq (i := 0) rfl rfl)) rfl ?_
   clear hS; intro hS
   refine gTake0 4 rfl (by kernel_rfl) hS (fun w => xNil rfl) rfl ?_
   clear hS; intro hS
   refine gTake0 5 rfl (by kernel_rfl) hS (fun w => xFA (j' := 1) underlying266 rfl sizeOf258 rfl rfl) rfl ?_
   clear hS; intro hS
   refine gTake 6 0 rfl (by kernel_rfl) rfl (by kernel_rfl) hS (fun w hq0 => by obtain ⟨M, hq⟩ := hq0; exact xLoadC isAgg258 rfl (PR.cell hh0 hq (i := 0) rfl rfl)) rfl ?_
   clear hS; intro hS
   refine gTake0 7 rfl (by kernel_rfl) hS (fun w => xFA (j' := 0) underlying278 rfl sizeOf3 rfl rfl) rfl ?_
   clear hS; intro hS
   refine gTake 8 1 rfl (by kernel_rfl) rfl (by kernel_rfl) hS (fun w hq0 => by obtain ⟨M, hq⟩ := hq0; exact xLoad hq isAgg3 rfl (i := 0) rfl rfl) rfl ?_
   clear hS; intro hS
   refine gTake 11 2 rfl (by kernel_rfl) rfl (by kernel_rfl) hS (fun w hq0 => by obtain ⟨M, hq⟩ := hq0; exact xLoadG hq isAgg280 sizeOf280 rfl (i := 0) rfl rfl) rfl ?_
   clear hS; intro hS
   refine gEff 9 (by kernel_rfl) rfl ?_
   refine oCall call147 rfl rfl (rnodeA_s hnd hs46) ?_
   rintro _ w47 ⟨rfl, hs48⟩; clear hs46
   refine oEnd (kG ⟨⟨_, (Sep.front (i := 2) rfl hs48)⟩, ⟨_, (Sep.front (i := 3) rfl hs48)⟩, ⟨_, (Sep.front (i := 1) rfl hs48)⟩, trivial⟩ ?_)
   clear hS; intro hS
   refine gEff 10 (by kernel_rfl) rfl ?_
   obtain ⟨la, lcp, nm, cl, hnm, hln, hs49⟩ := rackA_open hs48; obtain ⟨N, hs49, hback⟩ := srvL_take hnd (Sep.front (i := 2) rfl hs49); obtain ⟨vd, vv, sa, sc, ms, dn, vs, hks, hml, hqs, hs49⟩ := srvA_open hs49; clear hs48; dsimp only [List.eraseIdx] at hs49
   refine oCall call148 rfl rfl (svault_s hs49) ?_
   rintro _ w50 ⟨rfl, hs51⟩; clear hs49
   refine oEnd (kG ⟨⟨_, (Sep.front (i := 7) rfl hs51)⟩, ⟨_, (Sep.front (i := 8) rfl hs51)⟩, ⟨_, (Sep.front (i := 6) rfl hs51)⟩, trivial⟩ ?_)
   clear hS; intro hS
   refine gEff 12 (by kernel_rfl) rfl ?_
   replace hs51 := hs51.f2
   replace hs51 := hs51.f7
   obtain ⟨vc, hg⟩ : ∃ vc, mget vs (shN o.num st j) = some ((bs.getD j []), vc) := vget_ex hks hnd (hst j (by omega) hupj)
   refine oCall call149 rfl rfl (vget_s (shN o.num st j) hg hsz hs51) ?_
   rintro _ w58 ⟨f52, a53, k54, cp55, rfl, hle56, hb57, hs59⟩; clear hs51
   replace hh0 := hh0.mono hle56
   replace hy := hy.mono hle56
   replace hv8 := hv8.mono hle56
   replace hp9 := hp9.mono hle56
   replace hb22 := hb22.mono hle56
   replace hs59 := hs59.f6
   replace hs59 := hs59.f6
   replace hs59 := hs59.f6
   replace hs59 := hs59.f4
   replace hs59 := hs59.f6
   replace hs59 := hs59.f6
   have hs60 := hback _ f52 nm.toNat nd _ hle56 (Nat.le_refl _) rfl (by have := srvA_shut rfl hml hqs hs59; rw [hks] at this; exact Sep.front (i := 0) rfl this); rw [set_same hnd] at hs60
   have hs61 := rackA_shut (f := f52) hnm hln (Sep.front (i := 2) rfl (Sep.front (i := 2) rfl hs60)); clear hs59 hs60; dsimp only [List.eraseIdx] at hs61
   refine oEnd (kG ⟨⟨_, (Sep.imp (i := 0) rfl (pool_sub hle56) (Sep.front (i := 1) rfl hs61))⟩, ⟨_, (Sep.front (i := 3) rfl hs61)⟩, ⟨_, (Sep.front (i := 2) rfl hs61)⟩, trivial⟩ ?_)
   clear hS; intro hS
   refine gTake0 13 rfl (by kernel_rfl) hS (fun w => xMove rfl) rfl ?_
   clear hS; intro hS
   refine gTake0 14 rfl (by kernel_rfl) hS (fun w => xExtract rfl rfl) rfl ?_
   clear hS; intro hS
   refine gTake0 15 rfl (by kernel_rfl) hS (fun w => xExtract rfl rfl) rfl ?_
   clear hS; intro hS
   refine gTake0 16 rfl (by kernel_rfl) hS (fun w => xAssign rfl) rfl ?_
   clear hS; intro hS
   refine gTake0 17 rfl (by kernel_rfl) hS (fun w => xAssign rfl) rfl ?_
   clear hS; intro hS
   refine gEnd (by kernel_rfl) ?_
   clear hS
   refine kSeq ?_
   refine rSeq (Run.sub (e' := [(0, (ptr y)), (2, (I (st : Int))), (6, (I 0)), (7, (.bool false)), (8, (ptr b12)), (48, (.slice (some ⟨b27, off28, none⟩) ((o.pl.getD st []).length) cp20)), (49, (I ((o.pl.getD st []).length : Int))), (10, (I (j : Int))), (50, (I (j : Int))), (15, (.bool true)), (18, (I 0))]) ⟨rfl, rfl, rfl, rfl, rfl, rfl, rfl, rfl, rfl, rfl, rfl, trivial⟩ ?_)
   refine rReg (oV (xMove rfl) rfl (oV (xMove rfl) rfl (oGuardT rfl rfl (oV (xMove rfl) rfl (oGuardT rfl rfl (oV (xCmp (r := true) rfl rfl rEql) rfl (oV (xPickT rfl rfl) rfl (oEnd (kSeq (rCondT rfl (rReg (oV (xMove rfl) rfl (oV (xAr rfl rfl (rAdd (wI (by omega) (by omega)))) rfl (oV (xAssign rfl) rfl (oEnd (kBlk (kSeq (rReg (oV (xAr rfl rfl (rAdd (wI (by omega) (by omega)))) rfl (oV (xMove rfl) rfl ?_))))))))))))))))))))
   replace hs61 := hs61.d3
   replace hs61 := hs61.d2
   replace hs61 := hs61.f3
   replace hs61 := hs61.f1
   replace hs61 := hs61.f2
   replace hs61 := hs61.f3
   exact oEnd (kLoop (p.n - (j + 1)) _ (by omega) ⟨j + 1, f52, rfl, rfl, (by omega), (FLe.trans hle25 hle56), (hh0), (hy), (hv8), (hp9), (hb22), hs61⟩ ⟨rfl, rfl, rfl, rfl, rfl, rfl, rfl, rfl, rfl, trivial⟩)
 · refine rExit (kSeqX (kLoopX (kBlkH (kSeq (rSeq (rReg (oV (xMove rfl) rfl (oV (xAssign rfl) rfl (oV (xAssign rfl) rfl (oEnd (kSeq (rRet (kFin (.tmp rfl (.tmp rfl (.nil))) ?_)))))))))))))
   have hjn : j = p.n := by omega
   replace hs := hs.d0
   exact ⟨_, by rw [← hjn]; rfl, (FLe.trans hle7 hle25), hs⟩
end Go.Sl
