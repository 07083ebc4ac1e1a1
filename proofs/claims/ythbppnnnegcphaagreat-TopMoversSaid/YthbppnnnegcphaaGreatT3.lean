/- Part 3 of a proof: what the functions of the program compute, and at the end that the law answers true for every input. No conditions beyond the statement's own. -/
import Derived.Test.YthbppnnnegcphaaGreatT2
import Derived.Lib.Bytealg
import Derived.Laws.IdiomStrings
set_option linter.unusedVariables false
set_option linter.unusedSimpArgs false
namespace Go.Sl
open Go.Proofs Go.Proofs.Tryz
theorem sdoes1_s {W0 w : World} {L : List Asn} {c sv d v sz NC sn sc : Nat} {sa : Option Addr} {dn : UInt64} {vs : VS} {f : HF} {q : UInt64} {s : Sh} {a : Option Addr} {n cp : Nat} {l : LB} (hb : RB f a n cp l) (hok : DoOk sz NC 1 s l (mval Prod.fst vs)) (hNC : NC ≤ 1000000) (hsz : sz ≤ 60000) (hs : Sep W0 w (pool f :: row sv 374 [ptr c, ptr d, ptr v, .slice sa sn sc, Q dn] :: vltA f v d sz NC vs :: L)) : Calls Tryz.prog 390 [ptr sv, .agg #[Q q, I 1, U s.o, H s.st, H s.sl, U s.g, .int .u16 0, .slice a n cp]].toArray w (Ret fun r w' => ∃ f' vs' a' n' cp', r = .tuple #[.slice a' n' cp', .int .i64 0] ∧ FLe f f' ∧ RB f' a' n' cp' (doD 1 s (mval Prod.fst vs)) ∧ mval Prod.fst vs' = doKs 1 s l (mval Prod.fst vs) ∧ Sep W0 w' (pool f' :: row sv 374 [ptr c, ptr d, ptr v, .slice sa sn sc, Q dn] :: vltA f' v d sz NC vs' :: L)) := by
 have hbl := RB.len hb
 have hl0 : l = [] := by rcases hok.bare with h | h; (cases h); exact h
 refine enter (args := [(ptr sv), (.agg #[(.int .u64 (q.toNat : Int)), (I 1), (.int .u32 (s.o.toNat : Int)), (.int .u16 (s.st.toNat : Int)), (.int .u16 (s.sl.toNat : Int)), (.int .u32 (s.g.toNat : Int)), (.int .u16 0), (.slice a n cp)])]) (n := 61) (rs := [.tmp 4, .tmp 5]) func390 rfl rfl rfl rfl ?_
 refine rSeq (rReg (oBox hs rfl rfl rfl ?_))
 intro b1 w2 hs3; clear hs
 refine oV (xAssign rfl) rfl (oV (xAssign rfl) rfl (oEnd (kSeq (rSeq (rSeq (rReg (oV (xFA (j' := 1) underlying394 rfl sizeOf3 rfl rfl) rfl (oV (xLoad hs3 isAgg3 rfl (i := 0) rfl rfl) rfl (oEnd (kSeq (rBlk (rSeq (rReg (oV (xCmp (r := false) rfl rfl rEql) rfl (oV (xAssign rfl) rfl (oEnd (kSeq (rCondF rfl (rSeq (rReg (oV (xCmp (r := false) rfl rfl rEql) rfl (oV (xAssign rfl) rfl (oEnd (kSeq (rCondF rfl (rSeq (rReg (oV (xCmp (r := false) rfl rfl rEql) rfl (oV (xAssign rfl) rfl (oEnd (kSeq (rCondF rfl (rSeq (rReg (oV (xCmp (r := false) rfl rfl rEql) rfl (oV (xAssign rfl) rfl (oEnd (kSeq (rCondF rfl (rSeq (rReg (oV (xCmp (r := false) rfl rfl rEql) rfl (oV (xAssign rfl) rfl (oEnd (kSeq (rCondF rfl (rSkip (kBlk (kSeq (rSeq (rReg (oV (xAssign rfl) rfl (oV (xAssign rfl) rfl (oEnd (kSeq (rRet (kFin (.tmp rfl (.tmp rfl (.nil))) ?_)))))))))))))))))))))))))))))))))))))))))))))))))))))))))
 replace hs3 := hs3.d0
 have hD : doD 1 s (mval Prod.fst vs) = [] := rfl
 rw [hD]
 exact ⟨_, _, _, _, _, rfl, (FLe.refl f), RB.nil, rfl, hs3⟩
theorem sdoes2_s {W0 w : World} {L : List Asn} {c sv d v sz NC sn sc : Nat} {sa : Option Addr} {dn : UInt64} {vs : VS} {f : HF} {q : UInt64} {s : Sh} {a : Option Addr} {n cp : Nat} {l : LB} (hb : RB f a n cp l) (hok : DoOk sz NC 2 s l (mval Prod.fst vs)) (hNC : NC ≤ 1000000) (hsz : sz ≤ 60000) (hs : Sep W0 w (pool f :: row sv 374 [ptr c, ptr d, ptr v, .slice sa sn sc, Q dn] :: vltA f v d sz NC vs :: L)) : Calls Tryz.prog 390 [ptr sv, .agg #[Q q, I 2, U s.o, H s.st, H s.sl, U s.g, .int .u16 0, .slice a n cp]].toArray w (Ret fun r w' => ∃ f' vs' a' n' cp', r = .tuple #[.slice a' n' cp', .int .i64 0] ∧ FLe f f' ∧ RB f' a' n' cp' (doD 2 s (mval Prod.fst vs)) ∧ mval Prod.fst vs' = doKs 2 s l (mval Prod.fst vs) ∧ Sep W0 w' (pool f' :: row sv 374 [ptr c, ptr d, ptr v, .slice sa sn sc, Q dn] :: vltA f' v d sz NC vs' :: L)) := by
 have hbl := RB.len hb
 have hgv : mget vs s = none := by have h := hok.none rfl; rw [mget_val] at h; simpa using h
 have hrm := hok.room rfl; have hft := hok.fit rfl; simp only [mval, List.length_map] at hrm
 refine enter (args := [(ptr sv), (.agg #[(.int .u64 (q.toNat : Int)), (I 2), (.int .u32 (s.o.toNat : Int)), (.int .u16 (s.st.toNat : Int)), (.int .u16 (s.sl.toNat : Int)), (.int .u32 (s.g.toNat : Int)), (.int .u16 0), (.slice a n cp)])]) (n := 61) (rs := [.tmp 4, .tmp 5]) func390 rfl rfl rfl rfl ?_
 refine rSeq (rReg (oBox hs rfl rfl rfl ?_))
 intro b1 w2 hs3; clear hs
 refine oV (xAssign rfl) rfl (oV (xAssign rfl) rfl (oEnd (kSeq (rSeq (rSeq (rReg (oV (xFA (j' := 1) underlying394 rfl sizeOf3 rfl rfl) rfl (oV (xLoad hs3 isAgg3 rfl (i := 0) rfl rfl) rfl (oEnd (kSeq (rBlk (rSeq (rReg (oV (xCmp (r := true) rfl rfl rEql) rfl (oV (xAssign rfl) rfl (oEnd (kSeq (rCondT rfl (rSeq ?_)))))))))))))))))))
 refine rRegG [(none, fun w => ∃ M, Sep W0 w (row sv 374 [(ptr c), (ptr d), (ptr v), (.slice sa sn sc), (.int .u64 (dn.toNat : Int))] :: M)), (none, fun w => ∃ M, Sep W0 w (row b1 394 [(.int .u64 (q.toNat : Int)), (I 2), (.int .u32 (s.o.toNat : Int)), (.int .u16 (s.st.toNat : Int)), (.int .u16 (s.sl.toNat : Int)), (.int .u32 (s.g.toNat : Int)), (.int .u16 0), (.slice a n cp)] :: M))] (by kernel_rfl) hs3 (fun w4 hs5 => ⟨?_, fun hS => ?_⟩)
 · exact ⟨⟨_, (Sep.front (i := 2) rfl hs5)⟩, ⟨_, (Sep.front (i := 0) rfl hs5)⟩, trivial⟩
 clear hs3
 refine gTake0 0 rfl (by kernel_rfl) hS (fun w => xMove rfl) rfl ?_
 clear hS; intro hS
 refine gTake0 1 rfl (by kernel_rfl) hS (fun w => xNil rfl) rfl ?_
 clear hS; intro hS
 refine gTake0 2 rfl (by kernel_rfl) hS (fun w => xFA (j' := 2) underlying374 rfl sizeOf285 rfl rfl) rfl ?_
 clear hS; intro hS
 refine gTake 3 0 rfl (by kernel_rfl) rfl (by kernel_rfl) hS (fun w hq0 => by obtain ⟨M, hq⟩ := hq0; exact xLoad hq isAgg285 rfl (i := 0) rfl rfl) rfl ?_
 clear hS; intro hS
 refine gTake0 4 rfl (by kernel_rfl) hS (fun w => xFA (j' := 2) underlying394 rfl sizeOf280 rfl rfl) rfl ?_
 clear hS; intro hS
 refine gTake 5 1 rfl (by kernel_rfl) rfl (by kernel_rfl) hS (fun w hq0 => by obtain ⟨M, hq⟩ := hq0; exact xLoadG hq isAgg280 sizeOf280 rfl (i := 0) rfl rfl) rfl ?_
 clear hS; intro hS
 refine gTake0 6 rfl (by kernel_rfl) hS (fun w => xFA (j' := 7) underlying394 rfl sizeOf26 rfl rfl) rfl ?_
 clear hS; intro hS
 refine gTake 7 1 rfl (by kernel_rfl) rfl (by kernel_rfl) hS (fun w hq0 => by obtain ⟨M, hq⟩ := hq0; exact xLoad hq isAgg26 rfl (i := 0) rfl rfl) rfl ?_
 clear hS; intro hS
 refine gEff 8 (by kernel_rfl) rfl ?_
 replace hs5 := hs5.f3
 replace hs5 := hs5.f2
 refine oCall call401 rfl rfl (vput_s s hb hNC (by omega) hgv (by omega) hsz hs5) ?_
 rintro _ w9 ⟨f6, c7, rfl, hle8, hs10⟩; clear hs5
 refine oEnd (kG ⟨⟨_, (Sep.front (i := 3) rfl hs10)⟩, ⟨_, (Sep.front (i := 2) rfl hs10)⟩, trivial⟩ ?_)
 clear hS; intro hS
 refine gTake0 9 rfl (by kernel_rfl) hS (fun w => xAssign rfl) rfl ?_
 clear hS; intro hS
 refine gTake0 10 rfl (by kernel_rfl) hS (fun w => xAssign rfl) rfl ?_
 clear hS; intro hS
 refine gEnd (by kernel_rfl) ?_
 clear hS
 refine kSeq ?_
 refine rRet (kBlkR (kSeqR (kFin (.tmp rfl (.tmp rfl (.nil))) ?_)))
 replace hs10 := hs10.d2
 replace hs10 := hs10.f1
 replace hs10 := hs10.f2
 replace hs10 := hs10.f2
 have hD : doD 2 s (mval Prod.fst vs) = [] := rfl
 rw [hD]
 exact ⟨_, _, _, _, _, rfl, hle8, RB.nil, by simp [doKs, mval], hs10⟩
theorem sdoes3_s {W0 w : World} {L : List Asn} {c sv d v sz NC sn sc : Nat} {sa : Option Addr} {dn : UInt64} {vs : VS} {f : HF} {q : UInt64} {s : Sh} {a : Option Addr} {n cp : Nat} {l : LB} (hb : RB f a n cp l) (hok : DoOk sz NC 3 s l (mval Prod.fst vs)) (hNC : NC ≤ 1000000) (hsz : sz ≤ 60000) (hs : Sep W0 w (pool f :: row sv 374 [ptr c, ptr d, ptr v, .slice sa sn sc, Q dn] :: vltA f v d sz NC vs :: L)) : Calls Tryz.prog 390 [ptr sv, .agg #[Q q, I 3, U s.o, H s.st, H s.sl, U s.g, .int .u16 0, .slice a n cp]].toArray w (Ret fun r w' => ∃ f' vs' a' n' cp', r = .tuple #[.slice a' n' cp', .int .i64 0] ∧ FLe f f' ∧ RB f' a' n' cp' (doD 3 s (mval Prod.fst vs)) ∧ mval Prod.fst vs' = doKs 3 s l (mval Prod.fst vs) ∧ Sep W0 w' (pool f' :: row sv 374 [ptr c, ptr d, ptr v, .slice sa sn sc, Q dn] :: vltA f' v d sz NC vs' :: L)) := by
 have hbl := RB.len hb
 obtain ⟨⟨gl, gc⟩, hgv⟩ : ∃ x, mget vs s = some x := by
   have h := hok.some (by decide)
   rw [mget_val, Option.isSome_map] at h
   exact Option.isSome_iff_exists.1 h
 have hl0 : l = [] := by rcases hok.bare with h | h; (cases h); exact h
 refine enter (args := [(ptr sv), (.agg #[(.int .u64 (q.toNat : Int)), (I 3), (.int .u32 (s.o.toNat : Int)), (.int .u16 (s.st.toNat : Int)), (.int .u16 (s.sl.toNat : Int)), (.int .u32 (s.g.toNat : Int)), (.int .u16 0), (.slice a n cp)])]) (n := 61) (rs := [.tmp 4, .tmp 5]) func390 rfl rfl rfl rfl ?_
 refine rSeq (rReg (oBox hs rfl rfl rfl ?_))
 intro b1 w2 hs3; clear hs
 refine oV (xAssign rfl) rfl (oV (xAssign rfl) rfl (oEnd (kSeq (rSeq (rSeq (rReg (oV (xFA (j' := 1) underlying394 rfl sizeOf3 rfl rfl) rfl (oV (xLoad hs3 isAgg3 rfl (i := 0) rfl rfl) rfl (oEnd (kSeq (rBlk (rSeq (rReg (oV (xCmp (r := false) rfl rfl rEql) rfl (oV (xAssign rfl) rfl (oEnd (kSeq (rCondF rfl (rSeq (rReg (oV (xCmp (r := false) rfl rfl rEql) rfl (oV (xAssign rfl) rfl (oEnd (kSeq (rCondF rfl (rSeq (rReg (oV (xCmp (r := true) rfl rfl rEql) rfl (oV (xAssign rfl) rfl (oEnd (kSeq (rCondT rfl (rSeq ?_)))))))))))))))))))))))))))))))))
 refine rRegG [(none, fun w => ∃ M, Sep W0 w (row sv 374 [(ptr c), (ptr d), (ptr v), (.slice sa sn sc), (.int .u64 (dn.toNat : Int))] :: M)), (none, fun w => ∃ M, Sep W0 w (row b1 394 [(.int .u64 (q.toNat : Int)), (I 3), (.int .u32 (s.o.toNat : Int)), (.int .u16 (s.st.toNat : Int)), (.int .u16 (s.sl.toNat : Int)), (.int .u32 (s.g.toNat : Int)), (.int .u16 0), (.slice a n cp)] :: M))] (by kernel_rfl) hs3 (fun w4 hs5 => ⟨?_, fun hS => ?_⟩)
 · exact ⟨⟨_, (Sep.front (i := 2) rfl hs5)⟩, ⟨_, (Sep.front (i := 0) rfl hs5)⟩, trivial⟩
 clear hs3
 refine gTake0 0 rfl (by kernel_rfl) hS (fun w => xMove rfl) rfl ?_
 clear hS; intro hS
 refine gTake0 1 rfl (by kernel_rfl) hS (fun w => xNil rfl) rfl ?_
 clear hS; intro hS
 refine gTake0 2 rfl (by kernel_rfl) hS (fun w => xFA (j' := 2) underlying374 rfl sizeOf285 rfl rfl) rfl ?_
 clear hS; intro hS
 refine gTake 3 0 rfl (by kernel_rfl) rfl (by kernel_rfl) hS (fun w hq0 => by obtain ⟨M, hq⟩ := hq0; exact xLoad hq isAgg285 rfl (i := 0) rfl rfl) rfl ?_
 clear hS; intro hS
 refine gTake0 4 rfl (by kernel_rfl) hS (fun w => xFA (j' := 2) underlying394 rfl sizeOf280 rfl rfl) rfl ?_
 clear hS; intro hS
 refine gTake 5 1 rfl (by kernel_rfl) rfl (by kernel_rfl) hS (fun w hq0 => by obtain ⟨M, hq⟩ := hq0; exact xLoadG hq isAgg280 sizeOf280 rfl (i := 0) rfl rfl) rfl ?_
 clear hS; intro hS
 refine gEff 6 (by kernel_rfl) rfl ?_
 replace hs5 := hs5.f3
 replace hs5 := hs5.f2
 refine oCall call149 rfl rfl (vget_s s hgv hsz hs5) ?_
 rintro _ w12 ⟨f6, a7, k8, cp9, rfl, hle10, hb11, hs13⟩; clear hs5
 refine oEnd (kG ⟨⟨_, (Sep.front (i := 3) rfl hs13)⟩, ⟨_, (Sep.front (i := 2) rfl hs13)⟩, trivial⟩ ?_)
 clear hS; intro hS
 refine gTake0 7 rfl (by kernel_rfl) hS (fun w => xExtract rfl rfl) rfl ?_
 clear hS; intro hS
 refine gTake0 8 rfl (by kernel_rfl) hS (fun w => xExtract rfl rfl) rfl ?_
 clear hS; intro hS
 refine gTake0 9 rfl (by kernel_rfl) hS (fun w => xAssign rfl) rfl ?_
 clear hS; intro hS
 refine gTake0 10 rfl (by kernel_rfl) hS (fun w => xAssign rfl) rfl ?_
 clear hS; intro hS
 refine gEnd (by kernel_rfl) ?_
 clear hS
 refine kSeq ?_
 refine rRet (kBlkR (kSeqR (kFin (.tmp rfl (.tmp rfl (.nil))) ?_)))
 replace hs13 := hs13.d2
 replace hs13 := hs13.f1
 replace hs13 := hs13.f2
 replace hs13 := hs13.f2
 have hD : doD 3 s (mval Prod.fst vs) = gl := by simp [doD, mget_val, hgv]
 rw [hD]
 exact ⟨_, _, _, _, _, rfl, hle10, hb11, rfl, hs13⟩
theorem sdoes5_s {W0 w : World} {L : List Asn} {c sv d v sz NC sn sc : Nat} {sa : Option Addr} {dn : UInt64} {vs : VS} {f : HF} {q : UInt64} {s : Sh} {a : Option Addr} {n cp : Nat} {l : LB} (hb : RB f a n cp l) (hok : DoOk sz NC 5 s l (mval Prod.fst vs)) (hNC : NC ≤ 1000000) (hsz : sz ≤ 60000) (hs : Sep W0 w (pool f :: row sv 374 [ptr c, ptr d, ptr v, .slice sa sn sc, Q dn] :: vltA f v d sz NC vs :: L)) : Calls Tryz.prog 390 [ptr sv, .agg #[Q q, I 5, U s.o, H s.st, H s.sl, U s.g, .int .u16 0, .slice a n cp]].toArray w (Ret fun r w' => ∃ f' vs' a' n' cp', r = .tuple #[.slice a' n' cp', .int .i64 0] ∧ FLe f f' ∧ RB f' a' n' cp' (doD 5 s (mval Prod.fst vs)) ∧ mval Prod.fst vs' = doKs 5 s l (mval Prod.fst vs) ∧ Sep W0 w' (pool f' :: row sv 374 [ptr c, ptr d, ptr v, .slice sa sn sc, Q dn] :: vltA f' v d sz NC vs' :: L)) := by
 have hbl := RB.len hb
 obtain ⟨⟨gl, gc⟩, hgv⟩ : ∃ x, mget vs s = some x := by
   have h := hok.some (by decide)
   rw [mget_val, Option.isSome_map] at h
   exact Option.isSome_iff_exists.1 h
 have hl0 : l = [] := by rcases hok.bare with h | h; (cases h); exact h
 refine enter (args := [(ptr sv), (.agg #[(.int .u64 (q.toNat : Int)), (I 5), (.int .u32 (s.o.toNat : Int)), (.int .u16 (s.st.toNat : Int)), (.int .u16 (s.sl.toNat : Int)), (.int .u32 (s.g.toNat : Int)), (.int .u16 0), (.slice a n cp)])]) (n := 61) (rs := [.tmp 4, .tmp 5]) func390 rfl rfl rfl rfl ?_
 refine rSeq (rReg (oBox hs rfl rfl rfl ?_))
 intro b1 w2 hs3; clear hs
 refine oV (xAssign rfl) rfl (oV (xAssign rfl) rfl (oEnd (kSeq (rSeq (rSeq (rReg (oV (xFA (j' := 1) underlying394 rfl sizeOf3 rfl rfl) rfl (oV (xLoad hs3 isAgg3 rfl (i := 0) rfl rfl) rfl (oEnd (kSeq (rBlk (rSeq (rReg (oV (xCmp (r := false) rfl rfl rEql) rfl (oV (xAssign rfl) rfl (oEnd (kSeq (rCondF rfl (rSeq (rReg (oV (xCmp (r := true) rfl rfl rEql) rfl (oV (xAssign rfl) rfl (oEnd (kSeq (rCondT rfl (rSeq ?_))))))))))))))))))))))))))
 refine rRegG [(none, fun w => ∃ M, Sep W0 w (row sv 374 [(ptr c), (ptr d), (ptr v), (.slice sa sn sc), (.int .u64 (dn.toNat : Int))] :: M)), (none, fun w => ∃ M, Sep W0 w (row b1 394 [(.int .u64 (q.toNat : Int)), (I 5), (.int .u32 (s.o.toNat : Int)), (.int .u16 (s.st.toNat : Int)), (.int .u16 (s.sl.toNat : Int)), (.int .u32 (s.g.toNat : Int)), (.int .u16 0), (.slice a n cp)] :: M))] (by kernel_rfl) hs3 (fun w4 hs5 => ⟨?_, fun hS => ?_⟩)
 · exact ⟨⟨_, (Sep.front (i := 2) rfl hs5)⟩, ⟨_, (Sep.front (i := 0) rfl hs5)⟩, trivial⟩
 clear hs3
 refine gTake0 0 rfl (by kernel_rfl) hS (fun w => xMove rfl) rfl ?_
 clear hS; intro hS
 refine gTake0 1 rfl (by kernel_rfl) hS (fun w => xNil rfl) rfl ?_
 clear hS; intro hS
 refine gTake0 2 rfl (by kernel_rfl) hS (fun w => xFA (j' := 2) underlying374 rfl sizeOf285 rfl rfl) rfl ?_
 clear hS; intro hS
 refine gTake 3 0 rfl (by kernel_rfl) rfl (by kernel_rfl) hS (fun w hq0 => by obtain ⟨M, hq⟩ := hq0; exact xLoad hq isAgg285 rfl (i := 0) rfl rfl) rfl ?_
 clear hS; intro hS
 refine gTake0 4 rfl (by kernel_rfl) hS (fun w => xFA (j' := 2) underlying394 rfl sizeOf280 rfl rfl) rfl ?_
 clear hS; intro hS
 refine gTake 5 1 rfl (by kernel_rfl) rfl (by kernel_rfl) hS (fun w hq0 => by obtain ⟨M, hq⟩ := hq0; exact xLoadG hq isAgg280 sizeOf280 rfl (i := 0) rfl rfl) rfl ?_
 clear hS; intro hS
 refine gEff 6 (by kernel_rfl) rfl ?_
 replace hs5 := hs5.f3
 replace hs5 := hs5.f2
 refine oCall call402 rfl rfl (vdrop_s s hgv hsz hs5) ?_
 rintro _ w8 ⟨f6, rfl, hle7, hs9⟩; clear hs5
 refine oEnd (kG ⟨⟨_, (Sep.front (i := 3) rfl hs9)⟩, ⟨_, (Sep.front (i := 2) rfl hs9)⟩, trivial⟩ ?_)
 clear hS; intro hS
 refine gTake0 7 rfl (by kernel_rfl) hS (fun w => xAssign rfl) rfl ?_
 clear hS; intro hS
 refine gTake0 8 rfl (by kernel_rfl) hS (fun w => xAssign rfl) rfl ?_
 clear hS; intro hS
 refine gEnd (by kernel_rfl) ?_
 clear hS
 refine kSeq ?_
 refine rRet (kBlkR (kSeqR (kFin (.tmp rfl (.tmp rfl (.nil))) ?_)))
 replace hs9 := hs9.d2
 replace hs9 := hs9.f1
 replace hs9 := hs9.f2
 replace hs9 := hs9.f2
 have hD : doD 5 s (mval Prod.fst vs) = [] := rfl
 rw [hD]
 exact ⟨_, _, _, _, _, rfl, hle7, RB.nil, by rw [← mdel_val]; rfl, hs9⟩
theorem sdoes6_s {W0 w : World} {L : List Asn} {c sv d v sz NC sn sc : Nat} {sa : Option Addr} {dn : UInt64} {vs : VS} {f : HF} {q : UInt64} {s : Sh} {a : Option Addr} {n cp : Nat} {l : LB} (hb : RB f a n cp l) (hok : DoOk sz NC 6 s l (mval Prod.fst vs)) (hNC : NC ≤ 1000000) (hsz : sz ≤ 60000) (hs : Sep W0 w (pool f :: row sv 374 [ptr c, ptr d, ptr v, .slice sa sn sc, Q dn] :: vltA f v d sz NC vs :: L)) : Calls Tryz.prog 390 [ptr sv, .agg #[Q q, I 6, U s.o, H s.st, H s.sl, U s.g, .int .u16 0, .slice a n cp]].toArray w (Ret fun r w' => ∃ f' vs' a' n' cp', r = .tuple #[.slice a' n' cp', .int .i64 0] ∧ FLe f f' ∧ RB f' a' n' cp' (doD 6 s (mval Prod.fst vs)) ∧ mval Prod.fst vs' = doKs 6 s l (mval Prod.fst vs) ∧ Sep W0 w' (pool f' :: row sv 374 [ptr c, ptr d, ptr v, .slice sa sn sc, Q dn] :: vltA f' v d sz NC vs' :: L)) := by
 have hbl := RB.len hb
 obtain ⟨⟨gl, gc⟩, hgv⟩ : ∃ x, mget vs s = some x := by
   have h := hok.some (by decide)
   rw [mget_val, Option.isSome_map] at h
   exact Option.isSome_iff_exists.1 h
 have hl0 : l = [] := by rcases hok.bare with h | h; (cases h); exact h
 refine enter (args := [(ptr sv), (.agg #[(.int .u64 (q.toNat : Int)), (I 6), (.int .u32 (s.o.toNat : Int)), (.int .u16 (s.st.toNat : Int)), (.int .u16 (s.sl.toNat : Int)), (.int .u32 (s.g.toNat : Int)), (.int .u16 0), (.slice a n cp)])]) (n := 61) (rs := [.tmp 4, .tmp 5]) func390 rfl rfl rfl rfl ?_
 refine rSeq (rReg (oBox hs rfl rfl rfl ?_))
 intro b1 w2 hs3; clear hs
 refine oV (xAssign rfl) rfl (oV (xAssign rfl) rfl (oEnd (kSeq (rSeq (rSeq (rReg (oV (xFA (j' := 1) underlying394 rfl sizeOf3 rfl rfl) rfl (oV (xLoad hs3 isAgg3 rfl (i := 0) rfl rfl) rfl (oEnd (kSeq (rBlk (rSeq (rReg (oV (xCmp (r := false) rfl rfl rEql) rfl (oV (xAssign rfl) rfl (oEnd (kSeq (rCondF rfl (rSeq (rReg (oV (xCmp (r := false) rfl rfl rEql) rfl (oV (xAssign rfl) rfl (oEnd (kSeq (rCondF rfl (rSeq (rReg (oV (xCmp (r := false) rfl rfl rEql) rfl (oV (xAssign rfl) rfl (oEnd (kSeq (rCondF rfl (rSeq (rReg (oV (xCmp (r := false) rfl rfl rEql) rfl (oV (xAssign rfl) rfl (oEnd (kSeq (rCondF rfl (rSeq (rReg (oV (xCmp (r := true) rfl rfl rEql) rfl (oV (xAssign rfl) rfl (oEnd (kSeq (rCondT rfl (rSeq ?_)))))))))))))))))))))))))))))))))))))))))))))))
 refine rRegG [(none, fun w => ∃ M, Sep W0 w (row sv 374 [(ptr c), (ptr d), (ptr v), (.slice sa sn sc), (.int .u64 (dn.toNat : Int))] :: M)), (none, fun w => ∃ M, Sep W0 w (row b1 394 [(.int .u64 (q.toNat : Int)), (I 6), (.int .u32 (s.o.toNat : Int)), (.int .u16 (s.st.toNat : Int)), (.int .u16 (s.sl.toNat : Int)), (.int .u32 (s.g.toNat : Int)), (.int .u16 0), (.slice a n cp)] :: M))] (by kernel_rfl) hs3 (fun w4 hs5 => ⟨?_, fun hS => ?_⟩)
 · exact ⟨⟨_, (Sep.front (i := 2) rfl hs5)⟩, ⟨_, (Sep.front (i := 0) rfl hs5)⟩, trivial⟩
 clear hs3
 refine gTake0 0 rfl (by kernel_rfl) hS (fun w => xMove rfl) rfl ?_
 clear hS; intro hS
 refine gTake0 1 rfl (by kernel_rfl) hS (fun w => xNil rfl) rfl ?_
 clear hS; intro hS
 refine gTake0 2 rfl (by kernel_rfl) hS (fun w => xFA (j' := 2) underlying374 rfl sizeOf285 rfl rfl) rfl ?_
 clear hS; intro hS
 refine gTake 3 0 rfl (by kernel_rfl) rfl (by kernel_rfl) hS (fun w hq0 => by obtain ⟨M, hq⟩ := hq0; exact xLoad hq isAgg285 rfl (i := 0) rfl rfl) rfl ?_
 clear hS; intro hS
 refine gTake0 4 rfl (by kernel_rfl) hS (fun w => xFA (j' := 2) underlying394 rfl sizeOf280 rfl rfl) rfl ?_
 clear hS; intro hS
 refine gTake 5 1 rfl (by kernel_rfl) rfl (by kernel_rfl) hS (fun w hq0 => by obtain ⟨M, hq⟩ := hq0; exact xLoadG hq isAgg280 sizeOf280 rfl (i := 0) rfl rfl) rfl ?_
 clear hS; intro hS
 refine gEff 6 (by kernel_rfl) rfl ?_
 replace hs5 := hs5.f3
 replace hs5 := hs5.f2
 refine oCall call149 rfl rfl (vget_s s hgv hsz hs5) ?_
 rintro _ w12 ⟨f6, a7, k8, cp9, rfl, hle10, hb11, hs13⟩; clear hs5
 refine oEnd (kG ⟨⟨_, (Sep.front (i := 3) rfl hs13)⟩, ⟨_, (Sep.front (i := 2) rfl hs13)⟩, trivial⟩ ?_)
 clear hS; intro hS
 refine gTake0 7 rfl (by kernel_rfl) hS (fun w => xMove rfl) rfl ?_
 clear hS; intro hS
 refine gTake0 8 rfl (by kernel_rfl) hS (fun w => xExtract rfl rfl) rfl ?_
 clear hS; intro hS
 refine gTake0 9 rfl (by kernel_rfl) hS (fun w => xExtract rfl rfl) rfl ?_
 clear hS; intro hS
 refine gTake0 10 rfl (by kernel_rfl) hS (fun w => xAssign rfl) rfl ?_
 clear hS; intro hS
 refine gTake0 11 rfl (by kernel_rfl) hS (fun w => xAssign rfl) rfl ?_
 clear hS; intro hS
 refine gEnd (by kernel_rfl) ?_
 clear hS
 refine kSeq ?_
 refine rSeq (rReg (oV (xMove rfl) rfl (oV (xAssign rfl) rfl (oV (xAssign rfl) rfl (oEnd (kSeq (rRet (kBlkR (kSeqR (kFin (.tmp rfl (.tmp rfl (.nil))) ?_))))))))))
 replace hs13 := hs13.d2
 replace hs13 := hs13.f1
 replace hs13 := hs13.f2
 replace hs13 := hs13.f2
 have hD : doD 6 s (mval Prod.fst vs) = [] := rfl
 rw [hD]
 exact ⟨_, _, _, _, _, rfl, hle10, RB.nil, rfl, hs13⟩
theorem sdoes_s {W0 w : World} {L : List Asn} {c sv d v sz NC sn sc : Nat} {sa : Option Addr} {dn : UInt64} {vs : VS} {f : HF} {q : UInt64} {s : Sh} {a : Option Addr} {n cp : Nat} {l : LB} (hb : RB f a n cp l) {kd : Nat} (hok : DoOk sz NC kd s l (mval Prod.fst vs)) (hNC : NC ≤ 1000000) (hsz : sz ≤ 60000) (hs : Sep W0 w (pool f :: row sv 374 [ptr c, ptr d, ptr v, .slice sa sn sc, Q dn] :: vltA f v d sz NC vs :: L)) : Calls Tryz.prog 390 [ptr sv, .agg #[Q q, I (kd : Int), U s.o, H s.st, H s.sl, U s.g, .int .u16 0, .slice a n cp]].toArray w (Ret fun r w' => ∃ f' vs' a' n' cp', r = .tuple #[.slice a' n' cp', .int .i64 0] ∧ FLe f f' ∧ RB f' a' n' cp' (doD kd s (mval Prod.fst vs)) ∧ mval Prod.fst vs' = doKs kd s l (mval Prod.fst vs) ∧ Sep W0 w' (pool f' :: row sv 374 [ptr c, ptr d, ptr v, .slice sa sn sc, Q dn] :: vltA f' v d sz NC vs' :: L)) := by
 rcases hok.kind with rfl | rfl | rfl | rfl | rfl
 · exact sdoes1_s hb hok hNC hsz hs
 · exact sdoes2_s hb hok hNC hsz hs
 · exact sdoes3_s hb hok hNC hsz hs
 · exact sdoes5_s hb hok hNC hsz hs
 · exact sdoes6_s hb hok hNC hsz hs
theorem sremd_s {W0 w : World} {L : List Asn} {sv sn sc q : Nat} {sa : Option Addr} {dn num : UInt64} {x1 x2 x3 : Value} {ms : List Mem} (hml : ms.length = sn) (hn : sn ≤ 32) (hq : ∀ m ∈ ms, m.1.toNat ≤ q) (hnum : q < num.toNat) (hs : Sep W0 w (row sv 374 [x1, x2, x3, .slice sa sn sc, Q dn] :: own 562 2 (.slice sa sn sc) sn (ms.flatMap memC) :: L)) : Calls Tryz.prog 389 [ptr sv, Q num].toArray w
  (Ret fun r w' => r = .tuple #[.slice none 0 0, .bool false] ∧ Sep W0 w' (row sv 374 [x1, x2, x3, .slice sa sn sc, Q dn] :: own 562 2 (.slice sa sn sc) sn (ms.flatMap memC) :: L)) := by
 refine enter (args := [(ptr sv), (.int .u64 (num.toNat : Int))]) (n := 26) (rs := [.tmp 4, .tmp 5]) func389 rfl rfl rfl rfl ?_
 refine rSeq (rReg (oV (xAssign rfl) rfl (oV (xAssign rfl) rfl (oEnd (kSeq (rSeq (rSeq (rReg (oV (xMove rfl) rfl (oV (xNil rfl) rfl (oV (xFA (j' := 3) underlying374 rfl sizeOf372 rfl rfl) rfl (oV (xLoad hs isAgg372 rfl (i := 0) rfl rfl) rfl (oV (xB1 rfl (rLenS underlying372)) rfl (oV (xMove rfl) rfl (oEnd (kSeq (rBlk (rLoop (fun mz e w => ∃ (i : Nat), sn - i = mz ∧ e = [(0, (ptr sv)), (1, (.int .u64 (num.toNat : Int))), (11, (.slice sa sn sc)), (12, (I (sn : Int))), (13, (I (i : Int)))] ∧ (i ≤ sn) ∧ Sep W0 w (row sv 374 [x1, x2, x3, (.slice sa sn sc), (.int .u64 (dn.toNat : Int))] :: own 562 2 (.slice sa sn sc) sn (ms.flatMap memC) :: L)) ⟨_, _, ⟨0, rfl, rfl, (by omega), hs⟩, ⟨rfl, rfl, rfl, rfl, rfl, trivial⟩⟩ ?_))))))))))))))))))
 clear hs; rintro mz e w ⟨i, rfl, rfl, hi, hs⟩
 refine rSeq (rReg (oV (xCmp rfl rfl rLss) rfl (oEnd (kSeq (rSeq ?_)))))
 refine rCondD rfl (fun hc1 => ?_) (fun hc1 => ?_)
 · refine rSkip (kSeq (rSeq (rBlk (rSeq (rReg ?_)))))
   obtain ⟨b2, rfl⟩ := Sep.ownAddr (i := 1) hs rfl (by omega)
   refine oV (xIA (o' := (i * 2)) underlying372 sizeOf562 rfl rfl (by omega) (by omega) (by omega)) rfl (oV (xLoadGC isAgg562 sizeOf562 (j := i * 2) (vs := memC (ms.getD i (0, (none, 0, 0)))) rfl rfl (Sep.ownCells (P := Tryz.prog) hs (i := 1) (m := 2) rfl (memC_take (by omega)))) rfl ?_)
   have hmi : (ms.getD i (0, (none, 0, 0))).1.toNat ≤ q := by
     have : (ms.getD i (0, (none, 0, 0))) ∈ ms := by rw [List.getD_eq_getElem?_getD, List.getElem?_eq_getElem (show i < ms.length by omega)]; exact List.getElem_mem _
     exact hq _ this
   generalize (ms.getD i (0, (none, 0, 0))) = mm at *; obtain ⟨mn, ma, mk, mc⟩ := mm; simp only [memC] at *
   refine oAlloc hs zeroValue562 rfl rfl ?_
   intro b4 w5 hs6; clear hs
   refine oStoreG hs6 sizeOf562 rfl rfl rfl rfl (i := 0) rfl rfl ?_
   intro w7 hs8; clear hs6; dsimp only [List.set, putAt] at hs8
   refine oEnd (kSeq (rSeq (rReg (oV (xFA (j' := 0) underlying562 rfl sizeOf53 rfl rfl) rfl (oV (xLoad hs8 isAgg53 rfl (i := 0) rfl rfl) rfl (oV (xMove rfl) rfl (oV (xCmp (r := false) rfl rfl (bF (by omega) rEql)) rfl (oEnd (kSeq (rCondF rfl (rSkip (kBlk (kSeq (rReg (oV (xAr rfl rfl (rAdd (wI (by omega) (by omega)))) rfl (oV (xMove rfl) rfl ?_))))))))))))))))
   replace hs8 := hs8.d0
   exact oEnd (kLoop (sn - (i + 1)) _ (by omega) ⟨i + 1, rfl, rfl, (by omega), hs8⟩ ⟨rfl, rfl, rfl, rfl, rfl, trivial⟩)
 · refine rExit (kSeqX (kLoopX (kBlkH (kSeq (rSeq (rReg (oV (xAssign rfl) rfl (oV (xAssign rfl) rfl (oEnd (kSeq (rRet (kFin (.tmp rfl (.tmp rfl (.nil))) ?_))))))))))))
   exact ⟨rfl, hs⟩
theorem memC_snoc (ms : List Mem) (m : Mem) : ms.flatMap memC ++ [Q m.1, .slice m.2.1 m.2.2.1 m.2.2.2] = (ms ++ [m]).flatMap memC := by simp [memC]
theorem memC_drop (ms : List Mem) : (ms.flatMap memC).drop 2 = (ms.drop 1).flatMap memC := by cases ms <;> simp [memC]
theorem Sep.ownCap {W0 w : World} {L : List Asn} {i : Nat} {el : TypeId} {size g k cap : Nat} {xs : List Value} (hs : Sep W0 w L) (hi : L[i]? = some (own el size (.slice (some ⟨g, 0, none⟩) k cap) k xs)) : k ≤ cap := by
 obtain ⟨S, hl, h⟩ := sepL_at hi hs.sep
 rcases h with ⟨he, _⟩ | ⟨g', cap', cur, he, hb, h1, h2, h3, htk⟩
 · cases he
 · simp at he; omega
theorem srem_s {W0 w : World} {L : List Asn} {sv sn sc q m bc : Nat} {sa b : Option Addr} {dn num : UInt64} {x1 x2 x3 : Value} {ms : List Mem} (hml : ms.length = sn) (hn : sn ≤ 32) (hq : ∀ m ∈ ms, m.1.toNat ≤ q) (hnum : q < num.toNat) (hs : Sep W0 w (row sv 374 [x1, x2, x3, .slice sa sn sc, Q dn] :: own 562 2 (.slice sa sn sc) sn (ms.flatMap memC) :: L)) : Calls Tryz.prog 392 [ptr sv, Q num, .slice b m bc].toArray w
  (Ret fun _ w' => ∃ (sa' : Option Addr) (sn' sc' : Nat) (ms' : List Mem), ms'.length = sn' ∧ sn' ≤ 32 ∧ (∀ m ∈ ms', m.1.toNat ≤ num.toNat) ∧ Sep W0 w' (row sv 374 [x1, x2, x3, .slice sa' sn' sc', Q dn] :: own 562 2 (.slice sa' sn' sc') sn' (ms'.flatMap memC) :: L)) := by
 refine enter (args := [(ptr sv), (.int .u64 (num.toNat : Int)), (.slice b m bc)]) (n := 34) (rs := []) func392 rfl rfl rfl rfl ?_
 refine rSeq (rReg (oV (xMove rfl) rfl (oV (xMove rfl) rfl (oV (xNil rfl) rfl (oV (xFA (j' := 3) underlying374 rfl sizeOf372 rfl rfl) rfl (oV (xLoad hs isAgg372 rfl (i := 0) rfl rfl) rfl (oV (xMove rfl) rfl (oV (xMove rfl) rfl (oV (xBuild (v := (.agg #[(.int .u64 (num.toNat : Int)), (.slice b m bc)])) rfl (fun w => by kernel_rfl)) rfl (oBuildSlice (el := 562) (cs := [(.int .u64 (num.toNat : Int)), (.slice b m bc)]) hs rfl (fun w => by kernel_rfl) rfl ?_))))))))))
 intro b1 w2 hs3; clear hs
 refine oAppend (inf := Tryz.t562) (size := 2) (bytes := 32) hs3 (i := 2) rfl underlying372 (by kernel_rfl) rfl rfl rfl rfl rfl rfl rfl (src_row hs3 (i := 0) rfl rfl rfl) (by first | omega | (simp only [List.length_append, List.length_cons, List.length_nil, List.length_map]; omega)) (by first | omega | (simp only [List.length_append, List.length_cons, List.length_nil, List.length_map]; omega)) rfl ?_
 intro a4 c5 w6 hs7; clear hs3; dsimp only [List.set] at hs7
 rw [memC_snoc ms (num, (b, m, bc))] at hs7
 refine oV (xNil rfl) rfl (oV (xFA (j' := 3) underlying374 rfl sizeOf372 rfl rfl) rfl (oStore hs7 sizeOf372 rfl rfl rfl (i := 1) rfl rfl ?_))
 intro w8 hs9; clear hs7; dsimp only [List.set] at hs9
 refine oEnd (kSeq (rSeq (rReg (oV (xMove rfl) rfl (oV (xNil rfl) rfl (oV (xFA (j' := 3) underlying374 rfl sizeOf372 rfl rfl) rfl (oV (xLoad hs9 isAgg372 rfl (i := 1) rfl rfl) rfl (oV (xB1 rfl (rLenS underlying372)) rfl (oV (xCmp rfl rfl rGtr) rfl (oEnd (kSeq ?_)))))))))))
 refine rCondD rfl (fun hc10 => ?_) (fun hc10 => ?_)
 · refine rReg (oV (xMove rfl) rfl (oBuildSliceO (el := 562) (size := 2) (cs := []) hs9 rfl (fun w => by kernel_rfl) rfl rfl rfl ?_))
   intro b11 w12 hs13; clear hs9
   refine oV (xMove rfl) rfl (oV (xNil rfl) rfl (oV (xFA (j' := 3) underlying374 rfl sizeOf372 rfl rfl) rfl (oV (xLoad hs13 isAgg372 rfl (i := 2) rfl rfl) rfl ?_)))
   obtain ⟨b14, rfl⟩ := Sep.ownAddr (i := 3) hs13 rfl (by omega)
   have hcap := Sep.ownCap hs13 (i := 3) rfl
   refine oV (xSliceV (lo := 1) (hi := sn + 1) (o' := 1 * 2) (n' := sn + 1 - 1) (c' := c5 - 1) underlying372 sizeOf562 rfl rfl rfl (Bd.some (k := .i64) (i := 1) rfl) Bd.none (by omega) (by omega) (by omega) (by omega) rfl rfl) rfl (oAppend (inf := Tryz.t562) (size := 2) (bytes := 32) hs13 (i := 0) rfl underlying372 (by kernel_rfl) rfl rfl rfl rfl rfl rfl rfl (src_own_tail (size := 2) hs13 (i := 3) rfl (memC_one _) (by omega) _) (by omega) (by omega) rfl ?_)
   intro a15 c16 w17 hs18; clear hs13; dsimp only [List.set] at hs18; rw [List.nil_append, Nat.zero_add, memC_drop] at hs18; rw [Nat.zero_add]
   refine oV (xNil rfl) rfl (oV (xFA (j' := 3) underlying374 rfl sizeOf372 rfl rfl) rfl (oStore hs18 sizeOf372 rfl rfl rfl (i := 2) rfl rfl ?_))
   intro w19 hs20; clear hs18; dsimp only [List.set] at hs20
   refine oEnd (kFinN (.nil) ?_)
   replace hs20 := hs20.d3
   replace hs20 := hs20.d1
   replace hs20 := hs20.f1
   refine ⟨a15, (sn + 1 - 1), c16, ((ms ++ [(num, (b, m, bc))]).drop 1), by simp; try omega, by omega, ?_, hs20⟩
   intro x hx
   replace hx := List.mem_of_mem_drop hx
   rcases List.mem_append.1 hx with h | h
   · have := hq x h; omega
   · simp at h; subst h; exact Nat.le_refl _
 · refine rSkip (kFinN (.nil) ?_)
   replace hs9 := hs9.d0
   refine ⟨a4, (sn + 1), c5, (ms ++ [(num, (b, m, bc))]), by simp; try omega, by omega, ?_, hs9⟩
   intro x hx
   rcases List.mem_append.1 hx with h | h
   · have := hq x h; omega
   · simp at h; subst h; exact Nat.le_refl _
end Go.Sl
namespace Go.Sl
open Go.Proofs Go.Proofs.Tryz
theorem shandle_s {W0 w : World} {L : List Asn} {f : HF} {c sv sz NC q kd : Nat} {ks : KS} {num : UInt64} {s : Sh} {l : LB} {b : Option Addr} {m bc : Nat} (hb : RB f b m bc (reqB kd num s l)) (hNC : NC ≤ 1000000) (hsz : sz ≤ 60000) (hl : l.length ≤ 60000) (hnum : q < num.toNat) (hok : DoOk sz NC kd s l ks) (hdd : (doD kd s ks).length ≤ 60000) (hs : Sep W0 w (pool f :: srvA f c sv sz NC q ks :: L)) : Calls Tryz.prog 374 [ptr sv, .slice b m bc].toArray w
 (Ret fun r w' => ∃ f' a' k' cp', r = .slice a' k' cp' ∧ FLe f f' ∧ RB f' a' k' cp' (repB num (doD kd s ks)) ∧ Sep W0 w' (pool f' :: srvA f' c sv sz NC num.toNat (doKs kd s l ks) :: L)) := by
 have hbl := RB.len hb; rw [reqB_length] at hbl
 obtain ⟨d, v, sa, sc, ms, dn, vs, rfl, hml, hq, hs⟩ := srvA_open (Sep.front (i := 1) rfl hs)
 refine enter (args := [(ptr sv), (.slice b m bc)]) (n := 74) (rs := [.tmp 4]) func374 rfl rfl rfl rfl ?_
 refine rSeq (rReg (oV (xAssign rfl) rfl (oEnd (kSeq (rSeq (rSeq (rReg (oV (xMove rfl) rfl (oV (xBin (r := .bool false) rfl rfl (fun _ => rfl) (fun w => by kernel_rfl)) rfl (oV (xMove rfl) rfl (oGuardT rfl rfl (oV (xMove rfl) rfl (oGuardT rfl rfl (oV (xNil rfl) rfl (oGuardT rfl rfl (oV (xFA (j' := 2) underlying374 rfl sizeOf285 rfl rfl) rfl (oGuardT rfl rfl (oV (xLoad hs isAgg285 rfl (i := 0) rfl rfl) rfl (oGuardT rfl rfl (oV (xBin (r := .bool false) rfl rfl (fun _ => rfl) (fun w => by kernel_rfl)) rfl (oV (xPickF rfl rfl) rfl (oEnd (kSeq (rCondF rfl (rSkip (kSeq (rSeq (rReg (oV (xMove rfl) rfl ?_)))))))))))))))))))))))))))))
 replace hs := hs.f3
 refine oCall call386 rfl rfl (wparse_s hb hok.kind hok.bare (by omega) hs) ?_
 rintro _ w8 ⟨f1, a2, n3, cp4, rfl, hle5, hb6, hs9⟩; clear hs; have hl7 := RB.len hb6
 replace hb := hb.mono hle5
 refine oV (xMove rfl) rfl (oV (xExtract rfl rfl) rfl (oV (xExtract rfl rfl) rfl (oAlloc hs9 zeroValue394 rfl rfl ?_)))
 intro b10 w11 hs12; clear hs9
 refine oStoreG hs12 sizeOf394 rfl rfl rfl rfl (i := 0) rfl rfl ?_
 intro w13 hs14; clear hs12; dsimp only [List.set, putAt] at hs14
 refine oV (xAssign rfl) rfl (oEnd (kSeq (rSeq (rSeq (rReg (oV (xMove rfl) rfl (oV (xCmp (r := false) rfl rfl rNeq) rfl (oEnd (kSeq (rCondF rfl (rSkip (kSeq ?_))))))))))))
 refine rCut' (fun e w => ∃ (ch : Bool), e = [(0, (ptr sv)), (5, (ptr b10)), (7, (.bool ch))] ∧ Sep W0 w (row b10 394 [(.int .u64 (num.toNat : Int)), (I (kd : Int)), (.int .u32 (s.o.toNat : Int)), (.int .u16 (s.st.toNat : Int)), (.int .u16 (s.sl.toNat : Int)), (.int .u32 (s.g.toNat : Int)), (.int .u16 0), (.slice a2 n3 cp4)] :: pool f1 :: row sv 374 [(ptr c), (ptr d), (ptr v), (.slice sa ms.length sc), (.int .u64 (dn.toNat : Int))] :: own 562 2 (.slice sa ms.length sc) ms.length (ms.flatMap memC) :: vltA f v d sz NC vs :: L)) ?_ ?_
 · refine rReg (oV (xFA (j' := 1) underlying394 rfl sizeOf3 rfl rfl) rfl (oV (xLoad hs14 isAgg3 rfl (i := 0) rfl rfl) rfl (oV (xCmp rfl rfl rEql) rfl (oV (xMove rfl) rfl ?_))))
   refine oCase (d := 31) rfl (fun hg15 => ?_) (fun hg15 => ?_)
   · replace hg15 := of_decide_eq_true hg15
     refine oGuardF rfl rfl rfl rfl (oGuardF rfl rfl rfl rfl (oGuardF rfl rfl rfl rfl (oV (xPickT rfl rfl) rfl (oV (xAssign rfl) rfl ?_))))
     exact oEnd (kCut _ ⟨_, rfl, hs14⟩ ⟨rfl, rfl, rfl, trivial⟩)
   · replace hg15 := of_decide_eq_false hg15
     refine oGuardT rfl rfl (oV (xFA (j' := 1) underlying394 rfl sizeOf3 rfl rfl) rfl (oGuardT rfl rfl (oV (xLoad hs14 isAgg3 rfl (i := 0) rfl rfl) rfl (oGuardT rfl rfl (oV (xCmp rfl rfl rEql) rfl (oV (xPickF rfl rfl) rfl (oV (xAssign rfl) rfl ?_)))))))
     exact oEnd (kCut _ ⟨_, rfl, hs14⟩ ⟨rfl, rfl, rfl, trivial⟩)
 clear hs14; rintro e w ⟨ch, rfl, hs⟩
 refine rSeq (rSeq (rReg (oV (xMove rfl) rfl (oV (xFA (j' := 0) underlying394 rfl sizeOf53 rfl rfl) rfl (oV (xLoad hs isAgg53 rfl (i := 0) rfl rfl) rfl ?_)))))
 replace hs := hs.f3
 replace hs := hs.f3
 refine oCall call389 rfl rfl (sremd_s rfl hml hq hnum hs) ?_
 rintro _ w16 ⟨rfl, hs17⟩; clear hs
 refine oV (xMove rfl) rfl (oV (xExtract rfl rfl) rfl (oV (xExtract rfl rfl) rfl (oV (xAssign rfl) rfl (oV (xAssign rfl) rfl (oEnd (kSeq (rSeq (rReg (oV (xMove rfl) rfl (oV (xMove rfl) rfl (oGuardF rfl rfl rfl rfl (oV (xPickF rfl rfl) rfl (oEnd (kSeq (rCondF rfl (rSkip (kSeq (rSeq (rReg (oV (xMove rfl) rfl (oV (xLoadG hs17 isAgg394 sizeOf394 rfl (i := 2) rfl rfl) rfl ?_)))))))))))))))))))))
 replace hs17 := hs17.f4
 replace hs17 := hs17.f1
 replace hs17 := hs17.f4
 have hs18 := Sep.imp (i := 2) (A' := vltA f1 v d sz NC vs) rfl (fun h => vltA_mono hle5 h) hs17; dsimp only [List.set] at hs18; clear hs17
 refine oCall call390 rfl rfl (sdoes_s hb6 hok hNC hsz hs18) ?_
 rintro _ w27 ⟨f19, vs20, a21, n22, cp23, rfl, hle24, hb25, hvs26, hs28⟩; clear hs18; have hl29 := RB.len hb25
 replace hb := hb.mono hle24
 replace hb6 := hb6.mono hle24
 refine oV (xMove rfl) rfl (oV (xExtract rfl rfl) rfl (oV (xExtract rfl rfl) rfl (oV (xAssign rfl) rfl (oV (xAssign rfl) rfl (oEnd (kSeq (rSeq (rReg (oV (xFA (j' := 0) underlying394 rfl sizeOf53 rfl rfl) rfl (oV (xLoad hs28 isAgg53 rfl (i := 4) rfl rfl) rfl (oV (xMove rfl) rfl (oV (xMove rfl) rfl (oV (xBuild (v := (.agg #[(.int .u64 (num.toNat : Int)), (I 0), (.slice a21 n22 cp23)])) rfl (fun w => by kernel_rfl)) rfl (oCall call391 rfl rfl (wreply_s (q := num) hb25 (by omega) hs28) ?_))))))))))))))
 rintro _ w37 ⟨f30, a31, k32, cp33, rfl, hle34, hb35, hs38⟩; clear hs28; have hl36 := RB.len hb35
 replace hb := hb.mono hle34
 replace hb6 := hb6.mono hle34
 replace hb25 := hb25.mono hle34
 refine oV (xAssign rfl) rfl (oEnd (kSeq (rSeq (rSeq (rReg (oV (xMove rfl) rfl (oEnd (kSeq ?_))))))))
 refine rCond rfl (fun hc39 => ?_) (fun hc39 => ?_)
 · refine rReg (oV (xMove rfl) rfl (oV (xFA (j' := 0) underlying394 rfl sizeOf53 rfl rfl) rfl (oV (xLoad hs38 isAgg53 rfl (i := 4) rfl rfl) rfl (oV (xMove rfl) rfl ?_))))
   replace hs38 := hs38.f3
   replace hs38 := hs38.f2
   refine oCall call392 rfl rfl (srem_s rfl hml hq hnum hs38) ?_
   rintro _ w47 ⟨sa40, sn41, sc42, ms43, hm44, hn45, hq46, hs48⟩; clear hs38
   refine oEnd (kSeq (rSeq (rReg (oV (xMove rfl) rfl (oV (xNil rfl) rfl (oV (xFA (j' := 4) underlying374 rfl sizeOf53 rfl rfl) rfl (oV (xLoad hs48 isAgg53 rfl (i := 0) rfl rfl) rfl (oV (xAr rfl rfl (uAdd64 dn (1 : UInt64))) rfl (oV (xNil rfl) rfl (oV (xFA (j' := 4) underlying374 rfl sizeOf53 rfl rfl) rfl (oStore hs48 sizeOf53 rfl rfl rfl (i := 0) rfl rfl ?_)))))))))))
   intro w49 hs50; clear hs48; dsimp only [List.set] at hs50
   refine oEnd (kSeq (rSeq (Run.sub (e' := [(11, (.slice a31 k32 cp33))]) ⟨rfl, trivial⟩ ?_)))
   refine rReg (oV (xMove rfl) rfl (oV (xAssign rfl) rfl (oEnd (kSeq (rRet (kFin (.tmp rfl (.nil)) ?_))))))
   have hs51 := Sep.imp (i := 3) (A' := vltA f30 v d sz NC vs20) rfl (fun h => vltA_mono hle34 h) hs50; dsimp only [List.set] at hs51; clear hs50
   replace hs51 := hs51.d4
   replace hs51 := hs51.f2
   replace hs51 := hs51.f3
   replace hs51 := hs51.f3
   replace hs51 := hs51.f3
   have hs52 := srvA_shut hm44 hn45 hq46 hs51; rw [hvs26] at hs52
   exact ⟨_, _, _, _, rfl, (FLe.trans hle5 (FLe.trans hle24 hle34)), hb35, Sep.front (i := 1) rfl hs52⟩
 · refine rSkip (kSeq (rSeq (rReg (oV (xMove rfl) rfl (oV (xNil rfl) rfl (oV (xFA (j' := 4) underlying374 rfl sizeOf53 rfl rfl) rfl (oV (xLoad hs38 isAgg53 rfl (i := 1) rfl rfl) rfl (oV (xAr rfl rfl (uAdd64 dn (1 : UInt64))) rfl (oV (xNil rfl) rfl (oV (xFA (j' := 4) underlying374 rfl sizeOf53 rfl rfl) rfl (oStore hs38 sizeOf53 rfl rfl rfl (i := 1) rfl rfl ?_)))))))))))
   intro w53 hs54; clear hs38; dsimp only [List.set] at hs54
   refine oEnd (kSeq (rSeq (rReg (oV (xMove rfl) rfl (oV (xAssign rfl) rfl (oEnd (kSeq (rRet (kFin (.tmp rfl (.nil)) ?_)))))))))
   have hs55 := Sep.imp (i := 2) (A' := vltA f30 v d sz NC vs20) rfl (fun h => vltA_mono hle34 h) hs54; dsimp only [List.set] at hs55; clear hs54
   replace hs55 := hs55.d4
   replace hs55 := hs55.f2
   replace hs55 := hs55.f3
   replace hs55 := hs55.f3
   have hs56 := srvA_shut rfl hml (fun m hm => Nat.le_trans (hq m hm) (Nat.le_of_lt hnum)) hs55; rw [hvs26] at hs56
   exact ⟨_, _, _, _, rfl, (FLe.trans hle5 (FLe.trans hle24 hle34)), hb35, Sep.front (i := 1) rfl hs56⟩
end Go.Sl
namespace Go.Sl
open Go.Proofs
structure Nd where
  sv : Nat
  ax : Nat
  ay : Nat
  up : Bool
  ks : KS
def ndC (nd : Nd) : List Value := [ptr nd.sv, .complex .f64 nd.ax nd.ay, .bool nd.up, .bool (!nd.up), I 0, I 0, .bool false, I 0, I 0]
theorem nd_cell : ∀ {nds : List Nd} {i j : Nat} {nd : Nd} {v : Value}, nds[i]? = some nd → (ndC nd)[j]? = some v → (nds.flatMap ndC)[i * 9 + j]? = some v
  | [], i, j, nd, v, h, _ => by simp at h
  | x :: nds, 0, j, nd, v, h, hv => by
    simp at h; subst h
    rw [List.flatMap_cons, List.getElem?_append_left (by simpa using (List.getElem?_eq_some_iff.1 hv).1)]
    simpa using hv
  | x :: nds, i + 1, j, nd, v, h, hv => by
    have ih := nd_cell (nds := nds) (i := i) (by simpa using h) hv
    rw [List.flatMap_cons, List.getElem?_append_right (by simp [ndC]; omega)]
    rw [show (i + 1) * 9 + j - (ndC x).length = i * 9 + j by simp [ndC]; omega]
    exact ih
theorem nd_set : ∀ {nds : List Nd} {i : Nat} {nd nd' : Nd}, nds[i]? = some nd → ndC nd' = ndC nd → (nds.set i nd').flatMap ndC = nds.flatMap ndC
  | [], i, nd, nd', h, _ => by simp at h
  | x :: nds, 0, nd, nd', h, he => by simp at h; subst h; simp [List.flatMap_cons, he]
  | x :: nds, i + 1, nd, nd', h, he => by
    have ih := nd_set (nds := nds) (i := i) (by simpa using h) he
    simp only [List.set_cons_succ, List.flatMap_cons, ih]
theorem sepL_all : ∀ {M M' : List Asn}, M.length = M'.length → (∀ (i : Nat) A A', M[i]? = some A → M'[i]? = some A' → ∀ h, A h → A' h) → ∀ {h : HF}, sepL M h → sepL M' h
  | [], [], _, _, _, _ => trivial
  | A :: M, A' :: M', hl, hi, h, ⟨S, h1, h2⟩ => ⟨S, hi 0 A A' rfl rfl _ h1, sepL_all (by simpa using hl) (fun i B B' h1 h2 => hi (i + 1) B B' (by simpa using h1) (by simpa using h2)) h2⟩
  | [], _ :: _, hl, _, _, _ => by simp at hl
  | _ :: _, [], hl, _, _, _ => by simp at hl
section
variable {W0 w w' : World} {L : List Asn} {f f' : HF} {c x sz NC q q' n : Nat} {nds : List Nd}
def srvs (f : HF) (c sz NC q : Nat) (nds : List Nd) : List Asn := nds.map (fun nd => srvA f c nd.sv sz NC q nd.ks)
def srvL (f : HF) (c sz NC q : Nat) (nds : List Nd) : Asn := sepL (srvs f c sz NC q nds)
theorem srvL_mono (hf : FLe f f') (hq : q ≤ q') (h : HF) (hr : srvL f c sz NC q nds h) : srvL f' c sz NC q' nds h := by
  refine sepL_all (by simp [srvs]) (fun i A A' h1 h2 h hA => ?_) hr
  simp only [srvs, List.getElem?_map] at h1 h2
  cases hn : nds[i]? with
  | none => rw [hn] at h1; cases h1
  | some nd =>
    rw [hn] at h1 h2
    simp at h1 h2
    subst h1 h2
    exact srvA_mono hf hq h hA
theorem srvL_take {i : Nat} {nd : Nd} (hnd : nds[i]? = some nd) (hs : Sep W0 w (srvL f c sz NC q nds :: L)) :
    ∃ N : Asn, Sep W0 w (srvA f c nd.sv sz NC q nd.ks :: N :: L) ∧ ∀ (w' : World) (f' : HF) (q' : Nat) (nd' : Nd) (L' : List Asn), FLe f f' → q ≤ q' → nd'.sv = nd.sv → Sep W0 w' (srvA f' c nd.sv sz NC q' nd'.ks :: N :: L') → Sep W0 w' (srvL f' c sz NC q' (nds.set i nd') :: L') := by
  have hlt : i < nds.length := (List.getElem?_eq_some_iff.1 hnd).1
  have hi : (srvs f c sz NC q nds)[i]? = some (srvA f c nd.sv sz NC q nd.ks) := by simp [srvs, hnd]
  refine ⟨_, sep_hole hi hs, fun w' f' q' nd' L' hf hq hsv h => ?_⟩
  have h1 : Sep W0 w' (srvA f' c nd.sv sz NC q' nd'.ks :: sepL ((srvs f' c sz NC q' nds).set i emp) :: L') := by
    refine Sep.imp (i := 1) rfl (fun h hA => ?_) h
    refine sepL_all (by simp [srvs]) (fun j A A' h1 h2 h hA => ?_) hA
    simp only [srvs, List.getElem?_set, List.getElem?_map, List.length_map] at h1 h2
    by_cases hij : i = j
    · subst hij
      simp only [if_true, hlt] at h1 h2
      cases h1; cases h2; trivial
    · simp only [hij, if_false] at h1 h2
      cases hn : nds[j]? with
      | none => rw [hn] at h1; cases h1
      | some md =>
        rw [hn] at h1 h2
        simp at h1 h2
        subst h1 h2
        exact srvA_mono hf hq h hA
  have h2 := sep_fill (M := srvs f' c sz NC q' nds) (i := i) (by simpa [srvs] using hlt) h1
  have h3 : (srvs f' c sz NC q' nds).set i (srvA f' c nd.sv sz NC q' nd'.ks) = srvs f' c sz NC q' (nds.set i nd') := by
    simp only [srvs, List.map_set, hsv]
  rw [h3] at h2
  exact h2
def rackA (f : HF) (x c sz NC q n : Nat) (nds : List Nd) : Asn := fun h => ∃ y : (Option Addr × Nat) × UInt64 × UInt64, (y.2.1.toNat ≤ q ∧ nds.length = n) ∧
  sepL [row x 370 [ptr c, .slice y.1.1 n y.1.2, Q y.2.1, Q y.2.2], own 367 9 (.slice y.1.1 n y.1.2) n (nds.flatMap ndC), srvL f c sz NC y.2.1.toNat nds] h
theorem rackA_open (hs : Sep W0 w (rackA f x c sz NC q n nds :: L)) : ∃ (la : Option Addr) (cp : Nat) (nm cl : UInt64), nm.toNat ≤ q ∧ nds.length = n ∧
    Sep W0 w (row x 370 [ptr c, .slice la n cp, Q nm, Q cl] :: own 367 9 (.slice la n cp) n (nds.flatMap ndC) :: srvL f c sz NC nm.toNat nds :: L) := by
  obtain ⟨⟨⟨la, cp⟩, nm, cl⟩, h⟩ := Sep.ex hs
  obtain ⟨⟨h1, h2⟩, h3⟩ := Sep.pure h
  exact ⟨la, cp, nm, cl, h1, h2, Sep.open (M := [_, _, _]) h3⟩
theorem rackA_shut {la : Option Addr} {cp : Nat} {nm cl : UInt64} (h1 : nm.toNat ≤ q) (h2 : nds.length = n) (hs : Sep W0 w (row x 370 [ptr c, .slice la n cp, Q nm, Q cl] :: own 367 9 (.slice la n cp) n (nds.flatMap ndC) :: srvL f c sz NC nm.toNat nds :: L)) : Sep W0 w (rackA f x c sz NC q n nds :: L) :=
  Sep.intro (A := fun y : (Option Addr × Nat) × UInt64 × UInt64 => fun h => (y.2.1.toNat ≤ q ∧ nds.length = n) ∧
    sepL [row x 370 [ptr c, .slice y.1.1 n y.1.2, Q y.2.1, Q y.2.2], own 367 9 (.slice y.1.1 n y.1.2) n (nds.flatMap ndC), srvL f c sz NC y.2.1.toNat nds] h) ((la, cp), nm, cl) (Sep.mkPure ⟨h1, h2⟩ (Sep.shut [_, _, _] hs))
theorem rackA_mono (hf : FLe f f') (hq : q ≤ q') (h : HF) (hr : rackA f x c sz NC q n nds h) : rackA f' x c sz NC q' n nds h := by
  obtain ⟨y, ⟨h1, h2⟩, h3⟩ := hr
  exact ⟨y, ⟨Nat.le_trans h1 hq, h2⟩, sepL_three (fun h => srvL_mono hf (Nat.le_refl _) h) h3⟩
end
end Go.Sl
namespace Go.Sl
open Go.Proofs Go.Proofs.Tryz
theorem rlen_s {W0 w : World} {L : List Asn} {x c n cp : Nat} {la : Option Addr} {nm cl : UInt64} (hs : Sep W0 w (row x 370 [ptr c, .slice la n cp, Q nm, Q cl] :: L)) : Calls Tryz.prog 218 [ptr x].toArray w (Ret fun r w' => r = I (n : Int) ∧ Sep W0 w' (row x 370 [ptr c, .slice la n cp, Q nm, Q cl] :: L)) := by
 refine enter (args := [(ptr x)]) (n := 10) (rs := [.tmp 2]) func218 rfl rfl rfl rfl ?_
 refine rSeq (rReg (oV (xAssign rfl) rfl (oEnd (kSeq (rSeq (rSeq (rReg (oV (xMove rfl) rfl (oV (xBin (r := .bool false) rfl rfl (fun _ => rfl) (fun w => by kernel_rfl)) rfl (oEnd (kSeq (rCondF rfl (rSkip (kSeq (rSeq (rReg (oV (xMove rfl) rfl (oV (xNil rfl) rfl (oV (xFA (j' := 1) underlying370 rfl sizeOf368 rfl rfl) rfl (oV (xLoad hs isAgg368 rfl (i := 0) rfl rfl) rfl (oV (xB1 rfl (rLenS underlying368)) rfl (oV (xAssign rfl) rfl (oEnd (kSeq (rRet (kFin (.tmp rfl (.nil)) ?_))))))))))))))))))))))))))
 exact ⟨rfl, hs⟩
theorem rhas_s {W0 w : World} {L : List Asn} {x c n cp : Nat} {la : Option Addr} {nm cl : UInt64} {i : Nat} (hi : i < n) (hs : Sep W0 w (row x 370 [ptr c, .slice la n cp, Q nm, Q cl] :: L)) : Calls Tryz.prog 208 [ptr x, .int .i64 i].toArray w (Ret fun r w' => r = .bool true ∧ Sep W0 w' (row x 370 [ptr c, .slice la n cp, Q nm, Q cl] :: L)) := by
 refine enter (args := [(ptr x), (I (i : Int))]) (n := 13) (rs := [.tmp 4]) func208 rfl rfl rfl rfl ?_
 refine rSeq (rReg (oV (xAssign rfl) rfl (oEnd (kSeq (rSeq (rReg (oV (xMove rfl) rfl (oV (xCmp (r := true) rfl rfl (bT (by omega) rGeq)) rfl (oV (xMove rfl) rfl (oGuardT rfl rfl (oV (xMove rfl) rfl (oGuardT rfl rfl (oV (xMove rfl) rfl (oGuardT rfl rfl (oCall call218 rfl rfl (rlen_s hs) ?_)))))))))))))))
 rintro _ w1 ⟨rfl, hs2⟩; clear hs
 refine oGuardT rfl rfl (oV (xCmp (r := true) rfl rfl (bT (by omega) rLss)) rfl (oV (xPickT rfl rfl) rfl (oV (xAssign rfl) rfl (oEnd (kSeq (rRet (kFin (.tmp rfl (.nil)) ?_)))))))
 exact ⟨rfl, hs2⟩
theorem rnode_s {W0 w : World} {L : List Asn} {x c n cp : Nat} {la : Option Addr} {nm cl : UInt64} {i : Nat} {nds : List Nd} {nd : Nd} (hnd : nds[i]? = some nd) (hln : nds.length = n) (hs : Sep W0 w (row x 370 [ptr c, .slice la n cp, Q nm, Q cl] :: own 367 9 (.slice la n cp) n (nds.flatMap ndC) :: L)) : Calls Tryz.prog 147 [ptr x, .int .i64 i].toArray w (Ret fun r w' => r = ptr nd.sv ∧ Sep W0 w' (row x 370 [ptr c, .slice la n cp, Q nm, Q cl] :: own 367 9 (.slice la n cp) n (nds.flatMap ndC) :: L)) := by
 have hin : i < n := by rw [← hln]; exact (List.getElem?_eq_some_iff.1 hnd).1
 refine enter (args := [(ptr x), (I (i : Int))]) (n := 17) (rs := [.tmp 4]) func147 rfl rfl rfl rfl ?_
 refine rSeq (rReg (oV (xAssign rfl) rfl (oEnd (kSeq (rSeq (rSeq (rReg (oV (xMove rfl) rfl (oV (xMove rfl) rfl (oCall call208 rfl rfl (rhas_s (i := i) (by omega) hs) ?_))))))))))
 rintro _ w1 ⟨rfl, hs2⟩; clear hs
 refine oV (xNot rfl) rfl (oEnd (kSeq (rCondF rfl (rSkip (kSeq (rSeq (rReg (oV (xMove rfl) rfl (oV (xNil rfl) rfl (oV (xFA (j' := 1) underlying370 rfl sizeOf368 rfl rfl) rfl (oV (xLoad hs2 isAgg368 rfl (i := 0) rfl rfl) rfl (oV (xMove rfl) rfl ?_))))))))))))
 obtain ⟨b3, rfl⟩ := Sep.ownAddr (i := 1) hs2 rfl (by omega)
 refine oV (xIA (o' := (i * 9)) underlying368 sizeOf367 rfl rfl (by omega) (by omega) (by omega)) rfl (oV (xFA (j' := (i * 9)) underlying367 rfl sizeOf286 rfl rfl) rfl (oV (xLoadC isAgg286 rfl (Sep.ownCell hs2 (i := 1) rfl (nd_cell hnd (j := 0) rfl))) rfl (oV (xAssign rfl) rfl (oEnd (kSeq (rRet (kFin (.tmp rfl (.nil)) ?_)))))))
 exact ⟨rfl, hs2⟩
theorem rup_s {W0 w : World} {L : List Asn} {x c n cp : Nat} {la : Option Addr} {nm cl : UInt64} {i : Nat} {nds : List Nd} {nd : Nd} (hnd : nds[i]? = some nd) (hln : nds.length = n) (hs : Sep W0 w (row x 370 [ptr c, .slice la n cp, Q nm, Q cl] :: own 367 9 (.slice la n cp) n (nds.flatMap ndC) :: L)) : Calls Tryz.prog 146 [ptr x, .int .i64 i].toArray w (Ret fun r w' => r = .tuple #[.bool nd.up, .bool (!nd.up)] ∧ Sep W0 w' (row x 370 [ptr c, .slice la n cp, Q nm, Q cl] :: own 367 9 (.slice la n cp) n (nds.flatMap ndC) :: L)) := by
 have hin : i < n := by rw [← hln]; exact (List.getElem?_eq_some_iff.1 hnd).1
 refine enter (args := [(ptr x), (I (i : Int))]) (n := 26) (rs := [.tmp 4, .tmp 5]) func146 rfl rfl rfl rfl ?_
 refine rSeq (rReg (oV (xAssign rfl) rfl (oV (xAssign rfl) rfl (oEnd (kSeq (rSeq (rSeq (rReg (oV (xMove rfl) rfl (oV (xMove rfl) rfl (oCall call208 rfl rfl (rhas_s (i := i) (by omega) hs) ?_)))))))))))
 rintro _ w1 ⟨rfl, hs2⟩; clear hs
 refine oV (xNot rfl) rfl (oEnd (kSeq (rCondF rfl (rSkip (kSeq (rSeq (rRegQ (by kernel_rfl) (by kernel_rfl) hs2 ?_)))))))
 refine qV (fun w hq => xMove rfl) rfl ?_
 refine qV (fun w hq => xNil rfl) rfl ?_
 refine qV (fun w hq => xFA (j' := 1) underlying370 rfl sizeOf368 rfl rfl) rfl ?_
 refine qV (fun w hq => xLoad hq isAgg368 rfl (i := 0) rfl rfl) rfl ?_
 refine qV (fun w hq => xMove rfl) rfl ?_
 obtain ⟨b3, rfl⟩ := Sep.ownAddr (i := 1) hs2 rfl (by omega)
 refine qV (fun w hq => xIA (o' := (i * 9)) underlying368 sizeOf367 rfl rfl (by omega) (by omega) (by omega)) rfl ?_
 refine qV (fun w hq => xFA (j' := (i * 9 + 2)) underlying367 rfl sizeOf4 rfl rfl) rfl ?_
 refine qV (fun w hq => xLoadC isAgg4 rfl (Sep.ownCell hq (i := 1) rfl (nd_cell hnd (j := 2) rfl))) rfl ?_
 refine qV (fun w hq => xMove rfl) rfl ?_
 refine qV (fun w hq => xNil rfl) rfl ?_
 refine qV (fun w hq => xFA (j' := 1) underlying370 rfl sizeOf368 rfl rfl) rfl ?_
 refine qV (fun w hq => xLoad hq isAgg368 rfl (i := 0) rfl rfl) rfl ?_
 refine qV (fun w hq => xMove rfl) rfl ?_
 refine qV (fun w hq => xIA (o' := (i * 9)) underlying368 sizeOf367 rfl rfl (by omega) (by omega) (by omega)) rfl ?_
 refine qV (fun w hq => xFA (j' := (i * 9 + 3)) underlying367 rfl sizeOf4 rfl rfl) rfl ?_
 refine qV (fun w hq => xLoadC isAgg4 rfl (Sep.ownCell hq (i := 1) rfl (nd_cell hnd (j := 3) rfl))) rfl ?_
 refine qV (fun w hq => xAssign rfl) rfl ?_
 refine qV (fun w hq => xAssign rfl) rfl ?_
 refine qEnd (fun w6 hs5 => ?_); clear hs2
 refine kSeq ?_
 refine rRet (kFin (.tmp rfl (.tmp rfl (.nil))) ?_)
 exact ⟨rfl, hs5⟩
set_option maxHeartbeats 1000000 in
theorem ronce_s {W0 w : World} {L : List Asn} {f : HF} {x c n cp : Nat} {la : Option Addr} {nm cl : UInt64} {i : Nat} {nds : List Nd} {nd : Nd} (hnd : nds[i]? = some nd) (hln : nds.length = n) {sz NC q kd : Nat} {num : UInt64} {s : Sh} {a : Option Addr} {m bc : Nat} {l : LB} (hb : RB f a m bc l) (hNC : NC ≤ 1000000) (hsz : sz ≤ 60000) (hl : l.length ≤ 60000) (hnum : q < num.toNat) (hok : DoOk sz NC kd s l nd.ks) (hdd : (doD kd s nd.ks).length ≤ 60000) (hup : nd.up = true) (hs : Sep W0 w (pool f :: row x 370 [ptr c, .slice la n cp, Q nm, Q cl] :: own 367 9 (.slice la n cp) n (nds.flatMap ndC) :: srvA f c nd.sv sz NC q nd.ks :: L)) : Calls Tryz.prog 347 [ptr x, .int .i64 i, .agg #[Q num, I (kd : Int), U s.o, H s.st, H s.sl, U s.g, .int .u16 0, .slice a m bc]].toArray w
  (Ret fun r w' => ∃ f' a' m' bc', r = .tuple #[.agg #[Q num, I 0, .slice a' m' bc'], .bool true] ∧ FLe f f' ∧ RB f' a' m' bc' (doD kd s nd.ks) ∧ Sep W0 w' (pool f' :: row x 370 [ptr c, .slice la n cp, Q nm, Q (cl + 1)] :: own 367 9 (.slice la n cp) n (nds.flatMap ndC) :: srvA f' c nd.sv sz NC num.toNat (doKs kd s l nd.ks) :: L)) := by
 have hin : i < n := by rw [← hln]; exact (List.getElem?_eq_some_iff.1 hnd).1
 have hbl := RB.len hb
 refine enter (args := [(ptr x), (I (i : Int)), (.agg #[(.int .u64 (num.toNat : Int)), (I (kd : Int)), (.int .u32 (s.o.toNat : Int)), (.int .u16 (s.st.toNat : Int)), (.int .u16 (s.sl.toNat : Int)), (.int .u32 (s.g.toNat : Int)), (.int .u16 0), (.slice a m bc)])]) (n := 110) (rs := [.cell 6 512, .tmp 7]) func347 rfl rfl rfl rfl ?_
 refine rSeq (rReg (oBox hs rfl rfl rfl ?_))
 intro b1 w2 hs3; clear hs
 refine oAlloc hs3 zeroValue512 rfl rfl ?_
 intro b4 w5 hs6; clear hs3
 refine oV (xAssign rfl) rfl (oEnd (kSeq (rSeq (rReg (oV (xMove rfl) rfl (oV (xNil rfl) rfl (oV (xFA (j' := 1) underlying370 rfl sizeOf368 rfl rfl) rfl (oV (xLoad hs6 isAgg368 rfl (i := 3) rfl rfl) rfl (oV (xMove rfl) rfl ?_)))))))))
 obtain ⟨b7, rfl⟩ := Sep.ownAddr (i := 4) hs6 rfl (by omega)
 refine oV (xIA (o' := (i * 9)) underlying368 sizeOf367 rfl rfl (by omega) (by omega) (by omega)) rfl (oV (xAssign rfl) rfl (oEnd (kSeq (rSeq (rReg (oV (xMove rfl) rfl (oV (xNil rfl) rfl (oV (xFA (j' := 3) underlying370 rfl sizeOf53 rfl rfl) rfl (oV (xLoad hs6 isAgg53 rfl (i := 3) rfl rfl) rfl (oV (xAr rfl rfl (uAdd64 cl (1 : UInt64))) rfl (oV (xNil rfl) rfl (oV (xFA (j' := 3) underlying370 rfl sizeOf53 rfl rfl) rfl (oStore hs6 sizeOf53 rfl rfl rfl (i := 3) rfl rfl ?_)))))))))))))
 intro w9 hs10; clear hs6; dsimp only [List.set] at hs10
 refine oEnd (kSeq (rSeq (rSeq (rReg (oV (xMove rfl) rfl (oV (xNil rfl) rfl (oV (xFA (j' := (i * 9 + 2)) underlying367 rfl sizeOf4 rfl rfl) rfl (oV (xLoadC isAgg4 rfl (Sep.ownCell hs10 (i := 4) rfl (nd_cell hnd (j := 2) rfl))) rfl (oV (xNot rfl) rfl (oEnd (kSeq (rCond rfl (fun hc11 => absurd hc11 (by rw [hup]; simp)) (fun hc11 => ?_)))))))))))))
 refine rSkip (kSeq (rSeq (rSeq (rReg (oV (xMove rfl) rfl (oV (xNil rfl) rfl (oV (xFA (j' := (i * 9 + 4)) underlying367 rfl sizeOf3 rfl rfl) rfl (oV (xLoadC isAgg3 rfl (Sep.ownCell hs10 (i := 4) rfl (nd_cell hnd (j := 4) rfl))) rfl (oV (xCmp (r := false) rfl rfl rGtr) rfl (oEnd (kSeq (rCondF rfl (rSkip (kSeq (rSeq (rSeq (rReg (oV (xMove rfl) rfl (oV (xNil rfl) rfl (oV (xFA (j' := (i * 9 + 6)) underlying367 rfl sizeOf4 rfl rfl) rfl (oV (xLoadC isAgg4 rfl (Sep.ownCell hs10 (i := 4) rfl (nd_cell hnd (j := 6) rfl))) rfl (oV (xMove rfl) rfl (oGuardF rfl rfl rfl rfl (oGuardF rfl rfl rfl rfl (oGuardF rfl rfl rfl rfl (oV (xPickF rfl rfl) rfl (oEnd (kSeq (rCondF rfl (rSkip (kSeq (rSeq ?_))))))))))))))))))))))))))))))))
 refine rRegG [(none, fun w => ∃ M, Sep W0 w (own 367 9 (.slice (some ⟨b7, 0, none⟩) n cp) n (nds.flatMap ndC) :: M)), (none, fun w => ∃ M, Sep W0 w (row b1 394 [(.int .u64 (num.toNat : Int)), (I (kd : Int)), (.int .u32 (s.o.toNat : Int)), (.int .u16 (s.st.toNat : Int)), (.int .u16 (s.sl.toNat : Int)), (.int .u32 (s.g.toNat : Int)), (.int .u16 0), (.slice a m bc)] :: M))] (by kernel_rfl) hs10 (fun w12 hs13 => ⟨?_, fun hS => ?_⟩)
 · exact ⟨⟨_, (Sep.front (i := 4) rfl hs13)⟩, ⟨_, (Sep.front (i := 1) rfl hs13)⟩, trivial⟩
 clear hs10
 refine gTake0 0 rfl (by kernel_rfl) hS (fun w => xMove rfl) rfl ?_
 clear hS; intro hS
 refine gTake0 1 rfl (by kernel_rfl) hS (fun w => xNil rfl) rfl ?_
 clear hS; intro hS
 refine gTake0 2 rfl (by kernel_rfl) hS (fun w => xFA (j' := (i * 9)) underlying367 rfl sizeOf286 rfl rfl) rfl ?_
 clear hS; intro hS
 refine gTake 3 0 rfl (by kernel_rfl) rfl (by kernel_rfl) hS (fun w hq0 => by obtain ⟨M, hq⟩ := hq0; exact xLoadC isAgg286 rfl (Sep.ownCell hq (i := 0) rfl (nd_cell hnd (j := 0) rfl))) rfl ?_
 clear hS; intro hS
 refine gTake 4 1 rfl (by kernel_rfl) rfl (by kernel_rfl) hS (fun w hq0 => by obtain ⟨M, hq⟩ := hq0; exact xLoadG hq isAgg394 sizeOf394 rfl (i := 0) rfl rfl) rfl ?_
 clear hS; intro hS
 refine gEff 5 (by kernel_rfl) rfl ?_
 replace hs13 := hs13.f2
 refine oCall call373 rfl rfl (wbytes_s (q := num) (s := s) (kd := kd) hb hok.kind (by rcases hok.bare with h | h; exact .inl h; right; rw [← hbl, h]; rfl) (by omega) hs13) ?_
 rintro _ w21 ⟨f14, a15, k16, cp17, rfl, hle18, hb19, hs22⟩; clear hs13; have hl20 := RB.len hb19
 have hrl23 := reqB_length kd num s l
 refine oEnd (kG ⟨⟨_, (Sep.front (i := 4) rfl hs22)⟩, ⟨_, (Sep.front (i := 2) rfl hs22)⟩, trivial⟩ ?_)
 clear hS; intro hS
 refine gEff 6 (by kernel_rfl) rfl ?_
 replace hs22 := hs22.f5
 replace hs22 := hs22.f1
 have hs24 := Sep.imp (i := 1) (A' := srvA f14 c nd.sv sz NC q nd.ks) rfl (fun h => srvA_mono hle18 (Nat.le_refl _) h) hs22; dsimp only [List.set] at hs24; clear hs22
 refine oCall call374 rfl rfl (shandle_s hb19 hNC hsz hl hnum hok hdd hs24) ?_
 rintro _ w32 ⟨f25, a26, k27, cp28, rfl, hle29, hb30, hs33⟩; clear hs24; have hl31 := RB.len hb30
 replace hb19 := hb19.mono hle29
 have hpl34 := repB_length num (doD kd s nd.ks)
 refine oEnd (kG ⟨⟨_, (Sep.front (i := 5) rfl hs33)⟩, ⟨_, (Sep.front (i := 3) rfl hs33)⟩, trivial⟩ ?_)
 clear hS; intro hS
 refine gTake0 7 rfl (by kernel_rfl) hS (fun w => xAssign rfl) rfl ?_
 clear hS; intro hS
 refine gEnd (by kernel_rfl) ?_
 clear hS
 refine kSeq ?_
 refine rSeq (rSeq (Run.sub (e' := [(5, (ptr b1)), (6, (ptr b4)), (7, (.bool false)), (8, (.pointer (some ⟨b7, i * 9, none⟩))), (9, (.slice a26 k27 cp28))]) ⟨rfl, rfl, rfl, rfl, rfl, trivial⟩ ?_))
 refine rReg (oV (xMove rfl) rfl (oV (xNil rfl) rfl (oV (xFA (j' := (i * 9 + 5)) underlying367 rfl sizeOf3 rfl rfl) rfl (oV (xLoadC isAgg3 rfl (Sep.ownCell hs33 (i := 5) rfl (nd_cell hnd (j := 5) rfl))) rfl (oV (xCmp (r := false) rfl rfl rGtr) rfl (oEnd (kSeq (rCondF rfl (rSkip (kSeq (rSeq (rReg (oV (xMove rfl) rfl (oCall call375 rfl rfl (wprep_s hb30 (Nat.le_trans hdd (by decide)) hs33) ?_))))))))))))))
 rintro _ w42 ⟨f35, a36, n37, cp38, rfl, hle39, hb40, hs43⟩; clear hs33; have hl41 := RB.len hb40
 replace hb19 := hb19.mono hle39
 replace hb30 := hb30.mono hle39
 refine oV (xMove rfl) rfl (oV (xExtract rfl rfl) rfl (oV (xExtract rfl rfl) rfl (oAlloc hs43 zeroValue512 rfl rfl ?_)))
 intro b44 w45 hs46; clear hs43
 refine oStoreG hs46 sizeOf512 rfl rfl rfl rfl (i := 0) rfl rfl ?_
 intro w47 hs48; clear hs46; dsimp only [List.set, putAt] at hs48
 refine oV (xAssign rfl) rfl (oEnd (kSeq (rSeq ?_)))
 refine rRegG [(none, fun w => ∃ M, Sep W0 w (row b44 512 [(.int .u64 (num.toNat : Int)), (I 0), (.slice a36 n37 cp38)] :: M)), (none, fun w => ∃ M, Sep W0 w (row b1 394 [(.int .u64 (num.toNat : Int)), (I (kd : Int)), (.int .u32 (s.o.toNat : Int)), (.int .u16 (s.st.toNat : Int)), (.int .u16 (s.sl.toNat : Int)), (.int .u32 (s.g.toNat : Int)), (.int .u16 0), (.slice a m bc)] :: M))] (by kernel_rfl) hs48 (fun w49 hs50 => ⟨?_, fun hS => ?_⟩)
 · exact ⟨⟨_, (Sep.front (i := 0) rfl hs50)⟩, ⟨_, (Sep.front (i := 4) rfl hs50)⟩, trivial⟩
 clear hs48
 refine gTake 0 0 rfl (by kernel_rfl) rfl (by kernel_rfl) hS (fun w hq0 => by obtain ⟨M, hq⟩ := hq0; exact xLoadG hq isAgg512 sizeOf512 rfl (i := 0) rfl rfl) rfl ?_
 clear hS; intro hS
 refine gTake0 1 rfl (by kernel_rfl) hS (fun w => xMove rfl) rfl ?_
 clear hS; intro hS
 refine gTake0 2 rfl (by kernel_rfl) hS (fun w => xCmp (r := true) rfl rfl rEql) rfl ?_
 clear hS; intro hS
 refine gTake0 3 rfl (by kernel_rfl) hS (fun w => xMove rfl) rfl ?_
 clear hS; intro hS
 refine gTake0G 4 rfl (by kernel_rfl) rfl rfl hS (fun w => xFA (j' := 0) underlying512 rfl sizeOf53 rfl rfl) rfl ?_
 clear hS; intro hS
 refine gTakeG 5 0 rfl (by kernel_rfl) rfl rfl rfl (by kernel_rfl) hS (fun w hq0 => by obtain ⟨M, hq⟩ := hq0; exact xLoad hq isAgg53 rfl (i := 0) rfl rfl) rfl ?_
 clear hS; intro hS
 refine gTake0G 6 rfl (by kernel_rfl) rfl rfl hS (fun w => xFA (j' := 0) underlying394 rfl sizeOf53 rfl rfl) rfl ?_
 clear hS; intro hS
 refine gTakeG 7 1 rfl (by kernel_rfl) rfl rfl rfl (by kernel_rfl) hS (fun w hq0 => by obtain ⟨M, hq⟩ := hq0; exact xLoad hq isAgg53 rfl (i := 0) rfl rfl) rfl ?_
 clear hS; intro hS
 refine gTake0G 8 rfl (by kernel_rfl) rfl rfl hS (fun w => xCmp (r := true) rfl rfl (bT rfl rEql)) rfl ?_
 clear hS; intro hS
 refine gTake0 9 rfl (by kernel_rfl) hS (fun w => xPickT rfl rfl) rfl ?_
 clear hS; intro hS
 refine gEff 10 (by kernel_rfl) rfl ?_
 refine oStoreG hs50 sizeOf512 rfl rfl rfl rfl (i := 3) rfl rfl ?_
 intro w51 hs52; clear hs50; dsimp only [List.set, putAt] at hs52
 refine oEnd (kG ⟨⟨_, (Sep.front (i := 0) rfl hs52)⟩, ⟨_, (Sep.front (i := 4) rfl hs52)⟩, trivial⟩ ?_)
 clear hS; intro hS
 refine gTake0 11 rfl (by kernel_rfl) hS (fun w => xAssign rfl) rfl ?_
 clear hS; intro hS
 refine gEnd (by kernel_rfl) ?_
 clear hS
 refine kSeq ?_
 refine rRet (kFin (.cell rfl (run_varG hs52 isAgg512 sizeOf512 (i := 3) rfl rfl) (.tmp rfl (.nil))) ?_)
 have hs53 := Sep.imp (i := 2) (A' := srvA f35 c nd.sv sz NC num.toNat (doKs kd s l nd.ks)) rfl (fun h => srvA_mono hle39 (Nat.le_refl _) h) hs52; dsimp only [List.set] at hs53; clear hs52
 replace hs53 := hs53.d4
 replace hs53 := hs53.d3
 replace hs53 := hs53.d0
 replace hs53 := hs53.f1
 replace hs53 := hs53.f3
 replace hs53 := hs53.f3
 replace hs53 := hs53.f3
 exact ⟨_, _, _, _, rfl, (FLe.trans hle18 (FLe.trans hle29 hle39)), hb40, hs53⟩
theorem roncedn_s {W0 w : World} {L : List Asn} {x c n cp : Nat} {la : Option Addr} {nm cl : UInt64} {i : Nat} {nds : List Nd} {nd : Nd} (hnd : nds[i]? = some nd) (hln : nds.length = n) {kd : Nat} {nv : Value} {s : Sh} {a : Option Addr} {m bc : Nat} (hup : nd.up = false) (hs : Sep W0 w (row x 370 [ptr c, .slice la n cp, Q nm, Q cl] :: own 367 9 (.slice la n cp) n (nds.flatMap ndC) :: L)) : Calls Tryz.prog 347 [ptr x, .int .i64 i, .agg #[nv, I (kd : Int), U s.o, H s.st, H s.sl, U s.g, .int .u16 0, .slice a m bc]].toArray w
  (Ret fun r w' => r = .tuple #[.agg #[.int .u64 0, I 0, .slice none 0 0], .bool false] ∧ Sep W0 w' (row x 370 [ptr c, .slice la n cp, Q nm, Q (cl + 1)] :: own 367 9 (.slice la n cp) n (nds.flatMap ndC) :: L)) := by
 have hin : i < n := by rw [← hln]; exact (List.getElem?_eq_some_iff.1 hnd).1
 refine enter (args := [(ptr x), (I (i : Int)), (.agg #[nv, (I (kd : Int)), (.int .u32 (s.o.toNat : Int)), (.int .u16 (s.st.toNat : Int)), (.int .u16 (s.sl.toNat : Int)), (.int .u32 (s.g.toNat : Int)), (.int .u16 0), (.slice a m bc)])]) (n := 110) (rs := [.cell 6 512, .tmp 7]) func347 rfl rfl rfl rfl ?_
 refine rSeq (rReg (oBox hs rfl rfl rfl ?_))
 intro b1 w2 hs3; clear hs
 refine oAlloc hs3 zeroValue512 rfl rfl ?_
 intro b4 w5 hs6; clear hs3
 refine oV (xAssign rfl) rfl (oEnd (kSeq (rSeq (rReg (oV (xMove rfl) rfl (oV (xNil rfl) rfl (oV (xFA (j' := 1) underlying370 rfl sizeOf368 rfl rfl) rfl (oV (xLoad hs6 isAgg368 rfl (i := 2) rfl rfl) rfl (oV (xMove rfl) rfl ?_)))))))))
 obtain ⟨b7, rfl⟩ := Sep.ownAddr (i := 3) hs6 rfl (by omega)
 refine oV (xIA (o' := (i * 9)) underlying368 sizeOf367 rfl rfl (by omega) (by omega) (by omega)) rfl (oV (xAssign rfl) rfl (oEnd (kSeq (rSeq (rReg (oV (xMove rfl) rfl (oV (xNil rfl) rfl (oV (xFA (j' := 3) underlying370 rfl sizeOf53 rfl rfl) rfl (oV (xLoad hs6 isAgg53 rfl (i := 2) rfl rfl) rfl (oV (xAr rfl rfl (uAdd64 cl (1 : UInt64))) rfl (oV (xNil rfl) rfl (oV (xFA (j' := 3) underlying370 rfl sizeOf53 rfl rfl) rfl (oStore hs6 sizeOf53 rfl rfl rfl (i := 2) rfl rfl ?_)))))))))))))
 intro w9 hs10; clear hs6; dsimp only [List.set] at hs10
 refine oEnd (kSeq (rSeq (rSeq (rReg (oV (xMove rfl) rfl (oV (xNil rfl) rfl (oV (xFA (j' := (i * 9 + 2)) underlying367 rfl sizeOf4 rfl rfl) rfl (oV (xLoadC isAgg4 rfl (Sep.ownCell hs10 (i := 3) rfl (nd_cell hnd (j := 2) rfl))) rfl (oV (xNot rfl) rfl (oEnd (kSeq (rCond rfl (fun hc11 => ?_) (fun hc11 => absurd hc11 (by simp [hup]))))))))))))))
 refine rSeq (rReg (oV (xBuild (v := (.agg #[(.int .u64 0), (I 0), (.slice none 0 0)])) rfl (fun w => by kernel_rfl)) rfl (oStoreG hs10 sizeOf512 rfl rfl rfl rfl (i := 0) rfl rfl ?_)))
 intro w12 hs13; clear hs10; dsimp only [List.set, putAt] at hs13
 refine oV (xAssign rfl) rfl (oEnd (kSeq (rRet (kSeqR (kFin (.cell rfl (run_varG hs13 isAgg512 sizeOf512 (i := 0) rfl rfl) (.tmp rfl (.nil))) ?_)))))
 replace hs13 := hs13.d1
 replace hs13 := hs13.d0
 exact ⟨rfl, hs13⟩
end Go.Sl
namespace Go.Sl
open Go.Proofs Go.Proofs.Tryz
theorem rcall_s {W0 w : World} {L : List Asn} {f : HF} {x c sz NC q n i kd : Nat} {nds : List Nd} {nd : Nd} {s : Sh} {a : Option Addr} {m bc : Nat} {l : LB} (hb : RB f a m bc l) (hnd : nds[i]? = some nd) (hq : q ≤ 1152921504606846976) (hNC : NC ≤ 1000000) (hsz : sz ≤ 60000) (hl : l.length ≤ 60000) (hok : DoOk sz NC kd s l nd.ks) (hdd : (doD kd s nd.ks).length ≤ 60000) (hup : nd.up = true) (hs : Sep W0 w (pool f :: rackA f x c sz NC q n nds :: L)) : Calls Tryz.prog 287 [ptr x, .int .i64 i, .agg #[.int .u64 0, I (kd : Int), U s.o, H s.st, H s.sl, U s.g, .int .u16 0, .slice a m bc]].toArray w
 (Ret fun r w' => ∃ f' a' m' bc', r = .tuple #[.slice a' m' bc', .int .i64 0] ∧ FLe f f' ∧ RB f' a' m' bc' (doD kd s nd.ks) ∧ Sep W0 w' (pool f' :: rackA f' x c sz NC (q + 1) n (nds.set i { nd with ks := doKs kd s l nd.ks }) :: L)) := by
 have hbl := RB.len hb
 obtain ⟨la, cp, nm, cl, hnm, hln, hs⟩ := rackA_open (Sep.front (i := 1) rfl hs)
 have hin : i < n := by rw [← hln]; exact (List.getElem?_eq_some_iff.1 hnd).1
 have hn1 : (nm + 1).toNat = nm.toNat + 1 := by rw [UInt64.toNat_add]; simp; omega
 have hnum : nm.toNat < (nm + 1).toNat := by omega
 obtain ⟨N, hs, hback⟩ := srvL_take hnd (Sep.front (i := 2) rfl hs); replace hs := Sep.front (i := 4) rfl (Sep.front (i := 3) rfl (Sep.front (i := 3) rfl hs)); dsimp only [List.eraseIdx] at hs
 refine enter (args := [(ptr x), (I (i : Int)), (.agg #[(.int .u64 0), (I (kd : Int)), (.int .u32 (s.o.toNat : Int)), (.int .u16 (s.st.toNat : Int)), (.int .u16 (s.sl.toNat : Int)), (.int .u32 (s.g.toNat : Int)), (.int .u16 0), (.slice a m bc)])]) (n := 53) (rs := [.tmp 6, .tmp 7]) func287 rfl rfl rfl rfl ?_
 refine rSeq (rReg (oBox hs rfl rfl rfl ?_))
 intro b1 w2 hs3; clear hs
 refine oV (xAssign rfl) rfl (oV (xAssign rfl) rfl (oEnd (kSeq (rScope (rSeq (rSeq (rReg (oV (xMove rfl) rfl (oV (xMove rfl) rfl ?_)))))))))
 replace hs3 := hs3.f2
 refine oCall call208 rfl rfl (rhas_s (i := i) (by omega) hs3) ?_
 rintro _ w4 ⟨rfl, hs5⟩; clear hs3
 refine oV (xNot rfl) rfl (oV (xMove rfl) rfl (oGuardT rfl rfl (oV (xLoadG hs5 isAgg394 sizeOf394 rfl (i := 1) rfl rfl) rfl (oGuardT rfl rfl (oCall call346 rfl rfl (wright_s (s := s) (kd := kd) hok.kind (by rcases hok.bare with h | h; exact .inl h; right; rw [← hbl, h]; rfl) hs5) ?_)))))
 rintro _ w6 ⟨rfl, hs7⟩; clear hs5
 refine oGuardT rfl rfl (oV (xNot rfl) rfl (oV (xPickF rfl rfl) rfl (oEnd (kSeq (rCondF rfl (rSkip (kSeq (rSeq (rReg (oV (xMove rfl) rfl (oV (xNil rfl) rfl (oV (xFA (j' := 2) underlying370 rfl sizeOf53 rfl rfl) rfl (oV (xLoad hs7 isAgg53 rfl (i := 0) rfl rfl) rfl (oV (xAr rfl rfl (uAdd64 nm (1 : UInt64))) rfl (oV (xNil rfl) rfl (oV (xFA (j' := 2) underlying370 rfl sizeOf53 rfl rfl) rfl (oStore hs7 sizeOf53 rfl rfl rfl (i := 0) rfl rfl ?_)))))))))))))))))
 intro w8 hs9; clear hs7; dsimp only [List.set] at hs9
 refine oEnd (kSeq (rSeq (rReg (oV (xMove rfl) rfl (oV (xNil rfl) rfl (oV (xFA (j' := 2) underlying370 rfl sizeOf53 rfl rfl) rfl (oV (xLoad hs9 isAgg53 rfl (i := 0) rfl rfl) rfl (oV (xFA (j' := 0) underlying394 rfl sizeOf53 rfl rfl) rfl (oStore hs9 sizeOf53 rfl rfl rfl (i := 1) rfl rfl ?_)))))))))
 intro w10 hs11; clear hs9; dsimp only [List.set] at hs11
 refine oEnd (kSeq (rSeq (rReg (oV (xAssign rfl) rfl (oEnd (kSeq (rSeq (rLabel (kSeq ?_)))))))))
 refine rSeq (rReg (oV (xMove rfl) rfl (oV (xMove rfl) rfl (oV (xLoadG hs11 isAgg394 sizeOf394 rfl (i := 1) rfl rfl) rfl ?_))))
 replace hs11 := hs11.f4
 replace hs11 := hs11.f4
 replace hs11 := hs11.f2
 replace hs11 := hs11.f4
 refine oCall call347 rfl rfl (ronce_s hnd hln hb hNC hsz hl hnum hok hdd hup hs11) ?_
 rintro _ w18 ⟨f12, a13, m14, bc15, rfl, hle16, hb17, hs19⟩; clear hs11
 refine oV (xMove rfl) rfl (oV (xExtract rfl rfl) rfl (oV (xExtract rfl rfl) rfl (oAlloc hs19 zeroValue512 rfl rfl ?_)))
 intro b20 w21 hs22; clear hs19
 refine oStoreG hs22 sizeOf512 rfl rfl rfl rfl (i := 0) rfl rfl ?_
 intro w23 hs24; clear hs22; dsimp only [List.set, putAt] at hs24
 refine oV (xAssign rfl) rfl (oEnd (kSeq (rSeq (rReg (oV (xMove rfl) rfl (oV (xAr (r := 1) rfl rfl (rAdd rfl)) rfl (oV (xAssign rfl) rfl (oEnd (kSeq (rSeq (rSeq (rReg (oV (xMove rfl) rfl (oV (xNot rfl) rfl (oV (xMove rfl) rfl (oGuardF rfl rfl rfl rfl (oGuardF rfl rfl rfl rfl (oV (xPickF rfl rfl) rfl (oEnd (kSeq (rCondF rfl (rSkip (kSeq (rSeq (rSeq (Run.sub (e' := [(6, (.slice none 0 0)), (7, (I 0)), (9, (ptr b20)), (10, (.bool true))]) ⟨rfl, rfl, rfl, rfl, trivial⟩ ?_))))))))))))))))))))))))))
 refine rReg (oV (xMove rfl) rfl (oV (xNot rfl) rfl (oEnd (kSeq (rCondF rfl (rSkip (kSeq (rSeq (rRegQ (by kernel_rfl) (by kernel_rfl) hs24 ?_)))))))))
 refine qV (fun w hq => xFA (j' := 2) underlying512 rfl sizeOf26 rfl rfl) rfl ?_
 refine qV (fun w hq => xLoad hq isAgg26 rfl (i := 0) rfl rfl) rfl ?_
 refine qV (fun w hq => xFA (j' := 1) underlying512 rfl sizeOf29 rfl rfl) rfl ?_
 refine qV (fun w hq => xLoad hq isAgg29 rfl (i := 0) rfl rfl) rfl ?_
 refine qV (fun w hq => xAssign rfl) rfl ?_
 refine qV (fun w hq => xAssign rfl) rfl ?_
 refine qEnd (fun w26 hs25 => ?_); clear hs24
 refine kSeq ?_
 refine rRet (kScopeR (kFin (.tmp rfl (.tmp rfl (.nil))) ?_))
 replace hs25 := hs25.d5
 replace hs25 := hs25.d0
 replace hs25 := hs25.f2
 replace hs25 := hs25.f2
 replace hs25 := hs25.f2
 replace hs25 := hs25.f4
 replace hs25 := hs25.f4
 have hs27 := hback _ f12 (nm + 1).toNat { nd with ks := doKs kd s l nd.ks } _ hle16 (by omega) rfl hs25
 have hset := nd_set (nd' := { nd with ks := doKs kd s l nd.ks }) hnd rfl; rw [← hset] at hs27
 exact ⟨_, _, _, _, rfl, hle16, hb17, Sep.front (i := 1) rfl (rackA_shut (q := q + 1) (nm := nm + 1) (by omega) (by rw [List.length_set]; exact hln) (Sep.front (i := 3) rfl (Sep.front (i := 3) rfl hs27)))⟩
theorem rcalldn_s {W0 w : World} {L : List Asn} {f : HF} {x c sz NC q n i kd : Nat} {nds : List Nd} {nd : Nd} {s : Sh} {a : Option Addr} {m bc : Nat} {l : LB} (hnd : nds[i]? = some nd) (hq : q ≤ 1152921504606846976) (hk : kd = 1 ∨ kd = 2 ∨ kd = 3 ∨ kd = 5 ∨ kd = 6) (hn : kd = 2 ∨ m = 0) (hup : nd.up = false) (hs : Sep W0 w (pool f :: rackA f x c sz NC q n nds :: L)) : Calls Tryz.prog 287 [ptr x, .int .i64 i, .agg #[.int .u64 0, I (kd : Int), U s.o, H s.st, H s.sl, U s.g, .int .u16 0, .slice a m bc]].toArray w
 (Ret fun r w' => r = .tuple #[.slice none 0 0, .int .i64 26] ∧ Sep W0 w' (pool f :: rackA f x c sz NC (q + 1) n nds :: L)) := by
 obtain ⟨la, cp, nm, cl, hnm, hln, hs⟩ := rackA_open (Sep.front (i := 1) rfl hs)
 have hin : i < n := by rw [← hln]; exact (List.getElem?_eq_some_iff.1 hnd).1
 have hn1 : (nm + 1).toNat = nm.toNat + 1 := by rw [UInt64.toNat_add]; simp; omega
 have hnum : nm.toNat < (nm + 1).toNat := by omega
 replace hs := hs.f3
 refine enter (args := [(ptr x), (I (i : Int)), (.agg #[(.int .u64 0), (I (kd : Int)), (.int .u32 (s.o.toNat : Int)), (.int .u16 (s.st.toNat : Int)), (.int .u16 (s.sl.toNat : Int)), (.int .u32 (s.g.toNat : Int)), (.int .u16 0), (.slice a m bc)])]) (n := 53) (rs := [.tmp 6, .tmp 7]) func287 rfl rfl rfl rfl ?_
 refine rSeq (rReg (oBox hs rfl rfl rfl ?_))
 intro b1 w2 hs3; clear hs
 refine oV (xAssign rfl) rfl (oV (xAssign rfl) rfl (oEnd (kSeq ?_)))
 refine rScopeJ 0 (fun mz e w => ∃ (k : Nat) (clx : UInt64), 3 - k = mz ∧ e = [(0, (ptr x)), (1, (I (i : Int))), (5, (ptr b1)), (8, (I (k : Int)))] ∧ (k ≤ 2) ∧ Sep W0 w (pool f :: row x 370 [(ptr c), (.slice la n cp), (.int .u64 ((nm + 1).toNat : Int)), (.int .u64 (clx.toNat : Int))] :: own 367 9 (.slice la n cp) n (nds.flatMap ndC) :: row b1 394 [(.int .u64 ((nm + 1).toNat : Int)), (I (kd : Int)), (.int .u32 (s.o.toNat : Int)), (.int .u16 (s.st.toNat : Int)), (.int .u16 (s.sl.toNat : Int)), (.int .u32 (s.g.toNat : Int)), (.int .u16 0), (.slice a m bc)] :: srvL f c sz NC nm.toNat nds :: L)) rfl (fun hX => ?_) ?_
 · refine rSeq (rSeq (rReg (oV (xMove rfl) rfl (oV (xMove rfl) rfl ?_))))
   replace hs3 := hs3.f2
   refine oCall call208 rfl rfl (rhas_s (i := i) (by omega) hs3) ?_
   rintro _ w4 ⟨rfl, hs5⟩; clear hs3
   refine oV (xNot rfl) rfl (oV (xMove rfl) rfl (oGuardT rfl rfl (oV (xLoadG hs5 isAgg394 sizeOf394 rfl (i := 1) rfl rfl) rfl (oGuardT rfl rfl (oCall call346 rfl rfl (wright_s (s := s) (kd := kd) hk hn hs5) ?_)))))
   rintro _ w6 ⟨rfl, hs7⟩; clear hs5
   refine oGuardT rfl rfl (oV (xNot rfl) rfl (oV (xPickF rfl rfl) rfl (oEnd (kSeq (rCondF rfl (rSkip (kSeq (rSeq (rReg (oV (xMove rfl) rfl (oV (xNil rfl) rfl (oV (xFA (j' := 2) underlying370 rfl sizeOf53 rfl rfl) rfl (oV (xLoad hs7 isAgg53 rfl (i := 0) rfl rfl) rfl (oV (xAr rfl rfl (uAdd64 nm (1 : UInt64))) rfl (oV (xNil rfl) rfl (oV (xFA (j' := 2) underlying370 rfl sizeOf53 rfl rfl) rfl (oStore hs7 sizeOf53 rfl rfl rfl (i := 0) rfl rfl ?_)))))))))))))))))
   intro w8 hs9; clear hs7; dsimp only [List.set] at hs9
   refine oEnd (kSeq (rSeq (rReg (oV (xMove rfl) rfl (oV (xNil rfl) rfl (oV (xFA (j' := 2) underlying370 rfl sizeOf53 rfl rfl) rfl (oV (xLoad hs9 isAgg53 rfl (i := 0) rfl rfl) rfl (oV (xFA (j' := 0) underlying394 rfl sizeOf53 rfl rfl) rfl (oStore hs9 sizeOf53 rfl rfl rfl (i := 1) rfl rfl ?_)))))))))
   intro w10 hs11; clear hs9; dsimp only [List.set] at hs11
   refine oEnd (kSeq (rSeq (rReg (oV (xAssign rfl) rfl (oEnd (kSeq (rSeq ?_)))))))
   replace hs11 := hs11.f4
   replace hs11 := hs11.f2
   replace hs11 := hs11.f4
   replace hs11 := hs11.f3
   replace hs11 := hs11.f4
   exact rLabel (kSeq (Run.sub (e' := [(0, (ptr x)), (1, (I (i : Int))), (5, (ptr b1)), (8, (I 0))]) ⟨rfl, rfl, rfl, rfl, trivial⟩ (hX _ _ _ ⟨0, _, rfl, rfl, (by omega), hs11⟩)))
 clear hs3; rintro mz e w ⟨k, clx, rfl, rfl, hk, hs⟩
 refine rSeq (rReg (oV (xMove rfl) rfl (oV (xMove rfl) rfl (oV (xLoadG hs isAgg394 sizeOf394 rfl (i := 3) rfl rfl) rfl ?_))))
 replace hs := hs.f2
 replace hs := hs.f2
 refine oCall call347 rfl rfl (roncedn_s hnd hln hup hs) ?_
 rintro _ w12 ⟨rfl, hs13⟩; clear hs
 refine oV (xMove rfl) rfl (oV (xExtract rfl rfl) rfl (oV (xExtract rfl rfl) rfl (oAlloc hs13 zeroValue512 rfl rfl ?_)))
 intro b14 w15 hs16; clear hs13
 refine oStoreG hs16 sizeOf512 rfl rfl rfl rfl (i := 0) rfl rfl ?_
 intro w17 hs18; clear hs16; dsimp only [List.set, putAt] at hs18
 refine oV (xAssign rfl) rfl (oEnd (kSeq (rSeq (rReg (oV (xMove rfl) rfl (oV (xAr rfl rfl (rAdd (wI (by omega) (by omega)))) rfl (oV (xAssign rfl) rfl (oEnd (kSeq (rSeq (rSeq (rReg (oV (xMove rfl) rfl (oV (xNot rfl) rfl (oV (xMove rfl) rfl (oGuardT rfl rfl (oV (xMove rfl) rfl (oGuardT rfl rfl (oV (xCmp rfl rfl rLss) rfl (oV (xPickT rfl rfl) rfl (oEnd (kSeq ?_))))))))))))))))))))))
 refine rCondD rfl (fun hc19 => ?_) (fun hc19 => ?_)
 · replace hs18 := hs18.d0
   replace hs18 := hs18.f4
   replace hs18 := hs18.f4
   replace hs18 := hs18.f3
   replace hs18 := hs18.f3
   replace hs18 := hs18.f4
   exact rGoto (kSeqG (kJmpG (⟨_, _, by omega, ⟨k + 1, _, rfl, rfl, (by omega), hs18⟩, ⟨rfl, rfl, rfl, rfl, trivial⟩⟩)))
 · refine rSkip (kSeq (rSeq (rSeq (rReg (oV (xMove rfl) rfl (oV (xNot rfl) rfl (oEnd (kSeq (rCondT rfl (rSeq (rReg (oV (xAssign rfl) rfl (oV (xAssign rfl) rfl (oEnd (kSeq (rRet (kSeqR (kJmpR (kFin (.tmp rfl (.tmp rfl (.nil))) ?_)))))))))))))))))))
   replace hs18 := hs18.d4
   replace hs18 := hs18.d0
   replace hs18 := hs18.f2
   replace hs18 := hs18.f3
   replace hs18 := hs18.f3
   replace hs18 := hs18.f3
   have hs20 := Sep.imp (i := 2) (A' := srvL f c sz NC (nm + 1).toNat nds) rfl (fun h => srvL_mono (FLe.refl f) (by omega) h) hs18; dsimp only [List.set] at hs20
   exact ⟨rfl, Sep.front (i := 1) rfl (rackA_shut (q := q + 1) (nm := nm + 1) (by omega) hln hs20)⟩
end Go.Sl
namespace Go.Sl
open Go.Proofs
structure Ob where
  num : UInt32
  nm : UInt8
  len : Nat
  cnt : Nat
  pc : Nat
  pl : List (List Nat)
  deriving Inhabited
abbrev nmS (c : UInt8) : Value := .string ⟨#[c]⟩
def obC (o : Ob) (v : Value) : List Value := [U o.num, nmS o.nm, I (o.len : Int), I (o.cnt : Int), I (o.pc : Int), v]
def plC (l : List Nat) : List Value := l.flatMap (fun p : Nat => [I (p : Int), .int .u32 0])
theorem takeAt_shift (xs ys : List Value) : ∀ (k j : Nat), takeAt (xs ++ ys) (j + xs.length) k = takeAt ys j k
  | 0, j => rfl
  | k + 1, j => by
    simp only [takeAt]
    rw [List.getElem?_append_right (by omega), show j + xs.length - xs.length = j by omega]
    cases ys[j]? with
    | none => rfl
    | some v => simp only []; rw [show j + xs.length + 1 = j + 1 + xs.length by omega, takeAt_shift xs ys k (j + 1)]
theorem plC_take : ∀ {l : List Nat} {i : Nat}, i < l.length → takeAt (plC l) (i * 2) 2 = some [I (((l.getD i 0 : Nat)) : Int), .int .u32 0]
  | [], i, h => by simp at h
  | p :: l, 0, h => by simp [plC, takeAt]
  | p :: l, i + 1, h => by
    have ih := plC_take (l := l) (i := i) (by simpa using h)
    have h2 := takeAt_shift [I (p : Int), .int .u32 0] (plC l) 2 (i * 2)
    rw [show (i + 1) * 2 = i * 2 + [I (p : Int), Value.int .u32 0].length by simp; omega]
    rw [show plC (p :: l) = [I (p : Int), .int .u32 0] ++ plC l from rfl, h2, ih]
    simp
theorem plC_one (l : List Nat) : ∀ u ∈ plC l, u.oneCell' = true := by
  intro u hu
  obtain ⟨m, _, h⟩ := List.mem_flatMap.1 hu
  simp only [List.mem_cons, List.not_mem_nil, or_false] at h
  rcases h with rfl | rfl <;> rfl
theorem plC_app (l : List Nat) (p : Nat) : plC l ++ [I (p : Int), .int .u32 0] = plC (l ++ [p]) := by simp [plC]
structure PlR (f : HF) (us : List Value) (pl : List (List Nat)) : Prop where
  len : us.length = pl.length
  get : ∀ j, j < pl.length → ∃ a cp, us[j]? = some (.slice a (pl.getD j []).length cp) ∧ Reads f 2 (.slice a (pl.getD j []).length cp) (pl.getD j []).length (plC (pl.getD j []))
theorem PlR.mono {f f' : HF} {us : List Value} {pl : List (List Nat)} (h : PlR f us pl) (hf : FLe f f') : PlR f' us pl :=
  ⟨h.len, fun j hj => let ⟨a, cp, h1, h2⟩ := h.get j hj; ⟨a, cp, h1, h2.mono hf⟩⟩
theorem PlR.nil {f : HF} : PlR f [] [] := ⟨rfl, fun j hj => by simp at hj⟩
theorem PlR.one {f : HF} {us : List Value} {pl : List (List Nat)} (h : PlR f us pl) : ∀ u ∈ us, u.oneCell' = true := by
  intro u hu
  obtain ⟨j, hj, rfl⟩ := List.getElem_of_mem hu
  obtain ⟨a, cp, h1, _⟩ := h.get j (by rw [← h.len]; exact hj)
  simp [hj] at h1
  rw [h1]; rfl
theorem PlR.snoc {f : HF} {us : List Value} {pl : List (List Nat)} {a : Option Addr} {cp : Nat} {l : List Nat} (h : PlR f us pl) (hb : Reads f 2 (.slice a l.length cp) l.length (plC l)) : PlR f (us ++ [.slice a l.length cp]) (pl ++ [l]) := by
  refine ⟨by simp [h.len], fun j hj => ?_⟩
  by_cases hlt : j < pl.length
  · obtain ⟨a', cp', h1, h2⟩ := h.get j hlt
    have : (pl ++ [l]).getD j [] = pl.getD j [] := by simp [List.getD, List.getElem?_append_left hlt]
    rw [this]
    exact ⟨a', cp', by rw [List.getElem?_append_left (by rw [h.len]; exact hlt)]; exact h1, h2⟩
  · have hj' : j = pl.length := by simp at hj; omega
    subst hj'
    have : (pl ++ [l]).getD pl.length [] = l := by simp
    rw [this]
    exact ⟨a, cp, by rw [List.getElem?_append_right (by rw [h.len]; exact Nat.le_refl _)]; simp [h.len], hb⟩
theorem PlR.set {f : HF} {us : List Value} {pl : List (List Nat)} {a : Option Addr} {cp i : Nat} (h : PlR f us pl) (hi : i < pl.length) (hb : Reads f 2 (.slice a (pl.getD i []).length cp) (pl.getD i []).length (plC (pl.getD i []))) : PlR f (us.set i (.slice a (pl.getD i []).length cp)) pl := by
  refine ⟨by rw [List.length_set]; exact h.len, fun j hj => ?_⟩
  by_cases hij : i = j
  · subst hij
    exact ⟨a, cp, by simp [h.len, hi], hb⟩
  · obtain ⟨a', cp', h1, h2⟩ := h.get j hj
    exact ⟨a', cp', by rw [List.getElem?_set_ne hij]; exact h1, h2⟩
structure ObsR (f : HF) (cs : List Value) (obs : List Ob) : Prop where
  len : cs.length = obs.length * 6
  get : ∀ j, j < obs.length → ∃ a cp us, takeAt cs (j * 6) 6 = some (obC (obs.getD j default) (.slice a (obs.getD j default).pl.length cp)) ∧ Reads f 1 (.slice a (obs.getD j default).pl.length cp) (obs.getD j default).pl.length us ∧ PlR f us (obs.getD j default).pl
theorem ObsR.mono {f f' : HF} {cs : List Value} {obs : List Ob} (h : ObsR f cs obs) (hf : FLe f f') : ObsR f' cs obs :=
  ⟨h.len, fun j hj => let ⟨a, cp, us, h1, h2, h3⟩ := h.get j hj; ⟨a, cp, us, h1, h2.mono hf, h3.mono hf⟩⟩
theorem ObsR.nil {f : HF} : ObsR f [] [] := ⟨rfl, fun j hj => by simp at hj⟩
theorem obC_one (o : Ob) (a : Option Addr) (k cp : Nat) : ∀ u ∈ obC o (.slice a k cp), u.oneCell' = true := by
  intro u hu
  simp only [obC, List.mem_cons, List.not_mem_nil, or_false] at hu
  rcases hu with rfl | rfl | rfl | rfl | rfl | rfl <;> rfl
theorem takeAt_mem {xs : List Value} {j k : Nat} {vs : List Value} (h : takeAt xs j k = some vs) {i : Nat} (hi : i < k) : ∃ v ∈ vs, xs[j + i]? = some v := by
  have hl := takeAt_len h
  have hv : vs[i]? = some (vs[i]'(by omega)) := by simp [hl, hi]
  exact ⟨_, List.getElem_mem _, takeAt_get h hv⟩
theorem ObsR.one {f : HF} {cs : List Value} {obs : List Ob} (h : ObsR f cs obs) : ∀ u ∈ cs, u.oneCell' = true := by
  intro u hu
  obtain ⟨i, hi, rfl⟩ := List.getElem_of_mem hu
  have hil : i < obs.length * 6 := by rw [← h.len]; exact hi
  obtain ⟨a, cp, us, h1, _⟩ := h.get (i / 6) (by omega)
  obtain ⟨v, hv, h2⟩ := takeAt_mem h1 (i := i % 6) (by omega)
  rw [show i / 6 * 6 + i % 6 = i by omega, List.getElem?_eq_getElem hi] at h2
  simp at h2; rw [h2]
  exact obC_one _ _ _ _ _ hv
theorem ObsR.snoc {f : HF} {cs us : List Value} {obs : List Ob} {o : Ob} {a : Option Addr} {cp : Nat} (h : ObsR f cs obs) (h1 : Reads f 1 (.slice a o.pl.length cp) o.pl.length us) (h2 : PlR f us o.pl) : ObsR f (cs ++ obC o (.slice a o.pl.length cp)) (obs ++ [o]) := by
  refine ⟨by rw [List.length_append, h.len, List.length_append]; simp [obC]; omega, fun j hj => ?_⟩
  by_cases hlt : j < obs.length
  · obtain ⟨a', cp', us', h3, h4, h5⟩ := h.get j hlt
    have : (obs ++ [o]).getD j default = obs.getD j default := by simp [List.getD, List.getElem?_append_left hlt]
    rw [this]
    refine ⟨a', cp', us', ?_, h4, h5⟩
    have key : ∀ (k j : Nat) (vs : List Value), takeAt cs j k = some vs → takeAt (cs ++ obC o (.slice a o.pl.length cp)) j k = some vs := by
      intro k
      induction k with
      | zero => intro j vs h; exact h
      | succ k ih =>
        intro j vs h
        simp only [takeAt] at h ⊢
        split at h
        · cases h
        · rename_i v hv
          rw [List.getElem?_append_left (List.getElem?_eq_some_iff.1 hv).1, hv]
          split at h
          · cases h
          · rename_i us hus
            rw [ih _ _ hus]; exact h
    exact key _ _ _ h3
  · have hj' : j = obs.length := by simp at hj; omega
    subst hj'
    have : (obs ++ [o]).getD obs.length default = o := by simp
    rw [this]
    refine ⟨a, cp, us, ?_, h1, h2⟩
    have h3 := takeAt_shift cs (obC o (.slice a o.pl.length cp)) 6 0
    rw [Nat.zero_add, h.len] at h3
    rw [h3]; simp [obC, takeAt]
def cmpN (a c : UInt8) : Int := if a < c then -1 else if c < a then 1 else 0
theorem cmpN_lt {a c : UInt8} : cmpN a c < 0 ↔ a < c := by
  unfold cmpN; split
  · simp [*]
  · split <;> simp_all
theorem cmpN_eq {a c : UInt8} : cmpN a c = 0 ↔ a = c := by
  unfold cmpN; split
  · rename_i h; simp; intro he; subst he; exact absurd h (UInt8.lt_irrefl _)
  · split
    · rename_i h1 h2; simp; intro he; subst he; exact absurd h2 (UInt8.lt_irrefl _)
    · rename_i h1 h2; simp; exact UInt8.le_antisymm (UInt8.not_lt.1 h2) (UInt8.not_lt.1 h1)
theorem compare_one (a c : UInt8) : Lib.compareBytes [a] [c] = cmpN a c := by simp [Lib.compareBytes, cmpN]
def posN (c : UInt8) (obs : List Ob) : Nat := (obs.filter (fun o => o.nm < c)).length
def hasN (c : UInt8) (obs : List Ob) : Bool := obs.any (fun o => o.nm == c)
abbrev SortO (obs : List Ob) : Prop := obs.Pairwise (fun a b => a.nm < b.nm)
theorem sort_lt {obs : List Ob} (h : SortO obs) {i j : Nat} (hij : i < j) (hj : j < obs.length) : (obs.getD i default).nm < (obs.getD j default).nm := by
  have := List.pairwise_iff_getElem.1 h i j (by omega) hj hij
  simpa [List.getD_eq_getElem?_getD, List.getElem?_eq_getElem hj, List.getElem?_eq_getElem (show i < obs.length by omega)] using this
theorem posN_eq {c : UInt8} : ∀ {obs : List Ob} {i : Nat}, i ≤ obs.length → (∀ k, k < i → (obs.getD k default).nm < c) → (∀ k, i ≤ k → k < obs.length → ¬ (obs.getD k default).nm < c) → posN c obs = i
  | [], i, hi, _, _ => by simp at hi; subst hi; rfl
  | o :: obs, 0, _, _, h2 => by
    have h3 : ∀ k, 0 ≤ k → k < obs.length → ¬ (obs.getD k default).nm < c := fun k _ hk => by have := h2 (k + 1) (by omega) (by simpa using hk); simpa using this
    have ih := posN_eq (c := c) (obs := obs) (i := 0) (Nat.zero_le _) (fun k hk => by omega) h3
    have h0 := h2 0 (Nat.le_refl _) (by simp)
    simp only [List.getD_cons_zero] at h0
    unfold posN at ih ⊢
    rw [List.filter_cons, if_neg (by simpa using h0)]; exact ih
  | o :: obs, i + 1, hi, h1, h2 => by
    have ih := posN_eq (c := c) (obs := obs) (i := i) (by simpa using hi) (fun k hk => by have := h1 (k + 1) (by omega); simpa using this) (fun k hk hl => by have := h2 (k + 1) (by omega) (by simpa using hl); simpa using this)
    have h0 := h1 0 (by omega)
    simp only [List.getD_cons_zero] at h0
    unfold posN at ih ⊢
    rw [List.filter_cons, if_pos (by simpa using h0), List.length_cons, ih]
theorem hasN_eq {c : UInt8} {obs : List Ob} {i : Nat} (hs : SortO obs) (hi : i ≤ obs.length) (h1 : ∀ k, k < i → (obs.getD k default).nm < c) (h2 : ∀ k, i ≤ k → k < obs.length → ¬ (obs.getD k default).nm < c) :
    hasN c obs = (decide (i < obs.length) && decide ((obs.getD i default).nm = c)) := by
  rw [Bool.eq_iff_iff]
  simp only [hasN, List.any_eq_true, beq_iff_eq, Bool.and_eq_true, decide_eq_true_eq]
  constructor
  · rintro ⟨o, ho, he⟩
    obtain ⟨k, hk, rfl⟩ := List.getElem_of_mem ho
    have hg : (obs.getD k default) = obs[k] := by simp [List.getD_eq_getElem?_getD, hk]
    have hki : i ≤ k := Nat.le_of_not_lt fun hlt => by have := h1 k hlt; rw [hg, he] at this; exact absurd this (UInt8.lt_irrefl _)
    rcases Nat.lt_or_eq_of_le hki with hlt | rfl
    · have h3 := sort_lt hs hlt hk
      rw [hg, he] at h3
      exact absurd h3 (h2 i (Nat.le_refl _) (by omega))
    · exact ⟨hk, by rw [hg]; exact he⟩
  · rintro ⟨hlt, he⟩
    refine ⟨obs[i], List.getElem_mem _, ?_⟩
    have hg : (obs.getD i default) = obs[i] := by simp [List.getD_eq_getElem?_getD, hlt]
    rw [← hg]; exact he
section
variable {P : Program} {n : Nat} {e : Env} {w : World}
theorem oCallE {K : Kont} {ops : Array Oper} {rest : List Oper} {d : Nat} {f : FuncId} {xs : List Operand} {vs : List Value} {v : Value} {tys : Array TypeId} {ty : TypeId} {pos : String} {af : Array Edge}
    (hx : e.evs xs = some vs) (hcf : Sem.run P (callFunc f vs.toArray) w = .ok (.value v) w) (hn : Nat.blt d n = true) (hk : Ops P n ops K rest ((d, v) :: e) w) :
    Ops P n ops K (⟨some d, .call ⟨.value (.func f), xs.toArray, tys⟩, ty, pos, af, none⟩ :: rest) e w :=
  Ops.val (w' := w) rfl rfl hn (fun a ha => by
    have hargs := ha.evs hx
    simp only [execOp, resolve, Act.eval, Deferred.ofValue]
    simp [invoke, hcf, hargs]) hk
theorem xIndexS1 {d : Nat} {x y : Operand} {c : UInt8} {k : IntKind} {i : Int} {t : TypeId} {ty : TypeId} {pos : String} {af : Array Edge} (hu : P.underlying t = some .string) (hx : e.ev x = some (nmS c)) (hy : e.ev y = some (.int k i)) (h0 : i = 0) :
    Xq P n e w d (.index t x y) ty pos af (B c) := fun a ha => by
  subst h0
  simp only [execOp, ha.ev hx, ha.ev hy, Instr.index, asIntOf, Sem.run_bind, Sem.run_pure, Result.andThen_ok, run_underlying hu]
  rfl
end
end Go.Sl
namespace Go.Sl
open Go.Proofs Go.Proofs.Tryz
theorem rname_s {W0 w : World} {L : List Asn} {c : UInt8} (h1 : 32 < c.toNat) (h2 : c.toNat ≤ 126) (hs : Sep W0 w L) : Calls Tryz.prog 212 [nmS c].toArray w (Ret fun r w' => r = .bool true ∧ Sep W0 w' L) := by
 refine enter (args := [(.string ⟨#[c]⟩)]) (n := 28) (rs := [.tmp 2]) func212 rfl rfl rfl rfl ?_
 refine rSeq (rReg (oV (xAssign rfl) rfl (oEnd (kSeq (rSeq (rSeq (rReg (oV (xMove rfl) rfl (oV (xB1 (v := .int .i64 1) rfl (rLenStr underlying9)) rfl (oV (xMove rfl) rfl (oEnd (kSeq (rBlk (rLoop (fun mz e w => ∃ (i : Nat), 1 - i = mz ∧ e = [(0, (.string ⟨#[c]⟩)), (5, (I 1)), (6, (I (i : Int)))] ∧ (i ≤ 1) ∧ Sep W0 w (L)) ⟨_, _, ⟨0, rfl, rfl, (by omega), hs⟩, ⟨rfl, rfl, rfl, trivial⟩⟩ ?_))))))))))))))
 clear hs; rintro mz e w ⟨i, rfl, rfl, hi, hs⟩
 refine rSeq (rReg (oV (xCmp rfl rfl rLss) rfl (oEnd (kSeq (rSeq ?_)))))
 refine rCondD rfl (fun hc1 => ?_) (fun hc1 => ?_)
 · obtain rfl : i = 0 := by omega
   refine rSkip (kSeq (rSeq (rBlk (rSeq (rReg (oV (xMove rfl) rfl (oV (xAssign rfl) rfl (oEnd (kSeq (rSeq (rReg (oV (xMove rfl) rfl (oV (xMove rfl) rfl (oV (xIndexS1 underlying9 rfl rfl (by omega)) rfl ?_))))))))))))))
   refine oV (xCmp (r := false) rfl rfl (bF (by omega) rLeq)) rfl (oV (xMove rfl) rfl (oGuardT rfl rfl (oV (xMove rfl) rfl (oGuardT rfl rfl (oV (xMove rfl) rfl (oGuardT rfl rfl (oV (xIndexS1 underlying9 rfl rfl (by omega)) rfl ?_)))))))
   refine oGuardT rfl rfl (oV (xCmp (r := false) rfl rfl (bF (by omega) rGtr)) rfl (oV (xPickF rfl rfl) rfl (oEnd (kSeq (rCondF rfl (rSkip (kBlk (kSeq (rReg (oV (xAr rfl rfl (rAdd (wI (by omega) (by omega)))) rfl (oV (xMove rfl) rfl ?_)))))))))))
   exact oEnd (kLoop (1 - 1) _ (by omega) ⟨1, rfl, rfl, (by omega), hs⟩ ⟨rfl, rfl, rfl, trivial⟩)
 · refine rExit (kSeqX (kLoopX (kBlkH (kSeq (rSeq (rReg (oV (xMove rfl) rfl (oV (xB1 (v := .int .i64 1) rfl (rLenStr underlying9)) rfl (oV (xCmp (r := true) rfl rfl rGeq) rfl (oV (xMove rfl) rfl (oGuardT rfl rfl (oV (xMove rfl) rfl (oGuardT rfl rfl (oV (xB1 (v := .int .i64 1) rfl (rLenStr underlying9)) rfl (oGuardT rfl rfl (oV (xCmp (r := true) rfl rfl rLeq) rfl (oV (xPickT rfl rfl) rfl (oV (xAssign rfl) rfl (oEnd (kSeq (rRet (kFin (.tmp rfl (.nil)) ?_))))))))))))))))))))))
   exact ⟨rfl, hs⟩
theorem cmpstr_s {W0 w : World} {L : List Asn} {a c : UInt8} (hs : Sep W0 w L) : Calls Tryz.prog 335 [nmS a, nmS c].toArray w (Ret fun r w' => r = .int .i64 (cmpN a c) ∧ Sep W0 w' L) := by
 refine enter (args := [nmS a, nmS c]) (n := 8) (rs := [.tmp 4]) func335 rfl rfl rfl rfl ?_
 refine rSeq (rReg (oV (xAssign rfl) rfl (oEnd (kSeq (rSeq (rReg (oV (xMove rfl) rfl (oV (xMove rfl) rfl ?_))))))))
 refine oCallE (v := .int .i64 (cmpN a c)) (vs := [nmS a, nmS c]) rfl ?_ rfl ?_
 · have h3 := run_callFunc_extern (P := Tryz.prog) (f := 365) func365 (by kernel_rfl) (by kernel_rfl) (by kernel_rfl) (e := Extern.BytealgCompare.compare) (by kernel_rfl) (args := [nmS a, nmS c].toArray) (w := w)
   rw [h3]
   have h4 := Lib.run_compareString (P := Tryz.prog) ⟨#[a]⟩ ⟨#[c]⟩ w
   show Result.andThen (Sem.run Tryz.prog (Extern.BytealgCompare.compare #[nmS a, nmS c]) w) _ = _
   rw [h4, compare_one]; rfl
 refine oV (xAssign rfl) rfl (oEnd (kSeq (rRet (kFin (.tmp rfl (.nil)) ?_))))
 exact ⟨rfl, hs⟩
theorem scmp_s {W0 w : World} {L : List Asn} {a c : UInt8} (hs : Sep W0 w L) : Calls Tryz.prog 273 [nmS a, nmS c].toArray w (Ret fun r w' => r = .int .i64 (cmpN a c) ∧ Sep W0 w' L) := by
 refine enter (args := [(.string ⟨#[a]⟩), (.string ⟨#[c]⟩)]) (n := 8) (rs := [.tmp 4]) func273 rfl rfl rfl rfl ?_
 refine rSeq (rReg (oV (xAssign rfl) rfl (oEnd (kSeq (rSeq (rReg (oV (xMove rfl) rfl (oV (xMove rfl) rfl (oCall call335 rfl rfl (cmpstr_s (a := a) (c := c) hs) ?_)))))))))
 rintro _ w1 ⟨rfl, hs2⟩; clear hs
 refine oV (xAssign rfl) rfl (oEnd (kSeq (rRet (kFin (.tmp rfl (.nil)) ?_))))
 exact ⟨rfl, hs2⟩
theorem tidx1_s {W0 w : World} {L : List Asn} {o : Ob} {a : Option Addr} {k cp : Nat} {c : UInt8} (hs : Sep W0 w L) : Calls Tryz.prog 272 [.agg (obC o (.slice a k cp)).toArray, nmS c].toArray w (Ret fun r w' => r = .int .i64 (cmpN o.nm c) ∧ Sep W0 w' L) := by
 refine enter (args := [(.agg #[(.int .u32 (o.num.toNat : Int)), (.string ⟨#[o.nm]⟩), (I (o.len : Int)), (I (o.cnt : Int)), (I (o.pc : Int)), (.slice a k cp)]), (.string ⟨#[c]⟩)]) (n := 9) (rs := [.tmp 4]) func272 rfl rfl rfl rfl ?_
 refine rSeq (rReg (oBox hs rfl rfl rfl ?_))
 intro b1 w2 hs3; clear hs
 refine oV (xAssign rfl) rfl (oEnd (kSeq (rSeq (rReg (oV (xFA (j' := 1) underlying273 rfl sizeOf9 rfl rfl) rfl (oV (xLoad hs3 isAgg9 rfl (i := 0) rfl rfl) rfl (oV (xMove rfl) rfl (oCall call273 rfl rfl (scmp_s (a := o.nm) (c := c) hs3) ?_))))))))
 rintro _ w4 ⟨rfl, hs5⟩; clear hs3
 refine oV (xAssign rfl) rfl (oEnd (kSeq (rRet (kFin (.tmp rfl (.nil)) ?_))))
 replace hs5 := hs5.d0
 exact ⟨rfl, hs5⟩
theorem bsSh {i j : Nat} (h : i + j < 9223372036854775808) (w : World) : Sem.run Tryz.prog (binOp .shr 169 (.int .u64 ((UInt64.ofInt ((i : Int) + (j : Int))).toNat : Int)) (.int .u64 1)) w = .ok (.int .u64 (((i + j) / 2 : Nat) : Int)) w := by
 have h1 : UInt64.ofInt ((i : Int) + (j : Int)) = UInt64.ofNat (i + j) := by
   apply UInt64.toNat_inj.1
   simp [UInt64.ofInt]
   try omega
 have h2 := rShr64 (P := Tryz.prog) (t := 169) (c := UInt64.ofNat (i + j)) (s := 1) (by omega) .u64 w
 have h3 : (UInt64.ofNat (i + j) >>> UInt64.ofNat 1).toNat = (i + j) / 2 := by
   have h4 : (UInt64.ofNat 1).toNat % 64 = 1 := rfl
   rw [UInt64.toNat_shiftRight, h4, Nat.shiftRight_eq_div_pow, UInt64.toNat_ofNat', Nat.mod_eq_of_lt (by omega)]
 rw [h1]
 simp only [Q, h3] at h2
 exact h2
theorem bsearch_s {W0 w : World} {L : List Asn} {f : HF} {a : Option Addr} {n cp : Nat} {cs : List Value} {obs : List Ob} (hv : Reads f 6 (.slice a n cp) n cs) (ho : ObsR f cs obs) (hn : obs.length = n) {c : UInt8} (hsort : SortO obs) (hn2 : n ≤ 1000000) (hs : Sep W0 w (pool f :: L)) : Calls Tryz.prog 271 [.slice a n cp, nmS c, .func (.func 272) #[] #[]].toArray w
 (Ret fun r w' => r = .tuple #[.int .i64 ((posN c obs : Nat) : Int), .bool (hasN c obs)] ∧ Sep W0 w' (pool f :: L)) := by
 refine enter (args := [(.slice a n cp), (.string ⟨#[c]⟩), (.func (.func 272) #[] #[])]) (n := 49) (rs := [.tmp 6, .tmp 7]) func271 rfl rfl rfl rfl ?_
 refine rSeq (rReg (oV (xAssign rfl) rfl (oV (xAssign rfl) rfl (oEnd (kSeq (rSeq (rReg (oV (xMove rfl) rfl (oV (xB1 rfl (rLenS underlying363)) rfl (oV (xAssign rfl) rfl (oEnd (kSeq (rSeq (rReg (oV (xMove rfl) rfl (oV (xAssign rfl) rfl (oV (xAssign rfl) rfl (oEnd (kSeq (rSeq (rBlk (rLoop (fun mz e w => ∃ (i : Nat) (j : Nat), j - i = mz ∧ e = [(0, (.slice a n cp)), (1, (.string ⟨#[c]⟩)), (2, (.func (.func 272) #[] #[])), (8, (I (n : Int))), (9, (I (i : Int))), (10, (I (j : Int)))] ∧ (i ≤ j) ∧ (j ≤ n) ∧ (∀ k, k < i → (obs.getD k default).nm < c) ∧ (∀ k, j ≤ k → k < obs.length → ¬ (obs.getD k default).nm < c) ∧ Sep W0 w (pool f :: L)) ⟨_, _, ⟨0, n, rfl, rfl, (by omega), (by omega), (fun k hk => by omega), (fun k h1 h2 => by omega), hs⟩, ⟨rfl, rfl, rfl, rfl, rfl, rfl, trivial⟩⟩ ?_))))))))))))))))))))))
 clear hs; rintro mz e w ⟨i, j, rfl, rfl, hij, hj, hlo, hhi, hs⟩
 refine rSeq (rSeq (rReg (oV (xMove rfl) rfl (oV (xMove rfl) rfl (oV (xCmp rfl rfl rLss) rfl (oEnd (kSeq ?_)))))))
 refine rCondD rfl (fun hc1 => ?_) (fun hc1 => ?_)
 · refine rSkip (kSeq (rBlk (rSeq (rReg (oV (xMove rfl) rfl (oV (xMove rfl) rfl (oV (xAr rfl rfl (rAdd (wI (by omega) (by omega)))) rfl (oV (xConv underlying3 underlying169 rfl (wIto64 ((i : Int) + (j : Int)))) rfl (oV (xSh (r := ((((i + j) / 2) : Nat) : Int)) rfl rfl (bsSh (by omega))) rfl (oV (xConv underlying169 underlying3 rfl (wI (by omega) (by omega))) rfl (oV (xAssign rfl) rfl (oEnd (kSeq (rSeq (rReg (oV (xMove rfl) rfl (oV (xMove rfl) rfl (oV (xMove rfl) rfl ?_))))))))))))))))))
   obtain ⟨b2, off3, rfl⟩ := Reads.at hv (by omega)
   refine oV (xIA (o' := off3 + (((i + j) / 2) : Nat) * 6) underlying363 sizeOf273 rfl rfl (by omega) (by omega) (by omega)) rfl ?_
   obtain ⟨a4, cp5, us6, ht7, hv8, hp9⟩ := ObsR.get ho (((i + j) / 2) : Nat) (by omega)
   refine oV (xLoadGC isAgg273 sizeOf273 rfl rfl (reads_cells hv hs (i := 0) rfl ht7)) rfl (oV (xMove rfl) rfl (oCallV (f := 272) rfl call272 rfl rfl (tidx1_s (o := (obs.getD (((i + j) / 2) : Nat) default)) (c := c) hs) ?_))
   rintro _ w10 ⟨rfl, hs11⟩; clear hs
   refine oV (xCmp rfl rfl rLss) rfl (oEnd (kSeq ?_))
   refine rCondD rfl (fun hc12 => ?_) (fun hc12 => ?_)
   · refine rReg (oV (xMove rfl) rfl (oV (xAr rfl rfl (rAdd (wI (by omega) (by omega)))) rfl (oV (xAssign rfl) rfl ?_)))
     have hlo1 : ∀ k, k < ((i + j) / 2) + 1 → (obs.getD k default).nm < c := by
       intro k h1
       have h4 : (obs.getD ((i + j) / 2) default).nm < c := cmpN_lt.1 hc12
       rcases Nat.lt_or_ge k ((i + j) / 2) with h5 | h5
       · exact UInt8.lt_trans (sort_lt hsort h5 (by omega)) h4
       · obtain rfl : k = ((i + j) / 2) := by omega
         exact h4
     exact oEnd (kBlk (kLoop (j - (((i + j) / 2) + 1)) _ (by omega) ⟨((i + j) / 2) + 1, j, rfl, rfl, (by omega), (by omega), (hlo1), (hhi), hs11⟩ ⟨rfl, rfl, rfl, rfl, rfl, rfl, trivial⟩))
   · refine rReg (oV (xMove rfl) rfl (oV (xAssign rfl) rfl ?_))
     have hhi1 : ∀ k, ((i + j) / 2) ≤ k → k < obs.length → ¬ (obs.getD k default).nm < c := by
       intro k h1 h2 h3
       have h4 : ¬ (obs.getD ((i + j) / 2) default).nm < c := fun h => hc12 (cmpN_lt.2 h)
       rcases Nat.lt_or_eq_of_le h1 with h5 | h5
       · exact h4 (UInt8.lt_trans (sort_lt hsort h5 h2) h3)
       · rw [← h5] at h3; exact h4 h3
     exact oEnd (kBlk (kLoop (((i + j) / 2) - i) _ (by omega) ⟨i, ((i + j) / 2), rfl, rfl, (by omega), (by omega), (hlo), (hhi1), hs11⟩ ⟨rfl, rfl, rfl, rfl, rfl, rfl, trivial⟩))
 · refine rExit (kSeqX (kLoopX (kBlkH (kSeq (rSeq (rReg (oV (xMove rfl) rfl (oV (xMove rfl) rfl (oV (xMove rfl) rfl (oV (xCmp rfl rfl rLss) rfl (oV (xMove rfl) rfl ?_)))))))))))
   refine oCase (d := 39) rfl (fun hg13 => ?_) (fun hg13 => ?_)
   · replace hg13 := of_decide_eq_true hg13
     refine oGuardT rfl rfl (oV (xMove rfl) rfl (oGuardT rfl rfl (oV (xMove rfl) rfl (oGuardT rfl rfl (oV (xMove rfl) rfl (oGuardT rfl rfl ?_))))))
     obtain ⟨b14, off15, rfl⟩ := Reads.at hv (by omega)
     refine oV (xIA (o' := off15 + i * 6) underlying363 sizeOf273 rfl rfl (by omega) (by omega) (by omega)) rfl (oGuardT rfl rfl ?_)
     obtain ⟨a16, cp17, us18, ht19, hv20, hp21⟩ := ObsR.get ho i (by omega)
     refine oV (xLoadGC isAgg273 sizeOf273 rfl rfl (reads_cells hv hs (i := 0) rfl ht19)) rfl (oGuardT rfl rfl (oV (xMove rfl) rfl (oGuardT rfl rfl (oCallV (f := 272) rfl call272 rfl rfl (tidx1_s (o := (obs.getD i default)) (c := c) hs) ?_))))
     rintro _ w22 ⟨rfl, hs23⟩; clear hs
     refine oGuardT rfl rfl (oV (xCmp rfl rfl rEql) rfl (oV (xPickT rfl rfl) rfl (oV (xAssign rfl) rfl (oV (xAssign rfl) rfl (oEnd (kSeq (rRet (kFin (.tmp rfl (.tmp rfl (.nil))) ?_))))))))
     obtain rfl : i = j := by omega
     have hp := posN_eq (c := c) (obs := obs) (by omega) hlo hhi
     have hh := hasN_eq (c := c) hsort (by omega) hlo hhi
     rw [hp, hh]
     rw [show decide (i < obs.length) = true by simp; omega, Bool.true_and, ← decide_eq_decide.2 (cmpN_eq (a := (obs.getD i default).nm) (c := c))]
     exact ⟨rfl, hs23⟩
   · replace hg13 := of_decide_eq_false hg13
     refine oGuardF rfl rfl rfl rfl (oGuardF rfl rfl rfl rfl (oGuardF rfl rfl rfl rfl (oGuardF rfl rfl rfl rfl (oGuardF rfl rfl rfl rfl (oGuardF rfl rfl rfl rfl (oGuardF rfl rfl rfl rfl (oGuardF rfl rfl rfl rfl (oV (xPickF rfl rfl) rfl (oV (xAssign rfl) rfl (oV (xAssign rfl) rfl (oEnd (kSeq (rRet (kFin (.tmp rfl (.tmp rfl (.nil))) ?_))))))))))))))
     obtain rfl : i = j := by omega
     have hp := posN_eq (c := c) (obs := obs) (by omega) hlo hhi
     have hh := hasN_eq (c := c) hsort (by omega) hlo hhi
     rw [hp, hh]
     rw [show decide (i < obs.length) = false by simp; omega]
     exact ⟨rfl, hs⟩
end Go.Sl
namespace Go.Sl
open Go.Proofs Go.Proofs.Tryz
theorem tlen_s {W0 w : World} {L : List Asn} {t ns nn n cp : Nat} {nx la : UInt32} {a : Option Addr} (hs : Sep W0 w (row t 365 [I (ns : Int), I (nn : Int), U nx, U la, .slice a n cp] :: L)) : Calls Tryz.prog 213 [ptr t].toArray w (Ret fun r w' => r = I (n : Int) ∧ Sep W0 w' (row t 365 [I (ns : Int), I (nn : Int), U nx, U la, .slice a n cp] :: L)) := by
 refine enter (args := [(ptr t)]) (n := 10) (rs := [.tmp 2]) func213 rfl rfl rfl rfl ?_
 refine rSeq (rReg (oV (xAssign rfl) rfl (oEnd (kSeq (rSeq (rSeq (rReg (oV (xMove rfl) rfl (oV (xBin (r := .bool false) rfl rfl (fun _ => rfl) (fun w => by kernel_rfl)) rfl (oEnd (kSeq (rCondF rfl (rSkip (kSeq (rSeq (rReg (oV (xMove rfl) rfl (oV (xNil rfl) rfl (oV (xFA (j' := 4) underlying365 rfl sizeOf363 rfl rfl) rfl (oV (xLoad hs isAgg363 rfl (i := 0) rfl rfl) rfl (oV (xB1 rfl (rLenS underlying363)) rfl (oV (xAssign rfl) rfl (oEnd (kSeq (rRet (kFin (.tmp rfl (.nil)) ?_))))))))))))))))))))))))))
 exact ⟨rfl, hs⟩
theorem tnext_s {W0 w : World} {L : List Asn} {t ns nn n cp : Nat} {nx la : UInt32} {a : Option Addr} (hs : Sep W0 w (row t 365 [I (ns : Int), I (nn : Int), U nx, U la, .slice a n cp] :: L)) : Calls Tryz.prog 216 [ptr t].toArray w (Ret fun r w' => r = U nx ∧ Sep W0 w' (row t 365 [I (ns : Int), I (nn : Int), U nx, U la, .slice a n cp] :: L)) := by
 refine enter (args := [(ptr t)]) (n := 9) (rs := [.tmp 2]) func216 rfl rfl rfl rfl ?_
 refine rSeq (rReg (oV (xAssign rfl) rfl (oEnd (kSeq (rSeq (rSeq (rReg (oV (xMove rfl) rfl (oV (xBin (r := .bool false) rfl rfl (fun _ => rfl) (fun w => by kernel_rfl)) rfl (oEnd (kSeq (rCondF rfl (rSkip (kSeq (rSeq (rReg (oV (xMove rfl) rfl (oV (xNil rfl) rfl (oV (xFA (j' := 2) underlying365 rfl sizeOf33 rfl rfl) rfl (oV (xLoad hs isAgg33 rfl (i := 0) rfl rfl) rfl (oV (xAssign rfl) rfl (oEnd (kSeq (rRet (kFin (.tmp rfl (.nil)) ?_)))))))))))))))))))))))))
 exact ⟨rfl, hs⟩
theorem tindex_s {W0 w : World} {L : List Asn} {t ns nn n cp : Nat} {nx la : UInt32} {a : Option Addr} {f : HF} {cs : List Value} {obs : List Ob} (hv : Reads f 6 (.slice a n cp) n cs) (ho : ObsR f cs obs) (hn : obs.length = n) {c : UInt8} (hsort : SortO obs) (hn2 : n ≤ 1000000) (hs : Sep W0 w (pool f :: row t 365 [I (ns : Int), I (nn : Int), U nx, U la, .slice a n cp] :: L)) : Calls Tryz.prog 206 [ptr t, nmS c].toArray w (Ret fun r w' => r = .tuple #[.int .i64 ((posN c obs : Nat) : Int), .bool (hasN c obs)] ∧ Sep W0 w' (pool f :: row t 365 [I (ns : Int), I (nn : Int), U nx, U la, .slice a n cp] :: L)) := by
 refine enter (args := [(ptr t), (.string ⟨#[c]⟩)]) (n := 14) (rs := [.tmp 4, .tmp 5]) func206 rfl rfl rfl rfl ?_
 refine rSeq (rReg (oV (xAssign rfl) rfl (oV (xAssign rfl) rfl (oEnd (kSeq (rSeq (rReg (oV (xMove rfl) rfl (oV (xNil rfl) rfl (oV (xFA (j' := 4) underlying365 rfl sizeOf363 rfl rfl) rfl (oV (xLoad hs isAgg363 rfl (i := 1) rfl rfl) rfl (oV (xMove rfl) rfl (oCall call271 rfl rfl (bsearch_s hv ho hn hsort (by omega) hs) ?_)))))))))))))
 rintro _ w1 ⟨rfl, hs2⟩; clear hs
 refine oV (xExtract rfl rfl) rfl (oV (xExtract rfl rfl) rfl (oV (xAssign rfl) rfl (oV (xAssign rfl) rfl (oEnd (kSeq (rRet (kFin (.tmp rfl (.tmp rfl (.nil))) ?_)))))))
 exact ⟨rfl, hs2⟩
theorem clonePP_o {W0 w : World} {L : List Asn} {f : HF} {a : Option Addr} {n cp : Nat} (cs : List Value) (hr : Reads f 1 (.slice a n cp) n cs) (h1 : ∀ u ∈ cs, u.oneCell' = true) (hn : n * 24 ≤ 140737488355328) (hs : Sep W0 w (pool f :: L)) :
   Calls Tryz.prog 274 [.slice a n cp].toArray w (Ret fun r w' => ∃ a' k cp', r = .slice a' k cp' ∧ k = n ∧ Sep W0 w' (own 276 1 (.slice a' n cp') n cs :: pool f :: L)) := by
 refine enter (args := [(.slice a n cp)]) (n := 8) (rs := [.tmp 2]) func274 rfl rfl rfl rfl ?_
 refine rSeq (rReg (oV (xAssign rfl) rfl (oEnd (kSeq (rSeq (rSeq (rReg (oV (xMove rfl) rfl (oV (xBin rfl rfl (fun _ => rfl) (rEqlSlNil underlying271)) rfl (oEnd (kSeq ?_)))))))))))
 refine rCond rfl (fun hc1 => ?_) (fun hc1 => ?_)
 · refine rSeq (rReg (oV (xAssign rfl) rfl (oEnd (kSeq (rRet (kSeqR (kFin (.tmp rfl (.nil)) ?_)))))))
   have ha : a = none := by simpa using hc1
   subst ha
   obtain ⟨rfl, rfl⟩ := Reads.none hr
   exact ⟨none, 0, 0, rfl, rfl, Sep.nil 276 1 hs⟩
 · refine rSkip (kSeq (rSeq (rReg (oBuildSliceO (el := 276) (size := 1) (cs := []) hs rfl (fun w => by kernel_rfl) rfl rfl rfl ?_))))
   intro b2 w3 hs4; clear hs
   refine oV (xMove rfl) rfl (oAppend (inf := Tryz.t276) (size := 1) (bytes := 24) hs4 (i := 0) rfl underlying271 (by kernel_rfl) rfl rfl rfl rfl rfl rfl rfl (Reads.src hr hs4 (i := 1) rfl h1) (by first | omega | (simp only [List.length_append, List.length_cons, List.length_nil, List.length_map]; omega)) (by first | omega | (simp only [List.length_append, List.length_cons, List.length_nil, List.length_map]; omega)) rfl ?_)
   intro a5 c6 w7 hs8; clear hs4; dsimp only [List.set] at hs8
   refine oV (xAssign rfl) rfl (oEnd (kSeq (rRet (kFin (.tmp rfl (.nil)) ?_))))
   simp only [List.nil_append, Nat.zero_add] at hs8
   refine ⟨_, n, _, ?_, rfl, hs8⟩
   simp only [Nat.zero_add]; rfl
theorem cloneP_o {W0 w : World} {L : List Asn} {f : HF} {a : Option Addr} {n cp : Nat} (cs : List Value) (hr : Reads f 2 (.slice a n cp) n cs) (h1 : ∀ u ∈ cs, u.oneCell' = true) (hn : n * 16 ≤ 140737488355328) (hs : Sep W0 w (pool f :: L)) :
   Calls Tryz.prog 275 [.slice a n cp].toArray w (Ret fun r w' => ∃ a' k cp', r = .slice a' k cp' ∧ k = n ∧ Sep W0 w' (own 278 2 (.slice a' n cp') n cs :: pool f :: L)) := by
 refine enter (args := [(.slice a n cp)]) (n := 8) (rs := [.tmp 2]) func275 rfl rfl rfl rfl ?_
 refine rSeq (rReg (oV (xAssign rfl) rfl (oEnd (kSeq (rSeq (rSeq (rReg (oV (xMove rfl) rfl (oV (xBin rfl rfl (fun _ => rfl) (rEqlSlNil underlying276)) rfl (oEnd (kSeq ?_)))))))))))
 refine rCond rfl (fun hc1 => ?_) (fun hc1 => ?_)
 · refine rSeq (rReg (oV (xAssign rfl) rfl (oEnd (kSeq (rRet (kSeqR (kFin (.tmp rfl (.nil)) ?_)))))))
   have ha : a = none := by simpa using hc1
   subst ha
   obtain ⟨rfl, rfl⟩ := Reads.none hr
   exact ⟨none, 0, 0, rfl, rfl, Sep.nil 278 2 hs⟩
 · refine rSkip (kSeq (rSeq (rReg (oBuildSliceO (el := 278) (size := 2) (cs := []) hs rfl (fun w => by kernel_rfl) rfl rfl rfl ?_))))
   intro b2 w3 hs4; clear hs
   refine oV (xMove rfl) rfl (oAppend (inf := Tryz.t278) (size := 2) (bytes := 16) hs4 (i := 0) rfl underlying276 (by kernel_rfl) rfl rfl rfl rfl rfl rfl rfl (Reads.src hr hs4 (i := 1) rfl h1) (by first | omega | (simp only [List.length_append, List.length_cons, List.length_nil, List.length_map]; omega)) (by first | omega | (simp only [List.length_append, List.length_cons, List.length_nil, List.length_map]; omega)) rfl ?_)
   intro a5 c6 w7 hs8; clear hs4; dsimp only [List.set] at hs8
   refine oV (xAssign rfl) rfl (oEnd (kSeq (rRet (kFin (.tmp rfl (.nil)) ?_))))
   simp only [List.nil_append, Nat.zero_add] at hs8
   refine ⟨_, n, _, ?_, rfl, hs8⟩
   simp only [Nat.zero_add]; rfl
theorem cloneP_f {W0 w : World} {L : List Asn} {f : HF} {a : Option Addr} {n cp : Nat} (cs : List Value) (hr : Reads f 2 (.slice a n cp) n cs) (h1 : ∀ u ∈ cs, u.oneCell' = true) (hn : n * 16 ≤ 140737488355328) (hs : Sep W0 w (pool f :: L)) :
   Calls Tryz.prog 275 [.slice a n cp].toArray w (Ret fun r w' => ∃ f' a' cp', r = .slice a' n cp' ∧ FLe f f' ∧ Reads f' 2 (.slice a' n cp') n cs ∧ Sep W0 w' (pool f' :: L)) := by
 refine (cloneP_o cs hr h1 hn hs).mono ?_
 rintro e w' ⟨_, rfl, a', k, cp', rfl, rfl, h⟩
 obtain ⟨f', hle, h2, h3⟩ := Sep.freezeOwn (i := 0) (Sep.front (i := 1) rfl h) rfl
 exact ⟨_, rfl, f', a', cp', rfl, hle, h2, h3⟩
theorem cloneO_o {W0 w : World} {L : List Asn} {f : HF} {a : Option Addr} {n cp : Nat} (cs : List Value) (hr : Reads f 6 (.slice a n cp) n cs) (h1 : ∀ u ∈ cs, u.oneCell' = true) (hn : n * 72 ≤ 140737488355328) (hs : Sep W0 w (pool f :: L)) :
   Calls Tryz.prog 359 [.slice a n cp].toArray w (Ret fun r w' => ∃ a' k cp', r = .slice a' k cp' ∧ k = n ∧ Sep W0 w' (own 273 6 (.slice a' n cp') n cs :: pool f :: L)) := by
 refine enter (args := [(.slice a n cp)]) (n := 8) (rs := [.tmp 2]) func359 rfl rfl rfl rfl ?_
 refine rSeq (rReg (oV (xAssign rfl) rfl (oEnd (kSeq (rSeq (rSeq (rReg (oV (xMove rfl) rfl (oV (xBin rfl rfl (fun _ => rfl) (rEqlSlNil underlying363)) rfl (oEnd (kSeq ?_)))))))))))
 refine rCond rfl (fun hc1 => ?_) (fun hc1 => ?_)
 · refine rSeq (rReg (oV (xAssign rfl) rfl (oEnd (kSeq (rRet (kSeqR (kFin (.tmp rfl (.nil)) ?_)))))))
   have ha : a = none := by simpa using hc1
   subst ha
   obtain ⟨rfl, rfl⟩ := Reads.none hr
   exact ⟨none, 0, 0, rfl, rfl, Sep.nil 273 6 hs⟩
 · refine rSkip (kSeq (rSeq (rReg (oBuildSliceO (el := 273) (size := 6) (cs := []) hs rfl (fun w => by kernel_rfl) rfl rfl rfl ?_))))
   intro b2 w3 hs4; clear hs
   refine oV (xMove rfl) rfl (oAppend (inf := Tryz.t273) (size := 6) (bytes := 72) hs4 (i := 0) rfl underlying363 (by kernel_rfl) rfl rfl rfl rfl rfl rfl rfl (Reads.src hr hs4 (i := 1) rfl h1) (by first | omega | (simp only [List.length_append, List.length_cons, List.length_nil, List.length_map]; omega)) (by first | omega | (simp only [List.length_append, List.length_cons, List.length_nil, List.length_map]; omega)) rfl ?_)
   intro a5 c6 w7 hs8; clear hs4; dsimp only [List.set] at hs8
   refine oV (xAssign rfl) rfl (oEnd (kSeq (rRet (kFin (.tmp rfl (.nil)) ?_))))
   simp only [List.nil_append, Nat.zero_add] at hs8
   refine ⟨_, n, _, ?_, rfl, hs8⟩
   simp only [Nat.zero_add]; rfl
theorem tcopied_s {W0 w : World} {L : List Asn} {f : HF} {o : Ob} {a : Option Addr} {cp : Nat} {us : List Value} (hv : Reads f 1 (.slice a o.pl.length cp) o.pl.length us) (hp : PlR f us o.pl) (hpl : o.pl.length ≤ 1000) (hpw : ∀ j, (o.pl.getD j []).length ≤ 1000) (hs : Sep W0 w (pool f :: L)) : Calls Tryz.prog 207 [.agg (obC o (.slice a o.pl.length cp)).toArray].toArray w
 (Ret fun r w' => ∃ f' a' cp' us', r = .agg (obC o (.slice a' o.pl.length cp')).toArray ∧ FLe f f' ∧ Reads f' 1 (.slice a' o.pl.length cp') o.pl.length us' ∧ PlR f' us' o.pl ∧ Sep W0 w' (pool f' :: L)) := by
 refine enter (args := [(.agg #[(.int .u32 (o.num.toNat : Int)), (.string ⟨#[o.nm]⟩), (I (o.len : Int)), (I (o.cnt : Int)), (I (o.pc : Int)), (.slice a o.pl.length cp)])]) (n := 25) (rs := [.cell 2 273]) func207 rfl rfl rfl rfl ?_
 refine rSeq (rReg (oBox hs rfl rfl rfl ?_))
 intro b1 w2 hs3; clear hs
 refine oAlloc hs3 zeroValue273 rfl rfl ?_
 intro b4 w5 hs6; clear hs3
 refine oEnd (kSeq (rSeq (rReg (oV (xFA (j' := 5) underlying273 rfl sizeOf271 rfl rfl) rfl (oV (xLoad hs6 isAgg271 rfl (i := 1) rfl rfl) rfl ?_)))))
 replace hs6 := hs6.f2
 refine oCall call274 rfl rfl (clonePP_o _ hv (PlR.one hp) (by omega) hs6) ?_
 rintro _ w11 ⟨a7, k8, cp9, rfl, hk10, hs12⟩; clear hs6; replace hk10 := Eq.symm hk10; subst hk10
 refine oV (xFA (j' := 5) underlying273 rfl sizeOf271 rfl rfl) rfl (oStore hs12 sizeOf271 rfl rfl rfl (i := 3) rfl rfl ?_)
 intro w13 hs14; clear hs12; dsimp only [List.set] at hs14
 refine oEnd (kSeq (rSeq (rSeq (rReg (oV (xFA (j' := 5) underlying273 rfl sizeOf271 rfl rfl) rfl (oV (xLoad hs14 isAgg271 rfl (i := 3) rfl rfl) rfl (oV (xB1 rfl (rLenS underlying271)) rfl (oV (xMove rfl) rfl (oEnd (kSeq (rBlk ?_)))))))))))
 replace hs14 := hs14.f1
 replace hs14 := hs14.f3
 replace hs14 := hs14.f3
 replace hs14 := hs14.f3
 refine rLoop (fun mz e w => ∃ (i : Nat) (usx : List Value) (f15 : HF), o.pl.length - i = mz ∧ e = [(1, (ptr b1)), (2, (ptr b4)), (10, (.slice a7 o.pl.length cp9)), (11, (I (o.pl.length : Int))), (12, (I (i : Int)))] ∧ (i ≤ o.pl.length) ∧ (PlR f15 usx o.pl) ∧ (FLe f f15) ∧ Sep W0 w (own 276 1 (.slice a7 o.pl.length cp9) o.pl.length usx :: row b4 273 [(.int .u32 0), (.string ⟨#[]⟩), (I 0), (I 0), (I 0), (.slice none 0 0)] :: row b1 273 [(.int .u32 (o.num.toNat : Int)), (.string ⟨#[o.nm]⟩), (I (o.len : Int)), (I (o.cnt : Int)), (I (o.pc : Int)), (.slice a7 o.pl.length cp9)] :: pool f15 :: L)) ⟨_, _, ⟨0, _, f, rfl, rfl, (by omega), (hp), (FLe.refl _), hs14⟩, ⟨rfl, rfl, rfl, rfl, rfl, trivial⟩⟩ ?_
 clear hs14; rintro mz e w ⟨i, usx, f15, rfl, rfl, hi, hpx, hle16, hs⟩
 have hul := hpx.len
 refine rSeq (rReg (oV (xCmp rfl rfl rLss) rfl (oEnd (kSeq (rSeq ?_)))))
 refine rCondD rfl (fun hc17 => ?_) (fun hc17 => ?_)
 · refine rSkip (kSeq (rSeq (rBlk (rSeq (rReg (oV (xMove rfl) rfl ?_))))))
   obtain ⟨b18, rfl⟩ := Sep.ownAddr (i := 0) hs rfl (by omega)
   refine oV (xIA (o' := i) underlying271 sizeOf276 rfl rfl (by omega) (by omega) (by omega)) rfl ?_
   obtain ⟨a20, cp21, he22, hb23⟩ := hpx.get i (by omega); have hpwi := hpw i
   refine oV (xLoadC isAgg276 rfl (Sep.ownCell hs (i := 0) rfl he22)) rfl (oV (xAssign rfl) rfl (oV (xAssign rfl) rfl (oEnd (kSeq ?_))))
   refine rRegG [(none, fun w => ∃ M, Sep W0 w (row b1 273 [(.int .u32 (o.num.toNat : Int)), (.string ⟨#[o.nm]⟩), (I (o.len : Int)), (I (o.cnt : Int)), (I (o.pc : Int)), (.slice (some ⟨b18, 0, none⟩) o.pl.length cp9)] :: M))] (by kernel_rfl) hs (fun w24 hs25 => ⟨?_, fun hS => ?_⟩)
   · exact ⟨⟨_, (Sep.front (i := 2) rfl hs25)⟩, trivial⟩
   clear hs
   refine gTake0 0 rfl (by kernel_rfl) hS (fun w => xFA (j' := 5) underlying273 rfl sizeOf271 rfl rfl) rfl ?_
   clear hS; intro hS
   refine gTake 1 0 rfl (by kernel_rfl) rfl (by kernel_rfl) hS (fun w hq0 => by obtain ⟨M, hq⟩ := hq0; exact xLoad hq isAgg271 rfl (i := 0) rfl rfl) rfl ?_
   clear hS; intro hS
   refine gTake0 2 rfl (by kernel_rfl) hS (fun w => xMove rfl) rfl ?_
   clear hS; intro hS
   refine gTake0 3 rfl (by kernel_rfl) hS (fun w => xMove rfl) rfl ?_
   clear hS; intro hS
   refine gEff 4 (by kernel_rfl) rfl ?_
   replace hs25 := hs25.f3
   refine oCall call275 rfl rfl (cloneP_f _ hb23 (plC_one _) (by omega) hs25) ?_
   rintro _ w31 ⟨f26, a27, cp28, rfl, hle29, hr30, hs32⟩; clear hs25
   replace hpx := hpx.mono hle29
   replace hb23 := hb23.mono hle29
   refine oEnd (kG ⟨⟨_, (Sep.front (i := 3) rfl hs32)⟩, trivial⟩ ?_)
   clear hS; intro hS
   refine gTake0 5 rfl (by kernel_rfl) hS (fun w => xIA (o' := i) underlying271 sizeOf276 rfl rfl (by omega) (by omega) (by omega)) rfl ?_
   clear hS; intro hS
   refine gEff 6 (by kernel_rfl) rfl ?_
   refine oStoreO hs32 sizeOf276 rfl rfl rfl (i := 1) rfl (getV (by first | omega | (simp only [List.length_append, List.length_set, List.length_cons, List.length_nil, List.length_map, List.length_replicate, mixd_length]; omega))) ?_
   intro w33 hs34; clear hs32; dsimp only [List.set] at hs34
   refine oEnd (kG ⟨⟨_, (Sep.front (i := 3) rfl hs34)⟩, trivial⟩ ?_)
   clear hS; intro hS
   refine gEnd (by kernel_rfl) ?_
   clear hS
   refine kBlk (kSeq ?_)
   refine rReg (oV (xAr rfl rfl (rAdd (wI (by omega) (by omega)))) rfl (oV (xMove rfl) rfl ?_))
   replace hs34 := hs34.f3
   replace hs34 := hs34.f3
   replace hs34 := hs34.f3
   exact oEnd (kLoop (o.pl.length - (i + 1)) _ (by omega) ⟨i + 1, _, f26, rfl, rfl, (by omega), (PlR.set hpx (by omega) hr30), (FLe.trans hle16 hle29), hs34⟩ ⟨rfl, rfl, rfl, rfl, rfl, trivial⟩)
 · refine rExit (kSeqX (kLoopX (kBlkH (kSeq (rSeq (rReg (oV (xLoadG hs isAgg273 sizeOf273 rfl (i := 2) rfl rfl) rfl (oStoreG hs sizeOf273 rfl rfl rfl rfl (i := 1) rfl rfl ?_))))))))
   intro w35 hs36; clear hs; dsimp only [List.set, putAt] at hs36
   refine oEnd (kSeq (rRet (kFin (.cell rfl (run_varG hs36 isAgg273 sizeOf273 (i := 1) rfl rfl) (.nil)) ?_)))
   replace hs36 := hs36.f3
   obtain ⟨f37, hle38, hv39, hs40⟩ := Sep.freezeOwn (i := 0) hs36 rfl; clear hs36; dsimp only [List.eraseIdx] at hs40
   replace hpx := hpx.mono hle38
   replace hs40 := hs40.d2
   replace hs40 := hs40.d1
   exact ⟨_, _, _, _, rfl, (FLe.trans hle16 hle38), hv39, hpx, hs40⟩
def ObsB (obs : List Ob) : Prop := ∀ o ∈ obs, o.pl.length ≤ 32 ∧ ∀ l ∈ o.pl, l.length ≤ 24
theorem ObsB.pl {obs : List Ob} (h : ObsB obs) {o : Ob} (ho : o ∈ obs) : o.pl.length ≤ 1000 := by have := (h o ho).1; omega
theorem ObsB.pw {obs : List Ob} (h : ObsB obs) {o : Ob} (ho : o ∈ obs) (j : Nat) : (o.pl.getD j []).length ≤ 1000 := by
 rw [List.getD_eq_getElem?_getD]
 cases hj : o.pl[j]? with
 | none => simp
 | some l => have := (h o ho).2 l (List.mem_of_getElem? hj); simp; omega
theorem getD_of {α : Type} {l : List α} {i : Nat} {x d : α} (h : l[i]? = some x) : l.getD i d = x := by rw [List.getD_eq_getElem?_getD, h]; rfl
theorem hasN_yes {obs : List Ob} {o : Ob} (ho : o ∈ obs) : hasN o.nm obs = true := by simp only [hasN, List.any_eq_true]; exact ⟨o, ho, by simp⟩
theorem hasN_no {obs : List Ob} {c : UInt8} (h : ∀ o ∈ obs, o.nm ≠ c) : hasN c obs = false := by
 rw [Bool.eq_false_iff]; intro h2; simp only [hasN, List.any_eq_true, beq_iff_eq] at h2; obtain ⟨o, ho, he⟩ := h2; exact h o ho he
theorem posN_at {obs : List Ob} {i : Nat} {o : Ob} (hs : SortO obs) (h : obs[i]? = some o) : posN o.nm obs = i := by
 have hlt := (List.getElem?_eq_some_iff.1 h).1
 have hg := getD_of (d := default) h
 refine posN_eq (by omega) (fun k hk => ?_) (fun k hk hl hc => ?_)
 · rw [← hg]; exact sort_lt hs hk hlt
 · rcases Nat.lt_or_eq_of_le hk with h1 | rfl
   · have := sort_lt hs h1 hl; rw [hg] at this; exact UInt8.lt_irrefl _ (UInt8.lt_trans hc this)
   · rw [hg] at hc; exact UInt8.lt_irrefl _ hc
theorem tfind_s {W0 w : World} {L : List Asn} {t ns nn n cp : Nat} {nx la : UInt32} {a : Option Addr} {f : HF} {cs : List Value} {obs : List Ob} (hv : Reads f 6 (.slice a n cp) n cs) (ho : ObsR f cs obs) (hn : obs.length = n) (hsort : SortO obs) (hB : ObsB obs) (hn2 : n ≤ 64) {i : Nat} {o : Ob} (hi : obs[i]? = some o) (hs : Sep W0 w (pool f :: row t 365 [I (ns : Int), I (nn : Int), U nx, U la, .slice a n cp] :: L)) : Calls Tryz.prog 144 [ptr t, nmS o.nm].toArray w
 (Ret fun r w' => ∃ f' a' cp' us', r = .tuple #[.agg (obC o (.slice a' o.pl.length cp')).toArray, .bool true] ∧ FLe f f' ∧ Reads f' 1 (.slice a' o.pl.length cp') o.pl.length us' ∧ PlR f' us' o.pl ∧ Sep W0 w' (pool f' :: row t 365 [I (ns : Int), I (nn : Int), U nx, U la, .slice a n cp] :: L)) := by
 have hmem := List.mem_of_getElem? hi; have hilt : i < obs.length := (List.getElem?_eq_some_iff.1 hi).1
 refine enter (args := [(ptr t), (.string ⟨#[o.nm]⟩)]) (n := 28) (rs := [.cell 4 273, .tmp 5]) func144 rfl rfl rfl rfl ?_
 refine rSeq (rReg (oAlloc hs zeroValue273 rfl rfl ?_))
 intro b1 w2 hs3; clear hs
 refine oV (xAssign rfl) rfl (oEnd (kSeq (rSeq (rSeq (rReg (oV (xMove rfl) rfl (oV (xBin (r := .bool false) rfl rfl (fun _ => rfl) (fun w => by kernel_rfl)) rfl (oEnd (kSeq (rCondF rfl (rSkip (kSeq (rSeq (rReg (oV (xMove rfl) rfl (oV (xMove rfl) rfl ?_))))))))))))))))
 replace hs3 := hs3.f2
 replace hs3 := hs3.f2
 refine oCall call206 rfl rfl (tindex_s hv ho hn hsort (by omega) hs3) ?_
 rintro _ w4 ⟨rfl, hs5⟩; clear hs3
 rw [posN_at hsort hi, hasN_yes hmem]
 refine oV (xMove rfl) rfl (oV (xExtract rfl rfl) rfl (oV (xExtract rfl rfl) rfl (oV (xAssign rfl) rfl (oV (xAssign rfl) rfl (oEnd (kSeq (rSeq (rSeq (rReg (oV (xMove rfl) rfl (oV (xNot rfl) rfl (oEnd (kSeq (rCondF rfl (rSkip (kSeq (rSeq (rReg (oV (xMove rfl) rfl (oV (xNil rfl) rfl (oV (xFA (j' := 4) underlying365 rfl sizeOf363 rfl rfl) rfl (oV (xLoad hs5 isAgg363 rfl (i := 1) rfl rfl) rfl (oV (xMove rfl) rfl ?_)))))))))))))))))))))))
 obtain ⟨b6, off7, rfl⟩ := Reads.at hv (by omega)
 refine oV (xIA (o' := off7 + i * 6) underlying363 sizeOf273 rfl rfl (by omega) (by omega) (by omega)) rfl ?_
 obtain ⟨a8, cp9, us10, ht11, hv12, hp13⟩ := ObsR.get ho i (by omega)
 refine oV (xLoadGC isAgg273 sizeOf273 rfl rfl (reads_cells hv hs5 (i := 0) rfl ht11)) rfl ?_
 have hgd := getD_of (d := default) hi; rw [hgd]
 rw [hgd] at hv12
 rw [hgd] at hp13
 refine oCall call207 rfl rfl (tcopied_s (o := o) hv12 hp13 (hB.pl hmem) (hB.pw hmem) hs5) ?_
 rintro _ w21 ⟨f14, a15, cp16, us17, rfl, hle18, hv19, hp20, hs22⟩; clear hs5
 replace hv12 := hv12.mono hle18
 replace hp13 := hp13.mono hle18
 refine oStoreG hs22 sizeOf273 rfl rfl rfl rfl (i := 2) rfl rfl ?_
 intro w23 hs24; clear hs22; dsimp only [List.set, putAt] at hs24
 refine oV (xAssign rfl) rfl (oEnd (kSeq (rRet (kFin (.cell rfl (run_varG hs24 isAgg273 sizeOf273 (i := 2) rfl rfl) (.tmp rfl (.nil))) ?_))))
 replace hs24 := hs24.d2
 exact ⟨_, _, _, _, rfl, hle18, hv19, hp20, hs24⟩
theorem tfindno_s {W0 w : World} {L : List Asn} {t ns nn n cp : Nat} {nx la : UInt32} {a : Option Addr} {f : HF} {cs : List Value} {obs : List Ob} (hv : Reads f 6 (.slice a n cp) n cs) (ho : ObsR f cs obs) (hn : obs.length = n) (hsort : SortO obs) (hn2 : n ≤ 64) {c : UInt8} (hno : ∀ o ∈ obs, o.nm ≠ c) (hs : Sep W0 w (pool f :: row t 365 [I (ns : Int), I (nn : Int), U nx, U la, .slice a n cp] :: L)) : Calls Tryz.prog 144 [ptr t, nmS c].toArray w
 (Ret fun r w' => r = .tuple #[.agg #[.int .u32 0, .string ⟨#[]⟩, I 0, I 0, I 0, .slice none 0 0], .bool false] ∧ Sep W0 w' (pool f :: row t 365 [I (ns : Int), I (nn : Int), U nx, U la, .slice a n cp] :: L)) := by
 refine enter (args := [(ptr t), (.string ⟨#[c]⟩)]) (n := 28) (rs := [.cell 4 273, .tmp 5]) func144 rfl rfl rfl rfl ?_
 refine rSeq (rReg (oAlloc hs zeroValue273 rfl rfl ?_))
 intro b1 w2 hs3; clear hs
 refine oV (xAssign rfl) rfl (oEnd (kSeq (rSeq (rSeq (rReg (oV (xMove rfl) rfl (oV (xBin (r := .bool false) rfl rfl (fun _ => rfl) (fun w => by kernel_rfl)) rfl (oEnd (kSeq (rCondF rfl (rSkip (kSeq (rSeq (rReg (oV (xMove rfl) rfl (oV (xMove rfl) rfl ?_))))))))))))))))
 replace hs3 := hs3.f2
 replace hs3 := hs3.f2
 refine oCall call206 rfl rfl (tindex_s hv ho hn hsort (by omega) hs3) ?_
 rintro _ w4 ⟨rfl, hs5⟩; clear hs3
 rw [hasN_no hno]
 refine oV (xMove rfl) rfl (oV (xExtract rfl rfl) rfl (oV (xExtract rfl rfl) rfl (oV (xAssign rfl) rfl (oV (xAssign rfl) rfl (oEnd (kSeq (rSeq (rSeq (rReg (oV (xMove rfl) rfl (oV (xNot rfl) rfl (oEnd (kSeq (rCondT rfl (rSeq (rReg (oV (xBuild (v := (.agg #[(.int .u32 0), (.string ⟨#[]⟩), (I 0), (I 0), (I 0), (.slice none 0 0)])) rfl (fun w => by kernel_rfl)) rfl (oStoreG hs5 sizeOf273 rfl rfl rfl rfl (i := 2) rfl rfl ?_))))))))))))))))))
 intro w6 hs7; clear hs5; dsimp only [List.set, putAt] at hs7
 refine oV (xAssign rfl) rfl (oEnd (kSeq (rRet (kSeqR (kFin (.cell rfl (run_varG hs7 isAgg273 sizeOf273 (i := 2) rfl rfl) (.tmp rfl (.nil))) ?_)))))
 replace hs7 := hs7.d2
 exact ⟨rfl, hs7⟩
end Go.Sl
namespace Go.Sl
open Go.Proofs Go.Proofs.Tryz
theorem tnum1_s {W0 w : World} {L : List Asn} {o : Ob} {a : Option Addr} {k cp : Nat} {nb : Nat} {num : UInt32} (hs : Sep W0 w (row nb 33 [U num] :: L)) : Calls Tryz.prog 350 [.agg (obC o (.slice a k cp)).toArray, ptr nb].toArray w (Ret fun r w' => r = .bool (decide ((o.num.toNat : Int) = num.toNat)) ∧ Sep W0 w' (row nb 33 [U num] :: L)) := by
 refine enter (args := [(.agg #[(.int .u32 (o.num.toNat : Int)), (.string ⟨#[o.nm]⟩), (I (o.len : Int)), (I (o.cnt : Int)), (I (o.pc : Int)), (.slice a k cp)]), (ptr nb)]) (n := 8) (rs := [.tmp 3]) func350 rfl rfl rfl rfl ?_
 refine rSeq (rReg (oBox hs rfl rfl rfl ?_))
 intro b1 w2 hs3; clear hs
 refine oV (xAssign rfl) rfl (oEnd (kSeq (rSeq (rReg (oV (xFA (j' := 0) underlying273 rfl sizeOf33 rfl rfl) rfl (oV (xLoad hs3 isAgg33 rfl (i := 0) rfl rfl) rfl (oV (xLoad hs3 isAgg33 rfl (i := 1) rfl rfl) rfl (oV (xCmp rfl rfl rEql) rfl (oV (xAssign rfl) rfl (oEnd (kSeq (rRet (kFin (.tmp rfl (.nil)) ?_)))))))))))))
 replace hs3 := hs3.d0
 exact ⟨rfl, hs3⟩
theorem tixf_s {W0 w : World} {L : List Asn} {f : HF} {a : Option Addr} {n cp : Nat} {cs : List Value} {obs : List Ob} (hv : Reads f 6 (.slice a n cp) n cs) (ho : ObsR f cs obs) (hn : obs.length = n) {nb : Nat} {num : UInt32} (hnum : ∀ o ∈ obs, o.num ≠ num) (hn2 : n ≤ 1000000) (hs : Sep W0 w (pool f :: row nb 33 [U num] :: L)) : Calls Tryz.prog 349 [.slice a n cp, .func (.func 350) #[] #[ptr nb]].toArray w
 (Ret fun r w' => r = .int .i64 (-1) ∧ Sep W0 w' (pool f :: row nb 33 [U num] :: L)) := by
 refine enter (args := [(.slice a n cp), (.func (.func 350) #[] #[(ptr nb)])]) (n := 19) (rs := [.tmp 4]) func349 rfl rfl rfl rfl ?_
 refine rSeq (rReg (oV (xAssign rfl) rfl (oEnd (kSeq (rSeq (rSeq (rReg (oV (xMove rfl) rfl (oV (xB1 rfl (rLenS underlying363)) rfl (oV (xMove rfl) rfl (oEnd (kSeq (rBlk (rLoop (fun mz e w => ∃ (i : Nat), n - i = mz ∧ e = [(0, (.slice a n cp)), (1, (.func (.func 350) #[] #[(ptr nb)])), (6, (.slice a n cp)), (7, (I (n : Int))), (8, (I (i : Int)))] ∧ (i ≤ n) ∧ Sep W0 w (pool f :: row nb 33 [(.int .u32 (num.toNat : Int))] :: L)) ⟨_, _, ⟨0, rfl, rfl, (by omega), hs⟩, ⟨rfl, rfl, rfl, rfl, rfl, trivial⟩⟩ ?_))))))))))))))
 clear hs; rintro mz e w ⟨i, rfl, rfl, hi, hs⟩
 refine rSeq (rReg (oV (xCmp rfl rfl rLss) rfl (oEnd (kSeq (rSeq ?_)))))
 refine rCondD rfl (fun hc1 => ?_) (fun hc1 => ?_)
 · refine rSkip (kSeq (rSeq (rBlk (rSeq (rReg (oV (xMove rfl) rfl (oV (xAssign rfl) rfl (oEnd (kSeq (rSeq (rReg (oV (xMove rfl) rfl (oV (xMove rfl) rfl (oV (xMove rfl) rfl ?_))))))))))))))
   obtain ⟨b2, off3, rfl⟩ := Reads.at hv (by omega)
   refine oV (xIA (o' := off3 + i * 6) underlying363 sizeOf273 rfl rfl (by omega) (by omega) (by omega)) rfl ?_
   obtain ⟨a4, cp5, us6, ht7, hv8, hp9⟩ := ObsR.get ho i (by omega)
   refine oV (xLoadGC isAgg273 sizeOf273 rfl rfl (reads_cells hv hs (i := 0) rfl ht7)) rfl ?_
   replace hs := hs.f1
   refine oCallV (f := 350) rfl call350 rfl rfl (tnum1_s (o := (obs.getD i default)) (num := num) hs) ?_
   rintro _ w10 ⟨rfl, hs11⟩; clear hs
   refine oEnd (kSeq ?_)
   refine rCondD rfl (fun hc12 => ?_) (fun hc12 => ?_)
   · exact absurd (UInt32.toNat_inj.1 (by exact_mod_cast hc12)) (hnum _ (by rw [List.getD_eq_getElem?_getD, List.getElem?_eq_getElem (show i < obs.length by omega)]; exact List.getElem_mem _))
   · refine rSkip (kBlk (kSeq (rReg (oV (xAr rfl rfl (rAdd (wI (by omega) (by omega)))) rfl (oV (xMove rfl) rfl ?_)))))
     replace hs11 := hs11.f1
     exact oEnd (kLoop (n - (i + 1)) _ (by omega) ⟨i + 1, rfl, rfl, (by omega), hs11⟩ ⟨rfl, rfl, rfl, rfl, rfl, trivial⟩)
 · refine rExit (kSeqX (kLoopX (kBlkH (kSeq (rSeq (rReg (oV (xAssign rfl) rfl (oEnd (kSeq (rRet (kFin (.tmp rfl (.nil)) ?_)))))))))))
   exact ⟨rfl, hs⟩
theorem tnumber_s {W0 w : World} {L : List Asn} {t ns nn n cp : Nat} {nx la : UInt32} {a : Option Addr} {f : HF} {cs : List Value} {obs : List Ob} (hv : Reads f 6 (.slice a n cp) n cs) (ho : ObsR f cs obs) (hn : obs.length = n) {num : UInt32} (hnum : ∀ o ∈ obs, o.num ≠ num) (hn2 : n ≤ 1000000) (hs : Sep W0 w (pool f :: row t 365 [I (ns : Int), I (nn : Int), U nx, U la, .slice a n cp] :: L)) : Calls Tryz.prog 299 [ptr t, U num].toArray w (Ret fun r w' => r = .int .i64 (-1) ∧ Sep W0 w' (pool f :: row t 365 [I (ns : Int), I (nn : Int), U nx, U la, .slice a n cp] :: L)) := by
 refine enter (args := [(ptr t), (.int .u32 (num.toNat : Int))]) (n := 11) (rs := [.tmp 4]) func299 rfl rfl rfl rfl ?_
 refine rSeq (rReg (oBox hs rfl rfl rfl ?_))
 intro b1 w2 hs3; clear hs
 refine oV (xAssign rfl) rfl (oEnd (kSeq (rSeq (rReg (oV (xMove rfl) rfl (oV (xNil rfl) rfl (oV (xFA (j' := 4) underlying365 rfl sizeOf363 rfl rfl) rfl (oV (xLoad hs3 isAgg363 rfl (i := 2) rfl rfl) rfl (oV (xMakeFunc rfl rfl) rfl ?_)))))))))
 replace hs3 := hs3.f1
 refine oCall call349 rfl rfl (tixf_s hv ho hn hnum (by omega) hs3) ?_
 rintro _ w4 ⟨rfl, hs5⟩; clear hs3
 refine oV (xAssign rfl) rfl (oEnd (kSeq (rRet (kFin (.tmp rfl (.nil)) ?_))))
 replace hs5 := hs5.d1
 exact ⟨rfl, hs5⟩
structure PlOk (ns nn : Nat) (l : List Nat) : Prop where
 len : l.length = ns
 nd : l.Nodup
 lt : ∀ p ∈ l, p < nn
theorem PlOk.at {ns nn : Nat} {l : List Nat} (h : PlOk ns nn l) {i : Nat} (hi : i < l.length) : l.getD i 0 < nn := by
 rw [List.getD_eq_getElem?_getD, List.getElem?_eq_getElem hi]; exact h.lt _ (List.getElem_mem _)
theorem PlOk.ne {ns nn : Nat} {l : List Nat} (h : PlOk ns nn l) {i j : Nat} (hj : j < i) (hi : i < l.length) : l.getD j 0 ≠ l.getD i 0 := by
 rw [List.getD_eq_getElem?_getD, List.getD_eq_getElem?_getD, List.getElem?_eq_getElem hi, List.getElem?_eq_getElem (show j < l.length by omega)]
 simp only [Option.getD_some]
 intro he
 have := (List.getElem_inj (h₀ := show j < l.length by omega) (h₁ := hi) h.nd).1 he
 omega
theorem tright_s {W0 w : World} {L : List Asn} {f : HF} {t ns nn cp : Nat} {x1 x2 x3 : Value} {a : Option Addr} {l : List Nat} (hl : Reads f 2 (.slice a l.length cp) l.length (plC l)) (hok : PlOk ns nn l) (hnn : nn ≤ 32) (hll : l.length ≤ 1000) (hs : Sep W0 w (pool f :: row t 365 [I (ns : Int), I (nn : Int), x1, x2, x3] :: L)) : Calls Tryz.prog 361 [ptr t, .slice a l.length cp].toArray w
 (Ret fun r w' => r = .bool true ∧ Sep W0 w' (pool f :: row t 365 [I (ns : Int), I (nn : Int), x1, x2, x3] :: L)) := by
 refine enter (args := [(ptr t), (.slice a l.length cp)]) (n := 43) (rs := [.tmp 4]) func361 rfl rfl rfl rfl ?_
 refine rSeq (rReg (oV (xAssign rfl) rfl (oEnd (kSeq (rSeq (rReg (oAlloc hs zeroValue545 rfl rfl ?_)))))))
 intro b1 w2 hs3; clear hs
 refine oEnd (kSeq (rSeq (rSeq (rReg (oV (xMove rfl) rfl (oV (xB1 rfl (rLenS underlying276)) rfl (oV (xMove rfl) rfl (oEnd (kSeq (rBlk ?_))))))))))
 replace hs3 := hs3.f1
 replace hs3 := hs3.f2
 refine rLoop (fun mz e w => ∃ (i : Nat) (fu : Nat → Bool), l.length - i = mz ∧ e = [(0, (ptr t)), (1, (.slice a l.length cp)), (5, (ptr b1)), (8, (.slice a l.length cp)), (9, (I (l.length : Int))), (10, (I (i : Int)))] ∧ (i ≤ l.length) ∧ (∀ k, fu k = true → ∃ j, j < i ∧ l.getD j 0 = k) ∧ Sep W0 w (row t 365 [(I (ns : Int)), (I (nn : Int)), x1, x2, x3] :: pool f :: row b1 545 (bools 32 fu) :: L)) ⟨_, _, ⟨0, (fun _ => false), rfl, rfl, (by omega), (fun k hk => by cases hk), hs3⟩, ⟨rfl, rfl, rfl, rfl, rfl, rfl, trivial⟩⟩ ?_
 clear hs3; rintro mz e w ⟨i, fu, rfl, rfl, hi, hfu, hs⟩
 refine rSeq (rReg (oV (xCmp rfl rfl rLss) rfl (oEnd (kSeq (rSeq ?_)))))
 refine rCondD rfl (fun hc4 => ?_) (fun hc4 => ?_)
 · have hlt := hok.at (i := i) (by omega)
   have hff : fu (l.getD i 0) = false := by
     cases hf : fu (l.getD i 0) with
     | false => rfl
     | true => obtain ⟨j, h1, h2⟩ := hfu _ hf; exact absurd h2 (hok.ne h1 (by omega))
   refine rSkip (kSeq (rSeq (rBlk (rSeq (rReg ?_)))))
   obtain ⟨b5, off6, rfl⟩ := Reads.at hl (by omega)
   refine oV (xIA (o' := off6 + i * 2) underlying276 sizeOf278 rfl rfl (by omega) (by omega) (by omega)) rfl (oV (xLoadGC isAgg278 sizeOf278 rfl rfl (reads_cells hl hs (i := 1) rfl (plC_take (by omega)))) rfl (oAlloc hs zeroValue278 rfl rfl ?_))
   intro b7 w8 hs9; clear hs
   refine oStoreG hs9 sizeOf278 rfl rfl rfl rfl (i := 0) rfl rfl ?_
   intro w10 hs11; clear hs9; dsimp only [List.set, putAt] at hs11
   refine oEnd (kSeq (rSeq (rSeq (rRegQ (by kernel_rfl) (by kernel_rfl) hs11 ?_))))
   refine qV (fun w hq => xFA (j' := 0) underlying278 rfl sizeOf3 rfl rfl) rfl ?_
   refine qV (fun w hq => xLoad hq isAgg3 rfl (i := 0) rfl rfl) rfl ?_
   refine qV (fun w hq => xCmp (r := false) rfl rfl (bF (by omega) rLss)) rfl ?_
   refine qV (fun w hq => xMove rfl) rfl ?_
   refine qGuardT rfl rfl ?_
   refine qV (fun w hq => xFA (j' := 0) underlying278 rfl sizeOf3 rfl rfl) rfl ?_
   refine qGuardT rfl rfl ?_
   refine qV (fun w hq => xLoad hq isAgg3 rfl (i := 0) rfl rfl) rfl ?_
   refine qGuardT rfl rfl ?_
   refine qV (fun w hq => xMove rfl) rfl ?_
   refine qGuardT rfl rfl ?_
   refine qV (fun w hq => xNil rfl) rfl ?_
   refine qGuardT rfl rfl ?_
   refine qV (fun w hq => xFA (j' := 1) underlying365 rfl sizeOf3 rfl rfl) rfl ?_
   refine qGuardT rfl rfl ?_
   refine qV (fun w hq => xLoad hq isAgg3 rfl (i := 1) rfl rfl) rfl ?_
   refine qGuardT rfl rfl ?_
   refine qV (fun w hq => xCmp (r := false) rfl rfl (bF (by omega) rGeq)) rfl ?_
   refine qV (fun w hq => xPickF rfl rfl) rfl ?_
   refine qV (fun w hq => xMove rfl) rfl ?_
   refine qGuardT rfl rfl ?_
   refine qV (fun w hq => xFA (j' := 0) underlying278 rfl sizeOf3 rfl rfl) rfl ?_
   refine qGuardT rfl rfl ?_
   refine qV (fun w hq => xLoad hq isAgg3 rfl (i := 0) rfl rfl) rfl ?_
   refine qGuardT rfl rfl ?_
   refine qV (fun w hq => xIAA (o' := ((l.getD i 0 : Nat))) underlying545 sizeOf4 rfl rfl (by omega) (by omega) (by omega)) rfl ?_
   refine qGuardT rfl rfl ?_
   refine qV (fun w hq => xLoad hq isAgg4 rfl (i := 3) rfl (bools_get (by omega))) rfl ?_
   refine qV (fun w hq => xPickF rfl rfl) rfl ?_
   refine qEnd (fun w13 hs12 => ?_); clear hs11
   refine kSeq ?_
   refine rCond rfl (fun hc14 => absurd hc14 (by rw [hff]; simp)) (fun hc14 => ?_)
   refine rSkip (kSeq (rReg (oV (xFA (j' := 0) underlying278 rfl sizeOf3 rfl rfl) rfl (oV (xLoad hs12 isAgg3 rfl (i := 0) rfl rfl) rfl (oV (xIAA (o' := ((l.getD i 0 : Nat))) underlying545 sizeOf4 rfl rfl (by omega) (by omega) (by omega)) rfl (oStore hs12 sizeOf4 rfl rfl rfl (i := 3) rfl (bools_get (by omega)) ?_))))))
   intro w15 hs16; clear hs12; dsimp only [List.set] at hs16; rw [bools_set (by omega)] at hs16
   refine oEnd (kBlk (kSeq (rReg (oV (xAr rfl rfl (rAdd (wI (by omega) (by omega)))) rfl (oV (xMove rfl) rfl ?_)))))
   replace hs16 := hs16.d0
   have hfu1 : ∀ k, setF fu (l.getD i 0) true k = true → ∃ j, j < i + 1 ∧ l.getD j 0 = k := by
     intro k hk
     by_cases h : k = l.getD i 0
     · exact ⟨i, by omega, h.symm⟩
     · simp only [setF, h, if_false] at hk
       obtain ⟨j, h1, h2⟩ := hfu k hk
       exact ⟨j, by omega, h2⟩
   exact oEnd (kLoop (l.length - (i + 1)) _ (by omega) ⟨i + 1, _, rfl, rfl, (by omega), (hfu1), hs16⟩ ⟨rfl, rfl, rfl, rfl, rfl, rfl, trivial⟩)
 · refine rExit (kSeqX (kLoopX (kBlkH (kSeq (rSeq (rReg (oV (xMove rfl) rfl (oV (xB1 rfl (rLenS underlying276)) rfl (oV (xMove rfl) rfl (oV (xNil rfl) rfl (oV (xFA (j' := 0) underlying365 rfl sizeOf3 rfl rfl) rfl (oV (xLoad hs isAgg3 rfl (i := 0) rfl rfl) rfl (oV (xCmp (r := true) rfl rfl (bT (by have := hok.len; omega) rEql)) rfl (oV (xAssign rfl) rfl (oEnd (kSeq (rRet (kFin (.tmp rfl (.nil)) ?_))))))))))))))))))
   replace hs := hs.d2
   replace hs := hs.f1
   exact ⟨rfl, hs⟩
structure ObOk (ns nn : Nat) (o : Ob) : Prop where
 len : o.len ≤ 16384
 cnt : o.cnt ≤ 32
 pc1 : 1 ≤ o.pc
 pc2 : o.pc ≤ 256
 pl : o.pl.length = o.cnt
 ok : ∀ l ∈ o.pl, PlOk ns nn l
theorem ObOk.at {ns nn : Nat} {o : Ob} (h : ObOk ns nn o) {i : Nat} (hi : i < o.pl.length) : PlOk ns nn (o.pl.getD i []) := by
 rw [List.getD_eq_getElem?_getD, List.getElem?_eq_getElem hi]; exact h.ok _ (List.getElem_mem _)
theorem ObOk.pw {ns nn : Nat} {o : Ob} (h : ObOk ns nn o) (hns : ns ≤ 1000) (j : Nat) : (o.pl.getD j []).length ≤ 1000 := by
 by_cases hj : j < o.pl.length
 · rw [(h.at hj).len]; exact hns
 · rw [List.getD_eq_getElem?_getD, List.getElem?_eq_none (by omega)]; simp
theorem tplan_s {W0 w : World} {L : List Asn} {t ns nn : Nat} {x1 x2 x3 : Value} {o : Ob} {f : HF} {a : Option Addr} {cp : Nat} {us : List Value} (hv : Reads f 1 (.slice a o.pl.length cp) o.pl.length us) (hp : PlR f us o.pl) (hok : ObOk ns nn o) (hnn : nn ≤ 32) (hns : ns ≤ 1000) (hs : Sep W0 w (pool f :: row t 365 [I (ns : Int), I (nn : Int), x1, x2, x3] :: L)) : Calls Tryz.prog 357 [ptr t, .agg #[I 2, U o.num, nmS o.nm, I (o.len : Int), I (o.cnt : Int), I (o.pc : Int), .slice a o.pl.length cp, I 0, I 0, I 0, .int .u32 0]].toArray w
 (Ret fun r w' => r = .bool true ∧ Sep W0 w' (pool f :: row t 365 [I (ns : Int), I (nn : Int), x1, x2, x3] :: L)) := by
 obtain ⟨h1, h2, h3, h4, h5, h6⟩ := id hok
 refine enter (args := [(ptr t), (.agg #[(I 2), (.int .u32 (o.num.toNat : Int)), (.string ⟨#[o.nm]⟩), (I (o.len : Int)), (I (o.cnt : Int)), (I (o.pc : Int)), (.slice a o.pl.length cp), (I 0), (I 0), (I 0), (.int .u32 0)])]) (n := 58) (rs := [.tmp 4]) func357 rfl rfl rfl rfl ?_
 refine rSeq (rReg (oBox hs rfl rfl rfl ?_))
 intro b1 w2 hs3; clear hs
 refine oV (xAssign rfl) rfl (oEnd (kSeq (rSeq (rReg (oV (xFA (j' := 3) underlying386 rfl sizeOf270 rfl rfl) rfl (oV (xLoadG hs3 isAgg270 sizeOf270 rfl (i := 0) rfl rfl) rfl (oAlloc hs3 zeroValue270 rfl rfl ?_)))))))
 intro b4 w5 hs6; clear hs3
 refine oStoreG hs6 sizeOf270 rfl rfl rfl rfl (i := 0) rfl rfl ?_
 intro w7 hs8; clear hs6; dsimp only [List.set, putAt] at hs8
 refine oEnd (kSeq (rSeq (rSeq (rReg (oV (xFA (j' := 0) underlying270 rfl sizeOf3 rfl rfl) rfl (oV (xLoad hs8 isAgg3 rfl (i := 0) rfl rfl) rfl (oV (xCmp (r := false) rfl rfl (bF (by omega) rLss)) rfl (oV (xMove rfl) rfl (oGuardT rfl rfl (oV (xFA (j' := 0) underlying270 rfl sizeOf3 rfl rfl) rfl (oGuardT rfl rfl (oV (xLoad hs8 isAgg3 rfl (i := 0) rfl rfl) rfl (oGuardT rfl rfl (oV (xCmp (r := false) rfl rfl (bF (by omega) rGtr)) rfl (oV (xPickF rfl rfl) rfl (oV (xMove rfl) rfl (oGuardT rfl rfl (oV (xFA (j' := 1) underlying270 rfl sizeOf3 rfl rfl) rfl (oGuardT rfl rfl (oV (xLoad hs8 isAgg3 rfl (i := 0) rfl rfl) rfl (oGuardT rfl rfl (oV (xCmp (r := false) rfl rfl (bF (by omega) rLss)) rfl (oV (xPickF rfl rfl) rfl (oV (xMove rfl) rfl (oGuardT rfl rfl (oV (xFA (j' := 1) underlying270 rfl sizeOf3 rfl rfl) rfl (oGuardT rfl rfl ?_)))))))))))))))))))))))))))
 refine oV (xLoad hs8 isAgg3 rfl (i := 0) rfl rfl) rfl (oGuardT rfl rfl (oV (xCmp (r := false) rfl rfl (bF (by omega) rGtr)) rfl (oV (xPickF rfl rfl) rfl (oV (xMove rfl) rfl (oGuardT rfl rfl (oV (xFA (j' := 2) underlying270 rfl sizeOf3 rfl rfl) rfl (oGuardT rfl rfl (oV (xLoad hs8 isAgg3 rfl (i := 0) rfl rfl) rfl (oGuardT rfl rfl (oV (xCmp (r := false) rfl rfl (bF (by omega) rLss)) rfl (oV (xPickF rfl rfl) rfl (oV (xMove rfl) rfl (oGuardT rfl rfl (oV (xFA (j' := 2) underlying270 rfl sizeOf3 rfl rfl) rfl (oGuardT rfl rfl (oV (xLoad hs8 isAgg3 rfl (i := 0) rfl rfl) rfl (oGuardT rfl rfl (oV (xCmp (r := false) rfl rfl (bF (by omega) rGtr)) rfl (oV (xPickF rfl rfl) rfl (oV (xMove rfl) rfl (oGuardT rfl rfl (oV (xFA (j' := 6) underlying386 rfl sizeOf271 rfl rfl) rfl (oGuardT rfl rfl (oV (xLoad hs8 isAgg271 rfl (i := 1) rfl rfl) rfl (oGuardT rfl rfl ?_)))))))))))))))))))))))))
 refine oV (xB1 rfl (rLenS underlying271)) rfl (oGuardT rfl rfl (oV (xFA (j' := 1) underlying270 rfl sizeOf3 rfl rfl) rfl (oGuardT rfl rfl (oV (xLoad hs8 isAgg3 rfl (i := 0) rfl rfl) rfl (oGuardT rfl rfl (oV (xCmp (r := false) rfl rfl (bF (by omega) rNeq)) rfl (oV (xPickF rfl rfl) rfl (oEnd (kSeq (rCondF rfl (rSkip (kSeq (rSeq (rSeq (Run.sub (e' := [(0, (ptr t)), (3, (ptr b1)), (4, (.bool false))]) ⟨rfl, rfl, rfl, trivial⟩ ?_)))))))))))))))
 refine rReg (oV (xFA (j' := 6) underlying386 rfl sizeOf271 rfl rfl) rfl (oV (xLoad hs8 isAgg271 rfl (i := 1) rfl rfl) rfl (oV (xB1 rfl (rLenS underlying271)) rfl (oV (xMove rfl) rfl (oEnd (kSeq (rBlk ?_)))))))
 replace hs8 := hs8.d1
 replace hs8 := hs8.d0
 refine rLoop (fun mz e w => ∃ (i : Nat), o.pl.length - i = mz ∧ e = [(0, (ptr t)), (47, (.slice a o.pl.length cp)), (48, (I (o.pl.length : Int))), (49, (I (i : Int)))] ∧ (i ≤ o.pl.length) ∧ Sep W0 w (pool f :: row t 365 [(I (ns : Int)), (I (nn : Int)), x1, x2, x3] :: L)) ⟨_, _, ⟨0, rfl, rfl, (by omega), hs8⟩, ⟨rfl, rfl, rfl, rfl, trivial⟩⟩ ?_
 clear hs8; rintro mz e w ⟨i, rfl, rfl, hi, hs⟩
 refine rSeq (rReg (oV (xCmp rfl rfl rLss) rfl (oEnd (kSeq (rSeq ?_)))))
 refine rCondD rfl (fun hc9 => ?_) (fun hc9 => ?_)
 · refine rSkip (kSeq (rSeq (rBlk (rSeq (rReg ?_)))))
   obtain ⟨b10, off11, rfl⟩ := Reads.at hv (by omega)
   refine oV (xIA (o' := off11 + i) underlying271 sizeOf276 rfl rfl (by omega) (by omega) (by omega)) rfl ?_
   obtain ⟨a12, cp13, he14, hb15⟩ := PlR.get hp i (by omega)
   refine oV (xLoadC isAgg276 rfl (Reads.cell hv hs (i := 0) rfl he14)) rfl (oV (xAssign rfl) rfl (oEnd (kSeq (rSeq (rReg (oV (xMove rfl) rfl (oV (xMove rfl) rfl ?_)))))))
   replace hs := hs.f1
   replace hs := hs.f1
   refine oCall call361 rfl rfl (tright_s hb15 (hok.at (i := i) (by omega)) hnn (hok.pw hns i) hs) ?_
   rintro _ w16 ⟨rfl, hs17⟩; clear hs
   refine oV (xNot rfl) rfl (oEnd (kSeq (rCondF rfl (rSkip (kBlk (kSeq (rReg (oV (xAr rfl rfl (rAdd (wI (by omega) (by omega)))) rfl (oV (xMove rfl) rfl ?_)))))))))
   exact oEnd (kLoop (o.pl.length - (i + 1)) _ (by omega) ⟨i + 1, rfl, rfl, (by omega), hs17⟩ ⟨rfl, rfl, rfl, rfl, trivial⟩)
 · refine rExit (kSeqX (kLoopX (kBlkH (kSeq (rSeq (rReg (oV (xAssign rfl) rfl (oEnd (kSeq (rRet (kFin (.tmp rfl (.nil)) ?_)))))))))))
   exact ⟨rfl, hs⟩
theorem tbegin_s {W0 w : World} {L : List Asn} {t : Nat} {x1 x2 x3 x4 : Value} {nx : UInt32} (hnx : nx.toNat < 4294967295) (hs : Sep W0 w (row t 365 [x1, x2, U nx, x3, x4] :: L)) : Calls Tryz.prog 325 [ptr t, .agg #[I 1, U nx, .string ⟨#[]⟩, I 0, I 0, I 0, .slice none 0 0, I 0, I 0, I 0, .int .u32 0]].toArray w
 (Ret fun r w' => r = .int .i64 0 ∧ Sep W0 w' (row t 365 [x1, x2, U (nx + 1), x3, x4] :: L)) := by
 refine enter (args := [(ptr t), (.agg #[(I 1), (.int .u32 (nx.toNat : Int)), (.string ⟨#[]⟩), (I 0), (I 0), (I 0), (.slice none 0 0), (I 0), (I 0), (I 0), (.int .u32 0)])]) (n := 24) (rs := [.tmp 4]) func325 rfl rfl rfl rfl ?_
 refine rSeq (rReg (oBox hs rfl rfl rfl ?_))
 intro b1 w2 hs3; clear hs
 refine oV (xAssign rfl) rfl (oEnd (kSeq (rSeq (rSeq (rRegQ (by kernel_rfl) (by kernel_rfl) hs3 ?_)))))
 refine qV (fun w hq => xFA (j' := 1) underlying386 rfl sizeOf33 rfl rfl) rfl ?_
 refine qV (fun w hq => xLoad hq isAgg33 rfl (i := 0) rfl rfl) rfl ?_
 refine qV (fun w hq => xMove rfl) rfl ?_
 refine qV (fun w hq => xNil rfl) rfl ?_
 refine qV (fun w hq => xFA (j' := 2) underlying365 rfl sizeOf33 rfl rfl) rfl ?_
 refine qV (fun w hq => xLoad hq isAgg33 rfl (i := 1) rfl rfl) rfl ?_
 refine qV (fun w hq => xCmp (r := false) rfl rfl (bF (by simp) rNeq)) rfl ?_
 refine qV (fun w hq => xMove rfl) rfl ?_
 refine qGuardT rfl rfl ?_
 refine qV (fun w hq => xFA (j' := 1) underlying386 rfl sizeOf33 rfl rfl) rfl ?_
 refine qGuardT rfl rfl ?_
 refine qV (fun w hq => xLoad hq isAgg33 rfl (i := 0) rfl rfl) rfl ?_
 refine qGuardT rfl rfl ?_
 refine qV (fun w hq => xCmp (r := false) rfl rfl (bF (by omega) rEql)) rfl ?_
 refine qV (fun w hq => xPickF rfl rfl) rfl ?_
 refine qEnd (fun w5 hs4 => ?_); clear hs3
 refine kSeq ?_
 refine rCondF rfl (rSkip (kSeq (rSeq (rReg (oV (xMove rfl) rfl (oV (xNil rfl) rfl (oV (xFA (j' := 2) underlying365 rfl sizeOf33 rfl rfl) rfl (oV (xLoad hs4 isAgg33 rfl (i := 1) rfl rfl) rfl (oV (xAr rfl rfl (uAdd32 nx (1 : UInt32))) rfl (oV (xNil rfl) rfl (oV (xFA (j' := 2) underlying365 rfl sizeOf33 rfl rfl) rfl (oStore hs4 sizeOf33 rfl rfl rfl (i := 1) rfl rfl ?_))))))))))))
 intro w6 hs7; clear hs4; dsimp only [List.set] at hs7
 refine oEnd (kSeq (rSeq (rReg (oV (xAssign rfl) rfl (oEnd (kSeq (rRet (kFin (.tmp rfl (.nil)) ?_))))))))
 replace hs7 := hs7.d0
 exact ⟨rfl, hs7⟩
theorem tappb_s {W0 w : World} {L : List Asn} {t : Nat} {x1 x2 x3 x4 : Value} {nx : UInt32} (hnx : nx.toNat < 4294967295) (hs : Sep W0 w (row t 365 [x1, x2, U nx, x3, x4] :: L)) : Calls Tryz.prog 252 [ptr t, .agg #[I 1, U nx, .string ⟨#[]⟩, I 0, I 0, I 0, .slice none 0 0, I 0, I 0, I 0, .int .u32 0]].toArray w
 (Ret fun r w' => r = .int .i64 0 ∧ Sep W0 w' (row t 365 [x1, x2, U (nx + 1), x3, x4] :: L)) := by
 refine enter (args := [(ptr t), (.agg #[(I 1), (.int .u32 (nx.toNat : Int)), (.string ⟨#[]⟩), (I 0), (I 0), (I 0), (.slice none 0 0), (I 0), (I 0), (I 0), (.int .u32 0)])]) (n := 29) (rs := [.tmp 4]) func252 rfl rfl rfl rfl ?_
 refine rSeq (rReg (oBox hs rfl rfl rfl ?_))
 intro b1 w2 hs3; clear hs
 refine oV (xAssign rfl) rfl (oEnd (kSeq (rSeq (rSeq (rReg (oV (xMove rfl) rfl (oV (xBin (r := .bool false) rfl rfl (fun _ => rfl) (fun w => by kernel_rfl)) rfl (oEnd (kSeq (rCondF rfl (rSkip (kSeq (rSeq (rSeq (rReg (oV (xFA (j' := 0) underlying386 rfl sizeOf3 rfl rfl) rfl (oV (xLoad hs3 isAgg3 rfl (i := 0) rfl rfl) rfl (oEnd (kSeq (rBlk (rSeq (rReg (oV (xCmp (r := true) rfl rfl rEql) rfl (oV (xAssign rfl) rfl (oEnd (kSeq (rCondT rfl (rSeq (rReg (oV (xMove rfl) rfl (oV (xLoadG hs3 isAgg386 sizeOf386 rfl (i := 0) rfl rfl) rfl ?_)))))))))))))))))))))))))))))))
 replace hs3 := hs3.f1
 refine oCall call325 rfl rfl (tbegin_s hnx hs3) ?_
 rintro _ w4 ⟨rfl, hs5⟩; clear hs3
 refine oV (xAssign rfl) rfl (oEnd (kSeq (rRet (kBlkR (kSeqR (kFin (.tmp rfl (.nil)) ?_))))))
 replace hs5 := hs5.d1
 exact ⟨rfl, hs5⟩
theorem tnew_t {W0 w : World} {L : List Asn} {ns nn : Nat} (h1 : 1 ≤ ns) (h2 : ns ≤ 24) (h3 : 1 ≤ nn) (h4 : nn ≤ 32) (hs : Sep W0 w L) : Calls Tryz.prog 247 [.int .i64 ns, .int .i64 nn].toArray w
 (Ret fun r w' => ∃ t, r = .tuple #[ptr t, .int .i64 0] ∧ Sep W0 w' (row t 365 [I (ns : Int), I (nn : Int), U 1, U 0, .slice none 0 0] :: L)) := by
 refine enter (args := [(I (ns : Int)), (I (nn : Int))]) (n := 24) (rs := [.tmp 4, .tmp 5]) func247 rfl rfl rfl rfl ?_
 refine rSeq (rReg (oV (xAssign rfl) rfl (oV (xAssign rfl) rfl (oEnd (kSeq (rSeq (rSeq (rReg (oV (xMove rfl) rfl (oV (xCmp (r := false) rfl rfl (bF (by omega) rLss)) rfl (oV (xMove rfl) rfl (oGuardT rfl rfl (oV (xMove rfl) rfl (oGuardT rfl rfl (oV (xCmp (r := false) rfl rfl (bF (by omega) rGtr)) rfl (oV (xPickF rfl rfl) rfl (oV (xMove rfl) rfl (oGuardT rfl rfl (oV (xMove rfl) rfl (oGuardT rfl rfl (oV (xCmp (r := false) rfl rfl (bF (by omega) rLss)) rfl (oV (xPickF rfl rfl) rfl (oV (xMove rfl) rfl (oGuardT rfl rfl (oV (xMove rfl) rfl (oGuardT rfl rfl (oV (xCmp (r := false) rfl rfl (bF (by omega) rGtr)) rfl (oV (xPickF rfl rfl) rfl (oEnd (kSeq (rCondF rfl (rSkip (kSeq (rSeq (rReg (oV (xMove rfl) rfl (oV (xMove rfl) rfl ?_)))))))))))))))))))))))))))))))))))))
 refine oV (xBuild (v := (.agg #[(I (ns : Int)), (I (nn : Int)), (.int .u32 1), (.int .u32 0), (.slice none 0 0)])) rfl (fun w => by kernel_rfl)) rfl (oBox hs rfl rfl rfl ?_)
 intro b1 w2 hs3; clear hs
 refine oV (xAssign rfl) rfl (oV (xAssign rfl) rfl (oEnd (kSeq (rRet (kFin (.tmp rfl (.tmp rfl (.nil))) ?_)))))
 exact ⟨_, rfl, hs3⟩
end Go.Sl
namespace Go.Sl
open Go.Proofs
theorem takeAt_of {xs : List Value} : ∀ {k j : Nat} {vs : List Value}, vs.length = k → (∀ i, i < k → xs[j + i]? = vs[i]?) → takeAt xs j k = some vs
  | 0, j, vs, hl, _ => by rw [List.eq_nil_of_length_eq_zero hl]; rfl
  | k + 1, j, [], hl, _ => by simp at hl
  | k + 1, j, v :: vs, hl, h => by
    have h0 := h 0 (by omega)
    have ih := takeAt_of (xs := xs) (k := k) (j := j + 1) (vs := vs) (by simpa using hl) (fun i hi => by have := h (i + 1) (by omega); rw [show j + 1 + i = j + (i + 1) by omega, this]; simp)
    simp at h0
    simp only [takeAt, h0, ih]
theorem putAt_length : ∀ (vs xs : List Value) (j : Nat), (putAt xs j vs).length = xs.length
  | [], xs, j => rfl
  | v :: vs, xs, j => by simp only [putAt]; rw [putAt_length]; simp
theorem putAt_lo : ∀ (vs xs : List Value) (j i : Nat), i < j → (putAt xs j vs)[i]? = xs[i]?
  | [], xs, j, i, _ => rfl
  | v :: vs, xs, j, i, h => by simp only [putAt]; rw [putAt_lo vs _ _ _ (by omega), List.getElem?_set_ne (by omega)]
theorem putAt_hi : ∀ (vs xs : List Value) (j i : Nat), j + vs.length ≤ i → (putAt xs j vs)[i]? = xs[i]?
  | [], xs, j, i, _ => rfl
  | v :: vs, xs, j, i, h => by simp only [putAt]; simp at h; rw [putAt_hi vs _ _ _ (by omega), List.getElem?_set_ne (by omega)]
theorem putAt_in : ∀ (vs xs : List Value) (j i : Nat), i < vs.length → j + vs.length ≤ xs.length → (putAt xs j vs)[j + i]? = vs[i]?
  | [], xs, j, i, h, _ => by simp at h
  | v :: vs, xs, j, 0, h, hl => by
    simp only [putAt]; simp only [List.length_cons] at hl; rw [putAt_lo vs _ _ _ (by omega), Nat.add_zero, List.getElem?_set_self (by omega)]; rfl
  | v :: vs, xs, j, i + 1, h, hl => by
    simp only [putAt]
    have := putAt_in vs (xs.set j v) (j + 1) i (by simpa using h) (by simp only [List.length_cons, List.length_set] at hl ⊢; omega)
    rw [show j + (i + 1) = j + 1 + i by omega, this]; simp
section
variable {P : Program} {n : Nat} {K : Kont} {e : Env} {w : World} {ops : Array Oper} {rest : List Oper} {W0 : World} {L : List Asn}
theorem Sep.ownCapG {i : Nat} {el : TypeId} {size k cap : Nat} {a : Option Addr} {xs : List Value} (hs : Sep W0 w L) (hi : L[i]? = some (own el size (.slice a k cap) k xs)) : k ≤ cap := by
  obtain ⟨S, hl, h⟩ := sepL_at hi hs.sep
  rcases h with ⟨he, h0⟩ | ⟨g', cap', cur, he, hb, h1, h2, h3, htk⟩
  · omega
  · simp at he; omega
theorem run_storeCellsO {i g k cap size : Nat} {el : TypeId} : ∀ (vs : List Value) (m j : Nat) (L : List Asn) (w : World) (xs : List Value), Sep W0 w L → L[i]? = some (own el size (.slice (some ⟨g, 0, none⟩) k cap) k xs) → (∀ v ∈ vs, v.oneCell' = true) → j + m + vs.length ≤ xs.length →
    ∃ w', (storeCells ⟨g, j, none⟩ vs m).run P w = .ok () w' ∧ Sep W0 w' (L.set i (own el size (.slice (some ⟨g, 0, none⟩) k cap) k (putAt xs (j + m) vs)))
  | [], m, j, L, w, xs, hs, hi, _, _ => ⟨w, by simp [storeCells], by simp only [putAt]; rwa [set_self hi]⟩
  | v :: vs, m, j, L, w, xs, hs, hi, h1, hl => by
    have hlt : j + m < xs.length := by simp at hl; omega
    have hx : xs[j + m]? = some xs[j + m] := by simp [hlt]
    have hc := hs.ownCell hi hx
    have hf := hs.ownFree hi (j := j + m)
    have hr := run_store1 (P := P) hc hf (h1 v (by simp))
    have hs' := hs.ownSet (v := v) hi hx
    have hil : i < L.length := (List.getElem?_eq_some_iff.1 hi).1
    obtain ⟨w', h2, h3⟩ := run_storeCellsO (i := i) (g := g) (k := k) (cap := cap) (size := size) (el := el) vs (m + 1) j (L.set i (own el size (.slice (some ⟨g, 0, none⟩) k cap) k (xs.set (j + m) v))) _ (xs.set (j + m) v) hs' (by simp [hil]) (fun u hu => h1 u (by simp [hu])) (by simp at hl ⊢; omega)
    refine ⟨w', ?_, ?_⟩
    · simp only [storeCells, add_lit, Sem.run_bind, hr, Result.andThen_ok, h2]
    · rw [List.set_set] at h3
      simpa [putAt, Nat.add_assoc] using h3
theorem oStoreGO {i g k cap j m size : Nat} {x y : Operand} {t el : TypeId} {xs vs : List Value} {ty : TypeId} {pos : String} {af : Array Edge} (hs : Sep W0 w L) (hsz : ∀ w, Sem.run P (sizeOf t) w = .ok m w)
    (hx : e.ev x = some (.pointer (some ⟨g, j, none⟩))) (hy : e.ev y = some (.agg vs.toArray)) (hv : ∀ v ∈ vs, v.oneCell' = true) (hl : vs.length = m) (hi : L[i]? = some (own el size (.slice (some ⟨g, 0, none⟩) k cap) k xs)) (hu : j + m ≤ xs.length)
    (hk : ∀ w', Sep W0 w' (L.set i (own el size (.slice (some ⟨g, 0, none⟩) k cap) k (putAt xs j vs))) → Ops P n ops K rest e w') :
    Ops P n ops K (⟨none, .store t x y, ty, pos, af, none⟩ :: rest) e w := by
  obtain ⟨w', hr, hs'⟩ := run_storeCellsO (P := P) vs 0 j L w xs hs hi hv (by omega)
  refine Ops.skipn (w' := w') rfl rfl (fun a ha => ?_) (hk _ (by simpa using hs'))
  simp [execOp, ha.ev hx, ha.ev hy, Instr.storeAt, Instr.sureAddr, storeVar, hsz, Value.cells, hl, hr]
end
theorem ObsR.put {f : HF} {cs us : List Value} {obs : List Ob} {a : Option Addr} {cp i : Nat} (h : ObsR f cs obs) (hi : i < obs.length) (h1 : Reads f 1 (.slice a (obs.getD i default).pl.length cp) (obs.getD i default).pl.length us) (h2 : PlR f us (obs.getD i default).pl) :
    ObsR f (putAt cs (i * 6) (obC (obs.getD i default) (.slice a (obs.getD i default).pl.length cp))) obs := by
  have h6 : (obC (obs.getD i default) (.slice a (obs.getD i default).pl.length cp)).length = 6 := rfl
  have hfit : i * 6 + 6 ≤ cs.length := by rw [h.len]; omega
  refine ⟨by rw [putAt_length]; exact h.len, fun j hj => ?_⟩
  by_cases hij : i = j
  · subst hij
    exact ⟨a, cp, us, takeAt_of h6 (fun t ht => putAt_in _ _ _ _ (by rw [h6]; exact ht) (by rw [h6]; exact hfit)), h1, h2⟩
  · obtain ⟨a', cp', us', h3, h4, h5⟩ := h.get j hj
    refine ⟨a', cp', us', takeAt_of (takeAt_len h3) (fun t ht => ?_), h4, h5⟩
    have h7 : cs[j * 6 + t]? = (obC (obs.getD j default) (.slice a' (obs.getD j default).pl.length cp'))[t]? := by
      have hl := takeAt_len h3
      have hv : (obC (obs.getD j default) (.slice a' (obs.getD j default).pl.length cp'))[t]? = some ((obC (obs.getD j default) (.slice a' (obs.getD j default).pl.length cp'))[t]'(by rw [hl]; exact ht)) := List.getElem?_eq_getElem _
      rw [hv, takeAt_get h3 hv]
    rw [← h7]
    rcases Nat.lt_or_gt_of_ne hij with h8 | h8
    · exact putAt_hi _ _ _ _ (by rw [h6]; omega)
    · exact putAt_lo _ _ _ _ (by omega)
theorem posN_end {obs : List Ob} {c : UInt8} (h : ∀ o ∈ obs, o.nm < c) : posN c obs = obs.length := by
  unfold posN; rw [List.filter_eq_self.2 (fun o ho => by simpa using h o ho)]
theorem hasN_end {obs : List Ob} {c : UInt8} (h : ∀ o ∈ obs, o.nm < c) : hasN c obs = false :=
  hasN_no fun o ho he => by have := h o ho; rw [he] at this; exact UInt8.lt_irrefl _ this
def Iv (l : List Int) : List Value := l.map (fun i => Value.int .i64 i)
theorem Iv_get {l : List Int} {i : Nat} (h : i < l.length) : (Iv l)[i]? = some (.int .i64 (l.getD i 0)) := by
  simp [Iv, h]
theorem Iv_set {l : List Int} {i : Nat} {v : Int} : (Iv l).set i (.int .i64 v) = Iv (l.set i v) := List.map_set.symm
theorem Iv_rep (n : Nat) : List.replicate n (Value.int .i64 0) = Iv (List.replicate n 0) := by simp [Iv]
end Go.Sl
namespace Go.Sl
open Go.Proofs Go.Proofs.Tryz
theorem tins_s {W0 w : World} {L : List Asn} {a pa : Option Addr} {n cp b pcp : Nat} {cs : List Value} {o : Ob} (hone : ∀ u ∈ cs, u.oneCell' = true) (hn : n ≤ 1000) (hs : Sep W0 w (own 273 6 (.slice a n cp) n cs :: row b 273 [U o.num, nmS o.nm, I (o.len : Int), I (o.cnt : Int), I (o.pc : Int), .slice pa o.pl.length pcp] :: L)) : Calls Tryz.prog 358 [.slice a n cp, .int .i64 n, .slice (some ⟨b, 0, none⟩) 1 1].toArray w
 (Ret fun r w' => ∃ a' cp', r = .slice a' (n + 1) cp' ∧ Sep W0 w' (own 273 6 (.slice a' (n + 1) cp') (n + 1) (cs ++ [U o.num, nmS o.nm, I (o.len : Int), I (o.cnt : Int), I (o.pc : Int), .slice pa o.pl.length pcp]) :: L)) := by
 refine enter (args := [(.slice a n cp), (I (n : Int)), (.slice (some ⟨b, 0, none⟩) 1 1)]) (n := 95) (rs := [.tmp 6]) func358 rfl rfl rfl rfl ?_
 refine rSeq (rReg (oV (xAssign rfl) rfl (oEnd (kSeq (rSeq (rReg (oV (xMove rfl) rfl (oV (xMove rfl) rfl ?_))))))))
 have hcap := Sep.ownCapG hs (i := 0) rfl
 refine oV (xSlice (v := (.slice (if cp = n then a else a.map (fun x => x.add (n * 6))) (n - n) (cp - n))) rfl rfl rfl (Sub.slice_run underlying363 sizeOf273 (Bd.some (k := .i64) (i := (n : Int)) rfl) Bd.none (Nat.le_refl _) hcap)) rfl (oEnd (kSeq (rSeq (rReg (oV (xMove rfl) rfl (oV (xB1 rfl (rLenS underlying363)) rfl (oV (xAssign rfl) rfl (oEnd (kSeq (rSeq (rSeq (rReg (oV (xMove rfl) rfl (oV (xCmp (r := false) rfl rfl rEql) rfl (oEnd (kSeq (rCondF rfl (rSkip (kSeq (rSeq (rReg (oV (xMove rfl) rfl (oV (xB1 rfl (rLenS underlying363)) rfl (oV (xAssign rfl) rfl (oEnd (kSeq (rSeq (rSeq (rReg (oV (xMove rfl) rfl (oV (xMove rfl) rfl (oV (xCmp (r := true) rfl rfl (bT (by omega) rEql)) rfl (oEnd (kSeq (rCondT rfl (rSeq (rReg (oV (xMove rfl) rfl (oV (xMove rfl) rfl ?_)))))))))))))))))))))))))))))))))))))))
 refine oAppend (inf := Tryz.t273) (size := 6) (bytes := 72) hs (i := 0) rfl underlying363 (by kernel_rfl) rfl rfl rfl rfl rfl rfl rfl (src_row hs (i := 1) rfl rfl rfl) (by first | omega | (simp only [List.length_append, List.length_cons, List.length_nil, List.length_map]; omega)) (by first | omega | (simp only [List.length_append, List.length_cons, List.length_nil, List.length_map]; omega)) rfl ?_
 intro a1 c2 w3 hs4; clear hs; dsimp only [List.set] at hs4
 refine oV (xAssign rfl) rfl (oEnd (kSeq (rRet (kSeqR (kFin (.tmp rfl (.nil)) ?_)))))
 exact ⟨_, _, rfl, Sep.tail (Sep.front (i := 1) rfl hs4)⟩
set_option maxHeartbeats 1000000 in
theorem tcommit_s {W0 w : World} {L : List Asn} {t ns nn n cp : Nat} {nx la : UInt32} {a : Option Addr} {f : HF} {cs : List Value} {obs : List Ob} (hv : Reads f 6 (.slice a n cp) n cs) (ho : ObsR f cs obs) (hn : obs.length = n) {o : Ob} {oa : Option Addr} {ocp : Nat} {us : List Value} (hv2 : Reads f 1 (.slice oa o.pl.length ocp) o.pl.length us) (hp2 : PlR f us o.pl) (hok : ObOk ns nn o) (hnn : nn ≤ 32) (hns : ns ≤ 1000) (hc1 : 32 < o.nm.toNat) (hc2 : o.nm.toNat ≤ 126) (hsort : SortO obs) (hend : ∀ x ∈ obs, x.nm < o.nm) (hnum : ∀ x ∈ obs, x.num ≠ o.num) (hla : la.toNat < o.num.toNat) (hnx : o.num.toNat < nx.toNat) (hn64 : n < 64) (hs : Sep W0 w (pool f :: row t 365 [I (ns : Int), I (nn : Int), U nx, U la, .slice a n cp] :: L)) : Calls Tryz.prog 326 [ptr t, .agg #[I 2, U o.num, nmS o.nm, I (o.len : Int), I (o.cnt : Int), I (o.pc : Int), .slice oa o.pl.length ocp, I 0, I 0, I 0, .int .u32 0]].toArray w
 (Ret fun r w' => ∃ f' a' cp' cs', r = .int .i64 0 ∧ FLe f f' ∧ Reads f' 6 (.slice a' (n + 1) cp') (n + 1) cs' ∧ ObsR f' cs' (obs ++ [o]) ∧ Sep W0 w' (pool f' :: row t 365 [I (ns : Int), I (nn : Int), U nx, U o.num, .slice a' (n + 1) cp'] :: L)) := by
 refine enter (args := [(ptr t), (.agg #[(I 2), (.int .u32 (o.num.toNat : Int)), (.string ⟨#[o.nm]⟩), (I (o.len : Int)), (I (o.cnt : Int)), (I (o.pc : Int)), (.slice oa o.pl.length ocp), (I 0), (I 0), (I 0), (.int .u32 0)])]) (n := 83) (rs := [.tmp 4]) func326 rfl rfl rfl rfl ?_
 refine rSeq (rReg (oBox hs rfl rfl rfl ?_))
 intro b1 w2 hs3; clear hs
 refine oV (xAssign rfl) rfl (oEnd (kSeq (rSeq (rSeq (rReg (oV (xFA (j' := 2) underlying386 rfl sizeOf9 rfl rfl) rfl (oV (xLoad hs3 isAgg9 rfl (i := 0) rfl rfl) rfl (oCall call212 rfl rfl (rname_s hc1 hc2 hs3) ?_))))))))
 rintro _ w4 ⟨rfl, hs5⟩; clear hs3
 refine oV (xNot rfl) rfl (oV (xMove rfl) rfl (oGuardT rfl rfl (oV (xMove rfl) rfl (oGuardT rfl rfl (oV (xLoadG hs5 isAgg386 sizeOf386 rfl (i := 0) rfl rfl) rfl (oGuardT rfl rfl ?_))))))
 replace hs5 := hs5.f2
 replace hs5 := hs5.f2
 refine oCall call357 rfl rfl (tplan_s hv2 hp2 hok hnn hns hs5) ?_
 rintro _ w6 ⟨rfl, hs7⟩; clear hs5
 refine oGuardT rfl rfl (oV (xNot rfl) rfl (oV (xPickF rfl rfl) rfl (oEnd (kSeq (rCondF rfl (rSkip (kSeq (rSeq (rReg (oV (xMove rfl) rfl (oV (xFA (j' := 2) underlying386 rfl sizeOf9 rfl rfl) rfl (oV (xLoad hs7 isAgg9 rfl (i := 2) rfl rfl) rfl ?_))))))))))))
 replace hs7 := hs7.f1
 replace hs7 := hs7.f1
 refine oCall call206 rfl rfl (tindex_s hv ho hn hsort (by omega) hs7) ?_
 rintro _ w8 ⟨rfl, hs9⟩; clear hs7
 rw [posN_end hend, hasN_end hend, hn]
 refine oV (xMove rfl) rfl (oV (xExtract rfl rfl) rfl (oV (xExtract rfl rfl) rfl (oV (xAssign rfl) rfl (oV (xAssign rfl) rfl (oEnd (kSeq (rSeq (rBlk (rSeq (rReg (oV (xMove rfl) rfl (oV (xMove rfl) rfl (oGuardT rfl rfl (oV (xMove rfl) rfl (oGuardT rfl rfl (oV (xFA (j' := 1) underlying386 rfl sizeOf33 rfl rfl) rfl (oGuardT rfl rfl (oV (xLoad hs9 isAgg33 rfl (i := 2) rfl rfl) rfl (oGuardT rfl rfl ?_)))))))))))))))))))
 replace hs9 := hs9.f1
 replace hs9 := hs9.f1
 refine oCall call299 rfl rfl (tnumber_s hv ho hn hnum (by omega) hs9) ?_
 rintro _ w10 ⟨rfl, hs11⟩; clear hs9
 refine oGuardT rfl rfl (oV (xCmp (r := false) rfl rfl rGeq) rfl (oV (xPickF rfl rfl) rfl (oV (xAssign rfl) rfl (oEnd (kSeq (rCondF rfl (rSeq (rRegQ (by kernel_rfl) (by kernel_rfl) hs11 ?_))))))))
 refine qV (fun w hq => xFA (j' := 1) underlying386 rfl sizeOf33 rfl rfl) rfl ?_
 refine qV (fun w hq => xLoad hq isAgg33 rfl (i := 2) rfl rfl) rfl ?_
 refine qV (fun w hq => xMove rfl) rfl ?_
 refine qV (fun w hq => xNil rfl) rfl ?_
 refine qV (fun w hq => xFA (j' := 3) underlying365 rfl sizeOf33 rfl rfl) rfl ?_
 refine qV (fun w hq => xLoad hq isAgg33 rfl (i := 1) rfl rfl) rfl ?_
 refine qV (fun w hq => xCmp (r := false) rfl rfl (bF (by omega) rLeq)) rfl ?_
 refine qV (fun w hq => xMove rfl) rfl ?_
 refine qGuardT rfl rfl ?_
 refine qV (fun w hq => xFA (j' := 1) underlying386 rfl sizeOf33 rfl rfl) rfl ?_
 refine qGuardT rfl rfl ?_
 refine qV (fun w hq => xLoad hq isAgg33 rfl (i := 2) rfl rfl) rfl ?_
 refine qGuardT rfl rfl ?_
 refine qV (fun w hq => xMove rfl) rfl ?_
 refine qGuardT rfl rfl ?_
 refine qV (fun w hq => xNil rfl) rfl ?_
 refine qGuardT rfl rfl ?_
 refine qV (fun w hq => xFA (j' := 2) underlying365 rfl sizeOf33 rfl rfl) rfl ?_
 refine qGuardT rfl rfl ?_
 refine qV (fun w hq => xLoad hq isAgg33 rfl (i := 1) rfl rfl) rfl ?_
 refine qGuardT rfl rfl ?_
 refine qV (fun w hq => xCmp (r := false) rfl rfl (bF (by omega) rGeq)) rfl ?_
 refine qV (fun w hq => xPickF rfl rfl) rfl ?_
 refine qV (fun w hq => xAssign rfl) rfl ?_
 refine qEnd (fun w13 hs12 => ?_); clear hs11
 refine kSeq ?_
 refine rCondF rfl (rSeq (Run.sub (e' := [(0, (ptr t)), (3, (ptr b1)), (4, (I 0)), (5, (I (n : Int)))]) ⟨rfl, rfl, rfl, rfl, trivial⟩ ?_))
 refine rReg (oV (xMove rfl) rfl (oV (xNil rfl) rfl (oV (xFA (j' := 4) underlying365 rfl sizeOf363 rfl rfl) rfl (oV (xLoad hs12 isAgg363 rfl (i := 1) rfl rfl) rfl (oV (xB1 rfl (rLenS underlying363)) rfl (oV (xCmp (r := false) rfl rfl (bF (by omega) rGeq)) rfl (oV (xAssign rfl) rfl (oEnd (kSeq (rCondF rfl (rSkip (kBlk (kSeq (rSeq ?_))))))))))))))
 refine rRegG [(some 21, fun w => ∃ M, Sep W0 w (row t 365 [(I (ns : Int)), (I (nn : Int)), (.int .u32 (nx.toNat : Int)), (.int .u32 (la.toNat : Int)), (.slice a n cp)] :: M)), (none, fun w => ∃ M, Sep W0 w (row b1 386 [(I 2), (.int .u32 (o.num.toNat : Int)), (.string ⟨#[o.nm]⟩), (I (o.len : Int)), (I (o.cnt : Int)), (I (o.pc : Int)), (.slice oa o.pl.length ocp), (I 0), (I 0), (I 0), (.int .u32 0)] :: M))] (by kernel_rfl) hs12 (fun w14 hs15 => ⟨?_, fun hS => ?_⟩)
 · exact ⟨fun _ => ⟨_, (Sep.front (i := 1) rfl hs15)⟩, ⟨_, (Sep.front (i := 2) rfl hs15)⟩, trivial⟩
 clear hs12
 refine gTake0 0 rfl (by kernel_rfl) hS (fun w => xMove rfl) rfl ?_
 clear hS; intro hS
 refine gTake0 1 rfl (by kernel_rfl) hS (fun w => xMove rfl) rfl ?_
 clear hS; intro hS
 refine gTake0 2 rfl (by kernel_rfl) hS (fun w => xNil rfl) rfl ?_
 clear hS; intro hS
 refine gTake0 3 rfl (by kernel_rfl) hS (fun w => xFA (j' := 4) underlying365 rfl sizeOf363 rfl rfl) rfl ?_
 clear hS; intro hS
 refine gTake 4 0 rfl (by kernel_rfl) rfl (by kernel_rfl) hS (fun w hq0 => by obtain ⟨M, hq⟩ := hq0; exact xLoad hq isAgg363 rfl (i := 0) rfl rfl) rfl ?_
 clear hS; intro hS
 refine gTake0 6 rfl (by kernel_rfl) hS (fun w => xMove rfl) rfl ?_
 clear hS; intro hS
 refine gTake0 7 rfl (by kernel_rfl) hS (fun w => xFA (j' := 1) underlying386 rfl sizeOf33 rfl rfl) rfl ?_
 clear hS; intro hS
 refine gTake 8 1 rfl (by kernel_rfl) rfl (by kernel_rfl) hS (fun w hq0 => by obtain ⟨M, hq⟩ := hq0; exact xLoad hq isAgg33 rfl (i := 0) rfl rfl) rfl ?_
 clear hS; intro hS
 refine gTake0 9 rfl (by kernel_rfl) hS (fun w => xFA (j' := 2) underlying386 rfl sizeOf9 rfl rfl) rfl ?_
 clear hS; intro hS
 refine gTake 10 1 rfl (by kernel_rfl) rfl (by kernel_rfl) hS (fun w hq0 => by obtain ⟨M, hq⟩ := hq0; exact xLoad hq isAgg9 rfl (i := 0) rfl rfl) rfl ?_
 clear hS; intro hS
 refine gTake0 11 rfl (by kernel_rfl) hS (fun w => xFA (j' := 3) underlying386 rfl sizeOf270 rfl rfl) rfl ?_
 clear hS; intro hS
 refine gTake 12 1 rfl (by kernel_rfl) rfl (by kernel_rfl) hS (fun w hq0 => by obtain ⟨M, hq⟩ := hq0; exact xLoadG hq isAgg270 sizeOf270 rfl (i := 0) rfl rfl) rfl ?_
 clear hS; intro hS
 refine gTake0 13 rfl (by kernel_rfl) hS (fun w => xFA (j' := 6) underlying386 rfl sizeOf271 rfl rfl) rfl ?_
 clear hS; intro hS
 refine gTake 14 1 rfl (by kernel_rfl) rfl (by kernel_rfl) hS (fun w hq0 => by obtain ⟨M, hq⟩ := hq0; exact xLoad hq isAgg271 rfl (i := 0) rfl rfl) rfl ?_
 clear hS; intro hS
 refine gTake0 15 rfl (by kernel_rfl) hS (fun w => xBuild (v := (.agg #[(.int .u32 (o.num.toNat : Int)), (.string ⟨#[o.nm]⟩), (I (o.len : Int)), (I (o.cnt : Int)), (I (o.pc : Int)), (.slice oa o.pl.length ocp)])) rfl (fun w => by kernel_rfl)) rfl ?_
 clear hS; intro hS
 refine gEff 5 (by kernel_rfl) rfl ?_
 refine oCall call359 rfl rfl (cloneO_o _ hv (ObsR.one ho) (by omega) hs15) ?_
 rintro _ w20 ⟨a16, k17, cp18, rfl, hk19, hs21⟩; clear hs15; replace hk19 := Eq.symm hk19; subst hk19
 refine oEnd (kG ⟨fun _ => ⟨_, (Sep.front (i := 2) rfl hs21)⟩, ⟨_, (Sep.front (i := 3) rfl hs21)⟩, trivial⟩ ?_)
 clear hS; intro hS
 refine gEff 16 (by kernel_rfl) rfl ?_
 replace hs21 := hs21.f1
 refine oCall call207 rfl rfl (tcopied_s (o := o) hv2 hp2 (by have := hok.pl; have := hok.cnt; omega) (hok.pw hns) hs21) ?_
 rintro _ w29 ⟨f22, a23, cp24, us25, rfl, hle26, hv27, hp28, hs30⟩; clear hs21
 replace hv := hv.mono hle26
 replace ho := ho.mono hle26
 replace hv2 := hv2.mono hle26
 replace hp2 := hp2.mono hle26
 refine oEnd (kG ⟨fun _ => ⟨_, (Sep.front (i := 2) rfl hs30)⟩, ⟨_, (Sep.front (i := 3) rfl hs30)⟩, trivial⟩ ?_)
 clear hS; intro hS
 refine gEff 17 (by kernel_rfl) rfl ?_
 refine oBuildSlice (el := 273) (cs := [(.int .u32 (o.num.toNat : Int)), (.string ⟨#[o.nm]⟩), (I (o.len : Int)), (I (o.cnt : Int)), (I (o.pc : Int)), (.slice a23 o.pl.length cp24)]) hs30 rfl (fun w => by kernel_rfl) rfl ?_
 intro b31 w32 hs33; clear hs30
 refine oEnd (kG ⟨fun _ => ⟨_, (Sep.front (i := 3) rfl hs33)⟩, ⟨_, (Sep.front (i := 4) rfl hs33)⟩, trivial⟩ ?_)
 clear hS; intro hS
 refine gEff 18 (by kernel_rfl) rfl ?_
 replace hs33 := hs33.f2
 refine oCall call358 rfl rfl (tins_s (o := o) (ObsR.one ho) (by omega) hs33) ?_
 rintro _ w36 ⟨a34, cp35, rfl, hs37⟩; clear hs33
 refine oEnd (kG ⟨fun _ => ⟨_, (Sep.front (i := 2) rfl hs37)⟩, ⟨_, (Sep.front (i := 3) rfl hs37)⟩, trivial⟩ ?_)
 clear hS; intro hS
 refine gTake0 19 rfl (by kernel_rfl) hS (fun w => xNil rfl) rfl ?_
 clear hS; intro hS
 refine gTake0 20 rfl (by kernel_rfl) hS (fun w => xFA (j' := 4) underlying365 rfl sizeOf363 rfl rfl) rfl ?_
 clear hS; intro hS
 refine gEff 21 (by kernel_rfl) rfl ?_
 refine oStore hs37 sizeOf363 rfl rfl rfl (i := 2) rfl rfl ?_
 intro w38 hs39; clear hs37; dsimp only [List.set] at hs39
 refine oEnd (kG ⟨(tillDone (by kernel_rfl)), ⟨_, (Sep.front (i := 3) rfl hs39)⟩, trivial⟩ ?_)
 clear hS; intro hS
 refine gEnd (by kernel_rfl) ?_
 clear hS
 refine kSeq ?_
 refine rSeq (rReg (oV (xMove rfl) rfl (oV (xFA (j' := 1) underlying386 rfl sizeOf33 rfl rfl) rfl (oV (xLoad hs39 isAgg33 rfl (i := 3) rfl rfl) rfl (oV (xNil rfl) rfl (oV (xFA (j' := 3) underlying365 rfl sizeOf33 rfl rfl) rfl (oStore hs39 sizeOf33 rfl rfl rfl (i := 2) rfl rfl ?_)))))))
 intro w40 hs41; clear hs39; dsimp only [List.set] at hs41
 refine oEnd (kSeq (rSeq (rReg (oV (xAssign rfl) rfl (oEnd (kSeq (rRet (kFin (.tmp rfl (.nil)) ?_))))))))
 replace hs41 := hs41.f1
 obtain ⟨f42, hle43, hv44, hs45⟩ := Sep.freezeOwn (i := 0) hs41 rfl; clear hs41; dsimp only [List.eraseIdx] at hs45
 replace hv := hv.mono hle43
 replace ho := ho.mono hle43
 replace hv2 := hv2.mono hle43
 replace hp2 := hp2.mono hle43
 replace hv27 := hv27.mono hle43
 replace hp28 := hp28.mono hle43
 replace hs45 := hs45.d2
 exact ⟨_, _, _, _, rfl, (FLe.trans hle26 hle43), hv44, ObsR.snoc ho hv27 hp28, hs45⟩
end Go.Sl
namespace Go.Sl
open Go.Proofs Go.Proofs.Tryz
theorem tappc_s {W0 w : World} {L : List Asn} {t ns nn n cp : Nat} {nx la : UInt32} {a : Option Addr} {f : HF} {cs : List Value} {obs : List Ob} (hv : Reads f 6 (.slice a n cp) n cs) (ho : ObsR f cs obs) (hn : obs.length = n) {o : Ob} {oa : Option Addr} {ocp : Nat} {us : List Value} (hv2 : Reads f 1 (.slice oa o.pl.length ocp) o.pl.length us) (hp2 : PlR f us o.pl) (hok : ObOk ns nn o) (hnn : nn ≤ 32) (hns : ns ≤ 1000) (hc1 : 32 < o.nm.toNat) (hc2 : o.nm.toNat ≤ 126) (hsort : SortO obs) (hend : ∀ x ∈ obs, x.nm < o.nm) (hnum : ∀ x ∈ obs, x.num ≠ o.num) (hla : la.toNat < o.num.toNat) (hnx : o.num.toNat < nx.toNat) (hn64 : n < 64) (hs : Sep W0 w (pool f :: row t 365 [I (ns : Int), I (nn : Int), U nx, U la, .slice a n cp] :: L)) : Calls Tryz.prog 252 [ptr t, .agg #[I 2, U o.num, nmS o.nm, I (o.len : Int), I (o.cnt : Int), I (o.pc : Int), .slice oa o.pl.length ocp, I 0, I 0, I 0, .int .u32 0]].toArray w
 (Ret fun r w' => ∃ f' a' cp' cs', r = .int .i64 0 ∧ FLe f f' ∧ Reads f' 6 (.slice a' (n + 1) cp') (n + 1) cs' ∧ ObsR f' cs' (obs ++ [o]) ∧ Sep W0 w' (pool f' :: row t 365 [I (ns : Int), I (nn : Int), U nx, U o.num, .slice a' (n + 1) cp'] :: L)) := by
 refine enter (args := [(ptr t), (.agg #[(I 2), (.int .u32 (o.num.toNat : Int)), (.string ⟨#[o.nm]⟩), (I (o.len : Int)), (I (o.cnt : Int)), (I (o.pc : Int)), (.slice oa o.pl.length ocp), (I 0), (I 0), (I 0), (.int .u32 0)])]) (n := 29) (rs := [.tmp 4]) func252 rfl rfl rfl rfl ?_
 refine rSeq (rReg (oBox hs rfl rfl rfl ?_))
 intro b1 w2 hs3; clear hs
 refine oV (xAssign rfl) rfl (oEnd (kSeq (rSeq (rSeq (rReg (oV (xMove rfl) rfl (oV (xBin (r := .bool false) rfl rfl (fun _ => rfl) (fun w => by kernel_rfl)) rfl (oEnd (kSeq (rCondF rfl (rSkip (kSeq (rSeq (rSeq (rReg (oV (xFA (j' := 0) underlying386 rfl sizeOf3 rfl rfl) rfl (oV (xLoad hs3 isAgg3 rfl (i := 0) rfl rfl) rfl (oEnd (kSeq (rBlk (rSeq (rReg (oV (xCmp (r := false) rfl rfl rEql) rfl (oV (xAssign rfl) rfl (oEnd (kSeq (rCondF rfl (rSeq (rReg (oV (xCmp (r := true) rfl rfl rEql) rfl (oV (xAssign rfl) rfl (oEnd (kSeq (rCondT rfl (rSeq (rReg (oV (xMove rfl) rfl (oV (xLoadG hs3 isAgg386 sizeOf386 rfl (i := 0) rfl rfl) rfl ?_))))))))))))))))))))))))))))))))))))))
 replace hs3 := hs3.f2
 replace hs3 := hs3.f2
 refine oCall call326 rfl rfl (tcommit_s hv ho hn hv2 hp2 hok hnn hns hc1 hc2 hsort hend hnum hla hnx hn64 hs3) ?_
 rintro _ w11 ⟨f4, a5, cp6, cs7, rfl, hle8, hv9, ho10, hs12⟩; clear hs3
 replace hv := hv.mono hle8
 replace ho := ho.mono hle8
 replace hv2 := hv2.mono hle8
 replace hp2 := hp2.mono hle8
 refine oV (xAssign rfl) rfl (oEnd (kSeq (rRet (kBlkR (kSeqR (kFin (.tmp rfl (.nil)) ?_))))))
 replace hs12 := hs12.d2
 exact ⟨_, _, _, _, rfl, hle8, hv9, ho10, hs12⟩
theorem tcopy_s {W0 w : World} {L : List Asn} {t ns nn n cp : Nat} {nx la : UInt32} {a : Option Addr} {f : HF} {cs : List Value} {obs : List Ob} (hv : Reads f 6 (.slice a n cp) n cs) (ho : ObsR f cs obs) (hn : obs.length = n) (hB : ObsB obs) (hn2 : n ≤ 1000) (hs : Sep W0 w (pool f :: row t 365 [I (ns : Int), I (nn : Int), U nx, U la, .slice a n cp] :: L)) : Calls Tryz.prog 339 [ptr t].toArray w
 (Ret fun r w' => ∃ f' t2 a' cp' cs', r = ptr t2 ∧ FLe f f' ∧ Reads f' 6 (.slice a' n cp') n cs' ∧ ObsR f' cs' obs ∧ Sep W0 w' (pool f' :: row t2 365 [I (ns : Int), I (nn : Int), U nx, U la, .slice a' n cp'] :: row t 365 [I (ns : Int), I (nn : Int), U nx, U la, .slice a n cp] :: L)) := by
 refine enter (args := [(ptr t)]) (n := 33) (rs := [.tmp 2]) func339 rfl rfl rfl rfl ?_
 refine rSeq (rReg (oV (xAssign rfl) rfl (oEnd (kSeq (rSeq (rSeq (rReg (oV (xMove rfl) rfl (oV (xBin (r := .bool false) rfl rfl (fun _ => rfl) (fun w => by kernel_rfl)) rfl (oEnd (kSeq (rCondF rfl (rSkip (kSeq (rSeq (rReg (oV (xMove rfl) rfl (oV (xNil rfl) rfl (oV (xLoadG hs isAgg365 sizeOf365 rfl (i := 1) rfl rfl) rfl (oAlloc hs zeroValue365 rfl rfl ?_))))))))))))))))))))
 intro b1 w2 hs3; clear hs
 refine oStoreG hs3 sizeOf365 rfl rfl rfl rfl (i := 0) rfl rfl ?_
 intro w4 hs5; clear hs3; dsimp only [List.set, putAt] at hs5
 refine oEnd (kSeq (rSeq (rReg (oV (xMove rfl) rfl (oV (xNil rfl) rfl (oV (xFA (j' := 4) underlying365 rfl sizeOf363 rfl rfl) rfl (oV (xLoad hs5 isAgg363 rfl (i := 2) rfl rfl) rfl ?_)))))))
 replace hs5 := hs5.f1
 refine oCall call359 rfl rfl (cloneO_o _ hv (ObsR.one ho) (by omega) hs5) ?_
 rintro _ w10 ⟨a6, k7, cp8, rfl, hk9, hs11⟩; clear hs5; replace hk9 := Eq.symm hk9; subst hk9
 refine oV (xFA (j' := 4) underlying365 rfl sizeOf363 rfl rfl) rfl (oStore hs11 sizeOf363 rfl rfl rfl (i := 2) rfl rfl ?_)
 intro w12 hs13; clear hs11; dsimp only [List.set] at hs13
 refine oEnd (kSeq (rSeq (rSeq (rReg (oV (xFA (j' := 4) underlying365 rfl sizeOf363 rfl rfl) rfl (oV (xLoad hs13 isAgg363 rfl (i := 2) rfl rfl) rfl (oV (xB1 rfl (rLenS underlying363)) rfl (oV (xMove rfl) rfl (oEnd (kSeq (rBlk ?_)))))))))))
 replace hs13 := hs13.f1
 replace hs13 := hs13.f3
 replace hs13 := hs13.f3
 replace hs13 := hs13.f3
 refine rLoop (fun mz e w => ∃ (i : Nat) (csx : List Value) (f14 : HF), n - i = mz ∧ e = [(3, (ptr b1)), (18, (I (n : Int))), (19, (I (i : Int)))] ∧ (i ≤ n) ∧ (ObsR f14 csx obs) ∧ (FLe f f14) ∧ (Reads f14 6 (.slice a n cp) n cs) ∧ (ObsR f14 cs obs) ∧ Sep W0 w (own 273 6 (.slice a6 n cp8) n csx :: row b1 365 [(I (ns : Int)), (I (nn : Int)), (.int .u32 (nx.toNat : Int)), (.int .u32 (la.toNat : Int)), (.slice a6 n cp8)] :: row t 365 [(I (ns : Int)), (I (nn : Int)), (.int .u32 (nx.toNat : Int)), (.int .u32 (la.toNat : Int)), (.slice a n cp)] :: pool f14 :: L)) ⟨_, _, ⟨0, _, f, rfl, rfl, (by omega), (ho), (FLe.refl _), (hv), (ho), hs13⟩, ⟨rfl, rfl, rfl, trivial⟩⟩ ?_
 clear hs13; rintro mz e w ⟨i, csx, f14, rfl, rfl, hi, hox, hle15, hv, ho, hs⟩
 have hcl := hox.len
 refine rSeq (rReg (oV (xCmp rfl rfl rLss) rfl (oEnd (kSeq (rSeq ?_)))))
 refine rCondD rfl (fun hc16 => ?_) (fun hc16 => ?_)
 · refine rSkip (kSeq (rSeq (rBlk (rSeq (rReg (oV (xMove rfl) rfl (oV (xAssign rfl) rfl (oEnd (kSeq ?_)))))))))
   refine rRegG [(none, fun w => ∃ M, Sep W0 w (row b1 365 [(I (ns : Int)), (I (nn : Int)), (.int .u32 (nx.toNat : Int)), (.int .u32 (la.toNat : Int)), (.slice a6 n cp8)] :: M)), (some 10, fun w => ∃ M, Sep W0 w (own 273 6 (.slice a6 n cp8) n csx :: M))] (by kernel_rfl) hs (fun w17 hs18 => ⟨?_, fun hS => ?_⟩)
   · exact ⟨⟨_, (Sep.front (i := 1) rfl hs18)⟩, fun _ => ⟨_, (Sep.front (i := 0) rfl hs18)⟩, trivial⟩
   clear hs
   refine gTake0 0 rfl (by kernel_rfl) hS (fun w => xFA (j' := 4) underlying365 rfl sizeOf363 rfl rfl) rfl ?_
   clear hS; intro hS
   refine gTake 1 0 rfl (by kernel_rfl) rfl (by kernel_rfl) hS (fun w hq0 => by obtain ⟨M, hq⟩ := hq0; exact xLoad hq isAgg363 rfl (i := 0) rfl rfl) rfl ?_
   clear hS; intro hS
   refine gTake0 2 rfl (by kernel_rfl) hS (fun w => xMove rfl) rfl ?_
   clear hS; intro hS
   refine gTake0 3 rfl (by kernel_rfl) hS (fun w => xFA (j' := 4) underlying365 rfl sizeOf363 rfl rfl) rfl ?_
   clear hS; intro hS
   refine gTake 4 0 rfl (by kernel_rfl) rfl (by kernel_rfl) hS (fun w hq0 => by obtain ⟨M, hq⟩ := hq0; exact xLoad hq isAgg363 rfl (i := 0) rfl rfl) rfl ?_
   clear hS; intro hS
   refine gTake0 5 rfl (by kernel_rfl) hS (fun w => xMove rfl) rfl ?_
   clear hS; intro hS
   obtain ⟨b19, rfl⟩ := Sep.ownAddr (i := 0) hs18 rfl (by omega)
   refine gTake0 6 rfl (by kernel_rfl) hS (fun w => xIA (o' := (i * 6)) underlying363 sizeOf273 rfl rfl (by omega) (by omega) (by omega)) rfl ?_
   clear hS; intro hS
   obtain ⟨a21, cp22, us23, ht24, hv25, hp26⟩ := hox.get i (by omega)
   have hmem : (obs.getD i default) ∈ obs := by rw [List.getD_eq_getElem?_getD, List.getElem?_eq_getElem (show i < obs.length by omega)]; exact List.getElem_mem _
   refine gTake 7 1 rfl (by kernel_rfl) rfl (by kernel_rfl) hS (fun w hq0 => by obtain ⟨M, hq⟩ := hq0; exact xLoadGC isAgg273 sizeOf273 (j := i * 6) rfl rfl (Sep.ownCells (P := Tryz.prog) hq (i := 0) (m := 6) rfl ht24)) rfl ?_
   clear hS; intro hS
   refine gEff 8 (by kernel_rfl) rfl ?_
   replace hs18 := hs18.f3
   refine oCall call207 rfl rfl (tcopied_s (o := (obs.getD i default)) hv25 hp26 (hB.pl hmem) (hB.pw hmem) hs18) ?_
   rintro _ w34 ⟨f27, a28, cp29, us30, rfl, hle31, hv32, hp33, hs35⟩; clear hs18
   replace hv := hv.mono hle31
   replace ho := ho.mono hle31
   replace hox := hox.mono hle31
   replace hv25 := hv25.mono hle31
   replace hp26 := hp26.mono hle31
   refine oEnd (kG ⟨⟨_, (Sep.front (i := 2) rfl hs35)⟩, fun _ => ⟨_, (Sep.front (i := 1) rfl hs35)⟩, trivial⟩ ?_)
   clear hS; intro hS
   refine gTake0 9 rfl (by kernel_rfl) hS (fun w => xIA (o' := (i * 6)) underlying363 sizeOf273 rfl rfl (by omega) (by omega) (by omega)) rfl ?_
   clear hS; intro hS
   refine gEff 10 (by kernel_rfl) rfl ?_
   refine oStoreGO (j := i * 6) (m := 6) (vs := obC (obs.getD i default) (.slice a28 ((obs.getD i default).pl.length) cp29)) hs35 sizeOf273 rfl rfl (obC_one _ _ _ _) rfl (i := 1) rfl (by omega) ?_
   intro w36 hs37; clear hs35; dsimp only [List.set] at hs37
   refine oEnd (kG ⟨⟨_, (Sep.front (i := 2) rfl hs37)⟩, (tillDone (by kernel_rfl)), trivial⟩ ?_)
   clear hS; intro hS
   refine gEnd (by kernel_rfl) ?_
   clear hS
   refine kBlk (kSeq ?_)
   refine rReg (oV (xAr rfl rfl (rAdd (wI (by omega) (by omega)))) rfl (oV (xMove rfl) rfl ?_))
   replace hs37 := hs37.f3
   replace hs37 := hs37.f3
   replace hs37 := hs37.f3
   exact oEnd (kLoop (n - (i + 1)) _ (by omega) ⟨i + 1, _, f27, rfl, rfl, (by omega), (ObsR.put hox (by omega) hv32 hp33), (FLe.trans hle15 hle31), (hv), (ho), hs37⟩ ⟨rfl, rfl, rfl, trivial⟩)
 · refine rExit (kSeqX (kLoopX (kBlkH (kSeq (rSeq (rReg (oV (xAssign rfl) rfl (oEnd (kSeq (rRet (kFin (.tmp rfl (.nil)) ?_)))))))))))
   replace hs := hs.f3
   obtain ⟨f38, hle39, hv40, hs41⟩ := Sep.freezeOwn (i := 0) hs rfl; clear hs; dsimp only [List.eraseIdx] at hs41
   replace hv := hv.mono hle39
   replace ho := ho.mono hle39
   replace hox := hox.mono hle39
   exact ⟨_, _, _, _, _, rfl, (FLe.trans hle15 hle39), hv40, hox, hs41⟩
def ObsG (ns nn : Nat) (obs : List Ob) : Prop := ∀ o ∈ obs, ∀ l ∈ o.pl, PlOk ns nn l
theorem ObsG.at {ns nn : Nat} {obs : List Ob} (h : ObsG ns nn obs) {i j : Nat} (hi : i < obs.length) (hj : j < (obs.getD i default).pl.length) : PlOk ns nn ((obs.getD i default).pl.getD j []) := by
 refine h (obs.getD i default) ?_ _ ?_
 · rw [List.getD_eq_getElem?_getD, List.getElem?_eq_getElem hi]; exact List.getElem_mem _
 · rw [List.getD_eq_getElem?_getD (l := (obs.getD i default).pl), List.getElem?_eq_getElem hj]; exact List.getElem_mem _
theorem ObsG.b {ns nn : Nat} {obs : List Ob} (h : ObsG ns nn obs) (hns : ns ≤ 24) (hl : ∀ o ∈ obs, o.pl.length ≤ 32) : ObsB obs := fun o ho => ⟨hl o ho, fun l hm => by rw [(h o ho l hm).len]; exact hns⟩
theorem tuse_s {W0 w : World} {L : List Asn} {t ns nn n cp : Nat} {nx la : UInt32} {a : Option Addr} {f : HF} {cs : List Value} {obs : List Ob} (hv : Reads f 6 (.slice a n cp) n cs) (ho : ObsR f cs obs) (hn : obs.length = n) (hgood : ObsG ns nn obs) (hB : ObsB obs) (hnn : nn ≤ 32) (hn2 : n ≤ 1000) (hs : Sep W0 w (pool f :: row t 365 [I (ns : Int), I (nn : Int), U nx, U la, .slice a n cp] :: L)) : Calls Tryz.prog 342 [ptr t].toArray w
 (Ret fun r w' => ∃ (a' : Option Addr) (cp' : Nat) (ls : List Int), r = .slice a' nn cp' ∧ ls.length = nn ∧ Sep W0 w' (own 3 1 (.slice a' nn cp') nn (Iv ls) :: pool f :: row t 365 [I (ns : Int), I (nn : Int), U nx, U la, .slice a n cp] :: L)) := by
 refine enter (args := [(ptr t)]) (n := 50) (rs := [.tmp 2]) func342 rfl rfl rfl rfl ?_
 refine rSeq (rReg (oV (xAssign rfl) rfl (oEnd (kSeq (rSeq (rSeq (rReg (oV (xMove rfl) rfl (oV (xBin (r := .bool false) rfl rfl (fun _ => rfl) (fun w => by kernel_rfl)) rfl (oEnd (kSeq (rCondF rfl (rSkip (kSeq (rSeq (rReg (oV (xMove rfl) rfl (oV (xNil rfl) rfl (oV (xFA (j' := 1) underlying365 rfl sizeOf3 rfl rfl) rfl (oV (xLoad hs isAgg3 rfl (i := 1) rfl rfl) rfl (oMake (k := nn) (c := nn) (size := 1) (bytes := 8) (inf := Tryz.t3) hs underlying52 (by kernel_rfl) rfl rfl rfl rfl rfl (by omega) (by omega) (by omega) (by omega) (by omega) rfl ?_)))))))))))))))))))))
 intro b1 w2 hs3; clear hs
 rw [made1 (I 0) rfl] at hs3
 rw [Iv_rep] at hs3
 refine oV (xAssign rfl) rfl (oEnd (kSeq (rSeq (rSeq (rReg (oV (xMove rfl) rfl (oV (xNil rfl) rfl (oV (xFA (j' := 4) underlying365 rfl sizeOf363 rfl rfl) rfl (oV (xLoad hs3 isAgg363 rfl (i := 2) rfl rfl) rfl (oV (xB1 rfl (rLenS underlying363)) rfl (oV (xMove rfl) rfl (oEnd (kSeq (rBlk (rLoop (fun mz e w => ∃ (i : Nat) (ls : List Int), n - i = mz ∧ e = [(3, (.slice (some ⟨b1, 0, none⟩) nn nn)), (20, (.slice a n cp)), (21, (I (n : Int))), (22, (I (i : Int)))] ∧ (i ≤ n) ∧ (ls.length = nn) ∧ Sep W0 w (own 3 1 (.slice (some ⟨b1, 0, none⟩) nn nn) nn (Iv ls) :: pool f :: row t 365 [(I (ns : Int)), (I (nn : Int)), (.int .u32 (nx.toNat : Int)), (.int .u32 (la.toNat : Int)), (.slice a n cp)] :: L)) ⟨_, _, ⟨0, _, rfl, rfl, (by omega), (by simp), hs3⟩, ⟨rfl, rfl, rfl, rfl, trivial⟩⟩ ?_)))))))))))))))
 clear hs3; rintro mz e w ⟨i, ls, rfl, rfl, hi, hll, hs⟩
 refine rSeq (rReg (oV (xCmp rfl rfl rLss) rfl (oEnd (kSeq (rSeq ?_)))))
 refine rCondD rfl (fun hc4 => ?_) (fun hc4 => ?_)
 · have hBi := hB (obs.getD i default) (by rw [List.getD_eq_getElem?_getD, List.getElem?_eq_getElem (show i < obs.length by omega)]; exact List.getElem_mem _)
   refine rSkip (kSeq (rSeq (rBlk (rSeq (rReg ?_)))))
   obtain ⟨b5, off6, rfl⟩ := Reads.at hv (by omega)
   refine oV (xIA (o' := off6 + i * 6) underlying363 sizeOf273 rfl rfl (by omega) (by omega) (by omega)) rfl ?_
   obtain ⟨a7, cp8, us9, ht10, hv11, hp12⟩ := ObsR.get ho i (by omega)
   refine oV (xLoadGC isAgg273 sizeOf273 rfl rfl (reads_cells hv hs (i := 1) rfl ht10)) rfl (oAlloc hs zeroValue273 rfl rfl ?_)
   intro b13 w14 hs15; clear hs
   refine oStoreG hs15 sizeOf273 rfl rfl rfl rfl (i := 0) rfl rfl ?_
   intro w16 hs17; clear hs15; dsimp only [List.set, putAt] at hs17
   refine oEnd (kSeq (rSeq (rReg (oV (xFA (j' := 5) underlying273 rfl sizeOf271 rfl rfl) rfl (oV (xLoad hs17 isAgg271 rfl (i := 0) rfl rfl) rfl (oV (xB1 rfl (rLenS underlying271)) rfl (oV (xMove rfl) rfl (oEnd (kSeq (rBlk ?_))))))))))
   replace hs17 := hs17.d0
   refine rLoop (fun mz e w => ∃ (j : Nat) (ls2 : List Int), (obs.getD i default).pl.length - j = mz ∧ e = [(3, (.slice (some ⟨b1, 0, none⟩) nn nn)), (20, (.slice (some ⟨b5, off6, none⟩) n cp)), (21, (I (n : Int))), (22, (I (i : Int))), (27, (.slice a7 ((obs.getD i default).pl.length) cp8)), (28, (I ((obs.getD i default).pl.length : Int))), (29, (I (j : Int)))] ∧ (j ≤ (obs.getD i default).pl.length) ∧ (ls2.length = nn) ∧ Sep W0 w (own 3 1 (.slice (some ⟨b1, 0, none⟩) nn nn) nn (Iv ls2) :: pool f :: row t 365 [(I (ns : Int)), (I (nn : Int)), (.int .u32 (nx.toNat : Int)), (.int .u32 (la.toNat : Int)), (.slice (some ⟨b5, off6, none⟩) n cp)] :: L)) ⟨_, _, ⟨0, _, rfl, rfl, (by omega), (hll), hs17⟩, ⟨rfl, rfl, rfl, rfl, rfl, rfl, rfl, trivial⟩⟩ ?_
   clear hs17; rintro mz e w ⟨j, ls2, rfl, rfl, hj, hll2, hs⟩
   refine rSeq (rReg (oV (xCmp rfl rfl rLss) rfl (oEnd (kSeq (rSeq ?_)))))
   refine rCondD rfl (fun hc18 => ?_) (fun hc18 => ?_)
   · have hBw := ObsB.pw hB (o := obs.getD i default) (by rw [List.getD_eq_getElem?_getD, List.getElem?_eq_getElem (show i < obs.length by omega)]; exact List.getElem_mem _) j
     refine rSkip (kSeq (rSeq (rBlk (rSeq (rReg ?_)))))
     obtain ⟨b19, off20, rfl⟩ := Reads.at hv11 (by omega)
     refine oV (xIA (o' := off20 + j) underlying271 sizeOf276 rfl rfl (by omega) (by omega) (by omega)) rfl ?_
     obtain ⟨a21, cp22, he23, hb24⟩ := PlR.get hp12 j (by omega)
     refine oV (xLoadC isAgg276 rfl (Reads.cell hv11 hs (i := 1) rfl he23)) rfl (oV (xAssign rfl) rfl (oEnd (kSeq (rSeq (rReg (oV (xMove rfl) rfl (oV (xB1 rfl (rLenS underlying276)) rfl (oV (xMove rfl) rfl (oEnd (kSeq (rBlk ?_)))))))))))
     refine rLoop (fun mz e w => ∃ (m : Nat) (ls3 : List Int), ((obs.getD i default).pl.getD j []).length - m = mz ∧ e = [(3, (.slice (some ⟨b1, 0, none⟩) nn nn)), (20, (.slice (some ⟨b5, off6, none⟩) n cp)), (21, (I (n : Int))), (22, (I (i : Int))), (27, (.slice (some ⟨b19, off20, none⟩) ((obs.getD i default).pl.length) cp8)), (28, (I ((obs.getD i default).pl.length : Int))), (29, (I (j : Int))), (33, (.slice a21 ((((obs.getD i default).pl).getD j []).length) cp22)), (34, (I ((((obs.getD i default).pl).getD j []).length : Int))), (35, (I (m : Int)))] ∧ (m ≤ ((obs.getD i default).pl.getD j []).length) ∧ (ls3.length = nn) ∧ Sep W0 w (own 3 1 (.slice (some ⟨b1, 0, none⟩) nn nn) nn (Iv ls3) :: pool f :: row t 365 [(I (ns : Int)), (I (nn : Int)), (.int .u32 (nx.toNat : Int)), (.int .u32 (la.toNat : Int)), (.slice (some ⟨b5, off6, none⟩) n cp)] :: L)) ⟨_, _, ⟨0, _, rfl, rfl, (by omega), (hll2), hs⟩, ⟨rfl, rfl, rfl, rfl, rfl, rfl, rfl, rfl, rfl, rfl, trivial⟩⟩ ?_
     clear hs; rintro mz e w ⟨m, ls3, rfl, rfl, hm, hll3, hs⟩
     refine rSeq (rReg (oV (xCmp rfl rfl rLss) rfl (oEnd (kSeq (rSeq ?_)))))
     refine rCondD rfl (fun hc25 => ?_) (fun hc25 => ?_)
     · have hlt := (hgood.at (i := i) (j := j) (by omega) (by omega)).at (i := m) (by omega)
       refine rSkip (kSeq (rSeq (rBlk (rSeq (rReg ?_)))))
       obtain ⟨b26, off27, rfl⟩ := Reads.at hb24 (by omega)
       refine oV (xIA (o' := off27 + m * 2) underlying276 sizeOf278 rfl rfl (by omega) (by omega) (by omega)) rfl (oV (xLoadGC isAgg278 sizeOf278 rfl rfl (reads_cells hb24 hs (i := 1) rfl (plC_take (by omega)))) rfl (oAlloc hs zeroValue278 rfl rfl ?_))
       intro b28 w29 hs30; clear hs
       refine oStoreG hs30 sizeOf278 rfl rfl rfl rfl (i := 0) rfl rfl ?_
       intro w31 hs32; clear hs30; dsimp only [List.set, putAt] at hs32
       refine oEnd (kSeq (rReg (oV (xMove rfl) rfl (oV (xFA (j' := 0) underlying278 rfl sizeOf3 rfl rfl) rfl (oV (xLoad hs32 isAgg3 rfl (i := 0) rfl rfl) rfl (oV (xIA (o' := (((((obs.getD i default).pl).getD j []).getD m 0 : Nat))) underlying52 sizeOf3 rfl rfl (by omega) (by omega) (by omega)) rfl (oV (xLoadC isAgg3 rfl (Sep.ownCell hs32 (i := 1) rfl (Iv_get (by omega)))) rfl (oV (xAr (r := (IntKind.i64.wrap ((ls3.getD (((((obs.getD i default).pl).getD j []).getD m 0 : Nat)) 0) + 1))) rfl rfl (rAdd rfl)) rfl (oV (xIA (o' := (((((obs.getD i default).pl).getD j []).getD m 0 : Nat))) underlying52 sizeOf3 rfl rfl (by omega) (by omega) (by omega)) rfl (oStoreO hs32 sizeOf3 rfl rfl rfl (i := 1) rfl (Iv_get (by omega)) ?_))))))))))
       intro w33 hs34; clear hs32; dsimp only [List.set] at hs34; rw [Iv_set] at hs34
       refine oEnd (kBlk (kSeq (rReg (oV (xAr rfl rfl (rAdd (wI (by omega) (by omega)))) rfl (oV (xMove rfl) rfl ?_)))))
       replace hs34 := hs34.d0
       exact oEnd (kLoop (((obs.getD i default).pl.getD j []).length - (m + 1)) _ (by omega) ⟨m + 1, _, rfl, rfl, (by omega), (by rw [List.length_set]; exact hll3), hs34⟩ ⟨rfl, rfl, rfl, rfl, rfl, rfl, rfl, rfl, rfl, rfl, trivial⟩)
     · refine rExit (kSeqX (kLoopX (kBlkH (kBlk (kSeq (rReg (oV (xAr rfl rfl (rAdd (wI (by omega) (by omega)))) rfl (oV (xMove rfl) rfl ?_))))))))
       exact oEnd (kLoop ((obs.getD i default).pl.length - (j + 1)) _ (by omega) ⟨j + 1, _, rfl, rfl, (by omega), (hll3), hs⟩ ⟨rfl, rfl, rfl, rfl, rfl, rfl, rfl, trivial⟩)
   · refine rExit (kSeqX (kLoopX (kBlkH (kBlk (kSeq (rReg (oV (xAr rfl rfl (rAdd (wI (by omega) (by omega)))) rfl (oV (xMove rfl) rfl ?_))))))))
     exact oEnd (kLoop (n - (i + 1)) _ (by omega) ⟨i + 1, _, rfl, rfl, (by omega), (hll2), hs⟩ ⟨rfl, rfl, rfl, rfl, trivial⟩)
 · refine rExit (kSeqX (kLoopX (kBlkH (kSeq (rSeq (rReg (oV (xMove rfl) rfl (oV (xAssign rfl) rfl (oEnd (kSeq (rRet (kFin (.tmp rfl (.nil)) ?_))))))))))))
   exact ⟨_, _, _, rfl, hll, hs⟩
end Go.Sl
namespace Go.Sl
open Go.Proofs
section
variable {P : Program} {n : Nat} {K : Kont} {e : Env} {w : World} {ops : Array Oper} {rest : List Oper} {W0 : World} {L : List Asn}
theorem Sep.newPool {f : HF} {o : Obj} (hs : Sep W0 w (pool f :: L)) (w' : World) (h1 : w'.os = w.os) (h2 : w'.tape = w.tape) (h3 : w'.output = w.output) (h4 : w'.heap = w.heap.push o) : ∃ f', FLe f f' ∧ f' w.heap.size = some o ∧ Sep W0 w' (pool f' :: L) := by
  have h5 : Sep W0 { w with heap := w.heap.push o } ((fun h => h w.heap.size = some o) :: pool f :: L) := hs.new fun k hk => hk
  obtain ⟨f', g, h6, h7, h8, h9⟩ := Sep.freeze (i := 0) (Sep.front (i := 1) rfl h5) rfl
  exact ⟨f', h6, h8 _ _ h7, h9.same h1 h2 h3 h4⟩
theorem oStrBytes {d : Nat} {f : HF} {x : Operand} {s : ByteArray} {src dst : TypeId} {ty : TypeId} {pos : String} {af : Array Edge} (hs : Sep W0 w (pool f :: L)) (h1 : P.underlying src = some .string) (h2 : P.underlying dst = some (.slice 5)) (h3 : P.underlying 5 = some (.int .u8))
    (hx : e.ev x = some (.string s)) (hn : Nat.blt d n = true) (hk : ∀ f' a cp w', FLe f f' → RB f' a s.size cp s.data.toList → Sep W0 w' (pool f' :: L) → Ops P n ops K rest ((d, .slice a s.size cp) :: e) w') :
    Ops P n ops K (⟨some d, .convert src dst x, ty, pos, af, none⟩ :: rest) e w := by
  have hr := run_bytes_of_string (P := P) w src dst 5 s h1 h2 h3
  obtain ⟨f', h4, h5, h6⟩ := Sep.newPool hs (w.drew.alloc (.cells (bytesRow s (grownCap w s.size 0 5)) 5 ((bytesRow s (grownCap w s.size 0 5)).size, (bytesRow s (grownCap w s.size 0 5)).size + 1))) rfl rfl rfl rfl
  refine Ops.val rfl rfl hn (fun a ha => ?_) (hk f' (some ⟨w.heap.size, 0, none⟩) (grownCap w s.size 0 5) _ h4 ?_ h6)
  · simp only [execOp, ha.ev hx, Sem.run_bind, hr, Result.andThen_ok, Sem.run_pure]
  · refine ⟨by simp, .inl ⟨w.heap.size, 0, _, _, _, _, rfl, grownCap_ge w s.size 0 5, h5, fun j u hu => ?_⟩⟩
    simp only [List.getElem?_map] at hu
    cases hj : s.data.toList[j]? with
    | none => rw [hj] at hu; cases hu
    | some b =>
      rw [hj] at hu
      simp at hu
      subst hu
      have hlt := (List.getElem?_eq_some_iff.1 hj).1
      have hj2 : s.data[j]? = some b := by simpa using hj
      simp only [bytesRow, Nat.zero_add]
      rw [Array.getElem?_append_left (by simpa using hlt)]
      simp [hj2]
end
end Go.Sl
namespace Go.Sl
open Go.Proofs Go.Proofs.Tryz
theorem bopb_s {W0 w : World} {L : List Asn} {f : HF} {nx : UInt32} (hs : Sep W0 w (pool f :: L)) : Calls Tryz.prog 341 [.agg #[I 1, U nx, .string ⟨#[]⟩, I 0, I 0, I 0, .slice none 0 0, I 0, I 0, I 0, .int .u32 0]].toArray w (Ret fun r w' => ∃ f' a' k' cp' l, r = .slice a' k' cp' ∧ l.length ≤ 5000 ∧ FLe f f' ∧ RB f' a' k' cp' l ∧ Sep W0 w' (pool f' :: L)) := by
 refine enter (args := [(.agg #[(I 1), (.int .u32 (nx.toNat : Int)), (.string ⟨#[]⟩), (I 0), (I 0), (I 0), (.slice none 0 0), (I 0), (I 0), (I 0), (.int .u32 0)])]) (n := 113) (rs := [.tmp 2]) func341 rfl rfl rfl rfl ?_
 refine rSeq (rReg (oBox hs rfl rfl rfl ?_))
 intro b1 w2 hs3; clear hs
 refine oV (xAssign rfl) rfl (oEnd (kSeq (rSeq (rReg (oV (xBuild (v := (.agg #[(.slice none 0 0)])) rfl (fun w => by kernel_rfl)) rfl (oBox hs3 rfl rfl rfl ?_))))))
 intro b4 w5 hs6; clear hs3
 replace hs6 := writer_new hs6
 refine oV (xAssign rfl) rfl (oEnd (kSeq (rSeq (rReg (oV (xMove rfl) rfl (oV (xFA (j' := 0) underlying386 rfl sizeOf3 rfl rfl) rfl (oV (xLoad hs6 isAgg3 rfl (i := 1) rfl rfl) rfl (oV (xConv underlying3 underlying53 rfl (rfl)) rfl (oCall call88 rfl rfl (num_s b4 [] (1 : UInt64) 1 (by decide) (by first | omega | (simp only [List.length_append, le_length, List.length_cons, List.length_nil, List.length_map, List.length_replicate]; omega)) hs6) ?_)))))))))
 rintro _ w7 ⟨rfl, hs8⟩; clear hs6
 refine oEnd (kSeq (rSeq (rSeq (rReg (oV (xFA (j' := 0) underlying386 rfl sizeOf3 rfl rfl) rfl (oV (xLoad hs8 isAgg3 rfl (i := 1) rfl rfl) rfl (oEnd (kSeq (rBlk (rSeq (rReg (oV (xCmp (r := true) rfl rfl rEql) rfl (oV (xAssign rfl) rfl (oEnd (kSeq (rCondT rfl (rReg (oV (xMove rfl) rfl (oV (xFA (j' := 1) underlying386 rfl sizeOf33 rfl rfl) rfl (oV (xLoad hs8 isAgg33 rfl (i := 1) rfl rfl) rfl (oV (xConv underlying33 underlying53 rfl (w32to64 nx)) rfl (oCall call88 rfl rfl (num_s b4 ([] ++ le (1 : UInt64) 1) nx.toUInt64 4 (by decide) (by first | omega | (simp only [List.length_append, le_length, List.length_cons, List.length_nil, List.length_map, List.length_replicate]; omega)) hs8) ?_))))))))))))))))))))))
 rintro _ w9 ⟨rfl, hs10⟩; clear hs8
 refine oEnd (kBlk (kSeq (rSeq (rReg (oV (xMove rfl) rfl ?_)))))
 replace hs10 := hs10.f2
 refine oCall call90 rfl rfl (bytes_s b4 (([] ++ le (1 : UInt64) 1) ++ le nx.toUInt64 4) (by first | omega | (simp only [List.length_append, le_length, List.length_cons, List.length_nil, List.length_map, List.length_replicate]; omega)) hs10) ?_
 rintro _ w18 ⟨f11, a12, k13, cp14, rfl, hle15, hb16, hs19⟩; clear hs10; have hl17 := RB.len hb16
 refine oV (xAssign rfl) rfl (oEnd (kSeq (rRet (kFin (.tmp rfl (.nil)) ?_))))
 replace hs19 := hs19.d2
 replace hs19 := hs19.d1
 exact ⟨_, _, _, _, _, rfl, by first | omega | (simp only [List.length_append, le_length, List.length_nil]; omega), hle15, hb16, hs19⟩
set_option maxHeartbeats 1000000 in
theorem bopc_s {W0 w : World} {L : List Asn} {f : HF} {o : Ob} {oa : Option Addr} {ocp : Nat} {us : List Value} (hv2 : Reads f 1 (.slice oa o.pl.length ocp) o.pl.length us) (hp2 : PlR f us o.pl) {ns nn : Nat} (hok : ObOk ns nn o) (hns : ns ≤ 24) (hs : Sep W0 w (pool f :: L)) : Calls Tryz.prog 341 [.agg #[I 2, U o.num, nmS o.nm, I (o.len : Int), I (o.cnt : Int), I (o.pc : Int), .slice oa o.pl.length ocp, I 0, I 0, I 0, .int .u32 0]].toArray w (Ret fun r w' => ∃ f' a' k' cp' l, r = .slice a' k' cp' ∧ l.length ≤ 5000 ∧ FLe f f' ∧ RB f' a' k' cp' l ∧ Sep W0 w' (pool f' :: L)) := by
 have hpc := hok.pl; have hcn := hok.cnt
 refine enter (args := [(.agg #[(I 2), (.int .u32 (o.num.toNat : Int)), (.string ⟨#[o.nm]⟩), (I (o.len : Int)), (I (o.cnt : Int)), (I (o.pc : Int)), (.slice oa o.pl.length ocp), (I 0), (I 0), (I 0), (.int .u32 0)])]) (n := 113) (rs := [.tmp 2]) func341 rfl rfl rfl rfl ?_
 refine rSeq (rReg (oBox hs rfl rfl rfl ?_))
 intro b1 w2 hs3; clear hs
 refine oV (xAssign rfl) rfl (oEnd (kSeq (rSeq (rReg (oV (xBuild (v := (.agg #[(.slice none 0 0)])) rfl (fun w => by kernel_rfl)) rfl (oBox hs3 rfl rfl rfl ?_))))))
 intro b4 w5 hs6; clear hs3
 replace hs6 := writer_new hs6
 refine oV (xAssign rfl) rfl (oEnd (kSeq (rSeq (rReg (oV (xMove rfl) rfl (oV (xFA (j' := 0) underlying386 rfl sizeOf3 rfl rfl) rfl (oV (xLoad hs6 isAgg3 rfl (i := 1) rfl rfl) rfl (oV (xConv underlying3 underlying53 rfl (rfl)) rfl (oCall call88 rfl rfl (num_s b4 [] (2 : UInt64) 1 (by decide) (by first | omega | (simp only [List.length_append, le_length, List.length_cons, List.length_nil, List.length_map, List.length_replicate]; omega)) hs6) ?_)))))))))
 rintro _ w7 ⟨rfl, hs8⟩; clear hs6
 refine oEnd (kSeq (rSeq (rSeq (rReg (oV (xFA (j' := 0) underlying386 rfl sizeOf3 rfl rfl) rfl (oV (xLoad hs8 isAgg3 rfl (i := 1) rfl rfl) rfl (oEnd (kSeq (rBlk (rSeq (rReg (oV (xCmp (r := false) rfl rfl rEql) rfl (oV (xAssign rfl) rfl (oEnd (kSeq (rCondF rfl (rSeq (rReg (oV (xCmp (r := true) rfl rfl rEql) rfl (oV (xAssign rfl) rfl (oEnd (kSeq (rCondT rfl ?_)))))))))))))))))))))))
 refine rCut' (fun e w => ∃ (fx : HF) (xs : LB), e = [(1, (ptr b1)), (3, (ptr b4))] ∧ (FLe f fx) ∧ (xs.length ≤ 15) ∧ (Reads fx 1 (.slice oa o.pl.length ocp) o.pl.length us) ∧ (PlR fx us o.pl) ∧ Sep W0 w (pool fx :: writer b4 xs :: row b1 386 [(I 2), (.int .u32 (o.num.toNat : Int)), (.string ⟨#[o.nm]⟩), (I (o.len : Int)), (I (o.cnt : Int)), (I (o.pc : Int)), (.slice oa o.pl.length ocp), (I 0), (I 0), (I 0), (.int .u32 0)] :: L)) ?_ ?_
 · refine rRegG [(none, fun w => ∃ M, Sep W0 w (row b1 386 [(I 2), (.int .u32 (o.num.toNat : Int)), (.string ⟨#[o.nm]⟩), (I (o.len : Int)), (I (o.cnt : Int)), (I (o.pc : Int)), (.slice oa o.pl.length ocp), (I 0), (I 0), (I 0), (.int .u32 0)] :: M))] (by kernel_rfl) hs8 (fun w9 hs10 => ⟨?_, fun hS => ?_⟩)
   · exact ⟨⟨_, (Sep.front (i := 1) rfl hs10)⟩, trivial⟩
   clear hs8
   refine gTake0 0 rfl (by kernel_rfl) hS (fun w => xMove rfl) rfl ?_
   clear hS; intro hS
   refine gTake0 1 rfl (by kernel_rfl) hS (fun w => xFA (j' := 1) underlying386 rfl sizeOf33 rfl rfl) rfl ?_
   clear hS; intro hS
   refine gTake 2 0 rfl (by kernel_rfl) rfl (by kernel_rfl) hS (fun w hq0 => by obtain ⟨M, hq⟩ := hq0; exact xLoad hq isAgg33 rfl (i := 0) rfl rfl) rfl ?_
   clear hS; intro hS
   refine gTake0 3 rfl (by kernel_rfl) hS (fun w => xConv underlying33 underlying53 rfl (w32to64 o.num)) rfl ?_
   clear hS; intro hS
   refine gTake0 5 rfl (by kernel_rfl) hS (fun w => xFA (j' := 2) underlying386 rfl sizeOf9 rfl rfl) rfl ?_
   clear hS; intro hS
   refine gTake 6 0 rfl (by kernel_rfl) rfl (by kernel_rfl) hS (fun w hq0 => by obtain ⟨M, hq⟩ := hq0; exact xLoad hq isAgg9 rfl (i := 0) rfl rfl) rfl ?_
   clear hS; intro hS
   refine gTake0 9 rfl (by kernel_rfl) hS (fun w => xFA (j' := 3) underlying386 rfl sizeOf270 rfl rfl) rfl ?_
   clear hS; intro hS
   refine gTake0 10 rfl (by kernel_rfl) hS (fun w => xFA (j' := 3) underlying270 rfl sizeOf3 rfl rfl) rfl ?_
   clear hS; intro hS
   refine gTake 11 0 rfl (by kernel_rfl) rfl (by kernel_rfl) hS (fun w hq0 => by obtain ⟨M, hq⟩ := hq0; exact xLoad hq isAgg3 rfl (i := 0) rfl rfl) rfl ?_
   clear hS; intro hS
   refine gTake0 12 rfl (by kernel_rfl) hS (fun w => xConv underlying3 underlying53 rfl (wIto64 (o.len : Int))) rfl ?_
   clear hS; intro hS
   refine gTake0 14 rfl (by kernel_rfl) hS (fun w => xFA (j' := 3) underlying386 rfl sizeOf270 rfl rfl) rfl ?_
   clear hS; intro hS
   refine gTake0 15 rfl (by kernel_rfl) hS (fun w => xFA (j' := 5) underlying270 rfl sizeOf3 rfl rfl) rfl ?_
   clear hS; intro hS
   refine gTake 16 0 rfl (by kernel_rfl) rfl (by kernel_rfl) hS (fun w hq0 => by obtain ⟨M, hq⟩ := hq0; exact xLoad hq isAgg3 rfl (i := 0) rfl rfl) rfl ?_
   clear hS; intro hS
   refine gTake0 17 rfl (by kernel_rfl) hS (fun w => xConv underlying3 underlying53 rfl (wIto64 (o.pc : Int))) rfl ?_
   clear hS; intro hS
   refine gTake0 19 rfl (by kernel_rfl) hS (fun w => xFA (j' := 6) underlying386 rfl sizeOf271 rfl rfl) rfl ?_
   clear hS; intro hS
   refine gTake 20 0 rfl (by kernel_rfl) rfl (by kernel_rfl) hS (fun w hq0 => by obtain ⟨M, hq⟩ := hq0; exact xLoad hq isAgg271 rfl (i := 0) rfl rfl) rfl ?_
   clear hS; intro hS
   refine gTake0 21 rfl (by kernel_rfl) hS (fun w => xB1 rfl (rLenS underlying271)) rfl ?_
   clear hS; intro hS
   refine gTake0 22 rfl (by kernel_rfl) hS (fun w => xConv underlying3 underlying53 rfl (wIto64 (o.pl.length : Int))) rfl ?_
   clear hS; intro hS
   refine gEff2 4 7 (by kernel_rfl) rfl rfl ?_ ?_
   · refine oCall call88 rfl rfl (num_s b4 ([] ++ le (2 : UInt64) 1) o.num.toUInt64 4 (by decide) (by first | omega | (simp only [List.length_append, le_length, List.length_cons, List.length_nil, List.length_map, List.length_replicate]; omega)) hs10) ?_
     rintro _ w11 ⟨rfl, hs12⟩; clear hs10
     refine oEnd (kG ⟨⟨_, (Sep.front (i := 1) rfl hs12)⟩, trivial⟩ ?_)
     clear hS; intro hS
     refine gEff 7 (by kernel_rfl) rfl ?_
     replace hs12 := hs12.f2
     refine oStrBytes hs12 underlying9 underlying26 underlying5 rfl rfl ?_
     intro f13 a14 cp15 w18 hle16 hb17 hs19; clear hs12
     replace hv2 := hv2.mono hle16
     replace hp2 := hp2.mono hle16
     refine oEnd (kG ⟨⟨_, (Sep.front (i := 2) rfl hs19)⟩, trivial⟩ ?_)
     clear hS; intro hS
     refine gEff 8 (by kernel_rfl) rfl ?_
     replace hs19 := hs19.f1
     replace hs19 := hs19.f1
     refine oCall call369 rfl rfl (text_s b4 (([] ++ le (2 : UInt64) 1) ++ le o.num.toUInt64 4) [o.nm] hb17 (by first | omega | (simp only [List.length_append, le_length, List.length_cons, List.length_nil, List.length_map, List.length_replicate]; omega)) hs19) ?_
     rintro _ w20 ⟨rfl, hs21⟩; clear hs19
     refine oEnd (kG ⟨⟨_, (Sep.front (i := 2) rfl hs21)⟩, trivial⟩ ?_)
     clear hS; intro hS
     refine gEff 13 (by kernel_rfl) rfl ?_
     replace hs21 := hs21.f1
     refine oCall call88 rfl rfl (num_s b4 ((([] ++ le (2 : UInt64) 1) ++ le o.num.toUInt64 4) ++ le (UInt64.ofInt ((1 : Nat) : Int)) 2 ++ [o.nm]) (UInt64.ofInt (o.len : Int)) 4 (by decide) (by first | omega | (simp only [List.length_append, le_length, List.length_cons, List.length_nil, List.length_map, List.length_replicate]; omega)) hs21) ?_
     rintro _ w22 ⟨rfl, hs23⟩; clear hs21
     refine oEnd (kG ⟨⟨_, (Sep.front (i := 2) rfl hs23)⟩, trivial⟩ ?_)
     clear hS; intro hS
     refine gEff 18 (by kernel_rfl) rfl ?_
     refine oCall call88 rfl rfl (num_s b4 (((([] ++ le (2 : UInt64) 1) ++ le o.num.toUInt64 4) ++ le (UInt64.ofInt ((1 : Nat) : Int)) 2 ++ [o.nm]) ++ le (UInt64.ofInt (o.len : Int)) 4) (UInt64.ofInt (o.pc : Int)) 2 (by decide) (by first | omega | (simp only [List.length_append, le_length, List.length_cons, List.length_nil, List.length_map, List.length_replicate]; omega)) hs23) ?_
     rintro _ w24 ⟨rfl, hs25⟩; clear hs23
     refine oEnd (kG ⟨⟨_, (Sep.front (i := 2) rfl hs25)⟩, trivial⟩ ?_)
     clear hS; intro hS
     refine gEff 23 (by kernel_rfl) rfl ?_
     refine oCall call88 rfl rfl (num_s b4 ((((([] ++ le (2 : UInt64) 1) ++ le o.num.toUInt64 4) ++ le (UInt64.ofInt ((1 : Nat) : Int)) 2 ++ [o.nm]) ++ le (UInt64.ofInt (o.len : Int)) 4) ++ le (UInt64.ofInt (o.pc : Int)) 2) (UInt64.ofInt (o.pl.length : Int)) 1 (by decide) (by first | omega | (simp only [List.length_append, le_length, List.length_cons, List.length_nil, List.length_map, List.length_replicate]; omega)) hs25) ?_
     rintro _ w26 ⟨rfl, hs27⟩; clear hs25
     refine oEnd (kG ⟨⟨_, (Sep.front (i := 2) rfl hs27)⟩, trivial⟩ ?_)
     clear hS; intro hS
     refine gEnd (by kernel_rfl) ?_
     clear hS
     replace hs27 := hs27.f2
     replace hs27 := hs27.f1
     replace hs27 := hs27.f2
     exact kCut _ ⟨f13, (((((([] ++ le (2 : UInt64) 1) ++ le o.num.toUInt64 4) ++ le (UInt64.ofInt ((1 : Nat) : Int)) 2 ++ [o.nm]) ++ le (UInt64.ofInt (o.len : Int)) 4) ++ le (UInt64.ofInt (o.pc : Int)) 2) ++ le (UInt64.ofInt (o.pl.length : Int)) 1), rfl, (hle16), (by simp only [List.length_append, le_length, List.length_nil, List.length_cons]; omega), (hv2), (hp2), hs27⟩ ⟨rfl, rfl, trivial⟩
   · replace hs10 := hs10.f2
     refine oStrBytes hs10 underlying9 underlying26 underlying5 rfl rfl ?_
     intro f28 a29 cp30 w33 hle31 hb32 hs34; clear hs10
     replace hv2 := hv2.mono hle31
     replace hp2 := hp2.mono hle31
     refine oEnd (kG ⟨⟨_, (Sep.front (i := 2) rfl hs34)⟩, trivial⟩ ?_)
     clear hS; intro hS
     refine gEff 4 (by kernel_rfl) rfl ?_
     replace hs34 := hs34.f1
     refine oCall call88 rfl rfl (num_s b4 ([] ++ le (2 : UInt64) 1) o.num.toUInt64 4 (by decide) (by first | omega | (simp only [List.length_append, le_length, List.length_cons, List.length_nil, List.length_map, List.length_replicate]; omega)) hs34) ?_
     rintro _ w35 ⟨rfl, hs36⟩; clear hs34
     refine oEnd (kG ⟨⟨_, (Sep.front (i := 2) rfl hs36)⟩, trivial⟩ ?_)
     clear hS; intro hS
     refine gEff 8 (by kernel_rfl) rfl ?_
     replace hs36 := hs36.f1
     refine oCall call369 rfl rfl (text_s b4 (([] ++ le (2 : UInt64) 1) ++ le o.num.toUInt64 4) [o.nm] hb32 (by first | omega | (simp only [List.length_append, le_length, List.length_cons, List.length_nil, List.length_map, List.length_replicate]; omega)) hs36) ?_
     rintro _ w37 ⟨rfl, hs38⟩; clear hs36
     refine oEnd (kG ⟨⟨_, (Sep.front (i := 2) rfl hs38)⟩, trivial⟩ ?_)
     clear hS; intro hS
     refine gEff 13 (by kernel_rfl) rfl ?_
     replace hs38 := hs38.f1
     refine oCall call88 rfl rfl (num_s b4 ((([] ++ le (2 : UInt64) 1) ++ le o.num.toUInt64 4) ++ le (UInt64.ofInt ((1 : Nat) : Int)) 2 ++ [o.nm]) (UInt64.ofInt (o.len : Int)) 4 (by decide) (by first | omega | (simp only [List.length_append, le_length, List.length_cons, List.length_nil, List.length_map, List.length_replicate]; omega)) hs38) ?_
     rintro _ w39 ⟨rfl, hs40⟩; clear hs38
     refine oEnd (kG ⟨⟨_, (Sep.front (i := 2) rfl hs40)⟩, trivial⟩ ?_)
     clear hS; intro hS
     refine gEff 18 (by kernel_rfl) rfl ?_
     refine oCall call88 rfl rfl (num_s b4 (((([] ++ le (2 : UInt64) 1) ++ le o.num.toUInt64 4) ++ le (UInt64.ofInt ((1 : Nat) : Int)) 2 ++ [o.nm]) ++ le (UInt64.ofInt (o.len : Int)) 4) (UInt64.ofInt (o.pc : Int)) 2 (by decide) (by first | omega | (simp only [List.length_append, le_length, List.length_cons, List.length_nil, List.length_map, List.length_replicate]; omega)) hs40) ?_
     rintro _ w41 ⟨rfl, hs42⟩; clear hs40
     refine oEnd (kG ⟨⟨_, (Sep.front (i := 2) rfl hs42)⟩, trivial⟩ ?_)
     clear hS; intro hS
     refine gEff 23 (by kernel_rfl) rfl ?_
     refine oCall call88 rfl rfl (num_s b4 ((((([] ++ le (2 : UInt64) 1) ++ le o.num.toUInt64 4) ++ le (UInt64.ofInt ((1 : Nat) : Int)) 2 ++ [o.nm]) ++ le (UInt64.ofInt (o.len : Int)) 4) ++ le (UInt64.ofInt (o.pc : Int)) 2) (UInt64.ofInt (o.pl.length : Int)) 1 (by decide) (by first | omega | (simp only [List.length_append, le_length, List.length_cons, List.length_nil, List.length_map, List.length_replicate]; omega)) hs42) ?_
     rintro _ w43 ⟨rfl, hs44⟩; clear hs42
     refine oEnd (kG ⟨⟨_, (Sep.front (i := 2) rfl hs44)⟩, trivial⟩ ?_)
     clear hS; intro hS
     refine gEnd (by kernel_rfl) ?_
     clear hS
     replace hs44 := hs44.f2
     replace hs44 := hs44.f1
     replace hs44 := hs44.f2
     exact kCut _ ⟨f28, (((((([] ++ le (2 : UInt64) 1) ++ le o.num.toUInt64 4) ++ le (UInt64.ofInt ((1 : Nat) : Int)) 2 ++ [o.nm]) ++ le (UInt64.ofInt (o.len : Int)) 4) ++ le (UInt64.ofInt (o.pc : Int)) 2) ++ le (UInt64.ofInt (o.pl.length : Int)) 1), rfl, (hle31), (by simp only [List.length_append, le_length, List.length_nil, List.length_cons]; omega), (hv2), (hp2), hs44⟩ ⟨rfl, rfl, trivial⟩
 clear hs8; rintro e w ⟨fx, xs, rfl, hle, hxl, hv2, hp2, hs⟩
 refine rSeq (rReg (oV (xFA (j' := 6) underlying386 rfl sizeOf271 rfl rfl) rfl (oV (xLoad hs isAgg271 rfl (i := 2) rfl rfl) rfl (oV (xB1 rfl (rLenS underlying271)) rfl (oV (xMove rfl) rfl (oEnd (kSeq (rBlk ?_))))))))
 replace hs := hs.d2
 refine rLoop (fun mz e w => ∃ (i : Nat) (xs1 : LB), o.pl.length - i = mz ∧ e = [(3, (ptr b4)), (51, (.slice oa o.pl.length ocp)), (52, (I (o.pl.length : Int))), (53, (I (i : Int)))] ∧ (i ≤ o.pl.length) ∧ (xs1.length ≤ 15 + i * 121) ∧ Sep W0 w (pool fx :: writer b4 xs1 :: L)) ⟨_, _, ⟨0, _, rfl, rfl, (by omega), (by omega), hs⟩, ⟨rfl, rfl, rfl, rfl, trivial⟩⟩ ?_
 clear hs; rintro mz e w ⟨i, xs1, rfl, rfl, hi, hx1, hs⟩
 refine rSeq (rReg (oV (xCmp rfl rfl rLss) rfl (oEnd (kSeq (rSeq ?_)))))
 refine rCondD rfl (fun hc45 => ?_) (fun hc45 => ?_)
 · have hlen := (hok.at (i := i) (by omega)).len
   refine rSkip (kSeq (rSeq (rBlk (rSeq (rReg ?_)))))
   obtain ⟨b46, off47, rfl⟩ := Reads.at hv2 (by omega)
   refine oV (xIA (o' := off47 + i) underlying271 sizeOf276 rfl rfl (by omega) (by omega) (by omega)) rfl ?_
   obtain ⟨a48, cp49, he50, hb51⟩ := PlR.get hp2 i (by omega)
   refine oV (xLoadC isAgg276 rfl (Reads.cell hv2 hs (i := 0) rfl he50)) rfl (oV (xAssign rfl) rfl (oEnd (kSeq (rSeq (rReg (oV (xMove rfl) rfl (oV (xMove rfl) rfl (oV (xB1 rfl (rLenS underlying276)) rfl (oV (xConv underlying3 underlying53 rfl (wIto64 ((o.pl.getD i []).length : Int))) rfl ?_)))))))))
   replace hs := hs.f1
   refine oCall call88 rfl rfl (num_s b4 xs1 (UInt64.ofInt ((o.pl.getD i []).length : Int)) 1 (by decide) (by first | omega | (simp only [List.length_append, le_length, List.length_cons, List.length_nil, List.length_map, List.length_replicate]; omega)) hs) ?_
   rintro _ w52 ⟨rfl, hs53⟩; clear hs
   refine oEnd (kSeq (rSeq (rReg (oV (xMove rfl) rfl (oV (xB1 rfl (rLenS underlying276)) rfl (oV (xMove rfl) rfl (oEnd (kSeq (rBlk ?_)))))))))
   replace hs53 := hs53.f1
   refine rLoop (fun mz e w => ∃ (m : Nat) (xs2 : LB), (o.pl.getD i []).length - m = mz ∧ e = [(3, (ptr b4)), (51, (.slice (some ⟨b46, off47, none⟩) o.pl.length ocp)), (52, (I (o.pl.length : Int))), (53, (I (i : Int))), (62, (.slice a48 ((o.pl.getD i []).length) cp49)), (63, (I ((o.pl.getD i []).length : Int))), (64, (I (m : Int)))] ∧ (m ≤ (o.pl.getD i []).length) ∧ (xs2.length ≤ 16 + i * 121 + m * 5) ∧ Sep W0 w (pool fx :: writer b4 xs2 :: L)) ⟨_, _, ⟨0, _, rfl, rfl, (by omega), (by simp only [List.length_append, le_length]; omega), hs53⟩, ⟨rfl, rfl, rfl, rfl, rfl, rfl, rfl, trivial⟩⟩ ?_
   clear hs53; rintro mz e w ⟨m, xs2, rfl, rfl, hm, hx2, hs⟩
   refine rSeq (rReg (oV (xCmp rfl rfl rLss) rfl (oEnd (kSeq (rSeq ?_)))))
   refine rCondD rfl (fun hc54 => ?_) (fun hc54 => ?_)
   · refine rSkip (kSeq (rSeq (rBlk (rSeq (rReg ?_)))))
     obtain ⟨b55, off56, rfl⟩ := Reads.at hb51 (by omega)
     refine oV (xIA (o' := off56 + m * 2) underlying276 sizeOf278 rfl rfl (by omega) (by omega) (by omega)) rfl (oV (xLoadGC isAgg278 sizeOf278 rfl rfl (reads_cells hb51 hs (i := 0) rfl (plC_take (by omega)))) rfl (oAlloc hs zeroValue278 rfl rfl ?_))
     intro b57 w58 hs59; clear hs
     refine oStoreG hs59 sizeOf278 rfl rfl rfl rfl (i := 0) rfl rfl ?_
     intro w60 hs61; clear hs59; dsimp only [List.set, putAt] at hs61
     refine oEnd (kSeq ?_)
     refine rRegG [(none, fun w => ∃ M, Sep W0 w (row b57 278 [(I ((((o.pl.getD i []).getD m 0 : Nat)) : Int)), (.int .u32 0)] :: M))] (by kernel_rfl) hs61 (fun w62 hs63 => ⟨?_, fun hS => ?_⟩)
     · exact ⟨⟨_, (Sep.front (i := 0) rfl hs63)⟩, trivial⟩
     clear hs61
     refine gTake0 0 rfl (by kernel_rfl) hS (fun w => xMove rfl) rfl ?_
     clear hS; intro hS
     refine gTake0 1 rfl (by kernel_rfl) hS (fun w => xFA (j' := 0) underlying278 rfl sizeOf3 rfl rfl) rfl ?_
     clear hS; intro hS
     refine gTake 2 0 rfl (by kernel_rfl) rfl (by kernel_rfl) hS (fun w hq0 => by obtain ⟨M, hq⟩ := hq0; exact xLoad hq isAgg3 rfl (i := 0) rfl rfl) rfl ?_
     clear hS; intro hS
     refine gTake0 3 rfl (by kernel_rfl) hS (fun w => xConv underlying3 underlying53 rfl (wIto64 ((((o.pl.getD i []).getD m 0 : Nat)) : Int))) rfl ?_
     clear hS; intro hS
     refine gTake0 5 rfl (by kernel_rfl) hS (fun w => xFA (j' := 1) underlying278 rfl sizeOf33 rfl rfl) rfl ?_
     clear hS; intro hS
     refine gTake 6 0 rfl (by kernel_rfl) rfl (by kernel_rfl) hS (fun w hq0 => by obtain ⟨M, hq⟩ := hq0; exact xLoad hq isAgg33 rfl (i := 0) rfl rfl) rfl ?_
     clear hS; intro hS
     refine gTake0 7 rfl (by kernel_rfl) hS (fun w => xConv underlying33 underlying53 rfl (rfl)) rfl ?_
     clear hS; intro hS
     refine gEff 4 (by kernel_rfl) rfl ?_
     replace hs63 := hs63.f2
     refine oCall call88 rfl rfl (num_s b4 xs2 (UInt64.ofInt ((((o.pl.getD i []).getD m 0 : Nat)) : Int)) 1 (by decide) (by first | omega | (simp only [List.length_append, le_length, List.length_cons, List.length_nil, List.length_map, List.length_replicate]; omega)) hs63) ?_
     rintro _ w64 ⟨rfl, hs65⟩; clear hs63
     refine oEnd (kG ⟨⟨_, (Sep.front (i := 1) rfl hs65)⟩, trivial⟩ ?_)
     clear hS; intro hS
     refine gEff 8 (by kernel_rfl) rfl ?_
     refine oCall call88 rfl rfl (num_s b4 (xs2 ++ le (UInt64.ofInt ((((o.pl.getD i []).getD m 0 : Nat)) : Int)) 1) (0 : UInt64) 4 (by decide) (by first | omega | (simp only [List.length_append, le_length, List.length_cons, List.length_nil, List.length_map, List.length_replicate]; omega)) hs65) ?_
     rintro _ w66 ⟨rfl, hs67⟩; clear hs65
     refine oEnd (kG ⟨⟨_, (Sep.front (i := 1) rfl hs67)⟩, trivial⟩ ?_)
     clear hS; intro hS
     refine gEnd (by kernel_rfl) ?_
     clear hS
     refine kBlk (kSeq ?_)
     refine rReg (oV (xAr rfl rfl (rAdd (wI (by omega) (by omega)))) rfl (oV (xMove rfl) rfl ?_))
     replace hs67 := hs67.d1
     replace hs67 := hs67.f1
     exact oEnd (kLoop ((o.pl.getD i []).length - (m + 1)) _ (by omega) ⟨m + 1, _, rfl, rfl, (by omega), (by simp only [List.length_append, le_length]; omega), hs67⟩ ⟨rfl, rfl, rfl, rfl, rfl, rfl, rfl, trivial⟩)
   · refine rExit (kSeqX (kLoopX (kBlkH (kBlk (kSeq (rReg (oV (xAr rfl rfl (rAdd (wI (by omega) (by omega)))) rfl (oV (xMove rfl) rfl ?_))))))))
     exact oEnd (kLoop (o.pl.length - (i + 1)) _ (by omega) ⟨i + 1, _, rfl, rfl, (by omega), (by omega), hs⟩ ⟨rfl, rfl, rfl, rfl, trivial⟩)
 · refine rExit (kSeqX (kLoopX (kBlkH (kBlk (kSeq (rSeq (rReg (oV (xMove rfl) rfl ?_))))))))
   replace hs := hs.f1
   replace hs := hs.f1
   refine oCall call90 rfl rfl (bytes_s b4 xs1 (by first | omega | (simp only [List.length_append, le_length, List.length_cons, List.length_nil, List.length_map, List.length_replicate]; omega)) hs) ?_
   rintro _ w75 ⟨f68, a69, k70, cp71, rfl, hle72, hb73, hs76⟩; clear hs; have hl74 := RB.len hb73
   replace hv2 := hv2.mono hle72
   replace hp2 := hp2.mono hle72
   refine oV (xAssign rfl) rfl (oEnd (kSeq (rRet (kFin (.tmp rfl (.nil)) ?_))))
   replace hs76 := hs76.d1
   exact ⟨_, _, _, _, _, rfl, by first | omega | (simp only [List.length_append, le_length, List.length_nil]; omega), (FLe.trans hle hle72), hb73, hs76⟩
end Go.Sl
namespace Go.Sl
open Go.Proofs Go.Proofs.Tryz
theorem bwriteb_s {W0 w : World} {L : List Asn} {t ns nn n cp : Nat} {nx la : UInt32} {a : Option Addr} {f : HF} {cs : List Value} {obs : List Ob} (hv : Reads f 6 (.slice a n cp) n cs) (ho : ObsR f cs obs) (hn : obs.length = n) {k d tp m tm most : Nat} (hk : PR f k [ptr d, ptr t, I (ns : Int), I (nn : Int)]) (hB : ObsB obs) (hm : m ≤ 100000) (hfit : tm + 6000 ≤ most) (hmost : most ≤ 1073741824) (hn64 : n ≤ 64) (hnx : nx.toNat < 4294967295) (hs : Sep W0 w (pool f :: row t 365 [I (ns : Int), I (nn : Int), U nx, U la, .slice a n cp] :: diaryA d tp m :: tapeA tp tm most :: L)) : Calls Tryz.prog 283 [ptr k, .agg #[I 1, U nx, .string ⟨#[]⟩, I 0, I 0, I 0, .slice none 0 0, I 0, I 0, I 0, .int .u32 0]].toArray w (Ret fun r w' => ∃ f' tm', r = .int .i64 0 ∧ FLe f f' ∧ tm' ≤ tm + 5020 ∧ Sep W0 w' (pool f' :: row t 365 [I (ns : Int), I (nn : Int), U nx, U la, .slice a n cp] :: diaryA d tp (m + 1) :: tapeA tp tm' most :: L)) := by
 refine enter (args := [(ptr k), (.agg #[(I 1), (.int .u32 (nx.toNat : Int)), (.string ⟨#[]⟩), (I 0), (I 0), (I 0), (.slice none 0 0), (I 0), (I 0), (I 0), (.int .u32 0)])]) (n := 25) (rs := [.tmp 4]) func283 rfl rfl rfl rfl ?_
 refine rSeq (rReg (oBox hs rfl rfl rfl ?_))
 intro b1 w2 hs3; clear hs
 refine oV (xAssign rfl) rfl (oEnd (kSeq (rSeq (rSeq (rReg (oV (xMove rfl) rfl (oV (xBin (r := .bool false) rfl rfl (fun _ => rfl) (fun w => by kernel_rfl)) rfl (oEnd (kSeq (rCondF rfl (rSkip (kSeq (rSeq (rSeq ?_))))))))))))))
 refine rRegG [(none, fun w => ∃ M, Sep W0 w (pool f :: M)), (none, fun w => ∃ M, Sep W0 w (row b1 386 [(I 1), (.int .u32 (nx.toNat : Int)), (.string ⟨#[]⟩), (I 0), (I 0), (I 0), (.slice none 0 0), (I 0), (I 0), (I 0), (.int .u32 0)] :: M))] (by kernel_rfl) hs3 (fun w4 hs5 => ⟨?_, fun hS => ?_⟩)
 · exact ⟨⟨_, (Sep.front (i := 1) rfl hs5)⟩, ⟨_, (Sep.front (i := 0) rfl hs5)⟩, trivial⟩
 clear hs3
 refine gTake0 0 rfl (by kernel_rfl) hS (fun w => xMove rfl) rfl ?_
 clear hS; intro hS
 refine gTake0 1 rfl (by kernel_rfl) hS (fun w => xNil rfl) rfl ?_
 clear hS; intro hS
 refine gTake0 2 rfl (by kernel_rfl) hS (fun w => xFA (j' := 1) underlying427 rfl sizeOf267 rfl rfl) rfl ?_
 clear hS; intro hS
 refine gTake 3 0 rfl (by kernel_rfl) rfl (by kernel_rfl) hS (fun w hq0 => by obtain ⟨M, hq⟩ := hq0; exact xLoadC isAgg267 rfl (PR.cell hk hq (i := 0) rfl rfl)) rfl ?_
 clear hS; intro hS
 refine gTake 5 1 rfl (by kernel_rfl) rfl (by kernel_rfl) hS (fun w hq0 => by obtain ⟨M, hq⟩ := hq0; exact xLoadG hq isAgg386 sizeOf386 rfl (i := 0) rfl rfl) rfl ?_
 clear hS; intro hS
 refine gEff 4 (by kernel_rfl) rfl ?_
 replace hs5 := hs5.f2
 replace hs5 := hs5.f2
 refine oCall call339 rfl rfl (tcopy_s hv ho hn hB (by omega) hs5) ?_
 rintro _ w14 ⟨f6, t7, a8, cp9, cs10, rfl, hle11, hv12, ho13, hs15⟩; clear hs5
 replace hk := hk.mono hle11
 replace hv := hv.mono hle11
 replace ho := ho.mono hle11
 refine oEnd (kG ⟨⟨_, (Sep.imp (i := 0) rfl (pool_sub hle11) (Sep.front (i := 0) rfl hs15))⟩, ⟨_, (Sep.front (i := 3) rfl hs15)⟩, trivial⟩ ?_)
 clear hS; intro hS
 refine gEff 6 (by kernel_rfl) rfl ?_
 replace hs15 := hs15.f1
 refine oCall call252 rfl rfl (tappb_s hnx hs15) ?_
 rintro _ w16 ⟨rfl, hs17⟩; clear hs15
 refine oEnd (kG ⟨⟨_, (Sep.imp (i := 0) rfl (pool_sub hle11) (Sep.front (i := 1) rfl hs17))⟩, ⟨_, (Sep.front (i := 3) rfl hs17)⟩, trivial⟩ ?_)
 clear hS; intro hS
 refine gTake0 7 rfl (by kernel_rfl) hS (fun w => xAssign rfl) rfl ?_
 clear hS; intro hS
 refine gEnd (by kernel_rfl) ?_
 clear hS
 refine kSeq ?_
 refine rSeq (rReg (oV (xMove rfl) rfl (oV (xCmp (r := false) rfl rfl rNeq) rfl (oEnd (kSeq (rCondF rfl (rSkip (kSeq (rSeq ?_)))))))))
 refine rRegG [(none, fun w => ∃ M, Sep W0 w (pool f6 :: M)), (none, fun w => ∃ M, Sep W0 w (row b1 386 [(I 1), (.int .u32 (nx.toNat : Int)), (.string ⟨#[]⟩), (I 0), (I 0), (I 0), (.slice none 0 0), (I 0), (I 0), (I 0), (.int .u32 0)] :: M))] (by kernel_rfl) hs17 (fun w18 hs19 => ⟨?_, fun hS => ?_⟩)
 · exact ⟨⟨_, (Sep.front (i := 1) rfl hs19)⟩, ⟨_, (Sep.front (i := 3) rfl hs19)⟩, trivial⟩
 clear hs17
 refine gTake0 0 rfl (by kernel_rfl) hS (fun w => xMove rfl) rfl ?_
 clear hS; intro hS
 refine gTake0 1 rfl (by kernel_rfl) hS (fun w => xNil rfl) rfl ?_
 clear hS; intro hS
 refine gTake0 2 rfl (by kernel_rfl) hS (fun w => xFA (j' := 0) underlying427 rfl sizeOf419 rfl rfl) rfl ?_
 clear hS; intro hS
 refine gTake 3 0 rfl (by kernel_rfl) rfl (by kernel_rfl) hS (fun w hq0 => by obtain ⟨M, hq⟩ := hq0; exact xLoadC isAgg419 rfl (PR.cell hk hq (i := 0) rfl rfl)) rfl ?_
 clear hS; intro hS
 refine gTake 4 1 rfl (by kernel_rfl) rfl (by kernel_rfl) hS (fun w hq0 => by obtain ⟨M, hq⟩ := hq0; exact xLoadG hq isAgg386 sizeOf386 rfl (i := 0) rfl rfl) rfl ?_
 clear hS; intro hS
 refine gEff 5 (by kernel_rfl) rfl ?_
 replace hs19 := hs19.f1
 refine oCall call341 rfl rfl (bopb_s hs19) ?_
 rintro _ w28 ⟨f20, a21, n22, cp23, l24, rfl, hl27, hle25, hb26, hs29⟩; clear hs19; have hl30 := RB.len hb26
 replace hk := hk.mono hle25
 replace hv := hv.mono hle25
 replace ho := ho.mono hle25
 replace hv12 := hv12.mono hle25
 replace ho13 := ho13.mono hle25
 refine oEnd (kG ⟨⟨_, (Sep.imp (i := 0) rfl (pool_sub hle25) (Sep.front (i := 0) rfl hs29))⟩, ⟨_, (Sep.front (i := 3) rfl hs29)⟩, trivial⟩ ?_)
 clear hS; intro hS
 refine gEff 6 (by kernel_rfl) rfl ?_
 replace hs29 := hs29.f5
 replace hs29 := hs29.f5
 refine oCall call340 rfl rfl (dwrite_s hb26 (by omega) (by omega) (by omega) (by omega) hs29) ?_
 rintro _ w33 ⟨f31, rfl, hle32, hs34⟩; clear hs29
 replace hk := hk.mono hle32
 replace hv := hv.mono hle32
 replace ho := ho.mono hle32
 replace hv12 := hv12.mono hle32
 replace ho13 := ho13.mono hle32
 replace hb26 := hb26.mono hle32
 refine oEnd (kG ⟨⟨_, (Sep.imp (i := 0) rfl (pool_sub (FLe.trans hle25 hle32)) (Sep.front (i := 2) rfl hs34))⟩, ⟨_, (Sep.front (i := 5) rfl hs34)⟩, trivial⟩ ?_)
 clear hS; intro hS
 refine gTake0 7 rfl (by kernel_rfl) hS (fun w => xAssign rfl) rfl ?_
 clear hS; intro hS
 refine gEnd (by kernel_rfl) ?_
 clear hS
 refine kSeq ?_
 refine rRet (kFin (.tmp rfl (.nil)) ?_)
 replace hs34 := hs34.d5
 replace hs34 := hs34.d3
 replace hs34 := hs34.f1
 replace hs34 := hs34.f1
 replace hs34 := hs34.f3
 replace hs34 := hs34.f3
 exact ⟨_, _, rfl, (FLe.trans hle11 (FLe.trans hle25 hle32)), by omega, hs34⟩
theorem bdob_s {W0 w : World} {L : List Asn} {t ns nn n cp : Nat} {nx la : UInt32} {a : Option Addr} {f : HF} {cs : List Value} {obs : List Ob} (hv : Reads f 6 (.slice a n cp) n cs) (ho : ObsR f cs obs) (hn : obs.length = n) {k d tp m tm most : Nat} (hk : PR f k [ptr d, ptr t, I (ns : Int), I (nn : Int)]) (hB : ObsB obs) (hm : m ≤ 100000) (hfit : tm + 6000 ≤ most) (hmost : most ≤ 1073741824) (hn64 : n ≤ 64) (hnx : nx.toNat < 4294967295) (hs : Sep W0 w (pool f :: row t 365 [I (ns : Int), I (nn : Int), U nx, U la, .slice a n cp] :: diaryA d tp m :: tapeA tp tm most :: L)) : Calls Tryz.prog 282 [ptr k, .agg #[I 1, U nx, .string ⟨#[]⟩, I 0, I 0, I 0, .slice none 0 0, I 0, I 0, I 0, .int .u32 0]].toArray w (Ret fun r w' => ∃ f' tm', r = .int .i64 0 ∧ FLe f f' ∧ tm' ≤ tm + 5020 ∧ Sep W0 w' (pool f' :: row t 365 [I (ns : Int), I (nn : Int), U (nx + 1), U la, .slice a n cp] :: diaryA d tp (m + 1) :: tapeA tp tm' most :: L)) := by
 refine enter (args := [(ptr k), (.agg #[(I 1), (.int .u32 (nx.toNat : Int)), (.string ⟨#[]⟩), (I 0), (I 0), (I 0), (.slice none 0 0), (I 0), (I 0), (I 0), (.int .u32 0)])]) (n := 27) (rs := [.tmp 4]) func282 rfl rfl rfl rfl ?_
 refine rSeq (rReg (oBox hs rfl rfl rfl ?_))
 intro b1 w2 hs3; clear hs
 refine oV (xAssign rfl) rfl (oEnd (kSeq (rSeq (rSeq (rReg (oV (xMove rfl) rfl (oV (xLoadG hs3 isAgg386 sizeOf386 rfl (i := 0) rfl rfl) rfl ?_)))))))
 replace hs3 := hs3.f4
 replace hs3 := hs3.f4
 replace hs3 := hs3.f4
 replace hs3 := hs3.f4
 refine oCall call283 rfl rfl (bwriteb_s hv ho hn hk hB hm hfit hmost (by omega) hnx hs3) ?_
 rintro _ w8 ⟨f4, tm5, rfl, hle6, htm7, hs9⟩; clear hs3
 replace hk := hk.mono hle6
 replace hv := hv.mono hle6
 replace ho := ho.mono hle6
 refine oV (xAssign rfl) rfl (oEnd (kSeq (rSeq (rReg (oV (xMove rfl) rfl (oV (xCmp (r := false) rfl rfl rNeq) rfl (oEnd (kSeq (rCondF rfl (rSkip (kSeq (rSeq (rSeq (rReg (oV (xMove rfl) rfl (oV (xNil rfl) rfl (oV (xFA (j' := 0) underlying427 rfl sizeOf419 rfl rfl) rfl (oV (xLoadC isAgg419 rfl (PR.cell hk hs9 (i := 0) rfl rfl)) rfl ?_))))))))))))))))))
 replace hs9 := hs9.f3
 replace hs9 := hs9.f3
 refine oCall call338 rfl rfl (dsync_s hs9) ?_
 rintro _ w10 ⟨rfl, hs11⟩; clear hs9
 refine oV (xAssign rfl) rfl (oEnd (kSeq (rSeq (rReg (oV (xMove rfl) rfl (oV (xCmp (r := false) rfl rfl rNeq) rfl (oEnd (kSeq (rCondF rfl (rSkip (kSeq (rSeq ?_))))))))))))
 refine rRegG [(none, fun w => ∃ M, Sep W0 w (pool f4 :: M)), (none, fun w => ∃ M, Sep W0 w (row b1 386 [(I 1), (.int .u32 (nx.toNat : Int)), (.string ⟨#[]⟩), (I 0), (I 0), (I 0), (.slice none 0 0), (I 0), (I 0), (I 0), (.int .u32 0)] :: M))] (by kernel_rfl) hs11 (fun w12 hs13 => ⟨?_, fun hS => ?_⟩)
 · exact ⟨⟨_, (Sep.front (i := 2) rfl hs13)⟩, ⟨_, (Sep.front (i := 4) rfl hs13)⟩, trivial⟩
 clear hs11
 refine gTake0 0 rfl (by kernel_rfl) hS (fun w => xMove rfl) rfl ?_
 clear hS; intro hS
 refine gTake0 1 rfl (by kernel_rfl) hS (fun w => xNil rfl) rfl ?_
 clear hS; intro hS
 refine gTake0 2 rfl (by kernel_rfl) hS (fun w => xFA (j' := 1) underlying427 rfl sizeOf267 rfl rfl) rfl ?_
 clear hS; intro hS
 refine gTake 3 0 rfl (by kernel_rfl) rfl (by kernel_rfl) hS (fun w hq0 => by obtain ⟨M, hq⟩ := hq0; exact xLoadC isAgg267 rfl (PR.cell hk hq (i := 0) rfl rfl)) rfl ?_
 clear hS; intro hS
 refine gTake 4 1 rfl (by kernel_rfl) rfl (by kernel_rfl) hS (fun w hq0 => by obtain ⟨M, hq⟩ := hq0; exact xLoadG hq isAgg386 sizeOf386 rfl (i := 0) rfl rfl) rfl ?_
 clear hS; intro hS
 refine gEff 5 (by kernel_rfl) rfl ?_
 replace hs13 := hs13.f3
 refine oCall call252 rfl rfl (tappb_s hnx hs13) ?_
 rintro _ w14 ⟨rfl, hs15⟩; clear hs13
 refine oEnd (kG ⟨⟨_, (Sep.front (i := 3) rfl hs15)⟩, ⟨_, (Sep.front (i := 4) rfl hs15)⟩, trivial⟩ ?_)
 clear hS; intro hS
 refine gTake0 6 rfl (by kernel_rfl) hS (fun w => xAssign rfl) rfl ?_
 clear hS; intro hS
 refine gEnd (by kernel_rfl) ?_
 clear hS
 refine kSeq ?_
 refine rRet (kFin (.tmp rfl (.nil)) ?_)
 replace hs15 := hs15.d4
 replace hs15 := hs15.f2
 replace hs15 := hs15.f2
 replace hs15 := hs15.f2
 replace hs15 := hs15.f3
 exact ⟨_, _, rfl, hle6, by omega, hs15⟩
theorem bwritec_s {W0 w : World} {L : List Asn} {t ns nn n cp : Nat} {nx la : UInt32} {a : Option Addr} {f : HF} {cs : List Value} {obs : List Ob} (hv : Reads f 6 (.slice a n cp) n cs) (ho : ObsR f cs obs) (hn : obs.length = n) {o : Ob} {oa : Option Addr} {ocp : Nat} {us : List Value} (hv2 : Reads f 1 (.slice oa o.pl.length ocp) o.pl.length us) (hp2 : PlR f us o.pl) {k d tp m tm most : Nat} (hk : PR f k [ptr d, ptr t, I (ns : Int), I (nn : Int)]) (hB : ObsB obs) (hm : m ≤ 100000) (hfit : tm + 6000 ≤ most) (hmost : most ≤ 1073741824) (hok : ObOk ns nn o) (hnn : nn ≤ 32) (hns : ns ≤ 24) (hc1 : 32 < o.nm.toNat) (hc2 : o.nm.toNat ≤ 126) (hsort : SortO obs) (hend : ∀ x ∈ obs, x.nm < o.nm) (hnum : ∀ x ∈ obs, x.num ≠ o.num) (hla : la.toNat < o.num.toNat) (hnx : o.num.toNat < nx.toNat) (hn64 : n < 64) (hs : Sep W0 w (pool f :: row t 365 [I (ns : Int), I (nn : Int), U nx, U la, .slice a n cp] :: diaryA d tp m :: tapeA tp tm most :: L)) : Calls Tryz.prog 283 [ptr k, .agg #[I 2, U o.num, nmS o.nm, I (o.len : Int), I (o.cnt : Int), I (o.pc : Int), .slice oa o.pl.length ocp, I 0, I 0, I 0, .int .u32 0]].toArray w (Ret fun r w' => ∃ f' tm', r = .int .i64 0 ∧ FLe f f' ∧ tm' ≤ tm + 5020 ∧ Sep W0 w' (pool f' :: row t 365 [I (ns : Int), I (nn : Int), U nx, U la, .slice a n cp] :: diaryA d tp (m + 1) :: tapeA tp tm' most :: L)) := by
 refine enter (args := [(ptr k), (.agg #[(I 2), (.int .u32 (o.num.toNat : Int)), (.string ⟨#[o.nm]⟩), (I (o.len : Int)), (I (o.cnt : Int)), (I (o.pc : Int)), (.slice oa o.pl.length ocp), (I 0), (I 0), (I 0), (.int .u32 0)])]) (n := 25) (rs := [.tmp 4]) func283 rfl rfl rfl rfl ?_
 refine rSeq (rReg (oBox hs rfl rfl rfl ?_))
 intro b1 w2 hs3; clear hs
 refine oV (xAssign rfl) rfl (oEnd (kSeq (rSeq (rSeq (rReg (oV (xMove rfl) rfl (oV (xBin (r := .bool false) rfl rfl (fun _ => rfl) (fun w => by kernel_rfl)) rfl (oEnd (kSeq (rCondF rfl (rSkip (kSeq (rSeq (rSeq ?_))))))))))))))
 refine rRegG [(none, fun w => ∃ M, Sep W0 w (pool f :: M)), (none, fun w => ∃ M, Sep W0 w (row b1 386 [(I 2), (.int .u32 (o.num.toNat : Int)), (.string ⟨#[o.nm]⟩), (I (o.len : Int)), (I (o.cnt : Int)), (I (o.pc : Int)), (.slice oa o.pl.length ocp), (I 0), (I 0), (I 0), (.int .u32 0)] :: M))] (by kernel_rfl) hs3 (fun w4 hs5 => ⟨?_, fun hS => ?_⟩)
 · exact ⟨⟨_, (Sep.front (i := 1) rfl hs5)⟩, ⟨_, (Sep.front (i := 0) rfl hs5)⟩, trivial⟩
 clear hs3
 refine gTake0 0 rfl (by kernel_rfl) hS (fun w => xMove rfl) rfl ?_
 clear hS; intro hS
 refine gTake0 1 rfl (by kernel_rfl) hS (fun w => xNil rfl) rfl ?_
 clear hS; intro hS
 refine gTake0 2 rfl (by kernel_rfl) hS (fun w => xFA (j' := 1) underlying427 rfl sizeOf267 rfl rfl) rfl ?_
 clear hS; intro hS
 refine gTake 3 0 rfl (by kernel_rfl) rfl (by kernel_rfl) hS (fun w hq0 => by obtain ⟨M, hq⟩ := hq0; exact xLoadC isAgg267 rfl (PR.cell hk hq (i := 0) rfl rfl)) rfl ?_
 clear hS; intro hS
 refine gTake 5 1 rfl (by kernel_rfl) rfl (by kernel_rfl) hS (fun w hq0 => by obtain ⟨M, hq⟩ := hq0; exact xLoadG hq isAgg386 sizeOf386 rfl (i := 0) rfl rfl) rfl ?_
 clear hS; intro hS
 refine gEff 4 (by kernel_rfl) rfl ?_
 replace hs5 := hs5.f2
 replace hs5 := hs5.f2
 refine oCall call339 rfl rfl (tcopy_s hv ho hn hB (by omega) hs5) ?_
 rintro _ w14 ⟨f6, t7, a8, cp9, cs10, rfl, hle11, hv12, ho13, hs15⟩; clear hs5
 replace hk := hk.mono hle11
 replace hv := hv.mono hle11
 replace ho := ho.mono hle11
 replace hv2 := hv2.mono hle11
 replace hp2 := hp2.mono hle11
 refine oEnd (kG ⟨⟨_, (Sep.imp (i := 0) rfl (pool_sub hle11) (Sep.front (i := 0) rfl hs15))⟩, ⟨_, (Sep.front (i := 3) rfl hs15)⟩, trivial⟩ ?_)
 clear hS; intro hS
 refine gEff 6 (by kernel_rfl) rfl ?_
 replace hs15 := hs15.f1
 replace hs15 := hs15.f1
 refine oCall call252 rfl rfl (tappc_s hv12 ho13 hn hv2 hp2 hok hnn (Nat.le_trans hns (by decide)) hc1 hc2 hsort hend hnum hla hnx hn64 hs15) ?_
 rintro _ w23 ⟨f16, a17, cp18, cs19, rfl, hle20, hv21, ho22, hs24⟩; clear hs15
 replace hk := hk.mono hle20
 replace hv := hv.mono hle20
 replace ho := ho.mono hle20
 replace hv2 := hv2.mono hle20
 replace hp2 := hp2.mono hle20
 replace hv12 := hv12.mono hle20
 replace ho13 := ho13.mono hle20
 refine oEnd (kG ⟨⟨_, (Sep.imp (i := 0) rfl (pool_sub (FLe.trans hle11 hle20)) (Sep.front (i := 0) rfl hs24))⟩, ⟨_, (Sep.front (i := 3) rfl hs24)⟩, trivial⟩ ?_)
 clear hS; intro hS
 refine gTake0 7 rfl (by kernel_rfl) hS (fun w => xAssign rfl) rfl ?_
 clear hS; intro hS
 refine gEnd (by kernel_rfl) ?_
 clear hS
 refine kSeq ?_
 refine rSeq (rReg (oV (xMove rfl) rfl (oV (xCmp (r := false) rfl rfl rNeq) rfl (oEnd (kSeq (rCondF rfl (rSkip (kSeq (rSeq ?_)))))))))
 refine rRegG [(none, fun w => ∃ M, Sep W0 w (pool f16 :: M)), (none, fun w => ∃ M, Sep W0 w (row b1 386 [(I 2), (.int .u32 (o.num.toNat : Int)), (.string ⟨#[o.nm]⟩), (I (o.len : Int)), (I (o.cnt : Int)), (I (o.pc : Int)), (.slice oa o.pl.length ocp), (I 0), (I 0), (I 0), (.int .u32 0)] :: M))] (by kernel_rfl) hs24 (fun w25 hs26 => ⟨?_, fun hS => ?_⟩)
 · exact ⟨⟨_, (Sep.front (i := 0) rfl hs26)⟩, ⟨_, (Sep.front (i := 3) rfl hs26)⟩, trivial⟩
 clear hs24
 refine gTake0 0 rfl (by kernel_rfl) hS (fun w => xMove rfl) rfl ?_
 clear hS; intro hS
 refine gTake0 1 rfl (by kernel_rfl) hS (fun w => xNil rfl) rfl ?_
 clear hS; intro hS
 refine gTake0 2 rfl (by kernel_rfl) hS (fun w => xFA (j' := 0) underlying427 rfl sizeOf419 rfl rfl) rfl ?_
 clear hS; intro hS
 refine gTake 3 0 rfl (by kernel_rfl) rfl (by kernel_rfl) hS (fun w hq0 => by obtain ⟨M, hq⟩ := hq0; exact xLoadC isAgg419 rfl (PR.cell hk hq (i := 0) rfl rfl)) rfl ?_
 clear hS; intro hS
 refine gTake 4 1 rfl (by kernel_rfl) rfl (by kernel_rfl) hS (fun w hq0 => by obtain ⟨M, hq⟩ := hq0; exact xLoadG hq isAgg386 sizeOf386 rfl (i := 0) rfl rfl) rfl ?_
 clear hS; intro hS
 refine gEff 5 (by kernel_rfl) rfl ?_
 refine oCall call341 rfl rfl (bopc_s hv2 hp2 hok hns hs26) ?_
 rintro _ w35 ⟨f27, a28, n29, cp30, l31, rfl, hl34, hle32, hb33, hs36⟩; clear hs26; have hl37 := RB.len hb33
 replace hk := hk.mono hle32
 replace hv := hv.mono hle32
 replace ho := ho.mono hle32
 replace hv2 := hv2.mono hle32
 replace hp2 := hp2.mono hle32
 replace hv12 := hv12.mono hle32
 replace ho13 := ho13.mono hle32
 replace hv21 := hv21.mono hle32
 replace ho22 := ho22.mono hle32
 refine oEnd (kG ⟨⟨_, (Sep.imp (i := 0) rfl (pool_sub hle32) (Sep.front (i := 0) rfl hs36))⟩, ⟨_, (Sep.front (i := 3) rfl hs36)⟩, trivial⟩ ?_)
 clear hS; intro hS
 refine gEff 6 (by kernel_rfl) rfl ?_
 replace hs36 := hs36.f5
 replace hs36 := hs36.f5
 refine oCall call340 rfl rfl (dwrite_s hb33 (by omega) (by omega) (by omega) (by omega) hs36) ?_
 rintro _ w40 ⟨f38, rfl, hle39, hs41⟩; clear hs36
 replace hk := hk.mono hle39
 replace hv := hv.mono hle39
 replace ho := ho.mono hle39
 replace hv2 := hv2.mono hle39
 replace hp2 := hp2.mono hle39
 replace hv12 := hv12.mono hle39
 replace ho13 := ho13.mono hle39
 replace hv21 := hv21.mono hle39
 replace ho22 := ho22.mono hle39
 replace hb33 := hb33.mono hle39
 refine oEnd (kG ⟨⟨_, (Sep.imp (i := 0) rfl (pool_sub (FLe.trans hle32 hle39)) (Sep.front (i := 2) rfl hs41))⟩, ⟨_, (Sep.front (i := 5) rfl hs41)⟩, trivial⟩ ?_)
 clear hS; intro hS
 refine gTake0 7 rfl (by kernel_rfl) hS (fun w => xAssign rfl) rfl ?_
 clear hS; intro hS
 refine gEnd (by kernel_rfl) ?_
 clear hS
 refine kSeq ?_
 refine rRet (kFin (.tmp rfl (.nil)) ?_)
 replace hs41 := hs41.d5
 replace hs41 := hs41.d3
 replace hs41 := hs41.f1
 replace hs41 := hs41.f1
 replace hs41 := hs41.f3
 replace hs41 := hs41.f3
 exact ⟨_, _, rfl, (FLe.trans hle11 (FLe.trans hle20 (FLe.trans hle32 hle39))), by omega, hs41⟩
theorem bdoc_s {W0 w : World} {L : List Asn} {t ns nn n cp : Nat} {nx la : UInt32} {a : Option Addr} {f : HF} {cs : List Value} {obs : List Ob} (hv : Reads f 6 (.slice a n cp) n cs) (ho : ObsR f cs obs) (hn : obs.length = n) {o : Ob} {oa : Option Addr} {ocp : Nat} {us : List Value} (hv2 : Reads f 1 (.slice oa o.pl.length ocp) o.pl.length us) (hp2 : PlR f us o.pl) {k d tp m tm most : Nat} (hk : PR f k [ptr d, ptr t, I (ns : Int), I (nn : Int)]) (hB : ObsB obs) (hm : m ≤ 100000) (hfit : tm + 6000 ≤ most) (hmost : most ≤ 1073741824) (hok : ObOk ns nn o) (hnn : nn ≤ 32) (hns : ns ≤ 24) (hc1 : 32 < o.nm.toNat) (hc2 : o.nm.toNat ≤ 126) (hsort : SortO obs) (hend : ∀ x ∈ obs, x.nm < o.nm) (hnum : ∀ x ∈ obs, x.num ≠ o.num) (hla : la.toNat < o.num.toNat) (hnx : o.num.toNat < nx.toNat) (hn64 : n < 64) (hs : Sep W0 w (pool f :: row t 365 [I (ns : Int), I (nn : Int), U nx, U la, .slice a n cp] :: diaryA d tp m :: tapeA tp tm most :: L)) : Calls Tryz.prog 282 [ptr k, .agg #[I 2, U o.num, nmS o.nm, I (o.len : Int), I (o.cnt : Int), I (o.pc : Int), .slice oa o.pl.length ocp, I 0, I 0, I 0, .int .u32 0]].toArray w (Ret fun r w' => ∃ f' tm' a' cp' cs', r = .int .i64 0 ∧ FLe f f' ∧ tm' ≤ tm + 5020 ∧ Reads f' 6 (.slice a' (n + 1) cp') (n + 1) cs' ∧ ObsR f' cs' (obs ++ [o]) ∧ Sep W0 w' (pool f' :: row t 365 [I (ns : Int), I (nn : Int), U nx, U o.num, .slice a' (n + 1) cp'] :: diaryA d tp (m + 1) :: tapeA tp tm' most :: L)) := by
 refine enter (args := [(ptr k), (.agg #[(I 2), (.int .u32 (o.num.toNat : Int)), (.string ⟨#[o.nm]⟩), (I (o.len : Int)), (I (o.cnt : Int)), (I (o.pc : Int)), (.slice oa o.pl.length ocp), (I 0), (I 0), (I 0), (.int .u32 0)])]) (n := 27) (rs := [.tmp 4]) func282 rfl rfl rfl rfl ?_
 refine rSeq (rReg (oBox hs rfl rfl rfl ?_))
 intro b1 w2 hs3; clear hs
 refine oV (xAssign rfl) rfl (oEnd (kSeq (rSeq (rSeq (rReg (oV (xMove rfl) rfl (oV (xLoadG hs3 isAgg386 sizeOf386 rfl (i := 0) rfl rfl) rfl ?_)))))))
 replace hs3 := hs3.f4
 replace hs3 := hs3.f4
 replace hs3 := hs3.f4
 replace hs3 := hs3.f4
 refine oCall call283 rfl rfl (bwritec_s hv ho hn hv2 hp2 hk hB hm hfit hmost hok hnn hns hc1 hc2 hsort hend hnum hla hnx hn64 hs3) ?_
 rintro _ w8 ⟨f4, tm5, rfl, hle6, htm7, hs9⟩; clear hs3
 replace hk := hk.mono hle6
 replace hv := hv.mono hle6
 replace ho := ho.mono hle6
 replace hv2 := hv2.mono hle6
 replace hp2 := hp2.mono hle6
 refine oV (xAssign rfl) rfl (oEnd (kSeq (rSeq (rReg (oV (xMove rfl) rfl (oV (xCmp (r := false) rfl rfl rNeq) rfl (oEnd (kSeq (rCondF rfl (rSkip (kSeq (rSeq (rSeq (rReg (oV (xMove rfl) rfl (oV (xNil rfl) rfl (oV (xFA (j' := 0) underlying427 rfl sizeOf419 rfl rfl) rfl (oV (xLoadC isAgg419 rfl (PR.cell hk hs9 (i := 0) rfl rfl)) rfl ?_))))))))))))))))))
 replace hs9 := hs9.f3
 replace hs9 := hs9.f3
 refine oCall call338 rfl rfl (dsync_s hs9) ?_
 rintro _ w10 ⟨rfl, hs11⟩; clear hs9
 refine oV (xAssign rfl) rfl (oEnd (kSeq (rSeq (rReg (oV (xMove rfl) rfl (oV (xCmp (r := false) rfl rfl rNeq) rfl (oEnd (kSeq (rCondF rfl (rSkip (kSeq (rSeq ?_))))))))))))
 refine rRegG [(none, fun w => ∃ M, Sep W0 w (pool f4 :: M)), (none, fun w => ∃ M, Sep W0 w (row b1 386 [(I 2), (.int .u32 (o.num.toNat : Int)), (.string ⟨#[o.nm]⟩), (I (o.len : Int)), (I (o.cnt : Int)), (I (o.pc : Int)), (.slice oa o.pl.length ocp), (I 0), (I 0), (I 0), (.int .u32 0)] :: M))] (by kernel_rfl) hs11 (fun w12 hs13 => ⟨?_, fun hS => ?_⟩)
 · exact ⟨⟨_, (Sep.front (i := 2) rfl hs13)⟩, ⟨_, (Sep.front (i := 4) rfl hs13)⟩, trivial⟩
 clear hs11
 refine gTake0 0 rfl (by kernel_rfl) hS (fun w => xMove rfl) rfl ?_
 clear hS; intro hS
 refine gTake0 1 rfl (by kernel_rfl) hS (fun w => xNil rfl) rfl ?_
 clear hS; intro hS
 refine gTake0 2 rfl (by kernel_rfl) hS (fun w => xFA (j' := 1) underlying427 rfl sizeOf267 rfl rfl) rfl ?_
 clear hS; intro hS
 refine gTake 3 0 rfl (by kernel_rfl) rfl (by kernel_rfl) hS (fun w hq0 => by obtain ⟨M, hq⟩ := hq0; exact xLoadC isAgg267 rfl (PR.cell hk hq (i := 0) rfl rfl)) rfl ?_
 clear hS; intro hS
 refine gTake 4 1 rfl (by kernel_rfl) rfl (by kernel_rfl) hS (fun w hq0 => by obtain ⟨M, hq⟩ := hq0; exact xLoadG hq isAgg386 sizeOf386 rfl (i := 0) rfl rfl) rfl ?_
 clear hS; intro hS
 refine gEff 5 (by kernel_rfl) rfl ?_
 replace hs13 := hs13.f3
 replace hs13 := hs13.f3
 refine oCall call252 rfl rfl (tappc_s hv ho hn hv2 hp2 hok hnn (Nat.le_trans hns (by decide)) hc1 hc2 hsort hend hnum hla hnx hn64 hs13) ?_
 rintro _ w21 ⟨f14, a15, cp16, cs17, rfl, hle18, hv19, ho20, hs22⟩; clear hs13
 replace hk := hk.mono hle18
 replace hv := hv.mono hle18
 replace ho := ho.mono hle18
 replace hv2 := hv2.mono hle18
 replace hp2 := hp2.mono hle18
 refine oEnd (kG ⟨⟨_, (Sep.imp (i := 0) rfl (pool_sub hle18) (Sep.front (i := 0) rfl hs22))⟩, ⟨_, (Sep.front (i := 4) rfl hs22)⟩, trivial⟩ ?_)
 clear hS; intro hS
 refine gTake0 6 rfl (by kernel_rfl) hS (fun w => xAssign rfl) rfl ?_
 clear hS; intro hS
 refine gEnd (by kernel_rfl) ?_
 clear hS
 refine kSeq ?_
 refine rRet (kFin (.tmp rfl (.nil)) ?_)
 replace hs22 := hs22.d4
 exact ⟨_, _, _, _, _, rfl, (FLe.trans hle6 hle18), by omega, hv19, ho20, hs22⟩
end Go.Sl
namespace Go.Sl
open Go.Proofs
def MapE (f : HF) (r : Nat) : Prop := ∃ cl, f r = some (.map #[] cl)
theorem MapE.mono {f f' : HF} {r : Nat} (h : MapE f r) (hf : FLe f f') : MapE f' r := let ⟨cl, h1⟩ := h; ⟨cl, hf _ _ h1⟩
section
variable {α : Type} [DecidableEq α] {P : Program} {n : Nat} {K : Kont} {e : Env} {w w' : World} {ops : Array Oper} {rest : List Oper} {W0 : World} {L : List Asn} {kt vt mt : TypeId} {enc : α → Value} {r : Nat} {f : HF}
theorem run_lookupE {i : Nat} (Q : KeyOps P kt enc) (hE : MapE f r) (hu : P.underlying mt = some (.map kt vt)) (hs : Sep W0 w L) (hi : L[i]? = some (pool f)) (k : α) (ok : Bool) {z : Value} (hz : ∀ w, Sem.run P (zeroValue vt) w = .ok z w) :
    (Instr.lookup mt (.map (some r)) (enc k) ok).run P w = .ok (if ok then .tuple #[z, .bool false] else z) w := by
  obtain ⟨cl, h0⟩ := hE
  have h1 := hs.pool_heap hi h0
  have h2 := findKey_run Q k w [] [] rfl
  simp only [Instr.lookup, Sem.run_bind, run_underlying hu, Result.andThen_ok, run_getObj h1, Sem.run_pure, Q.check, h2]
  simp [mfind, hz]
theorem xLookupE {d i : Nat} {x y : Operand} {z : Value} {ty : TypeId} {pos : String} {af : Array Edge} (Q : KeyOps P kt enc) (hE : MapE f r) (hu : P.underlying mt = some (.map kt vt)) (hz : ∀ w, Sem.run P (zeroValue vt) w = .ok z w) (hs : Sep W0 w L) (hi : L[i]? = some (pool f)) (k : α)
    (hx : e.ev x = some (.map (some r))) (hy : e.ev y = some (enc k)) : Xq P n e w d (.lookup mt x y false) ty pos af z := fun a ha => by
  have := run_lookupE (ok := false) Q hE hu hs hi k hz
  simp only [execOp, ha.ev hx, ha.ev hy, Sem.run_bind, this, Result.andThen_ok, Sem.run_pure] <;> rfl
theorem xLookupEO {d i : Nat} {x y : Operand} {z : Value} {ty : TypeId} {pos : String} {af : Array Edge} (Q : KeyOps P kt enc) (hE : MapE f r) (hu : P.underlying mt = some (.map kt vt)) (hz : ∀ w, Sem.run P (zeroValue vt) w = .ok z w) (hs : Sep W0 w L) (hi : L[i]? = some (pool f)) (k : α)
    (hx : e.ev x = some (.map (some r))) (hy : e.ev y = some (enc k)) : Xq P n e w d (.lookup mt x y true) ty pos af (.tuple #[z, .bool false]) := fun a ha => by
  have := run_lookupE (ok := true) Q hE hu hs hi k hz
  simp only [execOp, ha.ev hx, ha.ev hy, Sem.run_bind, this, Result.andThen_ok, Sem.run_pure] <;> rfl
theorem oDeleteE {i : Nat} {x y : Operand} {kt' : TypeId} {ty : TypeId} {pos : String} {af : Array Edge} (Q : KeyOps P kt enc) (hE : MapE f r) (hu : P.underlying mt = some (.map kt vt)) (hs : Sep W0 w L) (hi : L[i]? = some (pool f)) (k : α)
    (hx : e.ev x = some (.map (some r))) (hy : e.ev y = some (enc k)) (hk : ∀ w', Sep W0 w' L → Ops P n ops K rest e w') :
    Ops P n ops K (⟨none, .call ⟨.builtin .delete, #[x, y], #[mt, kt']⟩, ty, pos, af, none⟩ :: rest) e w := by
  obtain ⟨cl, h0⟩ := hE
  have h1 := hs.pool_heap hi h0
  have h2 := findKey_run Q k w [] [] rfl
  have h3 : w.heap.setIfInBounds r (.map #[] cl) = w.heap := by
    apply Array.ext_getElem?
    intro j
    rw [Array.getElem?_setIfInBounds]
    split
    · rename_i hj; subst hj
      have hlt := (Array.getElem?_eq_some_iff.1 h1).1
      simp [hlt]; simpa [hlt] using h1.symm
    · rfl
  refine Ops.valn (v := .tuple #[]) (w' := { w with heap := w.heap.setIfInBounds r (.map #[] cl) }) rfl rfl (fun a ha => ?_) (hk _ (hs.same rfl rfl rfl h3))
  simp only [execOp, resolve, invoke, builtin, List.map_toArray, List.map_cons, List.map_nil, ha.ev hx, ha.ev hy, Builtin.delete_, Sem.run_bind, Result.andThen_ok, Sem.run_pure]
  simp [run_underlying hu, run_getObj h1, Q.check, h2, run_setObj h1, mfind]
end
structure Hp where
  c : Nat
  x : Nat
  wp : Nat
  pp : Nat
  qp : Nat
  tp : Nat
  bk : Nat
  bad : Nat
  d : Nat
  t : Nat
  qm : Nat
  n : Nat
  k : Nat
  nn : Nat
  piece : Nat
structure HallP (f : HF) (h : Nat) (p : Hp) : Prop where
  hall : ∃ s5 s6 s8 s9 s10 s11 s12 s13 s14 s15 s20 s22, PR f h [ptr p.c, ptr p.x, ptr p.wp, ptr p.pp, ptr p.qp, s5, s6, I (p.piece : Int), s8, s9, s10, s11, s12, s13, s14, s15, ptr p.tp, ptr p.bk, .map (some p.bad), I 0, s20, .bool false, s22]
  book : PR f p.bk [ptr p.d, ptr p.t, I (p.n : Int), I (p.nn : Int)]
  queue : PR f p.qp [.slice none 0 0, .map (some p.qm)]
  ebad : MapE f p.bad
  eqm : MapE f p.qm
  code : CodeP f p.c p.n p.k
theorem HallP.mono {f f' : HF} {h : Nat} {p : Hp} (hh : HallP f h p) (hf : FLe f f') : HallP f' h p := by
  obtain ⟨s5, s6, s8, s9, s10, s11, s12, s13, s14, s15, s20, s22, h1⟩ := hh.hall
  exact ⟨⟨s5, s6, s8, s9, s10, s11, s12, s13, s14, s15, s20, s22, h1.mono hf⟩, hh.book.mono hf, hh.queue.mono hf, hh.ebad.mono hf, hh.eqm.mono hf, hh.code.mono hf⟩
def shN (num : UInt32) (st sl : Nat) : Sh := ⟨num, UInt16.ofInt (st : Int), UInt16.ofInt (sl : Int), 0⟩
section
variable {W0 w : World} {L : List Asn}
def watchA (wp nn : Nat) (now : Int) : Asn := fun h => ∃ y : (Value × Value × Value) × (Option Addr × Nat) × (Option Addr × Nat), sepL [row wp 458 [y.1.1, y.1.2.1, I now, y.1.2.2, .slice y.2.1.1 nn y.2.1.2, .slice y.2.2.1 nn y.2.2.2], own 3 1 (.slice y.2.1.1 nn y.2.1.2) nn (Iv (List.replicate nn now)), own 485 1 (.slice y.2.2.1 nn y.2.2.2) nn (Iv (List.replicate nn 0))] h
theorem watchA_open {wp nn : Nat} {now : Int} (hs : Sep W0 w (watchA wp nn now :: L)) : ∃ (v1 v2 v3 : Value) (ha : Option Addr) (hc : Nat) (sa : Option Addr) (sc : Nat),
    Sep W0 w (row wp 458 [v1, v2, I now, v3, .slice ha nn hc, .slice sa nn sc] :: own 3 1 (.slice ha nn hc) nn (Iv (List.replicate nn now)) :: own 485 1 (.slice sa nn sc) nn (Iv (List.replicate nn 0)) :: L) := by
  obtain ⟨⟨⟨v1, v2, v3⟩, ⟨ha, hc⟩, ⟨sa, sc⟩⟩, h⟩ := Sep.ex hs
  exact ⟨v1, v2, v3, ha, hc, sa, sc, Sep.open (M := [_, _, _]) h⟩
theorem watchA_shut {wp nn : Nat} {now : Int} {v1 v2 v3 : Value} {ha : Option Addr} {hc : Nat} {sa : Option Addr} {sc : Nat}
    (hs : Sep W0 w (row wp 458 [v1, v2, I now, v3, .slice ha nn hc, .slice sa nn sc] :: own 3 1 (.slice ha nn hc) nn (Iv (List.replicate nn now)) :: own 485 1 (.slice sa nn sc) nn (Iv (List.replicate nn 0)) :: L)) : Sep W0 w (watchA wp nn now :: L) :=
  Sep.intro (A := fun y : (Value × Value × Value) × (Option Addr × Nat) × (Option Addr × Nat) => sepL [row wp 458 [y.1.1, y.1.2.1, I now, y.1.2.2, .slice y.2.1.1 nn y.2.1.2, .slice y.2.2.1 nn y.2.2.2], own 3 1 (.slice y.2.1.1 nn y.2.1.2) nn (Iv (List.replicate nn now)), own 485 1 (.slice y.2.2.1 nn y.2.2.2) nn (Iv (List.replicate nn 0))])
    ((v1, v2, v3), (ha, hc), (sa, sc)) (Sep.shut [_, _, _] hs)
end
end Go.Sl
namespace Go.Sl
open Go.Proofs Go.Proofs.Tryz
theorem btable_s {W0 w : World} {L : List Asn} {f : HF} {k d t : Nat} {x1 x2 : Value} (hk : PR f k [ptr d, ptr t, x1, x2]) (hs : Sep W0 w (pool f :: L)) : Calls Tryz.prog 205 [ptr k].toArray w (Ret fun r w' => r = ptr t ∧ Sep W0 w' (pool f :: L)) := by
 refine enter (args := [(ptr k)]) (n := 9) (rs := [.tmp 2]) func205 rfl rfl rfl rfl ?_
 refine rSeq (rReg (oV (xAssign rfl) rfl (oEnd (kSeq (rSeq (rSeq (rReg (oV (xMove rfl) rfl (oV (xBin (r := .bool false) rfl rfl (fun _ => rfl) (fun w => by kernel_rfl)) rfl (oEnd (kSeq (rCondF rfl (rSkip (kSeq (rSeq (rReg (oV (xMove rfl) rfl (oV (xNil rfl) rfl (oV (xFA (j' := 1) underlying427 rfl sizeOf267 rfl rfl) rfl (oV (xLoadC isAgg267 rfl (PR.cell hk hs (i := 0) rfl rfl)) rfl (oV (xAssign rfl) rfl (oEnd (kSeq (rRet (kFin (.tmp rfl (.nil)) ?_)))))))))))))))))))))))))
 exact ⟨rfl, hs⟩
theorem htable_s {W0 w : World} {L : List Asn} {f : HF} {h : Nat} {p : Hp} (hh : HallP f h p)  (hs : Sep W0 w (pool f :: L)) : Calls Tryz.prog 143 [ptr h].toArray w (Ret fun r w' => r = ptr p.t ∧ Sep W0 w' (pool f :: L)) := by
 obtain ⟨⟨s5, s6, s8, s9, s10, s11, s12, s13, s14, s15, s20, s22, hh0⟩, hbk, hqp, hbad, hqm, hcode⟩ := id hh
 refine enter (args := [(ptr h)]) (n := 10) (rs := [.tmp 2]) func143 rfl rfl rfl rfl ?_
 refine rSeq (rReg (oV (xAssign rfl) rfl (oEnd (kSeq (rSeq (rSeq (rReg (oV (xMove rfl) rfl (oV (xBin (r := .bool false) rfl rfl (fun _ => rfl) (fun w => by kernel_rfl)) rfl (oEnd (kSeq (rCondF rfl (rSkip (kSeq (rSeq (rReg (oV (xMove rfl) rfl (oV (xNil rfl) rfl (oV (xFA (j' := 17) underlying266 rfl sizeOf263 rfl rfl) rfl (oV (xLoadC isAgg263 rfl (PR.cell hh0 hs (i := 0) rfl rfl)) rfl (oCall call205 rfl rfl (btable_s hbk hs) ?_)))))))))))))))))))))
 rintro _ w1 ⟨rfl, hs2⟩; clear hs
 refine oV (xAssign rfl) rfl (oEnd (kSeq (rRet (kFin (.tmp rfl (.nil)) ?_))))
 exact ⟨rfl, hs2⟩
theorem hpiece_s {W0 w : World} {L : List Asn} {f : HF} {h : Nat} {p : Hp} (hh : HallP f h p)  (hs : Sep W0 w (pool f :: L)) : Calls Tryz.prog 215 [ptr h].toArray w (Ret fun r w' => r = I (p.piece : Int) ∧ Sep W0 w' (pool f :: L)) := by
 obtain ⟨⟨s5, s6, s8, s9, s10, s11, s12, s13, s14, s15, s20, s22, hh0⟩, hbk, hqp, hbad, hqm, hcode⟩ := id hh
 refine enter (args := [(ptr h)]) (n := 10) (rs := [.tmp 2]) func215 rfl rfl rfl rfl ?_
 refine rSeq (rReg (oV (xAssign rfl) rfl (oEnd (kSeq (rSeq (rSeq (rReg (oV (xMove rfl) rfl (oV (xBin (r := .bool false) rfl rfl (fun _ => rfl) (fun w => by kernel_rfl)) rfl (oEnd (kSeq (rCondF rfl (rSkip (kSeq (rSeq (rReg (oV (xMove rfl) rfl (oV (xNil rfl) rfl (oV (xFA (j' := 5) underlying266 rfl sizeOf147 rfl rfl) rfl (oV (xFA (j' := 7) underlying147 rfl sizeOf3 rfl rfl) rfl (oV (xLoadC isAgg3 rfl (PR.cell hh0 hs (i := 0) rfl rfl)) rfl (oV (xAssign rfl) rfl (oEnd (kSeq (rRet (kFin (.tmp rfl (.nil)) ?_))))))))))))))))))))))))))
 exact ⟨rfl, hs⟩
theorem hblown_s {W0 w : World} {L : List Asn} {f : HF} {h : Nat} {p : Hp} (hh : HallP f h p)  (hs : Sep W0 w (pool f :: L)) : Calls Tryz.prog 71 [ptr h].toArray w (Ret fun r w' => r = .bool false ∧ Sep W0 w' (pool f :: L)) := by
 obtain ⟨⟨s5, s6, s8, s9, s10, s11, s12, s13, s14, s15, s20, s22, hh0⟩, hbk, hqp, hbad, hqm, hcode⟩ := id hh
 refine enter (args := [(ptr h)]) (n := 11) (rs := [.tmp 2]) func71 rfl rfl rfl rfl ?_
 refine rSeq (rReg (oV (xAssign rfl) rfl (oEnd (kSeq (rSeq (rReg (oV (xMove rfl) rfl (oV (xBin (r := .bool true) rfl rfl (fun _ => rfl) (fun w => by kernel_rfl)) rfl (oV (xMove rfl) rfl (oGuardT rfl rfl (oV (xMove rfl) rfl (oGuardT rfl rfl (oV (xNil rfl) rfl (oGuardT rfl rfl (oV (xFA (j' := 21) underlying266 rfl sizeOf4 rfl rfl) rfl (oGuardT rfl rfl (oV (xLoadC isAgg4 rfl (PR.cell hh0 hs (i := 0) rfl rfl)) rfl (oV (xPickT rfl rfl) rfl (oV (xAssign rfl) rfl (oEnd (kSeq (rRet (kFin (.tmp rfl (.nil)) ?_)))))))))))))))))))))))
 exact ⟨rfl, hs⟩
theorem hburns_s {W0 w : World} {L : List Asn} {f : HF} {h : Nat} {p : Hp} (hh : HallP f h p)  (hs : Sep W0 w (pool f :: L)) : Calls Tryz.prog 281 [ptr h].toArray w (Ret fun r w' => r = .bool false ∧ Sep W0 w' (pool f :: L)) := by
 obtain ⟨⟨s5, s6, s8, s9, s10, s11, s12, s13, s14, s15, s20, s22, hh0⟩, hbk, hqp, hbad, hqm, hcode⟩ := id hh
 refine enter (args := [(ptr h)]) (n := 33) (rs := [.tmp 2]) func281 rfl rfl rfl rfl ?_
 refine rSeq (rReg (oV (xAssign rfl) rfl (oEnd (kSeq (rSeq (rSeq (rReg (oV (xMove rfl) rfl (oV (xNil rfl) rfl (oV (xFA (j' := 19) underlying266 rfl sizeOf3 rfl rfl) rfl (oV (xLoadC isAgg3 rfl (PR.cell hh0 hs (i := 0) rfl rfl)) rfl (oV (xCmp (r := false) rfl rfl rGtr) rfl (oEnd (kSeq (rCondF rfl (rSkip (kSeq (rSeq (rReg (oV (xMove rfl) rfl (oV (xNil rfl) rfl (oV (xFA (j' := 21) underlying266 rfl sizeOf4 rfl rfl) rfl (oV (xLoadC isAgg4 rfl (PR.cell hh0 hs (i := 0) rfl rfl)) rfl (oV (xAssign rfl) rfl (oEnd (kSeq (rRet (kFin (.tmp rfl (.nil)) ?_))))))))))))))))))))))))))))
 exact ⟨rfl, hs⟩
theorem hbad_s {W0 w : World} {L : List Asn} {f : HF} {h : Nat} {p : Hp} (hh : HallP f h p) (s : Sh) (hs : Sep W0 w (pool f :: L)) : Calls Tryz.prog 297 [ptr h, s.val].toArray w (Ret fun r w' => r = .bool false ∧ Sep W0 w' (pool f :: L)) := by
 obtain ⟨⟨s5, s6, s8, s9, s10, s11, s12, s13, s14, s15, s20, s22, hh0⟩, hbk, hqp, hbad, hqm, hcode⟩ := id hh
 refine enter (args := [(ptr h), (.agg #[(.int .u32 (s.o.toNat : Int)), (.int .u16 (s.st.toNat : Int)), (.int .u16 (s.sl.toNat : Int)), (.int .u32 (s.g.toNat : Int))])]) (n := 15) (rs := [.tmp 4]) func297 rfl rfl rfl rfl ?_
 refine rSeq (rReg (oBox hs rfl rfl rfl ?_))
 intro b1 w2 hs3; clear hs
 refine oV (xAssign rfl) rfl (oEnd (kSeq (rSeq (rRegQ (by kernel_rfl) (by kernel_rfl) hs3 ?_))))
 refine qV (fun w hq => xMove rfl) rfl ?_
 refine qV (fun w hq => xBin (r := .bool true) rfl rfl (fun _ => rfl) (fun w => by kernel_rfl)) rfl ?_
 refine qV (fun w hq => xMove rfl) rfl ?_
 refine qGuardT rfl rfl ?_
 refine qV (fun w hq => xMove rfl) rfl ?_
 refine qGuardT rfl rfl ?_
 refine qV (fun w hq => xNil rfl) rfl ?_
 refine qGuardT rfl rfl ?_
 refine qV (fun w hq => xFA (j' := 18) underlying266 rfl sizeOf264 rfl rfl) rfl ?_
 refine qGuardT rfl rfl ?_
 refine qV (fun w hq => xLoadC isAgg264 rfl (PR.cell hh0 hq (i := 1) rfl rfl)) rfl ?_
 refine qGuardT rfl rfl ?_
 refine qV (fun w hq => xLoadG hq isAgg280 sizeOf280 rfl (i := 0) rfl rfl) rfl ?_
 refine qGuardT rfl rfl ?_
 refine qV (fun w hq => xLookupE shOps hbad underlying264 zeroValue4 hq (i := 1) rfl s rfl rfl) rfl ?_
 refine qV (fun w hq => xPickT rfl rfl) rfl ?_
 refine qV (fun w hq => xAssign rfl) rfl ?_
 refine qEnd (fun w5 hs4 => ?_); clear hs3
 refine kSeq ?_
 refine rRet (kFin (.tmp rfl (.nil)) ?_)
 replace hs4 := hs4.d0
 exact ⟨rfl, hs4⟩
theorem hnote_s {W0 w : World} {L : List Asn} {f : HF} {h : Nat} {p : Hp} (hh : HallP f h p) (s : Sh) (hs : Sep W0 w (pool f :: L)) : Calls Tryz.prog 224 [ptr h, s.val, .bool false].toArray w (Ret fun _ w' => Sep W0 w' (pool f :: L)) := by
 obtain ⟨⟨s5, s6, s8, s9, s10, s11, s12, s13, s14, s15, s20, s22, hh0⟩, hbk, hqp, hbad, hqm, hcode⟩ := id hh
 refine enter (args := [(ptr h), (.agg #[(.int .u32 (s.o.toNat : Int)), (.int .u16 (s.st.toNat : Int)), (.int .u16 (s.sl.toNat : Int)), (.int .u32 (s.g.toNat : Int))]), (.bool false)]) (n := 21) (rs := []) func224 rfl rfl rfl rfl ?_
 refine rSeq (rReg (oBox hs rfl rfl rfl ?_))
 intro b1 w2 hs3; clear hs
 refine oEnd (kSeq (rBlk (rSeq (rReg (oV (xMove rfl) rfl (oV (xBin (r := .bool false) rfl rfl (fun _ => rfl) (fun w => by kernel_rfl)) rfl (oV (xAssign rfl) rfl (oEnd (kSeq (rCondF rfl (rSeq (rReg (oV (xMove rfl) rfl (oV (xAssign rfl) rfl (oEnd (kSeq (rCondF rfl ?_)))))))))))))))))
 refine rRegG [(none, fun w => ∃ M, Sep W0 w (pool f :: M)), (none, fun w => ∃ M, Sep W0 w (row b1 280 [(.int .u32 (s.o.toNat : Int)), (.int .u16 (s.st.toNat : Int)), (.int .u16 (s.sl.toNat : Int)), (.int .u32 (s.g.toNat : Int))] :: M))] (by kernel_rfl) hs3 (fun w4 hs5 => ⟨?_, fun hS => ?_⟩)
 · exact ⟨⟨_, (Sep.front (i := 1) rfl hs5)⟩, ⟨_, (Sep.front (i := 0) rfl hs5)⟩, trivial⟩
 clear hs3
 refine gTake0 0 rfl (by kernel_rfl) hS (fun w => xMove rfl) rfl ?_
 clear hS; intro hS
 refine gTake0 1 rfl (by kernel_rfl) hS (fun w => xNil rfl) rfl ?_
 clear hS; intro hS
 refine gTake0 2 rfl (by kernel_rfl) hS (fun w => xFA (j' := 18) underlying266 rfl sizeOf264 rfl rfl) rfl ?_
 clear hS; intro hS
 refine gTake 3 0 rfl (by kernel_rfl) rfl (by kernel_rfl) hS (fun w hq0 => by obtain ⟨M, hq⟩ := hq0; exact xLoadC isAgg264 rfl (PR.cell hh0 hq (i := 0) rfl rfl)) rfl ?_
 clear hS; intro hS
 refine gTake 4 1 rfl (by kernel_rfl) rfl (by kernel_rfl) hS (fun w hq0 => by obtain ⟨M, hq⟩ := hq0; exact xLoadG hq isAgg280 sizeOf280 rfl (i := 0) rfl rfl) rfl ?_
 clear hS; intro hS
 refine gEff 5 (by kernel_rfl) rfl ?_
 refine oDeleteE shOps hbad underlying264 hs5 (i := 1) rfl s rfl rfl ?_
 intro w6 hs7; clear hs5
 refine oEnd (kG ⟨⟨_, (Sep.front (i := 1) rfl hs7)⟩, ⟨_, (Sep.front (i := 0) rfl hs7)⟩, trivial⟩ ?_)
 clear hS; intro hS
 refine gEnd (by kernel_rfl) ?_
 clear hS
 refine kBlk (kFinN (.nil) ?_)
 replace hs7 := hs7.d0
 exact hs7
theorem hshard_s {W0 w : World} {L : List Asn} {f : HF} {o : Ob} {a : Option Addr} {cp : Nat} {us : List Value} (hv : Reads f 1 (.slice a o.pl.length cp) o.pl.length us) (hp : PlR f us o.pl) (st sl : Nat) (h1 : st < o.pl.length) (h2 : sl < (o.pl.getD st []).length) (hs : Sep W0 w (pool f :: L)) : Calls Tryz.prog 145 [.agg (obC o (.slice a o.pl.length cp)).toArray, .int .i64 st, .int .i64 sl].toArray w
 (Ret fun r w' => r = .tuple #[(shN o.num st sl).val, .bool true] ∧ Sep W0 w' (pool f :: L)) := by
 refine enter (args := [(.agg #[(.int .u32 (o.num.toNat : Int)), (.string ⟨#[o.nm]⟩), (I (o.len : Int)), (I (o.cnt : Int)), (I (o.pc : Int)), (.slice a o.pl.length cp)]), (I (st : Int)), (I (sl : Int))]) (n := 48) (rs := [.cell 6 280, .tmp 7]) func145 rfl rfl rfl rfl ?_
 refine rSeq (rReg (oBox hs rfl rfl rfl ?_))
 intro b1 w2 hs3; clear hs
 refine oAlloc hs3 zeroValue280 rfl rfl ?_
 intro b4 w5 hs6; clear hs3
 refine oV (xAssign rfl) rfl (oEnd (kSeq (rSeq (rSeq (rReg (oV (xMove rfl) rfl (oV (xCmp (r := false) rfl rfl (bF (by omega) rLss)) rfl (oV (xMove rfl) rfl (oGuardT rfl rfl (oV (xMove rfl) rfl (oGuardT rfl rfl (oV (xFA (j' := 5) underlying273 rfl sizeOf271 rfl rfl) rfl (oGuardT rfl rfl (oV (xLoad hs6 isAgg271 rfl (i := 1) rfl rfl) rfl (oGuardT rfl rfl (oV (xB1 rfl (rLenS underlying271)) rfl (oGuardT rfl rfl (oV (xCmp (r := false) rfl rfl (bF (by omega) rGeq)) rfl (oV (xPickF rfl rfl) rfl (oV (xMove rfl) rfl (oGuardT rfl rfl (oV (xMove rfl) rfl (oGuardT rfl rfl (oV (xCmp (r := false) rfl rfl (bF (by omega) rLss)) rfl (oV (xPickF rfl rfl) rfl (oV (xMove rfl) rfl (oGuardT rfl rfl (oV (xMove rfl) rfl (oGuardT rfl rfl (oV (xFA (j' := 5) underlying273 rfl sizeOf271 rfl rfl) rfl (oGuardT rfl rfl (oV (xLoad hs6 isAgg271 rfl (i := 1) rfl rfl) rfl ?_))))))))))))))))))))))))))))))))
 refine oGuardT rfl rfl (oV (xMove rfl) rfl (oGuardT rfl rfl ?_))
 obtain ⟨b7, off8, rfl⟩ := Reads.at hv (by omega)
 refine oV (xIA (o' := off8 + st) underlying271 sizeOf276 rfl rfl (by omega) (by omega) (by omega)) rfl (oGuardT rfl rfl ?_)
 obtain ⟨a9, cp10, he11, hb12⟩ := PlR.get hp st (by omega)
 refine oV (xLoadC isAgg276 rfl (Reads.cell hv hs6 (i := 2) rfl he11)) rfl (oGuardT rfl rfl (oV (xB1 rfl (rLenS underlying276)) rfl (oGuardT rfl rfl (oV (xCmp (r := false) rfl rfl (bF (by omega) rGeq)) rfl (oV (xPickF rfl rfl) rfl (oEnd (kSeq (rCondF rfl (rSkip (kSeq (rSeq ?_)))))))))))
 refine rRegG [(none, fun w => ∃ M, Sep W0 w (pool f :: M)), (none, fun w => ∃ M, Sep W0 w (row b1 273 [(.int .u32 (o.num.toNat : Int)), (.string ⟨#[o.nm]⟩), (I (o.len : Int)), (I (o.cnt : Int)), (I (o.pc : Int)), (.slice (some ⟨b7, off8, none⟩) o.pl.length cp)] :: M))] (by kernel_rfl) hs6 (fun w13 hs14 => ⟨?_, fun hS => ?_⟩)
 · exact ⟨⟨_, (Sep.front (i := 2) rfl hs14)⟩, ⟨_, (Sep.front (i := 1) rfl hs14)⟩, trivial⟩
 clear hs6
 refine gTake0 0 rfl (by kernel_rfl) hS (fun w => xFA (j' := 0) underlying273 rfl sizeOf33 rfl rfl) rfl ?_
 clear hS; intro hS
 refine gTake 1 1 rfl (by kernel_rfl) rfl (by kernel_rfl) hS (fun w hq0 => by obtain ⟨M, hq⟩ := hq0; exact xLoad hq isAgg33 rfl (i := 0) rfl rfl) rfl ?_
 clear hS; intro hS
 refine gTake0 2 rfl (by kernel_rfl) hS (fun w => xMove rfl) rfl ?_
 clear hS; intro hS
 refine gTake0 3 rfl (by kernel_rfl) hS (fun w => xConv underlying3 underlying34 rfl (wIto16 (st : Int))) rfl ?_
 clear hS; intro hS
 refine gTake0 4 rfl (by kernel_rfl) hS (fun w => xMove rfl) rfl ?_
 clear hS; intro hS
 refine gTake0 5 rfl (by kernel_rfl) hS (fun w => xConv underlying3 underlying34 rfl (wIto16 (sl : Int))) rfl ?_
 clear hS; intro hS
 refine gTake0 6 rfl (by kernel_rfl) hS (fun w => xFA (j' := 5) underlying273 rfl sizeOf271 rfl rfl) rfl ?_
 clear hS; intro hS
 refine gTake 7 1 rfl (by kernel_rfl) rfl (by kernel_rfl) hS (fun w hq0 => by obtain ⟨M, hq⟩ := hq0; exact xLoad hq isAgg271 rfl (i := 0) rfl rfl) rfl ?_
 clear hS; intro hS
 refine gTake0 8 rfl (by kernel_rfl) hS (fun w => xMove rfl) rfl ?_
 clear hS; intro hS
 refine gTake0 9 rfl (by kernel_rfl) hS (fun w => xIA (o' := off8 + st) underlying271 sizeOf276 rfl rfl (by omega) (by omega) (by omega)) rfl ?_
 clear hS; intro hS
 obtain ⟨a15, cp16, he17, hb18⟩ := PlR.get hp st (by omega)
 refine gTake 10 0 rfl (by kernel_rfl) rfl (by kernel_rfl) hS (fun w hq0 => by obtain ⟨M, hq⟩ := hq0; exact xLoadC isAgg276 rfl (Reads.cell hv hq (i := 0) rfl he17)) rfl ?_
 clear hS; intro hS
 refine gTake0 11 rfl (by kernel_rfl) hS (fun w => xMove rfl) rfl ?_
 clear hS; intro hS
 obtain ⟨b19, off20, rfl⟩ := Reads.at hb18 (by omega)
 refine gTake0 12 rfl (by kernel_rfl) hS (fun w => xIA (o' := off20 + sl * 2) underlying276 sizeOf278 rfl rfl (by omega) (by omega) (by omega)) rfl ?_
 clear hS; intro hS
 refine gTake0 13 rfl (by kernel_rfl) hS (fun w => xFA (j' := (off20 + sl * 2 + 1)) underlying278 rfl sizeOf33 rfl rfl) rfl ?_
 clear hS; intro hS
 refine gTake 14 0 rfl (by kernel_rfl) rfl (by kernel_rfl) hS (fun w hq0 => by obtain ⟨M, hq⟩ := hq0; exact xLoadC isAgg33 rfl (reads_cells hb18 hq (i := 0) rfl (plC_take (by omega)) 1 _ rfl)) rfl ?_
 clear hS; intro hS
 refine gTake0 15 rfl (by kernel_rfl) hS (fun w => xBuild (v := (.agg #[(.int .u32 (o.num.toNat : Int)), (.int .u16 ((UInt16.ofInt (st : Int)).toNat : Int)), (.int .u16 ((UInt16.ofInt (sl : Int)).toNat : Int)), (.int .u32 0)])) rfl (fun w => by kernel_rfl)) rfl ?_
 clear hS; intro hS
 refine gEff 16 (by kernel_rfl) rfl ?_
 refine oStoreG hs14 sizeOf280 rfl rfl rfl rfl (i := 0) rfl rfl ?_
 intro w21 hs22; clear hs14; dsimp only [List.set, putAt] at hs22
 refine oEnd (kG ⟨⟨_, (Sep.front (i := 2) rfl hs22)⟩, ⟨_, (Sep.front (i := 1) rfl hs22)⟩, trivial⟩ ?_)
 clear hS; intro hS
 refine gTake0 17 rfl (by kernel_rfl) hS (fun w => xAssign rfl) rfl ?_
 clear hS; intro hS
 refine gEnd (by kernel_rfl) ?_
 clear hS
 refine kSeq ?_
 refine rRet (kFin (.cell rfl (run_varG hs22 isAgg280 sizeOf280 (i := 0) rfl rfl) (.tmp rfl (.nil))) ?_)
 replace hs22 := hs22.d1
 replace hs22 := hs22.d0
 exact ⟨rfl, hs22⟩
theorem hgood_s {W0 w : World} {L : List Asn} {f : HF} {h : Nat} {p : Hp} (hh : HallP f h p) {o : Ob} {a : Option Addr} {cp : Nat} {us : List Value} (hv : Reads f 1 (.slice a o.pl.length cp) o.pl.length us) (hp : PlR f us o.pl) (st : Nat) (h1 : st < o.pl.length) (h2 : (o.pl.getD st []).length ≤ 1000) (hs : Sep W0 w (pool f :: L)) : Calls Tryz.prog 288 [ptr h, .agg (obC o (.slice a o.pl.length cp)).toArray, .int .i64 st].toArray w (Ret fun r w' => r = I (((o.pl.getD st []).length : Nat) : Int) ∧ Sep W0 w' (pool f :: L)) := by
 obtain ⟨⟨s5, s6, s8, s9, s10, s11, s12, s13, s14, s15, s20, s22, hh0⟩, hbk, hqp, hbad, hqm, hcode⟩ := id hh
 refine enter (args := [(ptr h), (.agg #[(.int .u32 (o.num.toNat : Int)), (.string ⟨#[o.nm]⟩), (I (o.len : Int)), (I (o.cnt : Int)), (I (o.pc : Int)), (.slice a o.pl.length cp)]), (I (st : Int))]) (n := 44) (rs := [.tmp 6]) func288 rfl rfl rfl rfl ?_
 refine rSeq (rReg (oBox hs rfl rfl rfl ?_))
 intro b1 w2 hs3; clear hs
 refine oV (xAssign rfl) rfl (oEnd (kSeq (rSeq (rReg (oV (xAssign rfl) rfl (oEnd (kSeq (rSeq (rSeq (rReg (oV (xMove rfl) rfl (oV (xCmp (r := false) rfl rfl (bF (by omega) rLss)) rfl (oV (xMove rfl) rfl (oGuardT rfl rfl (oV (xMove rfl) rfl (oGuardT rfl rfl (oV (xFA (j' := 5) underlying273 rfl sizeOf271 rfl rfl) rfl (oGuardT rfl rfl (oV (xLoad hs3 isAgg271 rfl (i := 0) rfl rfl) rfl (oGuardT rfl rfl (oV (xB1 rfl (rLenS underlying271)) rfl (oGuardT rfl rfl (oV (xCmp (r := false) rfl rfl (bF (by omega) rGeq)) rfl (oV (xPickF rfl rfl) rfl (oEnd (kSeq (rCondF rfl (rSkip (kSeq (rSeq (rSeq (rReg (oV (xFA (j' := 5) underlying273 rfl sizeOf271 rfl rfl) rfl (oV (xLoad hs3 isAgg271 rfl (i := 0) rfl rfl) rfl (oV (xMove rfl) rfl ?_)))))))))))))))))))))))))))))))))))
 obtain ⟨b4, off5, rfl⟩ := Reads.at hv (by omega)
 refine oV (xIA (o' := off5 + st) underlying271 sizeOf276 rfl rfl (by omega) (by omega) (by omega)) rfl ?_
 obtain ⟨a6, cp7, he8, hb9⟩ := PlR.get hp st (by omega)
 refine oV (xLoadC isAgg276 rfl (Reads.cell hv hs3 (i := 1) rfl he8)) rfl (oV (xB1 rfl (rLenS underlying276)) rfl (oV (xMove rfl) rfl (oEnd (kSeq (rBlk ?_)))))
 replace hs3 := hs3.f1
 refine rLoop (fun mz e w => ∃ (i : Nat), (o.pl.getD st []).length - i = mz ∧ e = [(0, (ptr h)), (2, (I (st : Int))), (4, (ptr b1)), (7, (I (i : Int))), (25, (I ((o.pl.getD st []).length : Int))), (26, (I (i : Int)))] ∧ (i ≤ (o.pl.getD st []).length) ∧ Sep W0 w (pool f :: row b1 273 [(.int .u32 (o.num.toNat : Int)), (.string ⟨#[o.nm]⟩), (I (o.len : Int)), (I (o.cnt : Int)), (I (o.pc : Int)), (.slice (some ⟨b4, off5, none⟩) o.pl.length cp)] :: L)) ⟨_, _, ⟨0, rfl, rfl, (by omega), hs3⟩, ⟨rfl, rfl, rfl, rfl, rfl, rfl, trivial⟩⟩ ?_
 clear hs3; rintro mz e w ⟨i, rfl, rfl, hi, hs⟩
 refine rSeq (rReg (oV (xCmp rfl rfl rLss) rfl (oEnd (kSeq (rSeq ?_)))))
 refine rCondD rfl (fun hc10 => ?_) (fun hc10 => ?_)
 · refine rSkip (kSeq (rSeq (rBlk (rSeq (rReg (oV (xMove rfl) rfl (oV (xAssign rfl) rfl (oEnd (kSeq (rSeq (rReg (oV (xLoadG hs isAgg273 sizeOf273 rfl (i := 1) rfl rfl) rfl (oV (xMove rfl) rfl (oV (xMove rfl) rfl (oCall call145 rfl rfl (hshard_s (o := o) hv hp st i (by omega) (by omega) hs) ?_)))))))))))))))
   rintro _ w11 ⟨rfl, hs12⟩; clear hs
   refine oV (xMove rfl) rfl (oV (xExtract rfl rfl) rfl (oV (xExtract rfl rfl) rfl (oAlloc hs12 zeroValue280 rfl rfl ?_)))
   intro b13 w14 hs15; clear hs12
   refine oStoreG hs15 sizeOf280 rfl rfl rfl rfl (i := 0) rfl rfl ?_
   intro w16 hs17; clear hs15; dsimp only [List.set, putAt] at hs17
   refine oV (xAssign rfl) rfl (oEnd (kSeq (rSeq (rReg (oV (xMove rfl) rfl (oV (xLoadG hs17 isAgg280 sizeOf280 rfl (i := 0) rfl rfl) rfl ?_))))))
   replace hs17 := hs17.f1
   refine oCall call297 rfl rfl (hbad_s hh (shN o.num st i) hs17) ?_
   rintro _ w18 ⟨rfl, hs19⟩; clear hs17
   refine oV (xNot rfl) rfl (oEnd (kSeq (rCondT rfl (rReg (oV (xMove rfl) rfl (oV (xAr rfl rfl (rAdd (wI (by omega) (by omega)))) rfl (oV (xAssign rfl) rfl (oEnd (kBlk (kSeq (rReg (oV (xAr rfl rfl (rAdd (wI (by omega) (by omega)))) rfl (oV (xMove rfl) rfl ?_)))))))))))))
   replace hs19 := hs19.d1
   exact oEnd (kLoop ((o.pl.getD st []).length - (i + 1)) _ (by omega) ⟨i + 1, rfl, rfl, (by omega), hs19⟩ ⟨rfl, rfl, rfl, rfl, rfl, rfl, trivial⟩)
 · refine rExit (kSeqX (kLoopX (kBlkH (kSeq (rSeq (rReg (oV (xMove rfl) rfl (oV (xAssign rfl) rfl (oEnd (kSeq (rRet (kFin (.tmp rfl (.nil)) ?_))))))))))))
   replace hs := hs.d1
   obtain rfl : i = (o.pl.getD st []).length := by omega
   exact ⟨rfl, hs⟩
theorem qdrop_s {W0 w : World} {L : List Asn} {f : HF} {qp qm : Nat} (hqp : PR f qp [.slice none 0 0, .map (some qm)]) (hqm : MapE f qm) (s : Ky) (hs : Sep W0 w (pool f :: L)) : Calls Tryz.prog 237 [ptr qp, s.val].toArray w (Ret fun r w' => r = .bool false ∧ Sep W0 w' (pool f :: L)) := by
 refine enter (args := [(ptr qp), (.agg #[(.int .u32 (s.o.toNat : Int)), (.int .u16 (s.st.toNat : Int))])]) (n := 68) (rs := [.tmp 4]) func237 rfl rfl rfl rfl ?_
 refine rSeq (rReg (oBox hs rfl rfl rfl ?_))
 intro b1 w2 hs3; clear hs
 refine oV (xAssign rfl) rfl (oEnd (kSeq (rSeq (rSeq (rReg (oV (xMove rfl) rfl (oV (xBin (r := .bool false) rfl rfl (fun _ => rfl) (fun w => by kernel_rfl)) rfl (oEnd (kSeq (rCondF rfl (rSkip (kSeq (rSeq (rRegQ (by kernel_rfl) (by kernel_rfl) hs3 ?_))))))))))))))
 refine qV (fun w hq => xMove rfl) rfl ?_
 refine qV (fun w hq => xNil rfl) rfl ?_
 refine qV (fun w hq => xFA (j' := 1) underlying431 rfl sizeOf428 rfl rfl) rfl ?_
 refine qV (fun w hq => xLoadC isAgg428 rfl (PR.cell hqp hq (i := 1) rfl rfl)) rfl ?_
 refine qV (fun w hq => xLoadG hq isAgg36 sizeOf36 rfl (i := 0) rfl rfl) rfl ?_
 refine qV (fun w hq => xLookupEO kyOps hqm underlying428 zeroValue3 hq (i := 1) rfl s rfl rfl) rfl ?_
 refine qV (fun w hq => xMove rfl) rfl ?_
 refine qV (fun w hq => xExtract rfl rfl) rfl ?_
 refine qV (fun w hq => xExtract rfl rfl) rfl ?_
 refine qV (fun w hq => xAssign rfl) rfl ?_
 refine qV (fun w hq => xAssign rfl) rfl ?_
 refine qEnd (fun w5 hs4 => ?_); clear hs3
 refine kSeq ?_
 refine rSeq (rSeq (rReg (oV (xMove rfl) rfl (oV (xNot rfl) rfl (oEnd (kSeq (rCondT rfl (rSeq (rReg (oV (xAssign rfl) rfl (oEnd (kSeq (rRet (kSeqR (kFin (.tmp rfl (.nil)) ?_)))))))))))))))
 replace hs4 := hs4.d0
 exact ⟨rfl, hs4⟩
theorem hrank_s {W0 w : World} {L : List Asn} {f : HF} {h : Nat} {p : Hp} (hh : HallP f h p) {o : Ob} {a : Option Addr} {cp : Nat} {us : List Value} (hv : Reads f 1 (.slice a o.pl.length cp) o.pl.length us) (hp : PlR f us o.pl) (st : Nat) (h1 : st < o.pl.length) (h2 : (o.pl.getD st []).length ≤ 1000) (hs : Sep W0 w (pool f :: L)) : Calls Tryz.prog 225 [ptr h, .agg (obC o (.slice a o.pl.length cp)).toArray, .int .i64 st].toArray w (Ret fun _ w' => Sep W0 w' (pool f :: L)) := by
 obtain ⟨⟨s5, s6, s8, s9, s10, s11, s12, s13, s14, s15, s20, s22, hh0⟩, hbk, hqp, hbad, hqm, hcode⟩ := id hh
 refine enter (args := [(ptr h), (.agg #[(.int .u32 (o.num.toNat : Int)), (.string ⟨#[o.nm]⟩), (I (o.len : Int)), (I (o.cnt : Int)), (I (o.pc : Int)), (.slice a o.pl.length cp)]), (I (st : Int))]) (n := 52) (rs := []) func225 rfl rfl rfl rfl ?_
 refine rSeq (rReg (oBox hs rfl rfl rfl ?_))
 intro b1 w2 hs3; clear hs
 refine oEnd (kSeq (rSeq (rSeq (rReg (oV (xMove rfl) rfl (oV (xBin (r := .bool false) rfl rfl (fun _ => rfl) (fun w => by kernel_rfl)) rfl (oV (xMove rfl) rfl (oGuardT rfl rfl (oV (xMove rfl) rfl (oGuardT rfl rfl (oV (xCmp (r := false) rfl rfl (bF (by omega) rLss)) rfl (oV (xPickF rfl rfl) rfl (oV (xMove rfl) rfl (oGuardT rfl rfl (oV (xMove rfl) rfl (oGuardT rfl rfl (oV (xFA (j' := 5) underlying273 rfl sizeOf271 rfl rfl) rfl (oGuardT rfl rfl (oV (xLoad hs3 isAgg271 rfl (i := 0) rfl rfl) rfl (oGuardT rfl rfl (oV (xB1 rfl (rLenS underlying271)) rfl (oGuardT rfl rfl (oV (xCmp (r := false) rfl rfl (bF (by omega) rGeq)) rfl (oV (xPickF rfl rfl) rfl (oEnd (kSeq (rCondF rfl (rSkip (kSeq (rSeq (rReg (oV (xFA (j' := 0) underlying273 rfl sizeOf33 rfl rfl) rfl (oV (xLoad hs3 isAgg33 rfl (i := 0) rfl rfl) rfl (oV (xMove rfl) rfl ?_))))))))))))))))))))))))))))))))))
 refine oV (xConv underlying3 underlying34 rfl (wIto16 (st : Int))) rfl (oV (xBuild (v := (.agg #[(.int .u32 (o.num.toNat : Int)), (.int .u16 ((UInt16.ofInt (st : Int)).toNat : Int))])) rfl (fun w => by kernel_rfl)) rfl (oAlloc hs3 zeroValue36 rfl rfl ?_))
 intro b4 w5 hs6; clear hs3
 refine oStoreG hs6 sizeOf36 rfl rfl rfl rfl (i := 0) rfl rfl ?_
 intro w7 hs8; clear hs6; dsimp only [List.set, putAt] at hs8
 refine oEnd (kSeq (rSeq (rReg (oV (xMove rfl) rfl (oV (xLoadG hs8 isAgg273 sizeOf273 rfl (i := 1) rfl rfl) rfl (oV (xMove rfl) rfl ?_))))))
 replace hs8 := hs8.f2
 refine oCall call288 rfl rfl (hgood_s hh (o := o) hv hp st (by omega) (by omega) hs8) ?_
 rintro _ w9 ⟨rfl, hs10⟩; clear hs8
 refine oV (xAssign rfl) rfl (oEnd (kSeq (rSeq (rReg (oV (xMove rfl) rfl (oV (xFA (j' := 5) underlying273 rfl sizeOf271 rfl rfl) rfl (oV (xLoad hs10 isAgg271 rfl (i := 2) rfl rfl) rfl (oV (xMove rfl) rfl ?_))))))))
 obtain ⟨b11, off12, rfl⟩ := Reads.at hv (by omega)
 refine oV (xIA (o' := off12 + st) underlying271 sizeOf276 rfl rfl (by omega) (by omega) (by omega)) rfl ?_
 obtain ⟨a13, cp14, he15, hb16⟩ := PlR.get hp st (by omega)
 refine oV (xLoadC isAgg276 rfl (Reads.cell hv hs10 (i := 0) rfl he15)) rfl (oV (xB1 rfl (rLenS underlying276)) rfl (oV (xCmp (r := false) rfl rfl (bF (by omega) rLss)) rfl (oEnd (kSeq (rCondF rfl ?_)))))
 refine rRegG [(none, fun w => ∃ M, Sep W0 w (pool f :: M)), (none, fun w => ∃ M, Sep W0 w (row b4 36 [(.int .u32 (o.num.toNat : Int)), (.int .u16 ((UInt16.ofInt (st : Int)).toNat : Int))] :: M))] (by kernel_rfl) hs10 (fun w17 hs18 => ⟨?_, fun hS => ?_⟩)
 · exact ⟨⟨_, (Sep.front (i := 0) rfl hs18)⟩, ⟨_, (Sep.front (i := 1) rfl hs18)⟩, trivial⟩
 clear hs10
 refine gTake0 0 rfl (by kernel_rfl) hS (fun w => xMove rfl) rfl ?_
 clear hS; intro hS
 refine gTake0 1 rfl (by kernel_rfl) hS (fun w => xNil rfl) rfl ?_
 clear hS; intro hS
 refine gTake0 2 rfl (by kernel_rfl) hS (fun w => xFA (j' := 4) underlying266 rfl sizeOf261 rfl rfl) rfl ?_
 clear hS; intro hS
 refine gTake 3 0 rfl (by kernel_rfl) rfl (by kernel_rfl) hS (fun w hq0 => by obtain ⟨M, hq⟩ := hq0; exact xLoadC isAgg261 rfl (PR.cell hh0 hq (i := 0) rfl rfl)) rfl ?_
 clear hS; intro hS
 refine gTake 4 1 rfl (by kernel_rfl) rfl (by kernel_rfl) hS (fun w hq0 => by obtain ⟨M, hq⟩ := hq0; exact xLoadG hq isAgg36 sizeOf36 rfl (i := 0) rfl rfl) rfl ?_
 clear hS; intro hS
 refine gEff 5 (by kernel_rfl) rfl ?_
 refine oCall call237 rfl rfl (qdrop_s hqp hqm (⟨o.num, (UInt16.ofInt (st : Int))⟩ : Ky) hs18) ?_
 rintro _ w19 ⟨rfl, hs20⟩; clear hs18
 refine oEnd (kG ⟨⟨_, (Sep.front (i := 0) rfl hs20)⟩, ⟨_, (Sep.front (i := 1) rfl hs20)⟩, trivial⟩ ?_)
 clear hS; intro hS
 refine gEnd (by kernel_rfl) ?_
 clear hS
 refine kFinN (.nil) ?_
 replace hs20 := hs20.d2
 replace hs20 := hs20.d1
 exact hs20
end Go.Sl
namespace Go.Sl
open Go.Proofs
theorem Iv_zero {n i : Nat} (h : i < n) : (Iv (List.replicate n 0))[i]? = some (.int .i64 0) := by
  simp [Iv, h]
def Nv (l : List Nat) : List Value := l.map (fun (i : Nat) => Value.int .i64 (i : Int))
theorem Nv_get {l : List Nat} {i : Nat} (h : i < l.length) : (Nv l)[i]? = some (.int .i64 ((l.getD i 0 : Nat) : Int)) := by simp [Nv, h]
theorem Nv_set {l : List Nat} {i v : Nat} : (Nv l).set i (.int .i64 (v : Int)) = Nv (l.set i v) := List.map_set.symm
theorem Nv_snoc (l : List Nat) (v : Nat) : Nv l ++ [.int .i64 (v : Int)] = Nv (l ++ [v]) := by simp [Nv]
theorem Nv_range (i : Nat) : Nv (List.range i) ++ [.int .i64 (i : Int)] = Nv (List.range (i + 1)) := by rw [Nv_snoc, List.range_succ]
theorem Nv_nil : Nv [] = [] := rfl
def swpN (l : List Nat) (j : Nat) : List Nat := (l.set j (l.getD (j - 1) 0)).set (j - 1) (l.getD j 0)
theorem swpN_perm {l : List Nat} {j : Nat} (h0 : 0 < j) (h : j < l.length) : (swpN l j).Perm l := by
  obtain ⟨i, rfl⟩ : ∃ i, j = i + 1 := ⟨j - 1, by omega⟩
  simp only [swpN, Nat.add_sub_cancel]
  have e : l = l.take i ++ (l.getD i 0 :: l.getD (i + 1) 0 :: l.drop (i + 2)) := by
    have h1 := List.take_append_drop i l
    rw [List.drop_eq_getElem_cons (by omega), List.drop_eq_getElem_cons (i := i + 1) (by omega)] at h1
    simp only [List.getD_eq_getElem?_getD, List.getElem?_eq_getElem h, List.getElem?_eq_getElem (show i < l.length by omega), Option.getD_some]
    exact h1.symm
  have hl : (l.take i).length = i := by simp; omega
  generalize hx : l.getD i 0 = x at *
  generalize hy : l.getD (i + 1) 0 = y at *
  rw [e, List.set_append_right _ _ (by omega), List.set_append_right _ _ (by omega), hl, Nat.add_sub_cancel_left, Nat.sub_self]
  simp only [List.set_cons_succ, List.set_cons_zero]
  exact List.Perm.append_left _ (List.Perm.swap _ _ _)
theorem perm_lt {l : List Nat} {m j : Nat} (h : ∀ x ∈ l, x < m) (hj : j < l.length) : l.getD j 0 < m := by
  rw [List.getD_eq_getElem?_getD, List.getElem?_eq_getElem hj]; exact h _ (List.getElem_mem _)
theorem perm_all {l l' : List Nat} {m : Nat} (hp : l'.Perm l) (h : ∀ x ∈ l, x < m) : ∀ x ∈ l', x < m := fun x hx => h x (hp.mem_iff.1 hx)
def cmpv (ls : List Int) (x y : Nat) : Int := IntKind.i64.wrap (ls.getD x 0 - ls.getD y 0)
end Go.Sl
