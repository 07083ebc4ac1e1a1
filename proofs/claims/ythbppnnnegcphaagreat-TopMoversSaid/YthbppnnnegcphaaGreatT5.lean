/- Part 5 of a proof: what the functions of the program compute, and at the end that the law answers true for every input. No conditions beyond the statement's own. -/
import Derived.Test.YthbppnnnegcphaaGreatT4
import Derived.Laws.IdiomStrings
import Derived.Laws.BytesArg
import Derived.WalkKit
import Derived.ProofKit
import Derived.OpenShut
import Derived.JoinedCond
import Derived.Deep.Strs
import Derived.WideKeyArgs
import Derived.Test.YthbppnnnegcphaaGreatRows
import Derived.JoinedOf
import Derived.KernelRfl
set_option linter.unusedVariables false
set_option linter.unusedSimpArgs false
namespace Go.Sl
open Go.Proofs
section
variable {P : Program} {n : Nat} {K : Kont} {e : Env} {w w' : World} {ops : Array Oper} {rest : List Oper} {W0 : World} {L : List Asn}
def rowZ (b : Nat) (el : TypeId) (xs : List Value) : Asn := fun h => ∃ (c : Array Value) (fr : Nat × Nat), h b = some (.cells c el fr) ∧ ∀ (i : Nat) (v : Value), xs[i]? = some v → c[i]? = some v
theorem oMarkBytes {i b d m cap : Nat} {xs : List Value} {s : TypeId} {x : Operand} {ty : TypeId} {pos : String} {af : Array Edge} (hs : Sep W0 w L) (hi : L[i]? = some (row b 5 xs)) (h1 : P.underlying s = some (.slice 5)) (h2 : P.underlying 5 = some (.int .u8))
    (hx : e.ev x = some (.slice (some ⟨b, 0, none⟩) m cap)) (hn : Nat.blt d n = true) (hk : ∀ w', Sep W0 w' (L.set i (rowZ b 5 xs)) → Ops P n ops K rest ((d, .slice (some ⟨b, 0, none⟩) m cap) :: e) w') :
    Ops P n ops K (⟨some d, .convert s s x, ty, pos, af, none⟩ :: rest) e w := by
  obtain ⟨S, ⟨c, hc, hcx⟩, hSn, hupd⟩ := hs.upd hi
  obtain ⟨hSb, hg⟩ := only_of hc
  have hg : w.heap[b]? = some (.cells c 5 (0, 0)) := hg
  have hsh : w.shape? b = some (5, c.size) := by simp [World.shape?, hg]
  refine Ops.val (w' := w.freeze { block := b, off := c.size } 1) rfl rfl hn (fun a ha => ?_) (hk _ (hupd _ _ ?_ ?_ ?_ ?_ ?_))
  · simp only [execOp, ha.ev hx, convert, Sem.run_bind, run_underlying h1, run_underlying h2, Result.andThen_ok, beq_self_eq_true]
    simp only [markStringish, shape, freeze, Sem.run, hsh, Sem.run_bind, Result.andThen_ok, Sem.run_pure]
  · simp [World.freeze]
  · simp [World.freeze]
  · simp [World.freeze]
  · intro b' hb'
    have hne : b ≠ b' := fun h => by rw [h] at hSb; rw [hSb] at hb'; cases hb'
    simp [World.freeze, Array.getElem?_modify, hne]
  · refine ⟨c, (c.size, c.size + 1), ?_, hcx⟩
    simp [only, hSb, hfOf, World.freeze, Array.getElem?_modify, hg]
theorem Sep.freezeZ {i b len cap : Nat} {f : HF} {l : List UInt8} (hs : Sep W0 w (pool f :: L)) (hi : L[i]? = some (rowZ b 5 (l.map B))) (hl : l.length = len) (hnc : len ≤ cap) :
    ∃ f' : HF, FLe f f' ∧ RB f' (some ⟨b, 0, none⟩) len cap l ∧ Sep W0 w (pool f' :: L.eraseIdx i) := by
  obtain ⟨f', g, h1, ⟨c, fr, h2, h3⟩, h4, h5⟩ := hs.freeze hi
  exact ⟨f', h1, ⟨by simp [hl], .inl ⟨b, 0, cap, c, _, _, rfl, hnc, h4 _ _ h2, fun j u hu => by simpa using h3 j u hu⟩⟩, h5⟩
end
end Go.Sl
namespace Go.Sl
open Go.Proofs
theorem xBytesStr {P : Program} {n : Nat} {e : Env} {w W0 : World} {L : List Asn} {f : HF} {i d m cp : Nat} {a : Option Addr} {l : List UInt8} {x : Operand} {s t : TypeId} {ty : TypeId} {pos : String} {af : Array Edge} (hb : RB f a m cp l) (hs : Sep W0 w L) (hi : L[i]? = some (pool f))
    (h1 : P.underlying s = some (.slice 5)) (h2 : P.underlying 5 = some (.int .u8)) (h3 : P.underlying t = some .string) (hx : e.ev x = some (.slice a m cp)) : Xq P n e w d (.convert s t x) ty pos af (.string ⟨l.toArray⟩) := fun ac ha => by
  have hl := RB.len hb
  subst hl
  have hr : (convert s t (.slice a l.length cp)).run P w = .ok (.string ⟨l.toArray⟩) w := by
    obtain ⟨_, ⟨b, off, cap, c, ty', fr, he, hnc, hf, hc⟩ | ⟨a', cap, he, h0⟩⟩ := id hb
    · cases he
      refine run_convert_bytes_back w s t 5 ⟨b, off, none⟩ cp l h1 h2 h3 (fun j hj => ?_)
      rw [add_lit]
      exact Reads.cell hb hs hi (i := i) (getB hj) |>.trans (by simp [List.getD_eq_getElem?_getD, hj])
    · obtain rfl : l = [] := List.length_eq_zero_iff.1 h0
      cases a with
      | none => exact run_convert_bytes_nil (P := P) (w := w) s 5 h1 h2 _ _ t h3
      | some a => exact run_convert_bytes_back w s t 5 a cp [] h1 h2 h3 (fun j hj => by simp at hj)
  simp only [execOp, ha.ev hx, Sem.run_bind, hr, Result.andThen_ok, Sem.run_pure]
end Go.Sl
namespace Go.Sl
open Go.Proofs
def hel : LB := [104, 101, 108, 108, 111]
def bssH : List (List LB) := [[[104], [13], [162]], [[108], [0], [180]], [[111], [111], [111]]]
def rowsH : LL := [[104, 101], [108, 108], [111, 0]]
theorem hel_cnt : planCnt 2 1 5 = 3 := by decide +kernel
theorem hel_pc : planPc 2 1 5 = 1 := by decide +kernel
theorem hel_enc : encsUp 3 2 hel (2 * (2 - 1) * 1) 3 = bssH := by decide +kernel
def psH (i : Nat) : List Prt := ((List.range 3).map (fun s => (s, (bssH.getD i []).getD s []))).take 2
theorem hel_row {i : Nat} (h : i < 3) : dUp 3 2 1 (psH i) 1 = rowsH.getD i [] := by
  obtain rfl | rfl | rfl : i = 0 ∨ i = 1 ∨ i = 2 := by omega
  all_goals decide +kernel
theorem hel_dec {i : Nat} (h : i < 3) : DecOk 3 2 (psH i) := by
  refine ⟨fun a b hb ha => ?_, fun a ha => ?_, ?_⟩
  · obtain ⟨rfl, rfl⟩ : a = 1 ∧ b = 0 := by omega
    obtain rfl | rfl | rfl : i = 0 ∨ i = 1 ∨ i = 2 := by omega
    all_goals decide +kernel
  · obtain rfl : a = 0 := by omega
    obtain rfl | rfl | rfl : i = 0 ∨ i = 1 ∨ i = 2 := by omega
    all_goals decide +kernel
  · obtain rfl | rfl | rfl : i = 0 ∨ i = 1 ∨ i = 2 := by omega
    all_goals decide +kernel
section
variable {nds : List Nd}
theorem fresh_look (h : ∀ nd ∈ nds, nd.up = true ∧ nd.ks = []) (i : Nat) (s : Sh) : look nds i s = none := by
  unfold look
  cases hn : nds[i]? with
  | none => rfl
  | some nd => simp only [Option.bind_some]; rw [(h nd (List.mem_of_getElem? hn)).2]; rfl
theorem fresh_kcnt (h : ∀ nd ∈ nds, nd.up = true ∧ nd.ks = []) (i : Nat) : kcnt nds i = 0 := by
  unfold kcnt
  cases hn : nds[i]? with
  | none => rfl
  | some nd => simp [(h nd (List.mem_of_getElem? hn)).2]
theorem fresh_up (h : ∀ nd ∈ nds, nd.up = true ∧ nd.ks = []) {i : Nat} (hi : i < nds.length) : isUp nds i = true := by
  unfold isUp
  rw [List.getElem?_eq_getElem hi]
  exact (h _ (List.getElem_mem hi)).1
theorem fresh_ups (h : ∀ nd ∈ nds, nd.up = true ∧ nd.ks = []) : ((List.range nds.length).filter (isUp nds)).length = nds.length := by
  rw [List.filter_eq_self.2 (fun i hi => fresh_up h (List.mem_range.1 hi)), List.length_range]
end
theorem getD_mem {l : List Nat} {j : Nat} (h : j < l.length) : l.getD j 0 ∈ l := by
  rw [List.getD_eq_getElem?_getD, List.getElem?_eq_getElem h]; exact List.getElem_mem _
theorem sortO_nil : SortO [] := List.Pairwise.nil
theorem sortO_one (o : Ob) : SortO [o] := List.pairwise_singleton _ _
def S0 (nds : List Nd) : Sto := ⟨nds, [], 1, 0, 0, 0, 0⟩
theorem hel_put {p : Hp} {nds : List Nd} (hp : p.n = 3 ∧ p.k = 2 ∧ p.nn = 3 ∧ p.piece = 1) (hl : nds.length = 3) (hf : ∀ nd ∈ nds, nd.up = true ∧ nd.ks = []) : PutHy p 100 1000 1048576 (S0 nds) hel 120 3 1 bssH := by
  obtain ⟨h1, h2, h3, h4⟩ := hp
  exact
    { p1 := by omega
      p2 := by omega
      len := by decide
      cn := by rw [h2, h4]; exact hel_cnt
      epc := by rw [h2, h4]; exact hel_pc
      bs := by rw [h1, h2]; exact hel_enc
      cn32 := by omega
      pc1 := by omega
      pc2 := by omega
      put :=
        { free := fun i st sl => fresh_look hf i _
          room := fun i => by show kcnt nds i + 3 * p.n < 1000; rw [fresh_kcnt hf, h1]; decide
          fit := by rw [h1]; decide
          len := rfl
          small := by omega }
      ups := by show p.n ≤ ((List.range p.nn).filter (isUp nds)).length; rw [h1, h3, ← hl]; exact Nat.le_of_eq (fresh_ups hf).symm
      ndl := by rw [h3]; exact hl
      good := fun o ho => absurd ho List.not_mem_nil
      B := fun o ho => absurd ho List.not_mem_nil
      nn := by omega
      n2 := by show (0 : Nat) < 64; omega
      ns := by omega
      q := by show (0 : Nat) + 10000 ≤ 1152921504606846976; omega
      lNC := by omega
      lsz := by omega
      nx := by show (1 : UInt32).toNat < 4294967295; decide
      la := by show (0 : UInt32).toNat < (1 : UInt32).toNat; decide
      c1 := by decide
      c2 := by decide
      sort := sortO_nil
      fin := fun x hx => absurd hx List.not_mem_nil
      num := fun x hx => absurd hx List.not_mem_nil
      dm := by show (0 : Nat) ≤ 99998; omega
      tm := by show (0 : Nat) + 12000 ≤ 1048576; omega
      lmost := by omega }
def helO (pls : List (List Nat)) : Ob := ⟨1, 120, 5, pls.length, 1, pls⟩
def S1 (nds : List Nd) (p : Hp) (pls : List (List Nat)) : Sto := putSto (S0 nds) p 5 120 1 pls bssH
theorem hel_at {p : Hp} {nds : List Nd} {pls : List (List Nat)} (hp : p.n = 3 ∧ p.k = 2 ∧ p.nn = 3 ∧ p.piece = 1) (hl : nds.length = 3) (hf : ∀ nd ∈ nds, nd.up = true ∧ nd.ks = []) (hpl : pls.length = 3) (hpls : ∀ l ∈ pls, PlOk p.n p.nn l ∧ ∀ j ∈ l, isUp nds j = true) {i : Nat} (hi : i < 3) :
    RdOk p (S1 nds p pls).nds (helO pls) bssH i ∧ ∀ j, j < 3 → isUp (S1 nds p pls).nds ((pls.getD i []).getD j 0) = true := by
  have H := hel_put hp hl hf
  obtain ⟨h1, h2, h3, h4⟩ := hp
  have hm : pls.getD i [] ∈ pls := by rw [List.getD_eq_getElem?_getD, List.getElem?_eq_getElem (show i < pls.length by omega)]; exact List.getElem_mem _
  refine ⟨⟨(hpls _ hm).1, fun j hj _ => ?_, fun j hj => ?_⟩, fun j hj => ?_⟩
  · have := putS_at H.put hpls hpl pls.length (by omega) i (by omega) j hj
    exact this
  · show ((bssH.getD i []).getD j []).length = (p.k - 1) * 1
    rw [h2]
    obtain rfl | rfl | rfl : i = 0 ∨ i = 1 ∨ i = 2 := by omega
    all_goals obtain rfl | rfl | rfl : j = 0 ∨ j = 1 ∨ j = 2 := by omega
    all_goals rfl
  · show isUp (putS nds 1 p.n pls bssH pls.length) _ = true
    rw [putS_up]
    refine (hpls _ hm).2 _ ?_
    have := (hpls _ hm).1.len
    exact getD_mem (by omega)
theorem hel_get {p : Hp} {nds : List Nd} {pls : List (List Nat)} (hp : p.n = 3 ∧ p.k = 2 ∧ p.nn = 3 ∧ p.piece = 1) (hl : nds.length = 3) (hf : ∀ nd ∈ nds, nd.up = true ∧ nd.ks = []) (hpl : pls.length = 3) (hpls : ∀ l ∈ pls, PlOk p.n p.nn l ∧ ∀ j ∈ l, isUp nds j = true) :
    GetHy p 100 1000 (S1 nds p pls) 0 (helO pls) bssH rowsH := by
  have hat := fun i (hi : i < 3) => hel_at hp hl hf hpl hpls hi
  obtain ⟨h1, h2, h3, h4⟩ := hp
  have hps : ∀ i, i < 3 → (rdPs p (S1 nds p pls).nds (helO pls) bssH i) = (List.range 3).map (fun s => (s, (bssH.getD i []).getD s [])) := fun i hi => by
    unfold rdPs; rw [h1]; exact upJ_all (fun s hs => (hat i hi).2 s hs)
  exact
    { eix := rfl
      sort := sortO_one _
      B := fun o ho => by
        have : o = helO pls := List.mem_singleton.1 ho
        subst this
        exact ⟨by show pls.length ≤ 32; omega, fun l hl => by rw [(hpls l hl).1.len]; omega⟩
      n2 := by show (1 : Nat) ≤ 64; omega
      opl := rfl
      cnt := by show pls.length ≤ 32; omega
      ndl := by show (putS nds 1 p.n pls bssH pls.length).length = p.nn; rw [putS_length, hl, h3]
      pc1 := Nat.le_refl _
      pc2 := by show (1 : Nat) ≤ 256; omega
      n24 := by omega
      q := by show (0 : Nat) + pls.length * p.nn + 10000 ≤ 1152921504606846976; rw [hpl, h3]; omega
      lNC := by omega
      lsz := by omega
      get := fun i hi => by
        have hi3 : i < 3 := by have : i < pls.length := hi; omega
        refine ⟨(hat i hi3).1, ?_, ?_, ?_⟩
        · rw [hps i hi3, h2]; simp
        · rw [hps i hi3, h1, h2]; exact hel_dec hi3
        · rw [hps i hi3, h1, h2]; exact hel_row hi3
      rl := by show 3 = pls.length; omega
      rowl := by rw [h2]; show ∀ x ∈ rowsH, x.length = 2 * (2 - 1) * 1; decide
      len := by show 5 ≤ pls.length * (p.k * (p.k - 1) * 1); rw [hpl, h2]; decide }
end Go.Sl
namespace Go.Sl
open Go.Proofs Go.Proofs.Tryz
theorem works_s {W0 w : World} {L : List Asn} {f : HF} (hs : Sep W0 w (pool f :: L)) : Calls Tryz.prog 11 [].toArray w (Ret fun r w' => ∃ f', r = .bool true ∧ FLe f f' ∧ Sep W0 w' (pool f' :: L)) := by
 refine enter (args := []) (n := 44) (rs := [.tmp 0]) func11 rfl rfl rfl rfl ?_
 refine rSeq (rReg (oV (xAssign rfl) rfl (oEnd (kSeq (rSeq (rReg (oV (xBuild (v := (.agg #[(.int .u8 0), (.int .u8 0), (.int .u8 0), (.int .u8 0), (.int .u8 0), (.int .u8 0), (.slice none 0 0)])) rfl (fun w => by kernel_rfl)) rfl (oCall call67 rfl rfl (begun0_s hs) ?_))))))))
 rintro _ w3 ⟨f1, y, h, p, nds, rfl, hle2, hy, hh, hpe, hnl, hfr, hs4⟩; clear hs
 have hpe2 := hpe; obtain ⟨e1, e2, e3, e4⟩ := hpe2
 have hs5 := sto_out (S := S0 nds) (n := 0) (a := none) (cp := 0) (cs := []) rfl ⟨rfl, .inr ⟨none, 0, rfl, rfl⟩⟩ ObsR.nil (Nat.le_refl _) (p := p) (sz := 100) (NC := 1000) (most := 1048576) (f := f1) (by rw [e1, e3]; exact hs4); clear hs4
 refine oV (xAssign rfl) rfl (oEnd (kSeq (rSeq (rSeq (rReg (oV (xMove rfl) rfl (oV (xBin (r := .bool false) rfl rfl (fun _ => rfl) (fun w => by kernel_rfl)) rfl (oEnd (kSeq (rCondF rfl (rSkip (kSeq (rSeq (rReg (oV (xMove rfl) rfl (oBuildSlice (el := 5) (cs := [(.int .u8 104), (.int .u8 101), (.int .u8 108), (.int .u8 108), (.int .u8 111)]) hs5 rfl (fun w => by kernel_rfl) rfl ?_))))))))))))))))
 intro b6 w7 hs8; clear hs5
 refine oMarkBytes hs8 (i := 0) rfl underlying26 underlying5 rfl rfl ?_
 intro w9 hs10; clear hs8; dsimp only [List.set] at hs10
 replace hs10 := hs10.f1
 obtain ⟨f11, hle12, hb13, hs14⟩ := Sep.freezeZ (i := 0) (l := hel) (len := 5) (cap := 5) hs10 rfl rfl (Nat.le_refl _); clear hs10; dsimp only [List.eraseIdx] at hs14
 replace hy := hy.mono hle12
 replace hh := hh.mono hle12
 refine oV (xBuild (v := (.agg #[(I 1), (.string ⟨#[120]⟩), (.slice (some ⟨b6, 0, none⟩) 5 5), (I 0), (I 0), (I 0), (.int .u8 0)])) rfl (fun w => by kernel_rfl)) rfl ?_
 replace hs14 := hs14.f1
 replace hs14 := hs14.f1
 have hs15 := Sep.imp (i := 1) (A' := stoA f11 p 100 1000 1048576 (S0 nds)) rfl (fun h => stoA_mono hle12 h) hs14; dsimp only [List.set] at hs15; clear hs14
 refine oCall call13 rfl rfl (ydop_s (l := hel) (c := 120) hh hy hb13 (hel_put hpe hnl hfr) hs15) ?_
 rintro _ w16 ⟨f18, pls, rfl, hle19, hpll, hpls, hs17⟩; clear hs15; have hg := hel_get hpe hnl hfr hpll hpls; have hat := hel_at hpe hnl hfr hpll hpls (i := 0) (by omega)
 replace hy := hy.mono hle19
 replace hh := hh.mono hle19
 replace hb13 := hb13.mono hle19
 refine oAlloc hs17 zeroValue40 rfl rfl ?_
 intro b20 w21 hs22; clear hs17
 refine oStoreG hs22 sizeOf40 rfl rfl rfl rfl (i := 0) rfl rfl ?_
 intro w23 hs24; clear hs22; dsimp only [List.set, putAt] at hs24
 refine oEnd (kSeq (rSeq (rReg (oV (xMove rfl) rfl (oV (xBuild (v := (.agg #[(I 2), (.string ⟨#[120]⟩), (.slice none 0 0), (I 0), (I 0), (I 0), (.int .u8 0)])) rfl (fun w => by kernel_rfl)) rfl ?_)))))
 replace hs24 := hs24.f2
 replace hs24 := hs24.f2
 refine oCall call13 rfl rfl (ydog_s (o := helO pls) hh hy hg hs24) ?_
 rintro _ w25 ⟨f27, a29, rfl, hle28, hb30, hs26⟩; clear hs24; rw [show rowsH.flatten.take (helO pls).len = hel from rfl] at hb30; rw [show (helO pls).len = 5 from rfl] at hb30
 replace hy := hy.mono hle28
 replace hh := hh.mono hle28
 replace hb13 := hb13.mono hle28
 refine oAlloc hs26 zeroValue40 rfl rfl ?_
 intro b31 w32 hs33; clear hs26
 refine oStoreG hs33 sizeOf40 rfl rfl rfl rfl (i := 0) rfl rfl ?_
 intro w34 hs35; clear hs33; dsimp only [List.set, putAt] at hs35
 refine oEnd (kSeq (rSeq (rReg (oV (xMove rfl) rfl ?_))))
 replace hs35 := hs35.f2
 replace hs35 := hs35.f2
 obtain ⟨ta, tcp, tcs, ttm, ht1, ht2, ht3, hs36⟩ := sto_in hs35; clear hs35
 refine oCall call68 rfl rfl (ytrue_s (o := helO pls) (st := 0) (bs := bssH.getD 0 []) hh ht1 ht2 rfl hg.sort hg.B hg.n2 (by show 0 < pls.length; omega) hat.1.pl hg.ndl hat.1.st hat.1.len hg.n24 (by decide) (by show (0 + pls.length * p.nn) + pls.length * p.n + 1000 ≤ 1152921504606846976; rw [hpll, e3, e1]; omega) (by decide) (by decide) hg.eix hy (by rw [e1]; exact hat.2) hs36) ?_
 rintro _ w39 ⟨f37, rfl, hle38, hs40⟩; clear hs36; rw [e1]
 replace hy := hy.mono hle38
 replace hh := hh.mono hle38
 replace hb13 := hb13.mono hle38
 replace hb30 := hb30.mono hle38
 refine oV (xMove rfl) rfl (oV (xExtract rfl rfl) rfl (oV (xExtract rfl rfl) rfl (oV (xAssign rfl) rfl (oV (xAssign rfl) rfl (oEnd (kSeq (rSeq (rReg (oV (xFA (j' := 0) underlying40 rfl sizeOf29 rfl rfl) rfl (oV (xLoad hs40 isAgg29 rfl (i := 7) rfl rfl) rfl (oV (xCmp (r := true) rfl rfl rEql) rfl (oV (xMove rfl) rfl (oGuardT rfl rfl (oV (xFA (j' := 0) underlying40 rfl sizeOf29 rfl rfl) rfl (oGuardT rfl rfl (oV (xLoad hs40 isAgg29 rfl (i := 6) rfl rfl) rfl (oGuardT rfl rfl (oV (xCmp (r := true) rfl rfl rEql) rfl (oV (xPickT rfl rfl) rfl (oV (xMove rfl) rfl (oGuardT rfl rfl (oV (xFA (j' := 1) underlying40 rfl sizeOf26 rfl rfl) rfl (oGuardT rfl rfl (oV (xLoad hs40 isAgg26 rfl (i := 6) rfl rfl) rfl (oGuardT rfl rfl (oV (xBytesStr hb30 hs40 (i := 0) rfl underlying26 underlying5 underlying9 rfl) rfl ?_))))))))))))))))))))))))))
 refine oGuardT rfl rfl (oV (xBin (r := .bool true) rfl rfl (fun _ => rfl) (fun w => by kernel_rfl)) rfl (oV (xPickT rfl rfl) rfl (oV (xMove rfl) rfl (oGuardT rfl rfl (oV (xMove rfl) rfl (oV (xPickT rfl rfl) rfl (oV (xMove rfl) rfl (oGuardT rfl rfl (oV (xMove rfl) rfl (oGuardT rfl rfl (oV (xCmp (r := true) rfl rfl rEql) rfl (oV (xPickT rfl rfl) rfl (oV (xAssign rfl) rfl (oEnd (kSeq (rRet (kFin (.tmp rfl (.nil)) ?_)))))))))))))))))
 replace hs40 := hs40.d7
 replace hs40 := hs40.d6
 replace hs40 := hs40.d5
 replace hs40 := hs40.d4
 replace hs40 := hs40.d3
 replace hs40 := hs40.d2
 replace hs40 := hs40.d1
 exact ⟨_, rfl, (FLe.trans hle2 (FLe.trans hle12 (FLe.trans hle19 (FLe.trans hle28 hle38)))), hs40⟩
end Go.Sl
namespace Go.Sl
open Go.Proofs
section
variable {P : Program} {t : TypeId}
theorem uQuo64 (a b : UInt64) (hb : b.toNat ≠ 0) (w : World) : Sem.run P (binOp .quo t (.int .u64 a.toNat) (.int .u64 b.toNat)) w = .ok (.int .u64 ((a / b).toNat : Int)) w := by
  refine rQuo (by omega) ?_ w
  rw [Int.tdiv_eq_ediv_of_nonneg (by omega), ← Int.natCast_ediv, ← UInt64.toNat_div]
  exact wSame64 _
theorem uRem8 (a b : UInt8) (hb : b.toNat ≠ 0) (w : World) : Sem.run P (binOp .rem t (.int .u8 a.toNat) (.int .u8 b.toNat)) w = .ok (.int .u8 ((a % b).toNat : Int)) w := by
  refine rRem (by omega) ?_ w
  rw [Int.tmod_eq_emod_of_nonneg (by omega), ← Int.natCast_emod, ← UInt8.toNat_mod]
end
theorem ofInt64_toNat (c : UInt64) : UInt64.ofInt (c.toNat : Int) = c := by
  apply UInt64.toNat.inj
  have := c.toNat_lt
  simp [UInt64.ofInt]
  omega
theorem ofInt64_nat {n : Nat} (h : n < 18446744073709551616) : (UInt64.ofInt (n : Int)).toNat = n := by
  simp [UInt64.ofInt]
  omega
def Uv (l : List UInt64) : List Value := l.map (fun k => Value.int .u64 (k.toNat : Int))
theorem Uv_get {l : List UInt64} {i : Nat} (h : i < l.length) : (Uv l)[i]? = some (.int .u64 ((l.getD i 0).toNat : Int)) := by simp [Uv, h]
theorem Uv_snoc (l : List UInt64) (v : UInt64) : Uv l ++ [.int .u64 (v.toNat : Int)] = Uv (l ++ [v]) := by simp [Uv]
theorem Uv_nil : Uv [] = [] := rfl
def Sv (ls : LL) : List Value := ls.map (fun l => Value.string ⟨l.toArray⟩)
theorem Sv_get {ls : LL} {i : Nat} (h : i < ls.length) : (Sv ls)[i]? = some (.string ⟨(ls.getD i []).toArray⟩) := by simp [Sv, h]
theorem xIndexSt {P : Program} {n : Nat} {e : Env} {w : World} {d i : Nat} {l : LB} {x y : Operand} {t : TypeId} {ty : TypeId} {pos : String} {af : Array Edge} (hu : P.underlying t = some .string) (hx : e.ev x = some (.string ⟨l.toArray⟩)) (hy : e.ev y = some (.int .i64 (i : Int))) (hi : i < l.length) :
    Xq P n e w d (.index t x y) ty pos af (B (l.getD i 0)) := fun a ha => by
  have h1 : (⟨l.toArray⟩ : ByteArray)[i]? = some (l.getD i 0) := by
    show (if h : i < (⟨l.toArray⟩ : ByteArray).size then some ((⟨l.toArray⟩ : ByteArray)[i]) else none) = _
    rw [dif_pos (show i < (⟨l.toArray⟩ : ByteArray).size from hi)]
    rw [List.getD_eq_getElem?_getD, List.getElem?_eq_getElem hi]
    rfl
  have h2 : (0 : Int) ≤ (i : Int) := by omega
  simp only [execOp, ha.ev hx, ha.ev hy, Instr.index, asIntOf, Sem.run_bind, Sem.run_pure, Result.andThen_ok, run_underlying hu]
  simp only [h2, if_true, Int.toNat_natCast, h1, Sem.run_pure, Result.andThen_ok]
def jst (k : UInt64) : UInt64 := k * 2862933555777941757 + 1
def jnx (k at' : UInt64) : UInt64 := ((at' + 1) <<< UInt64.ofNat 31) / ((k >>> UInt64.ofNat 33) + 1)
theorem jdiv (k : UInt64) : ((k >>> UInt64.ofNat 33) + 1).toNat = k.toNat / 8589934592 + 1 := by
  have h1 : (k >>> UInt64.ofNat 33).toNat = k.toNat / 8589934592 := by
    rw [UInt64.toNat_shiftRight, Nat.shiftRight_eq_div_pow]; rfl
  have := k.toNat_lt
  rw [UInt64.toNat_add, h1]
  have : k.toNat / 8589934592 < 2147483648 := by omega
  simp
  omega
theorem jnx_lt (k : UInt64) {a : UInt64} (h : a.toNat < 65536) : a.toNat + 1 ≤ (jnx k a).toNat := by
  unfold jnx
  rw [UInt64.toNat_div, jdiv]
  have h1 : (a + 1).toNat = a.toNat + 1 := by rw [UInt64.toNat_add]; simp; omega
  have h2 : ((a + 1) <<< UInt64.ofNat 31).toNat = (a.toNat + 1) * 2147483648 := by
    rw [UInt64.toNat_shiftLeft, h1, Nat.shiftLeft_eq]
    show (a.toNat + 1) * 2 ^ 31 % 2 ^ 64 = _
    omega
  rw [h2]
  have h3 := k.toNat_lt
  refine (Nat.le_div_iff_mul_le (by omega)).2 (Nat.mul_le_mul_left _ ?_)
  have : k.toNat / 8589934592 < 2147483648 := by omega
  omega
def jmpF : Nat → UInt64 → UInt64 → Nat → Nat
  | 0, _, a, _ => a.toNat
  | f + 1, k, a, n => if (jnx (jst k) a).toNat < n then jmpF f (jst k) (jnx (jst k) a) n else a.toNat
def jmp (k : UInt64) (n : Nat) : Nat := jmpF n k 0 n
theorem jmpF_fuel {n : Nat} (hn : n ≤ 65536) : ∀ (f f' : Nat) (k a : UInt64), a.toNat < n → n - a.toNat ≤ f → n - a.toNat ≤ f' → jmpF f k a n = jmpF f' k a n
  | 0, f', k, a, ha, h1, _ => by omega
  | f + 1, 0, k, a, ha, _, h2 => by omega
  | f + 1, f' + 1, k, a, ha, h1, h2 => by
    simp only [jmpF]
    have h3 := jnx_lt (jst k) (a := a) (by omega)
    by_cases h : (jnx (jst k) a).toNat < n
    · rw [if_pos h, if_pos h]; exact jmpF_fuel hn f f' _ _ h (by omega) (by omega)
    · rw [if_neg h, if_neg h]
theorem jmpF_lt {n : Nat} : ∀ (f : Nat) (k a : UInt64), a.toNat < n → jmpF f k a n < n
  | 0, _, a, h => h
  | f + 1, k, a, h => by
    simp only [jmpF]
    split
    · exact jmpF_lt f _ _ (by assumption)
    · exact h
theorem jmp_lt (k : UInt64) {n : Nat} (h : 1 ≤ n) : jmp k n < n := jmpF_lt n k 0 (by show 0 < n; omega)
theorem jmpF_step {n : Nat} (hn : n ≤ 65536) {k a : UInt64} (ha : a.toNat < n) (hq : (jnx (jst k) a).toNat < n) : jmpF (n - a.toNat) k a n = jmpF (n - (jnx (jst k) a).toNat) (jst k) (jnx (jst k) a) n := by
  have h3 := jnx_lt (jst k) (a := a) (by omega)
  rw [show n - a.toNat = (n - a.toNat - 1) + 1 by omega]
  simp only [jmpF]
  rw [if_pos hq]
  exact jmpF_fuel hn _ _ _ _ hq (by omega) (Nat.le_refl _)
theorem jmpF_end {n : Nat} {k a : UInt64} (ha : a.toNat < n) (hq : ¬ (jnx (jst k) a).toNat < n) : jmpF (n - a.toNat) k a n = a.toNat := by
  rw [show n - a.toNat = (n - a.toNat - 1) + 1 by omega]
  simp only [jmpF]
  rw [if_neg hq]
theorem jmpF_next {n : Nat} (hn : n + 1 ≤ 65536) : ∀ (f : Nat) (k a : UInt64), a.toNat < n → jmpF f k a (n + 1) = jmpF f k a n ∨ jmpF f k a (n + 1) = n
  | 0, _, _, _ => .inl rfl
  | f + 1, k, a, h => by
    simp only [jmpF]
    by_cases h1 : (jnx (jst k) a).toNat < n
    · rw [if_pos h1, if_pos (by omega)]; exact jmpF_next hn f _ _ h1
    · rw [if_neg h1]
      by_cases h2 : (jnx (jst k) a).toNat < n + 1
      · rw [if_pos h2]
        right
        have he : (jnx (jst k) a).toNat = n := by omega
        cases f with
        | zero => exact he
        | succ f =>
          simp only [jmpF]
          have h3 := jnx_lt (jst (jst k)) (a := jnx (jst k) a) (by omega)
          rw [if_neg (by omega)]; exact he
      · rw [if_neg h2]; exact .inl rfl
theorem jmp_next (k : UInt64) {n : Nat} (h1 : 1 ≤ n) (hn : n + 1 ≤ 65536) : jmp k (n + 1) = jmp k n ∨ jmp k (n + 1) = n := by
  have h := jmpF_next hn (n + 1) k 0 (by show 0 < n; omega)
  unfold jmp
  rw [jmpF_fuel (n := n) (by omega) n (n + 1) k 0 (by show 0 < n; omega) (by show n - 0 ≤ n; omega) (by show n - 0 ≤ n + 1; omega)]
  exact h
theorem jmp_one (k : UInt64) : jmp k 1 = 0 := by have := jmp_lt k (n := 1) (by omega); omega
def keyS (h : UInt64) (c : UInt8) : UInt64 := (h ^^^ c.toUInt64) * 1099511628211
def keyU (l : LB) (i : Nat) : UInt64 := (l.take i).foldl keyS 14695981039346656037
def keyF (l : LB) : UInt64 := keyU l l.length
theorem keyU_next {l : LB} {i : Nat} (h : i < l.length) : keyU l (i + 1) = (keyU l i ^^^ (l.getD i 0).toUInt64) * 1099511628211 := by
  unfold keyU
  rw [List.take_add_one, List.getD_eq_getElem?_getD, List.getElem?_eq_getElem h, List.foldl_append]
  rfl
def cntU (n : Nat) (ks : List UInt64) : List Int := ks.foldl (fun l k => l.set (jmp k n) (IntKind.i64.wrap (l.getD (jmp k n) 0 + 1))) (List.replicate n 0)
theorem cntU_snoc (n : Nat) (ks : List UInt64) (k : UInt64) : cntU n (ks ++ [k]) = (cntU n ks).set (jmp k n) (IntKind.i64.wrap ((cntU n ks).getD (jmp k n) 0 + 1)) := by
  unfold cntU; rw [List.foldl_append]; rfl
theorem cntU_length (n : Nat) (ks : List UInt64) : (cntU n ks).length = n := by
  unfold cntU
  suffices h : ∀ (l : List Int), (ks.foldl (fun l k => l.set (jmp k n) (IntKind.i64.wrap (l.getD (jmp k n) 0 + 1))) l).length = l.length by rw [h]; simp
  induction ks with
  | nil => intro l; rfl
  | cons k ks ih => intro l; rw [List.foldl_cons, ih]; simp
def mvU (m n : Nat) (ks : List UInt64) : List UInt64 := ks.filter (fun k => decide (jmp k m ≠ jmp k n))
theorem mvU_yes {m n : Nat} (ks : List UInt64) {k : UInt64} (h : jmp k m ≠ jmp k n) : mvU m n (ks ++ [k]) = mvU m n ks ++ [k] := by
  unfold mvU; rw [List.filter_append, List.filter_cons_of_pos (by simpa using h)]; rfl
theorem mvU_no {m n : Nat} (ks : List UInt64) {k : UInt64} (h : ¬ jmp k m ≠ jmp k n) : mvU m n (ks ++ [k]) = mvU m n ks := by
  unfold mvU; rw [List.filter_append, List.filter_cons_of_neg (by simpa using h)]; simp
def atL (k : UInt64) (p : Nat) : List Nat := (List.range 41).map (fun q => if q < p then (if q = 0 then 0 else jmp k q) else 0)
theorem atL_length (k : UInt64) (p : Nat) : (atL k p).length = 41 := by simp [atL]
theorem atL_get {k : UInt64} {p q : Nat} (hq : q < p) (h1 : 1 ≤ q) (h2 : q < 41) : (atL k p).getD q 0 = jmp k q := by
  rw [List.getD_eq_getElem?_getD]
  have : q ≠ 0 := by omega
  simp [atL, h2, hq, this]
theorem atL_set {k : UInt64} {p : Nat} (h1 : 1 ≤ p) (h2 : p < 41) : (atL k p).set p (jmp k p) = atL k (p + 1) := by
  apply List.ext_getElem?
  intro i
  rw [List.getElem?_set]
  by_cases hi : p = i
  · subst hi
    have : p ≠ 0 := by omega
    simp [atL, h2, this]
  · simp only [hi, if_false]
    by_cases h41 : i < 41
    · have e : (i < p) = (i < p + 1) := propext ⟨fun h => by omega, fun h => by omega⟩
      simp [atL, h41, e]
    · simp [atL, h41]
end Go.Sl
namespace Go.Sl
open Go.Proofs Go.Proofs.Tryz
theorem jstep_s {W0 w : World} {L : List Asn} {x : UInt64} (hs : Sep W0 w L) : Calls Tryz.prog 73 [Q x].toArray w (Ret fun r w' => r = Q (jst x) ∧ Sep W0 w' L) := by
 refine enter (args := [(.int .u64 (x.toNat : Int))]) (n := 6) (rs := [.tmp 2]) func73 rfl rfl rfl rfl ?_
 refine rSeq (rReg (oV (xAssign rfl) rfl (oEnd (kSeq (rSeq (rReg (oV (xMove rfl) rfl (oV (xAr rfl rfl (uMul64 x (2862933555777941757 : UInt64))) rfl (oV (xAr rfl rfl (uAdd64 (x * (2862933555777941757 : UInt64)) (1 : UInt64))) rfl (oV (xAssign rfl) rfl (oEnd (kSeq (rRet (kFin (.tmp rfl (.nil)) ?_))))))))))))))
 exact ⟨rfl, hs⟩
theorem jkey_s {W0 w : World} {L : List Asn} {f : HF} {a : Option Addr} {m cp : Nat} {l : LB} (hb : RB f a m cp l) (hm : m ≤ 9223372036854775807) (hs : Sep W0 w (pool f :: L)) : Calls Tryz.prog 17 [.slice a m cp].toArray w (Ret fun r w' => r = Q (keyF l) ∧ Sep W0 w' (pool f :: L)) := by
 have hbl := RB.len hb
 refine enter (args := [(.slice a m cp)]) (n := 19) (rs := [.tmp 2]) func17 rfl rfl rfl rfl ?_
 refine rSeq (rReg (oV (xAssign rfl) rfl (oEnd (kSeq (rSeq (rReg (oV (xAssign rfl) rfl (oEnd (kSeq (rSeq (rSeq (rReg (oV (xMove rfl) rfl (oV (xB1 rfl (rLenS underlying26)) rfl (oV (xMove rfl) rfl (oEnd (kSeq (rBlk (rLoop (fun mz e w => ∃ (i : Nat), m - i = mz ∧ e = [(0, (.slice a m cp)), (2, (.int .u64 0)), (3, (.int .u64 ((keyU l i).toNat : Int))), (6, (.slice a m cp)), (7, (I (m : Int))), (8, (I (i : Int)))] ∧ (i ≤ m) ∧ Sep W0 w (pool f :: L)) ⟨_, _, ⟨0, rfl, rfl, (by omega), hs⟩, ⟨rfl, rfl, rfl, rfl, rfl, rfl, trivial⟩⟩ ?_)))))))))))))))))))
 clear hs; rintro mz e w ⟨i, rfl, rfl, hi, hs⟩
 refine rSeq (rReg (oV (xCmp rfl rfl rLss) rfl (oEnd (kSeq (rSeq ?_)))))
 refine rCondD rfl (fun hc1 => ?_) (fun hc1 => ?_)
 · refine rSkip (kSeq (rSeq (rBlk (rSeq (rReg ?_)))))
   obtain ⟨b2, off3, rfl⟩ := Reads.at hb (by omega)
   refine oV (xIA (o' := off3 + i) underlying26 sizeOf5 rfl rfl (by omega) (by omega) (by omega)) rfl (oV (xLoadC isAgg5 rfl (Reads.cell hb hs (i := 0) rfl (getB (by omega)))) rfl (oV (xAssign rfl) rfl (oEnd (kSeq (rReg (oV (xMove rfl) rfl (oV (xMove rfl) rfl (oV (xConv underlying5 underlying53 rfl (w8to64 (l.getD i 0))) rfl (oV (xAr rfl rfl (uXor64 (keyU l i) ((l.getD i 0).toUInt64))) rfl (oV (xAr rfl rfl (uMul64 ((keyU l i) ^^^ (l.getD i 0).toUInt64) (1099511628211 : UInt64))) rfl (oV (xAssign rfl) rfl ?_)))))))))))
   rw [← keyU_next (show i < l.length by omega)]
   refine oEnd (kBlk (kSeq (rReg (oV (xAr rfl rfl (rAdd (wI (by omega) (by omega)))) rfl (oV (xMove rfl) rfl ?_)))))
   exact oEnd (kLoop (m - (i + 1)) _ (by omega) ⟨i + 1, rfl, rfl, (by omega), hs⟩ ⟨rfl, rfl, rfl, rfl, rfl, rfl, trivial⟩)
 · refine rExit (kSeqX (kLoopX (kBlkH (kSeq (rSeq (rReg (oV (xMove rfl) rfl (oV (xAssign rfl) rfl (oEnd (kSeq (rRet (kFin (.tmp rfl (.nil)) ?_))))))))))))
   obtain rfl : m = i := by omega
   exact ⟨by unfold keyF; rw [hbl]; rfl, hs⟩
theorem jof_s {W0 w : World} {L : List Asn} {k0 : UInt64} {n : Nat} (h1 : 1 ≤ n) (h2 : n ≤ 65536) (hs : Sep W0 w L) : Calls Tryz.prog 18 [Q k0, .int .i64 n].toArray w (Ret fun r w' => r = .tuple #[I (jmp k0 n : Int), .int .i64 0] ∧ Sep W0 w' L) := by
 refine enter (args := [(.int .u64 (k0.toNat : Int)), (I (n : Int))]) (n := 31) (rs := [.tmp 4, .tmp 5]) func18 rfl rfl rfl rfl ?_
 refine rSeq (rReg (oV (xAssign rfl) rfl (oV (xAssign rfl) rfl (oEnd (kSeq (rSeq (rSeq (rReg (oV (xMove rfl) rfl (oV (xCmp (r := false) rfl rfl (bF (by omega) rLss)) rfl (oV (xMove rfl) rfl (oGuardT rfl rfl (oV (xMove rfl) rfl (oGuardT rfl rfl (oV (xCmp (r := false) rfl rfl (bF (by omega) rGtr)) rfl (oV (xPickF rfl rfl) rfl (oEnd (kSeq (rCondF rfl (rSkip (kSeq (rSeq (rReg (oV (xAssign rfl) rfl (oV (xAssign rfl) rfl (oEnd (kSeq (rSeq (rBlk ?_)))))))))))))))))))))))))))))
 refine rLoop (fun mz e w => ∃ (k : UInt64) (nx : UInt64) (at1 : UInt64), n - nx.toNat = mz ∧ e = [(0, (.int .u64 (k.toNat : Int))), (1, (I (n : Int))), (4, (I 0)), (5, (I 0)), (6, (I (at1.toNat : Int))), (7, (.int .u64 (nx.toNat : Int)))] ∧ (at1.toNat < n) ∧ ((nx.toNat < n ∧ jmp k0 n = jmpF (n - nx.toNat) k nx n) ∨ (n ≤ nx.toNat ∧ jmp k0 n = at1.toNat)) ∧ Sep W0 w (L)) ⟨_, _, ⟨k0, 0, 0, rfl, rfl, (by show 0 < n; omega), (.inl ⟨by show 0 < n; omega, rfl⟩), hs⟩, ⟨rfl, rfl, rfl, rfl, rfl, rfl, trivial⟩⟩ ?_
 clear hs; rintro mz e w ⟨k, nx, at1, rfl, rfl, hat, hor, hs⟩
 refine rSeq (rSeq (rReg (oV (xMove rfl) rfl (oV (xMove rfl) rfl (oV (xConv underlying3 underlying53 rfl (wIto64 (n : Int))) rfl (oV (xCmp rfl rfl rLss) rfl (oEnd (kSeq ?_))))))))
 refine rCondD rfl (fun hc1 => ?_) (fun hc1 => ?_)
 · rw [ofInt64_nat (by omega)] at hc1; have hnx : nx.toNat < n := by omega
   have heq : jmp k0 n = jmpF (n - nx.toNat) k nx n := by rcases hor with h1 | h1; exact h1.2; omega
   have hjx := jnx_lt (jst k) (a := nx) (by omega); have hdv := jdiv (jst k)
   have hor2 : ((jnx (jst k) nx).toNat < n ∧ jmp k0 n = jmpF (n - (jnx (jst k) nx).toNat) (jst k) (jnx (jst k) nx) n) ∨ (n ≤ (jnx (jst k) nx).toNat ∧ jmp k0 n = nx.toNat) := by
         by_cases hq : (jnx (jst k) nx).toNat < n
         · exact .inl ⟨hq, by rw [heq]; exact jmpF_step (by omega) hnx hq⟩
         · exact .inr ⟨by omega, by rw [heq]; exact jmpF_end hnx hq⟩
   refine rSkip (kSeq (rBlk (rSeq (rReg (oV (xMove rfl) rfl (oV (xConv underlying53 underlying3 rfl (wI (by omega) (by omega))) rfl (oV (xAssign rfl) rfl (oEnd (kSeq (rSeq (rReg (oV (xMove rfl) rfl (oCall call73 rfl rfl (jstep_s hs) ?_)))))))))))))
   rintro _ w2 ⟨rfl, hs3⟩; clear hs
   refine oV (xAssign rfl) rfl (oEnd (kSeq (rReg (oV (xMove rfl) rfl (oV (xConv underlying3 underlying53 rfl (wIto64 (nx.toNat : Int))) rfl ?_)))))
   rw [ofInt64_toNat nx]
   refine oV (xAr rfl rfl (uAdd64 nx (1 : UInt64))) rfl (oV (xSh rfl rfl (uShl64 (c := (nx + (1 : UInt64))) (s := 31) (by decide) (by decide))) rfl (oV (xMove rfl) rfl (oV (xSh rfl rfl (uShr64 (c := (jst k)) (s := 33) (by decide) (by decide))) rfl (oV (xAr rfl rfl (uAdd64 ((jst k) >>> UInt64.ofNat 33) (1 : UInt64))) rfl (oV (xAr rfl rfl (uQuo64 ((nx + (1 : UInt64)) <<< UInt64.ofNat 31) (((jst k) >>> UInt64.ofNat 33) + (1 : UInt64)) (by omega))) rfl (oV (xAssign rfl) rfl ?_))))))
   exact oEnd (kBlk (kLoop (n - (jnx (jst k) nx).toNat) _ (by omega) ⟨_, jnx (jst k) nx, nx, rfl, rfl, (hnx), (hor2), hs3⟩ ⟨rfl, rfl, rfl, rfl, rfl, rfl, trivial⟩))
 · rw [ofInt64_nat (by omega)] at hc1; have heq : jmp k0 n = at1.toNat := by rcases hor with h1 | h1; omega; exact h1.2
   refine rExit (kSeqX (kLoopX (kBlkH (kSeq (rSeq (rReg (oV (xMove rfl) rfl (oV (xAssign rfl) rfl (oV (xAssign rfl) rfl (oEnd (kSeq (rRet (kFin (.tmp rfl (.tmp rfl (.nil))) ?_)))))))))))))
   exact ⟨by rw [heq]; rfl, hs⟩
theorem fall_s {W0 w : World} {L : List Asn} {k0 : UInt64} {n : Nat} (h1 : 1 ≤ n) (h2 : n ≤ 65536) (hs : Sep W0 w L) : Calls Tryz.prog 19 [Q k0, .int .i64 n].toArray w (Ret fun r w' => r = I (jmp k0 n : Int) ∧ Sep W0 w' L) := by
 refine enter (args := [(.int .u64 (k0.toNat : Int)), (I (n : Int))]) (n := 24) (rs := [.tmp 4]) func19 rfl rfl rfl rfl ?_
 refine rSeq (rReg (oV (xAssign rfl) rfl (oEnd (kSeq (rSeq (rReg (oV (xAssign rfl) rfl (oEnd (kSeq (rBlk (rLoop (fun mz e w => ∃ (k : UInt64) (p : UInt64), n - p.toNat = mz ∧ e = [(0, (.int .u64 (k.toNat : Int))), (1, (I (n : Int))), (4, (I 0)), (5, (.int .u64 (p.toNat : Int)))] ∧ (p.toNat < n) ∧ (jmp k0 n = jmpF (n - p.toNat) k p n) ∧ Sep W0 w (L)) ⟨_, _, ⟨k0, 0, rfl, rfl, (by show 0 < n; omega), (rfl), hs⟩, ⟨rfl, rfl, rfl, rfl, trivial⟩⟩ ?_)))))))))))
 clear hs; rintro mz e w ⟨k, p, rfl, rfl, hp, heq, hs⟩
 have hjx := jnx_lt (jst k) (a := p) (by omega); have hdv := jdiv (jst k)
 refine rBlk (rSeq (rReg (oV (xMove rfl) rfl (oV (xAr rfl rfl (uMul64 k (2862933555777941757 : UInt64))) rfl (oV (xAr rfl rfl (uAdd64 (k * (2862933555777941757 : UInt64)) (1 : UInt64))) rfl (oV (xAssign rfl) rfl (oEnd (kSeq (rSeq (rReg (oV (xMove rfl) rfl (oV (xAr rfl rfl (uAdd64 p (1 : UInt64))) rfl (oV (xSh rfl rfl (uShl64 (c := (p + (1 : UInt64))) (s := 31) (by decide) (by decide))) rfl (oV (xMove rfl) rfl (oV (xSh rfl rfl (uShr64 (c := ((k * (2862933555777941757 : UInt64)) + (1 : UInt64))) (s := 33) (by decide) (by decide))) rfl (oV (xAr rfl rfl (uAdd64 (1 : UInt64) (((k * (2862933555777941757 : UInt64)) + (1 : UInt64)) >>> UInt64.ofNat 33))) rfl ?_))))))))))))))))
 rw [UInt64.add_comm 1 _]
 refine oV (xAr rfl rfl (uQuo64 ((p + (1 : UInt64)) <<< UInt64.ofNat 31) ((((k * (2862933555777941757 : UInt64)) + (1 : UInt64)) >>> UInt64.ofNat 33) + 1) (by show ((jst k >>> UInt64.ofNat 33) + 1).toNat ≠ 0; omega))) rfl (oV (xAssign rfl) rfl (oEnd (kSeq (rSeq (rSeq (rReg (oV (xMove rfl) rfl (oV (xMove rfl) rfl (oV (xConv underlying3 underlying53 rfl (wIto64 (n : Int))) rfl (oV (xCmp rfl rfl rGeq) rfl (oEnd (kSeq ?_))))))))))))
 refine rCondD rfl (fun hc1 => ?_) (fun hc1 => ?_)
 · rw [ofInt64_nat (by omega)] at hc1; have h3 : (n : Int) ≤ ((jnx (jst k) p).toNat : Int) := hc1; have hq : ¬ (jnx (jst k) p).toNat < n := by omega
   refine rSeq (rReg (oV (xMove rfl) rfl (oV (xConv underlying53 underlying3 rfl (wI (by omega) (by omega))) rfl (oV (xAssign rfl) rfl (oEnd (kSeq (rRet (kSeqR (kBlkR (kLoopR (kBlkR (kFin (.tmp rfl (.nil)) ?_))))))))))))
   exact ⟨by rw [heq, jmpF_end hp hq]; rfl, hs⟩
 · rw [ofInt64_nat (by omega)] at hc1; have h3 : ¬ (n : Int) ≤ ((jnx (jst k) p).toNat : Int) := hc1; have hq : (jnx (jst k) p).toNat < n := by omega
   refine rSkip (kSeq (rReg (oV (xMove rfl) rfl (oV (xAssign rfl) rfl ?_))))
   exact oEnd (kBlk (kLoop (n - (jnx (jst k) p).toNat) _ (by omega) ⟨_, jnx (jst k) p, rfl, rfl, (hq), (by rw [heq]; exact jmpF_step (by omega) hp hq), hs⟩ ⟨rfl, rfl, rfl, rfl, trivial⟩))
end Go.Sl
namespace Go.Sl
open Go.Proofs Go.Proofs.Tryz
theorem takeU_snoc {ks : List UInt64} {i : Nat} (h : i < ks.length) : ks.take (i + 1) = ks.take i ++ [ks.getD i 0] := by
 rw [List.take_add_one, List.getD_eq_getElem?_getD, List.getElem?_eq_getElem h]; rfl
theorem cntU_nil (n : Nat) : List.replicate n 0 = cntU n [] := rfl
theorem jspread_s {W0 w : World} {L : List Asn} {ka : Option Addr} {m kc : Nat} {ks : List UInt64} (hkl : ks.length = m) (hm : m ≤ 1000000) {n : Nat} (h1 : 1 ≤ n) (h2 : n ≤ 65536) (hs : Sep W0 w (own 53 1 (.slice ka m kc) m (Uv ks) :: L)) : Calls Tryz.prog 20 [.slice ka m kc, .int .i64 n].toArray w (Ret fun r w' => ∃ a' cp', r = .tuple #[.slice a' n cp', .int .i64 0] ∧ Sep W0 w' (own 3 1 (.slice a' n cp') n (Iv (cntU n ks)) :: own 53 1 (.slice ka m kc) m (Uv ks) :: L)) := by
 refine enter (args := [(.slice ka m kc), (I (n : Int))]) (n := 39) (rs := [.tmp 4, .tmp 5]) func20 rfl rfl rfl rfl ?_
 refine rSeq (rReg (oV (xAssign rfl) rfl (oV (xAssign rfl) rfl (oEnd (kSeq (rSeq (rSeq (rReg (oV (xMove rfl) rfl (oV (xCmp (r := false) rfl rfl (bF (by omega) rLss)) rfl (oV (xMove rfl) rfl (oGuardT rfl rfl (oV (xMove rfl) rfl (oGuardT rfl rfl (oV (xCmp (r := false) rfl rfl (bF (by omega) rGtr)) rfl (oV (xPickF rfl rfl) rfl (oEnd (kSeq (rCondF rfl (rSkip (kSeq (rSeq (rReg (oV (xMove rfl) rfl (oMake (k := n) (c := n) (size := 1) (bytes := 8) (inf := Tryz.t3) hs underlying52 (by kernel_rfl) rfl rfl rfl rfl rfl (by omega) (by omega) (by omega) (by omega) (by omega) rfl ?_)))))))))))))))))))))))))
 intro b1 w2 hs3; clear hs
 rw [made1 (I 0) rfl] at hs3
 rw [Iv_rep, cntU_nil, ← List.take_zero (l := ks)] at hs3
 refine oV (xAssign rfl) rfl (oEnd (kSeq (rSeq (rSeq (rReg (oV (xMove rfl) rfl (oV (xB1 rfl (rLenS underlying51)) rfl (oV (xMove rfl) rfl (oEnd (kSeq (rBlk (rLoop (fun mz e w => ∃ (i : Nat), m - i = mz ∧ e = [(0, (.slice ka m kc)), (1, (I (n : Int))), (4, (.slice none 0 0)), (5, (I 0)), (6, (.slice (some ⟨b1, 0, none⟩) n n)), (19, (.slice ka m kc)), (20, (I (m : Int))), (21, (I (i : Int)))] ∧ (i ≤ m) ∧ Sep W0 w (own 3 1 (.slice (some ⟨b1, 0, none⟩) n n) n (Iv (cntU n (ks.take i))) :: own 53 1 (.slice ka m kc) m (Uv ks) :: L)) ⟨_, _, ⟨0, rfl, rfl, (by omega), hs3⟩, ⟨rfl, rfl, rfl, rfl, rfl, rfl, rfl, rfl, trivial⟩⟩ ?_))))))))))))
 clear hs3; rintro mz e w ⟨i, rfl, rfl, hi, hs⟩
 have hcl := cntU_length n (ks.take i)
 refine rSeq (rReg (oV (xCmp rfl rfl rLss) rfl (oEnd (kSeq (rSeq ?_)))))
 refine rCondD rfl (fun hc4 => ?_) (fun hc4 => ?_)
 · refine rSkip (kSeq (rSeq (rBlk (rSeq (rReg ?_)))))
   obtain ⟨b5, rfl⟩ := Sep.ownAddr (i := 1) hs rfl (by omega)
   refine oV (xIA (o' := i) underlying51 sizeOf53 rfl rfl (by omega) (by omega) (by omega)) rfl (oV (xLoadC isAgg53 rfl (Sep.ownCell hs (i := 1) rfl (Uv_get (by first | omega | (simp only [List.length_append, List.length_set, List.length_cons, List.length_nil, List.length_map, List.length_replicate, mixd_length]; omega))))) rfl (oV (xAssign rfl) rfl (oEnd (kSeq (rSeq (rReg (oV (xMove rfl) rfl (oV (xMove rfl) rfl (oCall call18 rfl rfl (jof_s (n := n) (by omega) (by omega) hs) ?_)))))))))
   rintro _ w7 ⟨rfl, hs8⟩; clear hs
   have hjl9 := jmp_lt (ks.getD i 0) (n := n) (by omega)
   refine oV (xMove rfl) rfl (oV (xExtract rfl rfl) rfl (oV (xExtract rfl rfl) rfl (oV (xAssign rfl) rfl (oV (xAssign rfl) rfl (oEnd (kSeq (rReg (oV (xMove rfl) rfl (oV (xMove rfl) rfl (oV (xIA (o' := (jmp (ks.getD i 0) n)) underlying52 sizeOf3 rfl rfl (by omega) (by omega) (by omega)) rfl (oV (xLoadC isAgg3 rfl (Sep.ownCell hs8 (i := 0) rfl (Iv_get (by first | omega | (simp only [List.length_append, List.length_set, List.length_cons, List.length_nil, List.length_map, List.length_replicate, mixd_length]; omega))))) rfl (oV (xAr (r := (IntKind.i64.wrap (((cntU n (ks.take i)).getD (jmp (ks.getD i 0) n) 0) + 1))) rfl rfl (rAdd rfl)) rfl (oV (xIA (o' := (jmp (ks.getD i 0) n)) underlying52 sizeOf3 rfl rfl (by omega) (by omega) (by omega)) rfl ?_)))))))))))))
   refine oStoreO hs8 sizeOf3 rfl rfl rfl (i := 0) rfl (Iv_get (by first | omega | (simp only [List.length_append, List.length_set, List.length_cons, List.length_nil, List.length_map, List.length_replicate, mixd_length]; omega))) ?_
   intro w10 hs11; clear hs8; dsimp only [List.set] at hs11; rw [Iv_set] at hs11
   rw [← cntU_snoc, ← takeU_snoc (by omega)] at hs11
   refine oEnd (kBlk (kSeq (rReg (oV (xAr rfl rfl (rAdd (wI (by omega) (by omega)))) rfl (oV (xMove rfl) rfl ?_)))))
   exact oEnd (kLoop (m - (i + 1)) _ (by omega) ⟨i + 1, rfl, rfl, (by omega), hs11⟩ ⟨rfl, rfl, rfl, rfl, rfl, rfl, rfl, rfl, trivial⟩)
 · refine rExit (kSeqX (kLoopX (kBlkH (kSeq (rSeq (rReg (oV (xMove rfl) rfl (oV (xAssign rfl) rfl (oV (xAssign rfl) rfl (oEnd (kSeq (rRet (kFin (.tmp rfl (.tmp rfl (.nil))) ?_)))))))))))))
   have him : i = m := by omega
   rw [show ks.take i = ks from List.take_of_length_le (by omega)] at hs
   exact ⟨_, _, rfl, hs⟩
theorem jmoves_s {W0 w : World} {L : List Asn} {ka : Option Addr} {m kc : Nat} {ks : List UInt64} (hkl : ks.length = m) (hm : m ≤ 1000000) {wa no : Nat} (h1 : 1 ≤ wa) (h2 : wa ≤ 65536) (h3 : 1 ≤ no) (h4 : no ≤ 65536) (hs : Sep W0 w (own 53 1 (.slice ka m kc) m (Uv ks) :: L)) : Calls Tryz.prog 21 [.slice ka m kc, .int .i64 wa, .int .i64 no].toArray w (Ret fun r w' => ∃ a' cp', r = .tuple #[.slice a' (mvU wa no ks).length cp', .int .i64 0] ∧ Sep W0 w' (own 53 1 (.slice a' (mvU wa no ks).length cp') (mvU wa no ks).length (Uv (mvU wa no ks)) :: own 53 1 (.slice ka m kc) m (Uv ks) :: L)) := by
 refine enter (args := [(.slice ka m kc), (I (wa : Int)), (I (no : Int))]) (n := 48) (rs := [.tmp 6, .tmp 7]) func21 rfl rfl rfl rfl ?_
 refine rSeq (rReg (oV (xAssign rfl) rfl (oV (xAssign rfl) rfl (oEnd (kSeq (rSeq (rReg (oV (xAssign rfl) rfl (oEnd (kSeq (rSeq (rSeq (rReg (oV (xMove rfl) rfl (oV (xB1 rfl (rLenS underlying51)) rfl (oV (xMove rfl) rfl (oEnd (kSeq (rBlk ?_)))))))))))))))))))
 replace hs := Sep.nil 53 1 hs
 rw [← Uv_nil, show ([] : List UInt64) = mvU wa no (ks.take 0) from rfl] at hs
 refine rLoop (fun mz e w => ∃ (i : Nat) (k : Nat) (oa : Option Addr) (oc : Nat), m - i = mz ∧ e = [(0, (.slice ka m kc)), (1, (I (wa : Int))), (2, (I (no : Int))), (6, (.slice none 0 0)), (7, (I 0)), (15, (.slice ka m kc)), (16, (I (m : Int))), (8, (.slice oa k oc)), (17, (I (i : Int)))] ∧ (i ≤ m) ∧ ((mvU wa no (ks.take i)).length = k) ∧ Sep W0 w (own 53 1 (.slice oa k oc) k (Uv (mvU wa no (ks.take i))) :: own 53 1 (.slice ka m kc) m (Uv ks) :: L)) ⟨_, _, ⟨0, 0, _, _, rfl, rfl, (by omega), (rfl), hs⟩, ⟨rfl, rfl, rfl, rfl, rfl, rfl, rfl, rfl, rfl, trivial⟩⟩ ?_
 clear hs; rintro mz e w ⟨i, k, oa, oc, rfl, rfl, hi, hkk, hs⟩
 have hkm : (mvU wa no (ks.take i)).length ≤ (ks.take i).length := List.length_filter_le _ _; rw [List.length_take] at hkm
 refine rSeq (rReg (oV (xCmp rfl rfl rLss) rfl (oEnd (kSeq (rSeq ?_)))))
 refine rCondD rfl (fun hc1 => ?_) (fun hc1 => ?_)
 · refine rSkip (kSeq (rSeq (rBlk (rSeq (rReg ?_)))))
   obtain ⟨b2, rfl⟩ := Sep.ownAddr (i := 1) hs rfl (by omega)
   refine oV (xIA (o' := i) underlying51 sizeOf53 rfl rfl (by omega) (by omega) (by omega)) rfl (oV (xLoadC isAgg53 rfl (Sep.ownCell hs (i := 1) rfl (Uv_get (by first | omega | (simp only [List.length_append, List.length_set, List.length_cons, List.length_nil, List.length_map, List.length_replicate, mixd_length]; omega))))) rfl (oV (xAssign rfl) rfl (oEnd (kSeq (rSeq (rReg (oV (xMove rfl) rfl (oV (xMove rfl) rfl (oCall call18 rfl rfl (jof_s (n := wa) (by omega) (by omega) hs) ?_)))))))))
   rintro _ w4 ⟨rfl, hs5⟩; clear hs
   have hjl6 := jmp_lt (ks.getD i 0) (n := wa) (by omega)
   refine oV (xMove rfl) rfl (oV (xExtract rfl rfl) rfl (oV (xExtract rfl rfl) rfl (oV (xAssign rfl) rfl (oV (xAssign rfl) rfl (oEnd (kSeq (rSeq (rReg (oV (xMove rfl) rfl (oV (xMove rfl) rfl (oCall call18 rfl rfl (jof_s (n := no) (by omega) (by omega) hs5) ?_)))))))))))
   rintro _ w7 ⟨rfl, hs8⟩; clear hs5
   have hjl9 := jmp_lt (ks.getD i 0) (n := no) (by omega)
   refine oV (xMove rfl) rfl (oV (xExtract rfl rfl) rfl (oV (xExtract rfl rfl) rfl (oV (xAssign rfl) rfl (oV (xAssign rfl) rfl (oEnd (kSeq (rSeq (rSeq (rReg (oV (xMove rfl) rfl (oV (xCmp (r := false) rfl rfl rNeq) rfl (oV (xMove rfl) rfl (oGuardT rfl rfl (oV (xMove rfl) rfl (oGuardT rfl rfl (oV (xCmp (r := false) rfl rfl rNeq) rfl (oV (xPickF rfl rfl) rfl (oEnd (kSeq (rCondF rfl (rSkip (kSeq (rSeq (rReg (oV (xMove rfl) rfl (oV (xMove rfl) rfl (oV (xCmp rfl rfl rNeq) rfl (oEnd (kSeq ?_)))))))))))))))))))))))))))))
   refine rCondD rfl (fun hc10 => ?_) (fun hc10 => ?_)
   · have hne : jmp (ks.getD i 0) wa ≠ jmp (ks.getD i 0) no := by omega
     refine rReg (oV (xMove rfl) rfl (oV (xMove rfl) rfl (oBuildSlice (el := 53) (cs := [(.int .u64 ((ks.getD i 0).toNat : Int))]) hs8 rfl (fun w => by kernel_rfl) rfl ?_)))
     intro b11 w12 hs13; clear hs8
     refine oAppend (inf := Tryz.t53) (size := 1) (bytes := 8) hs13 (i := 1) rfl underlying51 (by kernel_rfl) rfl rfl rfl rfl rfl rfl rfl (src_row hs13 (i := 0) rfl rfl rfl) (by first | omega | (simp only [List.length_append, List.length_cons, List.length_nil, List.length_map]; omega)) (by first | omega | (simp only [List.length_append, List.length_cons, List.length_nil, List.length_map]; omega)) rfl ?_
     intro a14 c15 w16 hs17; clear hs13; dsimp only [List.set] at hs17
     rw [Uv_snoc, ← mvU_yes _ hne, ← takeU_snoc (by omega)] at hs17
     refine oV (xAssign rfl) rfl (oEnd (kBlk (kSeq (Run.sub (e' := [(0, (.slice (some ⟨b2, 0, none⟩) m kc)), (1, (I (wa : Int))), (2, (I (no : Int))), (6, (.slice none 0 0)), (7, (I 0)), (15, (.slice (some ⟨b2, 0, none⟩) m kc)), (16, (I (m : Int))), (8, (.slice a14 (k + 1) c15)), (17, (I (i : Int)))]) ⟨rfl, rfl, rfl, rfl, rfl, rfl, rfl, rfl, rfl, trivial⟩ ?_))))
     refine rReg (oV (xAr rfl rfl (rAdd (wI (by omega) (by omega)))) rfl (oV (xMove rfl) rfl ?_))
     replace hs17 := hs17.d0
     exact oEnd (kLoop (m - (i + 1)) _ (by omega) ⟨i + 1, k + 1, _, _, rfl, rfl, (by omega), (by rw [takeU_snoc (by omega), mvU_yes _ hne, List.length_append, hkk]; rfl), hs17⟩ ⟨rfl, rfl, rfl, rfl, rfl, rfl, rfl, rfl, rfl, trivial⟩)
   · have hne : ¬ jmp (ks.getD i 0) wa ≠ jmp (ks.getD i 0) no := by omega
     rw [← mvU_no (ks.take i) hne, ← takeU_snoc (by omega)] at hs8
     refine rSkip (kBlk (kSeq (rReg (oV (xAr rfl rfl (rAdd (wI (by omega) (by omega)))) rfl (oV (xMove rfl) rfl ?_)))))
     exact oEnd (kLoop (m - (i + 1)) _ (by omega) ⟨i + 1, k, _, _, rfl, rfl, (by omega), (by rw [takeU_snoc (by omega), mvU_no _ hne]; exact hkk), hs8⟩ ⟨rfl, rfl, rfl, rfl, rfl, rfl, rfl, rfl, rfl, trivial⟩)
 · refine rExit (kSeqX (kLoopX (kBlkH (kSeq (rSeq (rReg (oV (xMove rfl) rfl (oV (xAssign rfl) rfl (oV (xAssign rfl) rfl (oEnd (kSeq (rRet (kFin (.tmp rfl (.tmp rfl (.nil))) ?_)))))))))))))
   have him : i = m := by omega
   rw [show ks.take i = ks from List.take_of_length_le (by omega)] at hs hkk
   rw [← hkk] at hs ⊢
   exact ⟨_, _, rfl, hs⟩
theorem eqi_s {W0 w : World} {L : List Asn} {a b : Option Addr} {m cp bp : Nat} {ls : List Int} (hl : ls.length = m) (hm : m ≤ 1000000) (hs : Sep W0 w (own 3 1 (.slice a m cp) m (Iv ls) :: own 3 1 (.slice b m bp) m (Iv ls) :: L)) : Calls Tryz.prog 22 [.slice a m cp, .slice b m bp].toArray w (Ret fun r w' => r = .bool true ∧ Sep W0 w' (own 3 1 (.slice a m cp) m (Iv ls) :: own 3 1 (.slice b m bp) m (Iv ls) :: L)) := by
 refine enter (args := [(.slice a m cp), (.slice b m bp)]) (n := 26) (rs := [.tmp 4]) func22 rfl rfl rfl rfl ?_
 refine rSeq (rReg (oV (xAssign rfl) rfl (oEnd (kSeq (rSeq (rSeq (rReg (oV (xMove rfl) rfl (oV (xB1 rfl (rLenS underlying52)) rfl (oV (xMove rfl) rfl (oV (xB1 rfl (rLenS underlying52)) rfl (oV (xCmp (r := false) rfl rfl (bF (by omega) rNeq)) rfl (oEnd (kSeq (rCondF rfl (rSkip (kSeq (rSeq (rSeq (rReg (oV (xMove rfl) rfl (oV (xB1 rfl (rLenS underlying52)) rfl (oV (xMove rfl) rfl (oEnd (kSeq (rBlk (rLoop (fun mz e w => ∃ (i : Nat), m - i = mz ∧ e = [(0, (.slice a m cp)), (1, (.slice b m bp)), (4, (.bool false)), (11, (.slice a m cp)), (12, (I (m : Int))), (13, (I (i : Int)))] ∧ (i ≤ m) ∧ Sep W0 w (own 3 1 (.slice a m cp) m (Iv ls) :: own 3 1 (.slice b m bp) m (Iv ls) :: L)) ⟨_, _, ⟨0, rfl, rfl, (by omega), hs⟩, ⟨rfl, rfl, rfl, rfl, rfl, rfl, trivial⟩⟩ ?_)))))))))))))))))))))))))))
 clear hs; rintro mz e w ⟨i, rfl, rfl, hi, hs⟩
 refine rSeq (rReg (oV (xCmp rfl rfl rLss) rfl (oEnd (kSeq (rSeq ?_)))))
 refine rCondD rfl (fun hc1 => ?_) (fun hc1 => ?_)
 · refine rSkip (kSeq (rSeq (rBlk (rSeq (rReg (oV (xMove rfl) rfl (oV (xAssign rfl) rfl (oEnd (kSeq (rSeq (rRegQ (by kernel_rfl) (by kernel_rfl) hs ?_)))))))))))
   refine qV (fun w hq => xMove rfl) rfl ?_
   refine qV (fun w hq => xMove rfl) rfl ?_
   obtain ⟨b2, rfl⟩ := Sep.ownAddr (i := 0) hs rfl (by omega)
   refine qV (fun w hq => xIA (o' := i) underlying52 sizeOf3 rfl rfl (by omega) (by omega) (by omega)) rfl ?_
   refine qV (fun w hq => xLoadC isAgg3 rfl (Sep.ownCell hq (i := 0) rfl (Iv_get (by first | omega | (simp only [List.length_append, List.length_set, List.length_cons, List.length_nil, List.length_map, List.length_replicate, mixd_length]; omega))))) rfl ?_
   refine qV (fun w hq => xMove rfl) rfl ?_
   refine qV (fun w hq => xMove rfl) rfl ?_
   obtain ⟨b4, rfl⟩ := Sep.ownAddr (i := 1) hs rfl (by omega)
   refine qV (fun w hq => xIA (o' := i) underlying52 sizeOf3 rfl rfl (by omega) (by omega) (by omega)) rfl ?_
   refine qV (fun w hq => xLoadC isAgg3 rfl (Sep.ownCell hq (i := 1) rfl (Iv_get (by first | omega | (simp only [List.length_append, List.length_set, List.length_cons, List.length_nil, List.length_map, List.length_replicate, mixd_length]; omega))))) rfl ?_
   refine qV (fun w hq => xCmp rfl rfl rNeq) rfl ?_
   refine qEnd (fun w7 hs6 => ?_); clear hs
   refine kSeq ?_
   refine rCondD rfl (fun hc8 => absurd hc8 (by omega)) (fun hc8 => ?_)
   refine rSkip (kBlk (kSeq (rReg (oV (xAr rfl rfl (rAdd (wI (by omega) (by omega)))) rfl (oV (xMove rfl) rfl ?_)))))
   exact oEnd (kLoop (m - (i + 1)) _ (by omega) ⟨i + 1, rfl, rfl, (by omega), hs6⟩ ⟨rfl, rfl, rfl, rfl, rfl, rfl, trivial⟩)
 · refine rExit (kSeqX (kLoopX (kBlkH (kSeq (rSeq (rReg (oV (xAssign rfl) rfl (oEnd (kSeq (rRet (kFin (.tmp rfl (.nil)) ?_)))))))))))
   exact ⟨rfl, hs⟩
theorem equ_s {W0 w : World} {L : List Asn} {a b : Option Addr} {m cp bp : Nat} {ls : List UInt64} (hl : ls.length = m) (hm : m ≤ 1000000) (hs : Sep W0 w (own 53 1 (.slice a m cp) m (Uv ls) :: own 53 1 (.slice b m bp) m (Uv ls) :: L)) : Calls Tryz.prog 23 [.slice a m cp, .slice b m bp].toArray w (Ret fun r w' => r = .bool true ∧ Sep W0 w' (own 53 1 (.slice a m cp) m (Uv ls) :: own 53 1 (.slice b m bp) m (Uv ls) :: L)) := by
 refine enter (args := [(.slice a m cp), (.slice b m bp)]) (n := 26) (rs := [.tmp 4]) func23 rfl rfl rfl rfl ?_
 refine rSeq (rReg (oV (xAssign rfl) rfl (oEnd (kSeq (rSeq (rSeq (rReg (oV (xMove rfl) rfl (oV (xB1 rfl (rLenS underlying51)) rfl (oV (xMove rfl) rfl (oV (xB1 rfl (rLenS underlying51)) rfl (oV (xCmp (r := false) rfl rfl (bF (by omega) rNeq)) rfl (oEnd (kSeq (rCondF rfl (rSkip (kSeq (rSeq (rSeq (rReg (oV (xMove rfl) rfl (oV (xB1 rfl (rLenS underlying51)) rfl (oV (xMove rfl) rfl (oEnd (kSeq (rBlk (rLoop (fun mz e w => ∃ (i : Nat), m - i = mz ∧ e = [(0, (.slice a m cp)), (1, (.slice b m bp)), (4, (.bool false)), (11, (.slice a m cp)), (12, (I (m : Int))), (13, (I (i : Int)))] ∧ (i ≤ m) ∧ Sep W0 w (own 53 1 (.slice a m cp) m (Uv ls) :: own 53 1 (.slice b m bp) m (Uv ls) :: L)) ⟨_, _, ⟨0, rfl, rfl, (by omega), hs⟩, ⟨rfl, rfl, rfl, rfl, rfl, rfl, trivial⟩⟩ ?_)))))))))))))))))))))))))))
 clear hs; rintro mz e w ⟨i, rfl, rfl, hi, hs⟩
 refine rSeq (rReg (oV (xCmp rfl rfl rLss) rfl (oEnd (kSeq (rSeq ?_)))))
 refine rCondD rfl (fun hc1 => ?_) (fun hc1 => ?_)
 · refine rSkip (kSeq (rSeq (rBlk (rSeq (rReg (oV (xMove rfl) rfl (oV (xAssign rfl) rfl (oEnd (kSeq (rSeq (rRegQ (by kernel_rfl) (by kernel_rfl) hs ?_)))))))))))
   refine qV (fun w hq => xMove rfl) rfl ?_
   refine qV (fun w hq => xMove rfl) rfl ?_
   obtain ⟨b2, rfl⟩ := Sep.ownAddr (i := 0) hs rfl (by omega)
   refine qV (fun w hq => xIA (o' := i) underlying51 sizeOf53 rfl rfl (by omega) (by omega) (by omega)) rfl ?_
   refine qV (fun w hq => xLoadC isAgg53 rfl (Sep.ownCell hq (i := 0) rfl (Uv_get (by first | omega | (simp only [List.length_append, List.length_set, List.length_cons, List.length_nil, List.length_map, List.length_replicate, mixd_length]; omega))))) rfl ?_
   refine qV (fun w hq => xMove rfl) rfl ?_
   refine qV (fun w hq => xMove rfl) rfl ?_
   obtain ⟨b4, rfl⟩ := Sep.ownAddr (i := 1) hs rfl (by omega)
   refine qV (fun w hq => xIA (o' := i) underlying51 sizeOf53 rfl rfl (by omega) (by omega) (by omega)) rfl ?_
   refine qV (fun w hq => xLoadC isAgg53 rfl (Sep.ownCell hq (i := 1) rfl (Uv_get (by first | omega | (simp only [List.length_append, List.length_set, List.length_cons, List.length_nil, List.length_map, List.length_replicate, mixd_length]; omega))))) rfl ?_
   refine qV (fun w hq => xCmp rfl rfl rNeq) rfl ?_
   refine qEnd (fun w7 hs6 => ?_); clear hs
   refine kSeq ?_
   refine rCondD rfl (fun hc8 => absurd hc8 (by omega)) (fun hc8 => ?_)
   refine rSkip (kBlk (kSeq (rReg (oV (xAr rfl rfl (rAdd (wI (by omega) (by omega)))) rfl (oV (xMove rfl) rfl ?_)))))
   exact oEnd (kLoop (m - (i + 1)) _ (by omega) ⟨i + 1, rfl, rfl, (by omega), hs6⟩ ⟨rfl, rfl, rfl, rfl, rfl, rfl, trivial⟩)
 · refine rExit (kSeqX (kLoopX (kBlkH (kSeq (rSeq (rReg (oV (xAssign rfl) rfl (oEnd (kSeq (rRet (kFin (.tmp rfl (.nil)) ?_)))))))))))
   exact ⟨rfl, hs⟩
end Go.Sl
namespace Go.Sl
open Go.Proofs Go.Proofs.Tryz
theorem Reads.takeS {P : Program} {f : HF} {a : Option Addr} {n cp k : Nat} {ls : LL} {t : TypeId} (h : Reads f 1 (.slice a n cp) n (Sv ls)) (hn : k ≤ n) (hu : P.underlying t = some (.slice 9)) (hsz : ∀ w, Sem.run P (sizeOf 9) w = .ok 1 w) :
   ∃ a' cp', Reads f 1 (.slice a' k cp') k (Sv (ls.take k)) ∧ ∀ w, Sem.run P (Instr.sliceAt t (.slice a n cp) Option.none (some (I (k : Int))) Option.none) w = .ok (.slice a' k cp') w := by
 obtain ⟨a', cp', h1, h2⟩ := Reads.slice (t := t) (lo := 0) (hi := k) h hu hsz .none (.some (k := .i64) (i := (k : Int)) rfl) (Nat.zero_le _) hn
 refine ⟨a', cp', ?_, h2⟩
 have e : ((Sv ls).drop (0 * 1)).take ((k - 0) * 1) = Sv (ls.take k) := by simp [Sv, List.map_take]
 rw [e] at h1; exact h1
theorem min30 {n : Nat} : ∃ k : Nat, (if (30 : Int) < (n : Int) then (30 : Int) else (n : Int)) = (k : Int) ∧ k ≤ 30 ∧ k ≤ n := by
 by_cases h : (30 : Int) < (n : Int)
 · exact ⟨30, by rw [if_pos h]; rfl, by omega, by omega⟩
 · exact ⟨n, by rw [if_neg h], by omega, by omega⟩
theorem mod40 (c : UInt8) : ∃ k : Nat, (1 + ((c % 40).toNat : Int)) = (k : Int) ∧ 1 ≤ k ∧ k ≤ 40 := by
 have h : (c % 40).toNat < 40 := by rw [UInt8.toNat_mod]; exact Nat.mod_lt _ (by decide)
 exact ⟨1 + (c % 40).toNat, by omega, by omega, by omega⟩
theorem topmovers_s {W0 w : World} {L : List Asn} {f : HF} {ta : Option Addr} {tn tc : Nat} {ss : LL} {was now : UInt8} (hst : Reads f 1 (.slice ta tn tc) tn (Sv ss)) (hsn : ss.length = tn) (hsl : ∀ l ∈ ss, l.length ≤ 9223372036854775807) (hs : Sep W0 w (pool f :: L)) : Calls Tryz.prog 5 [.slice ta tn tc, .int .u8 was.toNat, .int .u8 now.toNat].toArray w (Ret fun r w' => ∃ f', r = .bool true ∧ FLe f f' ∧ Sep W0 w' (pool f' :: L)) := by
 have hw40 : (was % 40).toNat < 40 := by rw [UInt8.toNat_mod]; exact Nat.mod_lt _ (by decide)
 have hn40 : (now % 40).toNat < 40 := by rw [UInt8.toNat_mod]; exact Nat.mod_lt _ (by decide)
 refine enter (args := [(.slice ta tn tc), (.int .u8 (was.toNat : Int)), (.int .u8 (now.toNat : Int))]) (n := 153) (rs := [.tmp 6]) func5 rfl rfl rfl rfl ?_
 refine rSeq (rReg (oV (xAssign rfl) rfl (oEnd (kSeq (rSeq (rReg (oV (xMove rfl) rfl (oV (xMove rfl) rfl (oV (xB1 rfl (rLenS underlying30)) rfl (oV (xB1 rfl rMin) rfl ?_))))))))))
 obtain ⟨k, hk, hk30, hkn⟩ := min30 (n := tn); rw [hk]
 obtain ⟨a1, cp2, hv3, hx4⟩ := Reads.takeS (P := Tryz.prog) (t := 30) (k := k) hst (by omega) underlying30 sizeOf9
 refine oV (xSlice rfl rfl rfl hx4) rfl (oV (xAssign rfl) rfl (oEnd (kSeq (rSeq (rReg (oV (xMove rfl) rfl (oV (xAr rfl rfl (uRem8 was 40 (by decide))) rfl (oV (xConv underlying5 underlying3 rfl (w8toI (was % 40))) rfl (oV (xAr rfl rfl (rAdd (wI (by omega) (by omega)))) rfl ?_)))))))))
 obtain ⟨wa, hwa, hwa1, hwa2⟩ := mod40 was; rw [hwa]
 refine oV (xMove rfl) rfl (oV (xAr rfl rfl (uRem8 now 40 (by decide))) rfl (oV (xConv underlying5 underlying3 rfl (w8toI (now % 40))) rfl (oV (xAr rfl rfl (rAdd (wI (by omega) (by omega)))) rfl ?_)))
 obtain ⟨no, hno, hno1, hno2⟩ := mod40 now; rw [hno]
 refine oV (xAssign rfl) rfl (oV (xAssign rfl) rfl (oEnd (kSeq (rSeq (rSeq (rReg (oCall call11 rfl rfl (works_s hs) ?_)))))))
 rintro _ w7 ⟨f5, rfl, hle6, hs8⟩; clear hs
 replace hst := hst.mono hle6
 replace hv3 := hv3.mono hle6
 refine oV (xNot rfl) rfl (oEnd (kSeq (rCondF rfl (rSkip (kSeq (rSeq (rReg (oV (xAssign rfl) rfl (oV (xAssign rfl) rfl (oEnd (kSeq (rSeq (rReg (oV (xMove rfl) rfl (oMake (k := no) (c := no) (size := 1) (bytes := 8) (inf := Tryz.t3) hs8 underlying52 (by kernel_rfl) rfl rfl rfl rfl rfl (by omega) (by omega) (by omega) (by omega) (by omega) rfl ?_)))))))))))))))
 intro b9 w10 hs11; clear hs8
 rw [made1 (I 0) rfl] at hs11
 obtain ⟨AK, hAK⟩ : ∃ l, l = (ss.take k).map keyF := ⟨_, rfl⟩
 have hssl : (ss.take k).length = k := by rw [List.length_take, hsn]; omega
 have hAl : AK.length = k := by rw [hAK, List.length_map, hssl]
 rw [Iv_rep, cntU_nil, ← List.take_zero (l := AK)] at hs11
 refine oV (xAssign rfl) rfl (oEnd (kSeq (rSeq (rSeq (rReg (oV (xMove rfl) rfl (oV (xB1 rfl (rLenS underlying30)) rfl (oV (xMove rfl) rfl (oEnd (kSeq (rBlk ?_)))))))))))
 replace hs11 := Sep.nil 53 1 hs11
 rw [← Uv_nil, show ([] : List UInt64) = mvU wa no (AK.take 0) from rfl] at hs11
 replace hs11 := Sep.nil 53 1 hs11
 rw [← Uv_nil, ← List.take_zero (l := AK)] at hs11
 refine rLoop (fun mz e w => ∃ (i : Nat) (kk : Nat) (ka : Option Addr) (kc : Nat) (va : Option Addr) (vc : Nat) (f12 : HF), k - i = mz ∧ e = [(0, (.slice a1 k cp2)), (6, (.bool false)), (7, (I (wa : Int))), (8, (I (no : Int))), (11, (.slice (some ⟨b9, 0, none⟩) no no)), (42, (.slice a1 k cp2)), (43, (I (k : Int))), (9, (.slice ka i kc)), (10, (.slice va kk vc)), (44, (I (i : Int)))] ∧ (i ≤ k) ∧ ((mvU wa no (AK.take i)).length = kk) ∧ (FLe f5 f12) ∧ (Reads f12 1 (.slice a1 k cp2) k (Sv (ss.take k))) ∧ Sep W0 w (own 53 1 (.slice ka i kc) i (Uv (AK.take i)) :: own 53 1 (.slice va kk vc) kk (Uv (mvU wa no (AK.take i))) :: own 3 1 (.slice (some ⟨b9, 0, none⟩) no no) no (Iv (cntU no (AK.take i))) :: pool f12 :: L)) ⟨_, _, ⟨0, 0, _, _, _, _, f5, rfl, rfl, (by omega), (rfl), (FLe.refl _), (hv3), hs11⟩, ⟨rfl, rfl, rfl, rfl, rfl, rfl, rfl, rfl, rfl, rfl, trivial⟩⟩ ?_
 clear hs11; rintro mz e w ⟨i, kk, ka, kc, va, vc, f12, rfl, rfl, hi, hkk, hle13, hv3, hs⟩
 have hkm : (mvU wa no (AK.take i)).length ≤ (AK.take i).length := List.length_filter_le _ _; rw [List.length_take] at hkm; have hcl := cntU_length no (AK.take i)
 refine rSeq (rReg (oV (xCmp rfl rfl rLss) rfl (oEnd (kSeq (rSeq ?_)))))
 refine rCondD rfl (fun hc14 => ?_) (fun hc14 => ?_)
 · refine rSkip (kSeq (rSeq (rBlk (rSeq (rReg ?_)))))
   obtain ⟨b15, off16, rfl⟩ := Reads.at hv3 (by omega)
   refine oV (xIA (o' := off16 + i) underlying30 sizeOf9 rfl rfl (by omega) (by omega) (by omega)) rfl (oV (xLoadC isAgg9 rfl (Reads.cell hv3 hs (i := 3) rfl (Sv_get (by omega)))) rfl (oV (xAssign rfl) rfl (oEnd (kSeq (rSeq (rReg (oV (xAssign rfl) rfl (oEnd (kSeq (rSeq (rSeq (rReg (oV (xMove rfl) rfl (oV (xB1 (v := .int .i64 (((ss.take k).getD i []).length : Int)) rfl (rLenStr underlying9)) rfl (oV (xMove rfl) rfl (oEnd (kSeq (rBlk ?_))))))))))))))))))
   have hsl2 : ((ss.take k).getD i []).length ≤ 9223372036854775807 := by rw [List.getD_eq_getElem?_getD, List.getElem?_eq_getElem (show i < (ss.take k).length by omega)]; exact hsl _ (List.mem_of_mem_take (List.getElem_mem _))
   refine rLoop (fun mz e w => ∃ (j : Nat), ((ss.take k).getD i []).length - j = mz ∧ e = [(0, (.slice (some ⟨b15, off16, none⟩) k cp2)), (6, (.bool false)), (7, (I (wa : Int))), (8, (I (no : Int))), (9, (.slice ka i kc)), (10, (.slice va kk vc)), (11, (.slice (some ⟨b9, 0, none⟩) no no)), (13, (.string ⟨((ss.take k).getD i []).toArray⟩)), (42, (.slice (some ⟨b15, off16, none⟩) k cp2)), (43, (I (k : Int))), (44, (I (i : Int))), (48, (.string ⟨((ss.take k).getD i []).toArray⟩)), (49, (I (((ss.take k).getD i []).length : Int))), (14, (.int .u64 ((keyU ((ss.take k).getD i []) j).toNat : Int))), (50, (I (j : Int)))] ∧ (j ≤ ((ss.take k).getD i []).length) ∧ Sep W0 w (own 53 1 (.slice ka i kc) i (Uv (AK.take i)) :: own 53 1 (.slice va kk vc) kk (Uv (mvU wa no (AK.take i))) :: own 3 1 (.slice (some ⟨b9, 0, none⟩) no no) no (Iv (cntU no (AK.take i))) :: pool f12 :: L)) ⟨_, _, ⟨0, rfl, rfl, (by omega), hs⟩, ⟨rfl, rfl, rfl, rfl, rfl, rfl, rfl, rfl, rfl, rfl, rfl, rfl, rfl, rfl, rfl, trivial⟩⟩ ?_
   clear hs; rintro mz e w ⟨j, rfl, rfl, hj, hs⟩
   refine rSeq (rReg (oV (xCmp rfl rfl rLss) rfl (oEnd (kSeq (rSeq ?_)))))
   refine rCondD rfl (fun hc17 => ?_) (fun hc17 => ?_)
   · refine rSkip (kSeq (rSeq (rBlk (rSeq (rReg (oV (xMove rfl) rfl (oV (xAssign rfl) rfl (oEnd (kSeq (rReg (oV (xMove rfl) rfl (oV (xMove rfl) rfl (oV (xMove rfl) rfl (oV (xIndexSt (i := j) underlying9 rfl rfl (by omega)) rfl ?_))))))))))))))
     refine oV (xConv underlying5 underlying53 rfl (w8to64 (((ss.take k).getD i []).getD j 0))) rfl (oV (xAr rfl rfl (uXor64 (keyU ((ss.take k).getD i []) j) ((((ss.take k).getD i []).getD j 0).toUInt64))) rfl (oV (xAr rfl rfl (uMul64 ((keyU ((ss.take k).getD i []) j) ^^^ (((ss.take k).getD i []).getD j 0).toUInt64) (1099511628211 : UInt64))) rfl ?_))
     rw [← keyU_next (by omega)]
     refine oV (xAssign rfl) rfl (oEnd (kBlk (kSeq (rReg (oV (xAr rfl rfl (rAdd (wI (by omega) (by omega)))) rfl (oV (xMove rfl) rfl ?_))))))
     exact oEnd (kLoop (((ss.take k).getD i []).length - (j + 1)) _ (by omega) ⟨j + 1, rfl, rfl, (by omega), hs⟩ ⟨rfl, rfl, rfl, rfl, rfl, rfl, rfl, rfl, rfl, rfl, rfl, rfl, rfl, rfl, rfl, trivial⟩)
   · have hjl : j = ((ss.take k).getD i []).length := by omega
     refine rExit (kSeqX (kLoopX (kBlkH (kSeq (rSeq (rSeq (rReg (oV (xMove rfl) rfl ?_))))))))
     replace hs := hs.f3
     refine oStrBytes hs underlying9 underlying26 underlying5 rfl rfl ?_
     intro f18 a19 cp20 w23 hle21 hb22 hs24; clear hs
     replace hb22 : RB f18 a19 ((ss.take k).getD i []).length cp20 ((ss.take k).getD i []) := hb22
     replace hv3 := hv3.mono hle21
     refine oCall call17 rfl rfl (jkey_s hb22 (by first | omega | (show ((ss.take k).getD i []).length ≤ 9223372036854775807; omega)) hs24) ?_
     rintro _ w25 ⟨rfl, hs26⟩; clear hs24
     refine oV (xMove rfl) rfl (oV (xCmp (r := false) rfl rfl (bF (by rw [hjl]; exact fun h => h rfl) rNeq)) rfl (oEnd (kSeq (rCondF rfl (rSkip (kSeq (rSeq (rReg ?_))))))))
     have hka : keyU ((ss.take k).getD i []) j = (AK.getD i 0) := by rw [hjl, hAK, List.getD_eq_getElem?_getD (l := List.map _ _), List.getElem?_map, List.getElem?_eq_getElem (show i < (ss.take k).length by omega)]; simp only [Option.map_some, Option.getD_some]; rw [List.getD_eq_getElem?_getD, List.getElem?_eq_getElem (show i < (ss.take k).length by omega)]; rfl
     rw [hka]
     refine oV (xAssign rfl) rfl (oEnd (kSeq (rSeq (rReg (oAlloc hs26 zeroValue55 rfl rfl ?_)))))
     intro b27 w28 hs29; clear hs26
     refine oEnd (kSeq (rSeq (rSeq (rReg (oV (xAssign rfl) rfl (oEnd (kSeq (rBlk ?_))))))))
     rw [show [(I 0), (I 0), (I 0), (I 0), (I 0), (I 0), (I 0), (I 0), (I 0), (I 0), (I 0), (I 0), (I 0), (I 0), (I 0), (I 0), (I 0), (I 0), (I 0), (I 0), (I 0), (I 0), (I 0), (I 0), (I 0), (I 0), (I 0), (I 0), (I 0), (I 0), (I 0), (I 0), (I 0), (I 0), (I 0), (I 0), (I 0), (I 0), (I 0), (I 0), (I 0)] = Nv (atL (AK.getD i 0) 1) from rfl] at hs29
     refine rLoop (fun mz e w => ∃ (p : Nat) (jl : Nat), 41 - p = mz ∧ e = [(0, (.slice (some ⟨b15, off16, none⟩) k cp2)), (6, (.bool false)), (7, (I (wa : Int))), (8, (I (no : Int))), (9, (.slice ka i kc)), (10, (.slice va kk vc)), (11, (.slice (some ⟨b9, 0, none⟩) no no)), (14, (.int .u64 ((AK.getD i 0).toNat : Int))), (17, (ptr b27)), (42, (.slice (some ⟨b15, off16, none⟩) k cp2)), (43, (I (k : Int))), (44, (I (i : Int))), (16, (I (jl : Int))), (18, (I (p : Int)))] ∧ (1 ≤ p ∧ p ≤ 41) ∧ ((p = 1 ∧ jl = 0) ∨ (2 ≤ p ∧ jl = jmp (AK.getD i 0) (p - 1))) ∧ Sep W0 w (row b27 55 (Nv (atL (AK.getD i 0) p)) :: pool f18 :: own 53 1 (.slice ka i kc) i (Uv (AK.take i)) :: own 53 1 (.slice va kk vc) kk (Uv (mvU wa no (AK.take i))) :: own 3 1 (.slice (some ⟨b9, 0, none⟩) no no) no (Iv (cntU no (AK.take i))) :: L)) ⟨_, _, ⟨1, 0, rfl, rfl, (by omega), (.inl ⟨rfl, rfl⟩), hs29⟩, ⟨rfl, rfl, rfl, rfl, rfl, rfl, rfl, rfl, rfl, rfl, rfl, rfl, rfl, rfl, trivial⟩⟩ ?_
     clear hs29; rintro mz e w ⟨p, jl, rfl, rfl, hp, hjl0, hs⟩
     refine rSeq (rSeq (rReg (oV (xMove rfl) rfl (oV (xCmp rfl rfl rLeq) rfl (oEnd (kSeq ?_))))))
     refine rCondD rfl (fun hc30 => ?_) (fun hc30 => ?_)
     · have hnx : jmp (AK.getD i 0) p = jl ∨ jmp (AK.getD i 0) p = p - 1 := by
                 rcases hjl0 with ⟨rfl, rfl⟩ | ⟨h2, rfl⟩
                 · exact .inl (jmp_one _)
                 · have := jmp_next (AK.getD i 0) (n := p - 1) (by omega) (by omega); rw [show p - 1 + 1 = p by omega] at this; exact this
       refine rSkip (kSeq (rSeq (rBlk (rSeq (rReg (oV (xMove rfl) rfl (oV (xMove rfl) rfl (oCall call18 rfl rfl (jof_s (n := p) (by omega) (by omega) hs) ?_))))))))
       rintro _ w31 ⟨rfl, hs32⟩; clear hs
       have hjl33 := jmp_lt (AK.getD i 0) (n := p) (by omega)
       refine oV (xMove rfl) rfl (oV (xExtract rfl rfl) rfl (oV (xExtract rfl rfl) rfl (oV (xAssign rfl) rfl (oV (xAssign rfl) rfl (oEnd (kSeq (rSeq (rSeq (rReg (oV (xMove rfl) rfl (oV (xCmp (r := false) rfl rfl rNeq) rfl (oV (xMove rfl) rfl (oGuardT rfl rfl (oV (xMove rfl) rfl (oGuardT rfl rfl (oV (xMove rfl) rfl (oGuardT rfl rfl (oV (xCmp rfl rfl rNeq) rfl (oGuardT rfl rfl (oV (xMove rfl) rfl ?_))))))))))))))))))))
       refine oCase (d := 82) rfl (fun hg34 => ?_) (fun hg34 => ?_)
       · replace hg34 := of_decide_eq_true hg34
         refine oGuardT rfl rfl (oV (xMove rfl) rfl (oGuardT rfl rfl (oV (xMove rfl) rfl (oGuardT rfl rfl (oV (xAr rfl rfl (rSub (wI (by omega) (by omega)))) rfl (oGuardT rfl rfl (oV (xCmp (r := false) rfl rfl (bF (by omega) rNeq)) rfl (oGuardT rfl rfl (oV (xPickT rfl rfl) rfl (oV (xPickF rfl rfl) rfl (oV (xMove rfl) rfl (oGuardT rfl rfl (oV (xMove rfl) rfl (oGuardT rfl rfl (oV (xMove rfl) rfl (oGuardT rfl rfl (oV (xMove rfl) rfl (oGuardT rfl rfl (oCall call19 rfl rfl (fall_s (n := p) (by omega) (by omega) hs32) ?_)))))))))))))))))))
         rintro _ w35 ⟨rfl, hs36⟩; clear hs32
         refine oGuardT rfl rfl (oV (xCmp (r := false) rfl rfl (bF (by omega) rNeq)) rfl (oV (xPickF rfl rfl) rfl (oEnd (kSeq (rCondF rfl (rSkip (kSeq (Run.sub (e' := [(0, (.slice (some ⟨b15, off16, none⟩) k cp2)), (6, (.bool false)), (7, (I (wa : Int))), (8, (I (no : Int))), (9, (.slice ka i kc)), (10, (.slice va kk vc)), (11, (.slice (some ⟨b9, 0, none⟩) no no)), (14, (.int .u64 ((AK.getD i 0).toNat : Int))), (17, (ptr b27)), (42, (.slice (some ⟨b15, off16, none⟩) k cp2)), (43, (I (k : Int))), (44, (I (i : Int))), (16, (I (jl : Int))), (18, (I (p : Int))), (19, (I (jmp (AK.getD i 0) p : Int)))]) ⟨rfl, rfl, rfl, rfl, rfl, rfl, rfl, rfl, rfl, rfl, rfl, rfl, rfl, rfl, rfl, trivial⟩ ?_))))))))
         refine rReg (oV (xMove rfl) rfl (oV (xMove rfl) rfl (oV (xMove rfl) rfl (oV (xAssign rfl) rfl (oV (xIAA (o' := p) underlying55 sizeOf3 rfl rfl (by omega) (by omega) (by omega)) rfl (oStore hs36 sizeOf3 rfl rfl rfl (i := 0) rfl (Nv_get (by rw [atL_length]; omega)) ?_))))))
         intro w37 hs38; clear hs36; dsimp only [List.set] at hs38; rw [Nv_set, atL_set (by omega) (by omega)] at hs38
         refine oEnd (kBlk (kSeq (rReg (oV (xMove rfl) rfl (oV (xAr rfl rfl (rAdd (wI (by omega) (by omega)))) rfl (oV (xAssign rfl) rfl ?_))))))
         exact oEnd (kLoop (41 - (p + 1)) _ (by omega) ⟨p + 1, jmp (AK.getD i 0) p, rfl, rfl, (by omega), (.inr ⟨by omega, rfl⟩), hs38⟩ ⟨rfl, rfl, rfl, rfl, rfl, rfl, rfl, rfl, rfl, rfl, rfl, rfl, rfl, rfl, trivial⟩)
       · replace hg34 := of_decide_eq_false hg34
         refine oGuardF rfl rfl rfl rfl (oGuardF rfl rfl rfl rfl (oGuardF rfl rfl rfl rfl (oGuardF rfl rfl rfl rfl (oGuardT rfl rfl (oV (xPickF rfl rfl) rfl (oV (xPickF rfl rfl) rfl (oV (xMove rfl) rfl (oGuardT rfl rfl (oV (xMove rfl) rfl (oGuardT rfl rfl (oV (xMove rfl) rfl (oGuardT rfl rfl (oV (xMove rfl) rfl (oGuardT rfl rfl (oCall call19 rfl rfl (fall_s (n := p) (by omega) (by omega) hs32) ?_)))))))))))))))
         rintro _ w39 ⟨rfl, hs40⟩; clear hs32
         refine oGuardT rfl rfl (oV (xCmp (r := false) rfl rfl (bF (by omega) rNeq)) rfl (oV (xPickF rfl rfl) rfl (oEnd (kSeq (rCondF rfl (rSkip (kSeq (Run.sub (e' := [(0, (.slice (some ⟨b15, off16, none⟩) k cp2)), (6, (.bool false)), (7, (I (wa : Int))), (8, (I (no : Int))), (9, (.slice ka i kc)), (10, (.slice va kk vc)), (11, (.slice (some ⟨b9, 0, none⟩) no no)), (14, (.int .u64 ((AK.getD i 0).toNat : Int))), (17, (ptr b27)), (42, (.slice (some ⟨b15, off16, none⟩) k cp2)), (43, (I (k : Int))), (44, (I (i : Int))), (16, (I (jl : Int))), (18, (I (p : Int))), (19, (I (jmp (AK.getD i 0) p : Int)))]) ⟨rfl, rfl, rfl, rfl, rfl, rfl, rfl, rfl, rfl, rfl, rfl, rfl, rfl, rfl, rfl, trivial⟩ ?_))))))))
         refine rReg (oV (xMove rfl) rfl (oV (xMove rfl) rfl (oV (xMove rfl) rfl (oV (xAssign rfl) rfl (oV (xIAA (o' := p) underlying55 sizeOf3 rfl rfl (by omega) (by omega) (by omega)) rfl (oStore hs40 sizeOf3 rfl rfl rfl (i := 0) rfl (Nv_get (by rw [atL_length]; omega)) ?_))))))
         intro w41 hs42; clear hs40; dsimp only [List.set] at hs42; rw [Nv_set, atL_set (by omega) (by omega)] at hs42
         refine oEnd (kBlk (kSeq (rReg (oV (xMove rfl) rfl (oV (xAr rfl rfl (rAdd (wI (by omega) (by omega)))) rfl (oV (xAssign rfl) rfl ?_))))))
         exact oEnd (kLoop (41 - (p + 1)) _ (by omega) ⟨p + 1, jmp (AK.getD i 0) p, rfl, rfl, (by omega), (.inr ⟨by omega, rfl⟩), hs42⟩ ⟨rfl, rfl, rfl, rfl, rfl, rfl, rfl, rfl, rfl, rfl, rfl, rfl, rfl, rfl, trivial⟩)
     · refine rExit (kSeqX (kLoopX (kBlkH (kSeq (rSeq (rReg (oV (xMove rfl) rfl (oV (xMove rfl) rfl (oBuildSlice (el := 53) (cs := [(.int .u64 ((AK.getD i 0).toNat : Int))]) hs rfl (fun w => by kernel_rfl) rfl ?_)))))))))
       intro b43 w44 hs45; clear hs
       refine oAppend (inf := Tryz.t53) (size := 1) (bytes := 8) hs45 (i := 3) rfl underlying51 (by kernel_rfl) rfl rfl rfl rfl rfl rfl rfl (src_row hs45 (i := 0) rfl rfl rfl) (by first | omega | (simp only [List.length_append, List.length_cons, List.length_nil, List.length_map]; omega)) (by first | omega | (simp only [List.length_append, List.length_cons, List.length_nil, List.length_map]; omega)) rfl ?_
       intro a46 c47 w48 hs49; clear hs45; dsimp only [List.set] at hs49
       rw [Uv_snoc, ← takeU_snoc (by omega)] at hs49
       refine oV (xAssign rfl) rfl (oEnd (kSeq (rSeq (rReg ?_))))
       have hjn := jmp_lt (AK.getD i 0) (n := no) (by omega)
       refine oV (xMove rfl) rfl (oV (xMove rfl) rfl (oV (xIAA (o' := no) underlying55 sizeOf3 rfl rfl (by omega) (by omega) (by omega)) rfl (oV (xLoad hs49 isAgg3 rfl (i := 1) rfl ((Nv_get (by rw [atL_length]; omega)).trans (by rw [atL_get (by omega) (by omega) (by omega)]))) rfl (oV (xIA (o' := (jmp (AK.getD i 0) no)) underlying52 sizeOf3 rfl rfl (by omega) (by omega) (by omega)) rfl (oV (xLoadC isAgg3 rfl (Sep.ownCell hs49 (i := 5) rfl (Iv_get (by first | omega | (simp only [List.length_append, List.length_set, List.length_cons, List.length_nil, List.length_map, List.length_replicate, mixd_length]; omega))))) rfl (oV (xAr (r := (IntKind.i64.wrap (((cntU no (AK.take i)).getD (jmp (AK.getD i 0) no) 0) + 1))) rfl rfl (rAdd rfl)) rfl (oV (xIA (o' := (jmp (AK.getD i 0) no)) underlying52 sizeOf3 rfl rfl (by omega) (by omega) (by omega)) rfl ?_)))))))
       refine oStoreO hs49 sizeOf3 rfl rfl rfl (i := 5) rfl (Iv_get (by first | omega | (simp only [List.length_append, List.length_set, List.length_cons, List.length_nil, List.length_map, List.length_replicate, mixd_length]; omega))) ?_
       intro w50 hs51; clear hs49; dsimp only [List.set] at hs51; rw [Iv_set] at hs51
       rw [← cntU_snoc, ← takeU_snoc (by omega)] at hs51
       refine oEnd (kSeq (rSeq (rRegQ (by kernel_rfl) (by kernel_rfl) hs51 ?_)))
       refine qV (fun w hq => xMove rfl) rfl ?_
       refine qV (fun w hq => xIAA (o' := wa) underlying55 sizeOf3 rfl rfl (by omega) (by omega) (by omega)) rfl ?_
       refine qV (fun w hq => xLoad hq isAgg3 rfl (i := 1) rfl ((Nv_get (by rw [atL_length]; omega)).trans (by rw [atL_get (by omega) (by omega) (by omega)]))) rfl ?_
       refine qV (fun w hq => xMove rfl) rfl ?_
       refine qV (fun w hq => xIAA (o' := no) underlying55 sizeOf3 rfl rfl (by omega) (by omega) (by omega)) rfl ?_
       refine qV (fun w hq => xLoad hq isAgg3 rfl (i := 1) rfl ((Nv_get (by rw [atL_length]; omega)).trans (by rw [atL_get (by omega) (by omega) (by omega)]))) rfl ?_
       refine qV (fun w hq => xCmp rfl rfl rNeq) rfl ?_
       refine qEnd (fun w53 hs52 => ?_); clear hs51
       refine kSeq ?_
       refine rCondD rfl (fun hc54 => ?_) (fun hc54 => ?_)
       · have hne : jmp (AK.getD i 0) wa ≠ jmp (AK.getD i 0) no := by omega
         refine rReg (oV (xMove rfl) rfl (oV (xMove rfl) rfl (oBuildSlice (el := 53) (cs := [(.int .u64 ((AK.getD i 0).toNat : Int))]) hs52 rfl (fun w => by kernel_rfl) rfl ?_)))
         intro b55 w56 hs57; clear hs52
         refine oAppend (inf := Tryz.t53) (size := 1) (bytes := 8) hs57 (i := 5) rfl underlying51 (by kernel_rfl) rfl rfl rfl rfl rfl rfl rfl (src_row hs57 (i := 0) rfl rfl rfl) (by first | omega | (simp only [List.length_append, List.length_cons, List.length_nil, List.length_map]; omega)) (by first | omega | (simp only [List.length_append, List.length_cons, List.length_nil, List.length_map]; omega)) rfl ?_
         intro a58 c59 w60 hs61; clear hs57; dsimp only [List.set] at hs61
         rw [Uv_snoc, ← mvU_yes _ hne, ← takeU_snoc (by omega)] at hs61
         refine oV (xAssign rfl) rfl (oEnd (kBlk (kSeq (rReg (oV (xAr rfl rfl (rAdd (wI (by omega) (by omega)))) rfl (oV (xMove rfl) rfl ?_))))))
         replace hs61 := hs61.d2
         replace hs61 := hs61.d1
         replace hs61 := hs61.d0
         replace hs61 := hs61.f3
         replace hs61 := hs61.f3
         replace hs61 := hs61.f3
         exact oEnd (kLoop (k - (i + 1)) _ (by omega) ⟨i + 1, kk + 1, _, _, _, _, f18, rfl, rfl, (by omega), (by rw [takeU_snoc (by omega), mvU_yes _ hne, List.length_append, hkk]; rfl), (FLe.trans hle13 hle21), (hv3), hs61⟩ ⟨rfl, rfl, rfl, rfl, rfl, rfl, rfl, rfl, rfl, rfl, trivial⟩)
       · have hne : ¬ jmp (AK.getD i 0) wa ≠ jmp (AK.getD i 0) no := by omega
         rw [← mvU_no (AK.take i) hne, ← takeU_snoc (by omega)] at hs52
         refine rSkip (kBlk (kSeq (rReg (oV (xAr rfl rfl (rAdd (wI (by omega) (by omega)))) rfl (oV (xMove rfl) rfl ?_)))))
         replace hs52 := hs52.d1
         replace hs52 := hs52.d0
         replace hs52 := hs52.f3
         replace hs52 := hs52.f3
         replace hs52 := hs52.f3
         exact oEnd (kLoop (k - (i + 1)) _ (by omega) ⟨i + 1, kk, _, _, _, _, f18, rfl, rfl, (by omega), (by rw [takeU_snoc (by omega), mvU_no _ hne]; exact hkk), (FLe.trans hle13 hle21), (hv3), hs52⟩ ⟨rfl, rfl, rfl, rfl, rfl, rfl, rfl, rfl, rfl, rfl, trivial⟩)
 · have hkk30 : kk ≤ 30 := by omega
   obtain rfl : k = i := by omega
   rw [show AK.take k = AK from List.take_of_length_le (by omega)] at hs hkk hcl
   skip
   refine rExit (kSeqX (kLoopX (kBlkH (kSeq (rSeq (rReg (oV (xMove rfl) rfl (oV (xMove rfl) rfl (oCall call20 rfl rfl (jspread_s (n := no) (ks := AK) hAl (by omega) (by omega) (by omega) hs) ?_)))))))))
   rintro _ w64 ⟨a62, cp63, rfl, hs65⟩; clear hs
   refine oV (xMove rfl) rfl (oV (xExtract rfl rfl) rfl (oV (xExtract rfl rfl) rfl (oV (xAssign rfl) rfl (oV (xAssign rfl) rfl (oEnd (kSeq (rSeq (rReg (oV (xMove rfl) rfl (oV (xMove rfl) rfl (oV (xMove rfl) rfl ?_)))))))))))
   replace hs65 := hs65.f1
   refine oCall call21 rfl rfl (jmoves_s (wa := wa) (no := no) (ks := AK) hAl (by omega) (by omega) (by omega) (by omega) (by omega) hs65) ?_
   rintro _ w68 ⟨a66, cp67, rfl, hs69⟩; clear hs65; rw [hkk] at hs69; rw [hkk]
   refine oV (xMove rfl) rfl (oV (xExtract rfl rfl) rfl (oV (xExtract rfl rfl) rfl (oV (xAssign rfl) rfl (oV (xAssign rfl) rfl (oEnd (kSeq (rSeq (rReg (oV (xMove rfl) rfl (oV (xCmp (r := true) rfl rfl rEql) rfl (oV (xMove rfl) rfl (oGuardT rfl rfl (oV (xMove rfl) rfl (oGuardT rfl rfl (oV (xCmp (r := true) rfl rfl rEql) rfl (oV (xPickT rfl rfl) rfl (oV (xMove rfl) rfl (oGuardT rfl rfl (oV (xMove rfl) rfl (oGuardT rfl rfl (oV (xMove rfl) rfl (oGuardT rfl rfl ?_))))))))))))))))))))))
   replace hs69 := hs69.f4
   replace hs69 := hs69.f3
   refine oCall call22 rfl rfl (eqi_s (cntU_length _ _) (by omega) hs69) ?_
   rintro _ w70 ⟨rfl, hs71⟩; clear hs69
   refine oV (xPickT rfl rfl) rfl (oV (xMove rfl) rfl (oGuardT rfl rfl (oV (xMove rfl) rfl (oGuardT rfl rfl (oV (xMove rfl) rfl (oGuardT rfl rfl ?_))))))
   replace hs71 := hs71.f4
   replace hs71 := hs71.f3
   refine oCall call23 rfl rfl (equ_s (hkk) (by omega) hs71) ?_
   rintro _ w72 ⟨rfl, hs73⟩; clear hs71
   refine oV (xPickT rfl rfl) rfl (oV (xAssign rfl) rfl (oEnd (kSeq (rRet (kFin (.tmp rfl (.nil)) ?_)))))
   replace hs73 := hs73.d4
   replace hs73 := hs73.d3
   replace hs73 := hs73.d2
   replace hs73 := hs73.d1
   replace hs73 := hs73.d0
   exact ⟨_, rfl, (FLe.trans hle6 hle13), hs73⟩
end Go.Sl
namespace Go.Sl
open Go.Proofs Go.ChangeShapes Go.WideShapes Go.ChangeAt Go.RowKit Go.Deep
theorem sep_start (W : World) : Sep W W (pool (hfOf W) :: []) := by
  refine ⟨rfl, rfl, rfl, fun _ => true, fun b o h => ?_, trivial⟩
  simpa [only] using h
theorem sep_old {W W' : World} {f : HF} {L : List Asn} (hs : Sep W W' (pool f :: L)) (hf : FLe (hfOf W) f) {b : Nat} (hb : b < W.heap.size) : W'.heap[b]? = W.heap[b]? := by
  have h1 : W.heap[b]? = some W.heap[b] := Array.getElem?_eq_getElem hb
  rw [h1]
  exact hs.pool_heap (i := 0) rfl (hf _ _ h1)
theorem sep_kept {W W' : World} {f : HF} {L : List Asn} (hs : Sep W W' (pool f :: L)) (hf : FLe (hfOf W) f) (may : MemPlace → Prop) : W.keptBut W' may := by
  refine ⟨hs.os, hs.output, fun i hi => ?_⟩
  rw [sep_old hs hf hi]
  cases W.heap[i]? with
  | none => rfl
  | some o => cases o <;> simp
theorem sep_frozen {W W' : World} {f : HF} {L : List Asn} (hs : Sep W W' (pool f :: L)) (hf : FLe (hfOf W) f) {a : Addr} (hb : a.block < W.heap.size) : W'.frozen? a = W.frozen? a := by
  simp only [World.frozen?, sep_old hs hf hb]
theorem sep_same {W W' : World} {f : HF} {L : List Asn} (hs : Sep W W' (pool f :: L)) (hf : FLe (hfOf W) f) {p : MemPlace} (hb : p.block < W.heap.size) : W.sameAt W' p := by
  cases p with
  | cell b off => simp only [World.sameAt, World.cell?, sep_old hs hf (show b < W.heap.size from hb)]
  | map b => exact sep_old hs hf hb
section
variable {H : Type} {enc : TypeId × Value → H} {P : Program}
theorem all_stays (hl : laidOutB P = true) {W W' : World} {sp : Nat → Bool} : ∀ {ts : List TypeId} {vs : List Value} {ds : List (DataW H)} {ps : List MemPlace}, (∀ t ∈ ts, P.readableRec t = true ∧ t < P.types.size) →
    DataW.TrodAll enc P W 0 (fun _ => true) true ts vs ds ps → (∀ p ∈ ps, W.sameAt W' p) → (∀ p ∈ ps, sp p.block = true) → DataW.TrodAll enc P W' 0 sp true ts vs ds ps
  | [], _, _, _, _, h, _, _ => by
    obtain ⟨rfl, rfl, rfl⟩ := trodAll_nil h
    exact rfl
  | t :: ts, _, _, _, hr, h, h1, h2 => by
    obtain ⟨v, vs, d, ds, p, q, rfl, rfl, rfl, h3, h4⟩ := trodAll_cons h
    exact ⟨p, q, Go.WideElems.Trod_stays hl (hr t (by simp)).1 (hr t (by simp)).2 h3 (fun x hx => h1 x (by simp [hx])) (fun x hx => h2 x (by simp [hx])), all_stays hl (fun u hu => hr u (by simp [hu])) h4 (fun x hx => h1 x (by simp [hx])) (fun x hx => h2 x (by simp [hx])), rfl⟩
theorem law_post {F : Func} {s : ChangeSpec} {apart : Bool} {W W' : World} {args : Array Value} {ds gs : List (DataW H)} {before : List MemPlace} {f : HF} {L : List Asn} (hl : laidOutB P = true) (hr : ∀ t ∈ F.params.toList, P.readableRec t = true ∧ t < P.types.size) (hvs : s.vars = []) (hb : P.underlying 4 = some .bool) (hres : F.resultTypes = #[4])
    (hW : DataW.Whole enc P F.params.toList s.vars apart W args.toList ds gs before) (hfn : s.fn H (ds ++ gs) = { results := [.lit (.bool true)], args := ds }) (hs : Sep W W' (pool f :: L)) (hf : FLe (hfOf W) f) : s.post enc P F apart true false false W args (.bool true) W' := by
  have hW0 := hW
  obtain ⟨pa, pv, hA, hV, hps, hz, hn⟩ := hW
  rw [hvs] at hV
  obtain ⟨rfl, rfl⟩ := trodVars_none hV
  have hlt : ∀ p ∈ before, p.block < W.heap.size := fun p hp => hW0.lt p hp
  have hargs : ∀ sp : Nat → Bool, (∀ p ∈ before, sp p.block = true) → DataW.TrodAll enc P W' 0 sp true F.params.toList args.toList ds pa := fun sp hsp =>
    all_stays hl hr hA (fun p hp => sep_same hs hf (hlt p (by rw [hps]; simp [hp]))) (fun p hp => hsp p (by rw [hps]; simp [hp]))
  have hresx : ∀ (b : Nat) (sp : Nat → Bool) (hd : Bool), DataW.TrodAll enc P W' b sp hd F.resultTypes.toList ((Value.bool true).resultList F.resultTypes.size) (s.fn H (ds ++ [])).results [] := fun b sp hd => by
    rw [hfn, hres]
    exact trodAll_cons_mk (shut_bool hb _) trodAll_mk0
  have hvarsx : ∀ sp : Nat → Bool, DataW.TrodVars enc P W' sp s.vars (s.fn H (ds ++ [])).vars [] := fun sp => by rw [hvs, hfn]; exact rfl
  have hold : ∀ p ∈ before, (fun b => decide (b < W.heap.size)) p.block = true := fun p hp => by simpa using hlt p hp
  have hargs' : ∀ sp : Nat → Bool, (∀ p ∈ before, sp p.block = true) → DataW.TrodAll enc P W' 0 sp true F.params.toList args.toList (s.fn H (ds ++ [])).args pa := fun sp h => by rw [hfn]; exact hargs sp h
  refine ⟨ds, [], before, [], pa, [], hW0, hresx _ _ _, hargs' _ hold, hvarsx _, World.keptBut_mono (fun p hp => ⟨hp, ?_⟩) (sep_kept hs hf (· ∈ before)), fun _ => ?_⟩
  · rw [hps, List.append_nil] at hp
    exact Or.inr (by simpa using hp)
  · refine ⟨?_, _, _, ([] ++ pa) ++ [], ⟨[] ++ pa, [], trodAll_append (hargs' _ (fun _ _ => rfl)) (hresx _ _ _), hvarsx _, rfl, ?_, ?_⟩, ?_⟩
    · exact ok_one hres rfl (okWide_bool_mk hb _)
    · intro b off hp
      have hp2 : MemPlace.cell b off ∈ before := by rw [hps]; simpa using hp
      rw [sep_frozen hs hf (hlt _ hp2)]
      exact hz b off hp2
    · intro ha
      have := hn ha
      rw [hps] at this
      simpa using this
    · intro p hp _
      rw [hps]
      simpa using hp
end
end Go.Sl
namespace Go.Sl
open Go.Proofs Go.ChangeShapes Go.WideShapes Go.ChangeAt Go.RowKit Go.Deep
theorem reads_of_cells {W : World} {a : Addr} {len cap : Nat} {cs : List Value} (hl : cs.length = len) (hcap : len ≤ cap) (h : ∀ (i : Nat) (u : Value), cs[i]? = some u → W.cell? (a.add i) = some u) : Reads (hfOf W) 1 (.slice (some a) len cap) len cs := by
  refine ⟨by omega, ?_⟩
  by_cases h0 : len = 0
  · exact .inr ⟨_, _, by rw [h0], h0⟩
  · obtain ⟨b, off, spot⟩ := a
    have hc0 : cs[0]? = some cs[0] := List.getElem?_eq_getElem (by omega)
    have h1 := h 0 _ hc0
    have hspot : spot = none := by simpa [Addr.add] using World.cell?_spot h1
    subst hspot
    cases hb : W.heap[b]? with
    | none => rw [add_lit] at h1; simp [World.cell?, hb] at h1
    | some o =>
      cases o with
      | cells c ty fr =>
        refine .inl ⟨b, off, cap, c, ty, fr, rfl, hcap, hb, fun j u hj => ?_⟩
        have h2 := h j u hj
        rw [add_lit] at h2
        simpa [World.cell?, hb] using h2
      | _ => rw [add_lit] at h1; simp [World.cell?, hb] at h1
theorem reads_nil {f : HF} {size : Nat} : Reads f size (.slice none 0 0) 0 [] := ⟨by simp, .inr ⟨none, 0, rfl, rfl⟩⟩
theorem strs_reads {W : World} {a : Addr} {len cap : Nat} (hcap : len ≤ cap) (Sx : Nat → ByteArray) (h : ∀ i, i < len → W.cell? (a.add i) = some (.string (Sx i))) : Reads (hfOf W) 1 (.slice (some a) len cap) len (Sv ((List.range len).map fun i => (Sx i).data.toList)) := by
  refine reads_of_cells (by simp [Sv]) hcap (fun i u hu => ?_)
  simp only [Sv, List.getElem?_map] at hu
  by_cases hi : i < len
  · rw [List.getElem?_range hi] at hu
    simp at hu
    rw [h i hi, ← hu]
  · rw [List.getElem?_eq_none (by simpa using hi)] at hu; cases hu
theorem u8_of {a : Int} (h : (Lit.int .u8 a).wf = true) : ∃ c : UInt8, a = (c.toNat : Int) := by
  have hx : 0 ≤ a ∧ a ≤ 255 := by simpa [Lit.wf, IntKind.min, IntKind.max, IntKind.signed, IntKind.bits] using h
  refine ⟨UInt8.ofNat a.toNat, ?_⟩
  have : a.toNat < 256 := by omega
  simp [UInt8.toNat_ofNat]
  omega
end Go.Sl
namespace Go.Sl
open Go.Proofs Go.ChangeShapes Go.WideShapes Go.ChangeAt Go.RowKit Go.Deep
set_option maxRecDepth 100000 in
theorem movers_contract (s : ChangeSpec) (hvs : s.vars = []) (hfn : ∀ (H : Type) (d1 d2 d3 : DataW H), s.fn H [d1, d2, d3] = { results := [.lit (.bool true)], args := [d1, d2, d3] }) (H : Type) (enc : TypeId × Value → H) (W : World) (base : Nat) (args : Array Value) (ds gs : List (DataW H)) (before : List MemPlace)
    (hval : ∀ (j : Nat) t v, Tryz.f5.params[j]? = some t → args[j]? = some v → Value.okWide Tryz.prog W .any base t v) (hW : DataW.Whole enc Tryz.prog Tryz.f5.params.toList s.vars false W args.toList ds gs before) :
    Calls Tryz.prog 5 args W fun e W' => ∃ v, e = .returned v ∧ s.post enc Tryz.prog Tryz.f5 false true false false W args v W' := by
  have hW' := hW
  obtain ⟨p, q, hA0, hV, rfl, hfz, hnd⟩ := hW
  have hA : DataW.TrodAll enc Tryz.prog W 0 (fun _ => true) true Tryz.f5.params.toList args.toList ds p := hA0
  rw [hvs] at hV
  rw [Tryz.params5] at hA hval
  obtain ⟨v0, v1, v2, d0, d1, d2, p0, p1, p2, rfl, rfl, rfl, h0, h1, h2⟩ := trodAll_three hA
  obtain ⟨rfl, rfl⟩ := trodVars_none hV
  obtain ⟨a1, rfl, rfl, rfl, w1⟩ := open_int Tryz.underlying5 (hval 1 5 v1 rfl rfl) h1
  obtain ⟨a2, rfl, rfl, rfl, w2⟩ := open_int Tryz.underlying5 (hval 2 5 v2 rfl rfl) h2
  obtain ⟨c1, rfl⟩ := u8_of w1
  obtain ⟨c2, rfl⟩ := u8_of w2
  obtain ⟨a0, len, cap, rfl⟩ := okWide_slice Tryz.underlying30 (hval 0 30 v0 rfl rfl)
  obtain ⟨fuel, hf⟩ := h0
  have key : ∀ {tn tc : Nat} {ta : Option Addr} {ss : LL}, Reads (hfOf W) 1 (.slice ta tn tc) tn (Sv ss) → ss.length = tn → (∀ l ∈ ss, l.length ≤ 9223372036854775807) →
      Calls Tryz.prog 5 #[.slice ta tn tc, .int .u8 c1.toNat, .int .u8 c2.toNat] W (Ret fun r w' => ∃ f', r = .bool true ∧ FLe (hfOf W) f' ∧ Sep W w' (pool f' :: [])) :=
    fun h1 h2 h3 => topmovers_s h1 h2 h3 (sep_start W)
  have hrd : ∀ t ∈ Tryz.f5.params.toList, Tryz.prog.readableRec t = true ∧ t < Tryz.prog.types.size := by
    rw [Tryz.params5]
    intro t ht
    have ht : t = 30 ∨ t = 5 := by simpa using ht
    rcases ht with rfl | rfl
    · exact ⟨by kernel_rfl, of_decide_eq_true (by kernel_rfl)⟩
    · exact ⟨by kernel_rfl, of_decide_eq_true (by kernel_rfl)⟩
  rcases open_strs Tryz.underlying30 Tryz.underlying9 (by kernel_rfl) hf with ⟨hcs, hx⟩ | ⟨a, len', cap', m, Sx, hcs, _, hl, hm, hmm, hx, hcell⟩
  · simp [Value.cells] at hcs
    obtain ⟨rfl, rfl, rfl⟩ := hcs
    refine (key (ss := []) reads_nil rfl (fun l hl => by cases hl)).mono ?_
    rintro e W' ⟨v, rfl, f', rfl, g1, g2⟩
    exact ⟨_, rfl, law_post (by kernel_rfl) hrd hvs Tryz.underlying4 rfl hW' (hfn _ _ _ _) g2 g1⟩
  · simp [Value.cells] at hcs
    obtain ⟨rfl, rfl, rfl⟩ := hcs
    refine (key (strs_reads hl Sx (fun i hi => (hcell i (by rw [hmm]; split <;> omega)).1)) (by simp) (fun l hl2 => ?_)).mono ?_
    · obtain ⟨i, hi, rfl⟩ := List.mem_map.1 hl2
      have := (hcell i (by have := List.mem_range.1 hi; rw [hmm]; split <;> omega)).2
      have h5 : (Sx i).data.toList.length = (Sx i).size := Array.length_toList
      have h6 : maxLen = 9223372036854775807 := by rfl
      rw [h5]; omega
    · rintro e W' ⟨v, rfl, f', rfl, g1, g2⟩
      exact ⟨_, rfl, law_post (by kernel_rfl) hrd hvs Tryz.underlying4 rfl hW' (hfn _ _ _ _) g2 g1⟩
end Go.Sl
namespace Go.Proofs.YthbppnnnegcphaaGreat.topMovers
open Go
theorem andT {a b : Bool} (ha : a = true) (hb : b = true) : (a && b) = true := by rw [ha, hb]; rfl
theorem closed_of {P : Program} {f : FuncId} {fn : Func} {s : ChangeSpec} {c : OpenClaim} (k0 : (c.wf (OpenSpec.ofChange s) : Bool) = true) (k1 : (laidOutB P : Bool) = true) (k2 : (mapsRowed P : Bool) = true) (k3 : (fn.params.all (P.readableRec ·) : Bool) = true) (k4 : (namedTie P c.named s.vars : Bool) = true) (k5 : ((c.stops == []) : Bool) = true) (k6 : ((P.stops == []) : Bool) = true) (k7 : ((c.knobs == []) : Bool) = true) (k8 : ((P.stopKnobs == []) : Bool) = true) (k9 : ((c.inPlace == P.inPlace f) : Bool) = true) (k10 : ((c.unfollowed == P.unfollowed f) : Bool) = true) (k11 : ((c.recurses == P.recurses f) : Bool) = true) (k12 : ((c.named == P.varsNamed f) : Bool) = true) (k13 : ((c.maps == (fn.params.toList ++ s.plain.varTypes P).any (P.mapsRec ·)) : Bool) = true) (k14 : ((c.ifaces == (fn.params.toList ++ s.plain.varTypes P).any (P.ifacesRec ·)) : Bool) = true) (k15 : ((c.mapsOut == P.mapsAmong fn.resultTypes.toList) : Bool) = true) (k16 : ((c.loops == (fn.params.toList ++ s.plain.varTypes P).any (P.loopsFrom ·)) : Bool) = true) (k17 : ((c.wideKeys == (fn.params.toList ++ s.plain.varTypes P ++ fn.resultTypes.toList).any (P.wideKeysFrom ·)) : Bool) = true) (k18 : (s.vars.all (P.varReadable ·) : Bool) = true) (k19 : (fn.resultTypes.all (fun t => P.readableRec t && decide (t < P.types.size)) : Bool) = true) (k20 : ((c.ifacesOut == fn.resultTypes.toList.any (P.ifacesRec ·)) : Bool) = true) (k21 : ((c.loopsOut == fn.resultTypes.toList.any (P.loopsFrom ·)) : Bool) = true) (k22 : ((c.plainKeys == P.plainKeys) : Bool) = true) (k23 : (c.shortTexts.isNone : Bool) = true) (k24 : (P.stopsHeard : Bool) = true) (k25 : (P.mayEnter : Bool) = true) (k26 : ((c.lifted == P.liftsFinal) : Bool) = true) (k27 : ((P.make == some c.make) : Bool) = true) (k28 : ((c.kinds == (if c.domain.isEmpty then [] else fn.params.toList.map fun t => match P.underlying t with | some (.int k) => some k | _ => none)) : Bool) = true) (k29 : ((c.pinned == c.pinnedBy) : Bool) = true) (k30 : ((c.veiled == (fn.params.toList ++ s.plain.varTypes P ++ fn.resultTypes.toList).any (P.veiledRec ·)) : Bool) = true) (k31 : (c.veiledFits P fn.params.toList (fn.params.toList ++ s.plain.varTypes P ++ fn.resultTypes.toList) : Bool) = true) : joinedFacts P f fn s c = true := (andT (andT (andT (andT (andT (andT (andT (andT (andT (andT (andT (andT (andT (andT (andT (andT (andT (andT (andT (andT (andT (andT (andT (andT (andT (andT (andT (andT (andT (andT (andT k0 k1) k2) k3) k4) k5) k6) k7) k8) k9) k10) k11) k12) k13) k14) k15) k16) k17) k18) k19) k20) k21) k22) k23) k24) k25) k26) k27) k28) k29) k30) k31)
theorem k0 : (Rows.topMoversRow.wf (OpenSpec.ofChange Rows.topMoversSpec) : Bool) = true := by kernel_rfl
theorem k1 : (laidOutB Tryz.prog : Bool) = true := by kernel_rfl
theorem k2 : (mapsRowed Tryz.prog : Bool) = true := by kernel_rfl
theorem k3 : (Tryz.f5.params.all (Tryz.prog.readableRec ·) : Bool) = true := by kernel_rfl
theorem k4 : (namedTie Tryz.prog Rows.topMoversRow.named Rows.topMoversSpec.vars : Bool) = true := by kernel_rfl
theorem k5 : ((Rows.topMoversRow.stops == []) : Bool) = true := by kernel_rfl
theorem k6 : ((Tryz.prog.stops == []) : Bool) = true := by kernel_rfl
theorem k7 : ((Rows.topMoversRow.knobs == []) : Bool) = true := by kernel_rfl
theorem k8 : ((Tryz.prog.stopKnobs == []) : Bool) = true := by kernel_rfl
theorem k9 : ((Rows.topMoversRow.inPlace == Tryz.prog.inPlace 5) : Bool) = true := by kernel_rfl
theorem k10 : ((Rows.topMoversRow.unfollowed == Tryz.prog.unfollowed 5) : Bool) = true := by kernel_rfl
theorem k11 : ((Rows.topMoversRow.recurses == Tryz.prog.recurses 5) : Bool) = true := by kernel_rfl
theorem k12 : ((Rows.topMoversRow.named == Tryz.prog.varsNamed 5) : Bool) = true := by kernel_rfl
theorem k13 : ((Rows.topMoversRow.maps == (Tryz.f5.params.toList ++ Rows.topMoversSpec.plain.varTypes Tryz.prog).any (Tryz.prog.mapsRec ·)) : Bool) = true := by kernel_rfl
theorem k14 : ((Rows.topMoversRow.ifaces == (Tryz.f5.params.toList ++ Rows.topMoversSpec.plain.varTypes Tryz.prog).any (Tryz.prog.ifacesRec ·)) : Bool) = true := by kernel_rfl
theorem k15 : ((Rows.topMoversRow.mapsOut == Tryz.prog.mapsAmong Tryz.f5.resultTypes.toList) : Bool) = true := by kernel_rfl
theorem k16 : ((Rows.topMoversRow.loops == (Tryz.f5.params.toList ++ Rows.topMoversSpec.plain.varTypes Tryz.prog).any (Tryz.prog.loopsFrom ·)) : Bool) = true := by kernel_rfl
theorem k17 : ((Rows.topMoversRow.wideKeys == (Tryz.f5.params.toList ++ Rows.topMoversSpec.plain.varTypes Tryz.prog ++ Tryz.f5.resultTypes.toList).any (Tryz.prog.wideKeysFrom ·)) : Bool) = true := by kernel_rfl
theorem k18 : (Rows.topMoversSpec.vars.all (Tryz.prog.varReadable ·) : Bool) = true := by kernel_rfl
theorem k19 : (Tryz.f5.resultTypes.all (fun t => Tryz.prog.readableRec t && decide (t < Tryz.prog.types.size)) : Bool) = true := by kernel_rfl
theorem k20 : ((Rows.topMoversRow.ifacesOut == Tryz.f5.resultTypes.toList.any (Tryz.prog.ifacesRec ·)) : Bool) = true := by kernel_rfl
theorem k21 : ((Rows.topMoversRow.loopsOut == Tryz.f5.resultTypes.toList.any (Tryz.prog.loopsFrom ·)) : Bool) = true := by kernel_rfl
theorem k22 : ((Rows.topMoversRow.plainKeys == Tryz.prog.plainKeys) : Bool) = true := by kernel_rfl
theorem k23 : (Rows.topMoversRow.shortTexts.isNone : Bool) = true := by kernel_rfl
theorem k24 : (Tryz.prog.stopsHeard : Bool) = true := by kernel_rfl
theorem k25 : (Tryz.prog.mayEnter : Bool) = true := by kernel_rfl
theorem k26 : ((Rows.topMoversRow.lifted == Tryz.prog.liftsFinal) : Bool) = true := by kernel_rfl
theorem k27 : ((Tryz.prog.make == some Rows.topMoversRow.make) : Bool) = true := by kernel_rfl
theorem k28 : ((Rows.topMoversRow.kinds == (if Rows.topMoversRow.domain.isEmpty then [] else Tryz.f5.params.toList.map fun t => match Tryz.prog.underlying t with | some (.int k) => some k | _ => none)) : Bool) = true := by kernel_rfl
theorem k29 : ((Rows.topMoversRow.pinned == Rows.topMoversRow.pinnedBy) : Bool) = true := by kernel_rfl
theorem k30 : ((Rows.topMoversRow.veiled == (Tryz.f5.params.toList ++ Rows.topMoversSpec.plain.varTypes Tryz.prog ++ Tryz.f5.resultTypes.toList).any (Tryz.prog.veiledRec ·)) : Bool) = true := by kernel_rfl
theorem k31 : (Rows.topMoversRow.veiledFits Tryz.prog Tryz.f5.params.toList (Tryz.f5.params.toList ++ Rows.topMoversSpec.plain.varTypes Tryz.prog ++ Tryz.f5.resultTypes.toList) : Bool) = true := by kernel_rfl
theorem closed : joinedFacts Tryz.prog 5 Tryz.f5 Rows.topMoversSpec Rows.topMoversRow = true := closed_of (P := Tryz.prog) (f := 5) (fn := Tryz.f5) (s := Rows.topMoversSpec) (c := Rows.topMoversRow) k0 k1 k2 k3 k4 k5 k6 k7 k8 k9 k10 k11 k12 k13 k14 k15 k16 k17 k18 k19 k20 k21 k22 k23 k24 k25 k26 k27 k28 k29 k30 k31
end Go.Proofs.YthbppnnnegcphaaGreat.topMovers
