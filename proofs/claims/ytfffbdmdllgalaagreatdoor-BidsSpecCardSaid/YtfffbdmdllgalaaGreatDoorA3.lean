/-
Part 3 of a proof: what the texts W7, W8, W9, S9, S10, W10, W11, S11, S12, W12, S13 show, of the model and of the program.
-/
import Derived.Test.YtfffbdmdllgalaaGreatDoorA2
set_option maxHeartbeats 1000000
namespace Go.Proofs.YtfffbdmdllgalaaGreatDoor
open Go Go.RowKit Go.Fz
set_option maxRecDepth 10000
theorem IC (l:aE) (w:World) (hL:LeagueAt w l):Calls Tryz.prog 198 #[.agg (aB l).toArray] w (eB (Bo (n9 l)) w):=by
 refine dX [.agg (aB l).toArray] Tryz.func198 rfl rfl rfl rfl fun _ s0=>?_
 have smx1:=hL.sm
 refine wp_seq<|aA<|lb s0 0 _ rfl rfl rfl rfl fun B1 a2 w3 s4=>zl s4 [1] [(1,Pt B1 0)] 1 1 qe fun _ w6 s7=>aR rfl<|aD<|wp_seq<|zs s7 [1,31] [(31,Bo (((((decide ((l.towns.length:Int)>64))||(decide ((l.depots.length:Int)>64)))||(decide ((l.grounds.length:Int)>64)))||(decide ((l.ways.length:Int)>256)))||(decide ((l.teams.length:Int)>64))))] (qo (fa w6 B1 0 oS)<|qo (s7.m.ld 22 0 1 A0 rfl rfl)<|qo (ln w6 3 l.townsA l.towns.length l.townsC zH)<|qo (fa w6 B1 0 iU)<|qo (s7.m.ld 24 0 3 qY rfl rfl)<|qo (ln w6 3 l.depotsA l.depots.length l.depotsC qZ)<|qo (fa w6 B1 0 gG)<|qo (s7.m.ld 25 0 4 n3 rfl rfl)<|qo (ln w6 3 l.groundsA l.grounds.length l.groundsC nV)<|qo (fa w6 B1 0 fS)<|qo (s7.m.ld 23 0 2 nS rfl rfl)<|qo (ln w6 3 l.waysA l.ways.length l.waysC nU)<|qo (fa w6 B1 0 dS)<|qo (s7.m.ld 26 0 5 kS rfl rfl)<|qo (ln w6 3 l.teamsA l.teams.length l.teamsC lL)<|qe) fun _ w9 s10=>cO s10.f rfl (fun h11=>?_) (fun h11=>?_)
 ·refine zs s10 [2] [(2,Bo false)] qe fun _ w13 s14=>aC<|aN (pR [Bo false] rfl s14 ⟨rfl,trivial⟩ ?_)
  exact aW s14 (congrArg Bo (iP h11 rfl).symm)
 refine wp_skip<|aD<|wp_seq<|zs s10 [1,59] [(59,Bo (((((decide ((l.windows.length:Int)>32))||(decide ((l.slots.length:Int)>16)))||(decide ((l.keys.length:Int)>5)))||(decide ((l.phases.length:Int)>8)))||(decide ((l.conds.length:Int)>128))))] (qo (fa w9 B1 0 lM)<|qo (s10.m.ld 27 0 6 wE rfl rfl)<|qo (ln w9 3 l.windowsA l.windows.length l.windowsC tN)<|qo (fa w9 B1 0 jC)<|qo (s10.m.ld 28 0 7 pX rfl rfl)<|qo (ln w9 3 l.slotsA l.slots.length l.slotsC oP)<|qo (fa w9 B1 0 jV)<|qo (s10.m.ld 30 0 12 jB rfl rfl)<|qo (ln w9 3 l.keysA l.keys.length l.keysC eX)<|qo (fa w9 B1 0 cG)<|qo (s10.m.ld 31 0 13 iE rfl rfl)<|qo (ln w9 3 l.phasesA l.phases.length l.phasesC g9)<|qo (fa w9 B1 0 eV)<|qo (s10.m.ld 32 0 14 o6 rfl rfl)<|qo (ln w9 3 l.condsA l.conds.length l.condsC oQ)<|qe) fun _ w16 s17=>cO s17.f rfl (fun h18=>?_) (fun h18=>?_)
 ·refine zs s17 [2] [(2,Bo false)] qe fun _ w20 s21=>aC<|aN (pR [Bo false] rfl s21 ⟨rfl,trivial⟩ ?_)
  exact aW s21 (congrArg Bo (iF h11 (iP h18 rfl)).symm)
 refine wp_skip<|aD<|wp_seq<|zs s17 [1,3] [(3,I 0)] qe fun _ w23 s24=>wp_block<|aO (α:=Nat) (fun k aI wI=>(k≤l.phases.length)∧(Sta 85 [] w [⟨1,[],Pt B1 0⟩,⟨3,[],I (k:Int)⟩] [cI B1 34 (aB l)] aI wI)∧(∀ i,i<k→∀ x,l.phases[i]?=some x→uQ x=true)) (fun k=>l.phases.length-k) 0 ⟨Nat.zero_le _,s24.keep [1,3] (by kernel_rfl),fun i h=>(Nat.not_lt_zero i h).elim⟩<|?_
 rintro k a27 w26 ⟨k_le,s25,inv_k⟩
 refine wp_seq<|zs s25 [1,3,64] [(64,Bo (decide ((k:Int)<(l.phases.length:Int))))] (qo (fa w26 B1 0 cG)<|qo (s25.m.ld 31 0 13 iE rfl rfl)<|qo (ln w26 3 l.phasesA l.phases.length l.phasesC g9)<|qe) fun _ w29 s30=>aQ s30.f rfl (fun h31=>?_) (fun h31=>?_)
 ·have k_lt:k<l.phases.length:=by omega
  obtain ⟨x,hx32⟩:=cD (xs:=l.phases) k_lt
  refine wp_skip<|aD<|wp_seq<|wp_block<|zs s30 [1,3,84] [(84,Bo ((decide ((x.teams.length:Int)>20))||(decide ((x.sizes.length:Int)>8))))] (qo (fa w29 B1 0 cG)<|qo (s30.m.ld 31 0 13 iE rfl rfl)<|qo ((hL.phases.up s30.m).ia l.phasesC k g9 eL (by omega))<|qo (jZ w29 l.phasesA (k*14) dR)<|qo ((hL.phases.up s30.m).ld 155 k 4 jT hx32 rfl)<|qo (ln w29 3 x.teamsA x.teams.length x.teamsC jU)<|qo (fa w29 B1 0 cG)<|qo (s30.m.ld 31 0 13 iE rfl rfl)<|qu (fun (g0:(decide ((x.teams.length:Int)>20))=false)=>(hL.phases.up s30.m).ia l.phasesC k g9 eL (by first | omega | (simp only [xV] at *; omega)))<|qo (jZ w29 l.phasesA (k*14) gH)<|qo ((hL.phases.up s30.m).ld 30 k 7 jB hx32 rfl)<|qo (ln w29 3 x.sizesA x.sizes.length x.sizesC eX)<|qe) fun _ w34 s35=>cO s35.f rfl (fun h36=>?_) (fun h36=>?_)
  ·refine zs s35 [2] [(2,Bo false)] qe fun _ w38 s39=>aC<|bP (aN (aN (bP (aN (pR [Bo false] rfl s39 ⟨rfl,trivial⟩ ?_)))))
   exact aW s39 (congrArg Bo (iF h11 (iF h18 (iF (bI hx32 (congrArg (!·) h36)) rfl))).symm)
  refine wp_skip<|c9 (aD ?_)
  refine dU s35 [1,3] [300] [] (qo (wr ((k:Int)+1) ((k+1:Nat):Int) (by omega))<|qe) fun _ w41 s42=>aD<|?_
  exact ⟨(k+1),⟨by omega,s42.keep [1,3] (by kernel_rfl),aM inv_k (fun y hy=>by rw [hx32] at hy; cases hy; exact (congrArg (!·) h36))⟩,by omega⟩
 have k_eq:k=l.phases.length:=by omega
 have A43:l.phases.all uQ=true:=cR (by rw [k_eq] at inv_k; exact inv_k)
 refine wp_exit<|aY (aY (cP (aD ?_)))
 refine zs s30 [2] [(2,Bo true)] qe fun _ w45 s46=>aC<|pR [Bo true] rfl s46 ⟨rfl,trivial⟩<|?_
 exact aW s46 (congrArg Bo (iF h11 (iF h18 (iP A43 rfl))).symm)
theorem qD (oa:Option Addr) (l:List ByteArray) (c:Nat) (w:World) (hl:Row w oa 1 aJ l):Calls Tryz.prog 176 #[.slice oa l.length c] w (eB (Bo (kR l)) w):=by
 refine dX [.slice oa l.length c] Tryz.func176 rfl rfl rfl rfl fun _ s0=>?_
 have sm0:=hl.small
 refine zs s0 [0] [(0,.slice oa l.length c)] qe fun _ w2 s3=>zs s3 [0,3] [(3,I 0)] qe fun _ w5 s6=>wp_seq<|zs s6 [0,3,4] [(4,I 0)] qe fun _ w8 s9=>wp_block<|aO (α:=Nat) (fun k aI wI=>(k≤l.length)∧(Sta 25 [] w [⟨0,[],.slice oa l.length c⟩,⟨3,[],I (l8 ((mX l).take k))⟩,⟨4,[],I (k:Int)⟩] [] aI wI)) (fun k=>l.length-k) 0 ⟨Nat.zero_le _,s9.kp⟩<|?_
 rintro k a12 w11 ⟨k_le,s10⟩
 refine wp_seq<|zs s10 [0,3,4,8] [(8,Bo (decide ((k:Int)<(l.length:Int))))] (qo (ln w11 3 oa l.length c kX)<|qe) fun _ w14 s15=>aQ s15.f rfl (fun h16=>?_) (fun h16=>?_)
 ·have k_lt:k<l.length:=by omega
  obtain ⟨x,hx17⟩:=cD (xs:=l) k_lt
  refine wp_skip<|aD<|wp_seq<|wp_block<|dU s15 [0,3,4] [303] [] (qo ((hl.up s15.m).ia c k kX A1 (by omega))<|qo ((hl.up s15.m).ld 9 k 0 qQ hx17 rfl)<|qo (V8 w14 3 x Tryz.underlying9)<|qo (rfl:Value.int .i64 (IntKind.i64.wrap (l8 ((mX l).take k)+(x.size:Int)))=I (IntKind.i64.wrap (l8 ((mX l).take k)+(x.size:Int))))<|qe) fun _ w19 s20=>c9 (aD ?_)
  refine dU s20 [0,3,4] [400] [] (qo (wr ((k:Int)+1) ((k+1:Nat):Int) (by omega))<|qe) fun _ w22 s23=>aD<|?_
  exact ⟨(k+1),⟨by omega,(s23.keep (E':=[⟨0,[],.slice oa l.length c⟩,⟨3,[],I (IntKind.i64.wrap (l8 ((mX l).take k)+(x.size:Int)))⟩,⟨4,[],I ((k+1:Nat):Int)⟩]) [0,3,4] (by kernel_rfl)).sp (by rw [v6 (H3 hx17)] <;> rfl)⟩,by omega⟩
 have k_eq:k=l.length:=by omega
 refine wp_exit<|aY (aY (cP (aD ?_)))
 refine zs s15 [2] [(2,Bo ((decide (l8 ((mX l).take k)≤6000))&&(decide ((l.length:Int)≤300))))] (qo (ln w14 3 oa l.length c kX)<|qe) fun _ w25 s26=>aC<|pR [Bo ((decide (l8 ((mX l).take k)≤6000))&&(decide ((l.length:Int)≤300)))] rfl s26 ⟨rfl,trivial⟩<|?_
 exact aW s26 (congrArg (fun x=>Bo ((decide (x≤6000))&&(decide ((l.length:Int)≤300)))) (H4 k_eq))
theorem GF (a:aX) (b:aX) (w:World) (hta:Row w a.teamsA 2 bN a.teams) (hza:Row w a.sizesA 1 iO a.sizes) (htb:Row w b.teamsA 2 bN b.teams) (hzb:Row w b.sizesA 1 iO b.sizes):Calls Tryz.prog 205 #[.agg (aK a).toArray,.agg (aK b).toArray] w (eB (Bo (jA a b)) w):=by
 refine dX [.agg (aK a).toArray,.agg (aK b).toArray] Tryz.func205 rfl rfl rfl rfl fun _ s0=>?_
 have sm0:=hta.small
 have sm1:=hza.small
 have sm2:=htb.small
 have sm3:=hzb.small
 refine wp_seq<|aA<|lb s0 0 _ rfl rfl rfl rfl fun B1 a2 w3 s4=>lb s4 1 _ rfl rfl rfl rfl fun B5 a6 w7 s8=>zl s8 [2,3] [(2,Pt B1 0),(3,Pt B5 0)] 2 1 qe fun _ w10 s11=>aR rfl<|aD<|wp_seq<|zs s11 [2,3,60] [(60,Bo ((((((((!(decide (a.name=b.name)))||(a.kind != b.kind))||(!(fE a.window b.window)))||(!(fE a.of b.of)))||(!(fE a.a b.a)))||(!(fE a.b b.b)))||(a.placeA != b.placeA))||(a.placeB != b.placeB)))] (qo (fa w10 B1 0 xZ)<|qo (s11.m.ld 9 1 0 qQ rfl rfl)<|qo (fa w10 B5 0 xZ)<|qo (s11.m.ld 9 0 0 qQ rfl rfl)<|qo (ND a.name b.name)<|qo (fa w10 B1 0 dM)<|qo (s11.m.ld 3 1 1 bM rfl rfl)<|qo (fa w10 B5 0 dM)<|qo (s11.m.ld 3 0 1 bM rfl rfl)<|qo (fa w10 B1 0 uU)<|qo (s11.m.lda 148 1 2 dK rfl rfl rfl)<|qo (fa w10 B5 0 uU)<|qo (s11.m.lda 148 0 2 dK rfl rfl rfl)<|qo (HM (P:=Tryz.prog) w10 (.tmp 21) (.tmp 23) (bN a.window) (bN b.window) (pF 10 (by decide)) (by decide) B6 rfl rfl)<|qo (fa w10 B1 0 oE)<|qo (s11.m.lda 148 1 5 dK rfl rfl rfl)<|qo (fa w10 B5 0 oE)<|qo (s11.m.lda 148 0 5 dK rfl rfl rfl)<|qo (HM (P:=Tryz.prog) w10 (.tmp 28) (.tmp 30) (bN a.of) (bN b.of) (pF 10 (by decide)) (by decide) B6 rfl rfl)<|qo (fa w10 B1 0 lN)<|qo (s11.m.lda 148 1 8 dK rfl rfl rfl)<|qo (fa w10 B5 0 lN)<|qo (s11.m.lda 148 0 8 dK rfl rfl rfl)<|qo (HM (P:=Tryz.prog) w10 (.tmp 35) (.tmp 37) (bN a.a) (bN b.a) (pF 10 (by decide)) (by decide) B6 rfl rfl)<|qo (fa w10 B1 0 lO)<|qo (s11.m.lda 148 1 10 dK rfl rfl rfl)<|qo (fa w10 B5 0 lO)<|qo (s11.m.lda 148 0 10 dK rfl rfl rfl)<|qo (HM (P:=Tryz.prog) w10 (.tmp 42) (.tmp 44) (bN a.b) (bN b.b) (pF 10 (by decide)) (by decide) B6 rfl rfl)<|qo (fa w10 B1 0 rZ)<|qo (s11.m.ld 3 1 12 bM rfl rfl)<|qo (fa w10 B5 0 rZ)<|qo (s11.m.ld 3 0 12 bM rfl rfl)<|qo (fa w10 B1 0 r5)<|qo (s11.m.ld 3 1 13 bM rfl rfl)<|qo (fa w10 B5 0 r5)<|qo (s11.m.ld 3 0 13 bM rfl rfl)<|qe) fun _ w13 s14=>cO s14.f rfl (fun h15=>?_) (fun h15=>?_)
 ·refine zs s14 [4] [(4,Bo false)] qe fun _ w17 s18=>aC<|aN (pR [Bo false] rfl s18 ⟨rfl,trivial⟩ ?_)
  exact aW s18 (congrArg Bo (iP h15 rfl).symm)
 refine wp_skip<|aD<|wp_seq<|zs s14 [2,3,76] [(76,Bo (((a.teams.length:Int) != (b.teams.length:Int))||((a.sizes.length:Int) != (b.sizes.length:Int))))] (qo (fa w13 B1 0 dR)<|qo (s14.m.ld 155 1 4 jT rfl rfl)<|qo (ln w13 3 a.teamsA a.teams.length a.teamsC jU)<|qo (fa w13 B5 0 dR)<|qo (s14.m.ld 155 0 4 jT rfl rfl)<|qo (ln w13 3 b.teamsA b.teams.length b.teamsC jU)<|qo (fa w13 B1 0 gH)<|qo (s14.m.ld 30 1 7 jB rfl rfl)<|qo (ln w13 3 a.sizesA a.sizes.length a.sizesC eX)<|qo (fa w13 B5 0 gH)<|qo (s14.m.ld 30 0 7 jB rfl rfl)<|qo (ln w13 3 b.sizesA b.sizes.length b.sizesC eX)<|qe) fun _ w20 s21=>cO s21.f rfl (fun h22=>?_) (fun h22=>?_)
 ·refine zs s21 [4] [(4,Bo false)] qe fun _ w24 s25=>aC<|aN (pR [Bo false] rfl s25 ⟨rfl,trivial⟩ ?_)
  exact aW s25 (congrArg Bo (iF h15 (iP h22 rfl)).symm)
 refine wp_skip<|aD<|wp_seq<|wp_seq<|?_
 have hlen:=h22
 simp only [Bool.or_eq_false_iff,bne_eq_false_iff_eq] at hlen
 refine zq s21 [2,3,5] [(5,I 0)] qe fun _ w27 s28=>aD<|wp_block<|aO (α:=Nat) (fun k aI wI=>(k≤a.teams.length)∧(Sta 113 [] w [⟨2,[],Pt B1 0⟩,⟨3,[],Pt B5 0⟩,⟨5,[],I (k:Int)⟩] [cI B5 157 (aK b),cI B1 157 (aK a)] aI wI)∧(∀ i,i<k→∀ x,(List.range a.teams.length)[i]?=some x→(fun i=>fE (a.teams.getD i hZ) (b.teams.getD i hZ)) x=true)) (fun k=>a.teams.length-k) 0 ⟨Nat.zero_le _,s28.keep [2,3,5] (by kernel_rfl),fun i h=>(Nat.not_lt_zero i h).elim⟩<|?_
 rintro k a31 w30 ⟨k_le,s29,inv_k⟩
 refine wp_seq<|zs s29 [2,3,5,81] [(81,Bo (decide ((k:Int)<(a.teams.length:Int))))] (qo (fa w30 B1 0 dR)<|qo (s29.m.ld 155 1 4 jT rfl rfl)<|qo (ln w30 3 a.teamsA a.teams.length a.teamsC jU)<|qe) fun _ w33 s34=>aQ s34.f rfl (fun h35=>?_) (fun h35=>?_)
 ·have k_lt:k<a.teams.length:=by omega
  have hx36:(List.range a.teams.length)[k]?=some k:=List.getElem?_range k_lt
  have hx37:a.teams[k]?=some (a.teams.getD k hZ):=bC (by omega)
  have hx38:b.teams[k]?=some (b.teams.getD k hZ):=bC (by omega)
  refine wp_skip<|aD<|wp_seq<|wp_block<|wp_seq<|HT s34 [2,3,5,94] [9408] [] MO (qo (fa w33 B1 0 dR)<|qo (s34.m.ld 155 1 4 jT rfl rfl)<|qo ((hta.up s34.m).ia a.teamsC k jU eD (by omega))<|qo ((hta.up s34.m).lda 148 k 0 dK hx37 rfl rfl)<|qo (fa w33 B5 0 dR)<|qo (s34.m.ld 155 0 4 jT rfl rfl)<|qo ((htb.up s34.m).ia b.teamsC k jU eD (by omega))<|qo ((htb.up s34.m).lda 148 k 0 dK hx38 rfl rfl)<|qo (HM (P:=Tryz.prog) w33 (.tmp 88) (.tmp 93) (bN (a.teams.getD k hZ)) (bN (b.teams.getD k hZ)) (pF 10 (by decide)) (by decide) B6 rfl rfl)<|qe) fun _ w40 s41=>aD<|bR s41.f rfl (fun h42=>?_) (fun h42=>?_)
  ·refine zs s41 [4] [(4,Bo false)] qe fun _ w44 s45=>aC<|bP (aN (aN (bP (aN (pR [Bo false] rfl s45 ⟨rfl,trivial⟩ ?_)))))
   exact aW s45 (congrArg Bo (iF h15 (iF h22 (iF (bI hx36 h42) rfl))).symm)
  refine wp_skip<|c9 (aD ?_)
  refine dU s41 [2,3,5] [500] [] (qo (wr ((k:Int)+1) ((k+1:Nat):Int) (by omega))<|qe) fun _ w47 s48=>aD<|?_
  exact ⟨(k+1),⟨by omega,s48.keep [2,3,5] (by kernel_rfl),aM inv_k (fun y hy=>by rw [hx36] at hy; cases hy; exact h42)⟩,by omega⟩
 have k_eq:k=a.teams.length:=by omega
 have A49:(List.range a.teams.length).all (fun i=>fE (a.teams.getD i hZ) (b.teams.getD i hZ))=true:=dG (by rw [k_eq] at inv_k; exact inv_k)
 refine wp_exit<|aY (aY (cP (aD ?_)))
 refine wp_seq<|zs s34 [2,3,6] [(6,I 0)] qe fun _ w51 s52=>wp_block<|aO (α:=Nat) (fun j aI wI=>(j≤a.sizes.length)∧(Sta 113 [] w [⟨2,[],Pt B1 0⟩,⟨3,[],Pt B5 0⟩,⟨6,[],I (j:Int)⟩] [cI B5 157 (aK b),cI B1 157 (aK a)] aI wI)∧(∀ i,i<j→∀ x,(List.range a.sizes.length)[i]?=some x→(fun i => !((a.sizes.getD i 0) != (b.sizes.getD i 0))) x=true)) (fun j=>a.sizes.length-j) 0 ⟨Nat.zero_le _,s52.keep [2,3,6] (by kernel_rfl),fun i h=>(Nat.not_lt_zero i h).elim⟩<|?_
 rintro j a55 w54 ⟨j_le,s53,inv_j⟩
 refine wp_seq<|zs s53 [2,3,6,99] [(99,Bo (decide ((j:Int)<(a.sizes.length:Int))))] (qo (fa w54 B1 0 gH)<|qo (s53.m.ld 30 1 7 jB rfl rfl)<|qo (ln w54 3 a.sizesA a.sizes.length a.sizesC eX)<|qe) fun _ w57 s58=>aQ s58.f rfl (fun h59=>?_) (fun h59=>?_)
 ·have j_lt:j<a.sizes.length:=by omega
  have hx60:(List.range a.sizes.length)[j]?=some j:=List.getElem?_range j_lt
  have hx61:a.sizes[j]?=some (a.sizes.getD j 0):=bC (by omega)
  have hx62:b.sizes[j]?=some (b.sizes.getD j 0):=bC (by omega)
  refine wp_skip<|aD<|wp_seq<|wp_block<|wp_seq<|zr s58 [2,3,6,112] [(112,Bo ((a.sizes.getD j 0) != (b.sizes.getD j 0)))] MO (qo (fa w57 B1 0 gH)<|qo (s58.m.ld 30 1 7 jB rfl rfl)<|qo ((hza.up s58.m).ia a.sizesC j eX hP (by omega))<|qo ((hza.up s58.m).ld 3 j 0 bM hx61 rfl)<|qo (fa w57 B5 0 gH)<|qo (s58.m.ld 30 0 7 jB rfl rfl)<|qo ((hzb.up s58.m).ia b.sizesC j eX hP (by omega))<|qo ((hzb.up s58.m).ld 3 j 0 bM hx62 rfl)<|qe) fun _ w64 s65=>aD<|jQ s65.f rfl (fun h66=>?_) (fun h66=>?_)
  ·refine zs s65 [4] [(4,Bo false)] qe fun _ w68 s69=>aC<|bP (aN (aN (bP (aN (pR [Bo false] rfl s69 ⟨rfl,trivial⟩ ?_)))))
   exact aW s69 (congrArg Bo (iF h15 (iF h22 (iP A49 (iF (bI hx60 (congrArg (!·) (bne_iff_ne.2 h66))) rfl)))).symm)
  refine wp_skip<|c9 (aD ?_)
  refine dU s65 [2,3,6] [600] [] (qo (wr ((j:Int)+1) ((j+1:Nat):Int) (by omega))<|qe) fun _ w71 s72=>aD<|?_
  exact ⟨(j+1),⟨by omega,s72.keep [2,3,6] (by kernel_rfl),aM inv_j (fun y hy=>by rw [hx60] at hy; cases hy; exact (congrArg (!·) (bne_eq_false_iff_eq.2 h66)))⟩,by omega⟩
 have j_eq:j=a.sizes.length:=by omega
 have A73:(List.range a.sizes.length).all (fun i => !((a.sizes.getD i 0) != (b.sizes.getD i 0)))=true:=dG (by rw [j_eq] at inv_j; exact inv_j)
 refine wp_exit<|aY (aY (cP (aD ?_)))
 refine zs s58 [4] [(4,Bo true)] qe fun _ w75 s76=>aC<|pR [Bo true] rfl s76 ⟨rfl,trivial⟩<|?_
 exact aW s76 (congrArg Bo (iF h15 (iF h22 (iP A49 (iP A73 rfl)))).symm)
theorem XB (a:aE) (b:aE) (w:World) (hA:LeagueAt w a) (hB:LeagueAt w b):Calls Tryz.prog 161 #[.agg (aB a).toArray,.agg (aB b).toArray] w (eB (Bo (o4 a b)) w):=by
 refine dX [.agg (aB a).toArray,.agg (aB b).toArray] Tryz.func161 rfl rfl rfl rfl fun _ s0=>?_
 have smx1:=hA.sm
 have smx2:=hB.sm
 refine wp_seq<|aA<|lb s0 0 _ rfl rfl rfl rfl fun B1 a2 w3 s4=>lb s4 1 _ rfl rfl rfl rfl fun B5 a6 w7 s8=>zl s8 [2,3] [(2,Pt B1 0),(3,Pt B5 0)] 2 1 qe fun _ w10 s11=>aR rfl<|aD<|wp_seq<|zs s11 [2,3,65] [(65,Bo ((((((!(decide (a.name=b.name)))||((a.towns.length:Int) != (b.towns.length:Int)))||((a.ways.length:Int) != (b.ways.length:Int)))||((a.depots.length:Int) != (b.depots.length:Int)))||((a.grounds.length:Int) != (b.grounds.length:Int)))||((a.teams.length:Int) != (b.teams.length:Int))))] (qo (fa w10 B1 0 zI)<|qo (s11.m.ld 9 1 0 qQ rfl rfl)<|qo (fa w10 B5 0 zI)<|qo (s11.m.ld 9 0 0 qQ rfl rfl)<|qo (ND a.name b.name)<|qo (fa w10 B1 0 oS)<|qo (s11.m.ld 22 1 1 A0 rfl rfl)<|qo (ln w10 3 a.townsA a.towns.length a.townsC zH)<|qo (fa w10 B5 0 oS)<|qo (s11.m.ld 22 0 1 A0 rfl rfl)<|qo (ln w10 3 b.townsA b.towns.length b.townsC zH)<|qo (fa w10 B1 0 fS)<|qo (s11.m.ld 23 1 2 nS rfl rfl)<|qo (ln w10 3 a.waysA a.ways.length a.waysC nU)<|qo (fa w10 B5 0 fS)<|qo (s11.m.ld 23 0 2 nS rfl rfl)<|qo (ln w10 3 b.waysA b.ways.length b.waysC nU)<|qo (fa w10 B1 0 iU)<|qo (s11.m.ld 24 1 3 qY rfl rfl)<|qo (ln w10 3 a.depotsA a.depots.length a.depotsC qZ)<|qo (fa w10 B5 0 iU)<|qo (s11.m.ld 24 0 3 qY rfl rfl)<|qo (ln w10 3 b.depotsA b.depots.length b.depotsC qZ)<|qo (fa w10 B1 0 gG)<|qo (s11.m.ld 25 1 4 n3 rfl rfl)<|qo (ln w10 3 a.groundsA a.grounds.length a.groundsC nV)<|qo (fa w10 B5 0 gG)<|qo (s11.m.ld 25 0 4 n3 rfl rfl)<|qo (ln w10 3 b.groundsA b.grounds.length b.groundsC nV)<|qo (fa w10 B1 0 dS)<|qo (s11.m.ld 26 1 5 kS rfl rfl)<|qo (ln w10 3 a.teamsA a.teams.length a.teamsC lL)<|qo (fa w10 B5 0 dS)<|qo (s11.m.ld 26 0 5 kS rfl rfl)<|qo (ln w10 3 b.teamsA b.teams.length b.teamsC lL)<|qe) fun _ w13 s14=>cO s14.f rfl (fun h15=>?_) (fun h15=>?_)
 ·refine zs s14 [4] [(4,Bo false)] qe fun _ w17 s18=>aC<|aN (pR [Bo false] rfl s18 ⟨rfl,trivial⟩ ?_)
  exact aW s18 (congrArg Bo (iP h15 rfl).symm)
 refine wp_skip<|aD<|wp_seq<|zs s14 [2,3,122] [(122,Bo ((((((((a.windows.length:Int) != (b.windows.length:Int))||((a.slots.length:Int) != (b.slots.length:Int)))||(a.pool != b.pool))||(!(rF a.points b.points)))||((a.keys.length:Int) != (b.keys.length:Int)))||((a.phases.length:Int) != (b.phases.length:Int)))||((a.conds.length:Int) != (b.conds.length:Int))))] (qo (fa w13 B1 0 lM)<|qo (s14.m.ld 27 1 6 wE rfl rfl)<|qo (ln w13 3 a.windowsA a.windows.length a.windowsC tN)<|qo (fa w13 B5 0 lM)<|qo (s14.m.ld 27 0 6 wE rfl rfl)<|qo (ln w13 3 b.windowsA b.windows.length b.windowsC tN)<|qo (fa w13 B1 0 jC)<|qo (s14.m.ld 28 1 7 pX rfl rfl)<|qo (ln w13 3 a.slotsA a.slots.length a.slotsC oP)<|qo (fa w13 B5 0 jC)<|qo (s14.m.ld 28 0 7 pX rfl rfl)<|qo (ln w13 3 b.slotsA b.slots.length b.slotsC oP)<|qo (fa w13 B1 0 DH)<|qo (s14.m.ld 3 1 8 bM rfl rfl)<|qo (fa w13 B5 0 DH)<|qo (s14.m.ld 3 0 8 bM rfl rfl)<|qo (fa w13 B1 0 wF)<|qo (s14.m.lda 29 1 9 WW rfl rfl rfl)<|qo (fa w13 B5 0 wF)<|qo (s14.m.lda 29 0 9 WW rfl rfl rfl)<|qo (HM (P:=Tryz.prog) w13 (.tmp 91) (.tmp 93) (lY a.points) (lY b.points) (afM 10 (by decide)) (by decide) afN rfl rfl)<|qo (fa w13 B1 0 jV)<|qo (s14.m.ld 30 1 12 jB rfl rfl)<|qo (ln w13 3 a.keysA a.keys.length a.keysC eX)<|qo (fa w13 B5 0 jV)<|qo (s14.m.ld 30 0 12 jB rfl rfl)<|qo (ln w13 3 b.keysA b.keys.length b.keysC eX)<|qo (fa w13 B1 0 cG)<|qo (s14.m.ld 31 1 13 iE rfl rfl)<|qo (ln w13 3 a.phasesA a.phases.length a.phasesC g9)<|qo (fa w13 B5 0 cG)<|qo (s14.m.ld 31 0 13 iE rfl rfl)<|qo (ln w13 3 b.phasesA b.phases.length b.phasesC g9)<|qo (fa w13 B1 0 eV)<|qo (s14.m.ld 32 1 14 o6 rfl rfl)<|qo (ln w13 3 a.condsA a.conds.length a.condsC oQ)<|qo (fa w13 B5 0 eV)<|qo (s14.m.ld 32 0 14 o6 rfl rfl)<|qo (ln w13 3 b.condsA b.conds.length b.condsC oQ)<|qe) fun _ w20 s21=>cO s21.f rfl (fun h22=>?_) (fun h22=>?_)
 ·refine zs s21 [4] [(4,Bo false)] qe fun _ w24 s25=>aC<|aN (pR [Bo false] rfl s25 ⟨rfl,trivial⟩ ?_)
  exact aW s25 (congrArg Bo (iF h15 (iP h22 rfl)).symm)
 refine wp_skip<|aD<|wp_seq<|wp_seq<|?_
 have hlen1:=h15
 have hlen2:=h22
 simp only [Bool.or_eq_false_iff,bne_eq_false_iff_eq] at hlen1
 simp only [Bool.or_eq_false_iff,bne_eq_false_iff_eq] at hlen2
 refine zq s21 [2,3,5] [(5,I 0)] qe fun _ w27 s28=>aD<|wp_block<|aO (α:=Nat) (fun k0 aI wI=>(k0≤a.towns.length)∧(Sta 305 [] w [⟨2,[],Pt B1 0⟩,⟨3,[],Pt B5 0⟩,⟨5,[],I (k0:Int)⟩] [cI B5 34 (aB b),cI B1 34 (aB a)] aI wI)∧(∀ i,i<k0→∀ x,(List.range a.towns.length)[i]?=some x→(fun i=>tJ (a.towns.getD i lZ) (b.towns.getD i lZ)) x=true)) (fun k0=>a.towns.length-k0) 0 ⟨Nat.zero_le _,s28.keep [2,3,5] (by kernel_rfl),fun i h=>(Nat.not_lt_zero i h).elim⟩<|?_
 rintro k0 a31 w30 ⟨k0_le,s29,inv_k0⟩
 refine wp_seq<|zs s29 [2,3,5,127] [(127,Bo (decide ((k0:Int)<(a.towns.length:Int))))] (qo (fa w30 B1 0 oS)<|qo (s29.m.ld 22 1 1 A0 rfl rfl)<|qo (ln w30 3 a.townsA a.towns.length a.townsC zH)<|qe) fun _ w33 s34=>aQ s34.f rfl (fun h35=>?_) (fun h35=>?_)
 ·have k0_lt:k0<a.towns.length:=by omega
  have hx36:(List.range a.towns.length)[k0]?=some k0:=List.getElem?_range k0_lt
  have hx37:a.towns[k0]?=some (a.towns.getD k0 lZ):=bC (by omega)
  have hx38:b.towns[k0]?=some (b.towns.getD k0 lZ):=bC (by omega)
  refine wp_skip<|aD<|wp_seq<|wp_block<|wp_seq<|HT s34 [2,3,5,140] [14008] [] MO (qo (fa w33 B1 0 oS)<|qo (s34.m.ld 22 1 1 A0 rfl rfl)<|qo ((hA.towns.up s34.m).ia a.townsC k0 zH zE (by omega))<|qo ((hA.towns.up s34.m).lda 150 k0 0 JI hx37 rfl rfl)<|qo (fa w33 B5 0 oS)<|qo (s34.m.ld 22 0 1 A0 rfl rfl)<|qo ((hB.towns.up s34.m).ia b.townsC k0 zH zE (by omega))<|qo ((hB.towns.up s34.m).lda 150 k0 0 JI hx38 rfl rfl)<|qo (HM (P:=Tryz.prog) w33 (.tmp 134) (.tmp 139) (gY (a.towns.getD k0 lZ)) (gY (b.towns.getD k0 lZ)) (acC 10 (by decide)) (by decide) acL rfl rfl)<|qe) fun _ w40 s41=>aD<|bR s41.f rfl (fun h42=>?_) (fun h42=>?_)
  ·refine zs s41 [4] [(4,Bo false)] qe fun _ w44 s45=>aC<|bP (aN (aN (bP (aN (pR [Bo false] rfl s45 ⟨rfl,trivial⟩ ?_)))))
   exact aW s45 (congrArg Bo (iF h15 (iF h22 (iF (bI hx36 h42) rfl))).symm)
  refine wp_skip<|c9 (aD ?_)
  refine dU s41 [2,3,5] [500] [] (qo (wr ((k0:Int)+1) ((k0+1:Nat):Int) (by omega))<|qe) fun _ w47 s48=>aD<|?_
  exact ⟨(k0+1),⟨by omega,s48.keep [2,3,5] (by kernel_rfl),aM inv_k0 (fun y hy=>by rw [hx36] at hy; cases hy; exact h42)⟩,by omega⟩
 have k0_eq:k0=a.towns.length:=by omega
 have A49:(List.range a.towns.length).all (fun i=>tJ (a.towns.getD i lZ) (b.towns.getD i lZ))=true:=dG (by rw [k0_eq] at inv_k0; exact inv_k0)
 refine wp_exit<|aY (aY (cP (aD ?_)))
 refine wp_seq<|zs s34 [2,3,6] [(6,I 0)] qe fun _ w51 s52=>wp_block<|aO (α:=Nat) (fun k1 aI wI=>(k1≤a.ways.length)∧(Sta 305 [] w [⟨2,[],Pt B1 0⟩,⟨3,[],Pt B5 0⟩,⟨6,[],I (k1:Int)⟩] [cI B5 34 (aB b),cI B1 34 (aB a)] aI wI)∧(∀ i,i<k1→∀ x,(List.range a.ways.length)[i]?=some x→(fun i=>uN (a.ways.getD i o0) (b.ways.getD i o0)) x=true)) (fun k1=>a.ways.length-k1) 0 ⟨Nat.zero_le _,s52.keep [2,3,6] (by kernel_rfl),fun i h=>(Nat.not_lt_zero i h).elim⟩<|?_
 rintro k1 a55 w54 ⟨k1_le,s53,inv_k1⟩
 refine wp_seq<|zs s53 [2,3,6,145] [(145,Bo (decide ((k1:Int)<(a.ways.length:Int))))] (qo (fa w54 B1 0 fS)<|qo (s53.m.ld 23 1 2 nS rfl rfl)<|qo (ln w54 3 a.waysA a.ways.length a.waysC nU)<|qe) fun _ w57 s58=>aQ s58.f rfl (fun h59=>?_) (fun h59=>?_)
 ·have k1_lt:k1<a.ways.length:=by omega
  have hx60:(List.range a.ways.length)[k1]?=some k1:=List.getElem?_range k1_lt
  have hx61:a.ways[k1]?=some (a.ways.getD k1 o0):=bC (by omega)
  have hx62:b.ways[k1]?=some (b.ways.getD k1 o0):=bC (by omega)
  refine wp_skip<|aD<|wp_seq<|wp_block<|wp_seq<|HT s58 [2,3,6,158] [15808] [] MO (qo (fa w57 B1 0 fS)<|qo (s58.m.ld 23 1 2 nS rfl rfl)<|qo ((hA.ways.up s58.m).ia a.waysC k1 nU nT (by omega))<|qo ((hA.ways.up s58.m).lda 205 k1 0 N9 hx61 rfl rfl)<|qo (fa w57 B5 0 fS)<|qo (s58.m.ld 23 0 2 nS rfl rfl)<|qo ((hB.ways.up s58.m).ia b.waysC k1 nU nT (by omega))<|qo ((hB.ways.up s58.m).lda 205 k1 0 N9 hx62 rfl rfl)<|qo (HM (P:=Tryz.prog) w57 (.tmp 152) (.tmp 157) (cY (a.ways.getD k1 o0)) (cY (b.ways.getD k1 o0)) (acI 10 (by decide)) (by decide) acR rfl rfl)<|qe) fun _ w64 s65=>aD<|bR s65.f rfl (fun h66=>?_) (fun h66=>?_)
  ·refine zs s65 [4] [(4,Bo false)] qe fun _ w68 s69=>aC<|bP (aN (aN (bP (aN (pR [Bo false] rfl s69 ⟨rfl,trivial⟩ ?_)))))
   exact aW s69 (congrArg Bo (iF h15 (iF h22 (iP A49 (iF (bI hx60 h66) rfl)))).symm)
  refine wp_skip<|c9 (aD ?_)
  refine dU s65 [2,3,6] [600] [] (qo (wr ((k1:Int)+1) ((k1+1:Nat):Int) (by omega))<|qe) fun _ w71 s72=>aD<|?_
  exact ⟨(k1+1),⟨by omega,s72.keep [2,3,6] (by kernel_rfl),aM inv_k1 (fun y hy=>by rw [hx60] at hy; cases hy; exact h66)⟩,by omega⟩
 have k1_eq:k1=a.ways.length:=by omega
 have A73:(List.range a.ways.length).all (fun i=>uN (a.ways.getD i o0) (b.ways.getD i o0))=true:=dG (by rw [k1_eq] at inv_k1; exact inv_k1)
 refine wp_exit<|aY (aY (cP (aD ?_)))
 refine wp_seq<|zs s58 [2,3,7] [(7,I 0)] qe fun _ w75 s76=>wp_block<|aO (α:=Nat) (fun k2 aI wI=>(k2≤a.depots.length)∧(Sta 305 [] w [⟨2,[],Pt B1 0⟩,⟨3,[],Pt B5 0⟩,⟨7,[],I (k2:Int)⟩] [cI B5 34 (aB b),cI B1 34 (aB a)] aI wI)∧(∀ i,i<k2→∀ x,(List.range a.depots.length)[i]?=some x→(fun i=>m8 (a.depots.getD i j6) (b.depots.getD i j6)) x=true)) (fun k2=>a.depots.length-k2) 0 ⟨Nat.zero_le _,s76.keep [2,3,7] (by kernel_rfl),fun i h=>(Nat.not_lt_zero i h).elim⟩<|?_
 rintro k2 a79 w78 ⟨k2_le,s77,inv_k2⟩
 refine wp_seq<|zs s77 [2,3,7,163] [(163,Bo (decide ((k2:Int)<(a.depots.length:Int))))] (qo (fa w78 B1 0 iU)<|qo (s77.m.ld 24 1 3 qY rfl rfl)<|qo (ln w78 3 a.depotsA a.depots.length a.depotsC qZ)<|qe) fun _ w81 s82=>aQ s82.f rfl (fun h83=>?_) (fun h83=>?_)
 ·have k2_lt:k2<a.depots.length:=by omega
  have hx84:(List.range a.depots.length)[k2]?=some k2:=List.getElem?_range k2_lt
  have hx85:a.depots[k2]?=some (a.depots.getD k2 j6):=bC (by omega)
  have hx86:b.depots[k2]?=some (b.depots.getD k2 j6):=bC (by omega)
  refine wp_skip<|aD<|wp_seq<|wp_block<|wp_seq<|HT s82 [2,3,7,176] [17608] [] MO (qo (fa w81 B1 0 iU)<|qo (s82.m.ld 24 1 3 qY rfl rfl)<|qo ((hA.depots.up s82.m).ia a.depotsC k2 qZ sT (by omega))<|qo ((hA.depots.up s82.m).lda 207 k2 0 OA hx85 rfl rfl)<|qo (fa w81 B5 0 iU)<|qo (s82.m.ld 24 0 3 qY rfl rfl)<|qo ((hB.depots.up s82.m).ia b.depotsC k2 qZ sT (by omega))<|qo ((hB.depots.up s82.m).lda 207 k2 0 OA hx86 rfl rfl)<|qo (HM (P:=Tryz.prog) w81 (.tmp 170) (.tmp 175) (bY (a.depots.getD k2 j6)) (bY (b.depots.getD k2 j6)) (acJ 10 (by decide)) (by decide) acS rfl rfl)<|qe) fun _ w88 s89=>aD<|bR s89.f rfl (fun h90=>?_) (fun h90=>?_)
  ·refine zs s89 [4] [(4,Bo false)] qe fun _ w92 s93=>aC<|bP (aN (aN (bP (aN (pR [Bo false] rfl s93 ⟨rfl,trivial⟩ ?_)))))
   exact aW s93 (congrArg Bo (iF h15 (iF h22 (iP A49 (iP A73 (iF (bI hx84 h90) rfl))))).symm)
  refine wp_skip<|c9 (aD ?_)
  refine dU s89 [2,3,7] [700] [] (qo (wr ((k2:Int)+1) ((k2+1:Nat):Int) (by omega))<|qe) fun _ w95 s96=>aD<|?_
  exact ⟨(k2+1),⟨by omega,s96.keep [2,3,7] (by kernel_rfl),aM inv_k2 (fun y hy=>by rw [hx84] at hy; cases hy; exact h90)⟩,by omega⟩
 have k2_eq:k2=a.depots.length:=by omega
 have A97:(List.range a.depots.length).all (fun i=>m8 (a.depots.getD i j6) (b.depots.getD i j6))=true:=dG (by rw [k2_eq] at inv_k2; exact inv_k2)
 refine wp_exit<|aY (aY (cP (aD ?_)))
 refine wp_seq<|zs s82 [2,3,8] [(8,I 0)] qe fun _ w99 s100=>wp_block<|aO (α:=Nat) (fun k3 aI wI=>(k3≤a.grounds.length)∧(Sta 305 [] w [⟨2,[],Pt B1 0⟩,⟨3,[],Pt B5 0⟩,⟨8,[],I (k3:Int)⟩] [cI B5 34 (aB b),cI B1 34 (aB a)] aI wI)∧(∀ i,i<k3→∀ x,(List.range a.grounds.length)[i]?=some x→(fun i=>lI (a.grounds.getD i iQ) (b.grounds.getD i iQ)) x=true)) (fun k3=>a.grounds.length-k3) 0 ⟨Nat.zero_le _,s100.keep [2,3,8] (by kernel_rfl),fun i h=>(Nat.not_lt_zero i h).elim⟩<|?_
 rintro k3 a103 w102 ⟨k3_le,s101,inv_k3⟩
 refine wp_seq<|zs s101 [2,3,8,181] [(181,Bo (decide ((k3:Int)<(a.grounds.length:Int))))] (qo (fa w102 B1 0 gG)<|qo (s101.m.ld 25 1 4 n3 rfl rfl)<|qo (ln w102 3 a.groundsA a.grounds.length a.groundsC nV)<|qe) fun _ w105 s106=>aQ s106.f rfl (fun h107=>?_) (fun h107=>?_)
 ·have k3_lt:k3<a.grounds.length:=by omega
  have hx108:(List.range a.grounds.length)[k3]?=some k3:=List.getElem?_range k3_lt
  have hx109:a.grounds[k3]?=some (a.grounds.getD k3 iQ):=bC (by omega)
  have hx110:b.grounds[k3]?=some (b.grounds.getD k3 iQ):=bC (by omega)
  refine wp_skip<|aD<|wp_seq<|wp_block<|wp_seq<|HT s106 [2,3,8,194] [19408] [] MO (qo (fa w105 B1 0 gG)<|qo (s106.m.ld 25 1 4 n3 rfl rfl)<|qo ((hA.grounds.up s106.m).ia a.groundsC k3 nV oB (by omega))<|qo ((hA.grounds.up s106.m).lda 152 k3 0 BY hx109 rfl rfl)<|qo (fa w105 B5 0 gG)<|qo (s106.m.ld 25 0 4 n3 rfl rfl)<|qo ((hB.grounds.up s106.m).ia b.groundsC k3 nV oB (by omega))<|qo ((hB.grounds.up s106.m).lda 152 k3 0 BY hx110 rfl rfl)<|qo (HM (P:=Tryz.prog) w105 (.tmp 188) (.tmp 193) (bG (a.grounds.getD k3 iQ)) (bG (b.grounds.getD k3 iQ)) (acD 10 (by decide)) (by decide) acM rfl rfl)<|qe) fun _ w112 s113=>aD<|bR s113.f rfl (fun h114=>?_) (fun h114=>?_)
  ·refine zs s113 [4] [(4,Bo false)] qe fun _ w116 s117=>aC<|bP (aN (aN (bP (aN (pR [Bo false] rfl s117 ⟨rfl,trivial⟩ ?_)))))
   exact aW s117 (congrArg Bo (iF h15 (iF h22 (iP A49 (iP A73 (iP A97 (iF (bI hx108 h114) rfl)))))).symm)
  refine wp_skip<|c9 (aD ?_)
  refine dU s113 [2,3,8] [800] [] (qo (wr ((k3:Int)+1) ((k3+1:Nat):Int) (by omega))<|qe) fun _ w119 s120=>aD<|?_
  exact ⟨(k3+1),⟨by omega,s120.keep [2,3,8] (by kernel_rfl),aM inv_k3 (fun y hy=>by rw [hx108] at hy; cases hy; exact h114)⟩,by omega⟩
 have k3_eq:k3=a.grounds.length:=by omega
 have A121:(List.range a.grounds.length).all (fun i=>lI (a.grounds.getD i iQ) (b.grounds.getD i iQ))=true:=dG (by rw [k3_eq] at inv_k3; exact inv_k3)
 refine wp_exit<|aY (aY (cP (aD ?_)))
 refine wp_seq<|zs s106 [2,3,9] [(9,I 0)] qe fun _ w123 s124=>wp_block<|aO (α:=Nat) (fun k4 aI wI=>(k4≤a.teams.length)∧(Sta 305 [] w [⟨2,[],Pt B1 0⟩,⟨3,[],Pt B5 0⟩,⟨9,[],I (k4:Int)⟩] [cI B5 34 (aB b),cI B1 34 (aB a)] aI wI)∧(∀ i,i<k4→∀ x,(List.range a.teams.length)[i]?=some x→(fun i=>pU (a.teams.getD i l0) (b.teams.getD i l0)) x=true)) (fun k4=>a.teams.length-k4) 0 ⟨Nat.zero_le _,s124.keep [2,3,9] (by kernel_rfl),fun i h=>(Nat.not_lt_zero i h).elim⟩<|?_
 rintro k4 a127 w126 ⟨k4_le,s125,inv_k4⟩
 refine wp_seq<|zs s125 [2,3,9,199] [(199,Bo (decide ((k4:Int)<(a.teams.length:Int))))] (qo (fa w126 B1 0 dS)<|qo (s125.m.ld 26 1 5 kS rfl rfl)<|qo (ln w126 3 a.teamsA a.teams.length a.teamsC lL)<|qe) fun _ w129 s130=>aQ s130.f rfl (fun h131=>?_) (fun h131=>?_)
 ·have k4_lt:k4<a.teams.length:=by omega
  have hx132:(List.range a.teams.length)[k4]?=some k4:=List.getElem?_range k4_lt
  have hx133:a.teams[k4]?=some (a.teams.getD k4 l0):=bC (by omega)
  have hx134:b.teams[k4]?=some (b.teams.getD k4 l0):=bC (by omega)
  refine wp_skip<|aD<|wp_seq<|wp_block<|wp_seq<|HT s130 [2,3,9,212] [21208] [] MO (qo (fa w129 B1 0 dS)<|qo (s130.m.ld 26 1 5 kS rfl rfl)<|qo ((hA.teams.up s130.m).ia a.teamsC k4 lL o9 (by omega))<|qo ((hA.teams.up s130.m).lda 160 k4 0 F7 hx133 rfl rfl)<|qo (fa w129 B5 0 dS)<|qo (s130.m.ld 26 0 5 kS rfl rfl)<|qo ((hB.teams.up s130.m).ia b.teamsC k4 lL o9 (by omega))<|qo ((hB.teams.up s130.m).lda 160 k4 0 F7 hx134 rfl rfl)<|qo (HM (P:=Tryz.prog) w129 (.tmp 206) (.tmp 211) (bU (a.teams.getD k4 l0)) (bU (b.teams.getD k4 l0)) (acF 10 (by decide)) (by decide) acO rfl rfl)<|qe) fun _ w136 s137=>aD<|bR s137.f rfl (fun h138=>?_) (fun h138=>?_)
  ·refine zs s137 [4] [(4,Bo false)] qe fun _ w140 s141=>aC<|bP (aN (aN (bP (aN (pR [Bo false] rfl s141 ⟨rfl,trivial⟩ ?_)))))
   exact aW s141 (congrArg Bo (iF h15 (iF h22 (iP A49 (iP A73 (iP A97 (iP A121 (iF (bI hx132 h138) rfl))))))).symm)
  refine wp_skip<|c9 (aD ?_)
  refine dU s137 [2,3,9] [900] [] (qo (wr ((k4:Int)+1) ((k4+1:Nat):Int) (by omega))<|qe) fun _ w143 s144=>aD<|?_
  exact ⟨(k4+1),⟨by omega,s144.keep [2,3,9] (by kernel_rfl),aM inv_k4 (fun y hy=>by rw [hx132] at hy; cases hy; exact h138)⟩,by omega⟩
 have k4_eq:k4=a.teams.length:=by omega
 have A145:(List.range a.teams.length).all (fun i=>pU (a.teams.getD i l0) (b.teams.getD i l0))=true:=dG (by rw [k4_eq] at inv_k4; exact inv_k4)
 refine wp_exit<|aY (aY (cP (aD ?_)))
 refine wp_seq<|zs s130 [2,3,10] [(10,I 0)] qe fun _ w147 s148=>wp_block<|aO (α:=Nat) (fun k5 aI wI=>(k5≤a.windows.length)∧(Sta 305 [] w [⟨2,[],Pt B1 0⟩,⟨3,[],Pt B5 0⟩,⟨10,[],I (k5:Int)⟩] [cI B5 34 (aB b),cI B1 34 (aB a)] aI wI)∧(∀ i,i<k5→∀ x,(List.range a.windows.length)[i]?=some x→(fun i=>nO (a.windows.getD i iR) (b.windows.getD i iR)) x=true)) (fun k5=>a.windows.length-k5) 0 ⟨Nat.zero_le _,s148.keep [2,3,10] (by kernel_rfl),fun i h=>(Nat.not_lt_zero i h).elim⟩<|?_
 rintro k5 a151 w150 ⟨k5_le,s149,inv_k5⟩
 refine wp_seq<|zs s149 [2,3,10,217] [(217,Bo (decide ((k5:Int)<(a.windows.length:Int))))] (qo (fa w150 B1 0 lM)<|qo (s149.m.ld 27 1 6 wE rfl rfl)<|qo (ln w150 3 a.windowsA a.windows.length a.windowsC tN)<|qe) fun _ w153 s154=>aQ s154.f rfl (fun h155=>?_) (fun h155=>?_)
 ·have k5_lt:k5<a.windows.length:=by omega
  have hx156:(List.range a.windows.length)[k5]?=some k5:=List.getElem?_range k5_lt
  have hx157:a.windows[k5]?=some (a.windows.getD k5 iR):=bC (by omega)
  have hx158:b.windows[k5]?=some (b.windows.getD k5 iR):=bC (by omega)
  refine wp_skip<|aD<|wp_seq<|wp_block<|wp_seq<|HT s154 [2,3,10,230] [23008] [] MO (qo (fa w153 B1 0 lM)<|qo (s154.m.ld 27 1 6 wE rfl rfl)<|qo ((hA.windows.up s154.m).ia a.windowsC k5 tN sS (by omega))<|qo ((hA.windows.up s154.m).lda 165 k5 0 B0 hx157 rfl rfl)<|qo (fa w153 B5 0 lM)<|qo (s154.m.ld 27 0 6 wE rfl rfl)<|qo ((hB.windows.up s154.m).ia b.windowsC k5 tN sS (by omega))<|qo ((hB.windows.up s154.m).lda 165 k5 0 B0 hx158 rfl rfl)<|qo (HM (P:=Tryz.prog) w153 (.tmp 224) (.tmp 229) (dB (a.windows.getD k5 iR)) (dB (b.windows.getD k5 iR)) (acG 10 (by decide)) (by decide) acP rfl rfl)<|qe) fun _ w160 s161=>aD<|bR s161.f rfl (fun h162=>?_) (fun h162=>?_)
  ·refine zs s161 [4] [(4,Bo false)] qe fun _ w164 s165=>aC<|bP (aN (aN (bP (aN (pR [Bo false] rfl s165 ⟨rfl,trivial⟩ ?_)))))
   exact aW s165 (congrArg Bo (iF h15 (iF h22 (iP A49 (iP A73 (iP A97 (iP A121 (iP A145 (iF (bI hx156 h162) rfl)))))))).symm)
  refine wp_skip<|c9 (aD ?_)
  refine dU s161 [2,3,10] [1000] [] (qo (wr ((k5:Int)+1) ((k5+1:Nat):Int) (by omega))<|qe) fun _ w167 s168=>aD<|?_
  exact ⟨(k5+1),⟨by omega,s168.keep [2,3,10] (by kernel_rfl),aM inv_k5 (fun y hy=>by rw [hx156] at hy; cases hy; exact h162)⟩,by omega⟩
 have k5_eq:k5=a.windows.length:=by omega
 have A169:(List.range a.windows.length).all (fun i=>nO (a.windows.getD i iR) (b.windows.getD i iR))=true:=dG (by rw [k5_eq] at inv_k5; exact inv_k5)
 refine wp_exit<|aY (aY (cP (aD ?_)))
 refine wp_seq<|zs s154 [2,3,11] [(11,I 0)] qe fun _ w171 s172=>wp_block<|aO (α:=Nat) (fun k6 aI wI=>(k6≤a.slots.length)∧(Sta 305 [] w [⟨2,[],Pt B1 0⟩,⟨3,[],Pt B5 0⟩,⟨11,[],I (k6:Int)⟩] [cI B5 34 (aB b),cI B1 34 (aB a)] aI wI)∧(∀ i,i<k6→∀ x,(List.range a.slots.length)[i]?=some x→(fun i=>tK (a.slots.getD i l5) (b.slots.getD i l5)) x=true)) (fun k6=>a.slots.length-k6) 0 ⟨Nat.zero_le _,s172.keep [2,3,11] (by kernel_rfl),fun i h=>(Nat.not_lt_zero i h).elim⟩<|?_
 rintro k6 a175 w174 ⟨k6_le,s173,inv_k6⟩
 refine wp_seq<|zs s173 [2,3,11,235] [(235,Bo (decide ((k6:Int)<(a.slots.length:Int))))] (qo (fa w174 B1 0 jC)<|qo (s173.m.ld 28 1 7 pX rfl rfl)<|qo (ln w174 3 a.slotsA a.slots.length a.slotsC oP)<|qe) fun _ w177 s178=>aQ s178.f rfl (fun h179=>?_) (fun h179=>?_)
 ·have k6_lt:k6<a.slots.length:=by omega
  have hx180:(List.range a.slots.length)[k6]?=some k6:=List.getElem?_range k6_lt
  have hx181:a.slots[k6]?=some (a.slots.getD k6 l5):=bC (by omega)
  have hx182:b.slots[k6]?=some (b.slots.getD k6 l5):=bC (by omega)
  refine wp_skip<|aD<|wp_seq<|wp_block<|wp_seq<|HT s178 [2,3,11,248] [24808] [] MO (qo (fa w177 B1 0 jC)<|qo (s178.m.ld 28 1 7 pX rfl rfl)<|qo ((hA.slots.up s178.m).ia a.slotsC k6 oP rM (by omega))<|qo ((hA.slots.up s178.m).lda 154 k6 0 BZ hx181 rfl rfl)<|qo (fa w177 B5 0 jC)<|qo (s178.m.ld 28 0 7 pX rfl rfl)<|qo ((hB.slots.up s178.m).ia b.slotsC k6 oP rM (by omega))<|qo ((hB.slots.up s178.m).lda 154 k6 0 BZ hx182 rfl rfl)<|qo (HM (P:=Tryz.prog) w177 (.tmp 242) (.tmp 247) (gB (a.slots.getD k6 l5)) (gB (b.slots.getD k6 l5)) (acE 10 (by decide)) (by decide) acN rfl rfl)<|qe) fun _ w184 s185=>aD<|bR s185.f rfl (fun h186=>?_) (fun h186=>?_)
  ·refine zs s185 [4] [(4,Bo false)] qe fun _ w188 s189=>aC<|bP (aN (aN (bP (aN (pR [Bo false] rfl s189 ⟨rfl,trivial⟩ ?_)))))
   exact aW s189 (congrArg Bo (iF h15 (iF h22 (iP A49 (iP A73 (iP A97 (iP A121 (iP A145 (iP A169 (iF (bI hx180 h186) rfl))))))))).symm)
  refine wp_skip<|c9 (aD ?_)
  refine dU s185 [2,3,11] [1100] [] (qo (wr ((k6:Int)+1) ((k6+1:Nat):Int) (by omega))<|qe) fun _ w191 s192=>aD<|?_
  exact ⟨(k6+1),⟨by omega,s192.keep [2,3,11] (by kernel_rfl),aM inv_k6 (fun y hy=>by rw [hx180] at hy; cases hy; exact h186)⟩,by omega⟩
 have k6_eq:k6=a.slots.length:=by omega
 have A193:(List.range a.slots.length).all (fun i=>tK (a.slots.getD i l5) (b.slots.getD i l5))=true:=dG (by rw [k6_eq] at inv_k6; exact inv_k6)
 refine wp_exit<|aY (aY (cP (aD ?_)))
 refine wp_seq<|zs s178 [2,3,12] [(12,I 0)] qe fun _ w195 s196=>wp_block<|aO (α:=Nat) (fun k7 aI wI=>(k7≤a.keys.length)∧(Sta 305 [] w [⟨2,[],Pt B1 0⟩,⟨3,[],Pt B5 0⟩,⟨12,[],I (k7:Int)⟩] [cI B5 34 (aB b),cI B1 34 (aB a)] aI wI)∧(∀ i,i<k7→∀ x,(List.range a.keys.length)[i]?=some x→(fun i => !((a.keys.getD i 0) != (b.keys.getD i 0))) x=true)) (fun k7=>a.keys.length-k7) 0 ⟨Nat.zero_le _,s196.keep [2,3,12] (by kernel_rfl),fun i h=>(Nat.not_lt_zero i h).elim⟩<|?_
 rintro k7 a199 w198 ⟨k7_le,s197,inv_k7⟩
 refine wp_seq<|zs s197 [2,3,12,253] [(253,Bo (decide ((k7:Int)<(a.keys.length:Int))))] (qo (fa w198 B1 0 jV)<|qo (s197.m.ld 30 1 12 jB rfl rfl)<|qo (ln w198 3 a.keysA a.keys.length a.keysC eX)<|qe) fun _ w201 s202=>aQ s202.f rfl (fun h203=>?_) (fun h203=>?_)
 ·have k7_lt:k7<a.keys.length:=by omega
  have hx204:(List.range a.keys.length)[k7]?=some k7:=List.getElem?_range k7_lt
  have hx205:a.keys[k7]?=some (a.keys.getD k7 0):=bC (by omega)
  have hx206:b.keys[k7]?=some (b.keys.getD k7 0):=bC (by omega)
  refine wp_skip<|aD<|wp_seq<|wp_block<|wp_seq<|zr s202 [2,3,12,266] [(266,Bo ((a.keys.getD k7 0) != (b.keys.getD k7 0)))] MO (qo (fa w201 B1 0 jV)<|qo (s202.m.ld 30 1 12 jB rfl rfl)<|qo ((hA.keys.up s202.m).ia a.keysC k7 eX hP (by omega))<|qo ((hA.keys.up s202.m).ld 3 k7 0 bM hx205 rfl)<|qo (fa w201 B5 0 jV)<|qo (s202.m.ld 30 0 12 jB rfl rfl)<|qo ((hB.keys.up s202.m).ia b.keysC k7 eX hP (by omega))<|qo ((hB.keys.up s202.m).ld 3 k7 0 bM hx206 rfl)<|qe) fun _ w208 s209=>aD<|jQ s209.f rfl (fun h210=>?_) (fun h210=>?_)
  ·refine zs s209 [4] [(4,Bo false)] qe fun _ w212 s213=>aC<|bP (aN (aN (bP (aN (pR [Bo false] rfl s213 ⟨rfl,trivial⟩ ?_)))))
   exact aW s213 (congrArg Bo (iF h15 (iF h22 (iP A49 (iP A73 (iP A97 (iP A121 (iP A145 (iP A169 (iP A193 (iF (bI hx204 (congrArg (!·) (bne_iff_ne.2 h210))) rfl)))))))))).symm)
  refine wp_skip<|c9 (aD ?_)
  refine dU s209 [2,3,12] [1200] [] (qo (wr ((k7:Int)+1) ((k7+1:Nat):Int) (by omega))<|qe) fun _ w215 s216=>aD<|?_
  exact ⟨(k7+1),⟨by omega,s216.keep [2,3,12] (by kernel_rfl),aM inv_k7 (fun y hy=>by rw [hx204] at hy; cases hy; exact (congrArg (!·) (bne_eq_false_iff_eq.2 h210)))⟩,by omega⟩
 have k7_eq:k7=a.keys.length:=by omega
 have A217:(List.range a.keys.length).all (fun i => !((a.keys.getD i 0) != (b.keys.getD i 0)))=true:=dG (by rw [k7_eq] at inv_k7; exact inv_k7)
 refine wp_exit<|aY (aY (cP (aD ?_)))
 refine wp_seq<|zs s202 [2,3,13] [(13,I 0)] qe fun _ w219 s220=>wp_block<|aO (α:=Nat) (fun k8 aI wI=>(k8≤a.phases.length)∧(Sta 305 [] w [⟨2,[],Pt B1 0⟩,⟨3,[],Pt B5 0⟩,⟨13,[],I (k8:Int)⟩] [cI B5 34 (aB b),cI B1 34 (aB a)] aI wI)∧(∀ i,i<k8→∀ x,(List.range a.phases.length)[i]?=some x→(fun i=>jA (a.phases.getD i aF) (b.phases.getD i aF)) x=true)) (fun k8=>a.phases.length-k8) 0 ⟨Nat.zero_le _,s220.keep [2,3,13] (by kernel_rfl),fun i h=>(Nat.not_lt_zero i h).elim⟩<|?_
 rintro k8 a223 w222 ⟨k8_le,s221,inv_k8⟩
 refine wp_seq<|zs s221 [2,3,13,271] [(271,Bo (decide ((k8:Int)<(a.phases.length:Int))))] (qo (fa w222 B1 0 cG)<|qo (s221.m.ld 31 1 13 iE rfl rfl)<|qo (ln w222 3 a.phasesA a.phases.length a.phasesC g9)<|qe) fun _ w225 s226=>aQ s226.f rfl (fun h227=>?_) (fun h227=>?_)
 ·have k8_lt:k8<a.phases.length:=by omega
  have hx228:(List.range a.phases.length)[k8]?=some k8:=List.getElem?_range k8_lt
  have hx229:a.phases[k8]?=some (a.phases.getD k8 aF):=bC (by omega)
  have hx230:b.phases[k8]?=some (b.phases.getD k8 aF):=bC (by omega)
  have hpk:=True.intro
  refine wp_skip<|aD<|wp_seq<|wp_block<|wp_seq<|HT s226 [2,3,13,14] [1408] [] MO (qo (fa w225 B1 0 cG)<|qo (s226.m.ld 31 1 13 iE rfl rfl)<|qo ((hA.phases.up s226.m).ia a.phasesC k8 g9 eL (by omega))<|qo ((hA.phases.up s226.m).lda 157 k8 0 eP hx229 rfl rfl)<|qo (fa w225 B5 0 cG)<|qo (s226.m.ld 31 0 13 iE rfl rfl)<|qo ((hB.phases.up s226.m).ia b.phasesC k8 g9 eL (by omega))<|qo ((hB.phases.up s226.m).lda 157 k8 0 eP hx230 rfl rfl)<|qo (yc w225 aaV fun w' hb=>GF (a.phases.getD k8 aF) (b.phases.getD k8 aF) w' (((hA.pteams _ (List.mem_of_getElem? hx229)).up s226.m).grow hb) (((hA.psizes _ (List.mem_of_getElem? hx229)).up s226.m).grow hb) (((hB.pteams _ (List.mem_of_getElem? hx230)).up s226.m).grow hb) (((hB.psizes _ (List.mem_of_getElem? hx230)).up s226.m).grow hb))<|qe) fun _ w232 s233=>aD<|zs s233 [2,3,13,286] [(286,Bo (!(jA (a.phases.getD k8 aF) (b.phases.getD k8 aF))))] qe fun _ w235 s236=>bR s236.f rfl (fun h237=>?_) (fun h237=>?_)
  ·refine zs s236 [4] [(4,Bo false)] qe fun _ w239 s240=>aC<|bP (aN (aN (bP (aN (pR [Bo false] rfl s240 ⟨rfl,trivial⟩ ?_)))))
   exact aW s240 (congrArg Bo (iF h15 (iF h22 (iP A49 (iP A73 (iP A97 (iP A121 (iP A145 (iP A169 (iP A193 (iP A217 (iF (bI hx228 h237) rfl))))))))))).symm)
  refine wp_skip<|c9 (aD ?_)
  refine dU s236 [2,3,13] [1300] [] (qo (wr ((k8:Int)+1) ((k8+1:Nat):Int) (by omega))<|qe) fun _ w242 s243=>aD<|?_
  exact ⟨(k8+1),⟨by omega,s243.keep [2,3,13] (by kernel_rfl),aM inv_k8 (fun y hy=>by rw [hx228] at hy; cases hy; exact h237)⟩,by omega⟩
 have k8_eq:k8=a.phases.length:=by omega
 have A244:(List.range a.phases.length).all (fun i=>jA (a.phases.getD i aF) (b.phases.getD i aF))=true:=dG (by rw [k8_eq] at inv_k8; exact inv_k8)
 refine wp_exit<|aY (aY (cP (aD ?_)))
 refine wp_seq<|zs s226 [2,3,15] [(15,I 0)] qe fun _ w246 s247=>wp_block<|aO (α:=Nat) (fun k9 aI wI=>(k9≤a.conds.length)∧(Sta 305 [] w [⟨2,[],Pt B1 0⟩,⟨3,[],Pt B5 0⟩,⟨15,[],I (k9:Int)⟩] [cI B5 34 (aB b),cI B1 34 (aB a)] aI wI)∧(∀ i,i<k9→∀ x,(List.range a.conds.length)[i]?=some x→(fun i=>mU (a.conds.getD i dZ) (b.conds.getD i dZ)) x=true)) (fun k9=>a.conds.length-k9) 0 ⟨Nat.zero_le _,s247.keep [2,3,15] (by kernel_rfl),fun i h=>(Nat.not_lt_zero i h).elim⟩<|?_
 rintro k9 a250 w249 ⟨k9_le,s248,inv_k9⟩
 refine wp_seq<|zs s248 [2,3,15,291] [(291,Bo (decide ((k9:Int)<(a.conds.length:Int))))] (qo (fa w249 B1 0 eV)<|qo (s248.m.ld 32 1 14 o6 rfl rfl)<|qo (ln w249 3 a.condsA a.conds.length a.condsC oQ)<|qe) fun _ w252 s253=>aQ s253.f rfl (fun h254=>?_) (fun h254=>?_)
 ·have k9_lt:k9<a.conds.length:=by omega
  have hx255:(List.range a.conds.length)[k9]?=some k9:=List.getElem?_range k9_lt
  have hx256:a.conds[k9]?=some (a.conds.getD k9 dZ):=bC (by omega)
  have hx257:b.conds[k9]?=some (b.conds.getD k9 dZ):=bC (by omega)
  refine wp_skip<|aD<|wp_seq<|wp_block<|wp_seq<|HT s253 [2,3,15,304] [30408] [] MO (qo (fa w252 B1 0 eV)<|qo (s253.m.ld 32 1 14 o6 rfl rfl)<|qo ((hA.conds.up s253.m).ia a.condsC k9 oQ iC (by omega))<|qo ((hA.conds.up s253.m).lda 178 k9 0 fH hx256 rfl rfl)<|qo (fa w252 B5 0 eV)<|qo (s253.m.ld 32 0 14 o6 rfl rfl)<|qo ((hB.conds.up s253.m).ia b.condsC k9 oQ iC (by omega))<|qo ((hB.conds.up s253.m).lda 178 k9 0 fH hx257 rfl rfl)<|qo (HM (P:=Tryz.prog) w252 (.tmp 298) (.tmp 303) (aV (a.conds.getD k9 dZ)) (aV (b.conds.getD k9 dZ)) (acH 10 (by decide)) (by decide) acQ rfl rfl)<|qe) fun _ w259 s260=>aD<|bR s260.f rfl (fun h261=>?_) (fun h261=>?_)
  ·refine zs s260 [4] [(4,Bo false)] qe fun _ w263 s264=>aC<|bP (aN (aN (bP (aN (pR [Bo false] rfl s264 ⟨rfl,trivial⟩ ?_)))))
   exact aW s264 (congrArg Bo (iF h15 (iF h22 (iP A49 (iP A73 (iP A97 (iP A121 (iP A145 (iP A169 (iP A193 (iP A217 (iP A244 (iF (bI hx255 h261) rfl)))))))))))).symm)
  refine wp_skip<|c9 (aD ?_)
  refine dU s260 [2,3,15] [1500] [] (qo (wr ((k9:Int)+1) ((k9+1:Nat):Int) (by omega))<|qe) fun _ w266 s267=>aD<|?_
  exact ⟨(k9+1),⟨by omega,s267.keep [2,3,15] (by kernel_rfl),aM inv_k9 (fun y hy=>by rw [hx255] at hy; cases hy; exact h261)⟩,by omega⟩
 have k9_eq:k9=a.conds.length:=by omega
 have A268:(List.range a.conds.length).all (fun i=>mU (a.conds.getD i dZ) (b.conds.getD i dZ))=true:=dG (by rw [k9_eq] at inv_k9; exact inv_k9)
 refine wp_exit<|aY (aY (cP (aD ?_)))
 refine zs s253 [4] [(4,Bo true)] qe fun _ w270 s271=>aC<|pR [Bo true] rfl s271 ⟨rfl,trivial⟩<|?_
 exact aW s271 (congrArg Bo (iF h15 (iF h22 (iP A49 (iP A73 (iP A97 (iP A121 (iP A145 (iP A169 (iP A193 (iP A217 (iP A244 (iP A268 rfl)))))))))))).symm)
end Go.Proofs.YtfffbdmdllgalaaGreatDoor
namespace Go.Proofs.YtfffbdmdllgalaaGreatDoor
open Go Go.RowKit Go.Fz
set_option maxRecDepth 10000
theorem acT (l:aE) (w:World) (hL:LeagueAt w l):Calls Tryz.prog 175 #[.agg (aB l).toArray] w (vO (fun n:cE=>.agg (dE n).toArray) y0 (gZ l) w):=by
 refine dX [.agg (aB l).toArray] Tryz.func175 rfl rfl rfl rfl fun _ s0=>?_
 have smx1:=hL.sm
 refine wp_seq<|aA<|lb s0 0 _ rfl rfl rfl rfl fun B1 a2 w3 s4=>la s4 1 _ rfl JL rfl rfl fun B5 a6 w7 s8=>aR rfl<|aD<|wp_seq<|aA<|zl s8 [1,2,11] [(1,Pt B1 0),(2,Pt B5 0),(11,.agg #[.slice none 0 0,.slice none 0 0,.slice none 0 0,.slice none 0 0,.slice none 0 0,.slice none 0 0,.slice none 0 0])] 0 1 (qo (jL (P:=Tryz.prog) w7 227 [] (.agg #[.slice none 0 0,.slice none 0 0,.slice none 0 0,.slice none 0 0,.slice none 0 0,.slice none 0 0,.slice none 0 0]) (fun _=>by kernel_rfl))<|qe) fun _ w10 s11=>la s11 1 _ rfl JL rfl rfl fun B12 a13 w14 s15=>dD s15 2 0 _ _ rfl rfl rfl rfl F5 rfl rfl rfl rfl fun w16 s17=>aR rfl<|aD ?_
 refine wp_seq<|zs s17 [1,2,3,4] [(3,Pt B12 0),(4,I 0)] qe fun _ w19 s20=>wp_block<|?_
 have s21:=s20.nilR 9 1 aJ
 have hN0:=hL.townsN
 refine aO (α:=Nat) (fun k0 aI wI=>∃ oa_towns:Option Addr,∃ c_towns:Nat,(k0≤l.towns.length)∧(Sta 139 [] w [⟨1,[],Pt B1 0⟩,⟨2,[],Pt B5 0⟩,⟨3,[],Pt B12 0⟩,⟨4,[],I (k0:Int)⟩] [oR 9 1 aJ oa_towns c_towns ((l.towns.take k0).map iY.name),cI B12 227 [.slice oa_towns (((l.towns.take k0).map iY.name).length) c_towns,.slice none 0 0,.slice none 0 0,.slice none 0 0,.slice none 0 0,.slice none 0 0,.slice none 0 0],cI B5 227 [.slice none 0 0,.slice none 0 0,.slice none 0 0,.slice none 0 0,.slice none 0 0,.slice none 0 0,.slice none 0 0],cI B1 34 (aB l)] aI wI)) (fun k0=>l.towns.length-k0) 0 ⟨none,0,Nat.zero_le _,s21.kp⟩<|?_
 rintro k0 a24 w23 ⟨oa_towns,c_towns,k0_le,s22⟩
 refine wp_seq<|zs s22 [1,2,3,4,16] [(16,Bo (decide ((k0:Int)<(l.towns.length:Int))))] (qo (fa w23 B1 0 oS)<|qo (s22.m.ld 22 3 1 A0 rfl rfl)<|qo (ln w23 3 l.townsA l.towns.length l.townsC zH)<|qe) fun _ w26 s27=>aQ s27.f rfl (fun h28=>?_) (fun h28=>?_)
 ·have k0_lt:k0<l.towns.length:=by omega
  obtain ⟨x,hx29⟩:=cD (xs:=l.towns) k0_lt
  refine wp_skip<|aD<|wp_seq<|wp_block<|aL MO 9<|nD s27 [1,2,3,4,20,26] [2001,2606] [] 0 [some [1],some [],some [8,7,6,5,3],some [8,7,6,5],some [8,7,6,5],some [8,7,6],some [8,7],some [8]] (qo (fa w26 B12 0 mH)<|qo (s27.m.ld 158 1 0 c8 rfl rfl)<|qo (fa w26 B1 0 oS)<|qo (s27.m.ld 22 3 1 A0 rfl rfl)<|qo ((hL.towns.up s27.m).ia l.townsC k0 zH zE (by omega))<|qo (jZ w26 l.townsA (k0*1) JN)<|qo ((hL.towns.up s27.m).ld 9 k0 0 qQ hx29 rfl)<|qe) hq fun _ s32=>HN s32 8 rfl rfl rfl rfl (by kernel_rfl) fun w33 s34=>FN s34 0 (vs:=[.string x.name]) (e:=9) [.string x.name] rfl rfl (fun _=>by kernel_rfl) rfl fun B35 a36 w37 hb39 s38=>aR rfl (aD ⟨hb39,?_⟩)
  refine df s38 9 rfl rfl rfl rfl (by kernel_rfl) rfl fun w40 s41=>oV s41 0 1 (xs:=(l.towns.take k0).map iY.name) (ys:=[x.name]) (oa:=oa_towns) (oa2:=(some ⟨B35,0,none⟩)) rfl rfl rfl rfl aU oF (s41.m.rowc (enc:=aJ) 0 ([x.name]) rfl aU rfl (Nat.le_of_ble_eq_true rfl)) (by first | omega | (simp only [bV]; omega)) (by simp only [maxLen]; first | omega | (simp only [bV]; omega)) rfl fun oa42 c43 a44 w45 s46=>aR rfl (aD ?_)
  refine df s46 10 rfl rfl rfl rfl (by kernel_rfl) rfl fun w47 s48=>fJ s48 [1,2,3,4,28,29] [2900] [(28,.slice oa42 ((((l.towns.take k0).map iY.name)++([x.name])).length) c43)] 0 1 (qo (fa w47 B12 0 mH)<|qe) fun _ w50 s51=>aR rfl (aD ?_)
  refine df s51 11 rfl rfl rfl rfl (by kernel_rfl) rfl fun w52 s53=>dD s53 0 2 _ _ rfl rfl rfl rfl iB rfl rfl rfl rfl fun w54 s55=>aR rfl (aD ?_)
  refine dd s55 (by kernel_rfl) fun w56 s57=>c9 (aD ?_)
  refine dU s57 [1,2,3,4] [400] [] (qo (wr ((k0:Int)+1) ((k0+1:Nat):Int) (by omega))<|qe) fun _ w59 s60=>aD<|?_
  exact ⟨(k0+1),⟨oa42,c43,by omega,((s60.keep (E':=[⟨1,[],Pt B1 0⟩,⟨2,[],Pt B5 0⟩,⟨3,[],Pt B12 0⟩,⟨4,[],I ((k0+1:Nat):Int)⟩]) [1,2,3,4] (by kernel_rfl)).sub (.cons _ (.refl _))).re rfl (by rw [bS hx29] <;> rfl)⟩,by omega⟩
 have k0_eq:k0=l.towns.length:=by omega
 refine wp_exit<|aY (aY (cP (aD ?_)))
 refine wp_seq<|zs s27 [1,2,3,5] [(5,I 0)] qe fun _ w62 s63=>wp_block<|?_
 have s64:=s63.nilR 9 1 aJ
 have hN1:=hL.groundsN
 refine aO (α:=Nat) (fun k1 aI wI=>∃ oa_grounds:Option Addr,∃ c_grounds:Nat,(k1≤l.grounds.length)∧(Sta 139 [] w [⟨1,[],Pt B1 0⟩,⟨2,[],Pt B5 0⟩,⟨3,[],Pt B12 0⟩,⟨5,[],I (k1:Int)⟩] [oR 9 1 aJ oa_grounds c_grounds ((l.grounds.take k1).map bZ.name),oR 9 1 aJ oa_towns c_towns ((l.towns.take k0).map iY.name),cI B12 227 [.slice oa_towns (((l.towns.take k0).map iY.name).length) c_towns,.slice oa_grounds (((l.grounds.take k1).map bZ.name).length) c_grounds,.slice none 0 0,.slice none 0 0,.slice none 0 0,.slice none 0 0,.slice none 0 0],cI B5 227 [.slice none 0 0,.slice none 0 0,.slice none 0 0,.slice none 0 0,.slice none 0 0,.slice none 0 0,.slice none 0 0],cI B1 34 (aB l)] aI wI)) (fun k1=>l.grounds.length-k1) 0 ⟨none,0,Nat.zero_le _,s64.kp⟩<|?_
 rintro k1 a67 w66 ⟨oa_grounds,c_grounds,k1_le,s65⟩
 refine wp_seq<|zs s65 [1,2,3,5,34] [(34,Bo (decide ((k1:Int)<(l.grounds.length:Int))))] (qo (fa w66 B1 0 gG)<|qo (s65.m.ld 25 4 4 n3 rfl rfl)<|qo (ln w66 3 l.groundsA l.grounds.length l.groundsC nV)<|qe) fun _ w69 s70=>aQ s70.f rfl (fun h71=>?_) (fun h71=>?_)
 ·have k1_lt:k1<l.grounds.length:=by omega
  obtain ⟨x,hx72⟩:=cD (xs:=l.grounds) k1_lt
  refine wp_skip<|aD<|wp_seq<|wp_block<|aL MO 9<|nD s70 [1,2,3,5,38,44] [3801,4406] [] 0 [some [1],some [],some [8,7,6,5,3],some [8,7,6,5],some [8,7,6,5],some [8,7,6],some [8,7],some [8]] (qo (fa w69 B12 0 qA)<|qo (s70.m.ld 158 2 1 c8 rfl rfl)<|qo (fa w69 B1 0 gG)<|qo (s70.m.ld 25 4 4 n3 rfl rfl)<|qo ((hL.grounds.up s70.m).ia l.groundsC k1 nV oB (by omega))<|qo (jZ w69 l.groundsA (k1*7) JO)<|qo ((hL.grounds.up s70.m).ld 9 k1 0 qQ hx72 rfl)<|qe) hq fun _ s75=>HN s75 8 rfl rfl rfl rfl (by kernel_rfl) fun w76 s77=>FN s77 0 (vs:=[.string x.name]) (e:=9) [.string x.name] rfl rfl (fun _=>by kernel_rfl) rfl fun B78 a79 w80 hb82 s81=>aR rfl (aD ⟨hb82,?_⟩)
  refine df s81 9 rfl rfl rfl rfl (by kernel_rfl) rfl fun w83 s84=>oV s84 0 1 (xs:=(l.grounds.take k1).map bZ.name) (ys:=[x.name]) (oa:=oa_grounds) (oa2:=(some ⟨B78,0,none⟩)) rfl rfl rfl rfl aU oF (s84.m.rowc (enc:=aJ) 0 ([x.name]) rfl aU rfl (Nat.le_of_ble_eq_true rfl)) (by first | omega | (simp only [bV]; omega)) (by simp only [maxLen]; first | omega | (simp only [bV]; omega)) rfl fun oa85 c86 a87 w88 s89=>aR rfl (aD ?_)
  refine df s89 10 rfl rfl rfl rfl (by kernel_rfl) rfl fun w90 s91=>fJ s91 [1,2,3,5,46,47] [4700] [(46,.slice oa85 ((((l.grounds.take k1).map bZ.name)++([x.name])).length) c86)] 0 1 (qo (fa w90 B12 0 qA)<|qe) fun _ w93 s94=>aR rfl (aD ?_)
  refine df s94 11 rfl rfl rfl rfl (by kernel_rfl) rfl fun w95 s96=>dD s96 0 3 _ _ rfl rfl rfl rfl iB rfl rfl rfl rfl fun w97 s98=>aR rfl (aD ?_)
  refine dd s98 (by kernel_rfl) fun w99 s100=>c9 (aD ?_)
  refine dU s100 [1,2,3,5] [500] [] (qo (wr ((k1:Int)+1) ((k1+1:Nat):Int) (by omega))<|qe) fun _ w102 s103=>aD<|?_
  exact ⟨(k1+1),⟨oa85,c86,by omega,((s103.keep (E':=[⟨1,[],Pt B1 0⟩,⟨2,[],Pt B5 0⟩,⟨3,[],Pt B12 0⟩,⟨5,[],I ((k1+1:Nat):Int)⟩]) [1,2,3,5] (by kernel_rfl)).sub (.cons _ (.refl _))).re rfl (by rw [bS hx72] <;> rfl)⟩,by omega⟩
 have k1_eq:k1=l.grounds.length:=by omega
 refine wp_exit<|aY (aY (cP (aD ?_)))
 refine wp_seq<|zs s70 [1,2,3,6] [(6,I 0)] qe fun _ w105 s106=>wp_block<|?_
 have s107:=s106.nilR 9 1 aJ
 have hN2:=hL.teamsN
 refine aO (α:=Nat) (fun k2 aI wI=>∃ oa_teams:Option Addr,∃ c_teams:Nat,(k2≤l.teams.length)∧(Sta 139 [] w [⟨1,[],Pt B1 0⟩,⟨2,[],Pt B5 0⟩,⟨3,[],Pt B12 0⟩,⟨6,[],I (k2:Int)⟩] [oR 9 1 aJ oa_teams c_teams ((l.teams.take k2).map cX.name),oR 9 1 aJ oa_grounds c_grounds ((l.grounds.take k1).map bZ.name),oR 9 1 aJ oa_towns c_towns ((l.towns.take k0).map iY.name),cI B12 227 [.slice oa_towns (((l.towns.take k0).map iY.name).length) c_towns,.slice oa_grounds (((l.grounds.take k1).map bZ.name).length) c_grounds,.slice oa_teams (((l.teams.take k2).map cX.name).length) c_teams,.slice none 0 0,.slice none 0 0,.slice none 0 0,.slice none 0 0],cI B5 227 [.slice none 0 0,.slice none 0 0,.slice none 0 0,.slice none 0 0,.slice none 0 0,.slice none 0 0,.slice none 0 0],cI B1 34 (aB l)] aI wI)) (fun k2=>l.teams.length-k2) 0 ⟨none,0,Nat.zero_le _,s107.kp⟩<|?_
 rintro k2 a110 w109 ⟨oa_teams,c_teams,k2_le,s108⟩
 refine wp_seq<|zs s108 [1,2,3,6,52] [(52,Bo (decide ((k2:Int)<(l.teams.length:Int))))] (qo (fa w109 B1 0 dS)<|qo (s108.m.ld 26 5 5 kS rfl rfl)<|qo (ln w109 3 l.teamsA l.teams.length l.teamsC lL)<|qe) fun _ w112 s113=>aQ s113.f rfl (fun h114=>?_) (fun h114=>?_)
 ·have k2_lt:k2<l.teams.length:=by omega
  obtain ⟨x,hx115⟩:=cD (xs:=l.teams) k2_lt
  refine wp_skip<|aD<|wp_seq<|wp_block<|aL MO 9<|nD s113 [1,2,3,6,56,62] [5601,6206] [] 0 [some [1],some [],some [8,7,6,5,3],some [8,7,6,5],some [8,7,6,5],some [8,7,6],some [8,7],some [8]] (qo (fa w112 B12 0 j8)<|qo (s113.m.ld 158 3 2 c8 rfl rfl)<|qo (fa w112 B1 0 dS)<|qo (s113.m.ld 26 5 5 kS rfl rfl)<|qo ((hL.teams.up s113.m).ia l.teamsC k2 lL o9 (by omega))<|qo (jZ w112 l.teamsA (k2*4) JV)<|qo ((hL.teams.up s113.m).ld 9 k2 0 qQ hx115 rfl)<|qe) hq fun _ s118=>HN s118 8 rfl rfl rfl rfl (by kernel_rfl) fun w119 s120=>FN s120 0 (vs:=[.string x.name]) (e:=9) [.string x.name] rfl rfl (fun _=>by kernel_rfl) rfl fun B121 a122 w123 hb125 s124=>aR rfl (aD ⟨hb125,?_⟩)
  refine df s124 9 rfl rfl rfl rfl (by kernel_rfl) rfl fun w126 s127=>oV s127 0 1 (xs:=(l.teams.take k2).map cX.name) (ys:=[x.name]) (oa:=oa_teams) (oa2:=(some ⟨B121,0,none⟩)) rfl rfl rfl rfl aU oF (s127.m.rowc (enc:=aJ) 0 ([x.name]) rfl aU rfl (Nat.le_of_ble_eq_true rfl)) (by first | omega | (simp only [bV]; omega)) (by simp only [maxLen]; first | omega | (simp only [bV]; omega)) rfl fun oa128 c129 a130 w131 s132=>aR rfl (aD ?_)
  refine df s132 10 rfl rfl rfl rfl (by kernel_rfl) rfl fun w133 s134=>fJ s134 [1,2,3,6,64,65] [6500] [(64,.slice oa128 ((((l.teams.take k2).map cX.name)++([x.name])).length) c129)] 0 1 (qo (fa w133 B12 0 j8)<|qe) fun _ w136 s137=>aR rfl (aD ?_)
  refine df s137 11 rfl rfl rfl rfl (by kernel_rfl) rfl fun w138 s139=>dD s139 0 4 _ _ rfl rfl rfl rfl iB rfl rfl rfl rfl fun w140 s141=>aR rfl (aD ?_)
  refine dd s141 (by kernel_rfl) fun w142 s143=>c9 (aD ?_)
  refine dU s143 [1,2,3,6] [600] [] (qo (wr ((k2:Int)+1) ((k2+1:Nat):Int) (by omega))<|qe) fun _ w145 s146=>aD<|?_
  exact ⟨(k2+1),⟨oa128,c129,by omega,((s146.keep (E':=[⟨1,[],Pt B1 0⟩,⟨2,[],Pt B5 0⟩,⟨3,[],Pt B12 0⟩,⟨6,[],I ((k2+1:Nat):Int)⟩]) [1,2,3,6] (by kernel_rfl)).sub (.cons _ (.refl _))).re rfl (by rw [bS hx115] <;> rfl)⟩,by omega⟩
 have k2_eq:k2=l.teams.length:=by omega
 refine wp_exit<|aY (aY (cP (aD ?_)))
 refine wp_seq<|zs s113 [1,2,3,7] [(7,I 0)] qe fun _ w148 s149=>wp_block<|?_
 have s150:=s149.nilR 9 1 aJ
 have hN3:=hL.windowsN
 refine aO (α:=Nat) (fun k3 aI wI=>∃ oa_windows:Option Addr,∃ c_windows:Nat,(k3≤l.windows.length)∧(Sta 139 [] w [⟨1,[],Pt B1 0⟩,⟨2,[],Pt B5 0⟩,⟨3,[],Pt B12 0⟩,⟨7,[],I (k3:Int)⟩] [oR 9 1 aJ oa_windows c_windows ((l.windows.take k3).map cQ.name),oR 9 1 aJ oa_teams c_teams ((l.teams.take k2).map cX.name),oR 9 1 aJ oa_grounds c_grounds ((l.grounds.take k1).map bZ.name),oR 9 1 aJ oa_towns c_towns ((l.towns.take k0).map iY.name),cI B12 227 [.slice oa_towns (((l.towns.take k0).map iY.name).length) c_towns,.slice oa_grounds (((l.grounds.take k1).map bZ.name).length) c_grounds,.slice oa_teams (((l.teams.take k2).map cX.name).length) c_teams,.slice oa_windows (((l.windows.take k3).map cQ.name).length) c_windows,.slice none 0 0,.slice none 0 0,.slice none 0 0],cI B5 227 [.slice none 0 0,.slice none 0 0,.slice none 0 0,.slice none 0 0,.slice none 0 0,.slice none 0 0,.slice none 0 0],cI B1 34 (aB l)] aI wI)) (fun k3=>l.windows.length-k3) 0 ⟨none,0,Nat.zero_le _,s150.kp⟩<|?_
 rintro k3 a153 w152 ⟨oa_windows,c_windows,k3_le,s151⟩
 refine wp_seq<|zs s151 [1,2,3,7,70] [(70,Bo (decide ((k3:Int)<(l.windows.length:Int))))] (qo (fa w152 B1 0 lM)<|qo (s151.m.ld 27 6 6 wE rfl rfl)<|qo (ln w152 3 l.windowsA l.windows.length l.windowsC tN)<|qe) fun _ w155 s156=>aQ s156.f rfl (fun h157=>?_) (fun h157=>?_)
 ·have k3_lt:k3<l.windows.length:=by omega
  obtain ⟨x,hx158⟩:=cD (xs:=l.windows) k3_lt
  refine wp_skip<|aD<|wp_seq<|wp_block<|aL MO 9<|nD s156 [1,2,3,7,74,80] [7401,8006] [] 0 [some [1],some [],some [8,7,6,5,3],some [8,7,6,5],some [8,7,6,5],some [8,7,6],some [8,7],some [8]] (qo (fa w155 B12 0 r7)<|qo (s156.m.ld 158 4 3 c8 rfl rfl)<|qo (fa w155 B1 0 lM)<|qo (s156.m.ld 27 6 6 wE rfl rfl)<|qo ((hL.windows.up s156.m).ia l.windowsC k3 tN sS (by omega))<|qo (jZ w155 l.windowsA (k3*14) JX)<|qo ((hL.windows.up s156.m).ld 9 k3 0 qQ hx158 rfl)<|qe) hq fun _ s161=>HN s161 8 rfl rfl rfl rfl (by kernel_rfl) fun w162 s163=>FN s163 0 (vs:=[.string x.name]) (e:=9) [.string x.name] rfl rfl (fun _=>by kernel_rfl) rfl fun B164 a165 w166 hb168 s167=>aR rfl (aD ⟨hb168,?_⟩)
  refine df s167 9 rfl rfl rfl rfl (by kernel_rfl) rfl fun w169 s170=>oV s170 0 1 (xs:=(l.windows.take k3).map cQ.name) (ys:=[x.name]) (oa:=oa_windows) (oa2:=(some ⟨B164,0,none⟩)) rfl rfl rfl rfl aU oF (s170.m.rowc (enc:=aJ) 0 ([x.name]) rfl aU rfl (Nat.le_of_ble_eq_true rfl)) (by first | omega | (simp only [bV]; omega)) (by simp only [maxLen]; first | omega | (simp only [bV]; omega)) rfl fun oa171 c172 a173 w174 s175=>aR rfl (aD ?_)
  refine df s175 10 rfl rfl rfl rfl (by kernel_rfl) rfl fun w176 s177=>fJ s177 [1,2,3,7,82,83] [8300] [(82,.slice oa171 ((((l.windows.take k3).map cQ.name)++([x.name])).length) c172)] 0 1 (qo (fa w176 B12 0 r7)<|qe) fun _ w179 s180=>aR rfl (aD ?_)
  refine df s180 11 rfl rfl rfl rfl (by kernel_rfl) rfl fun w181 s182=>dD s182 0 5 _ _ rfl rfl rfl rfl iB rfl rfl rfl rfl fun w183 s184=>aR rfl (aD ?_)
  refine dd s184 (by kernel_rfl) fun w185 s186=>c9 (aD ?_)
  refine dU s186 [1,2,3,7] [700] [] (qo (wr ((k3:Int)+1) ((k3+1:Nat):Int) (by omega))<|qe) fun _ w188 s189=>aD<|?_
  exact ⟨(k3+1),⟨oa171,c172,by omega,((s189.keep (E':=[⟨1,[],Pt B1 0⟩,⟨2,[],Pt B5 0⟩,⟨3,[],Pt B12 0⟩,⟨7,[],I ((k3+1:Nat):Int)⟩]) [1,2,3,7] (by kernel_rfl)).sub (.cons _ (.refl _))).re rfl (by rw [bS hx158] <;> rfl)⟩,by omega⟩
 have k3_eq:k3=l.windows.length:=by omega
 refine wp_exit<|aY (aY (cP (aD ?_)))
 refine wp_seq<|zs s156 [1,2,3,8] [(8,I 0)] qe fun _ w191 s192=>wp_block<|?_
 have s193:=s192.nilR 9 1 aJ
 have hN4:=hL.slotsN
 refine aO (α:=Nat) (fun k4 aI wI=>∃ oa_slots:Option Addr,∃ c_slots:Nat,(k4≤l.slots.length)∧(Sta 139 [] w [⟨1,[],Pt B1 0⟩,⟨2,[],Pt B5 0⟩,⟨3,[],Pt B12 0⟩,⟨8,[],I (k4:Int)⟩] [oR 9 1 aJ oa_slots c_slots ((l.slots.take k4).map j3.name),oR 9 1 aJ oa_windows c_windows ((l.windows.take k3).map cQ.name),oR 9 1 aJ oa_teams c_teams ((l.teams.take k2).map cX.name),oR 9 1 aJ oa_grounds c_grounds ((l.grounds.take k1).map bZ.name),oR 9 1 aJ oa_towns c_towns ((l.towns.take k0).map iY.name),cI B12 227 [.slice oa_towns (((l.towns.take k0).map iY.name).length) c_towns,.slice oa_grounds (((l.grounds.take k1).map bZ.name).length) c_grounds,.slice oa_teams (((l.teams.take k2).map cX.name).length) c_teams,.slice oa_windows (((l.windows.take k3).map cQ.name).length) c_windows,.slice oa_slots (((l.slots.take k4).map j3.name).length) c_slots,.slice none 0 0,.slice none 0 0],cI B5 227 [.slice none 0 0,.slice none 0 0,.slice none 0 0,.slice none 0 0,.slice none 0 0,.slice none 0 0,.slice none 0 0],cI B1 34 (aB l)] aI wI)) (fun k4=>l.slots.length-k4) 0 ⟨none,0,Nat.zero_le _,s193.kp⟩<|?_
 rintro k4 a196 w195 ⟨oa_slots,c_slots,k4_le,s194⟩
 refine wp_seq<|zs s194 [1,2,3,8,88] [(88,Bo (decide ((k4:Int)<(l.slots.length:Int))))] (qo (fa w195 B1 0 jC)<|qo (s194.m.ld 28 7 7 pX rfl rfl)<|qo (ln w195 3 l.slotsA l.slots.length l.slotsC oP)<|qe) fun _ w198 s199=>aQ s199.f rfl (fun h200=>?_) (fun h200=>?_)
 ·have k4_lt:k4<l.slots.length:=by omega
  obtain ⟨x,hx201⟩:=cD (xs:=l.slots) k4_lt
  refine wp_skip<|aD<|wp_seq<|wp_block<|aL MO 9<|nD s199 [1,2,3,8,92,98] [9201,9806] [] 0 [some [1],some [],some [8,7,6,5,3],some [8,7,6,5],some [8,7,6,5],some [8,7,6],some [8,7],some [8]] (qo (fa w198 B12 0 uY)<|qo (s199.m.ld 158 5 4 c8 rfl rfl)<|qo (fa w198 B1 0 jC)<|qo (s199.m.ld 28 7 7 pX rfl rfl)<|qo ((hL.slots.up s199.m).ia l.slotsC k4 oP rM (by omega))<|qo (jZ w198 l.slotsA (k4*4) JT)<|qo ((hL.slots.up s199.m).ld 9 k4 0 qQ hx201 rfl)<|qe) hq fun _ s204=>HN s204 8 rfl rfl rfl rfl (by kernel_rfl) fun w205 s206=>FN s206 0 (vs:=[.string x.name]) (e:=9) [.string x.name] rfl rfl (fun _=>by kernel_rfl) rfl fun B207 a208 w209 hb211 s210=>aR rfl (aD ⟨hb211,?_⟩)
  refine df s210 9 rfl rfl rfl rfl (by kernel_rfl) rfl fun w212 s213=>oV s213 0 1 (xs:=(l.slots.take k4).map j3.name) (ys:=[x.name]) (oa:=oa_slots) (oa2:=(some ⟨B207,0,none⟩)) rfl rfl rfl rfl aU oF (s213.m.rowc (enc:=aJ) 0 ([x.name]) rfl aU rfl (Nat.le_of_ble_eq_true rfl)) (by first | omega | (simp only [bV]; omega)) (by simp only [maxLen]; first | omega | (simp only [bV]; omega)) rfl fun oa214 c215 a216 w217 s218=>aR rfl (aD ?_)
  refine df s218 10 rfl rfl rfl rfl (by kernel_rfl) rfl fun w219 s220=>fJ s220 [1,2,3,8,100,101] [10100] [(100,.slice oa214 ((((l.slots.take k4).map j3.name)++([x.name])).length) c215)] 0 1 (qo (fa w219 B12 0 uY)<|qe) fun _ w222 s223=>aR rfl (aD ?_)
  refine df s223 11 rfl rfl rfl rfl (by kernel_rfl) rfl fun w224 s225=>dD s225 0 6 _ _ rfl rfl rfl rfl iB rfl rfl rfl rfl fun w226 s227=>aR rfl (aD ?_)
  refine dd s227 (by kernel_rfl) fun w228 s229=>c9 (aD ?_)
  refine dU s229 [1,2,3,8] [800] [] (qo (wr ((k4:Int)+1) ((k4+1:Nat):Int) (by omega))<|qe) fun _ w231 s232=>aD<|?_
  exact ⟨(k4+1),⟨oa214,c215,by omega,((s232.keep (E':=[⟨1,[],Pt B1 0⟩,⟨2,[],Pt B5 0⟩,⟨3,[],Pt B12 0⟩,⟨8,[],I ((k4+1:Nat):Int)⟩]) [1,2,3,8] (by kernel_rfl)).sub (.cons _ (.refl _))).re rfl (by rw [bS hx201] <;> rfl)⟩,by omega⟩
 have k4_eq:k4=l.slots.length:=by omega
 refine wp_exit<|aY (aY (cP (aD ?_)))
 refine wp_seq<|zs s199 [1,2,3,9] [(9,I 0)] qe fun _ w234 s235=>wp_block<|?_
 have s236:=s235.nilR 9 1 aJ
 have hN5:=hL.phasesN
 refine aO (α:=Nat) (fun k5 aI wI=>∃ oa_phases:Option Addr,∃ c_phases:Nat,(k5≤l.phases.length)∧(Sta 139 [] w [⟨1,[],Pt B1 0⟩,⟨2,[],Pt B5 0⟩,⟨3,[],Pt B12 0⟩,⟨9,[],I (k5:Int)⟩] [oR 9 1 aJ oa_phases c_phases ((l.phases.take k5).map aX.name),oR 9 1 aJ oa_slots c_slots ((l.slots.take k4).map j3.name),oR 9 1 aJ oa_windows c_windows ((l.windows.take k3).map cQ.name),oR 9 1 aJ oa_teams c_teams ((l.teams.take k2).map cX.name),oR 9 1 aJ oa_grounds c_grounds ((l.grounds.take k1).map bZ.name),oR 9 1 aJ oa_towns c_towns ((l.towns.take k0).map iY.name),cI B12 227 [.slice oa_towns (((l.towns.take k0).map iY.name).length) c_towns,.slice oa_grounds (((l.grounds.take k1).map bZ.name).length) c_grounds,.slice oa_teams (((l.teams.take k2).map cX.name).length) c_teams,.slice oa_windows (((l.windows.take k3).map cQ.name).length) c_windows,.slice oa_slots (((l.slots.take k4).map j3.name).length) c_slots,.slice oa_phases (((l.phases.take k5).map aX.name).length) c_phases,.slice none 0 0],cI B5 227 [.slice none 0 0,.slice none 0 0,.slice none 0 0,.slice none 0 0,.slice none 0 0,.slice none 0 0,.slice none 0 0],cI B1 34 (aB l)] aI wI)) (fun k5=>l.phases.length-k5) 0 ⟨none,0,Nat.zero_le _,s236.kp⟩<|?_
 rintro k5 a239 w238 ⟨oa_phases,c_phases,k5_le,s237⟩
 refine wp_seq<|zs s237 [1,2,3,9,106] [(106,Bo (decide ((k5:Int)<(l.phases.length:Int))))] (qo (fa w238 B1 0 cG)<|qo (s237.m.ld 31 8 13 iE rfl rfl)<|qo (ln w238 3 l.phasesA l.phases.length l.phasesC g9)<|qe) fun _ w241 s242=>aQ s242.f rfl (fun h243=>?_) (fun h243=>?_)
 ·have k5_lt:k5<l.phases.length:=by omega
  obtain ⟨x,hx244⟩:=cD (xs:=l.phases) k5_lt
  refine wp_skip<|aD<|wp_seq<|wp_block<|aL MO 9<|nD s242 [1,2,3,9,110,116] [11001,11606] [] 0 [some [1],some [],some [8,7,6,5,3],some [8,7,6,5],some [8,7,6,5],some [8,7,6],some [8,7],some [8]] (qo (fa w241 B12 0 r8)<|qo (s242.m.ld 158 6 5 c8 rfl rfl)<|qo (fa w241 B1 0 cG)<|qo (s242.m.ld 31 8 13 iE rfl rfl)<|qo ((hL.phases.up s242.m).ia l.phasesC k5 g9 eL (by omega))<|qo (jZ w241 l.phasesA (k5*14) xZ)<|qo ((hL.phases.up s242.m).ld 9 k5 0 qQ hx244 rfl)<|qe) hq fun _ s247=>HN s247 8 rfl rfl rfl rfl (by kernel_rfl) fun w248 s249=>FN s249 0 (vs:=[.string x.name]) (e:=9) [.string x.name] rfl rfl (fun _=>by kernel_rfl) rfl fun B250 a251 w252 hb254 s253=>aR rfl (aD ⟨hb254,?_⟩)
  refine df s253 9 rfl rfl rfl rfl (by kernel_rfl) rfl fun w255 s256=>oV s256 0 1 (xs:=(l.phases.take k5).map aX.name) (ys:=[x.name]) (oa:=oa_phases) (oa2:=(some ⟨B250,0,none⟩)) rfl rfl rfl rfl aU oF (s256.m.rowc (enc:=aJ) 0 ([x.name]) rfl aU rfl (Nat.le_of_ble_eq_true rfl)) (by first | omega | (simp only [bV]; omega)) (by simp only [maxLen]; first | omega | (simp only [bV]; omega)) rfl fun oa257 c258 a259 w260 s261=>aR rfl (aD ?_)
  refine df s261 10 rfl rfl rfl rfl (by kernel_rfl) rfl fun w262 s263=>fJ s263 [1,2,3,9,118,119] [11900] [(118,.slice oa257 ((((l.phases.take k5).map aX.name)++([x.name])).length) c258)] 0 1 (qo (fa w262 B12 0 r8)<|qe) fun _ w265 s266=>aR rfl (aD ?_)
  refine df s266 11 rfl rfl rfl rfl (by kernel_rfl) rfl fun w267 s268=>dD s268 0 7 _ _ rfl rfl rfl rfl iB rfl rfl rfl rfl fun w269 s270=>aR rfl (aD ?_)
  refine dd s270 (by kernel_rfl) fun w271 s272=>c9 (aD ?_)
  refine dU s272 [1,2,3,9] [900] [] (qo (wr ((k5:Int)+1) ((k5+1:Nat):Int) (by omega))<|qe) fun _ w274 s275=>aD<|?_
  exact ⟨(k5+1),⟨oa257,c258,by omega,((s275.keep (E':=[⟨1,[],Pt B1 0⟩,⟨2,[],Pt B5 0⟩,⟨3,[],Pt B12 0⟩,⟨9,[],I ((k5+1:Nat):Int)⟩]) [1,2,3,9] (by kernel_rfl)).sub (.cons _ (.refl _))).re rfl (by rw [bS hx244] <;> rfl)⟩,by omega⟩
 have k5_eq:k5=l.phases.length:=by omega
 refine wp_exit<|aY (aY (cP (aD ?_)))
 refine wp_seq<|zs s242 [1,2,3,10] [(10,I 0)] qe fun _ w277 s278=>wp_block<|?_
 have s279:=s278.nilR 9 1 aJ
 have hN6:=hL.condsN
 refine aO (α:=Nat) (fun k6 aI wI=>∃ oa_conds:Option Addr,∃ c_conds:Nat,(k6≤l.conds.length)∧(Sta 139 [] w [⟨1,[],Pt B1 0⟩,⟨2,[],Pt B5 0⟩,⟨3,[],Pt B12 0⟩,⟨10,[],I (k6:Int)⟩] [oR 9 1 aJ oa_conds c_conds ((l.conds.take k6).map cJ.name),oR 9 1 aJ oa_phases c_phases ((l.phases.take k5).map aX.name),oR 9 1 aJ oa_slots c_slots ((l.slots.take k4).map j3.name),oR 9 1 aJ oa_windows c_windows ((l.windows.take k3).map cQ.name),oR 9 1 aJ oa_teams c_teams ((l.teams.take k2).map cX.name),oR 9 1 aJ oa_grounds c_grounds ((l.grounds.take k1).map bZ.name),oR 9 1 aJ oa_towns c_towns ((l.towns.take k0).map iY.name),cI B12 227 [.slice oa_towns (((l.towns.take k0).map iY.name).length) c_towns,.slice oa_grounds (((l.grounds.take k1).map bZ.name).length) c_grounds,.slice oa_teams (((l.teams.take k2).map cX.name).length) c_teams,.slice oa_windows (((l.windows.take k3).map cQ.name).length) c_windows,.slice oa_slots (((l.slots.take k4).map j3.name).length) c_slots,.slice oa_phases (((l.phases.take k5).map aX.name).length) c_phases,.slice oa_conds (((l.conds.take k6).map cJ.name).length) c_conds],cI B5 227 [.slice none 0 0,.slice none 0 0,.slice none 0 0,.slice none 0 0,.slice none 0 0,.slice none 0 0,.slice none 0 0],cI B1 34 (aB l)] aI wI)) (fun k6=>l.conds.length-k6) 0 ⟨none,0,Nat.zero_le _,s279.kp⟩<|?_
 rintro k6 a282 w281 ⟨oa_conds,c_conds,k6_le,s280⟩
 refine wp_seq<|zs s280 [1,2,3,10,124] [(124,Bo (decide ((k6:Int)<(l.conds.length:Int))))] (qo (fa w281 B1 0 eV)<|qo (s280.m.ld 32 9 14 o6 rfl rfl)<|qo (ln w281 3 l.condsA l.conds.length l.condsC oQ)<|qe) fun _ w284 s285=>aQ s285.f rfl (fun h286=>?_) (fun h286=>?_)
 ·have k6_lt:k6<l.conds.length:=by omega
  obtain ⟨x,hx287⟩:=cD (xs:=l.conds) k6_lt
  refine wp_skip<|aD<|wp_seq<|wp_block<|aL MO 9<|nD s285 [1,2,3,10,128,134] [12801,13406] [] 0 [some [1],some [],some [8,7,6,5,3],some [8,7,6,5],some [8,7,6,5],some [8,7,6],some [8,7],some [8]] (qo (fa w284 B12 0 uZ)<|qo (s285.m.ld 158 7 6 c8 rfl rfl)<|qo (fa w284 B1 0 eV)<|qo (s285.m.ld 32 9 14 o6 rfl rfl)<|qo ((hL.conds.up s285.m).ia l.condsC k6 oQ iC (by omega))<|qo (jZ w284 l.condsA (k6*21) J1)<|qo ((hL.conds.up s285.m).ld 9 k6 0 qQ hx287 rfl)<|qe) hq fun _ s290=>HN s290 8 rfl rfl rfl rfl (by kernel_rfl) fun w291 s292=>FN s292 0 (vs:=[.string x.name]) (e:=9) [.string x.name] rfl rfl (fun _=>by kernel_rfl) rfl fun B293 a294 w295 hb297 s296=>aR rfl (aD ⟨hb297,?_⟩)
  refine df s296 9 rfl rfl rfl rfl (by kernel_rfl) rfl fun w298 s299=>oV s299 0 1 (xs:=(l.conds.take k6).map cJ.name) (ys:=[x.name]) (oa:=oa_conds) (oa2:=(some ⟨B293,0,none⟩)) rfl rfl rfl rfl aU oF (s299.m.rowc (enc:=aJ) 0 ([x.name]) rfl aU rfl (Nat.le_of_ble_eq_true rfl)) (by first | omega | (simp only [bV]; omega)) (by simp only [maxLen]; first | omega | (simp only [bV]; omega)) rfl fun oa300 c301 a302 w303 s304=>aR rfl (aD ?_)
  refine df s304 10 rfl rfl rfl rfl (by kernel_rfl) rfl fun w305 s306=>fJ s306 [1,2,3,10,136,137] [13700] [(136,.slice oa300 ((((l.conds.take k6).map cJ.name)++([x.name])).length) c301)] 0 1 (qo (fa w305 B12 0 uZ)<|qe) fun _ w308 s309=>aR rfl (aD ?_)
  refine df s309 11 rfl rfl rfl rfl (by kernel_rfl) rfl fun w310 s311=>dD s311 0 8 _ _ rfl rfl rfl rfl iB rfl rfl rfl rfl fun w312 s313=>aR rfl (aD ?_)
  refine dd s313 (by kernel_rfl) fun w314 s315=>c9 (aD ?_)
  refine dU s315 [1,2,3,10] [1000] [] (qo (wr ((k6:Int)+1) ((k6+1:Nat):Int) (by omega))<|qe) fun _ w317 s318=>aD<|?_
  exact ⟨(k6+1),⟨oa300,c301,by omega,((s318.keep (E':=[⟨1,[],Pt B1 0⟩,⟨2,[],Pt B5 0⟩,⟨3,[],Pt B12 0⟩,⟨10,[],I ((k6+1:Nat):Int)⟩]) [1,2,3,10] (by kernel_rfl)).sub (.cons _ (.refl _))).re rfl (by rw [bS hx287] <;> rfl)⟩,by omega⟩
 have k6_eq:k6=l.conds.length:=by omega
 refine wp_exit<|aY (aY (cP (aD ?_)))
 refine wp_seq<|aA<|zl s285 [2,138] [(138,.agg #[.slice oa_towns (((l.towns.take k0).map iY.name).length) c_towns,.slice oa_grounds (((l.grounds.take k1).map bZ.name).length) c_grounds,.slice oa_teams (((l.teams.take k2).map cX.name).length) c_teams,.slice oa_windows (((l.windows.take k3).map cQ.name).length) c_windows,.slice oa_slots (((l.slots.take k4).map j3.name).length) c_slots,.slice oa_phases (((l.phases.take k5).map aX.name).length) c_phases,.slice oa_conds (((l.conds.take k6).map cJ.name).length) c_conds])] 0 1 (qo (s285.m.lda 227 7 0 JJ rfl rfl rfl)<|qe) fun _ w320 s321=>dD s321 1 8 _ _ rfl rfl rfl rfl F5 rfl rfl rfl rfl fun w322 s323=>aR rfl<|aD<|aC<|pR [.agg #[.slice oa_towns (((l.towns.take k0).map iY.name).length) c_towns,.slice oa_grounds (((l.grounds.take k1).map bZ.name).length) c_grounds,.slice oa_teams (((l.teams.take k2).map cX.name).length) c_teams,.slice oa_windows (((l.windows.take k3).map cQ.name).length) c_windows,.slice oa_slots (((l.slots.take k4).map j3.name).length) c_slots,.slice oa_phases (((l.phases.take k5).map aX.name).length) c_phases,.slice oa_conds (((l.conds.take k6).map cJ.name).length) c_conds]] rfl s323 ⟨⟨_,rfl,bQ (k:=8) s323 JJ rfl rfl⟩,trivial⟩<|?_
 have sF:=s323.re (H':=[oR 9 1 aJ oa_conds c_conds ((l.conds.take k6).map cJ.name),oR 9 1 aJ oa_phases c_phases ((l.phases.take k5).map aX.name),oR 9 1 aJ oa_slots c_slots ((l.slots.take k4).map j3.name),oR 9 1 aJ oa_windows c_windows ((l.windows.take k3).map cQ.name),oR 9 1 aJ oa_teams c_teams ((l.teams.take k2).map cX.name),oR 9 1 aJ oa_grounds c_grounds ((l.grounds.take k1).map bZ.name),oR 9 1 aJ oa_towns c_towns ((l.towns.take k0).map iY.name),cI B12 227 [.slice oa_towns (((l.towns.take k0).map iY.name).length) c_towns,.slice oa_grounds (((l.grounds.take k1).map bZ.name).length) c_grounds,.slice oa_teams (((l.teams.take k2).map cX.name).length) c_teams,.slice oa_windows (((l.windows.take k3).map cQ.name).length) c_windows,.slice oa_slots (((l.slots.take k4).map j3.name).length) c_slots,.slice oa_phases (((l.phases.take k5).map aX.name).length) c_phases,.slice oa_conds (((l.conds.take k6).map cJ.name).length) c_conds],cI B5 227 [.slice oa_towns (((l.towns.take k0).map iY.name).length) c_towns,.slice oa_grounds (((l.grounds.take k1).map bZ.name).length) c_grounds,.slice oa_teams (((l.teams.take k2).map cX.name).length) c_teams,.slice oa_windows (((l.windows.take k3).map cQ.name).length) c_windows,.slice oa_slots (((l.slots.take k4).map j3.name).length) c_slots,.slice oa_phases (((l.phases.take k5).map aX.name).length) c_phases,.slice oa_conds (((l.conds.take k6).map cJ.name).length) c_conds],cI B1 34 (aB l)]) rfl rfl
 exact fX sF (⟨oa_towns,(l.towns.take k0).map iY.name,c_towns,oa_grounds,(l.grounds.take k1).map bZ.name,c_grounds,oa_teams,(l.teams.take k2).map cX.name,c_teams,oa_windows,(l.windows.take k3).map cQ.name,c_windows,oa_slots,(l.slots.take k4).map j3.name,c_slots,oa_phases,(l.phases.take k5).map aX.name,c_phases,oa_conds,(l.conds.take k6).map cJ.name,c_conds⟩:cE) rfl ⟨cK k0_eq,cK k1_eq,cK k2_eq,cK k3_eq,cK k4_eq,cK k5_eq,cK k6_eq⟩ (.ck _ (.ck _ (.ck _ (.ck _ (.ck _ (.ck _ (.ck _ (.cons _ (.cons _ (.cons _ (.slnil)))))))))))
theorem ST (x:cJ) (n:cE) (w:World) (hn:NamesAt w n):Calls Tryz.prog 204 #[.agg (aV x).toArray,.agg (dE n).toArray] w (eB (.tuple #[.agg (aV (g7 x n).1).toArray,Bo (g7 x n).2]) w):=by
 refine dX [.agg (aV x).toArray,.agg (dE n).toArray] Tryz.func204 rfl rfl rfl rfl fun _ s0=>?_
 have sm0:=hn.towns.small
 have sm1:=hn.grounds.small
 have sm2:=hn.teams.small
 have sm3:=hn.windows.small
 have sm4:=hn.slots.small
 have sm5:=hn.phases.small
 have sm6:=hn.conds.small
 refine wp_seq<|aA<|lb s0 0 _ rfl rfl rfl rfl fun B1 a2 w3 s4=>lb s4 1 _ rfl rfl rfl rfl fun B5 a6 w7 s8=>la s8 2 _ rfl OD rfl rfl fun B9 a10 w11 s12=>zl s12 [2,3,4] [(2,Pt B1 0),(3,Pt B5 0),(4,Pt B9 0)] 3 1 qe fun _ w14 s15=>aR rfl<|aD<|zs s15 [2,3,4] [] qe fun _ w17 s18=>wp_seq<|d5 s18 [2,3,4,8] [801] [] (qo (fa w17 B1 0 iH)<|qo (s18.m.ld 3 2 1 bM rfl rfl)<|qe) fun _ w20 s21=>wp_block<|wp_seq ?_
 refine zs s21 [2,3,4,8,9] [(9,Bo (x.kind==1))] qe fun _ w23 s24=>bA s24.f rfl (fun h25=>?_) (fun h25=>?_)
 ·refine wp_skip<|aD<|bA s24.f rfl (fun _=>?_) (fun hX=>by first | exact absurd h25 hX | exact absurd hX h25 | (rw [h25] at hX; cases hX))
  refine wp_seq<|aL MO 9<|zd s24 [4,14,22] [(14,.agg (aV x).toArray),(22,Bo ((aT x.a)&&(aT x.b)))] 0 [some [],some [7,4,3,2],some [7,4,3],some [7,4],some [7],some [7,6],some [7],some [],none] (qo (s24.m.lda 178 2 0 fH rfl rfl rfl)<|qo (fa w23 B1 0 dN)<|qo (s24.m.lda 148 2 2 dK rfl rfl rfl)<|qo (yc w23 m4 fun w' hb=>fY x.a w')<|qo (fa w23 B1 0 dW)<|qo (s24.m.lda 148 2 4 dK rfl rfl rfl)<|qo (yc w23 m4 fun w' hb=>fY x.b w')<|qe) hq fun _ s29=>df s29 9 rfl rfl rfl rfl (by kernel_rfl) rfl fun w30 s31=>dD s31 0 0 _ _ rfl rfl rfl rfl iC rfl rfl rfl rfl fun w32 s33=>aR rfl (aD ?_)
  refine df s33 10 rfl rfl rfl rfl (by kernel_rfl) rfl fun w34 s35=>zl s35 [4,5] [(5,Bo ((aT x.a)&&(aT x.b)))] 0 1 qe fun _ w37 s38=>aR rfl (aD ?_)
  refine dd s38 (by kernel_rfl) fun w39 s40=>aD<|aC<|bP (aN (pR [.agg (aV x).toArray,Bo ((aT x.a)&&(aT x.b))] rfl s40 ⟨⟨_,rfl,bQ (k:=0) s40 fH rfl rfl⟩,rfl,trivial⟩ ?_))
  have hR:g7 x n=(x,(aT x.a)&&(aT x.b)):=iP h25 rfl
  exact gX s40 (congrArg (fun r:cJ × Bool=>Value.agg (aV r.1).toArray) hR.symm) (congrArg (fun r:cJ × Bool=>Bo r.2) hR.symm)
 refine zs s24 [2,3,4,8,9] [(9,Bo (x.kind==2))] qe fun _ w42 s43=>bA s43.f rfl (fun h44=>?_) (fun h44=>?_)
 ·refine wp_skip<|aD<|bA s43.f rfl (fun _=>?_) (fun hX=>by first | exact absurd h44 hX | exact absurd hX h44 | (rw [h44] at hX; cases hX))
  refine wp_seq<|aL MO 9<|zd s43 [4,14,22] [(14,.agg (aV x).toArray),(22,Bo ((aT x.a)&&(aT x.b)))] 0 [some [],some [7,4,3,2],some [7,4,3],some [7,4],some [7],some [7,6],some [7],some [],none] (qo (s43.m.lda 178 2 0 fH rfl rfl rfl)<|qo (fa w42 B1 0 dN)<|qo (s43.m.lda 148 2 2 dK rfl rfl rfl)<|qo (yc w42 m4 fun w' hb=>fY x.a w')<|qo (fa w42 B1 0 dW)<|qo (s43.m.lda 148 2 4 dK rfl rfl rfl)<|qo (yc w42 m4 fun w' hb=>fY x.b w')<|qe) hq fun _ s48=>df s48 9 rfl rfl rfl rfl (by kernel_rfl) rfl fun w49 s50=>dD s50 0 0 _ _ rfl rfl rfl rfl iC rfl rfl rfl rfl fun w51 s52=>aR rfl (aD ?_)
  refine df s52 10 rfl rfl rfl rfl (by kernel_rfl) rfl fun w53 s54=>zl s54 [4,5] [(5,Bo ((aT x.a)&&(aT x.b)))] 0 1 qe fun _ w56 s57=>aR rfl (aD ?_)
  refine dd s57 (by kernel_rfl) fun w58 s59=>aD<|aC<|bP (aN (pR [.agg (aV x).toArray,Bo ((aT x.a)&&(aT x.b))] rfl s59 ⟨⟨_,rfl,bQ (k:=0) s59 fH rfl rfl⟩,rfl,trivial⟩ ?_))
  have hR:g7 x n=(x,(aT x.a)&&(aT x.b)):=iM h25 (iP h44 rfl)
  exact gX s59 (congrArg (fun r:cJ × Bool=>Value.agg (aV r.1).toArray) hR.symm) (congrArg (fun r:cJ × Bool=>Bo r.2) hR.symm)
 refine zs s43 [2,3,4,8,9] [(9,Bo (x.kind==3))] qe fun _ w61 s62=>bA s62.f rfl (fun h63=>?_) (fun h63=>?_)
 ·refine wp_skip<|aD<|bA s62.f rfl (fun _=>?_) (fun hX=>by first | exact absurd h63 hX | exact absurd hX h63 | (rw [h63] at hX; cases hX))
  refine wp_seq<|aL MO 9<|zd s62 [4,14,22] [(14,.agg (aV x).toArray),(22,Bo ((aT x.a)&&(aT x.b)))] 0 [some [],some [7,4,3,2],some [7,4,3],some [7,4],some [7],some [7,6],some [7],some [],none] (qo (s62.m.lda 178 2 0 fH rfl rfl rfl)<|qo (fa w61 B1 0 dN)<|qo (s62.m.lda 148 2 2 dK rfl rfl rfl)<|qo (yc w61 m4 fun w' hb=>fY x.a w')<|qo (fa w61 B1 0 dW)<|qo (s62.m.lda 148 2 4 dK rfl rfl rfl)<|qo (yc w61 m4 fun w' hb=>fY x.b w')<|qe) hq fun _ s67=>df s67 9 rfl rfl rfl rfl (by kernel_rfl) rfl fun w68 s69=>dD s69 0 0 _ _ rfl rfl rfl rfl iC rfl rfl rfl rfl fun w70 s71=>aR rfl (aD ?_)
  refine df s71 10 rfl rfl rfl rfl (by kernel_rfl) rfl fun w72 s73=>zl s73 [4,5] [(5,Bo ((aT x.a)&&(aT x.b)))] 0 1 qe fun _ w75 s76=>aR rfl (aD ?_)
  refine dd s76 (by kernel_rfl) fun w77 s78=>aD<|aC<|bP (aN (pR [.agg (aV x).toArray,Bo ((aT x.a)&&(aT x.b))] rfl s78 ⟨⟨_,rfl,bQ (k:=0) s78 fH rfl rfl⟩,rfl,trivial⟩ ?_))
  have hR:g7 x n=(x,(aT x.a)&&(aT x.b)):=iM h25 (iM h44 (iP h63 rfl))
  exact gX s78 (congrArg (fun r:cJ × Bool=>Value.agg (aV r.1).toArray) hR.symm) (congrArg (fun r:cJ × Bool=>Bo r.2) hR.symm)
 refine zq s62 [2,3,4,8,9] [(9,Bo (x.kind==10))] qe fun _ w80 s81=>aD<|bA s81.f rfl (fun h82=>?_) (fun h82=>?_)
 ·refine wp_seq<|aL MO 9<|zd s81 [4,14,22] [(14,.agg (aV x).toArray),(22,Bo ((aT x.a)&&(aT x.b)))] 0 [some [],some [7,4,3,2],some [7,4,3],some [7,4],some [7],some [7,6],some [7],some [],none] (qo (s81.m.lda 178 2 0 fH rfl rfl rfl)<|qo (fa w80 B1 0 dN)<|qo (s81.m.lda 148 2 2 dK rfl rfl rfl)<|qo (yc w80 m4 fun w' hb=>fY x.a w')<|qo (fa w80 B1 0 dW)<|qo (s81.m.lda 148 2 4 dK rfl rfl rfl)<|qo (yc w80 m4 fun w' hb=>fY x.b w')<|qe) hq fun _ s85=>df s85 9 rfl rfl rfl rfl (by kernel_rfl) rfl fun w86 s87=>dD s87 0 0 _ _ rfl rfl rfl rfl iC rfl rfl rfl rfl fun w88 s89=>aR rfl (aD ?_)
  refine df s89 10 rfl rfl rfl rfl (by kernel_rfl) rfl fun w90 s91=>zl s91 [4,5] [(5,Bo ((aT x.a)&&(aT x.b)))] 0 1 qe fun _ w93 s94=>aR rfl (aD ?_)
  refine dd s94 (by kernel_rfl) fun w95 s96=>aD<|aC<|bP (aN (pR [.agg (aV x).toArray,Bo ((aT x.a)&&(aT x.b))] rfl s96 ⟨⟨_,rfl,bQ (k:=0) s96 fH rfl rfl⟩,rfl,trivial⟩ ?_))
  have hR:g7 x n=(x,(aT x.a)&&(aT x.b)):=iM h25 (iM h44 (iM h63 (iP h82 rfl)))
  exact gX s96 (congrArg (fun r:cJ × Bool=>Value.agg (aV r.1).toArray) hR.symm) (congrArg (fun r:cJ × Bool=>Bo r.2) hR.symm)
 refine zs s81 [2,3,4,8,23] [(23,Bo (x.kind==4))] qe fun _ w98 s99=>bA s99.f rfl (fun h100=>?_) (fun h100=>?_)
 ·refine wp_seq<|aA<|fJ s99 [2,4,31,32,33] [3300] [(31,.agg #[.string x.a.name,I (aH n.grounds x.a.name)]),(32,Bo (decide (aH n.grounds x.a.name≥0)))] 0 9 (qo (fa w98 B1 0 dN)<|qo (s99.m.lda 148 2 2 dK rfl rfl rfl)<|qo (fa w98 B5 0 qA)<|qo (s99.m.ld 158 1 1 c8 rfl rfl)<|qo (yc w98 lQ fun w' hb=>gJ x.a n.groundsA n.grounds n.groundsC w' ((hn.grounds.up s99.m).grow hb))<|qo (fa w98 B1 0 dN)<|qe) fun _ w102 s103=>dD s103 9 2 _ _ rfl rfl rfl rfl eD rfl rfl rfl rfl fun w104 s105=>zl s105 [2,4,6] [(6,Bo (decide (aH n.grounds x.a.name≥0)))] 10 1 qe fun _ w107 s108=>aR rfl<|aD<|wp_seq<|aL MO 7<|zd s108 [4,34,40] [(34,.agg #[.string x.name,I x.kind,.string x.a.name,I (aH n.grounds x.a.name),.string x.b.name,I x.b.n,I x.n,I x.frm.year,I x.frm.month,I x.frm.day,I x.to.year,I x.to.month,I x.to.day,Bo x.week.b0,Bo x.week.b1,Bo x.week.b2,Bo x.week.b3,Bo x.week.b4,Bo x.week.b5,Bo x.week.b6,I x.price]),(40,Bo ((decide (aH n.grounds x.a.name≥0))&&(aT x.b)))] 0 [some [],some [5,2],some [5],some [5,4],some [5],some [],none] (qo (s108.m.lda 178 2 0 fH rfl rfl rfl)<|qo (fa w107 B1 0 dW)<|qo (s108.m.lda 148 2 4 dK rfl rfl rfl)<|qo (yc w107 m4 fun w' hb=>fY x.b w')<|qe) hq fun _ s111=>df s111 7 rfl rfl rfl rfl (by kernel_rfl) rfl fun w112 s113=>dD s113 0 0 _ _ rfl rfl rfl rfl iC rfl rfl rfl rfl fun w114 s115=>aR rfl (aD ?_)
  refine df s115 8 rfl rfl rfl rfl (by kernel_rfl) rfl fun w116 s117=>zl s117 [4,5] [(5,Bo ((decide (aH n.grounds x.a.name≥0))&&(aT x.b)))] 0 1 qe fun _ w119 s120=>aR rfl (aD ?_)
  refine dd s120 (by kernel_rfl) fun w121 s122=>aD<|aC<|bP (aN (pR [.agg #[.string x.name,I x.kind,.string x.a.name,I (aH n.grounds x.a.name),.string x.b.name,I x.b.n,I x.n,I x.frm.year,I x.frm.month,I x.frm.day,I x.to.year,I x.to.month,I x.to.day,Bo x.week.b0,Bo x.week.b1,Bo x.week.b2,Bo x.week.b3,Bo x.week.b4,Bo x.week.b5,Bo x.week.b6,I x.price],Bo ((decide (aH n.grounds x.a.name≥0))&&(aT x.b))] rfl s122 ⟨⟨_,rfl,bQ (k:=0) s122 fH rfl rfl⟩,rfl,trivial⟩ ?_))
  have hR:g7 x n=((⟨x.name,x.kind,⟨x.a.name,aH n.grounds x.a.name⟩,⟨x.b.name,x.b.n⟩,x.n,⟨x.frm.year,x.frm.month,x.frm.day⟩,⟨x.to.year,x.to.month,x.to.day⟩,⟨x.week.b0,x.week.b1,x.week.b2,x.week.b3,x.week.b4,x.week.b5,x.week.b6⟩,x.price⟩:cJ),(decide (aH n.grounds x.a.name≥0))&&(aT x.b)):=iM h25 (iM h44 (iM h63 (iM h82 (iP h100 rfl))))
  exact gX s122 (congrArg (fun r:cJ × Bool=>Value.agg (aV r.1).toArray) hR.symm) (congrArg (fun r:cJ × Bool=>Bo r.2) hR.symm)
 refine zs s99 [2,3,4,8,41] [(41,Bo (x.kind==5))] qe fun _ w124 s125=>bA s125.f rfl (fun h126=>?_) (fun h126=>?_)
 ·refine wp_seq<|aA<|fJ s125 [2,4,49,50,51] [5100] [(49,.agg #[.string x.a.name,I (aH n.teams x.a.name)]),(50,Bo (decide (aH n.teams x.a.name≥0)))] 0 9 (qo (fa w124 B1 0 dN)<|qo (s125.m.lda 148 2 2 dK rfl rfl rfl)<|qo (fa w124 B5 0 j8)<|qo (s125.m.ld 158 1 2 c8 rfl rfl)<|qo (yc w124 lQ fun w' hb=>gJ x.a n.teamsA n.teams n.teamsC w' ((hn.teams.up s125.m).grow hb))<|qo (fa w124 B1 0 dN)<|qe) fun _ w128 s129=>dD s129 9 2 _ _ rfl rfl rfl rfl eD rfl rfl rfl rfl fun w130 s131=>zl s131 [2,4,6] [(6,Bo (decide (aH n.teams x.a.name≥0)))] 10 1 qe fun _ w133 s134=>aR rfl<|aD<|wp_seq<|aL MO 7<|zd s134 [4,52,58] [(52,.agg #[.string x.name,I x.kind,.string x.a.name,I (aH n.teams x.a.name),.string x.b.name,I x.b.n,I x.n,I x.frm.year,I x.frm.month,I x.frm.day,I x.to.year,I x.to.month,I x.to.day,Bo x.week.b0,Bo x.week.b1,Bo x.week.b2,Bo x.week.b3,Bo x.week.b4,Bo x.week.b5,Bo x.week.b6,I x.price]),(58,Bo ((decide (aH n.teams x.a.name≥0))&&(aT x.b)))] 0 [some [],some [5,2],some [5],some [5,4],some [5],some [],none] (qo (s134.m.lda 178 2 0 fH rfl rfl rfl)<|qo (fa w133 B1 0 dW)<|qo (s134.m.lda 148 2 4 dK rfl rfl rfl)<|qo (yc w133 m4 fun w' hb=>fY x.b w')<|qe) hq fun _ s137=>df s137 7 rfl rfl rfl rfl (by kernel_rfl) rfl fun w138 s139=>dD s139 0 0 _ _ rfl rfl rfl rfl iC rfl rfl rfl rfl fun w140 s141=>aR rfl (aD ?_)
  refine df s141 8 rfl rfl rfl rfl (by kernel_rfl) rfl fun w142 s143=>zl s143 [4,5] [(5,Bo ((decide (aH n.teams x.a.name≥0))&&(aT x.b)))] 0 1 qe fun _ w145 s146=>aR rfl (aD ?_)
  refine dd s146 (by kernel_rfl) fun w147 s148=>aD<|aC<|bP (aN (pR [.agg #[.string x.name,I x.kind,.string x.a.name,I (aH n.teams x.a.name),.string x.b.name,I x.b.n,I x.n,I x.frm.year,I x.frm.month,I x.frm.day,I x.to.year,I x.to.month,I x.to.day,Bo x.week.b0,Bo x.week.b1,Bo x.week.b2,Bo x.week.b3,Bo x.week.b4,Bo x.week.b5,Bo x.week.b6,I x.price],Bo ((decide (aH n.teams x.a.name≥0))&&(aT x.b))] rfl s148 ⟨⟨_,rfl,bQ (k:=0) s148 fH rfl rfl⟩,rfl,trivial⟩ ?_))
  have hR:g7 x n=((⟨x.name,x.kind,⟨x.a.name,aH n.teams x.a.name⟩,⟨x.b.name,x.b.n⟩,x.n,⟨x.frm.year,x.frm.month,x.frm.day⟩,⟨x.to.year,x.to.month,x.to.day⟩,⟨x.week.b0,x.week.b1,x.week.b2,x.week.b3,x.week.b4,x.week.b5,x.week.b6⟩,x.price⟩:cJ),(decide (aH n.teams x.a.name≥0))&&(aT x.b)):=iM h25 (iM h44 (iM h63 (iM h82 (iM h100 (iP h126 rfl)))))
  exact gX s148 (congrArg (fun r:cJ × Bool=>Value.agg (aV r.1).toArray) hR.symm) (congrArg (fun r:cJ × Bool=>Bo r.2) hR.symm)
 refine zs s125 [2,3,4,8,59] [(59,Bo (x.kind==7))] qe fun _ w150 s151=>bA s151.f rfl (fun h152=>?_) (fun h152=>?_)
 ·refine wp_seq<|aA<|fJ s151 [2,4,67,68,69] [6900] [(67,.agg #[.string x.a.name,I (aH n.towns x.a.name)]),(68,Bo (decide (aH n.towns x.a.name≥0)))] 0 9 (qo (fa w150 B1 0 dN)<|qo (s151.m.lda 148 2 2 dK rfl rfl rfl)<|qo (fa w150 B5 0 mH)<|qo (s151.m.ld 158 1 0 c8 rfl rfl)<|qo (yc w150 lQ fun w' hb=>gJ x.a n.townsA n.towns n.townsC w' ((hn.towns.up s151.m).grow hb))<|qo (fa w150 B1 0 dN)<|qe) fun _ w154 s155=>dD s155 9 2 _ _ rfl rfl rfl rfl eD rfl rfl rfl rfl fun w156 s157=>zl s157 [2,4,6] [(6,Bo (decide (aH n.towns x.a.name≥0)))] 10 1 qe fun _ w159 s160=>aR rfl<|aD<|wp_seq<|aL MO 7<|zd s160 [4,70,76] [(70,.agg #[.string x.name,I x.kind,.string x.a.name,I (aH n.towns x.a.name),.string x.b.name,I x.b.n,I x.n,I x.frm.year,I x.frm.month,I x.frm.day,I x.to.year,I x.to.month,I x.to.day,Bo x.week.b0,Bo x.week.b1,Bo x.week.b2,Bo x.week.b3,Bo x.week.b4,Bo x.week.b5,Bo x.week.b6,I x.price]),(76,Bo ((decide (aH n.towns x.a.name≥0))&&(aT x.b)))] 0 [some [],some [5,2],some [5],some [5,4],some [5],some [],none] (qo (s160.m.lda 178 2 0 fH rfl rfl rfl)<|qo (fa w159 B1 0 dW)<|qo (s160.m.lda 148 2 4 dK rfl rfl rfl)<|qo (yc w159 m4 fun w' hb=>fY x.b w')<|qe) hq fun _ s163=>df s163 7 rfl rfl rfl rfl (by kernel_rfl) rfl fun w164 s165=>dD s165 0 0 _ _ rfl rfl rfl rfl iC rfl rfl rfl rfl fun w166 s167=>aR rfl (aD ?_)
  refine df s167 8 rfl rfl rfl rfl (by kernel_rfl) rfl fun w168 s169=>zl s169 [4,5] [(5,Bo ((decide (aH n.towns x.a.name≥0))&&(aT x.b)))] 0 1 qe fun _ w171 s172=>aR rfl (aD ?_)
  refine dd s172 (by kernel_rfl) fun w173 s174=>aD<|aC<|bP (aN (pR [.agg #[.string x.name,I x.kind,.string x.a.name,I (aH n.towns x.a.name),.string x.b.name,I x.b.n,I x.n,I x.frm.year,I x.frm.month,I x.frm.day,I x.to.year,I x.to.month,I x.to.day,Bo x.week.b0,Bo x.week.b1,Bo x.week.b2,Bo x.week.b3,Bo x.week.b4,Bo x.week.b5,Bo x.week.b6,I x.price],Bo ((decide (aH n.towns x.a.name≥0))&&(aT x.b))] rfl s174 ⟨⟨_,rfl,bQ (k:=0) s174 fH rfl rfl⟩,rfl,trivial⟩ ?_))
  have hR:g7 x n=((⟨x.name,x.kind,⟨x.a.name,aH n.towns x.a.name⟩,⟨x.b.name,x.b.n⟩,x.n,⟨x.frm.year,x.frm.month,x.frm.day⟩,⟨x.to.year,x.to.month,x.to.day⟩,⟨x.week.b0,x.week.b1,x.week.b2,x.week.b3,x.week.b4,x.week.b5,x.week.b6⟩,x.price⟩:cJ),(decide (aH n.towns x.a.name≥0))&&(aT x.b)):=iM h25 (iM h44 (iM h63 (iM h82 (iM h100 (iM h126 (iP h152 rfl))))))
  exact gX s174 (congrArg (fun r:cJ × Bool=>Value.agg (aV r.1).toArray) hR.symm) (congrArg (fun r:cJ × Bool=>Bo r.2) hR.symm)
 refine wp_seq<|zs s151 [2,3,4,8,77] [(77,Bo (x.kind==6))] qe fun _ w176 s177=>bA s177.f rfl (fun h178=>?_) (fun h178=>?_)
 ·refine wp_skip<|aD<|bA s177.f rfl (fun _=>?_) (fun hX=>by first | exact absurd h178 hX | exact absurd hX h178 | (rw [h178] at hX; cases hX))
  refine wp_seq<|aA<|fJ s177 [2,3,4,87,88,89] [8900] [(87,.agg #[.string x.a.name,I (aH n.teams x.a.name)]),(88,Bo (decide (aH n.teams x.a.name≥0)))] 0 9 (qo (fa w176 B1 0 dN)<|qo (s177.m.lda 148 2 2 dK rfl rfl rfl)<|qo (fa w176 B5 0 j8)<|qo (s177.m.ld 158 1 2 c8 rfl rfl)<|qo (yc w176 lQ fun w' hb=>gJ x.a n.teamsA n.teams n.teamsC w' ((hn.teams.up s177.m).grow hb))<|qo (fa w176 B1 0 dN)<|qe) fun _ w181 s182=>dD s182 9 2 _ _ rfl rfl rfl rfl eD rfl rfl rfl rfl fun w183 s184=>zl s184 [2,3,4,6] [(6,Bo (decide (aH n.teams x.a.name≥0)))] 10 1 qe fun _ w186 s187=>aR rfl<|aD<|wp_seq<|zs s187 [2,3,4,91] [(91,Bo (!(decide (aH n.teams x.a.name≥0))))] qe fun _ w189 s190=>bR s190.f rfl (fun h191=>?_) (fun h191=>?_)
  ·refine wp_seq<|aA<|zl s190 [4,92] [(92,.agg #[.string x.name,I x.kind,.string x.a.name,I (aH n.teams x.a.name),.string x.b.name,I x.b.n,I x.n,I x.frm.year,I x.frm.month,I x.frm.day,I x.to.year,I x.to.month,I x.to.day,Bo x.week.b0,Bo x.week.b1,Bo x.week.b2,Bo x.week.b3,Bo x.week.b4,Bo x.week.b5,Bo x.week.b6,I x.price])] 0 1 (qo (s190.m.lda 178 2 0 fH rfl rfl rfl)<|qe) fun _ w193 s194=>dD s194 1 0 _ _ rfl rfl rfl rfl iC rfl rfl rfl rfl fun w195 s196=>zl s196 [4,5] [(5,Bo false)] 2 1 qe fun _ w198 s199=>aR rfl<|aD<|aC<|aN (bP (aN (pR [.agg #[.string x.name,I x.kind,.string x.a.name,I (aH n.teams x.a.name),.string x.b.name,I x.b.n,I x.n,I x.frm.year,I x.frm.month,I x.frm.day,I x.to.year,I x.to.month,I x.to.day,Bo x.week.b0,Bo x.week.b1,Bo x.week.b2,Bo x.week.b3,Bo x.week.b4,Bo x.week.b5,Bo x.week.b6,I x.price],Bo false] rfl s199 ⟨⟨_,rfl,bQ (k:=0) s199 fH rfl rfl⟩,rfl,trivial⟩ ?_)))
   have hR:g7 x n=((⟨x.name,x.kind,⟨x.a.name,aH n.teams x.a.name⟩,⟨x.b.name,x.b.n⟩,x.n,⟨x.frm.year,x.frm.month,x.frm.day⟩,⟨x.to.year,x.to.month,x.to.day⟩,⟨x.week.b0,x.week.b1,x.week.b2,x.week.b3,x.week.b4,x.week.b5,x.week.b6⟩,x.price⟩:cJ),false):=iM h25 (iM h44 (iM h63 (iM h82 (iM h100 (iM h126 (iM h152 (iP h178 (iP h191 rfl))))))))
   exact gX s199 (congrArg (fun r:cJ × Bool=>Value.agg (aV r.1).toArray) hR.symm) (congrArg (fun r:cJ × Bool=>Bo r.2) hR.symm)
  refine wp_skip<|aD<|wp_seq<|aA<|fJ s190 [2,4,99,100,101] [10100] [(99,.agg #[.string x.b.name,I (aH n.teams x.b.name)]),(100,Bo (decide (aH n.teams x.b.name≥0)))] 0 9 (qo (fa w189 B1 0 dW)<|qo (s190.m.lda 148 2 4 dK rfl rfl rfl)<|qo (fa w189 B5 0 j8)<|qo (s190.m.ld 158 1 2 c8 rfl rfl)<|qo (yc w189 lQ fun w' hb=>gJ x.b n.teamsA n.teams n.teamsC w' ((hn.teams.up s190.m).grow hb))<|qo (fa w189 B1 0 dW)<|qe) fun _ w201 s202=>dD s202 9 2 _ _ rfl rfl rfl rfl eD rfl rfl rfl rfl fun w203 s204=>zl s204 [2,4,6] [(6,Bo (decide (aH n.teams x.b.name≥0)))] 10 1 qe fun _ w206 s207=>aR rfl<|aD<|wp_seq<|aA<|zl s207 [4,102,103] [(102,.agg #[.string x.name,I x.kind,.string x.a.name,I (aH n.teams x.a.name),.string x.b.name,I (aH n.teams x.b.name),I x.n,I x.frm.year,I x.frm.month,I x.frm.day,I x.to.year,I x.to.month,I x.to.day,Bo x.week.b0,Bo x.week.b1,Bo x.week.b2,Bo x.week.b3,Bo x.week.b4,Bo x.week.b5,Bo x.week.b6,I x.price]),(103,Bo (decide (aH n.teams x.b.name≥0)))] 0 2 (qo (s207.m.lda 178 2 0 fH rfl rfl rfl)<|qe) fun _ w209 s210=>dD s210 2 0 _ _ rfl rfl rfl rfl iC rfl rfl rfl rfl fun w211 s212=>?_
  refine zl s212 [4,5] [(5,Bo (decide (aH n.teams x.b.name≥0)))] 3 1 qe fun _ w214 s215=>aR rfl<|aD<|aC<|bP (aN (pR [.agg #[.string x.name,I x.kind,.string x.a.name,I (aH n.teams x.a.name),.string x.b.name,I (aH n.teams x.b.name),I x.n,I x.frm.year,I x.frm.month,I x.frm.day,I x.to.year,I x.to.month,I x.to.day,Bo x.week.b0,Bo x.week.b1,Bo x.week.b2,Bo x.week.b3,Bo x.week.b4,Bo x.week.b5,Bo x.week.b6,I x.price],Bo (decide (aH n.teams x.b.name≥0))] rfl s215 ⟨⟨_,rfl,bQ (k:=0) s215 fH rfl rfl⟩,rfl,trivial⟩ ?_))
  have hR:g7 x n=((⟨x.name,x.kind,⟨x.a.name,aH n.teams x.a.name⟩,⟨x.b.name,aH n.teams x.b.name⟩,x.n,⟨x.frm.year,x.frm.month,x.frm.day⟩,⟨x.to.year,x.to.month,x.to.day⟩,⟨x.week.b0,x.week.b1,x.week.b2,x.week.b3,x.week.b4,x.week.b5,x.week.b6⟩,x.price⟩:cJ),decide (aH n.teams x.b.name≥0)):=iM h25 (iM h44 (iM h63 (iM h82 (iM h100 (iM h126 (iM h152 (iP h178 (iT h191 rfl))))))))
  exact gX s215 (congrArg (fun r:cJ × Bool=>Value.agg (aV r.1).toArray) hR.symm) (congrArg (fun r:cJ × Bool=>Bo r.2) hR.symm)
 refine zs s177 [2,3,4,8,77] [(77,Bo (x.kind==8))] qe fun _ w217 s218=>bA s218.f rfl (fun h219=>?_) (fun h219=>?_)
 ·refine wp_skip<|aD<|bA s218.f rfl (fun _=>?_) (fun hX=>by first | exact absurd h219 hX | exact absurd hX h219 | (rw [h219] at hX; cases hX))
  refine wp_seq<|aA<|fJ s218 [2,3,4,87,88,89] [8900] [(87,.agg #[.string x.a.name,I (aH n.teams x.a.name)]),(88,Bo (decide (aH n.teams x.a.name≥0)))] 0 9 (qo (fa w217 B1 0 dN)<|qo (s218.m.lda 148 2 2 dK rfl rfl rfl)<|qo (fa w217 B5 0 j8)<|qo (s218.m.ld 158 1 2 c8 rfl rfl)<|qo (yc w217 lQ fun w' hb=>gJ x.a n.teamsA n.teams n.teamsC w' ((hn.teams.up s218.m).grow hb))<|qo (fa w217 B1 0 dN)<|qe) fun _ w222 s223=>dD s223 9 2 _ _ rfl rfl rfl rfl eD rfl rfl rfl rfl fun w224 s225=>zl s225 [2,3,4,6] [(6,Bo (decide (aH n.teams x.a.name≥0)))] 10 1 qe fun _ w227 s228=>aR rfl<|aD<|wp_seq<|zs s228 [2,3,4,91] [(91,Bo (!(decide (aH n.teams x.a.name≥0))))] qe fun _ w230 s231=>bR s231.f rfl (fun h232=>?_) (fun h232=>?_)
  ·refine wp_seq<|aA<|zl s231 [4,92] [(92,.agg #[.string x.name,I x.kind,.string x.a.name,I (aH n.teams x.a.name),.string x.b.name,I x.b.n,I x.n,I x.frm.year,I x.frm.month,I x.frm.day,I x.to.year,I x.to.month,I x.to.day,Bo x.week.b0,Bo x.week.b1,Bo x.week.b2,Bo x.week.b3,Bo x.week.b4,Bo x.week.b5,Bo x.week.b6,I x.price])] 0 1 (qo (s231.m.lda 178 2 0 fH rfl rfl rfl)<|qe) fun _ w234 s235=>dD s235 1 0 _ _ rfl rfl rfl rfl iC rfl rfl rfl rfl fun w236 s237=>zl s237 [4,5] [(5,Bo false)] 2 1 qe fun _ w239 s240=>aR rfl<|aD<|aC<|aN (bP (aN (pR [.agg #[.string x.name,I x.kind,.string x.a.name,I (aH n.teams x.a.name),.string x.b.name,I x.b.n,I x.n,I x.frm.year,I x.frm.month,I x.frm.day,I x.to.year,I x.to.month,I x.to.day,Bo x.week.b0,Bo x.week.b1,Bo x.week.b2,Bo x.week.b3,Bo x.week.b4,Bo x.week.b5,Bo x.week.b6,I x.price],Bo false] rfl s240 ⟨⟨_,rfl,bQ (k:=0) s240 fH rfl rfl⟩,rfl,trivial⟩ ?_)))
   have hR:g7 x n=((⟨x.name,x.kind,⟨x.a.name,aH n.teams x.a.name⟩,⟨x.b.name,x.b.n⟩,x.n,⟨x.frm.year,x.frm.month,x.frm.day⟩,⟨x.to.year,x.to.month,x.to.day⟩,⟨x.week.b0,x.week.b1,x.week.b2,x.week.b3,x.week.b4,x.week.b5,x.week.b6⟩,x.price⟩:cJ),false):=iM h25 (iM h44 (iM h63 (iM h82 (iM h100 (iM h126 (iM h152 (iM h178 (iP h219 (iP h232 rfl)))))))))
   exact gX s240 (congrArg (fun r:cJ × Bool=>Value.agg (aV r.1).toArray) hR.symm) (congrArg (fun r:cJ × Bool=>Bo r.2) hR.symm)
  refine wp_skip<|aD<|wp_seq<|aA<|fJ s231 [2,4,99,100,101] [10100] [(99,.agg #[.string x.b.name,I (aH n.teams x.b.name)]),(100,Bo (decide (aH n.teams x.b.name≥0)))] 0 9 (qo (fa w230 B1 0 dW)<|qo (s231.m.lda 148 2 4 dK rfl rfl rfl)<|qo (fa w230 B5 0 j8)<|qo (s231.m.ld 158 1 2 c8 rfl rfl)<|qo (yc w230 lQ fun w' hb=>gJ x.b n.teamsA n.teams n.teamsC w' ((hn.teams.up s231.m).grow hb))<|qo (fa w230 B1 0 dW)<|qe) fun _ w242 s243=>dD s243 9 2 _ _ rfl rfl rfl rfl eD rfl rfl rfl rfl fun w244 s245=>zl s245 [2,4,6] [(6,Bo (decide (aH n.teams x.b.name≥0)))] 10 1 qe fun _ w247 s248=>aR rfl<|aD<|wp_seq<|aA<|zl s248 [4,102,103] [(102,.agg #[.string x.name,I x.kind,.string x.a.name,I (aH n.teams x.a.name),.string x.b.name,I (aH n.teams x.b.name),I x.n,I x.frm.year,I x.frm.month,I x.frm.day,I x.to.year,I x.to.month,I x.to.day,Bo x.week.b0,Bo x.week.b1,Bo x.week.b2,Bo x.week.b3,Bo x.week.b4,Bo x.week.b5,Bo x.week.b6,I x.price]),(103,Bo (decide (aH n.teams x.b.name≥0)))] 0 2 (qo (s248.m.lda 178 2 0 fH rfl rfl rfl)<|qe) fun _ w250 s251=>dD s251 2 0 _ _ rfl rfl rfl rfl iC rfl rfl rfl rfl fun w252 s253=>?_
  refine zl s253 [4,5] [(5,Bo (decide (aH n.teams x.b.name≥0)))] 3 1 qe fun _ w255 s256=>aR rfl<|aD<|aC<|bP (aN (pR [.agg #[.string x.name,I x.kind,.string x.a.name,I (aH n.teams x.a.name),.string x.b.name,I (aH n.teams x.b.name),I x.n,I x.frm.year,I x.frm.month,I x.frm.day,I x.to.year,I x.to.month,I x.to.day,Bo x.week.b0,Bo x.week.b1,Bo x.week.b2,Bo x.week.b3,Bo x.week.b4,Bo x.week.b5,Bo x.week.b6,I x.price],Bo (decide (aH n.teams x.b.name≥0))] rfl s256 ⟨⟨_,rfl,bQ (k:=0) s256 fH rfl rfl⟩,rfl,trivial⟩ ?_))
  have hR:g7 x n=((⟨x.name,x.kind,⟨x.a.name,aH n.teams x.a.name⟩,⟨x.b.name,aH n.teams x.b.name⟩,x.n,⟨x.frm.year,x.frm.month,x.frm.day⟩,⟨x.to.year,x.to.month,x.to.day⟩,⟨x.week.b0,x.week.b1,x.week.b2,x.week.b3,x.week.b4,x.week.b5,x.week.b6⟩,x.price⟩:cJ),decide (aH n.teams x.b.name≥0)):=iM h25 (iM h44 (iM h63 (iM h82 (iM h100 (iM h126 (iM h152 (iM h178 (iP h219 (iT h232 rfl)))))))))
  exact gX s256 (congrArg (fun r:cJ × Bool=>Value.agg (aV r.1).toArray) hR.symm) (congrArg (fun r:cJ × Bool=>Bo r.2) hR.symm)
 refine zq s218 [2,3,4,77] [(77,Bo (x.kind==9))] qe fun _ w258 s259=>aD<|bA s259.f rfl (fun h260=>?_) (fun h260=>?_)
 ·refine wp_seq<|aA<|fJ s259 [2,3,4,87,88,89] [8900] [(87,.agg #[.string x.a.name,I (aH n.teams x.a.name)]),(88,Bo (decide (aH n.teams x.a.name≥0)))] 0 9 (qo (fa w258 B1 0 dN)<|qo (s259.m.lda 148 2 2 dK rfl rfl rfl)<|qo (fa w258 B5 0 j8)<|qo (s259.m.ld 158 1 2 c8 rfl rfl)<|qo (yc w258 lQ fun w' hb=>gJ x.a n.teamsA n.teams n.teamsC w' ((hn.teams.up s259.m).grow hb))<|qo (fa w258 B1 0 dN)<|qe) fun _ w262 s263=>dD s263 9 2 _ _ rfl rfl rfl rfl eD rfl rfl rfl rfl fun w264 s265=>zl s265 [2,3,4,6] [(6,Bo (decide (aH n.teams x.a.name≥0)))] 10 1 qe fun _ w267 s268=>aR rfl<|aD<|wp_seq<|zs s268 [2,3,4,91] [(91,Bo (!(decide (aH n.teams x.a.name≥0))))] qe fun _ w270 s271=>bR s271.f rfl (fun h272=>?_) (fun h272=>?_)
  ·refine wp_seq<|aA<|zl s271 [4,92] [(92,.agg #[.string x.name,I x.kind,.string x.a.name,I (aH n.teams x.a.name),.string x.b.name,I x.b.n,I x.n,I x.frm.year,I x.frm.month,I x.frm.day,I x.to.year,I x.to.month,I x.to.day,Bo x.week.b0,Bo x.week.b1,Bo x.week.b2,Bo x.week.b3,Bo x.week.b4,Bo x.week.b5,Bo x.week.b6,I x.price])] 0 1 (qo (s271.m.lda 178 2 0 fH rfl rfl rfl)<|qe) fun _ w274 s275=>dD s275 1 0 _ _ rfl rfl rfl rfl iC rfl rfl rfl rfl fun w276 s277=>zl s277 [4,5] [(5,Bo false)] 2 1 qe fun _ w279 s280=>aR rfl<|aD<|aC<|aN (bP (aN (pR [.agg #[.string x.name,I x.kind,.string x.a.name,I (aH n.teams x.a.name),.string x.b.name,I x.b.n,I x.n,I x.frm.year,I x.frm.month,I x.frm.day,I x.to.year,I x.to.month,I x.to.day,Bo x.week.b0,Bo x.week.b1,Bo x.week.b2,Bo x.week.b3,Bo x.week.b4,Bo x.week.b5,Bo x.week.b6,I x.price],Bo false] rfl s280 ⟨⟨_,rfl,bQ (k:=0) s280 fH rfl rfl⟩,rfl,trivial⟩ ?_)))
   have hR:g7 x n=((⟨x.name,x.kind,⟨x.a.name,aH n.teams x.a.name⟩,⟨x.b.name,x.b.n⟩,x.n,⟨x.frm.year,x.frm.month,x.frm.day⟩,⟨x.to.year,x.to.month,x.to.day⟩,⟨x.week.b0,x.week.b1,x.week.b2,x.week.b3,x.week.b4,x.week.b5,x.week.b6⟩,x.price⟩:cJ),false):=iM h25 (iM h44 (iM h63 (iM h82 (iM h100 (iM h126 (iM h152 (iM h178 (iM h219 (iP h260 (iP h272 rfl))))))))))
   exact gX s280 (congrArg (fun r:cJ × Bool=>Value.agg (aV r.1).toArray) hR.symm) (congrArg (fun r:cJ × Bool=>Bo r.2) hR.symm)
  refine wp_skip<|aD<|wp_seq<|aA<|fJ s271 [2,4,99,100,101] [10100] [(99,.agg #[.string x.b.name,I (aH n.teams x.b.name)]),(100,Bo (decide (aH n.teams x.b.name≥0)))] 0 9 (qo (fa w270 B1 0 dW)<|qo (s271.m.lda 148 2 4 dK rfl rfl rfl)<|qo (fa w270 B5 0 j8)<|qo (s271.m.ld 158 1 2 c8 rfl rfl)<|qo (yc w270 lQ fun w' hb=>gJ x.b n.teamsA n.teams n.teamsC w' ((hn.teams.up s271.m).grow hb))<|qo (fa w270 B1 0 dW)<|qe) fun _ w282 s283=>dD s283 9 2 _ _ rfl rfl rfl rfl eD rfl rfl rfl rfl fun w284 s285=>zl s285 [2,4,6] [(6,Bo (decide (aH n.teams x.b.name≥0)))] 10 1 qe fun _ w287 s288=>aR rfl<|aD<|wp_seq<|aA<|zl s288 [4,102,103] [(102,.agg #[.string x.name,I x.kind,.string x.a.name,I (aH n.teams x.a.name),.string x.b.name,I (aH n.teams x.b.name),I x.n,I x.frm.year,I x.frm.month,I x.frm.day,I x.to.year,I x.to.month,I x.to.day,Bo x.week.b0,Bo x.week.b1,Bo x.week.b2,Bo x.week.b3,Bo x.week.b4,Bo x.week.b5,Bo x.week.b6,I x.price]),(103,Bo (decide (aH n.teams x.b.name≥0)))] 0 2 (qo (s288.m.lda 178 2 0 fH rfl rfl rfl)<|qe) fun _ w290 s291=>dD s291 2 0 _ _ rfl rfl rfl rfl iC rfl rfl rfl rfl fun w292 s293=>?_
  refine zl s293 [4,5] [(5,Bo (decide (aH n.teams x.b.name≥0)))] 3 1 qe fun _ w295 s296=>aR rfl<|aD<|aC<|bP (aN (pR [.agg #[.string x.name,I x.kind,.string x.a.name,I (aH n.teams x.a.name),.string x.b.name,I (aH n.teams x.b.name),I x.n,I x.frm.year,I x.frm.month,I x.frm.day,I x.to.year,I x.to.month,I x.to.day,Bo x.week.b0,Bo x.week.b1,Bo x.week.b2,Bo x.week.b3,Bo x.week.b4,Bo x.week.b5,Bo x.week.b6,I x.price],Bo (decide (aH n.teams x.b.name≥0))] rfl s296 ⟨⟨_,rfl,bQ (k:=0) s296 fH rfl rfl⟩,rfl,trivial⟩ ?_))
  have hR:g7 x n=((⟨x.name,x.kind,⟨x.a.name,aH n.teams x.a.name⟩,⟨x.b.name,aH n.teams x.b.name⟩,x.n,⟨x.frm.year,x.frm.month,x.frm.day⟩,⟨x.to.year,x.to.month,x.to.day⟩,⟨x.week.b0,x.week.b1,x.week.b2,x.week.b3,x.week.b4,x.week.b5,x.week.b6⟩,x.price⟩:cJ),decide (aH n.teams x.b.name≥0)):=iM h25 (iM h44 (iM h63 (iM h82 (iM h100 (iM h126 (iM h152 (iM h178 (iM h219 (iP h260 (iT h272 rfl))))))))))
  exact gX s296 (congrArg (fun r:cJ × Bool=>Value.agg (aV r.1).toArray) hR.symm) (congrArg (fun r:cJ × Bool=>Bo r.2) hR.symm)
 refine wp_skip<|c9 (aD ?_)
 refine wp_seq<|aA<|zl s259 [4,104] [(104,.agg (aV x).toArray)] 0 1 (qo (s259.m.lda 178 2 0 fH rfl rfl rfl)<|qe) fun _ w298 s299=>dD s299 1 0 _ _ rfl rfl rfl rfl iC rfl rfl rfl rfl fun w300 s301=>zl s301 [4,5] [(5,Bo false)] 2 1 qe fun _ w303 s304=>aR rfl<|aD<|aC<|pR [.agg (aV x).toArray,Bo false] rfl s304 ⟨⟨_,rfl,bQ (k:=0) s304 fH rfl rfl⟩,rfl,trivial⟩<|?_
 have hR:g7 x n=(x,false):=iM h25 (iM h44 (iM h63 (iM h82 (iM h100 (iM h126 (iM h152 (iM h178 (iM h219 (iM h260 rfl)))))))))
 exact gX s304 (congrArg (fun r:cJ × Bool=>Value.agg (aV r.1).toArray) hR.symm) (congrArg (fun r:cJ × Bool=>Bo r.2) hR.symm)
theorem O6 (p:aX) (n:cE) (eA:Option Addr) (e:List ByteArray) (eC:Nat) (w:World) (ht:Row w p.teamsA 2 bN p.teams) (hn:NamesAt w n) (he:Row w eA 1 aJ e) (hb24:p.teams.length≤100000):Calls Tryz.prog 203 #[.agg (aK p).toArray,.agg (dE n).toArray,.slice eA e.length eC] w (vO phV phI (phR p n e) w):=by
 refine dX [.agg (aK p).toArray,.agg (dE n).toArray,.slice eA e.length eC] Tryz.func203 rfl rfl rfl rfl fun _ s0=>?_
 have sm0:=hn.towns.small
 have sm1:=hn.grounds.small
 have sm2:=hn.teams.small
 have sm3:=hn.windows.small
 have sm4:=hn.slots.small
 have sm5:=hn.phases.small
 have sm6:=hn.conds.small
 have sm7:=ht.small
 have sm8:=he.small
 refine wp_seq<|aA<|lb s0 0 _ rfl rfl rfl rfl fun B1 a2 w3 s4=>lb s4 1 _ rfl rfl rfl rfl fun B5 a6 w7 s8=>la s8 2 _ rfl sU rfl rfl fun B9 a10 w11 s12=>zl s12 [2,3,4,6] [(2,.slice eA e.length eC),(3,Pt B1 0),(4,Pt B5 0),(6,Pt B9 0)] 3 1 qe fun _ w14 s15=>aR rfl<|aD<|zs s15 [2,3,4,6] [] qe fun _ w17 s18=>wp_seq<|aA<|fJ s18 [2,3,4,6,21,22,23] [2300] [(21,.agg #[.string p.window.name,I (aH n.windows p.window.name)]),(22,Bo (decide (aH n.windows p.window.name≥0)))] 0 9 (qo (fa w17 B1 0 uU)<|qo (s18.m.lda 148 2 2 dK rfl rfl rfl)<|qo (fa w17 B5 0 r7)<|qo (s18.m.ld 158 1 3 c8 rfl rfl)<|qo (yc w17 lQ fun w' hb=>gJ p.window n.windowsA n.windows n.windowsC w' ((hn.windows.up s18.m).grow hb))<|qo (fa w17 B1 0 uU)<|qe) fun _ w20 s21=>dD s21 9 2 _ _ rfl rfl rfl rfl eD rfl rfl rfl rfl fun w22 s23=>?_
 refine zl s23 [2,3,4,6,8] [(8,Bo (decide (aH n.windows p.window.name≥0)))] 10 1 qe fun _ w25 s26=>aR rfl<|aD<|wp_seq<|zs s26 [2,3,4,6,25] [(25,Bo (!(decide (aH n.windows p.window.name≥0))))] qe fun _ w28 s29=>bR s29.f rfl (fun h30=>?_) (fun h30=>?_)
 ·refine wp_seq<|aA<|zl s29 [6,26] [(26,.agg #[.string p.name,I p.kind,.string p.window.name,I (aH n.windows p.window.name),.slice p.teamsA p.teams.length p.teamsC,.string p.of.name,I p.of.n,.slice p.sizesA p.sizes.length p.sizesC,.string p.a.name,I p.a.n,.string p.b.name,I p.b.n,I p.placeA,I p.placeB])] 0 1 (qo (s29.m.lda 157 2 0 eP rfl rfl rfl)<|qe) fun _ w32 s33=>dD s33 1 0 _ _ rfl rfl rfl rfl eL rfl rfl rfl rfl fun w34 s35=>zl s35 [6,7] [(7,Bo false)] 2 1 qe fun _ w37 s38=>aR rfl<|aD<|aC<|aN (pR [.agg #[.string p.name,I p.kind,.string p.window.name,I (aH n.windows p.window.name),.slice p.teamsA p.teams.length p.teamsC,.string p.of.name,I p.of.n,.slice p.sizesA p.sizes.length p.sizesC,.string p.a.name,I p.a.n,.string p.b.name,I p.b.n,I p.placeA,I p.placeB],Bo false] rfl s38 ⟨⟨_,rfl,bQ (k:=0) s38 eP rfl rfl⟩,rfl,trivial⟩ ?_)
  have hR:rI p n e=false:=iP h30 rfl
  have sN:=s38.nilR 148 2 bN
  exact fX sN (⟨(⟨p.name,p.kind,⟨p.window.name,aH n.windows p.window.name⟩,p.teamsA,p.teams,p.teamsC,⟨p.of.name,p.of.n⟩,p.sizesA,p.sizes,p.sizesC,⟨p.a.name,p.a.n⟩,⟨p.b.name,p.b.n⟩,p.placeA,p.placeB⟩:aX),false,none,0,[]⟩:M9) rfl ⟨hR.symm,fun h=>(by cases h)⟩ (.ck _ (List.nil_sublist _))
 refine wp_skip<|aD<|zs s29 [2,3,4,6,9] [(9,Bo (p.kind==4))] (qo (fa w28 B1 0 dM)<|qo (s29.m.ld 3 2 1 bM rfl rfl)<|qe) fun _ w40 s41=>zs s41 [2,3,4,6,9,10] [(10,Bo (p.kind==6))] (qo (fa w40 B1 0 dM)<|qo (s41.m.ld 3 2 1 bM rfl rfl)<|qe) fun _ w43 s44=>wp_seq<|zs s44 [2,3,4,6,9,10,52] [(52,Bo (((decide (p.kind<1))||(decide (p.kind>6)))||(((p.kind==4)||(p.kind==6))&&(decide ((p.teams.length:Int)>0)))))] (qo (fa w43 B1 0 dM)<|qo (s44.m.ld 3 2 1 bM rfl rfl)<|qo (fa w43 B1 0 dM)<|qo (s44.m.ld 3 2 1 bM rfl rfl)<|qo (fa w43 B1 0 dR)<|qo (s44.m.ld 155 2 4 jT rfl rfl)<|qo (ln w43 3 p.teamsA p.teams.length p.teamsC jU)<|qe) fun _ w46 s47=>cO s47.f rfl (fun h48=>?_) (fun h48=>?_)
 ·refine wp_seq<|aA<|zl s47 [6,53] [(53,.agg #[.string p.name,I p.kind,.string p.window.name,I (aH n.windows p.window.name),.slice p.teamsA p.teams.length p.teamsC,.string p.of.name,I p.of.n,.slice p.sizesA p.sizes.length p.sizesC,.string p.a.name,I p.a.n,.string p.b.name,I p.b.n,I p.placeA,I p.placeB])] 0 1 (qo (s47.m.lda 157 2 0 eP rfl rfl rfl)<|qe) fun _ w50 s51=>dD s51 1 0 _ _ rfl rfl rfl rfl eL rfl rfl rfl rfl fun w52 s53=>zl s53 [6,7] [(7,Bo false)] 2 1 qe fun _ w55 s56=>aR rfl<|aD<|aC<|aN (pR [.agg #[.string p.name,I p.kind,.string p.window.name,I (aH n.windows p.window.name),.slice p.teamsA p.teams.length p.teamsC,.string p.of.name,I p.of.n,.slice p.sizesA p.sizes.length p.sizesC,.string p.a.name,I p.a.n,.string p.b.name,I p.b.n,I p.placeA,I p.placeB],Bo false] rfl s56 ⟨⟨_,rfl,bQ (k:=0) s56 eP rfl rfl⟩,rfl,trivial⟩ ?_)
  have hR:rI p n e=false:=iT h30 (iP h48 rfl)
  have sN:=s56.nilR 148 2 bN
  exact fX sN (⟨(⟨p.name,p.kind,⟨p.window.name,aH n.windows p.window.name⟩,p.teamsA,p.teams,p.teamsC,⟨p.of.name,p.of.n⟩,p.sizesA,p.sizes,p.sizesC,⟨p.a.name,p.a.n⟩,⟨p.b.name,p.b.n⟩,p.placeA,p.placeB⟩:aX),false,none,0,[]⟩:M9) rfl ⟨hR.symm,fun h=>(by cases h)⟩ (.ck _ (List.nil_sublist _))
 refine wp_skip<|aD<|wp_seq<|aA<|lR s47 0 (vs:=[]) (e:=148) [] rfl rfl (fun _=>by kernel_rfl) rfl fun B57 a58 w59 s60=>zl s60 [2,3,4,6,9,10,11] [(11,.slice (some ⟨B57,0,none⟩) 0 0)] 1 1 qe fun _ w62 s63=>aR rfl<|aD<|wp_seq<|zs s63 [2,3,4,6,9,10,11,12] [(12,I 0)] qe fun _ w65 s66=>wp_block<|?_
 have s67:=s66.litR (enc:=bN) 0 ([]:List cW) rfl eI rfl (by decide)
 refine aO (α:=Nat) (fun k aI wI=>∃ oa:Option Addr,∃ c:Nat,(k≤p.teams.length)∧(Sta 139 [] w [⟨2,[],.slice eA e.length eC⟩,⟨3,[],Pt B1 0⟩,⟨4,[],Pt B5 0⟩,⟨6,[],Pt B9 0⟩,⟨9,[],Bo (p.kind==4)⟩,⟨10,[],Bo (p.kind==6)⟩,⟨11,[],.slice oa (((p.teams.take k).map (bW · n.teams)).length) c⟩,⟨12,[],I (k:Int)⟩] [oR 148 2 bN oa c ((p.teams.take k).map (bW · n.teams)),cI B9 157 [.string (⟨#[]⟩:ByteArray),I 0,.string (⟨#[]⟩:ByteArray),I 0,.slice none 0 0,.string (⟨#[]⟩:ByteArray),I 0,.slice none 0 0,.string (⟨#[]⟩:ByteArray),I 0,.string (⟨#[]⟩:ByteArray),I 0,I 0,I 0],cI B5 227 (dE n),cI B1 157 [.string p.name,I p.kind,.string p.window.name,I (aH n.windows p.window.name),.slice p.teamsA p.teams.length p.teamsC,.string p.of.name,I p.of.n,.slice p.sizesA p.sizes.length p.sizesC,.string p.a.name,I p.a.n,.string p.b.name,I p.b.n,I p.placeA,I p.placeB]] aI wI)∧(∀ i,i<k→∀ x,p.teams[i]?=some x→(fun x=>eK x n.teams) x=true)) (fun k=>p.teams.length-k) 0 ⟨(some ⟨B57,0,none⟩),0,Nat.zero_le _,s67.kp,fun i h=>(Nat.not_lt_zero i h).elim⟩<|?_
 rintro k a70 w69 ⟨oa,c,k_le,s68,inv_k⟩
 refine wp_seq<|zs s68 [2,3,4,6,9,10,11,12,59] [(59,Bo (decide ((k:Int)<(p.teams.length:Int))))] (qo (fa w69 B1 0 dR)<|qo (s68.m.ld 155 3 4 jT rfl rfl)<|qo (ln w69 3 p.teamsA p.teams.length p.teamsC jU)<|qe) fun _ w72 s73=>aQ s73.f rfl (fun h74=>?_) (fun h74=>?_)
 ·have k_lt:k<p.teams.length:=by omega
  obtain ⟨x,hx75⟩:=cD (xs:=p.teams) k_lt
  refine wp_skip<|aD<|wp_seq<|wp_block<|wp_seq<|aL MO 12<|zd s73 [2,3,4,6,9,10,11,12,71,72] [(71,.agg #[.string x.name,I (aH n.teams x.name)]),(72,Bo (decide (aH n.teams x.name≥0)))] 0 [some [],some [],some [],some [],some [],some [],some [],some [],some [],some [],none] (qo (fa w72 B1 0 dR)<|qo (s73.m.ld 155 3 4 jT rfl rfl)<|qo ((ht.up s73.m).ia p.teamsC k jU eD (by omega))<|qo ((ht.up s73.m).lda 148 k 0 dK hx75 rfl rfl)<|qo (fa w72 B5 0 j8)<|qo (s73.m.ld 158 2 2 c8 rfl rfl)<|qo (yc w72 lQ fun w' hb=>gJ x n.teamsA n.teams n.teamsC w' ((hn.teams.up s73.m).grow hb))<|qe) hq fun _ s78=>HN s78 11 rfl rfl rfl rfl (by kernel_rfl) fun w79 s80=>lab s80 0 [.string (⟨#[]⟩:ByteArray),I 0] rfl JK rfl rfl fun B81 a82 w83 hb85 s84=>aR rfl (aD ⟨hb85,?_⟩)
  refine df s84 12 rfl rfl rfl rfl (by kernel_rfl) rfl fun w86 s87=>dD s87 0 0 _ _ rfl rfl rfl rfl eD rfl rfl rfl rfl fun w88 s89=>aR rfl (aD ?_)
  refine df s89 13 rfl rfl rfl rfl (by kernel_rfl) rfl fun w90 s91=>zl s91 [2,3,4,6,9,10,11,12,13,14] [(13,Pt B81 0),(14,Bo (decide (aH n.teams x.name≥0)))] 0 1 qe fun _ w93 s94=>aR rfl (aD ?_)
  refine dd s94 (by kernel_rfl) fun w95 s96=>aD<|wp_seq<|zs s96 [2,3,4,6,9,10,11,12,13,74] [(74,Bo (!(decide (aH n.teams x.name≥0))))] qe fun _ w98 s99=>bR s99.f rfl (fun h100=>?_) (fun h100=>?_)
  ·refine wp_seq<|aA<|zl s99 [6,75] [(75,.agg #[.string p.name,I p.kind,.string p.window.name,I (aH n.windows p.window.name),.slice p.teamsA p.teams.length p.teamsC,.string p.of.name,I p.of.n,.slice p.sizesA p.sizes.length p.sizesC,.string p.a.name,I p.a.n,.string p.b.name,I p.b.n,I p.placeA,I p.placeB])] 0 1 (qo (s99.m.lda 157 4 0 eP rfl rfl rfl)<|qe) fun _ w102 s103=>dD s103 1 2 _ _ rfl rfl rfl rfl eL rfl rfl rfl rfl fun w104 s105=>zl s105 [6,7] [(7,Bo false)] 2 1 qe fun _ w107 s108=>aR rfl<|aD<|aC<|aN (bP (aN (aN (bP (aN (pR [.agg #[.string p.name,I p.kind,.string p.window.name,I (aH n.windows p.window.name),.slice p.teamsA p.teams.length p.teamsC,.string p.of.name,I p.of.n,.slice p.sizesA p.sizes.length p.sizesC,.string p.a.name,I p.a.n,.string p.b.name,I p.b.n,I p.placeA,I p.placeB],Bo false] rfl s108 ⟨⟨_,rfl,bQ (k:=2) s108 eP rfl rfl⟩,rfl,trivial⟩ ?_))))))
   have sF:=s108.re (H':=[cI B81 148 [.string x.name,I (aH n.teams x.name)],oR 148 2 bN oa c ((p.teams.take k).map (bW · n.teams)),cI B9 157 [.string p.name,I p.kind,.string p.window.name,I (aH n.windows p.window.name),.slice p.teamsA p.teams.length p.teamsC,.string p.of.name,I p.of.n,.slice p.sizesA p.sizes.length p.sizesC,.string p.a.name,I p.a.n,.string p.b.name,I p.b.n,I p.placeA,I p.placeB],cI B5 227 (dE n),cI B1 157 [.string p.name,I p.kind,.string p.window.name,I (aH n.windows p.window.name),.slice p.teamsA p.teams.length p.teamsC,.string p.of.name,I p.of.n,.slice p.sizesA p.sizes.length p.sizesC,.string p.a.name,I p.a.n,.string p.b.name,I p.b.n,I p.placeA,I p.placeB]]) rfl rfl
   have hR:rI p n e=false:=iT h30 (iF h48 (iF (bI hx75 h100) rfl))
   exact fX sF (⟨(⟨p.name,p.kind,⟨p.window.name,aH n.windows p.window.name⟩,p.teamsA,p.teams,p.teamsC,⟨p.of.name,p.of.n⟩,p.sizesA,p.sizes,p.sizesC,⟨p.a.name,p.a.n⟩,⟨p.b.name,p.b.n⟩,p.placeA,p.placeB⟩:aX),false,oa,c,(p.teams.take k).map (bW · n.teams)⟩:M9) rfl ⟨hR.symm,fun h=>(by cases h)⟩ (.cons _ (.ck _ (.cons _ (.cons _ (.cons _ (.slnil))))))
  refine wp_skip<|aD<|aA<|zl s99 [2,3,4,6,9,10,12,76,77] [(76,.slice oa (((p.teams.take k).map (bW · n.teams)).length) c),(77,.agg #[.string x.name,I (aH n.teams x.name)])] 0 2 (qo (s99.m.lda 148 0 0 dK rfl rfl rfl)<|qe) fun _ w110 s111=>lR s111 2 (vs:=[.agg #[.string x.name,I (aH n.teams x.name)]]) (e:=148) [.string x.name,I (aH n.teams x.name)] rfl rfl (fun _=>by kernel_rfl) rfl fun B112 a113 w114 s115=>oV s115 3 2 (xs:=(p.teams.take k).map (bW · n.teams)) (ys:=[(⟨x.name,aH n.teams x.name⟩:cW)]) (oa:=oa) (oa2:=(some ⟨B112,0,none⟩)) rfl rfl rfl rfl eI GB (s115.m.rowc (enc:=bN) 0 ([(⟨x.name,aH n.teams x.name⟩:cW)]) rfl eI rfl (Nat.le_of_ble_eq_true rfl)) (by first | omega | (simp only [bV]; omega)) (by simp only [maxLen]; first | omega | (simp only [bV]; omega)) rfl fun oa116 c117 a118 w119 s120=>zl s120 [2,3,4,6,9,10,11,12] [(11,.slice oa116 ((((p.teams.take k).map (bW · n.teams))++([(⟨x.name,aH n.teams x.name⟩:cW)])).length) c117)] 4 1 qe fun _ w122 s123=>aR rfl<|c9 (aD ?_)
  refine dU s123 [2,3,4,6,9,10,11,12] [1200] [] (qo (wr ((k:Int)+1) ((k+1:Nat):Int) (by omega))<|qe) fun _ w125 s126=>aD<|?_
  exact ⟨(k+1),⟨oa116,c117,by omega,((s126.keep (E':=[⟨2,[],.slice eA e.length eC⟩,⟨3,[],Pt B1 0⟩,⟨4,[],Pt B5 0⟩,⟨6,[],Pt B9 0⟩,⟨9,[],Bo (p.kind==4)⟩,⟨10,[],Bo (p.kind==6)⟩,⟨11,[],.slice oa116 ((((p.teams.take k).map (bW · n.teams))++([(⟨x.name,aH n.teams x.name⟩:cW)])).length) c117⟩,⟨12,[],I ((k+1:Nat):Int)⟩]) [2,3,4,6,9,10,11,12] (by kernel_rfl)).sub (.cons _ (.cons _ (.refl _)))).re (by rw [bS hx75] <;> rfl) (by rw [bS hx75] <;> rfl),aM inv_k (fun y hy=>by rw [hx75] at hy; cases hy; exact h100)⟩,by omega⟩
 have k_eq:k=p.teams.length:=by omega
 have A127:p.teams.all (fun x=>eK x n.teams)=true:=cR (by rw [k_eq] at inv_k; exact inv_k)
 refine wp_exit<|aY (aY (cP (aD ?_)))
 refine wp_seq<|aA<|fJ s73 [2,3,6,9,10,80,81] [8100] [(80,.slice oa (((p.teams.take k).map (bW · n.teams)).length) c)] 0 2 (qo (fa w72 B1 0 dR)<|qe) fun _ w129 s130=>dD s130 2 3 _ _ rfl rfl rfl rfl BX rfl rfl rfl rfl fun w131 s132=>aR rfl<|aD<|wp_seq<|zs s132 [2,3,6,10,82] [(82,Bo (p.kind==4))] qe fun _ w134 s135=>bA s135.f rfl (fun h136=>?_) (fun h136=>?_)
 ·refine wp_seq<|aA<|fJ s135 [3,6,88,89,90] [9000] [(88,.agg #[.string p.of.name,I (aH e p.of.name)]),(89,Bo (decide (aH e p.of.name≥0)))] 0 8 (qo (fa w134 B1 0 oE)<|qo (s135.m.lda 148 3 5 dK rfl rfl rfl)<|qo (yc w134 lQ fun w' hb=>gJ p.of eA e eC w' ((he.up s135.m).grow hb))<|qo (fa w134 B1 0 oE)<|qe) fun _ w138 s139=>dD s139 8 3 _ _ rfl rfl rfl rfl eD rfl rfl rfl rfl fun w140 s141=>zl s141 [3,6,8] [(8,Bo (decide (aH e p.of.name≥0)))] 9 1 qe fun _ w143 s144=>aR rfl<|aD<|wp_seq<|aL MO 12<|zd s144 [6,91,102] [(91,.agg #[.string p.name,I p.kind,.string p.window.name,I (aH n.windows p.window.name),.slice oa (((p.teams.take k).map (bW · n.teams)).length) c,.string p.of.name,I (aH e p.of.name),.slice p.sizesA p.sizes.length p.sizesC,.string p.a.name,I p.a.n,.string p.b.name,I p.b.n,I p.placeA,I p.placeB]),(102,Bo (((decide (aH e p.of.name≥0))&&(aT p.a))&&(aT p.b)))] 0 [some [],some [10,7,5,2],some [10,7,5],some [10,7,5,4],some [10,7,5],some [10,7],some [10,7],some [10],some [10,9],some [10],some [],none] (qo (s144.m.lda 157 3 0 eP rfl rfl rfl)<|qo (fa w143 B1 0 lN)<|qo (s144.m.lda 148 3 8 dK rfl rfl rfl)<|qo (yc w143 m4 fun w' hb=>fY p.a w')<|qo (fa w143 B1 0 lO)<|qo (s144.m.lda 148 3 10 dK rfl rfl rfl)<|qo (yc w143 m4 fun w' hb=>fY p.b w')<|qe) hq fun _ s147=>df s147 12 rfl rfl rfl rfl (by kernel_rfl) rfl fun w148 s149=>dD s149 0 1 _ _ rfl rfl rfl rfl eL rfl rfl rfl rfl fun w150 s151=>aR rfl (aD ?_)
  refine df s151 13 rfl rfl rfl rfl (by kernel_rfl) rfl fun w152 s153=>zl s153 [6,7] [(7,Bo (((decide (aH e p.of.name≥0))&&(aT p.a))&&(aT p.b)))] 0 1 qe fun _ w155 s156=>aR rfl (aD ?_)
  refine dd s156 (by kernel_rfl) fun w157 s158=>aD<|aC<|aN (pR [.agg #[.string p.name,I p.kind,.string p.window.name,I (aH n.windows p.window.name),.slice oa (((p.teams.take k).map (bW · n.teams)).length) c,.string p.of.name,I (aH e p.of.name),.slice p.sizesA p.sizes.length p.sizesC,.string p.a.name,I p.a.n,.string p.b.name,I p.b.n,I p.placeA,I p.placeB],Bo (((decide (aH e p.of.name≥0))&&(aT p.a))&&(aT p.b))] rfl s158 ⟨⟨_,rfl,bQ (k:=1) s158 eP rfl rfl⟩,rfl,trivial⟩ ?_)
  have sF:=s158.re (H':=[oR 148 2 bN oa c ((p.teams.take k).map (bW · n.teams)),cI B9 157 [.string p.name,I p.kind,.string p.window.name,I (aH n.windows p.window.name),.slice oa (((p.teams.take k).map (bW · n.teams)).length) c,.string p.of.name,I (aH e p.of.name),.slice p.sizesA p.sizes.length p.sizesC,.string p.a.name,I p.a.n,.string p.b.name,I p.b.n,I p.placeA,I p.placeB],cI B5 227 (dE n),cI B1 157 [.string p.name,I p.kind,.string p.window.name,I (aH n.windows p.window.name),.slice oa (((p.teams.take k).map (bW · n.teams)).length) c,.string p.of.name,I (aH e p.of.name),.slice p.sizesA p.sizes.length p.sizesC,.string p.a.name,I p.a.n,.string p.b.name,I p.b.n,I p.placeA,I p.placeB]]) rfl rfl
  have hR:rI p n e=(((decide (aH e p.of.name≥0))&&(aT p.a))&&(aT p.b)):=iT h30 (iF h48 (iP A127 (iP h136 rfl)))
  exact fX sF (⟨(⟨p.name,p.kind,⟨p.window.name,aH n.windows p.window.name⟩,oa,((p.teams.take k).map (bW · n.teams)),c,⟨p.of.name,aH e p.of.name⟩,p.sizesA,p.sizes,p.sizesC,⟨p.a.name,p.a.n⟩,⟨p.b.name,p.b.n⟩,p.placeA,p.placeB⟩:aX),((decide (aH e p.of.name≥0))&&(aT p.a))&&(aT p.b),oa,c,(p.teams.take k).map (bW · n.teams)⟩:M9) rfl ⟨hR.symm,fun _=>⟨by simp [qP,bW,h136,(show ¬ p.kind=6 by omega),cK k_eq],cK k_eq⟩⟩ (.ck _ (.cons _ (.cons _ (.cons _ (.slnil)))))
 refine wp_skip<|aD<|wp_seq<|zs s135 [2,3,6,10,106] [(106,Bo (!(aT p.of)))] (qo (fa w134 B1 0 oE)<|qo (s135.m.lda 148 3 5 dK rfl rfl rfl)<|qo (yc w134 m4 fun w' hb=>fY p.of w')<|qe) fun _ w160 s161=>bR s161.f rfl (fun h162=>?_) (fun h162=>?_)
 ·refine wp_seq<|aA<|zl s161 [6,107] [(107,.agg #[.string p.name,I p.kind,.string p.window.name,I (aH n.windows p.window.name),.slice oa (((p.teams.take k).map (bW · n.teams)).length) c,.string p.of.name,I p.of.n,.slice p.sizesA p.sizes.length p.sizesC,.string p.a.name,I p.a.n,.string p.b.name,I p.b.n,I p.placeA,I p.placeB])] 0 1 (qo (s161.m.lda 157 3 0 eP rfl rfl rfl)<|qe) fun _ w164 s165=>dD s165 1 1 _ _ rfl rfl rfl rfl eL rfl rfl rfl rfl fun w166 s167=>zl s167 [6,7] [(7,Bo false)] 2 1 qe fun _ w169 s170=>aR rfl<|aD<|aC<|aN (pR [.agg #[.string p.name,I p.kind,.string p.window.name,I (aH n.windows p.window.name),.slice oa (((p.teams.take k).map (bW · n.teams)).length) c,.string p.of.name,I p.of.n,.slice p.sizesA p.sizes.length p.sizesC,.string p.a.name,I p.a.n,.string p.b.name,I p.b.n,I p.placeA,I p.placeB],Bo false] rfl s170 ⟨⟨_,rfl,bQ (k:=1) s170 eP rfl rfl⟩,rfl,trivial⟩ ?_)
  have sF:=s170.re (H':=[oR 148 2 bN oa c ((p.teams.take k).map (bW · n.teams)),cI B9 157 [.string p.name,I p.kind,.string p.window.name,I (aH n.windows p.window.name),.slice oa (((p.teams.take k).map (bW · n.teams)).length) c,.string p.of.name,I p.of.n,.slice p.sizesA p.sizes.length p.sizesC,.string p.a.name,I p.a.n,.string p.b.name,I p.b.n,I p.placeA,I p.placeB],cI B5 227 (dE n),cI B1 157 [.string p.name,I p.kind,.string p.window.name,I (aH n.windows p.window.name),.slice oa (((p.teams.take k).map (bW · n.teams)).length) c,.string p.of.name,I p.of.n,.slice p.sizesA p.sizes.length p.sizesC,.string p.a.name,I p.a.n,.string p.b.name,I p.b.n,I p.placeA,I p.placeB]]) rfl rfl
  have hR:rI p n e=false:=iT h30 (iF h48 (iP A127 (iM h136 (iP h162 rfl))))
  exact fX sF (⟨(⟨p.name,p.kind,⟨p.window.name,aH n.windows p.window.name⟩,oa,((p.teams.take k).map (bW · n.teams)),c,⟨p.of.name,p.of.n⟩,p.sizesA,p.sizes,p.sizesC,⟨p.a.name,p.a.n⟩,⟨p.b.name,p.b.n⟩,p.placeA,p.placeB⟩:aX),false,oa,c,(p.teams.take k).map (bW · n.teams)⟩:M9) rfl ⟨hR.symm,fun h=>(by cases h)⟩ (.ck _ (.cons _ (.cons _ (.cons _ (.slnil)))))
 refine wp_skip<|aD<|wp_seq<|zs s161 [2,3,6,108] [(108,Bo (p.kind==6))] qe fun _ w172 s173=>bA s173.f rfl (fun h174=>?_) (fun h174=>?_)
 ·refine wp_seq<|aA<|fJ s173 [2,3,6,114,115,116] [11600] [(114,.agg #[.string p.a.name,I (aH e p.a.name)]),(115,Bo (decide (aH e p.a.name≥0)))] 0 8 (qo (fa w172 B1 0 lN)<|qo (s173.m.lda 148 3 8 dK rfl rfl rfl)<|qo (yc w172 lQ fun w' hb=>gJ p.a eA e eC w' ((he.up s173.m).grow hb))<|qo (fa w172 B1 0 lN)<|qe) fun _ w176 s177=>dD s177 8 3 _ _ rfl rfl rfl rfl eD rfl rfl rfl rfl fun w178 s179=>zl s179 [2,3,6,8] [(8,Bo (decide (aH e p.a.name≥0)))] 9 1 qe fun _ w181 s182=>aR rfl<|aD<|wp_seq<|zs s182 [2,3,6,118] [(118,Bo (!(decide (aH e p.a.name≥0))))] qe fun _ w184 s185=>bR s185.f rfl (fun h186=>?_) (fun h186=>?_)
  ·refine wp_seq<|aA<|zl s185 [6,119] [(119,.agg #[.string p.name,I p.kind,.string p.window.name,I (aH n.windows p.window.name),.slice oa (((p.teams.take k).map (bW · n.teams)).length) c,.string p.of.name,I p.of.n,.slice p.sizesA p.sizes.length p.sizesC,.string p.a.name,I (aH e p.a.name),.string p.b.name,I p.b.n,I p.placeA,I p.placeB])] 0 1 (qo (s185.m.lda 157 3 0 eP rfl rfl rfl)<|qe) fun _ w188 s189=>dD s189 1 1 _ _ rfl rfl rfl rfl eL rfl rfl rfl rfl fun w190 s191=>zl s191 [6,7] [(7,Bo false)] 2 1 qe fun _ w193 s194=>aR rfl<|aD<|aC<|aN (aN (pR [.agg #[.string p.name,I p.kind,.string p.window.name,I (aH n.windows p.window.name),.slice oa (((p.teams.take k).map (bW · n.teams)).length) c,.string p.of.name,I p.of.n,.slice p.sizesA p.sizes.length p.sizesC,.string p.a.name,I (aH e p.a.name),.string p.b.name,I p.b.n,I p.placeA,I p.placeB],Bo false] rfl s194 ⟨⟨_,rfl,bQ (k:=1) s194 eP rfl rfl⟩,rfl,trivial⟩ ?_))
   have sF:=s194.re (H':=[oR 148 2 bN oa c ((p.teams.take k).map (bW · n.teams)),cI B9 157 [.string p.name,I p.kind,.string p.window.name,I (aH n.windows p.window.name),.slice oa (((p.teams.take k).map (bW · n.teams)).length) c,.string p.of.name,I p.of.n,.slice p.sizesA p.sizes.length p.sizesC,.string p.a.name,I (aH e p.a.name),.string p.b.name,I p.b.n,I p.placeA,I p.placeB],cI B5 227 (dE n),cI B1 157 [.string p.name,I p.kind,.string p.window.name,I (aH n.windows p.window.name),.slice oa (((p.teams.take k).map (bW · n.teams)).length) c,.string p.of.name,I p.of.n,.slice p.sizesA p.sizes.length p.sizesC,.string p.a.name,I (aH e p.a.name),.string p.b.name,I p.b.n,I p.placeA,I p.placeB]]) rfl rfl
   have hR:rI p n e=false:=iT h30 (iF h48 (iP A127 (iM h136 (iT h162 (iP h174 (iP h186 rfl))))))
   exact fX sF (⟨(⟨p.name,p.kind,⟨p.window.name,aH n.windows p.window.name⟩,oa,((p.teams.take k).map (bW · n.teams)),c,⟨p.of.name,p.of.n⟩,p.sizesA,p.sizes,p.sizesC,⟨p.a.name,aH e p.a.name⟩,⟨p.b.name,p.b.n⟩,p.placeA,p.placeB⟩:aX),false,oa,c,(p.teams.take k).map (bW · n.teams)⟩:M9) rfl ⟨hR.symm,fun h=>(by cases h)⟩ (.ck _ (.cons _ (.cons _ (.cons _ (.slnil)))))
  refine wp_skip<|aD<|wp_seq<|aA<|fJ s185 [3,6,125,126,127] [12700] [(125,.agg #[.string p.b.name,I (aH e p.b.name)]),(126,Bo (decide (aH e p.b.name≥0)))] 0 8 (qo (fa w184 B1 0 lO)<|qo (s185.m.lda 148 3 10 dK rfl rfl rfl)<|qo (yc w184 lQ fun w' hb=>gJ p.b eA e eC w' ((he.up s185.m).grow hb))<|qo (fa w184 B1 0 lO)<|qe) fun _ w196 s197=>dD s197 8 3 _ _ rfl rfl rfl rfl eD rfl rfl rfl rfl fun w198 s199=>zl s199 [3,6,8] [(8,Bo (decide (aH e p.b.name≥0)))] 9 1 qe fun _ w201 s202=>aR rfl<|aD<|wp_seq<|aA<|zl s202 [6,128,129] [(128,.agg #[.string p.name,I p.kind,.string p.window.name,I (aH n.windows p.window.name),.slice oa (((p.teams.take k).map (bW · n.teams)).length) c,.string p.of.name,I p.of.n,.slice p.sizesA p.sizes.length p.sizesC,.string p.a.name,I (aH e p.a.name),.string p.b.name,I (aH e p.b.name),I p.placeA,I p.placeB]),(129,Bo (decide (aH e p.b.name≥0)))] 0 2 (qo (s202.m.lda 157 3 0 eP rfl rfl rfl)<|qe) fun _ w204 s205=>dD s205 2 1 _ _ rfl rfl rfl rfl eL rfl rfl rfl rfl fun w206 s207=>?_
  refine zl s207 [6,7] [(7,Bo (decide (aH e p.b.name≥0)))] 3 1 qe fun _ w209 s210=>aR rfl<|aD<|aC<|aN (pR [.agg #[.string p.name,I p.kind,.string p.window.name,I (aH n.windows p.window.name),.slice oa (((p.teams.take k).map (bW · n.teams)).length) c,.string p.of.name,I p.of.n,.slice p.sizesA p.sizes.length p.sizesC,.string p.a.name,I (aH e p.a.name),.string p.b.name,I (aH e p.b.name),I p.placeA,I p.placeB],Bo (decide (aH e p.b.name≥0))] rfl s210 ⟨⟨_,rfl,bQ (k:=1) s210 eP rfl rfl⟩,rfl,trivial⟩ ?_)
  have sF:=s210.re (H':=[oR 148 2 bN oa c ((p.teams.take k).map (bW · n.teams)),cI B9 157 [.string p.name,I p.kind,.string p.window.name,I (aH n.windows p.window.name),.slice oa (((p.teams.take k).map (bW · n.teams)).length) c,.string p.of.name,I p.of.n,.slice p.sizesA p.sizes.length p.sizesC,.string p.a.name,I (aH e p.a.name),.string p.b.name,I (aH e p.b.name),I p.placeA,I p.placeB],cI B5 227 (dE n),cI B1 157 [.string p.name,I p.kind,.string p.window.name,I (aH n.windows p.window.name),.slice oa (((p.teams.take k).map (bW · n.teams)).length) c,.string p.of.name,I p.of.n,.slice p.sizesA p.sizes.length p.sizesC,.string p.a.name,I (aH e p.a.name),.string p.b.name,I (aH e p.b.name),I p.placeA,I p.placeB]]) rfl rfl
  have hR:rI p n e=(decide (aH e p.b.name≥0)):=iT h30 (iF h48 (iP A127 (iM h136 (iT h162 (iP h174 (iT h186 rfl))))))
  exact fX sF (⟨(⟨p.name,p.kind,⟨p.window.name,aH n.windows p.window.name⟩,oa,((p.teams.take k).map (bW · n.teams)),c,⟨p.of.name,p.of.n⟩,p.sizesA,p.sizes,p.sizesC,⟨p.a.name,aH e p.a.name⟩,⟨p.b.name,aH e p.b.name⟩,p.placeA,p.placeB⟩:aX),decide (aH e p.b.name≥0),oa,c,(p.teams.take k).map (bW · n.teams)⟩:M9) rfl ⟨hR.symm,fun _=>⟨by simp [qP,bW,h136,h174,cK k_eq],cK k_eq⟩⟩ (.ck _ (.cons _ (.cons _ (.cons _ (.slnil)))))
 refine wp_skip<|aD<|wp_seq<|aL MO 9<|zd s173 [6,130,138] [(130,.agg #[.string p.name,I p.kind,.string p.window.name,I (aH n.windows p.window.name),.slice oa (((p.teams.take k).map (bW · n.teams)).length) c,.string p.of.name,I p.of.n,.slice p.sizesA p.sizes.length p.sizesC,.string p.a.name,I p.a.n,.string p.b.name,I p.b.n,I p.placeA,I p.placeB]),(138,Bo ((aT p.a)&&(aT p.b)))] 0 [some [],some [7,4,3,2],some [7,4,3],some [7,4],some [7],some [7,6],some [7],some [],none] (qo (s173.m.lda 157 3 0 eP rfl rfl rfl)<|qo (fa w172 B1 0 lN)<|qo (s173.m.lda 148 3 8 dK rfl rfl rfl)<|qo (yc w172 m4 fun w' hb=>fY p.a w')<|qo (fa w172 B1 0 lO)<|qo (s173.m.lda 148 3 10 dK rfl rfl rfl)<|qo (yc w172 m4 fun w' hb=>fY p.b w')<|qe) hq fun _ s213=>df s213 9 rfl rfl rfl rfl (by kernel_rfl) rfl fun w214 s215=>dD s215 0 1 _ _ rfl rfl rfl rfl eL rfl rfl rfl rfl fun w216 s217=>aR rfl (aD ?_)
 refine df s217 10 rfl rfl rfl rfl (by kernel_rfl) rfl fun w218 s219=>zl s219 [6,7] [(7,Bo ((aT p.a)&&(aT p.b)))] 0 1 qe fun _ w221 s222=>aR rfl (aD ?_)
 refine dd s222 (by kernel_rfl) fun w223 s224=>aD<|aC<|pR [.agg #[.string p.name,I p.kind,.string p.window.name,I (aH n.windows p.window.name),.slice oa (((p.teams.take k).map (bW · n.teams)).length) c,.string p.of.name,I p.of.n,.slice p.sizesA p.sizes.length p.sizesC,.string p.a.name,I p.a.n,.string p.b.name,I p.b.n,I p.placeA,I p.placeB],Bo ((aT p.a)&&(aT p.b))] rfl s224 ⟨⟨_,rfl,bQ (k:=1) s224 eP rfl rfl⟩,rfl,trivial⟩<|?_
 have sF:=s224.re (H':=[oR 148 2 bN oa c ((p.teams.take k).map (bW · n.teams)),cI B9 157 [.string p.name,I p.kind,.string p.window.name,I (aH n.windows p.window.name),.slice oa (((p.teams.take k).map (bW · n.teams)).length) c,.string p.of.name,I p.of.n,.slice p.sizesA p.sizes.length p.sizesC,.string p.a.name,I p.a.n,.string p.b.name,I p.b.n,I p.placeA,I p.placeB],cI B5 227 (dE n),cI B1 157 [.string p.name,I p.kind,.string p.window.name,I (aH n.windows p.window.name),.slice oa (((p.teams.take k).map (bW · n.teams)).length) c,.string p.of.name,I p.of.n,.slice p.sizesA p.sizes.length p.sizesC,.string p.a.name,I p.a.n,.string p.b.name,I p.b.n,I p.placeA,I p.placeB]]) rfl rfl
 have hR:rI p n e=((aT p.a)&&(aT p.b)):=iT h30 (iF h48 (iP A127 (iM h136 (iT h162 (iM h174 rfl)))))
 exact fX sF (⟨(⟨p.name,p.kind,⟨p.window.name,aH n.windows p.window.name⟩,oa,((p.teams.take k).map (bW · n.teams)),c,⟨p.of.name,p.of.n⟩,p.sizesA,p.sizes,p.sizesC,⟨p.a.name,p.a.n⟩,⟨p.b.name,p.b.n⟩,p.placeA,p.placeB⟩:aX),(aT p.a)&&(aT p.b),oa,c,(p.teams.take k).map (bW · n.teams)⟩:M9) rfl ⟨hR.symm,fun _=>⟨by simp [qP,bW,h136,h174,cK k_eq],cK k_eq⟩⟩ (.ck _ (.cons _ (.cons _ (.cons _ (.slnil)))))
end Go.Proofs.YtfffbdmdllgalaaGreatDoor
namespace Go.Proofs.YtfffbdmdllgalaaGreatDoor
open Go Go.RowKit Go.Fz
set_option maxRecDepth 10000
theorem ID (l:aE) (w:World) (hL:LeagueAt w l):Calls Tryz.prog 160 #[.agg (aB l).toArray] w (vO SD xM (WN l) w):=by
 refine dX [.agg (aB l).toArray] Tryz.func160 rfl rfl rfl rfl fun _ s0=>?_
 have smx1:=hL.sm
 refine wp_seq<|aA<|lb s0 0 _ rfl rfl rfl rfl fun B1 a2 w3 s4=>la s4 1 zz rfl DG rfl rfl fun B5 a6 w7 s8=>zl s8 [1,2] [(1,Pt B1 0),(2,Pt B5 0)] 2 1 qe fun _ w10 s11=>aR rfl<|aD<|wp_seq<|aA<|zl s11 [1,2,16] [(16,.agg zz.toArray)] 0 1 (qo (jL (P:=Tryz.prog) w10 34 [] (.agg zz.toArray) (fun _=>by kernel_rfl))<|qe) fun _ w13 s14=>la s14 1 zz rfl DG rfl rfl fun B15 a16 w17 s18=>dD s18 2 0 zz zz rfl rfl rfl rfl nA rfl rfl rfl rfl fun w19 s20=>aR rfl ?_
 refine aD<|d5 s20 [1,2,4,5] [501] [(4,Pt B15 0)] (qo (s20.m.lda 34 2 0 cS rfl rfl rfl)<|qo (yc w19 aaS fun w' hb=>IC l w' ((hL.up s20.m).grow hb))<|qe) fun _ w22 s23=>wp_seq<|zs s23 [1,2,4,20] [(20,Bo (!(n9 l)))] qe fun _ w25 s26=>bR s26.f rfl (fun h27=>?_) (fun h27=>?_)
 ·refine wp_seq<|aA<|zl s26 [2,21] [(21,.agg zz.toArray)] 0 1 (qo (s26.m.lda 34 0 0 cS rfl rfl rfl)<|qe) fun _ w29 s30=>dD s30 1 1 zz zz rfl rfl rfl rfl nA rfl rfl rfl rfl fun w31 s32=>zl s32 [2,3] [(3,I 2)] 2 1 qe fun _ w34 s35=>aR rfl<|aD<|aC<|aN (pR [.agg zz.toArray,I 2] rfl s35 ⟨⟨_,rfl,bQ (k:=1) s35 cS rfl rfl⟩,rfl,trivial⟩ ?_)
  exact rX s35 (BU l) (iP h27 rfl) (by decide)
 refine wp_skip<|aD<|wp_seq<|?_
 have hlens:=h27
 have hln:=DD hlens
 refine aA<|zl s26 [1,2,4,22] [(22,.agg (aB l).toArray)] 0 1 (qo (s26.m.lda 34 2 0 cS rfl rfl rfl)<|qe) fun _ w43 s44=>lh s44 1 (v:=fun n:cE=>.agg (dE n).toArray) (I:=y0) (φ:=gZ l) rfl rfl rfl VF rfl (acT l _ (hL.up s44.m)) fun n45 a46 w47 hn49 s48=>?_
 have sm_n45_towns:n45.towns.length≤140737488355328:=by rw [hn49.1]; simp only [List.length_map]; exact hL.towns.small
 have sm_n45_grounds:n45.grounds.length≤140737488355328:=by rw [hn49.2.1]; simp only [List.length_map]; exact hL.grounds.small
 have sm_n45_teams:n45.teams.length≤140737488355328:=by rw [hn49.2.2.1]; simp only [List.length_map]; exact hL.teams.small
 have sm_n45_windows:n45.windows.length≤140737488355328:=by rw [hn49.2.2.2.1]; simp only [List.length_map]; exact hL.windows.small
 have sm_n45_slots:n45.slots.length≤140737488355328:=by rw [hn49.2.2.2.2.1]; simp only [List.length_map]; exact hL.slots.small
 have sm_n45_phases:n45.phases.length≤140737488355328:=by rw [hn49.2.2.2.2.2.1]; simp only [List.length_map]; exact hL.phases.small
 have sm_n45_conds:n45.conds.length≤140737488355328:=by rw [hn49.2.2.2.2.2.2]; simp only [List.length_map]; exact hL.conds.small
 have hlenN:n45.phases.length=l.phases.length:=by rw [hn49.2.2.2.2.2.1]; simp
 refine la s48 2 _ rfl JL rfl rfl fun B50 a51 w52 s53=>dD s53 3 0 _ _ rfl rfl rfl rfl F5 rfl rfl rfl rfl fun w54 s55=>aR rfl<|aD<|d5 s55 [1,2,4,6,7] [702] [(6,Pt B50 0)] (qo (fa w54 B1 0 zI)<|qo (s55.m.ld 9 10 0 qQ rfl rfl)<|qo (yc w54 VI fun w' hb=>KE l.name w')<|qe) fun _ w57 s58=>wp_seq<|zs s58 [1,2,4,6,70] [(70,Bo ((((((((!(eO l.name))||(!(cZ n45.towns)))||(!(cZ n45.grounds)))||(!(cZ n45.teams)))||(!(cZ n45.windows)))||(!(cZ n45.slots)))||(!(cZ n45.phases)))||(!(cZ n45.conds))))] (qo (fa w57 B50 0 mH)<|qo (s58.m.ld 158 0 0 c8 rfl rfl)<|qo (yc w57 zP fun w' hb=>qB n45.townsA n45.towns n45.townsC w' ((s58.m.row (enc:=aJ) 7 rfl aU sm_n45_towns).grow hb))<|qo (fa w57 B50 0 qA)<|qo (s58.m.ld 158 0 1 c8 rfl rfl)<|qo (yc w57 zP fun w' hb=>qB n45.groundsA n45.grounds n45.groundsC w' ((s58.m.row (enc:=aJ) 6 rfl aU sm_n45_grounds).grow hb))<|qo (fa w57 B50 0 j8)<|qo (s58.m.ld 158 0 2 c8 rfl rfl)<|qo (yc w57 zP fun w' hb=>qB n45.teamsA n45.teams n45.teamsC w' ((s58.m.row (enc:=aJ) 5 rfl aU sm_n45_teams).grow hb))<|qo (fa w57 B50 0 r7)<|qo (s58.m.ld 158 0 3 c8 rfl rfl)<|qo (yc w57 zP fun w' hb=>qB n45.windowsA n45.windows n45.windowsC w' ((s58.m.row (enc:=aJ) 4 rfl aU sm_n45_windows).grow hb))<|qo (fa w57 B50 0 uY)<|qo (s58.m.ld 158 0 4 c8 rfl rfl)<|qo (yc w57 zP fun w' hb=>qB n45.slotsA n45.slots n45.slotsC w' ((s58.m.row (enc:=aJ) 3 rfl aU sm_n45_slots).grow hb))<|qo (fa w57 B50 0 r8)<|qo (s58.m.ld 158 0 5 c8 rfl rfl)<|qo (yc w57 zP fun w' hb=>qB n45.phasesA n45.phases n45.phasesC w' ((s58.m.row (enc:=aJ) 2 rfl aU sm_n45_phases).grow hb))<|qo (fa w57 B50 0 uZ)<|qo (s58.m.ld 158 0 6 c8 rfl rfl)<|qo (yc w57 zP fun w' hb=>qB n45.condsA n45.conds n45.condsC w' ((s58.m.row (enc:=aJ) 1 rfl aU sm_n45_conds).grow hb))<|qe) fun _ w60 s61=>cO s61.f rfl (fun h62=>?_) (fun h62=>?_)
 ·refine wp_seq<|aA<|zl s61 [2,71] [(71,.agg zz.toArray)] 0 1 (qo (s61.m.lda 34 8 0 cS rfl rfl rfl)<|qe) fun _ w64 s65=>dD s65 1 9 zz zz rfl rfl rfl rfl nA rfl rfl rfl rfl fun w66 s67=>zl s67 [2,3] [(3,I 170)] 2 1 qe fun _ w69 s70=>aR rfl<|aD<|aC<|aN (pR [.agg zz.toArray,I 170] rfl s70 ⟨⟨_,rfl,bQ (k:=9) s70 cS rfl rfl⟩,rfl,trivial⟩ ?_)
  exact rX s70 hn49 (iT h27 (iP h62 rfl)) (by decide)
 refine wp_skip<|aD<|wp_seq<|zs s61 [1,2,4,6,104] [(104,Bo (((((((c6 n45.towns)||(c6 n45.grounds))||(c6 n45.teams))||(c6 n45.windows))||(c6 n45.slots))||(c6 n45.phases))||(c6 n45.conds)))] (qo (fa w60 B50 0 mH)<|qo (s61.m.ld 158 0 0 c8 rfl rfl)<|qo (yc w60 zQ fun w' hb=>qC n45.townsA n45.towns n45.townsC w' ((s61.m.row (enc:=aJ) 7 rfl aU sm_n45_towns).grow hb) (s61.m.cap (enc:=aJ) 7 rfl))<|qo (fa w60 B50 0 qA)<|qo (s61.m.ld 158 0 1 c8 rfl rfl)<|qo (yc w60 zQ fun w' hb=>qC n45.groundsA n45.grounds n45.groundsC w' ((s61.m.row (enc:=aJ) 6 rfl aU sm_n45_grounds).grow hb) (s61.m.cap (enc:=aJ) 6 rfl))<|qo (fa w60 B50 0 j8)<|qo (s61.m.ld 158 0 2 c8 rfl rfl)<|qo (yc w60 zQ fun w' hb=>qC n45.teamsA n45.teams n45.teamsC w' ((s61.m.row (enc:=aJ) 5 rfl aU sm_n45_teams).grow hb) (s61.m.cap (enc:=aJ) 5 rfl))<|qo (fa w60 B50 0 r7)<|qo (s61.m.ld 158 0 3 c8 rfl rfl)<|qo (yc w60 zQ fun w' hb=>qC n45.windowsA n45.windows n45.windowsC w' ((s61.m.row (enc:=aJ) 4 rfl aU sm_n45_windows).grow hb) (s61.m.cap (enc:=aJ) 4 rfl))<|qo (fa w60 B50 0 uY)<|qo (s61.m.ld 158 0 4 c8 rfl rfl)<|qo (yc w60 zQ fun w' hb=>qC n45.slotsA n45.slots n45.slotsC w' ((s61.m.row (enc:=aJ) 3 rfl aU sm_n45_slots).grow hb) (s61.m.cap (enc:=aJ) 3 rfl))<|qo (fa w60 B50 0 r8)<|qo (s61.m.ld 158 0 5 c8 rfl rfl)<|qo (yc w60 zQ fun w' hb=>qC n45.phasesA n45.phases n45.phasesC w' ((s61.m.row (enc:=aJ) 2 rfl aU sm_n45_phases).grow hb) (s61.m.cap (enc:=aJ) 2 rfl))<|qo (fa w60 B50 0 uZ)<|qo (s61.m.ld 158 0 6 c8 rfl rfl)<|qo (yc w60 zQ fun w' hb=>qC n45.condsA n45.conds n45.condsC w' ((s61.m.row (enc:=aJ) 1 rfl aU sm_n45_conds).grow hb) (s61.m.cap (enc:=aJ) 1 rfl))<|qe) fun _ w78 s79=>cO s79.f rfl (fun h80=>?_) (fun h80=>?_)
 ·refine wp_seq<|aA<|zl s79 [2,105] [(105,.agg zz.toArray)] 0 1 (qo (s79.m.lda 34 8 0 cS rfl rfl rfl)<|qe) fun _ w82 s83=>dD s83 1 9 zz zz rfl rfl rfl rfl nA rfl rfl rfl rfl fun w84 s85=>zl s85 [2,3] [(3,I 171)] 2 1 qe fun _ w87 s88=>aR rfl<|aD<|aC<|aN (pR [.agg zz.toArray,I 171] rfl s88 ⟨⟨_,rfl,bQ (k:=9) s88 cS rfl rfl⟩,rfl,trivial⟩ ?_)
  exact rX s88 hn49 (iT h27 (iF h62 (iP h80 rfl))) (by decide)
 refine wp_skip<|aD<|wp_seq<|aA<|zl s79 [1,2,4,6,106] [(106,.agg (aB l).toArray)] 0 1 (qo (s79.m.lda 34 10 0 cS rfl rfl rfl)<|qe) fun _ w96 s97=>la s97 1 zz rfl DG rfl rfl fun B98 a99 w100 s101=>dD s101 2 0 _ _ rfl rfl rfl rfl nA rfl rfl rfl rfl fun w102 s103=>aR rfl<|aD<|wp_seq<|aA<|lR s103 0 (vs:=[]) (e:=205) [] rfl rfl (fun _=>by kernel_rfl) rfl fun B104 a105 w106 s107=>fJ s107 [1,2,4,6,8,107,109] [10901] [(8,Pt B98 0),(107,.slice (some ⟨B104,0,none⟩) 0 0)] 1 2 (qo (fa w106 B1 0 fS)<|qo (s107.m.ld 23 12 2 nS rfl rfl)<|qe) fun _ w109 s110=>?_
 have s111:=s110.litR (enc:=cY) 0 ([]:List Fz.nZ) rfl d6 rfl (by decide)
 refine oV s111 3 0 (xs:=([]:List Fz.nZ)) (ys:=l.ways) (oa:=(some ⟨B104,0,none⟩)) (oa2:=l.waysA) rfl rfl rfl rfl d6 ac5 (hL.ways.up s111.m) (by first | omega | (simp only [bV]; omega)) (by simp only [maxLen]; first | omega | (simp only [bV]; omega)) rfl fun oa112 c113 a114 w115 s116=>fJ s116 [1,2,4,6,8,110,111] [11100] [(110,.slice oa112 ((([]:List Fz.nZ)++l.ways).length) c113)] 4 1 (qo (fa w115 B98 0 fS)<|qe) fun _ w118 s119=>dD s119 5 1 _ _ rfl rfl rfl rfl WR rfl rfl rfl rfl fun w120 s121=>aR rfl<|aD<|wp_seq<|aA<|lR s121 0 (vs:=[]) (e:=207) [] rfl rfl (fun _=>by kernel_rfl) rfl fun B122 a123 w124 s125=>fJ s125 [1,2,4,6,8,112,114] [11401] [(112,.slice (some ⟨B122,0,none⟩) 0 0)] 1 2 (qo (fa w124 B1 0 iU)<|qo (s125.m.ld 24 13 3 qY rfl rfl)<|qe) fun _ w127 s128=>?_
 have s129:=s128.litR (enc:=bY) 0 ([]:List Fz.iL) rfl eJ rfl (by decide)
 refine oV s129 3 0 (xs:=([]:List Fz.iL)) (ys:=l.depots) (oa:=(some ⟨B122,0,none⟩)) (oa2:=l.depotsA) rfl rfl rfl rfl eJ ac6 (hL.depots.up s129.m) (by first | omega | (simp only [bV]; omega)) (by simp only [maxLen]; first | omega | (simp only [bV]; omega)) rfl fun oa130 c131 a132 w133 s134=>fJ s134 [1,2,4,6,8,115,116] [11600] [(115,.slice oa130 ((([]:List Fz.iL)++l.depots).length) c131)] 4 1 (qo (fa w133 B98 0 iU)<|qe) fun _ w136 s137=>dD s137 5 2 _ _ rfl rfl rfl rfl WS rfl rfl rfl rfl fun w138 s139=>aR rfl<|aD<|wp_seq<|aA<|lR s139 0 (vs:=[]) (e:=152) [] rfl rfl (fun _=>by kernel_rfl) rfl fun B140 a141 w142 s143=>fJ s143 [1,2,4,6,8,117,119] [11901] [(117,.slice (some ⟨B140,0,none⟩) 0 0)] 1 2 (qo (fa w142 B1 0 gG)<|qo (s143.m.ld 25 14 4 n3 rfl rfl)<|qe) fun _ w145 s146=>?_
 have s147:=s146.litR (enc:=bG) 0 ([]:List Fz.bZ) rfl dQ rfl (by decide)
 refine oV s147 3 0 (xs:=([]:List Fz.bZ)) (ys:=l.grounds) (oa:=(some ⟨B140,0,none⟩)) (oa2:=l.groundsA) rfl rfl rfl rfl dQ ac7 (hL.grounds.up s147.m) (by first | omega | (simp only [bV]; omega)) (by simp only [maxLen]; first | omega | (simp only [bV]; omega)) rfl fun oa148 c149 a150 w151 s152=>fJ s152 [1,2,4,6,8,120,121] [12100] [(120,.slice oa148 ((([]:List Fz.bZ)++l.grounds).length) c149)] 4 1 (qo (fa w151 B98 0 gG)<|qe) fun _ w154 s155=>dD s155 5 3 _ _ rfl rfl rfl rfl WT rfl rfl rfl rfl fun w156 s157=>aR rfl<|aD<|wp_seq<|aA<|lR s157 0 (vs:=[]) (e:=160) [] rfl rfl (fun _=>by kernel_rfl) rfl fun B158 a159 w160 s161=>fJ s161 [1,2,4,6,8,122,124] [12401] [(122,.slice (some ⟨B158,0,none⟩) 0 0)] 1 2 (qo (fa w160 B1 0 dS)<|qo (s161.m.ld 26 15 5 kS rfl rfl)<|qe) fun _ w163 s164=>?_
 have s165:=s164.litR (enc:=bU) 0 ([]:List Fz.cX) rfl dF rfl (by decide)
 refine oV s165 3 0 (xs:=([]:List Fz.cX)) (ys:=l.teams) (oa:=(some ⟨B158,0,none⟩)) (oa2:=l.teamsA) rfl rfl rfl rfl dF OR (hL.teams.up s165.m) (by first | omega | (simp only [bV]; omega)) (by simp only [maxLen]; first | omega | (simp only [bV]; omega)) rfl fun oa166 c167 a168 w169 s170=>fJ s170 [1,2,4,6,8,125,126] [12600] [(125,.slice oa166 ((([]:List Fz.cX)++l.teams).length) c167)] 4 1 (qo (fa w169 B98 0 dS)<|qe) fun _ w172 s173=>dD s173 5 4 _ _ rfl rfl rfl rfl LO rfl rfl rfl rfl fun w174 s175=>aR rfl<|aD<|wp_seq<|aA<|lR s175 0 (vs:=[]) (e:=157) [] rfl rfl (fun _=>by kernel_rfl) rfl fun B176 a177 w178 s179=>fJ s179 [1,2,4,6,8,127,129] [12901] [(127,.slice (some ⟨B176,0,none⟩) 0 0)] 1 2 (qo (fa w178 B1 0 cG)<|qo (s179.m.ld 31 16 13 iE rfl rfl)<|qe) fun _ w181 s182=>?_
 have s183:=s182.litR (enc:=aK) 0 ([]:List Fz.aX) rfl cV rfl (by decide)
 refine oV s183 3 0 (xs:=([]:List Fz.aX)) (ys:=l.phases) (oa:=(some ⟨B176,0,none⟩)) (oa2:=l.phasesA) rfl rfl rfl rfl cV ac8 (hL.phases.up s183.m) (by first | omega | (simp only [bV]; omega)) (by simp only [maxLen]; first | omega | (simp only [bV]; omega)) rfl fun oa184 c185 a186 w187 s188=>fJ s188 [1,2,4,6,8,130,131] [13100] [(130,.slice oa184 ((([]:List Fz.aX)++l.phases).length) c185)] 4 1 (qo (fa w187 B98 0 cG)<|qe) fun _ w190 s191=>dD s191 5 5 _ _ rfl rfl rfl rfl SI rfl rfl rfl rfl fun w192 s193=>aR rfl<|aD<|wp_seq<|aA<|lR s193 0 (vs:=[]) (e:=178) [] rfl rfl (fun _=>by kernel_rfl) rfl fun B194 a195 w196 s197=>fJ s197 [2,4,6,8,132,134] [13401] [(132,.slice (some ⟨B194,0,none⟩) 0 0)] 1 2 (qo (fa w196 B1 0 eV)<|qo (s197.m.ld 32 17 14 o6 rfl rfl)<|qe) fun _ w199 s200=>?_
 have s201:=s200.litR (enc:=aV) 0 ([]:List Fz.cJ) rfl eR rfl (by decide)
 refine oV s201 3 0 (xs:=([]:List Fz.cJ)) (ys:=l.conds) (oa:=(some ⟨B194,0,none⟩)) (oa2:=l.condsA) rfl rfl rfl rfl eR ac9 (hL.conds.up s201.m) (by first | omega | (simp only [bV]; omega)) (by simp only [maxLen]; first | omega | (simp only [bV]; omega)) rfl fun oa202 c203 a204 w205 s206=>fJ s206 [2,4,6,8,135,136] [13600] [(135,.slice oa202 ((([]:List Fz.cJ)++l.conds).length) c203)] 4 1 (qo (fa w205 B98 0 eV)<|qe) fun _ w208 s209=>dD s209 5 6 _ _ rfl rfl rfl rfl WV rfl rfl rfl rfl fun w210 s211=>aR rfl<|aD<|zs s211 [2,4,6,8] [] qe fun _ w213 s214=>wp_seq<|zs s214 [2,4,6,8,10] [(10,I 0)] qe fun _ w216 s217=>wp_block<|aO (α:=Nat) (fun k0 aI wI=>(k0≤l.ways.length)∧(Sta 318 [] w [⟨2,[],Pt B5 0⟩,⟨4,[],Pt B15 0⟩,⟨6,[],Pt B50 0⟩,⟨8,[],Pt B98 0⟩,⟨10,[],I (k0:Int)⟩] [oR 178 21 aV oa202 c203 (([]:List Fz.cJ)++l.conds),oR 157 14 aK oa184 c185 (([]:List Fz.aX)++l.phases),oR 160 4 bU oa166 c167 (([]:List Fz.cX)++l.teams),oR 152 7 bG oa148 c149 (([]:List Fz.bZ)++l.grounds),oR 207 3 bY oa130 c131 (([]:List Fz.iL)++l.depots),oR 205 5 cY oa112 c113 ((l.ways.take k0).map (oN n45)++l.ways.drop k0),cI B98 34 [.string l.name,.slice l.townsA l.towns.length l.townsC,.slice oa112 l.ways.length c113,.slice oa130 ((([]:List Fz.iL)++l.depots).length) c131,.slice oa148 ((([]:List Fz.bZ)++l.grounds).length) c149,.slice oa166 ((([]:List Fz.cX)++l.teams).length) c167,.slice l.windowsA l.windows.length l.windowsC,.slice l.slotsA l.slots.length l.slotsC,I l.pool,I l.points.p0,I l.points.p1,I l.points.p2,.slice l.keysA l.keys.length l.keysC,.slice oa184 ((([]:List Fz.aX)++l.phases).length) c185,.slice oa202 ((([]:List Fz.cJ)++l.conds).length) c203],cI B50 227 (dE n45),oR 9 1 aJ n45.condsA n45.condsC n45.conds,oR 9 1 aJ n45.phasesA n45.phasesC n45.phases,oR 9 1 aJ n45.slotsA n45.slotsC n45.slots,oR 9 1 aJ n45.windowsA n45.windowsC n45.windows,oR 9 1 aJ n45.teamsA n45.teamsC n45.teams,oR 9 1 aJ n45.groundsA n45.groundsC n45.grounds,oR 9 1 aJ n45.townsA n45.townsC n45.towns,cI B15 34 zz,cI B5 34 zz,cI B1 34 (aB l)] aI wI)∧(∀ i,i<k0→∀ x,l.ways[i]?=some x→(rJ n45) x=true)) (fun k0=>l.ways.length-k0) 0 ⟨Nat.zero_le _,s217.kp,fun i h=>(Nat.not_lt_zero i h).elim⟩<|?_
 rintro k0 a220 w219 ⟨k0_le,s218,inv_k0⟩
 refine wp_seq<|zs s218 [2,4,6,8,10,141] [(141,Bo (decide ((k0:Int)<(l.ways.length:Int))))] (qo (fa w219 B98 0 fS)<|qo (s218.m.ld 23 6 2 nS rfl rfl)<|qo (ln w219 3 oa112 l.ways.length c113 nU)<|qe) fun _ w222 s223=>aQ s223.f rfl (fun h224=>?_) (fun h224=>?_)
 ·have k0_lt:k0<l.ways.length:=by omega
  obtain ⟨x,hx225⟩:=cD (xs:=l.ways) k0_lt
  have hm226:=uR (oN n45) hx225
  refine wp_skip<|aD<|wp_seq<|wp_block<|wp_seq<|aL MO 17<|nD s223 [2,4,6,8,10,157,158,160] [16004] [(157,.agg #[.string x.a.name,I (aH n45.towns x.a.name)]),(158,Bo (decide (aH n45.towns x.a.name≥0)))] 0 [some [],some [],some [],some [],some [],some [],some [],some [],some [],some [],some [],some [],some [],some [],none,some [16],some []] (qo (fa w222 B98 0 fS)<|qo (s223.m.ld 23 6 2 nS rfl rfl)<|qo (fa w222 B98 0 fS)<|qo (s223.m.ld 23 6 2 nS rfl rfl)<|qo (ia w222 oa112 l.ways.length c113 k0 nU nT (by omega) ((s223.m.row (enc:=cY) 5 rfl d6 (by first | omega | (simp only [bV]; omega))).at' (k:=k0) (by first | omega | (simp only [bV]; omega))))<|qo (jZ w222 oa112 (k0*5) uW)<|qo ((s223.m.row (enc:=cY) 5 rfl d6 (by first | omega | (simp only [bV]; omega))).lda 148 k0 0 dK hm226 rfl rfl)<|qo (fa w222 B50 0 mH)<|qo (s223.m.ld 158 7 0 c8 rfl rfl)<|qo (yc w222 lQ fun w' hb=>gJ x.a n45.townsA n45.towns n45.townsC w' ((s223.m.row (enc:=aJ) 14 rfl aU sm_n45_towns).grow hb))<|qo (ia w222 oa112 l.ways.length c113 k0 nU nT (by omega) ((s223.m.row (enc:=cY) 5 rfl d6 (by first | omega | (simp only [bV]; omega))).at' (k:=k0) (by first | omega | (simp only [bV]; omega))))<|qo (jZ w222 oa112 (k0*5) uW)<|qe) hq fun _ s229=>df s229 17 rfl rfl rfl rfl (by kernel_rfl) rfl fun w230 s231=>UW s231 0 5 k0 0 (⟨⟨x.a.name,aH n45.towns x.a.name⟩,⟨x.b.name,x.b.n⟩,x.minutes⟩:Fz.nZ) [.string x.a.name,I (aH n45.towns x.a.name)] rfl rfl rfl rfl eD rfl rfl d6 hm226 rfl rfl fun w232 s233=>aR rfl (aD ?_)
  refine df s233 18 rfl rfl rfl rfl (by kernel_rfl) rfl fun w234 s235=>zl s235 [2,4,6,8,9,10] [(9,Bo (decide (aH n45.towns x.a.name≥0)))] 0 1 qe fun _ w237 s238=>aR rfl (aD ?_)
  refine dd s238 (by kernel_rfl) fun w239 s240=>aD<|wp_seq<|zs s240 [2,4,6,8,10,162] [(162,Bo (!(decide (aH n45.towns x.a.name≥0))))] qe fun _ w242 s243=>bR s243.f rfl (fun h244=>?_) (fun h244=>?_)
  ·refine wp_seq<|aA<|zl s243 [2,163] [(163,.agg zz.toArray)] 0 1 (qo (s243.m.lda 34 15 0 cS rfl rfl rfl)<|qe) fun _ w246 s247=>dD s247 1 16 zz zz rfl rfl rfl rfl nA rfl rfl rfl rfl fun w248 s249=>zl s249 [2,3] [(3,I 170)] 2 1 qe fun _ w251 s252=>aR rfl<|aD<|aC<|aN (bP (aN (aN (bP (aN (pR [.agg zz.toArray,I 170] rfl s252 ⟨⟨_,rfl,bQ (k:=16) s252 cS rfl rfl⟩,rfl,trivial⟩ ?_))))))
   exact rX s252 hn49 (iT h27 (iF h62 (iF h80 (iF (bI hx225 (iP h244 rfl)) rfl)))) (by decide)
  refine wp_skip<|aD<|wp_seq<|aL MO 17<|nD s243 [2,4,6,8,10,177,178,180] [18005] [(177,.agg #[.string (((⟨⟨x.a.name,aH n45.towns x.a.name⟩,⟨x.b.name,x.b.n⟩,x.minutes⟩:Fz.nZ).b).name),I (aH n45.towns (((⟨⟨x.a.name,aH n45.towns x.a.name⟩,⟨x.b.name,x.b.n⟩,x.minutes⟩:Fz.nZ).b).name))]),(178,Bo (decide (aH n45.towns (((⟨⟨x.a.name,aH n45.towns x.a.name⟩,⟨x.b.name,x.b.n⟩,x.minutes⟩:Fz.nZ).b).name)≥0)))] 0 [some [],some [],some [],some [],some [],some [],some [],some [],some [],some [],some [],some [],some [],some [],none,some [16],some []] (qo (fa w242 B98 0 fS)<|qo (s243.m.ld 23 6 2 nS rfl rfl)<|qo (fa w242 B98 0 fS)<|qo (s243.m.ld 23 6 2 nS rfl rfl)<|qo (ia w242 oa112 l.ways.length c113 k0 nU nT (by omega) ((s243.m.row (enc:=cY) 5 rfl d6 (by first | omega | (simp only [bV]; omega))).at' (k:=k0) (by first | omega | (simp only [bV]; omega))))<|qo (jZ w242 oa112 (k0*5) uX)<|qo ((s243.m.row (enc:=cY) 5 rfl d6 (by first | omega | (simp only [bV]; omega))).lda 148 k0 2 dK (JE hm226) rfl rfl)<|qo (fa w242 B50 0 mH)<|qo (s243.m.ld 158 7 0 c8 rfl rfl)<|qo (yc w242 lQ fun w' hb=>gJ (⟨((⟨⟨x.a.name,aH n45.towns x.a.name⟩,⟨x.b.name,x.b.n⟩,x.minutes⟩:Fz.nZ).b).name,((⟨⟨x.a.name,aH n45.towns x.a.name⟩,⟨x.b.name,x.b.n⟩,x.minutes⟩:Fz.nZ).b).n⟩:Fz.cW) n45.townsA n45.towns n45.townsC w' ((s243.m.row (enc:=aJ) 14 rfl aU sm_n45_towns).grow hb))<|qo (ia w242 oa112 l.ways.length c113 k0 nU nT (by omega) ((s243.m.row (enc:=cY) 5 rfl d6 (by first | omega | (simp only [bV]; omega))).at' (k:=k0) (by first | omega | (simp only [bV]; omega))))<|qo (jZ w242 oa112 (k0*5) uX)<|qe) hq fun _ s261=>df s261 17 rfl rfl rfl rfl (by kernel_rfl) rfl fun w262 s263=>UW s263 0 5 k0 2 (⟨⟨((⟨⟨x.a.name,aH n45.towns x.a.name⟩,⟨x.b.name,x.b.n⟩,x.minutes⟩:Fz.nZ).a).name,((⟨⟨x.a.name,aH n45.towns x.a.name⟩,⟨x.b.name,x.b.n⟩,x.minutes⟩:Fz.nZ).a).n⟩,⟨((⟨⟨x.a.name,aH n45.towns x.a.name⟩,⟨x.b.name,x.b.n⟩,x.minutes⟩:Fz.nZ).b).name,aH n45.towns (((⟨⟨x.a.name,aH n45.towns x.a.name⟩,⟨x.b.name,x.b.n⟩,x.minutes⟩:Fz.nZ).b).name)⟩,(⟨⟨x.a.name,aH n45.towns x.a.name⟩,⟨x.b.name,x.b.n⟩,x.minutes⟩:Fz.nZ).minutes⟩:Fz.nZ) [.string (((⟨⟨x.a.name,aH n45.towns x.a.name⟩,⟨x.b.name,x.b.n⟩,x.minutes⟩:Fz.nZ).b).name),I (aH n45.towns (((⟨⟨x.a.name,aH n45.towns x.a.name⟩,⟨x.b.name,x.b.n⟩,x.minutes⟩:Fz.nZ).b).name))] rfl rfl rfl rfl eD rfl rfl d6 (JE hm226) rfl rfl fun w264 s265=>aR rfl (aD ?_)
  refine df s265 18 rfl rfl rfl rfl (by kernel_rfl) rfl fun w266 s267=>zl s267 [2,4,6,8,9,10] [(9,Bo (decide (aH n45.towns (((⟨⟨x.a.name,aH n45.towns x.a.name⟩,⟨x.b.name,x.b.n⟩,x.minutes⟩:Fz.nZ).b).name)≥0)))] 0 1 qe fun _ w269 s270=>aR rfl (aD ?_)
  refine dd s270 (by kernel_rfl) fun w271 s272=>aD<|zs s272 [2,4,6,8,10,182] [(182,Bo (!(decide (aH n45.towns (((⟨⟨x.a.name,aH n45.towns x.a.name⟩,⟨x.b.name,x.b.n⟩,x.minutes⟩:Fz.nZ).b).name)≥0))))] qe fun _ w274 s275=>bR s275.f rfl (fun h276=>?_) (fun h276=>?_)
  ·refine wp_seq<|aA<|zl s275 [2,183] [(183,.agg zz.toArray)] 0 1 (qo (s275.m.lda 34 15 0 cS rfl rfl rfl)<|qe) fun _ w278 s279=>dD s279 1 16 zz zz rfl rfl rfl rfl nA rfl rfl rfl rfl fun w280 s281=>zl s281 [2,3] [(3,I 170)] 2 1 qe fun _ w283 s284=>aR rfl<|aD<|aC<|bP (aN (aN (bP (aN (pR [.agg zz.toArray,I 170] rfl s284 ⟨⟨_,rfl,bQ (k:=16) s284 cS rfl rfl⟩,rfl,trivial⟩ ?_)))))
   exact rX s284 hn49 (iT h27 (iF h62 (iF h80 (iF (bI hx225 (iT h244 (iP h276 rfl))) rfl)))) (by decide)
  refine wp_skip<|c9 (aD ?_)
  refine dU s275 [2,4,6,8,10] [1000] [] (qo (wr ((k0:Int)+1) ((k0+1:Nat):Int) (by omega))<|qe) fun _ w292 s293=>aD<|?_
  exact ⟨(k0+1),⟨by omega,(s293.kr (by rw [show (((l.ways.take k0).map (oN n45)++l.ways.drop k0).set k0 (⟨⟨x.a.name,aH n45.towns x.a.name⟩,⟨x.b.name,x.b.n⟩,x.minutes⟩:Fz.nZ)).set k0 (⟨⟨((⟨⟨x.a.name,aH n45.towns x.a.name⟩,⟨x.b.name,x.b.n⟩,x.minutes⟩:Fz.nZ).a).name,((⟨⟨x.a.name,aH n45.towns x.a.name⟩,⟨x.b.name,x.b.n⟩,x.minutes⟩:Fz.nZ).a).n⟩,⟨((⟨⟨x.a.name,aH n45.towns x.a.name⟩,⟨x.b.name,x.b.n⟩,x.minutes⟩:Fz.nZ).b).name,aH n45.towns (((⟨⟨x.a.name,aH n45.towns x.a.name⟩,⟨x.b.name,x.b.n⟩,x.minutes⟩:Fz.nZ).b).name)⟩,(⟨⟨x.a.name,aH n45.towns x.a.name⟩,⟨x.b.name,x.b.n⟩,x.minutes⟩:Fz.nZ).minutes⟩:Fz.nZ)=_ from LL (f:=oN n45) (x:=x) hx225] <;> rfl)),aM inv_k0 (fun y hy=>by rw [hx225] at hy; cases hy; exact (iT h244 (iT h276 rfl)))⟩,by omega⟩
 have k0_eq:k0=l.ways.length:=by omega
 have A294:l.ways.all (rJ n45)=true:=cR (by rw [k0_eq] at inv_k0; exact inv_k0)
 refine wp_exit<|aY (aY (cP (aD ?_)))
 refine wp_seq<|zs s223 [2,4,6,8,11] [(11,I 0)] qe fun _ w296 s297=>wp_block<|aO (α:=Nat) (fun k1 aI wI=>(k1≤l.depots.length)∧(Sta 318 [] w [⟨2,[],Pt B5 0⟩,⟨4,[],Pt B15 0⟩,⟨6,[],Pt B50 0⟩,⟨8,[],Pt B98 0⟩,⟨11,[],I (k1:Int)⟩] [oR 178 21 aV oa202 c203 (([]:List Fz.cJ)++l.conds),oR 157 14 aK oa184 c185 (([]:List Fz.aX)++l.phases),oR 160 4 bU oa166 c167 (([]:List Fz.cX)++l.teams),oR 152 7 bG oa148 c149 (([]:List Fz.bZ)++l.grounds),oR 207 3 bY oa130 c131 ((l.depots.take k1).map (iS n45)++l.depots.drop k1),oR 205 5 cY oa112 c113 ((l.ways.take k0).map (oN n45)++l.ways.drop k0),cI B98 34 [.string l.name,.slice l.townsA l.towns.length l.townsC,.slice oa112 l.ways.length c113,.slice oa130 l.depots.length c131,.slice oa148 ((([]:List Fz.bZ)++l.grounds).length) c149,.slice oa166 ((([]:List Fz.cX)++l.teams).length) c167,.slice l.windowsA l.windows.length l.windowsC,.slice l.slotsA l.slots.length l.slotsC,I l.pool,I l.points.p0,I l.points.p1,I l.points.p2,.slice l.keysA l.keys.length l.keysC,.slice oa184 ((([]:List Fz.aX)++l.phases).length) c185,.slice oa202 ((([]:List Fz.cJ)++l.conds).length) c203],cI B50 227 (dE n45),oR 9 1 aJ n45.condsA n45.condsC n45.conds,oR 9 1 aJ n45.phasesA n45.phasesC n45.phases,oR 9 1 aJ n45.slotsA n45.slotsC n45.slots,oR 9 1 aJ n45.windowsA n45.windowsC n45.windows,oR 9 1 aJ n45.teamsA n45.teamsC n45.teams,oR 9 1 aJ n45.groundsA n45.groundsC n45.grounds,oR 9 1 aJ n45.townsA n45.townsC n45.towns,cI B15 34 zz,cI B5 34 zz,cI B1 34 (aB l)] aI wI)∧(∀ i,i<k1→∀ x,l.depots[i]?=some x→(m9 n45) x=true)) (fun k1=>l.depots.length-k1) 0 ⟨Nat.zero_le _,s297.kp,fun i h=>(Nat.not_lt_zero i h).elim⟩<|?_
 rintro k1 a300 w299 ⟨k1_le,s298,inv_k1⟩
 refine wp_seq<|zs s298 [2,4,6,8,11,188] [(188,Bo (decide ((k1:Int)<(l.depots.length:Int))))] (qo (fa w299 B98 0 iU)<|qo (s298.m.ld 24 6 3 qY rfl rfl)<|qo (ln w299 3 oa130 l.depots.length c131 qZ)<|qe) fun _ w302 s303=>aQ s303.f rfl (fun h304=>?_) (fun h304=>?_)
 ·have k1_lt:k1<l.depots.length:=by omega
  obtain ⟨x,hx305⟩:=cD (xs:=l.depots) k1_lt
  have hm306:=uR (iS n45) hx305
  refine wp_skip<|aD<|wp_seq<|wp_block<|wp_seq<|aL MO 17<|nD s303 [2,4,6,8,11,204,205,207] [20704] [(204,.agg #[.string x.town.name,I (aH n45.towns x.town.name)]),(205,Bo (decide (aH n45.towns x.town.name≥0)))] 0 [some [],some [],some [],some [],some [],some [],some [],some [],some [],some [],some [],some [],some [],some [],none,some [16],some []] (qo (fa w302 B98 0 iU)<|qo (s303.m.ld 24 6 3 qY rfl rfl)<|qo (fa w302 B98 0 iU)<|qo (s303.m.ld 24 6 3 qY rfl rfl)<|qo (ia w302 oa130 l.depots.length c131 k1 qZ sT (by omega) ((s303.m.row (enc:=bY) 4 rfl eJ (by first | omega | (simp only [bV]; omega))).at' (k:=k1) (by first | omega | (simp only [bV]; omega))))<|qo (jZ w302 oa130 (k1*3) DN)<|qo ((s303.m.row (enc:=bY) 4 rfl eJ (by first | omega | (simp only [bV]; omega))).lda 148 k1 0 dK hm306 rfl rfl)<|qo (fa w302 B50 0 mH)<|qo (s303.m.ld 158 7 0 c8 rfl rfl)<|qo (yc w302 lQ fun w' hb=>gJ x.town n45.townsA n45.towns n45.townsC w' ((s303.m.row (enc:=aJ) 14 rfl aU sm_n45_towns).grow hb))<|qo (ia w302 oa130 l.depots.length c131 k1 qZ sT (by omega) ((s303.m.row (enc:=bY) 4 rfl eJ (by first | omega | (simp only [bV]; omega))).at' (k:=k1) (by first | omega | (simp only [bV]; omega))))<|qo (jZ w302 oa130 (k1*3) DN)<|qe) hq fun _ s309=>df s309 17 rfl rfl rfl rfl (by kernel_rfl) rfl fun w310 s311=>UW s311 0 4 k1 0 (⟨⟨x.town.name,aH n45.towns x.town.name⟩,x.sets⟩:Fz.iL) [.string x.town.name,I (aH n45.towns x.town.name)] rfl rfl rfl rfl eD rfl rfl eJ hm306 rfl rfl fun w312 s313=>aR rfl (aD ?_)
  refine df s313 18 rfl rfl rfl rfl (by kernel_rfl) rfl fun w314 s315=>zl s315 [2,4,6,8,9,11] [(9,Bo (decide (aH n45.towns x.town.name≥0)))] 0 1 qe fun _ w317 s318=>aR rfl (aD ?_)
  refine dd s318 (by kernel_rfl) fun w319 s320=>aD<|zs s320 [2,4,6,8,11,209] [(209,Bo (!(decide (aH n45.towns x.town.name≥0))))] qe fun _ w322 s323=>bR s323.f rfl (fun h324=>?_) (fun h324=>?_)
  ·refine wp_seq<|aA<|zl s323 [2,210] [(210,.agg zz.toArray)] 0 1 (qo (s323.m.lda 34 15 0 cS rfl rfl rfl)<|qe) fun _ w326 s327=>dD s327 1 16 zz zz rfl rfl rfl rfl nA rfl rfl rfl rfl fun w328 s329=>zl s329 [2,3] [(3,I 170)] 2 1 qe fun _ w331 s332=>aR rfl<|aD<|aC<|bP (aN (aN (bP (aN (pR [.agg zz.toArray,I 170] rfl s332 ⟨⟨_,rfl,bQ (k:=16) s332 cS rfl rfl⟩,rfl,trivial⟩ ?_)))))
   exact rX s332 hn49 (iT h27 (iF h62 (iF h80 (iP A294 (iF (bI hx305 h324) rfl))))) (by decide)
  refine wp_skip<|c9 (aD ?_)
  refine dU s323 [2,4,6,8,11] [1100] [] (qo (wr ((k1:Int)+1) ((k1+1:Nat):Int) (by omega))<|qe) fun _ w340 s341=>aD<|?_
  exact ⟨(k1+1),⟨by omega,(s341.kr (by rw [show ((l.depots.take k1).map (iS n45)++l.depots.drop k1).set k1 (⟨⟨x.town.name,aH n45.towns x.town.name⟩,x.sets⟩:Fz.iL)=_ from rK (f:=iS n45) hx305] <;> rfl)),aM inv_k1 (fun y hy=>by rw [hx305] at hy; cases hy; exact h324)⟩,by omega⟩
 have k1_eq:k1=l.depots.length:=by omega
 have A342:l.depots.all (m9 n45)=true:=cR (by rw [k1_eq] at inv_k1; exact inv_k1)
 refine wp_exit<|aY (aY (cP (aD ?_)))
 refine wp_seq<|zs s303 [2,4,6,8,12] [(12,I 0)] qe fun _ w344 s345=>wp_block<|aO (α:=Nat) (fun k2 aI wI=>(k2≤l.grounds.length)∧(Sta 318 [] w [⟨2,[],Pt B5 0⟩,⟨4,[],Pt B15 0⟩,⟨6,[],Pt B50 0⟩,⟨8,[],Pt B98 0⟩,⟨12,[],I (k2:Int)⟩] [oR 178 21 aV oa202 c203 (([]:List Fz.cJ)++l.conds),oR 157 14 aK oa184 c185 (([]:List Fz.aX)++l.phases),oR 160 4 bU oa166 c167 (([]:List Fz.cX)++l.teams),oR 152 7 bG oa148 c149 ((l.grounds.take k2).map (gE n45)++l.grounds.drop k2),oR 207 3 bY oa130 c131 ((l.depots.take k1).map (iS n45)++l.depots.drop k1),oR 205 5 cY oa112 c113 ((l.ways.take k0).map (oN n45)++l.ways.drop k0),cI B98 34 [.string l.name,.slice l.townsA l.towns.length l.townsC,.slice oa112 l.ways.length c113,.slice oa130 l.depots.length c131,.slice oa148 l.grounds.length c149,.slice oa166 ((([]:List Fz.cX)++l.teams).length) c167,.slice l.windowsA l.windows.length l.windowsC,.slice l.slotsA l.slots.length l.slotsC,I l.pool,I l.points.p0,I l.points.p1,I l.points.p2,.slice l.keysA l.keys.length l.keysC,.slice oa184 ((([]:List Fz.aX)++l.phases).length) c185,.slice oa202 ((([]:List Fz.cJ)++l.conds).length) c203],cI B50 227 (dE n45),oR 9 1 aJ n45.condsA n45.condsC n45.conds,oR 9 1 aJ n45.phasesA n45.phasesC n45.phases,oR 9 1 aJ n45.slotsA n45.slotsC n45.slots,oR 9 1 aJ n45.windowsA n45.windowsC n45.windows,oR 9 1 aJ n45.teamsA n45.teamsC n45.teams,oR 9 1 aJ n45.groundsA n45.groundsC n45.grounds,oR 9 1 aJ n45.townsA n45.townsC n45.towns,cI B15 34 zz,cI B5 34 zz,cI B1 34 (aB l)] aI wI)∧(∀ i,i<k2→∀ x,l.grounds[i]?=some x→(lJ n45) x=true)) (fun k2=>l.grounds.length-k2) 0 ⟨Nat.zero_le _,s345.kp,fun i h=>(Nat.not_lt_zero i h).elim⟩<|?_
 rintro k2 a348 w347 ⟨k2_le,s346,inv_k2⟩
 refine wp_seq<|zs s346 [2,4,6,8,12,215] [(215,Bo (decide ((k2:Int)<(l.grounds.length:Int))))] (qo (fa w347 B98 0 gG)<|qo (s346.m.ld 25 6 4 n3 rfl rfl)<|qo (ln w347 3 oa148 l.grounds.length c149 nV)<|qe) fun _ w350 s351=>aQ s351.f rfl (fun h352=>?_) (fun h352=>?_)
 ·have k2_lt:k2<l.grounds.length:=by omega
  obtain ⟨x,hx353⟩:=cD (xs:=l.grounds) k2_lt
  have hm354:=uR (gE n45) hx353
  refine wp_skip<|aD<|wp_seq<|wp_block<|wp_seq<|aL MO 17<|nD s351 [2,4,6,8,12,231,232,234] [23405] [(231,.agg #[.string x.town.name,I (aH n45.towns x.town.name)]),(232,Bo (decide (aH n45.towns x.town.name≥0)))] 0 [some [],some [],some [],some [],some [],some [],some [],some [],some [],some [],some [],some [],some [],some [],none,some [16],some []] (qo (fa w350 B98 0 gG)<|qo (s351.m.ld 25 6 4 n3 rfl rfl)<|qo (fa w350 B98 0 gG)<|qo (s351.m.ld 25 6 4 n3 rfl rfl)<|qo (ia w350 oa148 l.grounds.length c149 k2 nV oB (by omega) ((s351.m.row (enc:=bG) 3 rfl dQ (by first | omega | (simp only [bV]; omega))).at' (k:=k2) (by first | omega | (simp only [bV]; omega))))<|qo (jZ w350 oa148 (k2*7) DK)<|qo ((s351.m.row (enc:=bG) 3 rfl dQ (by first | omega | (simp only [bV]; omega))).lda 148 k2 1 dK hm354 rfl rfl)<|qo (fa w350 B50 0 mH)<|qo (s351.m.ld 158 7 0 c8 rfl rfl)<|qo (yc w350 lQ fun w' hb=>gJ x.town n45.townsA n45.towns n45.townsC w' ((s351.m.row (enc:=aJ) 14 rfl aU sm_n45_towns).grow hb))<|qo (ia w350 oa148 l.grounds.length c149 k2 nV oB (by omega) ((s351.m.row (enc:=bG) 3 rfl dQ (by first | omega | (simp only [bV]; omega))).at' (k:=k2) (by first | omega | (simp only [bV]; omega))))<|qo (jZ w350 oa148 (k2*7) DK)<|qe) hq fun _ s357=>df s357 17 rfl rfl rfl rfl (by kernel_rfl) rfl fun w358 s359=>UW s359 0 3 k2 1 (⟨x.name,⟨x.town.name,aH n45.towns x.town.name⟩,x.bear,x.wear,x.grow,x.uses⟩:Fz.bZ) [.string x.town.name,I (aH n45.towns x.town.name)] rfl rfl rfl rfl eD rfl rfl dQ hm354 rfl rfl fun w360 s361=>aR rfl (aD ?_)
  refine df s361 18 rfl rfl rfl rfl (by kernel_rfl) rfl fun w362 s363=>zl s363 [2,4,6,8,9,12] [(9,Bo (decide (aH n45.towns x.town.name≥0)))] 0 1 qe fun _ w365 s366=>aR rfl (aD ?_)
  refine dd s366 (by kernel_rfl) fun w367 s368=>aD<|zs s368 [2,4,6,8,12,236] [(236,Bo (!(decide (aH n45.towns x.town.name≥0))))] qe fun _ w370 s371=>bR s371.f rfl (fun h372=>?_) (fun h372=>?_)
  ·refine wp_seq<|aA<|zl s371 [2,237] [(237,.agg zz.toArray)] 0 1 (qo (s371.m.lda 34 15 0 cS rfl rfl rfl)<|qe) fun _ w374 s375=>dD s375 1 16 zz zz rfl rfl rfl rfl nA rfl rfl rfl rfl fun w376 s377=>zl s377 [2,3] [(3,I 170)] 2 1 qe fun _ w379 s380=>aR rfl<|aD<|aC<|bP (aN (aN (bP (aN (pR [.agg zz.toArray,I 170] rfl s380 ⟨⟨_,rfl,bQ (k:=16) s380 cS rfl rfl⟩,rfl,trivial⟩ ?_)))))
   exact rX s380 hn49 (iT h27 (iF h62 (iF h80 (iP A294 (iP A342 (iF (bI hx353 h372) rfl)))))) (by decide)
  refine wp_skip<|c9 (aD ?_)
  refine dU s371 [2,4,6,8,12] [1200] [] (qo (wr ((k2:Int)+1) ((k2+1:Nat):Int) (by omega))<|qe) fun _ w388 s389=>aD<|?_
  exact ⟨(k2+1),⟨by omega,(s389.kr (by rw [show ((l.grounds.take k2).map (gE n45)++l.grounds.drop k2).set k2 (⟨x.name,⟨x.town.name,aH n45.towns x.town.name⟩,x.bear,x.wear,x.grow,x.uses⟩:Fz.bZ)=_ from rK (f:=gE n45) hx353] <;> rfl)),aM inv_k2 (fun y hy=>by rw [hx353] at hy; cases hy; exact h372)⟩,by omega⟩
 have k2_eq:k2=l.grounds.length:=by omega
 have A390:l.grounds.all (lJ n45)=true:=cR (by rw [k2_eq] at inv_k2; exact inv_k2)
 refine wp_exit<|aY (aY (cP (aD ?_)))
 refine wp_seq<|zs s351 [2,4,6,8,13] [(13,I 0)] qe fun _ w392 s393=>wp_block<|aO (α:=Nat) (fun k3 aI wI=>(k3≤l.teams.length)∧(Sta 318 [] w [⟨2,[],Pt B5 0⟩,⟨4,[],Pt B15 0⟩,⟨6,[],Pt B50 0⟩,⟨8,[],Pt B98 0⟩,⟨13,[],I (k3:Int)⟩] [oR 178 21 aV oa202 c203 (([]:List Fz.cJ)++l.conds),oR 157 14 aK oa184 c185 (([]:List Fz.aX)++l.phases),oR 160 4 bU oa166 c167 ((l.teams.take k3).map (lS n45)++l.teams.drop k3),oR 152 7 bG oa148 c149 ((l.grounds.take k2).map (gE n45)++l.grounds.drop k2),oR 207 3 bY oa130 c131 ((l.depots.take k1).map (iS n45)++l.depots.drop k1),oR 205 5 cY oa112 c113 ((l.ways.take k0).map (oN n45)++l.ways.drop k0),cI B98 34 [.string l.name,.slice l.townsA l.towns.length l.townsC,.slice oa112 l.ways.length c113,.slice oa130 l.depots.length c131,.slice oa148 l.grounds.length c149,.slice oa166 l.teams.length c167,.slice l.windowsA l.windows.length l.windowsC,.slice l.slotsA l.slots.length l.slotsC,I l.pool,I l.points.p0,I l.points.p1,I l.points.p2,.slice l.keysA l.keys.length l.keysC,.slice oa184 ((([]:List Fz.aX)++l.phases).length) c185,.slice oa202 ((([]:List Fz.cJ)++l.conds).length) c203],cI B50 227 (dE n45),oR 9 1 aJ n45.condsA n45.condsC n45.conds,oR 9 1 aJ n45.phasesA n45.phasesC n45.phases,oR 9 1 aJ n45.slotsA n45.slotsC n45.slots,oR 9 1 aJ n45.windowsA n45.windowsC n45.windows,oR 9 1 aJ n45.teamsA n45.teamsC n45.teams,oR 9 1 aJ n45.groundsA n45.groundsC n45.grounds,oR 9 1 aJ n45.townsA n45.townsC n45.towns,cI B15 34 zz,cI B5 34 zz,cI B1 34 (aB l)] aI wI)∧(∀ i,i<k3→∀ x,l.teams[i]?=some x→(pW n45) x=true)) (fun k3=>l.teams.length-k3) 0 ⟨Nat.zero_le _,s393.kp,fun i h=>(Nat.not_lt_zero i h).elim⟩<|?_
 rintro k3 a396 w395 ⟨k3_le,s394,inv_k3⟩
 refine wp_seq<|zs s394 [2,4,6,8,13,242] [(242,Bo (decide ((k3:Int)<(l.teams.length:Int))))] (qo (fa w395 B98 0 dS)<|qo (s394.m.ld 26 6 5 kS rfl rfl)<|qo (ln w395 3 oa166 l.teams.length c167 lL)<|qe) fun _ w398 s399=>aQ s399.f rfl (fun h400=>?_) (fun h400=>?_)
 ·have k3_lt:k3<l.teams.length:=by omega
  obtain ⟨x,hx401⟩:=cD (xs:=l.teams) k3_lt
  have hm402:=uR (lS n45) hx401
  refine wp_skip<|aD<|wp_seq<|wp_block<|wp_seq<|aL MO 17<|nD s399 [2,4,6,8,13,258,259,261] [26105] [(258,.agg #[.string x.ground.name,I (aH n45.grounds x.ground.name)]),(259,Bo (decide (aH n45.grounds x.ground.name≥0)))] 0 [some [],some [],some [],some [],some [],some [],some [],some [],some [],some [],some [],some [],some [],some [],none,some [16],some []] (qo (fa w398 B98 0 dS)<|qo (s399.m.ld 26 6 5 kS rfl rfl)<|qo (fa w398 B98 0 dS)<|qo (s399.m.ld 26 6 5 kS rfl rfl)<|qo (ia w398 oa166 l.teams.length c167 k3 lL o9 (by omega) ((s399.m.row (enc:=bU) 2 rfl dF (by first | omega | (simp only [bV]; omega))).at' (k:=k3) (by first | omega | (simp only [bV]; omega))))<|qo (jZ w398 oa166 (k3*4) DM)<|qo ((s399.m.row (enc:=bU) 2 rfl dF (by first | omega | (simp only [bV]; omega))).lda 148 k3 1 dK hm402 rfl rfl)<|qo (fa w398 B50 0 qA)<|qo (s399.m.ld 158 7 1 c8 rfl rfl)<|qo (yc w398 lQ fun w' hb=>gJ x.ground n45.groundsA n45.grounds n45.groundsC w' ((s399.m.row (enc:=aJ) 13 rfl aU sm_n45_grounds).grow hb))<|qo (ia w398 oa166 l.teams.length c167 k3 lL o9 (by omega) ((s399.m.row (enc:=bU) 2 rfl dF (by first | omega | (simp only [bV]; omega))).at' (k:=k3) (by first | omega | (simp only [bV]; omega))))<|qo (jZ w398 oa166 (k3*4) DM)<|qe) hq fun _ s405=>df s405 17 rfl rfl rfl rfl (by kernel_rfl) rfl fun w406 s407=>UW s407 0 2 k3 1 (⟨x.name,⟨x.ground.name,aH n45.grounds x.ground.name⟩,x.rank⟩:Fz.cX) [.string x.ground.name,I (aH n45.grounds x.ground.name)] rfl rfl rfl rfl eD rfl rfl dF hm402 rfl rfl fun w408 s409=>aR rfl (aD ?_)
  refine df s409 18 rfl rfl rfl rfl (by kernel_rfl) rfl fun w410 s411=>zl s411 [2,4,6,8,9,13] [(9,Bo (decide (aH n45.grounds x.ground.name≥0)))] 0 1 qe fun _ w413 s414=>aR rfl (aD ?_)
  refine dd s414 (by kernel_rfl) fun w415 s416=>aD<|zs s416 [2,4,6,8,13,263] [(263,Bo (!(decide (aH n45.grounds x.ground.name≥0))))] qe fun _ w418 s419=>bR s419.f rfl (fun h420=>?_) (fun h420=>?_)
  ·refine wp_seq<|aA<|zl s419 [2,264] [(264,.agg zz.toArray)] 0 1 (qo (s419.m.lda 34 15 0 cS rfl rfl rfl)<|qe) fun _ w422 s423=>dD s423 1 16 zz zz rfl rfl rfl rfl nA rfl rfl rfl rfl fun w424 s425=>zl s425 [2,3] [(3,I 170)] 2 1 qe fun _ w427 s428=>aR rfl<|aD<|aC<|bP (aN (aN (bP (aN (pR [.agg zz.toArray,I 170] rfl s428 ⟨⟨_,rfl,bQ (k:=16) s428 cS rfl rfl⟩,rfl,trivial⟩ ?_)))))
   exact rX s428 hn49 (iT h27 (iF h62 (iF h80 (iP A294 (iP A342 (iP A390 (iF (bI hx401 h420) rfl))))))) (by decide)
  refine wp_skip<|c9 (aD ?_)
  refine dU s419 [2,4,6,8,13] [1300] [] (qo (wr ((k3:Int)+1) ((k3+1:Nat):Int) (by omega))<|qe) fun _ w436 s437=>aD<|?_
  exact ⟨(k3+1),⟨by omega,(s437.kr (by rw [show ((l.teams.take k3).map (lS n45)++l.teams.drop k3).set k3 (⟨x.name,⟨x.ground.name,aH n45.grounds x.ground.name⟩,x.rank⟩:Fz.cX)=_ from rK (f:=lS n45) hx401] <;> rfl)),aM inv_k3 (fun y hy=>by rw [hx401] at hy; cases hy; exact h420)⟩,by omega⟩
 have k3_eq:k3=l.teams.length:=by omega
 have A438:l.teams.all (pW n45)=true:=cR (by rw [k3_eq] at inv_k3; exact inv_k3)
 refine wp_exit<|aY (aY (cP (aD ?_)))
 refine wp_seq<|zs s399 [2,4,6,8,14] [(14,I 0)] qe fun _ w440 s441=>wp_block<|aO (α:=Nat) (fun k4 aI wI=>∃ rs:List aX,∃ gs:List GT,(k4≤l.phases.length)∧(Sta 318 [] w [⟨2,[],Pt B5 0⟩,⟨4,[],Pt B15 0⟩,⟨6,[],Pt B50 0⟩,⟨8,[],Pt B98 0⟩,⟨14,[],I (k4:Int)⟩] ((oR 178 21 aV oa202 c203 (([]:List Fz.cJ)++l.conds))::(oR 157 14 aK oa184 c185 (rs++l.phases.drop k4))::(oR 160 4 bU oa166 c167 ((l.teams.take k3).map (lS n45)++l.teams.drop k3))::(oR 152 7 bG oa148 c149 ((l.grounds.take k2).map (gE n45)++l.grounds.drop k2))::(oR 207 3 bY oa130 c131 ((l.depots.take k1).map (iS n45)++l.depots.drop k1))::(oR 205 5 cY oa112 c113 ((l.ways.take k0).map (oN n45)++l.ways.drop k0))::(cI B98 34 [.string l.name,.slice l.townsA l.towns.length l.townsC,.slice oa112 l.ways.length c113,.slice oa130 l.depots.length c131,.slice oa148 l.grounds.length c149,.slice oa166 l.teams.length c167,.slice l.windowsA l.windows.length l.windowsC,.slice l.slotsA l.slots.length l.slotsC,I l.pool,I l.points.p0,I l.points.p1,I l.points.p2,.slice l.keysA l.keys.length l.keysC,.slice oa184 l.phases.length c185,.slice oa202 ((([]:List Fz.cJ)++l.conds).length) c203])::(cI B50 227 (dE n45))::(oR 9 1 aJ n45.condsA n45.condsC n45.conds)::(oR 9 1 aJ n45.phasesA n45.phasesC n45.phases)::(oR 9 1 aJ n45.slotsA n45.slotsC n45.slots)::(oR 9 1 aJ n45.windowsA n45.windowsC n45.windows)::(oR 9 1 aJ n45.teamsA n45.teamsC n45.teams)::(oR 9 1 aJ n45.groundsA n45.groundsC n45.grounds)::(oR 9 1 aJ n45.townsA n45.townsC n45.towns)::(cI B15 34 zz)::(cI B5 34 zz)::(cI B1 34 (aB l))::gs.map tG) aI wI)∧(N4 l n45 rs gs k4)∧(∀ i,i<k4→∀ x,(List.range l.phases.length)[i]?=some x→(oO l n45) x=true)) (fun k4=>l.phases.length-k4) 0 ⟨[],[],Nat.zero_le _,s441.kp,LM l n45,fun i h=>(Nat.not_lt_zero i h).elim⟩<|?_
 rintro k4 a444 w443 ⟨rs,gs,k4_le,s442,hrs,inv_k4⟩
 refine wp_seq<|zs s442 [2,4,6,8,14,269] [(269,Bo (decide ((k4:Int)<(l.phases.length:Int))))] (qo (fa w443 B98 0 cG)<|qo (s442.m.ld 31 6 13 iE rfl rfl)<|qo (ln w443 3 oa184 l.phases.length c185 g9)<|qe) fun _ w446 s447=>aQ s447.f rfl (fun h448=>?_) (fun h448=>?_)
 ·have k4_lt:k4<l.phases.length:=by omega
  have hx449:(List.range l.phases.length)[k4]?=some k4:=List.getElem?_range k4_lt
  have hx450:l.phases[k4]?=some (l.phases.getD k4 aF):=bC (by omega)
  have hm451:=SB hrs.1 hx450
  have hrl0:=hrs.1
  have h20:=(DC hlens (List.mem_of_getElem? hx450)).1
  refine wp_skip<|aD<|wp_seq<|wp_block<|wp_seq<|aL MO 18<|nD s447 [2,4,6,8,14,274,275,280,281,285] [27401,28509] [(275,I (k4:Int)),(280,.agg (aK (l.phases.getD k4 aF)).toArray),(281,.agg (dE n45).toArray)] 0 [some [],some [],some [],some [],some [],some [],some [],some [],some [],some [],some [],some [],some []] (qo (fa w446 B98 0 cG)<|qo (s447.m.ld 31 6 13 iE rfl rfl)<|qo (fa w446 B98 0 cG)<|qo (s447.m.ld 31 6 13 iE rfl rfl)<|qo (ia w446 oa184 l.phases.length c185 k4 g9 eL (by omega) ((s447.m.row (enc:=aK) 1 rfl cV (by first | omega | (simp only [bV]; omega))).at' (k:=k4) (by first | omega | (simp only [bV]; omega))))<|qo ((s447.m.row (enc:=aK) 1 rfl cV (by first | omega | (simp only [bV]; omega))).lda 157 k4 0 eP hm451 rfl rfl)<|qo (s447.m.lda 227 7 0 JJ rfl rfl rfl)<|qo (fa w446 B50 0 r8)<|qo (s447.m.ld 158 7 5 c8 rfl rfl)<|qo (CT w446 n45.phasesA n45.phases n45.phasesC k4 kX A1 (by omega) (s447.m.cap (enc:=aJ) 9 rfl))<|qe) hq fun _ s454=>HN s454 13 rfl rfl rfl rfl (by kernel_rfl) fun w455 s456=>lhb s456 0 (v:=phV) (I:=phI) (φ:=phR (l.phases.getD k4 aF) n45 (n45.phases.take k4)) rfl rfl rfl aaT rfl (O6 (l.phases.getD k4 aF) n45 n45.phasesA (n45.phases.take k4) n45.phasesC _ ((hL.pteams _ (List.mem_of_getElem? hx450)).up s456.m) ⟨(s456.m.row (enc:=aJ) 14 rfl aU sm_n45_towns),(s456.m.cap (enc:=aJ) 14 rfl),(s456.m.row (enc:=aJ) 13 rfl aU sm_n45_grounds),(s456.m.cap (enc:=aJ) 13 rfl),(s456.m.row (enc:=aJ) 12 rfl aU sm_n45_teams),(s456.m.cap (enc:=aJ) 12 rfl),(s456.m.row (enc:=aJ) 11 rfl aU sm_n45_windows),(s456.m.cap (enc:=aJ) 11 rfl),(s456.m.row (enc:=aJ) 10 rfl aU sm_n45_slots),(s456.m.cap (enc:=aJ) 10 rfl),(s456.m.row (enc:=aJ) 9 rfl aU sm_n45_phases),(s456.m.cap (enc:=aJ) 9 rfl),(s456.m.row (enc:=aJ) 8 rfl aU sm_n45_conds),(s456.m.cap (enc:=aJ) 8 rfl)⟩ ((s456.m.row (enc:=aJ) 9 rfl aU sm_n45_phases).take k4) (by omega)) fun x458 a459 w460 hb457 hR462 s461=>?_
  have s463:=s461.perm (H':=((oR 178 21 aV oa202 c203 (([]:List Fz.cJ)++l.conds))::(oR 157 14 aK oa184 c185 (rs++l.phases.drop k4))::(oR 160 4 bU oa166 c167 ((l.teams.take k3).map (lS n45)++l.teams.drop k3))::(oR 152 7 bG oa148 c149 ((l.grounds.take k2).map (gE n45)++l.grounds.drop k2))::(oR 207 3 bY oa130 c131 ((l.depots.take k1).map (iS n45)++l.depots.drop k1))::(oR 205 5 cY oa112 c113 ((l.ways.take k0).map (oN n45)++l.ways.drop k0))::(cI B98 34 [.string l.name,.slice l.townsA l.towns.length l.townsC,.slice oa112 l.ways.length c113,.slice oa130 l.depots.length c131,.slice oa148 l.grounds.length c149,.slice oa166 l.teams.length c167,.slice l.windowsA l.windows.length l.windowsC,.slice l.slotsA l.slots.length l.slotsC,I l.pool,I l.points.p0,I l.points.p1,I l.points.p2,.slice l.keysA l.keys.length l.keysC,.slice oa184 l.phases.length c185,.slice oa202 ((([]:List Fz.cJ)++l.conds).length) c203])::(cI B50 227 (dE n45))::(oR 9 1 aJ n45.condsA n45.condsC n45.conds)::(oR 9 1 aJ n45.phasesA n45.phasesC n45.phases)::(oR 9 1 aJ n45.slotsA n45.slotsC n45.slots)::(oR 9 1 aJ n45.windowsA n45.windowsC n45.windows)::(oR 9 1 aJ n45.teamsA n45.teamsC n45.teams)::(oR 9 1 aJ n45.groundsA n45.groundsC n45.grounds)::(oR 9 1 aJ n45.townsA n45.townsC n45.towns)::(cI B15 34 zz)::(cI B5 34 zz)::(cI B1 34 (aB l))::((x458.oa,x458.c,x458.ts)::gs).map tG)) (List.perm_middle (l₁:=[oR 178 21 aV oa202 c203 (([]:List Fz.cJ)++l.conds),oR 157 14 aK oa184 c185 (rs++l.phases.drop k4),oR 160 4 bU oa166 c167 ((l.teams.take k3).map (lS n45)++l.teams.drop k3),oR 152 7 bG oa148 c149 ((l.grounds.take k2).map (gE n45)++l.grounds.drop k2),oR 207 3 bY oa130 c131 ((l.depots.take k1).map (iS n45)++l.depots.drop k1),oR 205 5 cY oa112 c113 ((l.ways.take k0).map (oN n45)++l.ways.drop k0),cI B98 34 [.string l.name,.slice l.townsA l.towns.length l.townsC,.slice oa112 l.ways.length c113,.slice oa130 l.depots.length c131,.slice oa148 l.grounds.length c149,.slice oa166 l.teams.length c167,.slice l.windowsA l.windows.length l.windowsC,.slice l.slotsA l.slots.length l.slotsC,I l.pool,I l.points.p0,I l.points.p1,I l.points.p2,.slice l.keysA l.keys.length l.keysC,.slice oa184 l.phases.length c185,.slice oa202 ((([]:List Fz.cJ)++l.conds).length) c203],cI B50 227 (dE n45),oR 9 1 aJ n45.condsA n45.condsC n45.conds,oR 9 1 aJ n45.phasesA n45.phasesC n45.phases,oR 9 1 aJ n45.slotsA n45.slotsC n45.slots,oR 9 1 aJ n45.windowsA n45.windowsC n45.windows,oR 9 1 aJ n45.teamsA n45.teamsC n45.teams,oR 9 1 aJ n45.groundsA n45.groundsC n45.grounds,oR 9 1 aJ n45.townsA n45.townsC n45.towns,cI B15 34 zz,cI B5 34 zz,cI B1 34 (aB l)]) (a:=tG (x458.oa,x458.c,x458.ts)) (l₂:=gs.map tG))
  refine aR rfl (aD ⟨hb457,?_⟩)
  refine HN s463 14 rfl rfl rfl rfl (by kernel_rfl) fun w464 s465=>lqb (hs:=[]) (E1:=[⟨2,[],Pt B5 0⟩,⟨4,[],Pt B15 0⟩,⟨6,[],Pt B50 0⟩,⟨8,[],Pt B98 0⟩,⟨14,[],I (k4:Int)⟩,⟨272,[],.tuple #[.agg (aK x458.ph).toArray,Bo x458.ok]⟩,⟨274,[],.slice oa184 l.phases.length c185⟩,⟨275,[],I (k4:Int)⟩]) (ks:=[2,4,6,8,14,272,274,275]) s465 0 1 (by kernel_rfl) (trivial) fun _ w467 hb469 s468=>aR rfl (aD ⟨hb469,?_⟩)
  refine zd s468 [2,4,6,8,14,272,274,275,287] [(272,.tuple #[.agg (aK x458.ph).toArray,Bo x458.ok]),(287,.agg (aK x458.ph).toArray)] 15 [none] qe hq fun _ s472=>zd s472 [2,4,6,8,14,274,275,287,288] [(288,Bo x458.ok)] 16 [none] qe hq fun _ s475=>HN s475 17 rfl rfl rfl rfl (by kernel_rfl) fun w476 s477=>lqb (hs:=[Pa (kK oa184 (k4*14))]) (E1:=[⟨2,[],Pt B5 0⟩,⟨4,[],Pt B15 0⟩,⟨6,[],Pt B50 0⟩,⟨8,[],Pt B98 0⟩,⟨14,[],I (k4:Int)⟩,⟨287,[],.agg (aK x458.ph).toArray⟩,⟨288,[],Bo x458.ok⟩,⟨289,[],Pa (kK oa184 (k4*14))⟩]) (ks:=[2,4,6,8,14,287,288,289]) s477 0 1 (by kernel_rfl) (oc (ia w476 oa184 l.phases.length c185 k4 g9 eL (by omega) ((s477.m.row (enc:=aK) 1 rfl cV (by first | omega | (simp only [bV]; omega))).at' (k:=k4) (by first | omega | (simp only [bV]; omega))))<|trivial) fun _ w479 hb481 s480=>aR rfl (aD ⟨hb481,?_⟩)
  refine df s480 18 rfl rfl rfl rfl (by kernel_rfl) rfl fun w482 s483=>UW s483 0 1 k4 0 x458.ph (aK x458.ph) rfl rfl rfl rfl eL rfl rfl cV hm451 rfl rfl fun w484 s485=>aR rfl (aD ?_)
  refine df s485 19 rfl rfl rfl rfl (by kernel_rfl) rfl fun w486 s487=>zl s487 [2,4,6,8,9,14] [(9,Bo x458.ok)] 0 1 qe fun _ w489 s490=>aR rfl (aD ?_)
  refine dd s490 (by kernel_rfl) fun w491 s492=>aD<|zs s492 [2,4,6,8,14,291] [(291,Bo (!x458.ok))] qe fun _ w494 s495=>bR s495.f rfl (fun h496=>?_) (fun h496=>?_)
  ·refine wp_seq<|aA<|zl s495 [2,292] [(292,.agg zz.toArray)] 0 1 (qo (s495.m.lda 34 15 0 cS rfl rfl rfl)<|qe) fun _ w498 s499=>dD s499 1 16 zz zz rfl rfl rfl rfl nA rfl rfl rfl rfl fun w500 s501=>zl s501 [2,3] [(3,I 170)] 2 1 qe fun _ w503 s504=>aR rfl<|aD<|aC<|bP (aN (aN (bP (aN (pR [.agg zz.toArray,I 170] rfl s504 ⟨⟨_,rfl,bQ (k:=16) s504 cS rfl rfl⟩,rfl,trivial⟩ ?_)))))
   exact rX s504 hn49 (iT h27 (iF h62 (iF h80 (iP A294 (iP A342 (iP A390 (iP A438 (iF (bI hx449 (hR462.1.symm.trans h496)) rfl)))))))) (by decide)
  refine wp_skip<|c9 (aD ?_)
  refine dU s495 [2,4,6,8,14] [1400] [] (qo (wr ((k4:Int)+1) ((k4+1:Nat):Int) (by omega))<|qe) fun _ w512 s513=>aD<|?_
  exact ⟨(k4+1),⟨rs++[x458.ph],(x458.oa,x458.c,x458.ts)::gs,by omega,(s513.kr (by rw [show (rs++l.phases.drop k4).set k4 x458.ph=_ from N3 hrs.1 hx450] <;> rfl)),LN hrs hR462 h496,aM inv_k4 (fun y hy=>by rw [hx449] at hy; cases hy; exact (hR462.1.symm.trans h496))⟩,by omega⟩
 have k4_eq:k4=l.phases.length:=by omega
 have A514:(List.range l.phases.length).all (oO l n45)=true:=dG (by rw [k4_eq] at inv_k4; exact inv_k4)
 refine wp_exit<|aY (aY (cP (aD ?_)))
 refine wp_seq<|zs s447 [2,4,6,8,15] [(15,I 0)] qe fun _ w516 s517=>wp_block<|aO (α:=Nat) (fun k5 aI wI=>(k5≤l.conds.length)∧(Sta 318 [] w [⟨2,[],Pt B5 0⟩,⟨4,[],Pt B15 0⟩,⟨6,[],Pt B50 0⟩,⟨8,[],Pt B98 0⟩,⟨15,[],I (k5:Int)⟩] ((oR 178 21 aV oa202 c203 ((l.conds.take k5).map (lK n45)++l.conds.drop k5))::(oR 157 14 aK oa184 c185 (rs++l.phases.drop k4))::(oR 160 4 bU oa166 c167 ((l.teams.take k3).map (lS n45)++l.teams.drop k3))::(oR 152 7 bG oa148 c149 ((l.grounds.take k2).map (gE n45)++l.grounds.drop k2))::(oR 207 3 bY oa130 c131 ((l.depots.take k1).map (iS n45)++l.depots.drop k1))::(oR 205 5 cY oa112 c113 ((l.ways.take k0).map (oN n45)++l.ways.drop k0))::(cI B98 34 [.string l.name,.slice l.townsA l.towns.length l.townsC,.slice oa112 l.ways.length c113,.slice oa130 l.depots.length c131,.slice oa148 l.grounds.length c149,.slice oa166 l.teams.length c167,.slice l.windowsA l.windows.length l.windowsC,.slice l.slotsA l.slots.length l.slotsC,I l.pool,I l.points.p0,I l.points.p1,I l.points.p2,.slice l.keysA l.keys.length l.keysC,.slice oa184 l.phases.length c185,.slice oa202 l.conds.length c203])::(cI B50 227 (dE n45))::(oR 9 1 aJ n45.condsA n45.condsC n45.conds)::(oR 9 1 aJ n45.phasesA n45.phasesC n45.phases)::(oR 9 1 aJ n45.slotsA n45.slotsC n45.slots)::(oR 9 1 aJ n45.windowsA n45.windowsC n45.windows)::(oR 9 1 aJ n45.teamsA n45.teamsC n45.teams)::(oR 9 1 aJ n45.groundsA n45.groundsC n45.grounds)::(oR 9 1 aJ n45.townsA n45.townsC n45.towns)::(cI B15 34 zz)::(cI B5 34 zz)::(cI B1 34 (aB l))::gs.map tG) aI wI)∧(∀ i,i<k5→∀ x,l.conds[i]?=some x→(nR n45) x=true)) (fun k5=>l.conds.length-k5) 0 ⟨Nat.zero_le _,s517.kp,fun i h=>(Nat.not_lt_zero i h).elim⟩<|?_
 rintro k5 a520 w519 ⟨k5_le,s518,inv_k5⟩
 refine wp_seq<|zs s518 [2,4,6,8,15,297] [(297,Bo (decide ((k5:Int)<(l.conds.length:Int))))] (qo (fa w519 B98 0 eV)<|qo (s518.m.ld 32 6 14 o6 rfl rfl)<|qo (ln w519 3 oa202 l.conds.length c203 oQ)<|qe) fun _ w522 s523=>aQ s523.f rfl (fun h524=>?_) (fun h524=>?_)
 ·have k5_lt:k5<l.conds.length:=by omega
  obtain ⟨x,hx525⟩:=cD (xs:=l.conds) k5_lt
  have hm526:=uR (lK n45) hx525
  refine wp_skip<|aD<|wp_seq<|wp_block<|wp_seq<|aL MO 14<|nD s523 [2,4,6,8,15,311,312,313] [31304] [(311,.agg (aV ((g7 x n45).1)).toArray),(312,Bo ((g7 x n45).2))] 0 [some [],some [],some [],some [],some [],some [],some [],some [],some [],some [],some [],some [],none,some []] (qo (fa w522 B98 0 eV)<|qo (s523.m.ld 32 6 14 o6 rfl rfl)<|qo (fa w522 B98 0 eV)<|qo (s523.m.ld 32 6 14 o6 rfl rfl)<|qo (ia w522 oa202 l.conds.length c203 k5 oQ iC (by omega) ((s523.m.row (enc:=aV) 0 rfl eR (by first | omega | (simp only [bV]; omega))).at' (k:=k5) (by first | omega | (simp only [bV]; omega))))<|qo ((s523.m.row (enc:=aV) 0 rfl eR (by first | omega | (simp only [bV]; omega))).lda 178 k5 0 fH hm526 rfl rfl)<|qo (s523.m.lda 227 7 0 JJ rfl rfl rfl)<|qo (yc w522 aaU fun w' hb=>ST x n45 w' ((⟨(s523.m.row (enc:=aJ) 14 rfl aU sm_n45_towns),(s523.m.cap (enc:=aJ) 14 rfl),(s523.m.row (enc:=aJ) 13 rfl aU sm_n45_grounds),(s523.m.cap (enc:=aJ) 13 rfl),(s523.m.row (enc:=aJ) 12 rfl aU sm_n45_teams),(s523.m.cap (enc:=aJ) 12 rfl),(s523.m.row (enc:=aJ) 11 rfl aU sm_n45_windows),(s523.m.cap (enc:=aJ) 11 rfl),(s523.m.row (enc:=aJ) 10 rfl aU sm_n45_slots),(s523.m.cap (enc:=aJ) 10 rfl),(s523.m.row (enc:=aJ) 9 rfl aU sm_n45_phases),(s523.m.cap (enc:=aJ) 9 rfl),(s523.m.row (enc:=aJ) 8 rfl aU sm_n45_conds),(s523.m.cap (enc:=aJ) 8 rfl)⟩:NamesAt _ n45).grow hb))<|qo (ia w522 oa202 l.conds.length c203 k5 oQ iC (by omega) ((s523.m.row (enc:=aV) 0 rfl eR (by first | omega | (simp only [bV]; omega))).at' (k:=k5) (by first | omega | (simp only [bV]; omega))))<|qe) hq fun _ s529=>df s529 14 rfl rfl rfl rfl (by kernel_rfl) rfl fun w530 s531=>UW s531 0 0 k5 0 ((g7 x n45).1) (aV ((g7 x n45).1)) rfl rfl rfl rfl iC rfl rfl eR hm526 rfl rfl fun w532 s533=>aR rfl (aD ?_)
  refine df s533 15 rfl rfl rfl rfl (by kernel_rfl) rfl fun w534 s535=>zl s535 [2,4,6,8,9,15] [(9,Bo ((g7 x n45).2))] 0 1 qe fun _ w537 s538=>aR rfl (aD ?_)
  refine dd s538 (by kernel_rfl) fun w539 s540=>aD<|zs s540 [2,4,6,8,15,315] [(315,Bo (!((g7 x n45).2)))] qe fun _ w542 s543=>bR s543.f rfl (fun h544=>?_) (fun h544=>?_)
  ·refine wp_seq<|aA<|zl s543 [2,316] [(316,.agg zz.toArray)] 0 1 (qo (s543.m.lda 34 15 0 cS rfl rfl rfl)<|qe) fun _ w546 s547=>dD s547 1 16 zz zz rfl rfl rfl rfl nA rfl rfl rfl rfl fun w548 s549=>zl s549 [2,3] [(3,I 170)] 2 1 qe fun _ w551 s552=>aR rfl<|aD<|aC<|bP (aN (aN (bP (aN (pR [.agg zz.toArray,I 170] rfl s552 ⟨⟨_,rfl,bQ (k:=16) s552 cS rfl rfl⟩,rfl,trivial⟩ ?_)))))
   exact rX s552 hn49 (iT h27 (iF h62 (iF h80 (iP A294 (iP A342 (iP A390 (iP A438 (iP A514 (iF (bI hx525 h544) rfl))))))))) (by decide)
  refine wp_skip<|c9 (aD ?_)
  refine dU s543 [2,4,6,8,15] [1500] [] (qo (wr ((k5:Int)+1) ((k5+1:Nat):Int) (by omega))<|qe) fun _ w560 s561=>aD<|?_
  exact ⟨(k5+1),⟨by omega,(s561.kr (by rw [show ((l.conds.take k5).map (lK n45)++l.conds.drop k5).set k5 ((g7 x n45).1)=_ from rK (f:=lK n45) hx525] <;> rfl)),aM inv_k5 (fun y hy=>by rw [hx525] at hy; cases hy; exact h544)⟩,by omega⟩
 have k5_eq:k5=l.conds.length:=by omega
 have A562:l.conds.all (nR n45)=true:=cR (by rw [k5_eq] at inv_k5; exact inv_k5)
 refine wp_exit<|aY (aY (cP (aD ?_)))
 refine wp_seq<|aA<|zl s523 [2,317] [(317,.agg #[.string l.name,.slice l.townsA l.towns.length l.townsC,.slice oa112 l.ways.length c113,.slice oa130 l.depots.length c131,.slice oa148 l.grounds.length c149,.slice oa166 l.teams.length c167,.slice l.windowsA l.windows.length l.windowsC,.slice l.slotsA l.slots.length l.slotsC,I l.pool,I l.points.p0,I l.points.p1,I l.points.p2,.slice l.keysA l.keys.length l.keysC,.slice oa184 l.phases.length c185,.slice oa202 l.conds.length c203])] 0 1 (qo (s523.m.lda 34 6 0 cS rfl rfl rfl)<|qe) fun _ w564 s565=>dD s565 1 16 _ _ rfl rfl rfl rfl nA rfl rfl rfl rfl fun w566 s567=>zl s567 [2,3] [(3,I 0)] 2 1 qe fun _ w569 s570=>aR rfl<|aD<|aC<|pR [.agg #[.string l.name,.slice l.townsA l.towns.length l.townsC,.slice oa112 l.ways.length c113,.slice oa130 l.depots.length c131,.slice oa148 l.grounds.length c149,.slice oa166 l.teams.length c167,.slice l.windowsA l.windows.length l.windowsC,.slice l.slotsA l.slots.length l.slotsC,I l.pool,I l.points.p0,I l.points.p1,I l.points.p2,.slice l.keysA l.keys.length l.keysC,.slice oa184 l.phases.length c185,.slice oa202 l.conds.length c203],I 0] rfl s570 ⟨⟨_,rfl,bQ (k:=16) s570 cS rfl rfl⟩,rfl,trivial⟩<|?_
 have sF0:=s570.re (H':=((oR 178 21 aV oa202 c203 ((l.conds.take k5).map (lK n45)++l.conds.drop k5))::(oR 157 14 aK oa184 c185 (rs++l.phases.drop k4))::(oR 160 4 bU oa166 c167 ((l.teams.take k3).map (lS n45)++l.teams.drop k3))::(oR 152 7 bG oa148 c149 ((l.grounds.take k2).map (gE n45)++l.grounds.drop k2))::(oR 207 3 bY oa130 c131 ((l.depots.take k1).map (iS n45)++l.depots.drop k1))::(oR 205 5 cY oa112 c113 ((l.ways.take k0).map (oN n45)++l.ways.drop k0))::(cI B98 34 [.string l.name,.slice l.townsA l.towns.length l.townsC,.slice oa112 l.ways.length c113,.slice oa130 l.depots.length c131,.slice oa148 l.grounds.length c149,.slice oa166 l.teams.length c167,.slice l.windowsA l.windows.length l.windowsC,.slice l.slotsA l.slots.length l.slotsC,I l.pool,I l.points.p0,I l.points.p1,I l.points.p2,.slice l.keysA l.keys.length l.keysC,.slice oa184 l.phases.length c185,.slice oa202 l.conds.length c203])::(cI B50 227 (dE n45))::(oR 9 1 aJ n45.condsA n45.condsC n45.conds)::(oR 9 1 aJ n45.phasesA n45.phasesC n45.phases)::(oR 9 1 aJ n45.slotsA n45.slotsC n45.slots)::(oR 9 1 aJ n45.windowsA n45.windowsC n45.windows)::(oR 9 1 aJ n45.teamsA n45.teamsC n45.teams)::(oR 9 1 aJ n45.groundsA n45.groundsC n45.grounds)::(oR 9 1 aJ n45.townsA n45.townsC n45.towns)::(cI B15 34 zz)::(cI B5 34 [.string l.name,.slice l.townsA l.towns.length l.townsC,.slice oa112 l.ways.length c113,.slice oa130 l.depots.length c131,.slice oa148 l.grounds.length c149,.slice oa166 l.teams.length c167,.slice l.windowsA l.windows.length l.windowsC,.slice l.slotsA l.slots.length l.slotsC,I l.pool,I l.points.p0,I l.points.p1,I l.points.p2,.slice l.keysA l.keys.length l.keysC,.slice oa184 l.phases.length c185,.slice oa202 l.conds.length c203])::(cI B1 34 (aB l))::gs.map tG)) rfl rfl
 have sF:=sF0.re (H':=((oR 178 21 aV oa202 c203 (l.conds.map (lK n45)))::(oR 157 14 aK oa184 c185 rs)::(oR 160 4 bU oa166 c167 (l.teams.map (lS n45)))::(oR 152 7 bG oa148 c149 (l.grounds.map (gE n45)))::(oR 207 3 bY oa130 c131 (l.depots.map (iS n45)))::(oR 205 5 cY oa112 c113 (l.ways.map (oN n45)))::(cI B98 34 [.string l.name,.slice l.townsA l.towns.length l.townsC,.slice oa112 l.ways.length c113,.slice oa130 l.depots.length c131,.slice oa148 l.grounds.length c149,.slice oa166 l.teams.length c167,.slice l.windowsA l.windows.length l.windowsC,.slice l.slotsA l.slots.length l.slotsC,I l.pool,I l.points.p0,I l.points.p1,I l.points.p2,.slice l.keysA l.keys.length l.keysC,.slice oa184 l.phases.length c185,.slice oa202 l.conds.length c203])::(cI B50 227 (dE n45))::(oR 9 1 aJ n45.condsA n45.condsC n45.conds)::(oR 9 1 aJ n45.phasesA n45.phasesC n45.phases)::(oR 9 1 aJ n45.slotsA n45.slotsC n45.slots)::(oR 9 1 aJ n45.windowsA n45.windowsC n45.windows)::(oR 9 1 aJ n45.teamsA n45.teamsC n45.teams)::(oR 9 1 aJ n45.groundsA n45.groundsC n45.grounds)::(oR 9 1 aJ n45.townsA n45.townsC n45.towns)::(cI B15 34 zz)::(cI B5 34 [.string l.name,.slice l.townsA l.towns.length l.townsC,.slice oa112 l.ways.length c113,.slice oa130 l.depots.length c131,.slice oa148 l.grounds.length c149,.slice oa166 l.teams.length c167,.slice l.windowsA l.windows.length l.windowsC,.slice l.slotsA l.slots.length l.slotsC,I l.pool,I l.points.p0,I l.points.p1,I l.points.p2,.slice l.keysA l.keys.length l.keysC,.slice oa184 l.phases.length c185,.slice oa202 l.conds.length c203])::(cI B1 34 (aB l))::gs.map tG)) rfl (by rw [uS k0_eq,uS k1_eq,uS k2_eq,uS k3_eq,SC k4_eq,uS k5_eq] <;> rfl)
 have hrl:rs.length=l.phases.length:=hrs.1.trans k4_eq
 have hR:n2 l n45=0:=iT h27 (iF h62 (iF h80 (iP A294 (iP A342 (iP A390 (iP A438 (iP A514 (iP A562 rfl))))))))
 exact fX sF (⟨{ l with waysA:=oa112,ways:=l.ways.map (oN n45),waysC:=c113,depotsA:=oa130,depots:=l.depots.map (iS n45),depotsC:=c131,groundsA:=oa148,grounds:=l.grounds.map (gE n45),groundsC:=c149,teamsA:=oa166,teams:=l.teams.map (lS n45),teamsC:=c167,condsA:=oa202,conds:=l.conds.map (lK n45),condsC:=c203,phasesA:=oa184,phases:=rs,phasesC:=c185 },0,{ l with waysA:=oa112,ways:=l.ways.map (oN n45),waysC:=c113,depotsA:=oa130,depots:=l.depots.map (iS n45),depotsC:=c131,groundsA:=oa148,grounds:=l.grounds.map (gE n45),groundsC:=c149,teamsA:=oa166,teams:=l.teams.map (lS n45),teamsC:=c167,condsA:=oa202,conds:=l.conds.map (lK n45),condsC:=c203,phasesA:=oa184,phases:=rs,phasesC:=c185 },gs⟩:DB) (by simp only [SD,aB,n0,List.length_map,hrl]) ⟨n45,hn49,hR.symm,fun _=>⟨rfl,rfl,rfl,rfl,rfl,rfl,(by rw [k4_eq] at hrs; exact hrs),rfl⟩⟩ (.ck _ (.ck _ (.ck _ (.ck _ (.ck _ (.ck _ (.cons _ (.cons _ (.cons _ (.cons _ (.cons _ (.cons _ (.cons _ (.cons _ (.cons _ (.cons _ (.cons _ (.cons _ ((List.Sublist.refl _))))))))))))))))))))
end Go.Proofs.YtfffbdmdllgalaaGreatDoor
namespace Go.Fz
open Go Go.RowKit
theorem O7 {α:Type} (C F H:List α):(C++(H++F)).Perm ((C++F)++H):=by
  rw [List.append_assoc]
  exact List.Perm.append_left C List.perm_append_comm
theorem St.row_mem {α:Type} {w0 w:World} {H:List Item} {enc:α→List Value} {sz e c:Nat} {oa:Option Addr} {xs:List α} (h:St w0 H w) (hm:oR e sz enc oa c xs∈H) (he:EncOk enc sz) (hn:xs.length≤140737488355328):Row w oa sz enc xs:=by
  obtain ⟨k,hk⟩:=List.getElem?_of_mem hm
  exact h.row k hk he hn
theorem KH {x:cW} {l:List ByteArray}:eK x l=true↔0≤aH l x.name:=by simp [eK]
theorem KI {l:aE} {n:cE} (h:gZ l n):n2 l n=n2 l (cB l):=by
  obtain ⟨h1,h2,h3,h4,h5,h6,h7⟩:=h
  obtain ⟨a1,a2,a3,a4,a5,a6,a7,a8,a9,b1,b2,b3,b4,b5,b6,b7,b8,b9,c1,c2,c3⟩:=n
  simp only at h1 h2 h3 h4 h5 h6 h7
  subst h1; subst h2; subst h3; subst h4; subst h5; subst h6; subst h7
  rfl
theorem pG {l:aE} {n:cE} (h:n2 l n=0):n9 l=true∧o5 l n=false∧mQ n=false∧l.ways.all (rJ n)=true∧l.depots.all (m9 n)=true∧l.grounds.all (lJ n)=true∧l.teams.all (pW n)=true∧(List.range l.phases.length).all (oO l n)=true∧l.conds.all (nR n)=true:=by
  unfold n2 at h
  repeat' split at h
  all_goals first | (cases h; done) | skip
  rename_i h1 h2 h3 h4 h5 h6 h7 h8 h9
  exact ⟨by simpa using h1,by simpa using h2,by simpa using h3,h4,h5,h6,h7,h8,h9⟩
def kG (l:aE):aE :=
  let n:=cB l
  { l with ways:=l.ways.map (oN n),depots:=l.depots.map (iS n),grounds:=l.grounds.map (gE n),teams:=l.teams.map (lS n),
           phases:=(List.range l.phases.length).map (fun i=>qP (l.phases.getD i aF) n (n.phases.take i)),conds:=l.conds.map (lK n) }
def hD (l:aE):Int:=if n2 l (cB l)≠0 then n2 l (cB l) else if o4 l (kG l)=false then 170 else 0
theorem IE {l:aE} {n:cE} {x:DB} {w0 w:World} {H:List Item} (h:St w0 H w) (hL:LeagueAt w0 l) (hH:(xM x).Sublist H) (hR:JF l n x) (hlens:n9 l=true):LeagueAt w x.out:=by
  obtain ⟨out,err,g,gs⟩:=x
  obtain ⟨h0,h1,h2,h3,h4,h5,h6,h7⟩:=hR
  simp only at h0 h1 h2 h3 h4 h5 h6 h7
  subst h0
  have hl:=DD hlens
  have hm:∀ it,it∈xM ⟨out,err,out,gs⟩→it∈H:=fun it hit=>hH.subset hit
  have rw1:Row w out.waysA 5 cY out.ways:=h.row_mem (e:=205) (c:=out.waysC) (hm _ (by simp [xM])) d6 (by rw [h1]; simp; omega)
  have rw2:Row w out.depotsA 3 bY out.depots:=h.row_mem (e:=207) (c:=out.depotsC) (hm _ (by simp [xM])) eJ (by rw [h2]; simp; omega)
  have rw3:Row w out.groundsA 7 bG out.grounds:=h.row_mem (e:=152) (c:=out.groundsC) (hm _ (by simp [xM])) dQ (by rw [h3]; simp; omega)
  have rw4:Row w out.teamsA 4 bU out.teams:=h.row_mem (e:=160) (c:=out.teamsC) (hm _ (by simp [xM])) dF (by rw [h4]; simp; omega)
  have rw5:Row w out.condsA 21 aV out.conds:=h.row_mem (e:=178) (c:=out.condsC) (hm _ (by simp [xM])) eR (by rw [h5]; simp; omega)
  have rw6:Row w out.phasesA 14 aK out.phases:=h.row_mem (e:=157) (c:=out.phasesC) (hm _ (by simp [xM])) cV (by have:=h6.1; omega)
  have ph:∀ p∈out.phases,Row w p.teamsA 2 bN p.teams∧Row w p.sizesA 1 iO p.sizes:=by
    intro p hp
    obtain ⟨i,hi,e⟩:=List.getElem_of_mem hp
    have hi':out.phases[i]?=some p:=by rw [List.getElem?_eq_getElem hi,e]
    obtain ⟨oa,c,hx,hg⟩:=h6.2 i p hi'
    have hlt:i<l.phases.length:=by have:=h6.1; omega
    have hmem:l.phases.getD i aF∈l.phases:=List.mem_of_getElem? (bC hlt)
    have h20:=DC hlens hmem
    refine ⟨?_,?_⟩
    · have hrow:Row w oa 2 bN p.teams:=h.row_mem (c:=c) (e:=148) (hm _ (by
        unfold xM
        iterate 6 refine List.mem_cons_of_mem _ ?_
        exact List.mem_map.2 ⟨_,hg,rfl⟩)) eI (by rw [hx]; simp only [qP,List.length_map]; omega)
      have:p.teamsA=oa:=by rw [hx]
      rw [this]; exact hrow
    · have hs:=(hL.psizes _ hmem).up h
      have e1:p.sizesA=(l.phases.getD i aF).sizesA:=by rw [hx]; rfl
      have e2:p.sizes=(l.phases.getD i aF).sizes:=by rw [hx]; rfl
      rw [e1,e2]; exact hs
  have hlens:out.phases.length≤8∧out.conds.length≤128∧out.grounds.length≤64∧out.teams.length≤64:=by
    rw [h5,h3,h4]; simp; have:=h6.1; omega
  rw [h7]
  exact ⟨hL.towns.up h,rw1,rw2,rw3,rw4,hL.windows.up h,hL.slots.up h,hL.keys.up h,rw6,rw5,fun p hp=>(ph p hp).1,fun p hp=>(ph p hp).2,
    hL.townsN,Nat.le_trans hlens.2.2.1 (by decide),Nat.le_trans hlens.2.2.2 (by decide),hL.windowsN,hL.slotsN,Nat.le_trans hlens.1 (by decide),Nat.le_trans hlens.2.1 (by decide),hL.keysK⟩
theorem O8 {l:aE} {n:cE} {x:DB} (hn:gZ l n) (hR:JF l n x):o4 l x.out=o4 l (kG l):=by
  obtain ⟨out,err,g,gs⟩:=x
  obtain ⟨h0,h1,h2,h3,h4,h5,h6,h7⟩:=hR
  simp only at h0 h1 h2 h3 h4 h5 h6 h7
  subst h0
  obtain ⟨k1,k2,k3,k4,k5,k6,k7⟩:=hn
  obtain ⟨a1,a2,a3,a4,a5,a6,a7,a8,a9,b1,b2,b3,b4,b5,b6,b7,b8,b9,c1,c2,c3⟩:=n
  simp only at k1 k2 k3 k4 k5 k6 k7
  subst k1; subst k2; subst k3; subst k4; subst k5; subst k6; subst k7
  have hp:out.phases.length=(kG l).phases.length:=by simp [kG,h6.1]
  have e1:out.name=l.name∧out.towns=l.towns∧out.windows=l.windows∧out.slots=l.slots∧out.pool=l.pool∧out.points=l.points∧out.keys=l.keys:=by
    rw [h7]; exact ⟨rfl,rfl,rfl,rfl,rfl,rfl,rfl⟩
  obtain ⟨e1,e2,e3,e4,e5,e6,e7⟩:=e1
  have hph:(List.range l.phases.length).all (fun i=>jA (l.phases.getD i aF) (out.phases.getD i aF))=(List.range l.phases.length).all (fun i=>jA (l.phases.getD i aF) ((kG l).phases.getD i aF)):=by
    rw [Bool.eq_iff_iff,List.all_eq_true,List.all_eq_true]
    have key:∀ i,i<l.phases.length→jA (l.phases.getD i aF) (out.phases.getD i aF)=jA (l.phases.getD i aF) ((kG l).phases.getD i aF):=by
      intro i hi
      obtain ⟨oa,c,hx,_⟩:=h6.2 i _ (bC (d:=aF) (by rw [h6.1]; exact hi))
      rw [hx]
      have:(kG l).phases.getD i aF=qP (l.phases.getD i aF) (cB l) ((cB l).phases.take i):=by
        simp [kG,List.getD_eq_getElem?_getD,hi]
      rw [this]; rfl
    constructor
    · intro h i hi; rw [← key i (List.mem_range.1 hi)]; exact h i hi
    · intro h i hi; rw [key i (List.mem_range.1 hi)]; exact h i hi
  unfold o4
  rw [hph,hp,e1,e2,e3,e4,e5,e6,e7,h1,h2,h3,h4,h5]
  rfl
end Go.Fz
namespace Go.Fz
open Go Go.RowKit
def O9 (p:aX):Bool := !((decide ((p.teams.length:Int)>300))||(decide ((p.sizes.length:Int)>300)))
def LT (l:aE) (n:cE):Bool :=
  if ((((((((decide ((l.name.size:Int)>6000))||(!kR n.towns))||(!kR n.grounds))||(!kR n.teams))||(!kR n.windows))||(!kR n.slots))||(!kR n.phases))||(!kR n.conds))=true then false else
  if (((decide ((l.ways.length:Int)>300))||(decide ((l.depots.length:Int)>300)))||(decide ((l.keys.length:Int)>300)))=true then false else
  if l.phases.all O9=true then true else false
def IF (l:aE):Bool:=LT l (cB l)
theorem yB {l:aE} {n:cE} (h:gZ l n):LT l n=IF l:=by
  obtain ⟨h1,h2,h3,h4,h5,h6,h7⟩:=h
  obtain ⟨a1,a2,a3,a4,a5,a6,a7,a8,a9,b1,b2,b3,b4,b5,b6,b7,b8,b9,c1,c2,c3⟩:=n
  simp only at h1 h2 h3 h4 h5 h6 h7
  subst h1; subst h2; subst h3; subst h4; subst h5; subst h6; subst h7
  rfl
theorem LU {l:aE} {n:cE} {e:Int} (hn:gZ l n) (he:e=n2 l n) (h:e≠0):hD l=e:=by
  unfold hD
  rw [← KI hn,← he,if_pos h]
theorem zU {l:aE} {n:cE} {x:DB} (hn:gZ l n) (he:x.err=n2 l n) (h:x.err=0) (hR:JF l n x):hD l=if o4 l x.out=false then 170 else 0:=by
  unfold hD
  rw [← KI hn,← he,if_neg (by simpa using h),← O8 hn hR]
theorem KJ {c:Prop} [Decidable c] {a:Bool} (h:(if c then false else a)=true):¬ c∧a=true:=by
  split at h
  · cases h
  · exact ⟨by assumption,h⟩
theorem u0 {c:Prop} [Decidable c] {a:Bool} (h:(if c then a else false)=true):c∧a=true:=by
  split at h
  · exact ⟨by assumption,h⟩
  · cases h
theorem zV {l:aE} (h:hD l=0) {p:aX} (hp:p∈l.phases):(p.kind=4→0≤p.of.n∧p.of.n<l.phases.length)∧(p.kind=6→(0≤p.a.n∧p.a.n<l.phases.length)∧(0≤p.b.n∧p.b.n<l.phases.length)):=by
  unfold hD at h
  split at h
  · exact absurd h (by assumption)
  rename_i h0
  split at h
  · cases h
  rename_i hs
  have h0:n2 l (cB l)=0:=by simpa using h0
  have hs:o4 l (kG l)=true:=by simpa using hs
  obtain ⟨_,_,_,_,_,_,_,hok,_⟩:=pG h0
  obtain ⟨i,hi,e⟩:=List.getElem_of_mem hp
  have hg:l.phases.getD i aF=p:=by simp [List.getD_eq_getElem?_getD,hi,e]
  have h1:=List.all_eq_true.1 hok i (List.mem_range.2 hi)
  unfold oO at h1
  rw [hg] at h1
  have h2:jA p (qP p (cB l) ((cB l).phases.take i))=true:=by
    unfold o4 at hs
    have h9:=(u0 (u0 (u0 (u0 (u0 (u0 (u0 (u0 (u0 (KJ (KJ hs).2).2).2).2).2).2).2).2).2).2).1
    have:=List.all_eq_true.1 h9 i (List.mem_range.2 hi)
    have e2:(kG l).phases.getD i aF=qP (l.phases.getD i aF) (cB l) ((cB l).phases.take i):=by simp [kG,List.getD_eq_getElem?_getD,hi]
    rw [e2,hg] at this
    exact this
  have hle:(((cB l).phases.take i).length:Int)≤l.phases.length:=by
    rw [List.length_take]; omega
  unfold jA at h2
  split at h2
  · cases h2
  rename_i h3
  simp only [Bool.or_eq_true,not_or,Bool.not_eq_true',Bool.not_eq_false,gV] at h3
  obtain ⟨⟨⟨⟨⟨⟨⟨_,_⟩,_⟩,hof⟩,ha⟩,hb⟩,_⟩,_⟩:=h3
  unfold rI at h1
  split at h1
  · cases h1
  split at h1
  · cases h1
  split at h1
  rotate_left
  · cases h1
  have hfl:=fun s=>(NW (l:=(cB l).phases.take i) (s:=s)).1
  refine ⟨fun h4=>?_,fun h6=>?_⟩
  · rw [if_pos h4] at h1
    simp only [Bool.and_eq_true,KH] at h1
    have:p.of.n=aH ((cB l).phases.take i) p.of.name:=by
      have:=congrArg cW.n hof
      simpa [qP,h4,bW] using this
    have:=hfl p.of.name
    omega
  · rw [if_neg (by omega)] at h1
    split at h1
    · cases h1
    split at h1
    · cases h1
    rename_i h8
    have h8:eK p.a ((cB l).phases.take i)=true:=by simpa using h8
    rw [KH] at h1 h8
    have e1:p.a.n=aH ((cB l).phases.take i) p.a.name:=by
      have:=congrArg cW.n ha
      simpa [qP,h6,bW] using this
    have e2:p.b.n=aH ((cB l).phases.take i) p.b.name:=by
      have:=congrArg cW.n hb
      simpa [qP,h6,bW] using this
    have:=hfl p.a.name
    have:=hfl p.b.name
    omega
def gM (l:aE):Int :=
  if hD l≠0 then hD l else
  if ((!rY l)||(!wB l))=true then 180 else
  if l.phases.all (rG l)=true then if l.conds.all xB=true then 0 else 180 else 180
def kY (l:aE) (g:List dP) (f:List bK):Int :=
  if gM l≠0 then gM l else
  if ((decide ((g.length:Int)>1024))||(decide ((f.length:Int)>1024)))=true then 2 else
  if ((!DA l g)||((f.length:Int) != (g.length:Int)))=true then 190 else
  if (List.range f.length).all (fun i=>xL l (g.getD i cM) (f.getD i dJ))=true then 0 else 190
def tP (l:aE) (ws:List bX) (i:Nat):Bool :=
  !((!rH l (ws.getD i eG))||((decide ((i:Int)>0))&&(decide ((ws.getD (((i:Int)-1)).toNat eG).no≥(ws.getD i eG).no))))
def mR (l:aE) (ws:List bX):Int :=
  if gM l≠0 then gM l else
  if (ws.length:Int)>64 then 2 else
  if (List.range ws.length).all (tP l ws)=true then 0 else 420
def eW (l:aE) (g:List dP) (f:List bK) (x:bX) (z:Int):Bool × Int :=
  if kY l g f=0 then (if mR l [x]≠0 then (false,mR l [x]) else
    if ((decide (z<0))||(decide (z≥(g.length:Int))))=true then (false,1) else (wD (g.getD z.toNat cM) (f.getD z.toNat dJ) x,0))
  else (false,kY l g f)
theorem sA {l:aE} {g:List dP} {f:List bK} (h:kY l g f=0):f.length=g.length:=by
  unfold kY at h
  split at h
  · exact absurd h (by assumption)
  split at h
  · cases h
  split at h
  · cases h
  rename_i h1
  simp only [Bool.or_eq_true,not_or,bne_iff_ne,ne_eq,Decidable.not_not] at h1
  omega
def KK (l:aE) (g:List dP) (f:List bK):Bool :=
  IF l&&(((decide ((g.length:Int)≤40))&&(decide ((f.length:Int)≤40)))||(((decide ((g.length:Int)≤1100))&&(decide ((f.length:Int)≤1100)))&&((decide ((g.length:Int)>1024))||(decide ((f.length:Int)>1024)))))
def VX (l:aE) (g:List dP) (f:List bK) (ws:List bX):Bool:=KK l g f&&(decide ((ws.length:Int)≤80))
end Go.Fz
namespace Go.Proofs.YtfffbdmdllgalaaGreatDoor
open Go Go.RowKit Go.Fz
set_option maxRecDepth 10000
theorem XC (l:aE) (w:World) (hL:LeagueAt w l):Calls Tryz.prog 150 #[.agg (aB l).toArray] w (eB (Bo (IF l)) w):=by
 refine dX [.agg (aB l).toArray] Tryz.func150 rfl rfl rfl rfl fun _ s0=>?_
 have smx1:=hL.sm
 refine wp_seq<|aA<|lb s0 0 _ rfl rfl rfl rfl fun B1 a2 w3 s4=>zl s4 [1] [(1,Pt B1 0)] 1 1 qe fun _ w6 s7=>aR rfl<|aD<|wp_seq<|aA<|zl s7 [1,5] [(5,.agg (aB l).toArray)] 0 1 (qo (s7.m.lda 34 0 0 cS rfl rfl rfl)<|qe) fun _ w9 s10=>lh s10 1 (v:=fun n:cE=>.agg (dE n).toArray) (I:=y0) (φ:=gZ l) rfl rfl rfl VF rfl (acT l _ (hL.up s10.m)) fun n11 a12 w13 hn15 s14=>?_
 have sm_n11_towns:n11.towns.length≤140737488355328:=by rw [hn15.1]; simp only [List.length_map]; exact hL.towns.small
 have sm_n11_grounds:n11.grounds.length≤140737488355328:=by rw [hn15.2.1]; simp only [List.length_map]; exact hL.grounds.small
 have sm_n11_teams:n11.teams.length≤140737488355328:=by rw [hn15.2.2.1]; simp only [List.length_map]; exact hL.teams.small
 have sm_n11_windows:n11.windows.length≤140737488355328:=by rw [hn15.2.2.2.1]; simp only [List.length_map]; exact hL.windows.small
 have sm_n11_slots:n11.slots.length≤140737488355328:=by rw [hn15.2.2.2.2.1]; simp only [List.length_map]; exact hL.slots.small
 have sm_n11_phases:n11.phases.length≤140737488355328:=by rw [hn15.2.2.2.2.2.1]; simp only [List.length_map]; exact hL.phases.small
 have sm_n11_conds:n11.conds.length≤140737488355328:=by rw [hn15.2.2.2.2.2.2]; simp only [List.length_map]; exact hL.conds.small
 refine la s14 2 _ rfl JL rfl rfl fun B16 a17 w18 s19=>dD s19 3 0 _ _ rfl rfl rfl rfl F5 rfl rfl rfl rfl fun w20 s21=>aR rfl<|aD<|wp_seq<|zs s21 [1,52] [(52,Bo ((((((((decide ((l.name.size:Int)>6000))||(!(kR n11.towns)))||(!(kR n11.grounds)))||(!(kR n11.teams)))||(!(kR n11.windows)))||(!(kR n11.slots)))||(!(kR n11.phases)))||(!(kR n11.conds))))] (qo (fa w20 B1 0 zI)<|qo (s21.m.ld 9 8 0 qQ rfl rfl)<|qo (V8 w20 3 l.name Tryz.underlying9)<|qo (fa w20 B16 0 mH)<|qo (s21.m.ld 158 0 0 c8 rfl rfl)<|qo (yc w20 zM fun w' hb=>qD n11.townsA n11.towns n11.townsC w' ((s21.m.row (enc:=aJ) 7 rfl aU sm_n11_towns).grow hb))<|qo (fa w20 B16 0 qA)<|qo (s21.m.ld 158 0 1 c8 rfl rfl)<|qo (yc w20 zM fun w' hb=>qD n11.groundsA n11.grounds n11.groundsC w' ((s21.m.row (enc:=aJ) 6 rfl aU sm_n11_grounds).grow hb))<|qo (fa w20 B16 0 j8)<|qo (s21.m.ld 158 0 2 c8 rfl rfl)<|qo (yc w20 zM fun w' hb=>qD n11.teamsA n11.teams n11.teamsC w' ((s21.m.row (enc:=aJ) 5 rfl aU sm_n11_teams).grow hb))<|qo (fa w20 B16 0 r7)<|qo (s21.m.ld 158 0 3 c8 rfl rfl)<|qo (yc w20 zM fun w' hb=>qD n11.windowsA n11.windows n11.windowsC w' ((s21.m.row (enc:=aJ) 4 rfl aU sm_n11_windows).grow hb))<|qo (fa w20 B16 0 uY)<|qo (s21.m.ld 158 0 4 c8 rfl rfl)<|qo (yc w20 zM fun w' hb=>qD n11.slotsA n11.slots n11.slotsC w' ((s21.m.row (enc:=aJ) 3 rfl aU sm_n11_slots).grow hb))<|qo (fa w20 B16 0 r8)<|qo (s21.m.ld 158 0 5 c8 rfl rfl)<|qo (yc w20 zM fun w' hb=>qD n11.phasesA n11.phases n11.phasesC w' ((s21.m.row (enc:=aJ) 2 rfl aU sm_n11_phases).grow hb))<|qo (fa w20 B16 0 uZ)<|qo (s21.m.ld 158 0 6 c8 rfl rfl)<|qo (yc w20 zM fun w' hb=>qD n11.condsA n11.conds n11.condsC w' ((s21.m.row (enc:=aJ) 1 rfl aU sm_n11_conds).grow hb))<|qe) fun _ w23 s24=>cO s24.f rfl (fun h25=>?_) (fun h25=>?_)
 ·refine zs s24 [2] [(2,Bo false)] qe fun _ w27 s28=>aC<|aN (pR [Bo false] rfl s28 ⟨rfl,trivial⟩ ?_)
  exact aW s28 (congrArg Bo (((show LT l n11=false from iP h25 rfl)).symm.trans (yB hn15)))
 refine wp_skip<|aD<|wp_seq<|zs s24 [1,68] [(68,Bo (((decide ((l.ways.length:Int)>300))||(decide ((l.depots.length:Int)>300)))||(decide ((l.keys.length:Int)>300))))] (qo (fa w23 B1 0 fS)<|qo (s24.m.ld 23 8 2 nS rfl rfl)<|qo (ln w23 3 l.waysA l.ways.length l.waysC nU)<|qo (fa w23 B1 0 iU)<|qo (s24.m.ld 24 8 3 qY rfl rfl)<|qo (ln w23 3 l.depotsA l.depots.length l.depotsC qZ)<|qo (fa w23 B1 0 jV)<|qo (s24.m.ld 30 8 12 jB rfl rfl)<|qo (ln w23 3 l.keysA l.keys.length l.keysC eX)<|qe) fun _ w30 s31=>cO s31.f rfl (fun h32=>?_) (fun h32=>?_)
 ·refine zs s31 [2] [(2,Bo false)] qe fun _ w34 s35=>aC<|aN (pR [Bo false] rfl s35 ⟨rfl,trivial⟩ ?_)
  exact aW s35 (congrArg Bo (((show LT l n11=false from iF h25 (iP h32 rfl))).symm.trans (yB hn15)))
 refine wp_skip<|aD<|wp_seq<|zs s31 [1,4] [(4,I 0)] qe fun _ w37 s38=>wp_block<|aO (α:=Nat) (fun k aI wI=>(k≤l.phases.length)∧(Sta 94 [] w [⟨1,[],Pt B1 0⟩,⟨4,[],I (k:Int)⟩] [cI B16 227 (dE n11),oR 9 1 aJ n11.condsA n11.condsC n11.conds,oR 9 1 aJ n11.phasesA n11.phasesC n11.phases,oR 9 1 aJ n11.slotsA n11.slotsC n11.slots,oR 9 1 aJ n11.windowsA n11.windowsC n11.windows,oR 9 1 aJ n11.teamsA n11.teamsC n11.teams,oR 9 1 aJ n11.groundsA n11.groundsC n11.grounds,oR 9 1 aJ n11.townsA n11.townsC n11.towns,cI B1 34 (aB l)] aI wI)∧(∀ i,i<k→∀ x,l.phases[i]?=some x→O9 x=true)) (fun k=>l.phases.length-k) 0 ⟨Nat.zero_le _,s38.keep [1,4] (by kernel_rfl),fun i h=>(Nat.not_lt_zero i h).elim⟩<|?_
 rintro k a41 w40 ⟨k_le,s39,inv_k⟩
 refine wp_seq<|zs s39 [1,4,73] [(73,Bo (decide ((k:Int)<(l.phases.length:Int))))] (qo (fa w40 B1 0 cG)<|qo (s39.m.ld 31 8 13 iE rfl rfl)<|qo (ln w40 3 l.phasesA l.phases.length l.phasesC g9)<|qe) fun _ w43 s44=>aQ s44.f rfl (fun h45=>?_) (fun h45=>?_)
 ·have k_lt:k<l.phases.length:=by omega
  obtain ⟨x,hx46⟩:=cD (xs:=l.phases) k_lt
  refine wp_skip<|aD<|wp_seq<|wp_block<|zs s44 [1,4,93] [(93,Bo ((decide ((x.teams.length:Int)>300))||(decide ((x.sizes.length:Int)>300))))] (qo (fa w43 B1 0 cG)<|qo (s44.m.ld 31 8 13 iE rfl rfl)<|qo ((hL.phases.up s44.m).ia l.phasesC k g9 eL (by omega))<|qo (jZ w43 l.phasesA (k*14) dR)<|qo ((hL.phases.up s44.m).ld 155 k 4 jT hx46 rfl)<|qo (ln w43 3 x.teamsA x.teams.length x.teamsC jU)<|qo (fa w43 B1 0 cG)<|qo (s44.m.ld 31 8 13 iE rfl rfl)<|qu (fun (g0:(decide ((x.teams.length:Int)>300))=false)=>(hL.phases.up s44.m).ia l.phasesC k g9 eL (by first | omega | (simp only [xV] at *; omega)))<|qo (jZ w43 l.phasesA (k*14) gH)<|qo ((hL.phases.up s44.m).ld 30 k 7 jB hx46 rfl)<|qo (ln w43 3 x.sizesA x.sizes.length x.sizesC eX)<|qe) fun _ w48 s49=>cO s49.f rfl (fun h50=>?_) (fun h50=>?_)
  ·refine zs s49 [2] [(2,Bo false)] qe fun _ w52 s53=>aC<|bP (aN (aN (bP (aN (pR [Bo false] rfl s53 ⟨rfl,trivial⟩ ?_)))))
   exact aW s53 (congrArg Bo (((show LT l n11=false from iF h25 (iF h32 (iF (bI hx46 (congrArg (!·) h50)) rfl)))).symm.trans (yB hn15)))
  refine wp_skip<|c9 (aD ?_)
  refine dU s49 [1,4] [400] [] (qo (wr ((k:Int)+1) ((k+1:Nat):Int) (by omega))<|qe) fun _ w55 s56=>aD<|?_
  exact ⟨(k+1),⟨by omega,s56.keep [1,4] (by kernel_rfl),aM inv_k (fun y hy=>by rw [hx46] at hy; cases hy; exact (congrArg (!·) h50))⟩,by omega⟩
 have k_eq:k=l.phases.length:=by omega
 have A57:l.phases.all O9=true:=cR (by rw [k_eq] at inv_k; exact inv_k)
 refine wp_exit<|aY (aY (cP (aD ?_)))
 refine zs s44 [2] [(2,Bo true)] qe fun _ w59 s60=>aC<|pR [Bo true] rfl s60 ⟨rfl,trivial⟩<|?_
 exact aW s60 (congrArg Bo (((show LT l n11=true from iF h25 (iF h32 (iP A57 rfl)))).symm.trans (yB hn15)))
theorem PA (l:aE) (w:World) (hL:LeagueAt w l):Calls Tryz.prog 134 #[.agg (aB l).toArray] w (eB (I (hD l)) w):=by
 refine dX [.agg (aB l).toArray] Tryz.func134 rfl rfl rfl rfl fun _ s0=>?_
 have smx1:=hL.sm
 refine wp_seq<|aA<|lb s0 0 _ rfl rfl rfl rfl fun B1 a2 w3 s4=>zl s4 [1] [(1,Pt B1 0)] 1 1 qe fun _ w6 s7=>aR rfl<|aD<|wp_seq<|aA<|zl s7 [1,7] [(7,.agg (aB l).toArray)] 0 1 (qo (s7.m.lda 34 0 0 cS rfl rfl rfl)<|qe) fun _ w9 s10=>lh s10 1 (v:=SD) (I:=xM) (φ:=WN l) rfl rfl rfl aa7 rfl (ID l _ (hL.up s10.m)) fun x11 a12 w13 hR15 s14=>?_
 obtain ⟨n,hn,he,hres⟩:=hR15
 have s16:=s14.perm (H':=((oR 178 21 aV x11.g.condsA x11.g.condsC x11.g.conds)::(oR 157 14 aK x11.g.phasesA x11.g.phasesC x11.g.phases)::(oR 160 4 bU x11.g.teamsA x11.g.teamsC x11.g.teams)::(oR 152 7 bG x11.g.groundsA x11.g.groundsC x11.g.grounds)::(oR 207 3 bY x11.g.depotsA x11.g.depotsC x11.g.depots)::(oR 205 5 cY x11.g.waysA x11.g.waysC x11.g.ways)::(cI B1 34 (aB l))::x11.gs.map tG)) (O7 [oR 178 21 aV x11.g.condsA x11.g.condsC x11.g.conds,oR 157 14 aK x11.g.phasesA x11.g.phasesC x11.g.phases,oR 160 4 bU x11.g.teamsA x11.g.teamsC x11.g.teams,oR 152 7 bG x11.g.groundsA x11.g.groundsC x11.g.grounds,oR 207 3 bY x11.g.depotsA x11.g.depotsC x11.g.depots,oR 205 5 cY x11.g.waysA x11.g.waysC x11.g.ways] (x11.gs.map tG) [cI B1 34 (aB l)])
 refine zl s16 [1,9,10] [(9,.agg (aB x11.out).toArray),(10,I x11.err)] 2 3 qe fun _ w18 s19=>la s19 5 zz rfl DG rfl rfl fun B20 a21 w22 s23=>dD s23 6 0 _ _ rfl rfl rfl rfl nA rfl rfl rfl rfl fun w24 s25=>zl s25 [1,3,4] [(3,Pt B20 0),(4,I x11.err)] 7 1 qe fun _ w27 s28=>aR rfl<|aD<|wp_seq<|zs s28 [1,3,4,12] [(12,Bo (x11.err != 0))] qe fun _ w30 s31=>jQ s31.f rfl (fun h32=>?_) (fun h32=>?_)
 ·refine zs s31 [2] [(2,I x11.err)] qe fun _ w34 s35=>aC<|aN (pR [I x11.err] rfl s35 ⟨rfl,trivial⟩ ?_)
  exact aW s35 (congrArg I (LU hn he h32).symm)
 refine wp_skip<|aD<|d5 s31 [5] [502] [] (qo (s31.m.lda 34 7 0 cS rfl rfl rfl)<|qo (s31.m.lda 34 0 0 cS rfl rfl rfl)<|qo (yc w30 aa8 fun w' hb=>XB l x11.out w' ((hL.up s31.m).grow hb) ((IE (n:=n) s31.m hL (.cons _ (.ck _ (.ck _ (.ck _ (.ck _ (.ck _ (.ck _ (.cons _ (List.Sublist.refl _))))))))) (hres h32) (pG (he.symm.trans h32)).1).grow hb))<|qe) fun _ w37 s38=>wp_seq<|zs s38 [18] [(18,Bo (!(o4 l x11.out)))] qe fun _ w40 s41=>bR s41.f rfl (fun h42=>?_) (fun h42=>?_)
 ·refine zs s41 [2] [(2,I 170)] qe fun _ w44 s45=>aC<|aN (pR [I 170] rfl s45 ⟨rfl,trivial⟩ ?_)
  exact aW s45 (congrArg I ((zU hn he h32 (hres h32)).trans (if_pos h42)).symm)
 refine wp_skip<|aD<|zs s41 [2] [(2,I 0)] qe fun _ w47 s48=>aC<|pR [I 0] rfl s48 ⟨rfl,trivial⟩<|?_
 exact aW s48 (congrArg I ((zU hn he h32 (hres h32)).trans (if_neg (ne_false_of_eq_true h42))).symm)
theorem KL (l:aE) (w:World) (hL:LeagueAt w l):Calls Tryz.prog 72 #[.agg (aB l).toArray] w (eB (I (gM l)) w):=by
 refine dX [.agg (aB l).toArray] Tryz.func72 rfl rfl rfl rfl fun _ s0=>?_
 have smx1:=hL.sm
 refine wp_seq<|aA<|lb s0 0 _ rfl rfl rfl rfl fun B1 a2 w3 s4=>zl s4 [1] [(1,Pt B1 0)] 1 1 qe fun _ w6 s7=>aR rfl<|aD<|d5 s7 [1,3] [301] [] (qo (s7.m.lda 34 0 0 cS rfl rfl rfl)<|qo (yc w6 Z5 fun w' hb=>PA l w' ((hL.up s7.m).grow hb))<|qe) fun _ w9 s10=>wp_seq<|zs s10 [1,3,9] [(9,Bo ((hD l) != 0))] qe fun _ w12 s13=>jQ s13.f rfl (fun h14=>?_) (fun h14=>?_)
 ·refine zs s13 [2] [(2,I (hD l))] qe fun _ w16 s17=>aC<|aN (pR [I (hD l)] rfl s17 ⟨rfl,trivial⟩ ?_)
  exact aW s17 (congrArg I (iP h14 rfl).symm)
 refine wp_skip<|aD<|wp_seq<|zs s13 [1,18] [(18,Bo ((!(rY l))||(!(wB l))))] (qo (s13.m.lda 34 0 0 cS rfl rfl rfl)<|qo (yc w12 Z6 fun w' hb=>LR l w' ((hL.up s13.m).grow hb))<|qo (s13.m.lda 34 0 0 cS rfl rfl rfl)<|qo (yc w12 Z7 fun w' hb=>O0 l w' ((hL.up s13.m).grow hb))<|qe) fun _ w19 s20=>cO s20.f rfl (fun h21=>?_) (fun h21=>?_)
 ·refine zs s20 [2] [(2,I 180)] qe fun _ w23 s24=>aC<|aN (pR [I 180] rfl s24 ⟨rfl,trivial⟩ ?_)
  exact aW s24 (congrArg I (iN h14 (iP h21 rfl)).symm)
 refine wp_skip<|aD<|wp_seq<|zs s20 [1,4] [(4,I 0)] qe fun _ w26 s27=>wp_block<|aO (α:=Nat) (fun k1 aI wI=>(k1≤l.phases.length)∧(Sta 48 [] w [⟨1,[],Pt B1 0⟩,⟨4,[],I (k1:Int)⟩] [cI B1 34 (aB l)] aI wI)∧(∀ i,i<k1→∀ x,l.phases[i]?=some x→(rG l) x=true)) (fun k1=>l.phases.length-k1) 0 ⟨Nat.zero_le _,s27.keep [1,4] (by kernel_rfl),fun i h=>(Nat.not_lt_zero i h).elim⟩<|?_
 rintro k1 a30 w29 ⟨k1_le,s28,inv_k1⟩
 refine wp_seq<|zs s28 [1,4,23] [(23,Bo (decide ((k1:Int)<(l.phases.length:Int))))] (qo (fa w29 B1 0 cG)<|qo (s28.m.ld 31 0 13 iE rfl rfl)<|qo (ln w29 3 l.phasesA l.phases.length l.phasesC g9)<|qe) fun _ w32 s33=>aQ s33.f rfl (fun h34=>?_) (fun h34=>?_)
 ·have k1_lt:k1<l.phases.length:=by omega
  obtain ⟨x,hx35⟩:=cD (xs:=l.phases) k1_lt
  have hpk:=True.intro
  refine wp_skip<|aD<|wp_seq<|wp_block<|wp_seq<|zr s33 [1,4,33] [(33,Bo (!(rG l x)))] MO (qo (s33.m.lda 34 0 0 cS rfl rfl rfl)<|qo (fa w32 B1 0 cG)<|qo (s33.m.ld 31 0 13 iE rfl rfl)<|qo ((hL.phases.up s33.m).ia l.phasesC k1 g9 eL (by omega))<|qo ((hL.phases.up s33.m).lda 157 k1 0 eP hx35 rfl rfl)<|qo (yc w32 Z8 fun w' hb=>O5 l x w' ((hL.up s33.m).grow hb) (((hL.pteams _ (List.mem_of_getElem? hx35)).up s33.m).grow hb) (((hL.psizes _ (List.mem_of_getElem? hx35)).up s33.m).grow hb) (zV h14 (List.mem_of_getElem? hx35)).1 (zV h14 (List.mem_of_getElem? hx35)).2)<|qe) fun _ w37 s38=>aD<|bR s38.f rfl (fun h39=>?_) (fun h39=>?_)
  ·refine zs s38 [2] [(2,I 180)] qe fun _ w41 s42=>aC<|bP (aN (aN (bP (aN (pR [I 180] rfl s42 ⟨rfl,trivial⟩ ?_)))))
   exact aW s42 (congrArg I (iN h14 (iF h21 (iF (bI hx35 h39) rfl))).symm)
  refine wp_skip<|c9 (aD ?_)
  refine dU s38 [1,4] [400] [] (qo (wr ((k1:Int)+1) ((k1+1:Nat):Int) (by omega))<|qe) fun _ w44 s45=>aD<|?_
  exact ⟨(k1+1),⟨by omega,s45.keep [1,4] (by kernel_rfl),aM inv_k1 (fun y hy=>by rw [hx35] at hy; cases hy; exact h39)⟩,by omega⟩
 have k1_eq:k1=l.phases.length:=by omega
 have A46:l.phases.all (rG l)=true:=cR (by rw [k1_eq] at inv_k1; exact inv_k1)
 refine wp_exit<|aY (aY (cP (aD ?_)))
 refine wp_seq<|zs s33 [1,5] [(5,I 0)] qe fun _ w48 s49=>wp_block<|aO (α:=Nat) (fun k2 aI wI=>(k2≤l.conds.length)∧(Sta 48 [] w [⟨1,[],Pt B1 0⟩,⟨5,[],I (k2:Int)⟩] [cI B1 34 (aB l)] aI wI)∧(∀ i,i<k2→∀ x,l.conds[i]?=some x→xB x=true)) (fun k2=>l.conds.length-k2) 0 ⟨Nat.zero_le _,s49.keep [1,5] (by kernel_rfl),fun i h=>(Nat.not_lt_zero i h).elim⟩<|?_
 rintro k2 a52 w51 ⟨k2_le,s50,inv_k2⟩
 refine wp_seq<|zs s50 [1,5,38] [(38,Bo (decide ((k2:Int)<(l.conds.length:Int))))] (qo (fa w51 B1 0 eV)<|qo (s50.m.ld 32 0 14 o6 rfl rfl)<|qo (ln w51 3 l.condsA l.conds.length l.condsC oQ)<|qe) fun _ w54 s55=>aQ s55.f rfl (fun h56=>?_) (fun h56=>?_)
 ·have k2_lt:k2<l.conds.length:=by omega
  obtain ⟨x,hx57⟩:=cD (xs:=l.conds) k2_lt
  refine wp_skip<|aD<|wp_seq<|wp_block<|zs s55 [1,5,47] [(47,Bo (!(xB x)))] (qo (fa w54 B1 0 eV)<|qo (s55.m.ld 32 0 14 o6 rfl rfl)<|qo ((hL.conds.up s55.m).ia l.condsC k2 oQ iC (by omega))<|qo ((hL.conds.up s55.m).lda 178 k2 0 fH hx57 rfl rfl)<|qo (yc w54 Z9 fun w' hb=>SQ x w')<|qe) fun _ w59 s60=>bR s60.f rfl (fun h61=>?_) (fun h61=>?_)
  ·refine zs s60 [2] [(2,I 180)] qe fun _ w63 s64=>aC<|bP (aN (aN (bP (aN (pR [I 180] rfl s64 ⟨rfl,trivial⟩ ?_)))))
   exact aW s64 (congrArg I (iN h14 (iF h21 (iP A46 (iF (bI hx57 h61) rfl)))).symm)
  refine wp_skip<|c9 (aD ?_)
  refine dU s60 [1,5] [500] [] (qo (wr ((k2:Int)+1) ((k2+1:Nat):Int) (by omega))<|qe) fun _ w66 s67=>aD<|?_
  exact ⟨(k2+1),⟨by omega,s67.keep [1,5] (by kernel_rfl),aM inv_k2 (fun y hy=>by rw [hx57] at hy; cases hy; exact h61)⟩,by omega⟩
 have k2_eq:k2=l.conds.length:=by omega
 have A68:l.conds.all xB=true:=cR (by rw [k2_eq] at inv_k2; exact inv_k2)
 refine wp_exit<|aY (aY (cP (aD ?_)))
 refine zs s55 [2] [(2,I 0)] qe fun _ w70 s71=>aC<|pR [I 0] rfl s71 ⟨rfl,trivial⟩<|?_
 exact aW s71 (congrArg I (iN h14 (iF h21 (iP A46 (iP A68 rfl)))).symm)
theorem XD (l:aE) (w:World) (hL:LeagueAt w l):Calls Tryz.prog 113 #[.agg (aB l).toArray] w (eB (Bo (IF l)) w):=by
 refine dX [.agg (aB l).toArray] Tryz.func113 rfl rfl rfl rfl fun _ s0=>?_
 have smx1:=hL.sm
 refine wp_seq<|aA<|lb s0 0 _ rfl rfl rfl rfl fun B1 a2 w3 s4=>zl s4 [1] [(1,Pt B1 0)] 1 1 qe fun _ w6 s7=>aR rfl<|aD<|d5 s7 [2] [201] [] (qo (s7.m.lda 34 0 0 cS rfl rfl rfl)<|qo (yc w6 aa3 fun w' hb=>XC l w' ((hL.up s7.m).grow hb))<|qe) fun _ w9 s10=>aC<|pR [Bo (IF l)] rfl s10 ⟨rfl,trivial⟩<|?_
 exact aW s10 rfl
theorem SU (l:aE) (gA:Option Addr) (g:List dP) (gC:Nat) (fA:Option Addr) (f:List bK) (fC:Nat) (w:World) (hL:LeagueAt w l) (hg:Row w gA 9 cA g) (hf:Row w fA 3 bB f):Calls Tryz.prog 37 #[.agg (aB l).toArray,.slice gA g.length gC,.slice fA f.length fC] w (eB (I (kY l g f)) w):=by
 refine dX [.agg (aB l).toArray,.slice gA g.length gC,.slice fA f.length fC] Tryz.func37 rfl rfl rfl rfl fun _ s0=>?_
 have smx1:=hL.sm
 have sm10:=hg.small
 have sm11:=hf.small
 refine wp_seq<|aA<|lb s0 0 _ rfl rfl rfl rfl fun B1 a2 w3 s4=>zl s4 [1,2,3] [(1,.slice gA g.length gC),(2,.slice fA f.length fC),(3,Pt B1 0)] 1 1 qe fun _ w6 s7=>aR rfl<|aD<|d5 s7 [1,2,3,7] [701] [] (qo (s7.m.lda 34 0 0 cS rfl rfl rfl)<|qo (yc w6 ZL fun w' hb=>KL l w' ((hL.up s7.m).grow hb))<|qe) fun _ w9 s10=>wp_seq<|zs s10 [1,2,3,7,12] [(12,Bo ((gM l) != 0))] qe fun _ w12 s13=>jQ s13.f rfl (fun h14=>?_) (fun h14=>?_)
 ·refine zs s13 [6] [(6,I (gM l))] qe fun _ w16 s17=>aC<|aN (pR [I (gM l)] rfl s17 ⟨rfl,trivial⟩ ?_)
  exact aW s17 (congrArg I (iP h14 rfl).symm)
 refine wp_skip<|aD<|wp_seq<|zs s13 [1,2,3,21] [(21,Bo ((decide ((g.length:Int)>1024))||(decide ((f.length:Int)>1024))))] (qo (ln w12 3 gA g.length gC pY)<|qo (ln w12 3 fA f.length fC uT)<|qe) fun _ w19 s20=>cO s20.f rfl (fun h21=>?_) (fun h21=>?_)
 ·refine zs s20 [6] [(6,I 2)] qe fun _ w23 s24=>aC<|aN (pR [I 2] rfl s24 ⟨rfl,trivial⟩ ?_)
  exact aW s24 (congrArg I (iN h14 (iP h21 rfl)).symm)
 refine wp_skip<|aD<|wp_seq<|zs s20 [1,2,3,32] [(32,Bo ((!(DA l g))||((f.length:Int) != (g.length:Int))))] (qo (s20.m.lda 34 0 0 cS rfl rfl rfl)<|qo (yc w19 aeR fun w' hb=>SR l gA g gC w' ((hg.up s20.m).grow hb))<|qo (ln w19 3 fA f.length fC uT)<|qo (ln w19 3 gA g.length gC pY)<|qe) fun _ w26 s27=>cO s27.f rfl (fun h28=>?_) (fun h28=>?_)
 ·refine zs s27 [6] [(6,I 190)] qe fun _ w30 s31=>aC<|aN (pR [I 190] rfl s31 ⟨rfl,trivial⟩ ?_)
  exact aW s31 (congrArg I (iN h14 (iF h21 (iP h28 rfl))).symm)
 refine wp_skip<|aD<|wp_seq<|wp_seq<|?_
 have hlen:=h28
 simp only [Bool.or_eq_false_iff,bne_eq_false_iff_eq] at hlen
 refine zq s27 [1,2,3,8] [(8,I 0)] qe fun _ w33 s34=>aD<|wp_block<|aO (α:=Nat) (fun k aI wI=>(k≤f.length)∧(Sta 50 [] w [⟨1,[],.slice gA g.length gC⟩,⟨2,[],.slice fA f.length fC⟩,⟨3,[],Pt B1 0⟩,⟨8,[],I (k:Int)⟩] [cI B1 34 (aB l)] aI wI)∧(∀ i,i<k→∀ x,(List.range f.length)[i]?=some x→(fun i=>xL l (g.getD i cM) (f.getD i dJ)) x=true)) (fun k=>f.length-k) 0 ⟨Nat.zero_le _,s34.keep [1,2,3,8] (by kernel_rfl),fun i h=>(Nat.not_lt_zero i h).elim⟩<|?_
 rintro k a37 w36 ⟨k_le,s35,inv_k⟩
 refine wp_seq<|zs s35 [1,2,3,8,36] [(36,Bo (decide ((k:Int)<(f.length:Int))))] (qo (ln w36 3 fA f.length fC uT)<|qe) fun _ w39 s40=>aQ s40.f rfl (fun h41=>?_) (fun h41=>?_)
 ·have k_lt:k<f.length:=by omega
  have hx42:(List.range f.length)[k]?=some k:=List.getElem?_range k_lt
  have hx43:g[k]?=some (g.getD k cM):=bC (by omega)
  have hx44:f[k]?=some (f.getD k dJ):=bC (by omega)
  refine wp_skip<|aD<|wp_seq<|wp_block<|wp_seq<|zr s40 [1,2,3,8,49] [(49,Bo (!(xL l (g.getD k cM) (f.getD k dJ))))] MO (qo (s40.m.lda 34 0 0 cS rfl rfl rfl)<|qo ((hg.up s40.m).ia gC k pY DE (by omega))<|qo ((hg.up s40.m).lda 62 k 0 rN hx43 rfl rfl)<|qo ((hf.up s40.m).ia fC k uT A3 (by omega))<|qo ((hf.up s40.m).lda 57 k 0 A4 hx44 rfl rfl)<|qo (yc w39 aeS fun w' hb=>LS l (g.getD k cM) (f.getD k dJ) w')<|qe) fun _ w46 s47=>aD<|bR s47.f rfl (fun h48=>?_) (fun h48=>?_)
  ·refine zs s47 [6] [(6,I 190)] qe fun _ w50 s51=>aC<|bP (aN (aN (bP (aN (pR [I 190] rfl s51 ⟨rfl,trivial⟩ ?_)))))
   exact aW s51 (congrArg I (iN h14 (iF h21 (iF h28 (iF (bI hx42 h48) rfl)))).symm)
  refine wp_skip<|c9 (aD ?_)
  refine dU s47 [1,2,3,8] [800] [] (qo (wr ((k:Int)+1) ((k+1:Nat):Int) (by omega))<|qe) fun _ w53 s54=>aD<|?_
  exact ⟨(k+1),⟨by omega,s54.keep [1,2,3,8] (by kernel_rfl),aM inv_k (fun y hy=>by rw [hx42] at hy; cases hy; exact h48)⟩,by omega⟩
 have k_eq:k=f.length:=by omega
 have A55:(List.range f.length).all (fun i=>xL l (g.getD i cM) (f.getD i dJ))=true:=dG (by rw [k_eq] at inv_k; exact inv_k)
 refine wp_exit<|aY (aY (cP (aD ?_)))
 refine zs s40 [6] [(6,I 0)] qe fun _ w57 s58=>aC<|pR [I 0] rfl s58 ⟨rfl,trivial⟩<|?_
 exact aW s58 (congrArg I (iN h14 (iF h21 (iF h28 (iP A55 rfl)))).symm)
theorem acU (l:aE) (gA:Option Addr) (g:List dP) (gC:Nat) (fA:Option Addr) (f:List bK) (fC:Nat) (w:World) (hL:LeagueAt w l) (hg:Row w gA 9 cA g) (hf:Row w fA 3 bB f):Calls Tryz.prog 68 #[.agg (aB l).toArray,.slice gA g.length gC,.slice fA f.length fC] w (eB (Bo (KK l g f)) w):=by
 refine dX [.agg (aB l).toArray,.slice gA g.length gC,.slice fA f.length fC] Tryz.func68 rfl rfl rfl rfl fun _ s0=>?_
 have smx1:=hL.sm
 have sm10:=hg.small
 have sm11:=hf.small
 refine wp_seq<|aA<|lb s0 0 _ rfl rfl rfl rfl fun B1 a2 w3 s4=>zl s4 [1,2,3] [(1,.slice gA g.length gC),(2,.slice fA f.length fC),(3,Pt B1 0)] 1 1 qe fun _ w6 s7=>aR rfl<|aD<|d5 s7 [1,2,7] [701] [] (qo (s7.m.lda 34 0 0 cS rfl rfl rfl)<|qo (yc w6 ZO fun w' hb=>XD l w' ((hL.up s7.m).grow hb))<|qe) fun _ w9 s10=>zs s10 [6] [(6,Bo ((IF l)&&(((decide ((g.length:Int)≤40))&&(decide ((f.length:Int)≤40)))||(((decide ((g.length:Int)≤1100))&&(decide ((f.length:Int)≤1100)))&&((decide ((g.length:Int)>1024))||(decide ((f.length:Int)>1024)))))))] (qo (ln w9 3 gA g.length gC pY)<|qo (ln w9 3 fA f.length fC uT)<|qo (ln w9 3 gA g.length gC pY)<|qo (ln w9 3 fA f.length fC uT)<|qo (ln w9 3 gA g.length gC pY)<|qo (ln w9 3 fA f.length fC uT)<|qe) fun _ w12 s13=>aC<|pR [Bo ((IF l)&&(((decide ((g.length:Int)≤40))&&(decide ((f.length:Int)≤40)))||(((decide ((g.length:Int)≤1100))&&(decide ((f.length:Int)≤1100)))&&((decide ((g.length:Int)>1024))||(decide ((f.length:Int)>1024))))))] rfl s13 ⟨rfl,trivial⟩<|?_
 exact aW s13 rfl
end Go.Proofs.YtfffbdmdllgalaaGreatDoor
namespace Go.Proofs.YtfffbdmdllgalaaGreatDoor
open Go Go.RowKit Go.Fz
set_option maxRecDepth 10000
theorem KM (l:aE) (wA:Option Addr) (ws:List bX) (wC:Nat) (w:World) (hL:LeagueAt w l) (hw:Row w wA 7 bE ws):Calls Tryz.prog 30 #[.agg (aB l).toArray,.slice wA ws.length wC] w (eB (I (mR l ws)) w):=by
 refine dX [.agg (aB l).toArray,.slice wA ws.length wC] Tryz.func30 rfl rfl rfl rfl fun _ s0=>?_
 have smx1:=hL.sm
 have sm10:=hw.small
 refine wp_seq<|aA<|lb s0 0 _ rfl rfl rfl rfl fun B1 a2 w3 s4=>zl s4 [1,2] [(1,.slice wA ws.length wC),(2,Pt B1 0)] 1 1 qe fun _ w6 s7=>aR rfl<|aD<|d5 s7 [1,2,5] [501] [] (qo (s7.m.lda 34 0 0 cS rfl rfl rfl)<|qo (yc w6 ZL fun w' hb=>KL l w' ((hL.up s7.m).grow hb))<|qe) fun _ w9 s10=>wp_seq<|zs s10 [1,2,5,10] [(10,Bo ((gM l) != 0))] qe fun _ w12 s13=>jQ s13.f rfl (fun h14=>?_) (fun h14=>?_)
 ·refine zs s13 [4] [(4,I (gM l))] qe fun _ w16 s17=>aC<|aN (pR [I (gM l)] rfl s17 ⟨rfl,trivial⟩ ?_)
  exact aW s17 (congrArg I (iP h14 rfl).symm)
 refine wp_skip<|aD<|wp_seq<|zs s13 [1,2,14] [(14,Bo (decide ((ws.length:Int)>64)))] (qo (ln w12 3 wA ws.length wC pZ)<|qe) fun _ w19 s20=>aQ s20.f rfl (fun h21=>?_) (fun h21=>?_)
 ·refine zs s20 [4] [(4,I 2)] qe fun _ w23 s24=>aC<|aN (pR [I 2] rfl s24 ⟨rfl,trivial⟩ ?_)
  exact aW s24 (congrArg I (iN h14 (iP h21 rfl)).symm)
 refine wp_skip<|aD<|wp_seq<|zs s20 [1,2,6] [(6,I 0)] qe fun _ w26 s27=>wp_block<|aO (α:=Nat) (fun k aI wI=>(k≤ws.length)∧(Sta 46 [] w [⟨1,[],.slice wA ws.length wC⟩,⟨2,[],Pt B1 0⟩,⟨6,[],I (k:Int)⟩] [cI B1 34 (aB l)] aI wI)∧(∀ i,i<k→∀ x,(List.range ws.length)[i]?=some x→(tP l ws) x=true)) (fun k=>ws.length-k) 0 ⟨Nat.zero_le _,s27.keep [1,2,6] (by kernel_rfl),fun i h=>(Nat.not_lt_zero i h).elim⟩<|?_
 rintro k a30 w29 ⟨k_le,s28,inv_k⟩
 refine wp_seq<|zs s28 [1,2,6,18] [(18,Bo (decide ((k:Int)<(ws.length:Int))))] (qo (ln w29 3 wA ws.length wC pZ)<|qe) fun _ w32 s33=>aQ s33.f rfl (fun h34=>?_) (fun h34=>?_)
 ·have k_lt:k<ws.length:=by omega
  have hx35:(List.range ws.length)[k]?=some k:=List.getElem?_range k_lt
  have hx36:ws[k]?=some (ws.getD k eG):=bC (by omega)
  have hprev:ws[((k:Int)-1).toNat]?=some (ws.getD (((k:Int)-1).toNat) eG):=bC (by omega)
  refine wp_skip<|aD<|wp_seq<|wp_block<|wp_seq<|zr s33 [1,2,6,45] [(45,Bo ((!(rH l (ws.getD k eG)))||((decide ((k:Int)>0))&&(decide ((ws.getD (((k:Int)-1).toNat) eG).no≥((ws.getD k eG).no))))))] MO (qo (s33.m.lda 34 0 0 cS rfl rfl rfl)<|qo ((hw.up s33.m).ia wC k pZ sH (by omega))<|qo ((hw.up s33.m).lda 43 k 0 pB hx36 rfl rfl)<|qo (yc w32 aeL fun w' hb=>XA l (ws.getD k eG) w' ((hL.up s33.m).grow hb))<|qv (fun (g0:(!(rH l (ws.getD k eG)))=false)=>fun (g1:(decide ((k:Int)>0))=true)=>wr ((k:Int)-1) ((k:Int)-1) (by first | omega | (simp only [xV] at *; omega)))<|qv (fun (g0:(!(rH l (ws.getD k eG)))=false)=>fun (g1:(decide ((k:Int)>0))=true)=>(hw.up s33.m).iaI wC ((k:Int)-1) pZ sH (by first | omega | (simp only [xV] at *; omega)))<|qo (jZ w32 wA ((((k:Int)-1).toNat)*7) wG)<|qo ((hw.up s33.m).ld 3 (((k:Int)-1).toNat) 0 bM hprev rfl)<|qv (fun (g0:(!(rH l (ws.getD k eG)))=false)=>fun (g1:(decide ((k:Int)>0))=true)=>(hw.up s33.m).ia wC k pZ sH (by first | omega | (simp only [xV] at *; omega)))<|qo (jZ w32 wA (k*7) wG)<|qo ((hw.up s33.m).ld 3 k 0 bM hx36 rfl)<|qe) fun _ w38 s39=>aD<|cO s39.f rfl (fun h40=>?_) (fun h40=>?_)
  ·refine zs s39 [4] [(4,I 420)] qe fun _ w42 s43=>aC<|bP (aN (aN (bP (aN (pR [I 420] rfl s43 ⟨rfl,trivial⟩ ?_)))))
   exact aW s43 (congrArg I (iN h14 (iM h21 (iF (bI hx35 (congrArg (!·) h40)) rfl))).symm)
  refine wp_skip<|c9 (aD ?_)
  refine dU s39 [1,2,6] [600] [] (qo (wr ((k:Int)+1) ((k+1:Nat):Int) (by omega))<|qe) fun _ w45 s46=>aD<|?_
  exact ⟨(k+1),⟨by omega,s46.keep [1,2,6] (by kernel_rfl),aM inv_k (fun y hy=>by rw [hx35] at hy; cases hy; exact (congrArg (!·) h40))⟩,by omega⟩
 have k_eq:k=ws.length:=by omega
 have A47:(List.range ws.length).all (tP l ws)=true:=dG (by rw [k_eq] at inv_k; exact inv_k)
 refine wp_exit<|aY (aY (cP (aD ?_)))
 refine zs s33 [4] [(4,I 0)] qe fun _ w49 s50=>aC<|pR [I 0] rfl s50 ⟨rfl,trivial⟩<|?_
 exact aW s50 (congrArg I (iN h14 (iM h21 (iP A47 rfl))).symm)
theorem GG (l:aE) (gA:Option Addr) (g:List dP) (gC:Nat) (fA:Option Addr) (f:List bK) (fC:Nat) (x:bX) (z:Int) (w:World) (hL:LeagueAt w l) (hg:Row w gA 9 cA g) (hf:Row w fA 3 bB f):Calls Tryz.prog 32 #[.agg (aB l).toArray,.slice gA g.length gC,.slice fA f.length fC,.agg (bE x).toArray,I z] w (eB (.tuple #[Bo (eW l g f x z).1,I (eW l g f x z).2]) w):=by
 refine dX [.agg (aB l).toArray,.slice gA g.length gC,.slice fA f.length fC,.agg (bE x).toArray,I z] Tryz.func32 rfl rfl rfl rfl fun _ s0=>?_
 have smx1:=hL.sm
 have sm10:=hg.small
 have sm11:=hf.small
 refine wp_seq<|aA<|lb s0 0 _ rfl rfl rfl rfl fun B1 a2 w3 s4=>lb s4 1 _ rfl rfl rfl rfl fun B5 a6 w7 s8=>zl s8 [1,2,4,5,8] [(1,.slice gA g.length gC),(2,.slice fA f.length fC),(4,I z),(5,Pt B1 0),(8,Pt B5 0)] 2 2 qe fun _ w10 s11=>aR rfl<|aD<|d5 s11 [1,2,4,5,8,12] [1201] [] (qo (s11.m.lda 34 1 0 cS rfl rfl rfl)<|qo (yc w10 aeI fun w' hb=>SU l gA g gC fA f fC w' ((hL.up s11.m).grow hb) ((hg.up s11.m).grow hb) ((hf.up s11.m).grow hb))<|qe) fun _ w13 s14=>wp_seq<|zs s14 [1,2,4,5,8,12,18] [(18,Bo ((kY l g f)==0))] qe fun _ w16 s17=>bA s17.f rfl (fun h18=>?_) (fun h18=>?_)
 ·refine aA<|zl s17 [1,2,4,8,19,20] [(19,.agg (aB l).toArray),(20,.agg (bE x).toArray)] 0 2 (qo (s17.m.lda 34 1 0 cS rfl rfl rfl)<|qo (s17.m.lda 43 0 0 pB rfl rfl rfl)<|qe) fun _ w20 s21=>lR s21 2 (vs:=[.agg (bE x).toArray]) (e:=43) (bE x) rfl rfl (fun _=>by kernel_rfl) rfl fun B22 a23 w24 s25=>fJ s25 [1,2,4,8,12] [1200] [] 3 2 (qo (yc w24 ZG fun w' hb=>KM l (some ⟨B22,0,none⟩) ([x]) 1 w' ((hL.up s25.m).grow hb) ((s25.m.rowc (enc:=bE) 0 ([x]) rfl gN rfl (Nat.le_of_ble_eq_true rfl)).grow hb))<|qe) fun _ w27 s28=>aR rfl<|aD<|wp_seq<|zs s28 [1,2,4,8,12,24] [(24,Bo ((mR l ([x])) != 0))] qe fun _ w30 s31=>jQ s31.f rfl (fun h32=>?_) (fun h32=>?_)
  ·refine zs s31 [10,11] [(10,Bo false),(11,I (mR l ([x])))] qe fun _ w34 s35=>aC<|aN (pR [Bo false,I (mR l ([x]))] rfl s35 ⟨rfl,rfl,trivial⟩ ?_)
   have hR:eW l g f x z=(false,mR l ([x])):=iP h18 (iP h32 rfl)
   exact gX s35 (congrArg (fun r=>Bo r.1) hR.symm) (congrArg (fun r=>I r.2) hR.symm)
  refine wp_skip<|aD<|wp_seq<|zs s31 [1,2,4,8,33] [(33,Bo ((decide (z<0))||(decide (z≥(g.length:Int)))))] (qo (ln w30 3 gA g.length gC pY)<|qe) fun _ w37 s38=>cO s38.f rfl (fun h39=>?_) (fun h39=>?_)
  ·refine zs s38 [10,11] [(10,Bo false),(11,I 1)] qe fun _ w41 s42=>aC<|aN (pR [Bo false,I 1] rfl s42 ⟨rfl,rfl,trivial⟩ ?_)
   have hR:eW l g f x z=(false,1):=iP h18 (iN h32 (iP h39 rfl))
   exact gX s42 (congrArg (fun r=>Bo r.1) hR.symm) (congrArg (fun r=>I r.2) hR.symm)
  refine wp_skip<|aD<|wp_seq<|?_
  have hz:0≤z∧z<g.length:=by
   have:=h39
   simp only [Bool.or_eq_false_iff,decide_eq_false_iff_not] at this
   omega
  have hfl:=sA h18
  have hz2:0≤z∧z<f.length:=by omega
  have hgz:g[z.toNat]?=some (g.getD z.toNat cM):=bC (by omega)
  have hfz:f[z.toNat]?=some (f.getD z.toNat dJ):=bC (by omega)
  refine HT s38 [10,11] [1005] [(11,I 0)] MO (qo ((hg.up s38.m).iaI gC z pY DE hz)<|qo ((hg.up s38.m).lda 62 z.toNat 0 rN hgz rfl rfl)<|qo ((hf.up s38.m).iaI fC z uT A3 hz2)<|qo ((hf.up s38.m).lda 57 z.toNat 0 A4 hfz rfl rfl)<|qo (s38.m.lda 43 1 0 pB rfl rfl rfl)<|qo (yc w37 aeM fun w' hb=>SS (g.getD z.toNat cM) (f.getD z.toNat dJ) x w')<|qe) fun _ w44 s45=>aD<|aC<|pR [Bo (wD (g.getD z.toNat cM) (f.getD z.toNat dJ) x),I 0] rfl s45 ⟨rfl,rfl,trivial⟩<|?_
  have hR:eW l g f x z=(wD (g.getD z.toNat cM) (f.getD z.toNat dJ) x,0):=iP h18 (iN h32 (iF h39 rfl))
  exact gX s45 (congrArg (fun r=>Bo r.1) hR.symm) (congrArg (fun r=>I r.2) hR.symm)
 refine wp_skip<|aD<|wp_seq<|zs s17 [1,2,4,8,12,24] [(24,Bo ((kY l g f) != 0))] qe fun _ w47 s48=>jQ s48.f rfl (fun _=>?_) (fun hX=>absurd hX h18)
 refine zs s48 [10,11] [(10,Bo false),(11,I (kY l g f))] qe fun _ w51 s52=>aC<|aN (pR [Bo false,I (kY l g f)] rfl s52 ⟨rfl,rfl,trivial⟩ ?_)
 have hR:eW l g f x z=(false,kY l g f):=iM h18 rfl
 exact gX s52 (congrArg (fun r=>Bo r.1) hR.symm) (congrArg (fun r=>I r.2) hR.symm)
theorem acV (l:aE) (gA:Option Addr) (g:List dP) (gC:Nat) (fA:Option Addr) (f:List bK) (fC:Nat) (wA:Option Addr) (ws:List bX) (wC:Nat) (w:World) (hL:LeagueAt w l) (hg:Row w gA 9 cA g) (hf:Row w fA 3 bB f) (hw:Row w wA 7 bE ws):Calls Tryz.prog 28 #[.agg (aB l).toArray,.slice gA g.length gC,.slice fA f.length fC,.slice wA ws.length wC] w (eB (Bo (VX l g f ws)) w):=by
 refine dX [.agg (aB l).toArray,.slice gA g.length gC,.slice fA f.length fC,.slice wA ws.length wC] Tryz.func28 rfl rfl rfl rfl fun _ s0=>?_
 have smx1:=hL.sm
 have sm10:=hg.small
 have sm11:=hf.small
 have sm12:=hw.small
 refine wp_seq<|aA<|lb s0 0 _ rfl rfl rfl rfl fun B1 a2 w3 s4=>zl s4 [1,2,3,4] [(1,.slice gA g.length gC),(2,.slice fA f.length fC),(3,.slice wA ws.length wC),(4,Pt B1 0)] 1 1 qe fun _ w6 s7=>aR rfl<|aD<|zs s7 [8] [(8,Bo ((KK l g f)&&(decide ((ws.length:Int)≤80))))] (qo (s7.m.lda 34 0 0 cS rfl rfl rfl)<|qo (yc w6 aeK fun w' hb=>acU l gA g gC fA f fC w' ((hL.up s7.m).grow hb) ((hg.up s7.m).grow hb) ((hf.up s7.m).grow hb))<|qo (ln w6 3 wA ws.length wC pZ)<|qe) fun _ w9 s10=>aC<|pR [Bo ((KK l g f)&&(decide ((ws.length:Int)≤80)))] rfl s10 ⟨rfl,trivial⟩<|?_
 exact aW s10 rfl
end Go.Proofs.YtfffbdmdllgalaaGreatDoor
namespace Go.Fz
open Go Go.RowKit
def aZ:List PanicEntry:=[{ v:=.iface 169 (.agg #[]),recovered:=false }]
def SV (x:nZ):Bool:=if (x.a.n != x.b.n)=true then if aG x.minutes 1 1440=true then true else false else false
def DS (x:iL):Bool:=if aG x.sets 0 1000=true then true else false
def yC (x:bZ):Bool:=if [x.bear,x.wear,x.grow].all (fun n=>if aG n 0 1000=true then true else false)=true then if aG x.uses 1 4=true then true else false else false
def KN (x:cX):Bool:=if aG x.rank 1 1000=true then true else false
def u3 (l:aE):Bool :=
  if l.ways.all SV=true then if l.depots.all DS=true then if l.grounds.all yC=true then if l.teams.all KN=true then true else false else false else false else false
theorem DT {α:Type} {p q:α→Bool} (h:∀ x,p x=q x) (l:List α):l.all p=l.all q:=by
  have:p=q:=funext h
  rw [this]
theorem IG (l:aE):u3 l=rY l:=by
  unfold u3 rY
  rw [DT (q:=wayB),DT (q:=zB),DT (q:=uP),DT (q:=F3)]
  · intro x; unfold KN F3; cases aG x.rank 1 1000 <;> rfl
  · intro x
    unfold yC uP
    simp only [List.all_cons,List.all_nil]
    rcases Bool.eq_false_or_eq_true (aG x.bear 0 1000) with h1 | h1 <;> rcases Bool.eq_false_or_eq_true (aG x.wear 0 1000) with h2 | h2 <;> rcases Bool.eq_false_or_eq_true (aG x.grow 0 1000) with h3 | h3 <;> rcases Bool.eq_false_or_eq_true (aG x.uses 1 4) with h4 | h4 <;> simp [h1,h2,h3,h4]
  · intro x; unfold DS zB; cases aG x.sets 0 1000 <;> rfl
  · intro x
    unfold SV wayB
    cases h:x.a.n==x.b.n <;> cases h2:aG x.minutes 1 1440 <;> simp [bne,h,h2]
end Go.Fz
namespace Go.Fz
open Go Go.RowKit
theorem SW {m:Int} (h:1≤m∧m≤12):fK[(m-1).toNat]?=some (fK.getD (m-1).toNat 0):=by
  have:(m-1).toNat<fK.length:=by have:fK.length=12:=rfl; omega
  exact bC this
theorem acW {a:Int} (h:0≤a∧a≤1000):a.tdiv 4=a / 4 ∧ -9223372036854775808≤a / 4∧a / 4≤9223372036854775807:=by
  refine ⟨Int.tdiv_eq_ediv_of_nonneg h.1,?_⟩
  omega
theorem qE {m:Nat} (h:m≤12):0≤l7 m∧l7 m≤366:=by
  have:m=0∨m=1∨m=2∨m=3∨m=4∨m=5∨m=6∨m=7∨m=8∨m=9∨m=10∨m=11∨m=12:=by omega
  rcases this with h | h | h | h | h | h | h | h | h | h | h | h | h <;> subst h <;> decide
theorem PB {d:eS}:(((((((decide (d.year<2000))||(decide (d.year>2199)))||(decide (d.month<1)))||(decide (d.month>12)))||(decide (d.day<1)))||(decide (d.day>fK.getD (d.month-1).toNat 0)))||(((d.month==2)&&(d.day==29))&&(!g5 d.year))) = !kW d:=by
  rw [Bool.eq_iff_iff]
  simp only [Bool.or_eq_true,decide_eq_true_eq,Bool.and_eq_true,beq_iff_eq,Bool.not_eq_true',← Bool.not_eq_true,jO]
  by_cases hm:1≤d.month∧d.month≤12
  · have e:=wZ (y:=d.year) (m:=(d.month-1).toNat) (by omega)
    have e2:(((d.month-1).toNat:Nat):Int)+1=d.month:=by omega
    rw [e2] at e
    by_cases h2:d.month=2
    · have e3:(d.month-1).toNat=1:=by omega
      rw [e3] at e ⊢
      have e4:fK.getD 1 0=29:=rfl
      rw [e4] at e ⊢
      cases hl:g5 d.year
      · simp only [hl,and_self,if_true,Bool.false_eq_true,not_false_eq_true,and_true] at e ⊢
        omega
      · simp only [hl,Bool.true_eq_false,and_false,if_false,not_true_eq_false,or_false] at e ⊢
        omega
    · rw [if_neg (by omega)] at e
      simp only [h2,false_and,or_false]
      omega
  · constructor
    · intro _ h; omega
    · intro _
      have:d.month<1∨d.month>12:=by omega
      rcases this with h | h
      · exact .inl (.inl (.inl (.inl (.inr h))))
      · exact .inl (.inl (.inl (.inr h)))
theorem acX {d:eS} (hd:1≤d.month) (h:((decide (d.month>2))&&(!g5 d.year))=true):2≤(d.month-1).toNat∧g5 d.year=false:=by
  simp only [Bool.and_eq_true,decide_eq_true_eq,Bool.not_eq_true'] at h
  exact ⟨by omega,h.2⟩
theorem VY {d:eS} (hd:1≤d.month) (h:((decide (d.month>2))&&(!g5 d.year))=false):¬ (2≤(d.month-1).toNat∧g5 d.year=false):=by
  intro ⟨h1,h2⟩
  simp only [Bool.and_eq_false_iff,decide_eq_false_iff_not,Bool.not_eq_false'] at h
  rcases h with h | h
  · omega
  · rw [h2] at h; cases h
end Go.Fz
namespace Go.Proofs.YtfffbdmdllgalaaGreatDoor
open Go Go.RowKit Go.Fz
set_option maxRecDepth 10000
theorem jR (b:Bool) (w:World):Calls Tryz.prog 121 #[Bo b] w (oY (b) aZ w):=by
 refine dX [Bo b] Tryz.func121 rfl rfl rfl rfl fun _ s0=>zs s0 [3] [(3,Bo (!b))] qe fun _ w2 s3=>bR s3.f rfl (fun h4=>?_) (fun h4=>?_)
 ·refine aA<|fJ s3 [5] [501] [] 0 2 (qo (jL (P:=Tryz.prog) w2 169 [] (.agg #[]) (fun _=>by kernel_rfl))<|qo (mki (P:=Tryz.prog) w2 (.agg #[]) Tryz.underlying169 (fun _ h=>by cases h))<|qe) fun _ w6 s7=>X7 s7 2 (v:=.iface 169 (.agg #[])) rfl rfl ⟨_,_,rfl⟩<|pP s7<|?_
  exact bF s7 h4
 refine wp_skip<|pE [] rfl s3 trivial<|?_
 exact dA s3 h4
theorem d8 (n:Int) (lo:Int) (hi:Int) (w:World):Calls Tryz.prog 153 #[I n,I lo,I hi] w (oY (aG n lo hi) aZ w):=by
 refine dX [I n,I lo,I hi] Tryz.func153 rfl rfl rfl rfl fun _ s0=>aA<|zl s0 [13] [(13,Bo ((decide (n≥lo))&&(decide (n≤hi))))] 0 8 qe fun _ w2 s3=>cU s3 8 (b:=(decide (n≥lo))&&(decide (n≤hi))) (ch:=aZ) rfl rfl rfl lT rfl (jR ((decide (n≥lo))&&(decide (n≤hi))) _) (fun h4 w8 s9=>?_) (fun h4 a5 w6 s7=>?_)
 ·refine pP s9<|?_
  exact bF s9 h4
 refine aR rfl<|pE [] rfl s7 trivial<|?_
 exact dA s7 h4
theorem yD (p:aX) (w:World) (hz:Row w p.sizesA 1 iO p.sizes):Calls Tryz.prog 155 #[.agg (aK p).toArray] w (eB (I (fF p)) w):=by
 refine dX [.agg (aK p).toArray] Tryz.func155 rfl rfl rfl rfl fun _ s0=>?_
 have sm0:=hz.small
 refine wp_seq<|aA<|lb s0 0 _ rfl rfl rfl rfl fun B1 a2 w3 s4=>zl s4 [1] [(1,Pt B1 0)] 1 1 qe fun _ w6 s7=>aR rfl<|aD<|wp_seq<|d5 s7 [1,7] [701] [] (qo (fa w6 B1 0 dM)<|qo (s7.m.ld 3 0 1 bM rfl rfl)<|qe) fun _ w9 s10=>wp_block<|zs s10 [1,7,8] [(8,Bo (p.kind==6))] qe fun _ w12 s13=>bA s13.f rfl (fun h14=>?_) (fun h14=>?_)
 ·refine zs s13 [2] [(2,I 2)] qe fun _ w16 s17=>aC<|bP (aN (pR [I 2] rfl s17 ⟨rfl,trivial⟩ ?_))
  exact aW s17 (congrArg I (if_pos h14).symm)
 refine zs s13 [1,10] [(10,Bo (p.kind==4))] qe fun _ w19 s20=>bA s20.f rfl (fun h21=>?_) (fun h21=>?_)
 ·refine zs s20 [1,3] [(3,I 0)] qe fun _ w23 s24=>wp_seq<|d5 s24 [3,13,14,15] [1301,1402] [(15,I 0)] (qo (fa w23 B1 0 gH)<|qo (s24.m.ld 30 0 7 jB rfl rfl)<|qo (ln w23 3 p.sizesA p.sizes.length p.sizesC eX)<|qe) fun _ w26 s27=>wp_block<|aO (α:=Nat) (fun k aI wI=>(k≤p.sizes.length)∧(Sta 27 [] w [⟨3,[],I (l8 (p.sizes.take k))⟩,⟨13,[],.slice p.sizesA p.sizes.length p.sizesC⟩,⟨14,[],I (p.sizes.length:Int)⟩,⟨15,[],I (k:Int)⟩] [cI B1 157 (aK p)] aI wI)) (fun k=>p.sizes.length-k) 0 ⟨Nat.zero_le _,s27.kp⟩<|?_
  rintro k a30 w29 ⟨k_le,s28⟩
  refine zs s28 [3,13,14,15,16] [(16,Bo (decide ((k:Int)<(p.sizes.length:Int))))] qe fun _ w32 s33=>wp_seq<|aQ s33.f rfl (fun h34=>?_) (fun h34=>?_)
  ·have k_lt:k<p.sizes.length:=by omega
   obtain ⟨x,hx35⟩:=cD (xs:=p.sizes) k_lt
   refine wp_skip<|aD<|wp_seq<|wp_block<|d5 s33 [3,5,13,14,15] [501] [] (qo ((hz.up s33.m).ia p.sizesC k eX hP (by omega))<|qo ((hz.up s33.m).ld 3 k 0 bM hx35 rfl)<|qe) fun _ w37 s38=>dU s38 [3,13,14,15] [300] [] (qo (rfl:Value.int .i64 (IntKind.i64.wrap (l8 (p.sizes.take k)+x))=I (IntKind.i64.wrap (l8 (p.sizes.take k)+x)))<|qe) fun _ w40 s41=>c9 (aD ?_)
   refine dU s41 [3,13,14,15] [1500] [] (qo (wr ((k:Int)+1) ((k+1:Nat):Int) (by omega))<|qe) fun _ w43 s44=>aD<|?_
   exact ⟨(k+1),⟨by omega,(s44.keep (E':=[⟨3,[],I (IntKind.i64.wrap (l8 (p.sizes.take k)+x))⟩,⟨13,[],.slice p.sizesA p.sizes.length p.sizesC⟩,⟨14,[],I (p.sizes.length:Int)⟩,⟨15,[],I ((k+1:Nat):Int)⟩]) [3,13,14,15] (by kernel_rfl)).sp (by rw [v6 hx35] <;> rfl)⟩,by omega⟩
  have k_eq:k=p.sizes.length:=by omega
  refine wp_exit<|aY (aY (cP (aD ?_)))
  refine zs s33 [2] [(2,I (l8 (p.sizes.take k)))] qe fun _ w46 s47=>aC<|bP (aN (pR [I (l8 (p.sizes.take k))] rfl s47 ⟨rfl,trivial⟩ ?_))
  exact aW s47 (congrArg I ((iM h14 (if_neg (fun hX=>hX h21))).trans (zA k_eq).symm).symm)
 refine wp_skip<|c9 (aD ?_)
 refine d5 s20 [2] [202] [] (qo (fa w19 B1 0 dR)<|qo (s20.m.ld 155 0 4 jT rfl rfl)<|qo (ln w19 3 p.teamsA p.teams.length p.teamsC jU)<|qe) fun _ w49 s50=>aC<|pR [I (p.teams.length:Int)] rfl s50 ⟨rfl,trivial⟩<|?_
 exact aW s50 (congrArg I (iM h14 (if_pos h21)).symm)
theorem CB (d:eS) (w:World) (hG:Glb w):Calls Tryz.prog 195 #[.agg (dL d).toArray] w (eB (.tuple #[I (bO d),I (g6 d)]) w):=by
 refine dX [.agg (dL d).toArray] Tryz.func195 rfl rfl rfl rfl fun _ s0=>?_
 have hml12:fK.length=12:=rfl
 have sm0:=hG.days.small
 refine wp_seq<|aA<|lb s0 0 _ rfl rfl rfl rfl fun B1 a2 w3 s4=>zl s4 [1] [(1,Pt B1 0)] 1 2 qe fun _ w6 s7=>aR rfl<|aD<|wp_seq<|wp_seq<|zr s7 [1,55] [(55,Bo (((((((decide (d.year<2000))||(decide (d.year>2199)))||(decide (d.month<1)))||(decide (d.month>12)))||(decide (d.day<1)))||(decide (d.day>(fK.getD (d.month-1).toNat 0))))||(((d.month==2)&&(d.day==29))&&(!(g5 d.year)))))] MO (qo (fa w6 B1 0 lP)<|qo (s7.m.ld 3 0 0 bM rfl rfl)<|qo (fa w6 B1 0 lP)<|qo (s7.m.ld 3 0 0 bM rfl rfl)<|qo (fa w6 B1 0 kP)<|qo (s7.m.ld 3 0 1 bM rfl rfl)<|qo (fa w6 B1 0 kP)<|qo (s7.m.ld 3 0 1 bM rfl rfl)<|qo (fa w6 B1 0 p8)<|qo (s7.m.ld 3 0 2 bM rfl rfl)<|qo (fa w6 B1 0 p8)<|qo (s7.m.ld 3 0 2 bM rfl rfl)<|qo (fa w6 B1 0 kP)<|qo (s7.m.ld 3 0 1 bM rfl rfl)<|qu (fun (g0:(((((decide (d.year<2000))||(decide (d.year>2199)))||(decide (d.month<1)))||(decide (d.month>12)))||(decide (d.day<1)))=false)=>wr (d.month-1) (d.month-1) (by first | omega | (simp only [xV] at *; omega)))<|qu (fun (g0:(((((decide (d.year<2000))||(decide (d.year>2199)))||(decide (d.month<1)))||(decide (d.month>12)))||(decide (d.day<1)))=false)=>HR w6 0 0 (d.month-1) Tryz.underlying282 hP (by first | omega | (simp only [xV] at *; omega)))<|qu (fun (g0:(((((decide (d.year<2000))||(decide (d.year>2199)))||(decide (d.month<1)))||(decide (d.month>12)))||(decide (d.day<1)))=false)=>(hG.days.up s7.m).ld 3 ((d.month-1).toNat) 0 bM (SW (by first | omega | (simp only [xV] at *; omega))) rfl)<|qo (fa w6 B1 0 kP)<|qo (s7.m.ld 3 0 1 bM rfl rfl)<|qo (fa w6 B1 0 p8)<|qo (s7.m.ld 3 0 2 bM rfl rfl)<|qo (fa w6 B1 0 lP)<|qo (s7.m.ld 3 0 0 bM rfl rfl)<|qo (yc w6 OO fun w' hb=>H9 d.year w')<|qe) fun _ w9 s10=>aD<|cO s10.f rfl (fun h11=>?_) (fun h11=>?_)
 ·refine wp_seq<|?_
  have hbad:kW d=false:=by
   have:=PB.symm.trans h11
   simpa using this
  refine zq s10 [2,3] [(2,I 0),(3,I 120)] qe fun _ w13 s14=>aD<|aC<|aN (pR [I 0,I 120] rfl s14 ⟨rfl,rfl,trivial⟩ ?_)
  exact gX s14 (congrArg I (xX hbad).1.symm) (congrArg I (xX hbad).2.symm)
 refine wp_skip<|aD<|wp_seq<|?_
 have hd:kW d=true:=by
  have:=PB.symm.trans h11
  simpa using this
 have hdd:=jO.1 hd
 have hml:=j0 d.year d.month
 have hm1:1≤d.month:=by omega
 refine dU s10 [1,4] [402] [] (qo (fa w9 B1 0 lP)<|qo (s10.m.ld 3 0 0 bM rfl rfl)<|qo (wr (d.year-2000) (d.year-2000) (by omega))<|qe) fun _ w16 s17=>aD<|d5 s17 [1,2,4] [207] [] (qo (wr (365*(d.year-2000)) (365*(d.year-2000)) (by omega))<|qo (wr (d.year-2000+3) (d.year-2000+3) (by omega))<|qo (adU (P:=Tryz.prog) w16 3 (d.year-2000+3) 4 ((d.year-2000+3) / 4) (by omega) (acW (by omega)))<|qo (wr (365*(d.year-2000)+((d.year-2000+3) / 4)) (365*(d.year-2000)+((d.year-2000+3) / 4)) (by omega))<|qo (fa w16 B1 0 p8)<|qo (s17.m.ld 3 0 2 bM rfl rfl)<|qo (wr (365*(d.year-2000)+((d.year-2000+3) / 4)+d.day) (365*(d.year-2000)+((d.year-2000+3) / 4)+d.day) (by omega))<|qo (wr (365*(d.year-2000)+((d.year-2000+3) / 4)+d.day-1) (365*(d.year-2000)+((d.year-2000+3) / 4)+d.day-1) (by omega))<|qe) fun _ w19 s20=>wp_seq<|zs s20 [1,2,70] [(70,Bo (decide (d.year-2000>100)))] qe fun _ w22 s23=>aQ s23.f rfl (fun h24=>?_) (fun h24=>?_)
 ·refine dU s23 [1,2] [200] [] (qo (wr (365*(d.year-2000)+((d.year-2000+3) / 4)+d.day-1-1) (365*(d.year-2000)+((d.year-2000+3) / 4)+d.day-1-1) (by omega))<|qe) fun _ w26 s27=>aD<|wp_seq<|d5 s27 [1,2,76,77,78] [7603,7704] [(78,I 0)] (qo (fa w26 B1 0 kP)<|qo (s27.m.ld 3 0 1 bM rfl rfl)<|qo (wr (d.month-1) (d.month-1) (by omega))<|qo (asl w26 0 (d.month-1) Tryz.underlying282 hP (by omega))<|qo (ln w26 3 (some ⟨0,0,none⟩) ((d.month-1).toNat) 12 eX)<|qe) fun _ w29 s30=>wp_block<|aO (α:=Nat) (fun k aI wI=>(k≤(d.month-1).toNat)∧(Sta 98 [] w [⟨1,[],Pt B1 0⟩,⟨2,[],I ((365*(d.year-2000)+((d.year-2000+3) / 4)+d.day-1-1)+l7 k)⟩,⟨76,[],.slice (some ⟨0,0,none⟩) ((d.month-1).toNat) 12⟩,⟨77,[],I ((d.month-1).toNat:Int)⟩,⟨78,[],I (k:Int)⟩] [cI B1 162 (dL d)] aI wI)) (fun k=>(d.month-1).toNat-k) 0 ⟨Nat.zero_le _,(s30.keep (E':=[⟨1,[],Pt B1 0⟩,⟨2,[],I (365*(d.year-2000)+((d.year-2000+3) / 4)+d.day-1-1)⟩,⟨76,[],.slice (some ⟨0,0,none⟩) ((d.month-1).toNat) 12⟩,⟨77,[],I ((d.month-1).toNat:Int)⟩,⟨78,[],I 0⟩]) [1,2,76,77,78] (by kernel_rfl)).sp (by rw [show l7 0=0 from rfl,Int.add_zero] <;> rfl)⟩<|?_
  rintro k a33 w32 ⟨k_le,s31⟩
  refine zs s31 [1,2,76,77,78,79] [(79,Bo (decide ((k:Int)<((d.month-1).toNat:Int))))] qe fun _ w35 s36=>wp_seq<|aQ s36.f rfl (fun h37=>?_) (fun h37=>?_)
  ·have k_lt:k<(d.month-1).toNat:=by omega
   have hxk:fK[k]?=some (fK.getD k 0):=bC (by omega)
   have hst:=vZ (m:=k) (by omega)
   have hsr:=qE (m:=k+1) (by omega)
   refine wp_skip<|aD<|wp_seq<|wp_block<|d5 s36 [1,2,6,76,77,78] [601] [] (qo (ia w35 (some ⟨0,0,none⟩) ((d.month-1).toNat) 12 k eX hP (by omega) ((hG.days.up s36.m).at' (k:=k) (by first | omega | (simp only [bV]; omega))))<|qo ((hG.days.up s36.m).ld 3 k 0 bM hxk rfl)<|qe) fun _ w39 s40=>dU s40 [1,2,76,77,78] [200] [] (qo (wr ((365*(d.year-2000)+((d.year-2000+3) / 4)+d.day-1-1)+l7 k+(fK.getD k 0)) ((365*(d.year-2000)+((d.year-2000+3) / 4)+d.day-1-1)+l7 (k+1)) (by omega))<|qe) fun _ w42 s43=>c9 (aD ?_)
   refine dU s43 [1,2,76,77,78] [7800] [] (qo (wr ((k:Int)+1) ((k+1:Nat):Int) (by omega))<|qe) fun _ w45 s46=>aD<|?_
   exact ⟨(k+1),⟨by omega,s46.kp⟩,by omega⟩
  have k_eq:k=(d.month-1).toNat:=by omega
  refine wp_exit<|aY (aY (cP (aD ?_)))
  refine wp_seq<|wp_seq<|?_
  have hsr:=qE (m:=k) (by omega)
  refine zq s36 [2,94] [(94,Bo ((decide (d.month>2))&&(!(g5 d.year))))] (qo (fa w35 B1 0 kP)<|qo (s36.m.ld 3 0 1 bM rfl rfl)<|qo (fa w35 B1 0 lP)<|qo (s36.m.ld 3 0 0 bM rfl rfl)<|qo (yc w35 OO fun w' hb=>H9 d.year w')<|qe) fun _ w48 s49=>aD<|cO s49.f rfl (fun h50=>?_) (fun h50=>?_)
  ·refine dU s49 [2] [200] [] (qo (wr ((365*(d.year-2000)+((d.year-2000+3) / 4)+d.day-1-1)+l7 k-1) ((365*(d.year-2000)+((d.year-2000+3) / 4)+d.day-1-1)+l7 k-1) (by omega))<|qe) fun _ w52 s53=>aD<|zs s53 [2,3] [(3,I 0)] qe fun _ w55 s56=>aC<|pR [I ((365*(d.year-2000)+((d.year-2000+3) / 4)+d.day-1-1)+l7 k-1),I 0] rfl s56 ⟨rfl,rfl,trivial⟩<|?_
   have hn:(365*(d.year-2000)+((d.year-2000+3) / 4)+d.day-1-1)+l7 k-1=bO d:=by
    rw [(kL hd).1,k_eq]
    unfold mV vY mO
    rw [if_pos h24,if_pos (acX hm1 h50)]
    omega
   exact gX s56 (congrArg I hn) (congrArg I (kL hd).2.symm)
  refine wp_skip<|aD<|zs s49 [2,3] [(3,I 0)] qe fun _ w58 s59=>aC<|pR [I ((365*(d.year-2000)+((d.year-2000+3) / 4)+d.day-1-1)+l7 k),I 0] rfl s59 ⟨rfl,rfl,trivial⟩<|?_
  have hn:(365*(d.year-2000)+((d.year-2000+3) / 4)+d.day-1-1)+l7 k=bO d:=by
   rw [(kL hd).1,k_eq]
   unfold mV vY mO
   rw [if_pos h24,if_neg (VY hm1 h50)]
   omega
  exact gX s59 (congrArg I hn) (congrArg I (kL hd).2.symm)
 refine wp_skip<|aD<|wp_seq<|d5 s23 [1,2,76,77,78] [7603,7704] [(78,I 0)] (qo (fa w22 B1 0 kP)<|qo (s23.m.ld 3 0 1 bM rfl rfl)<|qo (wr (d.month-1) (d.month-1) (by omega))<|qo (asl w22 0 (d.month-1) Tryz.underlying282 hP (by omega))<|qo (ln w22 3 (some ⟨0,0,none⟩) ((d.month-1).toNat) 12 eX)<|qe) fun _ w61 s62=>wp_block<|aO (α:=Nat) (fun k aI wI=>(k≤(d.month-1).toNat)∧(Sta 98 [] w [⟨1,[],Pt B1 0⟩,⟨2,[],I ((365*(d.year-2000)+((d.year-2000+3) / 4)+d.day-1)+l7 k)⟩,⟨76,[],.slice (some ⟨0,0,none⟩) ((d.month-1).toNat) 12⟩,⟨77,[],I ((d.month-1).toNat:Int)⟩,⟨78,[],I (k:Int)⟩] [cI B1 162 (dL d)] aI wI)) (fun k=>(d.month-1).toNat-k) 0 ⟨Nat.zero_le _,(s62.keep (E':=[⟨1,[],Pt B1 0⟩,⟨2,[],I (365*(d.year-2000)+((d.year-2000+3) / 4)+d.day-1)⟩,⟨76,[],.slice (some ⟨0,0,none⟩) ((d.month-1).toNat) 12⟩,⟨77,[],I ((d.month-1).toNat:Int)⟩,⟨78,[],I 0⟩]) [1,2,76,77,78] (by kernel_rfl)).sp (by rw [show l7 0=0 from rfl,Int.add_zero] <;> rfl)⟩<|?_
 rintro k a65 w64 ⟨k_le,s63⟩
 refine zs s63 [1,2,76,77,78,79] [(79,Bo (decide ((k:Int)<((d.month-1).toNat:Int))))] qe fun _ w67 s68=>wp_seq<|aQ s68.f rfl (fun h69=>?_) (fun h69=>?_)
 ·have k_lt:k<(d.month-1).toNat:=by omega
  have hxk:fK[k]?=some (fK.getD k 0):=bC (by omega)
  have hst:=vZ (m:=k) (by omega)
  have hsr:=qE (m:=k+1) (by omega)
  refine wp_skip<|aD<|wp_seq<|wp_block<|d5 s68 [1,2,6,76,77,78] [601] [] (qo (ia w67 (some ⟨0,0,none⟩) ((d.month-1).toNat) 12 k eX hP (by omega) ((hG.days.up s68.m).at' (k:=k) (by first | omega | (simp only [bV]; omega))))<|qo ((hG.days.up s68.m).ld 3 k 0 bM hxk rfl)<|qe) fun _ w71 s72=>dU s72 [1,2,76,77,78] [200] [] (qo (wr ((365*(d.year-2000)+((d.year-2000+3) / 4)+d.day-1)+l7 k+(fK.getD k 0)) ((365*(d.year-2000)+((d.year-2000+3) / 4)+d.day-1)+l7 (k+1)) (by omega))<|qe) fun _ w74 s75=>c9 (aD ?_)
  refine dU s75 [1,2,76,77,78] [7800] [] (qo (wr ((k:Int)+1) ((k+1:Nat):Int) (by omega))<|qe) fun _ w77 s78=>aD<|?_
  exact ⟨(k+1),⟨by omega,s78.kp⟩,by omega⟩
 have k_eq:k=(d.month-1).toNat:=by omega
 refine wp_exit<|aY (aY (cP (aD ?_)))
 refine wp_seq<|wp_seq<|?_
 have hsr:=qE (m:=k) (by omega)
 refine zq s68 [2,94] [(94,Bo ((decide (d.month>2))&&(!(g5 d.year))))] (qo (fa w67 B1 0 kP)<|qo (s68.m.ld 3 0 1 bM rfl rfl)<|qo (fa w67 B1 0 lP)<|qo (s68.m.ld 3 0 0 bM rfl rfl)<|qo (yc w67 OO fun w' hb=>H9 d.year w')<|qe) fun _ w80 s81=>aD<|cO s81.f rfl (fun h82=>?_) (fun h82=>?_)
 ·refine dU s81 [2] [200] [] (qo (wr ((365*(d.year-2000)+((d.year-2000+3) / 4)+d.day-1)+l7 k-1) ((365*(d.year-2000)+((d.year-2000+3) / 4)+d.day-1)+l7 k-1) (by omega))<|qe) fun _ w84 s85=>aD<|zs s85 [2,3] [(3,I 0)] qe fun _ w87 s88=>aC<|pR [I ((365*(d.year-2000)+((d.year-2000+3) / 4)+d.day-1)+l7 k-1),I 0] rfl s88 ⟨rfl,rfl,trivial⟩<|?_
  have hn:(365*(d.year-2000)+((d.year-2000+3) / 4)+d.day-1)+l7 k-1=bO d:=by
   rw [(kL hd).1,k_eq]
   unfold mV vY mO
   rw [if_neg h24,if_pos (acX hm1 h82)]
   omega
  exact gX s88 (congrArg I hn) (congrArg I (kL hd).2.symm)
 refine wp_skip<|aD<|zs s81 [2,3] [(3,I 0)] qe fun _ w90 s91=>aC<|pR [I ((365*(d.year-2000)+((d.year-2000+3) / 4)+d.day-1)+l7 k),I 0] rfl s91 ⟨rfl,rfl,trivial⟩<|?_
 have hn:(365*(d.year-2000)+((d.year-2000+3) / 4)+d.day-1)+l7 k=bO d:=by
  rw [(kL hd).1,k_eq]
  unfold mV vY mO
  rw [if_neg h24,if_neg (VY hm1 h82)]
  omega
 exact gX s91 (congrArg I hn) (congrArg I (kL hd).2.symm)
theorem LV (X:Nat) (l:aE) (w:World) (hX:Row w (some ⟨X,0,none⟩) 15 aB [l]) (hL:LeagueAt w l):Calls Tryz.prog 119 #[Pt X 0] w (oY (u3 l) aZ w):=by
 refine dX [Pt X 0] Tryz.func119 rfl rfl rfl rfl fun _ s0=>?_
 have smx1:=hL.sm
 refine wp_seq<|d5 s0 [0,16,17,18] [0,1602,1703] [(18,I 0)] (qo (fa w X 0 jD)<|qo (fa w X 0 fS)<|qo ((hX.up s0.m).ld 23 0 2 nS rfl rfl)<|qo (ln w 3 l.waysA l.ways.length l.waysC nU)<|qe) fun _ w2 s3=>wp_block<|aO (α:=Nat) (fun k1 aI wI=>(k1≤l.ways.length)∧(Sta 91 [] w [⟨0,[],Pt X 0⟩,⟨16,[],.slice l.waysA l.ways.length l.waysC⟩,⟨17,[],I (l.ways.length:Int)⟩,⟨18,[],I (k1:Int)⟩] [] aI wI)∧(∀ iI,iI<k1→∀ xI,l.ways[iI]?=some xI→SV xI=true)) (fun k1=>l.ways.length-k1) 0 ⟨Nat.zero_le _,s3.keep [0,16,17,18] (by kernel_rfl),fun i h=>(Nat.not_lt_zero i h).elim⟩<|?_
 rintro k1 a6 w5 ⟨k1_le,s4,inv_k1⟩
 refine zs s4 [0,16,17,18,19] [(19,Bo (decide ((k1:Int)<(l.ways.length:Int))))] qe fun _ w8 s9=>wp_seq<|aQ s9.f rfl (fun h10=>?_) (fun h10=>?_)
 ·have k1_lt:k1<l.ways.length:=by omega
  obtain ⟨x,hx11⟩:=cD (xs:=l.ways) k1_lt
  refine wp_skip<|aD<|wp_seq<|wp_block<|wp_seq<|aA<|zl s9 [0,16,17,18,21] [(21,.agg (cY x).toArray)] 0 2 (qo ((hL.ways.up s9.m).ia l.waysC k1 nU nT (by omega))<|qo ((hL.ways.up s9.m).lda 205 k1 0 N9 hx11 rfl rfl)<|qe) fun _ w13 s14=>la s14 2 _ rfl ZA rfl rfl fun B15 a16 w17 s18=>dD s18 3 0 _ _ rfl rfl rfl rfl nT rfl rfl rfl rfl fun w19 s20=>aR rfl<|aD<|wp_seq<|aA ?_
  refine fJ s20 [0,3,16,17,18,28] [300] [(28,Bo (x.a.n != x.b.n))] 0 7 (qo (fa w19 B15 0 uW)<|qo (fa w19 B15 0 dC)<|qo (s20.m.ld 3 0 1 bM rfl rfl)<|qo (fa w19 B15 0 uX)<|qo (fa w19 B15 2 dC)<|qo (s20.m.ld 3 0 3 bM rfl rfl)<|qe) fun _ w22 s23=>cU s23 7 (b:=x.a.n != x.b.n) (ch:=aZ) rfl rfl rfl lT rfl (jR (x.a.n != x.b.n) _) (fun h24 w28 s29=>?_) (fun h24 a25 w26 s27=>?_)
  ·refine aP (bL (aP (aP (bL (aP (pP s29 ?_))))))
   exact bF s29 (iF (bI hx11 (iF h24 rfl)) rfl)
  refine aR rfl<|aD<|aA<|fJ s27 [0,16,17,18,31] [3101] [] 0 2 (qo (fa w26 B15 0 J5)<|qo (s27.m.ld 3 0 4 bM rfl rfl)<|qe) fun _ w31 s32=>cU s32 2 (b:=aG x.minutes 1 1440) (ch:=aZ) rfl rfl rfl lU rfl (d8 x.minutes 1 1440 _) (fun h33 w37 s38=>?_) (fun h33 a34 w35 s36=>?_)
  ·refine bL (aP (aP (bL (aP (pP s38 ?_)))))
   exact bF s38 (iF (bI hx11 (iP h24 (iF h33 rfl))) rfl)
  refine aR rfl<|c9 (aD ?_)
  refine dU s36 [0,16,17,18] [1800] [] (qo (wr ((k1:Int)+1) ((k1+1:Nat):Int) (by omega))<|qe) fun _ w40 s41=>aD<|?_
  exact ⟨(k1+1),⟨by omega,(s41.keep [0,16,17,18] (by kernel_rfl)).sub (.cons _ (.refl _)),aM inv_k1 (fun y hy=>by rw [hx11] at hy; cases hy; exact (iP h24 (iP h33 rfl)))⟩,by omega⟩
 have k1_eq:k1=l.ways.length:=by omega
 have A42:l.ways.all SV=true:=cR (by rw [k1_eq] at inv_k1; exact inv_k1)
 refine wp_exit<|aY (aY (cP (aD ?_)))
 refine wp_seq<|d5 s9 [0,38,39,40] [3802,3903] [(40,I 0)] (qo (fa w8 X 0 jD)<|qo (fa w8 X 0 iU)<|qo ((hX.up s9.m).ld 24 0 3 qY rfl rfl)<|qo (ln w8 3 l.depotsA l.depots.length l.depotsC qZ)<|qe) fun _ w44 s45=>wp_block<|aO (α:=Nat) (fun k2 aI wI=>(k2≤l.depots.length)∧(Sta 91 [] w [⟨0,[],Pt X 0⟩,⟨38,[],.slice l.depotsA l.depots.length l.depotsC⟩,⟨39,[],I (l.depots.length:Int)⟩,⟨40,[],I (k2:Int)⟩] [] aI wI)∧(∀ iI,iI<k2→∀ xI,l.depots[iI]?=some xI→DS xI=true)) (fun k2=>l.depots.length-k2) 0 ⟨Nat.zero_le _,s45.keep [0,38,39,40] (by kernel_rfl),fun i h=>(Nat.not_lt_zero i h).elim⟩<|?_
 rintro k2 a48 w47 ⟨k2_le,s46,inv_k2⟩
 refine zs s46 [0,38,39,40,41] [(41,Bo (decide ((k2:Int)<(l.depots.length:Int))))] qe fun _ w50 s51=>wp_seq<|aQ s51.f rfl (fun h52=>?_) (fun h52=>?_)
 ·have k2_lt:k2<l.depots.length:=by omega
  obtain ⟨x,hx53⟩:=cD (xs:=l.depots) k2_lt
  refine wp_skip<|aD<|wp_seq<|wp_block<|wp_seq<|aA<|zl s51 [0,38,39,40,43] [(43,.agg (bY x).toArray)] 0 2 (qo ((hL.depots.up s51.m).ia l.depotsC k2 qZ sT (by omega))<|qo ((hL.depots.up s51.m).lda 207 k2 0 OA hx53 rfl rfl)<|qe) fun _ w55 s56=>la s56 2 _ rfl ZB rfl rfl fun B57 a58 w59 s60=>dD s60 3 0 _ _ rfl rfl rfl rfl sT rfl rfl rfl rfl fun w61 s62=>aR rfl<|aD<|aA<|fJ s62 [0,38,39,40,45] [4501] [] 0 2 (qo (fa w61 B57 0 J6)<|qo (s62.m.ld 3 0 2 bM rfl rfl)<|qe) fun _ w64 s65=>?_
  refine cU s65 2 (b:=aG x.sets 0 1000) (ch:=aZ) rfl rfl rfl lU rfl (d8 x.sets 0 1000 _) (fun h66 w70 s71=>?_) (fun h66 a67 w68 s69=>?_)
  ·refine bL (aP (aP (bL (aP (pP s71 ?_)))))
   exact bF s71 (iP A42 (iF (bI hx53 (iF h66 rfl)) rfl))
  refine aR rfl<|c9 (aD ?_)
  refine dU s69 [0,38,39,40] [4000] [] (qo (wr ((k2:Int)+1) ((k2+1:Nat):Int) (by omega))<|qe) fun _ w73 s74=>aD<|?_
  exact ⟨(k2+1),⟨by omega,(s74.keep [0,38,39,40] (by kernel_rfl)).sub (.cons _ (.refl _)),aM inv_k2 (fun y hy=>by rw [hx53] at hy; cases hy; exact (iP h66 rfl))⟩,by omega⟩
 have k2_eq:k2=l.depots.length:=by omega
 have A75:l.depots.all DS=true:=cR (by rw [k2_eq] at inv_k2; exact inv_k2)
 refine wp_exit<|aY (aY (cP (aD ?_)))
 refine wp_seq<|d5 s51 [0,52,53,54] [5202,5303] [(54,I 0)] (qo (fa w50 X 0 jD)<|qo (fa w50 X 0 gG)<|qo ((hX.up s51.m).ld 25 0 4 n3 rfl rfl)<|qo (ln w50 3 l.groundsA l.grounds.length l.groundsC nV)<|qe) fun _ w77 s78=>wp_block<|aO (α:=Nat) (fun k3 aI wI=>(k3≤l.grounds.length)∧(Sta 91 [] w [⟨0,[],Pt X 0⟩,⟨52,[],.slice l.groundsA l.grounds.length l.groundsC⟩,⟨53,[],I (l.grounds.length:Int)⟩,⟨54,[],I (k3:Int)⟩] [] aI wI)∧(∀ iI,iI<k3→∀ xI,l.grounds[iI]?=some xI→yC xI=true)) (fun k3=>l.grounds.length-k3) 0 ⟨Nat.zero_le _,s78.keep [0,52,53,54] (by kernel_rfl),fun i h=>(Nat.not_lt_zero i h).elim⟩<|?_
 rintro k3 a81 w80 ⟨k3_le,s79,inv_k3⟩
 refine zs s79 [0,52,53,54,55] [(55,Bo (decide ((k3:Int)<(l.grounds.length:Int))))] qe fun _ w83 s84=>wp_seq<|aQ s84.f rfl (fun h85=>?_) (fun h85=>?_)
 ·have k3_lt:k3<l.grounds.length:=by omega
  obtain ⟨x,hx86⟩:=cD (xs:=l.grounds) k3_lt
  refine wp_skip<|aD<|wp_seq<|wp_block<|wp_seq<|aA<|zl s84 [0,52,53,54,57] [(57,.agg (bG x).toArray)] 0 2 (qo ((hL.grounds.up s84.m).ia l.groundsC k3 nV oB (by omega))<|qo ((hL.grounds.up s84.m).lda 152 k3 0 BY hx86 rfl rfl)<|qe) fun _ w88 s89=>la s89 2 _ rfl OB rfl rfl fun B90 a91 w92 s93=>dD s93 3 0 _ _ rfl rfl rfl rfl oB rfl rfl rfl rfl fun w94 s95=>aR rfl<|aD<|wp_seq<|wp_seq ?_
  refine aA<|fJ s95 [0,7,52,53,54,59,61,63] [5901,6103,6305] [(7,Pt B90 0)] 0 6 (qo (fa w94 B90 0 JP)<|qo (s95.m.ld 3 0 3 bM rfl rfl)<|qo (fa w94 B90 0 JQ)<|qo (s95.m.ld 3 0 4 bM rfl rfl)<|qo (fa w94 B90 0 JR)<|qo (s95.m.ld 3 0 5 bM rfl rfl)<|qe) fun _ w97 s98=>lR s98 6 (vs:=[I x.bear,I x.wear,I x.grow]) (e:=3) [I x.bear,I x.wear,I x.grow] rfl rfl (fun _=>by kernel_rfl) rfl fun B99 a100 w101 s102=>fJ s102 [0,7,52,53,54,64,65,66] [6500] [(64,.slice (some ⟨B99,0,none⟩) 3 3),(66,I 0)] 7 2 (qo (ln w101 3 (some ⟨B99,0,none⟩) 3 3 eX)<|qe) fun _ w104 s105=>aR rfl<|aD<|wp_block<|aO (α:=Nat) (fun j aI wI=>(j≤3)∧(Sta 91 [] w [⟨0,[],Pt X 0⟩,⟨7,[],Pt B90 0⟩,⟨52,[],.slice l.groundsA l.grounds.length l.groundsC⟩,⟨53,[],I (l.grounds.length:Int)⟩,⟨54,[],I (k3:Int)⟩,⟨64,[],.slice (some ⟨B99,0,none⟩) 3 3⟩,⟨65,[],I 3⟩,⟨66,[],I (j:Int)⟩] [cI B99 3 [I x.bear,I x.wear,I x.grow],cI B90 152 (bG x)] aI wI)∧(∀ iI,iI<j→∀ xI,([x.bear,x.wear,x.grow])[iI]?=some xI→(fun n=>if aG n 0 1000=true then true else false) xI=true)) (fun j=>3-j) 0 ⟨Nat.zero_le _,s105.keep [0,7,52,53,54,64,65,66] (by kernel_rfl),fun i h=>(Nat.not_lt_zero i h).elim⟩<|?_
  rintro j a108 w107 ⟨j_le,s106,inv_j⟩
  refine zs s106 [0,7,52,53,54,64,65,66,67] [(67,Bo (decide ((j:Int)<3)))] qe fun _ w110 s111=>wp_seq<|aQ s111.f rfl (fun h112=>?_) (fun h112=>?_)
  ·have j_lt:j<3:=by omega
   obtain ⟨y,hx113⟩:=cD (xs:=[x.bear,x.wear,x.grow]) j_lt
   refine wp_skip<|aD<|wp_seq<|wp_block<|d5 s111 [0,7,9,52,53,54,64,65,66] [901] [] (qo ((s111.m.rowc (enc:=iO) 0 ([x.bear,x.wear,x.grow]) rfl mF rfl (Nat.le_of_ble_eq_true rfl)).ia 3 j eX hP (by omega))<|qo ((s111.m.rowc (enc:=iO) 0 ([x.bear,x.wear,x.grow]) rfl mF rfl (Nat.le_of_ble_eq_true rfl)).ld 3 j 0 bM hx113 rfl)<|qe) fun _ w115 s116=>aA<|zl s116 [0,7,52,53,54,64,65,66,70] [(70,I y)] 0 1 qe fun _ w118 s119=>cU s119 1 (b:=aG y 0 1000) (ch:=aZ) rfl rfl rfl lU rfl (d8 y 0 1000 _) (fun h120 w124 s125=>?_) (fun h120 a121 w122 s123=>?_)
   ·refine bL (aP (aP (bL (aP (bL (aP (aP (bL (aP (pP s125 ?_))))))))))
    exact bF s125 (iP A42 (iP A75 (iF (bI hx86 (iF (bI hx113 (iF h120 rfl)) rfl)) rfl)))
   refine aR rfl<|c9 (aD ?_)
   refine dU s123 [0,7,52,53,54,64,65,66] [6600] [] (qo (wr ((j:Int)+1) ((j+1:Nat):Int) (by omega))<|qe) fun _ w127 s128=>aD<|?_
   exact ⟨(j+1),⟨by omega,s128.keep [0,7,52,53,54,64,65,66] (by kernel_rfl),aM inv_j (fun y hy=>by rw [hx113] at hy; cases hy; exact (iP h120 rfl))⟩,by omega⟩
  have j_eq:j=3:=by omega
  have A129:([x.bear,x.wear,x.grow]).all (fun n=>if aG n 0 1000=true then true else false)=true:=cR (by rw [j_eq] at inv_j; exact inv_j)
  refine wp_exit<|aY (aY (cP (aD ?_)))
  refine aA<|fJ s111 [0,52,53,54,74] [7401] [] 0 2 (qo (fa w110 B90 0 JS)<|qo (s111.m.ld 3 1 6 bM rfl rfl)<|qe) fun _ w131 s132=>cU s132 2 (b:=aG x.uses 1 4) (ch:=aZ) rfl rfl rfl lU rfl (d8 x.uses 1 4 _) (fun h133 w137 s138=>?_) (fun h133 a134 w135 s136=>?_)
  ·refine bL (aP (aP (bL (aP (pP s138 ?_)))))
   exact bF s138 (iP A42 (iP A75 (iF (bI hx86 (iP A129 (iF h133 rfl))) rfl)))
  refine aR rfl<|c9 (aD ?_)
  refine dU s136 [0,52,53,54] [5400] [] (qo (wr ((k3:Int)+1) ((k3+1:Nat):Int) (by omega))<|qe) fun _ w140 s141=>aD<|?_
  exact ⟨(k3+1),⟨by omega,(s141.keep [0,52,53,54] (by kernel_rfl)).sub (.cons _ (.cons _ (.refl _))),aM inv_k3 (fun y hy=>by rw [hx86] at hy; cases hy; exact (iP A129 (iP h133 rfl)))⟩,by omega⟩
 have k3_eq:k3=l.grounds.length:=by omega
 have A142:l.grounds.all yC=true:=cR (by rw [k3_eq] at inv_k3; exact inv_k3)
 refine wp_exit<|aY (aY (cP (aD ?_)))
 refine d5 s84 [81,82,83] [8102,8203] [(83,I 0)] (qo (fa w83 X 0 jD)<|qo (fa w83 X 0 dS)<|qo ((hX.up s84.m).ld 26 0 5 kS rfl rfl)<|qo (ln w83 3 l.teamsA l.teams.length l.teamsC lL)<|qe) fun _ w144 s145=>wp_block<|aO (α:=Nat) (fun k4 aI wI=>(k4≤l.teams.length)∧(Sta 91 [] w [⟨81,[],.slice l.teamsA l.teams.length l.teamsC⟩,⟨82,[],I (l.teams.length:Int)⟩,⟨83,[],I (k4:Int)⟩] [] aI wI)∧(∀ iI,iI<k4→∀ xI,l.teams[iI]?=some xI→KN xI=true)) (fun k4=>l.teams.length-k4) 0 ⟨Nat.zero_le _,s145.keep [81,82,83] (by kernel_rfl),fun i h=>(Nat.not_lt_zero i h).elim⟩<|?_
 rintro k4 a148 w147 ⟨k4_le,s146,inv_k4⟩
 refine zs s146 [81,82,83,84] [(84,Bo (decide ((k4:Int)<(l.teams.length:Int))))] qe fun _ w150 s151=>wp_seq<|aQ s151.f rfl (fun h152=>?_) (fun h152=>?_)
 ·have k4_lt:k4<l.teams.length:=by omega
  obtain ⟨x,hx153⟩:=cD (xs:=l.teams) k4_lt
  refine wp_skip<|aD<|wp_seq<|wp_block<|wp_seq<|aA<|zl s151 [81,82,83,86] [(86,.agg (bU x).toArray)] 0 2 (qo ((hL.teams.up s151.m).ia l.teamsC k4 lL o9 (by omega))<|qo ((hL.teams.up s151.m).lda 160 k4 0 F7 hx153 rfl rfl)<|qe) fun _ w155 s156=>la s156 2 _ rfl U8 rfl rfl fun B157 a158 w159 s160=>dD s160 3 0 _ _ rfl rfl rfl rfl o9 rfl rfl rfl rfl fun w161 s162=>aR rfl<|aD<|aA<|fJ s162 [81,82,83,88] [8801] [] 0 2 (qo (fa w161 B157 0 JW)<|qo (s162.m.ld 3 0 3 bM rfl rfl)<|qe) fun _ w164 s165=>?_
  refine cU s165 2 (b:=aG x.rank 1 1000) (ch:=aZ) rfl rfl rfl lU rfl (d8 x.rank 1 1000 _) (fun h166 w170 s171=>?_) (fun h166 a167 w168 s169=>?_)
  ·refine bL (aP (aP (bL (pP s171 ?_))))
   exact bF s171 (iP A42 (iP A75 (iP A142 (iF (bI hx153 (iF h166 rfl)) rfl))))
  refine aR rfl<|c9 (aD ?_)
  refine dU s169 [81,82,83] [8300] [] (qo (wr ((k4:Int)+1) ((k4+1:Nat):Int) (by omega))<|qe) fun _ w173 s174=>aD<|?_
  exact ⟨(k4+1),⟨by omega,(s174.keep [81,82,83] (by kernel_rfl)).sub (.cons _ (.refl _)),aM inv_k4 (fun y hy=>by rw [hx153] at hy; cases hy; exact (iP h166 rfl))⟩,by omega⟩
 have k4_eq:k4=l.teams.length:=by omega
 have A175:l.teams.all KN=true:=cR (by rw [k4_eq] at inv_k4; exact inv_k4)
 refine wp_exit<|aY (aY (cP (pE [] rfl s151 trivial ?_)))
 exact dA s151 (iP A42 (iP A75 (iP A142 (iP A175 rfl))))
end Go.Proofs.YtfffbdmdllgalaaGreatDoor
namespace Go.Fz
open Go Go.RowKit
section needsv
variable {P:Program} {Q:Exit→Act→World→Prop} {a:Act} {w w0:World} {n:Nat} {E:List d9} {H:List Item} {ds:List Deferred} {l:List Oper}
def DU (b:Bool) (v:Value) (ch:List PanicEntry) (w:World):Ending→World→Prop:=fun e w'=>(if b=true then e=.returned v else e=.panicked ch)∧Below w.heap.size w w'
theorem IH {b:Bool} {v:Value} {vs:List Value} {ch:List PanicEntry} (s:Sta n ds w0 E H a w) (hv:n0 vs=v) (h:b=true):DU b v ch w0 (.returned (n0 vs)) w:=⟨by rw [if_pos h,hv],s.m.below⟩
theorem II {b:Bool} {v:Value} {ch:List PanicEntry} (s:Sta n ds w0 E H a w) (h:b=false):DU b v ch w0 (.panicked ch) w:=⟨by rw [if_neg (by simp [h])],s.m.below⟩
theorem kT {b:Bool} {v:Value} {ch:List PanicEntry} (s:Sta n ds w0 E H a w) (k:Nat) {dst:Option Nat} {f:Operand} {args:Array Operand} {ats:Array TypeId} {ty g:Nat} {pos:String} {after:Array Edge} {fi ca:Array Value} {vs:List Value}
    (ho:l[k]?=some ⟨dst,.call ⟨.value f,args,ats⟩,ty,pos,after,none⟩) (hf:rd E [] f=some (.func (.func g) fi ca)) (hargs:xQ E [] args.toList=some vs) (hent:Enters P g) (hok:RF n E dst=true)
    (hc:Calls P g (fi.toList++vs++ca.toList).toArray w (DU b v ch w))
    (no:b=false→∀ w',Sta n ds w0 E H a w'→Q (.panic ch) a w')
    (yes:b=true→∀ a' w',Sta n ds w0 (Fz.putd E dst v) H a' w'→WL P l Q (k+1) a' w'):WL P l Q k a w :=
  lc s k ho hf hargs hent hok hc fun e w' ⟨h1,h2⟩=>by
    cases b with
    | true =>
      simp only [if_true] at h1
      subst h1
      exact fun a' h3 h4=>yes rfl a' w' ⟨h4,h3,s.m.grow h2⟩
    | false =>
      simp only [Bool.false_eq_true,if_false] at h1
      subst h1
      exact no rfl w' ⟨s.f,s.d,s.m.grow h2⟩
end needsv
def iV (a b:eS):Bool:=if (((g6 a==0)&&(g6 b==0))&&(decide (bO a≤bO b)))=true then true else false
def VZ:Value:=.agg #[I 0,I 0,I 1,I 400,I 1,I 40,I 1,I 40,I 0,I 0,I 0,I 0,I 0,I 0,I 0,I 64,I 0,I 0,I 0,I 0,I 0,I 1440]
def pH (c:cJ):Bool :=
  if c.kind=4 then (if iV c.frm c.to=true then true else false)
  else if c.kind=5 then (if iV c.frm c.to=true then true else false)
  else if c.kind=8 then (if iV c.frm c.to=true then true else false)
  else if c.kind=9 then (if iV c.frm c.to=true then true else false)
  else if c.kind=10 then (if iV c.frm c.to=true then true else false)
  else (if (gD c.frm xA&&gD c.to xA)=true then true else false)
def xD (c:cJ):Bool :=
  if aG c.n (jH c.kind) (jI c.kind)=true then if aG c.price 0 1048576=true then
    if ((oM c.week BT)==(c.kind != 10))=true then
      if c.kind=6 then (if (c.a.n != c.b.n)=true then pH c else false)
      else if c.kind=8 then (if (c.a.n != c.b.n)=true then pH c else false)
      else if c.kind=9 then (if (c.a.n != c.b.n)=true then pH c else false)
      else pH c
    else false else false else false
end Go.Fz
