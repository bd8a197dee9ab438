/-
Part 4 of a proof: what the texts W13, S14, W14, S15, W15, D3, W16, S16, W17, S17, S18, W18, S19, W19, S20, S21, W20, W21, S22, S23, W22, S24, S25, D4, S26, W23, W24, S27, W25, W26, S28, S29, W27 show, of the model and of the program.
-/
import Derived.Test.YtfffbdmdllgalaaGreatDoorA3
set_option maxHeartbeats 1000000
namespace Go.Proofs.YtfffbdmdllgalaaGreatDoor
open Go Go.RowKit Go.Fz
set_option maxRecDepth 10000
theorem jE (x y:eS) (w:World) (hG:Glb w):Calls Tryz.prog 156 #[.agg (dL x).toArray,.agg (dL y).toArray] w (DU (iV x y) (.tuple #[I (bO x),I (bO y)]) aZ w):=by
 refine dX [.agg (dL x).toArray,.agg (dL y).toArray] Tryz.func156 rfl rfl rfl rfl fun _ s0=>wp_seq<|aA<|lb s0 0 _ rfl rfl rfl rfl fun B1 a2 w3 s4=>lb s4 1 _ rfl rfl rfl rfl fun B5 a6 w7 s8=>zl s8 [2,3] [(2,Pt B1 0),(3,Pt B5 0)] 2 2 qe fun _ w10 s11=>aR rfl<|aD<|zs s11 [3,4,6] [(4,I (bO x)),(6,I (g6 x))] (qo (s11.m.lda 162 1 0 dY rfl rfl rfl)<|qo (yc w10 VH fun w' hb=>CB x w' ((hG.up s11.m).grow hb))<|qe) fun _ w13 s14=>zs s14 [4,5,6,7] [(5,I (bO y)),(7,I (g6 y))] (qo (s14.m.lda 162 0 0 dY rfl rfl rfl)<|qo (yc w13 VH fun w' hb=>CB y w' ((hG.up s14.m).grow hb))<|qe) fun _ w16 s17=>wp_seq<|aA<|zl s17 [4,5,28] [(28,Bo ((((g6 x)==0)&&((g6 y)==0))&&(decide (bO x≤(bO y)))))] 0 11 qe fun _ w19 s20=>?_
 refine cU s20 11 (b:=(((g6 x)==0)&&((g6 y)==0))&&(decide (bO x≤(bO y)))) (ch:=aZ) rfl rfl rfl lT rfl (jR ((((g6 x)==0)&&((g6 y)==0))&&(decide (bO x≤(bO y)))) _) (fun h21 w25 s26=>?_) (fun h21 a22 w23 s24=>?_)
 ·refine aP (pP s26 ?_)
  exact II s26 (iF h21 rfl)
 refine aR rfl<|aD<|zs s24 [4,5] [] qe fun _ w28 s29=>aC<|pR [I (bO x),I (bO y)] rfl s29 ⟨rfl,rfl,trivial⟩<|?_
 exact IH s29 rfl (iP h21 rfl)
theorem KO  (w:World):Calls Tryz.prog 159 #[] w (eB (VZ) w):=by
 refine dX [] Tryz.func159 rfl rfl rfl rfl fun _ s0=>wp_seq<|aA<|la s0 0 _ rfl ZD rfl rfl fun B1 a2 w3 s4=>aR rfl<|aD<|wp_seq<|aA<|zl s4 [0,6] [(0,Pt B1 0),(6,.agg #[I 0,I 0,I 1,I 400,I 1,I 40,I 1,I 40,I 0,I 0,I 0,I 0,I 0,I 0,I 0,I 64,I 0,I 0,I 0,I 0,I 0,I 1440])] 0 6 (qo (jL (P:=Tryz.prog) w3 212 [(0,I 1),(1,I 400)] (.agg #[I 1,I 400]) (fun _=>by kernel_rfl))<|qo (jL (P:=Tryz.prog) w3 212 [(0,I 1),(1,I 40)] (.agg #[I 1,I 40]) (fun _=>by kernel_rfl))<|qo (jL (P:=Tryz.prog) w3 212 [(0,I 1),(1,I 40)] (.agg #[I 1,I 40]) (fun _=>by kernel_rfl))<|qo (jL (P:=Tryz.prog) w3 212 [(0,I 0),(1,I 64)] (.agg #[I 0,I 64]) (fun _=>by kernel_rfl))<|qo (jL (P:=Tryz.prog) w3 212 [(0,I 0),(1,I 1440)] (.agg #[I 0,I 1440]) (fun _=>by kernel_rfl))<|qo (jL (P:=Tryz.prog) w3 213 [(1,.agg #[I 1,I 400]),(2,.agg #[I 1,I 40]),(3,.agg #[I 1,I 40]),(7,.agg #[I 0,I 64]),(10,.agg #[I 0,I 1440])] (.agg #[I 0,I 0,I 1,I 400,I 1,I 40,I 1,I 40,I 0,I 0,I 0,I 0,I 0,I 0,I 0,I 64,I 0,I 0,I 0,I 0,I 0,I 1440]) (fun _=>by kernel_rfl))<|qe) fun _ w6 s7=>dD s7 6 0 _ _ rfl rfl rfl rfl U7 rfl rfl rfl rfl fun w8 s9=>aR rfl<|aD<|aC ?_
 refine pR [.agg #[I 0,I 0,I 1,I 400,I 1,I 40,I 1,I 40,I 0,I 0,I 0,I 0,I 0,I 0,I 0,I 64,I 0,I 0,I 0,I 0,I 0,I 1440]] rfl s9 ⟨⟨_,rfl,bQ (k:=0) s9 Y3 rfl rfl⟩,trivial⟩<|?_
 exact aW s9 rfl
theorem PC (w:World) (k:Int) (h:0≤k∧k≤10):Yv Tryz.prog w (Instr.index 213 VZ (I k)) (.agg #[I (jH k),I (jI k)]):=by
 have:k=0∨k=1∨k=2∨k=3∨k=4∨k=5∨k=6∨k=7∨k=8∨k=9∨k=10:=by omega
 rcases this with h | h | h | h | h | h | h | h | h | h | h <;> subst h <;> exact Yv.intro fun _=>by kernel_rfl
theorem SX (x:cJ) (w:World) (hG:Glb w) (hk:0≤x.kind∧x.kind≤10):Calls Tryz.prog 122 #[.agg (aV x).toArray] w (oY (xD x) aZ w):=by
 refine dX [.agg (aV x).toArray] Tryz.func122 rfl rfl rfl rfl fun _ s0=>wp_seq<|aA<|lb s0 0 _ rfl rfl rfl rfl fun B1 a2 w3 s4=>aR rfl<|aD<|wp_seq<|aL MO 12<|nD s4 [1,3,8,13] [301,806,1311] [(1,Pt B1 0)] 0 [some [1],some [],some [7],some [6,5,4],some [6,5],some [6],some [],some [],some [11,10,9],some [11,10],some [11],some []] (qo (fa w3 B1 0 J2)<|qo (s4.m.ld 3 0 6 bM rfl rfl)<|qo (yc w3 VD fun w' hb=>KO w')<|qo (fa w3 B1 0 iH)<|qo (s4.m.ld 3 0 1 bM rfl rfl)<|qo (PC w3 x.kind hk)<|qo (Yv.intro fun _=>by kernel_rfl:Yv Tryz.prog w3 (Instr.index 212 (.agg #[I (jH x.kind),I (jI x.kind)]) (I 0)) (I (jH x.kind)))<|qo (yc w3 VD fun w' hb=>KO w')<|qo (fa w3 B1 0 iH)<|qo (s4.m.ld 3 0 1 bM rfl rfl)<|qo (PC w3 x.kind hk)<|qo (Yv.intro fun _=>by kernel_rfl:Yv Tryz.prog w3 (Instr.index 212 (.agg #[I (jH x.kind),I (jI x.kind)]) (I 1)) (I (jI x.kind)))<|qe) hq fun _ s7=>df s7 12 rfl rfl rfl rfl (by kernel_rfl) rfl fun w8 s9=>cU s9 0 (b:=aG x.n (jH x.kind) (jI x.kind)) (ch:=aZ) rfl rfl rfl lU rfl (d8 x.n (jH x.kind) (jI x.kind) _) (fun h10 w14 s15=>?_) (fun h10 a11 w12 s13=>?_)
 ·refine aP (aP (pP s15 ?_))
  exact bF s15 (iF h10 rfl)
 refine aR rfl (aD ?_)
 refine dd s13 (by kernel_rfl) fun w16 s17=>aD<|wp_seq<|aA<|fJ s17 [1,16] [1601] [] 0 2 (qo (fa w16 B1 0 J4)<|qo (s17.m.ld 3 0 20 bM rfl rfl)<|qe) fun _ w19 s20=>cU s20 2 (b:=aG x.price 0 1048576) (ch:=aZ) rfl rfl rfl lU rfl (d8 x.price 0 1048576 _) (fun h21 w25 s26=>?_) (fun h21 a22 w23 s24=>?_)
 ·refine aP (pP s26 ?_)
  exact bF s26 (iP h10 (iF h21 rfl))
 refine aR rfl<|aD<|wp_seq<|aL MO 8<|nD s24 [1,25] [2506] [] 0 [some [7,3,1],some [7,3],some [7,3],some [7],some [7,6,5],some [7,6],some [7],some []] (qo (fa w23 B1 0 J3)<|qo (s24.m.lda 163 0 13 N8 rfl rfl rfl)<|qo (jL (P:=Tryz.prog) w23 163 [] (.agg #[Bo false,Bo false,Bo false,Bo false,Bo false,Bo false,Bo false]) (fun _=>by kernel_rfl))<|qo (M8 (P:=Tryz.prog) w23 (.tmp 19) (.tmp 20) (mE x.week) (mE (⟨false,false,false,false,false,false,false⟩:Fz.Week)) (KF 10 (by decide)) (by decide) VW rfl rfl)<|qo (fa w23 B1 0 iH)<|qo (s24.m.ld 3 0 1 bM rfl rfl)<|qo (eqb (P:=Tryz.prog) w23 4 (.tmp 21) (.tmp 24) (oM x.week (⟨false,false,false,false,false,false,false⟩:Fz.Week)) (x.kind != 10) Tryz.underlying4)<|qe) hq fun _ s29=>df s29 8 rfl rfl rfl rfl (by kernel_rfl) rfl fun w30 s31=>cU s31 0 (b:=(oM x.week (⟨false,false,false,false,false,false,false⟩:Fz.Week))==(x.kind != 10)) (ch:=aZ) rfl rfl rfl lT rfl (jR ((oM x.week (⟨false,false,false,false,false,false,false⟩:Fz.Week))==(x.kind != 10)) _) (fun h32 w36 s37=>?_) (fun h32 a33 w34 s35=>?_)
 ·refine aP (aP (pP s37 ?_))
  exact bF s37 (iP h10 (iP h21 (iF h32 rfl)))
 refine aR rfl (aD ?_)
 refine dd s35 (by kernel_rfl) fun w38 s39=>aD<|wp_seq<|d5 s39 [1,28] [2801] [] (qo (fa w38 B1 0 iH)<|qo (s39.m.ld 3 0 1 bM rfl rfl)<|qe) fun _ w41 s42=>wp_block<|wp_seq<|zs s42 [1,28,29] [(29,Bo (x.kind==6))] qe fun _ w44 s45=>bA s45.f rfl (fun h46=>?_) (fun h46=>?_)
 ·refine wp_skip<|aD<|bA s45.f rfl (fun _=>?_) (fun hX=>by first | exact absurd h46 hX | exact absurd hX h46 | (rw [h46] at hX; cases hX))
  refine aA<|zl s45 [1,39] [(39,Bo (x.a.n != x.b.n))] 0 7 (qo (fa w44 B1 0 dN)<|qo (fa w44 B1 2 dC)<|qo (s45.m.ld 3 0 3 bM rfl rfl)<|qo (fa w44 B1 0 dW)<|qo (fa w44 B1 4 dC)<|qo (s45.m.ld 3 0 5 bM rfl rfl)<|qe) fun _ w49 s50=>cU s50 7 (b:=x.a.n != x.b.n) (ch:=aZ) rfl rfl rfl lT rfl (jR (x.a.n != x.b.n) _) (fun h51 w55 s56=>?_) (fun h51 a52 w53 s54=>?_)
  ·refine bL (aP (pP s56 ?_))
   exact bF s56 (iP h10 (iP h21 (iP h32 (iP h46 (iF h51 rfl)))))
  refine aR rfl<|c9 (aD ?_)
  refine d5 s54 [1,42] [4201] [] (qo (fa w53 B1 0 iH)<|qo (s54.m.ld 3 0 1 bM rfl rfl)<|qe) fun _ w58 s59=>wp_block<|wp_seq<|zs s59 [1,42,54] [(54,Bo (x.kind==4))] qe fun _ w61 s62=>bA s62.f rfl (fun h63=>?_) (fun h63=>?_)
  ·refine wp_skip<|aD<|bA s62.f rfl (fun _=>?_) (fun hX=>by first | exact absurd h63 hX | exact absurd hX h63 | (rw [h63] at hX; cases hX))
   refine aA<|zl s62 [61,63] [(61,.agg #[I x.frm.year,I x.frm.month,I x.frm.day]),(63,.agg #[I x.to.year,I x.to.month,I x.to.day])] 0 4 (qo (fa w61 B1 0 gQ)<|qo (s62.m.lda 162 0 7 dY rfl rfl rfl)<|qo (fa w61 B1 0 gR)<|qo (s62.m.lda 162 0 10 dY rfl rfl rfl)<|qe) fun _ w66 s67=>kT s67 4 (b:=iV x.frm x.to) (v:=.tuple #[I (bO x.frm),I (bO x.to)]) (ch:=aZ) rfl rfl rfl nW rfl (jE x.frm x.to _ (hG.up s67.m)) (fun h68 w72 s73=>?_) (fun h68 a69 w70 s71=>?_)
   ·refine bL (pP s73 ?_)
    exact bF s73 (iP h10 (iP h21 (iP h32 (iP h46 (iP h51 (iP h63 (iF h68 rfl)))))))
   refine aR rfl<|c9 (pE [] rfl s71 trivial ?_)
   exact dA s71 (iP h10 (iP h21 (iP h32 (iP h46 (iP h51 (iP h63 (iP h68 rfl)))))))
  refine zs s62 [1,42,54] [(54,Bo (x.kind==5))] qe fun _ w75 s76=>bA s76.f rfl (fun h77=>?_) (fun h77=>?_)
  ·refine wp_skip<|aD<|bA s76.f rfl (fun _=>?_) (fun hX=>by first | exact absurd h77 hX | exact absurd hX h77 | (rw [h77] at hX; cases hX))
   refine aA<|zl s76 [61,63] [(61,.agg #[I x.frm.year,I x.frm.month,I x.frm.day]),(63,.agg #[I x.to.year,I x.to.month,I x.to.day])] 0 4 (qo (fa w75 B1 0 gQ)<|qo (s76.m.lda 162 0 7 dY rfl rfl rfl)<|qo (fa w75 B1 0 gR)<|qo (s76.m.lda 162 0 10 dY rfl rfl rfl)<|qe) fun _ w80 s81=>kT s81 4 (b:=iV x.frm x.to) (v:=.tuple #[I (bO x.frm),I (bO x.to)]) (ch:=aZ) rfl rfl rfl nW rfl (jE x.frm x.to _ (hG.up s81.m)) (fun h82 w86 s87=>?_) (fun h82 a83 w84 s85=>?_)
   ·refine bL (pP s87 ?_)
    exact bF s87 (iP h10 (iP h21 (iP h32 (iP h46 (iP h51 (iM h63 (iP h77 (iF h82 rfl))))))))
   refine aR rfl<|c9 (pE [] rfl s85 trivial ?_)
   exact dA s85 (iP h10 (iP h21 (iP h32 (iP h46 (iP h51 (iM h63 (iP h77 (iP h82 rfl))))))))
  refine zs s76 [1,42,54] [(54,Bo (x.kind==8))] qe fun _ w89 s90=>bA s90.f rfl (fun h91=>?_) (fun h91=>?_)
  ·refine wp_skip<|aD<|bA s90.f rfl (fun _=>?_) (fun hX=>by first | exact absurd h91 hX | exact absurd hX h91 | (rw [h91] at hX; cases hX))
   refine aA<|zl s90 [61,63] [(61,.agg #[I x.frm.year,I x.frm.month,I x.frm.day]),(63,.agg #[I x.to.year,I x.to.month,I x.to.day])] 0 4 (qo (fa w89 B1 0 gQ)<|qo (s90.m.lda 162 0 7 dY rfl rfl rfl)<|qo (fa w89 B1 0 gR)<|qo (s90.m.lda 162 0 10 dY rfl rfl rfl)<|qe) fun _ w94 s95=>kT s95 4 (b:=iV x.frm x.to) (v:=.tuple #[I (bO x.frm),I (bO x.to)]) (ch:=aZ) rfl rfl rfl nW rfl (jE x.frm x.to _ (hG.up s95.m)) (fun h96 w100 s101=>?_) (fun h96 a97 w98 s99=>?_)
   ·refine bL (pP s101 ?_)
    exact bF s101 (iP h10 (iP h21 (iP h32 (iP h46 (iP h51 (iM h63 (iM h77 (iP h91 (iF h96 rfl)))))))))
   refine aR rfl<|c9 (pE [] rfl s99 trivial ?_)
   exact dA s99 (iP h10 (iP h21 (iP h32 (iP h46 (iP h51 (iM h63 (iM h77 (iP h91 (iP h96 rfl)))))))))
  refine zs s90 [1,42,54] [(54,Bo (x.kind==9))] qe fun _ w103 s104=>bA s104.f rfl (fun h105=>?_) (fun h105=>?_)
  ·refine wp_skip<|aD<|bA s104.f rfl (fun _=>?_) (fun hX=>by first | exact absurd h105 hX | exact absurd hX h105 | (rw [h105] at hX; cases hX))
   refine aA<|zl s104 [61,63] [(61,.agg #[I x.frm.year,I x.frm.month,I x.frm.day]),(63,.agg #[I x.to.year,I x.to.month,I x.to.day])] 0 4 (qo (fa w103 B1 0 gQ)<|qo (s104.m.lda 162 0 7 dY rfl rfl rfl)<|qo (fa w103 B1 0 gR)<|qo (s104.m.lda 162 0 10 dY rfl rfl rfl)<|qe) fun _ w108 s109=>kT s109 4 (b:=iV x.frm x.to) (v:=.tuple #[I (bO x.frm),I (bO x.to)]) (ch:=aZ) rfl rfl rfl nW rfl (jE x.frm x.to _ (hG.up s109.m)) (fun h110 w114 s115=>?_) (fun h110 a111 w112 s113=>?_)
   ·refine bL (pP s115 ?_)
    exact bF s115 (iP h10 (iP h21 (iP h32 (iP h46 (iP h51 (iM h63 (iM h77 (iM h91 (iP h105 (iF h110 rfl))))))))))
   refine aR rfl<|c9 (pE [] rfl s113 trivial ?_)
   exact dA s113 (iP h10 (iP h21 (iP h32 (iP h46 (iP h51 (iM h63 (iM h77 (iM h91 (iP h105 (iP h110 rfl))))))))))
  refine zq s104 [1,54] [(54,Bo (x.kind==10))] qe fun _ w117 s118=>aD<|bA s118.f rfl (fun h119=>?_) (fun h119=>?_)
  ·refine aA<|zl s118 [61,63] [(61,.agg #[I x.frm.year,I x.frm.month,I x.frm.day]),(63,.agg #[I x.to.year,I x.to.month,I x.to.day])] 0 4 (qo (fa w117 B1 0 gQ)<|qo (s118.m.lda 162 0 7 dY rfl rfl rfl)<|qo (fa w117 B1 0 gR)<|qo (s118.m.lda 162 0 10 dY rfl rfl rfl)<|qe) fun _ w121 s122=>kT s122 4 (b:=iV x.frm x.to) (v:=.tuple #[I (bO x.frm),I (bO x.to)]) (ch:=aZ) rfl rfl rfl nW rfl (jE x.frm x.to _ (hG.up s122.m)) (fun h123 w127 s128=>?_) (fun h123 a124 w125 s126=>?_)
   ·refine bL (pP s128 ?_)
    exact bF s128 (iP h10 (iP h21 (iP h32 (iP h46 (iP h51 (iM h63 (iM h77 (iM h91 (iM h105 (iP h119 (iF h123 rfl)))))))))))
   refine aR rfl<|c9 (pE [] rfl s126 trivial ?_)
   exact dA s126 (iP h10 (iP h21 (iP h32 (iP h46 (iP h51 (iM h63 (iM h77 (iM h91 (iM h105 (iP h119 (iP h123 rfl)))))))))))
  refine aA<|zl s118 [52] [(52,Bo ((gD x.frm (⟨0,0,0⟩:Fz.eS))&&(gD x.to (⟨0,0,0⟩:Fz.eS))))] 0 10 (qo (fa w117 B1 0 gQ)<|qo (s118.m.lda 162 0 7 dY rfl rfl rfl)<|qo (jL (P:=Tryz.prog) w117 162 [] (.agg #[I 0,I 0,I 0]) (fun _=>by kernel_rfl))<|qo (M8 (P:=Tryz.prog) w117 (.tmp 44) (.tmp 45) (dL x.frm) (dL (⟨0,0,0⟩:Fz.eS)) (sV 10 (by decide)) (by decide) CA rfl rfl)<|qo (fa w117 B1 0 gR)<|qo (s118.m.lda 162 0 10 dY rfl rfl rfl)<|qo (jL (P:=Tryz.prog) w117 162 [] (.agg #[I 0,I 0,I 0]) (fun _=>by kernel_rfl))<|qo (M8 (P:=Tryz.prog) w117 (.tmp 49) (.tmp 50) (dL x.to) (dL (⟨0,0,0⟩:Fz.eS)) (sV 10 (by decide)) (by decide) CA rfl rfl)<|qe) fun _ w130 s131=>cU s131 10 (b:=(gD x.frm (⟨0,0,0⟩:Fz.eS))&&(gD x.to (⟨0,0,0⟩:Fz.eS))) (ch:=aZ) rfl rfl rfl lT rfl (jR ((gD x.frm (⟨0,0,0⟩:Fz.eS))&&(gD x.to (⟨0,0,0⟩:Fz.eS))) _) (fun h132 w136 s137=>?_) (fun h132 a133 w134 s135=>?_)
  ·refine bL (pP s137 ?_)
   exact bF s137 (iP h10 (iP h21 (iP h32 (iP h46 (iP h51 (iM h63 (iM h77 (iM h91 (iM h105 (iM h119 (iF h132 rfl)))))))))))
  refine aR rfl<|c9 (pE [] rfl s135 trivial ?_)
  exact dA s135 (iP h10 (iP h21 (iP h32 (iP h46 (iP h51 (iM h63 (iM h77 (iM h91 (iM h105 (iM h119 (iP h132 rfl)))))))))))
 refine zs s45 [1,28,29] [(29,Bo (x.kind==8))] qe fun _ w139 s140=>bA s140.f rfl (fun h141=>?_) (fun h141=>?_)
 ·refine wp_skip<|aD<|bA s140.f rfl (fun _=>?_) (fun hX=>by first | exact absurd h141 hX | exact absurd hX h141 | (rw [h141] at hX; cases hX))
  refine aA<|zl s140 [1,39] [(39,Bo (x.a.n != x.b.n))] 0 7 (qo (fa w139 B1 0 dN)<|qo (fa w139 B1 2 dC)<|qo (s140.m.ld 3 0 3 bM rfl rfl)<|qo (fa w139 B1 0 dW)<|qo (fa w139 B1 4 dC)<|qo (s140.m.ld 3 0 5 bM rfl rfl)<|qe) fun _ w144 s145=>cU s145 7 (b:=x.a.n != x.b.n) (ch:=aZ) rfl rfl rfl lT rfl (jR (x.a.n != x.b.n) _) (fun h146 w150 s151=>?_) (fun h146 a147 w148 s149=>?_)
  ·refine bL (aP (pP s151 ?_))
   exact bF s151 (iP h10 (iP h21 (iP h32 (iM h46 (iP h141 (iF h146 rfl))))))
  refine aR rfl<|c9 (aD ?_)
  refine d5 s149 [1,42] [4201] [] (qo (fa w148 B1 0 iH)<|qo (s149.m.ld 3 0 1 bM rfl rfl)<|qe) fun _ w153 s154=>wp_block<|wp_seq<|zs s154 [1,42,54] [(54,Bo (x.kind==4))] qe fun _ w156 s157=>bA s157.f rfl (fun h158=>?_) (fun h158=>?_)
  ·refine wp_skip<|aD<|bA s157.f rfl (fun _=>?_) (fun hX=>by first | exact absurd h158 hX | exact absurd hX h158 | (rw [h158] at hX; cases hX))
   refine aA<|zl s157 [61,63] [(61,.agg #[I x.frm.year,I x.frm.month,I x.frm.day]),(63,.agg #[I x.to.year,I x.to.month,I x.to.day])] 0 4 (qo (fa w156 B1 0 gQ)<|qo (s157.m.lda 162 0 7 dY rfl rfl rfl)<|qo (fa w156 B1 0 gR)<|qo (s157.m.lda 162 0 10 dY rfl rfl rfl)<|qe) fun _ w161 s162=>kT s162 4 (b:=iV x.frm x.to) (v:=.tuple #[I (bO x.frm),I (bO x.to)]) (ch:=aZ) rfl rfl rfl nW rfl (jE x.frm x.to _ (hG.up s162.m)) (fun h163 w167 s168=>?_) (fun h163 a164 w165 s166=>?_)
   ·refine bL (pP s168 ?_)
    exact bF s168 (iP h10 (iP h21 (iP h32 (iM h46 (iP h141 (iP h146 (iP h158 (iF h163 rfl))))))))
   refine aR rfl<|c9 (pE [] rfl s166 trivial ?_)
   exact dA s166 (iP h10 (iP h21 (iP h32 (iM h46 (iP h141 (iP h146 (iP h158 (iP h163 rfl))))))))
  refine zs s157 [1,42,54] [(54,Bo (x.kind==5))] qe fun _ w170 s171=>bA s171.f rfl (fun h172=>?_) (fun h172=>?_)
  ·refine wp_skip<|aD<|bA s171.f rfl (fun _=>?_) (fun hX=>by first | exact absurd h172 hX | exact absurd hX h172 | (rw [h172] at hX; cases hX))
   refine aA<|zl s171 [61,63] [(61,.agg #[I x.frm.year,I x.frm.month,I x.frm.day]),(63,.agg #[I x.to.year,I x.to.month,I x.to.day])] 0 4 (qo (fa w170 B1 0 gQ)<|qo (s171.m.lda 162 0 7 dY rfl rfl rfl)<|qo (fa w170 B1 0 gR)<|qo (s171.m.lda 162 0 10 dY rfl rfl rfl)<|qe) fun _ w175 s176=>kT s176 4 (b:=iV x.frm x.to) (v:=.tuple #[I (bO x.frm),I (bO x.to)]) (ch:=aZ) rfl rfl rfl nW rfl (jE x.frm x.to _ (hG.up s176.m)) (fun h177 w181 s182=>?_) (fun h177 a178 w179 s180=>?_)
   ·refine bL (pP s182 ?_)
    exact bF s182 (iP h10 (iP h21 (iP h32 (iM h46 (iP h141 (iP h146 (iM h158 (iP h172 (iF h177 rfl)))))))))
   refine aR rfl<|c9 (pE [] rfl s180 trivial ?_)
   exact dA s180 (iP h10 (iP h21 (iP h32 (iM h46 (iP h141 (iP h146 (iM h158 (iP h172 (iP h177 rfl)))))))))
  refine zs s171 [1,42,54] [(54,Bo (x.kind==8))] qe fun _ w184 s185=>bA s185.f rfl (fun _=>?_) (fun hX=>by first | exact absurd h141 hX | exact absurd hX h141 | (rw [h141] at hX; cases hX))
  refine wp_skip<|aD<|bA s185.f rfl (fun _=>?_) (fun hX=>by first | exact absurd h141 hX | exact absurd hX h141 | (rw [h141] at hX; cases hX))
  refine aA<|zl s185 [61,63] [(61,.agg #[I x.frm.year,I x.frm.month,I x.frm.day]),(63,.agg #[I x.to.year,I x.to.month,I x.to.day])] 0 4 (qo (fa w184 B1 0 gQ)<|qo (s185.m.lda 162 0 7 dY rfl rfl rfl)<|qo (fa w184 B1 0 gR)<|qo (s185.m.lda 162 0 10 dY rfl rfl rfl)<|qe) fun _ w189 s190=>kT s190 4 (b:=iV x.frm x.to) (v:=.tuple #[I (bO x.frm),I (bO x.to)]) (ch:=aZ) rfl rfl rfl nW rfl (jE x.frm x.to _ (hG.up s190.m)) (fun h191 w195 s196=>?_) (fun h191 a192 w193 s194=>?_)
  ·refine bL (pP s196 ?_)
   exact bF s196 (iP h10 (iP h21 (iP h32 (iM h46 (iP h141 (iP h146 (iM h158 (iM h172 (iP h141 (iF h191 rfl))))))))))
  refine aR rfl<|c9 (pE [] rfl s194 trivial ?_)
  exact dA s194 (iP h10 (iP h21 (iP h32 (iM h46 (iP h141 (iP h146 (iM h158 (iM h172 (iP h141 (iP h191 rfl))))))))))
 refine zq s140 [1,29] [(29,Bo (x.kind==9))] qe fun _ w198 s199=>aD<|bA s199.f rfl (fun h200=>?_) (fun h200=>?_)
 ·refine aA<|zl s199 [1,39] [(39,Bo (x.a.n != x.b.n))] 0 7 (qo (fa w198 B1 0 dN)<|qo (fa w198 B1 2 dC)<|qo (s199.m.ld 3 0 3 bM rfl rfl)<|qo (fa w198 B1 0 dW)<|qo (fa w198 B1 4 dC)<|qo (s199.m.ld 3 0 5 bM rfl rfl)<|qe) fun _ w202 s203=>cU s203 7 (b:=x.a.n != x.b.n) (ch:=aZ) rfl rfl rfl lT rfl (jR (x.a.n != x.b.n) _) (fun h204 w208 s209=>?_) (fun h204 a205 w206 s207=>?_)
  ·refine bL (aP (pP s209 ?_))
   exact bF s209 (iP h10 (iP h21 (iP h32 (iM h46 (iM h141 (iP h200 (iF h204 rfl)))))))
  refine aR rfl<|c9 (aD ?_)
  refine d5 s207 [1,42] [4201] [] (qo (fa w206 B1 0 iH)<|qo (s207.m.ld 3 0 1 bM rfl rfl)<|qe) fun _ w211 s212=>wp_block<|wp_seq<|zs s212 [1,42,54] [(54,Bo (x.kind==4))] qe fun _ w214 s215=>bA s215.f rfl (fun h216=>?_) (fun h216=>?_)
  ·refine wp_skip<|aD<|bA s215.f rfl (fun _=>?_) (fun hX=>by first | exact absurd h216 hX | exact absurd hX h216 | (rw [h216] at hX; cases hX))
   refine aA<|zl s215 [61,63] [(61,.agg #[I x.frm.year,I x.frm.month,I x.frm.day]),(63,.agg #[I x.to.year,I x.to.month,I x.to.day])] 0 4 (qo (fa w214 B1 0 gQ)<|qo (s215.m.lda 162 0 7 dY rfl rfl rfl)<|qo (fa w214 B1 0 gR)<|qo (s215.m.lda 162 0 10 dY rfl rfl rfl)<|qe) fun _ w219 s220=>kT s220 4 (b:=iV x.frm x.to) (v:=.tuple #[I (bO x.frm),I (bO x.to)]) (ch:=aZ) rfl rfl rfl nW rfl (jE x.frm x.to _ (hG.up s220.m)) (fun h221 w225 s226=>?_) (fun h221 a222 w223 s224=>?_)
   ·refine bL (pP s226 ?_)
    exact bF s226 (iP h10 (iP h21 (iP h32 (iM h46 (iM h141 (iP h200 (iP h204 (iP h216 (iF h221 rfl)))))))))
   refine aR rfl<|c9 (pE [] rfl s224 trivial ?_)
   exact dA s224 (iP h10 (iP h21 (iP h32 (iM h46 (iM h141 (iP h200 (iP h204 (iP h216 (iP h221 rfl)))))))))
  refine zs s215 [1,42,54] [(54,Bo (x.kind==5))] qe fun _ w228 s229=>bA s229.f rfl (fun h230=>?_) (fun h230=>?_)
  ·refine wp_skip<|aD<|bA s229.f rfl (fun _=>?_) (fun hX=>by first | exact absurd h230 hX | exact absurd hX h230 | (rw [h230] at hX; cases hX))
   refine aA<|zl s229 [61,63] [(61,.agg #[I x.frm.year,I x.frm.month,I x.frm.day]),(63,.agg #[I x.to.year,I x.to.month,I x.to.day])] 0 4 (qo (fa w228 B1 0 gQ)<|qo (s229.m.lda 162 0 7 dY rfl rfl rfl)<|qo (fa w228 B1 0 gR)<|qo (s229.m.lda 162 0 10 dY rfl rfl rfl)<|qe) fun _ w233 s234=>kT s234 4 (b:=iV x.frm x.to) (v:=.tuple #[I (bO x.frm),I (bO x.to)]) (ch:=aZ) rfl rfl rfl nW rfl (jE x.frm x.to _ (hG.up s234.m)) (fun h235 w239 s240=>?_) (fun h235 a236 w237 s238=>?_)
   ·refine bL (pP s240 ?_)
    exact bF s240 (iP h10 (iP h21 (iP h32 (iM h46 (iM h141 (iP h200 (iP h204 (iM h216 (iP h230 (iF h235 rfl))))))))))
   refine aR rfl<|c9 (pE [] rfl s238 trivial ?_)
   exact dA s238 (iP h10 (iP h21 (iP h32 (iM h46 (iM h141 (iP h200 (iP h204 (iM h216 (iP h230 (iP h235 rfl))))))))))
  refine zs s229 [1,42,54] [(54,Bo (x.kind==8))] qe fun _ w242 s243=>bA s243.f rfl (fun hX=>by first | exact absurd h141 hX | exact absurd hX h141 | (rw [h141] at hX; cases hX)) (fun _=>?_)
  refine zs s243 [1,42,54] [(54,Bo (x.kind==9))] qe fun _ w246 s247=>bA s247.f rfl (fun _=>?_) (fun hX=>by first | exact absurd h200 hX | exact absurd hX h200 | (rw [h200] at hX; cases hX))
  refine wp_skip<|aD<|bA s247.f rfl (fun _=>?_) (fun hX=>by first | exact absurd h200 hX | exact absurd hX h200 | (rw [h200] at hX; cases hX))
  refine aA<|zl s247 [61,63] [(61,.agg #[I x.frm.year,I x.frm.month,I x.frm.day]),(63,.agg #[I x.to.year,I x.to.month,I x.to.day])] 0 4 (qo (fa w246 B1 0 gQ)<|qo (s247.m.lda 162 0 7 dY rfl rfl rfl)<|qo (fa w246 B1 0 gR)<|qo (s247.m.lda 162 0 10 dY rfl rfl rfl)<|qe) fun _ w251 s252=>kT s252 4 (b:=iV x.frm x.to) (v:=.tuple #[I (bO x.frm),I (bO x.to)]) (ch:=aZ) rfl rfl rfl nW rfl (jE x.frm x.to _ (hG.up s252.m)) (fun h253 w257 s258=>?_) (fun h253 a254 w255 s256=>?_)
  ·refine bL (pP s258 ?_)
   exact bF s258 (iP h10 (iP h21 (iP h32 (iM h46 (iM h141 (iP h200 (iP h204 (iM h216 (iM h230 (iM h141 (iP h200 (iF h253 rfl))))))))))))
  refine aR rfl<|c9 (pE [] rfl s256 trivial ?_)
  exact dA s256 (iP h10 (iP h21 (iP h32 (iM h46 (iM h141 (iP h200 (iP h204 (iM h216 (iM h230 (iM h141 (iP h200 (iP h253 rfl))))))))))))
 refine wp_skip<|c9 (aD ?_)
 refine d5 s199 [1,42] [4201] [] (qo (fa w198 B1 0 iH)<|qo (s199.m.ld 3 0 1 bM rfl rfl)<|qe) fun _ w260 s261=>wp_block<|wp_seq<|zs s261 [1,42,54] [(54,Bo (x.kind==4))] qe fun _ w263 s264=>bA s264.f rfl (fun h265=>?_) (fun h265=>?_)
 ·refine wp_skip<|aD<|bA s264.f rfl (fun _=>?_) (fun hX=>by first | exact absurd h265 hX | exact absurd hX h265 | (rw [h265] at hX; cases hX))
  refine aA<|zl s264 [61,63] [(61,.agg #[I x.frm.year,I x.frm.month,I x.frm.day]),(63,.agg #[I x.to.year,I x.to.month,I x.to.day])] 0 4 (qo (fa w263 B1 0 gQ)<|qo (s264.m.lda 162 0 7 dY rfl rfl rfl)<|qo (fa w263 B1 0 gR)<|qo (s264.m.lda 162 0 10 dY rfl rfl rfl)<|qe) fun _ w268 s269=>kT s269 4 (b:=iV x.frm x.to) (v:=.tuple #[I (bO x.frm),I (bO x.to)]) (ch:=aZ) rfl rfl rfl nW rfl (jE x.frm x.to _ (hG.up s269.m)) (fun h270 w274 s275=>?_) (fun h270 a271 w272 s273=>?_)
  ·refine bL (pP s275 ?_)
   exact bF s275 (iP h10 (iP h21 (iP h32 (iM h46 (iM h141 (iM h200 (iP h265 (iF h270 rfl))))))))
  refine aR rfl<|c9 (pE [] rfl s273 trivial ?_)
  exact dA s273 (iP h10 (iP h21 (iP h32 (iM h46 (iM h141 (iM h200 (iP h265 (iP h270 rfl))))))))
 refine zs s264 [1,42,54] [(54,Bo (x.kind==5))] qe fun _ w277 s278=>bA s278.f rfl (fun h279=>?_) (fun h279=>?_)
 ·refine wp_skip<|aD<|bA s278.f rfl (fun _=>?_) (fun hX=>by first | exact absurd h279 hX | exact absurd hX h279 | (rw [h279] at hX; cases hX))
  refine aA<|zl s278 [61,63] [(61,.agg #[I x.frm.year,I x.frm.month,I x.frm.day]),(63,.agg #[I x.to.year,I x.to.month,I x.to.day])] 0 4 (qo (fa w277 B1 0 gQ)<|qo (s278.m.lda 162 0 7 dY rfl rfl rfl)<|qo (fa w277 B1 0 gR)<|qo (s278.m.lda 162 0 10 dY rfl rfl rfl)<|qe) fun _ w282 s283=>kT s283 4 (b:=iV x.frm x.to) (v:=.tuple #[I (bO x.frm),I (bO x.to)]) (ch:=aZ) rfl rfl rfl nW rfl (jE x.frm x.to _ (hG.up s283.m)) (fun h284 w288 s289=>?_) (fun h284 a285 w286 s287=>?_)
  ·refine bL (pP s289 ?_)
   exact bF s289 (iP h10 (iP h21 (iP h32 (iM h46 (iM h141 (iM h200 (iM h265 (iP h279 (iF h284 rfl)))))))))
  refine aR rfl<|c9 (pE [] rfl s287 trivial ?_)
  exact dA s287 (iP h10 (iP h21 (iP h32 (iM h46 (iM h141 (iM h200 (iM h265 (iP h279 (iP h284 rfl)))))))))
 refine zs s278 [1,42,54] [(54,Bo (x.kind==8))] qe fun _ w291 s292=>bA s292.f rfl (fun hX=>by first | exact absurd h141 hX | exact absurd hX h141 | (rw [h141] at hX; cases hX)) (fun _=>?_)
 refine zs s292 [1,42,54] [(54,Bo (x.kind==9))] qe fun _ w295 s296=>bA s296.f rfl (fun hX=>by first | exact absurd h200 hX | exact absurd hX h200 | (rw [h200] at hX; cases hX)) (fun _=>?_)
 refine zq s296 [1,54] [(54,Bo (x.kind==10))] qe fun _ w299 s300=>aD<|bA s300.f rfl (fun h301=>?_) (fun h301=>?_)
 ·refine aA<|zl s300 [61,63] [(61,.agg #[I x.frm.year,I x.frm.month,I x.frm.day]),(63,.agg #[I x.to.year,I x.to.month,I x.to.day])] 0 4 (qo (fa w299 B1 0 gQ)<|qo (s300.m.lda 162 0 7 dY rfl rfl rfl)<|qo (fa w299 B1 0 gR)<|qo (s300.m.lda 162 0 10 dY rfl rfl rfl)<|qe) fun _ w303 s304=>kT s304 4 (b:=iV x.frm x.to) (v:=.tuple #[I (bO x.frm),I (bO x.to)]) (ch:=aZ) rfl rfl rfl nW rfl (jE x.frm x.to _ (hG.up s304.m)) (fun h305 w309 s310=>?_) (fun h305 a306 w307 s308=>?_)
  ·refine bL (pP s310 ?_)
   exact bF s310 (iP h10 (iP h21 (iP h32 (iM h46 (iM h141 (iM h200 (iM h265 (iM h279 (iM h141 (iM h200 (iP h301 (iF h305 rfl))))))))))))
  refine aR rfl<|c9 (pE [] rfl s308 trivial ?_)
  exact dA s308 (iP h10 (iP h21 (iP h32 (iM h46 (iM h141 (iM h200 (iM h265 (iM h279 (iM h141 (iM h200 (iP h301 (iP h305 rfl))))))))))))
 refine aA<|zl s300 [52] [(52,Bo ((gD x.frm (⟨0,0,0⟩:Fz.eS))&&(gD x.to (⟨0,0,0⟩:Fz.eS))))] 0 10 (qo (fa w299 B1 0 gQ)<|qo (s300.m.lda 162 0 7 dY rfl rfl rfl)<|qo (jL (P:=Tryz.prog) w299 162 [] (.agg #[I 0,I 0,I 0]) (fun _=>by kernel_rfl))<|qo (M8 (P:=Tryz.prog) w299 (.tmp 44) (.tmp 45) (dL x.frm) (dL (⟨0,0,0⟩:Fz.eS)) (sV 10 (by decide)) (by decide) CA rfl rfl)<|qo (fa w299 B1 0 gR)<|qo (s300.m.lda 162 0 10 dY rfl rfl rfl)<|qo (jL (P:=Tryz.prog) w299 162 [] (.agg #[I 0,I 0,I 0]) (fun _=>by kernel_rfl))<|qo (M8 (P:=Tryz.prog) w299 (.tmp 49) (.tmp 50) (dL x.to) (dL (⟨0,0,0⟩:Fz.eS)) (sV 10 (by decide)) (by decide) CA rfl rfl)<|qe) fun _ w312 s313=>cU s313 10 (b:=(gD x.frm (⟨0,0,0⟩:Fz.eS))&&(gD x.to (⟨0,0,0⟩:Fz.eS))) (ch:=aZ) rfl rfl rfl lT rfl (jR ((gD x.frm (⟨0,0,0⟩:Fz.eS))&&(gD x.to (⟨0,0,0⟩:Fz.eS))) _) (fun h314 w318 s319=>?_) (fun h314 a315 w316 s317=>?_)
 ·refine bL (pP s319 ?_)
  exact bF s319 (iP h10 (iP h21 (iP h32 (iM h46 (iM h141 (iM h200 (iM h265 (iM h279 (iM h141 (iM h200 (iM h301 (iF h314 rfl))))))))))))
 refine aR rfl<|c9 (pE [] rfl s317 trivial ?_)
 exact dA s317 (iP h10 (iP h21 (iP h32 (iM h46 (iM h141 (iM h200 (iM h265 (iM h279 (iM h141 (iM h200 (iM h301 (iP h314 rfl))))))))))))
end Go.Proofs.YtfffbdmdllgalaaGreatDoor
namespace Go.Fz
open Go Go.RowKit
def PD (l:List Int) (v:Int):Option Nat:=l.findIdx? fun x=>x==v
def tQ (l:List Int) (v:Int):Int:=match PD l v with | some i=>i | none => -1
theorem LW {l:List Int} {v:Int} {k:Nat} (h:l[k]?=some v) (h2:∀ j,j<k→l[j]?≠some v):tQ l v=k:=by
  have:PD l v=some k:=by
    unfold PD
    rw [List.findIdx?_eq_some_iff_getElem]
    obtain ⟨hk,e⟩:=List.getElem?_eq_some_iff.1 h
    refine ⟨hk,by simpa using e,fun j hj=>?_⟩
    have:=h2 j hj
    rw [List.getElem?_eq_getElem (by omega)] at this
    simpa using this
  unfold tQ; rw [this]
theorem CC {l:List Int} {v:Int}:PD l v=none↔v∉l:=by
  unfold PD
  rw [List.findIdx?_eq_none_iff]
  constructor
  · intro h hm; simpa using h v hm
  · intro h x hx; simp; rintro rfl; exact h hx
theorem LX {l:List Int} {v:Int} (h:∀ j,j<l.length→l[j]?≠some v):tQ l v = -1:=by
  unfold tQ
  rw [CC.2 ?_]
  intro hm
  obtain ⟨j,hj,e⟩:=List.getElem_of_mem hm
  exact h j hj (by rw [List.getElem?_eq_getElem hj,e])
theorem PE {l:List Int} {v:Int}:tQ l v<0↔v∉l:=by
  unfold tQ
  rw [← CC]
  split <;> simp_all
def DV (l:aE) (p:aX):Bool :=
  if eY (c7 l p.of.n).kind=true then if aG (p.sizes.length:Int) 1 8=true then
    if p.sizes.all (fun n=>if aG n 2 20=true then true else false)=true then if (fF p==fF (c7 l p.of.n))=true then true else false else false else false else false
def u4 (l:aE) (p:aX):Bool :=
  if (((p.a.n != p.b.n)&&(eY (c7 l p.a.n).kind||((c7 l p.a.n).kind==4)))&&(eY (c7 l p.b.n).kind||((c7 l p.b.n).kind==4)))=true then
    if aG p.placeA 1 (fF (c7 l p.a.n))=true then if aG p.placeB 1 (fF (c7 l p.b.n))=true then true else false else false else false
end Go.Fz
namespace Go.Proofs.YtfffbdmdllgalaaGreatDoor
open Go Go.RowKit Go.Fz
set_option maxRecDepth 10000
theorem PF (oa:Option Addr) (l:List Int) (c:Nat) (v:Int) (w:World) (hl:Row w oa 1 iO l):Calls Tryz.prog 197 #[.slice oa l.length c,I v] w (eB (I (tQ l v)) w):=by
 refine dX [.slice oa l.length c,I v] Tryz.func197 rfl rfl rfl rfl fun _ s0=>?_
 have sm0:=hl.small
 refine zs s0 [0,1] [(0,.slice oa l.length c),(1,I v)] qe fun _ w2 s3=>wp_seq<|d5 s3 [0,1,7,8] [700] [(8,I 0)] (qo (ln w2 3 oa l.length c eX)<|qe) fun _ w5 s6=>wp_block<|aO (α:=Nat) (fun k aI wI=>(k≤l.length)∧(Sta 19 [] w [⟨0,[],.slice oa l.length c⟩,⟨1,[],I v⟩,⟨7,[],I (l.length:Int)⟩,⟨8,[],I (k:Int)⟩] [] aI wI)∧(∀ i,i<k→l[i]?≠some v)) (fun k=>l.length-k) 0 ⟨Nat.zero_le _,s6.keep [0,1,7,8] (by kernel_rfl),fun i h=>(Nat.not_lt_zero i h).elim⟩<|?_
 rintro k a9 w8 ⟨k_le,s7,inv⟩
 refine zs s7 [0,1,7,8,9] [(9,Bo (decide ((k:Int)<(l.length:Int))))] qe fun _ w11 s12=>wp_seq<|aQ s12.f rfl (fun h13=>?_) (fun h13=>?_)
 ·have k_lt:k<l.length:=by omega
  obtain ⟨x,hx14⟩:=cD (xs:=l) k_lt
  refine wp_skip<|aD<|wp_seq<|wp_block<|zs s12 [0,1,5,7,8] [(5,I (k:Int))] qe fun _ w16 s17=>zs s17 [0,1,5,7,8,16] [(16,Bo (v==x))] (qo ((hl.up s17.m).ia c k eX hP (by omega))<|qo ((hl.up s17.m).ld 3 k 0 bM hx14 rfl)<|qe) fun _ w19 s20=>bA s20.f rfl (fun h21=>?_) (fun h21=>?_)
  ·refine zs s20 [4] [(4,I (k:Int))] qe fun _ w23 s24=>aC<|bP (aN (aN (bP (aN (pR [I (k:Int)] rfl s24 ⟨rfl,trivial⟩ ?_)))))
   exact aW s24 (congrArg I (LW (by rw [hx14]; exact congrArg some (Eq.symm h21)) inv).symm)
  refine wp_skip<|c9 (aD ?_)
  refine dU s20 [0,1,7,8] [800] [] (qo (wr ((k:Int)+1) ((k+1:Nat):Int) (by omega))<|qe) fun _ w26 s27=>aD<|?_
  exact ⟨(k+1),⟨by omega,s27.keep [0,1,7,8] (by kernel_rfl),aM inv (by rw [hx14]; exact fun e=>h21 (Option.some.inj e).symm)⟩,by omega⟩
 have k_eq:k=l.length:=by omega
 refine wp_exit<|aY (aY (cP (aD ?_)))
 refine zs s12 [4] [(4,I (-1))] qe fun _ w29 s30=>aC<|pR [I (-1)] rfl s30 ⟨rfl,trivial⟩<|?_
 exact aW s30 (congrArg I (LX (by rw [k_eq] at inv; exact inv)).symm)
theorem GH (oa:Option Addr) (l:List Int) (c:Nat) (v:Int) (w:World) (hl:Row w oa 1 iO l):Calls Tryz.prog 158 #[.slice oa l.length c,I v] w (eB (Bo (decide (tQ l v≥0))) w):=by
 refine dX [.slice oa l.length c,I v] Tryz.func158 rfl rfl rfl rfl fun _ s0=>?_
 have sm0:=hl.small
 refine zs s0 [0,1] [(0,.slice oa l.length c),(1,I v)] qe fun _ w2 s3=>zs s3 [4] [(4,Bo (decide (tQ l v≥0)))] (qo (yc w2 aaR fun w' hb=>PF oa l c v w' ((hl.up s3.m).grow hb))<|qe) fun _ w5 s6=>aC<|pR [Bo (decide (tQ l v≥0))] rfl s6 ⟨rfl,trivial⟩<|?_
 exact aW s6 rfl
theorem PG (X:Nat) (l:aE) (p:aX) (w:World) (hX:Row w (some ⟨X,0,none⟩) 15 aB [l]) (hL:LeagueAt w l) (ht:Row w p.teamsA 2 bN p.teams) (hz:Row w p.sizesA 1 iO p.sizes) (hof:0≤p.of.n∧p.of.n<l.phases.length):Calls Tryz.prog 117 #[Pt X 0,.agg (aK p).toArray] w (oY (DV l p) aZ w):=by
 refine dX [Pt X 0,.agg (aK p).toArray] Tryz.func117 rfl rfl rfl rfl fun _ s0=>?_
 have smx1:=hL.sm
 have sm10:=ht.small
 have sm11:=hz.small
 refine wp_seq<|aA<|lb s0 0 _ rfl rfl rfl rfl fun B1 a2 w3 s4=>aR rfl<|aD<|wp_seq<|?_
 have hgof:=o3 hof
 refine aL MO 11<|zd s4 [3,16] [(3,Pt B1 0),(16,.agg (aK (c7 l p.of.n)).toArray)] 0 [some [],some [],some [],some [],some [],some [],some [],some [],some [],some []] (qo (fa w3 X 0 jD)<|qo (fa w3 X 0 cG)<|qo ((hX.up s4.m).ld 31 0 13 iE rfl rfl)<|qo (fa w3 B1 0 oE)<|qo (fa w3 B1 5 dC)<|qo (s4.m.ld 3 0 6 bM rfl rfl)<|qo ((hL.phases.up s4.m).iaI l.phasesC p.of.n g9 eL hof)<|qo ((hL.phases.up s4.m).lda 157 p.of.n.toNat 0 eP hgof rfl rfl)<|qe) hq fun _ s7=>HN s7 10 rfl rfl rfl rfl (by kernel_rfl) fun w8 s9=>lab s9 0 [.string (⟨#[]⟩:ByteArray),I 0,.string (⟨#[]⟩:ByteArray),I 0,.slice none 0 0,.string (⟨#[]⟩:ByteArray),I 0,.slice none 0 0,.string (⟨#[]⟩:ByteArray),I 0,.string (⟨#[]⟩:ByteArray),I 0,I 0,I 0] rfl sU rfl rfl fun B10 a11 w12 hb14 s13=>aR rfl (aD ⟨hb14,?_⟩)
 refine df s13 11 rfl rfl rfl rfl (by kernel_rfl) rfl fun w15 s16=>dD s16 0 0 _ _ rfl rfl rfl rfl eL rfl rfl rfl rfl fun w17 s18=>aR rfl (aD ?_)
 refine dd s18 (by kernel_rfl) fun w19 s20=>aD<|wp_seq<|aA<|fJ s20 [3,4,19] [1902] [(4,Pt B10 0)] 0 3 (qo (fa w19 B10 0 dM)<|qo (s20.m.ld 3 0 1 bM rfl rfl)<|qo (yc w19 OK fun w' hb=>DO ((c7 l p.of.n).kind) w')<|qe) fun _ w22 s23=>cU s23 3 (b:=eY ((c7 l p.of.n).kind)) (ch:=aZ) rfl rfl rfl lT rfl (jR (eY ((c7 l p.of.n).kind)) _) (fun h24 w28 s29=>?_) (fun h24 a25 w26 s27=>?_)
 ·refine aP (pP s29 ?_)
  exact bF s29 (iF h24 rfl)
 refine aR rfl<|aD<|wp_seq<|aA<|fJ s27 [3,4,23] [2302] [] 0 3 (qo (fa w26 B1 0 gH)<|qo (s27.m.ld 30 1 7 jB rfl rfl)<|qo (ln w26 3 p.sizesA p.sizes.length p.sizesC eX)<|qe) fun _ w31 s32=>cU s32 3 (b:=aG (p.sizes.length:Int) 1 8) (ch:=aZ) rfl rfl rfl lU rfl (d8 (p.sizes.length:Int) 1 8 _) (fun h33 w37 s38=>?_) (fun h33 a34 w35 s36=>?_)
 ·refine aP (pP s38 ?_)
  exact bF s38 (iP h24 (iF h33 rfl))
 refine aR rfl<|aD<|wp_seq<|d5 s36 [3,4,26,27,28] [2601,2702] [(28,I 0)] (qo (fa w35 B1 0 gH)<|qo (s36.m.ld 30 1 7 jB rfl rfl)<|qo (ln w35 3 p.sizesA p.sizes.length p.sizesC eX)<|qe) fun _ w40 s41=>wp_block<|aO (α:=Nat) (fun k aI wI=>(k≤p.sizes.length)∧(Sta 41 [] w [⟨3,[],Pt B1 0⟩,⟨4,[],Pt B10 0⟩,⟨26,[],.slice p.sizesA p.sizes.length p.sizesC⟩,⟨27,[],I (p.sizes.length:Int)⟩,⟨28,[],I (k:Int)⟩] [cI B10 157 (aK (c7 l p.of.n)),cI B1 157 (aK p)] aI wI)∧(∀ iI,iI<k→∀ xI,p.sizes[iI]?=some xI→(fun n=>if aG n 2 20=true then true else false) xI=true)) (fun k=>p.sizes.length-k) 0 ⟨Nat.zero_le _,s41.keep [3,4,26,27,28] (by kernel_rfl),fun i h=>(Nat.not_lt_zero i h).elim⟩<|?_
 rintro k a44 w43 ⟨k_le,s42,inv_k⟩
 refine zs s42 [3,4,26,27,28,29] [(29,Bo (decide ((k:Int)<(p.sizes.length:Int))))] qe fun _ w46 s47=>wp_seq<|aQ s47.f rfl (fun h48=>?_) (fun h48=>?_)
 ·have k_lt:k<p.sizes.length:=by omega
  obtain ⟨x,hx49⟩:=cD (xs:=p.sizes) k_lt
  refine wp_skip<|aD<|wp_seq<|wp_block<|d5 s47 [3,4,6,26,27,28] [601] [] (qo ((hz.up s47.m).ia p.sizesC k eX hP (by omega))<|qo ((hz.up s47.m).ld 3 k 0 bM hx49 rfl)<|qe) fun _ w51 s52=>aA<|zl s52 [3,4,26,27,28,32] [(32,I x)] 0 1 qe fun _ w54 s55=>cU s55 1 (b:=aG x 2 20) (ch:=aZ) rfl rfl rfl lU rfl (d8 x 2 20 _) (fun h56 w60 s61=>?_) (fun h56 a57 w58 s59=>?_)
  ·refine bL (aP (aP (bL (aP (pP s61 ?_)))))
   exact bF s61 (iP h24 (iP h33 (iF (bI hx49 (iF h56 rfl)) rfl)))
  refine aR rfl<|c9 (aD ?_)
  refine dU s59 [3,4,26,27,28] [2800] [] (qo (wr ((k:Int)+1) ((k+1:Nat):Int) (by omega))<|qe) fun _ w63 s64=>aD<|?_
  exact ⟨(k+1),⟨by omega,s64.keep [3,4,26,27,28] (by kernel_rfl),aM inv_k (fun y hy=>by rw [hx49] at hy; cases hy; exact (iP h56 rfl))⟩,by omega⟩
 have k_eq:k=p.sizes.length:=by omega
 have A65:p.sizes.all (fun n=>if aG n 2 20=true then true else false)=true:=cR (by rw [k_eq] at inv_k; exact inv_k)
 refine wp_exit<|aY (aY (cP (aD ?_)))
 refine aL MO 5<|zd s47 [39] [(39,Bo ((fF p)==(fF (c7 l p.of.n))))] 0 [some [3,1],some [3],some [3],some [],some []] (qo (s47.m.lda 157 1 0 eP rfl rfl rfl)<|qo (yc w46 J8 fun w' hb=>yD p w' ((hz.up s47.m).grow hb))<|qo (s47.m.lda 157 0 0 eP rfl rfl rfl)<|qo (yc w46 J8 fun w' hb=>yD (c7 l p.of.n) w' (((hL.psizes _ (List.mem_of_getElem? hgof)).up s47.m).grow hb))<|qe) hq fun _ s68=>df s68 5 rfl rfl rfl rfl (by kernel_rfl) rfl fun w69 s70=>cU s70 0 (b:=(fF p)==(fF (c7 l p.of.n))) (ch:=aZ) rfl rfl rfl lT rfl (jR ((fF p)==(fF (c7 l p.of.n))) _) (fun h71 w75 s76=>?_) (fun h71 a72 w73 s74=>?_)
 ·refine aP (pP s76 ?_)
  exact bF s76 (iP h24 (iP h33 (iP A65 (iF h71 rfl))))
 refine aR rfl (aD ?_)
 refine dd s74 (by kernel_rfl) fun w77 s78=>pE [] rfl s78 trivial<|?_
 exact dA s78 (iP h24 (iP h33 (iP A65 (iP h71 rfl))))
end Go.Proofs.YtfffbdmdllgalaaGreatDoor
namespace Go.Fz
open Go Go.RowKit
def DX (l:aE) (w:bX):Bool:=(aG w.a 0 63)&&(aG w.b 0 ((l.phases.length:Int)-1))
def DY (l:aE) (w:bX):Bool:=(aG w.a 0 ((l.teams.length:Int)-1))&&(w.b==0)
def DZ (l:aE) (w:bX):Bool:=((aG w.a 0 ((l.teams.length:Int)-1))&&(aG w.b 0 ((l.teams.length:Int)-1)))&&(w.a != w.b)
def D0 (l:aE) (w:bX):Bool:=(aG w.a 0 ((l.slots.length:Int)-1))&&(w.b==0)
def D1 (_:aE) (w:bX):Bool:=(aG w.a 0 73048)&&(w.b==0)
def SY (w:bX) (x:dP) (_:bK):Bool:=(x.round==w.a)&&(x.phase==w.b)
def SZ (w:bX) (x:dP) (_:bK):Bool:=nM x w.a
def S0 (w:bX) (x:dP) (_:bK):Bool:=nM x w.a&&nM x w.b
def S1 (w:bX) (_:dP) (f:bK):Bool:=f.slot==w.a
def S2 (w:bX) (_:dP) (f:bK):Bool:=f.day==w.a
end Go.Fz
namespace Go.Proofs.YtfffbdmdllgalaaGreatDoor
open Go Go.RowKit Go.Fz
set_option maxRecDepth 10000
theorem LY (l:aE) (x:bX) (w:World) (hL:LeagueAt w l):Calls Tryz.prog 123 #[.agg (aB l).toArray,.agg (bE x).toArray] w (eB (Bo (DX l x)) w):=by
 refine dX [.agg (aB l).toArray,.agg (bE x).toArray] Tryz.func123 rfl rfl rfl rfl fun _ s0=>?_
 have smA:=hL.phases.small
 have smB:=hL.teams.small
 have smC:=hL.slots.small
 refine wp_seq<|aA<|lb s0 0 _ rfl rfl rfl rfl fun B1 a2 w3 s4=>lb s4 1 _ rfl rfl rfl rfl fun B5 a6 w7 s8=>zl s8 [2,3] [(2,Pt B1 0),(3,Pt B5 0)] 2 1 qe fun _ w10 s11=>aR rfl<|aD<|zs s11 [4] [(4,Bo ((aG x.a 0 63)&&(aG x.b 0 ((l.phases.length:Int)-1))))] (qo (fa w10 B5 0 gU)<|qo (s11.m.ld 3 0 3 bM rfl rfl)<|qo (yc w10 tO fun w' hb=>gO x.a 0 63 w')<|qo (fa w10 B5 0 kE)<|qo (s11.m.ld 3 0 4 bM rfl rfl)<|qo (fa w10 B1 0 cG)<|qo (s11.m.ld 31 1 13 iE rfl rfl)<|qo (ln w10 3 l.phasesA l.phases.length l.phasesC g9)<|qu (fun (g0:(aG x.a 0 63)=true)=>wr ((l.phases.length:Int)-1) ((l.phases.length:Int)-1) (by first | omega | (simp only [xV] at *; omega)))<|qo (yc w10 tO fun w' hb=>gO x.b 0 ((l.phases.length:Int)-1) w')<|qe) fun _ w13 s14=>aC<|pR [Bo ((aG x.a 0 63)&&(aG x.b 0 ((l.phases.length:Int)-1)))] rfl s14 ⟨rfl,trivial⟩<|?_
 exact aW s14 (congrArg Bo (rfl).symm)
theorem LZ (l:aE) (x:bX) (w:World) (hL:LeagueAt w l):Calls Tryz.prog 125 #[.agg (aB l).toArray,.agg (bE x).toArray] w (eB (Bo (DY l x)) w):=by
 refine dX [.agg (aB l).toArray,.agg (bE x).toArray] Tryz.func125 rfl rfl rfl rfl fun _ s0=>?_
 have smA:=hL.phases.small
 have smB:=hL.teams.small
 have smC:=hL.slots.small
 refine wp_seq<|aA<|lb s0 0 _ rfl rfl rfl rfl fun B1 a2 w3 s4=>lb s4 1 _ rfl rfl rfl rfl fun B5 a6 w7 s8=>zl s8 [2,3] [(2,Pt B1 0),(3,Pt B5 0)] 2 1 qe fun _ w10 s11=>aR rfl<|aD<|zs s11 [4] [(4,Bo ((aG x.a 0 ((l.teams.length:Int)-1))&&(x.b==0)))] (qo (fa w10 B5 0 gU)<|qo (s11.m.ld 3 0 3 bM rfl rfl)<|qo (fa w10 B1 0 dS)<|qo (s11.m.ld 26 1 5 kS rfl rfl)<|qo (ln w10 3 l.teamsA l.teams.length l.teamsC lL)<|qo (wr ((l.teams.length:Int)-1) ((l.teams.length:Int)-1) (by omega))<|qo (yc w10 tO fun w' hb=>gO x.a 0 ((l.teams.length:Int)-1) w')<|qo (fa w10 B5 0 kE)<|qo (s11.m.ld 3 0 4 bM rfl rfl)<|qe) fun _ w13 s14=>aC<|pR [Bo ((aG x.a 0 ((l.teams.length:Int)-1))&&(x.b==0))] rfl s14 ⟨rfl,trivial⟩<|?_
 exact aW s14 (congrArg Bo (rfl).symm)
theorem L0 (l:aE) (x:bX) (w:World) (hL:LeagueAt w l):Calls Tryz.prog 128 #[.agg (aB l).toArray,.agg (bE x).toArray] w (eB (Bo (DZ l x)) w):=by
 refine dX [.agg (aB l).toArray,.agg (bE x).toArray] Tryz.func128 rfl rfl rfl rfl fun _ s0=>?_
 have smA:=hL.phases.small
 have smB:=hL.teams.small
 have smC:=hL.slots.small
 refine wp_seq<|aA<|lb s0 0 _ rfl rfl rfl rfl fun B1 a2 w3 s4=>lb s4 1 _ rfl rfl rfl rfl fun B5 a6 w7 s8=>zl s8 [2,3] [(2,Pt B1 0),(3,Pt B5 0)] 2 1 qe fun _ w10 s11=>aR rfl<|aD<|zs s11 [4] [(4,Bo (((aG x.a 0 ((l.teams.length:Int)-1))&&(aG x.b 0 ((l.teams.length:Int)-1)))&&(x.a != x.b)))] (qo (fa w10 B5 0 gU)<|qo (s11.m.ld 3 0 3 bM rfl rfl)<|qo (fa w10 B1 0 dS)<|qo (s11.m.ld 26 1 5 kS rfl rfl)<|qo (ln w10 3 l.teamsA l.teams.length l.teamsC lL)<|qo (wr ((l.teams.length:Int)-1) ((l.teams.length:Int)-1) (by omega))<|qo (yc w10 tO fun w' hb=>gO x.a 0 ((l.teams.length:Int)-1) w')<|qo (fa w10 B5 0 kE)<|qo (s11.m.ld 3 0 4 bM rfl rfl)<|qo (fa w10 B1 0 dS)<|qo (s11.m.ld 26 1 5 kS rfl rfl)<|qo (ln w10 3 l.teamsA l.teams.length l.teamsC lL)<|qu (fun (g0:(aG x.a 0 ((l.teams.length:Int)-1))=true)=>wr ((l.teams.length:Int)-1) ((l.teams.length:Int)-1) (by first | omega | (simp only [xV] at *; omega)))<|qo (yc w10 tO fun w' hb=>gO x.b 0 ((l.teams.length:Int)-1) w')<|qo (fa w10 B5 0 gU)<|qo (s11.m.ld 3 0 3 bM rfl rfl)<|qo (fa w10 B5 0 kE)<|qo (s11.m.ld 3 0 4 bM rfl rfl)<|qe) fun _ w13 s14=>aC<|pR [Bo (((aG x.a 0 ((l.teams.length:Int)-1))&&(aG x.b 0 ((l.teams.length:Int)-1)))&&(x.a != x.b))] rfl s14 ⟨rfl,trivial⟩<|?_
 exact aW s14 (congrArg Bo (rfl).symm)
theorem L1 (l:aE) (x:bX) (w:World) (hL:LeagueAt w l):Calls Tryz.prog 130 #[.agg (aB l).toArray,.agg (bE x).toArray] w (eB (Bo (D0 l x)) w):=by
 refine dX [.agg (aB l).toArray,.agg (bE x).toArray] Tryz.func130 rfl rfl rfl rfl fun _ s0=>?_
 have smA:=hL.phases.small
 have smB:=hL.teams.small
 have smC:=hL.slots.small
 refine wp_seq<|aA<|lb s0 0 _ rfl rfl rfl rfl fun B1 a2 w3 s4=>lb s4 1 _ rfl rfl rfl rfl fun B5 a6 w7 s8=>zl s8 [2,3] [(2,Pt B1 0),(3,Pt B5 0)] 2 1 qe fun _ w10 s11=>aR rfl<|aD<|zs s11 [4] [(4,Bo ((aG x.a 0 ((l.slots.length:Int)-1))&&(x.b==0)))] (qo (fa w10 B5 0 gU)<|qo (s11.m.ld 3 0 3 bM rfl rfl)<|qo (fa w10 B1 0 jC)<|qo (s11.m.ld 28 1 7 pX rfl rfl)<|qo (ln w10 3 l.slotsA l.slots.length l.slotsC oP)<|qo (wr ((l.slots.length:Int)-1) ((l.slots.length:Int)-1) (by omega))<|qo (yc w10 tO fun w' hb=>gO x.a 0 ((l.slots.length:Int)-1) w')<|qo (fa w10 B5 0 kE)<|qo (s11.m.ld 3 0 4 bM rfl rfl)<|qe) fun _ w13 s14=>aC<|pR [Bo ((aG x.a 0 ((l.slots.length:Int)-1))&&(x.b==0))] rfl s14 ⟨rfl,trivial⟩<|?_
 exact aW s14 (congrArg Bo (rfl).symm)
theorem L3 (l:aE) (x:bX) (w:World) (hL:LeagueAt w l):Calls Tryz.prog 132 #[.agg (aB l).toArray,.agg (bE x).toArray] w (eB (Bo (D1 l x)) w):=by
 refine dX [.agg (aB l).toArray,.agg (bE x).toArray] Tryz.func132 rfl rfl rfl rfl fun _ s0=>?_
 have smA:=hL.phases.small
 have smB:=hL.teams.small
 have smC:=hL.slots.small
 refine wp_seq<|aA<|lb s0 0 _ rfl rfl rfl rfl fun B1 a2 w3 s4=>lb s4 1 _ rfl rfl rfl rfl fun B5 a6 w7 s8=>zl s8 [3] [(3,Pt B5 0)] 2 1 qe fun _ w10 s11=>aR rfl<|aD<|zs s11 [4] [(4,Bo ((aG x.a 0 73048)&&(x.b==0)))] (qo (fa w10 B5 0 gU)<|qo (s11.m.ld 3 0 3 bM rfl rfl)<|qo (yc w10 tO fun w' hb=>gO x.a 0 73048 w')<|qo (fa w10 B5 0 kE)<|qo (s11.m.ld 3 0 4 bM rfl rfl)<|qe) fun _ w13 s14=>aC<|pR [Bo ((aG x.a 0 73048)&&(x.b==0))] rfl s14 ⟨rfl,trivial⟩<|?_
 exact aW s14 (congrArg Bo (rfl).symm)
theorem IJ (x:bX) (g:dP) (f:bK) (w:World):Calls Tryz.prog 124 #[.agg (bE x).toArray,.agg (cA g).toArray,.agg (bB f).toArray] w (eB (Bo (SY x g f)) w):=by
 refine dX [.agg (bE x).toArray,.agg (cA g).toArray,.agg (bB f).toArray] Tryz.func124 rfl rfl rfl rfl fun _ s0=>wp_seq<|aA<|lb s0 0 _ rfl rfl rfl rfl fun B1 a2 w3 s4=>lb s4 1 _ rfl rfl rfl rfl fun B5 a6 w7 s8=>lb s8 2 _ rfl rfl rfl rfl fun B9 a10 w11 s12=>zl s12 [3,4] [(3,Pt B1 0),(4,Pt B5 0)] 3 1 qe fun _ w14 s15=>aR rfl<|aD<|zs s15 [6] [(6,Bo ((g.round==x.a)&&(g.phase==x.b)))] (qo (fa w14 B5 0 wK)<|qo (s15.m.ld 3 1 2 bM rfl rfl)<|qo (fa w14 B1 0 gU)<|qo (s15.m.ld 3 2 3 bM rfl rfl)<|qo (fa w14 B5 0 p5)<|qo (s15.m.ld 3 1 1 bM rfl rfl)<|qo (fa w14 B1 0 kE)<|qo (s15.m.ld 3 2 4 bM rfl rfl)<|qe) fun _ w17 s18=>aC<|pR [Bo ((g.round==x.a)&&(g.phase==x.b))] rfl s18 ⟨rfl,trivial⟩<|?_
 exact aW s18 (congrArg Bo (rfl).symm)
theorem IK (x:bX) (g:dP) (f:bK) (w:World):Calls Tryz.prog 126 #[.agg (bE x).toArray,.agg (cA g).toArray,.agg (bB f).toArray] w (eB (Bo (SZ x g f)) w):=by
 refine dX [.agg (bE x).toArray,.agg (cA g).toArray,.agg (bB f).toArray] Tryz.func126 rfl rfl rfl rfl fun _ s0=>wp_seq<|aA<|lb s0 0 _ rfl rfl rfl rfl fun B1 a2 w3 s4=>lb s4 1 _ rfl rfl rfl rfl fun B5 a6 w7 s8=>lb s8 2 _ rfl rfl rfl rfl fun B9 a10 w11 s12=>zl s12 [3,4] [(3,Pt B1 0),(4,Pt B5 0)] 3 1 qe fun _ w14 s15=>aR rfl<|aD<|d5 s15 [6] [603] [] (qo (s15.m.lda 62 1 0 rN rfl rfl rfl)<|qo (fa w14 B1 0 gU)<|qo (s15.m.ld 3 2 3 bM rfl rfl)<|qo (yc w14 OH fun w' hb=>DQ g x.a w')<|qe) fun _ w17 s18=>aC<|pR [Bo (nM g x.a)] rfl s18 ⟨rfl,trivial⟩<|?_
 exact aW s18 (congrArg Bo (rfl).symm)
theorem IL (x:bX) (g:dP) (f:bK) (w:World):Calls Tryz.prog 129 #[.agg (bE x).toArray,.agg (cA g).toArray,.agg (bB f).toArray] w (eB (Bo (S0 x g f)) w):=by
 refine dX [.agg (bE x).toArray,.agg (cA g).toArray,.agg (bB f).toArray] Tryz.func129 rfl rfl rfl rfl fun _ s0=>wp_seq<|aA<|lb s0 0 _ rfl rfl rfl rfl fun B1 a2 w3 s4=>lb s4 1 _ rfl rfl rfl rfl fun B5 a6 w7 s8=>lb s8 2 _ rfl rfl rfl rfl fun B9 a10 w11 s12=>zl s12 [3,4] [(3,Pt B1 0),(4,Pt B5 0)] 3 1 qe fun _ w14 s15=>aR rfl<|aD<|zs s15 [6] [(6,Bo ((nM g x.a)&&(nM g x.b)))] (qo (s15.m.lda 62 1 0 rN rfl rfl rfl)<|qo (fa w14 B1 0 gU)<|qo (s15.m.ld 3 2 3 bM rfl rfl)<|qo (yc w14 OH fun w' hb=>DQ g x.a w')<|qo (s15.m.lda 62 1 0 rN rfl rfl rfl)<|qo (fa w14 B1 0 kE)<|qo (s15.m.ld 3 2 4 bM rfl rfl)<|qo (yc w14 OH fun w' hb=>DQ g x.b w')<|qe) fun _ w17 s18=>aC<|pR [Bo ((nM g x.a)&&(nM g x.b))] rfl s18 ⟨rfl,trivial⟩<|?_
 exact aW s18 (congrArg Bo (rfl).symm)
theorem IM (x:bX) (g:dP) (f:bK) (w:World):Calls Tryz.prog 131 #[.agg (bE x).toArray,.agg (cA g).toArray,.agg (bB f).toArray] w (eB (Bo (S1 x g f)) w):=by
 refine dX [.agg (bE x).toArray,.agg (cA g).toArray,.agg (bB f).toArray] Tryz.func131 rfl rfl rfl rfl fun _ s0=>wp_seq<|aA<|lb s0 0 _ rfl rfl rfl rfl fun B1 a2 w3 s4=>lb s4 1 _ rfl rfl rfl rfl fun B5 a6 w7 s8=>lb s8 2 _ rfl rfl rfl rfl fun B9 a10 w11 s12=>zl s12 [3,5] [(3,Pt B1 0),(5,Pt B9 0)] 3 1 qe fun _ w14 s15=>aR rfl<|aD<|zs s15 [6] [(6,Bo (f.slot==x.a))] (qo (fa w14 B9 0 wJ)<|qo (s15.m.ld 3 0 2 bM rfl rfl)<|qo (fa w14 B1 0 gU)<|qo (s15.m.ld 3 2 3 bM rfl rfl)<|qe) fun _ w17 s18=>aC<|pR [Bo (f.slot==x.a)] rfl s18 ⟨rfl,trivial⟩<|?_
 exact aW s18 (congrArg Bo (rfl).symm)
theorem IN (x:bX) (g:dP) (f:bK) (w:World):Calls Tryz.prog 133 #[.agg (bE x).toArray,.agg (cA g).toArray,.agg (bB f).toArray] w (eB (Bo (S2 x g f)) w):=by
 refine dX [.agg (bE x).toArray,.agg (cA g).toArray,.agg (bB f).toArray] Tryz.func133 rfl rfl rfl rfl fun _ s0=>wp_seq<|aA<|lb s0 0 _ rfl rfl rfl rfl fun B1 a2 w3 s4=>lb s4 1 _ rfl rfl rfl rfl fun B5 a6 w7 s8=>lb s8 2 _ rfl rfl rfl rfl fun B9 a10 w11 s12=>zl s12 [3,5] [(3,Pt B1 0),(5,Pt B9 0)] 3 1 qe fun _ w14 s15=>aR rfl<|aD<|zs s15 [6] [(6,Bo (f.day==x.a))] (qo (fa w14 B9 0 wH)<|qo (s15.m.ld 3 0 0 bM rfl rfl)<|qo (fa w14 B1 0 gU)<|qo (s15.m.ld 3 2 3 bM rfl rfl)<|qe) fun _ w17 s18=>aC<|pR [Bo (f.day==x.a)] rfl s18 ⟨rfl,trivial⟩<|?_
 exact aW s18 (congrArg Bo (rfl).symm)
end Go.Proofs.YtfffbdmdllgalaaGreatDoor
namespace Go.Fz
open Go Go.RowKit
structure u5 where
  l:aE
  gA:Option Addr
  g:List dP
  gC:Nat
  fA:Option Addr
  f:List bK
  fC:Nat
def nX (x:u5):List Value:=[.string x.l.name,.slice x.l.townsA x.l.towns.length x.l.townsC,.slice x.l.waysA x.l.ways.length x.l.waysC,.slice x.l.depotsA x.l.depots.length x.l.depotsC,.slice x.l.groundsA x.l.grounds.length x.l.groundsC,.slice x.l.teamsA x.l.teams.length x.l.teamsC,.slice x.l.windowsA x.l.windows.length x.l.windowsC,.slice x.l.slotsA x.l.slots.length x.l.slotsC,I x.l.pool,I x.l.points.p0,I x.l.points.p1,I x.l.points.p2,.slice x.l.keysA x.l.keys.length x.l.keysC,.slice x.l.phasesA x.l.phases.length x.l.phasesC,.slice x.l.condsA x.l.conds.length x.l.condsC,.slice x.gA x.g.length x.gC,.slice x.fA x.f.length x.fC]
theorem rQ:EncOk nX 17:=⟨by decide,fun _=>rfl,fun x v hv=>List.all_eq_true.1 (rfl:(nX x).all Value.oneCell'=true) v hv⟩
structure V0 where
  x:bX
  many:Int
def GI (x:V0):List Value:=[I x.x.no,I x.x.bidder,I x.x.kind,I x.x.a,I x.x.b,I x.x.most,I x.x.price,I x.many]
end Go.Fz
namespace Go.Proofs.YtfffbdmdllgalaaGreatDoor
open Go Go.RowKit Go.Fz
set_option maxRecDepth 10000
theorem KP (X:Nat) (x:u5) (s:m6) (g:dP) (w:World) (hX:Row w (some ⟨X,0,none⟩) 17 nX [x]):Calls Tryz.prog 171 #[Pt X 0,.agg (j4 s).toArray,.agg (cA g).toArray] w (eB (Bo (qO x.l s g.no g.phase)) w):=by
 refine dX [Pt X 0,.agg (j4 s).toArray,.agg (cA g).toArray] Tryz.func171 rfl rfl rfl rfl fun _ s0=>wp_seq<|aA<|lb s0 0 _ rfl rfl rfl rfl fun B1 a2 w3 s4=>lb s4 1 _ rfl rfl rfl rfl fun B5 a6 w7 s8=>zl s8 [0,4,5] [(0,Pt X 0),(4,Pt B1 0),(5,Pt B5 0)] 2 1 qe fun _ w10 s11=>aR rfl<|aD<|wp_seq<|d5 s11 [0,4,5,8] [801] [] (qo (fa w10 B1 0 rO)<|qo (s11.m.ld 3 1 0 bM rfl rfl)<|qe) fun _ w13 s14=>wp_block<|zs s14 [0,4,5,8,9] [(9,Bo (s.kind==1))] qe fun _ w16 s17=>bA s17.f rfl (fun h18=>?_) (fun h18=>?_)
 ·refine wp_seq<|zr s17 [6] [(6,Bo (((decide (s.n≥0))&&(decide (s.n<(x.l.teams.length:Int))))&&(s.phase==0)))] MO (qo (fa w16 B1 0 kF)<|qo (s17.m.ld 3 1 1 bM rfl rfl)<|qo (fa w16 B1 0 kF)<|qo (s17.m.ld 3 1 1 bM rfl rfl)<|qo (fa w16 X 0 SJ)<|qo (fa w16 X 0 dS)<|qo ((hX.up s17.m).ld 26 0 5 kS rfl rfl)<|qo (ln w16 3 x.l.teamsA x.l.teams.length x.l.teamsC lL)<|qo (fa w16 B1 0 rP)<|qo (s17.m.ld 3 1 2 bM rfl rfl)<|qe) fun _ w20 s21=>aD<|aC<|bP (aN (pR [Bo (((decide (s.n≥0))&&(decide (s.n<(x.l.teams.length:Int))))&&(s.phase==0))] rfl s21 ⟨rfl,trivial⟩ ?_))
  exact aW s21 (congrArg Bo (iP h18 rfl).symm)
 refine zs s17 [4,5,8,30] [(30,Bo (s.kind==2))] qe fun _ w23 s24=>bA s24.f rfl (fun h25=>?_) (fun h25=>?_)
 ·refine zs s24 [6] [(6,Bo ((((decide (s.n≥1))&&(decide (s.n≤20)))&&(decide (s.phase≥0)))&&(decide (s.phase<g.phase))))] (qo (fa w23 B1 0 kF)<|qo (s24.m.ld 3 1 1 bM rfl rfl)<|qo (fa w23 B1 0 kF)<|qo (s24.m.ld 3 1 1 bM rfl rfl)<|qo (fa w23 B1 0 rP)<|qo (s24.m.ld 3 1 2 bM rfl rfl)<|qo (fa w23 B1 0 rP)<|qo (s24.m.ld 3 1 2 bM rfl rfl)<|qo (fa w23 B5 0 p5)<|qo (s24.m.ld 3 0 1 bM rfl rfl)<|qe) fun _ w27 s28=>aC<|bP (aN (pR [Bo ((((decide (s.n≥1))&&(decide (s.n≤20)))&&(decide (s.phase≥0)))&&(decide (s.phase<g.phase)))] rfl s28 ⟨rfl,trivial⟩ ?_))
  exact aW s28 (congrArg Bo (iM h18 (iP h25 rfl)).symm)
 refine zs s24 [4,5,52] [(52,Bo (s.kind==3))] qe fun _ w30 s31=>bA s31.f rfl (fun h32=>?_) (fun h32=>?_)
 ·refine zs s31 [6] [(6,Bo (((decide (s.n≥0))&&(decide (s.n<g.no)))&&(s.phase==0)))] (qo (fa w30 B1 0 kF)<|qo (s31.m.ld 3 1 1 bM rfl rfl)<|qo (fa w30 B1 0 kF)<|qo (s31.m.ld 3 1 1 bM rfl rfl)<|qo (fa w30 B5 0 H8)<|qo (s31.m.ld 3 0 0 bM rfl rfl)<|qo (fa w30 B1 0 rP)<|qo (s31.m.ld 3 1 2 bM rfl rfl)<|qe) fun _ w34 s35=>aC<|bP (aN (pR [Bo (((decide (s.n≥0))&&(decide (s.n<g.no)))&&(s.phase==0))] rfl s35 ⟨rfl,trivial⟩ ?_))
  exact aW s35 (congrArg Bo (iM h18 (iM h25 (iP h32 rfl))).symm)
 refine wp_skip<|c9 (aD ?_)
 refine zs s31 [6] [(6,Bo false)] qe fun _ w37 s38=>aC<|pR [Bo false] rfl s38 ⟨rfl,trivial⟩<|?_
 exact aW s38 (congrArg Bo (iM h18 (iM h25 (iM h32 rfl))).symm)
theorem GJ (X:Nat) (x:u5) (i:Nat) (w:World) (hX:Row w (some ⟨X,0,none⟩) 17 nX [x]) (hf:Row w x.fA 3 bB x.f) (hi:i<x.f.length):Calls Tryz.prog 172 #[Pt X 0,I (i:Int)] w (eB (Bo (!jM (x.f.getD i dJ) dJ)) w):=by
 refine dX [Pt X 0,I (i:Int)] Tryz.func172 rfl rfl rfl rfl fun _ s0=>?_
 have hgi:=bC (d:=dJ) hi
 have sm0:=hf.small
 refine zs s0 [0,1] [(0,Pt X 0),(1,I (i:Int))] qe fun _ w2 s3=>d5 s3 [4] [405] [] (qo (fa w2 X 0 SK)<|qo ((hX.up s3.m).ld 36 0 16 WQ rfl rfl)<|qo ((hf.up s3.m).ia x.fC i uT A3 (by omega))<|qo ((hf.up s3.m).lda 57 i 0 A4 hgi rfl rfl)<|qo (jL (P:=Tryz.prog) w2 57 [(0,I (-1)),(1,I (-1)),(2,I (-1))] (.agg #[I (-1),I (-1),I (-1)]) (fun _=>by kernel_rfl))<|qo (HM (P:=Tryz.prog) w2 (.tmp 11) (.tmp 12) (bB (x.f.getD i dJ)) (bB (⟨-1,-1,-1⟩:Fz.bK)) (W6 10 (by decide)) (by decide) W8 rfl rfl)<|qe) fun _ w5 s6=>aC<|pR [Bo (!(jM (x.f.getD i dJ) (⟨-1,-1,-1⟩:Fz.bK)))] rfl s6 ⟨rfl,trivial⟩<|?_
 exact aW s6 (congrArg Bo (rfl).symm)
end Go.Proofs.YtfffbdmdllgalaaGreatDoor
namespace Go.Fz
open Go Go.RowKit
def GK (l:aE) (k:Nat) (x:dP):Bool :=
  ((((((((x.no != (k:Int))||(decide (x.phase<0)))||(decide (x.phase≥(l.phases.length:Int))))||(decide (x.round<0)))||(decide (x.round>1023)))||(y3 x.home x.away))||(!qO l x.home x.no x.phase))||(!qO l x.away x.no x.phase))
def S3 (l:aE) (x:dP) (f:bK):Bool :=
  (!jM f dJ)&&(((((((!rE x)||(decide (f.day<0)))||(decide (f.day>73048)))||(decide (f.ground<0)))||(decide (f.ground≥(l.grounds.length:Int))))||(decide (f.slot<0)))||(decide (f.slot≥(l.slots.length:Int))))
def zW (l:aE) (k:Nat) (x:dP) (f:bK):Bool :=
  if GK l k x=true then false else if S3 l x f=true then false else true
def IO (l:aE) (g:List dP) (f:List bK):Int :=
  if gM l≠0 then gM l else
  if ((decide ((g.length:Int)>1024))||(decide ((f.length:Int)>1024)))=true then 2 else
  if (f.length:Int)≠(g.length:Int) then 190 else
  if (List.range g.length).all (fun i=>zW l i (g.getD i cM) (f.getD i dJ))=true then 0 else 190
end Go.Fz
namespace Go.Proofs.YtfffbdmdllgalaaGreatDoor
open Go Go.RowKit Go.Fz
set_option maxRecDepth 10000
def C69:Prop:=∀ (l:aE) (w:World),Glb w→LeagueAt w l→Calls Tryz.prog 69 #[.agg (aB l).toArray] w (eB (I (gM l)) w)
theorem PH (l:aE) (gA:Option Addr) (g:List dP) (gC:Nat) (fA:Option Addr) (f:List bK) (fC:Nat) (w:World) (h69:C69) (hG:Glb w) (hL:LeagueAt w l) (hg:Row w gA 9 cA g) (hf:Row w fA 3 bB f):Calls Tryz.prog 139 #[.agg (aB l).toArray,.slice gA g.length gC,.slice fA f.length fC] w (eB (I (IO l g f)) w):=by
 refine dX [.agg (aB l).toArray,.slice gA g.length gC,.slice fA f.length fC] Tryz.func139 rfl rfl rfl rfl fun _ s0=>?_
 have smx1:=hL.sm
 have sm10:=hg.small
 have sm11:=hf.small
 refine wp_seq<|aA<|lb s0 0 _ rfl rfl rfl rfl fun B1 a2 w3 s4=>zl s4 [1,2,3] [(1,.slice gA g.length gC),(2,.slice fA f.length fC),(3,Pt B1 0)] 1 1 qe fun _ w6 s7=>aR rfl<|aD<|wp_seq<|d5 s7 [1,2,3,6] [601] [] (qo (s7.m.lda 34 0 0 cS rfl rfl rfl)<|qo (yc w6 ZJ fun w' hb=>h69 l w' ((hG.up s7.m).grow hb) ((hL.up s7.m).grow hb))<|qe) fun _ w9 s10=>zs s10 [1,2,3,6,14] [(14,Bo ((gM l) != 0))] qe fun _ w12 s13=>jQ s13.f rfl (fun h14=>?_) (fun h14=>?_)
 ·refine zs s13 [6] [] qe fun _ w16 s17=>aC<|aN (pR [I (gM l)] rfl s17 ⟨rfl,trivial⟩ ?_)
  exact aW s17 (congrArg I (iP h14 rfl).symm)
 refine wp_skip<|aD<|wp_seq<|zs s13 [1,2,3,23] [(23,Bo ((decide ((g.length:Int)>1024))||(decide ((f.length:Int)>1024))))] (qo (ln w12 3 gA g.length gC pY)<|qo (ln w12 3 fA f.length fC uT)<|qe) fun _ w19 s20=>cO s20.f rfl (fun h21=>?_) (fun h21=>?_)
 ·refine zs s20 [6] [(6,I 2)] qe fun _ w23 s24=>aC<|aN (pR [I 2] rfl s24 ⟨rfl,trivial⟩ ?_)
  exact aW s24 (congrArg I (iN h14 (iP h21 rfl)).symm)
 refine wp_skip<|aD<|wp_seq<|zs s20 [1,2,3,28] [(28,Bo ((f.length:Int) != (g.length:Int)))] (qo (ln w19 3 fA f.length fC uT)<|qo (ln w19 3 gA g.length gC pY)<|qe) fun _ w26 s27=>jQ s27.f rfl (fun h28=>?_) (fun h28=>?_)
 ·refine zs s27 [6] [(6,I 190)] qe fun _ w30 s31=>aC<|aN (pR [I 190] rfl s31 ⟨rfl,trivial⟩ ?_)
  exact aW s31 (congrArg I (iN h14 (iF h21 (iP h28 rfl))).symm)
 refine wp_skip<|aD<|wp_seq<|aA<|zl s27 [1,2,3,32] [(32,.agg #[.string l.name,.slice l.townsA l.towns.length l.townsC,.slice l.waysA l.ways.length l.waysC,.slice l.depotsA l.depots.length l.depotsC,.slice l.groundsA l.grounds.length l.groundsC,.slice l.teamsA l.teams.length l.teamsC,.slice l.windowsA l.windows.length l.windowsC,.slice l.slotsA l.slots.length l.slotsC,I l.pool,I l.points.p0,I l.points.p1,I l.points.p2,.slice l.keysA l.keys.length l.keysC,.slice l.phasesA l.phases.length l.phasesC,.slice l.condsA l.conds.length l.condsC,.slice gA g.length gC,.slice fA f.length fC])] 0 4 (qo (s27.m.lda 34 0 0 cS rfl rfl rfl)<|qo (jL (P:=Tryz.prog) w26 223 [(0,.agg (aB l).toArray),(1,.slice gA g.length gC),(2,.slice fA f.length fC)] (.agg #[.string l.name,.slice l.townsA l.towns.length l.townsC,.slice l.waysA l.ways.length l.waysC,.slice l.depotsA l.depots.length l.depotsC,.slice l.groundsA l.grounds.length l.groundsC,.slice l.teamsA l.teams.length l.teamsC,.slice l.windowsA l.windows.length l.windowsC,.slice l.slotsA l.slots.length l.slotsC,I l.pool,I l.points.p0,I l.points.p1,I l.points.p2,.slice l.keysA l.keys.length l.keysC,.slice l.phasesA l.phases.length l.phasesC,.slice l.condsA l.conds.length l.condsC,.slice gA g.length gC,.slice fA f.length fC]) (fun _=>by kernel_rfl))<|qe) fun _ w33 s34=>lb s34 4 _ rfl rfl rfl rfl fun B35 a36 w37 s38=>zl s38 [1,2,3,7] [(7,Pt B35 0)] 5 1 qe fun _ w40 s41=>aR rfl<|aD<|wp_seq<|wp_seq<|?_
 have hlen:=h28
 refine dU s41 [2,3,7,34,35,36] [3500] [(34,.slice gA g.length gC),(36,I 0)] (qo (ln w40 3 gA g.length gC pY)<|qe) fun _ w43 s44=>aD<|wp_block<|aO (α:=Nat) (fun k aI wI=>(k≤g.length)∧(Sta 140 [] w [⟨2,[],.slice fA f.length fC⟩,⟨3,[],Pt B1 0⟩,⟨7,[],Pt B35 0⟩,⟨34,[],.slice gA g.length gC⟩,⟨35,[],I (g.length:Int)⟩,⟨36,[],I (k:Int)⟩] [cI B35 223 [.string l.name,.slice l.townsA l.towns.length l.townsC,.slice l.waysA l.ways.length l.waysC,.slice l.depotsA l.depots.length l.depotsC,.slice l.groundsA l.grounds.length l.groundsC,.slice l.teamsA l.teams.length l.teamsC,.slice l.windowsA l.windows.length l.windowsC,.slice l.slotsA l.slots.length l.slotsC,I l.pool,I l.points.p0,I l.points.p1,I l.points.p2,.slice l.keysA l.keys.length l.keysC,.slice l.phasesA l.phases.length l.phasesC,.slice l.condsA l.conds.length l.condsC,.slice gA g.length gC,.slice fA f.length fC],cI B1 34 (aB l)] aI wI)∧(∀ iI,iI<k→∀ xI,(List.range g.length)[iI]?=some xI→(fun i=>zW l i (g.getD i cM) (f.getD i dJ)) xI=true)) (fun k=>g.length-k) 0 ⟨Nat.zero_le _,s44.keep [2,3,7,34,35,36] (by kernel_rfl),fun i h=>(Nat.not_lt_zero i h).elim⟩<|?_
 rintro k a47 w46 ⟨k_le,s45,inv_k⟩
 refine zs s45 [2,3,7,34,35,36,37] [(37,Bo (decide ((k:Int)<(g.length:Int))))] qe fun _ w49 s50=>wp_seq<|aQ s50.f rfl (fun h51=>?_) (fun h51=>?_)
 ·have k_lt:k<g.length:=by omega
  have hx52:(List.range g.length)[k]?=some k:=List.getElem?_range k_lt
  have hx53:g[k]?=some (g.getD k cM):=bC (by omega)
  have hx54:f[k]?=some (f.getD k dJ):=bC (by omega)
  refine wp_skip<|aD<|wp_seq<|wp_block<|wp_seq<|aA<|zl s50 [2,3,7,34,35,36,38,40] [(38,I (k:Int)),(40,.agg (cA (g.getD k cM)).toArray)] 0 3 (qo ((hg.up s50.m).ia gC k pY DE (by omega))<|qo ((hg.up s50.m).lda 62 k 0 rN hx53 rfl rfl)<|qe) fun _ w56 s57=>la s57 3 _ rfl Y5 rfl rfl fun B58 a59 w60 s61=>zl s61 [2,3,7,8,9,34,35,36,40] [(8,I (k:Int)),(9,Pt B58 0)] 4 1 qe fun _ w63 s64=>dD s64 5 0 _ _ rfl rfl rfl rfl DE rfl rfl rfl rfl fun w65 s66=>aR rfl<|aD<|wp_seq ?_
  refine zs s66 [2,3,7,8,9,34,35,36,90] [(90,Bo ((((((((((g.getD k cM).no) != (k:Int))||(decide ((g.getD k cM).phase<0)))||(decide ((g.getD k cM).phase≥(l.phases.length:Int))))||(decide ((g.getD k cM).round<0)))||(decide ((g.getD k cM).round>1023)))||(y3 (⟨((g.getD k cM).home).kind,((g.getD k cM).home).n,((g.getD k cM).home).phase⟩:Fz.m6) (⟨((g.getD k cM).away).kind,((g.getD k cM).away).n,((g.getD k cM).away).phase⟩:Fz.m6)))||(!(qO l (⟨((g.getD k cM).home).kind,((g.getD k cM).home).n,((g.getD k cM).home).phase⟩:Fz.m6) (g.getD k cM).no (g.getD k cM).phase)))||(!(qO l (⟨((g.getD k cM).away).kind,((g.getD k cM).away).n,((g.getD k cM).away).phase⟩:Fz.m6) (g.getD k cM).no (g.getD k cM).phase))))] (qo (fa w65 B58 0 H8)<|qo (s66.m.ld 3 0 0 bM rfl rfl)<|qo (fa w65 B58 0 p5)<|qo (s66.m.ld 3 0 1 bM rfl rfl)<|qo (fa w65 B58 0 p5)<|qo (s66.m.ld 3 0 1 bM rfl rfl)<|qo (fa w65 B1 0 cG)<|qo (s66.m.ld 31 2 13 iE rfl rfl)<|qo (ln w65 3 l.phasesA l.phases.length l.phasesC g9)<|qo (fa w65 B58 0 wK)<|qo (s66.m.ld 3 0 2 bM rfl rfl)<|qo (fa w65 B58 0 wK)<|qo (s66.m.ld 3 0 2 bM rfl rfl)<|qo (fa w65 B58 0 p6)<|qo (s66.m.lda 60 0 3 DF rfl rfl rfl)<|qo (fa w65 B58 0 p7)<|qo (s66.m.lda 60 0 6 DF rfl rfl rfl)<|qo (M8 (P:=Tryz.prog) w65 (.tmp 70) (.tmp 72) (j4 (⟨((g.getD k cM).home).kind,((g.getD k cM).home).n,((g.getD k cM).home).phase⟩:Fz.m6)) (j4 (⟨((g.getD k cM).away).kind,((g.getD k cM).away).n,((g.getD k cM).away).phase⟩:Fz.m6)) (acB 10 (by decide)) (by decide) acK rfl rfl)<|qo (fa w65 B58 0 p6)<|qo (s66.m.lda 60 0 3 DF rfl rfl rfl)<|qo (s66.m.lda 62 0 0 rN rfl rfl rfl)<|qo (yc w65 VE fun w' hb=>KP B35 (⟨l,gA,g,gC,fA,f,fC⟩:u5) (⟨((g.getD k cM).home).kind,((g.getD k cM).home).n,((g.getD k cM).home).phase⟩:Fz.m6) (g.getD k cM) w' ((s66.m.rowc (enc:=nX) 1 [(⟨l,gA,g,gC,fA,f,fC⟩:u5)] rfl rQ rfl (Nat.le_of_ble_eq_true rfl)).grow hb))<|qo (fa w65 B58 0 p7)<|qo (s66.m.lda 60 0 6 DF rfl rfl rfl)<|qo (s66.m.lda 62 0 0 rN rfl rfl rfl)<|qo (yc w65 VE fun w' hb=>KP B35 (⟨l,gA,g,gC,fA,f,fC⟩:u5) (⟨((g.getD k cM).away).kind,((g.getD k cM).away).n,((g.getD k cM).away).phase⟩:Fz.m6) (g.getD k cM) w' ((s66.m.rowc (enc:=nX) 1 [(⟨l,gA,g,gC,fA,f,fC⟩:u5)] rfl rQ rfl (Nat.le_of_ble_eq_true rfl)).grow hb))<|qe) fun _ w68 s69=>cO s69.f rfl (fun h70=>?_) (fun h70=>?_)
  ·refine zs s69 [6] [(6,I 190)] qe fun _ w72 s73=>aC<|aN (bP (aN (aN (bP (aN (pR [I 190] rfl s73 ⟨rfl,trivial⟩ ?_))))))
   exact aW s73 (congrArg I (iN h14 (iF h21 (iN h28 (iF (bI hx52 (iP h70 rfl)) rfl)))).symm)
  refine wp_skip<|aD<|wp_seq<|aA<|zl s69 [2,3,7,8,9,34,35,36,94] [(94,.agg (bB (f.getD k dJ)).toArray)] 0 4 (qo ((hf.up s69.m).ia fC k uT A3 (by omega))<|qo ((hf.up s69.m).lda 57 k 0 A4 hx54 rfl rfl)<|qe) fun _ w75 s76=>la s76 4 _ rfl Y4 rfl rfl fun B77 a78 w79 s80=>dD s80 5 0 _ _ rfl rfl rfl rfl A3 rfl rfl rfl rfl fun w81 s82=>aR rfl<|aD<|zs s82 [2,3,7,34,35,36,138] [(138,Bo ((!(jM (f.getD k dJ) dJ))&&(((((((!(rE (g.getD k cM)))||(decide ((f.getD k dJ).day<0)))||(decide ((f.getD k dJ).day>73048)))||(decide ((f.getD k dJ).ground<0)))||(decide ((f.getD k dJ).ground≥(l.grounds.length:Int))))||(decide ((f.getD k dJ).slot<0)))||(decide ((f.getD k dJ).slot≥(l.slots.length:Int))))))] (qo (yc w81 aaE fun w' hb=>GJ B35 (⟨l,gA,g,gC,fA,f,fC⟩:u5) k w' ((s82.m.rowc (enc:=nX) 2 [(⟨l,gA,g,gC,fA,f,fC⟩:u5)] rfl rQ rfl (Nat.le_of_ble_eq_true rfl)).grow hb) ((hf.up s82.m).grow hb) (show k<f.length by omega))<|qo (s82.m.lda 62 1 0 rN rfl rfl rfl)<|qo (yc w81 aaF fun w' hb=>OV (g.getD k cM) w')<|qo (fa w81 B77 0 wH)<|qo (s82.m.ld 3 0 0 bM rfl rfl)<|qo (fa w81 B77 0 wH)<|qo (s82.m.ld 3 0 0 bM rfl rfl)<|qo (fa w81 B77 0 DI)<|qo (s82.m.ld 3 0 1 bM rfl rfl)<|qo (fa w81 B77 0 DI)<|qo (s82.m.ld 3 0 1 bM rfl rfl)<|qo (fa w81 B1 0 gG)<|qo (s82.m.ld 25 3 4 n3 rfl rfl)<|qo (ln w81 3 l.groundsA l.grounds.length l.groundsC nV)<|qo (fa w81 B77 0 wJ)<|qo (s82.m.ld 3 0 2 bM rfl rfl)<|qo (fa w81 B77 0 wJ)<|qo (s82.m.ld 3 0 2 bM rfl rfl)<|qo (fa w81 B1 0 jC)<|qo (s82.m.ld 28 3 7 pX rfl rfl)<|qo (ln w81 3 l.slotsA l.slots.length l.slotsC oP)<|qe) fun _ w84 s85=>cO s85.f rfl (fun h86=>?_) (fun h86=>?_)
  ·refine zs s85 [6] [(6,I 190)] qe fun _ w88 s89=>aC<|bP (aN (aN (bP (aN (pR [I 190] rfl s89 ⟨rfl,trivial⟩ ?_)))))
   exact aW s89 (congrArg I (iN h14 (iF h21 (iN h28 (iF (bI hx52 (iF h70 (iP h86 rfl))) rfl)))).symm)
  refine wp_skip<|c9 (aD ?_)
  refine dU s85 [2,3,7,34,35,36] [3600] [] (qo (wr ((k:Int)+1) ((k+1:Nat):Int) (by omega))<|qe) fun _ w91 s92=>aD<|?_
  exact ⟨(k+1),⟨by omega,(s92.keep [2,3,7,34,35,36] (by kernel_rfl)).sub (.cons _ (.cons _ (.refl _))),aM inv_k (fun y hy=>by rw [hx52] at hy; cases hy; exact (iF h70 (iF h86 rfl)))⟩,by omega⟩
 have k_eq:k=g.length:=by omega
 have A93:(List.range g.length).all (fun i=>zW l i (g.getD i cM) (f.getD i dJ))=true:=dG (by rw [k_eq] at inv_k; exact inv_k)
 refine wp_exit<|aY (aY (cP (aD ?_)))
 refine zs s50 [6] [(6,I 0)] qe fun _ w95 s96=>aC<|pR [I 0] rfl s96 ⟨rfl,trivial⟩<|?_
 exact aW s96 (congrArg I (iN h14 (iF h21 (iN h28 (iP A93 rfl)))).symm)
end Go.Proofs.YtfffbdmdllgalaaGreatDoor
namespace Go.Fz
open Go Go.RowKit
theorem PI (l:aE) (k:Nat) (x:dP):(!GK l k x)=xC l k x:=by
  by_cases hno:x.no=(k:Int)
  · unfold GK xC
    rw [hno]
    cases (((((((k:Int) != (k:Int))||(decide (x.phase<0)))||(decide (x.phase≥(l.phases.length:Int))))||(decide (x.round<0)))||(decide (x.round>1023)))||(y3 x.home x.away)) <;>
    cases qO l x.home (k:Int) x.phase <;> cases qO l x.away (k:Int) x.phase <;> rfl
  · have:(x.no != (k:Int))=true:=by simpa using hno
    simp [GK,xC,this]
theorem S4 (l:aE) (x:dP) (f:bK):(!S3 l x f)=xL l x f:=by
  unfold S3 xL xK
  cases jM f dJ with
  | true=>rfl
  | false =>
    simp only [Bool.not_false,Bool.true_and,Bool.not_or,Bool.not_not,Bool.false_eq_true,if_false]
    rw [Bool.eq_iff_iff]
    simp only [Bool.and_eq_true,Bool.not_eq_true',decide_eq_false_iff_not,decide_eq_true_eq]
    constructor
    · rintro ⟨⟨⟨⟨⟨⟨h1,h2⟩,h3⟩,h4⟩,h5⟩,h6⟩,h7⟩
      exact ⟨⟨⟨⟨⟨h1,by omega,by omega⟩,by omega⟩,by omega⟩,by omega⟩,by omega⟩
    · rintro ⟨⟨⟨⟨⟨h1,h2,h3⟩,h4⟩,h5⟩,h6⟩,h7⟩
      exact ⟨⟨⟨⟨⟨⟨h1,by omega⟩,by omega⟩,by omega⟩,by omega⟩,by omega⟩,by omega⟩
theorem L4 (l:aE) (k:Nat) (x:dP) (f:bK):zW l k x f=(xC l k x&&xL l x f):=by
  rw [← PI,← S4]
  unfold zW
  cases GK l k x <;> cases S3 l x f <;> rfl
theorem S5 {α:Type} (p q:α→Bool) (l:List α):l.all (fun a=>p a&&q a)=(l.all p&&l.all q):=by
  induction l with
  | nil=>rfl
  | cons a l ih=>simp only [List.all_cons,ih]; cases p a <;> cases q a <;> cases l.all p <;> cases l.all q <;> rfl
theorem S6 (l:aE) (g:List dP) (f:List bK):IO l g f=kY l g f:=by
  unfold IO kY DA
  by_cases h1:gM l≠0
  · rw [if_pos h1,if_pos h1]
  rw [if_neg h1,if_neg h1]
  split
  · rfl
  by_cases h2:(f.length:Int)≠(g.length:Int)
  · have:((f.length:Int) != (g.length:Int))=true:=by simpa using h2
    rw [if_pos h2,this,Bool.or_true,if_pos rfl]
  · have h3:f.length=g.length:=by omega
    have:((f.length:Int) != (g.length:Int))=false:=by simp [h3]
    rw [if_neg h2,this,Bool.or_false,h3]
    simp only [L4,S5]
    cases (List.range g.length).all (fun i=>xC l i (g.getD i cM)) <;> cases (List.range g.length).all (fun i=>xL l (g.getD i cM) (f.getD i dJ)) <;> rfl
end Go.Fz
namespace Go.Fz
open Go Go.RowKit
def A5 (k:Int):Nat:=if k=1 then 123 else if k=2 then 125 else if k=3 then 128 else if k=4 then 130 else 132
def A6 (k:Int):Nat:=if k=1 then 124 else if k=2 then 126 else if k=3 then 129 else if k=4 then 131 else 133
def PJ:Value:=.agg #[.nilFunc,.nilFunc,.func (.func 123) #[] #[],.func (.func 124) #[] #[],.func (.func 125) #[] #[],.func (.func 126) #[] #[],.func (.func 128) #[] #[],.func (.func 129) #[] #[],.func (.func 130) #[] #[],.func (.func 131) #[] #[],.func (.func 132) #[] #[],.func (.func 133) #[] #[]]
def kH (l:aE) (w:bX):Bool :=
  if w.kind=1 then DX l w else if w.kind=2 then DY l w else if w.kind=3 then DZ l w else if w.kind=4 then D0 l w else D1 l w
def hS (w:bX) (x:dP) (f:bK):Bool :=
  if w.kind=1 then SY w x f else if w.kind=2 then SZ w x f else if w.kind=3 then S0 w x f else if w.kind=4 then S1 w x f else S2 w x f
theorem kU {k:Int} (h:1≤k∧k≤5):k=1∨k=2∨k=3∨k=4∨k=5:=by omega
theorem D3 {k:Int} (h:(!aG k 1 5)=false):1≤k∧k≤5:=by simpa [aG] using h
def CD (l:aE) (ws:List bX) (i:Nat):Bool :=
  if (((((!aG (ws.getD i eG).no 0 1048576)||((decide ((i:Int)>0))&&(decide ((ws.getD (((i:Int)-1)).toNat eG).no≥(ws.getD i eG).no))))||(!aG (ws.getD i eG).bidder 0 3))||(!aG (ws.getD i eG).most 1 64))||(!aG (ws.getD i eG).price 0 1048576))=true then false else
  if ((!aG (ws.getD i eG).kind 1 5)||(!kH l (ws.getD i eG)))=true then false else true
def xN (l:aE) (ws:List bX):Int :=
  if gM l≠0 then gM l else
  if (ws.length:Int)>64 then 2 else
  if (List.range ws.length).all (fun i=>CD l ws i)=true then 0 else 420
end Go.Fz
namespace Go.Proofs.YtfffbdmdllgalaaGreatDoor
open Go Go.RowKit Go.Fz
set_option maxRecDepth 10000
theorem KQ  (w:World):Calls Tryz.prog 71 #[] w (eB (PJ) w):=by
 refine dX [] Tryz.func71 rfl rfl rfl rfl fun _ s0=>wp_seq<|aA<|la s0 0 _ rfl aeF rfl rfl fun B1 a2 w3 s4=>aR rfl<|aD<|wp_seq<|aA<|zl s4 [0,6] [(0,Pt B1 0),(6,.agg #[.nilFunc,.nilFunc,.func (.func 123) #[] #[],.func (.func 124) #[] #[],.func (.func 125) #[] #[],.func (.func 126) #[] #[],.func (.func 128) #[] #[],.func (.func 129) #[] #[],.func (.func 130) #[] #[],.func (.func 131) #[] #[],.func (.func 132) #[] #[],.func (.func 133) #[] #[]])] 0 6 (qo (jL (P:=Tryz.prog) w3 95 [(0,.func (.func 123) #[] #[]),(1,.func (.func 124) #[] #[])] (.agg #[.func (.func 123) #[] #[],.func (.func 124) #[] #[]]) (fun _=>by kernel_rfl))<|qo (jL (P:=Tryz.prog) w3 95 [(0,.func (.func 125) #[] #[]),(1,.func (.func 126) #[] #[])] (.agg #[.func (.func 125) #[] #[],.func (.func 126) #[] #[]]) (fun _=>by kernel_rfl))<|qo (jL (P:=Tryz.prog) w3 95 [(0,.func (.func 128) #[] #[]),(1,.func (.func 129) #[] #[])] (.agg #[.func (.func 128) #[] #[],.func (.func 129) #[] #[]]) (fun _=>by kernel_rfl))<|qo (jL (P:=Tryz.prog) w3 95 [(0,.func (.func 130) #[] #[]),(1,.func (.func 131) #[] #[])] (.agg #[.func (.func 130) #[] #[],.func (.func 131) #[] #[]]) (fun _=>by kernel_rfl))<|qo (jL (P:=Tryz.prog) w3 95 [(0,.func (.func 132) #[] #[]),(1,.func (.func 133) #[] #[])] (.agg #[.func (.func 132) #[] #[],.func (.func 133) #[] #[]]) (fun _=>by kernel_rfl))<|qo (jL (P:=Tryz.prog) w3 96 [(1,.agg #[.func (.func 123) #[] #[],.func (.func 124) #[] #[]]),(2,.agg #[.func (.func 125) #[] #[],.func (.func 126) #[] #[]]),(3,.agg #[.func (.func 128) #[] #[],.func (.func 129) #[] #[]]),(4,.agg #[.func (.func 130) #[] #[],.func (.func 131) #[] #[]]),(5,.agg #[.func (.func 132) #[] #[],.func (.func 133) #[] #[]])] (.agg #[.nilFunc,.nilFunc,.func (.func 123) #[] #[],.func (.func 124) #[] #[],.func (.func 125) #[] #[],.func (.func 126) #[] #[],.func (.func 128) #[] #[],.func (.func 129) #[] #[],.func (.func 130) #[] #[],.func (.func 131) #[] #[],.func (.func 132) #[] #[],.func (.func 133) #[] #[]]) (fun _=>by kernel_rfl))<|qe) fun _ w6 s7=>dD s7 6 0 _ _ rfl rfl rfl rfl YW rfl rfl rfl rfl fun w8 s9=>aR rfl<|aD<|aC ?_
 refine pR [.agg #[.nilFunc,.nilFunc,.func (.func 123) #[] #[],.func (.func 124) #[] #[],.func (.func 125) #[] #[],.func (.func 126) #[] #[],.func (.func 128) #[] #[],.func (.func 129) #[] #[],.func (.func 130) #[] #[],.func (.func 131) #[] #[],.func (.func 132) #[] #[],.func (.func 133) #[] #[]]] rfl s9 ⟨⟨_,rfl,bQ (k:=0) s9 aeC rfl rfl⟩,trivial⟩<|?_
 exact aW s9 rfl
theorem afP {k:Int} (h:1≤k∧k≤5):Enters Tryz.prog (A5 k):=by
 rcases kU h with h | h | h | h | h <;> subst h
 ·exact ZV
 ·exact ZX
 ·exact ZZ
 ·exact Z1
 exact Z3
theorem afQ {k:Int} (h:1≤k∧k≤5):Enters Tryz.prog (A6 k):=by
 rcases kU h with h | h | h | h | h <;> subst h
 ·exact ZW
 ·exact ZY
 ·exact Z0
 ·exact Z2
 exact Z4
theorem CE {k:Int} (w:World) (h:1≤k∧k≤5):Yv Tryz.prog w (Instr.index 96 PJ (I k)) (.agg #[.func (.func (A5 k)) #[] #[],.func (.func (A6 k)) #[] #[]]):=by
 rcases kU h with h | h | h | h | h <;> subst h <;> exact Yv.intro fun _=>by kernel_rfl
theorem PK (l:aE) (x:bX) (w:World) (hL:LeagueAt w l) (hk:1≤x.kind∧x.kind≤5):Calls Tryz.prog (A5 x.kind) #[.agg (aB l).toArray,.agg (bE x).toArray] w (eB (Bo (kH l x)) w):=by
 rcases kU hk with h | h | h | h | h
 ·rw [show A5 x.kind=123 by rw [h]; rfl,show kH l x=DX l x by simp [kH,h]]; exact LY l x w hL
 ·rw [show A5 x.kind=125 by rw [h]; rfl,show kH l x=DY l x by simp [kH,h]]; exact LZ l x w hL
 ·rw [show A5 x.kind=128 by rw [h]; rfl,show kH l x=DZ l x by simp [kH,h]]; exact L0 l x w hL
 ·rw [show A5 x.kind=130 by rw [h]; rfl,show kH l x=D0 l x by simp [kH,h]]; exact L1 l x w hL
 rw [show A5 x.kind=132 by rw [h]; rfl,show kH l x=D1 l x by simp [kH,h]]; exact L3 l x w hL
theorem PL (x:bX) (g:dP) (f:bK) (w:World) (hk:1≤x.kind∧x.kind≤5):Calls Tryz.prog (A6 x.kind) #[.agg (bE x).toArray,.agg (cA g).toArray,.agg (bB f).toArray] w (eB (Bo (hS x g f)) w):=by
 rcases kU hk with h | h | h | h | h
 ·rw [show A6 x.kind=124 by rw [h]; rfl,show hS x g f=SY x g f by simp [hS,h]]; exact IJ x g f w
 ·rw [show A6 x.kind=126 by rw [h]; rfl,show hS x g f=SZ x g f by simp [hS,h]]; exact IK x g f w
 ·rw [show A6 x.kind=129 by rw [h]; rfl,show hS x g f=S0 x g f by simp [hS,h]]; exact IL x g f w
 ·rw [show A6 x.kind=131 by rw [h]; rfl,show hS x g f=S1 x g f by simp [hS,h]]; exact IM x g f w
 rw [show A6 x.kind=133 by rw [h]; rfl,show hS x g f=S2 x g f by simp [hS,h]]; exact IN x g f w
theorem oG (l:aE) (wA:Option Addr) (ws:List bX) (wC:Nat) (w:World) (h69:C69) (hG:Glb w) (hL:LeagueAt w l) (hw:Row w wA 7 bE ws):Calls Tryz.prog 29 #[.agg (aB l).toArray,.slice wA ws.length wC] w (eB (I (xN l ws)) w):=by
 refine dX [.agg (aB l).toArray,.slice wA ws.length wC] Tryz.func29 rfl rfl rfl rfl fun _ s0=>?_
 have smx1:=hL.sm
 have sm10:=hw.small
 refine wp_seq<|aA<|lb s0 0 _ rfl rfl rfl rfl fun B1 a2 w3 s4=>zl s4 [1,2] [(1,.slice wA ws.length wC),(2,Pt B1 0)] 1 1 qe fun _ w6 s7=>aR rfl<|aD<|wp_seq<|d5 s7 [1,2,4] [401] [] (qo (s7.m.lda 34 0 0 cS rfl rfl rfl)<|qo (yc w6 ZJ fun w' hb=>h69 l w' ((hG.up s7.m).grow hb) ((hL.up s7.m).grow hb))<|qe) fun _ w9 s10=>zs s10 [1,2,4,10] [(10,Bo ((gM l) != 0))] qe fun _ w12 s13=>jQ s13.f rfl (fun h14=>?_) (fun h14=>?_)
 ·refine zs s13 [4] [] qe fun _ w16 s17=>aC<|aN (pR [I (gM l)] rfl s17 ⟨rfl,trivial⟩ ?_)
  exact aW s17 (congrArg I (iP h14 rfl).symm)
 refine wp_skip<|aD<|wp_seq<|zs s13 [1,2,14] [(14,Bo (decide ((ws.length:Int)>64)))] (qo (ln w12 3 wA ws.length wC pZ)<|qe) fun _ w19 s20=>aQ s20.f rfl (fun h21=>?_) (fun h21=>?_)
 ·refine zs s20 [4] [(4,I 2)] qe fun _ w23 s24=>aC<|aN (pR [I 2] rfl s24 ⟨rfl,trivial⟩ ?_)
  exact aW s24 (congrArg I (iN h14 (iP h21 rfl)).symm)
 refine wp_skip<|aD<|wp_seq<|d5 s20 [1,2,15,16,17] [1600] [(15,.slice wA ws.length wC),(17,I 0)] (qo (ln w19 3 wA ws.length wC pZ)<|qe) fun _ w26 s27=>wp_block<|aO (α:=Nat) (fun k aI wI=>(k≤ws.length)∧(Sta 75 [] w [⟨1,[],.slice wA ws.length wC⟩,⟨2,[],Pt B1 0⟩,⟨15,[],.slice wA ws.length wC⟩,⟨16,[],I (ws.length:Int)⟩,⟨17,[],I (k:Int)⟩] [cI B1 34 (aB l)] aI wI)∧(∀ iI,iI<k→∀ xI,(List.range ws.length)[iI]?=some xI→(fun i=>CD l ws i) xI=true)) (fun k=>ws.length-k) 0 ⟨Nat.zero_le _,s27.keep [1,2,15,16,17] (by kernel_rfl),fun i h=>(Nat.not_lt_zero i h).elim⟩<|?_
 rintro k a30 w29 ⟨k_le,s28,inv_k⟩
 refine zs s28 [1,2,15,16,17,18] [(18,Bo (decide ((k:Int)<(ws.length:Int))))] qe fun _ w32 s33=>wp_seq<|aQ s33.f rfl (fun h34=>?_) (fun h34=>?_)
 ·have k_lt:k<ws.length:=by omega
  have hx35:(List.range ws.length)[k]?=some k:=List.getElem?_range k_lt
  have hx36:ws[k]?=some (ws.getD k eG):=bC (by omega)
  have hprev:ws[((k:Int)-1).toNat]?=some (ws.getD (((k:Int)-1).toNat) eG):=bC (by omega)
  refine wp_skip<|aD<|wp_seq<|wp_block<|wp_seq<|aA<|zl s33 [1,2,15,16,17,19,21] [(19,I (k:Int)),(21,.agg (bE (ws.getD k eG)).toArray)] 0 3 (qo ((hw.up s33.m).ia wC k pZ sH (by omega))<|qo ((hw.up s33.m).lda 43 k 0 pB hx36 rfl rfl)<|qe) fun _ w38 s39=>la s39 3 _ rfl WZ rfl rfl fun B40 a41 w42 s43=>zl s43 [1,2,5,6,15,16,17,21] [(5,I (k:Int)),(6,Pt B40 0)] 4 1 qe fun _ w45 s46=>dD s46 5 0 _ _ rfl rfl rfl rfl sH rfl rfl rfl rfl fun w47 s48=>aR rfl<|aD<|wp_seq ?_
  refine wp_seq<|zr s48 [1,2,6,15,16,17,58] [(58,Bo (((((!(aG ((ws.getD k eG).no) 0 1048576))||((decide ((k:Int)>0))&&(decide ((ws.getD (((k:Int)-1).toNat) eG).no≥((ws.getD k eG).no)))))||(!(aG ((ws.getD k eG).bidder) 0 3)))||(!(aG ((ws.getD k eG).most) 1 64)))||(!(aG ((ws.getD k eG).price) 0 1048576))))] MO (qo (fa w47 B40 0 wG)<|qo (s48.m.ld 3 0 0 bM rfl rfl)<|qo (yc w47 tO fun w' hb=>gO ((ws.getD k eG).no) 0 1048576 w')<|qv (fun (g0:(!(aG ((ws.getD k eG).no) 0 1048576))=false)=>fun (g1:(decide ((k:Int)>0))=true)=>wr ((k:Int)-1) ((k:Int)-1) (by first | omega | (simp only [xV] at *; omega)))<|qv (fun (g0:(!(aG ((ws.getD k eG).no) 0 1048576))=false)=>fun (g1:(decide ((k:Int)>0))=true)=>(hw.up s48.m).iaI wC ((k:Int)-1) pZ sH (by first | omega | (simp only [xV] at *; omega)))<|qo (jZ w47 wA ((((k:Int)-1).toNat)*7) wG)<|qo ((hw.up s48.m).ld 3 (((k:Int)-1).toNat) 0 bM hprev rfl)<|qo (fa w47 B40 0 wG)<|qo (s48.m.ld 3 0 0 bM rfl rfl)<|qo (fa w47 B40 0 H5)<|qo (s48.m.ld 3 0 1 bM rfl rfl)<|qo (yc w47 tO fun w' hb=>gO ((ws.getD k eG).bidder) 0 3 w')<|qo (fa w47 B40 0 H6)<|qo (s48.m.ld 3 0 5 bM rfl rfl)<|qo (yc w47 tO fun w' hb=>gO ((ws.getD k eG).most) 1 64 w')<|qo (fa w47 B40 0 H7)<|qo (s48.m.ld 3 0 6 bM rfl rfl)<|qo (yc w47 tO fun w' hb=>gO ((ws.getD k eG).price) 0 1048576 w')<|qe) fun _ w50 s51=>aD<|cO s51.f rfl (fun h52=>?_) (fun h52=>?_)
  ·refine zs s51 [4] [(4,I 420)] qe fun _ w54 s55=>aC<|aN (bP (aN (aN (bP (aN (pR [I 420] rfl s55 ⟨rfl,trivial⟩ ?_))))))
   exact aW s55 (congrArg I (iN h14 (iM h21 (iF (bI hx35 (iP h52 rfl)) rfl))).symm)
  refine wp_skip<|aD<|wp_seq<|zr s51 [1,2,15,16,17,73] [(73,Bo ((!(aG ((ws.getD k eG).kind) 1 5))||(!(kH l (ws.getD k eG)))))] MO (qo (fa w50 B40 0 zJ)<|qo (s51.m.ld 3 0 2 bM rfl rfl)<|qo (yc w50 tO fun w' hb=>gO ((ws.getD k eG).kind) 1 5 w')<|qo (yc w50 ZK fun w' hb=>KQ w')<|qo (fa w50 B40 0 zJ)<|qo (s51.m.ld 3 0 2 bM rfl rfl)<|qu (fun (g0:(!(aG ((ws.getD k eG).kind) 1 5))=false)=>CE w50 (D3 g0))<|qo (fld w50 [.func (.func (A5 ((ws.getD k eG).kind))) #[] #[],.func (.func (A6 ((ws.getD k eG).kind))) #[] #[]] W0 ae5 rfl)<|qo (s51.m.lda 34 1 0 cS rfl rfl rfl)<|qo (s51.m.lda 43 0 0 pB rfl rfl rfl)<|qu (fun (g0:(!(aG ((ws.getD k eG).kind) 1 5))=false)=>yc w50 (afP (D3 g0)) fun w' hb=>PK l (ws.getD k eG) w' ((hL.up s51.m).grow hb) (D3 g0))<|qe) fun _ w57 s58=>aD<|cO s58.f rfl (fun h59=>?_) (fun h59=>?_)
  ·refine zs s58 [4] [(4,I 420)] qe fun _ w61 s62=>aC<|bP (aN (aN (bP (aN (pR [I 420] rfl s62 ⟨rfl,trivial⟩ ?_)))))
   exact aW s62 (congrArg I (iN h14 (iM h21 (iF (bI hx35 (iF h52 (iP h59 rfl))) rfl))).symm)
  refine wp_skip<|c9 (aD ?_)
  refine dU s58 [1,2,15,16,17] [1700] [] (qo (wr ((k:Int)+1) ((k+1:Nat):Int) (by omega))<|qe) fun _ w64 s65=>aD<|?_
  exact ⟨(k+1),⟨by omega,(s65.keep [1,2,15,16,17] (by kernel_rfl)).sub (.cons _ (.refl _)),aM inv_k (fun y hy=>by rw [hx35] at hy; cases hy; exact (iF h52 (iF h59 rfl)))⟩,by omega⟩
 have k_eq:k=ws.length:=by omega
 have A66:(List.range ws.length).all (fun i=>CD l ws i)=true:=dG (by rw [k_eq] at inv_k; exact inv_k)
 refine wp_exit<|aY (aY (cP (aD ?_)))
 refine zs s33 [4] [(4,I 0)] qe fun _ w68 s69=>aC<|pR [I 0] rfl s69 ⟨rfl,trivial⟩<|?_
 exact aW s69 (congrArg I (iN h14 (iM h21 (iP A66 rfl))).symm)
theorem GL (x:bX) (g:dP) (f:bK) (w:World) (hk:1≤x.kind∧x.kind≤5):Calls Tryz.prog 75 #[.agg (bE x).toArray,.agg (cA g).toArray,.agg (bB f).toArray] w (eB (Bo ((decide (f.day≥0))&&hS x g f)) w):=by
 refine dX [.agg (bE x).toArray,.agg (cA g).toArray,.agg (bB f).toArray] Tryz.func75 rfl rfl rfl rfl fun _ s0=>wp_seq<|aA<|lb s0 0 _ rfl rfl rfl rfl fun B1 a2 w3 s4=>lb s4 1 _ rfl rfl rfl rfl fun B5 a6 w7 s8=>lb s8 2 _ rfl rfl rfl rfl fun B9 a10 w11 s12=>zl s12 [3,4,5] [(3,Pt B1 0),(4,Pt B5 0),(5,Pt B9 0)] 3 1 qe fun _ w14 s15=>aR rfl<|aD<|wp_seq<|zr s15 [6] [(6,Bo ((decide (f.day≥0))&&(hS x g f)))] MO (qo (fa w14 B9 0 wH)<|qo (s15.m.ld 3 0 0 bM rfl rfl)<|qo (yc w14 ZK fun w' hb=>KQ w')<|qo (fa w14 B1 0 zJ)<|qo (s15.m.ld 3 2 2 bM rfl rfl)<|qo (CE w14 hk)<|qo (fld w14 [.func (.func (A5 x.kind)) #[] #[],.func (.func (A6 x.kind)) #[] #[]] W1 ae6 rfl)<|qo (s15.m.lda 43 2 0 pB rfl rfl rfl)<|qo (s15.m.lda 62 1 0 rN rfl rfl rfl)<|qo (s15.m.lda 57 0 0 A4 rfl rfl rfl)<|qo (yc w14 (afQ hk) fun w' hb=>PL x g f w' hk)<|qe) fun _ w17 s18=>aD<|aC ?_
 refine pR [Bo ((decide (f.day≥0))&&(hS x g f))] rfl s18 ⟨rfl,trivial⟩<|?_
 exact aW s18 (congrArg Bo (rfl).symm)
end Go.Proofs.YtfffbdmdllgalaaGreatDoor
namespace Go.Fz
open Go Go.RowKit
theorem L5 {k:Int} (h:¬ (1≤k∧k≤5)):aG k 1 5=false:=by
  cases hw:aG k 1 5
  · rfl
  · exact absurd (by simpa [aG] using hw) h
theorem IP {k:Int} (h:1≤k∧k≤5):aG k 1 5=true:=by simpa [aG] using h
theorem GM (l:aE) (x:bX):rH l x =
    (!(((!aG x.no 0 1048576)||(!aG x.bidder 0 3))||(!aG x.most 1 64)) && !(!aG x.price 0 1048576)&&(aG x.kind 1 5&&kH l x)):=by
  unfold rH
  cases aG x.no 0 1048576 <;> cases aG x.bidder 0 3 <;> cases aG x.most 1 64 <;> cases aG x.price 0 1048576 <;> try rfl
  by_cases hk:1≤x.kind∧x.kind≤5
  · rw [IP hk]
    rcases kU hk with h | h | h | h | h <;> simp [h,kH,DX,DY,DZ,D0,D1]
  · rw [L5 hk,if_neg (by decide),if_neg (by omega),if_neg (by omega),if_neg (by omega),if_neg (by omega),if_neg (by omega)]
    rfl
theorem PM (l:aE) (ws:List bX) (i:Nat):CD l ws i=tP l ws i:=by
  unfold CD tP
  rw [GM]
  generalize ws.getD i eG=x
  generalize ((decide ((i:Int)>0))&&(decide ((ws.getD (((i:Int)-1)).toNat eG).no≥x.no)))=b
  cases aG x.no 0 1048576 <;> cases aG x.bidder 0 3 <;> cases aG x.most 1 64 <;> cases aG x.price 0 1048576 <;> cases b <;> cases aG x.kind 1 5 <;> cases kH l x <;> rfl
theorem KR (l:aE) (ws:List bX):xN l ws=mR l ws:=by
  unfold xN mR
  rw [show (fun i=>CD l ws i)=tP l ws from funext fun i=>PM l ws i]
def kZ (l:aE) (g:List dP) (f:List bK) (ws:List bX):Int:=if IO l g f≠0 then IO l g f else xN l ws
theorem u6 (l:aE) (g:List dP) (f:List bK) (ws:List bX):kZ l g f ws=if kY l g f≠0 then kY l g f else mR l ws:=by
  unfold kZ; rw [S6,KR]
theorem zX {l:aE} {g:List dP} {f:List bK} {ws:List bX} (h:kZ l g f ws=0):kY l g f=0∧mR l ws=0:=by
  rw [u6] at h
  by_cases h1:kY l g f=0
  · rw [if_neg (by simpa using h1)] at h; exact ⟨h1,h⟩
  · rw [if_pos h1] at h; exact absurd h h1
theorem tR {l:aE} {ws:List bX} (h:mR l ws=0) {x:bX} (hx:x∈ws):rH l x=true:=by
  unfold mR at h
  split at h
  · exact absurd h (by assumption)
  split at h
  · cases h
  split at h
  · rename_i h1
    obtain ⟨i,hi,rfl⟩:=List.getElem_of_mem hx
    have:=List.all_eq_true.1 h1 i (List.mem_range.2 hi)
    unfold tP at this
    rw [List.getD_eq_getElem?_getD,List.getElem?_eq_getElem hi] at this
    cases hw:rH l ws[i]
    · simp [hw] at this
    · rfl
  · cases h
theorem tS {l:aE} {x:bX} (h:rH l x=true):1≤x.kind∧x.kind≤5:=by
  rw [GM] at h
  simp only [Bool.and_eq_true] at h
  simpa [aG] using h.2.1
def eM (l:aE) (g:List dP) (f:List bK) (x:bX) (z:Int):Bool × Int :=
  if kZ l g f [x]≠0 then (false,kZ l g f [x]) else
  if aG z 0 ((g.length:Int)-1)=false then (false,1) else
  ((decide ((f.getD z.toNat dJ).day≥0))&&hS x (g.getD z.toNat cM) (f.getD z.toNat dJ),0)
end Go.Fz
namespace Go.Proofs.YtfffbdmdllgalaaGreatDoor
open Go Go.RowKit Go.Fz
set_option maxRecDepth 10000
theorem KS (l:aE) (gA:Option Addr) (g:List dP) (gC:Nat) (fA:Option Addr) (f:List bK) (fC:Nat) (wA:Option Addr) (ws:List bX) (wC:Nat) (w:World) (h69:C69) (hG:Glb w) (hL:LeagueAt w l) (hg:Row w gA 9 cA g) (hf:Row w fA 3 bB f) (hw:Row w wA 7 bE ws):Calls Tryz.prog 74 #[.agg (aB l).toArray,.slice gA g.length gC,.slice fA f.length fC,.slice wA ws.length wC] w (eB (I (kZ l g f ws)) w):=by
 refine dX [.agg (aB l).toArray,.slice gA g.length gC,.slice fA f.length fC,.slice wA ws.length wC] Tryz.func74 rfl rfl rfl rfl fun _ s0=>?_
 have smx1:=hL.sm
 have sm10:=hg.small
 have sm11:=hf.small
 have sm12:=hw.small
 refine wp_seq<|aA<|lb s0 0 _ rfl rfl rfl rfl fun B1 a2 w3 s4=>zl s4 [1,2,3,4] [(1,.slice gA g.length gC),(2,.slice fA f.length fC),(3,.slice wA ws.length wC),(4,Pt B1 0)] 1 1 qe fun _ w6 s7=>aR rfl<|aD<|wp_seq<|d5 s7 [3,4,8] [801] [] (qo (s7.m.lda 34 0 0 cS rfl rfl rfl)<|qo (yc w6 aa0 fun w' hb=>PH l gA g gC fA f fC w' h69 ((hG.up s7.m).grow hb) ((hL.up s7.m).grow hb) ((hg.up s7.m).grow hb) ((hf.up s7.m).grow hb))<|qe) fun _ w9 s10=>zs s10 [3,4,8,14] [(14,Bo ((IO l g f) != 0))] qe fun _ w12 s13=>jQ s13.f rfl (fun h14=>?_) (fun h14=>?_)
 ·refine zs s13 [8] [] qe fun _ w16 s17=>aC<|aN (pR [I (IO l g f)] rfl s17 ⟨rfl,trivial⟩ ?_)
  exact aW s17 (congrArg I (iP h14 rfl).symm)
 refine wp_skip<|aD<|d5 s13 [8] [801] [] (qo (s13.m.lda 34 0 0 cS rfl rfl rfl)<|qo (yc w12 F9 fun w' hb=>oG l wA ws wC w' h69 ((hG.up s13.m).grow hb) ((hL.up s13.m).grow hb) ((hw.up s13.m).grow hb))<|qe) fun _ w19 s20=>aC<|pR [I (xN l ws)] rfl s20 ⟨rfl,trivial⟩<|?_
 exact aW s20 (congrArg I (iN h14 rfl).symm)
theorem rR (l:aE) (gA:Option Addr) (g:List dP) (gC:Nat) (fA:Option Addr) (f:List bK) (fC:Nat) (x:bX) (z:Int) (w:World) (h69:C69) (hG:Glb w) (hL:LeagueAt w l) (hg:Row w gA 9 cA g) (hf:Row w fA 3 bB f):Calls Tryz.prog 31 #[.agg (aB l).toArray,.slice gA g.length gC,.slice fA f.length fC,.agg (bE x).toArray,I z] w (eB (.tuple #[Bo (eM l g f x z).1,I (eM l g f x z).2]) w):=by
 refine dX [.agg (aB l).toArray,.slice gA g.length gC,.slice fA f.length fC,.agg (bE x).toArray,I z] Tryz.func31 rfl rfl rfl rfl fun _ s0=>?_
 have smx1:=hL.sm
 have sm10:=hg.small
 have sm11:=hf.small
 refine wp_seq<|aA<|lb s0 0 _ rfl rfl rfl rfl fun B1 a2 w3 s4=>lb s4 1 _ rfl rfl rfl rfl fun B5 a6 w7 s8=>zl s8 [1,2,4,5,8] [(1,.slice gA g.length gC),(2,.slice fA f.length fC),(4,I z),(5,Pt B1 0),(8,Pt B5 0)] 2 2 qe fun _ w10 s11=>aR rfl<|aD<|wp_seq<|wp_seq<|aA<|zl s11 [1,2,4,8,12,13,14,15] [(12,.agg (aB l).toArray),(13,.slice gA g.length gC),(14,.slice fA f.length fC),(15,.agg (bE x).toArray)] 0 4 (qo (s11.m.lda 34 1 0 cS rfl rfl rfl)<|qo (s11.m.lda 43 0 0 pB rfl rfl rfl)<|qe) fun _ w13 s14=>lR s14 4 (vs:=[.agg (bE x).toArray]) (e:=43) (bE x) rfl rfl (fun _=>by kernel_rfl) rfl fun B15 a16 w17 s18=>fJ s18 [1,2,4,8,11] [1100] [] 5 2 (qo (yc w17 ZM fun w' hb=>KS l gA g gC fA f fC (some ⟨B15,0,none⟩) ([x]) 1 w' h69 ((hG.up s18.m).grow hb) ((hL.up s18.m).grow hb) ((hg.up s18.m).grow hb) ((hf.up s18.m).grow hb) ((s18.m.rowc (enc:=bE) 0 ([x]) rfl gN rfl (Nat.le_of_ble_eq_true rfl)).grow hb))<|qe) fun _ w20 s21=>?_
 refine aR rfl<|aD<|zs s21 [1,2,4,8,11,19] [(19,Bo ((kZ l g f ([x])) != 0))] qe fun _ w23 s24=>jQ s24.f rfl (fun h25=>?_) (fun h25=>?_)
 ·refine zs s24 [10,11] [(10,Bo false)] qe fun _ w27 s28=>aC<|aN (pR [Bo false,I (kZ l g f ([x]))] rfl s28 ⟨rfl,rfl,trivial⟩ ?_)
  have hR:eM l g f x z=(false,kZ l g f ([x])):=iP h25 rfl
  exact gX s28 (congrArg (fun r=>Bo r.1) hR.symm) (congrArg (fun r=>I r.2) hR.symm)
 refine wp_skip<|aD<|wp_seq<|zs s24 [1,2,4,8,26] [(26,Bo (!(aG z 0 ((g.length:Int)-1))))] (qo (ln w23 3 gA g.length gC pY)<|qo (wr ((g.length:Int)-1) ((g.length:Int)-1) (by omega))<|qo (yc w23 tO fun w' hb=>gO z 0 ((g.length:Int)-1) w')<|qe) fun _ w30 s31=>bR s31.f rfl (fun h32=>?_) (fun h32=>?_)
 ·refine zs s31 [10,11] [(10,Bo false),(11,I 1)] qe fun _ w34 s35=>aC<|aN (pR [Bo false,I 1] rfl s35 ⟨rfl,rfl,trivial⟩ ?_)
  have hR:eM l g f x z=(false,1):=iN h25 (iP h32 rfl)
  exact gX s35 (congrArg (fun r=>Bo r.1) hR.symm) (congrArg (fun r=>I r.2) hR.symm)
 refine wp_skip<|aD<|wp_seq<|?_
 have hz:0≤z∧z<g.length:=by
  have:=h32
  simp [aG] at this
  omega
 have hc0:=zX h25
 have hfl:=sA hc0.1
 have hz2:0≤z∧z<f.length:=by omega
 have hkx:=tS (tR hc0.2 (List.mem_singleton.2 rfl))
 have hgz:g[z.toNat]?=some (g.getD z.toNat cM):=bC (by omega)
 have hfz:f[z.toNat]?=some (f.getD z.toNat dJ):=bC (by omega)
 refine HT s31 [10,11] [1005] [(11,I 0)] MO (qo (s31.m.lda 43 1 0 pB rfl rfl rfl)<|qo ((hg.up s31.m).iaI gC z pY DE hz)<|qo ((hg.up s31.m).lda 62 z.toNat 0 rN hgz rfl rfl)<|qo ((hf.up s31.m).iaI fC z uT A3 hz2)<|qo ((hf.up s31.m).lda 57 z.toNat 0 A4 hfz rfl rfl)<|qo (yc w30 ZN fun w' hb=>GL x (g.getD z.toNat cM) (f.getD z.toNat dJ) w' hkx)<|qe) fun _ w37 s38=>aD<|aC<|pR [Bo ((decide ((f.getD z.toNat dJ).day≥0))&&hS x (g.getD z.toNat cM) (f.getD z.toNat dJ)),I 0] rfl s38 ⟨rfl,rfl,trivial⟩<|?_
 have hR:eM l g f x z=((decide ((f.getD z.toNat dJ).day≥0))&&hS x (g.getD z.toNat cM) (f.getD z.toNat dJ),0):=iN h25 (iT h32 rfl)
 exact gX s38 (congrArg (fun r=>Bo r.1) hR.symm) (congrArg (fun r=>I r.2) hR.symm)
end Go.Proofs.YtfffbdmdllgalaaGreatDoor
namespace Go.Fz
open Go Go.RowKit
theorem L6 {l:aE} {x:bX} {g:dP} {f:bK} (hk:1≤x.kind∧x.kind≤5) (hf:xL l g f=true):((decide (f.day≥0))&&hS x g f)=wD g f x:=by
  unfold wD
  cases hn:jM f dJ with
  | true =>
    rw [(AZ _ _).1 hn]
    rfl
  | false =>
    unfold xL at hf
    rw [hn] at hf
    simp only [Bool.false_eq_true,if_false,Bool.and_eq_true] at hf
    obtain ⟨⟨⟨⟨⟨h1,h2⟩,_⟩,_⟩,_⟩,_⟩:=hf
    have hd:decide (f.day≥0)=true:=by have:=uL.1 h2; exact decide_eq_true this.1
    have hp:∀ t,nM g t=nN g t:=fun t=>by
      simp only [rE,Bool.and_eq_true] at h1
      simp only [nM,nN,h1.1,h1.2,Bool.true_and]
    rw [hd,Bool.true_and,if_neg (by decide)]
    rcases kU hk with h | h | h | h | h <;> simp [h,hS,SY,SZ,S0,S1,S2,hp]
theorem L7 {l:aE} {g:List dP} {f:List bK} (h:kY l g f=0) {i:Nat} (hi:i<f.length):xL l (g.getD i cM) (f.getD i dJ)=true:=by
  unfold kY at h
  split at h
  · exact absurd h (by assumption)
  split at h
  · cases h
  split at h
  · cases h
  split at h
  · rename_i h1
    exact List.all_eq_true.1 h1 i (List.mem_range.2 hi)
  · cases h
theorem zY (l:aE) (g:List dP) (f:List bK) (x:bX) (z:Int):eM l g f x z=eW l g f x z:=by
  unfold eM eW
  by_cases h1:kY l g f=0
  · by_cases h2:mR l [x]=0
    · have h0:kZ l g f [x]=0:=by rw [u6,if_neg (by simpa using h1),h2]
      rw [if_neg (show ¬ (kZ l g f [x]≠0) by simpa using h0),if_pos h1,if_neg (show ¬ (mR l [x]≠0) by simpa using h2)]
      by_cases hz:0≤z∧z<g.length
      · rw [if_neg (show ¬ (aG z 0 ((g.length:Int)-1)=false) by simp [aG]; omega),if_neg (show ¬ (((decide (z<0))||(decide (z≥(g.length:Int))))=true) by simp; omega),L6 (tS (tR h2 (List.mem_singleton.2 rfl))) (L7 h1 (by rw [sA h1]; omega))]
      · rw [if_pos (show aG z 0 ((g.length:Int)-1)=false by simp [aG]; omega),if_pos (show ((decide (z<0))||(decide (z≥(g.length:Int))))=true by simp; omega)]
    · have h0:kZ l g f [x]=mR l [x]:=by rw [u6,if_neg (by simpa using h1)]
      rw [h0,if_pos h2,if_pos h1,if_pos h2]
  · have h0:kZ l g f [x]=kY l g f:=by rw [u6,if_pos h1]
    rw [h0,if_pos h1,if_neg h1]
end Go.Fz
namespace Go.Fz
open Go Go.RowKit
def A7 (l:List Int):Int:=match l.findIdx? (fun o => !aG o (-1) 3) with | some i=>i | none => -1
theorem L8 {l:List Int} {k:Nat} {x:Int} (h:l[k]?=some x) (hx:(!aG x (-1) 3)=true) (h2:∀ j,j<k→∀ y,l[j]?=some y→(!aG y (-1) 3)=false):A7 l=k:=by
  have:l.findIdx? (fun o => !aG o (-1) 3)=some k:=by
    rw [List.findIdx?_eq_some_iff_getElem]
    obtain ⟨hk,e⟩:=List.getElem?_eq_some_iff.1 h
    refine ⟨hk,by rw [e]; exact hx,fun j hj=>?_⟩
    rw [h2 j hj _ (List.getElem?_eq_getElem (by omega))]
    decide
  unfold A7; rw [this]
theorem L9 {l:List Int} (h:∀ j,j<l.length→∀ y,l[j]?=some y→(!aG y (-1) 3)=false):A7 l = -1:=by
  unfold A7
  rw [List.findIdx?_eq_none_iff.2 ?_]
  intro x hm
  obtain ⟨j,hj,e⟩:=List.getElem_of_mem hm
  exact h j hj x (by rw [List.getElem?_eq_getElem hj,e])
end Go.Fz
namespace Go.Proofs.YtfffbdmdllgalaaGreatDoor
open Go Go.RowKit Go.Fz
set_option maxRecDepth 10000
theorem acZ (o:Int) (w:World):Calls Tryz.prog 78 #[I o] w (eB (Bo (!aG o (-1) 3)) w):=by
 refine dX [I o] Tryz.func78 rfl rfl rfl rfl fun _ s0=>zs s0 [0] [(0,I o)] qe fun _ w2 s3=>zs s3 [2] [(2,Bo (!(aG o (-1) 3)))] (qo (yc w2 tO fun w' hb=>gO o (-1) 3 w')<|qe) fun _ w5 s6=>aC<|pR [Bo (!(aG o (-1) 3))] rfl s6 ⟨rfl,trivial⟩<|?_
 exact aW s6 (congrArg Bo (rfl).symm)
theorem PN (oa:Option Addr) (l:List Int) (c:Nat) (w:World) (hl:Row w oa 1 iO l):Calls Tryz.prog 141 #[.slice oa l.length c,.func (.func 78) #[] #[]] w (eB (I (A7 l)) w):=by
 refine dX [.slice oa l.length c,.func (.func 78) #[] #[]] Tryz.func141 rfl rfl rfl rfl fun _ s0=>?_
 have sm0:=hl.small
 refine zs s0 [0,1] [(0,.slice oa l.length c),(1,.func (.func 78) #[] #[])] qe fun _ w2 s3=>wp_seq<|d5 s3 [0,1,7,8] [700] [(8,I 0)] (qo (ln w2 3 oa l.length c eX)<|qe) fun _ w5 s6=>wp_block<|aO (α:=Nat) (fun k aI wI=>(k≤l.length)∧(Sta 19 [] w [⟨0,[],.slice oa l.length c⟩,⟨1,[],.func (.func 78) #[] #[]⟩,⟨7,[],I (l.length:Int)⟩,⟨8,[],I (k:Int)⟩] [] aI wI)∧(∀ i,i<k→∀ y,l[i]?=some y→(!aG y (-1) 3)=false)) (fun k=>l.length-k) 0 ⟨Nat.zero_le _,s6.keep [0,1,7,8] (by kernel_rfl),fun i h=>(Nat.not_lt_zero i h).elim⟩<|?_
 rintro k a9 w8 ⟨k_le,s7,inv⟩
 refine zs s7 [0,1,7,8,9] [(9,Bo (decide ((k:Int)<(l.length:Int))))] qe fun _ w11 s12=>wp_seq<|aQ s12.f rfl (fun h13=>?_) (fun h13=>?_)
 ·have k_lt:k<l.length:=by omega
  obtain ⟨x,hx14⟩:=cD (xs:=l) k_lt
  refine wp_skip<|aD<|wp_seq<|wp_block<|zs s12 [0,1,5,7,8] [(5,I (k:Int))] qe fun _ w16 s17=>d5 s17 [0,1,5,7,8,16] [1602] [] (qo ((hl.up s17.m).ia c k eX hP (by omega))<|qo ((hl.up s17.m).ld 3 k 0 bM hx14 rfl)<|qo (yc w16 aeO fun w' hb=>acZ x w')<|qe) fun _ w19 s20=>bR s20.f rfl (fun h21=>?_) (fun h21=>?_)
  ·refine zs s20 [4] [(4,I (k:Int))] qe fun _ w23 s24=>aC<|bP (aN (aN (bP (aN (pR [I (k:Int)] rfl s24 ⟨rfl,trivial⟩ ?_)))))
   exact aW s24 (congrArg I (L8 hx14 (by rw [h21]; rfl) inv).symm)
  refine wp_skip<|c9 (aD ?_)
  refine dU s20 [0,1,7,8] [800] [] (qo (wr ((k:Int)+1) ((k+1:Nat):Int) (by omega))<|qe) fun _ w26 s27=>aD<|?_
  exact ⟨(k+1),⟨by omega,s27.keep [0,1,7,8] (by kernel_rfl),aM inv (by intro y hy; rw [hx14] at hy; rw [← Option.some.inj hy]; rw [h21]; rfl)⟩,by omega⟩
 have k_eq:k=l.length:=by omega
 refine wp_exit<|aY (aY (cP (aD ?_)))
 refine zs s12 [4] [(4,I (-1))] qe fun _ w29 s30=>aC<|pR [I (-1)] rfl s30 ⟨rfl,trivial⟩<|?_
 exact aW s30 (congrArg I (L9 (by rw [k_eq] at inv; exact inv)).symm)
theorem IQ (oa:Option Addr) (l:List Int) (c:Nat) (w:World) (hl:Row w oa 1 iO l):Calls Tryz.prog 77 #[.slice oa l.length c,.func (.func 78) #[] #[]] w (eB (Bo (decide (A7 l≥0))) w):=by
 refine dX [.slice oa l.length c,.func (.func 78) #[] #[]] Tryz.func77 rfl rfl rfl rfl fun _ s0=>?_
 have sm0:=hl.small
 refine zs s0 [0,1] [(0,.slice oa l.length c),(1,.func (.func 78) #[] #[])] qe fun _ w2 s3=>zs s3 [4] [(4,Bo (decide (A7 l≥0)))] (qo (yc w2 aa1 fun w' hb=>PN oa l c w' ((hl.up s3.m).grow hb))<|qe) fun _ w5 s6=>aC<|pR [Bo (decide (A7 l≥0))] rfl s6 ⟨rfl,trivial⟩<|?_
 exact aW s6 (congrArg Bo (rfl).symm)
end Go.Proofs.YtfffbdmdllgalaaGreatDoor
namespace Go.Proofs.YtfffbdmdllgalaaGreatDoor
open Go Go.RowKit Go.Fz
set_option maxRecDepth 10000
theorem S7 (t:V0) (w:World):Calls Tryz.prog 80 #[.agg (GI t).toArray] w (eB (I (IntKind.i64.wrap (t.x.price*(if t.x.most<t.many then t.x.most else t.many)))) w):=by
 refine dX [.agg (GI t).toArray] Tryz.func80 rfl rfl rfl rfl fun _ s0=>wp_seq<|aA<|lb s0 0 _ rfl rfl rfl rfl fun B1 a2 w3 s4=>zl s4 [1] [(1,Pt B1 0)] 1 1 qe fun _ w6 s7=>aR rfl<|aD<|d5 s7 [2] [209] [] (qo (fa w6 B1 0 JM)<|qo (fa w6 B1 0 H7)<|qo (s7.m.ld 3 0 6 bM rfl rfl)<|qo (fa w6 B1 0 DJ)<|qo (s7.m.ld 3 0 7 bM rfl rfl)<|qo (fa w6 B1 0 JM)<|qo (fa w6 B1 0 H6)<|qo (s7.m.ld 3 0 5 bM rfl rfl)<|qo (UU (P:=Tryz.prog) w6 #[3,3] 3 t.many t.x.most)<|qo (rfl:Value.int .i64 (IntKind.i64.wrap (t.x.price*(if t.x.most<t.many then t.x.most else t.many)))=I (IntKind.i64.wrap (t.x.price*(if t.x.most<t.many then t.x.most else t.many))))<|qe) fun _ w9 s10=>aC<|pR [I (IntKind.i64.wrap (t.x.price*(if t.x.most<t.many then t.x.most else t.many)))] rfl s10 ⟨rfl,trivial⟩<|?_
 exact aW s10 rfl
end Go.Proofs.YtfffbdmdllgalaaGreatDoor
namespace Go.Fz
open Go Go.RowKit
def pI (x:cQ) (k:Nat):Bool:=(List.range k).any fun i=>x.week.at (vT (bO x.frm+(i:Int)))
theorem IR (x:cQ) (k:Nat):pI x (k+1)=(pI x k||x.week.at (vT (bO x.frm+(k:Int)))):=by
  simp [pI,List.range_succ]
def GN (x:cQ):Bool:=if iV x.frm x.to=true then if pI x (sK x)=true then true else false else false
def CF (x:j3):Bool :=
  if aG x.minute 0 1439=true then if aG x.length 1 (1440-x.minute)=true then if aG x.stewards 0 1000=true then true else false else false else false
def xE (p:Points) (i:Nat):Int:=if i=0 then 100 else p.at ((i:Int)-1)
def zZ (p:Points) (i:Nat):Bool:=if aG (p.at (i:Int)) 0 (xE p i)=true then true else false
def MA (l:List Int) (i:Nat):Bool :=
  if aG (l.getD i 0) 1 5=true then if (!decide (tQ (l.take i) (l.getD i 0)≥0))=true then true else false else false
def z0 (l:aE):Bool :=
  if l.windows.all GN=true then if l.slots.all CF=true then if aG l.pool 0 1048576=true then
    if (List.range 3).all (zZ l.points)=true then if (List.range l.keys.length).all (MA l.keys)=true then
      if (((l.phases.length:Int)==0)||(decide ((l.slots.length:Int)>0)))=true then true else false
    else false else false else false else false else false
end Go.Fz
namespace Go.Fz
open Go Go.RowKit
theorem qF (b:Bool):(if b=true then true else false)=b:=by cases b <;> rfl
theorem S8 (x:cQ) (h:iV x.frm x.to=true):GN x=mP x:=by
  unfold GN mP pI
  rw [if_pos h,qF]
  have:(g6 x.frm==0&&g6 x.to==0)=true:=by
    unfold iV at h
    rw [qF] at h
    simp only [Bool.and_eq_true] at h
    simp only [Bool.and_eq_true]
    exact h.1
  rw [this,Bool.true_and]
theorem PO (x:cQ):GN x=mP x:=by
  by_cases h:iV x.frm x.to=true
  · exact S8 x h
  · unfold GN
    rw [if_neg h]
    unfold iV at h
    rw [qF] at h
    unfold mP
    cases h2:(g6 x.frm==0&&g6 x.to==0) with
    | false=>rfl
    | true =>
      rw [h2,Bool.true_and] at h
      have h3:¬ bO x.frm≤bO x.to:=by simpa using h
      have:sK x=0:=by unfold sK; omega
      rw [this]; rfl
theorem PP (x:j3):CF x=zC x:=by
  unfold CF zC
  rw [Bool.eq_iff_iff]
  simp [aG]
  constructor
  · rintro ⟨⟨h1,h2⟩,⟨h3,h4⟩,h5,h6⟩
    exact ⟨⟨⟨⟨h1,h2⟩,h5,h6⟩,by omega⟩,by omega⟩
  · rintro ⟨⟨⟨⟨h1,h2⟩,h5,h6⟩,h3⟩,h4⟩
    exact ⟨⟨h1,h2⟩,⟨by omega,by omega⟩,h5,h6⟩
theorem S9 (l:List Int) (i:Nat):MA l i=v8 l i:=by
  unfold MA v8
  cases aG (l.getD i 0) 1 5 with
  | false=>rfl
  | true =>
    rw [if_pos rfl,qF,Bool.true_and,Bool.eq_iff_iff,Bool.not_eq_true',decide_eq_false_iff_not,Int.not_le]
    rw [show (tQ (l.take i) (l.getD i 0)<0)↔_ from PE,List.all_eq_true]
    constructor
    · intro h y hy
      cases e:(y==l.getD i 0) with
      | false=>rfl
      | true=>exact absurd (by rw [← eq_of_beq e]; exact hy) h
    · intro h hm
      have:=h _ hm
      simp at this
theorem MB (p:Points):(List.range 3).all (zZ p)=(List.range 3).all (fun i => !v7 p i):=by
  rw [Bool.eq_iff_iff]
  simp [List.range,List.range.loop,zZ,v7,xE,aG,Points.at,Points.list]
  omega
theorem MC (l:aE):z0 l=wB l:=by
  unfold z0 wB
  rw [show GN=mP from funext PO,show CF=zC from funext PP,show MA l.keys=v8 l.keys from funext (S9 l.keys),MB]
  cases l.windows.all mP <;> cases l.slots.all zC <;> cases aG l.pool 0 1048576 <;> cases (List.range 3).all (fun i => !v7 l.points i) <;> cases (List.range l.keys.length).all (v8 l.keys) <;> first | rfl | (simp only [qF,if_true,Bool.true_and,Bool.and_true,Bool.false_eq_true,if_false,Bool.false_and]; done)
end Go.Fz
namespace Go.Proofs.YtfffbdmdllgalaaGreatDoor
open Go Go.RowKit Go.Fz
set_option maxRecDepth 10000
theorem ad0 {w:cQ} {k:Nat} (h:bO w.frm+(k:Int)≤if bO w.frm+6<bO w.to then bO w.frm+6 else bO w.to):k<sK w:=by
 unfold sK; split at h <;> omega
theorem ad1 {w:cQ} {k:Nat} (hk:k≤sK w) (h:¬ bO w.frm+(k:Int)≤if bO w.frm+6<bO w.to then bO w.frm+6 else bO w.to):k=sK w:=by
 unfold sK at hk ⊢; split at h <;> omega
theorem IS (w:World) (l:aE) {k:Int} (h:0≤k∧k<3):Yv Tryz.prog w (Instr.index 29 (.agg #[I l.points.p0,I l.points.p1,I l.points.p2]) (I k)) (I (l.points.at k)):=by
 have:k=0∨k=1∨k=2:=by omega
 rcases this with h | h | h <;> subst h <;> exact Yv.intro fun _=>by kernel_rfl
theorem PQ (X:Nat) (l:aE) (w:World) (hX:Row w (some ⟨X,0,none⟩) 15 aB [l]) (hL:LeagueAt w l) (hG:Glb w) (hkc:l.keys.length≤l.keysC):Calls Tryz.prog 120 #[Pt X 0] w (oY (z0 l) aZ w):=by
 refine dX [Pt X 0] Tryz.func120 rfl rfl rfl rfl fun _ s0=>?_
 have smx1:=hL.sm
 refine wp_seq<|d5 s0 [0,21,22,23] [0,2102,2203] [(23,I 0)] (qo (fa w X 0 jD)<|qo (fa w X 0 lM)<|qo ((hX.up s0.m).ld 27 0 6 wE rfl rfl)<|qo (ln w 3 l.windowsA l.windows.length l.windowsC tN)<|qe) fun _ w2 s3=>wp_block<|aO (α:=Nat) (fun k1 aI wI=>(k1≤l.windows.length)∧(Sta 143 [] w [⟨0,[],Pt X 0⟩,⟨21,[],.slice l.windowsA l.windows.length l.windowsC⟩,⟨22,[],I (l.windows.length:Int)⟩,⟨23,[],I (k1:Int)⟩] [] aI wI)∧(∀ iI,iI<k1→∀ xI,l.windows[iI]?=some xI→GN xI=true)) (fun k1=>l.windows.length-k1) 0 ⟨Nat.zero_le _,s3.keep [0,21,22,23] (by kernel_rfl),fun i h=>(Nat.not_lt_zero i h).elim⟩<|?_
 rintro k1 a6 w5 ⟨k1_le,s4,inv_k1⟩
 refine zs s4 [0,21,22,23,24] [(24,Bo (decide ((k1:Int)<(l.windows.length:Int))))] qe fun _ w8 s9=>wp_seq<|aQ s9.f rfl (fun h10=>?_) (fun h10=>?_)
 ·have k1_lt:k1<l.windows.length:=by omega
  obtain ⟨x,hx11⟩:=cD (xs:=l.windows) k1_lt
  refine wp_skip<|aD<|wp_seq<|wp_block<|wp_seq<|aA<|zl s9 [0,21,22,23,26] [(26,.agg (dB x).toArray)] 0 2 (qo ((hL.windows.up s9.m).ia l.windowsC k1 tN sS (by omega))<|qo ((hL.windows.up s9.m).lda 165 k1 0 B0 hx11 rfl rfl)<|qe) fun _ w13 s14=>la s14 2 _ rfl U9 rfl rfl fun B15 a16 w17 s18=>dD s18 3 0 _ _ rfl rfl rfl rfl sS rfl rfl rfl rfl fun w19 s20=>aR rfl<|aD<|wp_seq<|aA ?_
  refine zl s20 [0,3,21,22,23,29,31] [(3,Pt B15 0),(29,.agg #[I x.frm.year,I x.frm.month,I x.frm.day]),(31,.agg #[I x.to.year,I x.to.month,I x.to.day])] 0 4 (qo (fa w19 B15 0 JY)<|qo (s20.m.lda 162 0 1 dY rfl rfl rfl)<|qo (fa w19 B15 0 JZ)<|qo (s20.m.lda 162 0 4 dY rfl rfl rfl)<|qe) fun _ w22 s23=>kT s23 4 (b:=iV x.frm x.to) (v:=.tuple #[I (bO x.frm),I (bO x.to)]) (ch:=aZ) rfl rfl rfl nW rfl (jE x.frm x.to _ (hG.up s23.m)) (fun h24 w28 s29=>?_) (fun h24 a25 w26 s27=>?_)
  ·refine aP (bL (aP (aP (bL (aP (pP s29 ?_))))))
   exact bF s29 (iF (bI hx11 (iF h24 rfl)) rfl)
  refine zl s27 [0,3,4,5,21,22,23] [(4,I (bO x.frm)),(5,I (bO x.to))] 5 5 qe fun _ w31 s32=>aR rfl<|aD<|zs s32 [0,3,4,5,6,21,22,23] [(6,Bo false)] qe fun _ w34 s35=>wp_seq<|wp_seq<|?_
  have hkl:=U3 x
  have hr1:=pV x.frm
  have hr2:=pV x.to
  refine zq s35 [0,3,4,5,6,7,21,22,23] [(7,I (bO x.frm))] qe fun _ w37 s38=>aD<|wp_block<|aO (α:=Nat) (fun j aI wI=>(j≤sK x)∧(Sta 143 [] w [⟨0,[],Pt X 0⟩,⟨3,[],Pt B15 0⟩,⟨4,[],I (bO x.frm)⟩,⟨5,[],I (bO x.to)⟩,⟨6,[],Bo (pI x j)⟩,⟨7,[],I (bO x.frm+(j:Int))⟩,⟨21,[],.slice l.windowsA l.windows.length l.windowsC⟩,⟨22,[],I (l.windows.length:Int)⟩,⟨23,[],I (k1:Int)⟩] [cI B15 165 (dB x)] aI wI)) (fun j=>sK x-j) 0 ⟨Nat.zero_le _,(s38.keep (E':=[⟨0,[],Pt X 0⟩,⟨3,[],Pt B15 0⟩,⟨4,[],I (bO x.frm)⟩,⟨5,[],I (bO x.to)⟩,⟨6,[],Bo false⟩,⟨7,[],I (bO x.frm)⟩,⟨21,[],.slice l.windowsA l.windows.length l.windowsC⟩,⟨22,[],I (l.windows.length:Int)⟩,⟨23,[],I (k1:Int)⟩]) [0,3,4,5,6,7,21,22,23] (by kernel_rfl)).sp (by simp [pI])⟩<|?_
  rintro j a41 w40 ⟨j_le,s39⟩
  refine wp_seq<|zs s39 [0,3,4,5,6,7,21,22,23,41] [(41,Bo (decide (bO x.frm+(j:Int)≤(if bO x.frm+6<bO x.to then bO x.frm+6 else bO x.to))))] (qo (wr (bO x.frm+6) (bO x.frm+6) (by omega))<|qo (UU (P:=Tryz.prog) w40 #[3,3] 3 (bO x.to) (bO x.frm+6))<|qe) fun _ w43 s44=>aQ s44.f rfl (fun h45=>?_) (fun h45=>?_)
  ·have j_lt:j<sK x:=ad0 h45
   refine wp_skip<|aD<|wp_seq<|wp_block<|zs s44 [0,3,4,5,6,7,8,21,22,23] [(8,I (vT (bO x.frm+(j:Int))))] (qo (yc w43 aa5 fun w' hb=>LP (bO x.frm+(j:Int)) w')<|qe) fun _ w47 s48=>zq s48 [0,3,4,5,6,7,21,22,23] [(6,Bo ((pI x j)||(x.week.at (vT (bO x.frm+(j:Int))))))] (qo (fa w47 B15 0 J0)<|qo (HR w47 B15 7 (vT (bO x.frm+(j:Int))) Tryz.underlying163 U5 (rW _))<|qo (s48.m.ld 4 0 (7+(vT (bO x.frm+(j:Int))).toNat*1) X0 rfl (FX x (rW _)))<|qe) fun _ w50 s51=>c9 (aD ?_)
   refine dU s51 [0,3,4,5,6,7,21,22,23] [700] [] (qo (wr (bO x.frm+(j:Int)+1) (bO x.frm+((j+1:Nat):Int)) (by omega))<|qe) fun _ w53 s54=>aD<|?_
   exact ⟨(j+1),⟨by omega,(s54.keep (E':=[⟨0,[],Pt X 0⟩,⟨3,[],Pt B15 0⟩,⟨4,[],I (bO x.frm)⟩,⟨5,[],I (bO x.to)⟩,⟨6,[],Bo ((pI x j)||(x.week.at (vT (bO x.frm+(j:Int)))))⟩,⟨7,[],I (bO x.frm+((j+1:Nat):Int))⟩,⟨21,[],.slice l.windowsA l.windows.length l.windowsC⟩,⟨22,[],I (l.windows.length:Int)⟩,⟨23,[],I (k1:Int)⟩]) [0,3,4,5,6,7,21,22,23] (by kernel_rfl)).sp (by simp [IR])⟩,by omega⟩
  have j_eq:j=sK x:=ad1 j_le h45
  refine wp_exit<|aY (aY (cP (aD ?_)))
  have s55:=s44.sp (E':=[⟨0,[],Pt X 0⟩,⟨3,[],Pt B15 0⟩,⟨4,[],I (bO x.frm)⟩,⟨5,[],I (bO x.to)⟩,⟨6,[],Bo (pI x (sK x))⟩,⟨7,[],I (bO x.frm+(j:Int))⟩,⟨21,[],.slice l.windowsA l.windows.length l.windowsC⟩,⟨22,[],I (l.windows.length:Int)⟩,⟨23,[],I (k1:Int)⟩,⟨41,[],Bo (decide (bO x.frm+(j:Int)≤(if bO x.frm+6<bO x.to then bO x.frm+6 else bO x.to)))⟩]) (by rw [j_eq] <;> rfl)
  refine aA<|zl s55 [0,21,22,23,56] [(56,Bo (pI x (sK x)))] 0 1 qe fun _ w57 s58=>cU s58 1 (b:=pI x (sK x)) (ch:=aZ) rfl rfl rfl lT rfl (jR (pI x (sK x)) _) (fun h59 w63 s64=>?_) (fun h59 a60 w61 s62=>?_)
  ·refine bL (aP (aP (bL (aP (pP s64 ?_)))))
   exact bF s64 (iF (bI hx11 (iP h24 (iF h59 rfl))) rfl)
  refine aR rfl<|c9 (aD ?_)
  refine dU s62 [0,21,22,23] [2300] [] (qo (wr ((k1:Int)+1) ((k1+1:Nat):Int) (by omega))<|qe) fun _ w66 s67=>aD<|?_
  exact ⟨(k1+1),⟨by omega,(s67.keep [0,21,22,23] (by kernel_rfl)).sub (.cons _ (.refl _)),aM inv_k1 (fun y hy=>by rw [hx11] at hy; cases hy; exact (iP h24 (iP h59 rfl)))⟩,by omega⟩
 have k1_eq:k1=l.windows.length:=by omega
 have A68:l.windows.all GN=true:=cR (by rw [k1_eq] at inv_k1; exact inv_k1)
 refine wp_exit<|aY (aY (cP (aD ?_)))
 refine wp_seq<|d5 s9 [0,63,64,65] [6302,6403] [(65,I 0)] (qo (fa w8 X 0 jD)<|qo (fa w8 X 0 jC)<|qo ((hX.up s9.m).ld 28 0 7 pX rfl rfl)<|qo (ln w8 3 l.slotsA l.slots.length l.slotsC oP)<|qe) fun _ w70 s71=>wp_block<|aO (α:=Nat) (fun k2 aI wI=>(k2≤l.slots.length)∧(Sta 143 [] w [⟨0,[],Pt X 0⟩,⟨63,[],.slice l.slotsA l.slots.length l.slotsC⟩,⟨64,[],I (l.slots.length:Int)⟩,⟨65,[],I (k2:Int)⟩] [] aI wI)∧(∀ iI,iI<k2→∀ xI,l.slots[iI]?=some xI→CF xI=true)) (fun k2=>l.slots.length-k2) 0 ⟨Nat.zero_le _,s71.keep [0,63,64,65] (by kernel_rfl),fun i h=>(Nat.not_lt_zero i h).elim⟩<|?_
 rintro k2 a74 w73 ⟨k2_le,s72,inv_k2⟩
 refine zs s72 [0,63,64,65,66] [(66,Bo (decide ((k2:Int)<(l.slots.length:Int))))] qe fun _ w76 s77=>wp_seq<|aQ s77.f rfl (fun h78=>?_) (fun h78=>?_)
 ·have k2_lt:k2<l.slots.length:=by omega
  obtain ⟨x,hx79⟩:=cD (xs:=l.slots) k2_lt
  refine wp_skip<|aD<|wp_seq<|wp_block<|wp_seq<|aA<|zl s77 [0,63,64,65,68] [(68,.agg (gB x).toArray)] 0 2 (qo ((hL.slots.up s77.m).ia l.slotsC k2 oP rM (by omega))<|qo ((hL.slots.up s77.m).lda 154 k2 0 BZ hx79 rfl rfl)<|qe) fun _ w81 s82=>la s82 2 _ rfl OC rfl rfl fun B83 a84 w85 s86=>dD s86 3 0 _ _ rfl rfl rfl rfl rM rfl rfl rfl rfl fun w87 s88=>aR rfl<|aD<|wp_seq<|aA ?_
  refine fJ s88 [0,11,63,64,65,70] [7001] [(11,Pt B83 0)] 0 2 (qo (fa w87 B83 0 xY)<|qo (s88.m.ld 3 0 1 bM rfl rfl)<|qe) fun _ w90 s91=>cU s91 2 (b:=aG x.minute 0 1439) (ch:=aZ) rfl rfl rfl lU rfl (d8 x.minute 0 1439 _) (fun h92 w96 s97=>?_) (fun h92 a93 w94 s95=>?_)
  ·refine aP (bL (aP (aP (bL (aP (pP s97 ?_))))))
   exact bF s97 (iP A68 (iF (bI hx79 (iF h92 rfl)) rfl))
  refine aR rfl<|aD<|wp_seq<|?_
  have hmn:0≤x.minute∧x.minute≤1439:=by simpa [aG] using h92
  refine aA<|fJ s95 [0,11,63,64,65,73,76] [7301,7604] [] 0 5 (qo (fa w94 B83 0 DL)<|qo (s95.m.ld 3 0 2 bM rfl rfl)<|qo (fa w94 B83 0 xY)<|qo (s95.m.ld 3 0 1 bM rfl rfl)<|qo (wr (1440-x.minute) (1440-x.minute) (by omega))<|qe) fun _ w99 s100=>cU s100 5 (b:=aG x.length 1 (1440-x.minute)) (ch:=aZ) rfl rfl rfl lU rfl (d8 x.length 1 (1440-x.minute) _) (fun h101 w105 s106=>?_) (fun h101 a102 w103 s104=>?_)
  ·refine aP (bL (aP (aP (bL (aP (pP s106 ?_))))))
   exact bF s106 (iP A68 (iF (bI hx79 (iP h92 (iF h101 rfl))) rfl))
  refine aR rfl<|aD<|aA<|fJ s104 [0,63,64,65,79] [7901] [] 0 2 (qo (fa w103 B83 0 JU)<|qo (s104.m.ld 3 0 3 bM rfl rfl)<|qe) fun _ w108 s109=>cU s109 2 (b:=aG x.stewards 0 1000) (ch:=aZ) rfl rfl rfl lU rfl (d8 x.stewards 0 1000 _) (fun h110 w114 s115=>?_) (fun h110 a111 w112 s113=>?_)
  ·refine bL (aP (aP (bL (aP (pP s115 ?_)))))
   exact bF s115 (iP A68 (iF (bI hx79 (iP h92 (iP h101 (iF h110 rfl)))) rfl))
  refine aR rfl<|c9 (aD ?_)
  refine dU s113 [0,63,64,65] [6500] [] (qo (wr ((k2:Int)+1) ((k2+1:Nat):Int) (by omega))<|qe) fun _ w117 s118=>aD<|?_
  exact ⟨(k2+1),⟨by omega,(s118.keep [0,63,64,65] (by kernel_rfl)).sub (.cons _ (.refl _)),aM inv_k2 (fun y hy=>by rw [hx79] at hy; cases hy; exact (iP h92 (iP h101 (iP h110 rfl))))⟩,by omega⟩
 have k2_eq:k2=l.slots.length:=by omega
 have A119:l.slots.all CF=true:=cR (by rw [k2_eq] at inv_k2; exact inv_k2)
 refine wp_exit<|aY (aY (cP (aD ?_)))
 refine wp_seq<|aA<|fJ s77 [0,86] [8602] [] 0 5 (qo (fa w76 X 0 jD)<|qo (fa w76 X 0 DH)<|qo ((hX.up s77.m).ld 3 0 8 bM rfl rfl)<|qe) fun _ w121 s122=>cU s122 5 (b:=aG l.pool 0 1048576) (ch:=aZ) rfl rfl rfl lU rfl (d8 l.pool 0 1048576 _) (fun h123 w127 s128=>?_) (fun h123 a124 w125 s126=>?_)
 ·refine aP (pP s128 ?_)
  exact bF s128 (iP A68 (iP A119 (iF h123 rfl)))
 refine aR rfl<|aD<|zs s126 [0,12] [(12,I 100)] qe fun _ w130 s131=>wp_seq<|zs s131 [0,12,92,93] [(92,.agg #[I l.points.p0,I l.points.p1,I l.points.p2]),(93,I 0)] (qo (fa w130 X 0 jD)<|qo (fa w130 X 0 wF)<|qo ((hX.up s131.m).lda 29 0 9 WW rfl rfl rfl)<|qe) fun _ w133 s134=>wp_block<|aO (α:=Nat) (fun k3 aI wI=>(k3≤3)∧(Sta 143 [] w [⟨0,[],Pt X 0⟩,⟨12,[],I (xE l.points k3)⟩,⟨92,[],.agg #[I l.points.p0,I l.points.p1,I l.points.p2]⟩,⟨93,[],I (k3:Int)⟩] [] aI wI)∧(∀ iI,iI<k3→∀ xI,(List.range 3)[iI]?=some xI→(zZ l.points) xI=true)) (fun k3=>3-k3) 0 ⟨Nat.zero_le _,(s134.keep (E':=[⟨0,[],Pt X 0⟩,⟨12,[],I 100⟩,⟨92,[],.agg #[I l.points.p0,I l.points.p1,I l.points.p2]⟩,⟨93,[],I 0⟩]) [0,12,92,93] (by kernel_rfl)).sp (by simp [xE]),fun i h=>(Nat.not_lt_zero i h).elim⟩<|?_
 rintro k3 a137 w136 ⟨k3_le,s135,inv_k3⟩
 refine zs s135 [0,12,92,93,94] [(94,Bo (decide ((k3:Int)<3)))] qe fun _ w139 s140=>wp_seq<|aQ s140.f rfl (fun h141=>?_) (fun h141=>?_)
 ·have k3_lt:k3<3:=by omega
  have hx142:(List.range 3)[k3]?=some k3:=List.getElem?_range k3_lt
  refine wp_skip<|aD<|wp_seq<|wp_block<|d5 s140 [0,12,14,92,93] [1400] [] (qo (IS w139 l (k:=(k3:Int)) (by omega))<|qe) fun _ w144 s145=>wp_seq<|aA<|zl s145 [0,14,92,93,96,97] [(96,I (l.points.at (k3:Int))),(97,I (xE l.points k3))] 0 2 qe fun _ w147 s148=>cU s148 2 (b:=aG (l.points.at (k3:Int)) 0 (xE l.points k3)) (ch:=aZ) rfl rfl rfl lU rfl (d8 (l.points.at (k3:Int)) 0 (xE l.points k3) _) (fun h149 w153 s154=>?_) (fun h149 a150 w151 s152=>?_)
  ·refine aP (bL (aP (aP (bL (aP (pP s154 ?_))))))
   exact bF s154 (iP A68 (iP A119 (iP h123 (iF (bI hx142 (iF h149 rfl)) rfl))))
  refine aR rfl<|aD<|zq s152 [0,12,92,93] [(12,I (l.points.at (k3:Int)))] qe fun _ w156 s157=>c9 (aD ?_)
  refine dU s157 [0,12,92,93] [9300] [] (qo (wr ((k3:Int)+1) ((k3+1:Nat):Int) (by omega))<|qe) fun _ w159 s160=>aD<|?_
  exact ⟨(k3+1),⟨by omega,(s160.keep (E':=[⟨0,[],Pt X 0⟩,⟨12,[],I (l.points.at (k3:Int))⟩,⟨92,[],.agg #[I l.points.p0,I l.points.p1,I l.points.p2]⟩,⟨93,[],I ((k3+1:Nat):Int)⟩]) [0,12,92,93] (by kernel_rfl)).sp (by simp [xE]),aM inv_k3 (fun y hy=>by rw [hx142] at hy; cases hy; exact (iP h149 rfl))⟩,by omega⟩
 have k3_eq:k3=3:=by omega
 have A161:(List.range 3).all (zZ l.points)=true:=dG (by rw [k3_eq] at inv_k3; exact inv_k3)
 refine wp_exit<|aY (aY (cP (aD ?_)))
 refine wp_seq<|d5 s140 [0,105,106,107] [10502,10603] [(107,I 0)] (qo (fa w139 X 0 jD)<|qo (fa w139 X 0 jV)<|qo ((hX.up s140.m).ld 30 0 12 jB rfl rfl)<|qo (ln w139 3 l.keysA l.keys.length l.keysC eX)<|qe) fun _ w163 s164=>wp_block<|aO (α:=Nat) (fun k4 aI wI=>(k4≤l.keys.length)∧(Sta 143 [] w [⟨0,[],Pt X 0⟩,⟨105,[],.slice l.keysA l.keys.length l.keysC⟩,⟨106,[],I (l.keys.length:Int)⟩,⟨107,[],I (k4:Int)⟩] [] aI wI)∧(∀ iI,iI<k4→∀ xI,(List.range l.keys.length)[iI]?=some xI→(MA l.keys) xI=true)) (fun k4=>l.keys.length-k4) 0 ⟨Nat.zero_le _,s164.keep [0,105,106,107] (by kernel_rfl),fun i h=>(Nat.not_lt_zero i h).elim⟩<|?_
 rintro k4 a167 w166 ⟨k4_le,s165,inv_k4⟩
 refine zs s165 [0,105,106,107,108] [(108,Bo (decide ((k4:Int)<(l.keys.length:Int))))] qe fun _ w169 s170=>wp_seq<|aQ s170.f rfl (fun h171=>?_) (fun h171=>?_)
 ·have k4_lt:k4<l.keys.length:=by omega
  have hx172:(List.range l.keys.length)[k4]?=some k4:=List.getElem?_range k4_lt
  have hx173:l.keys[k4]?=some (l.keys.getD k4 0):=bC (by omega)
  refine wp_skip<|aD<|wp_seq<|wp_block<|d5 s170 [0,15,16,105,106,107] [1601] [(15,I (k4:Int))] (qo ((hL.keys.up s170.m).ia l.keysC k4 eX hP (by omega))<|qo ((hL.keys.up s170.m).ld 3 k4 0 bM hx173 rfl)<|qe) fun _ w175 s176=>wp_seq<|aA<|zl s176 [0,15,16,105,106,107,112] [(112,I (l.keys.getD k4 0))] 0 1 qe fun _ w178 s179=>cU s179 1 (b:=aG (l.keys.getD k4 0) 1 5) (ch:=aZ) rfl rfl rfl lU rfl (d8 (l.keys.getD k4 0) 1 5 _) (fun h180 w184 s185=>?_) (fun h180 a181 w182 s183=>?_)
  ·refine aP (bL (aP (aP (bL (aP (pP s185 ?_))))))
   exact bF s185 (iP A68 (iP A119 (iP h123 (iP A161 (iF (bI hx172 (iF h180 rfl)) rfl)))))
  refine aR rfl<|aD<|aA<|zl s183 [0,105,106,107,123] [(123,Bo (!(decide (tQ (l.keys.take k4) (l.keys.getD k4 0)≥0))))] 0 10 (qo (fa w182 X 0 jD)<|qo (fa w182 X 0 jV)<|qo ((hX.up s183.m).ld 30 0 12 jB rfl rfl)<|qo (CT w182 l.keysA l.keys l.keysC k4 eX hP (by omega) (by omega))<|qo (yc w182 aa6 fun w' hb=>GH l.keysA (l.keys.take k4) l.keysC (l.keys.getD k4 0) w' (((hL.keys.up s183.m).take k4).grow hb))<|qe) fun _ w187 s188=>cU s188 10 (b := !(decide (tQ (l.keys.take k4) (l.keys.getD k4 0)≥0))) (ch:=aZ) rfl rfl rfl lT rfl (jR (!(decide (tQ (l.keys.take k4) (l.keys.getD k4 0)≥0))) _) (fun h189 w193 s194=>?_) (fun h189 a190 w191 s192=>?_)
  ·refine bL (aP (aP (bL (aP (pP s194 ?_)))))
   exact bF s194 (iP A68 (iP A119 (iP h123 (iP A161 (iF (bI hx172 (iP h180 (iF h189 rfl))) rfl)))))
  refine aR rfl<|c9 (aD ?_)
  refine dU s192 [0,105,106,107] [10700] [] (qo (wr ((k4:Int)+1) ((k4+1:Nat):Int) (by omega))<|qe) fun _ w196 s197=>aD<|?_
  exact ⟨(k4+1),⟨by omega,s197.keep [0,105,106,107] (by kernel_rfl),aM inv_k4 (fun y hy=>by rw [hx172] at hy; cases hy; exact (iP h180 (iP h189 rfl)))⟩,by omega⟩
 have k4_eq:k4=l.keys.length:=by omega
 have A198:(List.range l.keys.length).all (MA l.keys)=true:=dG (by rw [k4_eq] at inv_k4; exact inv_k4)
 refine wp_exit<|aY (aY (cP (aD ?_)))
 refine aA<|zl s170 [141] [(141,Bo (((l.phases.length:Int)==0)||(decide ((l.slots.length:Int)>0))))] 0 16 (qo (fa w169 X 0 jD)<|qo (fa w169 X 0 cG)<|qo ((hX.up s170.m).ld 31 0 13 iE rfl rfl)<|qo (ln w169 3 l.phasesA l.phases.length l.phasesC g9)<|qo (fa w169 X 0 jD)<|qo (fa w169 X 0 jC)<|qo ((hX.up s170.m).ld 28 0 7 pX rfl rfl)<|qo (ln w169 3 l.slotsA l.slots.length l.slotsC oP)<|qe) fun _ w200 s201=>cU s201 16 (b:=((l.phases.length:Int)==0)||(decide ((l.slots.length:Int)>0))) (ch:=aZ) rfl rfl rfl lT rfl (jR (((l.phases.length:Int)==0)||(decide ((l.slots.length:Int)>0))) _) (fun h202 w206 s207=>?_) (fun h202 a203 w204 s205=>?_)
 ·refine pP s207<|?_
  exact bF s207 (iP A68 (iP A119 (iP h123 (iP A161 (iP A198 (iF h202 rfl))))))
 refine aR rfl<|pE [] rfl s205 trivial<|?_
 exact dA s205 (iP A68 (iP A119 (iP h123 (iP A161 (iP A198 (iP h202 rfl))))))
end Go.Proofs.YtfffbdmdllgalaaGreatDoor
namespace Go.Fz
open Go Go.RowKit
theorem GO (c:cJ):pH c=(if rD c.kind=false then (gD c.frm xA)&&(gD c.to xA) else ((g6 c.frm==0)&&(g6 c.to==0))&&(decide (bO c.frm≤bO c.to))):=by
  unfold pH iV
  simp only [qF]
  by_cases h:c.kind=4∨c.kind=5∨c.kind=8∨c.kind=9∨c.kind=10
  · rcases h with h | h | h | h | h <;> simp [h,rD]
  · have h1:rD c.kind=false:=by simp [rD]; omega
    rw [if_neg (by omega),if_neg (by omega),if_neg (by omega),if_neg (by omega),if_neg (by omega),if_pos h1]
theorem PR (c:cJ):xD c=xB c:=by
  unfold xD xB
  rw [GO]
  generalize (if rD c.kind=false then (gD c.frm xA)&&(gD c.to xA) else ((g6 c.frm==0)&&(g6 c.to==0))&&(decide (bO c.frm≤bO c.to)))=T
  cases aG c.n (jH c.kind) (jI c.kind) <;> cases aG c.price 0 1048576 <;> try rfl
  unfold YS
  have e:((oM c.week BT)==(c.kind != 10)) = !(!((!oM c.week BT)==(c.kind==10))):=by
    simp only [bne]
    cases oM c.week BT <;> cases (c.kind==10) <;> rfl
  rw [e]
  cases ((!oM c.week BT)==(c.kind==10)) <;> try rfl
  by_cases h:c.kind=6∨c.kind=8∨c.kind=9
  · cases h2:(c.a.n==c.b.n) <;> rcases h with h | h | h <;> simp [h,h2,bne]
  · rw [if_pos rfl,if_pos rfl,if_pos (by decide),if_neg (by omega),if_neg (by omega),if_neg (by omega)]
    have:(((c.kind==6)||(c.kind==8))||(c.kind==9))=false:=by simp; omega
    rw [this]
    rfl
end Go.Fz
namespace Go.Fz
open Go Go.RowKit
theorem MD (l:aE) (p:aX):DV l p =
    if (((!eY (c7 l p.of.n).kind)||(decide ((p.sizes.length:Int)<1)))||(decide ((p.sizes.length:Int)>8)))=true then false else
    if p.sizes.all (fun n=>aG n 2 20)=true then fF p==fF (c7 l p.of.n) else false:=by
  unfold DV
  simp only [qF]
  cases eY (c7 l p.of.n).kind with
  | false=>rfl
  | true =>
    rw [if_pos rfl]
    by_cases h:1≤(p.sizes.length:Int)∧(p.sizes.length:Int)≤8
    · rw [if_pos (show aG (p.sizes.length:Int) 1 8=true by simpa [aG] using h),if_neg (show ¬ ((((!true)||(decide ((p.sizes.length:Int)<1)))||(decide ((p.sizes.length:Int)>8)))=true) by simp; omega)]
    · rw [if_neg (show ¬ (aG (p.sizes.length:Int) 1 8=true) by simpa [aG] using h),if_pos (show (((!true)||(decide ((p.sizes.length:Int)<1)))||(decide ((p.sizes.length:Int)>8)))=true by simp; omega)]
theorem GP (l:aE) (p:aX):u4 l p =
    if (((!eY (c7 l p.a.n).kind)&&((c7 l p.a.n).kind != 4))||((!eY (c7 l p.b.n).kind)&&((c7 l p.b.n).kind != 4)))=true then false else
    ((p.a.n != p.b.n)&&(aG p.placeA 1 (fF (c7 l p.a.n))))&&(aG p.placeB 1 (fF (c7 l p.b.n))):=by
  unfold u4
  simp only [qF,bne]
  cases eY (c7 l p.a.n).kind <;> cases eY (c7 l p.b.n).kind <;> cases ((c7 l p.a.n).kind==4) <;> cases ((c7 l p.b.n).kind==4) <;> cases (p.a.n==p.b.n) <;>
    cases aG p.placeA 1 (fF (c7 l p.a.n)) <;> cases aG p.placeB 1 (fF (c7 l p.b.n)) <;> rfl
end Go.Fz
namespace Go.Fz
open Go Go.RowKit
structure fM where
  a:Int
  b:Int
def u7 (x:fM):List Value:=[I x.a,I x.b]
theorem z6:EncOk u7 2:=⟨by decide,fun _=>rfl,fun x v hv=>List.all_eq_true.1 (rfl:(u7 x).all Value.oneCell'=true) v hv⟩
end Go.Fz
namespace Go.Fz
open Go Go.RowKit
def lB (e:Int):List PanicEntry:=[{ v:=.iface 40 (I e),recovered:=false }]
def kM {α:Type} (p:α→Bool) (l:List α):Int:=match l.findIdx? p with | some i=>i | none => -1
theorem CG {α:Type} {p:α→Bool} {l:List α} {k:Nat} {x:α} (h:l[k]?=some x) (hx:p x=true) (h2:∀ j,j<k→∀ y,l[j]?=some y→p y=false):kM p l=k:=by
  have:l.findIdx? p=some k:=by
    rw [List.findIdx?_eq_some_iff_getElem]
    obtain ⟨hk,e⟩:=List.getElem?_eq_some_iff.1 h
    refine ⟨hk,by rw [e]; exact hx,fun j hj=>?_⟩
    rw [h2 j hj _ (List.getElem?_eq_getElem (by omega))]
    decide
  unfold kM; rw [this]
theorem CH {α:Type} {p:α→Bool} {l:List α} (h:∀ j,j<l.length→∀ y,l[j]?=some y→p y=false):kM p l = -1:=by
  unfold kM
  rw [List.findIdx?_eq_none_iff.2 ?_]
  intro x hm
  obtain ⟨j,hj,e⟩:=List.getElem_of_mem hm
  exact h j hj x (by rw [List.getElem?_eq_getElem hj,e])
theorem GQ {α:Type} (p:α→Bool) (l:List α):decide (kM p l≥0)=l.any p:=by
  unfold kM
  cases h:l.findIdx? p with
  | none =>
    rw [List.findIdx?_eq_none_iff] at h
    have:l.any p=false:=by rw [List.any_eq_false]; intro x hx; simp [h x hx]
    rw [this]; rfl
  | some i =>
    rw [List.findIdx?_eq_some_iff_getElem] at h
    obtain ⟨hi,h1,_⟩:=h
    have:l.any p=true:=List.any_eq_true.2 ⟨l[i],List.getElem_mem hi,h1⟩
    rw [this]; simp
def pJ (p:aX):Bool:=(decide ((p.teams.length:Int)>20))||(decide ((p.sizes.length:Int)>8))
def D4 (x:fM):Bool := !(decide (x.a>x.b))
def V1 (l:aE):List fM:=[⟨(l.towns.length:Int),64⟩,⟨(l.depots.length:Int),64⟩,⟨(l.grounds.length:Int),64⟩,⟨(l.ways.length:Int),256⟩,⟨(l.teams.length:Int),64⟩,⟨(l.windows.length:Int),32⟩,⟨(l.slots.length:Int),16⟩,⟨(l.keys.length:Int),5⟩,⟨(l.phases.length:Int),8⟩,⟨(l.conds.length:Int),128⟩]
def z7 (l:aE):Bool:=if (V1 l).all D4=true then !(decide (kM pJ l.phases≥0)) else false
theorem GR (l:aE):z7 l=n9 l:=by
  have hp:∀ p,uQ p = !pJ p:=by
    intro p; unfold uQ pJ
    cases h:(decide ((p.teams.length:Int)>20))||(decide ((p.sizes.length:Int)>8)) <;> simp_all
  unfold z7 n9
  rw [GQ]
  have h1:(!l.phases.any pJ)=l.phases.all uQ:=by
    rw [show uQ=fun p => !pJ p from funext hp]
    induction l.phases with
    | nil=>rfl
    | cons p ps ih=>simp [ih]
  rw [h1]
  simp only [V1,List.all_cons,List.all_nil,D4]
  by_cases h0:(l.towns.length:Int)>64 <;> by_cases h1:(l.depots.length:Int)>64 <;> by_cases h2:(l.grounds.length:Int)>64 <;> by_cases h3:(l.ways.length:Int)>256 <;> by_cases h4:(l.teams.length:Int)>64 <;> simp only [h0,h1,h2,h3,h4,decide_true,decide_false,Bool.not_true,Bool.not_false,Bool.or_true,Bool.true_or,Bool.or_false,Bool.false_or,Bool.and_false,Bool.false_and,Bool.true_and,Bool.and_true,if_true,if_false,Bool.false_eq_true,reduceIte]
  by_cases h5:(l.windows.length:Int)>32 <;> by_cases h6:(l.slots.length:Int)>16 <;> by_cases h7:(l.keys.length:Int)>5 <;> by_cases h8:(l.phases.length:Int)>8 <;> by_cases h9:(l.conds.length:Int)>128 <;> simp only [h5,h6,h7,h8,h9,decide_true,decide_false,Bool.not_true,Bool.not_false,Bool.or_true,Bool.true_or,Bool.or_false,Bool.false_or,Bool.and_false,Bool.false_and,Bool.true_and,Bool.and_true,if_true,if_false,Bool.false_eq_true,reduceIte]
  cases l.phases.all uQ <;> rfl
end Go.Fz
namespace Go.Proofs.YtfffbdmdllgalaaGreatDoor
open Go Go.RowKit Go.Fz
set_option maxRecDepth 10000
theorem fU (b:Bool) (e:Int) (w:World):Calls Tryz.prog 178 #[Bo b,I e] w (oY b (lB e) w):=by
 refine dX [Bo b,I e] Tryz.func178 rfl rfl rfl rfl fun _ s0=>zs s0 [1,5] [(1,I e),(5,Bo (!b))] qe fun _ w2 s3=>bR s3.f rfl (fun h4=>?_) (fun h4=>?_)
 ·refine aA<|fJ s3 [7] [700] [] 0 2 (qo (mki (P:=Tryz.prog) w2 (I e) Tryz.underlying40 (fun _ h=>by cases h))<|qe) fun _ w6 s7=>X7 s7 2 (v:=.iface 40 (I e)) rfl rfl ⟨_,_,rfl⟩<|pP s7<|?_
  exact bF s7 h4
 refine wp_skip<|pE [] rfl s3 trivial<|?_
 exact dA s3 h4
theorem XE (p:aX) (w:World):Calls Tryz.prog 210 #[.agg (aK p).toArray] w (eB (Bo (pJ p)) w):=by
 refine dX [.agg (aK p).toArray] Tryz.func210 rfl rfl rfl rfl fun _ s0=>wp_seq<|aA<|lb s0 0 _ rfl rfl rfl rfl fun B1 a2 w3 s4=>zl s4 [1] [(1,Pt B1 0)] 1 1 qe fun _ w6 s7=>aR rfl<|aD<|zs s7 [2] [(2,Bo ((decide ((p.teams.length:Int)>20))||(decide ((p.sizes.length:Int)>8))))] (qo (fa w6 B1 0 dR)<|qo (s7.m.ld 155 0 4 jT rfl rfl)<|qo (ln w6 3 p.teamsA p.teams.length p.teamsC jU)<|qo (fa w6 B1 0 gH)<|qo (s7.m.ld 30 0 7 jB rfl rfl)<|qo (ln w6 3 p.sizesA p.sizes.length p.sizesC eX)<|qe) fun _ w9 s10=>aC<|pR [Bo ((decide ((p.teams.length:Int)>20))||(decide ((p.sizes.length:Int)>8)))] rfl s10 ⟨rfl,trivial⟩<|?_
 exact aW s10 (congrArg Bo (rfl).symm)
theorem PS (oa:Option Addr) (l:List Fz.aX) (c:Nat) (w:World) (hl:Row w oa 14 aK l):Calls Tryz.prog 233 #[.slice oa l.length c,.func (.func 210) #[] #[]] w (eB (I (kM pJ l)) w):=by
 refine dX [.slice oa l.length c,.func (.func 210) #[] #[]] Tryz.func233 rfl rfl rfl rfl fun _ s0=>?_
 have sm0:=hl.small
 refine zs s0 [0,1] [(0,.slice oa l.length c),(1,.func (.func 210) #[] #[])] qe fun _ w2 s3=>wp_seq<|d5 s3 [0,1,7,8] [700] [(8,I 0)] (qo (ln w2 3 oa l.length c g9)<|qe) fun _ w5 s6=>wp_block<|aO (α:=Nat) (fun k aI wI=>(k≤l.length)∧(Sta 19 [] w [⟨0,[],.slice oa l.length c⟩,⟨1,[],.func (.func 210) #[] #[]⟩,⟨7,[],I (l.length:Int)⟩,⟨8,[],I (k:Int)⟩] [] aI wI)∧(∀ i,i<k→∀ y,l[i]?=some y→pJ y=false)) (fun k=>l.length-k) 0 ⟨Nat.zero_le _,s6.keep [0,1,7,8] (by kernel_rfl),fun i h=>(Nat.not_lt_zero i h).elim⟩<|?_
 rintro k a9 w8 ⟨k_le,s7,inv⟩
 refine zs s7 [0,1,7,8,9] [(9,Bo (decide ((k:Int)<(l.length:Int))))] qe fun _ w11 s12=>wp_seq<|aQ s12.f rfl (fun h13=>?_) (fun h13=>?_)
 ·have k_lt:k<l.length:=by omega
  obtain ⟨x,hx14⟩:=cD (xs:=l) k_lt
  refine wp_skip<|aD<|wp_seq<|wp_block<|zs s12 [0,1,5,7,8] [(5,I (k:Int))] qe fun _ w16 s17=>d5 s17 [0,1,5,7,8,16] [1602] [] (qo ((hl.up s17.m).ia c k g9 eL (by omega))<|qo ((hl.up s17.m).lda 157 k 0 eP hx14 rfl rfl)<|qo (yc w16 aaZ fun w' hb=>XE x w')<|qe) fun _ w19 s20=>cO s20.f rfl (fun h21=>?_) (fun h21=>?_)
  ·refine zs s20 [4] [(4,I (k:Int))] qe fun _ w23 s24=>aC<|bP (aN (aN (bP (aN (pR [I (k:Int)] rfl s24 ⟨rfl,trivial⟩ ?_)))))
   exact aW s24 (congrArg I (CG hx14 (by first | exact h21 | simpa using h21) inv).symm)
  refine wp_skip<|c9 (aD ?_)
  refine dU s20 [0,1,7,8] [800] [] (qo (wr ((k:Int)+1) ((k+1:Nat):Int) (by omega))<|qe) fun _ w26 s27=>aD<|?_
  exact ⟨(k+1),⟨by omega,s27.keep [0,1,7,8] (by kernel_rfl),aM inv (by intro y hy; rw [hx14] at hy; rw [← Option.some.inj hy]; first | exact h21 | simpa using h21)⟩,by omega⟩
 have k_eq:k=l.length:=by omega
 refine wp_exit<|aY (aY (cP (aD ?_)))
 refine zs s12 [4] [(4,I (-1))] qe fun _ w29 s30=>aC<|pR [I (-1)] rfl s30 ⟨rfl,trivial⟩<|?_
 exact aW s30 (congrArg I (CH (by rw [k_eq] at inv; exact inv)).symm)
theorem GS (oa:Option Addr) (l:List Fz.aX) (c:Nat) (w:World) (hl:Row w oa 14 aK l):Calls Tryz.prog 209 #[.slice oa l.length c,.func (.func 210) #[] #[]] w (eB (Bo (decide (kM pJ l≥0))) w):=by
 refine dX [.slice oa l.length c,.func (.func 210) #[] #[]] Tryz.func209 rfl rfl rfl rfl fun _ s0=>?_
 have sm0:=hl.small
 refine zs s0 [0,1] [(0,.slice oa l.length c),(1,.func (.func 210) #[] #[])] qe fun _ w2 s3=>zs s3 [4] [(4,Bo (decide (kM pJ l≥0)))] (qo (yc w2 abJ fun w' hb=>PS oa l c w' ((hl.up s3.m).grow hb))<|qe) fun _ w5 s6=>aC<|pR [Bo (decide (kM pJ l≥0))] rfl s6 ⟨rfl,trivial⟩<|?_
 exact aW s6 (congrArg Bo (rfl).symm)
theorem XF (s:ByteArray) (w:World) (hG:Glb w):Calls Tryz.prog 183 #[.string s] w (eB (Bo (!eO s)) w):=by
 refine dX [.string s] Tryz.func183 rfl rfl rfl rfl fun _ s0=>zs s0 [0] [(0,.string s)] qe fun _ w2 s3=>zs s3 [2] [(2,Bo (!(eO s)))] (qo (yc w2 VG fun w' hb=>OY s w' ((hG.up s3.m).grow hb))<|qe) fun _ w5 s6=>aC<|pR [Bo (!(eO s))] rfl s6 ⟨rfl,trivial⟩<|?_
 exact aW s6 (congrArg Bo (rfl).symm)
theorem PT (oa:Option Addr) (l:List ByteArray) (c:Nat) (w:World) (hl:Row w oa 1 aJ l) (hG:Glb w):Calls Tryz.prog 227 #[.slice oa l.length c,.func (.func 183) #[] #[]] w (eB (I (kM (fun s => !eO s) l)) w):=by
 refine dX [.slice oa l.length c,.func (.func 183) #[] #[]] Tryz.func227 rfl rfl rfl rfl fun _ s0=>?_
 have sm0:=hl.small
 refine zs s0 [0,1] [(0,.slice oa l.length c),(1,.func (.func 183) #[] #[])] qe fun _ w2 s3=>wp_seq<|d5 s3 [0,1,7,8] [700] [(8,I 0)] (qo (ln w2 3 oa l.length c kX)<|qe) fun _ w5 s6=>wp_block<|aO (α:=Nat) (fun k aI wI=>(k≤l.length)∧(Sta 19 [] w [⟨0,[],.slice oa l.length c⟩,⟨1,[],.func (.func 183) #[] #[]⟩,⟨7,[],I (l.length:Int)⟩,⟨8,[],I (k:Int)⟩] [] aI wI)∧(∀ i,i<k→∀ y,l[i]?=some y→(fun s => !eO s) y=false)) (fun k=>l.length-k) 0 ⟨Nat.zero_le _,s6.keep [0,1,7,8] (by kernel_rfl),fun i h=>(Nat.not_lt_zero i h).elim⟩<|?_
 rintro k a9 w8 ⟨k_le,s7,inv⟩
 refine zs s7 [0,1,7,8,9] [(9,Bo (decide ((k:Int)<(l.length:Int))))] qe fun _ w11 s12=>wp_seq<|aQ s12.f rfl (fun h13=>?_) (fun h13=>?_)
 ·have k_lt:k<l.length:=by omega
  obtain ⟨x,hx14⟩:=cD (xs:=l) k_lt
  refine wp_skip<|aD<|wp_seq<|wp_block<|zs s12 [0,1,5,7,8] [(5,I (k:Int))] qe fun _ w16 s17=>d5 s17 [0,1,5,7,8,16] [1602] [] (qo ((hl.up s17.m).ia c k kX A1 (by omega))<|qo ((hl.up s17.m).ld 9 k 0 qQ hx14 rfl)<|qo (yc w16 aaI fun w' hb=>XF x w' ((hG.up s17.m).grow hb))<|qe) fun _ w19 s20=>bR s20.f rfl (fun h21=>?_) (fun h21=>?_)
  ·refine zs s20 [4] [(4,I (k:Int))] qe fun _ w23 s24=>aC<|bP (aN (aN (bP (aN (pR [I (k:Int)] rfl s24 ⟨rfl,trivial⟩ ?_)))))
   exact aW s24 (congrArg I (CG hx14 (by first | exact h21 | simpa using h21) inv).symm)
  refine wp_skip<|c9 (aD ?_)
  refine dU s20 [0,1,7,8] [800] [] (qo (wr ((k:Int)+1) ((k+1:Nat):Int) (by omega))<|qe) fun _ w26 s27=>aD<|?_
  exact ⟨(k+1),⟨by omega,s27.keep [0,1,7,8] (by kernel_rfl),aM inv (by intro y hy; rw [hx14] at hy; rw [← Option.some.inj hy]; first | exact h21 | simpa using h21)⟩,by omega⟩
 have k_eq:k=l.length:=by omega
 refine wp_exit<|aY (aY (cP (aD ?_)))
 refine zs s12 [4] [(4,I (-1))] qe fun _ w29 s30=>aC<|pR [I (-1)] rfl s30 ⟨rfl,trivial⟩<|?_
 exact aW s30 (congrArg I (CH (by rw [k_eq] at inv; exact inv)).symm)
theorem j2 (oa:Option Addr) (l:List ByteArray) (c:Nat) (w:World) (hl:Row w oa 1 aJ l) (hG:Glb w):Calls Tryz.prog 182 #[.slice oa l.length c,.func (.func 183) #[] #[]] w (eB (Bo (decide (kM (fun s => !eO s) l≥0))) w):=by
 refine dX [.slice oa l.length c,.func (.func 183) #[] #[]] Tryz.func182 rfl rfl rfl rfl fun _ s0=>?_
 have sm0:=hl.small
 refine zs s0 [0,1] [(0,.slice oa l.length c),(1,.func (.func 183) #[] #[])] qe fun _ w2 s3=>zs s3 [4] [(4,Bo (decide (kM (fun s => !eO s) l≥0)))] (qo (yc w2 abG fun w' hb=>PT oa l c w' ((hl.up s3.m).grow hb) ((hG.up s3.m).grow hb))<|qe) fun _ w5 s6=>aC<|pR [Bo (decide (kM (fun s => !eO s) l≥0))] rfl s6 ⟨rfl,trivial⟩<|?_
 exact aW s6 (congrArg Bo (rfl).symm)
theorem IT (l:aE) (w:World) (hL:LeagueAt w l):Calls Tryz.prog 179 #[.agg (aB l).toArray] w (eB (Bo (z7 l)) w):=by
 refine dX [.agg (aB l).toArray] Tryz.func179 rfl rfl rfl rfl fun _ s0=>?_
 have smx1:=hL.sm
 refine wp_seq<|aA<|lb s0 0 _ rfl rfl rfl rfl fun B1 a2 w3 s4=>zl s4 [1] [(1,Pt B1 0)] 1 1 qe fun _ w6 s7=>aR rfl<|aD<|wp_seq<|wp_seq<|aA<|zl s7 [1,8,12,16,20,24,28,32,36,40,44] [(8,.agg #[I (l.towns.length:Int),I 64]),(12,.agg #[I (l.depots.length:Int),I 64]),(16,.agg #[I (l.grounds.length:Int),I 64]),(20,.agg #[I (l.ways.length:Int),I 256]),(24,.agg #[I (l.teams.length:Int),I 64]),(28,.agg #[I (l.windows.length:Int),I 32]),(32,.agg #[I (l.slots.length:Int),I 16]),(36,.agg #[I (l.keys.length:Int),I 5]),(40,.agg #[I (l.phases.length:Int),I 8]),(44,.agg #[I (l.conds.length:Int),I 128])] 0 40 (qo (fa w6 B1 0 oS)<|qo (s7.m.ld 22 0 1 A0 rfl rfl)<|qo (ln w6 3 l.townsA l.towns.length l.townsC zH)<|qo (jL (P:=Tryz.prog) w6 212 [(0,I (l.towns.length:Int)),(1,I 64)] (.agg #[I (l.towns.length:Int),I 64]) (fun _=>by kernel_rfl))<|qo (fa w6 B1 0 iU)<|qo (s7.m.ld 24 0 3 qY rfl rfl)<|qo (ln w6 3 l.depotsA l.depots.length l.depotsC qZ)<|qo (jL (P:=Tryz.prog) w6 212 [(0,I (l.depots.length:Int)),(1,I 64)] (.agg #[I (l.depots.length:Int),I 64]) (fun _=>by kernel_rfl))<|qo (fa w6 B1 0 gG)<|qo (s7.m.ld 25 0 4 n3 rfl rfl)<|qo (ln w6 3 l.groundsA l.grounds.length l.groundsC nV)<|qo (jL (P:=Tryz.prog) w6 212 [(0,I (l.grounds.length:Int)),(1,I 64)] (.agg #[I (l.grounds.length:Int),I 64]) (fun _=>by kernel_rfl))<|qo (fa w6 B1 0 fS)<|qo (s7.m.ld 23 0 2 nS rfl rfl)<|qo (ln w6 3 l.waysA l.ways.length l.waysC nU)<|qo (jL (P:=Tryz.prog) w6 212 [(0,I (l.ways.length:Int)),(1,I 256)] (.agg #[I (l.ways.length:Int),I 256]) (fun _=>by kernel_rfl))<|qo (fa w6 B1 0 dS)<|qo (s7.m.ld 26 0 5 kS rfl rfl)<|qo (ln w6 3 l.teamsA l.teams.length l.teamsC lL)<|qo (jL (P:=Tryz.prog) w6 212 [(0,I (l.teams.length:Int)),(1,I 64)] (.agg #[I (l.teams.length:Int),I 64]) (fun _=>by kernel_rfl))<|qo (fa w6 B1 0 lM)<|qo (s7.m.ld 27 0 6 wE rfl rfl)<|qo (ln w6 3 l.windowsA l.windows.length l.windowsC tN)<|qo (jL (P:=Tryz.prog) w6 212 [(0,I (l.windows.length:Int)),(1,I 32)] (.agg #[I (l.windows.length:Int),I 32]) (fun _=>by kernel_rfl))<|qo (fa w6 B1 0 jC)<|qo (s7.m.ld 28 0 7 pX rfl rfl)<|qo (ln w6 3 l.slotsA l.slots.length l.slotsC oP)<|qo (jL (P:=Tryz.prog) w6 212 [(0,I (l.slots.length:Int)),(1,I 16)] (.agg #[I (l.slots.length:Int),I 16]) (fun _=>by kernel_rfl))<|qo (fa w6 B1 0 jV)<|qo (s7.m.ld 30 0 12 jB rfl rfl)<|qo (ln w6 3 l.keysA l.keys.length l.keysC eX)<|qo (jL (P:=Tryz.prog) w6 212 [(0,I (l.keys.length:Int)),(1,I 5)] (.agg #[I (l.keys.length:Int),I 5]) (fun _=>by kernel_rfl))<|qo (fa w6 B1 0 cG)<|qo (s7.m.ld 31 0 13 iE rfl rfl)<|qo (ln w6 3 l.phasesA l.phases.length l.phasesC g9)<|qo (jL (P:=Tryz.prog) w6 212 [(0,I (l.phases.length:Int)),(1,I 8)] (.agg #[I (l.phases.length:Int),I 8]) (fun _=>by kernel_rfl))<|qo (fa w6 B1 0 eV)<|qo (s7.m.ld 32 0 14 o6 rfl rfl)<|qo (ln w6 3 l.condsA l.conds.length l.condsC oQ)<|qo (jL (P:=Tryz.prog) w6 212 [(0,I (l.conds.length:Int)),(1,I 128)] (.agg #[I (l.conds.length:Int),I 128]) (fun _=>by kernel_rfl))<|qe) fun _ w9 s10=>lR s10 40 (vs:=[.agg #[I (l.towns.length:Int),I 64],.agg #[I (l.depots.length:Int),I 64],.agg #[I (l.grounds.length:Int),I 64],.agg #[I (l.ways.length:Int),I 256],.agg #[I (l.teams.length:Int),I 64],.agg #[I (l.windows.length:Int),I 32],.agg #[I (l.slots.length:Int),I 16],.agg #[I (l.keys.length:Int),I 5],.agg #[I (l.phases.length:Int),I 8],.agg #[I (l.conds.length:Int),I 128]]) (e:=212) [I (l.towns.length:Int),I 64,I (l.depots.length:Int),I 64,I (l.grounds.length:Int),I 64,I (l.ways.length:Int),I 256,I (l.teams.length:Int),I 64,I (l.windows.length:Int),I 32,I (l.slots.length:Int),I 16,I (l.keys.length:Int),I 5,I (l.phases.length:Int),I 8,I (l.conds.length:Int),I 128] rfl rfl (fun _=>by kernel_rfl) rfl fun B11 a12 w13 s14=>fJ s14 [1,45,46,47] [4600] [(45,.slice (some ⟨B11,0,none⟩) 10 10),(47,I 0)] 41 2 (qo (ln w13 3 (some ⟨B11,0,none⟩) 10 10 VA)<|qe) fun _ w16 s17=>aR rfl ?_
 refine aD<|wp_block<|aO (α:=Nat) (fun k aI wI=>(k≤10)∧(Sta 61 [] w [⟨1,[],Pt B1 0⟩,⟨45,[],.slice (some ⟨B11,0,none⟩) 10 10⟩,⟨46,[],I 10⟩,⟨47,[],I (k:Int)⟩] [cI B11 212 [I (l.towns.length:Int),I 64,I (l.depots.length:Int),I 64,I (l.grounds.length:Int),I 64,I (l.ways.length:Int),I 256,I (l.teams.length:Int),I 64,I (l.windows.length:Int),I 32,I (l.slots.length:Int),I 16,I (l.keys.length:Int),I 5,I (l.phases.length:Int),I 8,I (l.conds.length:Int),I 128],cI B1 34 (aB l)] aI wI)∧(∀ iI,iI<k→∀ xI,([(⟨(l.towns.length:Int),64⟩:Fz.fM),(⟨(l.depots.length:Int),64⟩:Fz.fM),(⟨(l.grounds.length:Int),64⟩:Fz.fM),(⟨(l.ways.length:Int),256⟩:Fz.fM),(⟨(l.teams.length:Int),64⟩:Fz.fM),(⟨(l.windows.length:Int),32⟩:Fz.fM),(⟨(l.slots.length:Int),16⟩:Fz.fM),(⟨(l.keys.length:Int),5⟩:Fz.fM),(⟨(l.phases.length:Int),8⟩:Fz.fM),(⟨(l.conds.length:Int),128⟩:Fz.fM)])[iI]?=some xI→D4 xI=true)) (fun k=>10-k) 0 ⟨Nat.zero_le _,s17.keep [1,45,46,47] (by kernel_rfl),fun i h=>(Nat.not_lt_zero i h).elim⟩<|?_
 rintro k a20 w19 ⟨k_le,s18,inv_k⟩
 refine zs s18 [1,45,46,47,48] [(48,Bo (decide ((k:Int)<10)))] qe fun _ w22 s23=>wp_seq<|aQ s23.f rfl (fun h24=>?_) (fun h24=>?_)
 ·have k_lt:k<10:=by omega
  obtain ⟨x,hx25⟩:=cD (xs:=[(⟨(l.towns.length:Int),64⟩:Fz.fM),(⟨(l.depots.length:Int),64⟩:Fz.fM),(⟨(l.grounds.length:Int),64⟩:Fz.fM),(⟨(l.ways.length:Int),256⟩:Fz.fM),(⟨(l.teams.length:Int),64⟩:Fz.fM),(⟨(l.windows.length:Int),32⟩:Fz.fM),(⟨(l.slots.length:Int),16⟩:Fz.fM),(⟨(l.keys.length:Int),5⟩:Fz.fM),(⟨(l.phases.length:Int),8⟩:Fz.fM),(⟨(l.conds.length:Int),128⟩:Fz.fM)]) k_lt
  refine wp_skip<|aD<|wp_seq<|wp_block<|wp_seq<|aA<|zl s23 [1,45,46,47,50] [(50,.agg (u7 x).toArray)] 0 2 (qo ((s23.m.rowc (enc:=u7) 0 ([(⟨(l.towns.length:Int),64⟩:Fz.fM),(⟨(l.depots.length:Int),64⟩:Fz.fM),(⟨(l.grounds.length:Int),64⟩:Fz.fM),(⟨(l.ways.length:Int),256⟩:Fz.fM),(⟨(l.teams.length:Int),64⟩:Fz.fM),(⟨(l.windows.length:Int),32⟩:Fz.fM),(⟨(l.slots.length:Int),16⟩:Fz.fM),(⟨(l.keys.length:Int),5⟩:Fz.fM),(⟨(l.phases.length:Int),8⟩:Fz.fM),(⟨(l.conds.length:Int),128⟩:Fz.fM)]) rfl z6 rfl (Nat.le_of_ble_eq_true rfl)).ia 10 k VA N7 (by omega))<|qo ((s23.m.rowc (enc:=u7) 0 ([(⟨(l.towns.length:Int),64⟩:Fz.fM),(⟨(l.depots.length:Int),64⟩:Fz.fM),(⟨(l.grounds.length:Int),64⟩:Fz.fM),(⟨(l.ways.length:Int),256⟩:Fz.fM),(⟨(l.teams.length:Int),64⟩:Fz.fM),(⟨(l.windows.length:Int),32⟩:Fz.fM),(⟨(l.slots.length:Int),16⟩:Fz.fM),(⟨(l.keys.length:Int),5⟩:Fz.fM),(⟨(l.phases.length:Int),8⟩:Fz.fM),(⟨(l.conds.length:Int),128⟩:Fz.fM)]) rfl z6 rfl (Nat.le_of_ble_eq_true rfl)).lda 212 k 0 Y2 hx25 rfl rfl)<|qe) fun _ w27 s28=>la s28 2 _ rfl ZC rfl rfl fun B29 a30 w31 s32=>dD s32 3 0 _ _ rfl rfl rfl rfl N7 rfl rfl rfl rfl fun w33 s34=>aR rfl<|aD<|zs s34 [1,45,46,47,55] [(55,Bo (decide (x.a>x.b)))] (qo (HR w33 B29 0 0 Tryz.underlying212 hP (by omega))<|qo (s34.m.ld 3 0 0 bM rfl rfl)<|qo (HR w33 B29 0 1 Tryz.underlying212 hP (by omega))<|qo (s34.m.ld 3 0 1 bM rfl rfl)<|qe) fun _ w36 s37=>aQ s37.f rfl (fun h38=>?_) (fun h38=>?_)
  ·refine zs s37 [2] [(2,Bo false)] qe fun _ w40 s41=>aC<|bP (aN (aN (bP (aN (pR [Bo false] rfl s41 ⟨rfl,trivial⟩ ?_)))))
   exact aW s41 (congrArg Bo (iF (bI hx25 (congrArg (!·) (decide_eq_true h38))) rfl).symm)
  refine wp_skip<|c9 (aD ?_)
  refine dU s37 [1,45,46,47] [4700] [] (qo (wr ((k:Int)+1) ((k+1:Nat):Int) (by omega))<|qe) fun _ w43 s44=>aD<|?_
  exact ⟨(k+1),⟨by omega,(s44.keep [1,45,46,47] (by kernel_rfl)).sub (.cons _ (.refl _)),aM inv_k (fun y hy=>by rw [hx25] at hy; cases hy; exact (congrArg (!·) (decide_eq_false h38)))⟩,by omega⟩
 have k_eq:k=10:=by omega
 have A45:([(⟨(l.towns.length:Int),64⟩:Fz.fM),(⟨(l.depots.length:Int),64⟩:Fz.fM),(⟨(l.grounds.length:Int),64⟩:Fz.fM),(⟨(l.ways.length:Int),256⟩:Fz.fM),(⟨(l.teams.length:Int),64⟩:Fz.fM),(⟨(l.windows.length:Int),32⟩:Fz.fM),(⟨(l.slots.length:Int),16⟩:Fz.fM),(⟨(l.keys.length:Int),5⟩:Fz.fM),(⟨(l.phases.length:Int),8⟩:Fz.fM),(⟨(l.conds.length:Int),128⟩:Fz.fM)]).all D4=true:=cR (by rw [k_eq] at inv_k; exact inv_k)
 refine wp_exit<|aY (aY (cP (aD ?_)))
 refine zs s23 [2] [(2,Bo (!(decide (kM pJ l.phases≥0))))] (qo (fa w22 B1 0 cG)<|qo (s23.m.ld 31 1 13 iE rfl rfl)<|qo (yc w22 aaY fun w' hb=>GS l.phasesA l.phases l.phasesC w' ((hL.phases.up s23.m).grow hb))<|qe) fun _ w47 s48=>aC<|pR [Bo (!(decide (kM pJ l.phases≥0)))] rfl s48 ⟨rfl,trivial⟩<|?_
 exact aW s48 (congrArg Bo (iP A45 rfl).symm)
theorem TA (x:Fz.iY) (w:World):Calls Tryz.prog 212 #[.agg (gY x).toArray] w (eB (.string x.name) w):=by
 refine dX [.agg (gY x).toArray] Tryz.func212 rfl rfl rfl rfl fun _ s0=>wp_seq<|aA<|lb s0 0 _ rfl rfl rfl rfl fun B1 a2 w3 s4=>zl s4 [1] [(1,Pt B1 0)] 1 1 qe fun _ w6 s7=>aR rfl<|aD<|d5 s7 [2] [201] [] (qo (fa w6 B1 0 JN)<|qo (s7.m.ld 9 0 0 qQ rfl rfl)<|qe) fun _ w9 s10=>aC<|pR [.string x.name] rfl s10 ⟨rfl,trivial⟩<|?_
 exact aW s10 rfl
theorem TB (oa:Option Addr) (l:List Fz.iY) (c:Nat) (w:World) (hl:Row w oa 1 gY l) (hN:l.length≤8796093021952):Calls Tryz.prog 211 #[.slice oa l.length c,.func (.func 212) #[] #[]] w (qV 9 1 aJ (l.map (·.name)) w):=by
 refine dX [.slice oa l.length c,.func (.func 212) #[] #[]] Tryz.func211 rfl rfl rfl rfl fun _ s0=>?_
 have sm0:=hl.small
 refine zs s0 [0,1,4] [(0,.slice oa l.length c),(1,.func (.func 212) #[] #[]),(4,.slice none 0 0)] qe fun _ w2 s3=>wp_seq<|d5 s3 [1,4,7,8,9] [800] [(7,.slice oa l.length c),(9,I 0)] (qo (ln w2 3 oa l.length c zH)<|qe) fun _ w5 s6=>wp_block<|?_
 have s7:=s6.nilR 9 1 aJ
 refine aO (α:=Nat) (fun k aI wI=>∃ oa2:Option Addr,∃ c2:Nat,(k≤l.length)∧(Sta 21 [] w [⟨1,[],.func (.func 212) #[] #[]⟩,⟨4,[],.slice oa2 (((l.take k).map (·.name)).length) c2⟩,⟨7,[],.slice oa l.length c⟩,⟨8,[],I (l.length:Int)⟩,⟨9,[],I (k:Int)⟩] [oR 9 1 aJ oa2 c2 ((l.take k).map (·.name))] aI wI)) (fun k=>l.length-k) 0 ⟨none,0,Nat.zero_le _,s7.kp⟩<|?_
 rintro k a10 w9 ⟨oa2,c2,k_le,s8⟩
 refine zs s8 [1,4,7,8,9,10] [(10,Bo (decide ((k:Int)<(l.length:Int))))] qe fun _ w12 s13=>wp_seq<|aQ s13.f rfl (fun h14=>?_) (fun h14=>?_)
 ·have k_lt:k<l.length:=by omega
  obtain ⟨x,hx15⟩:=cD (xs:=l) k_lt
  refine wp_skip<|aD<|wp_seq<|wp_block<|wp_seq<|aA<|zl s13 [1,4,7,8,9,12] [(12,.agg (gY x).toArray)] 0 2 (qo ((hl.up s13.m).ia c k zH zE (by omega))<|qo ((hl.up s13.m).lda 150 k 0 JI hx15 rfl rfl)<|qe) fun _ w17 s18=>la s18 2 _ rfl Y7 rfl rfl fun B19 a20 w21 s22=>dD s22 3 0 _ _ rfl rfl rfl rfl zE rfl rfl rfl rfl fun w23 s24=>aR rfl<|aD<|aA<|zl s24 [1,7,8,9,13,14,15] [(13,.slice oa2 (((l.take k).map (·.name)).length) c2),(14,.func (.func 212) #[] #[]),(15,.agg (gY x).toArray)] 0 3 (qo (s24.m.lda 150 0 0 JI rfl rfl rfl)<|qe) fun _ w26 s27=>?_
  refine fJ s27 [1,7,8,9,13,16] [1600] [] 3 1 (qo (yc w26 ab1 fun w' hb=>TA x w')<|qe) fun _ w29 s30=>lR s30 4 (vs:=[.string x.name]) (e:=9) [.string x.name] rfl rfl (fun _=>by kernel_rfl) rfl fun B31 a32 w33 s34=>oV s34 5 2 (xs:=(l.take k).map (·.name)) (ys:=[x.name]) (oa:=oa2) (oa2:=(some ⟨B31,0,none⟩)) rfl rfl rfl rfl aU oF (s34.m.rowc (enc:=aJ) 0 ([x.name]) rfl aU rfl (Nat.le_of_ble_eq_true rfl)) (by first | omega | (simp only [bV]; omega)) (by simp only [maxLen]; first | omega | (simp only [bV]; omega)) rfl fun oa35 c36 a37 w38 s39=>zl s39 [1,4,7,8,9] [(4,.slice oa35 ((((l.take k).map (·.name))++([x.name])).length) c36)] 6 1 qe fun _ w41 s42=>aR rfl<|c9 (aD ?_)
  refine dU s42 [1,4,7,8,9] [900] [] (qo (wr ((k:Int)+1) ((k+1:Nat):Int) (by omega))<|qe) fun _ w44 s45=>aD<|?_
  exact ⟨(k+1),⟨oa35,c36,by omega,((s45.keep (E':=[⟨1,[],.func (.func 212) #[] #[]⟩,⟨4,[],.slice oa35 ((((l.take k).map (·.name))++([x.name])).length) c36⟩,⟨7,[],.slice oa l.length c⟩,⟨8,[],I (l.length:Int)⟩,⟨9,[],I ((k+1:Nat):Int)⟩]) [1,4,7,8,9] (by kernel_rfl)).sub (.cons _ (.cons _ (.refl _)))).re (by rw [bS hx15] <;> rfl) (by rw [bS hx15] <;> rfl)⟩,by omega⟩
 have k_eq:k=l.length:=by omega
 refine wp_exit<|aY (aY (cP (aD ?_)))
 refine zs s13 [4] [] qe fun _ w47 s48=>aC<|pR [.slice oa2 (((l.take k).map (·.name)).length) c2] rfl s48 ⟨rfl,trivial⟩<|?_
 exact n1 s48 0 rfl (cK k_eq)
theorem TC (x:Fz.bZ) (w:World):Calls Tryz.prog 214 #[.agg (bG x).toArray] w (eB (.string x.name) w):=by
 refine dX [.agg (bG x).toArray] Tryz.func214 rfl rfl rfl rfl fun _ s0=>wp_seq<|aA<|lb s0 0 _ rfl rfl rfl rfl fun B1 a2 w3 s4=>zl s4 [1] [(1,Pt B1 0)] 1 1 qe fun _ w6 s7=>aR rfl<|aD<|d5 s7 [2] [201] [] (qo (fa w6 B1 0 JO)<|qo (s7.m.ld 9 0 0 qQ rfl rfl)<|qe) fun _ w9 s10=>aC<|pR [.string x.name] rfl s10 ⟨rfl,trivial⟩<|?_
 exact aW s10 rfl
theorem TD (oa:Option Addr) (l:List Fz.bZ) (c:Nat) (w:World) (hl:Row w oa 7 bG l) (hN:l.length≤8796093021952):Calls Tryz.prog 213 #[.slice oa l.length c,.func (.func 214) #[] #[]] w (qV 9 1 aJ (l.map (·.name)) w):=by
 refine dX [.slice oa l.length c,.func (.func 214) #[] #[]] Tryz.func213 rfl rfl rfl rfl fun _ s0=>?_
 have sm0:=hl.small
 refine zs s0 [0,1,4] [(0,.slice oa l.length c),(1,.func (.func 214) #[] #[]),(4,.slice none 0 0)] qe fun _ w2 s3=>wp_seq<|d5 s3 [1,4,7,8,9] [800] [(7,.slice oa l.length c),(9,I 0)] (qo (ln w2 3 oa l.length c nV)<|qe) fun _ w5 s6=>wp_block<|?_
 have s7:=s6.nilR 9 1 aJ
 refine aO (α:=Nat) (fun k aI wI=>∃ oa2:Option Addr,∃ c2:Nat,(k≤l.length)∧(Sta 21 [] w [⟨1,[],.func (.func 214) #[] #[]⟩,⟨4,[],.slice oa2 (((l.take k).map (·.name)).length) c2⟩,⟨7,[],.slice oa l.length c⟩,⟨8,[],I (l.length:Int)⟩,⟨9,[],I (k:Int)⟩] [oR 9 1 aJ oa2 c2 ((l.take k).map (·.name))] aI wI)) (fun k=>l.length-k) 0 ⟨none,0,Nat.zero_le _,s7.kp⟩<|?_
 rintro k a10 w9 ⟨oa2,c2,k_le,s8⟩
 refine zs s8 [1,4,7,8,9,10] [(10,Bo (decide ((k:Int)<(l.length:Int))))] qe fun _ w12 s13=>wp_seq<|aQ s13.f rfl (fun h14=>?_) (fun h14=>?_)
 ·have k_lt:k<l.length:=by omega
  obtain ⟨x,hx15⟩:=cD (xs:=l) k_lt
  refine wp_skip<|aD<|wp_seq<|wp_block<|wp_seq<|aA<|zl s13 [1,4,7,8,9,12] [(12,.agg (bG x).toArray)] 0 2 (qo ((hl.up s13.m).ia c k nV oB (by omega))<|qo ((hl.up s13.m).lda 152 k 0 BY hx15 rfl rfl)<|qe) fun _ w17 s18=>la s18 2 _ rfl OB rfl rfl fun B19 a20 w21 s22=>dD s22 3 0 _ _ rfl rfl rfl rfl oB rfl rfl rfl rfl fun w23 s24=>aR rfl<|aD<|aA<|zl s24 [1,7,8,9,13,14,15] [(13,.slice oa2 (((l.take k).map (·.name)).length) c2),(14,.func (.func 214) #[] #[]),(15,.agg (bG x).toArray)] 0 3 (qo (s24.m.lda 152 0 0 BY rfl rfl rfl)<|qe) fun _ w26 s27=>?_
  refine fJ s27 [1,7,8,9,13,16] [1600] [] 3 1 (qo (yc w26 ab3 fun w' hb=>TC x w')<|qe) fun _ w29 s30=>lR s30 4 (vs:=[.string x.name]) (e:=9) [.string x.name] rfl rfl (fun _=>by kernel_rfl) rfl fun B31 a32 w33 s34=>oV s34 5 2 (xs:=(l.take k).map (·.name)) (ys:=[x.name]) (oa:=oa2) (oa2:=(some ⟨B31,0,none⟩)) rfl rfl rfl rfl aU oF (s34.m.rowc (enc:=aJ) 0 ([x.name]) rfl aU rfl (Nat.le_of_ble_eq_true rfl)) (by first | omega | (simp only [bV]; omega)) (by simp only [maxLen]; first | omega | (simp only [bV]; omega)) rfl fun oa35 c36 a37 w38 s39=>zl s39 [1,4,7,8,9] [(4,.slice oa35 ((((l.take k).map (·.name))++([x.name])).length) c36)] 6 1 qe fun _ w41 s42=>aR rfl<|c9 (aD ?_)
  refine dU s42 [1,4,7,8,9] [900] [] (qo (wr ((k:Int)+1) ((k+1:Nat):Int) (by omega))<|qe) fun _ w44 s45=>aD<|?_
  exact ⟨(k+1),⟨oa35,c36,by omega,((s45.keep (E':=[⟨1,[],.func (.func 214) #[] #[]⟩,⟨4,[],.slice oa35 ((((l.take k).map (·.name))++([x.name])).length) c36⟩,⟨7,[],.slice oa l.length c⟩,⟨8,[],I (l.length:Int)⟩,⟨9,[],I ((k+1:Nat):Int)⟩]) [1,4,7,8,9] (by kernel_rfl)).sub (.cons _ (.cons _ (.refl _)))).re (by rw [bS hx15] <;> rfl) (by rw [bS hx15] <;> rfl)⟩,by omega⟩
 have k_eq:k=l.length:=by omega
 refine wp_exit<|aY (aY (cP (aD ?_)))
 refine zs s13 [4] [] qe fun _ w47 s48=>aC<|pR [.slice oa2 (((l.take k).map (·.name)).length) c2] rfl s48 ⟨rfl,trivial⟩<|?_
 exact n1 s48 0 rfl (cK k_eq)
theorem TE (x:Fz.cX) (w:World):Calls Tryz.prog 216 #[.agg (bU x).toArray] w (eB (.string x.name) w):=by
 refine dX [.agg (bU x).toArray] Tryz.func216 rfl rfl rfl rfl fun _ s0=>wp_seq<|aA<|lb s0 0 _ rfl rfl rfl rfl fun B1 a2 w3 s4=>zl s4 [1] [(1,Pt B1 0)] 1 1 qe fun _ w6 s7=>aR rfl<|aD<|d5 s7 [2] [201] [] (qo (fa w6 B1 0 JV)<|qo (s7.m.ld 9 0 0 qQ rfl rfl)<|qe) fun _ w9 s10=>aC<|pR [.string x.name] rfl s10 ⟨rfl,trivial⟩<|?_
 exact aW s10 rfl
theorem TF (oa:Option Addr) (l:List Fz.cX) (c:Nat) (w:World) (hl:Row w oa 4 bU l) (hN:l.length≤8796093021952):Calls Tryz.prog 215 #[.slice oa l.length c,.func (.func 216) #[] #[]] w (qV 9 1 aJ (l.map (·.name)) w):=by
 refine dX [.slice oa l.length c,.func (.func 216) #[] #[]] Tryz.func215 rfl rfl rfl rfl fun _ s0=>?_
 have sm0:=hl.small
 refine zs s0 [0,1,4] [(0,.slice oa l.length c),(1,.func (.func 216) #[] #[]),(4,.slice none 0 0)] qe fun _ w2 s3=>wp_seq<|d5 s3 [1,4,7,8,9] [800] [(7,.slice oa l.length c),(9,I 0)] (qo (ln w2 3 oa l.length c lL)<|qe) fun _ w5 s6=>wp_block<|?_
 have s7:=s6.nilR 9 1 aJ
 refine aO (α:=Nat) (fun k aI wI=>∃ oa2:Option Addr,∃ c2:Nat,(k≤l.length)∧(Sta 21 [] w [⟨1,[],.func (.func 216) #[] #[]⟩,⟨4,[],.slice oa2 (((l.take k).map (·.name)).length) c2⟩,⟨7,[],.slice oa l.length c⟩,⟨8,[],I (l.length:Int)⟩,⟨9,[],I (k:Int)⟩] [oR 9 1 aJ oa2 c2 ((l.take k).map (·.name))] aI wI)) (fun k=>l.length-k) 0 ⟨none,0,Nat.zero_le _,s7.kp⟩<|?_
 rintro k a10 w9 ⟨oa2,c2,k_le,s8⟩
 refine zs s8 [1,4,7,8,9,10] [(10,Bo (decide ((k:Int)<(l.length:Int))))] qe fun _ w12 s13=>wp_seq<|aQ s13.f rfl (fun h14=>?_) (fun h14=>?_)
 ·have k_lt:k<l.length:=by omega
  obtain ⟨x,hx15⟩:=cD (xs:=l) k_lt
  refine wp_skip<|aD<|wp_seq<|wp_block<|wp_seq<|aA<|zl s13 [1,4,7,8,9,12] [(12,.agg (bU x).toArray)] 0 2 (qo ((hl.up s13.m).ia c k lL o9 (by omega))<|qo ((hl.up s13.m).lda 160 k 0 F7 hx15 rfl rfl)<|qe) fun _ w17 s18=>la s18 2 _ rfl U8 rfl rfl fun B19 a20 w21 s22=>dD s22 3 0 _ _ rfl rfl rfl rfl o9 rfl rfl rfl rfl fun w23 s24=>aR rfl<|aD<|aA<|zl s24 [1,7,8,9,13,14,15] [(13,.slice oa2 (((l.take k).map (·.name)).length) c2),(14,.func (.func 216) #[] #[]),(15,.agg (bU x).toArray)] 0 3 (qo (s24.m.lda 160 0 0 F7 rfl rfl rfl)<|qe) fun _ w26 s27=>?_
  refine fJ s27 [1,7,8,9,13,16] [1600] [] 3 1 (qo (yc w26 ab5 fun w' hb=>TE x w')<|qe) fun _ w29 s30=>lR s30 4 (vs:=[.string x.name]) (e:=9) [.string x.name] rfl rfl (fun _=>by kernel_rfl) rfl fun B31 a32 w33 s34=>oV s34 5 2 (xs:=(l.take k).map (·.name)) (ys:=[x.name]) (oa:=oa2) (oa2:=(some ⟨B31,0,none⟩)) rfl rfl rfl rfl aU oF (s34.m.rowc (enc:=aJ) 0 ([x.name]) rfl aU rfl (Nat.le_of_ble_eq_true rfl)) (by first | omega | (simp only [bV]; omega)) (by simp only [maxLen]; first | omega | (simp only [bV]; omega)) rfl fun oa35 c36 a37 w38 s39=>zl s39 [1,4,7,8,9] [(4,.slice oa35 ((((l.take k).map (·.name))++([x.name])).length) c36)] 6 1 qe fun _ w41 s42=>aR rfl<|c9 (aD ?_)
  refine dU s42 [1,4,7,8,9] [900] [] (qo (wr ((k:Int)+1) ((k+1:Nat):Int) (by omega))<|qe) fun _ w44 s45=>aD<|?_
  exact ⟨(k+1),⟨oa35,c36,by omega,((s45.keep (E':=[⟨1,[],.func (.func 216) #[] #[]⟩,⟨4,[],.slice oa35 ((((l.take k).map (·.name))++([x.name])).length) c36⟩,⟨7,[],.slice oa l.length c⟩,⟨8,[],I (l.length:Int)⟩,⟨9,[],I ((k+1:Nat):Int)⟩]) [1,4,7,8,9] (by kernel_rfl)).sub (.cons _ (.cons _ (.refl _)))).re (by rw [bS hx15] <;> rfl) (by rw [bS hx15] <;> rfl)⟩,by omega⟩
 have k_eq:k=l.length:=by omega
 refine wp_exit<|aY (aY (cP (aD ?_)))
 refine zs s13 [4] [] qe fun _ w47 s48=>aC<|pR [.slice oa2 (((l.take k).map (·.name)).length) c2] rfl s48 ⟨rfl,trivial⟩<|?_
 exact n1 s48 0 rfl (cK k_eq)
theorem TG (x:Fz.cQ) (w:World):Calls Tryz.prog 218 #[.agg (dB x).toArray] w (eB (.string x.name) w):=by
 refine dX [.agg (dB x).toArray] Tryz.func218 rfl rfl rfl rfl fun _ s0=>wp_seq<|aA<|lb s0 0 _ rfl rfl rfl rfl fun B1 a2 w3 s4=>zl s4 [1] [(1,Pt B1 0)] 1 1 qe fun _ w6 s7=>aR rfl<|aD<|d5 s7 [2] [201] [] (qo (fa w6 B1 0 JX)<|qo (s7.m.ld 9 0 0 qQ rfl rfl)<|qe) fun _ w9 s10=>aC<|pR [.string x.name] rfl s10 ⟨rfl,trivial⟩<|?_
 exact aW s10 rfl
theorem TH (oa:Option Addr) (l:List Fz.cQ) (c:Nat) (w:World) (hl:Row w oa 14 dB l) (hN:l.length≤8796093021952):Calls Tryz.prog 217 #[.slice oa l.length c,.func (.func 218) #[] #[]] w (qV 9 1 aJ (l.map (·.name)) w):=by
 refine dX [.slice oa l.length c,.func (.func 218) #[] #[]] Tryz.func217 rfl rfl rfl rfl fun _ s0=>?_
 have sm0:=hl.small
 refine zs s0 [0,1,4] [(0,.slice oa l.length c),(1,.func (.func 218) #[] #[]),(4,.slice none 0 0)] qe fun _ w2 s3=>wp_seq<|d5 s3 [1,4,7,8,9] [800] [(7,.slice oa l.length c),(9,I 0)] (qo (ln w2 3 oa l.length c tN)<|qe) fun _ w5 s6=>wp_block<|?_
 have s7:=s6.nilR 9 1 aJ
 refine aO (α:=Nat) (fun k aI wI=>∃ oa2:Option Addr,∃ c2:Nat,(k≤l.length)∧(Sta 21 [] w [⟨1,[],.func (.func 218) #[] #[]⟩,⟨4,[],.slice oa2 (((l.take k).map (·.name)).length) c2⟩,⟨7,[],.slice oa l.length c⟩,⟨8,[],I (l.length:Int)⟩,⟨9,[],I (k:Int)⟩] [oR 9 1 aJ oa2 c2 ((l.take k).map (·.name))] aI wI)) (fun k=>l.length-k) 0 ⟨none,0,Nat.zero_le _,s7.kp⟩<|?_
 rintro k a10 w9 ⟨oa2,c2,k_le,s8⟩
 refine zs s8 [1,4,7,8,9,10] [(10,Bo (decide ((k:Int)<(l.length:Int))))] qe fun _ w12 s13=>wp_seq<|aQ s13.f rfl (fun h14=>?_) (fun h14=>?_)
 ·have k_lt:k<l.length:=by omega
  obtain ⟨x,hx15⟩:=cD (xs:=l) k_lt
  refine wp_skip<|aD<|wp_seq<|wp_block<|wp_seq<|aA<|zl s13 [1,4,7,8,9,12] [(12,.agg (dB x).toArray)] 0 2 (qo ((hl.up s13.m).ia c k tN sS (by omega))<|qo ((hl.up s13.m).lda 165 k 0 B0 hx15 rfl rfl)<|qe) fun _ w17 s18=>la s18 2 _ rfl U9 rfl rfl fun B19 a20 w21 s22=>dD s22 3 0 _ _ rfl rfl rfl rfl sS rfl rfl rfl rfl fun w23 s24=>aR rfl<|aD<|aA<|zl s24 [1,7,8,9,13,14,15] [(13,.slice oa2 (((l.take k).map (·.name)).length) c2),(14,.func (.func 218) #[] #[]),(15,.agg (dB x).toArray)] 0 3 (qo (s24.m.lda 165 0 0 B0 rfl rfl rfl)<|qe) fun _ w26 s27=>?_
  refine fJ s27 [1,7,8,9,13,16] [1600] [] 3 1 (qo (yc w26 ab7 fun w' hb=>TG x w')<|qe) fun _ w29 s30=>lR s30 4 (vs:=[.string x.name]) (e:=9) [.string x.name] rfl rfl (fun _=>by kernel_rfl) rfl fun B31 a32 w33 s34=>oV s34 5 2 (xs:=(l.take k).map (·.name)) (ys:=[x.name]) (oa:=oa2) (oa2:=(some ⟨B31,0,none⟩)) rfl rfl rfl rfl aU oF (s34.m.rowc (enc:=aJ) 0 ([x.name]) rfl aU rfl (Nat.le_of_ble_eq_true rfl)) (by first | omega | (simp only [bV]; omega)) (by simp only [maxLen]; first | omega | (simp only [bV]; omega)) rfl fun oa35 c36 a37 w38 s39=>zl s39 [1,4,7,8,9] [(4,.slice oa35 ((((l.take k).map (·.name))++([x.name])).length) c36)] 6 1 qe fun _ w41 s42=>aR rfl<|c9 (aD ?_)
  refine dU s42 [1,4,7,8,9] [900] [] (qo (wr ((k:Int)+1) ((k+1:Nat):Int) (by omega))<|qe) fun _ w44 s45=>aD<|?_
  exact ⟨(k+1),⟨oa35,c36,by omega,((s45.keep (E':=[⟨1,[],.func (.func 218) #[] #[]⟩,⟨4,[],.slice oa35 ((((l.take k).map (·.name))++([x.name])).length) c36⟩,⟨7,[],.slice oa l.length c⟩,⟨8,[],I (l.length:Int)⟩,⟨9,[],I ((k+1:Nat):Int)⟩]) [1,4,7,8,9] (by kernel_rfl)).sub (.cons _ (.cons _ (.refl _)))).re (by rw [bS hx15] <;> rfl) (by rw [bS hx15] <;> rfl)⟩,by omega⟩
 have k_eq:k=l.length:=by omega
 refine wp_exit<|aY (aY (cP (aD ?_)))
 refine zs s13 [4] [] qe fun _ w47 s48=>aC<|pR [.slice oa2 (((l.take k).map (·.name)).length) c2] rfl s48 ⟨rfl,trivial⟩<|?_
 exact n1 s48 0 rfl (cK k_eq)
theorem TI (x:Fz.j3) (w:World):Calls Tryz.prog 220 #[.agg (gB x).toArray] w (eB (.string x.name) w):=by
 refine dX [.agg (gB x).toArray] Tryz.func220 rfl rfl rfl rfl fun _ s0=>wp_seq<|aA<|lb s0 0 _ rfl rfl rfl rfl fun B1 a2 w3 s4=>zl s4 [1] [(1,Pt B1 0)] 1 1 qe fun _ w6 s7=>aR rfl<|aD<|d5 s7 [2] [201] [] (qo (fa w6 B1 0 JT)<|qo (s7.m.ld 9 0 0 qQ rfl rfl)<|qe) fun _ w9 s10=>aC<|pR [.string x.name] rfl s10 ⟨rfl,trivial⟩<|?_
 exact aW s10 rfl
theorem TJ (oa:Option Addr) (l:List Fz.j3) (c:Nat) (w:World) (hl:Row w oa 4 gB l) (hN:l.length≤8796093021952):Calls Tryz.prog 219 #[.slice oa l.length c,.func (.func 220) #[] #[]] w (qV 9 1 aJ (l.map (·.name)) w):=by
 refine dX [.slice oa l.length c,.func (.func 220) #[] #[]] Tryz.func219 rfl rfl rfl rfl fun _ s0=>?_
 have sm0:=hl.small
 refine zs s0 [0,1,4] [(0,.slice oa l.length c),(1,.func (.func 220) #[] #[]),(4,.slice none 0 0)] qe fun _ w2 s3=>wp_seq<|d5 s3 [1,4,7,8,9] [800] [(7,.slice oa l.length c),(9,I 0)] (qo (ln w2 3 oa l.length c oP)<|qe) fun _ w5 s6=>wp_block<|?_
 have s7:=s6.nilR 9 1 aJ
 refine aO (α:=Nat) (fun k aI wI=>∃ oa2:Option Addr,∃ c2:Nat,(k≤l.length)∧(Sta 21 [] w [⟨1,[],.func (.func 220) #[] #[]⟩,⟨4,[],.slice oa2 (((l.take k).map (·.name)).length) c2⟩,⟨7,[],.slice oa l.length c⟩,⟨8,[],I (l.length:Int)⟩,⟨9,[],I (k:Int)⟩] [oR 9 1 aJ oa2 c2 ((l.take k).map (·.name))] aI wI)) (fun k=>l.length-k) 0 ⟨none,0,Nat.zero_le _,s7.kp⟩<|?_
 rintro k a10 w9 ⟨oa2,c2,k_le,s8⟩
 refine zs s8 [1,4,7,8,9,10] [(10,Bo (decide ((k:Int)<(l.length:Int))))] qe fun _ w12 s13=>wp_seq<|aQ s13.f rfl (fun h14=>?_) (fun h14=>?_)
 ·have k_lt:k<l.length:=by omega
  obtain ⟨x,hx15⟩:=cD (xs:=l) k_lt
  refine wp_skip<|aD<|wp_seq<|wp_block<|wp_seq<|aA<|zl s13 [1,4,7,8,9,12] [(12,.agg (gB x).toArray)] 0 2 (qo ((hl.up s13.m).ia c k oP rM (by omega))<|qo ((hl.up s13.m).lda 154 k 0 BZ hx15 rfl rfl)<|qe) fun _ w17 s18=>la s18 2 _ rfl OC rfl rfl fun B19 a20 w21 s22=>dD s22 3 0 _ _ rfl rfl rfl rfl rM rfl rfl rfl rfl fun w23 s24=>aR rfl<|aD<|aA<|zl s24 [1,7,8,9,13,14,15] [(13,.slice oa2 (((l.take k).map (·.name)).length) c2),(14,.func (.func 220) #[] #[]),(15,.agg (gB x).toArray)] 0 3 (qo (s24.m.lda 154 0 0 BZ rfl rfl rfl)<|qe) fun _ w26 s27=>?_
  refine fJ s27 [1,7,8,9,13,16] [1600] [] 3 1 (qo (yc w26 ab9 fun w' hb=>TI x w')<|qe) fun _ w29 s30=>lR s30 4 (vs:=[.string x.name]) (e:=9) [.string x.name] rfl rfl (fun _=>by kernel_rfl) rfl fun B31 a32 w33 s34=>oV s34 5 2 (xs:=(l.take k).map (·.name)) (ys:=[x.name]) (oa:=oa2) (oa2:=(some ⟨B31,0,none⟩)) rfl rfl rfl rfl aU oF (s34.m.rowc (enc:=aJ) 0 ([x.name]) rfl aU rfl (Nat.le_of_ble_eq_true rfl)) (by first | omega | (simp only [bV]; omega)) (by simp only [maxLen]; first | omega | (simp only [bV]; omega)) rfl fun oa35 c36 a37 w38 s39=>zl s39 [1,4,7,8,9] [(4,.slice oa35 ((((l.take k).map (·.name))++([x.name])).length) c36)] 6 1 qe fun _ w41 s42=>aR rfl<|c9 (aD ?_)
  refine dU s42 [1,4,7,8,9] [900] [] (qo (wr ((k:Int)+1) ((k+1:Nat):Int) (by omega))<|qe) fun _ w44 s45=>aD<|?_
  exact ⟨(k+1),⟨oa35,c36,by omega,((s45.keep (E':=[⟨1,[],.func (.func 220) #[] #[]⟩,⟨4,[],.slice oa35 ((((l.take k).map (·.name))++([x.name])).length) c36⟩,⟨7,[],.slice oa l.length c⟩,⟨8,[],I (l.length:Int)⟩,⟨9,[],I ((k+1:Nat):Int)⟩]) [1,4,7,8,9] (by kernel_rfl)).sub (.cons _ (.cons _ (.refl _)))).re (by rw [bS hx15] <;> rfl) (by rw [bS hx15] <;> rfl)⟩,by omega⟩
 have k_eq:k=l.length:=by omega
 refine wp_exit<|aY (aY (cP (aD ?_)))
 refine zs s13 [4] [] qe fun _ w47 s48=>aC<|pR [.slice oa2 (((l.take k).map (·.name)).length) c2] rfl s48 ⟨rfl,trivial⟩<|?_
 exact n1 s48 0 rfl (cK k_eq)
theorem TK (x:Fz.aX) (w:World):Calls Tryz.prog 222 #[.agg (aK x).toArray] w (eB (.string x.name) w):=by
 refine dX [.agg (aK x).toArray] Tryz.func222 rfl rfl rfl rfl fun _ s0=>wp_seq<|aA<|lb s0 0 _ rfl rfl rfl rfl fun B1 a2 w3 s4=>zl s4 [1] [(1,Pt B1 0)] 1 1 qe fun _ w6 s7=>aR rfl<|aD<|d5 s7 [2] [201] [] (qo (fa w6 B1 0 xZ)<|qo (s7.m.ld 9 0 0 qQ rfl rfl)<|qe) fun _ w9 s10=>aC<|pR [.string x.name] rfl s10 ⟨rfl,trivial⟩<|?_
 exact aW s10 rfl
theorem TL (oa:Option Addr) (l:List Fz.aX) (c:Nat) (w:World) (hl:Row w oa 14 aK l) (hN:l.length≤8796093021952):Calls Tryz.prog 221 #[.slice oa l.length c,.func (.func 222) #[] #[]] w (qV 9 1 aJ (l.map (·.name)) w):=by
 refine dX [.slice oa l.length c,.func (.func 222) #[] #[]] Tryz.func221 rfl rfl rfl rfl fun _ s0=>?_
 have sm0:=hl.small
 refine zs s0 [0,1,4] [(0,.slice oa l.length c),(1,.func (.func 222) #[] #[]),(4,.slice none 0 0)] qe fun _ w2 s3=>wp_seq<|d5 s3 [1,4,7,8,9] [800] [(7,.slice oa l.length c),(9,I 0)] (qo (ln w2 3 oa l.length c g9)<|qe) fun _ w5 s6=>wp_block<|?_
 have s7:=s6.nilR 9 1 aJ
 refine aO (α:=Nat) (fun k aI wI=>∃ oa2:Option Addr,∃ c2:Nat,(k≤l.length)∧(Sta 21 [] w [⟨1,[],.func (.func 222) #[] #[]⟩,⟨4,[],.slice oa2 (((l.take k).map (·.name)).length) c2⟩,⟨7,[],.slice oa l.length c⟩,⟨8,[],I (l.length:Int)⟩,⟨9,[],I (k:Int)⟩] [oR 9 1 aJ oa2 c2 ((l.take k).map (·.name))] aI wI)) (fun k=>l.length-k) 0 ⟨none,0,Nat.zero_le _,s7.kp⟩<|?_
 rintro k a10 w9 ⟨oa2,c2,k_le,s8⟩
 refine zs s8 [1,4,7,8,9,10] [(10,Bo (decide ((k:Int)<(l.length:Int))))] qe fun _ w12 s13=>wp_seq<|aQ s13.f rfl (fun h14=>?_) (fun h14=>?_)
 ·have k_lt:k<l.length:=by omega
  obtain ⟨x,hx15⟩:=cD (xs:=l) k_lt
  refine wp_skip<|aD<|wp_seq<|wp_block<|wp_seq<|aA<|zl s13 [1,4,7,8,9,12] [(12,.agg (aK x).toArray)] 0 2 (qo ((hl.up s13.m).ia c k g9 eL (by omega))<|qo ((hl.up s13.m).lda 157 k 0 eP hx15 rfl rfl)<|qe) fun _ w17 s18=>la s18 2 _ rfl sU rfl rfl fun B19 a20 w21 s22=>dD s22 3 0 _ _ rfl rfl rfl rfl eL rfl rfl rfl rfl fun w23 s24=>aR rfl<|aD<|aA<|zl s24 [1,7,8,9,13,14,15] [(13,.slice oa2 (((l.take k).map (·.name)).length) c2),(14,.func (.func 222) #[] #[]),(15,.agg (aK x).toArray)] 0 3 (qo (s24.m.lda 157 0 0 eP rfl rfl rfl)<|qe) fun _ w26 s27=>?_
  refine fJ s27 [1,7,8,9,13,16] [1600] [] 3 1 (qo (yc w26 abB fun w' hb=>TK x w')<|qe) fun _ w29 s30=>lR s30 4 (vs:=[.string x.name]) (e:=9) [.string x.name] rfl rfl (fun _=>by kernel_rfl) rfl fun B31 a32 w33 s34=>oV s34 5 2 (xs:=(l.take k).map (·.name)) (ys:=[x.name]) (oa:=oa2) (oa2:=(some ⟨B31,0,none⟩)) rfl rfl rfl rfl aU oF (s34.m.rowc (enc:=aJ) 0 ([x.name]) rfl aU rfl (Nat.le_of_ble_eq_true rfl)) (by first | omega | (simp only [bV]; omega)) (by simp only [maxLen]; first | omega | (simp only [bV]; omega)) rfl fun oa35 c36 a37 w38 s39=>zl s39 [1,4,7,8,9] [(4,.slice oa35 ((((l.take k).map (·.name))++([x.name])).length) c36)] 6 1 qe fun _ w41 s42=>aR rfl<|c9 (aD ?_)
  refine dU s42 [1,4,7,8,9] [900] [] (qo (wr ((k:Int)+1) ((k+1:Nat):Int) (by omega))<|qe) fun _ w44 s45=>aD<|?_
  exact ⟨(k+1),⟨oa35,c36,by omega,((s45.keep (E':=[⟨1,[],.func (.func 222) #[] #[]⟩,⟨4,[],.slice oa35 ((((l.take k).map (·.name))++([x.name])).length) c36⟩,⟨7,[],.slice oa l.length c⟩,⟨8,[],I (l.length:Int)⟩,⟨9,[],I ((k+1:Nat):Int)⟩]) [1,4,7,8,9] (by kernel_rfl)).sub (.cons _ (.cons _ (.refl _)))).re (by rw [bS hx15] <;> rfl) (by rw [bS hx15] <;> rfl)⟩,by omega⟩
 have k_eq:k=l.length:=by omega
 refine wp_exit<|aY (aY (cP (aD ?_)))
 refine zs s13 [4] [] qe fun _ w47 s48=>aC<|pR [.slice oa2 (((l.take k).map (·.name)).length) c2] rfl s48 ⟨rfl,trivial⟩<|?_
 exact n1 s48 0 rfl (cK k_eq)
theorem TM (x:Fz.cJ) (w:World):Calls Tryz.prog 224 #[.agg (aV x).toArray] w (eB (.string x.name) w):=by
 refine dX [.agg (aV x).toArray] Tryz.func224 rfl rfl rfl rfl fun _ s0=>wp_seq<|aA<|lb s0 0 _ rfl rfl rfl rfl fun B1 a2 w3 s4=>zl s4 [1] [(1,Pt B1 0)] 1 1 qe fun _ w6 s7=>aR rfl<|aD<|d5 s7 [2] [201] [] (qo (fa w6 B1 0 J1)<|qo (s7.m.ld 9 0 0 qQ rfl rfl)<|qe) fun _ w9 s10=>aC<|pR [.string x.name] rfl s10 ⟨rfl,trivial⟩<|?_
 exact aW s10 rfl
theorem TN (oa:Option Addr) (l:List Fz.cJ) (c:Nat) (w:World) (hl:Row w oa 21 aV l) (hN:l.length≤8796093021952):Calls Tryz.prog 223 #[.slice oa l.length c,.func (.func 224) #[] #[]] w (qV 9 1 aJ (l.map (·.name)) w):=by
 refine dX [.slice oa l.length c,.func (.func 224) #[] #[]] Tryz.func223 rfl rfl rfl rfl fun _ s0=>?_
 have sm0:=hl.small
 refine zs s0 [0,1,4] [(0,.slice oa l.length c),(1,.func (.func 224) #[] #[]),(4,.slice none 0 0)] qe fun _ w2 s3=>wp_seq<|d5 s3 [1,4,7,8,9] [800] [(7,.slice oa l.length c),(9,I 0)] (qo (ln w2 3 oa l.length c oQ)<|qe) fun _ w5 s6=>wp_block<|?_
 have s7:=s6.nilR 9 1 aJ
 refine aO (α:=Nat) (fun k aI wI=>∃ oa2:Option Addr,∃ c2:Nat,(k≤l.length)∧(Sta 21 [] w [⟨1,[],.func (.func 224) #[] #[]⟩,⟨4,[],.slice oa2 (((l.take k).map (·.name)).length) c2⟩,⟨7,[],.slice oa l.length c⟩,⟨8,[],I (l.length:Int)⟩,⟨9,[],I (k:Int)⟩] [oR 9 1 aJ oa2 c2 ((l.take k).map (·.name))] aI wI)) (fun k=>l.length-k) 0 ⟨none,0,Nat.zero_le _,s7.kp⟩<|?_
 rintro k a10 w9 ⟨oa2,c2,k_le,s8⟩
 refine zs s8 [1,4,7,8,9,10] [(10,Bo (decide ((k:Int)<(l.length:Int))))] qe fun _ w12 s13=>wp_seq<|aQ s13.f rfl (fun h14=>?_) (fun h14=>?_)
 ·have k_lt:k<l.length:=by omega
  obtain ⟨x,hx15⟩:=cD (xs:=l) k_lt
  refine wp_skip<|aD<|wp_seq<|wp_block<|wp_seq<|aA<|zl s13 [1,4,7,8,9,12] [(12,.agg (aV x).toArray)] 0 2 (qo ((hl.up s13.m).ia c k oQ iC (by omega))<|qo ((hl.up s13.m).lda 178 k 0 fH hx15 rfl rfl)<|qe) fun _ w17 s18=>la s18 2 _ rfl OD rfl rfl fun B19 a20 w21 s22=>dD s22 3 0 _ _ rfl rfl rfl rfl iC rfl rfl rfl rfl fun w23 s24=>aR rfl<|aD<|aA<|zl s24 [1,7,8,9,13,14,15] [(13,.slice oa2 (((l.take k).map (·.name)).length) c2),(14,.func (.func 224) #[] #[]),(15,.agg (aV x).toArray)] 0 3 (qo (s24.m.lda 178 0 0 fH rfl rfl rfl)<|qe) fun _ w26 s27=>?_
  refine fJ s27 [1,7,8,9,13,16] [1600] [] 3 1 (qo (yc w26 abD fun w' hb=>TM x w')<|qe) fun _ w29 s30=>lR s30 4 (vs:=[.string x.name]) (e:=9) [.string x.name] rfl rfl (fun _=>by kernel_rfl) rfl fun B31 a32 w33 s34=>oV s34 5 2 (xs:=(l.take k).map (·.name)) (ys:=[x.name]) (oa:=oa2) (oa2:=(some ⟨B31,0,none⟩)) rfl rfl rfl rfl aU oF (s34.m.rowc (enc:=aJ) 0 ([x.name]) rfl aU rfl (Nat.le_of_ble_eq_true rfl)) (by first | omega | (simp only [bV]; omega)) (by simp only [maxLen]; first | omega | (simp only [bV]; omega)) rfl fun oa35 c36 a37 w38 s39=>zl s39 [1,4,7,8,9] [(4,.slice oa35 ((((l.take k).map (·.name))++([x.name])).length) c36)] 6 1 qe fun _ w41 s42=>aR rfl<|c9 (aD ?_)
  refine dU s42 [1,4,7,8,9] [900] [] (qo (wr ((k:Int)+1) ((k+1:Nat):Int) (by omega))<|qe) fun _ w44 s45=>aD<|?_
  exact ⟨(k+1),⟨oa35,c36,by omega,((s45.keep (E':=[⟨1,[],.func (.func 224) #[] #[]⟩,⟨4,[],.slice oa35 ((((l.take k).map (·.name))++([x.name])).length) c36⟩,⟨7,[],.slice oa l.length c⟩,⟨8,[],I (l.length:Int)⟩,⟨9,[],I ((k+1:Nat):Int)⟩]) [1,4,7,8,9] (by kernel_rfl)).sub (.cons _ (.cons _ (.refl _)))).re (by rw [bS hx15] <;> rfl) (by rw [bS hx15] <;> rfl)⟩,by omega⟩
 have k_eq:k=l.length:=by omega
 refine wp_exit<|aY (aY (cP (aD ?_)))
 refine zs s13 [4] [] qe fun _ w47 s48=>aC<|pR [.slice oa2 (((l.take k).map (·.name)).length) c2] rfl s48 ⟨rfl,trivial⟩<|?_
 exact n1 s48 0 rfl (cK k_eq)
end Go.Proofs.YtfffbdmdllgalaaGreatDoor
namespace Go.Proofs.YtfffbdmdllgalaaGreatDoor
open Go Go.RowKit Go.Fz
set_option maxRecDepth 10000
theorem TO (l:aE) (w:World) (hL:LeagueAt w l):Calls Tryz.prog 180 #[.agg (aB l).toArray] w (vO (fun x:Nat × cE=>.slice (some ⟨x.1,0,none⟩) 7 7) (fun x:Nat × cE=>cI x.1 158 (dE x.2)::y0 x.2) (fun x=>gZ l x.2) w):=by
 refine dX [.agg (aB l).toArray] Tryz.func180 rfl rfl rfl rfl fun _ s0=>?_
 have hN_211:=hL.townsN
 have hN_213:=hL.groundsN
 have hN_215:=hL.teamsN
 have hN_217:=hL.windowsN
 have hN_219:=hL.slotsN
 have hN_221:=hL.phasesN
 have hN_223:=hL.condsN
 have smx1:=hL.sm
 refine wp_seq<|aA<|lb s0 0 _ rfl rfl rfl rfl fun B1 a2 w3 s4=>zl s4 [1] [(1,Pt B1 0)] 1 1 qe fun _ w6 s7=>aR rfl<|aD<|wp_seq<|lH MO (St w [cI B1 34 (aB l)])<|wX (hs:=[Pt B1 1,.slice l.townsA l.towns.length l.townsC,Pt B1 4,.slice l.groundsA l.grounds.length l.groundsC,Pt B1 5,.slice l.teamsA l.teams.length l.teamsC,Pt B1 6,.slice l.windowsA l.windows.length l.windowsC,Pt B1 7,.slice l.slotsA l.slots.length l.slotsC,Pt B1 13,.slice l.phasesA l.phases.length l.phasesC,Pt B1 14,.slice l.condsA l.conds.length l.condsC]) (E1:=[⟨4,[],.slice l.townsA l.towns.length l.townsC⟩,⟨7,[],.slice l.groundsA l.grounds.length l.groundsC⟩,⟨10,[],.slice l.teamsA l.teams.length l.teamsC⟩,⟨13,[],.slice l.windowsA l.windows.length l.windowsC⟩,⟨16,[],.slice l.slotsA l.slots.length l.slotsC⟩,⟨19,[],.slice l.phasesA l.phases.length l.phasesC⟩,⟨22,[],.slice l.condsA l.conds.length l.condsC⟩]) (ks:=[4,7,10,13,16,19,22]) s7 [] [0,1,3,4,6,7,9,10,12,13,15,16,18,19] (fun _=>by kernel_rfl) (fun wC sC=>oc (fa wC B1 0 oS)<|oc (sC.m.ld 22 0 1 A0 rfl rfl)<|oc (fa wC B1 0 gG)<|oc (sC.m.ld 25 0 4 n3 rfl rfl)<|oc (fa wC B1 0 dS)<|oc (sC.m.ld 26 0 5 kS rfl rfl)<|oc (fa wC B1 0 lM)<|oc (sC.m.ld 27 0 6 wE rfl rfl)<|oc (fa wC B1 0 jC)<|oc (sC.m.ld 28 0 7 pX rfl rfl)<|oc (fa wC B1 0 cG)<|oc (sC.m.ld 31 0 13 iE rfl rfl)<|oc (fa wC B1 0 eV)<|oc (sC.m.ld 32 0 14 o6 rfl rfl)<|trivial) (.ck _ (.slnil)) (by kernel_rfl) (by kernel_rfl) hq fun _ s10=>tX s10 [19,18,16,15,13,12,10,9,7,6,4,3,1,0] 2 rfl rfl rfl rfl (by kernel_rfl) (by kernel_rfl) fun w11 s12=>I8 s12 0 (e:=9) (enc:=aJ) (xs:=l.towns.map (fun x:Fz.iY=>x.name)) rfl rfl rfl ab0 rfl (TB l.townsA l.towns l.townsC _ (hL.towns.up s12.m) hN_211) fun oa13 c14 a15 w16 s17=>aR rfl (aD ⟨s17.m.sub (.cons _ (.ck _ (.slnil))),?_⟩)
 refine tX s17 [2,19,18,16,15,13,12,10,9,7,6,4,3,1,0] 5 rfl rfl rfl rfl (by kernel_rfl) (by kernel_rfl) fun w18 s19=>I8 s19 0 (e:=9) (enc:=aJ) (xs:=l.grounds.map (fun x:Fz.bZ=>x.name)) rfl rfl rfl ab2 rfl (TD l.groundsA l.grounds l.groundsC _ (hL.grounds.up s19.m) hN_213) fun oa20 c21 a22 w23 s24=>aR rfl (aD ⟨s24.m.sub (.cons _ (.cons _ (.ck _ (.slnil)))),?_⟩)
 refine tX s24 [5,2,19,18,16,15,13,12,10,9,7,6,4,3,1,0] 8 rfl rfl rfl rfl (by kernel_rfl) (by kernel_rfl) fun w25 s26=>I8 s26 0 (e:=9) (enc:=aJ) (xs:=l.teams.map (fun x:Fz.cX=>x.name)) rfl rfl rfl ab4 rfl (TF l.teamsA l.teams l.teamsC _ (hL.teams.up s26.m) hN_215) fun oa27 c28 a29 w30 s31=>aR rfl (aD ⟨s31.m.sub (.cons _ (.cons _ (.cons _ (.ck _ (.slnil))))),?_⟩)
 refine tX s31 [8,5,2,19,18,16,15,13,12,10,9,7,6,4,3,1,0] 11 rfl rfl rfl rfl (by kernel_rfl) (by kernel_rfl) fun w32 s33=>I8 s33 0 (e:=9) (enc:=aJ) (xs:=l.windows.map (fun x:Fz.cQ=>x.name)) rfl rfl rfl ab6 rfl (TH l.windowsA l.windows l.windowsC _ (hL.windows.up s33.m) hN_217) fun oa34 c35 a36 w37 s38=>aR rfl (aD ⟨s38.m.sub (.cons _ (.cons _ (.cons _ (.cons _ (.ck _ (.slnil)))))),?_⟩)
 refine tX s38 [11,8,5,2,19,18,16,15,13,12,10,9,7,6,4,3,1,0] 14 rfl rfl rfl rfl (by kernel_rfl) (by kernel_rfl) fun w39 s40=>I8 s40 0 (e:=9) (enc:=aJ) (xs:=l.slots.map (fun x:Fz.j3=>x.name)) rfl rfl rfl ab8 rfl (TJ l.slotsA l.slots l.slotsC _ (hL.slots.up s40.m) hN_219) fun oa41 c42 a43 w44 s45=>aR rfl (aD ⟨s45.m.sub (.cons _ (.cons _ (.cons _ (.cons _ (.cons _ (.ck _ (.slnil))))))),?_⟩)
 refine tX s45 [14,11,8,5,2,19,18,16,15,13,12,10,9,7,6,4,3,1,0] 17 rfl rfl rfl rfl (by kernel_rfl) (by kernel_rfl) fun w46 s47=>I8 s47 0 (e:=9) (enc:=aJ) (xs:=l.phases.map (fun x:Fz.aX=>x.name)) rfl rfl rfl abA rfl (TL l.phasesA l.phases l.phasesC _ (hL.phases.up s47.m) hN_221) fun oa48 c49 a50 w51 s52=>aR rfl (aD ⟨s52.m.sub (.cons _ (.cons _ (.cons _ (.cons _ (.cons _ (.cons _ (.ck _ (.slnil)))))))),?_⟩)
 refine tX s52 [17,14,11,8,5,2,19,18,16,15,13,12,10,9,7,6,4,3,1,0] 20 rfl rfl rfl rfl (by kernel_rfl) (by kernel_rfl) fun w53 s54=>I8 s54 0 (e:=9) (enc:=aJ) (xs:=l.conds.map (fun x:Fz.cJ=>x.name)) rfl rfl rfl abC rfl (TN l.condsA l.conds l.condsC _ (hL.conds.up s54.m) hN_223) fun oa55 c56 a57 w58 s59=>aR rfl (aD ⟨s59.m.sub (.cons _ (.cons _ (.cons _ (.cons _ (.cons _ (.cons _ (.cons _ (.ck _ (.slnil))))))))),?_⟩)
 refine tX s59 [20,17,14,11,8,5,2,19,18,16,15,13,12,10,9,7,6,4,3,1,0] 21 rfl rfl rfl rfl (by kernel_rfl) (by kernel_rfl) fun w60 s61=>lR s61 0 (vs:=[.slice oa13 ((l.towns.map (fun x:Fz.iY=>x.name)).length) c14,.slice oa20 ((l.grounds.map (fun x:Fz.bZ=>x.name)).length) c21,.slice oa27 ((l.teams.map (fun x:Fz.cX=>x.name)).length) c28,.slice oa34 ((l.windows.map (fun x:Fz.cQ=>x.name)).length) c35,.slice oa41 ((l.slots.map (fun x:Fz.j3=>x.name)).length) c42,.slice oa48 ((l.phases.map (fun x:Fz.aX=>x.name)).length) c49,.slice oa55 ((l.conds.map (fun x:Fz.cJ=>x.name)).length) c56]) (e:=158) [.slice oa13 ((l.towns.map (fun x:Fz.iY=>x.name)).length) c14,.slice oa20 ((l.grounds.map (fun x:Fz.bZ=>x.name)).length) c21,.slice oa27 ((l.teams.map (fun x:Fz.cX=>x.name)).length) c28,.slice oa34 ((l.windows.map (fun x:Fz.cQ=>x.name)).length) c35,.slice oa41 ((l.slots.map (fun x:Fz.j3=>x.name)).length) c42,.slice oa48 ((l.phases.map (fun x:Fz.aX=>x.name)).length) c49,.slice oa55 ((l.conds.map (fun x:Fz.cJ=>x.name)).length) c56] rfl rfl (fun _=>by kernel_rfl) rfl fun B62 a63 w64 s65=>aR rfl (aD ⟨s65.m.sub (.cons _ (.cons _ (.cons _ (.cons _ (.cons _ (.cons _ (.cons _ (.cons _ (.ck _ (.slnil)))))))))),?_⟩)
 refine wX (hs:=[]) (E1:=[⟨2,[],.slice (some ⟨B62,0,none⟩) 7 7⟩]) (ks:=[2]) s65 [21,20,17,14,11,8,5,2,19,18,16,15,13,12,10,9,7,6,4,3,1,0] [22] (fun _=>by kernel_rfl) (fun wC sC=>trivial) (.cons _ (.cons _ (.cons _ (.cons _ (.cons _ (.cons _ (.cons _ (.cons _ (.ck _ (.slnil)))))))))) (by kernel_rfl) (by kernel_rfl) hq fun _ s68=>RG s68 (by kernel_rfl) fun w69 s70=>aD<|aC<|pR [.slice (some ⟨B62,0,none⟩) 7 7] rfl s70 ⟨rfl,trivial⟩<|?_
 have sF:=s70.re (H':=[cI B62 158 [.slice oa13 ((l.towns.map (fun x:Fz.iY=>x.name)).length) c14,.slice oa20 ((l.grounds.map (fun x:Fz.bZ=>x.name)).length) c21,.slice oa27 ((l.teams.map (fun x:Fz.cX=>x.name)).length) c28,.slice oa34 ((l.windows.map (fun x:Fz.cQ=>x.name)).length) c35,.slice oa41 ((l.slots.map (fun x:Fz.j3=>x.name)).length) c42,.slice oa48 ((l.phases.map (fun x:Fz.aX=>x.name)).length) c49,.slice oa55 ((l.conds.map (fun x:Fz.cJ=>x.name)).length) c56],oR 9 1 aJ oa55 c56 (l.conds.map (fun x:Fz.cJ=>x.name)),oR 9 1 aJ oa48 c49 (l.phases.map (fun x:Fz.aX=>x.name)),oR 9 1 aJ oa41 c42 (l.slots.map (fun x:Fz.j3=>x.name)),oR 9 1 aJ oa34 c35 (l.windows.map (fun x:Fz.cQ=>x.name)),oR 9 1 aJ oa27 c28 (l.teams.map (fun x:Fz.cX=>x.name)),oR 9 1 aJ oa20 c21 (l.grounds.map (fun x:Fz.bZ=>x.name)),oR 9 1 aJ oa13 c14 (l.towns.map (fun x:Fz.iY=>x.name)),cI B1 34 (aB l)]) rfl rfl
 exact fX sF ((B62,(⟨oa13,l.towns.map (fun x:Fz.iY=>x.name),c14,oa20,l.grounds.map (fun x:Fz.bZ=>x.name),c21,oa27,l.teams.map (fun x:Fz.cX=>x.name),c28,oa34,l.windows.map (fun x:Fz.cQ=>x.name),c35,oa41,l.slots.map (fun x:Fz.j3=>x.name),c42,oa48,l.phases.map (fun x:Fz.aX=>x.name),c49,oa55,l.conds.map (fun x:Fz.cJ=>x.name),c56⟩:cE)):Nat × cE) rfl ⟨rfl,rfl,rfl,rfl,rfl,rfl,rfl⟩ (.ck _ (.ck _ (.ck _ (.ck _ (.ck _ (.ck _ (.ck _ (.ck _ (.cons _ (.slnil))))))))))
end Go.Proofs.YtfffbdmdllgalaaGreatDoor
namespace Go.Fz
open Go Go.RowKit
def u9 (ks:List Int):List (Int × Value):=ks.map fun k=>(k,Bo true)
theorem KT (ks:List Int) (v:Int):(vS (u9 ks) v).isSome=ks.contains v:=by
  unfold vS u9
  induction ks with
  | nil=>rfl
  | cons k ks ih =>
    simp only [List.map_cons,List.findIdx?_cons,List.contains_cons]
    cases h:v==k with
    | true=>rfl
    | false=>simp only [Bool.false_or]; rw [← ih]; simp
theorem PU (ks:List Int) (v:Int):(qX (u9 ks) v).getD (Bo false)=Bo (ks.contains v):=by
  rw [← KT]
  unfold qX
  cases h:vS (u9 ks) v with
  | none=>rfl
  | some j =>
    have:=(List.findIdx?_eq_some_iff_getElem.1 h).1
    have hj:(u9 ks)[j]?=some (ks[j]'(by simpa [u9] using this),Bo true):=by
      simp only [u9,List.getElem?_map]
      rw [List.getElem?_eq_getElem (by simpa [u9] using this)]
      rfl
    simp [hj]
theorem PV {ks:List Int} {v:Int} (h:ks.contains v=false):tF (u9 ks) v (Bo true)=u9 (ks++[v]):=by
  have h1:=KT ks v
  rw [h] at h1
  unfold tF
  cases hi:vS (u9 ks) v with
  | none=>simp [u9]
  | some j=>rw [hi] at h1; simp at h1
theorem St.set {P:Program} {w0 w:World} {H:List Item} (h:St w0 H w) (i:Nat) {mt kt et B:Nat} {ks:List Int} (ht:P.underlying mt=some (.map kt et)) (hd:P.underlying kt=some (.int .i64)) (hz:ZeroT P et (Bo false)) (hi:H[i]?=some (mI B (mK I (u9 ks)))) (v:Int) :
    Yv P w (Instr.lookup mt (.map (some B)) (I v) false) (Bo (ks.contains v)):=by
  have:=h.lk (P:=P) i YA ht hd hz hi v
  rw [PU] at this; exact this
def z8 (ts:List cW) (i:Nat):Bool:=((ts.take i).map (·.n)).contains (ts.getD i hZ).n
def D5 (ts:List cW) (i:Nat):Bool := !((ts.take i).map (·.n)).contains (ts.getD i hZ).n
def AA (ts:List cW) (i:Nat):Bool:=if (!z8 ts i)=true then true else false
theorem ME (ts:List cW):AA ts=D5 ts:=by
  funext i; unfold AA D5 z8
  cases (!((ts.take i).map (·.n)).contains (ts.getD i hZ).n) <;> rfl
def D6 (p:aX):Bool:=if aG p.teams.length 2 20=true then if (List.range p.teams.length).all (AA p.teams)=true then true else false else false
theorem IU (ts:List cW):(List.range ts.length).all (D5 ts)=qN ts:=by
  rw [Bool.eq_iff_iff]
  simp only [List.all_eq_true,List.mem_range,qN,decide_eq_true_eq,D5,Bool.not_eq_true',List.contains_eq_any_beq,List.any_eq_false,beq_iff_eq]
  constructor
  · intro h
    refine List.pairwise_iff_getElem.2 fun i j hi hj hij e=>?_
    simp only [List.length_map] at hi hj
    simp only [List.getElem_map] at e
    refine h j hj ts[i].n (List.mem_map.2 ⟨ts[i],?_,rfl⟩) ?_
    · rw [List.mem_take_iff_getElem]; exact ⟨i,by omega,rfl⟩
    · rw [List.getD_eq_getElem?_getD,List.getElem?_eq_getElem hj]; exact e.symm
  · intro h i hi x hx e
    obtain ⟨y,hy,rfl⟩:=List.mem_map.1 hx
    obtain ⟨j,hj,rfl⟩:=List.mem_take_iff_getElem.1 hy
    have:=List.pairwise_iff_getElem.1 h j i (by simp; omega) (by simpa using hi) (by omega)
    rw [List.getD_eq_getElem?_getD,List.getElem?_eq_getElem hi] at e
    simp only [List.getElem_map] at this
    exact this e.symm
theorem MF (p:aX):D6 p=(aG p.teams.length 2 20&&qN p.teams):=by
  unfold D6
  rw [ME,IU]
  cases aG p.teams.length 2 20 <;> cases qN p.teams <;> rfl
def aS (l:List ByteArray) (k:Nat):List (ByteArray × Value):=(List.range k).foldl (fun m i=>tF m (l.getD i ⟨#[]⟩) (I i)) []
theorem wL {l:List ByteArray} {k:Nat} {x:ByteArray} (h:l[k]?=some x):aS l (k+1)=tF (aS l k) x (I k):=by
  simp [aS,List.range_succ,List.getD_eq_getElem?_getD,h]
theorem GU {α:Type} [BEq α] [LawfulBEq α] (ps:List (α × Value)) (k:α):(vS ps k).isSome=(ps.map (·.1)).contains k:=by
  unfold vS
  induction ps with
  | nil=>rfl
  | cons p ps ih =>
    simp only [List.findIdx?_cons,List.map_cons,List.contains_cons]
    cases h:k==p.1 with
    | true=>rfl
    | false=>rw [Bool.false_or,← ih]; simp
end Go.Fz
namespace Go.Proofs.YtfffbdmdllgalaaGreatDoor
open Go Go.RowKit Go.Fz
set_option maxRecDepth 10000
theorem TP {P:Program} {w:World} {s:Sem Value} {ts:List cW} {k:Nat} (h:Yv P w s (Bo (((ts.take k).map (·.n)).contains (ts.getD k hZ).n))):Yv P w s (Bo (z8 ts k)):=h
theorem MG {ts:List cW} {k:Nat} (h:z8 ts k=false):((ts.take k).map (·.n)).contains (ts.getD k hZ).n=false:=h
theorem _root_.Go.Fz.Row.nilxs {α:Type} {w:World} {oa:Option Addr} {sz:Nat} {enc:α→List Value} {xs:List α} (h:Row w oa sz enc xs) (hn:oa.isNone=true):xs=[]:=by
 refine Classical.byContradiction fun hne=>?_
 obtain ⟨a,rfl,_⟩:=h.ne hne
 cases hn
theorem PW (X:Nat) (p:aX) (w:World) (ht:Row w p.teamsA 2 bN p.teams):Calls Tryz.prog 116 #[Pt X 0,.agg (aK p).toArray] w (oY (D6 p) aZ w):=by
 refine dX [Pt X 0,.agg (aK p).toArray] Tryz.func116 rfl rfl rfl rfl fun _ s0=>?_
 have sm0:=ht.small
 refine wp_seq<|aA<|lb s0 0 _ rfl rfl rfl rfl fun B1 a2 w3 s4=>aR rfl<|aD<|wp_seq<|aA<|fJ s4 [3,9] [902] [(3,Pt B1 0)] 0 3 (qo (fa w3 B1 0 dR)<|qo (s4.m.ld 155 0 4 jT rfl rfl)<|qo (ln w3 3 p.teamsA p.teams.length p.teamsC jU)<|qe) fun _ w6 s7=>cU s7 3 (b:=aG (p.teams.length:Int) 2 20) (ch:=aZ) rfl rfl rfl lU rfl (d8 (p.teams.length:Int) 2 20 _) (fun h8 w12 s13=>?_) (fun h8 a9 w10 s11=>?_)
 ·refine aP (pP s13 ?_)
  exact bF s13 (iF h8 rfl)
 refine aR rfl<|aD<|wp_seq<|aA<|lmk s11 0 rfl rfl fun B14 a15 w16 s17=>zl s17 [3,4] [(4,.map (some B14))] 1 1 qe fun _ w19 s20=>aR rfl<|aD<|d5 s20 [4,13,14,15] [1301,1402] [(15,I 0)] (qo (fa w19 B1 0 dR)<|qo (s20.m.ld 155 1 4 jT rfl rfl)<|qo (ln w19 3 p.teamsA p.teams.length p.teamsC jU)<|qe) fun _ w22 s23=>wp_block<|aO (α:=Nat) (fun k aI wI=>(k≤p.teams.length)∧(Sta 29 [] w [⟨4,[],.map (some B14)⟩,⟨13,[],.slice p.teamsA p.teams.length p.teamsC⟩,⟨14,[],I (p.teams.length:Int)⟩,⟨15,[],I (k:Int)⟩] [mI B14 (mK I (u9 ((p.teams.take k).map (·.n)))),cI B1 157 (aK p)] aI wI)∧(∀ iI,iI<k→∀ xI,(List.range p.teams.length)[iI]?=some xI→(AA p.teams) xI=true)) (fun k=>p.teams.length-k) 0 ⟨Nat.zero_le _,s23.kp,fun i h=>(Nat.not_lt_zero i h).elim⟩<|?_
 rintro k a26 w25 ⟨k_le,s24,inv_k⟩
 refine zs s24 [4,13,14,15,16] [(16,Bo (decide ((k:Int)<(p.teams.length:Int))))] qe fun _ w28 s29=>wp_seq<|aQ s29.f rfl (fun h30=>?_) (fun h30=>?_)
 ·have k_lt:k<p.teams.length:=by omega
  have hx31:(List.range p.teams.length)[k]?=some k:=List.getElem?_range k_lt
  have hx32:p.teams[k]?=some (p.teams.getD k hZ):=bC (by omega)
  refine wp_skip<|aD<|wp_seq<|wp_block<|wp_seq<|aA<|zl s29 [4,13,14,15,18] [(18,.agg (bN (p.teams.getD k hZ)).toArray)] 0 2 (qo ((ht.up s29.m).ia p.teamsC k jU eD (by omega))<|qo ((ht.up s29.m).lda 148 k 0 dK hx32 rfl rfl)<|qe) fun _ w34 s35=>la s35 2 _ rfl JK rfl rfl fun B36 a37 w38 s39=>dD s39 3 0 _ _ rfl rfl rfl rfl eD rfl rfl rfl rfl fun w40 s41=>aR rfl<|aD<|wp_seq<|aA ?_
  refine zl s41 [4,6,13,14,15,23] [(6,Pt B36 0),(23,Bo (!(z8 p.teams k)))] 0 5 (qo (fa w40 B36 0 dC)<|qo (s41.m.ld 3 0 1 bM rfl rfl)<|qo (TP (s41.m.set 1 Tryz.underlying202 Tryz.underlying3 ZT4 rfl ((p.teams.getD k hZ).n)))<|qe) fun _ w43 s44=>cU s44 5 (b := !(z8 p.teams k)) (ch:=aZ) rfl rfl rfl lT rfl (jR (!(z8 p.teams k)) _) (fun h45 w49 s50=>?_) (fun h45 a46 w47 s48=>?_)
  ·refine aP (bL (aP (aP (bL (pP s50 ?_)))))
   exact bF s50 (iP h8 (iF (bI hx31 (iF h45 rfl)) rfl))
  refine aR rfl<|aD<|aA<|fJ s48 [4,13,14,15,25,27] [2701] [(25,.map (some B14))] 0 3 (qo (fa w47 B36 0 dC)<|qo (s48.m.ld 3 0 1 bM rfl rfl)<|qe) fun _ w52 s53=>lmu s53 3 1 ((p.teams.getD k hZ).n) YA rfl rfl rfl rfl Tryz.underlying202 Tryz.underlying3 rfl fun w54 s55=>aR rfl<|c9 (aD ?_)
  refine dU s55 [4,13,14,15] [1500] [] (qo (wr ((k:Int)+1) ((k+1:Nat):Int) (by omega))<|qe) fun _ w57 s58=>aD<|?_
  exact ⟨(k+1),⟨by omega,((s58.keep (E':=[⟨4,[],.map (some B14)⟩,⟨13,[],.slice p.teamsA p.teams.length p.teamsC⟩,⟨14,[],I (p.teams.length:Int)⟩,⟨15,[],I ((k+1:Nat):Int)⟩]) [4,13,14,15] (by kernel_rfl)).sub (.cons _ (.refl _))).re rfl (by rw [bS hx32,PV (MG (by simpa using h45))] <;> rfl),aM inv_k (fun y hy=>by rw [hx31] at hy; cases hy; exact (iP h45 rfl))⟩,by omega⟩
 have k_eq:k=p.teams.length:=by omega
 have A59:(List.range p.teams.length).all (AA p.teams)=true:=dG (by rw [k_eq] at inv_k; exact inv_k)
 refine wp_exit<|aY (aY (cP (pE [] rfl s29 trivial ?_)))
 exact dA s29 (iP h8 (iP A59 rfl))
theorem IV (X:Nat) (l:aE) (p:aX) (w:World) (hX:Row w (some ⟨X,0,none⟩) 15 aB [l]) (hL:LeagueAt w l) (hoa:0≤p.a.n∧p.a.n<l.phases.length) (hob:0≤p.b.n∧p.b.n<l.phases.length):Calls Tryz.prog 118 #[Pt X 0,.agg (aK p).toArray] w (oY (u4 l p) aZ w):=by
 refine dX [Pt X 0,.agg (aK p).toArray] Tryz.func118 rfl rfl rfl rfl fun _ s0=>?_
 have smx1:=hL.sm
 refine wp_seq<|aA<|lb s0 0 _ rfl rfl rfl rfl fun B1 a2 w3 s4=>aR rfl<|aD<|wp_seq<|?_
 have hga:=o3 hoa
 have hgb:=o3 hob
 refine lH MO (St w [cI B1 157 (aK p)])<|wX (hs:=[Pt X 0,Pt X 13,.slice l.phasesA l.phases.length l.phasesC,Pt B1 8,Pt B1 9,I p.a.n,Pa (kK l.phasesA (p.a.n.toNat*14)),.agg (aK (c7 l p.a.n)).toArray,Pt X 0,Pt X 13,.slice l.phasesA l.phases.length l.phasesC,Pt B1 10,Pt B1 11,I p.b.n,Pa (kK l.phasesA (p.b.n.toNat*14)),.agg (aK (c7 l p.b.n)).toArray]) (E1:=[⟨3,[],Pt B1 0⟩,⟨15,[],.agg (aK (c7 l p.a.n)).toArray⟩,⟨25,[],.agg (aK (c7 l p.b.n)).toArray⟩]) (ks:=[3,15,25]) s4 [] [0,1,2,3,4,5,6,7,8,9,10,11,12,13,14,15,16,17,18,19] (fun _=>by kernel_rfl) (fun wC sC=>oc (fa wC X 0 jD)<|oc (fa wC X 0 cG)<|oc ((hX.up sC.m).ld 31 0 13 iE rfl rfl)<|oc (fa wC B1 0 lN)<|oc (fa wC B1 8 dC)<|oc (sC.m.ld 3 0 9 bM rfl rfl)<|oc ((hL.phases.up sC.m).iaI l.phasesC p.a.n g9 eL hoa)<|oc ((hL.phases.up sC.m).lda 157 p.a.n.toNat 0 eP hga rfl rfl)<|oc (fa wC X 0 jD)<|oc (fa wC X 0 cG)<|oc ((hX.up sC.m).ld 31 0 13 iE rfl rfl)<|oc (fa wC B1 0 lO)<|oc (fa wC B1 10 dC)<|oc (sC.m.ld 3 0 11 bM rfl rfl)<|oc ((hL.phases.up sC.m).iaI l.phasesC p.b.n g9 eL hob)<|oc ((hL.phases.up sC.m).lda 157 p.b.n.toNat 0 eP hgb rfl rfl)<|trivial) (.ck _ (.slnil)) (by kernel_rfl) (by kernel_rfl) hq fun _ s7=>adY s7 [19,18,17,16,15,14,13,12,11,10,9,8,7,6,5,4,3,2,1,0] 20 21 [.string (⟨#[]⟩:ByteArray),I 0,.string (⟨#[]⟩:ByteArray),I 0,.slice none 0 0,.string (⟨#[]⟩:ByteArray),I 0,.slice none 0 0,.string (⟨#[]⟩:ByteArray),I 0,.string (⟨#[]⟩:ByteArray),I 0,I 0,I 0] [.string (⟨#[]⟩:ByteArray),I 0,.string (⟨#[]⟩:ByteArray),I 0,.slice none 0 0,.string (⟨#[]⟩:ByteArray),I 0,.slice none 0 0,.string (⟨#[]⟩:ByteArray),I 0,.string (⟨#[]⟩:ByteArray),I 0,I 0,I 0] [5,4,3,15,25] rfl rfl sU sU rfl rfl rfl rfl (fun _=>rfl) (fun _=>rfl) (.ck _ (.slnil)) (by kernel_rfl) (by kernel_rfl) (by kernel_rfl) rfl (by kernel_rfl) (fun _ _=>by kernel_rfl) fun B8 B9 a10 w11 s12=>tX s12 [21,20,19,18,17,16,15,14,13,12,11,10,9,8,7,6,5,4,3,2,1,0] 22 rfl rfl rfl rfl (by kernel_rfl) (by kernel_rfl) fun w14 s15=>dD s15 0 1 _ _ rfl rfl rfl rfl eL rfl rfl rfl rfl fun w16 s17=>aR rfl (aD ⟨s17.m.sub (.cons _ (.cons _ (.ck _ (.slnil)))),?_⟩)
 refine tX s17 [22,21,20,19,18,17,16,15,14,13,12,11,10,9,8,7,6,5,4,3,2,1,0] 23 rfl rfl rfl rfl (by kernel_rfl) (by kernel_rfl) fun w18 s19=>dD s19 0 0 _ _ rfl rfl rfl rfl eL rfl rfl rfl rfl fun w20 s21=>aR rfl (aD ⟨s21.m.sub (.cons _ (.cons _ (.ck _ (.slnil)))),?_⟩)
 refine RG s21 (by kernel_rfl) fun w22 s23=>aD<|wp_seq<|aA<|zl s23 [3,4,5,52] [(3,Pt B1 0),(4,Pt B8 0),(5,Pt B9 0),(52,Bo (((p.a.n != p.b.n)&&((eY ((c7 l p.a.n).kind))||(((c7 l p.a.n).kind)==4)))&&((eY ((c7 l p.b.n).kind))||(((c7 l p.b.n).kind)==4))))] 0 27 (qo (fa w22 B1 0 lN)<|qo (fa w22 B1 8 dC)<|qo (s23.m.ld 3 2 9 bM rfl rfl)<|qo (fa w22 B1 0 lO)<|qo (fa w22 B1 10 dC)<|qo (s23.m.ld 3 2 11 bM rfl rfl)<|qo (fa w22 B8 0 dM)<|qo (s23.m.ld 3 1 1 bM rfl rfl)<|qo (yc w22 OK fun w' hb=>DO ((c7 l p.a.n).kind) w')<|qo (fa w22 B8 0 dM)<|qo (s23.m.ld 3 1 1 bM rfl rfl)<|qo (fa w22 B9 0 dM)<|qo (s23.m.ld 3 0 1 bM rfl rfl)<|qo (yc w22 OK fun w' hb=>DO ((c7 l p.b.n).kind) w')<|qo (fa w22 B9 0 dM)<|qo (s23.m.ld 3 0 1 bM rfl rfl)<|qe) fun _ w25 s26=>cU s26 27 (b:=((p.a.n != p.b.n)&&((eY ((c7 l p.a.n).kind))||(((c7 l p.a.n).kind)==4)))&&((eY ((c7 l p.b.n).kind))||(((c7 l p.b.n).kind)==4))) (ch:=aZ) rfl rfl rfl lT rfl (jR (((p.a.n != p.b.n)&&((eY ((c7 l p.a.n).kind))||(((c7 l p.a.n).kind)==4)))&&((eY ((c7 l p.b.n).kind))||(((c7 l p.b.n).kind)==4))) _) (fun h27 w31 s32=>?_) (fun h27 a28 w29 s30=>?_)
 ·refine aP (pP s32 ?_)
  exact bF s32 (iF h27 rfl)
 refine aR rfl<|aD<|wp_seq<|aL MO 4<|nD s30 [3,5,55,57] [5501,5703] [] 0 [some [1],some [],some [3],some []] (qo (fa w29 B1 0 rZ)<|qo (s30.m.ld 3 2 12 bM rfl rfl)<|qo (s30.m.lda 157 1 0 eP rfl rfl rfl)<|qo (yc w29 J8 fun w' hb=>yD (c7 l p.a.n) w' (((hL.psizes _ (List.mem_of_getElem? hga)).up s30.m).grow hb))<|qe) hq fun _ s35=>df s35 4 rfl rfl rfl rfl (by kernel_rfl) rfl fun w36 s37=>cU s37 0 (b:=aG p.placeA 1 (fF (c7 l p.a.n))) (ch:=aZ) rfl rfl rfl lU rfl (d8 p.placeA 1 (fF (c7 l p.a.n)) _) (fun h38 w42 s43=>?_) (fun h38 a39 w40 s41=>?_)
 ·refine aP (aP (pP s43 ?_))
  exact bF s43 (iP h27 (iF h38 rfl))
 refine aR rfl (aD ?_)
 refine dd s41 (by kernel_rfl) fun w44 s45=>aD<|aL MO 4<|nD s45 [60,62] [6001,6203] [] 0 [some [1],some [],some [3],some []] (qo (fa w44 B1 0 r5)<|qo (s45.m.ld 3 2 13 bM rfl rfl)<|qo (s45.m.lda 157 0 0 eP rfl rfl rfl)<|qo (yc w44 J8 fun w' hb=>yD (c7 l p.b.n) w' (((hL.psizes _ (List.mem_of_getElem? hgb)).up s45.m).grow hb))<|qe) hq fun _ s48=>df s48 4 rfl rfl rfl rfl (by kernel_rfl) rfl fun w49 s50=>cU s50 0 (b:=aG p.placeB 1 (fF (c7 l p.b.n))) (ch:=aZ) rfl rfl rfl lU rfl (d8 p.placeB 1 (fF (c7 l p.b.n)) _) (fun h51 w55 s56=>?_) (fun h51 a52 w53 s54=>?_)
 ·refine aP (pP s56 ?_)
  exact bF s56 (iP h27 (iP h38 (iF h51 rfl)))
 refine aR rfl (aD ?_)
 refine dd s54 (by kernel_rfl) fun w57 s58=>pE [] rfl s58 trivial<|?_
 exact dA s58 (iP h27 (iP h38 (iP h51 rfl)))
theorem PY (oa:Option Addr) (l:List Fz.nZ) (c:Nat) (w:World) (hl:Row w oa 5 cY l) (hN:l.length≤1000):Calls Tryz.prog 185 #[.slice oa l.length c] w (qV 205 5 cY l w):=by
 refine dX [.slice oa l.length c] Tryz.func185 rfl rfl rfl rfl fun _ s0=>?_
 have sm0:=hl.small
 refine zs s0 [0] [(0,.slice oa l.length c)] qe fun _ w2 s3=>wp_seq<|d5 s3 [0,4] [400] [] (qo (WB w2 (.tmp 3) (.const (.slice none 0 0)) oa l.length c nU)<|qe) fun _ w5 s6=>cO s6.f rfl (fun h7=>?_) (fun h7=>?_)
 ·refine zs s6 [2] [(2,.slice none 0 0)] qe fun _ w9 s10=>aC<|aN (pR [.slice none 0 0] rfl s10 ⟨rfl,trivial⟩ ?_)
  have sN:=s10.nilR 205 5 cY
  exact n1 sN 0 rfl (hl.nilxs h7).symm
 refine wp_skip<|aD<|wp_seq<|aA<|lR s6 0 (vs:=[]) (e:=205) [] rfl rfl (fun _=>by kernel_rfl) rfl fun B11 a12 w13 s14=>zl s14 [5,6] [(5,.slice (some ⟨B11,0,none⟩) 0 0),(6,.slice oa l.length c)] 1 1 qe fun _ w16 s17=>?_
 have s18:=s17.litR (enc:=cY) 0 ([]:List Fz.nZ) rfl d6 rfl (by decide)
 refine oV s18 2 0 (xs:=([]:List Fz.nZ)) (ys:=l) (oa:=(some ⟨B11,0,none⟩)) (oa2:=oa) rfl rfl rfl rfl d6 ac5 (hl.up s18.m) (by first | omega | (simp only [bV]; omega)) (by simp only [maxLen]; first | omega | (simp only [bV]; omega)) rfl fun oa19 c20 a21 w22 s23=>zl s23 [2] [(2,.slice oa19 ((([]:List Fz.nZ)++l).length) c20)] 3 1 qe fun _ w25 s26=>aR rfl<|aD<|aC<|pR [.slice oa19 ((([]:List Fz.nZ)++l).length) c20] rfl s26 ⟨rfl,trivial⟩<|?_
 exact n1 s26 0 rfl (List.nil_append _)
theorem PZ (oa:Option Addr) (l:List Fz.iL) (c:Nat) (w:World) (hl:Row w oa 3 bY l) (hN:l.length≤1000):Calls Tryz.prog 186 #[.slice oa l.length c] w (qV 207 3 bY l w):=by
 refine dX [.slice oa l.length c] Tryz.func186 rfl rfl rfl rfl fun _ s0=>?_
 have sm0:=hl.small
 refine zs s0 [0] [(0,.slice oa l.length c)] qe fun _ w2 s3=>wp_seq<|d5 s3 [0,4] [400] [] (qo (WB w2 (.tmp 3) (.const (.slice none 0 0)) oa l.length c qZ)<|qe) fun _ w5 s6=>cO s6.f rfl (fun h7=>?_) (fun h7=>?_)
 ·refine zs s6 [2] [(2,.slice none 0 0)] qe fun _ w9 s10=>aC<|aN (pR [.slice none 0 0] rfl s10 ⟨rfl,trivial⟩ ?_)
  have sN:=s10.nilR 207 3 bY
  exact n1 sN 0 rfl (hl.nilxs h7).symm
 refine wp_skip<|aD<|wp_seq<|aA<|lR s6 0 (vs:=[]) (e:=207) [] rfl rfl (fun _=>by kernel_rfl) rfl fun B11 a12 w13 s14=>zl s14 [5,6] [(5,.slice (some ⟨B11,0,none⟩) 0 0),(6,.slice oa l.length c)] 1 1 qe fun _ w16 s17=>?_
 have s18:=s17.litR (enc:=bY) 0 ([]:List Fz.iL) rfl eJ rfl (by decide)
 refine oV s18 2 0 (xs:=([]:List Fz.iL)) (ys:=l) (oa:=(some ⟨B11,0,none⟩)) (oa2:=oa) rfl rfl rfl rfl eJ ac6 (hl.up s18.m) (by first | omega | (simp only [bV]; omega)) (by simp only [maxLen]; first | omega | (simp only [bV]; omega)) rfl fun oa19 c20 a21 w22 s23=>zl s23 [2] [(2,.slice oa19 ((([]:List Fz.iL)++l).length) c20)] 3 1 qe fun _ w25 s26=>aR rfl<|aD<|aC<|pR [.slice oa19 ((([]:List Fz.iL)++l).length) c20] rfl s26 ⟨rfl,trivial⟩<|?_
 exact n1 s26 0 rfl (List.nil_append _)
theorem P0 (oa:Option Addr) (l:List Fz.bZ) (c:Nat) (w:World) (hl:Row w oa 7 bG l) (hN:l.length≤1000):Calls Tryz.prog 187 #[.slice oa l.length c] w (qV 152 7 bG l w):=by
 refine dX [.slice oa l.length c] Tryz.func187 rfl rfl rfl rfl fun _ s0=>?_
 have sm0:=hl.small
 refine zs s0 [0] [(0,.slice oa l.length c)] qe fun _ w2 s3=>wp_seq<|d5 s3 [0,4] [400] [] (qo (WB w2 (.tmp 3) (.const (.slice none 0 0)) oa l.length c nV)<|qe) fun _ w5 s6=>cO s6.f rfl (fun h7=>?_) (fun h7=>?_)
 ·refine zs s6 [2] [(2,.slice none 0 0)] qe fun _ w9 s10=>aC<|aN (pR [.slice none 0 0] rfl s10 ⟨rfl,trivial⟩ ?_)
  have sN:=s10.nilR 152 7 bG
  exact n1 sN 0 rfl (hl.nilxs h7).symm
 refine wp_skip<|aD<|wp_seq<|aA<|lR s6 0 (vs:=[]) (e:=152) [] rfl rfl (fun _=>by kernel_rfl) rfl fun B11 a12 w13 s14=>zl s14 [5,6] [(5,.slice (some ⟨B11,0,none⟩) 0 0),(6,.slice oa l.length c)] 1 1 qe fun _ w16 s17=>?_
 have s18:=s17.litR (enc:=bG) 0 ([]:List Fz.bZ) rfl dQ rfl (by decide)
 refine oV s18 2 0 (xs:=([]:List Fz.bZ)) (ys:=l) (oa:=(some ⟨B11,0,none⟩)) (oa2:=oa) rfl rfl rfl rfl dQ ac7 (hl.up s18.m) (by first | omega | (simp only [bV]; omega)) (by simp only [maxLen]; first | omega | (simp only [bV]; omega)) rfl fun oa19 c20 a21 w22 s23=>zl s23 [2] [(2,.slice oa19 ((([]:List Fz.bZ)++l).length) c20)] 3 1 qe fun _ w25 s26=>aR rfl<|aD<|aC<|pR [.slice oa19 ((([]:List Fz.bZ)++l).length) c20] rfl s26 ⟨rfl,trivial⟩<|?_
 exact n1 s26 0 rfl (List.nil_append _)
theorem P1 (oa:Option Addr) (l:List Fz.cX) (c:Nat) (w:World) (hl:Row w oa 4 bU l) (hN:l.length≤1000):Calls Tryz.prog 188 #[.slice oa l.length c] w (qV 160 4 bU l w):=by
 refine dX [.slice oa l.length c] Tryz.func188 rfl rfl rfl rfl fun _ s0=>?_
 have sm0:=hl.small
 refine zs s0 [0] [(0,.slice oa l.length c)] qe fun _ w2 s3=>wp_seq<|d5 s3 [0,4] [400] [] (qo (WB w2 (.tmp 3) (.const (.slice none 0 0)) oa l.length c lL)<|qe) fun _ w5 s6=>cO s6.f rfl (fun h7=>?_) (fun h7=>?_)
 ·refine zs s6 [2] [(2,.slice none 0 0)] qe fun _ w9 s10=>aC<|aN (pR [.slice none 0 0] rfl s10 ⟨rfl,trivial⟩ ?_)
  have sN:=s10.nilR 160 4 bU
  exact n1 sN 0 rfl (hl.nilxs h7).symm
 refine wp_skip<|aD<|wp_seq<|aA<|lR s6 0 (vs:=[]) (e:=160) [] rfl rfl (fun _=>by kernel_rfl) rfl fun B11 a12 w13 s14=>zl s14 [5,6] [(5,.slice (some ⟨B11,0,none⟩) 0 0),(6,.slice oa l.length c)] 1 1 qe fun _ w16 s17=>?_
 have s18:=s17.litR (enc:=bU) 0 ([]:List Fz.cX) rfl dF rfl (by decide)
 refine oV s18 2 0 (xs:=([]:List Fz.cX)) (ys:=l) (oa:=(some ⟨B11,0,none⟩)) (oa2:=oa) rfl rfl rfl rfl dF OR (hl.up s18.m) (by first | omega | (simp only [bV]; omega)) (by simp only [maxLen]; first | omega | (simp only [bV]; omega)) rfl fun oa19 c20 a21 w22 s23=>zl s23 [2] [(2,.slice oa19 ((([]:List Fz.cX)++l).length) c20)] 3 1 qe fun _ w25 s26=>aR rfl<|aD<|aC<|pR [.slice oa19 ((([]:List Fz.cX)++l).length) c20] rfl s26 ⟨rfl,trivial⟩<|?_
 exact n1 s26 0 rfl (List.nil_append _)
theorem P2 (oa:Option Addr) (l:List Fz.aX) (c:Nat) (w:World) (hl:Row w oa 14 aK l) (hN:l.length≤1000):Calls Tryz.prog 189 #[.slice oa l.length c] w (qV 157 14 aK l w):=by
 refine dX [.slice oa l.length c] Tryz.func189 rfl rfl rfl rfl fun _ s0=>?_
 have sm0:=hl.small
 refine zs s0 [0] [(0,.slice oa l.length c)] qe fun _ w2 s3=>wp_seq<|d5 s3 [0,4] [400] [] (qo (WB w2 (.tmp 3) (.const (.slice none 0 0)) oa l.length c g9)<|qe) fun _ w5 s6=>cO s6.f rfl (fun h7=>?_) (fun h7=>?_)
 ·refine zs s6 [2] [(2,.slice none 0 0)] qe fun _ w9 s10=>aC<|aN (pR [.slice none 0 0] rfl s10 ⟨rfl,trivial⟩ ?_)
  have sN:=s10.nilR 157 14 aK
  exact n1 sN 0 rfl (hl.nilxs h7).symm
 refine wp_skip<|aD<|wp_seq<|aA<|lR s6 0 (vs:=[]) (e:=157) [] rfl rfl (fun _=>by kernel_rfl) rfl fun B11 a12 w13 s14=>zl s14 [5,6] [(5,.slice (some ⟨B11,0,none⟩) 0 0),(6,.slice oa l.length c)] 1 1 qe fun _ w16 s17=>?_
 have s18:=s17.litR (enc:=aK) 0 ([]:List Fz.aX) rfl cV rfl (by decide)
 refine oV s18 2 0 (xs:=([]:List Fz.aX)) (ys:=l) (oa:=(some ⟨B11,0,none⟩)) (oa2:=oa) rfl rfl rfl rfl cV ac8 (hl.up s18.m) (by first | omega | (simp only [bV]; omega)) (by simp only [maxLen]; first | omega | (simp only [bV]; omega)) rfl fun oa19 c20 a21 w22 s23=>zl s23 [2] [(2,.slice oa19 ((([]:List Fz.aX)++l).length) c20)] 3 1 qe fun _ w25 s26=>aR rfl<|aD<|aC<|pR [.slice oa19 ((([]:List Fz.aX)++l).length) c20] rfl s26 ⟨rfl,trivial⟩<|?_
 exact n1 s26 0 rfl (List.nil_append _)
theorem P3 (oa:Option Addr) (l:List Fz.cJ) (c:Nat) (w:World) (hl:Row w oa 21 aV l) (hN:l.length≤1000):Calls Tryz.prog 190 #[.slice oa l.length c] w (qV 178 21 aV l w):=by
 refine dX [.slice oa l.length c] Tryz.func190 rfl rfl rfl rfl fun _ s0=>?_
 have sm0:=hl.small
 refine zs s0 [0] [(0,.slice oa l.length c)] qe fun _ w2 s3=>wp_seq<|d5 s3 [0,4] [400] [] (qo (WB w2 (.tmp 3) (.const (.slice none 0 0)) oa l.length c oQ)<|qe) fun _ w5 s6=>cO s6.f rfl (fun h7=>?_) (fun h7=>?_)
 ·refine zs s6 [2] [(2,.slice none 0 0)] qe fun _ w9 s10=>aC<|aN (pR [.slice none 0 0] rfl s10 ⟨rfl,trivial⟩ ?_)
  have sN:=s10.nilR 178 21 aV
  exact n1 sN 0 rfl (hl.nilxs h7).symm
 refine wp_skip<|aD<|wp_seq<|aA<|lR s6 0 (vs:=[]) (e:=178) [] rfl rfl (fun _=>by kernel_rfl) rfl fun B11 a12 w13 s14=>zl s14 [5,6] [(5,.slice (some ⟨B11,0,none⟩) 0 0),(6,.slice oa l.length c)] 1 1 qe fun _ w16 s17=>?_
 have s18:=s17.litR (enc:=aV) 0 ([]:List Fz.cJ) rfl eR rfl (by decide)
 refine oV s18 2 0 (xs:=([]:List Fz.cJ)) (ys:=l) (oa:=(some ⟨B11,0,none⟩)) (oa2:=oa) rfl rfl rfl rfl eR ac9 (hl.up s18.m) (by first | omega | (simp only [bV]; omega)) (by simp only [maxLen]; first | omega | (simp only [bV]; omega)) rfl fun oa19 c20 a21 w22 s23=>zl s23 [2] [(2,.slice oa19 ((([]:List Fz.cJ)++l).length) c20)] 3 1 qe fun _ w25 s26=>aR rfl<|aD<|aC<|pR [.slice oa19 ((([]:List Fz.cJ)++l).length) c20] rfl s26 ⟨rfl,trivial⟩<|?_
 exact n1 s26 0 rfl (List.nil_append _)
theorem P4 (oa:Option Addr) (l:List Fz.cW) (c:Nat) (w:World) (hl:Row w oa 2 bN l) (hN:l.length≤1000):Calls Tryz.prog 191 #[.slice oa l.length c] w (qV 148 2 bN l w):=by
 refine dX [.slice oa l.length c] Tryz.func191 rfl rfl rfl rfl fun _ s0=>?_
 have sm0:=hl.small
 refine zs s0 [0] [(0,.slice oa l.length c)] qe fun _ w2 s3=>wp_seq<|d5 s3 [0,4] [400] [] (qo (WB w2 (.tmp 3) (.const (.slice none 0 0)) oa l.length c jU)<|qe) fun _ w5 s6=>cO s6.f rfl (fun h7=>?_) (fun h7=>?_)
 ·refine zs s6 [2] [(2,.slice none 0 0)] qe fun _ w9 s10=>aC<|aN (pR [.slice none 0 0] rfl s10 ⟨rfl,trivial⟩ ?_)
  have sN:=s10.nilR 148 2 bN
  exact n1 sN 0 rfl (hl.nilxs h7).symm
 refine wp_skip<|aD<|wp_seq<|aA<|lR s6 0 (vs:=[]) (e:=148) [] rfl rfl (fun _=>by kernel_rfl) rfl fun B11 a12 w13 s14=>zl s14 [5,6] [(5,.slice (some ⟨B11,0,none⟩) 0 0),(6,.slice oa l.length c)] 1 1 qe fun _ w16 s17=>?_
 have s18:=s17.litR (enc:=bN) 0 ([]:List Fz.cW) rfl eI rfl (by decide)
 refine oV s18 2 0 (xs:=([]:List Fz.cW)) (ys:=l) (oa:=(some ⟨B11,0,none⟩)) (oa2:=oa) rfl rfl rfl rfl eI GB (hl.up s18.m) (by first | omega | (simp only [bV]; omega)) (by simp only [maxLen]; first | omega | (simp only [bV]; omega)) rfl fun oa19 c20 a21 w22 s23=>zl s23 [2] [(2,.slice oa19 ((([]:List Fz.cW)++l).length) c20)] 3 1 qe fun _ w25 s26=>aR rfl<|aD<|aC<|pR [.slice oa19 ((([]:List Fz.cW)++l).length) c20] rfl s26 ⟨rfl,trivial⟩<|?_
 exact n1 s26 0 rfl (List.nil_append _)
end Go.Proofs.YtfffbdmdllgalaaGreatDoor
namespace Go.Proofs.YtfffbdmdllgalaaGreatDoor
open Go Go.RowKit Go.Fz
set_option maxRecDepth 10000
theorem qG (oa:Option Addr) (l:List ByteArray) (c:Nat) (w:World) (hl:Row w oa 1 aJ l):Calls Tryz.prog 184 #[.slice oa l.length c] w (vO (fun B:Nat=>.tuple #[.map (some B),Bo (((mK Value.string (aS l l.length)).length:Int)==(l.length:Int))]) (fun B=>[mI B (mK Value.string (aS l l.length))]) (fun _=>True) w):=by
 refine dX [.slice oa l.length c] Tryz.func184 rfl rfl rfl rfl fun _ s0=>?_
 have sm0:=hl.small
 refine zs s0 [0] [(0,.slice oa l.length c)] qe fun _ w2 s3=>wp_seq<|aA<|lmk s3 0 rfl rfl fun B4 a5 w6 s7=>zl s7 [0,2] [(2,.map (some B4))] 1 1 qe fun _ w9 s10=>aR rfl<|aD<|wp_seq<|d5 s10 [0,2,7,8,9] [800] [(7,.slice oa l.length c),(9,I 0)] (qo (ln w9 3 oa l.length c kX)<|qe) fun _ w12 s13=>wp_block<|aO (α:=Nat) (fun k aI wI=>(k≤l.length)∧(Sta 24 [] w [⟨0,[],.slice oa l.length c⟩,⟨2,[],.map (some B4)⟩,⟨7,[],.slice oa l.length c⟩,⟨8,[],I (l.length:Int)⟩,⟨9,[],I (k:Int)⟩] [mI B4 (mK Value.string (aS l k))] aI wI)) (fun k=>l.length-k) 0 ⟨Nat.zero_le _,(s13.keep (E':=[⟨0,[],.slice oa l.length c⟩,⟨2,[],.map (some B4)⟩,⟨7,[],.slice oa l.length c⟩,⟨8,[],I (l.length:Int)⟩,⟨9,[],I 0⟩]) [0,2,7,8,9] (by kernel_rfl))⟩<|?_
 rintro k a16 w15 ⟨k_le,s14⟩
 refine zs s14 [0,2,7,8,9,10] [(10,Bo (decide ((k:Int)<(l.length:Int))))] qe fun _ w18 s19=>wp_seq<|aQ s19.f rfl (fun h20=>?_) (fun h20=>?_)
 ·have k_lt:k<l.length:=by omega
  obtain ⟨x,hx21⟩:=cD (xs:=l) k_lt
  refine wp_skip<|aD<|wp_seq<|wp_block<|d5 s19 [0,2,4,5,7,8,9] [501] [(4,I (k:Int))] (qo ((hl.up s19.m).ia c k kX A1 (by omega))<|qo ((hl.up s19.m).ld 9 k 0 qQ hx21 rfl)<|qe) fun _ w23 s24=>aA<|zl s24 [0,2,7,8,9,14,15,16] [(14,.map (some B4)),(15,.string x),(16,I (k:Int))] 0 3 qe fun _ w26 s27=>lmu s27 3 0 x YB rfl rfl rfl rfl Tryz.underlying237 Tryz.underlying9 rfl fun w28 s29=>aR rfl<|c9 (aD ?_)
  refine dU s29 [0,2,7,8,9] [900] [] (qo (wr ((k:Int)+1) ((k+1:Nat):Int) (by omega))<|qe) fun _ w31 s32=>aD<|?_
  exact ⟨(k+1),⟨by omega,(s32.kr (by rw [wL hx21] <;> rfl))⟩,by omega⟩
 have k_eq:k=l.length:=by omega
 refine wp_exit<|aY (aY (cP (aD ?_)))
 refine zs s19 [2,3] [(3,Bo (((mK Value.string (aS l k)).length:Int)==(l.length:Int)))] (qo (s19.m.mlen (ty:=3) 0 Tryz.underlying237 rfl)<|qo (ln w18 3 oa l.length c kX)<|qe) fun _ w34 s35=>aC<|pR [.map (some B4),Bo (((mK Value.string (aS l k)).length:Int)==(l.length:Int))] rfl s35 ⟨rfl,rfl,trivial⟩<|?_
 rw [k_eq] at s35
 exact fX s35 B4 (by rw [k_eq]; rfl) trivial (List.Sublist.refl _)
end Go.Proofs.YtfffbdmdllgalaaGreatDoor
namespace Go.Fz
open Go Go.RowKit
inductive FP where
  | wayA (i:Nat)
  | wayB (i:Nat)
  | depot (i:Nat)
  | ground (i:Nat)
  | team (i:Nat)
  | window (i:Nat)
  | pteam (i j:Nat)
  | pof (i:Nat)
  | pa (i:Nat)
  | pb (i:Nat)
  | ca (i:Nat)
  | cb (i:Nat)
deriving DecidableEq
def FP.adr (l:aE):FP→Addr
  | .wayA i=>kK l.waysA (i*5)
  | .wayB i=>kK l.waysA (i*5+2)
  | .depot i=>kK l.depotsA (i*3)
  | .ground i=>kK l.groundsA (i*7+1)
  | .team i=>kK l.teamsA (i*4+1)
  | .window i=>kK l.phasesA (i*14+2)
  | .pteam i j=>kK (l.phases.getD i aF).teamsA (j*2)
  | .pof i=>kK l.phasesA (i*14+5)
  | .pa i=>kK l.phasesA (i*14+8)
  | .pb i=>kK l.phasesA (i*14+10)
  | .ca i=>kK l.condsA (i*21+2)
  | .cb i=>kK l.condsA (i*21+4)
def l9 (k:Int):Int:=if k=4 then 1 else if k=5 then 2 else if k=7 then 0 else if k=6 then 2 else if k=8 then 2 else if k=9 then 2 else 7
def nY (k:Int):Int:=if k=6 then 2 else if k=8 then 2 else if k=9 then 2 else 7
def FP.kind (l:aE):FP→Int
  | .wayA _=>0
  | .wayB _=>0
  | .depot _=>0
  | .ground _=>0
  | .team _=>1
  | .window _=>3
  | .pteam _ _=>2
  | .pof i=>if (l.phases.getD i aF).kind=4 then 5 else 7
  | .pa i=>if (l.phases.getD i aF).kind=6 then 5 else 7
  | .pb i=>if (l.phases.getD i aF).kind=6 then 5 else 7
  | .ca i=>l9 (l.conds.getD i dZ).kind
  | .cb i=>nY (l.conds.getD i dZ).kind
def FP.most (l:aE):FP→Int
  | .pof i=>if (l.phases.getD i aF).kind=4 then (i:Int) else 256
  | .pa i=>if (l.phases.getD i aF).kind=6 then (i:Int) else 256
  | .pb i=>if (l.phases.getD i aF).kind=6 then (i:Int) else 256
  | _=>256
def FP.get (l:aE):FP→Option cW
  | .wayA i=>(l.ways[i]?).map (·.a)
  | .wayB i=>(l.ways[i]?).map (·.b)
  | .depot i=>(l.depots[i]?).map (·.town)
  | .ground i=>(l.grounds[i]?).map (·.town)
  | .team i=>(l.teams[i]?).map (·.ground)
  | .window i=>(l.phases[i]?).map (·.window)
  | .pteam i j=>(l.phases[i]?).bind (·.teams[j]?)
  | .pof i=>(l.phases[i]?).map (·.of)
  | .pa i=>(l.phases[i]?).map (·.a)
  | .pb i=>(l.phases[i]?).map (·.b)
  | .ca i=>(l.conds[i]?).map (·.a)
  | .cb i=>(l.conds[i]?).map (·.b)
def fW (k:Nat):List FP:=(List.range k).flatMap fun i=>[.wayA i,.wayB i]
def fD (k:Nat):List FP:=(List.range k).map .depot
def fG (k:Nat):List FP:=(List.range k).map .ground
def fT (k:Nat):List FP:=(List.range k).map .team
def AB (i k:Nat):List FP:=(List.range k).map (.pteam i)
def FB (ps:List aX) (i:Nat):List FP:=([.window i]++AB i (ps.getD i aF).teams.length)++[.pof i,.pa i,.pb i]
def fP (ps:List aX) (k:Nat):List FP:=(List.range k).flatMap (FB ps)
def fC (k:Nat):List FP:=(List.range k).flatMap fun i=>[.ca i,.cb i]
def flds (l:aE):List FP:=((((fW l.ways.length++fD l.depots.length)++fG l.grounds.length)++fT l.teams.length)++fP l.phases l.phases.length)++fC l.conds.length
theorem vA (k:Nat):fW (k+1)=(fW k++[.wayA k])++[.wayB k]:=by simp [fW,List.range_succ]
theorem D7 (k:Nat):fD (k+1)=fD k++[.depot k]:=by simp [fD,List.range_succ]
theorem D8 (k:Nat):fG (k+1)=fG k++[.ground k]:=by simp [fG,List.range_succ]
theorem D9 (k:Nat):fT (k+1)=fT k++[.team k]:=by simp [fT,List.range_succ]
theorem AC (i k:Nat):AB i (k+1)=AB i k++[.pteam i k]:=by simp [AB,List.range_succ]
theorem yE (ps:List aX) (k:Nat):fP ps (k+1)=fP ps k++FB ps k:=by simp [fP,List.range_succ]
theorem jW (k:Nat):fC (k+1)=(fC k++[.ca k])++[.cb k]:=by simp [fC,List.range_succ]
theorem V2 {k n:Nat} (h:k≤n):fW k <+: fW n:=by
  induction n with
  | zero =>
    obtain rfl:k=0:=by omega
    exact List.prefix_rfl
  | succ n ih =>
    rcases Nat.lt_or_ge n k with h' | h'
    · obtain rfl:k=n+1:=by omega
      exact List.prefix_rfl
    · rw [vA,List.append_assoc]; exact (ih h').trans (List.prefix_append _ _)
theorem ad2 {k n:Nat} (h:k≤n):fD k <+: fD n:=by
  induction n with
  | zero =>
    obtain rfl:k=0:=by omega
    exact List.prefix_rfl
  | succ n ih =>
    rcases Nat.lt_or_ge n k with h' | h'
    · obtain rfl:k=n+1:=by omega
      exact List.prefix_rfl
    · rw [D7]; exact (ih h').trans (List.prefix_append _ _)
theorem ad3 {k n:Nat} (h:k≤n):fG k <+: fG n:=by
  induction n with
  | zero =>
    obtain rfl:k=0:=by omega
    exact List.prefix_rfl
  | succ n ih =>
    rcases Nat.lt_or_ge n k with h' | h'
    · obtain rfl:k=n+1:=by omega
      exact List.prefix_rfl
    · rw [D8]; exact (ih h').trans (List.prefix_append _ _)
theorem ad4 {k n:Nat} (h:k≤n):fT k <+: fT n:=by
  induction n with
  | zero =>
    obtain rfl:k=0:=by omega
    exact List.prefix_rfl
  | succ n ih =>
    rcases Nat.lt_or_ge n k with h' | h'
    · obtain rfl:k=n+1:=by omega
      exact List.prefix_rfl
    · rw [D9]; exact (ih h').trans (List.prefix_append _ _)
theorem XG {i k n:Nat} (h:k≤n):AB i k <+: AB i n:=by
  induction n with
  | zero =>
    obtain rfl:k=0:=by omega
    exact List.prefix_rfl
  | succ n ih =>
    rcases Nat.lt_or_ge n k with h' | h'
    · obtain rfl:k=n+1:=by omega
      exact List.prefix_rfl
    · rw [AC]; exact (ih h').trans (List.prefix_append _ _)
theorem ad5 {ps:List aX} {k n:Nat} (h:k≤n):fP ps k <+: fP ps n:=by
  induction n with
  | zero =>
    obtain rfl:k=0:=by omega
    exact List.prefix_rfl
  | succ n ih =>
    rcases Nat.lt_or_ge n k with h' | h'
    · obtain rfl:k=n+1:=by omega
      exact List.prefix_rfl
    · rw [yE]; exact (ih h').trans (List.prefix_append _ _)
theorem V3 {k n:Nat} (h:k≤n):fC k <+: fC n:=by
  induction n with
  | zero =>
    obtain rfl:k=0:=by omega
    exact List.prefix_rfl
  | succ n ih =>
    rcases Nat.lt_or_ge n k with h' | h'
    · obtain rfl:k=n+1:=by omega
      exact List.prefix_rfl
    · rw [jW,List.append_assoc]; exact (ih h').trans (List.prefix_append _ _)
section pf
variable {l:aE} {ys:List FP} {k:Nat}
theorem pfW (h:ys <+: fW l.ways.length):ys <+: flds l:=by
  unfold flds; simp only [List.append_assoc]; exact h.trans (List.prefix_append _ _)
theorem pfD (h:ys <+: fD l.depots.length):fW l.ways.length++ys <+: flds l:=by
  unfold flds; simp only [List.append_assoc]
  exact (List.prefix_append_right_inj _).2 (h.trans (List.prefix_append _ _))
theorem pfG (h:ys <+: fG l.grounds.length):(fW l.ways.length++fD l.depots.length)++ys <+: flds l:=by
  unfold flds; simp only [List.append_assoc]
  exact (List.prefix_append_right_inj _).2 ((List.prefix_append_right_inj _).2 (h.trans (List.prefix_append _ _)))
theorem pfT (h:ys <+: fT l.teams.length):((fW l.ways.length++fD l.depots.length)++fG l.grounds.length)++ys <+: flds l:=by
  unfold flds; simp only [List.append_assoc]
  exact (List.prefix_append_right_inj _).2 ((List.prefix_append_right_inj _).2 ((List.prefix_append_right_inj _).2 (h.trans (List.prefix_append _ _))))
def gT (l:aE):List FP:=((fW l.ways.length++fD l.depots.length)++fG l.grounds.length)++fT l.teams.length
theorem pfP (h:ys <+: fP l.phases l.phases.length):gT l++ys <+: flds l:=by
  unfold flds gT; simp only [List.append_assoc]
  exact (List.prefix_append_right_inj _).2 ((List.prefix_append_right_inj _).2 ((List.prefix_append_right_inj _).2 ((List.prefix_append_right_inj _).2 (h.trans (List.prefix_append _ _)))))
theorem pfC (h:ys <+: fC l.conds.length):(gT l++fP l.phases l.phases.length)++ys <+: flds l:=by
  unfold flds gT; simp only [List.append_assoc]
  exact (List.prefix_append_right_inj _).2 ((List.prefix_append_right_inj _).2 ((List.prefix_append_right_inj _).2 ((List.prefix_append_right_inj _).2 ((List.prefix_append_right_inj _).2 h))))
theorem pW1 (h:k<l.ways.length):fW k++[.wayA k] <+: flds l:=pfW (((List.prefix_append _ [.wayB k]).trans (by rw [← vA]; exact List.prefix_rfl)).trans (V2 (show k+1≤_ from h)))
theorem pW2 (h:k<l.ways.length):(fW k++[.wayA k])++[.wayB k] <+: flds l:=by rw [← vA]; exact pfW (V2 (show k+1≤_ from h))
theorem pD1 (h:k<l.depots.length):(fW l.ways.length++fD k)++[.depot k] <+: flds l:=by rw [List.append_assoc,← D7]; exact pfD (ad2 (show k+1≤_ from h))
theorem pG1 (h:k<l.grounds.length):((fW l.ways.length++fD l.depots.length)++fG k)++[.ground k] <+: flds l:=by rw [List.append_assoc,← D8]; exact pfG (ad3 (show k+1≤_ from h))
theorem pT1 (h:k<l.teams.length):(((fW l.ways.length++fD l.depots.length)++fG l.grounds.length)++fT k)++[.team k] <+: flds l:=by rw [List.append_assoc,← D9]; exact pfT (ad4 (show k+1≤_ from h))
theorem pPx (h:k<l.phases.length) (hy:ys <+: FB l.phases k):(gT l++fP l.phases k)++ys <+: flds l:=by
  rw [List.append_assoc]
  exact pfP (((List.prefix_append_right_inj _).2 hy).trans (by rw [← yE]; exact ad5 (show k+1≤_ from h)))
theorem RJ (h:k<l.conds.length):((gT l++fP l.phases l.phases.length)++fC k)++[.ca k] <+: flds l:=by
  rw [List.append_assoc]
  exact pfC (((List.prefix_append _ [.cb k]).trans (by rw [← jW]; exact List.prefix_rfl)).trans (V3 (show k+1≤_ from h)))
theorem RK (h:k<l.conds.length):(((gT l++fP l.phases l.phases.length)++fC k)++[.ca k])++[.cb k] <+: flds l:=by
  rw [List.append_assoc,List.append_assoc,← List.append_assoc (fC k),← jW]
  exact pfC (V3 (show k+1≤_ from h))
end pf
def kB (p:aX):Bool :=
  if ((decide (p.kind≥1))&&(decide (p.kind≤6)))=true then
    if (((p.teams.length:Int)==0)||((!(p.kind==4))&&(!(p.kind==6))))=true then true else false else false
def pK (c:cJ):Bool :=
  if c.kind=1 then true else if c.kind=2 then true else if c.kind=3 then true else if c.kind=10 then true else
  if c.kind=4 then true else if c.kind=5 then true else if c.kind=7 then true else if c.kind=6 then true else if c.kind=8 then true else if c.kind=9 then true else false
def hU (l:aE):Bool:=if l.phases.all kB=true then if l.conds.all pK=true then true else false else false
end Go.Fz
namespace Go.Fz
open Go Go.RowKit
def mA (p:aX):List (Option Value):=[none,some (I p.kind),none,none,some (.slice p.teamsA p.teams.length p.teamsC)]
def tT (c:cJ):List (Option Value):=[none,some (I c.kind)]
def qT {α:Type} (_:α):List (Option Value):=[]
structure GV (w:World) (B:Nat) (l:aE):Prop where
  hd:Row w (some ⟨B,0,none⟩) 15 aB [l]
  ways:RowO w l.waysA 5 qT l.ways
  depots:RowO w l.depotsA 3 qT l.depots
  grounds:RowO w l.groundsA 7 qT l.grounds
  teams:RowO w l.teamsA 4 qT l.teams
  phases:RowO w l.phasesA 14 mA l.phases
  conds:RowO w l.condsA 21 tT l.conds
  pteams:∀ p∈l.phases,RowO w p.teamsA 2 qT p.teams
structure Caller {G:Type} (P:Program) (w0:World) (L B:Nat) (l:aE) (Hc:List FP→Bool × G→List Item) (Pn:List PanicEntry→World→Prop):Prop where
  const:∀ pre pre' g,Hc pre (false,g)=Hc pre' (false,g)
  reads:∀ pre m w,St w0 (Hc pre m) w→GV w B l
  yields:∀ (X:List Item) pre g p w,pre++[p] <+: flds l→St w0 (X++Hc pre (true,g)) w →
    Yields P L [.agg #[Pa (p.adr l),I (p.kind l),I (p.most l)]] w fun e w'=>(∃ m:Bool × G,e=.returned (Bo m.1)∧St w0 (X++Hc (pre++[p]) m) w')∨∃ ch,e=.panicked ch∧Pn ch w'
  pan:∀ pre m w,hU l=false→St w0 (Hc pre m) w→Pn (lB 170) w
theorem Caller.r4 {G:Type} {P:Program} {w0:World} {L B:Nat} {l:aE} {Hc:List FP→Bool × G→List Item} {Pn:List PanicEntry→World→Prop} (cl:Caller P w0 L B l Hc Pn)
    {a b c d:Item} {X:List FP} {m:Bool × G} {w:World} (st:St w0 (a::b::c::d::Hc X m) w):GV w B l :=
  cl.reads _ _ _ (st.sub (.cons _ (.cons _ (.cons _ (.cons _ (List.Sublist.refl _))))))
end Go.Fz
namespace Go.Fz
open Go Go.RowKit
def RX (w0:World) (NX:List Item→Prop) (PX:List PanicEntry→World→Prop):Ending→World→Prop :=
  fun e w'=>(∃ Y,e=.returned (.tuple #[])∧NX Y∧St w0 Y w')∨∃ ch,e=.panicked ch∧PX ch w'
end Go.Fz
namespace Go.Fz
open Go Go.RowKit
section pp
variable {l:aE} {k j:Nat}
theorem TQ:fD 0=[]:=rfl
theorem TR:fG 0=[]:=rfl
theorem TS:fT 0=[]:=rfl
theorem TT (ps:List aX):fP ps 0=[]:=rfl
theorem P5 (i:Nat):AB i 0=[]:=rfl
theorem TU:fC 0=[]:=rfl
theorem afR (h:k<l.phases.length):(gT l++fP l.phases k)++[.window k] <+: flds l:=pPx h (by unfold FB; rw [List.append_assoc]; exact List.prefix_append _ _)
theorem afS (h:k<l.phases.length) (hj:j<(l.phases.getD k aF).teams.length):(((gT l++fP l.phases k)++[.window k])++AB k j)++[.pteam k j] <+: flds l:=by
  rw [List.append_assoc,← AC,List.append_assoc]
  refine pPx h ?_
  unfold FB
  exact ((List.prefix_append_right_inj _).2 (XG (show j+1≤_ from hj))).trans (List.prefix_append _ _)
theorem afT (h:k<l.phases.length):(((gT l++fP l.phases k)++[.window k])++AB k (l.phases.getD k aF).teams.length)++[.pof k] <+: flds l:=by
  have:=pPx (ys:=([.window k]++AB k (l.phases.getD k aF).teams.length)++[.pof k]) h ((List.prefix_append_right_inj _).2 (List.prefix_append [FP.pof k] [.pa k,.pb k]))
  simpa [List.append_assoc] using this
theorem afU (h:k<l.phases.length):((((gT l++fP l.phases k)++[.window k])++AB k (l.phases.getD k aF).teams.length)++[.pof k])++[.pa k] <+: flds l:=by
  have:=pPx (ys:=([.window k]++AB k (l.phases.getD k aF).teams.length)++[.pof k,.pa k]) h ((List.prefix_append_right_inj _).2 (List.prefix_append [FP.pof k,.pa k] [.pb k]))
  simpa [List.append_assoc] using this
theorem afV (h:k<l.phases.length):(((((gT l++fP l.phases k)++[.window k])++AB k (l.phases.getD k aF).teams.length)++[.pof k])++[.pa k])++[.pb k] <+: flds l:=by
  have:=pPx (ys:=([.window k]++AB k (l.phases.getD k aF).teams.length)++[.pof k,.pa k,.pb k]) h (List.prefix_rfl)
  simpa [List.append_assoc] using this
theorem XH:(((((gT l++fP l.phases k)++[.window k])++AB k (l.phases.getD k aF).teams.length)++[.pof k])++[.pa k])++[.pb k]=gT l++fP l.phases (k+1):=by
  rw [yE]; simp [FB,List.append_assoc]
theorem TV (l:aE) (k:Nat):FP.kind l (.pof k)=bif (l.phases.getD k aF).kind==4 then 5 else 7:=by
  unfold FP.kind; by_cases h:(l.phases.getD k aF).kind=4 <;> simp [h]
theorem XI (l:aE) (k:Nat):FP.kind l (.pa k)=bif (l.phases.getD k aF).kind==6 then 5 else 7:=by
  unfold FP.kind; by_cases h:(l.phases.getD k aF).kind=6 <;> simp [h]
theorem XJ (l:aE) (k:Nat):FP.kind l (.pb k)=bif (l.phases.getD k aF).kind==6 then 5 else 7:=by
  unfold FP.kind; by_cases h:(l.phases.getD k aF).kind=6 <;> simp [h]
theorem TW (l:aE) (k:Nat):FP.most l (.pof k)=bif (l.phases.getD k aF).kind==4 then (k:Int) else 256:=by
  unfold FP.most; by_cases h:(l.phases.getD k aF).kind=4 <;> simp [h]
theorem XK (l:aE) (k:Nat):FP.most l (.pa k)=bif (l.phases.getD k aF).kind==6 then (k:Int) else 256:=by
  unfold FP.most; by_cases h:(l.phases.getD k aF).kind=6 <;> simp [h]
theorem XL (l:aE) (k:Nat):FP.most l (.pb k)=bif (l.phases.getD k aF).kind==6 then (k:Int) else 256:=by
  unfold FP.most; by_cases h:(l.phases.getD k aF).kind=6 <;> simp [h]
theorem mJ {c:Int} (h:(l.conds.getD k dZ).kind=c):FP.kind l (.ca k)=l9 c:=by rw [← h]; rfl
theorem mL {c:Int} (h:(l.conds.getD k dZ).kind=c):FP.kind l (.cb k)=nY c:=by rw [← h]; rfl
end pp
end Go.Fz
namespace Go.Proofs.YtfffbdmdllgalaaGreatDoor
open Go Go.RowKit Go.Fz
set_option maxRecDepth 10000
theorem TX {w0 w:World} {H:List Fz.Item} (st:St w0 H w) (im iy Bm By L:Nat) (kind:Int) (at':Addr) (hm:H[im]?=some (cI Bm 4 [Bo true])) (hy:H[iy]?=some (cI By 248 [yv L])) {NX:List Fz.Item→Prop} {PX:List PanicEntry→World→Prop}  (hY:∀ w1,St w0 H w1→Fz.Yields Tryz.prog L [.agg #[Pa at',I kind,I 256]] w1 fun e w'=>(∃ b H1,e=.returned (Bo b)∧St w0 H1 w'∧H1[im]?=some (cI Bm 4 [Bo true])∧NX (H1.set im (cI Bm 4 [Bo b])))∨∃ ch,e=.panicked ch∧PX ch w'):Calls Tryz.prog 193 #[I kind,Pa at',Pt Bm 0,Pt By 0] w (RX w0 NX PX):=by
 refine WA [I kind,Pa at',Pt Bm 0,Pt By 0] st Tryz.func193 rfl rfl rfl rfl fun _ s0=>UX<|ylq (hs:=[Bo true,yv L,.agg #[Pa at',I kind,I 256]]) (E1:=[⟨2,[],Pt Bm 0⟩,⟨7,[],Bo true⟩,⟨8,[],yv L⟩,⟨11,[],.agg #[Pa at',I kind,I 256]⟩]) (ks:=[2,7,8,11]) s0 0 6 (by kernel_rfl) (oc (s0.m.ld 4 im 0 X0 hm rfl)<|oc (fun (g0:true=true)=>s0.m.ld 248 iy 0 U4 hy rfl)<|oc (fun (g0:true=true)=>jL (P:=Tryz.prog) w 200 [(0,Pa at'),(1,I kind),(2,I 256)] (.agg #[Pa at',I kind,I 256]) (fun _=>by kernel_rfl))<|trivial) rfl fun _ w2 s3=>yly s3 6 rfl rfl rfl rfl rfl rfl (hY _ s3.m)<|?_
 rintro e w4 (⟨b,H1,rfl,st1,hm1,hn⟩ | ⟨ch,rfl,hp⟩)
 ·intro a2 hd hF
  have s2:=sO hF hd st1
  refine UY 7 (by rintro ⟨_,_,(⟨_,h,_⟩ | ⟨_,h,_⟩)⟩ <;> cases h) rfl<|zl s2 [2,13] [(13,Bo (true&&b))] 0 1 qe fun _ w6 s7=>dD s7 1 im [Bo (true&&b)] [Bo (true&&b)] rfl rfl rfl rfl U5 rfl hm1 rfl rfl fun w8 s9=>aR rfl<|pE [] rfl s9 trivial<|?_
  exact .inl ⟨_,rfl,hn,s9.m⟩
 refine bT s3.d<|?_
 exact .inr ⟨_,rfl,hp⟩
theorem P6 {w0 w:World} {H:List Fz.Item} (st:St w0 H w) (im iy Bm By L:Nat) (ii ip Bi Bp:Nat) (i:Int) (at':Addr) (hm:H[im]?=some (cI Bm 4 [Bo true])) (hy:H[iy]?=some (cI By 248 [yv L])) {NX:List Fz.Item→Prop} {PX:List PanicEntry→World→Prop} (hi:H[ii]?=some (cI Bi 3 [I i])) (hY:∀ w1,St w0 H w1→Fz.Yields Tryz.prog L [.agg #[Pa at',I 5,I i]] w1 fun e w'=>(∃ b H1,e=.returned (Bo b)∧St w0 H1 w'∧H1[im]?=some (cI Bm 4 [Bo true])∧NX (H1.set im (cI Bm 4 [Bo b])))∨∃ ch,e=.panicked ch∧PX ch w'):Calls Tryz.prog 194 #[Bo true,Pa at',Pt Bm 0,Pt By 0,Pt Bi 0,Pt Bp 0] w (RX w0 NX PX):=by
 refine WA [Bo true,Pa at',Pt Bm 0,Pt By 0,Pt Bi 0,Pt Bp 0] st Tryz.func194 rfl rfl rfl rfl fun _ s0=>zs s0 [1,2,3,4,5,8] [(1,Pa at'),(2,Pt Bm 0),(3,Pt By 0),(4,Pt Bi 0),(5,Pt Bp 0),(8,Bo true)] qe fun _ w2 s3=>HP s3.f rfl<|UX<|ylq (hs:=[Bo true,yv L,I i,.agg #[Pa at',I 5,I i]]) (E1:=[⟨2,[],Pt Bm 0⟩,⟨10,[],Bo true⟩,⟨11,[],yv L⟩,⟨14,[],.agg #[Pa at',I 5,I i]⟩]) (ks:=[2,10,11,14]) s3 0 6 (by kernel_rfl) (oc (s3.m.ld 4 im 0 X0 hm rfl)<|oc (fun (g0:true=true)=>s3.m.ld 248 iy 0 U4 hy rfl)<|oc (fun (g0:true=true)=>s3.m.ld 3 ii 0 bM hi rfl)<|oc (fun (g0:true=true)=>jL (P:=Tryz.prog) w2 200 [(0,Pa at'),(1,I 5),(2,I i)] (.agg #[Pa at',I 5,I i]) (fun _=>by kernel_rfl))<|trivial) rfl fun _ w6 s7=>yly s7 6 rfl rfl rfl rfl rfl rfl (hY _ s7.m)<|?_
 rintro e w8 (⟨b,H1,rfl,st1,hm1,hn⟩ | ⟨ch,rfl,hp⟩)
 ·intro a2 hd hF
  have s2:=sO hF hd st1
  refine UY 7 (by rintro ⟨_,_,(⟨_,h,_⟩ | ⟨_,h,_⟩)⟩ <;> cases h) rfl<|zl s2 [2,16] [(16,Bo (true&&b))] 0 1 qe fun _ w10 s11=>dD s11 1 im [Bo (true&&b)] [Bo (true&&b)] rfl rfl rfl rfl U5 rfl hm1 rfl rfl fun w12 s13=>aR rfl<|pE [] rfl s13 trivial<|?_
  exact .inl ⟨_,rfl,hn,s13.m⟩
 refine bT s7.d<|?_
 exact .inr ⟨_,rfl,hp⟩
theorem TY {w0 w:World} {H:List Fz.Item} (st:St w0 H w) (im iy Bm By L:Nat) (kind:Int) (at':Addr) (hm:H[im]?=some (cI Bm 4 [Bo false])) (hy:H[iy]?=some (cI By 248 [yv L])) {NX:List Fz.Item→Prop} {PX:List PanicEntry→World→Prop}  (hn:NX (H.set im (cI Bm 4 [Bo false]))):Calls Tryz.prog 193 #[I kind,Pa at',Pt Bm 0,Pt By 0] w (RX w0 NX PX):=by
 refine WA [I kind,Pa at',Pt Bm 0,Pt By 0] st Tryz.func193 rfl rfl rfl rfl fun _ s0=>aA<|fJ s0 [0,1,2,3,7] [700] [(0,I kind),(1,Pa at'),(2,Pt Bm 0),(3,Pt By 0)] 0 2 (qo (s0.m.ld 4 im 0 X0 hm rfl)<|qe) fun _ w2 s3=>I9 s3 2 rfl rfl rfl rfl rfl fun _ s5=>I9 s5 3 rfl rfl rfl rfl rfl fun _ s7=>I9 s7 4 rfl rfl rfl rfl rfl fun _ s9=>I9 s9 5 rfl rfl rfl rfl rfl fun _ s11=>I9 s11 6 rfl rfl rfl rfl rfl fun _ s13=>lpk s13 7 rfl rfl rfl rfl fun _ s15=>dD s15 8 im [Bo false] [Bo false] rfl rfl rfl rfl U5 rfl hm rfl rfl fun w16 s17=>aR rfl<|pE [] rfl s17 trivial<|?_
 exact .inl ⟨_,rfl,hn,s17.m⟩
theorem P7 {w0 w:World} {H:List Fz.Item} (st:St w0 H w) (im iy Bm By L:Nat) (ii ip Bi Bp:Nat) (i:Int) (at':Addr) (hm:H[im]?=some (cI Bm 4 [Bo false])) (hy:H[iy]?=some (cI By 248 [yv L])) {NX:List Fz.Item→Prop} {PX:List PanicEntry→World→Prop} (hi:H[ii]?=some (cI Bi 3 [I i])) (hn:NX (H.set im (cI Bm 4 [Bo false]))):Calls Tryz.prog 194 #[Bo true,Pa at',Pt Bm 0,Pt By 0,Pt Bi 0,Pt Bp 0] w (RX w0 NX PX):=by
 refine WA [Bo true,Pa at',Pt Bm 0,Pt By 0,Pt Bi 0,Pt Bp 0] st Tryz.func194 rfl rfl rfl rfl fun _ s0=>zs s0 [1,2,3,4,5,8] [(1,Pa at'),(2,Pt Bm 0),(3,Pt By 0),(4,Pt Bi 0),(5,Pt Bp 0),(8,Bo true)] qe fun _ w2 s3=>HP s3.f rfl<|aA<|fJ s3 [1,2,3,4,10] [1000] [] 0 2 (qo (s3.m.ld 4 im 0 X0 hm rfl)<|qe) fun _ w6 s7=>I9 s7 2 rfl rfl rfl rfl rfl fun _ s9=>I9 s9 3 rfl rfl rfl rfl rfl fun _ s11=>I9 s11 4 rfl rfl rfl rfl rfl fun _ s13=>I9 s13 5 rfl rfl rfl rfl rfl fun _ s15=>I9 s15 6 rfl rfl rfl rfl rfl fun _ s17=>lpk s17 7 rfl rfl rfl rfl fun _ s19=>dD s19 8 im [Bo false] [Bo false] rfl rfl rfl rfl U5 rfl hm rfl rfl fun w20 s21=>aR rfl ?_
 refine pE [] rfl s21 trivial<|?_
 exact .inl ⟨_,rfl,hn,s21.m⟩
theorem P8 {w0 w:World} {H:List Fz.Item} (st:St w0 H w) (im iy Bm By L:Nat) (ii ip Bi Bp:Nat) (i:Int) (at':Addr) (hp0:H[ip]?=some (cI Bp 249 [.func (.func 193) #[] #[Pt Bm 0,Pt By 0]])) {NX:List Fz.Item→Prop} {PX:List PanicEntry→World→Prop} (hc:∀ w1,St w0 H w1→Calls Tryz.prog 193 #[I 7,Pa at',Pt Bm 0,Pt By 0] w1 (RX w0 NX PX)):Calls Tryz.prog 194 #[Bo false,Pa at',Pt Bm 0,Pt By 0,Pt Bi 0,Pt Bp 0] w (RX w0 NX PX):=by
 refine WA [Bo false,Pa at',Pt Bm 0,Pt By 0,Pt Bi 0,Pt Bp 0] st Tryz.func194 rfl rfl rfl rfl fun _ s0=>zs s0 [1,2,3,4,5,8] [(1,Pa at'),(2,Pt Bm 0),(3,Pt By 0),(4,Pt Bi 0),(5,Pt Bp 0),(8,Bo false)] qe fun _ w2 s3=>CR s3.f rfl<|aA<|fJ s3 [17,18] [1700] [(18,Pa at')] 0 2 (qo (s3.m.ld 249 ip 0 iA hp0 rfl)<|qe) fun _ w6 s7=>lc s7 2 rfl rfl rfl iD rfl (hc _ s7.m)<|?_
 rintro e w8 (⟨Y,rfl,hn,st1⟩ | ⟨ch,rfl,hp⟩)
 rotate_left
 ·refine bT s7.d<|?_
  exact .inr ⟨_,rfl,hp⟩
 intro a2 hd hF
 have s2:=sO hF hd st1
 refine aR rfl<|pE [] rfl s2 trivial<|?_
 exact .inl ⟨_,rfl,hn,s2.m⟩
end Go.Proofs.YtfffbdmdllgalaaGreatDoor
