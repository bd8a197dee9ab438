/-
Part 5 of a proof: what the texts W28, W29, S30, S31, S32, S33, S34, S35, S36, W30, W31, S37, S38, S39, S40, S41 show, of the model and of the program.
-/
import Derived.Test.YtfffbdmdllgalaaGreatDoorA4
set_option maxHeartbeats 1000000
namespace Go.Proofs.YtfffbdmdllgalaaGreatDoor
open Go Go.RowKit Go.Fz
set_option maxRecDepth 10000
variable {w0 w:World} {L B:Nat} {l:aE} {G:Type} {Hc:List FP→Bool × G→List Fz.Item} {Pn:List PanicEntry→World→Prop}
theorem mB {X Z:List Fz.Item} {i:Nat} {it:Fz.Item} (h:X[i]?=some it):(X++Z)[i]?=some it:=by
 rw [List.getElem?_append_left (List.getElem?_eq_some_iff.1 h).1]; exact h
theorem yF {X Z:List Fz.Item} {i:Nat} {it it':Fz.Item} (h:X[i]?=some it):(X++Z).set i it'=X.set i it'++Z :=
 List.set_append_left _ _ (List.getElem?_eq_some_iff.1 h).1
def NXc (X:List Fz.Item) (im Bm:Nat) (Hc:List FP→Bool × G→List Fz.Item) (pre:List FP) (Y:List Fz.Item):Prop:=∃ m,Y=X.set im (cI Bm 4 [Bo m.1])++Hc pre m
theorem eU (cl:Caller Tryz.prog w0 L B l Hc Pn) (X:List Fz.Item) (pre:List FP) (p:FP) {m:Bool × G} (im iy:Nat) {Bm By:Nat} {kind:Int} {at':Addr} (hp:pre++[p] <+: flds l) (hk:p.kind l=kind) (hm:p.most l=256) (ha:p.adr l=at')
  (st:St w0 (X++Hc pre m) w) (h1:X[im]?=some (cI Bm 4 [Bo m.1])) (h2:X[iy]?=some (cI By 248 [yv L])) :
  Calls Tryz.prog 193 #[I kind,Pa at',Pt Bm 0,Pt By 0] w (RX w0 (NXc X im Bm Hc (pre++[p])) Pn):=by
 subst hk; subst ha
 obtain ⟨b0,g⟩:=m
 cases b0 with
 | true =>
  refine TX st im iy Bm By L _ _ (mB h1) (mB h2) fun w1 st1=>?_
  have hy:=cl.yields X pre g p w1 hp st1
  rw [hm] at hy
  refine hy.mono fun e w' he=>?_
  rcases he with ⟨b,h3,h4⟩ | he
  ·exact .inl ⟨b.1,_,h3,h4,mB h1,⟨b,yF h1⟩⟩
  exact .inr he
 | false =>
  refine TY st im iy Bm By L _ _ (mB h1) (mB h2) ⟨(false,g),?_⟩
  rw [yF h1,cl.const pre (pre++[p])]
theorem EA (cl:Caller Tryz.prog w0 L B l Hc Pn) (X:List Fz.Item) (pre:List FP) (p:FP) {m:Bool × G} (im iy ii ip:Nat) {Bm By Bi Bp:Nat} (b:Bool) {i:Int} {at':Addr} (hp:pre++[p] <+: flds l) (hk:p.kind l=bif b then 5 else 7) (hm:p.most l=bif b then i else 256) (ha:p.adr l=at')
  (st:St w0 (X++Hc pre m) w) (h1:X[im]?=some (cI Bm 4 [Bo m.1])) (h2:X[iy]?=some (cI By 248 [yv L])) (h3:X[ii]?=some (cI Bi 3 [I i])) (h4:X[ip]?=some (cI Bp 249 [.func (.func 193) #[] #[Pt Bm 0,Pt By 0]])) :
  Calls Tryz.prog 194 #[Bo b,Pa at',Pt Bm 0,Pt By 0,Pt Bi 0,Pt Bp 0] w (RX w0 (NXc X im Bm Hc (pre++[p])) Pn):=by
 cases b with
 | false=>exact P8 st im iy Bm By L ii ip Bi Bp i _ (mB h4) fun w1 st1=>eU cl X pre p im iy hp hk hm ha st1 h1 h2
 | true =>
  subst ha
  obtain ⟨b0,g⟩:=m
  cases b0 with
  | true =>
   refine P6 st im iy Bm By L ii ip Bi Bp i _ (mB h1) (mB h2) (mB h3) fun w1 st1=>?_
   have hy:=cl.yields X pre g p w1 hp st1
   rw [hm,hk] at hy
   refine hy.mono fun e w' he=>?_
   rcases he with ⟨b,h3,h4⟩ | he
   ·exact .inl ⟨b.1,_,h3,h4,mB h1,⟨b,yF h1⟩⟩
   exact .inr he
  | false =>
   refine P7 st im iy Bm By L ii ip Bi Bp i _ (mB h1) (mB h2) (mB h3) ⟨(false,g),?_⟩
   rw [yF h1,cl.const pre (pre++[p])]
theorem wM (cl:Caller Tryz.prog w0 L B l Hc Pn) {g0:G} {Bl:Nat} (st:St w0 (cI Bl 197 [Pt B 0]::Hc [] (true,g0)) w):Calls Tryz.prog 192 #[yv L,Pt Bl 0] w (RX w0 (fun Y=>hU l=true∧∃ X m,Y=X++Hc (flds l) m) Pn):=by
 refine WA [yv L,Pt Bl 0] st Tryz.func192 rfl rfl rfl rfl fun _ s0=>?_
 have sm0:=(cl.reads _ _ _ (st.sub (.cons _ (List.Sublist.refl _)))).ways.small
 have sm1:=(cl.reads _ _ _ (st.sub (.cons _ (List.Sublist.refl _)))).depots.small
 have sm2:=(cl.reads _ _ _ (st.sub (.cons _ (List.Sublist.refl _)))).grounds.small
 have sm3:=(cl.reads _ _ _ (st.sub (.cons _ (List.Sublist.refl _)))).teams.small
 have sm4:=(cl.reads _ _ _ (st.sub (.cons _ (List.Sublist.refl _)))).phases.small
 have sm5:=(cl.reads _ _ _ (st.sub (.cons _ (List.Sublist.refl _)))).conds.small
 refine wp_seq<|aA<|lb s0 0 _ rfl rfl rfl rfl fun B1 a2 w3 s4=>aR rfl<|aD<|wp_seq<|aA<|la s4 0 _ rfl ZT4 rfl rfl fun B5 a6 w7 s8=>dD s8 1 0 _ _ rfl rfl rfl rfl U5 rfl rfl rfl rfl fun w9 s10=>aR rfl<|aD<|wp_seq<|aA ?_
 refine zl s10 [1,2,3,19] [(1,Pt Bl 0),(2,Pt B1 0),(3,Pt B5 0),(19,.func (.func 193) #[] #[Pt B5 0,Pt B1 0])] 0 1 qe fun _ w12 s13=>la s13 1 _ rfl ZF rfl rfl fun B14 a15 w16 s17=>dD s17 2 0 _ _ rfl rfl rfl rfl Y0 rfl rfl rfl rfl fun w18 s19=>aR rfl<|aD<|wp_seq<|d5 s19 [1,2,3,4,24,25] [2403] [(4,Pt B14 0),(25,I 0)] (qo (s19.m.ld 197 3 0 o7 rfl rfl)<|qo (fa w18 B 0 fS)<|qo ((cl.r4 s19.m).hd.ld 23 0 2 nS rfl rfl)<|qo (ln w18 3 l.waysA l.ways.length l.waysC nU)<|qe) fun _ w21 s22=>wp_block<|aO (α:=Nat) (fun k1 aI wI=>∃ m_k1:Bool × G,(k1≤l.ways.length)∧(Sta 242 [] w0 [⟨1,[],Pt Bl 0⟩,⟨2,[],Pt B1 0⟩,⟨3,[],Pt B5 0⟩,⟨4,[],Pt B14 0⟩,⟨24,[],I (l.ways.length:Int)⟩,⟨25,[],I (k1:Int)⟩] ((cI B14 249 [.func (.func 193) #[] #[Pt B5 0,Pt B1 0]])::(cI B5 4 [Bo m_k1.1])::(cI B1 248 [yv L])::(cI Bl 197 [Pt B 0])::Hc (fW k1) m_k1) aI wI)) (fun k1=>l.ways.length-k1) 0 ⟨(true,g0),Nat.zero_le _,s22.kp⟩<|?_
 rintro k1 a25 w24 ⟨m_k1,k1_le,s23⟩
 refine zs s23 [1,2,3,4,24,25,26] [(26,Bo (decide ((k1:Int)<(l.ways.length:Int))))] qe fun a26 w27 s28=>wp_seq<|aQ s28.f rfl (fun h29=>?_) (fun h29=>?_)
 ·have k1_lt:k1<l.ways.length:=by omega
  have hx30:l.ways[k1]?=some (l.ways.getD k1 o0):=bC (by omega)
  skip
  refine wp_skip<|aD<|wp_seq<|wp_block<|zs s28 [1,2,3,4,5,24,25] [(5,I (k1:Int))] qe fun _ w32 s33=>wp_seq<|aL MO 8<|nD s33 [1,2,3,4,5,24,25,28,35] [2800,3504] [] 0 [some [],some [7,6,4,3,2],some [7,6,4,3],some [7,6,4],some [7,6],some [7,6],some [7],some []] (qo (s33.m.ld 249 0 0 iA rfl rfl)<|qo (s33.m.ld 197 3 0 o7 rfl rfl)<|qo (fa w32 B 0 fS)<|qo ((cl.r4 s33.m).hd.ld 23 0 2 nS rfl rfl)<|qo ((cl.r4 s33.m).ways.ia l.waysC k1 nU nT (by omega))<|qo (jZ w32 l.waysA (k1*5) uW)<|qe) hq fun _ s36=>df s36 8 rfl rfl rfl rfl (by kernel_rfl) rfl fun w37 s38=>lc s38 0 rfl rfl rfl iD rfl (eU cl [cI B14 249 [.func (.func 193) #[] #[Pt B5 0,Pt B1 0]],cI B5 4 [Bo m_k1.1],cI B1 248 [yv L],cI Bl 197 [Pt B 0]] (fW k1) (FP.wayA k1) 1 2 (pW1 k1_lt) rfl rfl rfl s38.m rfl rfl)<|?_
  rintro e w39 (⟨Y,rfl,⟨m40,rfl⟩,st41⟩ | ⟨ch42,rfl,hp43⟩)
  rotate_left
  ·refine aP (aP (bL (aP (aP (bL (aP (bT s38.d ?_)))))))
   exact .inr ⟨_,rfl,hp43⟩
  intro a44 hd46 hF47
  have s45:=sO hF47 hd46 st41
  refine aR rfl (aD ?_)
  refine dd s45 (by kernel_rfl) fun w48 s49=>aD<|aL MO 8<|nD s49 [1,2,3,4,24,25,37,44] [3700,4405] [] 0 [some [],some [7,6,4,3,2],some [7,6,4,3],some [7,6,4],some [7,6],some [7,6],some [7],some []] (qo (s49.m.ld 249 0 0 iA rfl rfl)<|qo (s49.m.ld 197 3 0 o7 rfl rfl)<|qo (fa w48 B 0 fS)<|qo ((cl.r4 s49.m).hd.ld 23 0 2 nS rfl rfl)<|qo ((cl.r4 s49.m).ways.ia l.waysC k1 nU nT (by omega))<|qo (jZ w48 l.waysA (k1*5) uX)<|qe) hq fun _ s52=>df s52 8 rfl rfl rfl rfl (by kernel_rfl) rfl fun w53 s54=>lc s54 0 rfl rfl rfl iD rfl (eU cl [cI B14 249 [.func (.func 193) #[] #[Pt B5 0,Pt B1 0]],cI B5 4 [Bo m40.1],cI B1 248 [yv L],cI Bl 197 [Pt B 0]] ((fW k1)++[FP.wayA k1]) (FP.wayB k1) 1 2 (pW2 k1_lt) rfl rfl rfl s54.m rfl rfl)<|?_
  rintro e w55 (⟨Y,rfl,⟨m56,rfl⟩,st57⟩ | ⟨ch58,rfl,hp59⟩)
  rotate_left
  ·refine aP (bL (aP (aP (bL (aP (bT s54.d ?_))))))
   exact .inr ⟨_,rfl,hp59⟩
  intro a60 hd62 hF63
  have s61:=sO hF63 hd62 st57
  refine aR rfl (aD ?_)
  refine dd s61 (by kernel_rfl) fun w64 s65=>c9 (aD ?_)
  refine dU s65 [1,2,3,4,24,25] [2500] [] (qo (wr ((k1:Int)+1) ((k1+1:Nat):Int) (by omega))<|qe) fun _ w67 s68=>aD<|?_
  exact ⟨(k1+1),⟨m56,by omega,(s68.kr (by rw [vA] <;> rfl))⟩,by omega⟩
 have k1_eq:k1=l.ways.length:=by omega
 have s69:Sta 242 [] w0 [⟨1,[],Pt Bl 0⟩,⟨2,[],Pt B1 0⟩,⟨3,[],Pt B5 0⟩,⟨4,[],Pt B14 0⟩,⟨24,[],I (l.ways.length:Int)⟩,⟨25,[],I (k1:Int)⟩,⟨26,[],Bo (decide ((k1:Int)<(l.ways.length:Int)))⟩] ((cI B14 249 [.func (.func 193) #[] #[Pt B5 0,Pt B1 0]])::(cI B5 4 [Bo m_k1.1])::(cI B1 248 [yv L])::(cI Bl 197 [Pt B 0])::Hc (fW l.ways.length) m_k1) a26 w27:=s28.re rfl (by rw [k1_eq] <;> rfl)
 refine wp_exit<|aY (aY (cP (aD ?_)))
 refine wp_seq<|d5 s69 [1,2,3,4,51,52] [5103] [(52,I 0)] (qo (s69.m.ld 197 3 0 o7 rfl rfl)<|qo (fa w27 B 0 iU)<|qo ((cl.r4 s69.m).hd.ld 24 0 3 qY rfl rfl)<|qo (ln w27 3 l.depotsA l.depots.length l.depotsC qZ)<|qe) fun _ w71 s72=>wp_block<|aO (α:=Nat) (fun k2 aI wI=>∃ m_k2:Bool × G,(k2≤l.depots.length)∧(Sta 242 [] w0 [⟨1,[],Pt Bl 0⟩,⟨2,[],Pt B1 0⟩,⟨3,[],Pt B5 0⟩,⟨4,[],Pt B14 0⟩,⟨51,[],I (l.depots.length:Int)⟩,⟨52,[],I (k2:Int)⟩] ((cI B14 249 [.func (.func 193) #[] #[Pt B5 0,Pt B1 0]])::(cI B5 4 [Bo m_k2.1])::(cI B1 248 [yv L])::(cI Bl 197 [Pt B 0])::Hc ((fW l.ways.length)++fD k2) m_k2) aI wI)) (fun k2=>l.depots.length-k2) 0 ⟨m_k1,Nat.zero_le _,(s72.kr (by simp only [TQ,List.append_nil] <;> rfl))⟩<|?_
 rintro k2 a75 w74 ⟨m_k2,k2_le,s73⟩
 refine zs s73 [1,2,3,4,51,52,53] [(53,Bo (decide ((k2:Int)<(l.depots.length:Int))))] qe fun a76 w77 s78=>wp_seq<|aQ s78.f rfl (fun h79=>?_) (fun h79=>?_)
 ·have k2_lt:k2<l.depots.length:=by omega
  have hx80:l.depots[k2]?=some (l.depots.getD k2 j6):=bC (by omega)
  skip
  refine wp_skip<|aD<|wp_seq<|wp_block<|zs s78 [1,2,3,4,6,51,52] [(6,I (k2:Int))] qe fun _ w82 s83=>aL MO 8<|nD s83 [1,2,3,4,51,52,55,62] [5500,6204] [] 0 [some [],some [7,6,4,3,2],some [7,6,4,3],some [7,6,4],some [7,6],some [7,6],some [7],some []] (qo (s83.m.ld 249 0 0 iA rfl rfl)<|qo (s83.m.ld 197 3 0 o7 rfl rfl)<|qo (fa w82 B 0 iU)<|qo ((cl.r4 s83.m).hd.ld 24 0 3 qY rfl rfl)<|qo ((cl.r4 s83.m).depots.ia l.depotsC k2 qZ sT (by omega))<|qo (jZ w82 l.depotsA (k2*3) DN)<|qe) hq fun _ s86=>df s86 8 rfl rfl rfl rfl (by kernel_rfl) rfl fun w87 s88=>lc s88 0 rfl rfl rfl iD rfl (eU cl [cI B14 249 [.func (.func 193) #[] #[Pt B5 0,Pt B1 0]],cI B5 4 [Bo m_k2.1],cI B1 248 [yv L],cI Bl 197 [Pt B 0]] ((fW l.ways.length)++fD k2) (FP.depot k2) 1 2 (pD1 k2_lt) rfl rfl rfl s88.m rfl rfl)<|?_
  rintro e w89 (⟨Y,rfl,⟨m90,rfl⟩,st91⟩ | ⟨ch92,rfl,hp93⟩)
  rotate_left
  ·refine aP (bL (aP (aP (bL (aP (bT s88.d ?_))))))
   exact .inr ⟨_,rfl,hp93⟩
  intro a94 hd96 hF97
  have s95:=sO hF97 hd96 st91
  refine aR rfl (aD ?_)
  refine dd s95 (by kernel_rfl) fun w98 s99=>c9 (aD ?_)
  refine dU s99 [1,2,3,4,51,52] [5200] [] (qo (wr ((k2:Int)+1) ((k2+1:Nat):Int) (by omega))<|qe) fun _ w101 s102=>aD<|?_
  exact ⟨(k2+1),⟨m90,by omega,(s102.kr (by rw [D7,← List.append_assoc] <;> rfl))⟩,by omega⟩
 have k2_eq:k2=l.depots.length:=by omega
 have s103:Sta 242 [] w0 [⟨1,[],Pt Bl 0⟩,⟨2,[],Pt B1 0⟩,⟨3,[],Pt B5 0⟩,⟨4,[],Pt B14 0⟩,⟨51,[],I (l.depots.length:Int)⟩,⟨52,[],I (k2:Int)⟩,⟨53,[],Bo (decide ((k2:Int)<(l.depots.length:Int)))⟩] ((cI B14 249 [.func (.func 193) #[] #[Pt B5 0,Pt B1 0]])::(cI B5 4 [Bo m_k2.1])::(cI B1 248 [yv L])::(cI Bl 197 [Pt B 0])::Hc ((fW l.ways.length)++fD l.depots.length) m_k2) a76 w77:=s78.re rfl (by rw [k2_eq] <;> rfl)
 refine wp_exit<|aY (aY (cP (aD ?_)))
 refine wp_seq<|d5 s103 [1,2,3,4,69,70] [6903] [(70,I 0)] (qo (s103.m.ld 197 3 0 o7 rfl rfl)<|qo (fa w77 B 0 gG)<|qo ((cl.r4 s103.m).hd.ld 25 0 4 n3 rfl rfl)<|qo (ln w77 3 l.groundsA l.grounds.length l.groundsC nV)<|qe) fun _ w105 s106=>wp_block<|aO (α:=Nat) (fun k3 aI wI=>∃ m_k3:Bool × G,(k3≤l.grounds.length)∧(Sta 242 [] w0 [⟨1,[],Pt Bl 0⟩,⟨2,[],Pt B1 0⟩,⟨3,[],Pt B5 0⟩,⟨4,[],Pt B14 0⟩,⟨69,[],I (l.grounds.length:Int)⟩,⟨70,[],I (k3:Int)⟩] ((cI B14 249 [.func (.func 193) #[] #[Pt B5 0,Pt B1 0]])::(cI B5 4 [Bo m_k3.1])::(cI B1 248 [yv L])::(cI Bl 197 [Pt B 0])::Hc ((fW l.ways.length++fD l.depots.length)++fG k3) m_k3) aI wI)) (fun k3=>l.grounds.length-k3) 0 ⟨m_k2,Nat.zero_le _,(s106.kr (by simp only [TR,List.append_nil] <;> rfl))⟩<|?_
 rintro k3 a109 w108 ⟨m_k3,k3_le,s107⟩
 refine zs s107 [1,2,3,4,69,70,71] [(71,Bo (decide ((k3:Int)<(l.grounds.length:Int))))] qe fun a110 w111 s112=>wp_seq<|aQ s112.f rfl (fun h113=>?_) (fun h113=>?_)
 ·have k3_lt:k3<l.grounds.length:=by omega
  have hx114:l.grounds[k3]?=some (l.grounds.getD k3 iQ):=bC (by omega)
  skip
  refine wp_skip<|aD<|wp_seq<|wp_block<|zs s112 [1,2,3,4,7,69,70] [(7,I (k3:Int))] qe fun _ w116 s117=>aL MO 8<|nD s117 [1,2,3,4,69,70,73,80] [7300,8005] [] 0 [some [],some [7,6,4,3,2],some [7,6,4,3],some [7,6,4],some [7,6],some [7,6],some [7],some []] (qo (s117.m.ld 249 0 0 iA rfl rfl)<|qo (s117.m.ld 197 3 0 o7 rfl rfl)<|qo (fa w116 B 0 gG)<|qo ((cl.r4 s117.m).hd.ld 25 0 4 n3 rfl rfl)<|qo ((cl.r4 s117.m).grounds.ia l.groundsC k3 nV oB (by omega))<|qo (jZ w116 l.groundsA (k3*7) DK)<|qe) hq fun _ s120=>df s120 8 rfl rfl rfl rfl (by kernel_rfl) rfl fun w121 s122=>lc s122 0 rfl rfl rfl iD rfl (eU cl [cI B14 249 [.func (.func 193) #[] #[Pt B5 0,Pt B1 0]],cI B5 4 [Bo m_k3.1],cI B1 248 [yv L],cI Bl 197 [Pt B 0]] ((fW l.ways.length++fD l.depots.length)++fG k3) (FP.ground k3) 1 2 (pG1 k3_lt) rfl rfl rfl s122.m rfl rfl)<|?_
  rintro e w123 (⟨Y,rfl,⟨m124,rfl⟩,st125⟩ | ⟨ch126,rfl,hp127⟩)
  rotate_left
  ·refine aP (bL (aP (aP (bL (aP (bT s122.d ?_))))))
   exact .inr ⟨_,rfl,hp127⟩
  intro a128 hd130 hF131
  have s129:=sO hF131 hd130 st125
  refine aR rfl (aD ?_)
  refine dd s129 (by kernel_rfl) fun w132 s133=>c9 (aD ?_)
  refine dU s133 [1,2,3,4,69,70] [7000] [] (qo (wr ((k3:Int)+1) ((k3+1:Nat):Int) (by omega))<|qe) fun _ w135 s136=>aD<|?_
  exact ⟨(k3+1),⟨m124,by omega,(s136.kr (by rw [D8,← List.append_assoc] <;> rfl))⟩,by omega⟩
 have k3_eq:k3=l.grounds.length:=by omega
 have s137:Sta 242 [] w0 [⟨1,[],Pt Bl 0⟩,⟨2,[],Pt B1 0⟩,⟨3,[],Pt B5 0⟩,⟨4,[],Pt B14 0⟩,⟨69,[],I (l.grounds.length:Int)⟩,⟨70,[],I (k3:Int)⟩,⟨71,[],Bo (decide ((k3:Int)<(l.grounds.length:Int)))⟩] ((cI B14 249 [.func (.func 193) #[] #[Pt B5 0,Pt B1 0]])::(cI B5 4 [Bo m_k3.1])::(cI B1 248 [yv L])::(cI Bl 197 [Pt B 0])::Hc ((fW l.ways.length++fD l.depots.length)++fG l.grounds.length) m_k3) a110 w111:=s112.re rfl (by rw [k3_eq] <;> rfl)
 refine wp_exit<|aY (aY (cP (aD ?_)))
 refine wp_seq<|d5 s137 [1,2,3,4,87,88] [8703] [(88,I 0)] (qo (s137.m.ld 197 3 0 o7 rfl rfl)<|qo (fa w111 B 0 dS)<|qo ((cl.r4 s137.m).hd.ld 26 0 5 kS rfl rfl)<|qo (ln w111 3 l.teamsA l.teams.length l.teamsC lL)<|qe) fun _ w139 s140=>wp_block<|aO (α:=Nat) (fun k4 aI wI=>∃ m_k4:Bool × G,(k4≤l.teams.length)∧(Sta 242 [] w0 [⟨1,[],Pt Bl 0⟩,⟨2,[],Pt B1 0⟩,⟨3,[],Pt B5 0⟩,⟨4,[],Pt B14 0⟩,⟨87,[],I (l.teams.length:Int)⟩,⟨88,[],I (k4:Int)⟩] ((cI B14 249 [.func (.func 193) #[] #[Pt B5 0,Pt B1 0]])::(cI B5 4 [Bo m_k4.1])::(cI B1 248 [yv L])::(cI Bl 197 [Pt B 0])::Hc (((fW l.ways.length++fD l.depots.length)++fG l.grounds.length)++fT k4) m_k4) aI wI)) (fun k4=>l.teams.length-k4) 0 ⟨m_k3,Nat.zero_le _,(s140.kr (by simp only [TS,List.append_nil] <;> rfl))⟩<|?_
 rintro k4 a143 w142 ⟨m_k4,k4_le,s141⟩
 refine zs s141 [1,2,3,4,87,88,89] [(89,Bo (decide ((k4:Int)<(l.teams.length:Int))))] qe fun a144 w145 s146=>wp_seq<|aQ s146.f rfl (fun h147=>?_) (fun h147=>?_)
 ·have k4_lt:k4<l.teams.length:=by omega
  have hx148:l.teams[k4]?=some (l.teams.getD k4 l0):=bC (by omega)
  skip
  refine wp_skip<|aD<|wp_seq<|wp_block<|zs s146 [1,2,3,4,8,87,88] [(8,I (k4:Int))] qe fun _ w150 s151=>aL MO 8<|nD s151 [1,2,3,4,87,88,91,98] [9100,9805] [] 0 [some [],some [7,6,4,3,2],some [7,6,4,3],some [7,6,4],some [7,6],some [7,6],some [7],some []] (qo (s151.m.ld 249 0 0 iA rfl rfl)<|qo (s151.m.ld 197 3 0 o7 rfl rfl)<|qo (fa w150 B 0 dS)<|qo ((cl.r4 s151.m).hd.ld 26 0 5 kS rfl rfl)<|qo ((cl.r4 s151.m).teams.ia l.teamsC k4 lL o9 (by omega))<|qo (jZ w150 l.teamsA (k4*4) DM)<|qe) hq fun _ s154=>df s154 8 rfl rfl rfl rfl (by kernel_rfl) rfl fun w155 s156=>lc s156 0 rfl rfl rfl iD rfl (eU cl [cI B14 249 [.func (.func 193) #[] #[Pt B5 0,Pt B1 0]],cI B5 4 [Bo m_k4.1],cI B1 248 [yv L],cI Bl 197 [Pt B 0]] (((fW l.ways.length++fD l.depots.length)++fG l.grounds.length)++fT k4) (FP.team k4) 1 2 (pT1 k4_lt) rfl rfl rfl s156.m rfl rfl)<|?_
  rintro e w157 (⟨Y,rfl,⟨m158,rfl⟩,st159⟩ | ⟨ch160,rfl,hp161⟩)
  rotate_left
  ·refine aP (bL (aP (aP (bL (aP (bT s156.d ?_))))))
   exact .inr ⟨_,rfl,hp161⟩
  intro a162 hd164 hF165
  have s163:=sO hF165 hd164 st159
  refine aR rfl (aD ?_)
  refine dd s163 (by kernel_rfl) fun w166 s167=>c9 (aD ?_)
  refine dU s167 [1,2,3,4,87,88] [8800] [] (qo (wr ((k4:Int)+1) ((k4+1:Nat):Int) (by omega))<|qe) fun _ w169 s170=>aD<|?_
  exact ⟨(k4+1),⟨m158,by omega,(s170.kr (by rw [D9,← List.append_assoc] <;> rfl))⟩,by omega⟩
 have k4_eq:k4=l.teams.length:=by omega
 have s171:Sta 242 [] w0 [⟨1,[],Pt Bl 0⟩,⟨2,[],Pt B1 0⟩,⟨3,[],Pt B5 0⟩,⟨4,[],Pt B14 0⟩,⟨87,[],I (l.teams.length:Int)⟩,⟨88,[],I (k4:Int)⟩,⟨89,[],Bo (decide ((k4:Int)<(l.teams.length:Int)))⟩] ((cI B14 249 [.func (.func 193) #[] #[Pt B5 0,Pt B1 0]])::(cI B5 4 [Bo m_k4.1])::(cI B1 248 [yv L])::(cI Bl 197 [Pt B 0])::Hc (gT l) m_k4) a144 w145:=s146.re rfl (by rw [k4_eq]; rfl)
 refine wp_exit<|aY (aY (cP (aD ?_)))
 refine wp_seq<|d5 s171 [1,2,3,4,105,106] [10503] [(106,I 0)] (qo (s171.m.ld 197 3 0 o7 rfl rfl)<|qo (fa w145 B 0 cG)<|qo ((cl.r4 s171.m).hd.ld 31 0 13 iE rfl rfl)<|qo (ln w145 3 l.phasesA l.phases.length l.phasesC g9)<|qe) fun _ w173 s174=>wp_block<|aO (α:=Nat) (fun k5 aI wI=>∃ m_k5:Bool × G,(k5≤l.phases.length)∧(Sta 242 [] w0 [⟨1,[],Pt Bl 0⟩,⟨2,[],Pt B1 0⟩,⟨3,[],Pt B5 0⟩,⟨4,[],Pt B14 0⟩,⟨105,[],I (l.phases.length:Int)⟩,⟨106,[],I (k5:Int)⟩] ((cI B14 249 [.func (.func 193) #[] #[Pt B5 0,Pt B1 0]])::(cI B5 4 [Bo m_k5.1])::(cI B1 248 [yv L])::(cI Bl 197 [Pt B 0])::Hc ((gT l)++fP l.phases k5) m_k5) aI wI)∧(∀ iI,iI<k5→∀ xI,l.phases[iI]?=some xI→kB xI=true)) (fun k5=>l.phases.length-k5) 0 ⟨m_k4,Nat.zero_le _,(s174.kr (by simp only [TT,List.append_nil] <;> rfl)),fun i h=>(Nat.not_lt_zero i h).elim⟩<|?_
 rintro k5 a177 w176 ⟨m_k5,k5_le,s175,inv_k5⟩
 refine zs s175 [1,2,3,4,105,106,107] [(107,Bo (decide ((k5:Int)<(l.phases.length:Int))))] qe fun a178 w179 s180=>wp_seq<|aQ s180.f rfl (fun h181=>?_) (fun h181=>?_)
 ·have k5_lt:k5<l.phases.length:=by omega
  have hx182:l.phases[k5]?=some (l.phases.getD k5 aF):=bC (by omega)
  skip
  refine wp_skip<|aD<|wp_seq<|wp_block<|wp_seq<|aA<|zl s180 [1,2,3,4,105,106,108] [(108,I (k5:Int))] 0 1 qe fun _ w184 s185=>la s185 1 _ rfl WX rfl rfl fun B186 a187 w188 s189=>dD s189 2 0 _ _ rfl rfl rfl rfl hP rfl rfl rfl rfl fun w190 s191=>aR rfl<|aD<|wp_seq<|HT s191 [1,2,3,4,9,10,105,106] [1004] [(9,Pt B186 0)] MO (qo (s191.m.ld 197 4 0 o7 rfl rfl)<|qo (fa w190 B 0 cG)<|qo ((cl.reads _ _ _ (s191.m.sub (.cons _ (.cons _ (.cons _ (.cons _ (.cons _ ((List.Sublist.refl _))))))))).hd.ld 31 0 13 iE rfl rfl)<|qo (s191.m.ld 3 0 0 bM rfl rfl)<|qo ((cl.reads _ _ _ (s191.m.sub (.cons _ (.cons _ (.cons _ (.cons _ (.cons _ ((List.Sublist.refl _))))))))).phases.ia l.phasesC k5 g9 eL (by omega))<|qe) fun _ w193 s194=>?_
  refine aD<|wp_seq<|?_
  have smT:=((cl.reads _ _ _ (s194.m.sub (.cons _ (.cons _ (.cons _ (.cons _ (.cons _ ((List.Sublist.refl _))))))))).pteams _ (List.mem_of_getElem? hx182)).small
  refine aA<|zl s194 [1,2,3,4,9,10,105,106,126] [(126,Bo ((decide ((l.phases.getD k5 aF).kind≥1))&&(decide ((l.phases.getD k5 aF).kind≤6))))] 0 12 (qo (jZ w193 l.phasesA (k5*14) dM)<|qo ((cl.reads _ _ _ (s194.m.sub (.cons _ (.cons _ (.cons _ (.cons _ (.cons _ ((List.Sublist.refl _))))))))).phases.ld 3 k5 1 bM hx182 rfl)<|qo (jZ w193 l.phasesA (k5*14) dM)<|qo ((cl.reads _ _ _ (s194.m.sub (.cons _ (.cons _ (.cons _ (.cons _ (.cons _ ((List.Sublist.refl _))))))))).phases.ld 3 k5 1 bM hx182 rfl)<|qe) fun _ w196 s197=>cU s197 12 (b:=(decide ((l.phases.getD k5 aF).kind≥1))&&(decide ((l.phases.getD k5 aF).kind≤6))) (ch:=lB 170) rfl rfl rfl jJ rfl (fU _ _ _) (fun h198 w202 s203=>?_) (fun h198 a199 w200 s201=>?_)
  ·refine aP (bL (aP (aP (bL (aP (pP s203 ?_))))))
   exact .inr ⟨_,rfl,cl.pan _ _ _ (iF (bI hx182 (iF h198 rfl)) rfl) (s203.m.sub (.cons _ (.cons _ (.cons _ (.cons _ (.cons _ ((List.Sublist.refl _))))))))⟩
  refine aR rfl<|aD<|wp_seq<|zr s201 [1,2,3,4,9,10,11,12,105,106] [(11,Bo (((l.phases.getD k5 aF).kind)==4)),(12,Bo (((l.phases.getD k5 aF).kind)==6))] MO (qo (jZ w200 l.phasesA (k5*14) dM)<|qo ((cl.reads _ _ _ (s201.m.sub (.cons _ (.cons _ (.cons _ (.cons _ (.cons _ ((List.Sublist.refl _))))))))).phases.ld 3 k5 1 bM hx182 rfl)<|qo (jZ w200 l.phasesA (k5*14) dM)<|qo ((cl.reads _ _ _ (s201.m.sub (.cons _ (.cons _ (.cons _ (.cons _ (.cons _ ((List.Sublist.refl _))))))))).phases.ld 3 k5 1 bM hx182 rfl)<|qe) fun _ w205 s206=>aD<|wp_seq<|aA<|zl s206 [1,2,3,4,9,10,11,12,105,106,151] [(151,Bo ((((l.phases.getD k5 aF).teams.length:Int)==0)||((!(((l.phases.getD k5 aF).kind)==4))&&(!(((l.phases.getD k5 aF).kind)==6)))))] 0 14 (qo (jZ w205 l.phasesA (k5*14) dR)<|qo ((cl.reads _ _ _ (s206.m.sub (.cons _ (.cons _ (.cons _ (.cons _ (.cons _ ((List.Sublist.refl _))))))))).phases.ld 155 k5 4 jT hx182 rfl)<|qo (ln w205 3 ((l.phases.getD k5 aF).teamsA) ((l.phases.getD k5 aF).teams.length) ((l.phases.getD k5 aF).teamsC) jU)<|qe) fun _ w208 s209=>cU s209 14 (b:=(((l.phases.getD k5 aF).teams.length:Int)==0)||((!(((l.phases.getD k5 aF).kind)==4))&&(!(((l.phases.getD k5 aF).kind)==6)))) (ch:=lB 170) rfl rfl rfl jJ rfl (fU _ _ _) (fun h210 w214 s215=>?_) (fun h210 a211 w212 s213=>?_)
  ·refine aP (bL (aP (aP (bL (aP (pP s215 ?_))))))
   exact .inr ⟨_,rfl,cl.pan _ _ _ (iF (bI hx182 (iP h198 (iF h210 rfl))) rfl) (s215.m.sub (.cons _ (.cons _ (.cons _ (.cons _ (.cons _ ((List.Sublist.refl _))))))))⟩
  refine aR rfl<|aD<|zs s213 [1,2,3,4,10,11,12,13,105,106] [(13,.func (.func 194) #[] #[Pt B5 0,Pt B1 0,Pt B186 0,Pt B14 0])] qe fun _ w217 s218=>wp_seq<|aL MO 4<|nD s218 [1,2,3,4,10,11,12,13,105,106,154,157] [15400,15701] [] 0 [some [],some [3,2],some [3],some []] (qo (s218.m.ld 249 1 0 iA rfl rfl)<|qo (jZ w217 l.phasesA (k5*14) uU)<|qe) hq fun _ s221=>df s221 4 rfl rfl rfl rfl (by kernel_rfl) rfl fun w222 s223=>lc s223 0 rfl rfl rfl iD rfl (eU cl [cI B186 3 [I (k5:Int)],cI B14 249 [.func (.func 193) #[] #[Pt B5 0,Pt B1 0]],cI B5 4 [Bo m_k5.1],cI B1 248 [yv L],cI Bl 197 [Pt B 0]] ((gT l)++fP l.phases k5) (FP.window k5) 2 3 (afR k5_lt) rfl rfl rfl s223.m rfl rfl)<|?_
  rintro e w224 (⟨Y,rfl,⟨m225,rfl⟩,st226⟩ | ⟨ch227,rfl,hp228⟩)
  rotate_left
  ·refine aP (aP (bL (aP (aP (bL (aP (bT s223.d ?_)))))))
   exact .inr ⟨_,rfl,hp228⟩
  intro a229 hd231 hF232
  have s230:=sO hF232 hd231 st226
  refine aR rfl (aD ?_)
  refine dd s230 (by kernel_rfl) fun w233 s234=>aD<|wp_seq<|d5 s234 [1,2,3,4,10,11,12,13,105,106,163,164] [16302] [(164,I 0)] (qo (jZ w233 l.phasesA (k5*14) dR)<|qo ((cl.reads _ _ _ (s234.m.sub (.cons _ (.cons _ (.cons _ (.cons _ (.cons _ ((List.Sublist.refl _))))))))).phases.ld 155 k5 4 jT hx182 rfl)<|qo (ln w233 3 ((l.phases.getD k5 aF).teamsA) ((l.phases.getD k5 aF).teams.length) ((l.phases.getD k5 aF).teamsC) jU)<|qe) fun _ w236 s237=>wp_block<|aO (α:=Nat) (fun k6 aI wI=>∃ m_k6:Bool × G,(k6≤(l.phases.getD k5 aF).teams.length)∧(Sta 242 [] w0 [⟨1,[],Pt Bl 0⟩,⟨2,[],Pt B1 0⟩,⟨3,[],Pt B5 0⟩,⟨4,[],Pt B14 0⟩,⟨10,[],Pa (kK l.phasesA (k5*14))⟩,⟨11,[],Bo (((l.phases.getD k5 aF).kind)==4)⟩,⟨12,[],Bo (((l.phases.getD k5 aF).kind)==6)⟩,⟨13,[],.func (.func 194) #[] #[Pt B5 0,Pt B1 0,Pt B186 0,Pt B14 0]⟩,⟨105,[],I (l.phases.length:Int)⟩,⟨106,[],I (k5:Int)⟩,⟨163,[],I ((l.phases.getD k5 aF).teams.length:Int)⟩,⟨164,[],I (k6:Int)⟩] ((cI B186 3 [I (k5:Int)])::(cI B14 249 [.func (.func 193) #[] #[Pt B5 0,Pt B1 0]])::(cI B5 4 [Bo m_k6.1])::(cI B1 248 [yv L])::(cI Bl 197 [Pt B 0])::Hc ((((gT l)++fP l.phases k5)++[FP.window k5])++AB k5 k6) m_k6) aI wI)) (fun k6=>(l.phases.getD k5 aF).teams.length-k6) 0 ⟨m225,Nat.zero_le _,(s237.kr (by simp only [P5,List.append_nil] <;> rfl))⟩<|?_
  rintro k6 a240 w239 ⟨m_k6,k6_le,s238⟩
  refine zs s238 [1,2,3,4,10,11,12,13,105,106,163,164,165] [(165,Bo (decide ((k6:Int)<((l.phases.getD k5 aF).teams.length:Int))))] qe fun a241 w242 s243=>wp_seq<|aQ s243.f rfl (fun h244=>?_) (fun h244=>?_)
  ·have k6_lt:k6<(l.phases.getD k5 aF).teams.length:=by omega
   have hx245:((l.phases.getD k5 aF).teams)[k6]?=some (((l.phases.getD k5 aF).teams).getD k6 hZ):=bC (by omega)
   skip
   refine wp_skip<|aD<|wp_seq<|wp_block<|zs s243 [1,2,3,4,10,11,12,13,14,105,106,163,164] [(14,I (k6:Int))] qe fun _ w247 s248=>aL MO 7<|nD s248 [1,2,3,4,10,11,12,13,105,106,163,164,167,173] [16700,17303] [] 0 [some [],some [6,4,3,2],some [6,4,3],some [6,4],some [6],some [6],some []] (qo (s248.m.ld 249 1 0 iA rfl rfl)<|qo (jZ w247 l.phasesA (k5*14) dR)<|qo ((cl.reads _ _ _ (s248.m.sub (.cons _ (.cons _ (.cons _ (.cons _ (.cons _ ((List.Sublist.refl _))))))))).phases.ld 155 k5 4 jT hx182 rfl)<|qo (ia w247 ((l.phases.getD k5 aF).teamsA) ((l.phases.getD k5 aF).teams.length) ((l.phases.getD k5 aF).teamsC) k6 jU eD (by omega) (((cl.reads _ _ _ (s248.m.sub (.cons _ (.cons _ (.cons _ (.cons _ (.cons _ ((List.Sublist.refl _))))))))).pteams _ (List.mem_of_getElem? hx182)).at' (k:=k6) (by first | omega | (simp only [bV]; omega))))<|qe) hq fun _ s251=>df s251 7 rfl rfl rfl rfl (by kernel_rfl) rfl fun w252 s253=>lc s253 0 rfl rfl rfl iD rfl (eU cl [cI B186 3 [I (k5:Int)],cI B14 249 [.func (.func 193) #[] #[Pt B5 0,Pt B1 0]],cI B5 4 [Bo m_k6.1],cI B1 248 [yv L],cI Bl 197 [Pt B 0]] ((((gT l)++fP l.phases k5)++[FP.window k5])++AB k5 k6) (FP.pteam k5 k6) 2 3 (afS k5_lt k6_lt) rfl rfl rfl s253.m rfl rfl)<|?_
   rintro e w254 (⟨Y,rfl,⟨m255,rfl⟩,st256⟩ | ⟨ch257,rfl,hp258⟩)
   rotate_left
   ·refine aP (bL (aP (aP (bL (aP (bL (aP (aP (bL (aP (bT s253.d ?_)))))))))))
    exact .inr ⟨_,rfl,hp258⟩
   intro a259 hd261 hF262
   have s260:=sO hF262 hd261 st256
   refine aR rfl (aD ?_)
   refine dd s260 (by kernel_rfl) fun w263 s264=>c9 (aD ?_)
   refine dU s264 [1,2,3,4,10,11,12,13,105,106,163,164] [16400] [] (qo (wr ((k6:Int)+1) ((k6+1:Nat):Int) (by omega))<|qe) fun _ w266 s267=>aD<|?_
   exact ⟨(k6+1),⟨m255,by omega,(s267.kr (by rw [AC,← List.append_assoc] <;> rfl))⟩,by omega⟩
  have k6_eq:k6=(l.phases.getD k5 aF).teams.length:=by omega
  have s268:Sta 242 [] w0 [⟨1,[],Pt Bl 0⟩,⟨2,[],Pt B1 0⟩,⟨3,[],Pt B5 0⟩,⟨4,[],Pt B14 0⟩,⟨10,[],Pa (kK l.phasesA (k5*14))⟩,⟨11,[],Bo (((l.phases.getD k5 aF).kind)==4)⟩,⟨12,[],Bo (((l.phases.getD k5 aF).kind)==6)⟩,⟨13,[],.func (.func 194) #[] #[Pt B5 0,Pt B1 0,Pt B186 0,Pt B14 0]⟩,⟨105,[],I (l.phases.length:Int)⟩,⟨106,[],I (k5:Int)⟩,⟨163,[],I ((l.phases.getD k5 aF).teams.length:Int)⟩,⟨164,[],I (k6:Int)⟩,⟨165,[],Bo (decide ((k6:Int)<((l.phases.getD k5 aF).teams.length:Int)))⟩] ((cI B186 3 [I (k5:Int)])::(cI B14 249 [.func (.func 193) #[] #[Pt B5 0,Pt B1 0]])::(cI B5 4 [Bo m_k6.1])::(cI B1 248 [yv L])::(cI Bl 197 [Pt B 0])::Hc ((((gT l)++fP l.phases k5)++[FP.window k5])++AB k5 ((l.phases.getD k5 aF).teams.length)) m_k6) a241 w242:=s243.re rfl (by rw [k6_eq] <;> rfl)
  refine wp_exit<|aY (aY (cP (aD ?_)))
  refine wp_seq<|aA<|fJ s268 [1,2,3,4,10,12,13,105,106,176,177,180] [18000] [(176,.func (.func 194) #[] #[Pt B5 0,Pt B1 0,Pt B186 0,Pt B14 0]),(177,Bo (((l.phases.getD k5 aF).kind)==4))] 0 5 (qo (jZ w242 l.phasesA (k5*14) oE)<|qe) fun _ w270 s271=>lc s271 5 rfl rfl rfl ON rfl (EA cl [cI B186 3 [I (k5:Int)],cI B14 249 [.func (.func 193) #[] #[Pt B5 0,Pt B1 0]],cI B5 4 [Bo m_k6.1],cI B1 248 [yv L],cI Bl 197 [Pt B 0]] ((((gT l)++fP l.phases k5)++[FP.window k5])++AB k5 ((l.phases.getD k5 aF).teams.length)) (FP.pof k5) 2 3 0 1 (((l.phases.getD k5 aF).kind)==4) (afT k5_lt) (TV l k5) (TW l k5) rfl s271.m rfl rfl rfl rfl)<|?_
  rintro e w272 (⟨Y,rfl,⟨m273,rfl⟩,st274⟩ | ⟨ch275,rfl,hp276⟩)
  rotate_left
  ·refine aP (bL (aP (aP (bL (aP (bT s271.d ?_))))))
   exact .inr ⟨_,rfl,hp276⟩
  intro a277 hd279 hF280
  have s278:=sO hF280 hd279 st274
  refine aR rfl<|aD<|wp_seq<|aA<|fJ s278 [1,2,3,4,10,12,13,105,106,182,183,186] [18600] [(182,.func (.func 194) #[] #[Pt B5 0,Pt B1 0,Pt B186 0,Pt B14 0]),(183,Bo (((l.phases.getD k5 aF).kind)==6))] 0 5 (qo (jZ w272 l.phasesA (k5*14) lN)<|qe) fun _ w282 s283=>lc s283 5 rfl rfl rfl ON rfl (EA cl [cI B186 3 [I (k5:Int)],cI B14 249 [.func (.func 193) #[] #[Pt B5 0,Pt B1 0]],cI B5 4 [Bo m273.1],cI B1 248 [yv L],cI Bl 197 [Pt B 0]] (((((gT l)++fP l.phases k5)++[FP.window k5])++AB k5 ((l.phases.getD k5 aF).teams.length))++[FP.pof k5]) (FP.pa k5) 2 3 0 1 (((l.phases.getD k5 aF).kind)==6) (afU k5_lt) (XI l k5) (XK l k5) rfl s283.m rfl rfl rfl rfl)<|?_
  rintro e w284 (⟨Y,rfl,⟨m285,rfl⟩,st286⟩ | ⟨ch287,rfl,hp288⟩)
  rotate_left
  ·refine aP (bL (aP (aP (bL (aP (bT s283.d ?_))))))
   exact .inr ⟨_,rfl,hp288⟩
  intro a289 hd291 hF292
  have s290:=sO hF292 hd291 st286
  refine aR rfl<|aD<|aA<|fJ s290 [1,2,3,4,105,106,188,189,192] [19200] [(188,.func (.func 194) #[] #[Pt B5 0,Pt B1 0,Pt B186 0,Pt B14 0]),(189,Bo (((l.phases.getD k5 aF).kind)==6))] 0 5 (qo (jZ w284 l.phasesA (k5*14) lO)<|qe) fun _ w294 s295=>lc s295 5 rfl rfl rfl ON rfl (EA cl [cI B186 3 [I (k5:Int)],cI B14 249 [.func (.func 193) #[] #[Pt B5 0,Pt B1 0]],cI B5 4 [Bo m285.1],cI B1 248 [yv L],cI Bl 197 [Pt B 0]] ((((((gT l)++fP l.phases k5)++[FP.window k5])++AB k5 ((l.phases.getD k5 aF).teams.length))++[FP.pof k5])++[FP.pa k5]) (FP.pb k5) 2 3 0 1 (((l.phases.getD k5 aF).kind)==6) (afV k5_lt) (XJ l k5) (XL l k5) rfl s295.m rfl rfl rfl rfl)<|?_
  rintro e w296 (⟨Y,rfl,⟨m297,rfl⟩,st298⟩ | ⟨ch299,rfl,hp300⟩)
  rotate_left
  ·refine bL (aP (aP (bL (aP (bT s295.d ?_)))))
   exact .inr ⟨_,rfl,hp300⟩
  intro a301 hd303 hF304
  have s302:=sO hF304 hd303 st298
  refine aR rfl<|c9 (aD ?_)
  refine dU s302 [1,2,3,4,105,106] [10600] [] (qo (wr ((k5:Int)+1) ((k5+1:Nat):Int) (by omega))<|qe) fun _ w306 s307=>aD<|?_
  exact ⟨(k5+1),⟨m297,by omega,((s307.keep (E':=[⟨1,[],Pt Bl 0⟩,⟨2,[],Pt B1 0⟩,⟨3,[],Pt B5 0⟩,⟨4,[],Pt B14 0⟩,⟨105,[],I (l.phases.length:Int)⟩,⟨106,[],I ((k5+1:Nat):Int)⟩]) [1,2,3,4,105,106] (by kernel_rfl)).sub (.cons _ (.refl _))).re rfl (by rw [← XH] <;> rfl),aM inv_k5 (fun y hy=>by rw [hx182] at hy; cases hy; exact (iP h198 (iP h210 rfl)))⟩,by omega⟩
 have k5_eq:k5=l.phases.length:=by omega
 have A308:l.phases.all kB=true:=cR (by rw [k5_eq] at inv_k5; exact inv_k5)
 have s309:Sta 242 [] w0 [⟨1,[],Pt Bl 0⟩,⟨2,[],Pt B1 0⟩,⟨3,[],Pt B5 0⟩,⟨4,[],Pt B14 0⟩,⟨105,[],I (l.phases.length:Int)⟩,⟨106,[],I (k5:Int)⟩,⟨107,[],Bo (decide ((k5:Int)<(l.phases.length:Int)))⟩] ((cI B14 249 [.func (.func 193) #[] #[Pt B5 0,Pt B1 0]])::(cI B5 4 [Bo m_k5.1])::(cI B1 248 [yv L])::(cI Bl 197 [Pt B 0])::Hc ((gT l)++fP l.phases l.phases.length) m_k5) a178 w179:=s180.re rfl (by rw [k5_eq] <;> rfl)
 refine wp_exit<|aY (aY (cP (aD ?_)))
 refine d5 s309 [1,4,199,200] [19903] [(200,I 0)] (qo (s309.m.ld 197 3 0 o7 rfl rfl)<|qo (fa w179 B 0 eV)<|qo ((cl.r4 s309.m).hd.ld 32 0 14 o6 rfl rfl)<|qo (ln w179 3 l.condsA l.conds.length l.condsC oQ)<|qe) fun _ w311 s312=>wp_block<|aO (α:=Nat) (fun k7 aI wI=>∃ m_k7:Bool × G,(k7≤l.conds.length)∧(Sta 242 [] w0 [⟨1,[],Pt Bl 0⟩,⟨4,[],Pt B14 0⟩,⟨199,[],I (l.conds.length:Int)⟩,⟨200,[],I (k7:Int)⟩] ((cI B14 249 [.func (.func 193) #[] #[Pt B5 0,Pt B1 0]])::(cI B5 4 [Bo m_k7.1])::(cI B1 248 [yv L])::(cI Bl 197 [Pt B 0])::Hc ((gT l++fP l.phases l.phases.length)++fC k7) m_k7) aI wI)∧(∀ iI,iI<k7→∀ xI,l.conds[iI]?=some xI→pK xI=true)) (fun k7=>l.conds.length-k7) 0 ⟨m_k5,Nat.zero_le _,(s312.kr (by simp only [TU,List.append_nil] <;> rfl)),fun i h=>(Nat.not_lt_zero i h).elim⟩<|?_
 rintro k7 a315 w314 ⟨m_k7,k7_le,s313,inv_k7⟩
 refine zs s313 [1,4,199,200,201] [(201,Bo (decide ((k7:Int)<(l.conds.length:Int))))] qe fun a316 w317 s318=>wp_seq<|aQ s318.f rfl (fun h319=>?_) (fun h319=>?_)
 ·have k7_lt:k7<l.conds.length:=by omega
  have hx320:l.conds[k7]?=some (l.conds.getD k7 dZ):=bC (by omega)
  skip
  refine wp_skip<|aD<|wp_seq<|wp_block<|zs s318 [1,4,15,199,200] [(15,I (k7:Int))] qe fun _ w322 s323=>d5 s323 [1,4,16,199,200] [1603] [] (qo (s323.m.ld 197 3 0 o7 rfl rfl)<|qo (fa w322 B 0 eV)<|qo ((cl.r4 s323.m).hd.ld 32 0 14 o6 rfl rfl)<|qo ((cl.r4 s323.m).conds.ia l.condsC k7 oQ iC (by omega))<|qe) fun _ w325 s326=>zs s326 [1,4,16,17,18,199,200] [(17,I 7),(18,I 7)] qe fun _ w328 s329=>wp_seq<|d5 s329 [1,4,16,17,18,199,200,212] [21201] [] (qo (jZ w328 l.condsA (k7*21) iH)<|qo ((cl.r4 s329.m).conds.ld 3 k7 1 bM hx320 rfl)<|qe) fun _ w331 s332=>wp_block<|wp_seq<|zs s332 [1,4,16,17,18,199,200,212,214] [(214,Bo (((l.conds.getD k7 dZ).kind)==1))] qe fun _ w334 s335=>bA s335.f rfl (fun h336=>?_) (fun h336=>?_)
  ·refine wp_skip<|aD<|bA s335.f rfl (fun _=>?_) (fun hX=>by first | exact absurd h336 hX | exact absurd hX h336 | (rw [h336] at hX; cases hX))
   refine wp_skip<|c9 (aD ?_)
   refine wp_seq<|aL MO 5<|nD s335 [1,4,16,18,199,200,229,230,233] [22900,23301] [(230,I 7)] 0 [some [],some [],some [4,3],some [4],some []] (qo (s335.m.ld 249 0 0 iA rfl rfl)<|qo (jZ w334 l.condsA (k7*21) dN)<|qe) hq fun _ s340=>df s340 5 rfl rfl rfl rfl (by kernel_rfl) rfl fun w341 s342=>lc s342 0 rfl rfl rfl iD rfl (eU cl [cI B14 249 [.func (.func 193) #[] #[Pt B5 0,Pt B1 0]],cI B5 4 [Bo m_k7.1],cI B1 248 [yv L],cI Bl 197 [Pt B 0]] ((gT l++fP l.phases l.phases.length)++fC k7) (FP.ca k7) 1 2 (RJ k7_lt) (mJ h336) rfl rfl s342.m rfl rfl)<|?_
   rintro e w343 (⟨Y,rfl,⟨m344,rfl⟩,st345⟩ | ⟨ch346,rfl,hp347⟩)
   rotate_left
   ·refine aP (aP (bL (aP (aP (bL (bT s342.d ?_))))))
    exact .inr ⟨_,rfl,hp347⟩
   intro a348 hd350 hF351
   have s349:=sO hF351 hd350 st345
   refine aR rfl (aD ?_)
   refine dd s349 (by kernel_rfl) fun w352 s353=>aD<|aL MO 5<|nD s353 [1,4,199,200,235,236,239] [23500,23901] [(236,I 7)] 0 [some [],some [],some [4,3],some [4],some []] (qo (s353.m.ld 249 0 0 iA rfl rfl)<|qo (jZ w352 l.condsA (k7*21) dW)<|qe) hq fun _ s356=>df s356 5 rfl rfl rfl rfl (by kernel_rfl) rfl fun w357 s358=>lc s358 0 rfl rfl rfl iD rfl (eU cl [cI B14 249 [.func (.func 193) #[] #[Pt B5 0,Pt B1 0]],cI B5 4 [Bo m344.1],cI B1 248 [yv L],cI Bl 197 [Pt B 0]] (((gT l++fP l.phases l.phases.length)++fC k7)++[FP.ca k7]) (FP.cb k7) 1 2 (RK k7_lt) (mL h336) rfl rfl s358.m rfl rfl)<|?_
   rintro e w359 (⟨Y,rfl,⟨m360,rfl⟩,st361⟩ | ⟨ch362,rfl,hp363⟩)
   rotate_left
   ·refine aP (bL (aP (aP (bL (bT s358.d ?_)))))
    exact .inr ⟨_,rfl,hp363⟩
   intro a364 hd366 hF367
   have s365:=sO hF367 hd366 st361
   refine aR rfl (aD ?_)
   refine dd s365 (by kernel_rfl) fun w368 s369=>c9 (aD ?_)
   refine dU s369 [1,4,199,200] [20000] [] (qo (wr ((k7:Int)+1) ((k7+1:Nat):Int) (by omega))<|qe) fun _ w371 s372=>aD<|?_
   exact ⟨(k7+1),⟨m360,by omega,(s372.kr (by rw [jW,← List.append_assoc,← List.append_assoc] <;> rfl)),aM inv_k7 (fun y hy=>by rw [hx320] at hy; cases hy; exact (iP h336 rfl))⟩,by omega⟩
  refine zs s335 [1,4,16,17,18,199,200,212,214] [(214,Bo (((l.conds.getD k7 dZ).kind)==2))] qe fun _ w374 s375=>bA s375.f rfl (fun h376=>?_) (fun h376=>?_)
  ·refine wp_skip<|aD<|bA s375.f rfl (fun _=>?_) (fun hX=>by first | exact absurd h376 hX | exact absurd hX h376 | (rw [h376] at hX; cases hX))
   refine wp_skip<|c9 (aD ?_)
   refine wp_seq<|aL MO 5<|nD s375 [1,4,16,18,199,200,229,230,233] [22900,23301] [(230,I 7)] 0 [some [],some [],some [4,3],some [4],some []] (qo (s375.m.ld 249 0 0 iA rfl rfl)<|qo (jZ w374 l.condsA (k7*21) dN)<|qe) hq fun _ s380=>df s380 5 rfl rfl rfl rfl (by kernel_rfl) rfl fun w381 s382=>lc s382 0 rfl rfl rfl iD rfl (eU cl [cI B14 249 [.func (.func 193) #[] #[Pt B5 0,Pt B1 0]],cI B5 4 [Bo m_k7.1],cI B1 248 [yv L],cI Bl 197 [Pt B 0]] ((gT l++fP l.phases l.phases.length)++fC k7) (FP.ca k7) 1 2 (RJ k7_lt) (mJ h376) rfl rfl s382.m rfl rfl)<|?_
   rintro e w383 (⟨Y,rfl,⟨m384,rfl⟩,st385⟩ | ⟨ch386,rfl,hp387⟩)
   rotate_left
   ·refine aP (aP (bL (aP (aP (bL (bT s382.d ?_))))))
    exact .inr ⟨_,rfl,hp387⟩
   intro a388 hd390 hF391
   have s389:=sO hF391 hd390 st385
   refine aR rfl (aD ?_)
   refine dd s389 (by kernel_rfl) fun w392 s393=>aD<|aL MO 5<|nD s393 [1,4,199,200,235,236,239] [23500,23901] [(236,I 7)] 0 [some [],some [],some [4,3],some [4],some []] (qo (s393.m.ld 249 0 0 iA rfl rfl)<|qo (jZ w392 l.condsA (k7*21) dW)<|qe) hq fun _ s396=>df s396 5 rfl rfl rfl rfl (by kernel_rfl) rfl fun w397 s398=>lc s398 0 rfl rfl rfl iD rfl (eU cl [cI B14 249 [.func (.func 193) #[] #[Pt B5 0,Pt B1 0]],cI B5 4 [Bo m384.1],cI B1 248 [yv L],cI Bl 197 [Pt B 0]] (((gT l++fP l.phases l.phases.length)++fC k7)++[FP.ca k7]) (FP.cb k7) 1 2 (RK k7_lt) (mL h376) rfl rfl s398.m rfl rfl)<|?_
   rintro e w399 (⟨Y,rfl,⟨m400,rfl⟩,st401⟩ | ⟨ch402,rfl,hp403⟩)
   rotate_left
   ·refine aP (bL (aP (aP (bL (bT s398.d ?_)))))
    exact .inr ⟨_,rfl,hp403⟩
   intro a404 hd406 hF407
   have s405:=sO hF407 hd406 st401
   refine aR rfl (aD ?_)
   refine dd s405 (by kernel_rfl) fun w408 s409=>c9 (aD ?_)
   refine dU s409 [1,4,199,200] [20000] [] (qo (wr ((k7:Int)+1) ((k7+1:Nat):Int) (by omega))<|qe) fun _ w411 s412=>aD<|?_
   exact ⟨(k7+1),⟨m400,by omega,(s412.kr (by rw [jW,← List.append_assoc,← List.append_assoc] <;> rfl)),aM inv_k7 (fun y hy=>by rw [hx320] at hy; cases hy; exact (iM h336 (iP h376 rfl)))⟩,by omega⟩
  refine zs s375 [1,4,16,17,18,199,200,212,214] [(214,Bo (((l.conds.getD k7 dZ).kind)==3))] qe fun _ w414 s415=>bA s415.f rfl (fun h416=>?_) (fun h416=>?_)
  ·refine wp_skip<|aD<|bA s415.f rfl (fun _=>?_) (fun hX=>by first | exact absurd h416 hX | exact absurd hX h416 | (rw [h416] at hX; cases hX))
   refine wp_skip<|c9 (aD ?_)
   refine wp_seq<|aL MO 5<|nD s415 [1,4,16,18,199,200,229,230,233] [22900,23301] [(230,I 7)] 0 [some [],some [],some [4,3],some [4],some []] (qo (s415.m.ld 249 0 0 iA rfl rfl)<|qo (jZ w414 l.condsA (k7*21) dN)<|qe) hq fun _ s420=>df s420 5 rfl rfl rfl rfl (by kernel_rfl) rfl fun w421 s422=>lc s422 0 rfl rfl rfl iD rfl (eU cl [cI B14 249 [.func (.func 193) #[] #[Pt B5 0,Pt B1 0]],cI B5 4 [Bo m_k7.1],cI B1 248 [yv L],cI Bl 197 [Pt B 0]] ((gT l++fP l.phases l.phases.length)++fC k7) (FP.ca k7) 1 2 (RJ k7_lt) (mJ h416) rfl rfl s422.m rfl rfl)<|?_
   rintro e w423 (⟨Y,rfl,⟨m424,rfl⟩,st425⟩ | ⟨ch426,rfl,hp427⟩)
   rotate_left
   ·refine aP (aP (bL (aP (aP (bL (bT s422.d ?_))))))
    exact .inr ⟨_,rfl,hp427⟩
   intro a428 hd430 hF431
   have s429:=sO hF431 hd430 st425
   refine aR rfl (aD ?_)
   refine dd s429 (by kernel_rfl) fun w432 s433=>aD<|aL MO 5<|nD s433 [1,4,199,200,235,236,239] [23500,23901] [(236,I 7)] 0 [some [],some [],some [4,3],some [4],some []] (qo (s433.m.ld 249 0 0 iA rfl rfl)<|qo (jZ w432 l.condsA (k7*21) dW)<|qe) hq fun _ s436=>df s436 5 rfl rfl rfl rfl (by kernel_rfl) rfl fun w437 s438=>lc s438 0 rfl rfl rfl iD rfl (eU cl [cI B14 249 [.func (.func 193) #[] #[Pt B5 0,Pt B1 0]],cI B5 4 [Bo m424.1],cI B1 248 [yv L],cI Bl 197 [Pt B 0]] (((gT l++fP l.phases l.phases.length)++fC k7)++[FP.ca k7]) (FP.cb k7) 1 2 (RK k7_lt) (mL h416) rfl rfl s438.m rfl rfl)<|?_
   rintro e w439 (⟨Y,rfl,⟨m440,rfl⟩,st441⟩ | ⟨ch442,rfl,hp443⟩)
   rotate_left
   ·refine aP (bL (aP (aP (bL (bT s438.d ?_)))))
    exact .inr ⟨_,rfl,hp443⟩
   intro a444 hd446 hF447
   have s445:=sO hF447 hd446 st441
   refine aR rfl (aD ?_)
   refine dd s445 (by kernel_rfl) fun w448 s449=>c9 (aD ?_)
   refine dU s449 [1,4,199,200] [20000] [] (qo (wr ((k7:Int)+1) ((k7+1:Nat):Int) (by omega))<|qe) fun _ w451 s452=>aD<|?_
   exact ⟨(k7+1),⟨m440,by omega,(s452.kr (by rw [jW,← List.append_assoc,← List.append_assoc] <;> rfl)),aM inv_k7 (fun y hy=>by rw [hx320] at hy; cases hy; exact (iM h336 (iM h376 (iP h416 rfl))))⟩,by omega⟩
  refine zq s415 [1,4,16,17,18,199,200,212,214] [(214,Bo (((l.conds.getD k7 dZ).kind)==10))] qe fun _ w454 s455=>aD<|bA s455.f rfl (fun h456=>?_) (fun h456=>?_)
  ·refine wp_skip<|c9 (aD ?_)
   refine wp_seq<|aL MO 5<|nD s455 [1,4,16,18,199,200,229,230,233] [22900,23301] [(230,I 7)] 0 [some [],some [],some [4,3],some [4],some []] (qo (s455.m.ld 249 0 0 iA rfl rfl)<|qo (jZ w454 l.condsA (k7*21) dN)<|qe) hq fun _ s459=>df s459 5 rfl rfl rfl rfl (by kernel_rfl) rfl fun w460 s461=>lc s461 0 rfl rfl rfl iD rfl (eU cl [cI B14 249 [.func (.func 193) #[] #[Pt B5 0,Pt B1 0]],cI B5 4 [Bo m_k7.1],cI B1 248 [yv L],cI Bl 197 [Pt B 0]] ((gT l++fP l.phases l.phases.length)++fC k7) (FP.ca k7) 1 2 (RJ k7_lt) (mJ h456) rfl rfl s461.m rfl rfl)<|?_
   rintro e w462 (⟨Y,rfl,⟨m463,rfl⟩,st464⟩ | ⟨ch465,rfl,hp466⟩)
   rotate_left
   ·refine aP (aP (bL (aP (aP (bL (bT s461.d ?_))))))
    exact .inr ⟨_,rfl,hp466⟩
   intro a467 hd469 hF470
   have s468:=sO hF470 hd469 st464
   refine aR rfl (aD ?_)
   refine dd s468 (by kernel_rfl) fun w471 s472=>aD<|aL MO 5<|nD s472 [1,4,199,200,235,236,239] [23500,23901] [(236,I 7)] 0 [some [],some [],some [4,3],some [4],some []] (qo (s472.m.ld 249 0 0 iA rfl rfl)<|qo (jZ w471 l.condsA (k7*21) dW)<|qe) hq fun _ s475=>df s475 5 rfl rfl rfl rfl (by kernel_rfl) rfl fun w476 s477=>lc s477 0 rfl rfl rfl iD rfl (eU cl [cI B14 249 [.func (.func 193) #[] #[Pt B5 0,Pt B1 0]],cI B5 4 [Bo m463.1],cI B1 248 [yv L],cI Bl 197 [Pt B 0]] (((gT l++fP l.phases l.phases.length)++fC k7)++[FP.ca k7]) (FP.cb k7) 1 2 (RK k7_lt) (mL h456) rfl rfl s477.m rfl rfl)<|?_
   rintro e w478 (⟨Y,rfl,⟨m479,rfl⟩,st480⟩ | ⟨ch481,rfl,hp482⟩)
   rotate_left
   ·refine aP (bL (aP (aP (bL (bT s477.d ?_)))))
    exact .inr ⟨_,rfl,hp482⟩
   intro a483 hd485 hF486
   have s484:=sO hF486 hd485 st480
   refine aR rfl (aD ?_)
   refine dd s484 (by kernel_rfl) fun w487 s488=>c9 (aD ?_)
   refine dU s488 [1,4,199,200] [20000] [] (qo (wr ((k7:Int)+1) ((k7+1:Nat):Int) (by omega))<|qe) fun _ w490 s491=>aD<|?_
   exact ⟨(k7+1),⟨m479,by omega,(s491.kr (by rw [jW,← List.append_assoc,← List.append_assoc] <;> rfl)),aM inv_k7 (fun y hy=>by rw [hx320] at hy; cases hy; exact (iM h336 (iM h376 (iM h416 (iP h456 rfl)))))⟩,by omega⟩
  refine zs s455 [1,4,16,17,18,199,200,212,219] [(219,Bo (((l.conds.getD k7 dZ).kind)==4))] qe fun _ w493 s494=>bA s494.f rfl (fun h495=>?_) (fun h495=>?_)
  ·refine zq s494 [1,4,16,17,18,199,200] [(17,I 1)] qe fun _ w497 s498=>c9 (aD ?_)
   refine wp_seq<|aL MO 5<|nD s498 [1,4,16,18,199,200,229,230,233] [22900,23301] [(230,I 1)] 0 [some [],some [],some [4,3],some [4],some []] (qo (s498.m.ld 249 0 0 iA rfl rfl)<|qo (jZ w497 l.condsA (k7*21) dN)<|qe) hq fun _ s501=>df s501 5 rfl rfl rfl rfl (by kernel_rfl) rfl fun w502 s503=>lc s503 0 rfl rfl rfl iD rfl (eU cl [cI B14 249 [.func (.func 193) #[] #[Pt B5 0,Pt B1 0]],cI B5 4 [Bo m_k7.1],cI B1 248 [yv L],cI Bl 197 [Pt B 0]] ((gT l++fP l.phases l.phases.length)++fC k7) (FP.ca k7) 1 2 (RJ k7_lt) (mJ h495) rfl rfl s503.m rfl rfl)<|?_
   rintro e w504 (⟨Y,rfl,⟨m505,rfl⟩,st506⟩ | ⟨ch507,rfl,hp508⟩)
   rotate_left
   ·refine aP (aP (bL (aP (aP (bL (bT s503.d ?_))))))
    exact .inr ⟨_,rfl,hp508⟩
   intro a509 hd511 hF512
   have s510:=sO hF512 hd511 st506
   refine aR rfl (aD ?_)
   refine dd s510 (by kernel_rfl) fun w513 s514=>aD<|aL MO 5<|nD s514 [1,4,199,200,235,236,239] [23500,23901] [(236,I 7)] 0 [some [],some [],some [4,3],some [4],some []] (qo (s514.m.ld 249 0 0 iA rfl rfl)<|qo (jZ w513 l.condsA (k7*21) dW)<|qe) hq fun _ s517=>df s517 5 rfl rfl rfl rfl (by kernel_rfl) rfl fun w518 s519=>lc s519 0 rfl rfl rfl iD rfl (eU cl [cI B14 249 [.func (.func 193) #[] #[Pt B5 0,Pt B1 0]],cI B5 4 [Bo m505.1],cI B1 248 [yv L],cI Bl 197 [Pt B 0]] (((gT l++fP l.phases l.phases.length)++fC k7)++[FP.ca k7]) (FP.cb k7) 1 2 (RK k7_lt) (mL h495) rfl rfl s519.m rfl rfl)<|?_
   rintro e w520 (⟨Y,rfl,⟨m521,rfl⟩,st522⟩ | ⟨ch523,rfl,hp524⟩)
   rotate_left
   ·refine aP (bL (aP (aP (bL (bT s519.d ?_)))))
    exact .inr ⟨_,rfl,hp524⟩
   intro a525 hd527 hF528
   have s526:=sO hF528 hd527 st522
   refine aR rfl (aD ?_)
   refine dd s526 (by kernel_rfl) fun w529 s530=>c9 (aD ?_)
   refine dU s530 [1,4,199,200] [20000] [] (qo (wr ((k7:Int)+1) ((k7+1:Nat):Int) (by omega))<|qe) fun _ w532 s533=>aD<|?_
   exact ⟨(k7+1),⟨m521,by omega,(s533.kr (by rw [jW,← List.append_assoc,← List.append_assoc] <;> rfl)),aM inv_k7 (fun y hy=>by rw [hx320] at hy; cases hy; exact (iM h336 (iM h376 (iM h416 (iM h456 (iP h495 rfl))))))⟩,by omega⟩
  refine zs s494 [1,4,16,17,18,199,200,212,221] [(221,Bo (((l.conds.getD k7 dZ).kind)==5))] qe fun _ w535 s536=>bA s536.f rfl (fun h537=>?_) (fun h537=>?_)
  ·refine zq s536 [1,4,16,17,18,199,200] [(17,I 2)] qe fun _ w539 s540=>c9 (aD ?_)
   refine wp_seq<|aL MO 5<|nD s540 [1,4,16,18,199,200,229,230,233] [22900,23301] [(230,I 2)] 0 [some [],some [],some [4,3],some [4],some []] (qo (s540.m.ld 249 0 0 iA rfl rfl)<|qo (jZ w539 l.condsA (k7*21) dN)<|qe) hq fun _ s543=>df s543 5 rfl rfl rfl rfl (by kernel_rfl) rfl fun w544 s545=>lc s545 0 rfl rfl rfl iD rfl (eU cl [cI B14 249 [.func (.func 193) #[] #[Pt B5 0,Pt B1 0]],cI B5 4 [Bo m_k7.1],cI B1 248 [yv L],cI Bl 197 [Pt B 0]] ((gT l++fP l.phases l.phases.length)++fC k7) (FP.ca k7) 1 2 (RJ k7_lt) (mJ h537) rfl rfl s545.m rfl rfl)<|?_
   rintro e w546 (⟨Y,rfl,⟨m547,rfl⟩,st548⟩ | ⟨ch549,rfl,hp550⟩)
   rotate_left
   ·refine aP (aP (bL (aP (aP (bL (bT s545.d ?_))))))
    exact .inr ⟨_,rfl,hp550⟩
   intro a551 hd553 hF554
   have s552:=sO hF554 hd553 st548
   refine aR rfl (aD ?_)
   refine dd s552 (by kernel_rfl) fun w555 s556=>aD<|aL MO 5<|nD s556 [1,4,199,200,235,236,239] [23500,23901] [(236,I 7)] 0 [some [],some [],some [4,3],some [4],some []] (qo (s556.m.ld 249 0 0 iA rfl rfl)<|qo (jZ w555 l.condsA (k7*21) dW)<|qe) hq fun _ s559=>df s559 5 rfl rfl rfl rfl (by kernel_rfl) rfl fun w560 s561=>lc s561 0 rfl rfl rfl iD rfl (eU cl [cI B14 249 [.func (.func 193) #[] #[Pt B5 0,Pt B1 0]],cI B5 4 [Bo m547.1],cI B1 248 [yv L],cI Bl 197 [Pt B 0]] (((gT l++fP l.phases l.phases.length)++fC k7)++[FP.ca k7]) (FP.cb k7) 1 2 (RK k7_lt) (mL h537) rfl rfl s561.m rfl rfl)<|?_
   rintro e w562 (⟨Y,rfl,⟨m563,rfl⟩,st564⟩ | ⟨ch565,rfl,hp566⟩)
   rotate_left
   ·refine aP (bL (aP (aP (bL (bT s561.d ?_)))))
    exact .inr ⟨_,rfl,hp566⟩
   intro a567 hd569 hF570
   have s568:=sO hF570 hd569 st564
   refine aR rfl (aD ?_)
   refine dd s568 (by kernel_rfl) fun w571 s572=>c9 (aD ?_)
   refine dU s572 [1,4,199,200] [20000] [] (qo (wr ((k7:Int)+1) ((k7+1:Nat):Int) (by omega))<|qe) fun _ w574 s575=>aD<|?_
   exact ⟨(k7+1),⟨m563,by omega,(s575.kr (by rw [jW,← List.append_assoc,← List.append_assoc] <;> rfl)),aM inv_k7 (fun y hy=>by rw [hx320] at hy; cases hy; exact (iM h336 (iM h376 (iM h416 (iM h456 (iM h495 (iP h537 rfl)))))))⟩,by omega⟩
  refine zs s536 [1,4,16,17,18,199,200,212,223] [(223,Bo (((l.conds.getD k7 dZ).kind)==7))] qe fun _ w577 s578=>bA s578.f rfl (fun h579=>?_) (fun h579=>?_)
  ·refine zq s578 [1,4,16,17,18,199,200] [(17,I 0)] qe fun _ w581 s582=>c9 (aD ?_)
   refine wp_seq<|aL MO 5<|nD s582 [1,4,16,18,199,200,229,230,233] [22900,23301] [(230,I 0)] 0 [some [],some [],some [4,3],some [4],some []] (qo (s582.m.ld 249 0 0 iA rfl rfl)<|qo (jZ w581 l.condsA (k7*21) dN)<|qe) hq fun _ s585=>df s585 5 rfl rfl rfl rfl (by kernel_rfl) rfl fun w586 s587=>lc s587 0 rfl rfl rfl iD rfl (eU cl [cI B14 249 [.func (.func 193) #[] #[Pt B5 0,Pt B1 0]],cI B5 4 [Bo m_k7.1],cI B1 248 [yv L],cI Bl 197 [Pt B 0]] ((gT l++fP l.phases l.phases.length)++fC k7) (FP.ca k7) 1 2 (RJ k7_lt) (mJ h579) rfl rfl s587.m rfl rfl)<|?_
   rintro e w588 (⟨Y,rfl,⟨m589,rfl⟩,st590⟩ | ⟨ch591,rfl,hp592⟩)
   rotate_left
   ·refine aP (aP (bL (aP (aP (bL (bT s587.d ?_))))))
    exact .inr ⟨_,rfl,hp592⟩
   intro a593 hd595 hF596
   have s594:=sO hF596 hd595 st590
   refine aR rfl (aD ?_)
   refine dd s594 (by kernel_rfl) fun w597 s598=>aD<|aL MO 5<|nD s598 [1,4,199,200,235,236,239] [23500,23901] [(236,I 7)] 0 [some [],some [],some [4,3],some [4],some []] (qo (s598.m.ld 249 0 0 iA rfl rfl)<|qo (jZ w597 l.condsA (k7*21) dW)<|qe) hq fun _ s601=>df s601 5 rfl rfl rfl rfl (by kernel_rfl) rfl fun w602 s603=>lc s603 0 rfl rfl rfl iD rfl (eU cl [cI B14 249 [.func (.func 193) #[] #[Pt B5 0,Pt B1 0]],cI B5 4 [Bo m589.1],cI B1 248 [yv L],cI Bl 197 [Pt B 0]] (((gT l++fP l.phases l.phases.length)++fC k7)++[FP.ca k7]) (FP.cb k7) 1 2 (RK k7_lt) (mL h579) rfl rfl s603.m rfl rfl)<|?_
   rintro e w604 (⟨Y,rfl,⟨m605,rfl⟩,st606⟩ | ⟨ch607,rfl,hp608⟩)
   rotate_left
   ·refine aP (bL (aP (aP (bL (bT s603.d ?_)))))
    exact .inr ⟨_,rfl,hp608⟩
   intro a609 hd611 hF612
   have s610:=sO hF612 hd611 st606
   refine aR rfl (aD ?_)
   refine dd s610 (by kernel_rfl) fun w613 s614=>c9 (aD ?_)
   refine dU s614 [1,4,199,200] [20000] [] (qo (wr ((k7:Int)+1) ((k7+1:Nat):Int) (by omega))<|qe) fun _ w616 s617=>aD<|?_
   exact ⟨(k7+1),⟨m605,by omega,(s617.kr (by rw [jW,← List.append_assoc,← List.append_assoc] <;> rfl)),aM inv_k7 (fun y hy=>by rw [hx320] at hy; cases hy; exact (iM h336 (iM h376 (iM h416 (iM h456 (iM h495 (iM h537 (iP h579 rfl))))))))⟩,by omega⟩
  refine wp_seq<|zs s578 [1,4,16,17,18,199,200,212,225] [(225,Bo (((l.conds.getD k7 dZ).kind)==6))] qe fun _ w619 s620=>bA s620.f rfl (fun h621=>?_) (fun h621=>?_)
  ·refine wp_skip<|aD<|bA s620.f rfl (fun _=>?_) (fun hX=>by first | exact absurd h621 hX | exact absurd hX h621 | (rw [h621] at hX; cases hX))
   refine zq s620 [1,4,16,17,18,199,200] [(17,I 2),(18,I 2)] qe fun _ w624 s625=>c9 (aD ?_)
   refine wp_seq<|aL MO 5<|nD s625 [1,4,16,18,199,200,229,230,233] [22900,23301] [(230,I 2)] 0 [some [],some [],some [4,3],some [4],some []] (qo (s625.m.ld 249 0 0 iA rfl rfl)<|qo (jZ w624 l.condsA (k7*21) dN)<|qe) hq fun _ s628=>df s628 5 rfl rfl rfl rfl (by kernel_rfl) rfl fun w629 s630=>lc s630 0 rfl rfl rfl iD rfl (eU cl [cI B14 249 [.func (.func 193) #[] #[Pt B5 0,Pt B1 0]],cI B5 4 [Bo m_k7.1],cI B1 248 [yv L],cI Bl 197 [Pt B 0]] ((gT l++fP l.phases l.phases.length)++fC k7) (FP.ca k7) 1 2 (RJ k7_lt) (mJ h621) rfl rfl s630.m rfl rfl)<|?_
   rintro e w631 (⟨Y,rfl,⟨m632,rfl⟩,st633⟩ | ⟨ch634,rfl,hp635⟩)
   rotate_left
   ·refine aP (aP (bL (aP (aP (bL (bT s630.d ?_))))))
    exact .inr ⟨_,rfl,hp635⟩
   intro a636 hd638 hF639
   have s637:=sO hF639 hd638 st633
   refine aR rfl (aD ?_)
   refine dd s637 (by kernel_rfl) fun w640 s641=>aD<|aL MO 5<|nD s641 [1,4,199,200,235,236,239] [23500,23901] [(236,I 2)] 0 [some [],some [],some [4,3],some [4],some []] (qo (s641.m.ld 249 0 0 iA rfl rfl)<|qo (jZ w640 l.condsA (k7*21) dW)<|qe) hq fun _ s644=>df s644 5 rfl rfl rfl rfl (by kernel_rfl) rfl fun w645 s646=>lc s646 0 rfl rfl rfl iD rfl (eU cl [cI B14 249 [.func (.func 193) #[] #[Pt B5 0,Pt B1 0]],cI B5 4 [Bo m632.1],cI B1 248 [yv L],cI Bl 197 [Pt B 0]] (((gT l++fP l.phases l.phases.length)++fC k7)++[FP.ca k7]) (FP.cb k7) 1 2 (RK k7_lt) (mL h621) rfl rfl s646.m rfl rfl)<|?_
   rintro e w647 (⟨Y,rfl,⟨m648,rfl⟩,st649⟩ | ⟨ch650,rfl,hp651⟩)
   rotate_left
   ·refine aP (bL (aP (aP (bL (bT s646.d ?_)))))
    exact .inr ⟨_,rfl,hp651⟩
   intro a652 hd654 hF655
   have s653:=sO hF655 hd654 st649
   refine aR rfl (aD ?_)
   refine dd s653 (by kernel_rfl) fun w656 s657=>c9 (aD ?_)
   refine dU s657 [1,4,199,200] [20000] [] (qo (wr ((k7:Int)+1) ((k7+1:Nat):Int) (by omega))<|qe) fun _ w659 s660=>aD<|?_
   exact ⟨(k7+1),⟨m648,by omega,(s660.kr (by rw [jW,← List.append_assoc,← List.append_assoc] <;> rfl)),aM inv_k7 (fun y hy=>by rw [hx320] at hy; cases hy; exact (iM h336 (iM h376 (iM h416 (iM h456 (iM h495 (iM h537 (iM h579 (iP h621 rfl)))))))))⟩,by omega⟩
  refine zs s620 [1,4,16,17,18,199,200,212,225] [(225,Bo (((l.conds.getD k7 dZ).kind)==8))] qe fun _ w662 s663=>bA s663.f rfl (fun h664=>?_) (fun h664=>?_)
  ·refine wp_skip<|aD<|bA s663.f rfl (fun _=>?_) (fun hX=>by first | exact absurd h664 hX | exact absurd hX h664 | (rw [h664] at hX; cases hX))
   refine zq s663 [1,4,16,17,18,199,200] [(17,I 2),(18,I 2)] qe fun _ w667 s668=>c9 (aD ?_)
   refine wp_seq<|aL MO 5<|nD s668 [1,4,16,18,199,200,229,230,233] [22900,23301] [(230,I 2)] 0 [some [],some [],some [4,3],some [4],some []] (qo (s668.m.ld 249 0 0 iA rfl rfl)<|qo (jZ w667 l.condsA (k7*21) dN)<|qe) hq fun _ s671=>df s671 5 rfl rfl rfl rfl (by kernel_rfl) rfl fun w672 s673=>lc s673 0 rfl rfl rfl iD rfl (eU cl [cI B14 249 [.func (.func 193) #[] #[Pt B5 0,Pt B1 0]],cI B5 4 [Bo m_k7.1],cI B1 248 [yv L],cI Bl 197 [Pt B 0]] ((gT l++fP l.phases l.phases.length)++fC k7) (FP.ca k7) 1 2 (RJ k7_lt) (mJ h664) rfl rfl s673.m rfl rfl)<|?_
   rintro e w674 (⟨Y,rfl,⟨m675,rfl⟩,st676⟩ | ⟨ch677,rfl,hp678⟩)
   rotate_left
   ·refine aP (aP (bL (aP (aP (bL (bT s673.d ?_))))))
    exact .inr ⟨_,rfl,hp678⟩
   intro a679 hd681 hF682
   have s680:=sO hF682 hd681 st676
   refine aR rfl (aD ?_)
   refine dd s680 (by kernel_rfl) fun w683 s684=>aD<|aL MO 5<|nD s684 [1,4,199,200,235,236,239] [23500,23901] [(236,I 2)] 0 [some [],some [],some [4,3],some [4],some []] (qo (s684.m.ld 249 0 0 iA rfl rfl)<|qo (jZ w683 l.condsA (k7*21) dW)<|qe) hq fun _ s687=>df s687 5 rfl rfl rfl rfl (by kernel_rfl) rfl fun w688 s689=>lc s689 0 rfl rfl rfl iD rfl (eU cl [cI B14 249 [.func (.func 193) #[] #[Pt B5 0,Pt B1 0]],cI B5 4 [Bo m675.1],cI B1 248 [yv L],cI Bl 197 [Pt B 0]] (((gT l++fP l.phases l.phases.length)++fC k7)++[FP.ca k7]) (FP.cb k7) 1 2 (RK k7_lt) (mL h664) rfl rfl s689.m rfl rfl)<|?_
   rintro e w690 (⟨Y,rfl,⟨m691,rfl⟩,st692⟩ | ⟨ch693,rfl,hp694⟩)
   rotate_left
   ·refine aP (bL (aP (aP (bL (bT s689.d ?_)))))
    exact .inr ⟨_,rfl,hp694⟩
   intro a695 hd697 hF698
   have s696:=sO hF698 hd697 st692
   refine aR rfl (aD ?_)
   refine dd s696 (by kernel_rfl) fun w699 s700=>c9 (aD ?_)
   refine dU s700 [1,4,199,200] [20000] [] (qo (wr ((k7:Int)+1) ((k7+1:Nat):Int) (by omega))<|qe) fun _ w702 s703=>aD<|?_
   exact ⟨(k7+1),⟨m691,by omega,(s703.kr (by rw [jW,← List.append_assoc,← List.append_assoc] <;> rfl)),aM inv_k7 (fun y hy=>by rw [hx320] at hy; cases hy; exact (iM h336 (iM h376 (iM h416 (iM h456 (iM h495 (iM h537 (iM h579 (iM h621 (iP h664 rfl))))))))))⟩,by omega⟩
  refine zq s663 [1,4,16,17,18,199,200,225] [(225,Bo (((l.conds.getD k7 dZ).kind)==9))] qe fun _ w705 s706=>aD<|bA s706.f rfl (fun h707=>?_) (fun h707=>?_)
  ·refine zq s706 [1,4,16,17,18,199,200] [(17,I 2),(18,I 2)] qe fun _ w709 s710=>c9 (aD ?_)
   refine wp_seq<|aL MO 5<|nD s710 [1,4,16,18,199,200,229,230,233] [22900,23301] [(230,I 2)] 0 [some [],some [],some [4,3],some [4],some []] (qo (s710.m.ld 249 0 0 iA rfl rfl)<|qo (jZ w709 l.condsA (k7*21) dN)<|qe) hq fun _ s713=>df s713 5 rfl rfl rfl rfl (by kernel_rfl) rfl fun w714 s715=>lc s715 0 rfl rfl rfl iD rfl (eU cl [cI B14 249 [.func (.func 193) #[] #[Pt B5 0,Pt B1 0]],cI B5 4 [Bo m_k7.1],cI B1 248 [yv L],cI Bl 197 [Pt B 0]] ((gT l++fP l.phases l.phases.length)++fC k7) (FP.ca k7) 1 2 (RJ k7_lt) (mJ h707) rfl rfl s715.m rfl rfl)<|?_
   rintro e w716 (⟨Y,rfl,⟨m717,rfl⟩,st718⟩ | ⟨ch719,rfl,hp720⟩)
   rotate_left
   ·refine aP (aP (bL (aP (aP (bL (bT s715.d ?_))))))
    exact .inr ⟨_,rfl,hp720⟩
   intro a721 hd723 hF724
   have s722:=sO hF724 hd723 st718
   refine aR rfl (aD ?_)
   refine dd s722 (by kernel_rfl) fun w725 s726=>aD<|aL MO 5<|nD s726 [1,4,199,200,235,236,239] [23500,23901] [(236,I 2)] 0 [some [],some [],some [4,3],some [4],some []] (qo (s726.m.ld 249 0 0 iA rfl rfl)<|qo (jZ w725 l.condsA (k7*21) dW)<|qe) hq fun _ s729=>df s729 5 rfl rfl rfl rfl (by kernel_rfl) rfl fun w730 s731=>lc s731 0 rfl rfl rfl iD rfl (eU cl [cI B14 249 [.func (.func 193) #[] #[Pt B5 0,Pt B1 0]],cI B5 4 [Bo m717.1],cI B1 248 [yv L],cI Bl 197 [Pt B 0]] (((gT l++fP l.phases l.phases.length)++fC k7)++[FP.ca k7]) (FP.cb k7) 1 2 (RK k7_lt) (mL h707) rfl rfl s731.m rfl rfl)<|?_
   rintro e w732 (⟨Y,rfl,⟨m733,rfl⟩,st734⟩ | ⟨ch735,rfl,hp736⟩)
   rotate_left
   ·refine aP (bL (aP (aP (bL (bT s731.d ?_)))))
    exact .inr ⟨_,rfl,hp736⟩
   intro a737 hd739 hF740
   have s738:=sO hF740 hd739 st734
   refine aR rfl (aD ?_)
   refine dd s738 (by kernel_rfl) fun w741 s742=>c9 (aD ?_)
   refine dU s742 [1,4,199,200] [20000] [] (qo (wr ((k7:Int)+1) ((k7+1:Nat):Int) (by omega))<|qe) fun _ w744 s745=>aD<|?_
   exact ⟨(k7+1),⟨m733,by omega,(s745.kr (by rw [jW,← List.append_assoc,← List.append_assoc] <;> rfl)),aM inv_k7 (fun y hy=>by rw [hx320] at hy; cases hy; exact (iM h336 (iM h376 (iM h416 (iM h456 (iM h495 (iM h537 (iM h579 (iM h621 (iM h664 (iP h707 rfl)))))))))))⟩,by omega⟩
  refine aA<|cU s706 0 (b:=false) (ch:=lB 170) rfl rfl rfl jJ rfl (fU _ _ _) (fun h746 w750 s751=>?_) (fun h746 _ _ _=>absurd h746 Bool.false_ne_true)
  refine bL (aP (bL (aP (aP (bL (pP s751 ?_))))))
  exact .inr ⟨_,rfl,cl.pan _ _ _ (iP A308 (iF (bI hx320 (iM h336 (iM h376 (iM h416 (iM h456 (iM h495 (iM h537 (iM h579 (iM h621 (iM h664 (iM h707 rfl))))))))))) rfl)) (s751.m.sub (.cons _ (.cons _ (.cons _ (.cons _ ((List.Sublist.refl _)))))))⟩
 have k7_eq:k7=l.conds.length:=by omega
 have A752:l.conds.all pK=true:=cR (by rw [k7_eq] at inv_k7; exact inv_k7)
 have s753:Sta 242 [] w0 [⟨1,[],Pt Bl 0⟩,⟨4,[],Pt B14 0⟩,⟨199,[],I (l.conds.length:Int)⟩,⟨200,[],I (k7:Int)⟩,⟨201,[],Bo (decide ((k7:Int)<(l.conds.length:Int)))⟩] ((cI B14 249 [.func (.func 193) #[] #[Pt B5 0,Pt B1 0]])::(cI B5 4 [Bo m_k7.1])::(cI B1 248 [yv L])::(cI Bl 197 [Pt B 0])::Hc ((gT l++fP l.phases l.phases.length)++fC l.conds.length) m_k7) a316 w317:=s318.re rfl (by rw [k7_eq] <;> rfl)
 refine wp_exit<|aY (aY (cP (pE [] rfl s753 trivial ?_)))
 exact .inl ⟨_,rfl,⟨iP A308 (iP A752 rfl),[cI B14 249 [.func (.func 193) #[] #[Pt B5 0,Pt B1 0]],cI B5 4 [Bo m_k7.1],cI B1 248 [yv L],cI Bl 197 [Pt B 0]],m_k7,rfl⟩,s753.m⟩
end Go.Proofs.YtfffbdmdllgalaaGreatDoor
namespace Go.Proofs.YtfffbdmdllgalaaGreatDoor
open Go Go.RowKit Go.Fz
set_option maxRecDepth 10000
theorem wN (B:Nat) (w:World):Calls Tryz.prog 152 #[Pt B 0] w (vO (fun Bl:Nat=>.func (.func 192) #[] #[Pt Bl 0]) (fun Bl=>[cI Bl 197 [Pt B 0]]) (fun _=>True) w):=by
 refine dX [Pt B 0] Tryz.func152 rfl rfl rfl rfl fun _ s0=>wp_seq<|aA<|lb s0 0 _ rfl rfl rfl rfl fun B1 a2 w3 s4=>zl s4 [1] [(1,Pt B1 0)] 1 1 qe fun _ w6 s7=>aR rfl<|aD<|zs s7 [2] [(2,.func (.func 192) #[] #[Pt B1 0])] qe fun _ w9 s10=>aC<|pR [.func (.func 192) #[] #[Pt B1 0]] rfl s10 ⟨rfl,trivial⟩<|?_
 exact fX s10 B1 rfl trivial (List.Sublist.refl _)
theorem TZ {w0 w:World} {H:List Fz.Item} (st:St w0 H w) {Bx Be:Nat}:CallsD Tryz.prog 177 #[Pt Bx 0,Pt Be 0] (.returning) w (fun en u' w'=>en=.returned (.tuple #[])∧u'=(.returning:FrameMode)∧St w0 (H) w'):=by
 refine fnS [Pt Bx 0,Pt Be 0] st Tryz.func177 rfl rfl rfl rfl fun a0 c0 cs hu s0=>wpS_seq<|xT (v:=.nilIface) s0 (.inr ⟨JB hu,rfl,rfl⟩) rfl rfl rfl fun a1 s1=>wpS_of_wp<|d5 s1 [0,1,2,7] [700] [(0,Pt Bx 0),(1,Pt Be 0),(2,.nilIface)] (qo (YD w (.tmp 6) 20 Tryz.underlying20)<|qe) fun a1 w2 s3=>CR s3.f rfl<|wp_skip<|CY s3 rfl (congrArg (·::cs) (BL hu))<|?_
 exact ⟨rfl,rfl,s3.m⟩
theorem T0 {w0 w:World} {H:List Fz.Item} (st:St w0 H w) {Be:Nat}:CallsD Tryz.prog 115 #[Pt Be 0] (.returning) w (fun en u' w'=>en=.returned (.tuple #[])∧u'=(.returning:FrameMode)∧St w0 (H) w'):=by
 refine fnS [Pt Be 0] st Tryz.func115 rfl rfl rfl rfl fun a0 c0 cs hu s0=>wpS_seq<|xT (v:=.nilIface) s0 (.inr ⟨JB hu,rfl,rfl⟩) rfl rfl rfl fun a1 s1=>wpS_of_wp<|d5 s1 [0,1,6] [600] [(0,Pt Be 0),(1,.nilIface)] (qo (YD w (.tmp 5) 20 Tryz.underlying20)<|qe) fun a1 w2 s3=>CR s3.f rfl<|wp_skip<|CY s3 rfl (congrArg (·::cs) (BL hu))<|?_
 exact ⟨rfl,rfl,s3.m⟩
theorem hJ {w0 w:World} {H:List Fz.Item} (st:St w0 H w) (ix ie:Nat) {Bx Be:Nat} (e:Int) {x0 x1 x2 x3 x4 x5 x6 x7 x8 x9 x10 x11 x12 x13 x14 e0:Value} (hx:H[ix]?=some (cI Bx 34 [x0,x1,x2,x3,x4,x5,x6,x7,x8,x9,x10,x11,x12,x13,x14])) (he:H[ie]?=some (cI Be 40 [e0])) (hne:ix≠ie):CallsD Tryz.prog 177 #[Pt Bx 0,Pt Be 0] (.panicking (lB e)) w (fun en u' w'=>en=.returned (.tuple #[])∧u'=(.panicking [{ v:=.iface 40 (I e),recovered:=true }]:FrameMode)∧St w0 ((H.set ix (cI Bx 34 (aB cH))).set ie (cI Be 40 [I e])) w'):=by
 refine fnS [Pt Bx 0,Pt Be 0] st Tryz.func177 rfl rfl rfl rfl fun a0 c0 cs hu s0=>wpS_seq<|xT (v:=.iface 40 (I e)) s0 (.inl (NR hu)) rfl rfl rfl fun a1 s1=>wpS_of_wp<|d5 s1 [0,1,2,7] [700] [(0,Pt Bx 0),(1,Pt Be 0),(2,.iface 40 (I e))] (qo (nin w (.tmp 6) 20 40 (I e) Tryz.underlying20)<|qe) fun a1 w2 s3=>HP s3.f rfl<|zs s3 [0,1,2,3,4] [(3,I e),(4,Bo true)] (qo (tas w2 20 40 (I e) Tryz.underlying40 (fun _ h=>by cases h))<|qe) fun _ w6 s7=>wp_seq<|zs s7 [0,1,2,3,14] [(14,Bo false)] qe fun _ w9 s10=>CR s10.f rfl<|wp_skip<|aD<|aA ?_
 refine zl s10 [0,1,16,17] [(16,.agg zz.toArray),(17,I e)] 0 2 (qo (jL (P:=Tryz.prog) w9 34 [] (.agg zz.toArray) (fun _=>by kernel_rfl))<|qe) fun _ w13 s14=>dD s14 2 ix zz zz rfl rfl rfl rfl nA rfl hx rfl rfl fun w15 s16=>dD s16 3 ie [I e] [I e] rfl rfl rfl rfl A2 rfl (YE hne he) rfl rfl fun w17 s18=>aR rfl<|CY s18 rfl rfl<|?_
 exact ⟨rfl,rfl,s18.m⟩
theorem sB {w0 w:World} {H:List Fz.Item} (st:St w0 H w) (ie:Nat) {Be:Nat} {e0:Value} (he:H[ie]?=some (cI Be 40 [e0])):CallsD Tryz.prog 115 #[Pt Be 0] (.panicking aZ) w (fun en u' w'=>en=.returned (.tuple #[])∧u'=(.panicking [{ v:=.iface 169 (.agg #[]),recovered:=true }]:FrameMode)∧St w0 (H.set ie (cI Be 40 [I 180])) w'):=by
 refine fnS [Pt Be 0] st Tryz.func115 rfl rfl rfl rfl fun a0 c0 cs hu s0=>wpS_seq<|xT (v:=.iface 169 (.agg #[])) s0 (.inl (NR hu)) rfl rfl rfl fun a1 s1=>wpS_of_wp<|d5 s1 [0,1,6] [600] [(0,Pt Be 0),(1,.iface 169 (.agg #[]))] (qo (nin w (.tmp 5) 20 169 (.agg #[]) Tryz.underlying20)<|qe) fun a1 w2 s3=>HP s3.f rfl<|wp_seq<|wp_seq<|aA<|zl s3 [0,1,10,11] [(10,.agg #[]),(11,Bo true)] 0 5 (qo (tas w2 20 169 (.agg #[]) Tryz.underlying169 (fun _ h=>by cases h))<|qe) fun _ w6 s7=>la s7 5 _ rfl Y9 rfl rfl fun B8 a9 w10 s11=>dD s11 6 0 _ _ rfl rfl rfl rfl YX rfl rfl rfl rfl fun w12 s13=>zl s13 [0,1,3] [(3,Bo true)] 7 1 qe fun _ w15 s16=>?_
 refine aR rfl<|aD<|zs s16 [0,1,13] [(13,Bo false)] qe fun _ w18 s19=>CR s19.f rfl<|wp_skip<|aD<|aA<|dD s19 0 (ie+1) [I 180] [I 180] rfl rfl rfl rfl A2 rfl he rfl rfl fun w21 s22=>aR rfl<|CY s22 rfl rfl<|?_
 exact ⟨rfl,rfl,s22.m.sub (.cons _ ((List.Sublist.refl _)))⟩
end Go.Proofs.YtfffbdmdllgalaaGreatDoor
namespace Go.Fz
open Go Go.RowKit
def lC (f:FP→cW→cW) (i:Nat) (p:aX):aX :=
  { p with window:=f (.window i) p.window,teams:=p.teams.mapIdx fun j r=>f (.pteam i j) r,of:=f (.pof i) p.of,a:=f (.pa i) p.a,b:=f (.pb i) p.b }
def dH (f:FP→cW→cW) (l:aE):aE :=
  { l with ways:=l.ways.mapIdx fun i x=>{ x with a:=f (.wayA i) x.a,b:=f (.wayB i) x.b },
           depots:=l.depots.mapIdx fun i x=>{ x with town:=f (.depot i) x.town },
           grounds:=l.grounds.mapIdx fun i x=>{ x with town:=f (.ground i) x.town },
           teams:=l.teams.mapIdx fun i x=>{ x with ground:=f (.team i) x.ground },
           phases:=l.phases.mapIdx (lC f),
           conds:=l.conds.mapIdx fun i x=>{ x with a:=f (.ca i) x.a,b:=f (.cb i) x.b } }
theorem GW (f:FP→cW→cW) (l:aE) (p:FP):p.get (dH f l)=(p.get l).map (f p):=by
  cases p <;> simp only [FP.get,dH,List.getElem?_mapIdx,Option.map_map] <;> try rfl
  rename_i i j
  cases l.phases[i]? with
  | none=>rfl
  | some p=>simp [lC,List.getElem?_mapIdx]
theorem qU (f:FP→cW→cW) (l:aE) (i:Nat):((dH f l).phases.getD i aF).kind=(l.phases.getD i aF).kind∧((dH f l).phases.getD i aF).teams.length=(l.phases.getD i aF).teams.length∧((dH f l).phases.getD i aF).teamsA=(l.phases.getD i aF).teamsA:=by
  simp only [dH,List.getD_eq_getElem?_getD,List.getElem?_mapIdx]
  cases l.phases[i]? with
  | none=>simp
  | some p=>simp [lC]
theorem AD (f:FP→cW→cW) (l:aE) (p:FP):p.adr (dH f l)=p.adr l:=by
  cases p <;> simp only [FP.adr,(qU f l _).2.2] <;> rfl
theorem GX {ps qs:List aX} (h:∀ i,(ps.getD i aF).teams.length=(qs.getD i aF).teams.length) (k:Nat):fP ps k=fP qs k:=by
  unfold fP; congr 1; funext i; unfold FB; rw [h i]
theorem MH (f:FP→cW→cW) (l:aE):flds (dH f l)=flds l:=by
  unfold flds
  have h1:fP (dH f l).phases (dH f l).phases.length=fP l.phases l.phases.length:=by
    rw [GX (fun i=>(qU f l i).2.1)]; simp [dH]
  rw [h1]; simp [dH]
theorem CI (f:FP→cW→cW) (i:Nat) (p:aX):kB (lC f i p)=kB p:=by
  have h:(lC f i p).teams.length=p.teams.length:=by simp [lC]
  unfold kB
  rw [h]
  rfl
theorem GY (f:FP→cW→cW) (l:aE):hU (dH f l)=hU l:=by
  have h1:(dH f l).phases.all kB=l.phases.all kB:=by
    rw [Bool.eq_iff_iff,List.all_eq_true,List.all_eq_true]
    simp only [dH]
    constructor
    · intro h p hp
      obtain ⟨i,hi,rfl⟩:=List.getElem_of_mem hp
      have:=h (lC f i l.phases[i]) (List.mem_mapIdx.2 ⟨i,hi,rfl⟩)
      rwa [CI] at this
    · intro h p hp
      obtain ⟨i,hi,rfl⟩:=List.mem_mapIdx.1 hp
      rw [CI]; exact h _ (List.getElem_mem hi)
  have h2:(dH f l).conds.all pK=l.conds.all pK:=by
    rw [Bool.eq_iff_iff,List.all_eq_true,List.all_eq_true]
    simp only [dH]
    constructor
    · intro h p hp
      obtain ⟨i,hi,rfl⟩:=List.getElem_of_mem hp
      have:=h _ (List.mem_mapIdx.2 ⟨i,hi,rfl⟩)
      exact this
    · intro h p hp
      obtain ⟨i,hi,rfl⟩:=List.mem_mapIdx.1 hp
      have:=h _ (List.getElem_mem hi)
      exact this
  unfold hU; rw [h1,h2]
def tI (p:aX):Item:=oR 148 2 bN p.teamsA p.teamsC p.teams
def Hx (x:aE):List Item :=
  oR 178 21 aV x.condsA x.condsC x.conds::oR 157 14 aK x.phasesA x.phasesC x.phases::oR 160 4 bU x.teamsA x.teamsC x.teams ::
  oR 152 7 bG x.groundsA x.groundsC x.grounds::oR 207 3 bY x.depotsA x.depotsC x.depots::oR 205 5 cY x.waysA x.waysC x.ways::x.phases.map tI
structure jF (x:aE):Prop where
  ways:x.ways.length≤1000
  depots:x.depots.length≤1000
  grounds:x.grounds.length≤1000
  teams:x.teams.length≤1000
  phases:x.phases.length≤1000
  conds:x.conds.length≤1000
  pteams:∀ p∈x.phases,p.teams.length≤1000
theorem qH {f:FP→cW→cW} {l:aE} (h:jF l):jF (dH f l):=by
  refine ⟨?_,?_,?_,?_,?_,?_,fun p hp=>?_⟩
  · simpa [dH] using h.ways
  · simpa [dH] using h.depots
  · simpa [dH] using h.grounds
  · simpa [dH] using h.teams
  · simpa [dH] using h.phases
  · simpa [dH] using h.conds
  · obtain ⟨i,hi,rfl⟩:=List.mem_mapIdx.1 hp
    simpa [lC] using h.pteams _ (List.getElem_mem hi)
section mem
variable {P:Program} {w0 w:World} {x:aE} {Z:List Item}
theorem IW (h:St w0 (Hx x++Z) w) (hs:jF x) {p:FP} {r:cW} (hg:p.get x=some r):w.cell? (p.adr x)=some (.string r.name)∧w.cell? ((p.adr x).add 1)=some (I r.n):=by
  have hm:∀ it,it∈Hx x→it∈Hx x++Z:=fun it hit=>List.mem_append_left _ hit
  have rw1:Row w x.waysA 5 cY x.ways:=h.row_mem (e:=205) (c:=x.waysC) (hm _ (by simp [Hx])) d6 (by have:=hs.ways; omega)
  have rw2:Row w x.depotsA 3 bY x.depots:=h.row_mem (e:=207) (c:=x.depotsC) (hm _ (by simp [Hx])) eJ (by have:=hs.depots; omega)
  have rw3:Row w x.groundsA 7 bG x.grounds:=h.row_mem (e:=152) (c:=x.groundsC) (hm _ (by simp [Hx])) dQ (by have:=hs.grounds; omega)
  have rw4:Row w x.teamsA 4 bU x.teams:=h.row_mem (e:=160) (c:=x.teamsC) (hm _ (by simp [Hx])) dF (by have:=hs.teams; omega)
  have rw5:Row w x.condsA 21 aV x.conds:=h.row_mem (e:=178) (c:=x.condsC) (hm _ (by simp [Hx])) eR (by have:=hs.conds; omega)
  have rw6:Row w x.phasesA 14 aK x.phases:=h.row_mem (e:=157) (c:=x.phasesC) (hm _ (by simp [Hx])) cV (by have:=hs.phases; omega)
  have fin:∀ {α:Type} {oa:Option Addr} {sz:Nat} {enc:α→List Value} {xs:List α} (hr:Row w oa sz enc xs) (i:Nat) {y:α} (j:Nat),xs[i]?=some y→(enc y)[j]?=some (.string r.name)→(enc y)[j+1]?=some (I r.n) →
      w.cell? (kK oa (i*sz+j))=some (.string r.name)∧w.cell? ((kK oa (i*sz+j)).add 1)=some (I r.n):=fun hr i y j hy h1 h2=>by
    refine ⟨hr.cell i y j _ hy h1,?_⟩
    rw [iX,Nat.add_assoc]; exact hr.cell i y (j+1) _ hy h2
  have one:∀ {α:Type} {xs:List α} {i:Nat} {g:α→cW},(xs[i]?).map g=some r→∃ y,xs[i]?=some y∧g y=r:=fun {α xs i g} h=>by
    cases hx:xs[i]? with
    | none=>rw [hx] at h; cases h
    | some y=>rw [hx] at h; exact ⟨y,rfl,Option.some.inj h⟩
  cases p with
  | wayA i=>obtain ⟨y,hy,rfl⟩:=one hg; exact fin rw1 i 0 hy rfl rfl
  | wayB i=>obtain ⟨y,hy,rfl⟩:=one hg; exact fin rw1 i 2 hy rfl rfl
  | depot i=>obtain ⟨y,hy,rfl⟩:=one hg; exact fin rw2 i 0 hy rfl rfl
  | ground i=>obtain ⟨y,hy,rfl⟩:=one hg; exact fin rw3 i 1 hy rfl rfl
  | team i=>obtain ⟨y,hy,rfl⟩:=one hg; exact fin rw4 i 1 hy rfl rfl
  | window i=>obtain ⟨y,hy,rfl⟩:=one hg; exact fin rw6 i 2 hy rfl rfl
  | pof i=>obtain ⟨y,hy,rfl⟩:=one hg; exact fin rw6 i 5 hy rfl rfl
  | pa i=>obtain ⟨y,hy,rfl⟩:=one hg; exact fin rw6 i 8 hy rfl rfl
  | pb i=>obtain ⟨y,hy,rfl⟩:=one hg; exact fin rw6 i 10 hy rfl rfl
  | ca i=>obtain ⟨y,hy,rfl⟩:=one hg; exact fin rw5 i 2 hy rfl rfl
  | cb i=>obtain ⟨y,hy,rfl⟩:=one hg; exact fin rw5 i 4 hy rfl rfl
  | pteam i j =>
    simp only [FP.get] at hg
    cases hp:x.phases[i]? with
    | none=>rw [hp] at hg; cases hg
    | some q =>
      rw [hp] at hg
      have hq:q∈x.phases:=List.mem_of_getElem? hp
      have rq:Row w q.teamsA 2 bN q.teams:=h.row_mem (e:=148) (c:=q.teamsC) (hm _ (by simp only [Hx,List.mem_cons,List.mem_map]; exact .inr (.inr (.inr (.inr (.inr (.inr ⟨q,hq,rfl⟩))))))) eI (by have:=hs.pteams q hq; omega)
      have e:FP.adr x (.pteam i j)=kK q.teamsA (j*2):=by simp [FP.adr,List.getD_eq_getElem?_getD,hp]
      rw [e]
      exact fin rq j 0 hg rfl rfl
end mem
end Go.Fz
namespace Go.Fz
open Go Go.RowKit
def fO (r:cW) (v:Int):cW:=⟨r.name,v⟩
def FP.put (x:aE) (v:Int):FP→aE
  | .wayA i=>{ x with ways:=x.ways.modify i fun y=>{ y with a:=fO y.a v } }
  | .wayB i=>{ x with ways:=x.ways.modify i fun y=>{ y with b:=fO y.b v } }
  | .depot i=>{ x with depots:=x.depots.modify i fun y=>{ y with town:=fO y.town v } }
  | .ground i=>{ x with grounds:=x.grounds.modify i fun y=>{ y with town:=fO y.town v } }
  | .team i=>{ x with teams:=x.teams.modify i fun y=>{ y with ground:=fO y.ground v } }
  | .window i=>{ x with phases:=x.phases.modify i fun y=>{ y with window:=fO y.window v } }
  | .pof i=>{ x with phases:=x.phases.modify i fun y=>{ y with of:=fO y.of v } }
  | .pa i=>{ x with phases:=x.phases.modify i fun y=>{ y with a:=fO y.a v } }
  | .pb i=>{ x with phases:=x.phases.modify i fun y=>{ y with b:=fO y.b v } }
  | .ca i=>{ x with conds:=x.conds.modify i fun y=>{ y with a:=fO y.a v } }
  | .cb i=>{ x with conds:=x.conds.modify i fun y=>{ y with b:=fO y.b v } }
  | .pteam i j=>{ x with phases:=x.phases.modify i fun y=>{ y with teams:=y.teams.modify j fun r=>fO r v } }
theorem eZ {α:Type} {xs:List α} {i:Nat} {y:α} (f:α→α) (h:xs[i]?=some y):xs.modify i f=xs.set i (f y):=by
  apply List.ext_getElem?
  intro j
  rw [List.getElem?_modify,List.getElem?_set]
  by_cases e:i=j
  · subst e
    have hlt:=(List.getElem?_eq_some_iff.1 h).1
    have hy:xs[i]=y:=by rw [List.getElem?_eq_getElem hlt] at h; exact Option.some.inj h
    simp [hlt,hy]
  · simp [e]
theorem fB {α β:Type} {g g':Nat→α→β} {m:β→β} {i:Nat} (h1:∀ x,g' i x=m (g i x)) (h2:∀ j x,j≠i→g' j x=g j x) (l:List α):l.mapIdx g'=(l.mapIdx g).modify i m:=by
  apply List.ext_getElem?
  intro j
  rw [List.getElem?_modify,List.getElem?_mapIdx,List.getElem?_mapIdx]
  cases l[j]? with
  | none=>rfl
  | some x =>
    by_cases e:i=j
    · subst e; simp [h1]
    · simp [e,h2 j x (Ne.symm e)]
theorem vB {α β:Type} {g:α→β} {f:α→α} (h:∀ y,g (f y)=g y) (xs:List α) (i:Nat):(xs.modify i f).map g=xs.map g:=by
  apply List.ext_getElem?
  intro j
  rw [List.getElem?_map,List.getElem?_map,List.getElem?_modify]
  by_cases e:i=j
  · subst e; cases xs[i]? with
    | none=>rfl
    | some y=>simp [h]
  · simp [e]
def mW (f:FP→cW→cW) (xs:List nZ):List nZ:=xs.mapIdx fun i x=>{ x with a:=f (.wayA i) x.a,b:=f (.wayB i) x.b }
def mD (f:FP→cW→cW) (xs:List iL):List iL:=xs.mapIdx fun i x=>{ x with town:=f (.depot i) x.town }
def mG (f:FP→cW→cW) (xs:List Fz.bZ):List Fz.bZ:=xs.mapIdx fun i x=>{ x with town:=f (.ground i) x.town }
def mT (f:FP→cW→cW) (xs:List cX):List cX:=xs.mapIdx fun i x=>{ x with ground:=f (.team i) x.ground }
def HO (f:FP→cW→cW) (xs:List aX):List aX:=xs.mapIdx (lC f)
def mC (f:FP→cW→cW) (xs:List cJ):List cJ:=xs.mapIdx fun i x=>{ x with a:=f (.ca i) x.a,b:=f (.cb i) x.b }
theorem jX (f:FP→cW→cW) (l:aE):dH f l={ l with ways:=mW f l.ways,depots:=mD f l.depots,grounds:=mG f l.grounds,teams:=mT f l.teams,phases:=HO f l.phases,conds:=mC f l.conds }:=rfl
section c
variable {f f':FP→cW→cW}
theorem A8 (h:∀ i,f' (.wayA i)=f (.wayA i)) (h2:∀ i,f' (.wayB i)=f (.wayB i)) (xs:List nZ):mW f' xs=mW f xs:=by unfold mW; simp only [h,h2]
theorem AE (h:∀ i,f' (.depot i)=f (.depot i)) (xs:List iL):mD f' xs=mD f xs:=by unfold mD; simp only [h]
theorem AF (h:∀ i,f' (.ground i)=f (.ground i)) (xs:List Fz.bZ):mG f' xs=mG f xs:=by unfold mG; simp only [h]
theorem AG (h:∀ i,f' (.team i)=f (.team i)) (xs:List cX):mT f' xs=mT f xs:=by unfold mT; simp only [h]
theorem AH (h:∀ i,f' (.window i)=f (.window i)) (h2:∀ i j,f' (.pteam i j)=f (.pteam i j)) (h3:∀ i,f' (.pof i)=f (.pof i)) (h4:∀ i,f' (.pa i)=f (.pa i)) (h5:∀ i,f' (.pb i)=f (.pb i)) (xs:List aX):HO f' xs=HO f xs:=by
  unfold HO
  have:lC f'=lC f:=by funext i p; simp only [lC,h,h2,h3,h4,h5]
  rw [this]
theorem A9 (h:∀ i,f' (.ca i)=f (.ca i)) (h2:∀ i,f' (.cb i)=f (.cb i)) (xs:List cJ):mC f' xs=mC f xs:=by unfold mC; simp only [h,h2]
end c
theorem P9 {f f':FP→cW→cW} {l:aE} {p:FP} {v:Int} (hp:∀ r,f' p r=fO (f p r) v) (ho:∀ q,q≠p→f' q=f q):dH f' l=p.put (dH f l) v:=by
  cases p with
  | wayA i =>
    have hm:mW f' l.ways=(mW f l.ways).modify i fun y=>{ y with a:=fO y.a v }:=by
      refine fB (fun x=>?_) (fun j x hj=>?_) _
      · simp only [hp,ho (.wayB _) (by simp)]
      · simp only [ho (.wayA j) (by simp [hj]),ho (.wayB _) (by simp)]
    rw [jX,hm,AE (fun _=>ho _ (by simp)),AF (fun _=>ho _ (by simp)),AG (fun _=>ho _ (by simp)),AH (fun _=>ho _ (by simp)) (fun _ _=>ho _ (by simp)) (fun _=>ho _ (by simp)) (fun _=>ho _ (by simp)) (fun _=>ho _ (by simp)),A9 (fun _=>ho _ (by simp)) (fun _=>ho _ (by simp))]; rfl
  | wayB i =>
    have hm:mW f' l.ways=(mW f l.ways).modify i fun y=>{ y with b:=fO y.b v }:=by
      refine fB (fun x=>?_) (fun j x hj=>?_) _
      · simp only [hp,ho (.wayA _) (by simp)]
      · simp only [ho (.wayB j) (by simp [hj]),ho (.wayA _) (by simp)]
    rw [jX,hm,AE (fun _=>ho _ (by simp)),AF (fun _=>ho _ (by simp)),AG (fun _=>ho _ (by simp)),AH (fun _=>ho _ (by simp)) (fun _ _=>ho _ (by simp)) (fun _=>ho _ (by simp)) (fun _=>ho _ (by simp)) (fun _=>ho _ (by simp)),A9 (fun _=>ho _ (by simp)) (fun _=>ho _ (by simp))]; rfl
  | depot i =>
    have hm:mD f' l.depots=(mD f l.depots).modify i fun y=>{ y with town:=fO y.town v }:=by
      refine fB (fun x=>?_) (fun j x hj=>?_) _
      · simp only [hp]
      · simp only [ho (.depot j) (by simp [hj])]
    rw [jX,hm,A8 (fun _=>ho _ (by simp)) (fun _=>ho _ (by simp)),AF (fun _=>ho _ (by simp)),AG (fun _=>ho _ (by simp)),AH (fun _=>ho _ (by simp)) (fun _ _=>ho _ (by simp)) (fun _=>ho _ (by simp)) (fun _=>ho _ (by simp)) (fun _=>ho _ (by simp)),A9 (fun _=>ho _ (by simp)) (fun _=>ho _ (by simp))]; rfl
  | ground i =>
    have hm:mG f' l.grounds=(mG f l.grounds).modify i fun y=>{ y with town:=fO y.town v }:=by
      refine fB (fun x=>?_) (fun j x hj=>?_) _
      · simp only [hp]
      · simp only [ho (.ground j) (by simp [hj])]
    rw [jX,hm,A8 (fun _=>ho _ (by simp)) (fun _=>ho _ (by simp)),AE (fun _=>ho _ (by simp)),AG (fun _=>ho _ (by simp)),AH (fun _=>ho _ (by simp)) (fun _ _=>ho _ (by simp)) (fun _=>ho _ (by simp)) (fun _=>ho _ (by simp)) (fun _=>ho _ (by simp)),A9 (fun _=>ho _ (by simp)) (fun _=>ho _ (by simp))]; rfl
  | team i =>
    have hm:mT f' l.teams=(mT f l.teams).modify i fun y=>{ y with ground:=fO y.ground v }:=by
      refine fB (fun x=>?_) (fun j x hj=>?_) _
      · simp only [hp]
      · simp only [ho (.team j) (by simp [hj])]
    rw [jX,hm,A8 (fun _=>ho _ (by simp)) (fun _=>ho _ (by simp)),AE (fun _=>ho _ (by simp)),AF (fun _=>ho _ (by simp)),AH (fun _=>ho _ (by simp)) (fun _ _=>ho _ (by simp)) (fun _=>ho _ (by simp)) (fun _=>ho _ (by simp)) (fun _=>ho _ (by simp)),A9 (fun _=>ho _ (by simp)) (fun _=>ho _ (by simp))]; rfl
  | window i =>
    have hm:HO f' l.phases=(HO f l.phases).modify i fun y=>{ y with window:=fO y.window v }:=by
      refine fB (fun x=>?_) (fun j x hj=>?_) _
      · simp only [lC,hp,ho (.pteam _ _) (by simp),ho (.pof _) (by simp),ho (.pa _) (by simp),ho (.pb _) (by simp)]
      · simp only [lC,ho (.window j) (by simp [hj]),ho (.pteam _ _) (by simp),ho (.pof _) (by simp),ho (.pa _) (by simp),ho (.pb _) (by simp)]
    rw [jX,hm,A8 (fun _=>ho _ (by simp)) (fun _=>ho _ (by simp)),AE (fun _=>ho _ (by simp)),AF (fun _=>ho _ (by simp)),AG (fun _=>ho _ (by simp)),A9 (fun _=>ho _ (by simp)) (fun _=>ho _ (by simp))]; rfl
  | pof i =>
    have hm:HO f' l.phases=(HO f l.phases).modify i fun y=>{ y with of:=fO y.of v }:=by
      refine fB (fun x=>?_) (fun j x hj=>?_) _
      · simp only [lC,hp,ho (.window _) (by simp),ho (.pteam _ _) (by simp),ho (.pa _) (by simp),ho (.pb _) (by simp)]
      · simp only [lC,ho (.pof j) (by simp [hj]),ho (.window _) (by simp),ho (.pteam _ _) (by simp),ho (.pa _) (by simp),ho (.pb _) (by simp)]
    rw [jX,hm,A8 (fun _=>ho _ (by simp)) (fun _=>ho _ (by simp)),AE (fun _=>ho _ (by simp)),AF (fun _=>ho _ (by simp)),AG (fun _=>ho _ (by simp)),A9 (fun _=>ho _ (by simp)) (fun _=>ho _ (by simp))]; rfl
  | pa i =>
    have hm:HO f' l.phases=(HO f l.phases).modify i fun y=>{ y with a:=fO y.a v }:=by
      refine fB (fun x=>?_) (fun j x hj=>?_) _
      · simp only [lC,hp,ho (.window _) (by simp),ho (.pteam _ _) (by simp),ho (.pof _) (by simp),ho (.pb _) (by simp)]
      · simp only [lC,ho (.pa j) (by simp [hj]),ho (.window _) (by simp),ho (.pteam _ _) (by simp),ho (.pof _) (by simp),ho (.pb _) (by simp)]
    rw [jX,hm,A8 (fun _=>ho _ (by simp)) (fun _=>ho _ (by simp)),AE (fun _=>ho _ (by simp)),AF (fun _=>ho _ (by simp)),AG (fun _=>ho _ (by simp)),A9 (fun _=>ho _ (by simp)) (fun _=>ho _ (by simp))]; rfl
  | pb i =>
    have hm:HO f' l.phases=(HO f l.phases).modify i fun y=>{ y with b:=fO y.b v }:=by
      refine fB (fun x=>?_) (fun j x hj=>?_) _
      · simp only [lC,hp,ho (.window _) (by simp),ho (.pteam _ _) (by simp),ho (.pof _) (by simp),ho (.pa _) (by simp)]
      · simp only [lC,ho (.pb j) (by simp [hj]),ho (.window _) (by simp),ho (.pteam _ _) (by simp),ho (.pof _) (by simp),ho (.pa _) (by simp)]
    rw [jX,hm,A8 (fun _=>ho _ (by simp)) (fun _=>ho _ (by simp)),AE (fun _=>ho _ (by simp)),AF (fun _=>ho _ (by simp)),AG (fun _=>ho _ (by simp)),A9 (fun _=>ho _ (by simp)) (fun _=>ho _ (by simp))]; rfl
  | ca i =>
    have hm:mC f' l.conds=(mC f l.conds).modify i fun y=>{ y with a:=fO y.a v }:=by
      refine fB (fun x=>?_) (fun j x hj=>?_) _
      · simp only [hp,ho (.cb _) (by simp)]
      · simp only [ho (.ca j) (by simp [hj]),ho (.cb _) (by simp)]
    rw [jX,hm,A8 (fun _=>ho _ (by simp)) (fun _=>ho _ (by simp)),AE (fun _=>ho _ (by simp)),AF (fun _=>ho _ (by simp)),AG (fun _=>ho _ (by simp)),AH (fun _=>ho _ (by simp)) (fun _ _=>ho _ (by simp)) (fun _=>ho _ (by simp)) (fun _=>ho _ (by simp)) (fun _=>ho _ (by simp))]; rfl
  | cb i =>
    have hm:mC f' l.conds=(mC f l.conds).modify i fun y=>{ y with b:=fO y.b v }:=by
      refine fB (fun x=>?_) (fun j x hj=>?_) _
      · simp only [hp,ho (.ca _) (by simp)]
      · simp only [ho (.cb j) (by simp [hj]),ho (.ca _) (by simp)]
    rw [jX,hm,A8 (fun _=>ho _ (by simp)) (fun _=>ho _ (by simp)),AE (fun _=>ho _ (by simp)),AF (fun _=>ho _ (by simp)),AG (fun _=>ho _ (by simp)),AH (fun _=>ho _ (by simp)) (fun _ _=>ho _ (by simp)) (fun _=>ho _ (by simp)) (fun _=>ho _ (by simp)) (fun _=>ho _ (by simp))]; rfl
  | pteam i k =>
    have hm:HO f' l.phases=(HO f l.phases).modify i fun y=>{ y with teams:=y.teams.modify k fun r=>fO r v }:=by
      refine fB (fun x=>?_) (fun j x hj=>?_) _
      · have ht:(x.teams.mapIdx fun j r=>f' (.pteam i j) r)=(x.teams.mapIdx fun j r=>f (.pteam i j) r).modify k fun r=>fO r v :=
          fB (fun r=>hp r) (fun j r hj=>by rw [ho _ (by simp [hj])]) _
        simp only [lC,ht,ho (.window _) (by simp),ho (.pof _) (by simp),ho (.pa _) (by simp),ho (.pb _) (by simp)]
      · simp only [lC,ho (.pteam j _) (by simp [hj]),ho (.window _) (by simp),ho (.pof _) (by simp),ho (.pa _) (by simp),ho (.pb _) (by simp)]
    rw [jX,hm,A8 (fun _=>ho _ (by simp)) (fun _=>ho _ (by simp)),AE (fun _=>ho _ (by simp)),AF (fun _=>ho _ (by simp)),AG (fun _=>ho _ (by simp)),A9 (fun _=>ho _ (by simp)) (fun _=>ho _ (by simp))]; rfl
section mem
variable {P:Program} {w0 w:World} {x:aE} {Z:List Item}
theorem QA (A:List Item) (Z:List Item) {i:Nat} (it:Item) (h:i<A.length):(A++Z).set i it=A.set i it++Z:=List.set_append_left _ _ h
theorem QB (h:St w0 (Hx x++Z) w) {p:FP} {r:cW} (hg:p.get x=some r) (v:Int):∃ w',(storeCells ((p.adr x).add 1) [I v] 0).run P w=.ok () w'∧St w0 (Hx (p.put x v)++Z) w':=by
  have one:∀ {α:Type} {xs:List α} {i:Nat} {g:α→cW},(xs[i]?).map g=some r→∃ y,xs[i]?=some y∧g y=r:=fun {α xs i g} h=>by
    cases hx:xs[i]? with
    | none=>rw [hx] at h; cases h
    | some y=>rw [hx] at h; exact ⟨y,rfl,Option.some.inj h⟩
  cases p with
  | wayA i =>
    obtain ⟨y,hy,rfl⟩:=one hg
    obtain ⟨w',h1,h2⟩:=iK (P:=P) h 5 i 1 (e:=205) (c:=x.waysC) { y with a:=fO y.a v } [I v] rfl d6 hy rfl (Nat.le_of_ble_eq_true rfl) rfl
    refine ⟨w',?_,?_⟩
    · simp only [FP.adr,iX]; exact h1
    · simp only [FP.put,eZ _ hy]; exact h2
  | wayB i =>
    obtain ⟨y,hy,rfl⟩:=one hg
    obtain ⟨w',h1,h2⟩:=iK (P:=P) h 5 i 3 (e:=205) (c:=x.waysC) { y with b:=fO y.b v } [I v] rfl d6 hy rfl (Nat.le_of_ble_eq_true rfl) rfl
    refine ⟨w',?_,?_⟩
    · simp only [FP.adr,iX,Nat.add_assoc]; exact h1
    · simp only [FP.put,eZ _ hy]; exact h2
  | depot i =>
    obtain ⟨y,hy,rfl⟩:=one hg
    obtain ⟨w',h1,h2⟩:=iK (P:=P) h 4 i 1 (e:=207) (c:=x.depotsC) { y with town:=fO y.town v } [I v] rfl eJ hy rfl (Nat.le_of_ble_eq_true rfl) rfl
    refine ⟨w',?_,?_⟩
    · simp only [FP.adr,iX]; exact h1
    · simp only [FP.put,eZ _ hy]; exact h2
  | ground i =>
    obtain ⟨y,hy,rfl⟩:=one hg
    obtain ⟨w',h1,h2⟩:=iK (P:=P) h 3 i 2 (e:=152) (c:=x.groundsC) { y with town:=fO y.town v } [I v] rfl dQ hy rfl (Nat.le_of_ble_eq_true rfl) rfl
    refine ⟨w',?_,?_⟩
    · simp only [FP.adr,iX,Nat.add_assoc]; exact h1
    · simp only [FP.put,eZ _ hy]; exact h2
  | team i =>
    obtain ⟨y,hy,rfl⟩:=one hg
    obtain ⟨w',h1,h2⟩:=iK (P:=P) h 2 i 2 (e:=160) (c:=x.teamsC) { y with ground:=fO y.ground v } [I v] rfl dF hy rfl (Nat.le_of_ble_eq_true rfl) rfl
    refine ⟨w',?_,?_⟩
    · simp only [FP.adr,iX,Nat.add_assoc]; exact h1
    · simp only [FP.put,eZ _ hy]; exact h2
  | window i =>
    obtain ⟨y,hy,rfl⟩:=one hg
    obtain ⟨w',h1,h2⟩:=iK (P:=P) h 1 i 3 (e:=157) (c:=x.phasesC) { y with window:=fO y.window v } [I v] rfl cV hy rfl (Nat.le_of_ble_eq_true rfl) rfl
    refine ⟨w',?_,?_⟩
    · simp only [FP.adr,iX,Nat.add_assoc]; exact h1
    · have ht:(x.phases.modify i fun y=>{ y with window:=fO y.window v }).map tI=x.phases.map tI:=by
        refine vB (g:=tI) (fun y=>?_) _ _
        rfl
      simp only [FP.put,Hx,ht]; rw [eZ _ hy]; exact h2
  | pof i =>
    obtain ⟨y,hy,rfl⟩:=one hg
    obtain ⟨w',h1,h2⟩:=iK (P:=P) h 1 i 6 (e:=157) (c:=x.phasesC) { y with of:=fO y.of v } [I v] rfl cV hy rfl (Nat.le_of_ble_eq_true rfl) rfl
    refine ⟨w',?_,?_⟩
    · simp only [FP.adr,iX,Nat.add_assoc]; exact h1
    · have ht:(x.phases.modify i fun y=>{ y with of:=fO y.of v }).map tI=x.phases.map tI:=by
        refine vB (g:=tI) (fun y=>?_) _ _
        rfl
      simp only [FP.put,Hx,ht]; rw [eZ _ hy]; exact h2
  | pa i =>
    obtain ⟨y,hy,rfl⟩:=one hg
    obtain ⟨w',h1,h2⟩:=iK (P:=P) h 1 i 9 (e:=157) (c:=x.phasesC) { y with a:=fO y.a v } [I v] rfl cV hy rfl (Nat.le_of_ble_eq_true rfl) rfl
    refine ⟨w',?_,?_⟩
    · simp only [FP.adr,iX,Nat.add_assoc]; exact h1
    · have ht:(x.phases.modify i fun y=>{ y with a:=fO y.a v }).map tI=x.phases.map tI:=by
        refine vB (g:=tI) (fun y=>?_) _ _
        rfl
      simp only [FP.put,Hx,ht]; rw [eZ _ hy]; exact h2
  | pb i =>
    obtain ⟨y,hy,rfl⟩:=one hg
    obtain ⟨w',h1,h2⟩:=iK (P:=P) h 1 i 11 (e:=157) (c:=x.phasesC) { y with b:=fO y.b v } [I v] rfl cV hy rfl (Nat.le_of_ble_eq_true rfl) rfl
    refine ⟨w',?_,?_⟩
    · simp only [FP.adr,iX,Nat.add_assoc]; exact h1
    · have ht:(x.phases.modify i fun y=>{ y with b:=fO y.b v }).map tI=x.phases.map tI:=by
        refine vB (g:=tI) (fun y=>?_) _ _
        rfl
      simp only [FP.put,Hx,ht]; rw [eZ _ hy]; exact h2
  | ca i =>
    obtain ⟨y,hy,rfl⟩:=one hg
    obtain ⟨w',h1,h2⟩:=iK (P:=P) h 0 i 3 (e:=178) (c:=x.condsC) { y with a:=fO y.a v } [I v] rfl eR hy rfl (Nat.le_of_ble_eq_true rfl) rfl
    refine ⟨w',?_,?_⟩
    · simp only [FP.adr,iX,Nat.add_assoc]; exact h1
    · simp only [FP.put,eZ _ hy]; exact h2
  | cb i =>
    obtain ⟨y,hy,rfl⟩:=one hg
    obtain ⟨w',h1,h2⟩:=iK (P:=P) h 0 i 5 (e:=178) (c:=x.condsC) { y with b:=fO y.b v } [I v] rfl eR hy rfl (Nat.le_of_ble_eq_true rfl) rfl
    refine ⟨w',?_,?_⟩
    · simp only [FP.adr,iX,Nat.add_assoc]; exact h1
    · simp only [FP.put,eZ _ hy]; exact h2
  | pteam i j =>
    simp only [FP.get] at hg
    cases hp:x.phases[i]? with
    | none=>rw [hp] at hg; cases hg
    | some q =>
      rw [hp] at hg
      have hg':q.teams[j]?=some r:=hg
      have hi:i<x.phases.length:=(List.getElem?_eq_some_iff.1 hp).1
      have hk:(Hx x++Z)[6+i]?=some (oR 148 2 bN q.teamsA q.teamsC q.teams):=by
        have e:(Hx x++Z)[6+i]?=(x.phases.map tI++Z)[i]?:=by
          rw [Nat.add_comm]; rfl
        rw [e,List.getElem?_append_left (by simpa using hi)]
        simp [hp,tI]
      obtain ⟨w',h1,h2⟩:=iK (P:=P) h (6+i) j 1 (fO r v) [I v] hk eI hg' rfl (Nat.le_of_ble_eq_true rfl) rfl
      refine ⟨w',?_,?_⟩
      · have e:FP.adr x (.pteam i j)=kK q.teamsA (j*2):=by simp [FP.adr,List.getD_eq_getElem?_getD,hp]
        rw [e,iX]; exact h1
      · have e1:(Hx x++Z).set (6+i) (oR 148 2 bN q.teamsA q.teamsC (q.teams.set j (fO r v))) =
            oR 178 21 aV x.condsA x.condsC x.conds::oR 157 14 aK x.phasesA x.phasesC x.phases::oR 160 4 bU x.teamsA x.teamsC x.teams ::
            oR 152 7 bG x.groundsA x.groundsC x.grounds::oR 207 3 bY x.depotsA x.depotsC x.depots::oR 205 5 cY x.waysA x.waysC x.ways::(x.phases.map tI++Z).set i (oR 148 2 bN q.teamsA q.teamsC (q.teams.set j (fO r v))):=by
          rw [Nat.add_comm]; rfl
        rw [e1,QA _ _ _ (by simpa using hi)] at h2
        have e2:(x.phases.modify i fun y=>{ y with teams:=y.teams.modify j fun r=>fO r v }).map tI=(x.phases.map tI).set i (oR 148 2 bN q.teamsA q.teamsC (q.teams.set j (fO r v))):=by
          rw [eZ _ hp,List.map_set]
          simp only [tI,eZ _ hg']
        have e3:oR 157 14 aK x.phasesA x.phasesC (x.phases.modify i fun y=>{ y with teams:=y.teams.modify j fun r=>fO r v })=oR 157 14 aK x.phasesA x.phasesC x.phases:=by
          have hf:(x.phases.modify i fun y=>{ y with teams:=y.teams.modify j fun r=>fO r v }).map aK=x.phases.map aK:=vB (fun y=>by simp [aK]) _ _
          unfold oR
          rw [List.flatMap_def,hf,← List.flatMap_def]
          simp
        simp only [FP.put,Hx,e2,e3]
        exact h2
end mem
end Go.Fz
namespace Go.Fz
open Go Go.RowKit
def CJ (n:cE) (k:Int):List ByteArray:=if k=0 then n.towns else if k=1 then n.grounds else if k=2 then n.teams else if k=3 then n.windows else if k=4 then n.slots else if k=5 then n.phases else n.conds
def q5 (xs:List ByteArray):Bool:=((mK Value.string (aS xs xs.length)).length:Int)==(xs.length:Int)
def gP (xs:List ByteArray) (s:ByteArray):Int:=match qX (aS xs xs.length) s with | some (.int .i64 j)=>j | _=>0
def mY (xs:List ByteArray) (s:ByteArray):Bool:=(qX (aS xs xs.length) s).isSome
theorem QC {α:Type} [BEq α] {ps:List (α × Value)} {k:α} {x:Value} {y:α × Value} (h:y∈tF ps k x):y∈ps∨y=(k,x):=by
  unfold tF at h
  split at h
  · rcases List.mem_or_eq_of_mem_set h with h | h
    · exact .inl h
    · exact .inr h
  · rcases List.mem_append.1 h with h | h
    · exact .inl h
    · exact .inr (by simpa using h)
theorem GZ (xs:List ByteArray):∀ (k:Nat),∀ p∈aS xs k,∃ j:Int,p.2=I j
  | 0,p,h=>by simp [aS] at h
  | k+1,p,h=>by
    have e:aS xs (k+1)=tF (aS xs k) (xs.getD k ⟨#[]⟩) (I k):=by simp [aS,List.range_succ]
    rw [e] at h
    rcases QC h with h | h
    · exact GZ xs k p h
    · subst h; exact ⟨k,rfl⟩
theorem T1 (xs:List ByteArray) (s:ByteArray):(qX (aS xs xs.length) s).getD (I 0)=I (gP xs s):=by
  unfold gP
  cases h:qX (aS xs xs.length) s with
  | none=>rfl
  | some v =>
    unfold qX at h
    cases hi:vS (aS xs xs.length) s with
    | none=>rw [hi] at h; cases h
    | some j =>
      rw [hi] at h
      simp only [Option.bind_some] at h
      cases hj:(aS xs xs.length)[j]? with
      | none=>rw [hj] at h; cases h
      | some q =>
        rw [hj] at h
        obtain ⟨i,hq⟩:=GZ xs xs.length q (List.mem_of_getElem? hj)
        have:v=I i:=by rw [← hq]; exact (Option.some.inj h).symm
        subst this; rfl
def EB (xs:List ByteArray):Bool := !(decide (kM (fun s => !eO s) xs≥0))
def QD:cW:=⟨⟨#[]⟩,-1⟩
def dI (l:aE) (n:cE) (p:FP):Bool :=
  if p.kind l=7 then (if fE ((p.get l).getD hZ) QD=true then true else false) else
    (if (mY (CJ n (p.kind l)) ((p.get l).getD hZ).name&&decide (gP (CJ n (p.kind l)) ((p.get l).getD hZ).name<p.most l))=true then true else false)
def IX (l:aE) (n:cE) (p:FP) (r:cW):cW:=if p.kind l=7 then r else fO r (gP (CJ n (p.kind l)) r.name)
def bD (l:aE) (n:cE) (pre:List FP) (p:FP) (r:cW):cW:=if p∈pre then IX l n p r else r
def vC (l:aE) (n:cE):Int :=
  if z7 l=true then if eO l.name=true then
    if EB n.towns=true then if EB n.grounds=true then if EB n.teams=true then if EB n.windows=true then if EB n.slots=true then if EB n.phases=true then if EB n.conds=true then
      if q5 n.towns=true then if q5 n.grounds=true then if q5 n.teams=true then if q5 n.windows=true then if q5 n.slots=true then if q5 n.phases=true then if q5 n.conds=true then
        if (hU l&&(flds l).all (dI l n))=true then 0 else 170
      else 171 else 171 else 171 else 171 else 171 else 171 else 171
    else 170 else 170 else 170 else 170 else 170 else 170 else 170
  else 170 else 2
structure oT where
  out:aE
  err:Int
def KU (y:oT):Value:=.tuple #[.agg (aB y.out).toArray,I y.err]
def xF (y:oT):List Item:=if y.err=0 then Hx y.out else []
structure T2 (l:aE) (n:cE) (out:aE):Prop where
  get:∀ p:FP,p.get out=(p.get l).map (bD l n (flds l) p)
  fl:flds out=flds l
  musts:hU out=true
  small:jF out
  good:∀ p∈flds l,dI l n p=true
def QE (l:aE) (y:oT):Prop:=∃ n,gZ l n∧y.err=vC l n∧(y.err=0→T2 l n y.out)
theorem fN {out:aE} {e:Int} (h:e≠0):xF ⟨out,e⟩=[]:=if_neg h
theorem vD {l:aE} {p:FP} (h:p∈flds l):∃ r,p.get l=some r:=by
  have one:∀ {α:Type} {xs:List α} {i:Nat} (g:α→cW),i<xs.length→∃ r,(xs[i]?).map g=some r:=fun {α xs i} g hi=>⟨g xs[i],by rw [List.getElem?_eq_getElem hi]; rfl⟩
  simp only [flds,List.mem_append] at h
  rcases h with ((((h | h) | h) | h) | h) | h
  · obtain ⟨i,hi,hp⟩:=List.mem_flatMap.1 h
    have hi:=List.mem_range.1 hi
    simp only [List.mem_cons,List.not_mem_nil,or_false] at hp
    rcases hp with rfl | rfl <;> exact one _ hi
  · obtain ⟨i,hi,rfl⟩:=List.mem_map.1 h; exact one _ (List.mem_range.1 hi)
  · obtain ⟨i,hi,rfl⟩:=List.mem_map.1 h; exact one _ (List.mem_range.1 hi)
  · obtain ⟨i,hi,rfl⟩:=List.mem_map.1 h; exact one _ (List.mem_range.1 hi)
  · obtain ⟨i,hi,hp⟩:=List.mem_flatMap.1 h
    have hi:=List.mem_range.1 hi
    simp only [FB,List.mem_append,List.mem_cons,List.not_mem_nil,or_false] at hp
    rcases hp with (rfl | hp) | rfl | rfl | rfl
    · exact one _ hi
    · obtain ⟨j,hj,rfl⟩:=List.mem_map.1 hp
      have hj:=List.mem_range.1 hj
      rw [List.getD_eq_getElem?_getD,List.getElem?_eq_getElem hi] at hj
      exact ⟨l.phases[i].teams[j]'hj,by simp only [FP.get]; rw [List.getElem?_eq_getElem hi]; exact List.getElem?_eq_getElem hj⟩
    · exact one _ hi
    · exact one _ hi
    · exact one _ hi
  · obtain ⟨i,hi,hp⟩:=List.mem_flatMap.1 h
    have hi:=List.mem_range.1 hi
    simp only [List.mem_cons,List.not_mem_nil,or_false] at hp
    rcases hp with rfl | rfl <;> exact one _ hi
theorem EC (k:Int):l9 k=0∨l9 k=1∨l9 k=2∨l9 k=7:=by
  unfold l9
  by_cases h0:k=4
  · rw [if_pos h0]; simp
  rw [if_neg h0]
  by_cases h1:k=5
  · rw [if_pos h1]; simp
  rw [if_neg h1]
  by_cases h2:k=7
  · rw [if_pos h2]; simp
  rw [if_neg h2]
  by_cases h3:k=6
  · rw [if_pos h3]; simp
  rw [if_neg h3]
  by_cases h4:k=8
  · rw [if_pos h4]; simp
  rw [if_neg h4]
  by_cases h5:k=9
  · rw [if_pos h5]; simp
  rw [if_neg h5]
  simp
theorem ED (k:Int):nY k=2∨nY k=7:=by
  unfold nY
  by_cases h0:k=6
  · rw [if_pos h0]; simp
  rw [if_neg h0]
  by_cases h1:k=8
  · rw [if_pos h1]; simp
  rw [if_neg h1]
  by_cases h2:k=9
  · rw [if_pos h2]; simp
  rw [if_neg h2]
  simp
theorem G0 (l:aE) (p:FP):p.kind l=0∨p.kind l=1∨p.kind l=2∨p.kind l=3∨p.kind l=5∨p.kind l=7:=by
  cases p <;> simp only [FP.kind]
  all_goals first
    | (split <;> simp; done)
    | simp; done
    | skip
  · rename_i i; have:=EC (l.conds.getD i dZ).kind; omega
  · rename_i i; have:=ED (l.conds.getD i dZ).kind; omega
def AI (ps:List aX) (ts:List (Option Addr × Nat)):List aX:=ps.mapIdx fun i p=>match ts[i]? with
  | some t=>{ p with teamsA:=t.1,teamsC:=t.2 }
  | none=>p
theorem T3 (ps:List aX):AI ps []=ps:=by
  apply List.ext_getElem?
  intro i
  simp only [AI,List.getElem?_mapIdx,List.getElem?_nil]
  cases ps[i]? <;> rfl
theorem kV (ps:List aX) (ts:List (Option Addr × Nat)):(AI ps ts).length=ps.length:=by simp [AI]
theorem XM {ps:List aX} {ts:List (Option Addr × Nat)} {k:Nat} {p:aX} (h:ps[k]?=some p) (hk:ts.length=k):(AI ps ts)[k]?=some p:=by
  simp [AI,List.getElem?_mapIdx,h,List.getElem?_eq_none (show ts.length≤k by omega)]
theorem KV {ps:List aX} {ts:List (Option Addr × Nat)} {k:Nat} {p:aX} (h:ps[k]?=some p) (hk:ts.length=k) (t:Option Addr × Nat):(AI ps ts).set k { p with teamsA:=t.1,teamsC:=t.2 }=AI ps (ts++[t]):=by
  apply List.ext_getElem?
  intro i
  rw [List.getElem?_set,kV]
  simp only [AI,List.getElem?_mapIdx]
  have hlt:=(List.getElem?_eq_some_iff.1 h).1
  by_cases e:k=i
  · subst e
    rw [if_pos rfl,if_pos hlt,h]
    simp [List.getElem?_append_right (show ts.length≤k by omega),hk]
  · rw [if_neg e]
    rcases Nat.lt_or_ge i k with h' | h'
    · rw [List.getElem?_append_left (by omega)]
    · rw [List.getElem?_eq_none (show ts.length≤i by omega),List.getElem?_eq_none (show (ts++[t]).length≤i by simp; omega)]
theorem QF {ps:List aX} {ts:List (Option Addr × Nat)} {k:Nat} {p:aX} (h:ps[k]?=some p) (hk:ts.length=k) (t:Option Addr × Nat) :
    ((AI ps (ts++[t])).take (k+1)).map tI=((AI ps ts).take k).map tI++[oR 148 2 bN t.1 t.2 p.teams]:=by
  have hlt:=(List.getElem?_eq_some_iff.1 h).1
  rw [← KV h hk t,List.take_add_one]
  have h1:((AI ps ts).set k { p with teamsA:=t.1,teamsC:=t.2 })[k]?=some { p with teamsA:=t.1,teamsC:=t.2 }:=by
    rw [List.getElem?_set,if_pos rfl,if_pos (by rw [kV]; exact hlt)]
  rw [h1,List.take_set_of_le (Nat.le_refl _)]
  simp [tI]
end Go.Fz
namespace Go.Fz
open Go Go.RowKit
abbrev fV (x:Nat):List Value:=[.map (some x)]
theorem eN:EncOk fV 1:=⟨by decide,fun _=>rfl,fun x v hv=>List.all_eq_true.1 (rfl:(fV x).all Value.oneCell'=true) v hv⟩
theorem CK {l:aE} (h:z7 l=true):jF l:=by
  rw [GR] at h
  have h1:=DD h
  refine ⟨?_,?_,?_,?_,?_,?_,fun p hp=>?_⟩
  iterate 6 omega
  have:=DC h hp
  omega
theorem MI (l:aE) (n:cE) (p:FP) (r:cW):bD l n [] p r=r:=by simp [bD]
theorem KW {f:FP→cW→cW} (h:∀ p r,f p r=r) (l:aE):dH f l=l:=by
  have e:f=fun _ r=>r:=by funext p r; exact h p r
  subst e
  have hid:∀ {α:Type} (xs:List α) (g:Nat→α→α),(∀ i x,g i x=x)→xs.mapIdx g=xs:=fun {α} xs g hg=>by
    apply List.ext_getElem?
    intro i
    rw [List.getElem?_mapIdx]
    cases xs[i]? <;> simp [hg]
  unfold dH
  rw [hid l.ways _ (fun _ _=>rfl),hid l.depots _ (fun _ _=>rfl),hid l.grounds _ (fun _ _=>rfl),hid l.teams _ (fun _ _=>rfl),hid l.conds _ (fun _ _=>rfl),hid l.phases _ (fun i p=>by simp only [lC]; rw [hid p.teams _ (fun _ _=>rfl)])]
structure CopyL (l lb:aE):Prop where
  ways:lb.ways=l.ways
  depots:lb.depots=l.depots
  grounds:lb.grounds=l.grounds
  teams:lb.teams=l.teams
  conds:lb.conds=l.conds
  phases:∃ ts,lb.phases=AI l.phases ts
theorem sD (ps:List aX) (ts:List (Option Addr × Nat)) (i:Nat):∃ f:aX→aX,(AI ps ts)[i]?=(ps[i]?).map f∧∀ p,(f p).kind=p.kind∧(f p).window=p.window∧(f p).teams=p.teams∧(f p).of=p.of∧(f p).a=p.a∧(f p).b=p.b:=by
  refine ⟨fun p=>match ts[i]? with | some t=>{ p with teamsA:=t.1,teamsC:=t.2 } | none=>p,by simp only [AI,List.getElem?_mapIdx] <;> cases ts[i]? <;> rfl,fun p=>?_⟩
  cases ts[i]? <;> simp
theorem CopyL.get {l lb:aE} (h:CopyL l lb) (p:FP):p.get lb=p.get l:=by
  obtain ⟨h1,h2,h3,h4,h5,ts,h6⟩:=h
  cases p <;> simp only [FP.get,h1,h2,h3,h4,h5,h6]
  all_goals
    rename_i i
    obtain ⟨f,hf,hp⟩:=sD l.phases ts i
    first
      | (rw [hf]; cases l.phases[i]? with
          | none=>rfl
          | some q=>simp [hp q])
      | skip
  rename_i j
  obtain ⟨f,hf,hp⟩:=sD l.phases ts j
  rw [hf]
  cases l.phases[j]? with
  | none=>rfl
  | some q=>simp [hp q]
theorem CopyL.ph {l lb:aE} (h:CopyL l lb) (i:Nat):(lb.phases.getD i aF).kind=(l.phases.getD i aF).kind∧(lb.phases.getD i aF).teams=(l.phases.getD i aF).teams:=by
  obtain ⟨ts,h6⟩:=h.phases
  obtain ⟨f,hf,hp⟩:=sD l.phases ts i
  simp only [List.getD_eq_getElem?_getD,h6,hf]
  cases l.phases[i]? with
  | none=>simp
  | some q=>simp [hp q]
theorem CopyL.plen {l lb:aE} (h:CopyL l lb):lb.phases.length=l.phases.length:=by
  obtain ⟨ts,h6⟩:=h.phases; rw [h6,kV]
theorem CopyL.kind {l lb:aE} (h:CopyL l lb) (p:FP):p.kind lb=p.kind l:=by
  cases p <;> simp only [FP.kind,(h.ph _).1,h.conds]
theorem CopyL.most {l lb:aE} (h:CopyL l lb) (p:FP):p.most lb=p.most l:=by
  cases p <;> simp only [FP.most,(h.ph _).1]
theorem CopyL.flds {l lb:aE} (h:CopyL l lb):flds lb=flds l:=by
  unfold Fz.flds
  rw [h.ways,h.depots,h.grounds,h.teams,h.conds,GX (qs:=l.phases) (fun i=>by rw [(h.ph i).2]),h.plen]
theorem CopyL.musts {l lb:aE} (h:CopyL l lb):hU lb=hU l:=by
  obtain ⟨ts,h6⟩:=h.phases
  have h1:lb.phases.all kB=l.phases.all kB:=by
    have hm:∀ (f:aX→aX) (p:aX),(f p).kind=p.kind→(f p).teams=p.teams→kB (f p)=kB p:=fun f p h1 h2=>by simp only [kB,h1,h2]
    rw [h6,Bool.eq_iff_iff,List.all_eq_true,List.all_eq_true]
    constructor
    · intro hh p hp
      obtain ⟨i,hi⟩:=List.getElem?_of_mem hp
      obtain ⟨f,hf,hq⟩:=sD l.phases ts i
      rw [hi] at hf
      have:=hh _ (List.mem_of_getElem? hf)
      rwa [hm f p (hq p).1 (hq p).2.2.1] at this
    · intro hh p hp
      obtain ⟨i,hi⟩:=List.getElem?_of_mem hp
      obtain ⟨f,hf,hq⟩:=sD l.phases ts i
      rw [hi] at hf
      cases hl:l.phases[i]? with
      | none=>rw [hl] at hf; cases hf
      | some q =>
        rw [hl] at hf
        obtain rfl:=Option.some.inj hf
        rw [hm f q (hq q).1 (hq q).2.2.1]
        exact hh q (List.mem_of_getElem? hl)
  unfold hU; rw [h1,h.conds]
theorem CopyL.small {l lb:aE} (h:CopyL l lb) (hs:jF l):jF lb:=by
  obtain ⟨ts,h6⟩:=h.phases
  refine ⟨by rw [h.ways]; exact hs.ways,by rw [h.depots]; exact hs.depots,by rw [h.grounds]; exact hs.grounds,by rw [h.teams]; exact hs.teams,by rw [h.plen]; exact hs.phases,by rw [h.conds]; exact hs.conds,fun p hp=>?_⟩
  rw [h6] at hp
  obtain ⟨i,hi⟩:=List.getElem?_of_mem hp
  obtain ⟨f,hf,hq⟩:=sD l.phases ts i
  rw [hi] at hf
  cases hl:l.phases[i]? with
  | none=>rw [hl] at hf; cases hf
  | some q =>
    rw [hl] at hf
    obtain rfl:=Option.some.inj hf
    rw [(hq q).2.2.1]
    exact hs.pteams q (List.mem_of_getElem? hl)
end Go.Fz
namespace Go.Fz
open Go Go.RowKit
theorem jK (l:aE) (p:FP):(p.adr l).spot=none:=by cases p <;> rfl
section q
variable {P:Program} {w w0:World} {H Z:List Item} {x:aE}
theorem NA (w:World) (ad:Addr) (hsp:ad.spot=none) {s f off ft:Nat} (h:FieldT P s f off ft):Yv P w (Instr.fieldAt s (Pa ad) f) (Pa (ad.add off)):=by
  obtain ⟨b,o,sp⟩:=ad
  simp only at hsp
  subst hsp
  have:=fa (P:=P) w b o h
  simpa [gW] using this
theorem T4 {p:FP} {r:cW} {t:TypeId} (ht:AggT P t 2) (h:St w0 (Hx x++Z) w) (hs:jF x) (hg:p.get x=some r):Yv P w (Instr.loadAt t (Pa (p.adr x))) (.agg (bN r).toArray):=fun w' hw'=>by
  obtain ⟨h1,h2⟩:=IW (h.grow hw') hs hg
  have hc:∀ j v,(bN r)[j]?=some v→w'.cell? ((p.adr x).add j)=some v:=fun j v hv=>by
    match j,hv with
    | 0,hv =>
      have:(p.adr x).add 0=p.adr x:=by simp [Addr.add]
      rw [this]; simp only [bN,List.getElem?_cons_zero,Option.some.injEq] at hv; rw [h1,hv]
    | 1,hv=>simp only [bN,List.getElem?_cons_succ,List.getElem?_cons_zero,Option.some.injEq] at hv; rw [h2,hv]
    | j+2,hv=>simp [bN] at hv
  simp [Instr.loadAt,Instr.sureAddr,CQ ht (vs:=bN r) rfl hc]
theorem T5 {p:FP} {r:cW} {t:TypeId} (ht:Scalar P t) (h:St w0 (Hx x++Z) w) (hs:jF x) (hg:p.get x=some r):Yv P w (Instr.loadAt t (Pa ((p.adr x).add 0))) (.string r.name):=fun w' hw'=>by
  obtain ⟨h1,h2⟩:=IW (h.grow hw') hs hg
  have:(p.adr x).add 0=p.adr x:=by simp [Addr.add]
  rw [this]
  simp [Instr.loadAt,Instr.sureAddr,lX ht h1]
theorem T6 {p:FP} {r:cW} {t:TypeId} (ht:Scalar P t) (h:St w0 (Hx x++Z) w) (hs:jF x) (hg:p.get x=some r):Yv P w (Instr.loadAt t (Pa ((p.adr x).add 1))) (I r.n):=fun w' hw'=>by
  obtain ⟨h1,h2⟩:=IW (h.grow hw') hs hg
  simp [Instr.loadAt,Instr.sureAddr,lX ht h2]
theorem St.fr {F:List Item} (h:St w0 (F++(H++Z)) w):St w0 (H++(F++Z)) w:=h.perm (List.perm_append_comm_assoc _ _ _)
variable {n:Nat} {ds:List Deferred} {E:List d9} {a:Act} {l:List Oper} {Q:Exit→Act→World→Prop}
theorem lsf (F:List Item) {p:FP} {r:cW} (s:Sta n ds w0 E (F++(Hx x++Z)) a w) (k:Nat) {t ty:Nat} {ax vx:Operand} {pos:String} {after:Array Edge} (v:Int) (ho:l[k]?=some ⟨none,.store t ax vx,ty,pos,after,none⟩)
    (ha:rd E [] ax=some (Pa ((p.adr x).add 1))) (hv:rd E [] vx=some (I v)) (hsz:SizeT P t 1) (hg:p.get x=some r) (next:∀ w',Sta n ds w0 E (F++(Hx (p.put x v)++Z)) a w'→WL P l Q (k+1) a w'):WL P l Q k a w:=by
  refine WL.loud k ho rfl fun K hK=>?_
  obtain ⟨w',hr,hst⟩:=QB (P:=P) s.m.fr hg v
  have hrun:(execOp a.eval ⟨none,.store t ax vx,ty,pos,after,none⟩).run P w=.ok .skip w':=by
    simp [execOp,Instr.storeAt,Instr.sureAddr,vL s.f ha,vL s.f hv,storeVar,hsz w,Value.cells,hr]
  simp only [Oper.wp,hrun,Oper.upon]
  exact hK _ _ (next w' ⟨s.f,s.d,hst.perm (List.perm_append_comm_assoc _ _ _)⟩)
theorem G1 {B:Nat} {lb:aE} {f:FP→cW→cW} (hd:Row w (some ⟨B,0,none⟩) 15 aB [lb]) (h:St w0 (Hx (dH f lb)++Z) w) (hs:jF lb):GV w B lb:=by
  have hm:∀ it,it∈Hx (dH f lb)→it∈Hx (dH f lb)++Z:=fun it hit=>List.mem_append_left _ hit
  have sm:=qH (f:=f) hs
  have shape:∀ {α:Type} {oa:Option Addr} {sz:Nat} {enc:α→List Value} {encO:α→List (Option Value)} {xs:List α} {g:Nat→α→α} (hr:Row w oa sz enc (xs.mapIdx g)) (he:∀ i x j v,(encO x)[j]?=some (some v)→(enc (g i x))[j]?=some v),RowO w oa sz encO xs :=
    fun {α oa sz enc encO xs g} hr he=>⟨fun hne=>hr.ne (fun e=>hne (by simpa using e)),fun i x j v hx hv=>hr.cell i (g i x) j v (by rw [List.getElem?_mapIdx,hx]; rfl) (he i x j v hv),by simpa using hr.small⟩
  have no:∀ {α:Type} {enc:α→List Value} {g:Nat→α→α},∀ (i:Nat) (x:α) (j:Nat) (v:Value),(qT x)[j]?=some (some v)→(enc (g i x))[j]?=some v:=fun i x j v hv=>by simp [qT] at hv
  refine ⟨hd,?_,?_,?_,?_,?_,?_,fun p hp=>?_⟩
  · exact shape (h.row_mem (e:=205) (c:=lb.waysC) (enc:=cY) (sz:=5) (xs:=(dH f lb).ways) (hm _ (by simp [Hx,dH])) d6 (by have:=sm.ways; omega)) no
  · exact shape (h.row_mem (e:=207) (c:=lb.depotsC) (enc:=bY) (sz:=3) (xs:=(dH f lb).depots) (hm _ (by simp [Hx,dH])) eJ (by have:=sm.depots; omega)) no
  · exact shape (h.row_mem (e:=152) (c:=lb.groundsC) (enc:=bG) (sz:=7) (xs:=(dH f lb).grounds) (hm _ (by simp [Hx,dH])) dQ (by have:=sm.grounds; omega)) no
  · exact shape (h.row_mem (e:=160) (c:=lb.teamsC) (enc:=bU) (sz:=4) (xs:=(dH f lb).teams) (hm _ (by simp [Hx,dH])) dF (by have:=sm.teams; omega)) no
  · refine shape (h.row_mem (e:=157) (c:=lb.phasesC) (enc:=aK) (sz:=14) (xs:=(dH f lb).phases) (hm _ (by simp [Hx,dH])) cV (by have:=sm.phases; omega)) (fun i x j v hv=>?_)
    match j,hv with
    | 0,hv=>simp [mA] at hv
    | 1,hv=>simp [mA] at hv; simp [aK,lC,hv]
    | 2,hv=>simp [mA] at hv
    | 3,hv=>simp [mA] at hv
    | 4,hv=>simp [mA] at hv; simp [aK,lC,hv]
    | j+5,hv=>simp [mA] at hv
  · refine shape (h.row_mem (e:=178) (c:=lb.condsC) (enc:=aV) (sz:=21) (xs:=(dH f lb).conds) (hm _ (by simp [Hx,dH])) eR (by have:=sm.conds; omega)) (fun i x j v hv=>?_)
    match j,hv with
    | 0,hv=>simp [tT] at hv
    | 1,hv=>simp [tT] at hv; simp [aV,hv]
    | j+2,hv=>simp [tT] at hv
  · obtain ⟨i,hi,rfl⟩:=List.getElem_of_mem hp
    have hq:lC f i lb.phases[i]∈(dH f lb).phases:=List.mem_mapIdx.2 ⟨i,hi,rfl⟩
    have:=h.row_mem (e:=148) (c:=(lC f i lb.phases[i]).teamsC) (enc:=bN) (sz:=2) (oa:=(lC f i lb.phases[i]).teamsA) (xs:=(lC f i lb.phases[i]).teams) (hm _ (by
      simp only [Hx,List.mem_cons,List.mem_map]; exact .inr (.inr (.inr (.inr (.inr (.inr ⟨_,hq,rfl⟩))))))) eI (by have:=sm.pteams _ hq; omega)
    exact shape (g:=fun j r=>f (.pteam i j) r) this no
end q
structure RecIs (r:Loop) (fn:FuncId) (tmps:Array Value) (ps:Array Tmp) (assign body:Code):Prop where
  fn:r.fn=fn
  tmps:r.tmps=tmps
  params:r.params=ps
  assign:r.assign=assign
  body:r.body=body
  state:r.state=.ready
  pending:r.pending=none
theorem RecIs.back {r:Loop} {fn:FuncId} {tmps:Array Value} {ps:Array Tmp} {assign body:Code} (h:RecIs r fn tmps ps assign body):({ ({ r with state:=.busy }:Loop) with state:=.ready,pending:=none }:Loop)=r:=by
  obtain ⟨h1,h2,h3,h4,h5,h6,h7⟩:=h
  cases r; simp_all
theorem wO {P:Program} {w w0:World} {H:List Item} {n:Nat} {ds:List Deferred} {E:List d9} {a:Act} {Q:Exit→Act→World→Prop} {fn:FuncId} {g:Operand} {ps:Array Tmp} {assign body:Code} {f:FuncId} {fi ca:Array Value}
    (s:Sta n ds w0 E H a w) (hg:rd E [] g=some (.func (.func f) fi ca)) (hent:Enters P f)
    (h:∀ L D r w1,RecIs r fn a.tmps ps assign body→St w0 (nK L r::pN D (some [])::H) w1 →
      Calls P f (fi.toList++[yv L]++ca.toList).toArray w1 fun e w'=>match e with
        | .returned _=>∃ r H',St w0 (nK L r::H') w'∧r.state≠.busy∧∀ w4,Sta n (nL D::ds) w0 E (nK L { r with state:=.exhausted }::H') { a with defers:=nL D::a.defers } w4 →
            (match r.pending with
              | none=>Q .normal { a with defers:=nL D::a.defers } w4
              | some c=>wq P fn c Q { a with defers:=nL D::a.defers } w4)
        | .panicked ch=>Q (.panic ch) { a with defers:=nL D::a.defers } w'
        | .outgrown=>LetsOut Q):wq P fn (.rangeFunc g ps assign body) Q a w :=
  NN s hg hent fun L D w1 st1=>h L D _ w1 ⟨rfl,rfl,rfl,rfl,rfl,rfl,rfl⟩ st1
theorem tU {P:Program} {w w0:World} {H:List Item} {L i:Nat} {r:Loop} {fn:FuncId} {tmps:Array Value} {p:Nat} {assign body:Code} {v:Value} {R:Ending→World→Prop} {fnn:Func} {n:Nat} {E:List d9} {ds:List Deferred} {a0:Act} {wa:World} {Ha:List Item} (hr:RecIs r fn tmps #[p] assign body)
    (h:St w0 H w) (hi:H[i]?=some (nK L r)) (hf:P.funcs[fn]?=some fnn) (sa:Sta n ds w0 E Ha a0 wa) (ht:tmps=a0.tmps) (hok:eT n E p []=true)
    (hb:∀ a,Sta n [] w0 (Fz.put E p [] v) H a w→assign.wpIn (Fr (some L)) 0 P (Exit.then (fun a₁ w₁=>∃ w₂,(Instr.beginRound L).run P w₁=.ok () w₂∧body.wpIn (Fr (some L)) 0 P (vQ P L R) a₁ w₂) (fun _ _ _=>False)) a w):Fz.Yields P L [v] w R:=by
  refine CX h hi (by rw [hr.params]; rfl) (by rw [hr.fn]; exact hf) ?_
  rw [hr.assign,hr.body,hr.params,hr.tmps,ht]
  exact hb _ ⟨Fits.round1 sa.f v hok,rfl,h⟩
theorem wP {P:Program} {w w0:World} {H:List Item} {L i:Nat} {r:Loop} {n:Nat} {E:List d9} {ds:List Deferred} {a:Act} {K:World→Prop} (s:Sta n ds w0 E H a w) (hi:H[i]?=some (nK L r)) (hr:r.state=.ready)
    (k:∀ w2,Sta n ds w0 E (H.set i (nK L { r with state:=.busy })) a w2→K w2):∃ w₂,(Instr.beginRound L).run P w=.ok () w₂∧K w₂ :=
  FS s.m hi hr fun w2 h=>k w2 ⟨s.f,s.d,h⟩
end Go.Fz
namespace Go.Fz
open Go Go.RowKit
theorem St.picks {w0 w:World} {K Z:List Item} (d:Item) (is rest:List Nat) (h:St w0 (K++Z) w) (hp:List.isPerm (is++rest) (List.range K.length)=true) (hK:(List.range K.length).map (fun i=>K.getD i d)=K):St w0 (is.map (fun i=>K.getD i d)++Z) w:=by
  have h1:=(List.isPerm_iff.1 hp).map (fun i=>K.getD i d)
  rw [hK,List.map_append] at h1
  have h2:=h.perm (h1.append_right Z)
  rw [List.append_assoc] at h2
  exact h2.sub ((List.Sublist.refl _).append (List.sublist_append_right _ _))
def V4 (Q:Exit→Act→World→Prop):Exit→Act→World→Prop
  | .normal,a,w=>Q .normal a w
  | _,_,_=>False
theorem AJ {P:Program} {Q:Exit→Act→World→Prop} {a:Act} {w:World} {c:Code} (h:c.wp P (V4 Q) a w):c.wp P Q a w :=
  wp_mono h fun e a w hq=>by cases e <;> first | exact hq | exact hq.elim
theorem onN {Q:Exit→Act→World→Prop} {a:Act} {w:World} (h:Q .normal a w):V4 Q .normal a w:=h
def rS:Code→Code
  | .seq _ y=>y
  | c=>c
def ad7 (f:Func):Code:=f.body.getD .skip
end Go.Fz
namespace Go.Fz
open Go Go.RowKit
theorem jG {α β:Type} {g g':Nat→α→β} {xs:List α} (h:∀ i x,xs[i]?=some x→g i x=g' i x):xs.mapIdx g=xs.mapIdx g':=by
  apply List.ext_getElem?
  intro i
  rw [List.getElem?_mapIdx,List.getElem?_mapIdx]
  cases hx:xs[i]? with
  | none=>rfl
  | some x=>simp [h i x hx]
theorem IY {f f':FP→cW→cW} {l:aE} (h:∀ q x,FP.get l q=some x→f q x=f' q x):dH f l=dH f' l:=by
  rw [jX,jX]
  have h1:mW f l.ways=mW f' l.ways:=jG fun i x hx=>by rw [h (.wayA i) x.a (by simp [FP.get,hx]),h (.wayB i) x.b (by simp [FP.get,hx])]
  have h2:mD f l.depots=mD f' l.depots:=jG fun i x hx=>by rw [h (.depot i) x.town (by simp [FP.get,hx])]
  have h3:mG f l.grounds=mG f' l.grounds:=jG fun i x hx=>by rw [h (.ground i) x.town (by simp [FP.get,hx])]
  have h4:mT f l.teams=mT f' l.teams:=jG fun i x hx=>by rw [h (.team i) x.ground (by simp [FP.get,hx])]
  have h5:HO f l.phases=HO f' l.phases:=jG fun i x hx=>by
    have ht:(x.teams.mapIdx fun j r=>f (.pteam i j) r)=x.teams.mapIdx fun j r=>f' (.pteam i j) r:=jG fun j r hr=>h (.pteam i j) r (by simp [FP.get,hx,hr])
    simp only [lC,ht,h (.window i) x.window (by simp [FP.get,hx]),h (.pof i) x.of (by simp [FP.get,hx]),h (.pa i) x.a (by simp [FP.get,hx]),h (.pb i) x.b (by simp [FP.get,hx])]
  have h6:mC f l.conds=mC f' l.conds:=jG fun i x hx=>by rw [h (.ca i) x.a (by simp [FP.get,hx]),h (.cb i) x.b (by simp [FP.get,hx])]
  rw [h1,h2,h3,h4,h5,h6]
section r
variable {P:Program} {w w0:World} {H Z:List Item} {lb l:aE} {f:FP→cW→cW} {n:cE} {pre:List FP} {p:FP} {r:cW}
theorem QG {t:TypeId} (ht:AggT P t 2) (h:St w0 (Hx (dH f lb)++Z) w) (hs:jF lb) (hg:p.get (dH f lb)=some r):Yv P w (Instr.loadAt t (Pa (p.adr lb))) (.agg (bN r).toArray):=by
  have:=T4 (P:=P) ht h (qH hs) hg
  rwa [AD] at this
theorem rT {t:TypeId} (ht:Scalar P t) (h:St w0 (Hx (dH f lb)++Z) w) (hs:jF lb) (hg:p.get (dH f lb)=some r):Yv P w (Instr.loadAt t (Pa ((p.adr lb).add 0))) (.string r.name):=by
  have:=T5 (P:=P) ht h (qH hs) hg
  rwa [AD] at this
theorem lkT {mt kt et B:Nat} {xs:List ByteArray} (h:St w0 H w) (i:Nat) (ht:P.underlying mt=some (.map kt et)) (hd:P.underlying kt=some .string) (hz:ZeroT P et (I 0)) (hi:H[i]?=some (mI B (mK Value.string (aS xs xs.length)))) (s:ByteArray) :
    Yv P w (Instr.lookup mt (.map (some B)) (.string s) true) (.tuple #[I (gP xs s),Bo (mY xs s)]):=by
  have:=h.lkok (P:=P) i YB ht hd hz hi s
  rw [T1] at this; exact this
theorem AK (f:FP→cW→cW) (l:aE):aB (dH f l)=aB l:=by simp [aB,dH]
theorem T7 (ps:List aX) (ts:List (Option Addr × Nat)):(AI ps ts).take ps.length=AI ps ts:=List.take_of_length_le (by rw [kV]; exact Nat.le_refl _)
theorem St.pure {φ:Prop} (h:St w0 H w) (hp:φ):St w0 (⟨none,fun _=>φ⟩::H) w:=by
  refine ⟨h.below,fun it hit=>?_,fun it hit B hB=>?_,?_⟩
  · rcases List.mem_cons.1 hit with rfl | hit
    · exact hp
    · exact h.ok it hit
  · rcases List.mem_cons.1 hit with rfl | hit
    · cases hB
    · exact h.lo it hit B hB
  · simpa using h.sep
theorem St.pureOf {φ:Prop} (h:St w0 H w) (hm:(⟨none,fun _=>φ⟩:Item)∈H):φ:=h.ok _ hm
abbrev gI (l:aE) (n:cE) (pre:List FP):Item:=⟨none,fun _=>∀ q∈pre,dI l n q=true⟩
abbrev EE:Item:=⟨none,fun _=>False⟩
theorem AL (l:aE) (n:cE) (pre:List FP) (p:FP) (r:cW):(bD l n pre p r).name=r.name:=by
  unfold bD IX
  split
  · split <;> rfl
  · rfl
theorem EF (h:p.kind l=7) (pre:List FP) (r:cW):bD l n pre p r=r:=by
  unfold bD IX; rw [if_pos h]; split <;> rfl
theorem xG (pre:List FP) {q:FP} (h:q≠p):bD l n (pre++[p]) q=bD l n pre q:=by
  funext r; unfold bD; simp [h]
theorem MJ (h:p.kind l=7) (lb:aE):dH (bD l n (pre++[p])) lb=dH (bD l n pre) lb:=by
  have:bD l n (pre++[p])=bD l n pre:=by
    funext q r
    by_cases e:q=p
    · subst e; rw [EF h,EF h]
    · rw [xG pre e]
  rw [this]
theorem QH (h:p.kind l≠7) (lb:aE) (hg:p.get l=some r) (hc:CopyL l lb):dH (bD l n (pre++[p])) lb=p.put (dH (bD l n pre) lb) (gP (CJ n (p.kind l)) r.name):=by
  let f':FP→cW→cW:=fun q x=>if q=p then fO (bD l n pre p x) (gP (CJ n (p.kind l)) r.name) else bD l n pre q x
  have h1:dH f' lb=p.put (dH (bD l n pre) lb) (gP (CJ n (p.kind l)) r.name):=P9 (fun x=>by simp [f']) (fun q hq=>by funext x; simp [f',hq])
  rw [← h1]
  have hget:p.get lb=some r:=by rw [hc.get]; exact hg
  have key:∀ x,p.get lb=some x→bD l n (pre++[p]) p x=f' p x:=fun x hx=>by
    rw [hget] at hx
    obtain rfl:=Option.some.inj hx
    simp only [f',if_true]
    unfold bD IX
    rw [if_pos (by simp),if_neg h]
    split <;> simp [fO,h]
  exact IY fun q x hx=>by
    by_cases e:q=p
    · subst e; exact key x hx
    · rw [xG pre e]; simp [f',e]
end r
end Go.Fz
namespace Go.Fz
open Go Go.RowKit
theorem EG (b:Bool):(if b=true then true else false)=b:=by cases b <;> rfl
section r
variable {lb l:aE} {n:cE} {pre:List FP} {p:FP} {r:cW} {xs:List ByteArray} {k:Int}
theorem wQ (hp:p∈flds l) (h:dI l n p=false):(hU l&&(flds l).all (dI l n))=false:=by
  have:(flds l).all (dI l n)=false:=by rw [List.all_eq_false]; exact ⟨p,hp,by simp [h]⟩
  rw [this,Bool.and_false]
theorem V5 (hg:p.get l=some r) (hk:p.kind l=7):dI l n p=fE (bD l n pre p r) QD:=by
  unfold dI
  rw [if_pos hk,hg,EF hk]
  simp only [Option.getD_some]
  exact EG _
theorem sW (hg:p.get l=some r) (hk:p.kind l=k) (h7:k≠7) (hx:CJ n k=xs) (hm:p.most lb=p.most l) :
    dI l n p=(mY xs (bD l n pre p r).name&&decide (gP xs (bD l n pre p r).name<p.most lb)):=by
  subst hk
  unfold dI
  rw [if_neg h7,hg,hx,AL,hm]
  simp only [Option.getD_some]
  exact EG _
theorem pL (hg:p.get l=some r) (hk:p.kind l=k) (h7:k≠7) (hx:CJ n k=xs) (hc:CopyL l lb):dH (bD l n (pre++[p])) lb=p.put (dH (bD l n pre) lb) (gP xs (bD l n pre p r).name):=by
  subst hk
  rw [QH h7 lb hg hc,hx,AL]
theorem sE (h:∀ q∈pre,dI l n q=true) (hp:dI l n p=true):∀ q∈pre++[p],dI l n q=true:=by
  intro q hq
  rcases List.mem_append.1 hq with hq | hq
  · exact h q hq
  · obtain rfl:q=p:=by simpa using hq
    exact hp
end r
end Go.Fz
namespace Go.Fz
open Go Go.RowKit
theorem QI {P:Program} {w w0:World} {Z:List Item} {n:Nat} {ds:List Deferred} {E:List d9} {a:Act} {l:List Oper} {Q:Exit→Act→World→Prop} {lb:aE} {f:FP→cW→cW} (F:List Item) {p:FP} {r:cW} (s:Sta n ds w0 E (F++(Hx (dH f lb)++Z)) a w) (k:Nat) {t ty:Nat} {ax vx:Operand} {pos:String} {after:Array Edge} (v:Int) (ho:l[k]?=some ⟨none,.store t ax vx,ty,pos,after,none⟩)
    (ha:rd E [] ax=some (Pa ((p.adr lb).add 1))) (hv:rd E [] vx=some (I v)) (hsz:SizeT P t 1) (hg:p.get (dH f lb)=some r) (next:∀ w',Sta n ds w0 E (F++(Hx (p.put (dH f lb) v)++Z)) a w'→WL P l Q (k+1) a w'):WL P l Q k a w :=
  lsf F s k v ho (by rw [AD]; exact ha) hv hsz hg next
end Go.Fz
namespace Go.Fz
open Go Go.RowKit
theorem kN {P:Program} {Q:Exit→Act→World→Prop} {a:Act} {w:World} {l:List Oper} {r:Option Nat} {m:Nat} {id:Nat} (hm:P.follows .mixedOrders=true) (C:World→Prop) (hd:l.all qK=true) (hL:¬ LetsOut Q) (h:DP P l Q C [] a w):(Code.region id l.toArray true).wpIn (Fr r) m P Q a w :=
  CZ hm C (by simpa using hd) hL h
end Go.Fz
namespace Go.Proofs.YtfffbdmdllgalaaGreatDoor
open Go Go.RowKit Go.Fz
set_option maxRecDepth 10000
set_option maxHeartbeats 4000000
theorem iW {w0 w:World} {Z:List Fz.Item} {i0 i1 i2 i3 i4 i5 i6 i7 i8 i9 i10 i11 i12 i13 i14:Fz.Item} (h:St w0 (i0::i1::i2::i3::i4::i5::i6::i7::i8::i9::i10::i11::i12::i13::i14::Z) w):St w0 (i2::i13::i14::[]) w :=
 St.sub (St.picks (K:=[i0,i1,i2,i3,i4,i5,i6,i7,i8,i9,i10,i11,i12,i13,i14]) EE [2,13,14] [0,1,3,4,5,6,7,8,9,10,11,12] h (show List.isPerm ([2,13,14]++[0,1,3,4,5,6,7,8,9,10,11,12]) (List.range 15)=true by decide) rfl) (List.sublist_append_left _ _)
theorem cF {w0 w:World} {Z:List Fz.Item} {i0 i1 i2 i3 i4 i5 i6 i7 i8 i9 i10 i11 i12 i13 i14:Fz.Item} (h:St w0 (i0::i1::i2::i3::i4::i5::i6::i7::i8::i9::i10::i11::i12::i13::i14::Z) w):St w0 (i1::i2::i4::i5::i6::i7::i8::i9::i10::i11::i12::i13::i14::Z) w :=
 (St.picks (K:=[i0,i1,i2,i3,i4,i5,i6,i7,i8,i9,i10,i11,i12,i13,i14]) EE [1,2,4,5,6,7,8,9,10,11,12,13,14] [0,3] h (show List.isPerm ([1,2,4,5,6,7,8,9,10,11,12,13,14]++[0,3]) (List.range 15)=true by decide) rfl)
theorem cC {w0 w:World} {Z:List Fz.Item} {i0 i1 i2 i3 i4 i5 i6 i7 i8 i9 i10 i11 i12 i13:Fz.Item} (h:St w0 (i0::i1::i2::i3::i4::i5::i6::i7::i8::i9::i10::i11::i12::i13::Z) w):St w0 (i1::i2::i0::i3::i4::i5::i6::i7::i8::i9::i10::i11::i12::i13::Z) w :=
 (St.picks (K:=[i0,i1,i2,i3,i4,i5,i6,i7,i8,i9,i10,i11,i12,i13]) EE [1,2,0,3,4,5,6,7,8,9,10,11,12,13] [] h (show List.isPerm ([1,2,0,3,4,5,6,7,8,9,10,11,12,13]++[]) (List.range 14)=true by decide) rfl)
theorem AM {w0 w:World} {Z:List Fz.Item} {i0 i1 i2 i3 i4 i5 i6 i7 i8 i9 i10 i11 i12 i13:Fz.Item} (h:St w0 (i0::i1::i2::i3::i4::i5::i6::i7::i8::i9::i10::i11::i12::i13::Z) w):St w0 (i1::i12::i13::[]) w :=
 St.sub (St.picks (K:=[i0,i1,i2,i3,i4,i5,i6,i7,i8,i9,i10,i11,i12,i13]) EE [1,12,13] [0,2,3,4,5,6,7,8,9,10,11] h (show List.isPerm ([1,12,13]++[0,2,3,4,5,6,7,8,9,10,11]) (List.range 14)=true by decide) rfl) (List.sublist_append_left _ _)
theorem kI {w0 w:World} {Z:List Fz.Item} {i0 i1 i2 i3 i4 i5 i6 i7 i8 i9 i10 i11 i12 i13:Fz.Item} (h:St w0 (i0::i1::i2::i3::i4::i5::i6::i7::i8::i9::i10::i11::i12::i13::Z) w):St w0 (i2::i0::i1::i3::i4::i5::i6::i7::i8::i9::i10::i11::i12::i13::Z) w :=
 (St.picks (K:=[i0,i1,i2,i3,i4,i5,i6,i7,i8,i9,i10,i11,i12,i13]) EE [2,0,1,3,4,5,6,7,8,9,10,11,12,13] [] h (show List.isPerm ([2,0,1,3,4,5,6,7,8,9,10,11,12,13]++[]) (List.range 14)=true by decide) rfl)
theorem jY {w0 w:World} {Z:List Fz.Item} {i0 i1 i2 i3 i4 i5 i6 i7 i8 i9 i10 i11 i12 i13 i14:Fz.Item} (h:St w0 (i0::i1::i2::i3::i4::i5::i6::i7::i8::i9::i10::i11::i12::i13::i14::Z) w):St w0 (i1::i2::i3::i0::i4::i5::i6::i7::i8::i9::i10::i11::i12::i13::i14::Z) w :=
 (St.picks (K:=[i0,i1,i2,i3,i4,i5,i6,i7,i8,i9,i10,i11,i12,i13,i14]) EE [1,2,3,0,4,5,6,7,8,9,10,11,12,13,14] [] h (show List.isPerm ([1,2,3,0,4,5,6,7,8,9,10,11,12,13,14]++[]) (List.range 15)=true by decide) rfl)
theorem T8 {w w1:World} {l lb:aE} {n:cE} {a1:Act} {B7 Bx Be cT M0 M1 M2 M3 M4 M5 M6:Nat} {oaT:Option Addr} (hcp:CopyL l lb) (hs:jF l) (hn:gZ l n) (hres:vC l n=if (hU l&&(flds l).all (dI l n))=true then 0 else 170)
  (s1:Sta 139 [⟨.fn (.func 177) #[Pt Bx 0,Pt Be 0],#[]⟩] w [⟨2,[],Pt Bx 0⟩,⟨3,[],Pt Be 0⟩,⟨7,[],Pt B7 0⟩] ((cI B7 236 [.slice oaT 7 cT])::(oR 237 1 fV oaT cT ([M0,M1,M2,M3,M4,M5,M6]))::(mI M0 (mK Value.string (aS n.towns n.towns.length)))::(mI M1 (mK Value.string (aS n.grounds n.grounds.length)))::(mI M2 (mK Value.string (aS n.teams n.teams.length)))::(mI M3 (mK Value.string (aS n.windows n.windows.length)))::(mI M4 (mK Value.string (aS n.slots n.slots.length)))::(mI M5 (mK Value.string (aS n.phases n.phases.length)))::(mI M6 (mK Value.string (aS n.conds n.conds.length)))::(cI Bx 34 (aB lb))::(cI Be 40 [I 0])::Hx lb) a1 w1):wq Tryz.prog 151 (rS (rS (rS (rS (rS (rS (rS (rS (rS (rS (rS (ad7 Tryz.f151)))))))))))) (FQ Tryz.prog Tryz.f151 (vO KU xF (QE l) w)) a1 w1:=by
 refine hM<|hM<|kA<|aA<|lh s1 0 (v:=fun Bl:Nat=>.func (.func 192) #[] #[Pt Bl 0]) (I:=fun Bl=>[cI Bl 197 [Pt Bx 0]]) (φ:=fun _=>True) rfl rfl rfl OJ rfl (wN Bx _) fun B1 a2 w3 _ s4=>aR rfl<|aD<|yQ<|wO s4 rfl OM (fun L D r w1 hr st1=>?_)
 have hsb:jF lb:=hcp.small hs
 have hy:∀ (X:List Fz.Item) (pre:List FP) (p:FP) (w2:World),pre++[p] <+: flds lb→St w (X++((nK L r)::(pN D (some []))::(gI l n pre)::(cI B7 236 [.slice oaT 7 cT])::(oR 237 1 fV oaT cT ([M0,M1,M2,M3,M4,M5,M6]))::(mI M0 (mK Value.string (aS n.towns n.towns.length)))::(mI M1 (mK Value.string (aS n.grounds n.grounds.length)))::(mI M2 (mK Value.string (aS n.teams n.teams.length)))::(mI M3 (mK Value.string (aS n.windows n.windows.length)))::(mI M4 (mK Value.string (aS n.slots n.slots.length)))::(mI M5 (mK Value.string (aS n.phases n.phases.length)))::(mI M6 (mK Value.string (aS n.conds n.conds.length)))::(cI Bx 34 (aB lb))::(cI Be 40 [I 0])::Hx (dH (bD l n pre) lb))) w2→Fz.Yields Tryz.prog L [.agg #[Pa (p.adr lb),I (p.kind lb),I (p.most lb)]] w2 (fun e w'=>(e=.returned (Bo true)∧St w (X++((nK L r)::(pN D (some []))::(gI l n (pre++[p]))::(cI B7 236 [.slice oaT 7 cT])::(oR 237 1 fV oaT cT ([M0,M1,M2,M3,M4,M5,M6]))::(mI M0 (mK Value.string (aS n.towns n.towns.length)))::(mI M1 (mK Value.string (aS n.grounds n.grounds.length)))::(mI M2 (mK Value.string (aS n.teams n.teams.length)))::(mI M3 (mK Value.string (aS n.windows n.windows.length)))::(mI M4 (mK Value.string (aS n.slots n.slots.length)))::(mI M5 (mK Value.string (aS n.phases n.phases.length)))::(mI M6 (mK Value.string (aS n.conds n.conds.length)))::(cI Bx 34 (aB lb))::(cI Be 40 [I 0])::Hx (dH (bD l n (pre++[p])) lb))) w')∨∃ ch,e=.panicked ch∧(fun ch w'=>ch=lB 170∧(hU l&&(flds l).all (dI l n))=false∧St w [pN D (some []),cI Bx 34 (aB lb),cI Be 40 [I 0]] w') ch w'):=by
  intro X pre p w2 hp h
  have hpl:p∈flds l:=by rw [← hcp.flds]; exact hp.subset (by simp)
  obtain ⟨r0,hg0⟩:=vD hpl
  have hgx:p.get (dH (bD l n pre) lb)=some (bD l n pre p r0):=by rw [GW,hcp.get,hg0]; rfl
  have h2:=h.perm List.perm_append_comm
  have hgood:∀ q∈pre,dI l n q=true:=h2.pureOf (φ:=∀ q∈pre,dI l n q=true) (by simp)
  refine tU hr h2 (i:=0) rfl Tryz.func151 s4 rfl rfl (fun a2 sR=>?_)
  refine eH rfl (fun ⟨_,_,hX⟩=>hX)<|la sR 0 _ rfl OE rfl rfl fun B5 a6 w7 s8=>dD s8 1 0 _ _ rfl rfl rfl rfl N6 rfl rfl rfl rfl fun w9 s10=>aR rfl<|aD<|wP s10 (i:=1) rfl hr.state fun w11 s12=>yV<|mS<|mS<|eH rfl (fun ⟨_,_,hX⟩=>hX)<|zl s12 [7,13,103] [(7,Pt B7 0),(13,Pt B5 0),(103,Bo ((p.kind lb)==7))] 0 3 (qo (fa w11 B5 0 r6)<|qo (s12.m.ld 3 0 1 bM rfl rfl)<|qe) fun a13 w14 s15=>aR rfl<|aD ?_
  refine WD s15.f rfl (fun h16=>?_) (fun h16=>?_)
  ·refine mS<|?_
   have hk7:p.kind l=7:=by rw [← hcp.kind]; exact h16
   refine eH rfl (fun ⟨_,_,hX⟩=>hX)<|fJ s15 [109] [10904] [] 0 6 (qo (fa w14 B5 0 j7)<|qo (s15.m.ld 198 0 0 o8 rfl rfl)<|qo (QG dK (s15.m.sub (.cons _ (.cons _ (.cons _ (.cons _ (.cons _ (.cons _ (.cons _ (.cons _ (.cons _ (.cons _ (.cons _ (.cons _ (.cons _ (.cons _ (.cons _ ((List.Sublist.refl _)))))))))))))))))) hsb hgx)<|qo (jL (P:=Tryz.prog) w14 148 [(1,I (-1))] (.agg #[.string (⟨#[]⟩:ByteArray),I (-1)]) (fun _=>by kernel_rfl))<|qo (M8 (P:=Tryz.prog) w14 (.tmp 107) (.tmp 108) (bN (bD l n pre p r0)) (bN (⟨(⟨#[]⟩:ByteArray),-1⟩:Fz.cW)) (pF 10 (by decide)) (by decide) B6 rfl rfl)<|qe) fun _ w18 s19=>cU s19 6 (b:=fE (bD l n pre p r0) (⟨(⟨#[]⟩:ByteArray),-1⟩:Fz.cW)) (ch:=lB 170) rfl rfl rfl jJ rfl (fU _ _ _) (fun h20 w24 s25=>?_) (fun h20 a21 w22 s23=>?_)
   ·refine aP (aP (bL (nC s25 (.inr ⟨_,rfl,rfl,wQ hpl ?_,(iW s25.m)⟩))))
    rw [V5 (pre:=pre) hg0 hk7]; exact h20
   refine aR rfl<|aD<|RZ<|aY (cP (n6 s23 (i:=1) rfl fun w9 st9=>.inl ⟨rfl,?_⟩))
   rw [hr.back] at st9
   have hgp:dI l n p=true:=by rw [V5 (pre:=pre) hg0 hk7]; exact h20
   have st10:=cF st9
   have st11:=st10.pure (sE hgood hgp)
   rw [← MJ hk7 (pre:=pre) (n:=n) lb] at st11
   have st12:=cC st11
   exact st12.perm List.perm_append_comm
  refine JC<|aD<|mS<|?_
  rcases G0 lb p with hkb | hkb | hkb | hkb | hkb | hkb
  ·have hkk:p.kind l=0:=by rw [← hcp.kind]; exact hkb
   have sK:Sta 139 [] w [⟨7,[],Pt B7 0⟩,⟨13,[],Pt B5 0⟩,⟨103,[],Bo ((p.kind lb)==7)⟩] ((cI B5 200 [Pa (p.adr lb),I 0,I (p.most lb)])::(nK L { r with state:=.busy })::(pN D (some []))::(gI l n pre)::(cI B7 236 [.slice oaT 7 cT])::(oR 237 1 fV oaT cT ([M0,M1,M2,M3,M4,M5,M6]))::(mI M0 (mK Value.string (aS n.towns n.towns.length)))::(mI M1 (mK Value.string (aS n.grounds n.grounds.length)))::(mI M2 (mK Value.string (aS n.teams n.teams.length)))::(mI M3 (mK Value.string (aS n.windows n.windows.length)))::(mI M4 (mK Value.string (aS n.slots n.slots.length)))::(mI M5 (mK Value.string (aS n.phases n.phases.length)))::(mI M6 (mK Value.string (aS n.conds n.conds.length)))::(cI Bx 34 (aB lb))::(cI Be 40 [I 0])::Hx (dH (bD l n pre) lb)++X) a13 w14:=by
    have sJ:=s15
    rw [hkb] at sJ ⊢
    exact sJ
   refine kN MO (St w ((cI B5 200 [Pa (p.adr lb),I 0,I (p.most lb)])::(nK L { r with state:=.busy })::(pN D (some []))::(gI l n pre)::(cI B7 236 [.slice oaT 7 cT])::(oR 237 1 fV oaT cT ([M0,M1,M2,M3,M4,M5,M6]))::(mI M0 (mK Value.string (aS n.towns n.towns.length)))::(mI M1 (mK Value.string (aS n.grounds n.grounds.length)))::(mI M2 (mK Value.string (aS n.teams n.teams.length)))::(mI M3 (mK Value.string (aS n.windows n.windows.length)))::(mI M4 (mK Value.string (aS n.slots n.slots.length)))::(mI M5 (mK Value.string (aS n.phases n.phases.length)))::(mI M6 (mK Value.string (aS n.conds n.conds.length)))::(cI Bx 34 (aB lb))::(cI Be 40 [I 0])::Hx (dH (bD l n pre) lb)++X)) rfl (fun ⟨_,_,hX⟩=>hX)<|wX (hs:=[.slice oaT 7 cT,Pt B5 1,I 0,Pa (kK oaT (0*1)),.map (some M0),Pt B5 0,Pa (p.adr lb),Pa ((p.adr lb).add 0),.string ((bD l n pre p r0).name),.tuple #[I (gP n.towns (bD l n pre p r0).name),Bo (mY n.towns (bD l n pre p r0).name)]]) (E1:=[⟨13,[],Pt B5 0⟩,⟨14,[],I (gP n.towns (bD l n pre p r0).name)⟩,⟨15,[],Bo (mY n.towns (bD l n pre p r0).name)⟩]) (ks:=[13,14,15]) sK [] [0,1,2,3,4,5,6,7,8,9,10,11,12,13,14,15] (fun _=>by kernel_rfl) (fun wC sC=>oc (sC.m.ld 236 4 0 qR rfl rfl)<|oc (fa wC B5 0 r6)<|oc (sC.m.ld 3 0 1 bM rfl rfl)<|oc (ia wC oaT 7 cT 0 F8 F6 (by decide) ((sC.m.row (enc:=fV) 5 rfl eN (by simp)).at' (k:=0) (by first | omega | (simp only [bV]; omega))))<|oc ((sC.m.row (enc:=fV) 5 rfl eN (by simp)).ld 237 0 0 F4 rfl rfl)<|oc (fa wC B5 0 j7)<|oc (sC.m.ld 198 0 0 o8 rfl rfl)<|oc (NA wC (p.adr lb) (jK _ _) oD)<|oc (rT qQ (sC.m.sub (.cons _ (.cons _ (.cons _ (.cons _ (.cons _ (.cons _ (.cons _ (.cons _ (.cons _ (.cons _ (.cons _ (.cons _ (.cons _ (.cons _ (.cons _ ((List.Sublist.refl _)))))))))))))))))) hsb hgx)<|oc (lkT sC.m 6 Tryz.underlying237 Tryz.underlying9 WX rfl (bD l n pre p r0).name)<|trivial) (.ck _ (.ck _ (.ck _ (.ck _ (.ck _ (.ck _ (.ck _ (.ck _ (.ck _ (.ck _ (.ck _ (.ck _ (.ck _ (.ck _ (.ck _ ((List.Sublist.refl _))))))))))))))))) (by kernel_rfl) (by kernel_rfl) hq fun _ s28=>RG s28 (by kernel_rfl) fun w29 s30=>aD<|mS<|eH rfl (fun ⟨_,_,hX⟩=>hX)<|zl s30 [13,14,131] [(14,I (gP n.towns (bD l n pre p r0).name)),(131,Bo ((mY n.towns (bD l n pre p r0).name)&&(decide (gP n.towns (bD l n pre p r0).name<(p.most lb)))))] 0 7 (qo (fa w29 B5 0 uV)<|qo (s30.m.ld 3 0 2 bM rfl rfl)<|qe) fun _ w32 s33=>cU s33 7 (b:=(mY n.towns (bD l n pre p r0).name)&&(decide (gP n.towns (bD l n pre p r0).name<(p.most lb)))) (ch:=lB 170) rfl rfl rfl jJ rfl (fU _ _ _) (fun h34 w38 s39=>?_) (fun h34 a35 w36 s37=>?_)
   ·refine aP (bL (nC s39 (.inr ⟨_,rfl,rfl,wQ hpl ?_,(iW s39.m)⟩)))
    rw [sW (pre:=pre) (lb:=lb) hg0 hkk (by decide) rfl (hcp.most p)]; exact h34
   refine aR rfl<|aD<|eH rfl (fun ⟨_,_,hX⟩=>hX)<|fJ s37 [135,137] [13702] [(135,I (gP n.towns (bD l n pre p r0).name))] 0 5 (qo (fa w36 B5 0 j7)<|qo (s37.m.ld 198 0 0 o8 rfl rfl)<|qo (NA w36 (p.adr lb) (jK _ _) dC)<|qe) fun _ w41 s42=>QI [cI B5 200 [Pa (p.adr lb),I 0,I (p.most lb)],nK L { r with state:=.busy },pN D (some []),gI l n pre,cI B7 236 [.slice oaT 7 cT],oR 237 1 fV oaT cT ([M0,M1,M2,M3,M4,M5,M6]),mI M0 (mK Value.string (aS n.towns n.towns.length)),mI M1 (mK Value.string (aS n.grounds n.grounds.length)),mI M2 (mK Value.string (aS n.teams n.teams.length)),mI M3 (mK Value.string (aS n.windows n.windows.length)),mI M4 (mK Value.string (aS n.slots n.slots.length)),mI M5 (mK Value.string (aS n.phases n.phases.length)),mI M6 (mK Value.string (aS n.conds n.conds.length)),cI Bx 34 (aB lb),cI Be 40 [I 0]] (f:=bD l n pre) (p:=p) (lb:=lb) (Z:=X) s42 5 (gP n.towns (bD l n pre p r0).name) rfl rfl rfl hP hgx fun w43 s44=>aR rfl<|c9 (n6 s44 (i:=1) rfl fun w9 st9=>.inl ⟨rfl,?_⟩)
   rw [hr.back] at st9
   have hgp:dI l n p=true:=by rw [sW (pre:=pre) (lb:=lb) hg0 hkk (by decide) rfl (hcp.most p)]; exact h34
   have st10:=cF st9
   have st11:=st10.pure (sE hgood hgp)
   rw [← pL (pre:=pre) hg0 hkk (by decide) (show CJ n 0=n.towns from rfl) hcp] at st11
   have st12:=cC st11
   exact st12.perm List.perm_append_comm
  ·have hkk:p.kind l=1:=by rw [← hcp.kind]; exact hkb
   have sK:Sta 139 [] w [⟨7,[],Pt B7 0⟩,⟨13,[],Pt B5 0⟩,⟨103,[],Bo ((p.kind lb)==7)⟩] ((cI B5 200 [Pa (p.adr lb),I 1,I (p.most lb)])::(nK L { r with state:=.busy })::(pN D (some []))::(gI l n pre)::(cI B7 236 [.slice oaT 7 cT])::(oR 237 1 fV oaT cT ([M0,M1,M2,M3,M4,M5,M6]))::(mI M0 (mK Value.string (aS n.towns n.towns.length)))::(mI M1 (mK Value.string (aS n.grounds n.grounds.length)))::(mI M2 (mK Value.string (aS n.teams n.teams.length)))::(mI M3 (mK Value.string (aS n.windows n.windows.length)))::(mI M4 (mK Value.string (aS n.slots n.slots.length)))::(mI M5 (mK Value.string (aS n.phases n.phases.length)))::(mI M6 (mK Value.string (aS n.conds n.conds.length)))::(cI Bx 34 (aB lb))::(cI Be 40 [I 0])::Hx (dH (bD l n pre) lb)++X) a13 w14:=by
    have sJ:=s15
    rw [hkb] at sJ ⊢
    exact sJ
   refine kN MO (St w ((cI B5 200 [Pa (p.adr lb),I 1,I (p.most lb)])::(nK L { r with state:=.busy })::(pN D (some []))::(gI l n pre)::(cI B7 236 [.slice oaT 7 cT])::(oR 237 1 fV oaT cT ([M0,M1,M2,M3,M4,M5,M6]))::(mI M0 (mK Value.string (aS n.towns n.towns.length)))::(mI M1 (mK Value.string (aS n.grounds n.grounds.length)))::(mI M2 (mK Value.string (aS n.teams n.teams.length)))::(mI M3 (mK Value.string (aS n.windows n.windows.length)))::(mI M4 (mK Value.string (aS n.slots n.slots.length)))::(mI M5 (mK Value.string (aS n.phases n.phases.length)))::(mI M6 (mK Value.string (aS n.conds n.conds.length)))::(cI Bx 34 (aB lb))::(cI Be 40 [I 0])::Hx (dH (bD l n pre) lb)++X)) rfl (fun ⟨_,_,hX⟩=>hX)<|wX (hs:=[.slice oaT 7 cT,Pt B5 1,I 1,Pa (kK oaT (1*1)),.map (some M1),Pt B5 0,Pa (p.adr lb),Pa ((p.adr lb).add 0),.string ((bD l n pre p r0).name),.tuple #[I (gP n.grounds (bD l n pre p r0).name),Bo (mY n.grounds (bD l n pre p r0).name)]]) (E1:=[⟨13,[],Pt B5 0⟩,⟨14,[],I (gP n.grounds (bD l n pre p r0).name)⟩,⟨15,[],Bo (mY n.grounds (bD l n pre p r0).name)⟩]) (ks:=[13,14,15]) sK [] [0,1,2,3,4,5,6,7,8,9,10,11,12,13,14,15] (fun _=>by kernel_rfl) (fun wC sC=>oc (sC.m.ld 236 4 0 qR rfl rfl)<|oc (fa wC B5 0 r6)<|oc (sC.m.ld 3 0 1 bM rfl rfl)<|oc (ia wC oaT 7 cT 1 F8 F6 (by decide) ((sC.m.row (enc:=fV) 5 rfl eN (by simp)).at' (k:=1) (by first | omega | (simp only [bV]; omega))))<|oc ((sC.m.row (enc:=fV) 5 rfl eN (by simp)).ld 237 1 0 F4 rfl rfl)<|oc (fa wC B5 0 j7)<|oc (sC.m.ld 198 0 0 o8 rfl rfl)<|oc (NA wC (p.adr lb) (jK _ _) oD)<|oc (rT qQ (sC.m.sub (.cons _ (.cons _ (.cons _ (.cons _ (.cons _ (.cons _ (.cons _ (.cons _ (.cons _ (.cons _ (.cons _ (.cons _ (.cons _ (.cons _ (.cons _ ((List.Sublist.refl _)))))))))))))))))) hsb hgx)<|oc (lkT sC.m 7 Tryz.underlying237 Tryz.underlying9 WX rfl (bD l n pre p r0).name)<|trivial) (.ck _ (.ck _ (.ck _ (.ck _ (.ck _ (.ck _ (.ck _ (.ck _ (.ck _ (.ck _ (.ck _ (.ck _ (.ck _ (.ck _ (.ck _ ((List.Sublist.refl _))))))))))))))))) (by kernel_rfl) (by kernel_rfl) hq fun _ s47=>RG s47 (by kernel_rfl) fun w48 s49=>aD<|mS<|eH rfl (fun ⟨_,_,hX⟩=>hX)<|zl s49 [13,14,131] [(14,I (gP n.grounds (bD l n pre p r0).name)),(131,Bo ((mY n.grounds (bD l n pre p r0).name)&&(decide (gP n.grounds (bD l n pre p r0).name<(p.most lb)))))] 0 7 (qo (fa w48 B5 0 uV)<|qo (s49.m.ld 3 0 2 bM rfl rfl)<|qe) fun _ w51 s52=>cU s52 7 (b:=(mY n.grounds (bD l n pre p r0).name)&&(decide (gP n.grounds (bD l n pre p r0).name<(p.most lb)))) (ch:=lB 170) rfl rfl rfl jJ rfl (fU _ _ _) (fun h53 w57 s58=>?_) (fun h53 a54 w55 s56=>?_)
   ·refine aP (bL (nC s58 (.inr ⟨_,rfl,rfl,wQ hpl ?_,(iW s58.m)⟩)))
    rw [sW (pre:=pre) (lb:=lb) hg0 hkk (by decide) rfl (hcp.most p)]; exact h53
   refine aR rfl<|aD<|eH rfl (fun ⟨_,_,hX⟩=>hX)<|fJ s56 [135,137] [13702] [(135,I (gP n.grounds (bD l n pre p r0).name))] 0 5 (qo (fa w55 B5 0 j7)<|qo (s56.m.ld 198 0 0 o8 rfl rfl)<|qo (NA w55 (p.adr lb) (jK _ _) dC)<|qe) fun _ w60 s61=>QI [cI B5 200 [Pa (p.adr lb),I 1,I (p.most lb)],nK L { r with state:=.busy },pN D (some []),gI l n pre,cI B7 236 [.slice oaT 7 cT],oR 237 1 fV oaT cT ([M0,M1,M2,M3,M4,M5,M6]),mI M0 (mK Value.string (aS n.towns n.towns.length)),mI M1 (mK Value.string (aS n.grounds n.grounds.length)),mI M2 (mK Value.string (aS n.teams n.teams.length)),mI M3 (mK Value.string (aS n.windows n.windows.length)),mI M4 (mK Value.string (aS n.slots n.slots.length)),mI M5 (mK Value.string (aS n.phases n.phases.length)),mI M6 (mK Value.string (aS n.conds n.conds.length)),cI Bx 34 (aB lb),cI Be 40 [I 0]] (f:=bD l n pre) (p:=p) (lb:=lb) (Z:=X) s61 5 (gP n.grounds (bD l n pre p r0).name) rfl rfl rfl hP hgx fun w62 s63=>aR rfl<|c9 (n6 s63 (i:=1) rfl fun w9 st9=>.inl ⟨rfl,?_⟩)
   rw [hr.back] at st9
   have hgp:dI l n p=true:=by rw [sW (pre:=pre) (lb:=lb) hg0 hkk (by decide) rfl (hcp.most p)]; exact h53
   have st10:=cF st9
   have st11:=st10.pure (sE hgood hgp)
   rw [← pL (pre:=pre) hg0 hkk (by decide) (show CJ n 1=n.grounds from rfl) hcp] at st11
   have st12:=cC st11
   exact st12.perm List.perm_append_comm
  ·have hkk:p.kind l=2:=by rw [← hcp.kind]; exact hkb
   have sK:Sta 139 [] w [⟨7,[],Pt B7 0⟩,⟨13,[],Pt B5 0⟩,⟨103,[],Bo ((p.kind lb)==7)⟩] ((cI B5 200 [Pa (p.adr lb),I 2,I (p.most lb)])::(nK L { r with state:=.busy })::(pN D (some []))::(gI l n pre)::(cI B7 236 [.slice oaT 7 cT])::(oR 237 1 fV oaT cT ([M0,M1,M2,M3,M4,M5,M6]))::(mI M0 (mK Value.string (aS n.towns n.towns.length)))::(mI M1 (mK Value.string (aS n.grounds n.grounds.length)))::(mI M2 (mK Value.string (aS n.teams n.teams.length)))::(mI M3 (mK Value.string (aS n.windows n.windows.length)))::(mI M4 (mK Value.string (aS n.slots n.slots.length)))::(mI M5 (mK Value.string (aS n.phases n.phases.length)))::(mI M6 (mK Value.string (aS n.conds n.conds.length)))::(cI Bx 34 (aB lb))::(cI Be 40 [I 0])::Hx (dH (bD l n pre) lb)++X) a13 w14:=by
    have sJ:=s15
    rw [hkb] at sJ ⊢
    exact sJ
   refine kN MO (St w ((cI B5 200 [Pa (p.adr lb),I 2,I (p.most lb)])::(nK L { r with state:=.busy })::(pN D (some []))::(gI l n pre)::(cI B7 236 [.slice oaT 7 cT])::(oR 237 1 fV oaT cT ([M0,M1,M2,M3,M4,M5,M6]))::(mI M0 (mK Value.string (aS n.towns n.towns.length)))::(mI M1 (mK Value.string (aS n.grounds n.grounds.length)))::(mI M2 (mK Value.string (aS n.teams n.teams.length)))::(mI M3 (mK Value.string (aS n.windows n.windows.length)))::(mI M4 (mK Value.string (aS n.slots n.slots.length)))::(mI M5 (mK Value.string (aS n.phases n.phases.length)))::(mI M6 (mK Value.string (aS n.conds n.conds.length)))::(cI Bx 34 (aB lb))::(cI Be 40 [I 0])::Hx (dH (bD l n pre) lb)++X)) rfl (fun ⟨_,_,hX⟩=>hX)<|wX (hs:=[.slice oaT 7 cT,Pt B5 1,I 2,Pa (kK oaT (2*1)),.map (some M2),Pt B5 0,Pa (p.adr lb),Pa ((p.adr lb).add 0),.string ((bD l n pre p r0).name),.tuple #[I (gP n.teams (bD l n pre p r0).name),Bo (mY n.teams (bD l n pre p r0).name)]]) (E1:=[⟨13,[],Pt B5 0⟩,⟨14,[],I (gP n.teams (bD l n pre p r0).name)⟩,⟨15,[],Bo (mY n.teams (bD l n pre p r0).name)⟩]) (ks:=[13,14,15]) sK [] [0,1,2,3,4,5,6,7,8,9,10,11,12,13,14,15] (fun _=>by kernel_rfl) (fun wC sC=>oc (sC.m.ld 236 4 0 qR rfl rfl)<|oc (fa wC B5 0 r6)<|oc (sC.m.ld 3 0 1 bM rfl rfl)<|oc (ia wC oaT 7 cT 2 F8 F6 (by decide) ((sC.m.row (enc:=fV) 5 rfl eN (by simp)).at' (k:=2) (by first | omega | (simp only [bV]; omega))))<|oc ((sC.m.row (enc:=fV) 5 rfl eN (by simp)).ld 237 2 0 F4 rfl rfl)<|oc (fa wC B5 0 j7)<|oc (sC.m.ld 198 0 0 o8 rfl rfl)<|oc (NA wC (p.adr lb) (jK _ _) oD)<|oc (rT qQ (sC.m.sub (.cons _ (.cons _ (.cons _ (.cons _ (.cons _ (.cons _ (.cons _ (.cons _ (.cons _ (.cons _ (.cons _ (.cons _ (.cons _ (.cons _ (.cons _ ((List.Sublist.refl _)))))))))))))))))) hsb hgx)<|oc (lkT sC.m 8 Tryz.underlying237 Tryz.underlying9 WX rfl (bD l n pre p r0).name)<|trivial) (.ck _ (.ck _ (.ck _ (.ck _ (.ck _ (.ck _ (.ck _ (.ck _ (.ck _ (.ck _ (.ck _ (.ck _ (.ck _ (.ck _ (.ck _ ((List.Sublist.refl _))))))))))))))))) (by kernel_rfl) (by kernel_rfl) hq fun _ s66=>RG s66 (by kernel_rfl) fun w67 s68=>aD<|mS<|eH rfl (fun ⟨_,_,hX⟩=>hX)<|zl s68 [13,14,131] [(14,I (gP n.teams (bD l n pre p r0).name)),(131,Bo ((mY n.teams (bD l n pre p r0).name)&&(decide (gP n.teams (bD l n pre p r0).name<(p.most lb)))))] 0 7 (qo (fa w67 B5 0 uV)<|qo (s68.m.ld 3 0 2 bM rfl rfl)<|qe) fun _ w70 s71=>cU s71 7 (b:=(mY n.teams (bD l n pre p r0).name)&&(decide (gP n.teams (bD l n pre p r0).name<(p.most lb)))) (ch:=lB 170) rfl rfl rfl jJ rfl (fU _ _ _) (fun h72 w76 s77=>?_) (fun h72 a73 w74 s75=>?_)
   ·refine aP (bL (nC s77 (.inr ⟨_,rfl,rfl,wQ hpl ?_,(iW s77.m)⟩)))
    rw [sW (pre:=pre) (lb:=lb) hg0 hkk (by decide) rfl (hcp.most p)]; exact h72
   refine aR rfl<|aD<|eH rfl (fun ⟨_,_,hX⟩=>hX)<|fJ s75 [135,137] [13702] [(135,I (gP n.teams (bD l n pre p r0).name))] 0 5 (qo (fa w74 B5 0 j7)<|qo (s75.m.ld 198 0 0 o8 rfl rfl)<|qo (NA w74 (p.adr lb) (jK _ _) dC)<|qe) fun _ w79 s80=>QI [cI B5 200 [Pa (p.adr lb),I 2,I (p.most lb)],nK L { r with state:=.busy },pN D (some []),gI l n pre,cI B7 236 [.slice oaT 7 cT],oR 237 1 fV oaT cT ([M0,M1,M2,M3,M4,M5,M6]),mI M0 (mK Value.string (aS n.towns n.towns.length)),mI M1 (mK Value.string (aS n.grounds n.grounds.length)),mI M2 (mK Value.string (aS n.teams n.teams.length)),mI M3 (mK Value.string (aS n.windows n.windows.length)),mI M4 (mK Value.string (aS n.slots n.slots.length)),mI M5 (mK Value.string (aS n.phases n.phases.length)),mI M6 (mK Value.string (aS n.conds n.conds.length)),cI Bx 34 (aB lb),cI Be 40 [I 0]] (f:=bD l n pre) (p:=p) (lb:=lb) (Z:=X) s80 5 (gP n.teams (bD l n pre p r0).name) rfl rfl rfl hP hgx fun w81 s82=>aR rfl<|c9 (n6 s82 (i:=1) rfl fun w9 st9=>.inl ⟨rfl,?_⟩)
   rw [hr.back] at st9
   have hgp:dI l n p=true:=by rw [sW (pre:=pre) (lb:=lb) hg0 hkk (by decide) rfl (hcp.most p)]; exact h72
   have st10:=cF st9
   have st11:=st10.pure (sE hgood hgp)
   rw [← pL (pre:=pre) hg0 hkk (by decide) (show CJ n 2=n.teams from rfl) hcp] at st11
   have st12:=cC st11
   exact st12.perm List.perm_append_comm
  ·have hkk:p.kind l=3:=by rw [← hcp.kind]; exact hkb
   have sK:Sta 139 [] w [⟨7,[],Pt B7 0⟩,⟨13,[],Pt B5 0⟩,⟨103,[],Bo ((p.kind lb)==7)⟩] ((cI B5 200 [Pa (p.adr lb),I 3,I (p.most lb)])::(nK L { r with state:=.busy })::(pN D (some []))::(gI l n pre)::(cI B7 236 [.slice oaT 7 cT])::(oR 237 1 fV oaT cT ([M0,M1,M2,M3,M4,M5,M6]))::(mI M0 (mK Value.string (aS n.towns n.towns.length)))::(mI M1 (mK Value.string (aS n.grounds n.grounds.length)))::(mI M2 (mK Value.string (aS n.teams n.teams.length)))::(mI M3 (mK Value.string (aS n.windows n.windows.length)))::(mI M4 (mK Value.string (aS n.slots n.slots.length)))::(mI M5 (mK Value.string (aS n.phases n.phases.length)))::(mI M6 (mK Value.string (aS n.conds n.conds.length)))::(cI Bx 34 (aB lb))::(cI Be 40 [I 0])::Hx (dH (bD l n pre) lb)++X) a13 w14:=by
    have sJ:=s15
    rw [hkb] at sJ ⊢
    exact sJ
   refine kN MO (St w ((cI B5 200 [Pa (p.adr lb),I 3,I (p.most lb)])::(nK L { r with state:=.busy })::(pN D (some []))::(gI l n pre)::(cI B7 236 [.slice oaT 7 cT])::(oR 237 1 fV oaT cT ([M0,M1,M2,M3,M4,M5,M6]))::(mI M0 (mK Value.string (aS n.towns n.towns.length)))::(mI M1 (mK Value.string (aS n.grounds n.grounds.length)))::(mI M2 (mK Value.string (aS n.teams n.teams.length)))::(mI M3 (mK Value.string (aS n.windows n.windows.length)))::(mI M4 (mK Value.string (aS n.slots n.slots.length)))::(mI M5 (mK Value.string (aS n.phases n.phases.length)))::(mI M6 (mK Value.string (aS n.conds n.conds.length)))::(cI Bx 34 (aB lb))::(cI Be 40 [I 0])::Hx (dH (bD l n pre) lb)++X)) rfl (fun ⟨_,_,hX⟩=>hX)<|wX (hs:=[.slice oaT 7 cT,Pt B5 1,I 3,Pa (kK oaT (3*1)),.map (some M3),Pt B5 0,Pa (p.adr lb),Pa ((p.adr lb).add 0),.string ((bD l n pre p r0).name),.tuple #[I (gP n.windows (bD l n pre p r0).name),Bo (mY n.windows (bD l n pre p r0).name)]]) (E1:=[⟨13,[],Pt B5 0⟩,⟨14,[],I (gP n.windows (bD l n pre p r0).name)⟩,⟨15,[],Bo (mY n.windows (bD l n pre p r0).name)⟩]) (ks:=[13,14,15]) sK [] [0,1,2,3,4,5,6,7,8,9,10,11,12,13,14,15] (fun _=>by kernel_rfl) (fun wC sC=>oc (sC.m.ld 236 4 0 qR rfl rfl)<|oc (fa wC B5 0 r6)<|oc (sC.m.ld 3 0 1 bM rfl rfl)<|oc (ia wC oaT 7 cT 3 F8 F6 (by decide) ((sC.m.row (enc:=fV) 5 rfl eN (by simp)).at' (k:=3) (by first | omega | (simp only [bV]; omega))))<|oc ((sC.m.row (enc:=fV) 5 rfl eN (by simp)).ld 237 3 0 F4 rfl rfl)<|oc (fa wC B5 0 j7)<|oc (sC.m.ld 198 0 0 o8 rfl rfl)<|oc (NA wC (p.adr lb) (jK _ _) oD)<|oc (rT qQ (sC.m.sub (.cons _ (.cons _ (.cons _ (.cons _ (.cons _ (.cons _ (.cons _ (.cons _ (.cons _ (.cons _ (.cons _ (.cons _ (.cons _ (.cons _ (.cons _ ((List.Sublist.refl _)))))))))))))))))) hsb hgx)<|oc (lkT sC.m 9 Tryz.underlying237 Tryz.underlying9 WX rfl (bD l n pre p r0).name)<|trivial) (.ck _ (.ck _ (.ck _ (.ck _ (.ck _ (.ck _ (.ck _ (.ck _ (.ck _ (.ck _ (.ck _ (.ck _ (.ck _ (.ck _ (.ck _ ((List.Sublist.refl _))))))))))))))))) (by kernel_rfl) (by kernel_rfl) hq fun _ s85=>RG s85 (by kernel_rfl) fun w86 s87=>aD<|mS<|eH rfl (fun ⟨_,_,hX⟩=>hX)<|zl s87 [13,14,131] [(14,I (gP n.windows (bD l n pre p r0).name)),(131,Bo ((mY n.windows (bD l n pre p r0).name)&&(decide (gP n.windows (bD l n pre p r0).name<(p.most lb)))))] 0 7 (qo (fa w86 B5 0 uV)<|qo (s87.m.ld 3 0 2 bM rfl rfl)<|qe) fun _ w89 s90=>cU s90 7 (b:=(mY n.windows (bD l n pre p r0).name)&&(decide (gP n.windows (bD l n pre p r0).name<(p.most lb)))) (ch:=lB 170) rfl rfl rfl jJ rfl (fU _ _ _) (fun h91 w95 s96=>?_) (fun h91 a92 w93 s94=>?_)
   ·refine aP (bL (nC s96 (.inr ⟨_,rfl,rfl,wQ hpl ?_,(iW s96.m)⟩)))
    rw [sW (pre:=pre) (lb:=lb) hg0 hkk (by decide) rfl (hcp.most p)]; exact h91
   refine aR rfl<|aD<|eH rfl (fun ⟨_,_,hX⟩=>hX)<|fJ s94 [135,137] [13702] [(135,I (gP n.windows (bD l n pre p r0).name))] 0 5 (qo (fa w93 B5 0 j7)<|qo (s94.m.ld 198 0 0 o8 rfl rfl)<|qo (NA w93 (p.adr lb) (jK _ _) dC)<|qe) fun _ w98 s99=>QI [cI B5 200 [Pa (p.adr lb),I 3,I (p.most lb)],nK L { r with state:=.busy },pN D (some []),gI l n pre,cI B7 236 [.slice oaT 7 cT],oR 237 1 fV oaT cT ([M0,M1,M2,M3,M4,M5,M6]),mI M0 (mK Value.string (aS n.towns n.towns.length)),mI M1 (mK Value.string (aS n.grounds n.grounds.length)),mI M2 (mK Value.string (aS n.teams n.teams.length)),mI M3 (mK Value.string (aS n.windows n.windows.length)),mI M4 (mK Value.string (aS n.slots n.slots.length)),mI M5 (mK Value.string (aS n.phases n.phases.length)),mI M6 (mK Value.string (aS n.conds n.conds.length)),cI Bx 34 (aB lb),cI Be 40 [I 0]] (f:=bD l n pre) (p:=p) (lb:=lb) (Z:=X) s99 5 (gP n.windows (bD l n pre p r0).name) rfl rfl rfl hP hgx fun w100 s101=>aR rfl<|c9 (n6 s101 (i:=1) rfl fun w9 st9=>.inl ⟨rfl,?_⟩)
   rw [hr.back] at st9
   have hgp:dI l n p=true:=by rw [sW (pre:=pre) (lb:=lb) hg0 hkk (by decide) rfl (hcp.most p)]; exact h91
   have st10:=cF st9
   have st11:=st10.pure (sE hgood hgp)
   rw [← pL (pre:=pre) hg0 hkk (by decide) (show CJ n 3=n.windows from rfl) hcp] at st11
   have st12:=cC st11
   exact st12.perm List.perm_append_comm
  ·have hkk:p.kind l=5:=by rw [← hcp.kind]; exact hkb
   have sK:Sta 139 [] w [⟨7,[],Pt B7 0⟩,⟨13,[],Pt B5 0⟩,⟨103,[],Bo ((p.kind lb)==7)⟩] ((cI B5 200 [Pa (p.adr lb),I 5,I (p.most lb)])::(nK L { r with state:=.busy })::(pN D (some []))::(gI l n pre)::(cI B7 236 [.slice oaT 7 cT])::(oR 237 1 fV oaT cT ([M0,M1,M2,M3,M4,M5,M6]))::(mI M0 (mK Value.string (aS n.towns n.towns.length)))::(mI M1 (mK Value.string (aS n.grounds n.grounds.length)))::(mI M2 (mK Value.string (aS n.teams n.teams.length)))::(mI M3 (mK Value.string (aS n.windows n.windows.length)))::(mI M4 (mK Value.string (aS n.slots n.slots.length)))::(mI M5 (mK Value.string (aS n.phases n.phases.length)))::(mI M6 (mK Value.string (aS n.conds n.conds.length)))::(cI Bx 34 (aB lb))::(cI Be 40 [I 0])::Hx (dH (bD l n pre) lb)++X) a13 w14:=by
    have sJ:=s15
    rw [hkb] at sJ ⊢
    exact sJ
   refine kN MO (St w ((cI B5 200 [Pa (p.adr lb),I 5,I (p.most lb)])::(nK L { r with state:=.busy })::(pN D (some []))::(gI l n pre)::(cI B7 236 [.slice oaT 7 cT])::(oR 237 1 fV oaT cT ([M0,M1,M2,M3,M4,M5,M6]))::(mI M0 (mK Value.string (aS n.towns n.towns.length)))::(mI M1 (mK Value.string (aS n.grounds n.grounds.length)))::(mI M2 (mK Value.string (aS n.teams n.teams.length)))::(mI M3 (mK Value.string (aS n.windows n.windows.length)))::(mI M4 (mK Value.string (aS n.slots n.slots.length)))::(mI M5 (mK Value.string (aS n.phases n.phases.length)))::(mI M6 (mK Value.string (aS n.conds n.conds.length)))::(cI Bx 34 (aB lb))::(cI Be 40 [I 0])::Hx (dH (bD l n pre) lb)++X)) rfl (fun ⟨_,_,hX⟩=>hX)<|wX (hs:=[.slice oaT 7 cT,Pt B5 1,I 5,Pa (kK oaT (5*1)),.map (some M5),Pt B5 0,Pa (p.adr lb),Pa ((p.adr lb).add 0),.string ((bD l n pre p r0).name),.tuple #[I (gP n.phases (bD l n pre p r0).name),Bo (mY n.phases (bD l n pre p r0).name)]]) (E1:=[⟨13,[],Pt B5 0⟩,⟨14,[],I (gP n.phases (bD l n pre p r0).name)⟩,⟨15,[],Bo (mY n.phases (bD l n pre p r0).name)⟩]) (ks:=[13,14,15]) sK [] [0,1,2,3,4,5,6,7,8,9,10,11,12,13,14,15] (fun _=>by kernel_rfl) (fun wC sC=>oc (sC.m.ld 236 4 0 qR rfl rfl)<|oc (fa wC B5 0 r6)<|oc (sC.m.ld 3 0 1 bM rfl rfl)<|oc (ia wC oaT 7 cT 5 F8 F6 (by decide) ((sC.m.row (enc:=fV) 5 rfl eN (by simp)).at' (k:=5) (by first | omega | (simp only [bV]; omega))))<|oc ((sC.m.row (enc:=fV) 5 rfl eN (by simp)).ld 237 5 0 F4 rfl rfl)<|oc (fa wC B5 0 j7)<|oc (sC.m.ld 198 0 0 o8 rfl rfl)<|oc (NA wC (p.adr lb) (jK _ _) oD)<|oc (rT qQ (sC.m.sub (.cons _ (.cons _ (.cons _ (.cons _ (.cons _ (.cons _ (.cons _ (.cons _ (.cons _ (.cons _ (.cons _ (.cons _ (.cons _ (.cons _ (.cons _ ((List.Sublist.refl _)))))))))))))))))) hsb hgx)<|oc (lkT sC.m 11 Tryz.underlying237 Tryz.underlying9 WX rfl (bD l n pre p r0).name)<|trivial) (.ck _ (.ck _ (.ck _ (.ck _ (.ck _ (.ck _ (.ck _ (.ck _ (.ck _ (.ck _ (.ck _ (.ck _ (.ck _ (.ck _ (.ck _ ((List.Sublist.refl _))))))))))))))))) (by kernel_rfl) (by kernel_rfl) hq fun _ s104=>RG s104 (by kernel_rfl) fun w105 s106=>aD<|mS<|eH rfl (fun ⟨_,_,hX⟩=>hX)<|zl s106 [13,14,131] [(14,I (gP n.phases (bD l n pre p r0).name)),(131,Bo ((mY n.phases (bD l n pre p r0).name)&&(decide (gP n.phases (bD l n pre p r0).name<(p.most lb)))))] 0 7 (qo (fa w105 B5 0 uV)<|qo (s106.m.ld 3 0 2 bM rfl rfl)<|qe) fun _ w108 s109=>cU s109 7 (b:=(mY n.phases (bD l n pre p r0).name)&&(decide (gP n.phases (bD l n pre p r0).name<(p.most lb)))) (ch:=lB 170) rfl rfl rfl jJ rfl (fU _ _ _) (fun h110 w114 s115=>?_) (fun h110 a111 w112 s113=>?_)
   ·refine aP (bL (nC s115 (.inr ⟨_,rfl,rfl,wQ hpl ?_,(iW s115.m)⟩)))
    rw [sW (pre:=pre) (lb:=lb) hg0 hkk (by decide) rfl (hcp.most p)]; exact h110
   refine aR rfl<|aD<|eH rfl (fun ⟨_,_,hX⟩=>hX)<|fJ s113 [135,137] [13702] [(135,I (gP n.phases (bD l n pre p r0).name))] 0 5 (qo (fa w112 B5 0 j7)<|qo (s113.m.ld 198 0 0 o8 rfl rfl)<|qo (NA w112 (p.adr lb) (jK _ _) dC)<|qe) fun _ w117 s118=>QI [cI B5 200 [Pa (p.adr lb),I 5,I (p.most lb)],nK L { r with state:=.busy },pN D (some []),gI l n pre,cI B7 236 [.slice oaT 7 cT],oR 237 1 fV oaT cT ([M0,M1,M2,M3,M4,M5,M6]),mI M0 (mK Value.string (aS n.towns n.towns.length)),mI M1 (mK Value.string (aS n.grounds n.grounds.length)),mI M2 (mK Value.string (aS n.teams n.teams.length)),mI M3 (mK Value.string (aS n.windows n.windows.length)),mI M4 (mK Value.string (aS n.slots n.slots.length)),mI M5 (mK Value.string (aS n.phases n.phases.length)),mI M6 (mK Value.string (aS n.conds n.conds.length)),cI Bx 34 (aB lb),cI Be 40 [I 0]] (f:=bD l n pre) (p:=p) (lb:=lb) (Z:=X) s118 5 (gP n.phases (bD l n pre p r0).name) rfl rfl rfl hP hgx fun w119 s120=>aR rfl<|c9 (n6 s120 (i:=1) rfl fun w9 st9=>.inl ⟨rfl,?_⟩)
   rw [hr.back] at st9
   have hgp:dI l n p=true:=by rw [sW (pre:=pre) (lb:=lb) hg0 hkk (by decide) rfl (hcp.most p)]; exact h110
   have st10:=cF st9
   have st11:=st10.pure (sE hgood hgp)
   rw [← pL (pre:=pre) hg0 hkk (by decide) (show CJ n 5=n.phases from rfl) hcp] at st11
   have st12:=cC st11
   exact st12.perm List.perm_append_comm
  exact absurd hkb h16
 have cl:Caller Tryz.prog w L Bx lb (fun pre (m:Bool × Unit)=>bif m.1 then ((nK L r)::(pN D (some []))::(gI l n pre)::(cI B7 236 [.slice oaT 7 cT])::(oR 237 1 fV oaT cT ([M0,M1,M2,M3,M4,M5,M6]))::(mI M0 (mK Value.string (aS n.towns n.towns.length)))::(mI M1 (mK Value.string (aS n.grounds n.grounds.length)))::(mI M2 (mK Value.string (aS n.teams n.teams.length)))::(mI M3 (mK Value.string (aS n.windows n.windows.length)))::(mI M4 (mK Value.string (aS n.slots n.slots.length)))::(mI M5 (mK Value.string (aS n.phases n.phases.length)))::(mI M6 (mK Value.string (aS n.conds n.conds.length)))::(cI Bx 34 (aB lb))::(cI Be 40 [I 0])::Hx (dH (bD l n pre) lb)) else [EE]) (fun ch w'=>ch=lB 170∧(hU l&&(flds l).all (dI l n))=false∧St w [pN D (some []),cI Bx 34 (aB lb),cI Be 40 [I 0]] w'):=by
  refine ⟨fun _ _ _=>rfl,fun pre m w2 h=>?_,fun X pre g p w2 hp h=>(hy X pre p w2 hp h).mono fun e w' he=>he.imp (fun ⟨h1,h2⟩=>⟨(true,g),h1,h2⟩) id,fun pre m w2 hm h=>?_⟩
  ·obtain ⟨m,g⟩:=m
   cases m with
   | false=>exact (h.pureOf (φ:=False) (by simp)).elim
   | true=>exact G1 (Z:=[]) (h.rowc (enc:=aB) 12 [lb] rfl m7 rfl (by simp)) (by rw [List.append_nil]; exact h.sub (.cons _ (.cons _ (.cons _ (.cons _ (.cons _ (.cons _ (.cons _ (.cons _ (.cons _ (.cons _ (.cons _ (.cons _ (.cons _ (.cons _ ((List.Sublist.refl _))))))))))))))))) hsb
  obtain ⟨m,g⟩:=m
  cases m with
  | false=>exact (h.pureOf (φ:=False) (by simp)).elim
  | true=>exact ⟨rfl,by rw [← hcp.musts,hm]; rfl,AM h⟩
 have st2:=kI st1
 have st3:=st2.pure (φ:=∀ q∈([]:List FP),dI l n q=true) (fun q hq=>by cases hq)
 have st4:=jY st3
 rw [show Hx lb=Hx (dH (bD l n []) lb) from by rw [KW (MI l n) lb]] at st4
 refine Calls.mono (wM cl (Bl:=B1) (g0:=()) st4) (fun e w' he=>?_)
 rcases he with ⟨Y,rfl,⟨hm,X,m,rfl⟩,st5⟩ | ⟨ch,rfl,rfl,hbad,st5⟩
 ·obtain ⟨m,g⟩:=m
  cases m with
  | false=>exact (st5.pureOf (φ:=False) (by simp)).elim
  | true =>
   have st6:=st5.sub (List.sublist_append_right X _)
   refine ⟨r,_,st6,by rw [hr.state]; exact fun h=>(by cases h),fun w4 s4=>?_⟩
   rw [hr.pending]
   have hgood:∀ q∈flds l,dI l n q=true:=by have:=st6.pureOf (φ:=∀ q∈flds lb,dI l n q=true) (by simp); rwa [hcp.flds] at this
   refine c9 (aD ?_)
   refine kA<|wp_seq<|aA<|zl s4 [2,3,138] [(2,Pt Bx 0),(3,Pt Be 0),(138,.agg (aB lb).toArray)] 0 1 (qo (s4.m.lda 34 12 0 cS rfl rfl rfl)<|qe) fun _ w122 s123=>dD s123 1 12 _ _ rfl rfl rfl rfl nA rfl rfl rfl rfl fun w124 s125=>dD s125 2 13 _ _ rfl rfl rfl rfl A2 rfl rfl rfl rfl fun w126 s127=>aR rfl<|aD<|aC<|pM s127<|rV s127.m (i:=1) rfl (by simp) fun w9 st9=>fR (by simp) lW (TZ st9) fun w10 st10=>?_
   have s10:=s127.at' st10
   refine eQ [.agg (aB lb).toArray,I 0] rfl s10.f ⟨⟨_,rfl,bQ (k:=12) s10 cS rfl rfl⟩,⟨_,rfl,dV (k:=13) s10 kD rfl rfl⟩,trivial⟩<|?_
   have hall:(hU l&&(flds l).all (dI l n))=true:=by rw [← hcp.musts,hm,Bool.true_and]; exact List.all_eq_true.2 hgood
   have hQ:T2 l n (dH (bD l n (flds lb)) lb):=⟨fun p=>by rw [GW,hcp.get,hcp.flds],(MH _ _).trans hcp.flds,(GY _ _).trans hm,qH hsb,hgood⟩
   exact fX s10 (⟨dH (bD l n (flds lb)) lb,0⟩:oT) (by rw [KU,AK]; rfl) ⟨n,hn,(hres.trans (if_pos hall)).symm,fun _=>hQ⟩ (by rw [show xF ⟨dH (bD l n (flds lb)) lb,0⟩=Hx (dH (bD l n (flds lb)) lb) from if_pos rfl]; exact .cons _ (.cons _ (.cons _ (.cons _ (.cons _ (.cons _ (.cons _ (.cons _ (.cons _ (.cons _ (.cons _ (.cons _ (.cons _ (.cons _ ((List.Sublist.refl _))))))))))))))))
 skip
 have s5:=s4.marked D st5
 refine bL (aP (yU s5 ?_))
 refine rV s5.m (i:=0) rfl (by simp) fun w8 st8=>?_
 have s8:=s5.at' st8
 refine fR (by simp) lW (hJ s8.m 1 2 170 rfl rfl (by decide)) fun w9 st9=>?_
 have s9:=s8.at' st9
 refine eQ [.agg (aB cH).toArray,I 170] rfl s9.f ⟨⟨_,rfl,bQ (k:=1) s9 cS rfl rfl⟩,⟨_,rfl,dV (k:=2) s9 kD rfl rfl⟩,trivial⟩<|?_
 exact fX s9 (⟨cH,170⟩:oT) rfl ⟨n,hn,(hres.trans (if_neg (ne_true_of_eq_false hbad))).symm,fun h=>absurd h (by decide)⟩ (by rw [fN (by decide)]; exact List.nil_sublist _)
end Go.Proofs.YtfffbdmdllgalaaGreatDoor
namespace Go.Proofs.YtfffbdmdllgalaaGreatDoor
open Go Go.RowKit Go.Fz
set_option maxRecDepth 10000
set_option maxHeartbeats 40000000
theorem j9 {w0 w:World} {Z:List Fz.Item} {i0 i1 i2 i3 i4 i5 i6 i7 i8 i9 i10 i11 i12 i13 i14 i15 i16 i17 i18 i19 i20 i21 i22 i23 i24 i25 i26:Fz.Item} (h:St w0 (i0::i1::i2::i3::i4::i5::i6::i7::i8::i9::i10::i11::i12::i13::i14::i15::i16::i17::i18::i19::i20::i21::i22::i23::i24::i25::i26::Z) w):St w0 (i1::i3::i5::i7::i9::i11::i12::i14::i15::i24::i25::i26::[]) w :=
 St.sub (St.picks (K:=[i0,i1,i2,i3,i4,i5,i6,i7,i8,i9,i10,i11,i12,i13,i14,i15,i16,i17,i18,i19,i20,i21,i22,i23,i24,i25,i26]) EE [1,3,5,7,9,11,12,14,15,24,25,26] [0,2,4,6,8,10,13,16,17,18,19,20,21,22,23] h (show List.isPerm ([1,3,5,7,9,11,12,14,15,24,25,26]++[0,2,4,6,8,10,13,16,17,18,19,20,21,22,23]) (List.range 27)=true by decide) rfl) (List.sublist_append_left _ _)
theorem iG {w0 w:World} {Z:List Fz.Item} {i0 i1 i2 i3 i4 i5 i6 i7 i8 i9 i10 i11 i12 i13 i14 i15 i16 i17:Fz.Item} (h:St w0 (i0::i1::i2::i3::i4::i5::i6::i7::i8::i9::i10::i11::i12::i13::i14::i15::i16::i17::Z) w):St w0 (i14::i12::i13::i11::i10::i9::i8::i7::i6::i16::i15::i0::i1::i2::i3::i4::i5::Z) w :=
 (St.picks (K:=[i0,i1,i2,i3,i4,i5,i6,i7,i8,i9,i10,i11,i12,i13,i14,i15,i16,i17]) EE [14,12,13,11,10,9,8,7,6,16,15,0,1,2,3,4,5] [17] h (show List.isPerm ([14,12,13,11,10,9,8,7,6,16,15,0,1,2,3,4,5]++[17]) (List.range 18)=true by decide) rfl)
theorem MK (l:aE) (w:World) (hL:LeagueAt w l) (hG:Glb w):Calls Tryz.prog 151 #[.agg (aB l).toArray] w (vO KU xF (QE l) w):=by
 refine fnM [.agg (aB l).toArray] Tryz.func151 rfl rfl rfl rfl fun _ s0=>?_
 have smx1:=hL.sm
 refine hM<|kA<|aA<|lb s0 0 _ rfl rfl rfl rfl fun B1 a2 w3 s4=>la s4 1 zz rfl DG rfl rfl fun B5 a6 w7 s8=>la s8 2 _ rfl WY rfl rfl fun B9 a10 w11 s12=>aR rfl<|aD<|hM<|kA<|aA<|zl s12 [1,2,3,16] [(1,Pt B1 0),(2,Pt B5 0),(3,Pt B9 0),(16,.func (.func 177) #[] #[Pt B5 0,Pt B9 0])] 0 1 qe fun _ w14 s15=>ldf s15 1 rfl rfl fun _ s17=>?_
 refine aR rfl<|aD<|hM<|kA<|aA<|fJ s17 [1,2,3,18] [1801] [] 0 2 (qo (s17.m.lda 34 2 0 cS rfl rfl rfl)<|qo (yc w14 aaG fun w' hb=>IT l w' ((hL.up s17.m).grow hb))<|qe) fun _ w19 s20=>cU s20 2 (b:=z7 l) (ch:=lB 2) rfl rfl rfl jJ rfl (fU _ _ _) (fun h21 w25 s26=>?_) (fun h21 a22 w23 s24=>?_)
 ·refine aP (yU s26 ?_)
  refine fR (by simp) lW (hJ s26.m 1 0 2 rfl rfl (by decide)) fun w9 st9=>?_
  have s9:=s26.at' st9
  refine eQ [.agg (aB cH).toArray,I 2] rfl s9.f ⟨⟨_,rfl,bQ (k:=1) s9 cS rfl rfl⟩,⟨_,rfl,dV (k:=0) s9 kD rfl rfl⟩,trivial⟩<|?_
  exact fX s9 (⟨cH,2⟩:oT) rfl ⟨(cB l),(BU l),(iF h21 rfl).symm,fun h=>absurd h (by decide)⟩ (by rw [fN (by decide)]; exact List.nil_sublist _)
 refine aR rfl<|aD<|hM<|kA<|aA<|zl s24 [1,2,3,20] [(20,.agg (aB l).toArray)] 0 1 (qo (s24.m.lda 34 2 0 cS rfl rfl rfl)<|qe) fun _ w28 s29=>lh s29 1 (v:=fun x:Nat × cE=>.slice (some ⟨x.1,0,none⟩) 7 7) (I:=fun x:Nat × cE=>cI x.1 158 (dE x.2)::y0 x.2) (φ:=fun x=>gZ l x.2) rfl rfl rfl aaH rfl (TO l _ (hL.up s29.m)) fun y30 a31 w32 hn34 s33=>?_
 have smN_towns:y30.2.towns.length≤140737488355328:=by rw [hn34.1]; simp only [List.length_map]; exact hL.towns.small
 have smN_grounds:y30.2.grounds.length≤140737488355328:=by rw [hn34.2.1]; simp only [List.length_map]; exact hL.grounds.small
 have smN_teams:y30.2.teams.length≤140737488355328:=by rw [hn34.2.2.1]; simp only [List.length_map]; exact hL.teams.small
 have smN_windows:y30.2.windows.length≤140737488355328:=by rw [hn34.2.2.2.1]; simp only [List.length_map]; exact hL.windows.small
 have smN_slots:y30.2.slots.length≤140737488355328:=by rw [hn34.2.2.2.2.1]; simp only [List.length_map]; exact hL.slots.small
 have smN_phases:y30.2.phases.length≤140737488355328:=by rw [hn34.2.2.2.2.2.1]; simp only [List.length_map]; exact hL.phases.small
 have smN_conds:y30.2.conds.length≤140737488355328:=by rw [hn34.2.2.2.2.2.2]; simp only [List.length_map]; exact hL.conds.small
 refine zl s33 [1,2,3,4] [(4,.slice (some ⟨y30.1,0,none⟩) 7 7)] 2 1 qe fun _ w36 s37=>aR rfl<|aD<|hM<|kA<|aA<|fJ s37 [1,2,3,4,24] [2402] [] 0 3 (qo (fa w36 B1 0 zI)<|qo (s37.m.ld 9 10 0 qQ rfl rfl)<|qo (yc w36 VG fun w' hb=>OY l.name w' ((hG.up s37.m).grow hb))<|qe) fun _ w39 s40=>cU s40 3 (b:=eO l.name) (ch:=lB 170) rfl rfl rfl jJ rfl (fU _ _ _) (fun h41 w45 s46=>?_) (fun h41 a42 w43 s44=>?_)
 ·refine aP (yU s46 ?_)
  refine fR (by simp) lW (hJ s46.m 9 8 170 rfl rfl (by decide)) fun w9 st9=>?_
  have s9:=s46.at' st9
  refine eQ [.agg (aB cH).toArray,I 170] rfl s9.f ⟨⟨_,rfl,bQ (k:=9) s9 cS rfl rfl⟩,⟨_,rfl,dV (k:=8) s9 kD rfl rfl⟩,trivial⟩<|?_
  exact fX s9 (⟨cH,170⟩:oT) rfl ⟨y30.2,hn34,(iP h21 (iF h41 rfl)).symm,fun h=>absurd h (by decide)⟩ (by rw [fN (by decide)]; exact List.nil_sublist _)
 refine aR rfl<|aD<|hM<|kA<|d5 s44 [1,2,3,4,26,27,28] [2700] [(26,.slice (some ⟨y30.1,0,none⟩) 7 7),(28,I 0)] (qo (ln w43 3 (some ⟨y30.1,0,none⟩) 7 7 m3)<|qe) fun _ w48 s49=>wp_block<|uJ<|cL<|zs s49 [1,2,3,4,26,27,28,29] [(29,Bo (decide (0<7)))] qe fun _ w51 s52=>wp_seq<|aQ s52.f rfl (fun _=>?_) (fun hX=>absurd (by decide) hX)
 refine wp_skip<|aD<|wp_seq<|wp_block<|d5 s52 [1,2,3,4,6,26,27,28] [601] [] (qo (ia w51 (some ⟨y30.1,0,none⟩) 7 7 0 m3 iB (by decide) ⟨_,rfl,rfl⟩)<|qo (s52.m.ld 158 0 0 c8 rfl rfl)<|qe) fun _ w55 s56=>aA<|zl s56 [1,2,3,4,26,27,28,34] [(34,Bo (!(decide (kM (fun s => !eO s) y30.2.towns≥0))))] 0 3 (qo (yc w55 zN fun w' hb=>j2 y30.2.townsA y30.2.towns y30.2.townsC w' ((s56.m.row (enc:=aJ) 7 rfl aU smN_towns).grow hb) ((hG.up s56.m).grow hb))<|qe) fun _ w58 s59=>cU s59 3 (b := !(decide (kM (fun s => !eO s) y30.2.towns≥0))) (ch:=lB 170) rfl rfl rfl jJ rfl (fU _ _ _) (fun h60 w64 s65=>?_) (fun h60 a61 w62 s63=>?_)
 ·refine bL (aP (aP (bL (aP (yU s65 ?_)))))
  refine fR (by simp) lW (hJ s65.m 9 8 170 rfl rfl (by decide)) fun w9 st9=>?_
  have s9:=s65.at' st9
  refine eQ [.agg (aB cH).toArray,I 170] rfl s9.f ⟨⟨_,rfl,bQ (k:=9) s9 cS rfl rfl⟩,⟨_,rfl,dV (k:=8) s9 kD rfl rfl⟩,trivial⟩<|?_
  exact fX s9 (⟨cH,170⟩:oT) rfl ⟨y30.2,hn34,(iP h21 (iP h41 (iF h60 rfl))).symm,fun h=>absurd h (by decide)⟩ (by rw [fN (by decide)]; exact List.nil_sublist _)
 refine aR rfl<|c9 (aD ?_)
 refine dU s63 [1,2,3,4,26,27,28] [2800] [] (qo (wr (0+1) 1 (by omega))<|qe) fun _ w67 s68=>aD<|cL<|zs s68 [1,2,3,4,26,27,28,29] [(29,Bo (decide (1<7)))] qe fun _ w70 s71=>wp_seq<|aQ s71.f rfl (fun _=>?_) (fun hX=>absurd (by decide) hX)
 refine wp_skip<|aD<|wp_seq<|wp_block<|d5 s71 [1,2,3,4,6,26,27,28] [601] [] (qo (ia w70 (some ⟨y30.1,0,none⟩) 7 7 1 m3 iB (by decide) ⟨_,rfl,rfl⟩)<|qo (s71.m.ld 158 0 1 c8 rfl rfl)<|qe) fun _ w74 s75=>aA<|zl s75 [1,2,3,4,26,27,28,34] [(34,Bo (!(decide (kM (fun s => !eO s) y30.2.grounds≥0))))] 0 3 (qo (yc w74 zN fun w' hb=>j2 y30.2.groundsA y30.2.grounds y30.2.groundsC w' ((s75.m.row (enc:=aJ) 6 rfl aU smN_grounds).grow hb) ((hG.up s75.m).grow hb))<|qe) fun _ w77 s78=>cU s78 3 (b := !(decide (kM (fun s => !eO s) y30.2.grounds≥0))) (ch:=lB 170) rfl rfl rfl jJ rfl (fU _ _ _) (fun h79 w83 s84=>?_) (fun h79 a80 w81 s82=>?_)
 ·refine bL (aP (aP (bL (aP (yU s84 ?_)))))
  refine fR (by simp) lW (hJ s84.m 9 8 170 rfl rfl (by decide)) fun w9 st9=>?_
  have s9:=s84.at' st9
  refine eQ [.agg (aB cH).toArray,I 170] rfl s9.f ⟨⟨_,rfl,bQ (k:=9) s9 cS rfl rfl⟩,⟨_,rfl,dV (k:=8) s9 kD rfl rfl⟩,trivial⟩<|?_
  exact fX s9 (⟨cH,170⟩:oT) rfl ⟨y30.2,hn34,(iP h21 (iP h41 (iP h60 (iF h79 rfl)))).symm,fun h=>absurd h (by decide)⟩ (by rw [fN (by decide)]; exact List.nil_sublist _)
 refine aR rfl<|c9 (aD ?_)
 refine dU s82 [1,2,3,4,26,27,28] [2800] [] (qo (wr (1+1) 2 (by omega))<|qe) fun _ w86 s87=>aD<|cL<|zs s87 [1,2,3,4,26,27,28,29] [(29,Bo (decide (2<7)))] qe fun _ w89 s90=>wp_seq<|aQ s90.f rfl (fun _=>?_) (fun hX=>absurd (by decide) hX)
 refine wp_skip<|aD<|wp_seq<|wp_block<|d5 s90 [1,2,3,4,6,26,27,28] [601] [] (qo (ia w89 (some ⟨y30.1,0,none⟩) 7 7 2 m3 iB (by decide) ⟨_,rfl,rfl⟩)<|qo (s90.m.ld 158 0 2 c8 rfl rfl)<|qe) fun _ w93 s94=>aA<|zl s94 [1,2,3,4,26,27,28,34] [(34,Bo (!(decide (kM (fun s => !eO s) y30.2.teams≥0))))] 0 3 (qo (yc w93 zN fun w' hb=>j2 y30.2.teamsA y30.2.teams y30.2.teamsC w' ((s94.m.row (enc:=aJ) 5 rfl aU smN_teams).grow hb) ((hG.up s94.m).grow hb))<|qe) fun _ w96 s97=>cU s97 3 (b := !(decide (kM (fun s => !eO s) y30.2.teams≥0))) (ch:=lB 170) rfl rfl rfl jJ rfl (fU _ _ _) (fun h98 w102 s103=>?_) (fun h98 a99 w100 s101=>?_)
 ·refine bL (aP (aP (bL (aP (yU s103 ?_)))))
  refine fR (by simp) lW (hJ s103.m 9 8 170 rfl rfl (by decide)) fun w9 st9=>?_
  have s9:=s103.at' st9
  refine eQ [.agg (aB cH).toArray,I 170] rfl s9.f ⟨⟨_,rfl,bQ (k:=9) s9 cS rfl rfl⟩,⟨_,rfl,dV (k:=8) s9 kD rfl rfl⟩,trivial⟩<|?_
  exact fX s9 (⟨cH,170⟩:oT) rfl ⟨y30.2,hn34,(iP h21 (iP h41 (iP h60 (iP h79 (iF h98 rfl))))).symm,fun h=>absurd h (by decide)⟩ (by rw [fN (by decide)]; exact List.nil_sublist _)
 refine aR rfl<|c9 (aD ?_)
 refine dU s101 [1,2,3,4,26,27,28] [2800] [] (qo (wr (2+1) 3 (by omega))<|qe) fun _ w105 s106=>aD<|cL<|zs s106 [1,2,3,4,26,27,28,29] [(29,Bo (decide (3<7)))] qe fun _ w108 s109=>wp_seq<|aQ s109.f rfl (fun _=>?_) (fun hX=>absurd (by decide) hX)
 refine wp_skip<|aD<|wp_seq<|wp_block<|d5 s109 [1,2,3,4,6,26,27,28] [601] [] (qo (ia w108 (some ⟨y30.1,0,none⟩) 7 7 3 m3 iB (by decide) ⟨_,rfl,rfl⟩)<|qo (s109.m.ld 158 0 3 c8 rfl rfl)<|qe) fun _ w112 s113=>aA<|zl s113 [1,2,3,4,26,27,28,34] [(34,Bo (!(decide (kM (fun s => !eO s) y30.2.windows≥0))))] 0 3 (qo (yc w112 zN fun w' hb=>j2 y30.2.windowsA y30.2.windows y30.2.windowsC w' ((s113.m.row (enc:=aJ) 4 rfl aU smN_windows).grow hb) ((hG.up s113.m).grow hb))<|qe) fun _ w115 s116=>cU s116 3 (b := !(decide (kM (fun s => !eO s) y30.2.windows≥0))) (ch:=lB 170) rfl rfl rfl jJ rfl (fU _ _ _) (fun h117 w121 s122=>?_) (fun h117 a118 w119 s120=>?_)
 ·refine bL (aP (aP (bL (aP (yU s122 ?_)))))
  refine fR (by simp) lW (hJ s122.m 9 8 170 rfl rfl (by decide)) fun w9 st9=>?_
  have s9:=s122.at' st9
  refine eQ [.agg (aB cH).toArray,I 170] rfl s9.f ⟨⟨_,rfl,bQ (k:=9) s9 cS rfl rfl⟩,⟨_,rfl,dV (k:=8) s9 kD rfl rfl⟩,trivial⟩<|?_
  exact fX s9 (⟨cH,170⟩:oT) rfl ⟨y30.2,hn34,(iP h21 (iP h41 (iP h60 (iP h79 (iP h98 (iF h117 rfl)))))).symm,fun h=>absurd h (by decide)⟩ (by rw [fN (by decide)]; exact List.nil_sublist _)
 refine aR rfl<|c9 (aD ?_)
 refine dU s120 [1,2,3,4,26,27,28] [2800] [] (qo (wr (3+1) 4 (by omega))<|qe) fun _ w124 s125=>aD<|cL<|zs s125 [1,2,3,4,26,27,28,29] [(29,Bo (decide (4<7)))] qe fun _ w127 s128=>wp_seq<|aQ s128.f rfl (fun _=>?_) (fun hX=>absurd (by decide) hX)
 refine wp_skip<|aD<|wp_seq<|wp_block<|d5 s128 [1,2,3,4,6,26,27,28] [601] [] (qo (ia w127 (some ⟨y30.1,0,none⟩) 7 7 4 m3 iB (by decide) ⟨_,rfl,rfl⟩)<|qo (s128.m.ld 158 0 4 c8 rfl rfl)<|qe) fun _ w131 s132=>aA<|zl s132 [1,2,3,4,26,27,28,34] [(34,Bo (!(decide (kM (fun s => !eO s) y30.2.slots≥0))))] 0 3 (qo (yc w131 zN fun w' hb=>j2 y30.2.slotsA y30.2.slots y30.2.slotsC w' ((s132.m.row (enc:=aJ) 3 rfl aU smN_slots).grow hb) ((hG.up s132.m).grow hb))<|qe) fun _ w134 s135=>cU s135 3 (b := !(decide (kM (fun s => !eO s) y30.2.slots≥0))) (ch:=lB 170) rfl rfl rfl jJ rfl (fU _ _ _) (fun h136 w140 s141=>?_) (fun h136 a137 w138 s139=>?_)
 ·refine bL (aP (aP (bL (aP (yU s141 ?_)))))
  refine fR (by simp) lW (hJ s141.m 9 8 170 rfl rfl (by decide)) fun w9 st9=>?_
  have s9:=s141.at' st9
  refine eQ [.agg (aB cH).toArray,I 170] rfl s9.f ⟨⟨_,rfl,bQ (k:=9) s9 cS rfl rfl⟩,⟨_,rfl,dV (k:=8) s9 kD rfl rfl⟩,trivial⟩<|?_
  exact fX s9 (⟨cH,170⟩:oT) rfl ⟨y30.2,hn34,(iP h21 (iP h41 (iP h60 (iP h79 (iP h98 (iP h117 (iF h136 rfl))))))).symm,fun h=>absurd h (by decide)⟩ (by rw [fN (by decide)]; exact List.nil_sublist _)
 refine aR rfl<|c9 (aD ?_)
 refine dU s139 [1,2,3,4,26,27,28] [2800] [] (qo (wr (4+1) 5 (by omega))<|qe) fun _ w143 s144=>aD<|cL<|zs s144 [1,2,3,4,26,27,28,29] [(29,Bo (decide (5<7)))] qe fun _ w146 s147=>wp_seq<|aQ s147.f rfl (fun _=>?_) (fun hX=>absurd (by decide) hX)
 refine wp_skip<|aD<|wp_seq<|wp_block<|d5 s147 [1,2,3,4,6,26,27,28] [601] [] (qo (ia w146 (some ⟨y30.1,0,none⟩) 7 7 5 m3 iB (by decide) ⟨_,rfl,rfl⟩)<|qo (s147.m.ld 158 0 5 c8 rfl rfl)<|qe) fun _ w150 s151=>aA<|zl s151 [1,2,3,4,26,27,28,34] [(34,Bo (!(decide (kM (fun s => !eO s) y30.2.phases≥0))))] 0 3 (qo (yc w150 zN fun w' hb=>j2 y30.2.phasesA y30.2.phases y30.2.phasesC w' ((s151.m.row (enc:=aJ) 2 rfl aU smN_phases).grow hb) ((hG.up s151.m).grow hb))<|qe) fun _ w153 s154=>cU s154 3 (b := !(decide (kM (fun s => !eO s) y30.2.phases≥0))) (ch:=lB 170) rfl rfl rfl jJ rfl (fU _ _ _) (fun h155 w159 s160=>?_) (fun h155 a156 w157 s158=>?_)
 ·refine bL (aP (aP (bL (aP (yU s160 ?_)))))
  refine fR (by simp) lW (hJ s160.m 9 8 170 rfl rfl (by decide)) fun w9 st9=>?_
  have s9:=s160.at' st9
  refine eQ [.agg (aB cH).toArray,I 170] rfl s9.f ⟨⟨_,rfl,bQ (k:=9) s9 cS rfl rfl⟩,⟨_,rfl,dV (k:=8) s9 kD rfl rfl⟩,trivial⟩<|?_
  exact fX s9 (⟨cH,170⟩:oT) rfl ⟨y30.2,hn34,(iP h21 (iP h41 (iP h60 (iP h79 (iP h98 (iP h117 (iP h136 (iF h155 rfl)))))))).symm,fun h=>absurd h (by decide)⟩ (by rw [fN (by decide)]; exact List.nil_sublist _)
 refine aR rfl<|c9 (aD ?_)
 refine dU s158 [1,2,3,4,26,27,28] [2800] [] (qo (wr (5+1) 6 (by omega))<|qe) fun _ w162 s163=>aD<|cL<|zs s163 [1,2,3,4,26,27,28,29] [(29,Bo (decide (6<7)))] qe fun _ w165 s166=>wp_seq<|aQ s166.f rfl (fun _=>?_) (fun hX=>absurd (by decide) hX)
 refine wp_skip<|aD<|wp_seq<|wp_block<|d5 s166 [1,2,3,4,6,26,27,28] [601] [] (qo (ia w165 (some ⟨y30.1,0,none⟩) 7 7 6 m3 iB (by decide) ⟨_,rfl,rfl⟩)<|qo (s166.m.ld 158 0 6 c8 rfl rfl)<|qe) fun _ w169 s170=>aA<|zl s170 [1,2,3,4,26,27,28,34] [(34,Bo (!(decide (kM (fun s => !eO s) y30.2.conds≥0))))] 0 3 (qo (yc w169 zN fun w' hb=>j2 y30.2.condsA y30.2.conds y30.2.condsC w' ((s170.m.row (enc:=aJ) 1 rfl aU smN_conds).grow hb) ((hG.up s170.m).grow hb))<|qe) fun _ w172 s173=>cU s173 3 (b := !(decide (kM (fun s => !eO s) y30.2.conds≥0))) (ch:=lB 170) rfl rfl rfl jJ rfl (fU _ _ _) (fun h174 w178 s179=>?_) (fun h174 a175 w176 s177=>?_)
 ·refine bL (aP (aP (bL (aP (yU s179 ?_)))))
  refine fR (by simp) lW (hJ s179.m 9 8 170 rfl rfl (by decide)) fun w9 st9=>?_
  have s9:=s179.at' st9
  refine eQ [.agg (aB cH).toArray,I 170] rfl s9.f ⟨⟨_,rfl,bQ (k:=9) s9 cS rfl rfl⟩,⟨_,rfl,dV (k:=8) s9 kD rfl rfl⟩,trivial⟩<|?_
  exact fX s9 (⟨cH,170⟩:oT) rfl ⟨y30.2,hn34,(iP h21 (iP h41 (iP h60 (iP h79 (iP h98 (iP h117 (iP h136 (iP h155 (iF h174 rfl))))))))).symm,fun h=>absurd h (by decide)⟩ (by rw [fN (by decide)]; exact List.nil_sublist _)
 refine aR rfl<|c9 (aD ?_)
 refine dU s177 [1,2,3,4,26,27,28] [2800] [] (qo (wr (6+1) 7 (by omega))<|qe) fun _ w181 s182=>aD<|cL<|zs s182 [1,2,3,4,26,27,28,29] [(29,Bo (decide (7<7)))] qe fun _ w184 s185=>wp_seq<|aQ s185.f rfl (fun hX=>absurd hX (by decide)) (fun _=>?_)
 refine wp_exit<|aY (aY (cP (aD ?_)))
 refine hM<|kA<|aA<|la s185 0 _ rfl ZE rfl rfl fun B187 a188 w189 s190=>aR rfl<|aD<|hM<|kA<|d5 s190 [1,2,3,7,37,38,39] [3800] [(7,Pt B187 0),(37,.slice (some ⟨y30.1,0,none⟩) 7 7),(39,I 0)] (qo (ln w189 3 (some ⟨y30.1,0,none⟩) 7 7 m3)<|qe) fun _ w192 s193=>wp_block<|uJ<|cL<|zs s193 [1,2,3,7,37,38,39,40] [(40,Bo (decide (0<7)))] qe fun _ w195 s196=>?_
 refine wp_seq<|aQ s196.f rfl (fun _=>?_) (fun hX=>absurd (by decide) hX)
 refine wp_skip<|aD<|wp_seq<|wp_block<|d5 s196 [1,2,3,7,9,37,38,39] [901] [] (qo (ia w195 (some ⟨y30.1,0,none⟩) 7 7 0 m3 iB (by decide) ⟨_,rfl,rfl⟩)<|qo (s196.m.ld 158 1 0 c8 rfl rfl)<|qe) fun _ w199 s200=>wp_seq<|aA<|zl s200 [1,2,3,7,37,38,39,44] [(44,.slice y30.2.townsA y30.2.towns.length y30.2.townsC)] 0 1 qe fun _ w202 s203=>lh s203 1 (v:=fun B:Nat=>.tuple #[.map (some B),Bo (q5 y30.2.towns)]) (I:=fun B=>[mI B (mK Value.string (aS y30.2.towns y30.2.towns.length))]) (φ:=fun _=>True) rfl rfl rfl zO rfl (qG y30.2.townsA y30.2.towns y30.2.townsC _ (s203.m.row (enc:=aJ) 8 rfl aU smN_towns)) fun B204 a205 w206 _ s207=>zl s207 [1,2,3,7,10,11,37,38,39] [(10,.map (some B204)),(11,Bo (q5 y30.2.towns))] 2 5 qe fun _ w209 s210=>aR rfl<|aD<|wp_seq ?_
 refine aA<|zl s210 [1,2,3,7,10,37,38,39,48] [(48,Bo (q5 y30.2.towns))] 0 1 qe fun _ w212 s213=>cU s213 1 (b:=q5 y30.2.towns) (ch:=lB 171) rfl rfl rfl jJ rfl (fU _ _ _) (fun h214 w218 s219=>?_) (fun h214 a215 w216 s217=>?_)
 ·refine aP (bL (aP (aP (bL (aP (yU s219 ?_))))))
  refine fR (by simp) lW (hJ s219.m 11 10 171 rfl rfl (by decide)) fun w9 st9=>?_
  have s9:=s219.at' st9
  refine eQ [.agg (aB cH).toArray,I 171] rfl s9.f ⟨⟨_,rfl,bQ (k:=11) s9 cS rfl rfl⟩,⟨_,rfl,dV (k:=10) s9 kD rfl rfl⟩,trivial⟩<|?_
  exact fX s9 (⟨cH,171⟩:oT) rfl ⟨y30.2,hn34,(iP h21 (iP h41 (iP h60 (iP h79 (iP h98 (iP h117 (iP h136 (iP h155 (iP h174 (iF h214 rfl)))))))))).symm,fun h=>absurd h (by decide)⟩ (by rw [fN (by decide)]; exact List.nil_sublist _)
 refine aR rfl<|aD<|aA<|fJ s217 [1,2,3,7,37,38,39,50,51] [5000] [(51,.map (some B204))] 0 2 (qo (s217.m.ld 236 1 0 qR rfl rfl)<|qe) fun _ w221 s222=>lR s222 2 (vs:=[.map (some B204)]) (e:=237) [.map (some B204)] rfl rfl (fun _=>by kernel_rfl) rfl fun B223 a224 w225 s226=>?_
 have s227:=s226.nilR 237 1 fV
 refine oV s227 3 0 (xs:=([]:List Nat)) (ys:=[B204]) (oa:=none) (oa2:=(some ⟨B223,0,none⟩)) rfl rfl rfl rfl eN zR (s227.m.rowc (enc:=fV) 1 ([B204]) rfl eN rfl (Nat.le_of_ble_eq_true rfl)) (by first | omega | (simp only [bV]; omega)) (by simp only [maxLen]; first | omega | (simp only [bV]; omega)) rfl fun oa228 c229 a230 w231 s232=>?_
 have s233:Sta 139 (⟨.fn (.func 177) #[Pt B5 0,Pt B9 0],#[]⟩::[]) w [⟨53,[],.slice oa228 1 c229⟩,⟨52,[],.slice (some ⟨B223,0,none⟩) 1 1⟩,⟨1,[],Pt B1 0⟩,⟨2,[],Pt B5 0⟩,⟨3,[],Pt B9 0⟩,⟨7,[],Pt B187 0⟩,⟨37,[],.slice (some ⟨y30.1,0,none⟩) 7 7⟩,⟨38,[],I 7⟩,⟨39,[],I 0⟩,⟨50,[],.slice none 0 0⟩,⟨51,[],.map (some B204)⟩] [oR 237 1 fV oa228 c229 ([B204]),cI B223 237 [.map (some B204)],mI B204 (mK Value.string (aS y30.2.towns y30.2.towns.length)),cI B187 236 [.slice none 0 0],cI y30.1 158 [.slice y30.2.townsA y30.2.towns.length y30.2.townsC,.slice y30.2.groundsA y30.2.grounds.length y30.2.groundsC,.slice y30.2.teamsA y30.2.teams.length y30.2.teamsC,.slice y30.2.windowsA y30.2.windows.length y30.2.windowsC,.slice y30.2.slotsA y30.2.slots.length y30.2.slotsC,.slice y30.2.phasesA y30.2.phases.length y30.2.phasesC,.slice y30.2.condsA y30.2.conds.length y30.2.condsC],oR 9 1 aJ y30.2.condsA y30.2.condsC y30.2.conds,oR 9 1 aJ y30.2.phasesA y30.2.phasesC y30.2.phases,oR 9 1 aJ y30.2.slotsA y30.2.slotsC y30.2.slots,oR 9 1 aJ y30.2.windowsA y30.2.windowsC y30.2.windows,oR 9 1 aJ y30.2.teamsA y30.2.teamsC y30.2.teams,oR 9 1 aJ y30.2.groundsA y30.2.groundsC y30.2.grounds,oR 9 1 aJ y30.2.townsA y30.2.townsC y30.2.towns,cI B9 40 [I 0],cI B5 34 zz,cI B1 34 (aB l)] a230 w231:=s232
 refine dD s233 4 3 _ _ rfl rfl rfl rfl zG rfl rfl rfl rfl fun w234 s235=>aR rfl<|c9 (aD ?_)
 refine dU s235 [1,2,3,7,37,38,39] [3900] [] (qo (wr (0+1) 1 (by omega))<|qe) fun _ w237 s238=>aD<|cL<|zs s238 [1,2,3,7,37,38,39,40] [(40,Bo (decide (1<7)))] qe fun _ w240 s241=>wp_seq<|aQ s241.f rfl (fun _=>?_) (fun hX=>absurd (by decide) hX)
 refine wp_skip<|aD<|wp_seq<|wp_block<|d5 s241 [1,2,3,7,9,37,38,39] [901] [] (qo (ia w240 (some ⟨y30.1,0,none⟩) 7 7 1 m3 iB (by decide) ⟨_,rfl,rfl⟩)<|qo (s241.m.ld 158 4 1 c8 rfl rfl)<|qe) fun _ w244 s245=>wp_seq<|aA<|zl s245 [1,2,3,7,37,38,39,44] [(44,.slice y30.2.groundsA y30.2.grounds.length y30.2.groundsC)] 0 1 qe fun _ w247 s248=>lh s248 1 (v:=fun B:Nat=>.tuple #[.map (some B),Bo (q5 y30.2.grounds)]) (I:=fun B=>[mI B (mK Value.string (aS y30.2.grounds y30.2.grounds.length))]) (φ:=fun _=>True) rfl rfl rfl zO rfl (qG y30.2.groundsA y30.2.grounds y30.2.groundsC _ (s248.m.row (enc:=aJ) 10 rfl aU smN_grounds)) fun B249 a250 w251 _ s252=>zl s252 [1,2,3,7,10,11,37,38,39] [(10,.map (some B249)),(11,Bo (q5 y30.2.grounds))] 2 5 qe fun _ w254 s255=>aR rfl<|aD<|wp_seq ?_
 refine aA<|zl s255 [1,2,3,7,10,37,38,39,48] [(48,Bo (q5 y30.2.grounds))] 0 1 qe fun _ w257 s258=>cU s258 1 (b:=q5 y30.2.grounds) (ch:=lB 171) rfl rfl rfl jJ rfl (fU _ _ _) (fun h259 w263 s264=>?_) (fun h259 a260 w261 s262=>?_)
 ·refine aP (bL (aP (aP (bL (aP (yU s264 ?_))))))
  refine fR (by simp) lW (hJ s264.m 14 13 171 rfl rfl (by decide)) fun w9 st9=>?_
  have s9:=s264.at' st9
  refine eQ [.agg (aB cH).toArray,I 171] rfl s9.f ⟨⟨_,rfl,bQ (k:=14) s9 cS rfl rfl⟩,⟨_,rfl,dV (k:=13) s9 kD rfl rfl⟩,trivial⟩<|?_
  exact fX s9 (⟨cH,171⟩:oT) rfl ⟨y30.2,hn34,(iP h21 (iP h41 (iP h60 (iP h79 (iP h98 (iP h117 (iP h136 (iP h155 (iP h174 (iP h214 (iF h259 rfl))))))))))).symm,fun h=>absurd h (by decide)⟩ (by rw [fN (by decide)]; exact List.nil_sublist _)
 refine aR rfl<|aD<|aA<|fJ s262 [1,2,3,7,37,38,39,50,51] [5000] [(51,.map (some B249))] 0 2 (qo (s262.m.ld 236 4 0 qR rfl rfl)<|qe) fun _ w266 s267=>lR s267 2 (vs:=[.map (some B249)]) (e:=237) [.map (some B249)] rfl rfl (fun _=>by kernel_rfl) rfl fun B268 a269 w270 s271=>oV s271 3 2 (xs:=[B204]) (ys:=[B249]) (oa:=oa228) (oa2:=(some ⟨B268,0,none⟩)) rfl rfl rfl rfl eN zR (s271.m.rowc (enc:=fV) 0 ([B249]) rfl eN rfl (Nat.le_of_ble_eq_true rfl)) (by first | omega | (simp only [bV]; omega)) (by simp only [maxLen]; first | omega | (simp only [bV]; omega)) rfl fun oa272 c273 a274 w275 s276=>?_
 have s277:Sta 139 (⟨.fn (.func 177) #[Pt B5 0,Pt B9 0],#[]⟩::[]) w [⟨53,[],.slice oa272 2 c273⟩,⟨52,[],.slice (some ⟨B268,0,none⟩) 1 1⟩,⟨1,[],Pt B1 0⟩,⟨2,[],Pt B5 0⟩,⟨3,[],Pt B9 0⟩,⟨7,[],Pt B187 0⟩,⟨37,[],.slice (some ⟨y30.1,0,none⟩) 7 7⟩,⟨38,[],I 7⟩,⟨39,[],I 1⟩,⟨50,[],.slice oa228 1 c229⟩,⟨51,[],.map (some B249)⟩] [cI B268 237 [.map (some B249)],mI B249 (mK Value.string (aS y30.2.grounds y30.2.grounds.length)),oR 237 1 fV oa272 c273 ([B204,B249]),cI B223 237 [.map (some B204)],mI B204 (mK Value.string (aS y30.2.towns y30.2.towns.length)),cI B187 236 [.slice oa228 1 c229],cI y30.1 158 [.slice y30.2.townsA y30.2.towns.length y30.2.townsC,.slice y30.2.groundsA y30.2.grounds.length y30.2.groundsC,.slice y30.2.teamsA y30.2.teams.length y30.2.teamsC,.slice y30.2.windowsA y30.2.windows.length y30.2.windowsC,.slice y30.2.slotsA y30.2.slots.length y30.2.slotsC,.slice y30.2.phasesA y30.2.phases.length y30.2.phasesC,.slice y30.2.condsA y30.2.conds.length y30.2.condsC],oR 9 1 aJ y30.2.condsA y30.2.condsC y30.2.conds,oR 9 1 aJ y30.2.phasesA y30.2.phasesC y30.2.phases,oR 9 1 aJ y30.2.slotsA y30.2.slotsC y30.2.slots,oR 9 1 aJ y30.2.windowsA y30.2.windowsC y30.2.windows,oR 9 1 aJ y30.2.teamsA y30.2.teamsC y30.2.teams,oR 9 1 aJ y30.2.groundsA y30.2.groundsC y30.2.grounds,oR 9 1 aJ y30.2.townsA y30.2.townsC y30.2.towns,cI B9 40 [I 0],cI B5 34 zz,cI B1 34 (aB l)] a274 w275:=s276
 refine dD s277 4 5 _ _ rfl rfl rfl rfl zG rfl rfl rfl rfl fun w278 s279=>aR rfl<|c9 (aD ?_)
 refine dU s279 [1,2,3,7,37,38,39] [3900] [] (qo (wr (1+1) 2 (by omega))<|qe) fun _ w281 s282=>aD<|cL<|zs s282 [1,2,3,7,37,38,39,40] [(40,Bo (decide (2<7)))] qe fun _ w284 s285=>wp_seq<|aQ s285.f rfl (fun _=>?_) (fun hX=>absurd (by decide) hX)
 refine wp_skip<|aD<|wp_seq<|wp_block<|d5 s285 [1,2,3,7,9,37,38,39] [901] [] (qo (ia w284 (some ⟨y30.1,0,none⟩) 7 7 2 m3 iB (by decide) ⟨_,rfl,rfl⟩)<|qo (s285.m.ld 158 6 2 c8 rfl rfl)<|qe) fun _ w288 s289=>wp_seq<|aA<|zl s289 [1,2,3,7,37,38,39,44] [(44,.slice y30.2.teamsA y30.2.teams.length y30.2.teamsC)] 0 1 qe fun _ w291 s292=>lh s292 1 (v:=fun B:Nat=>.tuple #[.map (some B),Bo (q5 y30.2.teams)]) (I:=fun B=>[mI B (mK Value.string (aS y30.2.teams y30.2.teams.length))]) (φ:=fun _=>True) rfl rfl rfl zO rfl (qG y30.2.teamsA y30.2.teams y30.2.teamsC _ (s292.m.row (enc:=aJ) 11 rfl aU smN_teams)) fun B293 a294 w295 _ s296=>zl s296 [1,2,3,7,10,11,37,38,39] [(10,.map (some B293)),(11,Bo (q5 y30.2.teams))] 2 5 qe fun _ w298 s299=>aR rfl<|aD<|wp_seq ?_
 refine aA<|zl s299 [1,2,3,7,10,37,38,39,48] [(48,Bo (q5 y30.2.teams))] 0 1 qe fun _ w301 s302=>cU s302 1 (b:=q5 y30.2.teams) (ch:=lB 171) rfl rfl rfl jJ rfl (fU _ _ _) (fun h303 w307 s308=>?_) (fun h303 a304 w305 s306=>?_)
 ·refine aP (bL (aP (aP (bL (aP (yU s308 ?_))))))
  refine fR (by simp) lW (hJ s308.m 16 15 171 rfl rfl (by decide)) fun w9 st9=>?_
  have s9:=s308.at' st9
  refine eQ [.agg (aB cH).toArray,I 171] rfl s9.f ⟨⟨_,rfl,bQ (k:=16) s9 cS rfl rfl⟩,⟨_,rfl,dV (k:=15) s9 kD rfl rfl⟩,trivial⟩<|?_
  exact fX s9 (⟨cH,171⟩:oT) rfl ⟨y30.2,hn34,(iP h21 (iP h41 (iP h60 (iP h79 (iP h98 (iP h117 (iP h136 (iP h155 (iP h174 (iP h214 (iP h259 (iF h303 rfl)))))))))))).symm,fun h=>absurd h (by decide)⟩ (by rw [fN (by decide)]; exact List.nil_sublist _)
 refine aR rfl<|aD<|aA<|fJ s306 [1,2,3,7,37,38,39,50,51] [5000] [(51,.map (some B293))] 0 2 (qo (s306.m.ld 236 6 0 qR rfl rfl)<|qe) fun _ w310 s311=>lR s311 2 (vs:=[.map (some B293)]) (e:=237) [.map (some B293)] rfl rfl (fun _=>by kernel_rfl) rfl fun B312 a313 w314 s315=>oV s315 3 4 (xs:=[B204,B249]) (ys:=[B293]) (oa:=oa272) (oa2:=(some ⟨B312,0,none⟩)) rfl rfl rfl rfl eN zR (s315.m.rowc (enc:=fV) 0 ([B293]) rfl eN rfl (Nat.le_of_ble_eq_true rfl)) (by first | omega | (simp only [bV]; omega)) (by simp only [maxLen]; first | omega | (simp only [bV]; omega)) rfl fun oa316 c317 a318 w319 s320=>?_
 have s321:Sta 139 (⟨.fn (.func 177) #[Pt B5 0,Pt B9 0],#[]⟩::[]) w [⟨53,[],.slice oa316 3 c317⟩,⟨52,[],.slice (some ⟨B312,0,none⟩) 1 1⟩,⟨1,[],Pt B1 0⟩,⟨2,[],Pt B5 0⟩,⟨3,[],Pt B9 0⟩,⟨7,[],Pt B187 0⟩,⟨37,[],.slice (some ⟨y30.1,0,none⟩) 7 7⟩,⟨38,[],I 7⟩,⟨39,[],I 2⟩,⟨50,[],.slice oa272 2 c273⟩,⟨51,[],.map (some B293)⟩] [cI B312 237 [.map (some B293)],mI B293 (mK Value.string (aS y30.2.teams y30.2.teams.length)),cI B268 237 [.map (some B249)],mI B249 (mK Value.string (aS y30.2.grounds y30.2.grounds.length)),oR 237 1 fV oa316 c317 ([B204,B249,B293]),cI B223 237 [.map (some B204)],mI B204 (mK Value.string (aS y30.2.towns y30.2.towns.length)),cI B187 236 [.slice oa272 2 c273],cI y30.1 158 [.slice y30.2.townsA y30.2.towns.length y30.2.townsC,.slice y30.2.groundsA y30.2.grounds.length y30.2.groundsC,.slice y30.2.teamsA y30.2.teams.length y30.2.teamsC,.slice y30.2.windowsA y30.2.windows.length y30.2.windowsC,.slice y30.2.slotsA y30.2.slots.length y30.2.slotsC,.slice y30.2.phasesA y30.2.phases.length y30.2.phasesC,.slice y30.2.condsA y30.2.conds.length y30.2.condsC],oR 9 1 aJ y30.2.condsA y30.2.condsC y30.2.conds,oR 9 1 aJ y30.2.phasesA y30.2.phasesC y30.2.phases,oR 9 1 aJ y30.2.slotsA y30.2.slotsC y30.2.slots,oR 9 1 aJ y30.2.windowsA y30.2.windowsC y30.2.windows,oR 9 1 aJ y30.2.teamsA y30.2.teamsC y30.2.teams,oR 9 1 aJ y30.2.groundsA y30.2.groundsC y30.2.grounds,oR 9 1 aJ y30.2.townsA y30.2.townsC y30.2.towns,cI B9 40 [I 0],cI B5 34 zz,cI B1 34 (aB l)] a318 w319:=s320
 refine dD s321 4 7 _ _ rfl rfl rfl rfl zG rfl rfl rfl rfl fun w322 s323=>aR rfl<|c9 (aD ?_)
 refine dU s323 [1,2,3,7,37,38,39] [3900] [] (qo (wr (2+1) 3 (by omega))<|qe) fun _ w325 s326=>aD<|cL<|zs s326 [1,2,3,7,37,38,39,40] [(40,Bo (decide (3<7)))] qe fun _ w328 s329=>wp_seq<|aQ s329.f rfl (fun _=>?_) (fun hX=>absurd (by decide) hX)
 refine wp_skip<|aD<|wp_seq<|wp_block<|d5 s329 [1,2,3,7,9,37,38,39] [901] [] (qo (ia w328 (some ⟨y30.1,0,none⟩) 7 7 3 m3 iB (by decide) ⟨_,rfl,rfl⟩)<|qo (s329.m.ld 158 8 3 c8 rfl rfl)<|qe) fun _ w332 s333=>wp_seq<|aA<|zl s333 [1,2,3,7,37,38,39,44] [(44,.slice y30.2.windowsA y30.2.windows.length y30.2.windowsC)] 0 1 qe fun _ w335 s336=>lh s336 1 (v:=fun B:Nat=>.tuple #[.map (some B),Bo (q5 y30.2.windows)]) (I:=fun B=>[mI B (mK Value.string (aS y30.2.windows y30.2.windows.length))]) (φ:=fun _=>True) rfl rfl rfl zO rfl (qG y30.2.windowsA y30.2.windows y30.2.windowsC _ (s336.m.row (enc:=aJ) 12 rfl aU smN_windows)) fun B337 a338 w339 _ s340=>zl s340 [1,2,3,7,10,11,37,38,39] [(10,.map (some B337)),(11,Bo (q5 y30.2.windows))] 2 5 qe fun _ w342 s343=>aR rfl<|aD<|wp_seq ?_
 refine aA<|zl s343 [1,2,3,7,10,37,38,39,48] [(48,Bo (q5 y30.2.windows))] 0 1 qe fun _ w345 s346=>cU s346 1 (b:=q5 y30.2.windows) (ch:=lB 171) rfl rfl rfl jJ rfl (fU _ _ _) (fun h347 w351 s352=>?_) (fun h347 a348 w349 s350=>?_)
 ·refine aP (bL (aP (aP (bL (aP (yU s352 ?_))))))
  refine fR (by simp) lW (hJ s352.m 18 17 171 rfl rfl (by decide)) fun w9 st9=>?_
  have s9:=s352.at' st9
  refine eQ [.agg (aB cH).toArray,I 171] rfl s9.f ⟨⟨_,rfl,bQ (k:=18) s9 cS rfl rfl⟩,⟨_,rfl,dV (k:=17) s9 kD rfl rfl⟩,trivial⟩<|?_
  exact fX s9 (⟨cH,171⟩:oT) rfl ⟨y30.2,hn34,(iP h21 (iP h41 (iP h60 (iP h79 (iP h98 (iP h117 (iP h136 (iP h155 (iP h174 (iP h214 (iP h259 (iP h303 (iF h347 rfl))))))))))))).symm,fun h=>absurd h (by decide)⟩ (by rw [fN (by decide)]; exact List.nil_sublist _)
 refine aR rfl<|aD<|aA<|fJ s350 [1,2,3,7,37,38,39,50,51] [5000] [(51,.map (some B337))] 0 2 (qo (s350.m.ld 236 8 0 qR rfl rfl)<|qe) fun _ w354 s355=>lR s355 2 (vs:=[.map (some B337)]) (e:=237) [.map (some B337)] rfl rfl (fun _=>by kernel_rfl) rfl fun B356 a357 w358 s359=>oV s359 3 6 (xs:=[B204,B249,B293]) (ys:=[B337]) (oa:=oa316) (oa2:=(some ⟨B356,0,none⟩)) rfl rfl rfl rfl eN zR (s359.m.rowc (enc:=fV) 0 ([B337]) rfl eN rfl (Nat.le_of_ble_eq_true rfl)) (by first | omega | (simp only [bV]; omega)) (by simp only [maxLen]; first | omega | (simp only [bV]; omega)) rfl fun oa360 c361 a362 w363 s364=>?_
 have s365:Sta 139 (⟨.fn (.func 177) #[Pt B5 0,Pt B9 0],#[]⟩::[]) w [⟨53,[],.slice oa360 4 c361⟩,⟨52,[],.slice (some ⟨B356,0,none⟩) 1 1⟩,⟨1,[],Pt B1 0⟩,⟨2,[],Pt B5 0⟩,⟨3,[],Pt B9 0⟩,⟨7,[],Pt B187 0⟩,⟨37,[],.slice (some ⟨y30.1,0,none⟩) 7 7⟩,⟨38,[],I 7⟩,⟨39,[],I 3⟩,⟨50,[],.slice oa316 3 c317⟩,⟨51,[],.map (some B337)⟩] [cI B356 237 [.map (some B337)],mI B337 (mK Value.string (aS y30.2.windows y30.2.windows.length)),cI B312 237 [.map (some B293)],mI B293 (mK Value.string (aS y30.2.teams y30.2.teams.length)),cI B268 237 [.map (some B249)],mI B249 (mK Value.string (aS y30.2.grounds y30.2.grounds.length)),oR 237 1 fV oa360 c361 ([B204,B249,B293,B337]),cI B223 237 [.map (some B204)],mI B204 (mK Value.string (aS y30.2.towns y30.2.towns.length)),cI B187 236 [.slice oa316 3 c317],cI y30.1 158 [.slice y30.2.townsA y30.2.towns.length y30.2.townsC,.slice y30.2.groundsA y30.2.grounds.length y30.2.groundsC,.slice y30.2.teamsA y30.2.teams.length y30.2.teamsC,.slice y30.2.windowsA y30.2.windows.length y30.2.windowsC,.slice y30.2.slotsA y30.2.slots.length y30.2.slotsC,.slice y30.2.phasesA y30.2.phases.length y30.2.phasesC,.slice y30.2.condsA y30.2.conds.length y30.2.condsC],oR 9 1 aJ y30.2.condsA y30.2.condsC y30.2.conds,oR 9 1 aJ y30.2.phasesA y30.2.phasesC y30.2.phases,oR 9 1 aJ y30.2.slotsA y30.2.slotsC y30.2.slots,oR 9 1 aJ y30.2.windowsA y30.2.windowsC y30.2.windows,oR 9 1 aJ y30.2.teamsA y30.2.teamsC y30.2.teams,oR 9 1 aJ y30.2.groundsA y30.2.groundsC y30.2.grounds,oR 9 1 aJ y30.2.townsA y30.2.townsC y30.2.towns,cI B9 40 [I 0],cI B5 34 zz,cI B1 34 (aB l)] a362 w363:=s364
 refine dD s365 4 9 _ _ rfl rfl rfl rfl zG rfl rfl rfl rfl fun w366 s367=>aR rfl<|c9 (aD ?_)
 refine dU s367 [1,2,3,7,37,38,39] [3900] [] (qo (wr (3+1) 4 (by omega))<|qe) fun _ w369 s370=>aD<|cL<|zs s370 [1,2,3,7,37,38,39,40] [(40,Bo (decide (4<7)))] qe fun _ w372 s373=>wp_seq<|aQ s373.f rfl (fun _=>?_) (fun hX=>absurd (by decide) hX)
 refine wp_skip<|aD<|wp_seq<|wp_block<|d5 s373 [1,2,3,7,9,37,38,39] [901] [] (qo (ia w372 (some ⟨y30.1,0,none⟩) 7 7 4 m3 iB (by decide) ⟨_,rfl,rfl⟩)<|qo (s373.m.ld 158 10 4 c8 rfl rfl)<|qe) fun _ w376 s377=>wp_seq<|aA<|zl s377 [1,2,3,7,37,38,39,44] [(44,.slice y30.2.slotsA y30.2.slots.length y30.2.slotsC)] 0 1 qe fun _ w379 s380=>lh s380 1 (v:=fun B:Nat=>.tuple #[.map (some B),Bo (q5 y30.2.slots)]) (I:=fun B=>[mI B (mK Value.string (aS y30.2.slots y30.2.slots.length))]) (φ:=fun _=>True) rfl rfl rfl zO rfl (qG y30.2.slotsA y30.2.slots y30.2.slotsC _ (s380.m.row (enc:=aJ) 13 rfl aU smN_slots)) fun B381 a382 w383 _ s384=>zl s384 [1,2,3,7,10,11,37,38,39] [(10,.map (some B381)),(11,Bo (q5 y30.2.slots))] 2 5 qe fun _ w386 s387=>aR rfl<|aD<|wp_seq ?_
 refine aA<|zl s387 [1,2,3,7,10,37,38,39,48] [(48,Bo (q5 y30.2.slots))] 0 1 qe fun _ w389 s390=>cU s390 1 (b:=q5 y30.2.slots) (ch:=lB 171) rfl rfl rfl jJ rfl (fU _ _ _) (fun h391 w395 s396=>?_) (fun h391 a392 w393 s394=>?_)
 ·refine aP (bL (aP (aP (bL (aP (yU s396 ?_))))))
  refine fR (by simp) lW (hJ s396.m 20 19 171 rfl rfl (by decide)) fun w9 st9=>?_
  have s9:=s396.at' st9
  refine eQ [.agg (aB cH).toArray,I 171] rfl s9.f ⟨⟨_,rfl,bQ (k:=20) s9 cS rfl rfl⟩,⟨_,rfl,dV (k:=19) s9 kD rfl rfl⟩,trivial⟩<|?_
  exact fX s9 (⟨cH,171⟩:oT) rfl ⟨y30.2,hn34,(iP h21 (iP h41 (iP h60 (iP h79 (iP h98 (iP h117 (iP h136 (iP h155 (iP h174 (iP h214 (iP h259 (iP h303 (iP h347 (iF h391 rfl)))))))))))))).symm,fun h=>absurd h (by decide)⟩ (by rw [fN (by decide)]; exact List.nil_sublist _)
 refine aR rfl<|aD<|aA<|fJ s394 [1,2,3,7,37,38,39,50,51] [5000] [(51,.map (some B381))] 0 2 (qo (s394.m.ld 236 10 0 qR rfl rfl)<|qe) fun _ w398 s399=>lR s399 2 (vs:=[.map (some B381)]) (e:=237) [.map (some B381)] rfl rfl (fun _=>by kernel_rfl) rfl fun B400 a401 w402 s403=>oV s403 3 8 (xs:=[B204,B249,B293,B337]) (ys:=[B381]) (oa:=oa360) (oa2:=(some ⟨B400,0,none⟩)) rfl rfl rfl rfl eN zR (s403.m.rowc (enc:=fV) 0 ([B381]) rfl eN rfl (Nat.le_of_ble_eq_true rfl)) (by first | omega | (simp only [bV]; omega)) (by simp only [maxLen]; first | omega | (simp only [bV]; omega)) rfl fun oa404 c405 a406 w407 s408=>?_
 have s409:Sta 139 (⟨.fn (.func 177) #[Pt B5 0,Pt B9 0],#[]⟩::[]) w [⟨53,[],.slice oa404 5 c405⟩,⟨52,[],.slice (some ⟨B400,0,none⟩) 1 1⟩,⟨1,[],Pt B1 0⟩,⟨2,[],Pt B5 0⟩,⟨3,[],Pt B9 0⟩,⟨7,[],Pt B187 0⟩,⟨37,[],.slice (some ⟨y30.1,0,none⟩) 7 7⟩,⟨38,[],I 7⟩,⟨39,[],I 4⟩,⟨50,[],.slice oa360 4 c361⟩,⟨51,[],.map (some B381)⟩] [cI B400 237 [.map (some B381)],mI B381 (mK Value.string (aS y30.2.slots y30.2.slots.length)),cI B356 237 [.map (some B337)],mI B337 (mK Value.string (aS y30.2.windows y30.2.windows.length)),cI B312 237 [.map (some B293)],mI B293 (mK Value.string (aS y30.2.teams y30.2.teams.length)),cI B268 237 [.map (some B249)],mI B249 (mK Value.string (aS y30.2.grounds y30.2.grounds.length)),oR 237 1 fV oa404 c405 ([B204,B249,B293,B337,B381]),cI B223 237 [.map (some B204)],mI B204 (mK Value.string (aS y30.2.towns y30.2.towns.length)),cI B187 236 [.slice oa360 4 c361],cI y30.1 158 [.slice y30.2.townsA y30.2.towns.length y30.2.townsC,.slice y30.2.groundsA y30.2.grounds.length y30.2.groundsC,.slice y30.2.teamsA y30.2.teams.length y30.2.teamsC,.slice y30.2.windowsA y30.2.windows.length y30.2.windowsC,.slice y30.2.slotsA y30.2.slots.length y30.2.slotsC,.slice y30.2.phasesA y30.2.phases.length y30.2.phasesC,.slice y30.2.condsA y30.2.conds.length y30.2.condsC],oR 9 1 aJ y30.2.condsA y30.2.condsC y30.2.conds,oR 9 1 aJ y30.2.phasesA y30.2.phasesC y30.2.phases,oR 9 1 aJ y30.2.slotsA y30.2.slotsC y30.2.slots,oR 9 1 aJ y30.2.windowsA y30.2.windowsC y30.2.windows,oR 9 1 aJ y30.2.teamsA y30.2.teamsC y30.2.teams,oR 9 1 aJ y30.2.groundsA y30.2.groundsC y30.2.grounds,oR 9 1 aJ y30.2.townsA y30.2.townsC y30.2.towns,cI B9 40 [I 0],cI B5 34 zz,cI B1 34 (aB l)] a406 w407:=s408
 refine dD s409 4 11 _ _ rfl rfl rfl rfl zG rfl rfl rfl rfl fun w410 s411=>aR rfl<|c9 (aD ?_)
 refine dU s411 [1,2,3,7,37,38,39] [3900] [] (qo (wr (4+1) 5 (by omega))<|qe) fun _ w413 s414=>aD<|cL<|zs s414 [1,2,3,7,37,38,39,40] [(40,Bo (decide (5<7)))] qe fun _ w416 s417=>wp_seq<|aQ s417.f rfl (fun _=>?_) (fun hX=>absurd (by decide) hX)
 refine wp_skip<|aD<|wp_seq<|wp_block<|d5 s417 [1,2,3,7,9,37,38,39] [901] [] (qo (ia w416 (some ⟨y30.1,0,none⟩) 7 7 5 m3 iB (by decide) ⟨_,rfl,rfl⟩)<|qo (s417.m.ld 158 12 5 c8 rfl rfl)<|qe) fun _ w420 s421=>wp_seq<|aA<|zl s421 [1,2,3,7,37,38,39,44] [(44,.slice y30.2.phasesA y30.2.phases.length y30.2.phasesC)] 0 1 qe fun _ w423 s424=>lh s424 1 (v:=fun B:Nat=>.tuple #[.map (some B),Bo (q5 y30.2.phases)]) (I:=fun B=>[mI B (mK Value.string (aS y30.2.phases y30.2.phases.length))]) (φ:=fun _=>True) rfl rfl rfl zO rfl (qG y30.2.phasesA y30.2.phases y30.2.phasesC _ (s424.m.row (enc:=aJ) 14 rfl aU smN_phases)) fun B425 a426 w427 _ s428=>zl s428 [1,2,3,7,10,11,37,38,39] [(10,.map (some B425)),(11,Bo (q5 y30.2.phases))] 2 5 qe fun _ w430 s431=>aR rfl<|aD<|wp_seq ?_
 refine aA<|zl s431 [1,2,3,7,10,37,38,39,48] [(48,Bo (q5 y30.2.phases))] 0 1 qe fun _ w433 s434=>cU s434 1 (b:=q5 y30.2.phases) (ch:=lB 171) rfl rfl rfl jJ rfl (fU _ _ _) (fun h435 w439 s440=>?_) (fun h435 a436 w437 s438=>?_)
 ·refine aP (bL (aP (aP (bL (aP (yU s440 ?_))))))
  refine fR (by simp) lW (hJ s440.m 22 21 171 rfl rfl (by decide)) fun w9 st9=>?_
  have s9:=s440.at' st9
  refine eQ [.agg (aB cH).toArray,I 171] rfl s9.f ⟨⟨_,rfl,bQ (k:=22) s9 cS rfl rfl⟩,⟨_,rfl,dV (k:=21) s9 kD rfl rfl⟩,trivial⟩<|?_
  exact fX s9 (⟨cH,171⟩:oT) rfl ⟨y30.2,hn34,(iP h21 (iP h41 (iP h60 (iP h79 (iP h98 (iP h117 (iP h136 (iP h155 (iP h174 (iP h214 (iP h259 (iP h303 (iP h347 (iP h391 (iF h435 rfl))))))))))))))).symm,fun h=>absurd h (by decide)⟩ (by rw [fN (by decide)]; exact List.nil_sublist _)
 refine aR rfl<|aD<|aA<|fJ s438 [1,2,3,7,37,38,39,50,51] [5000] [(51,.map (some B425))] 0 2 (qo (s438.m.ld 236 12 0 qR rfl rfl)<|qe) fun _ w442 s443=>lR s443 2 (vs:=[.map (some B425)]) (e:=237) [.map (some B425)] rfl rfl (fun _=>by kernel_rfl) rfl fun B444 a445 w446 s447=>oV s447 3 10 (xs:=[B204,B249,B293,B337,B381]) (ys:=[B425]) (oa:=oa404) (oa2:=(some ⟨B444,0,none⟩)) rfl rfl rfl rfl eN zR (s447.m.rowc (enc:=fV) 0 ([B425]) rfl eN rfl (Nat.le_of_ble_eq_true rfl)) (by first | omega | (simp only [bV]; omega)) (by simp only [maxLen]; first | omega | (simp only [bV]; omega)) rfl fun oa448 c449 a450 w451 s452=>?_
 have s453:Sta 139 (⟨.fn (.func 177) #[Pt B5 0,Pt B9 0],#[]⟩::[]) w [⟨53,[],.slice oa448 6 c449⟩,⟨52,[],.slice (some ⟨B444,0,none⟩) 1 1⟩,⟨1,[],Pt B1 0⟩,⟨2,[],Pt B5 0⟩,⟨3,[],Pt B9 0⟩,⟨7,[],Pt B187 0⟩,⟨37,[],.slice (some ⟨y30.1,0,none⟩) 7 7⟩,⟨38,[],I 7⟩,⟨39,[],I 5⟩,⟨50,[],.slice oa404 5 c405⟩,⟨51,[],.map (some B425)⟩] [cI B444 237 [.map (some B425)],mI B425 (mK Value.string (aS y30.2.phases y30.2.phases.length)),cI B400 237 [.map (some B381)],mI B381 (mK Value.string (aS y30.2.slots y30.2.slots.length)),cI B356 237 [.map (some B337)],mI B337 (mK Value.string (aS y30.2.windows y30.2.windows.length)),cI B312 237 [.map (some B293)],mI B293 (mK Value.string (aS y30.2.teams y30.2.teams.length)),cI B268 237 [.map (some B249)],mI B249 (mK Value.string (aS y30.2.grounds y30.2.grounds.length)),oR 237 1 fV oa448 c449 ([B204,B249,B293,B337,B381,B425]),cI B223 237 [.map (some B204)],mI B204 (mK Value.string (aS y30.2.towns y30.2.towns.length)),cI B187 236 [.slice oa404 5 c405],cI y30.1 158 [.slice y30.2.townsA y30.2.towns.length y30.2.townsC,.slice y30.2.groundsA y30.2.grounds.length y30.2.groundsC,.slice y30.2.teamsA y30.2.teams.length y30.2.teamsC,.slice y30.2.windowsA y30.2.windows.length y30.2.windowsC,.slice y30.2.slotsA y30.2.slots.length y30.2.slotsC,.slice y30.2.phasesA y30.2.phases.length y30.2.phasesC,.slice y30.2.condsA y30.2.conds.length y30.2.condsC],oR 9 1 aJ y30.2.condsA y30.2.condsC y30.2.conds,oR 9 1 aJ y30.2.phasesA y30.2.phasesC y30.2.phases,oR 9 1 aJ y30.2.slotsA y30.2.slotsC y30.2.slots,oR 9 1 aJ y30.2.windowsA y30.2.windowsC y30.2.windows,oR 9 1 aJ y30.2.teamsA y30.2.teamsC y30.2.teams,oR 9 1 aJ y30.2.groundsA y30.2.groundsC y30.2.grounds,oR 9 1 aJ y30.2.townsA y30.2.townsC y30.2.towns,cI B9 40 [I 0],cI B5 34 zz,cI B1 34 (aB l)] a450 w451:=s452
 refine dD s453 4 13 _ _ rfl rfl rfl rfl zG rfl rfl rfl rfl fun w454 s455=>aR rfl<|c9 (aD ?_)
 refine dU s455 [1,2,3,7,37,38,39] [3900] [] (qo (wr (5+1) 6 (by omega))<|qe) fun _ w457 s458=>aD<|cL<|zs s458 [1,2,3,7,37,38,39,40] [(40,Bo (decide (6<7)))] qe fun _ w460 s461=>wp_seq<|aQ s461.f rfl (fun _=>?_) (fun hX=>absurd (by decide) hX)
 refine wp_skip<|aD<|wp_seq<|wp_block<|d5 s461 [1,2,3,7,9,37,38,39] [901] [] (qo (ia w460 (some ⟨y30.1,0,none⟩) 7 7 6 m3 iB (by decide) ⟨_,rfl,rfl⟩)<|qo (s461.m.ld 158 14 6 c8 rfl rfl)<|qe) fun _ w464 s465=>wp_seq<|aA<|zl s465 [1,2,3,7,37,38,39,44] [(44,.slice y30.2.condsA y30.2.conds.length y30.2.condsC)] 0 1 qe fun _ w467 s468=>lh s468 1 (v:=fun B:Nat=>.tuple #[.map (some B),Bo (q5 y30.2.conds)]) (I:=fun B=>[mI B (mK Value.string (aS y30.2.conds y30.2.conds.length))]) (φ:=fun _=>True) rfl rfl rfl zO rfl (qG y30.2.condsA y30.2.conds y30.2.condsC _ (s468.m.row (enc:=aJ) 15 rfl aU smN_conds)) fun B469 a470 w471 _ s472=>zl s472 [1,2,3,7,10,11,37,38,39] [(10,.map (some B469)),(11,Bo (q5 y30.2.conds))] 2 5 qe fun _ w474 s475=>aR rfl<|aD<|wp_seq ?_
 refine aA<|zl s475 [1,2,3,7,10,37,38,39,48] [(48,Bo (q5 y30.2.conds))] 0 1 qe fun _ w477 s478=>cU s478 1 (b:=q5 y30.2.conds) (ch:=lB 171) rfl rfl rfl jJ rfl (fU _ _ _) (fun h479 w483 s484=>?_) (fun h479 a480 w481 s482=>?_)
 ·refine aP (bL (aP (aP (bL (aP (yU s484 ?_))))))
  refine fR (by simp) lW (hJ s484.m 24 23 171 rfl rfl (by decide)) fun w9 st9=>?_
  have s9:=s484.at' st9
  refine eQ [.agg (aB cH).toArray,I 171] rfl s9.f ⟨⟨_,rfl,bQ (k:=24) s9 cS rfl rfl⟩,⟨_,rfl,dV (k:=23) s9 kD rfl rfl⟩,trivial⟩<|?_
  exact fX s9 (⟨cH,171⟩:oT) rfl ⟨y30.2,hn34,(iP h21 (iP h41 (iP h60 (iP h79 (iP h98 (iP h117 (iP h136 (iP h155 (iP h174 (iP h214 (iP h259 (iP h303 (iP h347 (iP h391 (iP h435 (iF h479 rfl)))))))))))))))).symm,fun h=>absurd h (by decide)⟩ (by rw [fN (by decide)]; exact List.nil_sublist _)
 refine aR rfl<|aD<|aA<|fJ s482 [1,2,3,7,37,38,39,50,51] [5000] [(51,.map (some B469))] 0 2 (qo (s482.m.ld 236 14 0 qR rfl rfl)<|qe) fun _ w486 s487=>lR s487 2 (vs:=[.map (some B469)]) (e:=237) [.map (some B469)] rfl rfl (fun _=>by kernel_rfl) rfl fun B488 a489 w490 s491=>oV s491 3 12 (xs:=[B204,B249,B293,B337,B381,B425]) (ys:=[B469]) (oa:=oa448) (oa2:=(some ⟨B488,0,none⟩)) rfl rfl rfl rfl eN zR (s491.m.rowc (enc:=fV) 0 ([B469]) rfl eN rfl (Nat.le_of_ble_eq_true rfl)) (by first | omega | (simp only [bV]; omega)) (by simp only [maxLen]; first | omega | (simp only [bV]; omega)) rfl fun oa492 c493 a494 w495 s496=>?_
 have s497:Sta 139 (⟨.fn (.func 177) #[Pt B5 0,Pt B9 0],#[]⟩::[]) w [⟨53,[],.slice oa492 7 c493⟩,⟨52,[],.slice (some ⟨B488,0,none⟩) 1 1⟩,⟨1,[],Pt B1 0⟩,⟨2,[],Pt B5 0⟩,⟨3,[],Pt B9 0⟩,⟨7,[],Pt B187 0⟩,⟨37,[],.slice (some ⟨y30.1,0,none⟩) 7 7⟩,⟨38,[],I 7⟩,⟨39,[],I 6⟩,⟨50,[],.slice oa448 6 c449⟩,⟨51,[],.map (some B469)⟩] [cI B488 237 [.map (some B469)],mI B469 (mK Value.string (aS y30.2.conds y30.2.conds.length)),cI B444 237 [.map (some B425)],mI B425 (mK Value.string (aS y30.2.phases y30.2.phases.length)),cI B400 237 [.map (some B381)],mI B381 (mK Value.string (aS y30.2.slots y30.2.slots.length)),cI B356 237 [.map (some B337)],mI B337 (mK Value.string (aS y30.2.windows y30.2.windows.length)),cI B312 237 [.map (some B293)],mI B293 (mK Value.string (aS y30.2.teams y30.2.teams.length)),cI B268 237 [.map (some B249)],mI B249 (mK Value.string (aS y30.2.grounds y30.2.grounds.length)),oR 237 1 fV oa492 c493 ([B204,B249,B293,B337,B381,B425,B469]),cI B223 237 [.map (some B204)],mI B204 (mK Value.string (aS y30.2.towns y30.2.towns.length)),cI B187 236 [.slice oa448 6 c449],cI y30.1 158 [.slice y30.2.townsA y30.2.towns.length y30.2.townsC,.slice y30.2.groundsA y30.2.grounds.length y30.2.groundsC,.slice y30.2.teamsA y30.2.teams.length y30.2.teamsC,.slice y30.2.windowsA y30.2.windows.length y30.2.windowsC,.slice y30.2.slotsA y30.2.slots.length y30.2.slotsC,.slice y30.2.phasesA y30.2.phases.length y30.2.phasesC,.slice y30.2.condsA y30.2.conds.length y30.2.condsC],oR 9 1 aJ y30.2.condsA y30.2.condsC y30.2.conds,oR 9 1 aJ y30.2.phasesA y30.2.phasesC y30.2.phases,oR 9 1 aJ y30.2.slotsA y30.2.slotsC y30.2.slots,oR 9 1 aJ y30.2.windowsA y30.2.windowsC y30.2.windows,oR 9 1 aJ y30.2.teamsA y30.2.teamsC y30.2.teams,oR 9 1 aJ y30.2.groundsA y30.2.groundsC y30.2.grounds,oR 9 1 aJ y30.2.townsA y30.2.townsC y30.2.towns,cI B9 40 [I 0],cI B5 34 zz,cI B1 34 (aB l)] a494 w495:=s496
 refine dD s497 4 15 _ _ rfl rfl rfl rfl zG rfl rfl rfl rfl fun w498 s499=>aR rfl<|c9 (aD ?_)
 refine dU s499 [1,2,3,7,37,38,39] [3900] [] (qo (wr (6+1) 7 (by omega))<|qe) fun _ w501 s502=>aD<|cL<|zs s502 [1,2,3,7,37,38,39,40] [(40,Bo (decide (7<7)))] qe fun _ w504 s505=>wp_seq<|aQ s505.f rfl (fun hX=>absurd hX (by decide)) (fun _=>?_)
 refine wp_exit<|aY (aY (cP (aD ?_)))
 refine hM<|kA<|aA<|zl s505 [1,2,3,7,55] [(55,.agg (aB l).toArray)] 0 1 (qo (s505.m.lda 34 26 0 cS rfl rfl rfl)<|qe) fun a507 w508 s509=>dD s509 1 25 _ _ rfl rfl rfl rfl nA rfl rfl rfl rfl fun w510 s511=>aR rfl<|aD<|hM<|kA<|?_
 have s512:Sta 139 (⟨.fn (.func 177) #[Pt B5 0,Pt B9 0],#[]⟩::[]) w [⟨1,[],Pt B1 0⟩,⟨2,[],Pt B5 0⟩,⟨3,[],Pt B9 0⟩,⟨7,[],Pt B187 0⟩,⟨55,[],.agg (aB l).toArray⟩] [mI B469 (mK Value.string (aS y30.2.conds y30.2.conds.length)),mI B425 (mK Value.string (aS y30.2.phases y30.2.phases.length)),mI B381 (mK Value.string (aS y30.2.slots y30.2.slots.length)),mI B337 (mK Value.string (aS y30.2.windows y30.2.windows.length)),mI B293 (mK Value.string (aS y30.2.teams y30.2.teams.length)),mI B249 (mK Value.string (aS y30.2.grounds y30.2.grounds.length)),oR 237 1 fV oa492 c493 ([B204,B249,B293,B337,B381,B425,B469]),mI B204 (mK Value.string (aS y30.2.towns y30.2.towns.length)),cI B187 236 [.slice oa492 7 c493],cI B9 40 [I 0],cI B5 34 (aB l),cI B1 34 (aB l)] a507 w510:=⟨s511.f,s511.d,j9 s511.m⟩
 have hsm:=CK h21
 refine AJ<|lH MO (St w [mI B469 (mK Value.string (aS y30.2.conds y30.2.conds.length)),mI B425 (mK Value.string (aS y30.2.phases y30.2.phases.length)),mI B381 (mK Value.string (aS y30.2.slots y30.2.slots.length)),mI B337 (mK Value.string (aS y30.2.windows y30.2.windows.length)),mI B293 (mK Value.string (aS y30.2.teams y30.2.teams.length)),mI B249 (mK Value.string (aS y30.2.grounds y30.2.grounds.length)),oR 237 1 fV oa492 c493 ([B204,B249,B293,B337,B381,B425,B469]),mI B204 (mK Value.string (aS y30.2.towns y30.2.towns.length)),cI B187 236 [.slice oa492 7 c493],cI B9 40 [I 0],cI B1 34 (aB l)])<|wX (hs:=[Pt B1 2,.slice l.waysA l.ways.length l.waysC,Pt B1 3,.slice l.depotsA l.depots.length l.depotsC,Pt B1 4,.slice l.groundsA l.grounds.length l.groundsC,Pt B1 5,.slice l.teamsA l.teams.length l.teamsC,Pt B1 13,.slice l.phasesA l.phases.length l.phasesC,Pt B1 14,.slice l.condsA l.conds.length l.condsC]) (E1:=[⟨2,[],Pt B5 0⟩,⟨3,[],Pt B9 0⟩,⟨7,[],Pt B187 0⟩,⟨57,[],.slice l.waysA l.ways.length l.waysC⟩,⟨60,[],.slice l.depotsA l.depots.length l.depotsC⟩,⟨63,[],.slice l.groundsA l.grounds.length l.groundsC⟩,⟨66,[],.slice l.teamsA l.teams.length l.teamsC⟩,⟨69,[],.slice l.phasesA l.phases.length l.phasesC⟩,⟨72,[],.slice l.condsA l.conds.length l.condsC⟩]) (ks:=[2,3,7,57,60,63,66,69,72]) s512 [] [0,1,3,4,6,7,9,10,12,13,15,16] (fun _=>by kernel_rfl) (fun wC sC=>oc (fa wC B1 0 fS)<|oc (sC.m.ld 23 10 2 nS rfl rfl)<|oc (fa wC B1 0 iU)<|oc (sC.m.ld 24 10 3 qY rfl rfl)<|oc (fa wC B1 0 gG)<|oc (sC.m.ld 25 10 4 n3 rfl rfl)<|oc (fa wC B1 0 dS)<|oc (sC.m.ld 26 10 5 kS rfl rfl)<|oc (fa wC B1 0 cG)<|oc (sC.m.ld 31 10 13 iE rfl rfl)<|oc (fa wC B1 0 eV)<|oc (sC.m.ld 32 10 14 o6 rfl rfl)<|trivial) (.ck _ (.ck _ (.ck _ (.ck _ (.ck _ (.ck _ (.ck _ (.ck _ (.ck _ (.ck _ (.cons _ (.ck _ (.slnil))))))))))))) (by kernel_rfl) (by kernel_rfl) (fun _ _ _ _ _ h=>h) fun _ s515=>tX s515 [16,15,13,12,10,9,7,6,4,3,1,0] 2 rfl rfl rfl rfl (by kernel_rfl) (by kernel_rfl) fun w516 s517=>I8 s517 0 (e:=205) (enc:=cY) (xs:=l.ways) rfl rfl rfl aaJ rfl (PY l.waysA l.ways l.waysC _ (hL.ways.up s517.m) hsm.ways) fun oa518 c519 a520 w521 s522=>aR rfl (aD ⟨s522.m.sub (.cons _ (.ck _ (.ck _ (.ck _ (.ck _ (.ck _ (.ck _ (.ck _ (.ck _ (.ck _ (.ck _ (.cons _ (.ck _ (.slnil)))))))))))))),?_⟩)
 refine tX s522 [2,16,15,13,12,10,9,7,6,4,3,1,0] 5 rfl rfl rfl rfl (by kernel_rfl) (by kernel_rfl) fun w523 s524=>I8 s524 0 (e:=207) (enc:=bY) (xs:=l.depots) rfl rfl rfl aaK rfl (PZ l.depotsA l.depots l.depotsC _ (hL.depots.up s524.m) hsm.depots) fun oa525 c526 a527 w528 s529=>aR rfl (aD ⟨s529.m.sub (.cons _ (.cons _ (.ck _ (.ck _ (.ck _ (.ck _ (.ck _ (.ck _ (.ck _ (.ck _ (.ck _ (.ck _ (.cons _ (.ck _ (.slnil))))))))))))))),?_⟩)
 refine tX s529 [5,2,16,15,13,12,10,9,7,6,4,3,1,0] 8 rfl rfl rfl rfl (by kernel_rfl) (by kernel_rfl) fun w530 s531=>I8 s531 0 (e:=152) (enc:=bG) (xs:=l.grounds) rfl rfl rfl aaL rfl (P0 l.groundsA l.grounds l.groundsC _ (hL.grounds.up s531.m) hsm.grounds) fun oa532 c533 a534 w535 s536=>aR rfl (aD ⟨s536.m.sub (.cons _ (.cons _ (.cons _ (.ck _ (.ck _ (.ck _ (.ck _ (.ck _ (.ck _ (.ck _ (.ck _ (.ck _ (.ck _ (.cons _ (.ck _ (.slnil)))))))))))))))),?_⟩)
 refine tX s536 [8,5,2,16,15,13,12,10,9,7,6,4,3,1,0] 11 rfl rfl rfl rfl (by kernel_rfl) (by kernel_rfl) fun w537 s538=>I8 s538 0 (e:=160) (enc:=bU) (xs:=l.teams) rfl rfl rfl aaM rfl (P1 l.teamsA l.teams l.teamsC _ (hL.teams.up s538.m) hsm.teams) fun oa539 c540 a541 w542 s543=>aR rfl (aD ⟨s543.m.sub (.cons _ (.cons _ (.cons _ (.cons _ (.ck _ (.ck _ (.ck _ (.ck _ (.ck _ (.ck _ (.ck _ (.ck _ (.ck _ (.ck _ (.cons _ (.ck _ (.slnil))))))))))))))))),?_⟩)
 refine tX s543 [11,8,5,2,16,15,13,12,10,9,7,6,4,3,1,0] 14 rfl rfl rfl rfl (by kernel_rfl) (by kernel_rfl) fun w544 s545=>I8 s545 0 (e:=157) (enc:=aK) (xs:=l.phases) rfl rfl rfl aaN rfl (P2 l.phasesA l.phases l.phasesC _ (hL.phases.up s545.m) hsm.phases) fun oa546 c547 a548 w549 s550=>aR rfl (aD ⟨s550.m.sub (.cons _ (.cons _ (.cons _ (.cons _ (.cons _ (.ck _ (.ck _ (.ck _ (.ck _ (.ck _ (.ck _ (.ck _ (.ck _ (.ck _ (.ck _ (.cons _ (.ck _ (.slnil)))))))))))))))))),?_⟩)
 refine tX s550 [14,11,8,5,2,16,15,13,12,10,9,7,6,4,3,1,0] 17 rfl rfl rfl rfl (by kernel_rfl) (by kernel_rfl) fun w551 s552=>I8 s552 0 (e:=178) (enc:=aV) (xs:=l.conds) rfl rfl rfl aaO rfl (P3 l.condsA l.conds l.condsC _ (hL.conds.up s552.m) hsm.conds) fun oa553 c554 a555 w556 s557=>aR rfl (aD ⟨s557.m.sub (.cons _ (.cons _ (.cons _ (.cons _ (.cons _ (.cons _ (.ck _ (.ck _ (.ck _ (.ck _ (.ck _ (.ck _ (.ck _ (.ck _ (.ck _ (.ck _ (.cons _ (.ck _ (.slnil))))))))))))))))))),?_⟩)
 refine wX (hs:=[Pt B5 2]) (E1:=[⟨2,[],Pt B5 0⟩,⟨3,[],Pt B9 0⟩,⟨7,[],Pt B187 0⟩,⟨58,[],.slice oa518 ((l.ways).length) c519⟩,⟨61,[],.slice oa525 ((l.depots).length) c526⟩,⟨64,[],.slice oa532 ((l.grounds).length) c533⟩,⟨67,[],.slice oa539 ((l.teams).length) c540⟩,⟨70,[],.slice oa546 ((l.phases).length) c547⟩,⟨73,[],.slice oa553 ((l.conds).length) c554⟩,⟨74,[],Pt B5 2⟩]) (ks:=[2,3,7,58,61,64,67,70,73,74]) s557 [17,14,11,8,5,2,16,15,13,12,10,9,7,6,4,3,1,0] [18] (fun _=>by kernel_rfl) (fun wC sC=>oc (fa wC B5 0 fS)<|trivial) (.cons _ (.cons _ (.cons _ (.cons _ (.cons _ (.cons _ (.ck _ (.ck _ (.ck _ (.ck _ (.ck _ (.ck _ (.ck _ (.ck _ (.ck _ (.ck _ (.cons _ (.ck _ (.slnil))))))))))))))))))) (by kernel_rfl) (by kernel_rfl) (fun _ _ _ _ _ h=>h) fun _ s560=>tX s560 [18,17,14,11,8,5,2,16,15,13,12,10,9,7,6,4,3,1,0] 19 rfl rfl rfl rfl (by kernel_rfl) (by kernel_rfl) fun w561 s562=>dD s562 0 16 _ _ rfl rfl rfl rfl WR rfl rfl rfl rfl fun w563 s564=>aR rfl (aD ⟨s564.m.sub (.cons _ (.cons _ (.cons _ (.cons _ (.cons _ (.cons _ (.ck _ (.ck _ (.ck _ (.ck _ (.ck _ (.ck _ (.ck _ (.ck _ (.ck _ (.ck _ (.cons _ (.ck _ (.slnil))))))))))))))))))),?_⟩)
 refine wX (hs:=[Pt B5 3]) (E1:=[⟨2,[],Pt B5 0⟩,⟨3,[],Pt B9 0⟩,⟨7,[],Pt B187 0⟩,⟨61,[],.slice oa525 ((l.depots).length) c526⟩,⟨64,[],.slice oa532 ((l.grounds).length) c533⟩,⟨67,[],.slice oa539 ((l.teams).length) c540⟩,⟨70,[],.slice oa546 ((l.phases).length) c547⟩,⟨73,[],.slice oa553 ((l.conds).length) c554⟩,⟨75,[],Pt B5 3⟩]) (ks:=[2,3,7,61,64,67,70,73,75]) s564 [19,18,17,14,11,8,5,2,16,15,13,12,10,9,7,6,4,3,1,0] [20] (fun _=>by kernel_rfl) (fun wC sC=>oc (fa wC B5 0 iU)<|trivial) (.cons _ (.cons _ (.cons _ (.cons _ (.cons _ (.cons _ (.ck _ (.ck _ (.ck _ (.ck _ (.ck _ (.ck _ (.ck _ (.ck _ (.ck _ (.ck _ (.cons _ (.ck _ (.slnil))))))))))))))))))) (by kernel_rfl) (by kernel_rfl) (fun _ _ _ _ _ h=>h) fun _ s567=>tX s567 [20,19,18,17,14,11,8,5,2,16,15,13,12,10,9,7,6,4,3,1,0] 21 rfl rfl rfl rfl (by kernel_rfl) (by kernel_rfl) fun w568 s569=>dD s569 0 16 _ _ rfl rfl rfl rfl WS rfl rfl rfl rfl fun w570 s571=>aR rfl (aD ⟨s571.m.sub (.cons _ (.cons _ (.cons _ (.cons _ (.cons _ (.cons _ (.ck _ (.ck _ (.ck _ (.ck _ (.ck _ (.ck _ (.ck _ (.ck _ (.ck _ (.ck _ (.cons _ (.ck _ (.slnil))))))))))))))))))),?_⟩)
 refine wX (hs:=[Pt B5 4]) (E1:=[⟨2,[],Pt B5 0⟩,⟨3,[],Pt B9 0⟩,⟨7,[],Pt B187 0⟩,⟨64,[],.slice oa532 ((l.grounds).length) c533⟩,⟨67,[],.slice oa539 ((l.teams).length) c540⟩,⟨70,[],.slice oa546 ((l.phases).length) c547⟩,⟨73,[],.slice oa553 ((l.conds).length) c554⟩,⟨76,[],Pt B5 4⟩]) (ks:=[2,3,7,64,67,70,73,76]) s571 [21,20,19,18,17,14,11,8,5,2,16,15,13,12,10,9,7,6,4,3,1,0] [22] (fun _=>by kernel_rfl) (fun wC sC=>oc (fa wC B5 0 gG)<|trivial) (.cons _ (.cons _ (.cons _ (.cons _ (.cons _ (.cons _ (.ck _ (.ck _ (.ck _ (.ck _ (.ck _ (.ck _ (.ck _ (.ck _ (.ck _ (.ck _ (.cons _ (.ck _ (.slnil))))))))))))))))))) (by kernel_rfl) (by kernel_rfl) (fun _ _ _ _ _ h=>h) fun _ s574=>tX s574 [22,21,20,19,18,17,14,11,8,5,2,16,15,13,12,10,9,7,6,4,3,1,0] 23 rfl rfl rfl rfl (by kernel_rfl) (by kernel_rfl) fun w575 s576=>dD s576 0 16 _ _ rfl rfl rfl rfl WT rfl rfl rfl rfl fun w577 s578=>aR rfl (aD ⟨s578.m.sub (.cons _ (.cons _ (.cons _ (.cons _ (.cons _ (.cons _ (.ck _ (.ck _ (.ck _ (.ck _ (.ck _ (.ck _ (.ck _ (.ck _ (.ck _ (.ck _ (.cons _ (.ck _ (.slnil))))))))))))))))))),?_⟩)
 refine wX (hs:=[Pt B5 5]) (E1:=[⟨2,[],Pt B5 0⟩,⟨3,[],Pt B9 0⟩,⟨7,[],Pt B187 0⟩,⟨67,[],.slice oa539 ((l.teams).length) c540⟩,⟨70,[],.slice oa546 ((l.phases).length) c547⟩,⟨73,[],.slice oa553 ((l.conds).length) c554⟩,⟨77,[],Pt B5 5⟩]) (ks:=[2,3,7,67,70,73,77]) s578 [23,22,21,20,19,18,17,14,11,8,5,2,16,15,13,12,10,9,7,6,4,3,1,0] [24] (fun _=>by kernel_rfl) (fun wC sC=>oc (fa wC B5 0 dS)<|trivial) (.cons _ (.cons _ (.cons _ (.cons _ (.cons _ (.cons _ (.ck _ (.ck _ (.ck _ (.ck _ (.ck _ (.ck _ (.ck _ (.ck _ (.ck _ (.ck _ (.cons _ (.ck _ (.slnil))))))))))))))))))) (by kernel_rfl) (by kernel_rfl) (fun _ _ _ _ _ h=>h) fun _ s581=>tX s581 [24,23,22,21,20,19,18,17,14,11,8,5,2,16,15,13,12,10,9,7,6,4,3,1,0] 25 rfl rfl rfl rfl (by kernel_rfl) (by kernel_rfl) fun w582 s583=>dD s583 0 16 _ _ rfl rfl rfl rfl LO rfl rfl rfl rfl fun w584 s585=>aR rfl (aD ⟨s585.m.sub (.cons _ (.cons _ (.cons _ (.cons _ (.cons _ (.cons _ (.ck _ (.ck _ (.ck _ (.ck _ (.ck _ (.ck _ (.ck _ (.ck _ (.ck _ (.ck _ (.cons _ (.ck _ (.slnil))))))))))))))))))),?_⟩)
 refine wX (hs:=[Pt B5 13]) (E1:=[⟨2,[],Pt B5 0⟩,⟨3,[],Pt B9 0⟩,⟨7,[],Pt B187 0⟩,⟨70,[],.slice oa546 ((l.phases).length) c547⟩,⟨73,[],.slice oa553 ((l.conds).length) c554⟩,⟨78,[],Pt B5 13⟩]) (ks:=[2,3,7,70,73,78]) s585 [25,24,23,22,21,20,19,18,17,14,11,8,5,2,16,15,13,12,10,9,7,6,4,3,1,0] [26] (fun _=>by kernel_rfl) (fun wC sC=>oc (fa wC B5 0 cG)<|trivial) (.cons _ (.cons _ (.cons _ (.cons _ (.cons _ (.cons _ (.ck _ (.ck _ (.ck _ (.ck _ (.ck _ (.ck _ (.ck _ (.ck _ (.ck _ (.ck _ (.cons _ (.ck _ (.slnil))))))))))))))))))) (by kernel_rfl) (by kernel_rfl) (fun _ _ _ _ _ h=>h) fun _ s588=>tX s588 [26,25,24,23,22,21,20,19,18,17,14,11,8,5,2,16,15,13,12,10,9,7,6,4,3,1,0] 27 rfl rfl rfl rfl (by kernel_rfl) (by kernel_rfl) fun w589 s590=>dD s590 0 16 _ _ rfl rfl rfl rfl SI rfl rfl rfl rfl fun w591 s592=>aR rfl (aD ⟨s592.m.sub (.cons _ (.cons _ (.cons _ (.cons _ (.cons _ (.cons _ (.ck _ (.ck _ (.ck _ (.ck _ (.ck _ (.ck _ (.ck _ (.ck _ (.ck _ (.ck _ (.cons _ (.ck _ (.slnil))))))))))))))))))),?_⟩)
 refine wX (hs:=[Pt B5 14]) (E1:=[⟨2,[],Pt B5 0⟩,⟨3,[],Pt B9 0⟩,⟨7,[],Pt B187 0⟩,⟨73,[],.slice oa553 ((l.conds).length) c554⟩,⟨79,[],Pt B5 14⟩]) (ks:=[2,3,7,73,79]) s592 [27,26,25,24,23,22,21,20,19,18,17,14,11,8,5,2,16,15,13,12,10,9,7,6,4,3,1,0] [28] (fun _=>by kernel_rfl) (fun wC sC=>oc (fa wC B5 0 eV)<|trivial) (.cons _ (.cons _ (.cons _ (.cons _ (.cons _ (.cons _ (.ck _ (.ck _ (.ck _ (.ck _ (.ck _ (.ck _ (.ck _ (.ck _ (.ck _ (.ck _ (.cons _ (.ck _ (.slnil))))))))))))))))))) (by kernel_rfl) (by kernel_rfl) (fun _ _ _ _ _ h=>h) fun _ s595=>tX s595 [28,27,26,25,24,23,22,21,20,19,18,17,14,11,8,5,2,16,15,13,12,10,9,7,6,4,3,1,0] 29 rfl rfl rfl rfl (by kernel_rfl) (by kernel_rfl) fun w596 s597=>dD s597 0 16 _ _ rfl rfl rfl rfl WV rfl rfl rfl rfl fun w598 s599=>aR rfl (aD ⟨s599.m.sub (.cons _ (.cons _ (.cons _ (.cons _ (.cons _ (.cons _ (.ck _ (.ck _ (.ck _ (.ck _ (.ck _ (.ck _ (.ck _ (.ck _ (.ck _ (.ck _ (.cons _ (.ck _ (.slnil))))))))))))))))))),?_⟩)
 refine RG s599 (by kernel_rfl) fun w600 s601=>onN<|aD<|hM<|kA<|d5 s601 [2,3,7,82,83] [8202] [(83,I 0)] (qo (fa w600 B5 0 cG)<|qo (s601.m.ld 31 16 13 iE rfl rfl)<|qo (ln w600 3 oa546 ((l.phases).length) c547 g9)<|qe) fun _ w603 s604=>wp_block<|?_
 have smP:∀ ts,(AI l.phases ts).length≤140737488355328:=fun ts=>by rw [kV]; exact hL.phases.small
 refine aO (α:=Nat) (fun k aI wI=>∃ ts:List (Option Addr × Nat),(k≤l.phases.length)∧(Sta 139 (⟨.fn (.func 177) #[Pt B5 0,Pt B9 0],#[]⟩::[]) w [⟨2,[],Pt B5 0⟩,⟨3,[],Pt B9 0⟩,⟨7,[],Pt B187 0⟩,⟨82,[],I ((l.phases).length:Int)⟩,⟨83,[],I (k:Int)⟩] ((oR 178 21 aV oa553 c554 l.conds)::(oR 157 14 aK oa546 c547 (AI l.phases ts))::(oR 160 4 bU oa539 c540 l.teams)::(oR 152 7 bG oa532 c533 l.grounds)::(oR 207 3 bY oa525 c526 l.depots)::(oR 205 5 cY oa518 c519 l.ways)::(mI B469 (mK Value.string (aS y30.2.conds y30.2.conds.length)))::(mI B425 (mK Value.string (aS y30.2.phases y30.2.phases.length)))::(mI B381 (mK Value.string (aS y30.2.slots y30.2.slots.length)))::(mI B337 (mK Value.string (aS y30.2.windows y30.2.windows.length)))::(mI B293 (mK Value.string (aS y30.2.teams y30.2.teams.length)))::(mI B249 (mK Value.string (aS y30.2.grounds y30.2.grounds.length)))::(oR 237 1 fV oa492 c493 ([B204,B249,B293,B337,B381,B425,B469]))::(mI B204 (mK Value.string (aS y30.2.towns y30.2.towns.length)))::(cI B187 236 [.slice oa492 7 c493])::(cI B9 40 [I 0])::(cI B5 34 [.string l.name,.slice l.townsA l.towns.length l.townsC,.slice oa518 ((l.ways).length) c519,.slice oa525 ((l.depots).length) c526,.slice oa532 ((l.grounds).length) c533,.slice oa539 ((l.teams).length) c540,.slice l.windowsA l.windows.length l.windowsC,.slice l.slotsA l.slots.length l.slotsC,I l.pool,I l.points.p0,I l.points.p1,I l.points.p2,.slice l.keysA l.keys.length l.keysC,.slice oa546 ((l.phases).length) c547,.slice oa553 ((l.conds).length) c554])::(cI B1 34 (aB l))::(((AI l.phases ts).take k).map tI)) aI wI)∧(ts.length=k)) (fun k=>l.phases.length-k) 0 ⟨[],Nat.zero_le _,(s604.kr (by rw [T3]; rfl <;> rfl)),rfl⟩<|?_
 rintro k a607 w606 ⟨ts,k_le,s605,hts⟩
 refine zs s605 [2,3,7,82,83,84] [(84,Bo (decide ((k:Int)<((l.phases).length:Int))))] qe fun a608 w609 s610=>wp_seq<|aQ s610.f rfl (fun h611=>?_) (fun h611=>?_)
 ·have k_lt:k<l.phases.length:=by omega
  have hxl:l.phases[k]?=some (l.phases.getD k aF):=bC (by omega)
  have hxk:=XM hxl hts
  have hlt20:=hsm.pteams _ (List.mem_of_getElem? hxl)
  have hpl:=kV l.phases ts
  refine wp_skip<|aD<|wp_seq<|wp_block<|zs s610 [2,3,7,12,82,83] [(12,I (k:Int))] qe fun _ w613 s614=>AJ<|aL MO 12<|nD s614 [2,3,7,82,83,87,88,94] [8701,9406] [(88,I (k:Int))] 0 [some [],some [],some [],some [],some [],some [],some [],some [],some []] (qo (fa w613 B5 0 cG)<|qo (s614.m.ld 31 16 13 iE rfl rfl)<|qo (fa w613 B5 0 cG)<|qo (s614.m.ld 31 16 13 iE rfl rfl)<|qo (ia w613 oa546 ((l.phases).length) c547 k g9 eL (by omega) ((s614.m.row (enc:=aK) 1 rfl cV (smP ts)).at' (k:=k) (by first | omega | (simp only [bV]; omega))))<|qo (jZ w613 oa546 (k*14) dR)<|qo ((s614.m.row (enc:=aK) 1 rfl cV (smP ts)).ld 155 k 4 jT hxk rfl)<|qe) (fun _ _ _ _ _ h=>h) fun _ s617=>HN s617 9 rfl rfl rfl rfl (by kernel_rfl) fun w618 s619=>adW s619 0 (e:=148) (enc:=bN) (xs:=(l.phases.getD k aF).teams) rfl rfl rfl aaP rfl (P4 ((l.phases.getD k aF).teamsA) ((l.phases.getD k aF).teams) ((l.phases.getD k aF).teamsC) _ ((hL.pteams _ (List.mem_of_getElem? hxl)).up s619.m) hlt20) fun oa620 c621 a622 w623 hb625 s624=>aR rfl (aD ⟨hb625,?_⟩)
  refine HN s624 10 rfl rfl rfl rfl (by kernel_rfl) fun w626 s627=>lqb (hs:=[Pa (kK oa546 (k*14))]) (E1:=[⟨2,[],Pt B5 0⟩,⟨3,[],Pt B9 0⟩,⟨7,[],Pt B187 0⟩,⟨82,[],I ((l.phases).length:Int)⟩,⟨83,[],I (k:Int)⟩,⟨95,[],.slice oa620 (((l.phases.getD k aF).teams).length) c621⟩,⟨96,[],Pa (kK oa546 (k*14))⟩]) (ks:=[2,3,7,82,83,95,96]) s627 0 1 (by kernel_rfl) (oc (ia w626 oa546 ((l.phases).length) c547 k g9 eL (by omega) ((s627.m.row (enc:=aK) 2 rfl cV (smP ts)).at' (k:=k) (by first | omega | (simp only [bV]; omega))))<|trivial) fun _ w629 hb631 s630=>aR rfl (aD ⟨hb631,?_⟩)
  refine HN s630 11 rfl rfl rfl rfl (by kernel_rfl) fun w632 s633=>lqb (hs:=[Pa (kK oa546 (k*14+4))]) (E1:=[⟨2,[],Pt B5 0⟩,⟨3,[],Pt B9 0⟩,⟨7,[],Pt B187 0⟩,⟨82,[],I ((l.phases).length:Int)⟩,⟨83,[],I (k:Int)⟩,⟨95,[],.slice oa620 (((l.phases.getD k aF).teams).length) c621⟩,⟨97,[],Pa (kK oa546 (k*14+4))⟩]) (ks:=[2,3,7,82,83,95,97]) s633 0 1 (by kernel_rfl) (oc (jZ w632 oa546 (k*14) dR)<|trivial) fun _ w635 hb637 s636=>aR rfl (aD ⟨hb637,?_⟩)
  refine df s636 12 rfl rfl rfl rfl (by kernel_rfl) rfl fun w638 s639=>UW s639 0 2 k 4 (⟨(l.phases.getD k aF).name,(l.phases.getD k aF).kind,⟨((l.phases.getD k aF).window).name,((l.phases.getD k aF).window).n⟩,oa620,((l.phases.getD k aF).teams),c621,⟨((l.phases.getD k aF).of).name,((l.phases.getD k aF).of).n⟩,(l.phases.getD k aF).sizesA,(l.phases.getD k aF).sizes,(l.phases.getD k aF).sizesC,⟨((l.phases.getD k aF).a).name,((l.phases.getD k aF).a).n⟩,⟨((l.phases.getD k aF).b).name,((l.phases.getD k aF).b).n⟩,(l.phases.getD k aF).placeA,(l.phases.getD k aF).placeB⟩:Fz.aX) [.slice oa620 (((l.phases.getD k aF).teams).length) c621] rfl rfl rfl rfl BX rfl rfl cV hxk rfl rfl fun w640 s641=>aR rfl (aD ?_)
  refine dd s641 (by kernel_rfl) fun w642 s643=>onN<|c9 (aD ?_)
  refine dU s643 [2,3,7,82,83] [8300] [] (qo (wr ((k:Int)+1) ((k+1:Nat):Int) (by omega))<|qe) fun _ w645 s646=>aD<|?_
  exact ⟨(k+1),⟨ts++[(oa620,c621)],by omega,(((s646.keep (E':=[⟨2,[],Pt B5 0⟩,⟨3,[],Pt B9 0⟩,⟨7,[],Pt B187 0⟩,⟨82,[],I ((l.phases).length:Int)⟩,⟨83,[],I ((k+1:Nat):Int)⟩]) [2,3,7,82,83] (by kernel_rfl)).perm (List.perm_append_comm (l₁:=((oR 178 21 aV oa553 c554 l.conds)::(oR 157 14 aK oa546 c547 ((AI l.phases ts).set k (⟨(l.phases.getD k aF).name,(l.phases.getD k aF).kind,⟨((l.phases.getD k aF).window).name,((l.phases.getD k aF).window).n⟩,oa620,((l.phases.getD k aF).teams),c621,⟨((l.phases.getD k aF).of).name,((l.phases.getD k aF).of).n⟩,(l.phases.getD k aF).sizesA,(l.phases.getD k aF).sizes,(l.phases.getD k aF).sizesC,⟨((l.phases.getD k aF).a).name,((l.phases.getD k aF).a).n⟩,⟨((l.phases.getD k aF).b).name,((l.phases.getD k aF).b).n⟩,(l.phases.getD k aF).placeA,(l.phases.getD k aF).placeB⟩:Fz.aX)))::(oR 160 4 bU oa539 c540 l.teams)::(oR 152 7 bG oa532 c533 l.grounds)::(oR 207 3 bY oa525 c526 l.depots)::(oR 205 5 cY oa518 c519 l.ways)::(mI B469 (mK Value.string (aS y30.2.conds y30.2.conds.length)))::(mI B425 (mK Value.string (aS y30.2.phases y30.2.phases.length)))::(mI B381 (mK Value.string (aS y30.2.slots y30.2.slots.length)))::(mI B337 (mK Value.string (aS y30.2.windows y30.2.windows.length)))::(mI B293 (mK Value.string (aS y30.2.teams y30.2.teams.length)))::(mI B249 (mK Value.string (aS y30.2.grounds y30.2.grounds.length)))::(oR 237 1 fV oa492 c493 ([B204,B249,B293,B337,B381,B425,B469]))::(mI B204 (mK Value.string (aS y30.2.towns y30.2.towns.length)))::(cI B187 236 [.slice oa492 7 c493])::(cI B9 40 [I 0])::(cI B5 34 [.string l.name,.slice l.townsA l.towns.length l.townsC,.slice oa518 ((l.ways).length) c519,.slice oa525 ((l.depots).length) c526,.slice oa532 ((l.grounds).length) c533,.slice oa539 ((l.teams).length) c540,.slice l.windowsA l.windows.length l.windowsC,.slice l.slotsA l.slots.length l.slotsC,I l.pool,I l.points.p0,I l.points.p1,I l.points.p2,.slice l.keysA l.keys.length l.keysC,.slice oa546 ((l.phases).length) c547,.slice oa553 ((l.conds).length) c554])::(cI B1 34 (aB l))::(((AI l.phases ts).take k).map tI))) (l₂:=[oR 148 2 bN oa620 c621 ((l.phases.getD k aF).teams)])))).re rfl (by rw [QF hxl hts (oa620,c621),← KV hxl hts (oa620,c621)]; rfl),by simp [hts]⟩,by omega⟩
 have k_eq:k=l.phases.length:=by omega
 refine wp_exit<|aY (aY (cP (aD ?_)))
 subst k_eq
 obtain ⟨lb,hlb⟩:∃ lb:aE,lb={ l with conds:=l.conds,condsA:=oa553,condsC:=c554,phases:=AI l.phases ts,phasesA:=oa546,phasesC:=c547,teams:=l.teams,teamsA:=oa539,teamsC:=c540,grounds:=l.grounds,groundsA:=oa532,groundsC:=c533,depots:=l.depots,depotsA:=oa525,depotsC:=c526,ways:=l.ways,waysA:=oa518,waysC:=c519 }:=⟨_,rfl⟩
 have hcp:CopyL l lb:=by subst hlb; exact ⟨rfl,rfl,rfl,rfl,rfl,ts,rfl⟩
 have sP:=iG s610.m
 rw [T7] at sP
 have hE:aB lb=[.string l.name,.slice l.townsA l.towns.length l.townsC,.slice oa518 ((l.ways).length) c519,.slice oa525 ((l.depots).length) c526,.slice oa532 ((l.grounds).length) c533,.slice oa539 ((l.teams).length) c540,.slice l.windowsA l.windows.length l.windowsC,.slice l.slotsA l.slots.length l.slotsC,I l.pool,I l.points.p0,I l.points.p1,I l.points.p2,.slice l.keysA l.keys.length l.keysC,.slice oa546 ((l.phases).length) c547,.slice oa553 ((l.conds).length) c554]:=by subst hlb; simp only [aB,kV]
 have sF:Sta 139 (⟨.fn (.func 177) #[Pt B5 0,Pt B9 0],#[]⟩::[]) w [⟨2,[],Pt B5 0⟩,⟨3,[],Pt B9 0⟩,⟨7,[],Pt B187 0⟩] ([cI B187 236 [.slice oa492 7 c493],oR 237 1 fV oa492 c493 [B204,B249,B293,B337,B381,B425,B469],mI B204 (mK Value.string (aS y30.2.towns y30.2.towns.length)),mI B249 (mK Value.string (aS y30.2.grounds y30.2.grounds.length)),mI B293 (mK Value.string (aS y30.2.teams y30.2.teams.length)),mI B337 (mK Value.string (aS y30.2.windows y30.2.windows.length)),mI B381 (mK Value.string (aS y30.2.slots y30.2.slots.length)),mI B425 (mK Value.string (aS y30.2.phases y30.2.phases.length)),mI B469 (mK Value.string (aS y30.2.conds y30.2.conds.length)),cI B5 34 (aB lb),cI B9 40 [I 0]]++Hx lb) a608 w609:=by rw [hE]; subst hlb; exact ⟨(s610.keep (E':=[⟨2,[],Pt B5 0⟩,⟨3,[],Pt B9 0⟩,⟨7,[],Pt B187 0⟩]) [2,3,7] (by kernel_rfl)).f,s610.d,sP⟩
 have hres:vC l y30.2=if (hU l&&(flds l).all (dI l y30.2))=true then 0 else 170:=iP h21 (iP h41 (iP h60 (iP h79 (iP h98 (iP h117 (iP h136 (iP h155 (iP h174 (iP h214 (iP h259 (iP h303 (iP h347 (iP h391 (iP h435 (iP h479 rfl)))))))))))))))
 exact T8 hcp hsm hn34 hres sF
end Go.Proofs.YtfffbdmdllgalaaGreatDoor
namespace Go.Fz
open Go Go.RowKit
instance lawfulBA:LawfulBEq ByteArray where
  eq_of_beq {a b} h:=(MapKept.bytes_beq a b).1 h
  rfl {a}:=(MapKept.bytes_beq a a).2 rfl
def ML (xs:List ByteArray) (k:Nat):List (ByteArray × Value):=(List.range k).map fun i=>(xs.getD i ⟨#[]⟩,I i)
theorem wR {xs:List ByteArray} {k:Nat} (h:k≤xs.length):(ML xs k).map (·.1)=xs.take k:=by
  apply List.ext_getElem?
  intro i
  simp only [ML,List.map_map,List.getElem?_map,List.getElem?_take]
  by_cases hi:i<k
  · rw [List.getElem?_range hi,if_pos hi,List.getElem?_eq_getElem (show i<xs.length by omega)]
    simp [List.getD_eq_getElem?_getD,show i<xs.length by omega]
  · rw [if_neg hi,List.getElem?_eq_none (by simpa using hi)]; rfl
theorem G2 {ps:List (ByteArray × Value)} {s:ByteArray} {v:Value} (h:s∉ps.map (·.1)):tF ps s v=ps++[(s,v)]:=by
  unfold tF
  have:(vS ps s).isSome=false:=by rw [GU]; simpa using h
  cases hm:vS ps s with
  | none=>rfl
  | some j=>rw [hm] at this; cases this
theorem QJ {ps:List (ByteArray × Value)} {s:ByteArray} {v:Value} (h:s∈ps.map (·.1)):(tF ps s v).length=ps.length:=by
  unfold tF
  have:(vS ps s).isSome=true:=by rw [GU]; simpa using h
  cases hm:vS ps s with
  | none=>rw [hm] at this; cases this
  | some j=>simp
theorem qI {xs:List ByteArray}:∀ (k:Nat),k≤xs.length→(xs.take k).Nodup→aS xs k=ML xs k
  | 0,_,_=>rfl
  | k+1,hk,hn=>by
    have hx:xs[k]?=some xs[k]:=List.getElem?_eq_getElem (by omega)
    have ht:xs.take (k+1)=xs.take k++[xs[k]]:=by rw [List.take_add_one,hx]; rfl
    rw [ht,List.nodup_append] at hn
    have ih:=qI k (by omega) hn.1
    have hnot:xs[k]∉(aS xs k).map (·.1):=by
      rw [ih,wR (by omega)]
      exact fun hm=>hn.2.2 _ hm _ (by simp) rfl
    rw [wL hx,G2 hnot,ih]
    simp only [ML,List.range_succ,List.map_append,List.map_cons,List.map_nil,List.append_cancel_left_eq,List.cons.injEq,Prod.mk.injEq,and_true]
    rw [List.getD_eq_getElem?_getD,hx]; rfl
theorem G3 {xs:List ByteArray}:∀ (k:Nat),k≤xs.length→(aS xs k).length≤k∧((aS xs k).length=k→(xs.take k).Nodup)
  | 0,_=>⟨by simp [aS],fun _=>by simp⟩
  | k+1,hk=>by
    have hx:xs[k]?=some xs[k]:=List.getElem?_eq_getElem (by omega)
    have ⟨h1,h2⟩:=G3 (xs:=xs) k (by omega)
    rw [wL hx]
    rcases Classical.em (xs[k]∈(aS xs k).map (·.1)) with hm | hm
    · rw [QJ hm]; exact ⟨by omega,fun h=>by omega⟩
    · rw [G2 hm]
      simp only [List.length_append,List.length_cons,List.length_nil]
      refine ⟨by omega,fun h=>?_⟩
      have hn:=h2 (by omega)
      have ht:xs.take (k+1)=xs.take k++[xs[k]]:=by rw [List.take_add_one,hx]; rfl
      rw [ht,List.nodup_append]
      refine ⟨hn,by simp,fun a ha b hb e=>?_⟩
      rw [qI k (by omega) hn,wR (by omega)] at hm
      simp at hb; subst hb; subst e; exact hm ha
theorem XN (xs:List ByteArray):q5 xs = !c6 xs:=by
  have hl:(mK Value.string (aS xs xs.length)).length=(aS xs xs.length).length:=by simp [mK]
  unfold q5
  rw [hl]
  have ⟨h1,h2⟩:=G3 (xs:=xs) xs.length (Nat.le_refl _)
  rw [List.take_length] at h2
  simp only [c6,Bool.not_not]
  rw [Bool.eq_iff_iff]
  simp only [beq_iff_eq,decide_eq_true_eq,Int.ofNat_inj]
  refine ⟨h2,fun hn=>?_⟩
  rw [qI _ (Nat.le_refl _) (by rw [List.take_length]; exact hn)]; simp [ML]
theorem G4 {xs:List ByteArray} (h:c6 xs=false) (s:ByteArray):vS (aS xs xs.length) s=nP xs s∧∀ i,nP xs s=some i→qX (aS xs xs.length) s=some (I i):=by
  have hn:xs.Nodup:=by simpa [c6] using h
  have e:=qI (xs:=xs) xs.length (Nat.le_refl _) (by rw [List.take_length]; exact hn)
  have hk:=wR (xs:=xs) (Nat.le_refl _)
  rw [List.take_length] at hk
  have h1:vS (aS xs xs.length) s=nP xs s:=by
    rw [e]
    unfold vS nP
    conv=>rhs; rw [← hk]
    rw [List.findIdx?_map]
    congr 1
    funext p
    simp only [Function.comp]
    rw [Bool.eq_iff_iff,decide_eq_true_eq,MapKept.bytes_beq]
    exact ⟨fun h=>h.symm,fun h=>h.symm⟩
  refine ⟨h1,fun i hi=>?_⟩
  unfold qX
  rw [h1,hi,e]
  obtain ⟨h3,_⟩:=nQ.1 hi
  have hi':i<xs.length:=(List.getElem?_eq_some_iff.1 h3).1
  simp [ML,List.getElem?_range hi']
theorem T9 {xs:List ByteArray} (h:c6 xs=false) (s:ByteArray):mY xs s=decide (aH xs s≥0):=by
  have ⟨h1,h2⟩:=G4 h s
  unfold mY aH
  cases hf:nP xs s with
  | none =>
    have:qX (aS xs xs.length) s=none:=by unfold qX; rw [h1,hf]; rfl
    rw [this]; rfl
  | some i=>rw [h2 i hf]; simp
theorem EH {xs:List ByteArray} (h:c6 xs=false) {s:ByteArray} (hf:aH xs s≥0):gP xs s=aH xs s:=by
  have ⟨h1,h2⟩:=G4 h s
  unfold aH at hf ⊢
  unfold gP
  cases hf':nP xs s with
  | none=>rw [hf'] at hf; simp at hf
  | some i=>rw [h2 i hf']
theorem UA (xs:List ByteArray):EB xs=cZ xs:=by
  unfold EB cZ
  rw [GQ,Bool.eq_iff_iff]
  simp
end Go.Fz
namespace Go.Fz
open Go Go.RowKit
set_option linter.unusedSimpArgs false
theorem AN {xs:List ByteArray} {m:Nat} {s:ByteArray} {i:Nat}:nP (xs.take m) s=some i↔nP xs s=some i∧i<m:=by
  rw [nQ,nQ]
  constructor
  · rintro ⟨h1,h2⟩
    rw [List.getElem?_take] at h1
    split at h1
    · rename_i hi
      refine ⟨⟨h1,fun j hj=>?_⟩,hi⟩
      have:=h2 j hj
      rwa [List.getElem?_take,if_pos (by omega)] at this
    · cases h1
  · rintro ⟨⟨h1,h2⟩,hi⟩
    refine ⟨by rw [List.getElem?_take,if_pos hi]; exact h1,fun j hj=>?_⟩
    rw [List.getElem?_take,if_pos (by omega)]; exact h2 j hj
theorem AO {xs:List ByteArray} {m:Nat} {s:ByteArray} (h:aH xs s≥0) (hm:aH xs s<m):aH (xs.take m) s=aH xs s:=by
  unfold aH at h hm ⊢
  cases hf:nP xs s with
  | none=>rw [hf] at h; simp at h
  | some i =>
    rw [hf] at hm
    rw [AN.2 ⟨hf,by simpa using hm⟩]
theorem sX {xs:List ByteArray} {m:Nat} {s:ByteArray}:aH (xs.take m) s≥0↔aH xs s≥0∧aH xs s<m:=by
  constructor
  · intro h
    unfold aH at h ⊢
    cases hf:nP (xs.take m) s with
    | none=>rw [hf] at h; simp at h
    | some i=>obtain ⟨h1,h2⟩:=AN.1 hf; rw [h1]; simp [h2]
  · rintro ⟨h1,h2⟩; rw [AO h1 h2]; exact h1
def dT (l:aE) (n:cE) (p:FP):Bool:=decide ((IX l n p ((p.get l).getD hZ)).n=((p.get l).getD hZ).n)
section g
variable {l:aE} {n:cE} {p:FP} {r:cW} {k:Int} {xs:List ByteArray} {m:Nat}
theorem kQ (hg:p.get l=some r) (hk:p.kind l=k) (h7:k≠7) (hx:CJ n k=xs) (tw:c6 xs=false) (hm:p.most l=m):dI l n p=eK r (xs.take m):=by
  subst hk
  unfold dI eK
  rw [if_neg h7,hg,hx,hm,EG,T9 tw]
  simp only [Option.getD_some]
  rw [Bool.eq_iff_iff]
  simp only [Bool.and_eq_true,decide_eq_true_eq,sX]
  constructor
  · rintro ⟨h1,h2⟩; rw [EH tw h1] at h2; exact ⟨h1,h2⟩
  · rintro ⟨h1,h2⟩; rw [EH tw h1]; exact ⟨h1,h2⟩
theorem yG (hg:p.get l=some r) (hk:p.kind l=k) (h7:k≠7) (hx:CJ n k=xs) (tw:c6 xs=false) (hok:eK r (xs.take m)=true):dT l n p=fE r (bW r (xs.take m)):=by
  subst hk
  have hok':aH (xs.take m) r.name≥0:=by simpa [eK] using hok
  obtain ⟨h1,h2⟩:=sX.1 hok'
  unfold dT IX
  rw [hg,if_neg h7,hx]
  simp only [Option.getD_some,fO,EH tw h1,bW,AO h1 h2]
  rw [Bool.eq_iff_iff,gV,decide_eq_true_eq]
  obtain ⟨rn,ri⟩:=r
  simp [eq_comm]
theorem AP (hg:p.get l=some r) (hk:p.kind l=7):dI l n p=aT r:=by
  unfold dI
  rw [if_pos hk,hg,EG]
  simp only [Option.getD_some]
  rw [Bool.eq_iff_iff,gV]
  obtain ⟨rn,ri⟩:=r
  simp [aT,QD,FV]
theorem AQ (hk:p.kind l=7):dT l n p=true:=by
  unfold dT IX
  rw [if_pos hk]; simp
end g
section parts
variable {l:aE} {f:FP→Bool}
theorem fQ {α:Type} {xs:List α} {f:Nat→Bool} {g:α→Bool} (h:∀ i x,xs[i]?=some x→f i=g x):(List.range xs.length).all f=xs.all g:=by
  rw [Bool.eq_iff_iff,List.all_eq_true,List.all_eq_true]
  constructor
  · intro hh x hx
    obtain ⟨i,hi⟩:=List.getElem?_of_mem hx
    rw [← h i x hi]
    exact hh i (List.mem_range.2 (List.getElem?_eq_some_iff.1 hi).1)
  · intro hh i hi
    have hi':=List.mem_range.1 hi
    rw [h i xs[i] (List.getElem?_eq_getElem hi')]
    exact hh _ (List.getElem_mem hi')
theorem ad9 {α:Type} (xs:List α) (f g:α→Bool):(xs.all f&&xs.all g)=xs.all fun x=>f x&&g x:=by
  induction xs with
  | nil=>rfl
  | cons x xs ih=>simp only [List.all_cons,← ih]; cases f x <;> cases g x <;> cases xs.all f <;> cases xs.all g <;> rfl
theorem G5 (l:aE) (f:FP→Bool):(flds l).all f=(((((((List.range l.ways.length).all fun i=>f (.wayA i)&&f (.wayB i))&&(List.range l.depots.length).all fun i=>f (.depot i))&&(List.range l.grounds.length).all fun i=>f (.ground i))
    && (List.range l.teams.length).all fun i=>f (.team i))&&(List.range l.phases.length).all fun i=>(FB l.phases i).all f)&&(List.range l.conds.length).all fun i=>f (.ca i)&&f (.cb i)):=by
  unfold flds fW fD fG fT fP fC
  simp only [List.all_append,List.all_flatMap,List.all_map,List.all_cons,List.all_nil,Bool.and_true]
  rfl
theorem KX (ps:List aX) (i:Nat) (f:FP→Bool):(FB ps i).all f=((f (.window i)&&(List.range (ps.getD i aF).teams.length).all fun j=>f (.pteam i j))&&(f (.pof i)&&(f (.pa i)&&f (.pb i)))):=by
  unfold FB AB
  simp only [List.all_append,List.all_map,List.all_cons,List.all_nil,Bool.and_true]
  rfl
end parts
structure BA (n:cE):Prop where
  t1:c6 n.towns=false
  t2:c6 n.grounds=false
  t3:c6 n.teams=false
  t4:c6 n.windows=false
  t6:c6 n.phases=false
  l1:n.towns.length≤256
  l2:n.grounds.length≤256
  l3:n.teams.length≤256
  l4:n.windows.length≤256
section all
variable {l:aE} {n:cE}
theorem mM {xs:List ByteArray} (h:xs.length≤256):xs.take 256=xs:=List.take_of_length_le h
theorem MM (hn:BA n):((List.range l.ways.length).all fun i=>dI l n (.wayA i)&&dI l n (.wayB i))=l.ways.all (rJ n):=by
  refine fQ fun i x hx=>?_
  rw [kQ (p:=.wayA i) (r:=x.a) (k:=0) (xs:=n.towns) (m:=256) (by simp [FP.get,hx]) rfl (by decide) rfl hn.t1 rfl,kQ (p:=.wayB i) (r:=x.b) (k:=0) (xs:=n.towns) (m:=256) (by simp [FP.get,hx]) rfl (by decide) rfl hn.t1 rfl,mM hn.l1]
  unfold rJ
  cases eK x.a n.towns <;> cases eK x.b n.towns <;> rfl
theorem G6 (hn:BA n):((List.range l.depots.length).all fun i=>dI l n (.depot i))=l.depots.all (m9 n):=by
  refine fQ fun i x hx=>?_
  rw [kQ (p:=.depot i) (r:=x.town) (k:=0) (xs:=n.towns) (m:=256) (by simp [FP.get,hx]) rfl (by decide) rfl hn.t1 rfl,mM hn.l1]; rfl
theorem EI (hn:BA n):((List.range l.grounds.length).all fun i=>dI l n (.ground i))=l.grounds.all (lJ n):=by
  refine fQ fun i x hx=>?_
  rw [kQ (p:=.ground i) (r:=x.town) (k:=0) (xs:=n.towns) (m:=256) (by simp [FP.get,hx]) rfl (by decide) rfl hn.t1 rfl,mM hn.l1]; rfl
theorem IZ (hn:BA n):((List.range l.teams.length).all fun i=>dI l n (.team i))=l.teams.all (pW n):=by
  refine fQ fun i x hx=>?_
  rw [kQ (p:=.team i) (r:=x.ground) (k:=1) (xs:=n.grounds) (m:=256) (by simp [FP.get,hx]) rfl (by decide) rfl hn.t2 rfl,mM hn.l2]; rfl
theorem mN {α:Type} {xs:List α} {i:Nat} {x d:α} (h:xs[i]?=some x):xs.getD i d=x:=by simp [List.getD_eq_getElem?_getD,h]
theorem UB (hn:BA n) {i:Nat} {x:aX} (hx:l.phases[i]?=some x):dI l n (.pof i)=if x.kind=4 then eK x.of (n.phases.take i) else aT x.of:=by
  have hd:=mN (d:=aF) hx
  by_cases h:x.kind=4
  · rw [if_pos h,kQ (p:=.pof i) (r:=x.of) (k:=5) (xs:=n.phases) (m:=i) (by simp [FP.get,hx]) (by simp only [FP.kind,hd,h,if_true]) (by decide) rfl hn.t6 (by simp only [FP.most,hd,h,if_true])]
  · rw [if_neg h,AP (p:=.pof i) (r:=x.of) (by simp [FP.get,hx]) (by simp only [FP.kind,hd,h,if_false])]
theorem UC (hn:BA n) {i:Nat} {x:aX} (hx:l.phases[i]?=some x):dI l n (.pa i)=if x.kind=6 then eK x.a (n.phases.take i) else aT x.a:=by
  have hd:=mN (d:=aF) hx
  by_cases h:x.kind=6
  · rw [if_pos h,kQ (p:=.pa i) (r:=x.a) (k:=5) (xs:=n.phases) (m:=i) (by simp [FP.get,hx]) (by simp only [FP.kind,hd,h,if_true]) (by decide) rfl hn.t6 (by simp only [FP.most,hd,h,if_true])]
  · rw [if_neg h,AP (p:=.pa i) (r:=x.a) (by simp [FP.get,hx]) (by simp only [FP.kind,hd,h,if_false])]
theorem UD (hn:BA n) {i:Nat} {x:aX} (hx:l.phases[i]?=some x):dI l n (.pb i)=if x.kind=6 then eK x.b (n.phases.take i) else aT x.b:=by
  have hd:=mN (d:=aF) hx
  by_cases h:x.kind=6
  · rw [if_pos h,kQ (p:=.pb i) (r:=x.b) (k:=5) (xs:=n.phases) (m:=i) (by simp [FP.get,hx]) (by simp only [FP.kind,hd,h,if_true]) (by decide) rfl hn.t6 (by simp only [FP.most,hd,h,if_true])]
  · rw [if_neg h,AP (p:=.pb i) (r:=x.b) (by simp [FP.get,hx]) (by simp only [FP.kind,hd,h,if_false])]
theorem G7 (hn:BA n) {i:Nat} {x:aX} (hx:l.phases[i]?=some x):dI l n (.window i)=eK x.window n.windows:=by
  rw [kQ (p:=.window i) (r:=x.window) (k:=3) (xs:=n.windows) (m:=256) (by simp [FP.get,hx]) rfl (by decide) rfl hn.t4 rfl,mM hn.l4]
theorem G8 (hn:BA n) {i:Nat} {x:aX} (hx:l.phases[i]?=some x):((List.range (l.phases.getD i aF).teams.length).all fun j=>dI l n (.pteam i j))=x.teams.all (eK · n.teams):=by
  rw [mN hx]
  refine fQ fun j r hr=>?_
  rw [kQ (p:=.pteam i j) (r:=r) (k:=2) (xs:=n.teams) (m:=256) (by simp [FP.get,hx,hr]) rfl (by decide) rfl hn.t3 rfl,mM hn.l3]
theorem I0 (hn:BA n) {i:Nat} {x:aX} (hx:l.phases[i]?=some x):(kB x&&(FB l.phases i).all (dI l n))=rI x n (n.phases.take i):=by
  rw [KX,G7 hn hx,G8 hn hx,UB hn hx,UC hn hx,UD hn hx]
  unfold kB rI
  generalize eK x.window n.windows=b1
  generalize x.teams.all (eK · n.teams)=b2
  generalize eK x.of _=b3
  generalize eK x.a _=b4
  generalize eK x.b _=b5
  generalize aT x.of=c3
  generalize aT x.a=c4
  generalize aT x.b=c5
  generalize x.teams.length=m
  generalize x.kind=k
  by_cases h4:k=4
  · subst h4
    by_cases hm:m=0
    · subst hm; cases b1 <;> cases b2 <;> cases b3 <;> cases c4 <;> cases c5 <;> rfl
    · have h1:((m:Int)==0)=false:=by simpa using hm
      have h2:decide ((m:Int)>0)=true:=by simp; omega
      rw [h1,h2]; cases b1 <;> cases b2 <;> cases b3 <;> cases c4 <;> cases c5 <;> rfl
  · by_cases h6:k=6
    · subst h6
      by_cases hm:m=0
      · subst hm; cases b1 <;> cases b2 <;> cases c3 <;> cases b4 <;> cases b5 <;> rfl
      · have h1:((m:Int)==0)=false:=by simpa using hm
        have h2:decide ((m:Int)>0)=true:=by simp; omega
        rw [h1,h2]; cases b1 <;> cases b2 <;> cases c3 <;> cases b4 <;> cases b5 <;> rfl
    · have e4:(k==4)=false:=by simpa using h4
      have e6:(k==6)=false:=by simpa using h6
      rw [e4,e6]
      simp only [if_neg h4,if_neg h6,Bool.not_false,Bool.and_true,Bool.or_true,Bool.or_false,Bool.false_and,if_true]
      have hk:((decide (k≥1))&&(decide (k≤6))) = !((decide (k<1))||(decide (k>6))):=by
        rw [Bool.eq_iff_iff]; simp
      rw [hk]
      cases (decide (k<1))||(decide (k>6)) <;> cases b1 <;> cases b2 <;> cases c3 <;> cases c4 <;> cases c5 <;> rfl
theorem MN (hn:BA n) {i:Nat} {x:cJ} (hx:l.conds[i]?=some x):(pK x&&(dI l n (.ca i)&&dI l n (.cb i)))=nR n x:=by
  have hd:=mN (d:=dZ) hx
  have hga:FP.get l (.ca i)=some x.a:=by simp [FP.get,hx]
  have hgb:FP.get l (.cb i)=some x.b:=by simp [FP.get,hx]
  have ka:FP.kind l (.ca i)=l9 x.kind:=by simp only [FP.kind,hd]
  have kb:FP.kind l (.cb i)=nY x.kind:=by simp only [FP.kind,hd]
  have un:∀ {k:Int},x.kind=k→l9 k=7→dI l n (.ca i)=aT x.a:=fun hk h=>AP hga (by rw [ka,hk,h])
  have unb:∀ {k:Int},x.kind=k→nY k=7→dI l n (.cb i)=aT x.b:=fun hk h=>AP hgb (by rw [kb,hk,h])
  have ga:∀ {k j:Int} {xs:List ByteArray},x.kind=k→l9 k=j→j≠7→CJ n j=xs→c6 xs=false→xs.length≤256→dI l n (.ca i)=eK x.a xs:=fun hk h h7 hx tw hl=>by
    have:=kQ (l:=l) (n:=n) (p:=.ca i) (m:=256) hga (by rw [ka,hk,h]) h7 hx tw rfl
    rwa [mM hl] at this
  have gb:∀ {k j:Int} {xs:List ByteArray},x.kind=k→nY k=j→j≠7→CJ n j=xs→c6 xs=false→xs.length≤256→dI l n (.cb i)=eK x.b xs:=fun hk h h7 hx tw hl=>by
    have:=kQ (l:=l) (n:=n) (p:=.cb i) (m:=256) hgb (by rw [kb,hk,h]) h7 hx tw rfl
    rwa [mM hl] at this
  have rc:∀ {k:Int},x.kind=k→(x.kind=k)=True:=fun h=>by simp [h]
  unfold nR pK g7
  by_cases h1:x.kind=1
  · rw [un h1 rfl,unb h1 rfl]; simp [h1]
  by_cases h2:x.kind=2
  · rw [un h2 rfl,unb h2 rfl]; simp [h2]
  by_cases h3:x.kind=3
  · rw [un h3 rfl,unb h3 rfl]; simp [h3]
  by_cases h10:x.kind=10
  · rw [un h10 rfl,unb h10 rfl]; simp [h10]
  by_cases h4:x.kind=4
  · rw [ga h4 (j:=1) (xs:=n.grounds) rfl (by decide) rfl hn.t2 hn.l2,unb h4 rfl]; simp [h4]
  by_cases h5:x.kind=5
  · rw [ga h5 (j:=2) (xs:=n.teams) rfl (by decide) rfl hn.t3 hn.l3,unb h5 rfl]; simp [h5]
  by_cases h7:x.kind=7
  · rw [ga h7 (j:=0) (xs:=n.towns) rfl (by decide) rfl hn.t1 hn.l1,unb h7 rfl]; simp [h7]
  by_cases h6:x.kind=6
  · rw [ga h6 (j:=2) (xs:=n.teams) rfl (by decide) rfl hn.t3 hn.l3,gb h6 (j:=2) (xs:=n.teams) rfl (by decide) rfl hn.t3 hn.l3]; simp [h6]; cases eK x.a n.teams <;> simp
  by_cases h8:x.kind=8
  · rw [ga h8 (j:=2) (xs:=n.teams) rfl (by decide) rfl hn.t3 hn.l3,gb h8 (j:=2) (xs:=n.teams) rfl (by decide) rfl hn.t3 hn.l3]; simp [h8]; cases eK x.a n.teams <;> simp
  by_cases h9:x.kind=9
  · rw [ga h9 (j:=2) (xs:=n.teams) rfl (by decide) rfl hn.t3 hn.l3,gb h9 (j:=2) (xs:=n.teams) rfl (by decide) rfl hn.t3 hn.l3]; simp [h9]; cases eK x.a n.teams <;> simp
  simp [h1,h2,h3,h4,h5,h6,h7,h8,h9,h10]
theorem QK (l:aE):hU l=(l.phases.all kB&&l.conds.all pK):=by
  unfold hU; cases l.phases.all kB <;> cases l.conds.all pK <;> rfl
def xH (l:aE) (n:cE):Bool:=((((l.ways.all (rJ n)&&l.depots.all (m9 n))&&l.grounds.all (lJ n))&&l.teams.all (pW n))&&(List.range l.phases.length).all (oO l n))&&l.conds.all (nR n)
theorem QL (hn:BA n):(hU l&&(flds l).all (dI l n))=xH l n:=by
  rw [QK,G5,MM hn,G6 hn,EI hn,IZ hn]
  have hph:((List.range l.phases.length).all fun i=>kB (l.phases.getD i aF)&&(FB l.phases i).all (dI l n))=(List.range l.phases.length).all (oO l n):=by
    have:∀ i∈List.range l.phases.length,(kB (l.phases.getD i aF)&&(FB l.phases i).all (dI l n))=oO l n i:=fun i hi=>by
      have hx:=bC (d:=aF) (List.mem_range.1 hi)
      unfold oO
      exact I0 hn hx
    rw [Bool.eq_iff_iff,List.all_eq_true,List.all_eq_true]
    exact ⟨fun h i hi=>by rw [← this i hi]; exact h i hi,fun h i hi=>by rw [this i hi]; exact h i hi⟩
  have hco:(List.range l.conds.length).all (fun i=>pK (l.conds.getD i dZ)&&(dI l n (.ca i)&&dI l n (.cb i)))=l.conds.all (nR n) :=
    fQ fun i x hx=>by rw [mN hx]; exact MN hn hx
  have hp0:(List.range l.phases.length).all (fun i=>kB (l.phases.getD i aF))=l.phases.all kB:=fQ fun i x hx=>by rw [mN hx]
  have hc0:(List.range l.conds.length).all (fun i=>pK (l.conds.getD i dZ))=l.conds.all pK:=fQ fun i x hx=>by rw [mN hx]
  rw [← ad9,hp0] at hph
  rw [← ad9,hc0] at hco
  unfold xH
  rw [← hph,← hco]
  generalize l.phases.all kB=b1
  generalize l.conds.all pK=b2
  generalize l.ways.all (rJ n)=b3
  generalize l.depots.all (m9 n)=b4
  generalize l.grounds.all (lJ n)=b5
  generalize l.teams.all (pW n)=b6
  generalize (List.range l.phases.length).all _=b7
  generalize (List.range l.conds.length).all _=b8
  cases b1 <;> cases b2 <;> cases b3 <;> cases b4 <;> cases b5 <;> cases b6 <;> cases b7 <;> cases b8 <;> rfl
end all
end Go.Fz
namespace Go.Fz
open Go Go.RowKit
set_option linter.unusedSimpArgs false
section same
variable {l:aE} {n:cE}
theorem nB {p:FP} {r:cW} {k:Int} {xs:List ByteArray} (hg:p.get l=some r) (hk:p.kind l=k) (h7:k≠7) (hx:CJ n k=xs) (tw:c6 xs=false) (hl:xs.length≤256) (hok:eK r xs=true):dT l n p=fE r (bW r xs):=by
  have:=yG (m:=256) hg hk h7 hx tw (by rw [mM hl]; exact hok)
  rwa [mM hl] at this
theorem MP (hn:BA n) (h:l.ways.all (rJ n)=true):((List.range l.ways.length).all fun i=>dT l n (.wayA i)&&dT l n (.wayB i))=l.ways.all fun x=>uN x (oN n x):=by
  refine fQ fun i x hx=>?_
  have hok:rJ n x=true:=List.all_eq_true.1 h x (List.mem_of_getElem? hx)
  have ⟨h1,h2⟩:eK x.a n.towns=true∧eK x.b n.towns=true:=by
    unfold rJ at hok
    cases ha:eK x.a n.towns <;> cases hb:eK x.b n.towns <;> simp_all
  rw [nB (p:=.wayA i) (r:=x.a) (k:=0) (xs:=n.towns) (by simp [FP.get,hx]) rfl (by decide) rfl hn.t1 hn.l1 h1,nB (p:=.wayB i) (r:=x.b) (k:=0) (xs:=n.towns) (by simp [FP.get,hx]) rfl (by decide) rfl hn.t1 hn.l1 h2]
  rw [Bool.eq_iff_iff,Bool.and_eq_true,gV,gV,LA]
  obtain ⟨a,b,c⟩:=x
  simp [oN]
theorem G9 (hn:BA n) (h:l.depots.all (m9 n)=true):((List.range l.depots.length).all fun i=>dT l n (.depot i))=l.depots.all fun x=>m8 x (iS n x):=by
  refine fQ fun i x hx=>?_
  have hok:m9 n x=true:=List.all_eq_true.1 h x (List.mem_of_getElem? hx)
  rw [nB (p:=.depot i) (r:=x.town) (k:=0) (xs:=n.towns) (by simp [FP.get,hx]) rfl (by decide) rfl hn.t1 hn.l1 hok]
  rw [Bool.eq_iff_iff,gV,FW]
  obtain ⟨a,b⟩:=x
  simp [iS]
theorem EJ (hn:BA n) (h:l.grounds.all (lJ n)=true):((List.range l.grounds.length).all fun i=>dT l n (.ground i))=l.grounds.all fun x=>lI x (gE n x):=by
  refine fQ fun i x hx=>?_
  have hok:lJ n x=true:=List.all_eq_true.1 h x (List.mem_of_getElem? hx)
  rw [nB (p:=.ground i) (r:=x.town) (k:=0) (xs:=n.towns) (by simp [FP.get,hx]) rfl (by decide) rfl hn.t1 hn.l1 hok]
  rw [Bool.eq_iff_iff,gV,C0]
  cases x
  simp [gE]
theorem I1 (hn:BA n) (h:l.teams.all (pW n)=true):((List.range l.teams.length).all fun i=>dT l n (.team i))=l.teams.all fun x=>pU x (lS n x):=by
  refine fQ fun i x hx=>?_
  have hok:pW n x=true:=List.all_eq_true.1 h x (List.mem_of_getElem? hx)
  rw [nB (p:=.team i) (r:=x.ground) (k:=1) (xs:=n.grounds) (by simp [FP.get,hx]) rfl (by decide) rfl hn.t2 hn.l2 hok]
  rw [Bool.eq_iff_iff,gV,HW]
  cases x
  simp [lS]
theorem I2 {x:aX} {e:List ByteArray} (h:rI x n e=true):eK x.window n.windows=true∧(∀ r∈x.teams,eK r n.teams=true)∧(x.kind=4→eK x.of e=true)∧(x.kind=6→eK x.a e=true∧eK x.b e=true):=by
  unfold rI at h
  repeat' split at h
  all_goals first | (cases h; done) | skip
  all_goals rename_i h1 h2 h3
  all_goals (try rename_i h4)
  all_goals simp_all
theorem I3 (hn:BA n) {i:Nat} {x:aX} (hx:l.phases[i]?=some x) (hok:rI x n (n.phases.take i)=true):(FB l.phases i).all (dT l n)=jA x (qP x n (n.phases.take i)):=by
  obtain ⟨h1,h2,h3,h4⟩:=I2 hok
  have hd:=mN (d:=aF) hx
  have e1:dT l n (.window i)=fE x.window (bW x.window n.windows):=nB (p:=.window i) (k:=3) (by simp [FP.get,hx]) rfl (by decide) rfl hn.t4 hn.l4 h1
  have e2:((List.range (l.phases.getD i aF).teams.length).all fun j=>dT l n (.pteam i j))=x.teams.all fun r=>fE r (bW r n.teams):=by
    rw [hd]
    exact fQ fun j r hr=>nB (p:=.pteam i j) (k:=2) (by simp [FP.get,hx,hr]) rfl (by decide) rfl hn.t3 hn.l3 (h2 r (List.mem_of_getElem? hr))
  have e3:dT l n (.pof i)=fE x.of (qP x n (n.phases.take i)).of:=by
    by_cases h:x.kind=4
    · rw [yG (p:=.pof i) (r:=x.of) (k:=5) (xs:=n.phases) (m:=i) (by simp [FP.get,hx]) (by simp only [FP.kind,hd,h,if_true]) (by decide) rfl hn.t6 (h3 h)]
      simp only [qP,h,if_true]
    · rw [AQ (by simp only [FP.kind,hd,h,if_false])]
      simp only [qP,h,if_false,tH]
  have e4:dT l n (.pa i)=fE x.a (qP x n (n.phases.take i)).a:=by
    by_cases h:x.kind=6
    · rw [yG (p:=.pa i) (r:=x.a) (k:=5) (xs:=n.phases) (m:=i) (by simp [FP.get,hx]) (by simp only [FP.kind,hd,h,if_true]) (by decide) rfl hn.t6 (h4 h).1]
      simp only [qP,h,if_true]
    · rw [AQ (by simp only [FP.kind,hd,h,if_false])]
      simp only [qP,h,if_false,tH]
  have e5:dT l n (.pb i)=fE x.b (qP x n (n.phases.take i)).b:=by
    by_cases h:x.kind=6
    · rw [yG (p:=.pb i) (r:=x.b) (k:=5) (xs:=n.phases) (m:=i) (by simp [FP.get,hx]) (by simp only [FP.kind,hd,h,if_true]) (by decide) rfl hn.t6 (h4 h).2]
      simp only [qP,h,if_true]
    · rw [AQ (by simp only [FP.kind,hd,h,if_false])]
      simp only [qP,h,if_false,tH]
  rw [KX,e1,e2,e3,e4,e5]
  have f1:(x.name=(qP x n (n.phases.take i)).name)=True:=by simp [qP]
  have f2:(qP x n (n.phases.take i)).kind=x.kind:=rfl
  have f3:(qP x n (n.phases.take i)).placeA=x.placeA:=rfl
  have f4:(qP x n (n.phases.take i)).placeB=x.placeB:=rfl
  have f5:(qP x n (n.phases.take i)).sizes=x.sizes:=rfl
  have f6:(qP x n (n.phases.take i)).window=bW x.window n.windows:=rfl
  have f7:(List.range x.teams.length).all (fun i_1=>fE (x.teams.getD i_1 hZ) ((qP x n (n.phases.take i)).teams.getD i_1 hZ))=x.teams.all fun r=>fE r (bW r n.teams) :=
    fQ fun j r hr=>by simp [qP,List.getD_eq_getElem?_getD,hr]
  have f8:(qP x n (n.phases.take i)).teams.length=x.teams.length:=by simp [qP]
  have f9:(List.range x.sizes.length).all (fun _=>true)=true:=by simp
  unfold jA
  rw [f2,f3,f4,f5,f6,f7,f8]
  simp only [f1,decide_true,bne_self_eq_false,Bool.not_true,Bool.or_false,Bool.false_or,Bool.not_false]
  rw [f9]
  generalize (x.teams.all fun r=>fE r (bW r n.teams))=b5
  generalize fE x.window _=b1
  generalize fE x.of _=b2
  generalize fE x.a _=b3
  generalize fE x.b _=b4
  cases b1 <;> cases b2 <;> cases b3 <;> cases b4 <;> cases b5 <;> simp
theorem MQ (hn:BA n) {i:Nat} {x:cJ} (hx:l.conds[i]?=some x) (hok:nR n x=true):(dT l n (.ca i)&&dT l n (.cb i))=mU x (lK n x):=by
  have hd:=mN (d:=dZ) hx
  have hga:FP.get l (.ca i)=some x.a:=by simp [FP.get,hx]
  have hgb:FP.get l (.cb i)=some x.b:=by simp [FP.get,hx]
  have ka:FP.kind l (.ca i)=l9 x.kind:=by simp only [FP.kind,hd]
  have kb:FP.kind l (.cb i)=nY x.kind:=by simp only [FP.kind,hd]
  have un:l9 x.kind=7→dT l n (.ca i)=true:=fun h=>AQ (by rw [ka,h])
  have unb:nY x.kind=7→dT l n (.cb i)=true:=fun h=>AQ (by rw [kb,h])
  have ga:∀ {j:Int} {xs:List ByteArray},l9 x.kind=j→j≠7→CJ n j=xs→c6 xs=false→xs.length≤256→eK x.a xs=true→dT l n (.ca i)=fE x.a (bW x.a xs):=fun h h7 hx tw hl ho=>nB hga (by rw [ka,h]) h7 hx tw hl ho
  have gb:∀ {j:Int} {xs:List ByteArray},nY x.kind=j→j≠7→CJ n j=xs→c6 xs=false→xs.length≤256→eK x.b xs=true→dT l n (.cb i)=fE x.b (bW x.b xs):=fun h h7 hx tw hl ho=>nB hgb (by rw [kb,h]) h7 hx tw hl ho
  have both:∀ y z:cW,mU x { x with a:=y,b:=z }=(fE x.a y&&fE x.b z):=fun y z=>by
    rw [Bool.eq_iff_iff,Bool.and_eq_true,gV,gV,tL]; cases x; simp
  have fst:∀ y:cW,mU x { x with a:=y }=fE x.a y:=fun y=>by
    rw [Bool.eq_iff_iff,gV,tL]; cases x; simp
  have self:mU x x=true:=(tL x x).2 rfl
  unfold nR g7 at hok
  unfold lK g7
  by_cases h1:x.kind=1
  · rw [un (by rw [h1]; rfl),unb (by rw [h1]; rfl)]; simp [h1,self]
  by_cases h2:x.kind=2
  · rw [un (by rw [h2]; rfl),unb (by rw [h2]; rfl)]; simp [h2,self]
  by_cases h3:x.kind=3
  · rw [un (by rw [h3]; rfl),unb (by rw [h3]; rfl)]; simp [h3,self]
  by_cases h10:x.kind=10
  · rw [un (by rw [h10]; rfl),unb (by rw [h10]; rfl)]; simp [h10,self]
  by_cases h4:x.kind=4
  · simp only [h4,if_true,if_false,Int.reduceEq,reduceIte,Bool.and_eq_true] at hok
    rw [ga (j:=1) (xs:=n.grounds) (by rw [h4]; rfl) (by decide) rfl hn.t2 hn.l2 hok.1,unb (by rw [h4]; rfl),Bool.and_true]
    simp only [if_neg h1,if_neg h2,if_neg h3,if_neg h10,if_pos h4,fst]
  by_cases h5:x.kind=5
  · simp only [h5,if_true,if_false,Int.reduceEq,reduceIte,Bool.and_eq_true] at hok
    rw [ga (j:=2) (xs:=n.teams) (by rw [h5]; rfl) (by decide) rfl hn.t3 hn.l3 hok.1,unb (by rw [h5]; rfl),Bool.and_true]
    simp only [if_neg h1,if_neg h2,if_neg h3,if_neg h10,if_neg h4,if_pos h5,fst]
  by_cases h7:x.kind=7
  · simp only [h7,if_true,if_false,Int.reduceEq,reduceIte,Bool.and_eq_true] at hok
    rw [ga (j:=0) (xs:=n.towns) (by rw [h7]; rfl) (by decide) rfl hn.t1 hn.l1 hok.1,unb (by rw [h7]; rfl),Bool.and_true]
    simp only [if_neg h1,if_neg h2,if_neg h3,if_neg h10,if_neg h4,if_neg h5,if_pos h7,fst]
  have two:∀ (c:Bool × Bool),(if eK x.a n.teams=false then (({ x with a:=bW x.a n.teams }:cJ),false) else ({ x with a:=bW x.a n.teams,b:=bW x.b n.teams },eK x.b n.teams)).2=true→eK x.a n.teams=true∧eK x.b n.teams=true:=fun _ h=>by
    cases ha:eK x.a n.teams <;> rw [ha] at h <;> simp_all
  by_cases h6:x.kind=6
  · simp only [if_neg h1,if_neg h2,if_neg h3,if_neg h10,if_neg h4,if_neg h5,if_neg h7,if_pos h6] at hok
    obtain ⟨o1,o2⟩:=two (true,true) hok
    rw [ga (j:=2) (xs:=n.teams) (by rw [h6]; rfl) (by decide) rfl hn.t3 hn.l3 o1,gb (j:=2) (xs:=n.teams) (by rw [h6]; rfl) (by decide) rfl hn.t3 hn.l3 o2]
    simp only [if_neg h1,if_neg h2,if_neg h3,if_neg h10,if_neg h4,if_neg h5,if_neg h7,if_pos h6,o1,Bool.true_eq_false,if_false,both]
  by_cases h8:x.kind=8
  · simp only [if_neg h1,if_neg h2,if_neg h3,if_neg h10,if_neg h4,if_neg h5,if_neg h7,if_neg h6,if_pos h8] at hok
    obtain ⟨o1,o2⟩:=two (true,true) hok
    rw [ga (j:=2) (xs:=n.teams) (by rw [h8]; rfl) (by decide) rfl hn.t3 hn.l3 o1,gb (j:=2) (xs:=n.teams) (by rw [h8]; rfl) (by decide) rfl hn.t3 hn.l3 o2]
    simp only [if_neg h1,if_neg h2,if_neg h3,if_neg h10,if_neg h4,if_neg h5,if_neg h7,if_neg h6,if_pos h8,o1,Bool.true_eq_false,if_false,both]
  by_cases h9:x.kind=9
  · simp only [if_neg h1,if_neg h2,if_neg h3,if_neg h10,if_neg h4,if_neg h5,if_neg h7,if_neg h6,if_neg h8,if_pos h9] at hok
    obtain ⟨o1,o2⟩:=two (true,true) hok
    rw [ga (j:=2) (xs:=n.teams) (by rw [h9]; rfl) (by decide) rfl hn.t3 hn.l3 o1,gb (j:=2) (xs:=n.teams) (by rw [h9]; rfl) (by decide) rfl hn.t3 hn.l3 o2]
    simp only [if_neg h1,if_neg h2,if_neg h3,if_neg h10,if_neg h4,if_neg h5,if_neg h7,if_neg h6,if_neg h8,if_pos h9,o1,Bool.true_eq_false,if_false,both]
  simp [h1,h2,h3,h4,h5,h6,h7,h8,h9,h10] at hok
theorem MR (l:aE):o4 l (kG l)=(((((l.ways.all (fun x=>uN x (oN (cB l) x))&&l.depots.all (fun x=>m8 x (iS (cB l) x)))&&l.grounds.all (fun x=>lI x (gE (cB l) x)))&&l.teams.all (fun x=>pU x (lS (cB l) x)))
    && (List.range l.phases.length).all (fun i=>jA (l.phases.getD i aF) (qP (l.phases.getD i aF) (cB l) ((cB l).phases.take i))))&&l.conds.all (fun x=>mU x (lK (cB l) x))):=by
  have self:∀ {α:Type} (d:α) (xs:List α) (eq:α→α→Bool),(∀ x,eq x x=true)→(List.range xs.length).all (fun i=>eq (xs.getD i d) (xs.getD i d))=true:=fun d xs eq h=>by simp [h]
  have w1:(List.range l.ways.length).all (fun i=>uN (l.ways.getD i o0) ((kG l).ways.getD i o0))=l.ways.all (fun x=>uN x (oN (cB l) x)):=fQ fun i x hx=>by simp [kG,List.getD_eq_getElem?_getD,hx]
  have w2:(List.range l.depots.length).all (fun i=>m8 (l.depots.getD i j6) ((kG l).depots.getD i j6))=l.depots.all (fun x=>m8 x (iS (cB l) x)):=fQ fun i x hx=>by simp [kG,List.getD_eq_getElem?_getD,hx]
  have w3:(List.range l.grounds.length).all (fun i=>lI (l.grounds.getD i iQ) ((kG l).grounds.getD i iQ))=l.grounds.all (fun x=>lI x (gE (cB l) x)):=fQ fun i x hx=>by simp [kG,List.getD_eq_getElem?_getD,hx]
  have w4:(List.range l.teams.length).all (fun i=>pU (l.teams.getD i l0) ((kG l).teams.getD i l0))=l.teams.all (fun x=>pU x (lS (cB l) x)):=fQ fun i x hx=>by simp [kG,List.getD_eq_getElem?_getD,hx]
  have w6:(List.range l.conds.length).all (fun i=>mU (l.conds.getD i dZ) ((kG l).conds.getD i dZ))=l.conds.all (fun x=>mU x (lK (cB l) x)):=fQ fun i x hx=>by simp [kG,List.getD_eq_getElem?_getD,hx]
  have w5:(List.range l.phases.length).all (fun i=>jA (l.phases.getD i aF) ((kG l).phases.getD i aF))=(List.range l.phases.length).all (fun i=>jA (l.phases.getD i aF) (qP (l.phases.getD i aF) (cB l) ((cB l).phases.take i))):=by
    have:∀ i∈List.range l.phases.length,jA (l.phases.getD i aF) ((kG l).phases.getD i aF)=jA (l.phases.getD i aF) (qP (l.phases.getD i aF) (cB l) ((cB l).phases.take i)):=fun i hi=>by
      have hi:=List.mem_range.1 hi
      simp [kG,List.getD_eq_getElem?_getD,hi]
    rw [Bool.eq_iff_iff,List.all_eq_true,List.all_eq_true]
    exact ⟨fun h i hi=>by rw [← this i hi]; exact h i hi,fun h i hi=>by rw [this i hi]; exact h i hi⟩
  unfold o4
  rw [w1,w2,w3,w4,w5,w6]
  rw [if_neg (by simp [kG]),if_neg (by simp [kG,AY])]
  rw [if_pos (show (List.range l.towns.length).all (fun i=>tJ (l.towns.getD i lZ) ((kG l).towns.getD i lZ))=true from self lZ l.towns tJ fun x=>(HV x x).2 rfl)]
  rw [if_pos (show (List.range l.windows.length).all (fun i=>nO (l.windows.getD i iR) ((kG l).windows.getD i iR))=true from self iR l.windows nO fun x=>(C1 x x).2 rfl)]
  rw [if_pos (show (List.range l.slots.length).all (fun i=>tK (l.slots.getD i l5) ((kG l).slots.getD i l5))=true from self l5 l.slots tK fun x=>(HX x x).2 rfl)]
  rw [if_pos (show (List.range l.keys.length).all (fun i => !((l.keys.getD i 0) != ((kG l).keys.getD i 0)))=true from self 0 l.keys (fun a b => !(a != b)) (by simp))]
  generalize l.ways.all _=b1
  generalize l.depots.all _=b2
  generalize l.grounds.all _=b3
  generalize l.teams.all _=b4
  generalize (List.range l.phases.length).all _=b5
  generalize l.conds.all _=b6
  cases b1 <;> cases b2 <;> cases b3 <;> cases b4 <;> cases b5 <;> cases b6 <;> rfl
theorem QM (hn:BA (cB l)) (h:xH l (cB l)=true):(flds l).all (dT l (cB l))=o4 l (kG l):=by
  unfold xH at h
  simp only [Bool.and_eq_true] at h
  obtain ⟨⟨⟨⟨⟨h1,h2⟩,h3⟩,h4⟩,h5⟩,h6⟩:=h
  rw [MR,G5,MP hn h1,G9 hn h2,EJ hn h3,I1 hn h4]
  congr 1
  · congr 1
    rw [Bool.eq_iff_iff,List.all_eq_true,List.all_eq_true]
    have:∀ i∈List.range l.phases.length,(FB l.phases i).all (dT l (cB l))=jA (l.phases.getD i aF) (qP (l.phases.getD i aF) (cB l) ((cB l).phases.take i)):=fun i hi =>
      I3 hn (bC (d:=aF) (List.mem_range.1 hi)) (List.all_eq_true.1 h5 i hi)
    exact ⟨fun h i hi=>by rw [← this i hi]; exact h i hi,fun h i hi=>by rw [this i hi]; exact h i hi⟩
  · exact fQ fun i x hx=>MQ hn hx (List.all_eq_true.1 h6 x (List.mem_of_getElem? hx))
theorem UE {l:aE} {n:cE} (h:gZ l n):vC l n=vC l (cB l)∧∀ p,dT l n p=dT l (cB l) p:=by
  obtain ⟨h1,h2,h3,h4,h5,h6,h7⟩:=h
  obtain ⟨a1,a2,a3,a4,a5,a6,a7,a8,a9,b1,b2,b3,b4,b5,b6,b7,b8,b9,c1,c2,c3⟩:=n
  simp only at h1 h2 h3 h4 h5 h6 h7
  subst h1; subst h2; subst h3; subst h4; subst h5; subst h6; subst h7
  exact ⟨rfl,fun _=>rfl⟩
theorem QN {l:aE} (hl:n9 l=true) (ht:mQ (cB l)=false):BA (cB l):=by
  have h:=DD hl
  unfold mQ at ht
  simp only [Bool.or_eq_false_iff] at ht
  obtain ⟨⟨⟨⟨⟨⟨t1,t2⟩,t3⟩,t4⟩,_⟩,t6⟩,_⟩:=ht
  exact ⟨t1,t2,t3,t4,t6,by simp [cB]; omega,by simp [cB]; omega,by simp [cB]; omega,by simp [cB]; omega⟩
theorem KY (l:aE) (n:cE) (h1:n9 l=true) (h2:o5 l n=false) (h3:mQ n=false):n2 l n=if xH l n=true then 0 else 170:=by
  unfold n2 xH
  rw [h1,h2,h3]
  generalize l.ways.all _=b1
  generalize l.depots.all _=b2
  generalize l.grounds.all _=b3
  generalize l.teams.all _=b4
  generalize (List.range l.phases.length).all _=b5
  generalize l.conds.all _=b6
  cases b1 <;> cases b2 <;> cases b3 <;> cases b4 <;> cases b5 <;> cases b6 <;> rfl
theorem UF (l:aE):vC l (cB l)=n2 l (cB l):=by
  generalize hn:cB l=n
  unfold vC
  rw [GR]
  cases h1:n9 l with
  | false=>unfold n2; rw [h1]; rfl
  | true =>
    simp only [if_true,UA,XN]
    have hb:o5 l n = !(eO l.name&&(cZ n.towns&&(cZ n.grounds&&(cZ n.teams&&(cZ n.windows&&(cZ n.slots&&(cZ n.phases&&cZ n.conds))))))):=by
      unfold o5; cases eO l.name <;> cases cZ n.towns <;> cases cZ n.grounds <;> cases cZ n.teams <;> cases cZ n.windows <;> cases cZ n.slots <;> cases cZ n.phases <;> cases cZ n.conds <;> rfl
    cases h2:o5 l n with
    | true =>
      have e:n2 l n=170:=by unfold n2; rw [h1,h2]; rfl
      rw [e]
      rw [h2] at hb
      cases h01:eO l.name <;> simp [h01]
      cases h02:cZ n.towns <;> simp [h02]
      cases h03:cZ n.grounds <;> simp [h03]
      cases h04:cZ n.teams <;> simp [h04]
      cases h05:cZ n.windows <;> simp [h05]
      cases h06:cZ n.slots <;> simp [h06]
      cases h07:cZ n.phases <;> simp [h07]
      cases h08:cZ n.conds <;> simp [h08]
      rw [h01,h02,h03,h04,h05,h06,h07,h08] at hb
      cases hb
    | false =>
      rw [h2] at hb
      have hb':(eO l.name&&(cZ n.towns&&(cZ n.grounds&&(cZ n.teams&&(cZ n.windows&&(cZ n.slots&&(cZ n.phases&&cZ n.conds)))))))=true:=by simpa using hb.symm
      simp only [Bool.and_eq_true] at hb'
      obtain ⟨k1,k2,k3,k4,k5,k6,k7,k8⟩:=hb'
      rw [if_pos k1,if_pos k2,if_pos k3,if_pos k4,if_pos k5,if_pos k6,if_pos k7,if_pos k8]
      cases h3:mQ n with
      | true =>
        have e:n2 l n=171:=by unfold n2; rw [h1,h2,h3]; rfl
        rw [e]
        unfold mQ at h3
        cases h02:c6 n.towns <;> simp [h02]
        cases h03:c6 n.grounds <;> simp [h03]
        cases h04:c6 n.teams <;> simp [h04]
        cases h05:c6 n.windows <;> simp [h05]
        cases h06:c6 n.slots <;> simp [h06]
        cases h07:c6 n.phases <;> simp [h07]
        cases h08:c6 n.conds <;> simp [h08]
        rw [h02,h03,h04,h05,h06,h07,h08] at h3
        cases h3
      | false =>
        rw [KY l n h1 h2 h3]
        have hN:BA n:=by subst hn; exact QN h1 h3
        rw [QL hN]
        unfold mQ at h3
        simp only [Bool.or_eq_false_iff] at h3
        obtain ⟨⟨⟨⟨⟨⟨t1,t2⟩,t3⟩,t4⟩,t5⟩,t6⟩,t7⟩:=h3
        simp [t1,t2,t3,t4,t5,t6,t7]
theorem tV {l:aE} {n:cE} (hn:gZ l n):hD l=if vC l n≠0 then vC l n else if (flds l).all (dT l n)=true then 0 else 170:=by
  obtain ⟨e1,e2⟩:=UE hn
  have e3:(flds l).all (dT l n)=(flds l).all (dT l (cB l)):=by
    rw [show dT l n=dT l (cB l) from funext e2]
  rw [e1,e3,UF]
  unfold hD
  by_cases h:n2 l (cB l)=0
  · obtain ⟨h1,h2,h3,h4⟩:=pG h
    have hr:xH l (cB l)=true:=by
      rw [KY l _ h1 h2 h3] at h
      by_cases hb:xH l (cB l)=true
      · exact hb
      · rw [if_neg hb] at h; cases h
    rw [QM (QN h1 h3) hr,h]
    cases o4 l (kG l) <;> rfl
  · rw [if_pos h,if_pos h]
end same
end Go.Fz
namespace Go.Fz
open Go Go.RowKit
section inp
variable {P:Program} {w w0:World} {x:aE} {H:List Item}
theorem UG (h:LeagueAt w x) {p:FP} {r:cW} (hg:p.get x=some r):w.cell? (p.adr x)=some (.string r.name)∧w.cell? ((p.adr x).add 1)=some (I r.n):=by
  have fin:∀ {α:Type} {oa:Option Addr} {sz:Nat} {enc:α→List Value} {xs:List α} (hr:Row w oa sz enc xs) (i:Nat) {y:α} (j:Nat),xs[i]?=some y→(enc y)[j]?=some (.string r.name)→(enc y)[j+1]?=some (I r.n) →
      w.cell? (kK oa (i*sz+j))=some (.string r.name)∧w.cell? ((kK oa (i*sz+j)).add 1)=some (I r.n):=fun hr i y j hy h1 h2=>by
    refine ⟨hr.cell i y j _ hy h1,?_⟩
    rw [iX,Nat.add_assoc]; exact hr.cell i y (j+1) _ hy h2
  have one:∀ {α:Type} {xs:List α} {i:Nat} {g:α→cW},(xs[i]?).map g=some r→∃ y,xs[i]?=some y∧g y=r:=fun {α xs i g} h=>by
    cases hx:xs[i]? with
    | none=>rw [hx] at h; cases h
    | some y=>rw [hx] at h; exact ⟨y,rfl,Option.some.inj h⟩
  cases p with
  | wayA i=>obtain ⟨y,hy,rfl⟩:=one hg; exact fin h.ways i 0 hy rfl rfl
  | wayB i=>obtain ⟨y,hy,rfl⟩:=one hg; exact fin h.ways i 2 hy rfl rfl
  | depot i=>obtain ⟨y,hy,rfl⟩:=one hg; exact fin h.depots i 0 hy rfl rfl
  | ground i=>obtain ⟨y,hy,rfl⟩:=one hg; exact fin h.grounds i 1 hy rfl rfl
  | team i=>obtain ⟨y,hy,rfl⟩:=one hg; exact fin h.teams i 1 hy rfl rfl
  | window i=>obtain ⟨y,hy,rfl⟩:=one hg; exact fin h.phases i 2 hy rfl rfl
  | pof i=>obtain ⟨y,hy,rfl⟩:=one hg; exact fin h.phases i 5 hy rfl rfl
  | pa i=>obtain ⟨y,hy,rfl⟩:=one hg; exact fin h.phases i 8 hy rfl rfl
  | pb i=>obtain ⟨y,hy,rfl⟩:=one hg; exact fin h.phases i 10 hy rfl rfl
  | ca i=>obtain ⟨y,hy,rfl⟩:=one hg; exact fin h.conds i 2 hy rfl rfl
  | cb i=>obtain ⟨y,hy,rfl⟩:=one hg; exact fin h.conds i 4 hy rfl rfl
  | pteam i j =>
    simp only [FP.get] at hg
    cases hp:x.phases[i]? with
    | none=>rw [hp] at hg; cases hg
    | some q =>
      rw [hp] at hg
      have hq:q∈x.phases:=List.mem_of_getElem? hp
      have rq:Row w q.teamsA 2 bN q.teams:=h.pteams q hq
      have e:FP.adr x (.pteam i j)=kK q.teamsA (j*2):=by simp [FP.adr,List.getD_eq_getElem?_getD,hp]
      rw [e]
      exact fin rq j 0 hg rfl rfl
theorem QO {p:FP} {r:cW} {t:TypeId} (ht:Scalar P t) (h:LeagueAt w0 x) (hs:St w0 H w) (hg:p.get x=some r):Yv P w (Instr.loadAt t (Pa ((p.adr x).add 1))) (I r.n):=fun w' hw'=>by
  obtain ⟨h1,h2⟩:=UG (h.up (hs.grow hw')) hg
  simp [Instr.loadAt,Instr.sureAddr,lX ht h2]
theorem UH {B:Nat} (hd:Row w (some ⟨B,0,none⟩) 15 aB [x]) (h:LeagueAt w x):GV w B x:=by
  refine ⟨hd,h.ways.o ?_,h.depots.o ?_,h.grounds.o ?_,h.teams.o ?_,h.phases.o ?_,h.conds.o ?_,fun p hp=>(h.pteams p hp).o ?_⟩
  all_goals intro y j v hv
  · simp [qT] at hv
  · simp [qT] at hv
  · simp [qT] at hv
  · simp [qT] at hv
  · match j,hv with
    | 0,hv=>simp [mA] at hv
    | 1,hv=>simp [mA] at hv; simp [aK,hv]
    | 2,hv=>simp [mA] at hv
    | 3,hv=>simp [mA] at hv
    | 4,hv=>simp [mA] at hv; simp [aK,hv]
    | j+5,hv=>simp [mA] at hv
  · match j,hv with
    | 0,hv=>simp [tT] at hv
    | 1,hv=>simp [tT] at hv; simp [aV,hv]
    | j+2,hv=>simp [tT] at hv
  · simp [qT] at hv
end inp
def oU (l:aE) (p:FP):Int:=((p.get l).getD hZ).n
theorem HA {l:aE} {p:FP} {r:cW} (h:p.get l=some r):oU l p=r.n:=by unfold oU; rw [h]; rfl
theorem QP {l:aE} {p:FP} {r:cW} (h:p.get l=some r) (pre:List FP):(pre.map (oU l))++[r.n]=(pre++[p]).map (oU l):=by
  rw [List.map_append,← HA h]; rfl
theorem QQ {ps:List aX} (h:∀ p∈ps,p.teams.length≤1000):∀ k,(fP ps k).length≤k*1004
  | 0=>by simp [fP]
  | k+1=>by
    rw [yE,List.length_append]
    have:=QQ h k
    have hd:(ps.getD k aF).teams.length≤1000:=by
      rcases Nat.lt_or_ge k ps.length with hk | hk
      · exact h _ (List.mem_of_getElem? (bC hk))
      · simp [List.getD_eq_getElem?_getD,List.getElem?_eq_none hk,aF]
    have h1:(FB ps k).length=(ps.getD k aF).teams.length+4:=by simp [FB,AB]
    omega
theorem QR:∀ k,(fW k).length=k*2
  | 0=>rfl
  | k+1=>by rw [vA,List.length_append,List.length_append,QR k]; simp; omega
theorem QT:∀ k,(fC k).length=k*2
  | 0=>rfl
  | k+1=>by rw [jW,List.length_append,List.length_append,QT k]; simp; omega
theorem HB {l:aE} (h:jF l):(flds l).length≤1020000:=by
  unfold flds
  simp only [List.length_append]
  have h1:=QR l.ways.length
  have h2:=QT l.conds.length
  have h3:=QQ h.pteams l.phases.length
  have h4:=h.ways; have h5:=h.depots; have h6:=h.grounds; have h7:=h.teams; have h8:=h.phases; have h9:=h.conds
  simp only [fD,fG,fT,List.length_map,List.length_range]
  omega
theorem KZ {l out:aE} {n:cE} (h:T2 l n out) {p:FP} (hp:p∈flds l):(decide (oU out p=oU l p))=dT l n p:=by
  obtain ⟨r,hr⟩:=vD hp
  unfold dT oU
  rw [h.get p,hr]
  simp only [Option.map_some,Option.getD_some,bD,if_pos hp]
theorem XO {P:Program} (w:World) (oa:Option Addr) (n c:Nat) {t e sz:Nat} (h:eE P t e) (hs:SizeT P e sz) (hn:1≤n) (hc:n≤c):Yv P w (Instr.sliceAt t (.slice oa n c) (some (I 1)) none none) (.slice (if c=1 then oa else oa.map (·.add (1*sz))) (n-1) (c-1)):=by
  refine Yv.intro fun w'=>?_
  have hc1:(1:Int)≤(n:Int):=by omega
  simp [Instr.sliceAt,jS h,Instr.slice,Instr.sliceBounds,Instr.sliceBound,asIntOf,hs w',hc1]
end Go.Fz
namespace Go.Fz
open Go Go.RowKit
theorem adA {P:Program} (w:World) {oa g:Option Addr} {k m c t e:Nat} (hT:eE P t e) (hs:SizeT P e 1) (hm:0<m) (ha:∃ a,oa=some a∧a.spot=none) (hg:g=oa.map (·.add k)) :
    Yv P w (Instr.indexAt t (.slice g m c) (I 0)) (Pa (kK oa (k*1))):=by
  obtain ⟨⟨b,o,sp⟩,rfl,hsp⟩:=ha
  simp only at hsp; subst hsp; subst hg
  have:=ia (P:=P) w (some ⟨b,o+k,none⟩) m c 0 hT hs hm ⟨_,rfl,rfl⟩
  have e:(some (⟨b,o,none⟩:Addr)).map (·.add k)=some ⟨b,o+k,none⟩:=by simp [gW]
  rw [e]
  simpa [kK] using this
abbrev gS (l:aE) (n:cE) (pre:List FP):Item:=⟨none,fun _=>∀ q∈pre,dT l n q=true⟩
abbrev gA (oa:Option Addr) (N:Nat) (pre:List FP) (g:Option Addr):Item:=⟨none,fun _=>pre.length<N→g=oa.map (·.add pre.length)⟩
abbrev gF (l:aE) (n:cE):Item:=⟨none,fun _=>(flds l).all (dT l n)=false⟩
theorem XP (oa:Option Addr) (N:Nat):([]:List FP).length<N→oa=oa.map (·.add ([]:List FP).length):=fun _=>by
  cases oa with
  | none=>rfl
  | some a=>simp [Addr.add]
theorem UI {oa g:Option Addr} {N c:Nat} {pre:List FP} {p:FP} (h:pre.length<N→g=oa.map (·.add pre.length)) (hN:N≤c) (hp:pre.length<N) :
    (pre++[p]).length<N→(if c-pre.length=1 then g else g.map (·.add (1*1)))=oa.map (·.add (pre++[p]).length):=fun h2=>by
  rw [List.length_append] at h2 ⊢
  simp only [List.length_cons,List.length_nil] at h2 ⊢
  rw [if_neg (by omega),h hp]
  cases oa with
  | none=>rfl
  | some a =>
    simp only [Option.map_some,Option.some.injEq]
    by_cases hz:pre.length=0
    · rw [hz]; simp [Addr.add]
    · have hz':pre≠[]:=fun e=>hz (by rw [e]; rfl)
      simp [Addr.add,Nat.add_assoc,hz']
theorem UJ {l:aE} {n:cE} {pre:List FP} {p:FP} (h:∀ q∈pre,dT l n q=true) (hp:dT l n p=true):∀ q∈pre++[p],dT l n q=true:=by
  intro q hq
  rcases List.mem_append.1 hq with hq | hq
  · exact h q hq
  · obtain rfl:q=p:=by simpa using hq
    exact hp
theorem QU {l:aE} {n:cE} {p:FP} (hp:p∈flds l) (h:dT l n p=false):(flds l).all (dT l n)=false:=by
  rw [List.all_eq_false]; exact ⟨p,hp,by simp [h]⟩
theorem HC {b:Bool} {x y:Int} (hy:y≠0) (h:(if b=true then x else y)=0):b=true∧x=0:=by
  cases b with
  | false=>exact absurd h hy
  | true=>exact ⟨rfl,h⟩
theorem MS {l:aE} {n:cE} (h:vC l n=0):z7 l=true∧hU l=true:=by
  unfold vC at h
  obtain ⟨h1,h⟩:=HC (by decide) h
  obtain ⟨_,h⟩:=HC (by decide) h
  obtain ⟨_,h⟩:=HC (by decide) h
  obtain ⟨_,h⟩:=HC (by decide) h
  obtain ⟨_,h⟩:=HC (by decide) h
  obtain ⟨_,h⟩:=HC (by decide) h
  obtain ⟨_,h⟩:=HC (by decide) h
  obtain ⟨_,h⟩:=HC (by decide) h
  obtain ⟨_,h⟩:=HC (by decide) h
  obtain ⟨_,h⟩:=HC (by decide) h
  obtain ⟨_,h⟩:=HC (by decide) h
  obtain ⟨_,h⟩:=HC (by decide) h
  obtain ⟨_,h⟩:=HC (by decide) h
  obtain ⟨_,h⟩:=HC (by decide) h
  obtain ⟨_,h⟩:=HC (by decide) h
  obtain ⟨_,h⟩:=HC (by decide) h
  obtain ⟨h2,_⟩:=HC (by decide) h
  simp only [Bool.and_eq_true] at h2
  exact ⟨h1,h2.1⟩
theorem EK {l:aE} {pre:List FP} {p:FP} {ys:List FP} (h:pre++[p] <+: ys):(ys.map (oU l))[pre.length]?=some (oU l p)∧pre.length<(ys.map (oU l)).length∧p∈ys:=by
  obtain ⟨zs,rfl⟩:=h
  refine ⟨by simp,by simp,by simp⟩
theorem CL {w0 w:World} {Z:List Item} {B:Nat} {x:aE} (hd:Row w (some ⟨B,0,none⟩) 15 aB [x]) (h:St w0 (Hx x++Z) w) (hs:jF x):GV w B x :=
  G1 (f:=fun _ r=>r) hd (by rw [KW (fun _ _=>rfl) x]; exact h) hs
end Go.Fz
namespace Go.Fz
open Go Go.RowKit
theorem sY {P:Program} {Q:Exit→Act→World→Prop} {a:Act} {w:World} {l:List Oper} {r:Option Nat} {m:Nat} {id:Nat} (hm:P.follows .mixedOrders=true) (m0:Nat) (hd:l.all qK=true) (hL:¬ LetsOut Q) (h:DW P l Q m0 0 a w):(Code.region id l.toArray true).wpIn (Fr r) m P Q a w:=by
  refine wpIn_region_any hm (yW hL (by simpa using hd) _ _ _ _ (tD (m0:=m0) _ _ _ _ ?_))
  unfold DW at h
  rw [BH] at h
  refine wpG.mono (w:=w) (by simpa using h) (.inl ⟨?_,(Below.refl _ w).drew⟩)
  simp only [List.size_toArray]
  rcases Nat.lt_or_ge m0 l.length with h' | h'
  · simp [h']
  · simp [Array.getElem?_eq_none (show (Array.replicate l.length false).size≤m0 by simpa using h')]
end Go.Fz
