/-
Part 8 of a proof: what the texts KBidsSpec show, of the model and of the program.
-/
import Derived.Test.YtfffbdmdllgalaaGreatDoorA7
import Derived.Test.YtfffbdmdllgalaaGreatDoorCards
import Derived.Test.YtfffbdmdllgalaaGreatDoorTie
set_option maxHeartbeats 1000000
namespace Go.Proofs.YtfffbdmdllgalaaGreatDoor
open Go Go.RowKit Go.Fz Go.ChangeShapes Go.WideShapes
theorem adO:Tryz.prog.mainIs=some (true,"7702a74b62e7af1919b9c4a402151fe4bb3f2ce75d068c321079ddd807a14d4f".toList):=by kernel_rfl
theorem XZ:true=Tryz.prog.looks []:=by kernel_rfl
set_option maxRecDepth 100000 in
theorem BB (os:Os) (started:os.Started) (H:Type) (en:TypeId × Value→H):ReturnsInHanded {} Tryz.checked os 3 .any (fun w args=>(Rows.bidsSpecSpec.pre en Tryz.prog Tryz.f3 [] false w args∧laidMetH Tryz.prog CO w)∧sizedMet en Tryz.prog Tryz.f3 (OpenSpec.ofChange Rows.bidsSpecSpec) false w args) (Rows.bidsSpecSpec.post en Tryz.prog Tryz.f3 false true false false):=by
  refine UR (C:=Tryz.checked) (laid:=CO) (G:=Glb) (fn:=Tryz.f3) (ts:=[34,35,36,37,3]) (tb:=4) ag0 K3 Tryz.underlying4 (fun w h hs=>adM h hs) started Tryz.func3 (by rw [Tryz.params3]) (by kernel_rfl) rfl (by kernel_rfl) ?_ ?_ ?_ ?_
  · intro t ht
    have hall:([34,35,36,37,3].all fun u=>Tryz.prog.readableRec u&&decide (u<Tryz.prog.types.size))=true:=by kernel_rfl
    have h:=List.all_eq_true.1 hall t ht
    rw [Bool.and_eq_true] at h
    exact ⟨h.1,of_decide_eq_true h.2⟩
  · intro ds h
    match ds,h with
    | [d0,d1,d2,d3,d4],_=>rfl
  · exact ChangeSpec.witness_shaped (enc:=en) (C:=Tryz.checked) (os:=os) (X:=fun w _=>laidMetH Tryz.prog CO w) false (World.doorLaid Tryz.prog 400 os) #[.agg #[.string ⟨#[]⟩,.slice none 0 0,.slice none 0 0,.slice none 0 0,.slice none 0 0,.slice none 0 0,.slice none 0 0,.slice none 0 0,.int .i64 0,.int .i64 0,.int .i64 0,.int .i64 0,.slice none 0 0,.slice none 0 0,.slice none 0 0],.slice none 0 0,.slice none 0 0,.slice none 0 0,.int .i64 0] 8 rfl (World.shaped_of_RefB (by kernel_rfl) (by kernel_rfl)) (by kernel_rfl) (by kernel_rfl) (by kernel_rfl) (RE os _)
  · intro W b vs ds p hA hok hw hG
    obtain ⟨v0,vs0,d0,ds0,p0,q0,rfl,rfl,rfl,t0,hA⟩:=trodAll_cons hA
    obtain ⟨v1,vs1,d1,ds1,p1,q1,rfl,rfl,rfl,t1,hA⟩:=trodAll_cons hA
    obtain ⟨v2,vs2,d2,ds2,p2,q2,rfl,rfl,rfl,t2,hA⟩:=trodAll_cons hA
    obtain ⟨v3,vs3,d3,ds3,p3,q3,rfl,rfl,rfl,t3,hA⟩:=trodAll_cons hA
    obtain ⟨v4,vs4,d4,ds4,p4,q4,rfl,rfl,rfl,t4,hA⟩:=trodAll_cons hA
    obtain ⟨rfl,rfl,rfl⟩:=trodAll_nil hA
    obtain ⟨x0,rfl,a0⟩:=adN afE Tryz.underlying34 (hok 0 34 v0 rfl rfl) t0 (fun n hn=>hw n (List.mem_append_left _ hn))
    obtain ⟨x1,e1,a1⟩:=K4 afG Tryz.underlying35 rfl (hok 1 35 v1 rfl rfl) t1 (fun n hn=>hw n (List.mem_append_right _ (List.mem_append_left _ hn)))
    obtain rfl:=(List.cons.inj e1).1
    obtain ⟨x2,e2,a2⟩:=K4 afI Tryz.underlying36 rfl (hok 2 36 v2 rfl rfl) t2 (fun n hn=>hw n (List.mem_append_right _ (List.mem_append_right _ (List.mem_append_left _ hn))))
    obtain rfl:=(List.cons.inj e2).1
    obtain ⟨x3,e3,a3⟩:=K4 afK Tryz.underlying37 rfl (hok 3 37 v3 rfl rfl) t3 (fun n hn=>hw n (List.mem_append_right _ (List.mem_append_right _ (List.mem_append_right _ (List.mem_append_left _ hn)))))
    obtain rfl:=(List.cons.inj e3).1
    obtain ⟨x4,e4,a4⟩:=K4 oW Tryz.underlying3 rfl (hok 4 3 v4 rfl rfl) t4 (fun n hn=>hw n (List.mem_append_right _ (List.mem_append_right _ (List.mem_append_right _ (List.mem_append_right _ (List.mem_append_left _ hn))))))
    obtain rfl:=(List.cons.inj e4).1
    exact afZ x0 x1.a x1.l x1.c x2.a x2.l x2.c x3.a x3.l x3.c x4 W hG a0 a1.row a2.row a3.row
theorem HF:Rows.bidsSpecRow.wf (OpenSpec.ofChange Rows.bidsSpecSpec)=true:=by kernel_rfl
theorem HG:Tryz.f3.params.all (Tryz.prog.readableRec ·)=true:=by kernel_rfl
theorem HH:namedTie Tryz.prog Rows.bidsSpecRow.named Rows.bidsSpecSpec.vars=true:=by kernel_rfl
theorem HI:(Rows.bidsSpecRow.stops==[])=true:=by kernel_rfl
theorem HJ:(Rows.bidsSpecRow.knobs==[])=true:=by kernel_rfl
theorem HK:(Rows.bidsSpecRow.inPlace==Tryz.prog.inPlace 3)=true:=by kernel_rfl
theorem EL:(Rows.bidsSpecRow.unfollowed==Tryz.prog.unfollowed 3)=true:=by kernel_rfl
theorem EM:(Rows.bidsSpecRow.recurses==Tryz.prog.recurses 3)=true:=by kernel_rfl
theorem EN:(Rows.bidsSpecRow.named==Tryz.prog.varsNamed 3)=true:=by kernel_rfl
theorem EO:(Rows.bidsSpecRow.maps==(Tryz.f3.params.toList++Rows.bidsSpecSpec.plain.varTypes Tryz.prog).any (Tryz.prog.mapsRec ·))=true:=by kernel_rfl
theorem EP:(Rows.bidsSpecRow.ifaces==(Tryz.f3.params.toList++Rows.bidsSpecSpec.plain.varTypes Tryz.prog).any (Tryz.prog.ifacesRec ·))=true:=by kernel_rfl
theorem EQ:(Rows.bidsSpecRow.mapsOut==Tryz.prog.mapsAmong Tryz.f3.resultTypes.toList)=true:=by kernel_rfl
theorem ER:(Rows.bidsSpecRow.loops==(Tryz.f3.params.toList++Rows.bidsSpecSpec.plain.varTypes Tryz.prog).any (Tryz.prog.loopsFrom ·))=true:=by kernel_rfl
theorem ES:(Rows.bidsSpecRow.wideKeys==(Tryz.f3.params.toList++Rows.bidsSpecSpec.plain.varTypes Tryz.prog++Tryz.f3.resultTypes.toList).any (Tryz.prog.wideKeysFrom ·))=true:=by kernel_rfl
theorem ET:Rows.bidsSpecSpec.vars.all (Tryz.prog.varReadable ·)=true:=by kernel_rfl
theorem EU:Tryz.f3.resultTypes.all (fun t=>Tryz.prog.readableRec t&&decide (t<Tryz.prog.types.size))=true:=by kernel_rfl
theorem EV:(Rows.bidsSpecRow.ifacesOut==Tryz.f3.resultTypes.toList.any (Tryz.prog.ifacesRec ·))=true:=by kernel_rfl
theorem EW:(Rows.bidsSpecRow.loopsOut==Tryz.f3.resultTypes.toList.any (Tryz.prog.loopsFrom ·))=true:=by kernel_rfl
theorem EX:(Rows.bidsSpecRow.plainKeys==Tryz.prog.plainKeys)=true:=by kernel_rfl
theorem EY:Rows.bidsSpecRow.shortTexts.isNone=true:=by kernel_rfl
theorem EZ:(Rows.bidsSpecRow.lifted==Tryz.prog.liftsFinal)=true:=by rw [XX]; rfl
theorem E5:(Tryz.prog.make==some Rows.bidsSpecRow.make)=true:=by rw [adH]; rfl
theorem E6:(Rows.bidsSpecRow.kinds==(if Rows.bidsSpecRow.domain.isEmpty then [] else Tryz.f3.params.toList.map fun t=>match Tryz.prog.underlying t with | some (.int k)=>some k | _=>none))=true:=by kernel_rfl
theorem E7:(Rows.bidsSpecRow.pinned==Rows.bidsSpecRow.pinnedBy)=true:=by kernel_rfl
theorem E8:(Rows.bidsSpecRow.veiled==(Tryz.f3.params.toList++Rows.bidsSpecSpec.plain.varTypes Tryz.prog++Tryz.f3.resultTypes.toList).any (Tryz.prog.veiledRec ·))=true:=by kernel_rfl
theorem E9:Rows.bidsSpecRow.veiledFits Tryz.prog Tryz.f3.params.toList (Tryz.f3.params.toList++Rows.bidsSpecSpec.plain.varTypes Tryz.prog++Tryz.f3.resultTypes.toList)=true:=by kernel_rfl
set_option maxRecDepth 10000 in
theorem xP:joinedFacts Tryz.prog 3 Tryz.f3 Rows.bidsSpecSpec Rows.bidsSpecRow=true:=by
  simp only [joinedFacts,Bool.and_eq_true]
  exact ⟨⟨⟨⟨⟨⟨⟨⟨⟨⟨⟨⟨⟨⟨⟨⟨⟨⟨⟨⟨⟨⟨⟨⟨⟨⟨⟨⟨⟨⟨⟨HF,K3⟩,adE⟩,HG⟩,HH⟩,HI⟩,XS⟩,HJ⟩,XT⟩,HK⟩,EL⟩,EM⟩,EN⟩,EO⟩,EP⟩,EQ⟩,ER⟩,ES⟩,ET⟩,EU⟩,EV⟩,EW⟩,EX⟩,EY⟩,XU⟩,XW⟩,EZ⟩,E5⟩,E6⟩,E7⟩,E8⟩,E9⟩
theorem rU:Tryz.prog.funcNamed "fasti/fastilaw42.BidsSpec"=some 3:=by kernel_rfl
theorem AS:Rows.BidsSpecSaid :=
  OpenClaim.holds_of_wide 3 Tryz.f3 rfl rfl rfl rfl rfl rfl rfl ⟨rfl,rfl,rfl,rfl,rfl⟩ rfl rfl rfl rfl rfl rU Tryz.func3 xP
    (of_decide_eq_true (by kernel_rfl)) (by unfold Func.isWrapper; first | (rw [if_pos (by decide +kernel)]; kernel_rfl) | (rw [if_neg (by decide +kernel)]; exact ⟨rfl,rfl⟩))
    (fun os started H en _=>BB os started H en)
theorem FA:Rows.bidsSpecRow.wfByText (OpenSpec.ofChange Rows.bidsSpecSpec)=true:=by kernel_rfl
theorem BC:false=Rows.bidsSpecRow.goesBy Tryz.prog:=by kernel_rfl
theorem wT:([34,35,36,37,3].all fun u => !Tryz.prog.wantsStandIn u)=true:=by kernel_rfl
theorem bidsSpec_card:Rows.BidsSpecCardSaid :=
  Claim7.holds_tied_plain_at .later [] [.widerDeep] true (true,"7702a74b62e7af1919b9c4a402151fe4bb3f2ce75d068c321079ddd807a14d4f") true
    AS (fun _ h=>by cases h) FA (fun _ h=>by cases h) bidsSpec_row_tie rfl ⟨rfl,rfl⟩ adO rfl
    (fun f fn hf hfn=>by
      obtain rfl:f=3:=Option.some.inj (rU.symm.trans hf) |>.symm
      obtain rfl:fn=Tryz.f3:=(Option.some.inj (Tryz.func3.symm.trans hfn)).symm
      exact ⟨XZ,fun j t ht=>by
        rw [Tryz.params3] at ht
        have hm:t∈[34,35,36,37,3]:=by simpa using Array.mem_of_getElem? ht
        have h:=List.all_eq_true.1 wT t hm
        exact (show Tryz.prog.wantsStandIn t=false from by cases hb:Tryz.prog.wantsStandIn t with | false=>rfl | true=>rw [hb] at h; cases h)⟩)
    BC
end Go.Proofs.YtfffbdmdllgalaaGreatDoor
