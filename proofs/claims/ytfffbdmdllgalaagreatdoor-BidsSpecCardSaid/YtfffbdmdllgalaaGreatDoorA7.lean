/-
Part 7 of a proof: what the texts R3 show, of the model and of the program.
-/
import Derived.Test.YtfffbdmdllgalaaGreatDoorA6
import Derived.Test.YtfffbdmdllgalaaGreatDoorRows
import Derived.Shelf.Vars
import Derived.HandedShaped
import Derived.ProofKit
import Derived.LaidMore
import Derived.OpenShut
import Derived.Carry
import Derived.Stop.Joined
import Derived.ChangeSame
set_option maxHeartbeats 1000000
namespace Go.Proofs.YtfffbdmdllgalaaGreatDoor
open Go Go.RowKit Go.Fz Go.ChangeShapes Go.WideShapes
set_option maxRecDepth 100000
abbrev CO:List (String × DataW Unit):=[("fasti/days.lengths",Rows.laid_fasti_days_lengths)]
theorem ag0:ownKnob Tryz.prog.godebug=none:=by kernel_rfl
theorem K3:laidOutB Tryz.prog=true:=by kernel_rfl
theorem adE:mapsRowed Tryz.prog=true:=by kernel_rfl
theorem XS:(Tryz.prog.stops==[])=true:=by kernel_rfl
theorem XT:(Tryz.prog.stopKnobs==[])=true:=by kernel_rfl
theorem XU:Tryz.prog.stopsHeard=true:=by kernel_rfl
theorem adF:(behindMainWord (wordsSigns Tryz.prog.initOrder.toList)).head?=some "cut".toList:=by kernel_rfl
theorem XV:Tryz.prog.laysLater=false:=by kernel_rfl
theorem Q8:Tryz.prog.bearsReflect=false:=by kernel_rfl
theorem adG:Tryz.prog.doorFits []=true:=by kernel_rfl
theorem Q9 (rest:List (List Char)):stripLifts liftWords ("cut".toList::rest)=([],"cut".toList::rest):=by simp [stripLifts,liftWords]
theorem RA:∃ rest,behindMainWord (wordsSigns Tryz.prog.initOrder.toList)= "cut".toList::rest:=by
  have h1:=adF
  cases hb:behindMainWord (wordsSigns Tryz.prog.initOrder.toList) with
  | nil=>rw [hb] at h1; cases h1
  | cons c r=>rw [hb] at h1; exact ⟨r,by rw [Option.some.inj h1]⟩
section head
variable {P:Program} {rest:List (List Char)} (h:behindMainWord (wordsSigns P.initOrder.toList)= "cut".toList::rest)
include h
theorem RB (hd:P.doorFits []=true) (hl:P.laysLater=false) (hr:P.bearsReflect=false):P.mayEnter=true:=by
  unfold Program.mayEnter
  rw [h]
  simp only [Q9,hd,hl,hr]
  rw [Bool.or_eq_true]
  exact .inr rfl
theorem RC:P.headLifts=[]:=by
  unfold Program.headLifts
  rw [h,Q9]
  rfl
theorem RD:P.liftsFinal=false:=by
  unfold Program.liftsFinal
  rw [h,RC h]
  rfl
theorem UO:P.make=some .cut:=by
  unfold Program.make
  rw [h]
  rfl
end head
theorem XW:Tryz.prog.mayEnter=true:=RB RA.choose_spec adG XV Q8
theorem XX:Tryz.prog.liftsFinal=false:=RD RA.choose_spec
theorem adH:Tryz.prog.make=some .cut:=UO RA.choose_spec
theorem adI:Tryz.prog.globalNamed "fasti/days.lengths"=some 0:=by kernel_rfl
theorem adJ:(Tryz.prog.globals[0]?).map (·.type)=some 282:=by kernel_rfl
theorem adK:Tryz.prog.cellsOf 3=1:=by kernel_rfl
theorem adL {H:Type}:(Rows.laid_fasti_days_lengths:DataW H)=.agg (fK.map fun n=>.lit (.int .i64 n)):=rfl
theorem UP {W:World} (h:laidMetH Tryz.prog CO W):Row W (some ⟨0,0,none⟩) 1 iO fK:=by
  rw [MakeChecks.laidMetH_plain _ _ _ (by kernel_rfl)] at h
  obtain ⟨ps,⟨g0,t0,cs0,f0,p0,q0,hg0,ht0,hv0,hd0,_,_⟩,_,_⟩:=h
  obtain rfl:=Option.some.inj (adI.symm.trans hg0)
  obtain rfl:=Option.some.inj (adJ.symm.trans ht0)
  rw [adL] at hd0
  obtain ⟨xs,m1,rfl,hx1,hlen,hn,hel⟩:=DataW.trod_array Tryz.underlying282 hd0
  simp only [Prod.mk.injEq,DataW.agg.injEq] at hx1
  refine ⟨fun _=>⟨_,rfl,rfl⟩,fun i x j v hx hv=>?_,by decide⟩
  have hi:i<12:=(List.getElem?_eq_some_iff.1 hx).1
  have hj:j=0:=by
    have:=(List.getElem?_eq_some_iff.1 hv).1
    simp at this; exact this
  subst hj
  simp only [List.getElem?_cons_zero,Option.some.injEq] at hv
  subst hv
  have h1:=hel i hi
  rw [adK] at h1
  have h2:(xs.map (·.1))[i]?=some (.lit (.int .i64 x)):=by rw [← hx1.1,List.getElem?_map,hx]; rfl
  rw [List.getElem?_map] at h2
  cases hy:xs[i]? with
  | none=>rw [hy] at h2; cases h2
  | some y =>
    rw [hy] at h1 h2
    simp only [Option.map_some,Option.some.injEq] at h2
    obtain ⟨k,e1,e2,_⟩:=DataW.trod_int Tryz.underlying3 h1
    rw [e2] at h2
    simp only [DataW.lit.injEq,Lit.int.injEq,true_and] at h2
    subst h2
    have h3:=World.var?_cell hg0 hv0 i
    have h4:cs0.toList[i]?=some (.int .i64 k):=by
      have:(cs0.toList.drop (i*1)).take 1=[.int .i64 k]:=e1
      have h5:((cs0.toList.drop (i*1)).take 1)[0]?=some (.int .i64 k):=by rw [this]; rfl
      rw [List.getElem?_take_of_lt (by omega),List.getElem?_drop] at h5
      simpa using h5
    have h6:cs0[i]?=some (.int .i64 k):=by simpa using h4
    rw [h6] at h3
    simpa [kK] using h3
theorem adM {W:World} (h:laidMetH Tryz.prog CO W) (hs:W.ShapedOpen Tryz.prog):Glb W :=
  ⟨Go.Proofs.cell_of_shapedOpen_int (zero:=#[.int .i64 0]) (t:=3) hs (of_decide_eq_true (by kernel_rfl)) (by kernel_rfl) rfl (by kernel_rfl) (by kernel_rfl) Tryz.underlying3,UP h⟩
theorem RE (os:Os) (args:Array Value):laidMetH Tryz.prog CO ((World.doorLaid Tryz.prog 400 os).forCall (fun _ _=>0) ⟨#[],args,[]⟩).memory :=
  laidMetH_of_parts3 (fuel:=8) (laidMet_of_run' 8 (by kernel_rfl) (by kernel_rfl)) (by kernel_rfl) (by kernel_rfl)
end Go.Proofs.YtfffbdmdllgalaaGreatDoor
namespace Go.Fz
open Go Go.RowKit Go.ChangeShapes Go.WideShapes
section lift
variable {H:Type} {en:TypeId × Value→H} {P:Program}
theorem sZ (hl:laidOutB P=true) {W W':World} (hb:Below W.heap.size W W') {sp:Nat→Bool}:∀ {ts:List TypeId} {vs:List Value} {ds:List (DataW H)} {p:List MemPlace},DataW.TrodAll en P W 0 (fun _=>true) true ts vs ds p →
    (∀ t∈ts,P.readableRec t=true∧t<P.types.size)→(∀ x∈p,x.block<W.heap.size)→(∀ x∈p,sp x.block=true)→DataW.TrodAll en P W' 0 sp true ts vs ds p
  | [],_,_,_,h,_,_,_=>by
    obtain ⟨rfl,rfl,rfl⟩:=trodAll_nil h
    exact trodAll_mk0
  | t::ts,_,_,_,h,ht,hlt,hsp=>by
    obtain ⟨v,vs1,d,ds1,a,b,rfl,rfl,rfl,h1,h2⟩:=trodAll_cons h
    have h3:=ht t List.mem_cons_self
    exact ⟨a,b,WideElems.Trod_stays hl h3.1 h3.2 h1 (fun x hx=>hb.same (hlt x (List.mem_append_left _ hx))) (fun x hx=>hsp x (List.mem_append_left _ hx)),
      sZ hl hb h2 (fun u hu=>ht u (List.mem_cons_of_mem _ hu)) (fun x hx=>hlt x (List.mem_append_right _ hx)) (fun x hx=>hsp x (List.mem_append_right _ hx)),rfl⟩
theorem xJ {W:World}:∀ {ts:List TypeId} {vs:List Value} {ds:List (DataW H)} {p:List MemPlace},DataW.TrodAll en P W 0 (fun _=>true) true ts vs ds p→ds.length=ts.length
  | [],_,_,_,h=>by obtain ⟨_,rfl,_⟩:=trodAll_nil h; rfl
  | t::ts,_,_,_,h=>by
    obtain ⟨v,vs1,d,ds1,a,b,rfl,rfl,rfl,_,h2⟩:=trodAll_cons h
    simp [xJ h2]
theorem UQ {f:Func} {s:ChangeSpec} {W W':World} {args:Array Value} {ds gs:List (DataW H)} {before:List MemPlace} {tb:TypeId} (hl:laidOutB P=true) (hbo:P.underlying tb=some .bool) (hv:s.vars=[]) (hr:f.resultTypes=#[tb])
    (ht:∀ t∈f.params.toList,P.readableRec t=true∧t<P.types.size)
    (hW:DataW.Whole en P f.params.toList s.vars false W args.toList ds gs before) (hfn:s.fn H (ds++gs)={ results:=[.lit (.bool true)],args:=ds })
    (hb:Below W.heap.size W W'):s.post en P f false true false false W args (.bool true) W':=by
  have hlt:∀ p∈before,p.block<W.heap.size:=fun p hp=>hW.lt p hp
  have hw0:=hW
  obtain ⟨p,q,hA,hV,rfl,hz,hn⟩:=hW
  rw [hv] at hV
  obtain ⟨rfl,rfl⟩:=trodVars_none hV
  have hA':∀ sp:Nat→Bool,(∀ x∈p++[],sp x.block=true)→DataW.TrodAll en P W' 0 sp true f.params.toList args.toList ds p:=fun sp hsp =>
    sZ hl hb hA ht (fun x hx=>hlt x (List.mem_append_left _ hx)) (fun x hx=>hsp x (List.mem_append_left _ hx))
  have hold:∀ x∈p++[],(fun b=>decide (b<W.heap.size)) x.block=true:=fun x hx=>by simpa using hlt x hx
  have hres:∀ (b:Nat) (sp:Nat→Bool) (hd:Bool),DataW.TrodAll en P W' b sp hd f.resultTypes.toList ((Value.bool true).resultList f.resultTypes.size) [.lit (.bool true)] []:=fun b sp hd=>by
    rw [hr]; exact trodAll_mk1 (shut_bool hbo true)
  refine ⟨ds,[],p++[],[],p,[],hw0,?_,?_,?_,World.keptBut_mono (fun x hx=>⟨hx,?_⟩) (hb.frame (·∈p++[])),fun hg=>(by cases hg)⟩
  · rw [hfn]; exact hres _ _ _
  · rw [hfn]; exact hA' _ hold
  · rw [hfn,hv]; exact rfl
  · exact .inr (.inl (by simpa using hx))
theorem UR {C:Checked} {laid:List (String × DataW Unit)} {G:World→Prop} {os:Os} {f:FuncId} {fn:Func} {s:ChangeSpec} {tb:TypeId} (own:ownKnob C.prog.godebug=none) (hl:laidOutB C.prog=true) (hbo:C.prog.underlying tb=some .bool)
    (hG:∀ w,laidMetH C.prog laid w→w.ShapedOpen C.prog→G w) (started:os.Started) (hfn:C.prog.funcs[f]?=some fn) {ts:List TypeId} (hp:fn.params.toList=ts) (noInit:C.prog.inits.idxOf? f=none) (hv:s.vars=[]) (hr:fn.resultTypes=#[tb])
    (ht:∀ t∈ts,C.prog.readableRec t=true∧t<C.prog.types.size)
    (hs:∀ ds:List (DataW H),ds.length=ts.length→s.fn H ds={ results:=[.lit (.bool true)],args:=ds })
    (witness:∃ (w:World) (tape:Tape) (i:Input),w.os=os∧(w.forCall tape i).Shaped C.prog∧i.vars=[]∧Input.okWide C.prog (w.forCall tape i) .any w.heap.size f i ∧
      ((s.pre en C.prog fn [] false (w.forCall tape i).memory i.args∧laidMetH C.prog laid (w.forCall tape i).memory)∧sizedMet en C.prog fn (OpenSpec.ofChange s) false (w.forCall tape i).memory i.args)∧({}:Assume).holds C.prog (lone (Frame.enter C.prog f i.args .normal) [] (w.forCall tape i)))
    (contract:∀ (W:World) (b:Nat) (vs:List Value) (ds:List (DataW H)) (p:List MemPlace),DataW.TrodAll en C.prog W 0 (fun _=>true) true ts vs ds p→(∀ (j:Nat) (t:TypeId) (v:Value),ts[j]?=some t→vs[j]?=some v→Value.okWide C.prog W .any b t v)→(∀ n∈DataW.weightsEach C.prog ts ds,n≤reachBytes)→G W →
      Calls C.prog f vs.toArray W (eB (Bo true) W)) :
    ReturnsInHanded {} C os f .any (fun w args=>(s.pre en C.prog fn [] false w args∧laidMetH C.prog laid w)∧sizedMet en C.prog fn (OpenSpec.ofChange s) false w args) (s.post en C.prog fn false true false false):=by
  refine returnsInHanded_of_calls own started noInit witness ?_
  intro w tape i _ hsh _ hok hpre hholds
  subst hp
  obtain ⟨_,_,_,fn',hfn',_,_,_,_,hval⟩:=hok
  obtain rfl:fn=fn':=Option.some.inj (hfn.symm.trans hfn')
  obtain ⟨⟨⟨ds,gs,before,hw,hc⟩,hx⟩,hz⟩:=hpre
  have hw':=DataW.Whole.of_heap (w':=w.forCall tape i) (by rfl) hw
  have hx':laidMetH C.prog laid (w.forCall tape i):=by
    refine laidMetH.of_heap ?_ hx
    rfl
  have hwt:=hz.weights hw
  have hW:=hw'
  obtain ⟨p,q,hA,hV,rfl,hfz,hn⟩:=hw'
  have hV':=hV
  rw [hv] at hV'
  obtain ⟨rfl,rfl⟩:=trodVars_none hV'
  have e0:(OpenSpec.ofChange s).bare.plain.varTypes C.prog=[]:=by
    simp [DataSpec.varTypes,ChangeSpec.plain,OpenSpec.bare,OpenSpec.ofChange,hv]
  rw [e0,List.append_nil,List.append_nil] at hwt
  have hwt':∀ n∈DataW.weightsEach C.prog fn.params.toList ds,n≤reachBytes:=fun n hn=>by
    simpa using List.all_eq_true.1 hwt n hn
  have hcon:=contract (w.forCall tape i) _ i.args.toList ds p hA (fun j t v h1 h2=>hval j t v (by simpa using h1) (by simpa using h2)) hwt' (hG _ hx' hsh)
  rw [Array.toArray_toList] at hcon
  refine hcon.mono fun e W' ⟨he,hb⟩=>?_
  subst he
  exact ChangeSpec.post_blind (UQ hl hbo hv hr ht hW (by rw [List.append_nil]; exact hs ds (xJ hA)) hb)
variable {α:Type} {enc:α→List Value} {At:World→α→Prop} {W:World} {v:Value} {d:DataW H} {p:List MemPlace} {t:TypeId} {b:Nat}
theorem XY {td:TypeDesc} (hu:P.underlying t=some td) (hf:TypeDesc.flat td=true) (h:Value.okWide P W .any b t v):v.cells.toList=[v]:=by
  cases v <;> first | rfl | (exfalso; cases td <;> simp_all [Value.okWide,Cell.okWide,Cell.ok,TypeDesc.flat])
theorem K4 {td:TypeDesc} (R:Rd P t enc At) (hu:P.underlying t=some td) (hf:TypeDesc.flat td=true) (hok:Value.okWide P W .any b t v) (hT:DataW.Trod en P W 0 (fun _=>true) true t v d p) (hw:∀ n∈d.weights P t,n≤reachBytes):∃ x,[v]=enc x∧At W x:=by
  obtain ⟨fuel,h⟩:=hT
  rw [XY hu hf hok] at h
  exact R.rd h hw
theorem adN {fs:Array Field} (R:Rd P t enc At) (hu:P.underlying t=some (.struct fs)) (hok:Value.okWide P W .any b t v) (hT:DataW.Trod en P W 0 (fun _=>true) true t v d p) (hw:∀ n∈d.weights P t,n≤reachBytes):∃ x,v=.agg (enc x).toArray∧At W x:=by
  obtain ⟨fuel,h⟩:=hT
  simp only [Value.okWide,hu] at hok
  obtain ⟨cs,rfl,_⟩:=hok
  obtain ⟨x,h1,h2⟩:=R.rd h hw
  exact ⟨x,by rw [← h1]; rfl,h2⟩
end lift
end Go.Fz
