/-
Part 1 of a proof: what the texts C1, C2, C3, C4, C5, C6, C7, C8, C9, C10, C11, C12, C13, C14, C15, C16, C17, C18, C19, C20, C21, C22, C23, C24, C25 show, of the model and of the program.
-/
import Derived.Deep.Quiet
import Derived.Below
import Derived.Laws.AppendOwn
import Derived.Laws.Small
import Derived.Laws.Strings
import Derived.Laws.StructEq
import Derived.Orders
import Derived.Carry
import Derived.MapKept
import Derived.RangeFuncRecord
import Derived.OrdersIn
import Derived.TacticsIn
import Derived.Recover
import Derived.Laws.OwnMore
set_option maxHeartbeats 1000000
theorem List.Sublist.ck {α : Type} {l m : List α} (a : α) (h : l.Sublist m) : (a :: l).Sublist (a :: m) := .cons_cons a h
namespace Go.Fz
open Go Go.RowKit
structure d9 where
  slot:Nat
  path:List (Nat × Bool)
  val:Value
def kJ:List d9→Nat→Option d9
  | [],_=>none
  | e::E,t=>bif Nat.beq e.slot t then some e else kJ E t
theorem BD {E:List d9} {t:Nat} {e:d9} (h:kJ E t=some e):e.slot=t:=by
  induction E with
  | nil=>simp [kJ] at h
  | cons x E ih =>
    simp only [kJ] at h
    cases hb:Nat.beq x.slot t with
    | true=>rw [hb] at h; simp at h; subst h; exact Nat.eq_of_beq_eq_true hb
    | false=>rw [hb] at h; exact ih h
theorem FC {E:List d9} {t:Nat} {e:d9} (h:kJ E t=some e):e∈E:=by
  induction E with
  | nil=>simp [kJ] at h
  | cons x E ih =>
    simp only [kJ] at h
    cases hb:Nat.beq x.slot t with
    | true=>rw [hb] at h; simp at h; subst h; exact List.mem_cons_self
    | false=>rw [hb] at h; exact List.mem_cons_of_mem _ (ih h)
def nE (E:List d9) (p:Nat × Bool):Bool:=match kJ E p.1 with | some ⟨_,_,.bool b⟩=>b==p.2 | _=>false
def fZ (E:List d9) (p:List (Nat × Bool)):Bool:=p.all (nE E)
structure Fits (n:Nat) (a:Act) (E:List d9):Prop where
  size:n≤a.tmps.size
  at':∀ t e,kJ E t=some e→a.tmps[t]?=some (if fZ E e.path then e.val else undef)
def NB (x:Nat × Bool):List (Nat × Bool)→Bool
  | []=>false
  | y::l=>bif (Nat.beq x.1 y.1&&(x.2==y.2)) then true else NB x l
theorem NC {x:Nat × Bool} {l:List (Nat × Bool)} (h:NB x l=true):x∈l:=by
  induction l with
  | nil=>simp [NB] at h
  | cons y l ih =>
    simp only [NB] at h
    cases hb:(Nat.beq x.1 y.1&&(x.2==y.2)) with
    | true =>
      simp only [Bool.and_eq_true,beq_iff_eq] at hb
      have:x=y:=Prod.ext (Nat.eq_of_beq_eq_true hb.1) hb.2
      subst this; exact List.mem_cons_self
    | false=>rw [hb] at h; exact List.mem_cons_of_mem _ (ih h)
def K5 (q p:List (Nat × Bool)):Bool:=q.all fun x=>NB x p
theorem CP {E:List d9} {q p:List (Nat × Bool)} (h:K5 q p=true) (hp:fZ E p=true):fZ E q=true:=by
  simp only [fZ,K5,List.all_eq_true] at *
  exact fun x hx=>hp x (NC (h x hx))
def rd (E:List d9) (p:List (Nat × Bool)):Operand→Option Value
  | .tmp t=>match kJ E t with
    | some e=>bif K5 e.path p then some e.val else none
    | none=>none
  | .const v=>some v
  | .global g=>some (.pointer (some ⟨g,0,none⟩))
  | .func f=>some (.func (.func f) #[] #[])
theorem tY {n:Nat} {a:Act} {E:List d9} {p:List (Nat × Bool)} (hF:Fits n a E) (hp:fZ E p=true) {x:Operand} {v:Value} (h:rd E p x=some v):a.eval x=v:=by
  cases x with
  | tmp t =>
    simp only [rd] at h
    cases hf:kJ E t with
    | none=>rw [hf] at h; simp at h
    | some e =>
      rw [hf] at h
      simp only at h
      cases hs:K5 e.path p with
      | false=>rw [hs] at h; simp at h
      | true =>
        rw [hs] at h
        simp at h
        have:=hF.at' t e hf
        rw [if_pos (CP hs hp)] at this
        simp [Act.eval,this,h]
  | const v=>simpa [rd,Act.eval] using h
  | global g=>simpa [rd,Act.eval] using h
  | func f=>simpa [rd,Act.eval] using h
def US (E:List d9) (d:Nat):Bool:=E.all fun e=>e.path.all fun x => !Nat.beq x.1 d
def put (E:List d9) (d:Nat) (p:List (Nat × Bool)) (v:Value):List d9:=⟨d,p,v⟩::E
theorem AU (E:List d9) (d:Nat) (p:List (Nat × Bool)) (v:Value):kJ (put E d p v) d=some ⟨d,p,v⟩:=by
  simp [put,kJ]
theorem q7 (E:List d9) {d t:Nat} (p:List (Nat × Bool)) (v:Value) (h:d≠t):kJ (put E d p v) t=kJ E t:=by
  simp only [put,kJ]
  have:Nat.beq d t=false:=by
    cases hb:Nat.beq d t with
    | false=>rfl
    | true=>exact absurd (Nat.eq_of_beq_eq_true hb) h
  rw [this]; rfl
theorem FD {E:List d9} {d:Nat} {p q:List (Nat × Bool)} {v:Value} (h:q.all (fun x => !Nat.beq x.1 d)=true):fZ (put E d p v) q=fZ E q:=by
  simp only [fZ]
  rw [Bool.eq_iff_iff,List.all_eq_true,List.all_eq_true]
  have key:∀ x∈q,nE (put E d p v) x=nE E x:=fun x hx=>by
    have h1:=List.all_eq_true.1 h x hx
    have:d≠x.1:=fun e=>by subst e; simp at h1
    simp only [nE,q7 E p v this]
  exact ⟨fun H x hx=>(key x hx) ▸ H x hx,fun H x hx=>(key x hx).symm ▸ H x hx⟩
theorem Fits.put {n:Nat} {a:Act} {E:List d9} (hF:Fits n a E) {d:Nat} {p:List (Nat × Bool)} {v u:Value} (hd:d<n) (hc:US E d=true)
    (hp:p.all (fun x => !Nat.beq x.1 d)=true) (hu:u=if fZ E p then v else undef):Fits n (a.put (some d) u) (Fz.put E d p v):=by
  refine ⟨by simpa [Act.put] using hF.size,fun t e he=>?_⟩
  have hlt:d<a.tmps.size:=Nat.lt_of_lt_of_le hd hF.size
  by_cases h:d=t
  · subst h
    rw [AU] at he
    simp only [Option.some.injEq] at he
    subst he
    simp only [FD hp,Act.put]
    rw [Array.getElem?_setIfInBounds_self_of_lt hlt,hu]
  · rw [q7 E p v h] at he
    have hce:=List.all_eq_true.1 hc e (FC he)
    rw [FD hce]
    simp only [Act.put]
    rw [Array.getElem?_setIfInBounds_ne h]
    exact hF.at' t e he
theorem Fits.defers {n:Nat} {a:Act} {E:List d9} (hF:Fits n a E) (ds:List Deferred):Fits n { a with defers:=ds } E:=⟨hF.size,hF.at'⟩
def keep (E:List d9):List Nat→Option (List d9)
  | []=>some []
  | t::ts=>match kJ E t with
    | some ⟨_,[],v⟩=>match keep E ts with
      | some l=>some (⟨t,[],v⟩::l)
      | none=>none
    | _=>none
theorem K6 {E:List d9}:∀ {ts:List Nat} {E':List d9},keep E ts=some E'→∀ t e,kJ E' t=some e→e.path=[]∧kJ E t=some e:=by
  intro ts
  induction ts with
  | nil=>intro E' h t e he; simp [keep] at h; subst h; simp [kJ] at he
  | cons x ts ih =>
    intro E' h t e he
    simp only [keep] at h
    split at h
    · rename_i s v hx
      split at h
      · rename_i l hl
        simp only [Option.some.injEq] at h
        subst h
        simp only [kJ] at he
        cases hb:Nat.beq x t with
        | true =>
          rw [hb] at he
          simp only [cond_true,Option.some.injEq] at he
          have hxt:=Nat.eq_of_beq_eq_true hb
          subst hxt; subst he
          have:=BD hx
          simp only at this
          subst this
          exact ⟨rfl,hx⟩
        | false=>rw [hb] at he; exact ih hl t e he
      · cases h
    · cases h
theorem Fits.keep {n:Nat} {a:Act} {E E':List d9} (hF:Fits n a E) {ts:List Nat} (h:Fz.keep E ts=some E'):Fits n a E':=by
  refine ⟨hF.size,fun t e he=>?_⟩
  obtain ⟨h1,h2⟩:=K6 h t e he
  have:=hF.at' t e h2
  rw [h1] at this ⊢
  simpa [fZ] using this
def q8 (P:Program) (wb:World) (s:Sem Next) (v:Value):Prop :=
  ∀ w,Below wb.heap.size wb w→Oper.quietUpon P (fun w'=>Below w.heap.size w w') w v (s.run P w)
theorem nF {P:Program} {C D:World→Prop} {w:World} {v:Value} (h:∀ w',C w'→D w'):∀ {r:Result Next},Oper.quietUpon P C w v r→Oper.quietUpon P D w v r
  | .ok (.value u) w',hq=>hq
  | .ok .skip w',hq=>hq
  | .ok (.enter f args) w',hq=>⟨hq.1,hq.2.mono fun e w'' he=>⟨he.1,h _ he.2⟩⟩
  | .ok (.row _ _) w',hq=>hq.elim
  | .ok (.defer _) w',hq=>hq.elim
  | .halt _ _,hq=>hq.elim
def Yv (P:Program) (wb:World) (s:Sem Value) (v:Value):Prop:=∀ w,Below wb.heap.size wb w→s.run P w=.ok v w
def Enters (P:Program) (k:Nat):Prop:=∀ args w,(callFunc k args).run P w=.ok (.enter k args) w
def Yc (P:Program) (wb:World) (k:Nat) (args:List Value) (v:Value):Prop:=q8 P wb (callFunc k args.toArray) v
theorem Yv.q {P:Program} {wb:World} {s:Sem Value} {v:Value} (h:Yv P wb s v):q8 P wb (do pure (.value (← s))) v:=fun w hw=>by
  simp [h w hw,Oper.quietUpon]
def xQ (E:List d9) (p:List (Nat × Bool)):List Operand→Option (List Value)
  | []=>some []
  | x::xs=>match rd E p x with
    | some v=>match xQ E p xs with
      | some l=>some (v::l)
      | none=>none
    | none=>none
theorem q9 {n:Nat} {a:Act} {E:List d9} {p:List (Nat × Bool)} (hF:Fits n a E) (hp:fZ E p=true):∀ {xs:List Operand} {l:List Value},xQ E p xs=some l→xs.map a.eval=l
  | [],l,h=>by simp [xQ] at h; subst h; rfl
  | x::xs,l,h=>by
    simp only [xQ] at h
    split at h
    · rename_i v hv
      split at h
      · rename_i l' hl
        simp only [Option.some.injEq] at h
        subst h
        simp [tY hF hp hv,q9 hF hp hl]
      · cases h
    · cases h
def dO (P:Program) (w:World) (E:List d9) (p:List (Nat × Bool)) (o:Oper):Option (Option Value × (Value→Prop)) :=
  let r:=rd E p
  let pure' (v:Value):Option (Option Value × (Value→Prop)):=some (some v,fun _=>True)
  let need (φ:Value→Prop):Option (Option Value × (Value→Prop)):=some (none,φ)
  match o.op with
  | .move x=>match r x with | some v=>pure' v | none=>none
  | .assign x=>match r x with | some v=>pure' v | none=>none
  | .pick c x y=>match c with
    | .tmp t=>match r (.tmp t) with
      | some (.bool β)=>match rd E (p++[(t,true)]) x,rd E (p++[(t,false)]) y with
        | some (.bool u),some (.bool v)=>match x,y with
          | .const _,.const _=>none
          | .const _,_=>(match u with | true=>pure' (.bool (β||v)) | false=>none)
          | _,.const _=>(match v with | false=>pure' (.bool (β&&u)) | true=>none)
          | _,_=>none
        | _,_=>none
      | _=>none
    | _=>none
  | .nilCheck x=>match r x with
    | some (.pointer (some a))=>pure' (.pointer (some a))
    | some (.func (.func f) fi ca)=>pure' (.func (.func f) fi ca)
    | _=>none
  | .unOp u _ x=>match r x with
    | some (.bool b)=>(match u with | .not=>pure' (.bool !b) | _=>none)
    | some v=>need (Yv P w (Op.unary u v))
    | none=>none
  | .extract x i=>match r x with
    | some (.tuple vs)=>match vs.toList[i]? with | some v=>pure' v | none=>none
    | _=>none
  | .makeFunc fn fi ca=>match xQ E p fi.toList,xQ E p ca.toList with
    | some l,some m=>pure' (.func fn l.toArray m.toArray)
    | _,_=>none
  | .binOp op t x y _=>match r x,r y with
    | some (.int .i64 a),some (.int .i64 b)=>match op with
      | .lss=>pure' (.bool (decide (a<b)))
      | .leq=>pure' (.bool (decide (a≤b)))
      | .gtr=>pure' (.bool (decide (a>b)))
      | .geq=>pure' (.bool (decide (a≥b)))
      | .eql=>pure' (.bool (a==b))
      | .neq=>pure' (.bool (a != b))
      | .add=>need fun v=>Value.int .i64 (IntKind.i64.wrap (a+b))=v
      | .sub=>need fun v=>Value.int .i64 (IntKind.i64.wrap (a-b))=v
      | .mul=>need fun v=>Value.int .i64 (IntKind.i64.wrap (a*b))=v
      | op=>need (Yv P w (binOp op t (.int .i64 a) (.int .i64 b)))
    | some (.int .u8 a),some (.int .u8 b)=>match op with
      | .lss=>pure' (.bool (decide (a<b)))
      | .leq=>pure' (.bool (decide (a≤b)))
      | .gtr=>pure' (.bool (decide (a>b)))
      | .geq=>pure' (.bool (decide (a≥b)))
      | .eql=>pure' (.bool (a==b))
      | .neq=>pure' (.bool (a != b))
      | op=>need (Yv P w (binOp op t (.int .u8 a) (.int .u8 b)))
    | some (.string a),some (.string b)=>match op with
      | .eql=>need fun v=>Value.bool (a.toList==b.toList)=v
      | .neq=>need fun v=>Value.bool (!(a.toList==b.toList))=v
      | op=>need (Yv P w (binOp op t (.string a) (.string b)))
    | some a,some b=>need (Yv P w (do eqGuard op t x y a b; binOp op t a b))
    | _,_=>none
  | .load t x=>match r x with | some a=>need (Yv P w (Instr.loadAt t a)) | none=>none
  | .fieldAddr s x f=>match r x with | some a=>need (Yv P w (Instr.fieldAt s a f)) | none=>none
  | .field t x f=>match r x with | some a=>need (Yv P w (Instr.field t a f)) | none=>none
  | .indexAddr t x i=>match r x,r i with | some a,some b=>need (Yv P w (Instr.indexAt t a b)) | _,_=>none
  | .index t x i=>match r x,r i with | some a,some b=>need (Yv P w (Instr.index t a b)) | _,_=>none
  | .lookup t x i ok=>match r x,r i with | some a,some b=>need (Yv P w (Instr.lookup t a b ok)) | _,_=>none
  | .slice t x none none none=>match r x with | some a=>need (Yv P w (Instr.sliceAt t a none none none)) | none=>none
  | .slice t x (some l) none none=>match r x,r l with | some a,some b=>need (Yv P w (Instr.sliceAt t a (some b) none none)) | _,_=>none
  | .slice t x none (some h) none=>match r x,r h with | some a,some b=>need (Yv P w (Instr.sliceAt t a none (some b) none)) | _,_=>none
  | .slice t x (some l) (some h) none=>match r x,r l,r h with | some a,some b,some c=>need (Yv P w (Instr.sliceAt t a (some b) (some c) none)) | _,_,_=>none
  | .slice t x (some l) (some h) (some m)=>match r x,r l,r h,r m with | some a,some b,some c,some d=>need (Yv P w (Instr.sliceAt t a (some b) (some c) (some d))) | _,_,_,_=>none
  | .build t parts=>match xQ E p (parts.toList.map (·.2)) with
    | some l=>need (Yv P w (Instr.build t ((parts.toList.map (·.1)).zip l).toArray))
    | none=>none
  | .makeInterface t x=>match r x with | some a=>need (Yv P w (Instr.makeInterface t a)) | none=>none
  | .convert s d x=>match r x with | some a=>need (Yv P w (convert s d a)) | none=>none
  | .typeAssert x xt as ok=>match r x with | some a=>need (Yv P w (Instr.typeAssert a xt as ok)) | none=>none
  | .call c=>match c.callee with
    | .builtin .len=>match xQ E p c.args.toList with | some l=>need (Yv P w (Builtin.len_ c.argTypes o.type l.toArray)) | none=>none
    | .builtin .min=>match xQ E p c.args.toList with | some l=>need (Yv P w (Builtin.min_ c.argTypes o.type l.toArray)) | none=>none
    | .builtin .max=>match xQ E p c.args.toList with | some l=>need (Yv P w (Builtin.max_ c.argTypes o.type l.toArray)) | none=>none
    | .value f=>match r f with
      | some (.func (.func k) fi ca)=>match xQ E p c.args.toList with
        | some l=>need (Yc P w k (fi.toList++l++ca.toList))
        | none=>none
      | _=>none
    | _=>none
  | _=>none
theorem xR {P:Program} {wb:World} (v:Value):q8 P wb (pure (.value v)) v:=fun w _=>by simp [Oper.quietUpon]
theorem FE {P:Program} {wb:World} {s:Sem Value} {v u:Value} (h:∀ w,s.run P w=.ok v w) (e:v=u):q8 P wb (do pure (.value (← s))) u:=fun w _=>by
  subst e
  simp [h w,Oper.quietUpon]
theorem bJ {α β:Type} {a a':α} {b b':β} (h:some (a,b)=some (a',b')):a=a'∧b=b':=by
  simpa using h
theorem UT {x v:Value} {q:Prop} (h:some x=some v∨((some x:Option Value)=none∧q)):x=v:=by simpa using h
theorem iJ {v:Value} {q:Prop} (h:(none:Option Value)=some v∨((none:Option Value)=none∧q)):q:=by simpa using h
theorem lE {P:Program} {wb:World} {n:Nat} {a:Act} {E:List d9} {p:List (Nat × Bool)} {o:Oper} {ov:Option Value} {φ:Value→Prop}
    (hF:Fits n a E) (hp:fZ E p=true) (h:dO P wb E p o=some (ov,φ)):∀ v,(ov=some v∨(ov=none∧φ v))→q8 P wb (execOp a.eval o) v:=by
  intro v hv
  have R:∀ {x:Operand} {u:Value},rd E p x=some u→a.eval x=u:=fun hx=>tY hF hp hx
  have RL:∀ {xs:List Operand} {l:List Value},xQ E p xs=some l→xs.map a.eval=l:=fun hx=>q9 hF hp hx
  obtain ⟨dst,op,ty,pos,after,guard⟩:=o
  cases op
  case move x =>
    simp only [dO] at h
    split at h
    · rename_i u hu
      obtain ⟨h1,h2⟩:=bJ h
      subst h1
      obtain rfl:u=v:=by simpa using hv
      simp only [execOp,R hu]
      exact xR _
    · cases h
  case assign x =>
    simp only [dO] at h
    split at h
    · rename_i u hu
      obtain ⟨h1,h2⟩:=bJ h
      subst h1
      obtain rfl:u=v:=by simpa using hv
      simp only [execOp,R hu]
      exact xR _
    · cases h
  case pick c x y =>
    simp only [dO] at h
    split at h
    · rename_i t
      split at h
      · rename_i β hβ
        have ec:=R hβ
        have hx:∀ {u:Value},rd E (p++[(t,true)]) x=some u→β=true→a.eval x=u:=fun hu hb=>by
          refine tY hF ?_ hu
          have hfind:nE E (t,true)=true:=by
            simp only [rd] at hβ
            simp only [nE]
            split at hβ
            · rename_i e he
              rw [he]
              cases hs:K5 e.path p with
              | false=>rw [hs] at hβ; simp at hβ
              | true =>
                rw [hs] at hβ
                simp at hβ
                obtain ⟨sl,pa,va⟩:=e
                simp only at hβ
                subst hβ
                simpa using hb
            · cases hβ
          simp only [fZ,List.all_append,List.all_cons,List.all_nil,Bool.and_true,Bool.and_eq_true]
          exact ⟨hp,hfind⟩
        have hy:∀ {u:Value},rd E (p++[(t,false)]) y=some u→β=false→a.eval y=u:=fun hu hb=>by
          refine tY hF ?_ hu
          have hfind:nE E (t,false)=true:=by
            simp only [rd] at hβ
            simp only [nE]
            split at hβ
            · rename_i e he
              rw [he]
              cases hs:K5 e.path p with
              | false=>rw [hs] at hβ; simp at hβ
              | true =>
                rw [hs] at hβ
                simp at hβ
                obtain ⟨sl,pa,va⟩:=e
                simp only at hβ
                subst hβ
                simpa using hb
            · cases hβ
          simp only [fZ,List.all_append,List.all_cons,List.all_nil,Bool.and_true,Bool.and_eq_true]
          exact ⟨hp,hfind⟩
        split at h
        · rename_i u v' hu hv'
          have key:∀ r,(β=true→r=u)→(β=false→r=v')→q8 P wb (execOp a.eval ⟨dst,.pick (.tmp t) x y,ty,pos,after,guard⟩) (.bool r):=fun r h1 h2=>by
            intro w hw
            simp only [execOp,ec,asBool,Sem.run_bind,Sem.run_pure,Result.andThen_ok,Oper.quietUpon]
            cases β with
            | true=>simp [hx hu rfl,h1 rfl]
            | false=>simp [hy hv' rfl,h2 rfl]
          split at h
          · cases h
          · split at h
            · obtain ⟨h1,h2⟩:=bJ h
              subst h1
              have hv2:Value.bool (β||v')=v:=by simpa using hv
              rw [← hv2]
              exact key _ (fun e=>by simp [e]) (fun e=>by simp [e])
            · cases h
          · split at h
            · obtain ⟨h1,h2⟩:=bJ h
              subst h1
              have hv2:Value.bool (β&&u)=v:=by simpa using hv
              rw [← hv2]
              exact key _ (fun e=>by simp [e]) (fun e=>by simp [e])
            · cases h
          · cases h
        · cases h
      · cases h
    · cases h
  case nilCheck x =>
    simp only [dO] at h
    split at h
    · rename_i u hu
      obtain ⟨h1,h2⟩:=bJ h
      subst h1
      obtain rfl:=(by simpa using hv:Value.pointer (some u)=v)
      simp only [execOp,R hu]
      exact xR _
    · rename_i f fi ca hu
      obtain ⟨h1,h2⟩:=bJ h
      subst h1
      obtain rfl:=(by simpa using hv:Value.func (.func f) fi ca=v)
      simp only [execOp,R hu]
      exact xR _
    · cases h
  case unOp u t x =>
    simp only [dO] at h
    split at h
    · rename_i b hb
      split at h
      · obtain ⟨h1,h2⟩:=bJ h
        subst h1
        obtain rfl:=(by simpa using hv:Value.bool (!b)=v)
        simp only [execOp,R hb]
        exact FE (fun w=>by simp [Op.unary]) rfl
      · cases h
    · rename_i u' hu
      obtain ⟨h1,h2⟩:=bJ h
      subst h1; subst h2
      have hv2:=iJ hv
      simp only [execOp,R hu]
      exact Yv.q hv2
    · cases h
  case extract x i =>
    simp only [dO] at h
    split at h
    · rename_i vs hvs
      split at h
      · rename_i u hu
        obtain ⟨h1,h2⟩:=bJ h
        subst h1
        obtain rfl:u=v:=by simpa using hv
        simp only [execOp,R hvs]
        refine FE (v:=u) (fun w=>?_) rfl
        have:vs[i]?=some u:=by simpa using hu
        simp [Instr.extract,this]
      · cases h
    · cases h
  case makeFunc fn fi ca =>
    simp only [dO] at h
    split at h
    · rename_i l m hl hm
      obtain ⟨h1,h2⟩:=bJ h
      subst h1
      obtain rfl:=(by simpa using hv:Value.func fn l.toArray m.toArray=v)
      have e1:fi.map a.eval=l.toArray:=Array.toList_inj.1 (by rw [Array.toList_map,RL hl])
      have e2:ca.map a.eval=m.toArray:=Array.toList_inj.1 (by rw [Array.toList_map,RL hm])
      simp only [execOp,e1,e2]
      exact FE (fun w=>rfl) rfl
    · cases h
  case binOp op t x y yt =>
    simp only [dO] at h
    split at h
    · rename_i k m hk hm
      split at h
      all_goals (obtain ⟨h1,h2⟩:=bJ h; subst h1; try subst h2)
      all_goals simp only [execOp,R hk,R hm]
      all_goals first
        | exact FE (fun w=>by simp [eqGuard,binOp,Op.intCmp]) (UT hv)
        | exact FE (fun w=>by simp [eqGuard,binOp,Op.intArith]) (iJ hv)
        | exact (Yv.q (s:=(do eqGuard _ t x y (.int .i64 k) (.int .i64 m); binOp _ t (.int .i64 k) (.int .i64 m))) (fun w hw=>by simpa [eqGuard] using (iJ hv) w hw))
    · rename_i k m hk hm
      split at h
      all_goals (obtain ⟨h1,h2⟩:=bJ h; subst h1; try subst h2)
      all_goals simp only [execOp,R hk,R hm]
      all_goals first
        | exact FE (fun w=>by simp [eqGuard,binOp,Op.intCmp]) (UT hv)
        | exact FE (fun w=>by simp [eqGuard,binOp,Op.intArith]) (iJ hv)
        | exact (Yv.q (s:=(do eqGuard _ t x y (.int .u8 k) (.int .u8 m); binOp _ t (.int .u8 k) (.int .u8 m))) (fun w hw=>by simpa [eqGuard] using (iJ hv) w hw))
    · rename_i k m hk hm
      split at h
      all_goals (obtain ⟨h1,h2⟩:=bJ h; subst h1; try subst h2)
      all_goals simp only [execOp,R hk,R hm]
      all_goals first
        | exact FE (fun w=>by simp [eqGuard,binOp,Op.stringOp]) (iJ hv)
        | exact (Yv.q (s:=(do eqGuard _ t x y (.string k) (.string m); binOp _ t (.string k) (.string m))) (fun w hw=>by simpa [eqGuard] using (iJ hv) w hw))
    · rename_i k m hk hm
      obtain ⟨h1,h2⟩:=bJ h
      subst h1; subst h2
      have hv2:=iJ hv
      simp only [execOp,R hk,R hm]
      exact Yv.q hv2
    · cases h
  case load t x =>
    simp only [dO] at h
    split at h
    · rename_i u hu
      obtain ⟨h1,h2⟩:=bJ h
      subst h1; subst h2
      have hv2:=iJ hv
      simp only [execOp,R hu]
      exact Yv.q hv2
    · cases h
  case fieldAddr s x f =>
    simp only [dO] at h
    split at h
    · rename_i u hu
      obtain ⟨h1,h2⟩:=bJ h
      subst h1; subst h2
      have hv2:=iJ hv
      simp only [execOp,R hu]
      exact Yv.q hv2
    · cases h
  case field t x f =>
    simp only [dO] at h
    split at h
    · rename_i u hu
      obtain ⟨h1,h2⟩:=bJ h
      subst h1; subst h2
      have hv2:=iJ hv
      simp only [execOp,R hu]
      exact Yv.q hv2
    · cases h
  case indexAddr t x i =>
    simp only [dO] at h
    split at h
    · rename_i u u' hu hu'
      obtain ⟨h1,h2⟩:=bJ h
      subst h1; subst h2
      have hv2:=iJ hv
      simp only [execOp,R hu,R hu']
      exact Yv.q hv2
    · cases h
  case index t x i =>
    simp only [dO] at h
    split at h
    · rename_i u u' hu hu'
      obtain ⟨h1,h2⟩:=bJ h
      subst h1; subst h2
      have hv2:=iJ hv
      simp only [execOp,R hu,R hu']
      exact Yv.q hv2
    · cases h
  case lookup t x i ok =>
    simp only [dO] at h
    split at h
    · rename_i u u' hu hu'
      obtain ⟨h1,h2⟩:=bJ h
      subst h1; subst h2
      have hv2:=iJ hv
      simp only [execOp,R hu,R hu']
      exact Yv.q hv2
    · cases h
  case makeInterface t x =>
    simp only [dO] at h
    split at h
    · rename_i u hu
      obtain ⟨h1,h2⟩:=bJ h
      subst h1; subst h2
      have hv2:=iJ hv
      simp only [execOp,R hu]
      exact Yv.q hv2
    · cases h
  case convert s d x =>
    simp only [dO] at h
    split at h
    · rename_i u hu
      obtain ⟨h1,h2⟩:=bJ h
      subst h1; subst h2
      have hv2:=iJ hv
      simp only [execOp,R hu]
      exact Yv.q hv2
    · cases h
  case typeAssert x xt as ok =>
    simp only [dO] at h
    split at h
    · rename_i u hu
      obtain ⟨h1,h2⟩:=bJ h
      subst h1; subst h2
      have hv2:=iJ hv
      simp only [execOp,R hu]
      exact Yv.q hv2
    · cases h
  case build t parts =>
    simp only [dO] at h
    split at h
    · rename_i l hl
      obtain ⟨h1,h2⟩:=bJ h
      subst h1; subst h2
      have hv2:=iJ hv
      have e1:parts.map (fun (i,x)=>(i,a.eval x))=((parts.toList.map (·.1)).zip l).toArray:=by
        rw [← RL hl]
        apply Array.toList_inj.1
        simp only [Array.toList_map,List.map_map]
        induction parts.toList with
        | nil=>rfl
        | cons q qs ih=>simp [ih]
      simp only [execOp,e1]
      exact Yv.q hv2
    · cases h
  case slice t x lo hi mx =>
    cases lo <;> cases hi <;> cases mx <;> simp only [dO] at h
    · split at h
      · rename_i u hu
        obtain ⟨h1,h2⟩:=bJ h
        subst h1; subst h2
        have hv2:=iJ hv
        simp only [execOp,Option.map_some,Option.map_none,R hu]
        exact Yv.q hv2
      · cases h
    · cases h
    · split at h
      · rename_i u b2 hu hb2
        obtain ⟨h1,h2⟩:=bJ h
        subst h1; subst h2
        have hv2:=iJ hv
        simp only [execOp,Option.map_some,Option.map_none,R hu,R hb2]
        exact Yv.q hv2
      · cases h
    · cases h
    · split at h
      · rename_i u b2 hu hb2
        obtain ⟨h1,h2⟩:=bJ h
        subst h1; subst h2
        have hv2:=iJ hv
        simp only [execOp,Option.map_some,Option.map_none,R hu,R hb2]
        exact Yv.q hv2
      · cases h
    · cases h
    · split at h
      · rename_i u b2 b3 hu hb2 hb3
        obtain ⟨h1,h2⟩:=bJ h
        subst h1; subst h2
        have hv2:=iJ hv
        simp only [execOp,Option.map_some,Option.map_none,R hu,R hb2,R hb3]
        exact Yv.q hv2
      · cases h
    · split at h
      · rename_i u b2 b3 b4 hu hb2 hb3 hb4
        obtain ⟨h1,h2⟩:=bJ h
        subst h1; subst h2
        have hv2:=iJ hv
        simp only [execOp,Option.map_some,Option.map_none,R hu,R hb2,R hb3,R hb4]
        exact Yv.q hv2
      · cases h
  case call c =>
    simp only [dO] at h
    split at h
    case h_1 hc =>
      split at h
      · rename_i l hl
        obtain ⟨h1,h2⟩:=bJ h
        subst h1; subst h2
        have hv2:=iJ hv
        have e1:c.args.map a.eval=l.toArray:=Array.toList_inj.1 (by rw [Array.toList_map,RL hl])
        simp only [execOp,resolve,hc,e1]
        intro w hw
        simp [invoke,builtin,hv2 w hw,Oper.quietUpon]
      · cases h
    case h_2 hc =>
      split at h
      · rename_i l hl
        obtain ⟨h1,h2⟩:=bJ h
        subst h1; subst h2
        have hv2:=iJ hv
        have e1:c.args.map a.eval=l.toArray:=Array.toList_inj.1 (by rw [Array.toList_map,RL hl])
        simp only [execOp,resolve,hc,e1]
        intro w hw
        simp [invoke,builtin,hv2 w hw,Oper.quietUpon]
      · cases h
    case h_3 hc =>
      split at h
      · rename_i l hl
        obtain ⟨h1,h2⟩:=bJ h
        subst h1; subst h2
        have hv2:=iJ hv
        have e1:c.args.map a.eval=l.toArray:=Array.toList_inj.1 (by rw [Array.toList_map,RL hl])
        simp only [execOp,resolve,hc,e1]
        intro w hw
        simp [invoke,builtin,hv2 w hw,Oper.quietUpon]
      · cases h
    case h_4 f hc =>
      split at h
      · rename_i k fi ca hk
        split at h
        · rename_i l hl
          obtain ⟨h1,h2⟩:=bJ h
          subst h1; subst h2
          have hv2:q8 P wb (callFunc k (fi.toList++l++ca.toList).toArray) v:=iJ hv
          have e1:c.args.map a.eval=l.toArray:=Array.toList_inj.1 (by rw [Array.toList_map,RL hl])
          have e2:(fi.toList++l++ca.toList).toArray=fi++l.toArray++ca:=by simp
          rw [e2] at hv2
          simp only [execOp,resolve,hc,e1,R hk,Deferred.ofValue]
          intro w hw
          simpa [invoke] using hv2 w hw
        · cases h
      · cases h
    case h_5=>cases h
  all_goals (simp only [dO] at h; cases h)
def lF (ops:Array Oper) (E:List d9) (o:Oper):Option (List (Nat × Bool)) :=
  match o.guard with
  | none=>some []
  | some (j,want)=>match ops[j]? with
    | some oj=>match oj.dst with
      | some t=>match kJ E t with
        | some e=>match e.val with
          | .bool _=>some (e.path++[(t,want)])
          | _=>none
        | none=>none
      | none=>none
    | none=>none
theorem fI {ops:Array Oper} {n:Nat} {a:Act} {E:List d9} {o:Oper} {p:List (Nat × Bool)} (hF:Fits n a E) (h:lF ops E o=some p) :
    Region.wanted o (yielded ops a.tmps)=fZ E p:=by
  unfold lF at h
  split at h
  · rename_i hg
    simp only [Option.some.injEq] at h
    subst h
    simp [Region.wanted,hg,fZ]
  · rename_i j want hg
    split at h
    · rename_i oj hj
      split at h
      · rename_i t ht
        split at h
        · rename_i e he
          split at h
          · rename_i β hβ
            simp only [Option.some.injEq] at h
            subst h
            have hs:=hF.at' t e he
            have hh:nE E (t,want)=(β==want):=by
              obtain ⟨sl,pa,va⟩:=e
              simp only at hβ
              subst hβ
              simp only [nE,he]
            have ha:fZ E (e.path++[(t,want)])=(fZ E e.path&&(β==want)):=by
              simp [fZ,List.all_append,hh]
            rw [ha]
            cases hfl:fZ E e.path with
            | true =>
              rw [hfl,if_pos rfl,hβ] at hs
              simp only [Region.wanted,hg,yielded,hj,Option.bind_some,ht,hs]
              cases β <;> cases want <;> rfl
            | false =>
              rw [hfl,if_neg (by simp)] at hs
              simp only [Region.wanted,hg,yielded,hj,Option.bind_some,ht,hs]
              rfl
          · cases h
        · cases h
      · cases h
    · cases h
def tA (E:List d9):List (Nat × Bool)→Prop→Prop
  | [],φ=>φ
  | (t,u)::p,φ=>match kJ E t with
    | some e=>match e.val with
      | .bool b=>b=u→tA E p φ
      | _=>tA E p φ
    | none=>tA E p φ
theorem tZ {E:List d9} {φ:Prop}:∀ {p:List (Nat × Bool)},tA E p φ→fZ E p=true→φ
  | [],h,_=>h
  | (t,u)::p,h,hf=>by
    simp only [fZ,List.all_cons,Bool.and_eq_true] at hf
    obtain ⟨h1,h2⟩:=hf
    simp only [tA] at h
    simp only [nE] at h1
    split at h1
    · rename_i s pa b hb
      simp only [hb] at h
      exact tZ (h (by simpa using h1)) h2
    · cases h1
def eT (n:Nat) (E:List d9) (d:Nat) (p:List (Nat × Bool)):Bool:=Nat.ble (d+1) n&&US E d&&p.all (fun x => !Nat.beq x.1 d)
def gK (P:Program) (w:World) (ops:Array Oper) (n:Nat):List Oper→List Value→List d9→Option (List d9 × Prop)
  | [],[],E=>some (E,True)
  | [],_::_,_=>none
  | o::l,hs,E=>match lF ops E o with
    | none=>none
    | some p=>match dO P w E p o with
      | none=>none
      | some (some v,_)=>match o.dst with
        | none=>gK P w ops n l hs E
        | some d=>bif eT n E d p then gK P w ops n l hs (put E d p v) else none
      | some (none,φ)=>match hs with
        | []=>none
        | v::hs=>match o.dst with
          | none=>match gK P w ops n l hs E with
            | some (E',O)=>some (E',tA E p (φ v)∧O)
            | none=>none
          | some d=>bif eT n E d p then (match gK P w ops n l hs (put E d p v) with
            | some (E',O)=>some (E',tA E p (φ v)∧O)
            | none=>none) else none
theorem Fits.step {n:Nat} {a:Act} {E:List d9} (hF:Fits n a E) {dst:Option Nat} {p:List (Nat × Bool)} {v:Value}:∀ {d:Nat},dst=some d→eT n E d p=true →
    Fits n (a.put dst (if fZ E p then v else undef)) (Fz.put E d p v):=by
  rintro d rfl hok
  simp only [eT,Bool.and_eq_true] at hok
  exact hF.put (Nat.le_of_ble_eq_true hok.1.1) hok.1.2 hok.2 rfl
theorem put_defers (a:Act) (dst:Option Nat) (v:Value):(a.put dst v).defers=a.defers:=by cases dst <;> rfl
def RM (P:Program) (ops:Array Oper) (wb:World) (Qq:Act→Prop):List Oper→Act→Prop
  | [],a=>Qq a
  | o::l,a=>∃ v,((Region.wanted o (yielded ops a.tmps)=true∧q8 P wb (execOp a.eval o) v)∨(Region.wanted o (yielded ops a.tmps)=false∧v=undef))∧RM P ops wb Qq l (a.put o.dst v)
theorem nG {P:Program} {ops:Array Oper} {wb:World} {Qq:Act→Prop}:∀ (l:List Oper) (a:Act),RM P ops wb Qq l a→wpQuiet P ops (fun w'=>Below wb.heap.size wb w') Qq l a
  | [],a,h=>h
  | o::l,a,h=>by
    obtain ⟨v,h1,h2⟩:=h
    unfold wpQuiet
    rcases h1 with ⟨hw,hq⟩ | ⟨hw,rfl⟩
    · rw [if_pos hw]
      exact ⟨v,fun w hb=>nF (fun w' h3=>hb.trans (h3.mono hb.size)) (hq w hb),nG l _ h2⟩
    · rw [if_neg (by simp [hw])]
      exact nG l _ h2
theorem t8 {P:Program} {ops:Array Oper} {wb:World} {Qq:Act→Prop} {o:Oper} {l:List Oper} {n:Nat} {a:Act} {E:List d9} {p:List (Nat × Bool)} {v:Value}
    (hF:Fits n a E) (hp:lF ops E o=some p) (hq:fZ E p=true→q8 P wb (execOp a.eval o) v)
    (h:RM P ops wb Qq l (a.put o.dst (if fZ E p then v else undef))):RM P ops wb Qq (o::l) a:=by
  unfold RM
  rw [fI hF hp]
  cases hf:fZ E p with
  | true =>
    rw [hf] at h
    simp only [if_true] at h
    exact ⟨v,.inl ⟨rfl,hq hf⟩,h⟩
  | false =>
    rw [hf] at h
    exact ⟨undef,.inr ⟨rfl,rfl⟩,by simpa using h⟩
theorem oX {P:Program} {ops:Array Oper} {wb:World} {Qq:Act→Prop} {n:Nat}:∀ (l:List Oper) (hs:List Value) (E E':List d9) (O:Prop) (a:Act),
    gK P wb ops n l hs E=some (E',O)→O→Fits n a E→(∀ a',a'.defers=a.defers→Fits n a' E'→Qq a')→RM P ops wb Qq l a
  | [],[],E,E',O,a,hev,_,hF,hn=>by
    simp only [gK,Option.some.injEq,Prod.mk.injEq] at hev
    rw [hev.1] at hF
    exact hn a rfl hF
  | [],_::_,_,_,_,_,hev,_,_,_=>by simp [gK] at hev
  | o::l,hs,E,E',O,a,hev,hO,hF,hn=>by
    simp only [gK] at hev
    split at hev
    · cases hev
    · rename_i p hp
      split at hev
      · cases hev
      · rename_i v φ hst
        have hq:fZ E p=true→q8 P wb (execOp a.eval o) v:=fun hf=>lE hF hf hst v (.inl rfl)
        split at hev
        · rename_i hd
          refine t8 hF hp hq ?_
          rw [hd]
          exact oX l hs E E' O a hev hO hF hn
        · rename_i d hd
          cases hok:eT n E d p with
          | false=>rw [hok] at hev; cases hev
          | true =>
            rw [hok] at hev
            refine t8 hF hp hq ?_
            exact oX l hs _ E' O _ hev hO (hF.step hd hok) fun a' h1 h2=>hn a' (h1.trans (put_defers _ _ _)) h2
      · rename_i φ hst
        split at hev
        · cases hev
        · rename_i v hs'
          split at hev
          · rename_i hd
            split at hev
            · rename_i E2 O2 hev2
              obtain ⟨h1,h2⟩:=bJ hev
              subst h1
              rw [← h2] at hO
              have hq:fZ E p=true→q8 P wb (execOp a.eval o) v:=fun hf=>lE hF hf hst v (.inr ⟨rfl,tZ hO.1 hf⟩)
              refine t8 hF hp hq ?_
              rw [hd]
              exact oX l hs' E E2 O2 a hev2 hO.2 hF hn
            · cases hev
          · rename_i d hd
            cases hok:eT n E d p with
            | false=>rw [hok] at hev; cases hev
            | true =>
              rw [hok] at hev
              simp only [cond_true] at hev
              split at hev
              · rename_i E2 O2 hev2
                obtain ⟨h1,h2⟩:=bJ hev
                subst h1
                rw [← h2] at hO
                have hq:fZ E p=true→q8 P wb (execOp a.eval o) v:=fun hf=>lE hF hf hst v (.inr ⟨rfl,tZ hO.1 hf⟩)
                refine t8 hF hp hq ?_
                exact oX l hs' _ E2 O2 _ hev2 hO.2 (hF.step hd hok) fun a' h1 h2=>hn a' (h1.trans (put_defers _ _ _)) h2
              · cases hev
theorem uA {P:Program} {ops:Array Oper} {wb:World} {Qq:Act→Prop} {n:Nat} (l:List Oper) (hs:List Value) (E E':List d9) (O:Prop) (a:Act)
    (hev:gK P wb ops n l hs E=some (E',O)) (hO:O) (hF:Fits n a E) (hn:∀ a',a'.defers=a.defers→Fits n a' E'→Qq a'):wpQuiet P ops (fun w'=>Below wb.heap.size wb w') Qq l a :=
  nG l a (oX l hs E E' O a hev hO hF hn)
def nH (P:Program) (w:World) (ops:Array Oper) (n:Nat) (l:List Oper) (hs:List Value) (E:List d9) (ks:List Nat):Option (List d9 × Prop) :=
  match gK P w ops n l hs E with
  | some (E',O)=>match keep E' ks with
    | some E1=>some (E1,O)
    | none=>none
  | none=>none
theorem oH {P:Program} {ops:Array Oper} {wb:World} {Qq:Act→Prop} {n:Nat} {l:List Oper} {hs:List Value} {E E1:List d9} {ks:List Nat} {O:Prop} {a:Act}
    (hF:Fits n a E) (hev:nH P wb ops n l hs E ks=some (E1,O)) (hO:O) (hn:∀ a',a'.defers=a.defers→Fits n a' E1→Qq a'):wpQuiet P ops (fun w'=>Below wb.heap.size wb w') Qq l a:=by
  simp only [nH] at hev
  split at hev
  · rename_i E' O' hev2
    split at hev
    · rename_i E1' hk
      obtain ⟨h1,h2⟩:=bJ hev
      subst h1; subst h2
      exact uA l hs E E' O' a hev2 hO hF fun a' h1 h2=>hn a' h1 (h2.keep hk)
    · cases hev
  · cases hev
theorem kO {P:Program} {ops:Array Oper} {C:World→Prop} {Qq:Act→Prop} {Q:Exit→Act→World→Prop} {rest:List Oper}:∀ (l:List Oper) (a:Act) (w:World),C w →
    wpQuiet P ops C Qq l a→(∀ a' w',C w'→Qq a'→wpList P ops Q rest a' w')→wpList P ops Q (l++rest) a w
  | [],a,w,hw,h,hn=>hn a w hw h
  | o::l,a,w,hw,h,hn=>by
    simp only [List.cons_append,wpList]
    simp only [wpQuiet] at h
    split
    · rename_i hwant
      rw [if_pos hwant] at h
      exact .inl (Oper.wp_of_quiet hw (fun a' w' hw' hk=>kO l a' w' hw' hk hn) h)
    · rename_i hwant
      rw [if_neg hwant] at h
      exact kO l _ w hw h hn
theorem K7 {P:Program} {ops:Array Oper} {wb:World} {Qq:Act→Prop} {n:Nat} {l:List Oper} {hs:List Value} {E E1:List d9} {ks:List Nat} {O:Prop} {a:Act}
    (hF:Fits n a E) (hev:nH P wb ops n l hs E ks=some (E1,O)) (hO:O) (hn:∀ a',a'.defers=a.defers→Fits n a' E1→Qq a'):RM P ops wb Qq l a:=by
  simp only [nH] at hev
  split at hev
  · rename_i E' O' hev2
    split at hev
    · rename_i E1' hk
      obtain ⟨h1,h2⟩:=bJ hev
      subst h1; subst h2
      exact oX l hs E E' O' a hev2 hO hF fun a' h1 h2=>hn a' h1 (h2.keep hk)
    · cases hev
  · cases hev
def WL (P:Program) (l:List Oper) (Q:Exit→Act→World→Prop) (k:Nat) (a:Act) (w:World):Prop:=wpList P l.toArray Q (l.drop k) a w
theorem aA {P:Program} {id:Nat} {l:List Oper} {Q:Exit→Act→World→Prop} {a:Act} {w:World} (h:WL P l Q 0 a w):(Code.region id l.toArray false).wp P Q a w :=
  wp_region_lit h
theorem WL.quiet {P:Program} {l:List Oper} {Q:Exit→Act→World→Prop} {a:Act} {w:World} {n:Nat} {hs:List Value} {E E1:List d9} {ks:List Nat} {O:Prop} (k m:Nat)
    (hF:Fits n a E) (hev:nH P w l.toArray n ((l.drop k).take m) hs E ks=some (E1,O)) (hO:O)
    (next:∀ a' w',a'.defers=a.defers→Fits n a' E1→Below w.heap.size w w'→WL P l Q (k+m) a' w'):WL P l Q k a w:=by
  have hsplit:l.drop k=(l.drop k).take m++l.drop (k+m):=by rw [← List.drop_drop,List.take_append_drop]
  unfold WL
  rw [hsplit]
  exact kO _ a w (Below.refl _ _) (oH hF hev hO (Qq:=fun a'=>a'.defers=a.defers∧Fits n a' E1) fun a' h1 h2=>⟨h1,h2⟩) fun a' w' hw' hq=>next a' w' hq.1 hq.2 hw'
theorem WL.done {P:Program} {l:List Oper} {Q:Exit→Act→World→Prop} {a:Act} {w:World} {k:Nat} (hk:Nat.ble l.length k=true) (h:Q .normal a w):WL P l Q k a w:=by
  unfold WL
  rw [List.drop_eq_nil_of_le (Nat.le_of_ble_eq_true hk)]
  exact h
theorem WL.loud {P:Program} {l:List Oper} {Q:Exit→Act→World→Prop} {a:Act} {w:World} {o:Oper} (k:Nat) (ho:l[k]?=some o) (hg:o.guard=none)
    (h:∀ K:Act→World→Prop,(∀ a w,WL P l Q (k+1) a w→K a w)→o.wp P a w K Q):WL P l Q k a w:=by
  unfold WL
  obtain ⟨hlt,hget⟩:=List.getElem?_eq_some_iff.1 ho
  rw [List.drop_eq_getElem_cons hlt,hget]
  exact wpList_plain hg fun K hK=>h K hK
theorem X1 {P:Program} {id:Nat} {l:List Oper} {Q:Exit→Act→World→Prop} {a:Act} {w:World} {n:Nat} {hs:List Value} {E E1:List d9} {ks:List Nat} {O:Prop}
    (hF:Fits n a E) (hev:nH P w l.toArray n l hs E ks=some (E1,O)) (hO:O)
    (next:∀ a' w',a'.defers=a.defers→Fits n a' E1→Below w.heap.size w w'→Q .normal a' w'):(Code.region id l.toArray false).wp P Q a w:=by
  refine wp_region_lit ?_
  have h0:l=l++[]:=by simp
  rw [h0]
  simp only [List.append_nil]
  have:=kO (P:=P) (ops:=l.toArray) (Q:=Q) (rest:=[]) l a w (Below.refl _ _) (oH hF hev hO (Qq:=fun a'=>a'.defers=a.defers∧Fits n a' E1) fun a' h1 h2=>⟨h1,h2⟩) fun a' w' hw' hq=>next a' w' hq.1 hq.2 hw'
  simpa using this
theorem X2 {P:Program} {id:Nat} {l:List Oper} {Q:Exit→Act→World→Prop} {a:Act} {w:World} {n:Nat} {hs:List Value} {E E1:List d9} {ks:List Nat} {O:Prop}
    (hm:P.follows .mixedOrders=true) (hB:Region.lexB .any l.toArray=true)
    (hF:Fits n a E) (hev:nH P w l.toArray n l hs E ks=some (E1,O)) (hO:O)
    (next:∀ a' w',a'.defers=a.defers→Fits n a' E1→Below w.heap.size w w'→Q .normal a' w'):(Code.region id l.toArray true).wp P Q a w:=by
  refine wp_region_quiet (C:=fun w'=>Below w.heap.size w w') hm hB (Below.refl _ w).drew ?_
  have:=oH hF hev hO (Qq:=fun a'=>∀ w',Below w.heap.size w w'→Q .normal a' w') fun a' h1 h2 w' hw'=>next a' w' h1 h2 hw'
  simpa using this
end Go.Fz
namespace Go.Fz
open Go Go.RowKit
abbrev I (n:Int):Value:=.int .i64 n
abbrev Bo (b:Bool):Value:=.bool b
abbrev Pt (b o:Nat):Value:=.pointer (some ⟨b,o,none⟩)
abbrev Pa (a:Addr):Value:=.pointer (some a)
def eB (v:Value) (w:World):Ending→World→Prop:=fun e w'=>e=.returned v∧Below w.heap.size w w'
def Scalar (P:Program) (t:TypeId):Prop:=∀ w,(isAgg t).run P w=.ok false w
structure AggT (P:Program) (t:TypeId) (sz:Nat):Prop where
  agg:∀ w,(isAgg t).run P w=.ok true w
  size:∀ w,(sizeOf t).run P w=.ok sz w
def SizeT (P:Program) (t:TypeId) (sz:Nat):Prop:=∀ w,(sizeOf t).run P w=.ok sz w
def ZeroT (P:Program) (t:TypeId) (z:Value):Prop:=∀ w,(zeroValue t).run P w=.ok z w
def eE (P:Program) (t e:TypeId):Prop:=P.underlying t=some (.slice e)
structure FieldT (P:Program) (s f off:Nat) (ft:TypeId):Prop where
  at':∃ fs fd,P.underlying s=some (.struct fs)∧fs[f]?=some fd∧fd.offset=off∧fd.type=ft
  pos:∃ sz,sz≠0∧SizeT P ft sz
theorem jS {P:Program} {t:TypeId} {d:TypeDesc} (h:P.underlying t=some d) (w:World):(underlying t).run P w=.ok d w:=run_underlying h w
def TypeDesc.flat:TypeDesc→Bool
  | .struct _=>false
  | .array _ _=>false
  | _=>true
theorem Scalar.of {P:Program} {t:TypeId} {d:TypeDesc} (h:P.underlying t=some d) (hd:TypeDesc.flat d=true):Scalar P t:=fun w=>by
  unfold isAgg
  cases d <;> first | (simp [jS h]; done) | (simp [TypeDesc.flat] at hd)
theorem SizeT.of {P:Program} {t:TypeId} {i:TypeInfo} {sz:Nat} (h:P.info? t=some i) (hs:i.size=sz):SizeT P t sz:=fun w=>by
  simp [sizeOf,typeInfo,h,hs]
theorem AggT.of {P:Program} {t:TypeId} {d:TypeDesc} {sz:Nat} (h:P.underlying t=some d) (hd:TypeDesc.flat d=false) (hs:SizeT P t sz):AggT P t sz:=⟨fun w=>by
  unfold isAgg
  cases d <;> first | (simp [jS h]; done) | (simp [TypeDesc.flat] at hd),hs⟩
theorem ZeroT.of {P:Program} {t:TypeId} {i:TypeInfo} {z:Value} (h:P.info? t=some i) (hz:i.zero=some z):ZeroT P t z:=fun w=>by
  simp [zeroValue,typeInfo,h,hz]
theorem FieldT.of {P:Program} {s f off:Nat} {ft:TypeId} {fs:Array Field} {fd:Field} {sz:Nat} (h:P.underlying s=some (.struct fs)) (h1:fs[f]?=some fd) (h2:fd.offset=off) (h3:fd.type=ft)
    (hs:SizeT P ft sz) (h0:sz≠0):FieldT P s f off ft:=⟨⟨fs,fd,h,h1,h2,h3⟩,⟨sz,h0,hs⟩⟩
theorem SizeT.of' {P:Program} {t:TypeId} {sz:Nat} (h:(P.info? t).map (·.size)=some sz):SizeT P t sz:=by
  cases hi:P.info? t with
  | none=>rw [hi] at h; cases h
  | some i=>rw [hi] at h; exact SizeT.of hi (by simpa using h)
theorem ZeroT.of' {P:Program} {t:TypeId} {z:Value} (h:(P.info? t).map (·.zero)=some (some z)):ZeroT P t z:=by
  cases hi:P.info? t with
  | none=>rw [hi] at h; cases h
  | some i=>rw [hi] at h; exact ZeroT.of hi (by simpa using h)
section ops
variable {P:Program} (w:World)
theorem Yv.intro {w:World} {s:Sem Value} {v:Value} (h:∀ w',s.run P w'=.ok v w'):Yv P w s v:=fun w' _=>h w'
theorem gW (B O off:Nat):(⟨B,O,none⟩:Addr).add off=⟨B,O+off,none⟩:=by
  unfold Addr.add; split
  · rename_i h; subst h; rfl
  · rfl
theorem fa (B O:Nat) {s f off ft:Nat} (h:FieldT P s f off ft):Yv P w (Instr.fieldAt s (Pt B O) f) (Pt B (O+off)):=by
  refine Yv.intro fun w'=>?_
  obtain ⟨⟨fs,fd,h1,h2,h3,h4⟩,sz,h5,h6⟩:=h
  subst h4
  simp [Instr.fieldAt,jS h1,h2,Instr.sureAddr,fieldPlace,h6 w',h5,gW,h3]
def kK (oa:Option Addr) (k:Nat):Addr:=⟨(oa.getD ⟨0,0,none⟩).block,(oa.getD ⟨0,0,none⟩).off+k,none⟩
theorem jZ (oa:Option Addr) (k:Nat) {s f off ft:Nat} (h:FieldT P s f off ft):Yv P w (Instr.fieldAt s (Pa (kK oa k)) f) (Pa (kK oa (k+off))):=by
  have:=fa (P:=P) w (oa.getD ⟨0,0,none⟩).block ((oa.getD ⟨0,0,none⟩).off+k) h
  simpa [kK,Nat.add_assoc] using this
theorem ln (ty:TypeId) (oa:Option Addr) (n c:Nat) {t e:TypeId} (h:eE P t e):Yv P w (Builtin.len_ #[t] ty #[.slice oa n c]) (I n) :=
  Yv.intro fun w'=>by simp [Builtin.len_,jS h,goInt]
theorem V8 (ty:TypeId) (s:ByteArray) {t:TypeId} (h:P.underlying t=some .string):Yv P w (Builtin.len_ #[t] ty #[.string s]) (I s.size) :=
  Yv.intro fun w'=>by simp [Builtin.len_,jS h,goInt]
theorem ia (oa:Option Addr) (n c k:Nat) {t e sz:Nat} (h:eE P t e) (hs:SizeT P e sz) (hk:k<n) (ha:∃ a,oa=some a∧a.spot=none) :
    Yv P w (Instr.indexAt t (.slice oa n c) (I k)) (Pa (kK oa (k*sz))):=by
  obtain ⟨a,rfl,hsp⟩:=ha
  obtain ⟨B,O,sp⟩:=a
  simp only at hsp
  subst hsp
  refine Yv.intro fun w'=>?_
  simp [Instr.indexAt,asIntOf,jS h,hs w',kK,gW,hk]
theorem UU (ats:Array TypeId) (ty:TypeId) (a b:Int):Yv P w (Builtin.min_ ats ty #[I a,I b]) (I (if b<a then b else a)) :=
  Yv.intro fun w'=>by simp [Builtin.min_,Builtin.min2]
theorem yc {k:Nat} {args:List Value} {v:Value} (he:Enters P k) (h:∀ w',Below w.heap.size w w'→Calls P k args.toArray w' (eB v w')):Yc P w k args v :=
  fun w' hw'=>by
    rw [he _ w']
    exact ⟨rfl,(h w' hw').mono fun _ _ ⟨h1,h2⟩=>⟨h1,h2⟩⟩
theorem Enters.of {k:Nat} {fn:Func} {c:Code} (h:P.funcs[k]?=some fn) (hn:(fn.name== "runtime.NumGoroutine")=false) (hb:fn.body=some c):Enters P k:=fun args w=>by
  have h1:fn.name≠ "runtime.NumGoroutine":=by simpa using hn
  simp [callFunc,h,h1,hb,mark]
theorem wr (e r:Int) (h:e=r ∧ -9223372036854775808≤r∧r≤9223372036854775807):Value.int .i64 (IntKind.i64.wrap e)=I r:=by
  obtain ⟨rfl,h1,h2⟩:=h
  congr 1
  rw [IntKind.wrap_i64]; omega
theorem yI (a b:ByteArray):Value.bool (a.toList==b.toList)=Bo (decide (a=b)):=by
  congr 1
  rw [Bool.eq_iff_iff]
  simp only [beq_iff_eq,decide_eq_true_eq]
  refine ⟨fun h=>?_,fun h=>by rw [h]⟩
  have e:∀ x:ByteArray,x.toList=x.data.toList:=fun x=>Go.ByteArray.toList_eq x
  rw [e,e] at h
  cases a; cases b
  simpa using h
theorem ND (a b:ByteArray):Value.bool (!(a.toList==b.toList))=Bo (!decide (a=b)):=by
  have:=yI a b
  simp only [Value.bool.injEq] at this
  rw [this]
theorem jL (t:TypeId) (ps:List (Nat × Value)) (v:Value) (h:∀ w,(Instr.build t ps.toArray).run P w=.ok v w):Yv P w (Instr.build t ps.toArray) v:=fun w' _=>h w'
end ops
end Go.Fz
namespace Go.Fz
open Go Go.RowKit
structure Item where
  foot:Option Nat
  ok:Option Obj→Prop
def Item.holds (it:Item) (w:World):Prop:=it.ok (it.foot.bind (fun B=>w.heap[B]?))
structure St (w0:World) (H:List Item) (w:World):Prop where
  below:Below w0.heap.size w0 w
  ok:∀ it∈H,it.holds w
  lo:∀ it∈H,∀ B,it.foot=some B→w0.heap.size≤B∧B<w.heap.size
  sep:(H.filterMap (·.foot)).Nodup
theorem St.init (w:World):St w [] w:=⟨Below.refl _ _,(fun _ h=>(by cases h)),(fun _ h=>(by cases h)),List.nodup_nil⟩
section st
variable {P:Program} {w0 w w':World} {H:List Item}
theorem St.grow (h:St w0 H w) (hb:Below w.heap.size w w'):St w0 H w':=by
  refine ⟨h.below.trans (hb.mono h.below.size),fun it hit=>?_,fun it hit B hB=>?_,h.sep⟩
  · have h1:=h.ok it hit
    unfold Item.holds at *
    cases hf:it.foot with
    | none=>rw [hf] at h1; exact h1
    | some B =>
      rw [hf] at h1
      simp only [Option.bind_some] at h1 ⊢
      rw [hb.block B (h.lo it hit B hf).2]
      exact h1
  · exact ⟨(h.lo it hit B hB).1,Nat.lt_of_lt_of_le (h.lo it hit B hB).2 hb.size⟩
theorem St.size (h:St w0 H w):w0.heap.size≤w.heap.size:=h.below.size
theorem St.new (h:St w0 H w) (o:Obj) {it:Item} (hf:it.foot=some w.heap.size) (ho:it.ok (some o)):St w0 (it::H) (w.alloc o):=by
  have hb:Below w.heap.size w (w.alloc o):=(Below.refl _ w).alloc (Nat.le_refl _) o
  have h2:=h.grow hb
  refine ⟨h2.below,fun x hx=>?_,fun x hx B hB=>?_,?_⟩
  · rcases List.mem_cons.1 hx with rfl | hx
    · unfold Item.holds
      rw [hf]
      simp only [Option.bind_some]
      rw [heap_alloc_new]
      exact ho
    · exact h2.ok x hx
  · rcases List.mem_cons.1 hx with rfl | hx
    · rw [hf] at hB
      simp only [Option.some.injEq] at hB
      subst hB
      exact ⟨h.below.size,by simp⟩
    · exact h2.lo x hx B hB
  · simp only [List.filterMap_cons,hf]
    refine List.nodup_cons.2 ⟨fun hm=>?_,h.sep⟩
    obtain ⟨x,hx,hxf⟩:=List.mem_filterMap.1 hm
    have:=(h.lo x hx _ hxf).2
    omega
theorem St.sub {H':List Item} (h:St w0 H w) (hs:H'.Sublist H):St w0 H' w :=
  ⟨h.below,fun it hit=>h.ok it (hs.subset hit),fun it hit=>h.lo it (hs.subset hit),(List.Sublist.filterMap _ hs).nodup h.sep⟩
theorem St.perm {H':List Item} (h:St w0 H w) (hs:H'.Perm H):St w0 H' w :=
  ⟨h.below,fun it hit=>h.ok it (hs.subset hit),fun it hit=>h.lo it (hs.subset hit),(hs.filterMap _).nodup_iff.2 h.sep⟩
theorem RN {k:Nat} {it it':Item} (hk:H[k]?=some it) (hf:it'.foot=it.foot):(H.set k it').filterMap (·.foot)=H.filterMap (·.foot):=by
  induction H generalizing k with
  | nil=>rfl
  | cons x H ih =>
    cases k with
    | zero=>simp only [List.getElem?_cons_zero,Option.some.injEq] at hk; subst hk; simp [List.filterMap_cons,hf]
    | succ k=>simp only [List.getElem?_cons_succ] at hk; simp [List.filterMap_cons,ih hk]
theorem K8 {k:Nat} {it x:Item} {B:Nat} (hs:(H.filterMap (·.foot)).Nodup) (hk:H[k]?=some it) (hf:it.foot=some B) {j:Nat} (hj:H[j]?=some x) (hne:j≠k):x.foot≠some B:=by
  intro hx
  induction H generalizing k j with
  | nil=>simp at hk
  | cons y H ih =>
    cases k with
    | zero =>
      simp only [List.getElem?_cons_zero,Option.some.injEq] at hk
      subst hk
      cases j with
      | zero=>exact hne rfl
      | succ j =>
        simp only [List.getElem?_cons_succ] at hj
        simp only [List.filterMap_cons,hf] at hs
        exact (List.nodup_cons.1 hs).1 (List.mem_filterMap.2 ⟨x,List.mem_of_getElem? hj,hx⟩)
    | succ k =>
      simp only [List.getElem?_cons_succ] at hk
      cases j with
      | zero =>
        simp only [List.getElem?_cons_zero,Option.some.injEq] at hj
        subst hj
        simp only [List.filterMap_cons,hx] at hs
        exact (List.nodup_cons.1 hs).1 (List.mem_filterMap.2 ⟨it,List.mem_of_getElem? hk,hf⟩)
      | succ j =>
        simp only [List.getElem?_cons_succ] at hj
        refine ih ?_ hk hj (fun e=>hne (by omega))
        simp only [List.filterMap_cons] at hs
        split at hs
        · exact hs
        · exact (List.nodup_cons.1 hs).2
theorem St.upd (h:St w0 H w) (k:Nat) {it it':Item} {B:Nat} (hk:H[k]?=some it) (hf:it.foot=some B) (hf':it'.foot=some B)
    (hos:w'.os=w.os) (htape:w'.tape=w.tape) (hout:w'.output=w.output) (hsz:w.heap.size≤w'.heap.size) (hoth:∀ j,j<w.heap.size→j≠B→w'.heap[j]?=w.heap[j]?) (ho:it'.ok (w'.heap[B]?)):St w0 (H.set k it') w':=by
  have hm:=List.mem_of_getElem? hk
  have hB:=h.lo it hm B hf
  refine ⟨h.below.trans ⟨hos,htape,hout,hsz,fun j hj=>hoth j (by have:=h.below.size; omega) (by omega)⟩,fun x hx=>?_,fun x hx C hC=>?_,by rw [RN hk (hf'.trans hf.symm)]; exact h.sep⟩
  · obtain ⟨j,hj⟩:=List.getElem?_of_mem hx
    rw [List.getElem?_set] at hj
    split at hj
    · rename_i hkj
      split at hj
      · simp only [Option.some.injEq] at hj
        subst hj
        unfold Item.holds
        rw [hf']
        exact ho
      · cases hj
    · rename_i hkj
      have hxm:=List.mem_of_getElem? hj
      have h1:=h.ok x hxm
      unfold Item.holds at *
      cases hfx:x.foot with
      | none=>rw [hfx] at h1; exact h1
      | some C =>
        rw [hfx] at h1
        simp only [Option.bind_some] at h1 ⊢
        have hne:C≠B:=fun e=>by subst e; exact K8 h.sep hk hf hj (fun e=>hkj e.symm) hfx
        rw [hoth C (h.lo x hxm C hfx).2 hne]
        exact h1
  · rcases List.mem_or_eq_of_mem_set hx with hx | rfl
    · exact ⟨(h.lo x hx C hC).1,Nat.lt_of_lt_of_le (h.lo x hx C hC).2 hsz⟩
    · rw [hf'] at hC
      simp only [Option.some.injEq] at hC
      subst hC
      exact ⟨hB.1,Nat.lt_of_lt_of_le hB.2 hsz⟩
def cI (B:Nat) (t:TypeId) (cs:List Value):Item:=⟨some B,fun o=>o=some (.cells cs.toArray t (0,0))⟩
theorem St.heap (h:St w0 H w) {k B:Nat} {t:TypeId} {cs:List Value} (hk:H[k]?=some (cI B t cs)):w.heap[B]?=some (.cells cs.toArray t (0,0)) :=
  h.ok _ (List.mem_of_getElem? hk)
theorem pO {B:Nat} {t:TypeId} {cs:List Value} (h:w.heap[B]?=some (.cells cs.toArray t (0,0))) {j:Nat} {v:Value} (hv:cs[j]?=some v):w.cell? ⟨B,j,none⟩=some v:=by
  simp [World.cell?,h,hv]
theorem AV {a:Addr} {vs:List Value}:∀ (n i:Nat) (acc:Array Value),vs.length=n→(∀ j v,vs[j]?=some v→w.cell? (a.add (i+j))=some v) →
    (loadCellsFrom a i n acc).run P w=.ok (acc++vs.toArray) w:=by
  intro n
  induction n generalizing vs with
  | zero=>intro i acc h0 _; have:=List.eq_nil_of_length_eq_zero h0; subst this; simp [loadCellsFrom]
  | succ n ih =>
    intro i acc hn hc
    cases vs with
    | nil=>simp at hn
    | cons v vs =>
      have h0:=hc 0 v rfl
      simp only [Nat.add_zero] at h0
      simp only [loadCellsFrom,Sem.run_bind,run_load,h0,Result.andThen_ok]
      rw [ih (vs:=vs) (i+1) (acc.push v) (by simpa using hn) (fun j u hu=>by have:=hc (j+1) u (by simpa using hu); rw [show i+1+j=i+(j+1) by omega]; exact this)]
      simp
theorem lX {t:TypeId} {a:Addr} {v:Value} (ht:Scalar P t) (h:w.cell? a=some v):(loadVar t a).run P w=.ok v w:=by
  simp [loadVar,ht w,h]
theorem CQ {t:TypeId} {sz:Nat} {a:Addr} {vs:List Value} (ht:AggT P t sz) (hl:vs.length=sz) (h:∀ j v,vs[j]?=some v→w.cell? (a.add j)=some v):(loadVar t a).run P w=.ok (.agg vs.toArray) w:=by
  have:=AV (P:=P) (w:=w) (a:=a) (vs:=vs) sz 0 #[] hl (fun j v hv=>by rw [Nat.zero_add]; exact h j v hv)
  simp [loadVar,ht.agg w,ht.size w,loadCells,this]
theorem St.keepCell (h:Below w.heap.size w w') {a:Addr} {v:Value} (hc:w.cell? a=some v):w'.cell? a=some v :=
  (h.cell (World.block_lt_of_cell? w a hc)).trans hc
theorem St.ld (h:St w0 H w) (t:TypeId) (k j:Nat) {B tt:Nat} {cs:List Value} {v:Value} (ht:Scalar P t) (hk:H[k]?=some (cI B tt cs)) (hv:cs[j]?=some v):Yv P w (Instr.loadAt t (Pt B j)) v:=fun w' hw'=>by
  have:=St.keepCell hw' (pO (h.heap hk) hv)
  simp [Instr.loadAt,Instr.sureAddr,lX ht this]
theorem St.lda (h:St w0 H w) (t:TypeId) (k j:Nat) {B tt sz:Nat} {cs vs:List Value} (ht:AggT P t sz) (hk:H[k]?=some (cI B tt cs)) (hv:(cs.drop j).take sz=vs) (hl:vs.length=sz):Yv P w (Instr.loadAt t (Pt B j)) (.agg vs.toArray):=fun w' hw'=>by
  have hc:∀ i v,vs[i]?=some v→w'.cell? ((⟨B,j,none⟩:Addr).add i)=some v:=fun i v hi=>by
    rw [gW]
    refine St.keepCell hw' (pO (h.heap hk) ?_)
    rw [← hv,List.getElem?_take] at hi
    split at hi
    · rw [List.getElem?_drop] at hi; exact hi
    · cases hi
  simp [Instr.loadAt,Instr.sureAddr,CQ ht hl hc]
structure Row {α:Type} (w:World) (oa:Option Addr) (sz:Nat) (enc:α→List Value) (xs:List α):Prop where
  ne:xs≠[]→∃ a,oa=some a∧a.spot=none
  cell:∀ i x j v,xs[i]?=some x→(enc x)[j]?=some v→w.cell? (kK oa (i*sz+j))=some v
  small:xs.length≤140737488355328
section row
variable {α:Type} {oa:Option Addr} {sz:Nat} {enc:α→List Value} {xs:List α}
theorem Row.grow (h:Row w oa sz enc xs) (hb:Below w.heap.size w w'):Row w' oa sz enc xs :=
  ⟨h.ne,fun i x j v hx hv=>St.keepCell hb (h.cell i x j v hx hv),h.small⟩
theorem Row.up (h:Row w0 oa sz enc xs) (hs:St w0 H w):Row w oa sz enc xs:=h.grow hs.below
theorem Row.at' (h:Row w oa sz enc xs) {k:Nat} (hk:k<xs.length):∃ a,oa=some a∧a.spot=none:=h.ne (fun e=>by subst e; simp at hk)
theorem Row.nil (w:World) (oa:Option Addr) (sz:Nat) (enc:α→List Value):Row w oa sz enc []:=⟨fun h=>(h rfl).elim,fun i x j v hx=>by simp at hx,by simp⟩
theorem iX (oa:Option Addr) (k i:Nat):(kK oa k).add i=kK oa (k+i):=by
  unfold kK; rw [gW,Nat.add_assoc]
theorem Row.ia (h:Row w oa sz enc xs) (c k:Nat) {t e:TypeId} (ht:eE P t e) (hs:SizeT P e sz) (hk:k<xs.length):Yv P w (Instr.indexAt t (.slice oa xs.length c) (I k)) (Pa (kK oa (k*sz))) :=
  Fz.ia w oa xs.length c k ht hs hk (h.at' hk)
theorem Row.ld (h:Row w oa sz enc xs) (t:TypeId) (i j:Nat) {x:α} {v:Value} (ht:Scalar P t) (hx:xs[i]?=some x) (hv:(enc x)[j]?=some v):Yv P w (Instr.loadAt t (Pa (kK oa (i*sz+j)))) v:=fun w' hw'=>by
  have:=St.keepCell hw' (h.cell i x j v hx hv)
  simp [Instr.loadAt,Instr.sureAddr,lX ht this]
theorem Row.lda (h:Row w oa sz enc xs) (t:TypeId) (i j:Nat) {x:α} {n:Nat} {vs:List Value} (ht:AggT P t n) (hx:xs[i]?=some x) (hv:((enc x).drop j).take n=vs) (hl:vs.length=n):Yv P w (Instr.loadAt t (Pa (kK oa (i*sz+j)))) (.agg vs.toArray):=fun w' hw'=>by
  have hc:∀ m v,vs[m]?=some v→w'.cell? ((kK oa (i*sz+j)).add m)=some v:=fun m v hm=>by
    rw [iX,Nat.add_assoc]
    refine St.keepCell hw' (h.cell i x (j+m) v hx ?_)
    rw [← hv,List.getElem?_take] at hm
    split at hm
    · rw [List.getElem?_drop] at hm; exact hm
    · cases hm
  simp [Instr.loadAt,Instr.sureAddr,CQ ht hl hc]
end row
section loud
variable {l:List Oper} {Q:Exit→Act→World→Prop} {a:Act} {n:Nat} {E:List d9}
theorem rA (E:List d9):fZ E []=true:=rfl
theorem vL (hF:Fits n a E) {x:Operand} {v:Value} (h:rd E [] x=some v):a.eval x=v:=tY hF (rA E) h
theorem Fits.put0 (hF:Fits n a E) {d:Nat} (v:Value) (hok:eT n E d []=true):Fits n (a.put (some d) v) (Fz.put E d [] v):=by
  have:=hF.step (dst:=some d) (p:=[]) (v:=v) rfl hok
  simpa [rA] using this
theorem yJ (hst:St w0 H w) (t:TypeId) (cs:List Value):St w0 (cI w.heap.size t cs::H) (w.alloc (.cells cs.toArray t)):=hst.new _ rfl rfl
theorem WL.alloc (k:Nat) {d t ty:Nat} {pos:String} {after:Array Edge} {z:Value} (cs:List Value) (hF:Fits n a E) (hst:St w0 H w) (ho:l[k]?=some ⟨some d,.alloc t,ty,pos,after,none⟩) (hz:ZeroT P t z) (hcs:z.cells=cs.toArray)
    (hok:eT n E d []=true) (next:∀ B a' w',a'.defers=a.defers→Fits n a' (Fz.put E d [] (Pt B 0))→St w0 (cI B t cs::H) w'→Below w.heap.size w w'→WL P l Q (k+1) a' w'):WL P l Q k a w:=by
  refine WL.loud k ho rfl fun K hK=>?_
  have hrun:(execOp a.eval ⟨some d,.alloc t,ty,pos,after,none⟩).run P w=.ok (.value (Pt w.heap.size 0)) (w.alloc (.cells cs.toArray t)):=by
    simp [execOp,Instr.alloc,hz w,newVar,newRow,hcs]
  simp only [Oper.wp,hrun,Oper.upon]
  exact hK _ _ (next w.heap.size _ _ (put_defers _ _ _) (hF.put0 _ hok) (yJ hst t cs) ((Below.refl _ w).alloc (Nat.le_refl _) _))
theorem WL.box (k:Nat) {d t ty:Nat} {x:Operand} {pos:String} {after:Array Edge} {v:Value} (cs:List Value) (hF:Fits n a E) (hst:St w0 H w) (ho:l[k]?=some ⟨some d,.box t x,ty,pos,after,none⟩) (hx:rd E [] x=some v) (hcs:v.cells=cs.toArray)
    (hok:eT n E d []=true) (next:∀ B a' w',a'.defers=a.defers→Fits n a' (Fz.put E d [] (Pt B 0))→St w0 (cI B t cs::H) w'→Below w.heap.size w w'→WL P l Q (k+1) a' w'):WL P l Q k a w:=by
  refine WL.loud k ho rfl fun K hK=>?_
  have hrun:(execOp a.eval ⟨some d,.box t x,ty,pos,after,none⟩).run P w=.ok (.value (Pt w.heap.size 0)) (w.alloc (.cells cs.toArray t)):=by
    simp [execOp,Instr.box,vL hF hx,newVar,newRow,hcs]
  simp only [Oper.wp,hrun,Oper.upon]
  exact hK _ _ (next w.heap.size _ _ (put_defers _ _ _) (hF.put0 _ hok) (yJ hst t cs) ((Below.refl _ w).alloc (Nat.le_refl _) _))
theorem WL.buildSlice (k:Nat) {d t e ty m:Nat} {parts:Array (Nat × Operand)} {pos:String} {after:Array Edge} {vs:List Value} (cs:List Value) (hF:Fits n a E) (hst:St w0 H w) (ho:l[k]?=some ⟨some d,.buildSlice t m parts,ty,pos,after,none⟩)
    (hx:xQ E [] (parts.toList.map (·.2))=some vs)
    (hrun':∀ w,(Instr.buildSlice t m ((parts.toList.map (·.1)).zip vs).toArray).run P w=.ok (.slice (some ⟨w.heap.size,0,none⟩) m m) (w.alloc (.cells cs.toArray e)))
    (hok:eT n E d []=true) (next:∀ B a' w',a'.defers=a.defers→Fits n a' (Fz.put E d [] (.slice (some ⟨B,0,none⟩) m m))→St w0 (cI B e cs::H) w'→Below w.heap.size w w'→WL P l Q (k+1) a' w'):WL P l Q k a w:=by
  refine WL.loud k ho rfl fun K hK=>?_
  have e1:parts.map (fun (i,x)=>(i,a.eval x))=((parts.toList.map (·.1)).zip vs).toArray:=by
    rw [← q9 hF (rA E) hx]
    apply Array.toList_inj.1
    simp only [Array.toList_map,List.map_map]
    induction parts.toList with
    | nil=>rfl
    | cons q qs ih=>simp [ih]
  have hrun:(execOp a.eval ⟨some d,.buildSlice t m parts,ty,pos,after,none⟩).run P w=.ok (.value (.slice (some ⟨w.heap.size,0,none⟩) m m)) (w.alloc (.cells cs.toArray e)):=by
    simp only [execOp,e1,Sem.run_bind,hrun' w,Result.andThen_ok,Sem.run_pure]
  simp only [Oper.wp,hrun,Oper.upon]
  exact hK _ _ (next w.heap.size _ _ (put_defers _ _ _) (hF.put0 _ hok) (yJ hst e cs) ((Below.refl _ w).alloc (Nat.le_refl _) _))
def jP (cs:List Value) (j:Nat) (vs:List Value):List Value:=cs.take j++vs++cs.drop (j+vs.length)
theorem uB {B j:Nat} {t:TypeId} {cs:List Value} {v:Value} (h:w.heap[B]?=some (.cells cs.toArray t (0,0))):(w.setCell ⟨B,j,none⟩ v).heap[B]?=some (.cells (cs.set j v).toArray t (0,0)):=by
  simp only [World.setCell,Array.getElem?_modify,if_true,h,Option.map_some]
  simp
theorem nI {t:TypeId} {B:Nat}:∀ (vs:List Value) (cs:List Value) (j i:Nat) (w:World),w.heap[B]?=some (.cells cs.toArray t (0,0))→(∀ v∈vs,v.oneCell'=true)→j+i+vs.length≤cs.length →
    ∃ w',(storeCells ⟨B,j,none⟩ vs i).run P w=.ok () w'∧w'.heap[B]?=some (.cells (jP cs (j+i) vs).toArray t (0,0))∧w'.os=w.os∧w'.tape=w.tape∧w'.output=w.output∧w'.heap.size=w.heap.size∧∀ k,k≠B→w'.heap[k]?=w.heap[k]?
  | [],cs,j,i,w,h,_,_=>⟨w,by simp [storeCells],by simp [jP,h],rfl,rfl,rfl,rfl,fun _ _=>rfl⟩
  | v::vs,cs,j,i,w,h,h1,hl=>by
    have hlt:j+i<cs.length:=by simp at hl; omega
    have hcell:w.cell? ⟨B,j+i,none⟩=some cs[j+i]:=pO h (by simp [hlt])
    have hfr:w.frozen? ⟨B,j+i,none⟩=false:=by simp [World.frozen?,h]
    have hset:=uB (j:=j+i) (v:=v) h
    obtain ⟨w',hr,hh,ho,ht,hu,hs,hk⟩:=nI vs (cs.set (j+i) v) j (i+1) _ hset (fun u hu=>h1 u (List.mem_cons_of_mem _ hu)) (by simp at hl ⊢; omega)
    refine ⟨w',?_,?_,ho,ht,hu,hs.trans (by simp),fun k hk'=>(hk k hk').trans (Below.heap_setCell _ _ _ _ hk')⟩
    · have hone:=h1 v List.mem_cons_self
      have hst:(store ((⟨B,j,none⟩:Addr).add i) v).run P w=.ok () (w.setCell ⟨B,j+i,none⟩ v):=by
        rw [gW]
        cases v <;> first | (simp [store,Sem.run,hcell,hfr]; done) | (simp [Value.oneCell'] at hone)
      simp only [storeCells,Sem.run_bind,hst,Result.andThen_ok]
      exact hr
    · rw [hh]
      congr 3
      simp only [jP,List.length_cons]
      rw [show j+(i+1)=j+i+1 by omega,show j+i+1+vs.length=j+i+(vs.length+1) by omega]
      rw [List.take_succ_eq_append_getElem (by simpa using hlt),List.getElem_set_self,List.take_set_of_le (Nat.le_refl _)]
      rw [List.drop_set_of_lt (by omega)]
      simp
theorem WL.store (k:Nat) {t ty i j B tt:Nat} {ax vx:Operand} {pos:String} {after:Array Edge} {v:Value} {cs:List Value} (vs cs':List Value) (hF:Fits n a E) (hst:St w0 H w) (ho:l[k]?=some ⟨none,.store t ax vx,ty,pos,after,none⟩)
    (ha:rd E [] ax=some (Pt B j)) (hv:rd E [] vx=some v) (hvs:v.cells=vs.toArray) (hsz:SizeT P t vs.length) (h1:vs.all Value.oneCell'=true) (hk:H[i]?=some (cI B tt cs)) (hfit:Nat.ble (j+vs.length) cs.length=true) (hcs:jP cs j vs=cs')
    (next:∀ w',St w0 (H.set i (cI B tt cs')) w'→WL P l Q (k+1) a w'):WL P l Q k a w:=by
  refine WL.loud k ho rfl fun K hK=>?_
  subst hcs
  obtain ⟨w',hr,hh,hos,ht,hu,hs,hoth⟩:=nI (P:=P) vs cs j 0 w (hst.heap hk) (fun u hu=>List.all_eq_true.1 h1 u hu) (by have:=Nat.le_of_ble_eq_true hfit; omega)
  have hsize:v.cells.size=vs.length:=by rw [hvs]; simp
  have htl:v.cells.toList=vs:=by rw [hvs]
  have hrun:(execOp a.eval ⟨none,.store t ax vx,ty,pos,after,none⟩).run P w=.ok .skip w':=by
    simp [execOp,Instr.storeAt,Instr.sureAddr,vL hF ha,vL hF hv,storeVar,hsz w,hsize,htl,hr]
  simp only [Oper.wp,hrun,Oper.upon]
  refine hK _ _ (next w' ?_)
  exact hst.upd i hk rfl rfl hos ht hu (Nat.le_of_eq hs.symm) (fun j _ hj=>hoth j hj) hh
def putd (E:List d9):Option Nat→Value→List d9
  | none,_=>E
  | some d,v=>put E d [] v
def RF (n:Nat) (E:List d9):Option Nat→Bool
  | none=>true
  | some d=>eT n E d []
theorem Fits.putd (hF:Fits n a E) {dst:Option Nat} (v:Value) (hok:RF n E dst=true):Fits n (a.put dst v) (Fz.putd E dst v):=by
  cases dst with
  | none=>exact hF
  | some d=>exact hF.put0 v hok
theorem WL.call (k:Nat) {dst:Option Nat} {f:Operand} {args:Array Operand} {ats:Array TypeId} {ty g:Nat} {pos:String} {after:Array Edge} {fi ca:Array Value} {vs:List Value} {R:Ending→World→Prop} (hF:Fits n a E)
    (ho:l[k]?=some ⟨dst,.call ⟨.value f,args,ats⟩,ty,pos,after,none⟩) (hf:rd E [] f=some (.func (.func g) fi ca)) (hargs:xQ E [] args.toList=some vs) (hent:Enters P g) (hok:RF n E dst=true)
    (hc:Calls P g (fi.toList++vs++ca.toList).toArray w R)
    (hR:∀ e w',R e w'→match e with
      | .returned v=>∀ a',a'.defers=a.defers→Fits n a' (Fz.putd E dst v)→WL P l Q (k+1) a' w'
      | .panicked ch=>Q (.panic ch) a w'
      | .outgrown=>LetsOut Q):WL P l Q k a w:=by
  refine WL.loud k ho rfl fun K hK=>?_
  have e1:args.map a.eval=vs.toArray:=Array.toList_inj.1 (by rw [Array.toList_map,q9 hF (rA E) hargs])
  have e2:(fi.toList++vs++ca.toList).toArray=fi++vs.toArray++ca:=by simp
  rw [e2] at hc
  have hrun:(execOp a.eval ⟨dst,.call ⟨.value f,args,ats⟩,ty,pos,after,none⟩).run P w=.ok (.enter g (fi++vs.toArray++ca)) w:=by
    simp [execOp,resolve,e1,vL hF hf,Deferred.ofValue,invoke]
    exact hent _ w
  simp only [Oper.wp,hrun,Oper.upon]
  refine hc.mono fun e w' he=>?_
  have:=hR e w' he
  cases e with
  | returned v=>exact hK _ _ (this _ (put_defers _ _ _) (hF.putd v hok))
  | panicked ch=>exact this
  | outgrown=>exact this
end loud
end st
end Go.Fz
namespace Go.Fz
open Go Go.RowKit
section ctl
variable {P:Program} {Q:Exit→Act→World→Prop} {a:Act} {w:World} {n:Nat} {E:List d9}
theorem aD {K:Act→World→Prop} (h:K a w):Exit.then K Q .normal a w:=h
theorem aN {K:Act→World→Prop} (h:Q .ret a w):Exit.then K Q .ret a w:=h
theorem aY {K:Act→World→Prop} {id:Nat} (h:Q (.exit id) a w):Exit.then K Q (.exit id) a w:=h
theorem aP {K:Act→World→Prop} {c:List PanicEntry} (h:Q (.panic c) a w):Exit.then K Q (.panic c) a w:=h
theorem c9 {i:Nat} (h:Q .normal a w):Exit.inBlock i Q .normal a w:=h
theorem bP {i:Nat} (h:Q .ret a w):Exit.inBlock i Q .ret a w:=h
theorem bL {i:Nat} {c:List PanicEntry} (h:Q (.panic c) a w):Exit.inBlock i Q (.panic c) a w:=h
theorem cP {i:Nat} (h:Q .normal a w):Exit.inBlock i Q (.exit i) a w:=by simp only [Exit.inBlock,if_true]; exact h
theorem aC (h:Q .ret a w):Code.ret.wp P Q a w:=wp_ret h
theorem cO {c:Operand} {x y:Code} {b:Bool} (hF:Fits n a E) (hc:rd E [] c=some (.bool b)) (ht:b=true→x.wp P Q a w) (hf:b=false→y.wp P Q a w):(Code.cond c x y).wp P Q a w :=
  wp_cond_split (vL hF hc) ht hf
theorem aQ {c:Operand} {x y:Code} {p:Prop} {d:Decidable p} (hF:Fits n a E) (hc:rd E [] c=some (.bool (@decide p d))) (ht:p→x.wp P Q a w) (hf:¬ p→y.wp P Q a w):(Code.cond c x y).wp P Q a w :=
  cO hF hc (fun h=>ht (of_decide_eq_true h)) (fun h=>hf (of_decide_eq_false h))
theorem bA {c:Operand} {x y:Code} {i j:Int} (hF:Fits n a E) (hc:rd E [] c=some (.bool (i==j))) (ht:i=j→x.wp P Q a w) (hf:i≠j→y.wp P Q a w):(Code.cond c x y).wp P Q a w :=
  cO hF hc (fun h=>ht (by simpa using h)) (fun h=>hf (by simpa using h))
theorem jQ {c:Operand} {x y:Code} {i j:Int} (hF:Fits n a E) (hc:rd E [] c=some (.bool (i != j))) (ht:i≠j→x.wp P Q a w) (hf:i=j→y.wp P Q a w):(Code.cond c x y).wp P Q a w :=
  cO hF hc (fun h=>ht (by simpa using h)) (fun h=>hf (by simpa using h))
theorem bR {c:Operand} {x y:Code} {b:Bool} (hF:Fits n a E) (hc:rd E [] c=some (.bool (!b))) (ht:b=false→x.wp P Q a w) (hf:b=true→y.wp P Q a w):(Code.cond c x y).wp P Q a w :=
  cO hF hc (fun h=>ht (by simpa using h)) (fun h=>hf (by simpa using h))
theorem HP {c:Operand} {x y:Code} (hF:Fits n a E) (hc:rd E [] c=some (.bool true)) (ht:x.wp P Q a w):(Code.cond c x y).wp P Q a w :=
  cO hF hc (fun _=>ht) (fun h=>by cases h)
theorem CR {c:Operand} {x y:Code} (hF:Fits n a E) (hc:rd E [] c=some (.bool false)) (hf:y.wp P Q a w):(Code.cond c x y).wp P Q a w :=
  cO hF hc (fun h=>by cases h) (fun _=>hf)
theorem aO {α:Type} {c:Code} (Inv:α→Act→World→Prop) (μ:α→Nat) (x0:α) (h0:Inv x0 a w)
    (round:∀ x a w,Inv x a w→c.wp P (Exit.then (fun a' w'=>∃ y,Inv y a' w'∧μ y<μ x) Q) a w):(Code.loop c).wp P Q a w:=by
  intro b k cs
  have key:∀ m x a w,μ x=m→Inv x a w →
      ∃ e a' w',Q e a' w'∧Arrives P (lone (b.at a (.code c::.inLoop c::k)) cs w) b k cs e a' w':=by
    intro m
    induction m using Nat.strongRecOn with
    | _ m ih =>
      intro x a w hm hI
      obtain ⟨e,a₁,w₁,hq,harr⟩:=round x a w hI b (.inLoop c::k) cs
      cases e with
      | normal =>
        obtain ⟨y,hI₁,hlt⟩:=hq
        obtain ⟨e₂,a₂,w₂,hq₂,harr₂⟩:=ih (μ y) (hm ▸ hlt) y a₁ w₁ rfl hI₁
        exact ⟨e₂,a₂,w₂,hq₂,.of_steps (Steps.trans harr (.one step_inLoop)) harr₂⟩
      | exit id=>exact ⟨_,a₁,w₁,hq,.pass (x:=.inLoop c) rfl (fun _ _=>.inl (by simp)) harr⟩
      | goto l=>exact ⟨_,a₁,w₁,hq,.pass (x:=.inLoop c) rfl (fun _ _=>.inl (by simp)) harr⟩
      | ret=>exact ⟨_,a₁,w₁,hq,.pass (x:=.inLoop c) rfl (fun _ _=>.inl (by simp)) harr⟩
      | panic ch=>exact ⟨_,a₁,w₁,hq,.pass (x:=.inLoop c) rfl (fun _ _=>.inl (by simp)) harr⟩
      | outgrown=>exact ⟨_,a₁,w₁,hq,.pass (x:=.inLoop c) rfl (fun _ _=>.inl (by simp)) harr⟩
  obtain ⟨e,a',w',hq,harr⟩:=key _ x0 a w rfl h0
  exact ⟨e,a',w',hq,.of_steps (.one step_loop) harr⟩
def uC:Nat→List Value→List d9
  | _,[]=>[]
  | k,v::vs=>⟨k,[],v⟩::uC (k+1) vs
theorem pQ:∀ (vs:List Value) (k t:Nat) (e:d9),kJ (uC k vs) t=some e→k≤t∧e.path=[]∧vs[t-k]?=some e.val
  | [],k,t,e,h=>by simp [uC,kJ] at h
  | v::vs,k,t,e,h=>by
    simp only [uC,kJ] at h
    cases hb:Nat.beq k t with
    | true =>
      rw [hb] at h
      simp only [cond_true,Option.some.injEq] at h
      have:=Nat.eq_of_beq_eq_true hb
      subst this; subst h
      simp
    | false =>
      rw [hb] at h
      have hne:k≠t:=fun e=>by subst e; simp at hb
      obtain ⟨h1,h2,h3⟩:=pQ vs (k+1) t e h
      refine ⟨by omega,h2,?_⟩
      rw [show t-k=(t-(k+1))+1 by omega]
      simpa using h3
theorem FF {f:FuncId} {fn:Func} {c:Code} {args:Array Value} {R:Ending→World→Prop} (vs:List Value) (hf:P.funcs[f]?=some fn) (hb:fn.body=some c) (hn:fn.ntmps=n) (ha:args=vs.toArray) (hE:uC 0 vs=E)
    (h:∀ a,a.defers=[]→Fits n a E→c.wp P (bodyPost P fn R) a w):Calls P f args w R:=by
  refine calls_of_wp hf hb (h _ rfl ?_)
  subst ha; subst hE
  refine ⟨by simp; omega,fun t e he=>?_⟩
  obtain ⟨_,h2,h3⟩:=pQ vs 0 t e he
  rw [h2]
  simp only [Nat.sub_zero] at h3
  have hlt:t<vs.length:=(List.getElem?_eq_some_iff.1 h3).1
  simp only [fZ,List.all_nil,if_true]
  rw [Array.getElem?_append_left (by simpa using hlt)]
  simpa using h3
def qJ (P:Program) (w:World) (E:List d9):List ResultVar→List Value→Prop
  | [],[]=>True
  | .tmp t::rs,v::vs=>rd E [] (.tmp t)=some v∧qJ P w E rs vs
  | .cell at' t::rs,v::vs=>(∃ ad,rd E [] (.tmp at')=some (.pointer (some ad))∧(loadVar t ad).run P w=.ok v w)∧qJ P w E rs vs
  | _,_=>False
def n0 (vs:List Value):Value:=match vs with | [v]=>v | vs=>.tuple vs.toArray
theorem yK {f:ResultVar→Sem Value} {w:World} {E:List d9} (h1:∀ t v,rd E [] (.tmp t)=some v→(f (.tmp t)).run P w=.ok v w)
    (h2:∀ at' t ad v,rd E [] (.tmp at')=some (.pointer (some ad))→(loadVar t ad).run P w=.ok v w→(f (.cell at' t)).run P w=.ok v w):∀ (rs:List ResultVar) (vs:List Value),qJ P w E rs vs →
    (rs.mapM f).run P w=.ok vs w
  | [],[],_=>by simp
  | [],_::_,h=>by simp [qJ] at h
  | .tmp t::rs,[],h=>by simp [qJ] at h
  | .cell at' t::rs,[],h=>by simp [qJ] at h
  | .tmp t::rs,v::vs,h=>by
    have ih:=yK h1 h2 rs vs h.2
    simp only [List.mapM_cons,Sem.run_bind,h1 t v h.1,Result.andThen_ok,ih,Sem.run_pure]
  | .cell at' t::rs,v::vs,h=>by
    obtain ⟨⟨ad,h3,h4⟩,h5⟩:=h
    have ih:=yK h1 h2 rs vs h5
    simp only [List.mapM_cons,Sem.run_bind,h2 at' t ad v h3 h4,Result.andThen_ok,ih,Sem.run_pure]
theorem n5 {fn:Func} {tmps:Array Value} {w:World} {rs:List ResultVar} {vs:List Value} (hr:fn.results=rs.toArray) (hF:Fits n { tmps,defers:=[] } E) (h:qJ P w E rs vs):(results fn tmps).run P w=.ok (n0 vs) w:=by
  unfold results
  rw [hr]
  have ev:∀ t v,rd E [] (.tmp t)=some v→tmps.getD t undef=v:=fun t v ht=>vL hF ht
  rw [Sem.run_bind,List.mapM_toArray,Sem.run_map,yK (E:=E) (fun t v ht=>by simp only [ev t v ht,Sem.run_pure]) (fun at' t ad v h1 h2=>by simp only [ev at' _ h1,asAddr,Sem.run_bind,Sem.run_pure,Result.andThen_ok,h2]) rs vs h]
  simp only [Result.andThen_ok,Sem.run_pure]
  congr 1
  match vs with
  | []=>simp [n0]
  | [v]=>simp [n0]
  | _::_::_=>simp [n0]
theorem NE {fn:Func} {R:Ending→World→Prop} {rs:List ResultVar} (vs:List Value) (hr:fn.results=rs.toArray) (hd:a.defers=[]) (hF:Fits n a E) (h:qJ P w E rs vs) (hR:R (.returned (n0 vs)) w):bodyPost P fn R .ret a w :=
  ⟨hd,n0 vs,n5 (tmps:=a.tmps) hr ⟨hF.size,hF.at'⟩ h,hR⟩
theorem NF {fn:Func} {R:Ending→World→Prop} {rs:List ResultVar} (vs:List Value) (hr:fn.results=rs.toArray) (hd:a.defers=[]) (hF:Fits n a E) (h:qJ P w E rs vs) (hR:R (.returned (n0 vs)) w):bodyPost P fn R .normal a w :=
  ⟨hd,n0 vs,n5 (tmps:=a.tmps) hr ⟨hF.size,hF.at'⟩ h,hR⟩
theorem bT {fn:Func} {R:Ending→World→Prop} {c:List PanicEntry} (hd:a.defers=[]) (hR:R (.panicked c) w):bodyPost P fn R (.panic c) a w:=⟨hd,hR⟩
end ctl
end Go.Fz
namespace Go.Fz
open Go Go.RowKit
structure Sta (n:Nat) (ds:List Deferred) (w0:World) (E:List d9) (H:List Item) (a:Act) (w:World):Prop where
  f:Fits n a E
  d:a.defers=ds
  m:St w0 H w
section sta
variable {P:Program} {Q:Exit→Act→World→Prop} {a:Act} {w w0:World} {n:Nat} {E:List d9} {H:List Item} {ds:List Deferred}
theorem Sta.keep {E':List d9} (s:Sta n ds w0 E H a w) (ts:List Nat) (h:Fz.keep E ts=some E'):Sta n ds w0 E' H a w:=⟨s.f.keep h,s.d,s.m⟩
theorem Sta.sub {H':List Item} (s:Sta n ds w0 E H a w) (h:H'.Sublist H):Sta n ds w0 E H' a w:=⟨s.f,s.d,s.m.sub h⟩
theorem Sta.re {E':List d9} {H':List Item} (s:Sta n ds w0 E H a w) (h1:E=E') (h2:H=H'):Sta n ds w0 E' H' a w:=by subst h1; subst h2; exact s
theorem rq {id:Nat} {l:List Oper} {hs:List Value} {E1:List d9} {ks:List Nat} {O:Prop} (s:Sta n ds w0 E H a w) (hev:nH P w l.toArray n l hs E ks=some (E1,O)) (hO:O)
    (next:∀ a' w',Sta n ds w0 E1 H a' w'→Q .normal a' w'):(Code.region id l.toArray false).wp P Q a w :=
  X1 s.f hev hO fun a' w' h1 h2 h3=>next a' w' ⟨h2,h1.trans s.d,s.m.grow h3⟩
theorem rdr {id:Nat} {l:List Oper} {hs:List Value} {E1:List d9} {ks:List Nat} {O:Prop} (s:Sta n ds w0 E H a w) (hm:P.follows .mixedOrders=true) (hB:Region.lexB .any l.toArray=true) (hev:nH P w l.toArray n l hs E ks=some (E1,O)) (hO:O)
    (next:∀ a' w',Sta n ds w0 E1 H a' w'→Q .normal a' w'):(Code.region id l.toArray true).wp P Q a w :=
  X2 hm hB s.f hev hO fun a' w' h1 h2 h3=>next a' w' ⟨h2,h1.trans s.d,s.m.grow h3⟩
section wl
variable {l:List Oper}
theorem lq {hs:List Value} {E1:List d9} {ks:List Nat} {O:Prop} (s:Sta n ds w0 E H a w) (k m:Nat) (hev:nH P w l.toArray n ((l.drop k).take m) hs E ks=some (E1,O)) (hO:O)
    (next:∀ a' w',Sta n ds w0 E1 H a' w'→WL P l Q (k+m) a' w'):WL P l Q k a w :=
  WL.quiet k m s.f hev hO fun a' w' h1 h2 h3=>next a' w' ⟨h2,h1.trans s.d,s.m.grow h3⟩
theorem la (s:Sta n ds w0 E H a w) (k:Nat) {d t ty:Nat} {pos:String} {after:Array Edge} {z:Value} (cs:List Value) (ho:l[k]?=some ⟨some d,.alloc t,ty,pos,after,none⟩) (hz:ZeroT P t z) (hcs:z.cells=cs.toArray)
    (hok:eT n E d []=true) (next:∀ B a' w',Sta n ds w0 (put E d [] (Pt B 0)) (cI B t cs::H) a' w'→WL P l Q (k+1) a' w'):WL P l Q k a w :=
  WL.alloc k cs s.f s.m ho hz hcs hok fun B a' w' h1 h2 h3 _=>next B a' w' ⟨h2,h1.trans s.d,h3⟩
theorem lb (s:Sta n ds w0 E H a w) (k:Nat) {d t ty:Nat} {x:Operand} {pos:String} {after:Array Edge} {v:Value} (cs:List Value) (ho:l[k]?=some ⟨some d,.box t x,ty,pos,after,none⟩) (hx:rd E [] x=some v) (hcs:v.cells=cs.toArray)
    (hok:eT n E d []=true) (next:∀ B a' w',Sta n ds w0 (put E d [] (Pt B 0)) (cI B t cs::H) a' w'→WL P l Q (k+1) a' w'):WL P l Q k a w :=
  WL.box k cs s.f s.m ho hx hcs hok fun B a' w' h1 h2 h3 _=>next B a' w' ⟨h2,h1.trans s.d,h3⟩
theorem dD (s:Sta n ds w0 E H a w) (k i:Nat) {t ty j B tt:Nat} {ax vx:Operand} {pos:String} {after:Array Edge} {v:Value} {cs:List Value} (vs cs':List Value) (ho:l[k]?=some ⟨none,.store t ax vx,ty,pos,after,none⟩)
    (ha:rd E [] ax=some (Pt B j)) (hv:rd E [] vx=some v) (hvs:v.cells=vs.toArray) (hsz:SizeT P t vs.length) (h1:vs.all Value.oneCell'=true) (hk:H[i]?=some (cI B tt cs)) (hfit:Nat.ble (j+vs.length) cs.length=true) (hcs:jP cs j vs=cs')
    (next:∀ w',Sta n ds w0 E (H.set i (cI B tt cs')) a w'→WL P l Q (k+1) a w'):WL P l Q k a w :=
  WL.store k vs cs' s.f s.m ho ha hv hvs hsz h1 hk hfit hcs fun w' h1=>next w' ⟨s.f,s.d,h1⟩
theorem lc (s:Sta n ds w0 E H a w) (k:Nat) {dst:Option Nat} {f:Operand} {args:Array Operand} {ats:Array TypeId} {ty g:Nat} {pos:String} {after:Array Edge} {fi ca:Array Value} {vs:List Value} {R:Ending→World→Prop}
    (ho:l[k]?=some ⟨dst,.call ⟨.value f,args,ats⟩,ty,pos,after,none⟩) (hf:rd E [] f=some (.func (.func g) fi ca)) (hargs:xQ E [] args.toList=some vs) (hent:Enters P g) (hok:RF n E dst=true)
    (hc:Calls P g (fi.toList++vs++ca.toList).toArray w R)
    (hR:∀ e w',R e w'→match e with
      | .returned v=>∀ a',a'.defers=ds→Fits n a' (Fz.putd E dst v)→WL P l Q (k+1) a' w'
      | .panicked ch=>Q (.panic ch) a w'
      | .outgrown=>LetsOut Q):WL P l Q k a w :=
  WL.call k s.f ho hf hargs hent hok hc fun e w' he=>by
    have:=hR e w' he
    cases e with
    | returned v=>exact fun a' h1 h2=>this a' (h1.trans s.d) h2
    | panicked ch=>exact this
    | outgrown=>exact this
theorem aR {k:Nat} (hk:Nat.ble l.length k=true) (h:Q .normal a w):WL P l Q k a w:=WL.done hk h
end wl
theorem dX {f:FuncId} {fn:Func} {c:Code} {args:Array Value} {R:Ending→World→Prop} (vs:List Value) (hf:P.funcs[f]?=some fn) (hb:fn.body=some c) (hn:fn.ntmps=n) (ha:args=vs.toArray) (hE:uC 0 vs=E)
    (h:∀ a,Sta n [] w E [] a w→c.wp P (bodyPost P fn R) a w):Calls P f args w R :=
  FF vs hf hb hn ha hE fun a h1 h2=>h a ⟨h2,h1,St.init w⟩
theorem pR {fn:Func} {R:Ending→World→Prop} {rs:List ResultVar} (vs:List Value) (hr:fn.results=rs.toArray) (s:Sta n [] w0 E H a w) (h:qJ P w E rs vs) (hR:R (.returned (n0 vs)) w):bodyPost P fn R .ret a w :=
  NE vs hr s.d s.f h hR
theorem pE {fn:Func} {R:Ending→World→Prop} {rs:List ResultVar} (vs:List Value) (hr:fn.results=rs.toArray) (s:Sta n [] w0 E H a w) (h:qJ P w E rs vs) (hR:R (.returned (n0 vs)) w):bodyPost P fn R .normal a w :=
  NF vs hr s.d s.f h hR
theorem pP {fn:Func} {R:Ending→World→Prop} {c:List PanicEntry} (s:Sta n [] w0 E H a w) (hR:R (.panicked c) w):bodyPost P fn R (.panic c) a w:=bT s.d hR
theorem aW {v v':Value} (s:Sta n ds w0 E H a w) (h:v'=v):eB v w0 (.returned (n0 [v'])) w:=⟨by rw [h]; rfl,s.m.below⟩
theorem gX {v v' u u':Value} (s:Sta n ds w0 E H a w) (h1:v'=v) (h2:u'=u):eB (.tuple #[v,u]) w0 (.returned (n0 [v',u'])) w:=⟨by rw [h1,h2]; rfl,s.m.below⟩
theorem dV {t k j B tt:Nat} {cs:List Value} {v:Value} (s:Sta n ds w0 E H a w) (ht:Scalar P t) (hk:H[k]?=some (cI B tt cs)) (hv:cs[j]?=some v):(loadVar t ⟨B,j,none⟩).run P w=.ok v w :=
  lX ht (pO (s.m.heap hk) hv)
theorem bQ {t k sz B tt:Nat} {cs:List Value} (s:Sta n ds w0 E H a w) (ht:AggT P t sz) (hk:H[k]?=some (cI B tt cs)) (hl:cs.length=sz):(loadVar t ⟨B,0,none⟩).run P w=.ok (.agg cs.toArray) w :=
  CQ ht hl fun j v hv=>by rw [gW,Nat.zero_add]; exact pO (s.m.heap hk) hv
end sta
theorem cD {α:Type} {xs:List α} {k:Nat} (h:k<xs.length):∃ x,xs[k]?=some x:=⟨xs[k],List.getElem?_eq_getElem h⟩
theorem oc {p q:Prop} (h1:p) (h2:q):p∧q:=⟨h1,h2⟩
end Go.Fz
namespace Go.Fz
open Go Go.RowKit
section more
variable {P:Program} (w:World)
theorem RO (t:TypeId) (a b:Int) (hb:b≠0):Yv P w (binOp .rem t (I a) (I b)) (I (a.tmod b)) :=
  Yv.intro fun w'=>by simp [binOp,Op.intDiv,hb]
theorem adU (t:TypeId) (a b r:Int) (hb:b≠0) (h:a.tdiv b=r ∧ -9223372036854775808≤r∧r≤9223372036854775807):Yv P w (binOp .quo t (I a) (I b)) (I r) :=
  Yv.intro fun w'=>by
    have:=wr (a.tdiv b) r h
    simp [binOp,Op.intDiv,hb]
    simpa using this
def bt (s:ByteArray) (k:Nat):Int:=(s.data.toList.getD k 0).toNat
theorem six (t:TypeId) (s:ByteArray) (k:Nat) (ht:P.underlying t=some .string) (hk:k<s.size):Yv P w (Instr.index t (.string s) (I k)) (.int .u8 (bt s k)) :=
  Yv.intro fun w'=>by
    have h1:s[k]?=some s[k]:=by simp [hk]
    have e:s.data.toList.getD k 0=s[k]:=by
      have hk':k<s.data.size:=hk
      have e1:s.data[k]?=some s.data[k]:=Array.getElem?_eq_getElem hk'
      rw [List.getD_eq_getElem?_getD,Array.getElem?_toList,e1]
      rfl
    simp [Instr.index,asIntOf,jS ht,h1,bt,e,-List.getD_eq_getElem?_getD]
theorem fld (cs:List Value) {t f off ft:Nat} {v:Value} (h:FieldT P t f off ft) (hs:Scalar P ft) (hv:cs[off]?=some v):Yv P w (Instr.field t (.agg cs.toArray) f) v :=
  Yv.intro fun w'=>by
    obtain ⟨⟨fs,fd,h1,h2,h3,h4⟩,_⟩:=h
    subst h4; subst h3
    simp [Instr.field,jS h1,h2,asAgg,part,hs w',hv]
theorem eqb (t:TypeId) (x y:Operand) (a b:Bool) (h:P.underlying t=some .bool):Yv P w (do eqGuard .eql t x y (Bo a) (Bo b); binOp .eql t (Bo a) (Bo b)) (Bo (a==b)) :=
  Yv.intro fun w'=>by simp [eqGuard,binOp,Op.equal,Op.maxDepth,run_equalIn_bool w' 9999 t a b h]
theorem neb (t:TypeId) (x y:Operand) (a b:Bool) (h:P.underlying t=some .bool):Yv P w (do eqGuard .neq t x y (Bo a) (Bo b); binOp .neq t (Bo a) (Bo b)) (Bo (!(a==b))) :=
  Yv.intro fun w'=>by simp [eqGuard,binOp,Op.equal,Op.maxDepth,run_equalIn_bool w' 9999 t a b h]
end more
end Go.Fz
namespace Go.Fz
open Go Go.RowKit
theorem FG {α:Type}:∀ (l:List α) (i:Nat) (x y:α),l[i]?=some y→(l.set i x).Perm (x::l.eraseIdx i)
  | [],i,x,y,h=>by simp at h
  | a::l,0,x,y,h=>by simp
  | a::l,i+1,x,y,h=>by
    simp only [List.set_cons_succ,List.eraseIdx_cons_succ]
    exact ((FG l i x y (by simpa using h)).cons a).trans (List.Perm.swap _ _ _)
def oI (e sz:Nat) (v:Value) (n:Nat) (xs:List Value):Item :=
  ⟨v.ownBlock,fun o=>xs.length=n*sz∧((v=.slice none 0 0∧n=0)∨∃ g cap cur,v=.slice (some ⟨g,0,none⟩) n cap∧o=some (.cells cur e (0,0))∧n≤cap∧cap≤maxLen∧cur.size=cap*sz∧cur.toList.take (n*sz)=xs)⟩
section own
variable {P:Program} {w0 w w':World} {H:List Item}
theorem St.fresh {it:Item} (h:St w0 H w) (hb:Below w.heap.size w w') (hf:∀ B,it.foot=some B→w.heap.size≤B∧B<w'.heap.size) (ho:it.holds w'):St w0 (it::H) w':=by
  have h2:=h.grow hb
  refine ⟨h2.below,fun x hx=>?_,fun x hx B hB=>?_,?_⟩
  · rcases List.mem_cons.1 hx with rfl | hx
    · exact ho
    · exact h2.ok x hx
  · rcases List.mem_cons.1 hx with rfl | hx
    · exact ⟨Nat.le_trans h.size (hf B hB).1,(hf B hB).2⟩
    · exact h2.lo x hx B hB
  · cases hft:it.foot with
    | none=>simp only [List.filterMap_cons,hft]; exact h.sep
    | some B =>
      simp only [List.filterMap_cons,hft]
      refine List.nodup_cons.2 ⟨fun hm=>?_,h.sep⟩
      obtain ⟨x,hx,hxf⟩:=List.mem_filterMap.1 hm
      have:=(h.lo x hx _ hxf).2
      have:=(hf B hft).1
      omega
theorem St.repl (h:St w0 H w) (k:Nat) {it it':Item} (hk:H[k]?=some it) (hb:Below w.heap.size w w') (hf:∀ B,it'.foot=some B→w.heap.size≤B∧B<w'.heap.size) (ho:it'.holds w'):St w0 (H.set k it') w' :=
  ((h.sub (List.eraseIdx_sublist H k)).fresh hb hf ho).perm (FG H k it' it hk)
theorem St.ownsRow (h:St w0 H w) {k e sz n:Nat} {v:Value} {xs:List Value} (hk:H[k]?=some (oI e sz v n xs)):w.ownsRow w0.heap.size e sz v n xs:=by
  have hm:=List.mem_of_getElem? hk
  obtain ⟨h1,h2⟩:=h.ok _ hm
  refine ⟨h1,?_⟩
  rcases h2 with h2 | ⟨g,cap,cur,rfl,ho,h3⟩
  · exact .inl h2
  · have hlo:=h.lo _ hm g rfl
    refine .inr ⟨g,cap,cur,rfl,hlo.1,?_,h3⟩
    simpa [oI,Value.ownBlock] using ho
theorem UV {B e sz n:Nat} {v:Value} {xs:List Value} (h:w.ownsRow B e sz v n xs):(oI e sz v n xs).holds w∧∀ C,(oI e sz v n xs).foot=some C→B≤C∧C<w.heap.size:=by
  refine ⟨⟨h.1,?_⟩,fun C hC=>h.lt C hC⟩
  rcases h.2 with h2 | ⟨g,cap,cur,rfl,hg,hh,h3⟩
  · exact .inl h2
  · exact .inr ⟨g,cap,cur,rfl,by simpa [oI,Value.ownBlock] using hh,h3⟩
theorem St.got {e sz n:Nat} {v:Value} {xs:List Value} (h:St w0 H w) (hb:Below w.heap.size w w') (ho:w'.ownsRow w.heap.size e sz v n xs):St w0 (oI e sz v n xs::H) w' :=
  h.fresh hb (UV ho).2 (UV ho).1
theorem St.lit (h:St w0 H w) {k B e:Nat} {cs:List Value} (sz n:Nat) (hk:H[k]?=some (cI B e cs)) (hl:cs.length=n*sz) (hn:n≤maxLen):St w0 (H.set k (oI e sz (.slice (some ⟨B,0,none⟩) n n) n cs)) w:=by
  have hm:=List.mem_of_getElem? hk
  have hlo:=h.lo _ hm B rfl
  refine h.upd k hk rfl rfl rfl rfl rfl (Nat.le_refl _) (fun _ _ _=>rfl) ?_
  refine ⟨hl,.inr ⟨B,n,cs.toArray,rfl,?_,Nat.le_refl _,hn,by simpa using hl,?_⟩⟩
  · exact h.heap hk
  · simp [← hl]
end own
structure EncOk {α:Type} (enc:α→List Value) (sz:Nat):Prop where
  pos:0<sz
  len:∀ x,(enc x).length=sz
  one:∀ x,∀ v∈enc x,v.oneCell'=true
section flat
variable {α:Type} {enc:α→List Value} {sz:Nat}
theorem EncOk.flat_len (h:EncOk enc sz):∀ xs:List α,(xs.flatMap enc).length=xs.length*sz
  | []=>by simp
  | x::xs=>by rw [List.flatMap_cons,List.length_append,h.len,EncOk.flat_len h xs,List.length_cons,Nat.succ_mul,Nat.add_comm]
theorem EncOk.flat_one (h:EncOk enc sz) (xs:List α):∀ v∈xs.flatMap enc,v.oneCell'=true:=fun v hv=>by
  obtain ⟨x,_,hx⟩:=List.mem_flatMap.1 hv
  exact h.one x v hx
theorem EncOk.flat_get (h:EncOk enc sz):∀ (xs:List α) (i j:Nat) (x:α) (v:Value),xs[i]?=some x→(enc x)[j]?=some v→(xs.flatMap enc)[i*sz+j]?=some v
  | [],i,j,x,v,hx,_=>by simp at hx
  | y::xs,0,j,x,v,hx,hv=>by
    simp only [List.getElem?_cons_zero,Option.some.injEq] at hx
    subst hx
    rw [List.flatMap_cons,Nat.zero_mul,Nat.zero_add,List.getElem?_append_left (List.getElem?_eq_some_iff.1 hv).1]
    exact hv
  | y::xs,i+1,j,x,v,hx,hv=>by
    simp only [List.getElem?_cons_succ] at hx
    rw [List.flatMap_cons,List.getElem?_append_right (by rw [h.len,Nat.succ_mul]; omega),h.len,show (i+1)*sz+j-sz=i*sz+j by rw [Nat.succ_mul]; omega]
    exact EncOk.flat_get h xs i j x v hx hv
theorem EncOk.flat_inv (h:EncOk enc sz):∀ (xs:List α) (k:Nat) (v:Value),(xs.flatMap enc)[k]?=some v→∃ i j x,k=i*sz+j∧xs[i]?=some x∧(enc x)[j]?=some v
  | [],k,v,hv=>by simp at hv
  | y::xs,k,v,hv=>by
    rw [List.flatMap_cons] at hv
    by_cases hk:k<(enc y).length
    · rw [List.getElem?_append_left hk] at hv
      exact ⟨0,k,y,by omega,rfl,hv⟩
    · rw [List.getElem?_append_right (by omega)] at hv
      obtain ⟨i,j,x,h1,h2,h3⟩:=EncOk.flat_inv h xs _ v hv
      rw [h.len] at h1 hk
      exact ⟨i+1,j,x,by rw [Nat.succ_mul]; omega,h2,h3⟩
end flat
def oR {α:Type} (e sz:Nat) (enc:α→List Value) (oa:Option Addr) (c:Nat) (xs:List α):Item:=oI e sz (.slice oa xs.length c) xs.length (xs.flatMap enc)
section own2
variable {P:Program} {w0 w w':World} {H:List Item} {α:Type} {enc:α→List Value} {sz:Nat}
theorem uD {e c:Nat} {oa:Option Addr} {xs:List α} (h:(oR e sz enc oa c xs).holds w):(oa=none∧xs=[]∧c=0)∨∃ g cur,oa=some ⟨g,0,none⟩∧w.heap[g]?=some (.cells cur e (0,0))∧xs.length≤c∧c≤maxLen∧cur.size=c*sz∧cur.toList.take (xs.length*sz)=xs.flatMap enc:=by
  obtain ⟨h1,h2⟩:=h
  rcases h2 with ⟨hv,hn⟩ | ⟨g,cap,cur,hv,ho,h3,h4,h5,h6⟩
  · simp only [Value.slice.injEq] at hv
    exact .inl ⟨hv.1,List.eq_nil_of_length_eq_zero hn,hv.2.2⟩
  · simp only [Value.slice.injEq] at hv
    obtain ⟨rfl,-,rfl⟩:=hv
    exact .inr ⟨g,cur,rfl,by simpa [oR,oI,Value.ownBlock] using ho,h3,h4,h5,h6⟩
theorem St.row (h:St w0 H w) (k:Nat) {e c:Nat} {oa:Option Addr} {xs:List α} (hk:H[k]?=some (oR e sz enc oa c xs)) (he:EncOk enc sz) (hn:xs.length≤140737488355328):Row w oa sz enc xs:=by
  rcases uD (h.ok _ (List.mem_of_getElem? hk)) with ⟨rfl,rfl,rfl⟩ | ⟨g,cur,rfl,hh,h1,h2,h3,h4⟩
  · exact Row.nil _ _ _ _
  · refine ⟨fun _=>⟨_,rfl,rfl⟩,fun i x j v hx hv=>?_,hn⟩
    have:=he.flat_get xs i j x v hx hv
    rw [← h4,List.getElem?_take] at this
    split at this
    · simp [kK,World.cell?,hh]
      simpa using this
    · cases this
theorem St.rowc (h:St w0 H w) (k:Nat) {t B:Nat} {cs:List Value} (xs:List α) (hk:H[k]?=some (cI B t cs)) (he:EncOk enc sz) (hcs:xs.flatMap enc=cs) (hn:xs.length≤140737488355328):Row w (some ⟨B,0,none⟩) sz enc xs:=by
  refine ⟨fun _=>⟨_,rfl,rfl⟩,fun i x j v hx hv=>?_,hn⟩
  have:=he.flat_get xs i j x v hx hv
  rw [hcs] at this
  have:=pO (h.heap hk) this
  simpa [kK] using this
theorem St.litR (h:St w0 H w) (k:Nat) {B e:Nat} {cs:List Value} (xs:List α) (hk:H[k]?=some (cI B e cs)) (he:EncOk enc sz) (hcs:xs.flatMap enc=cs) (hn:xs.length≤maxLen):St w0 (H.set k (oR e sz enc (some ⟨B,0,none⟩) xs.length xs)) w:=by
  subst hcs
  exact h.lit sz xs.length hk (he.flat_len xs) hn
theorem St.nilR (h:St w0 H w) (e sz:Nat) (enc:α→List Value):St w0 (oR e sz enc none 0 []::H) w :=
  h.fresh (Below.refl _ w) (fun B hB=>by cases hB) ⟨by simp,.inl ⟨rfl,rfl⟩⟩
theorem K9 {oa:Option Addr} {ys:List α} {a:Addr} (h:Row w oa sz enc ys) (he:EncOk enc sz) (ha:oa=some a):∀ j u,(ys.flatMap enc)[j]?=some u→w.cell? (a.add j)=some u:=by
  intro j u hu
  obtain ⟨i,m,x,rfl,hx,hv⟩:=he.flat_inv ys j u hu
  obtain ⟨b,hb,hsp⟩:=h.ne (fun e=>by subst e; simp at hx)
  rw [ha] at hb
  obtain rfl:=Option.some.inj hb
  have:=h.cell i x m u hx hv
  obtain ⟨B,O,sp⟩:=a
  simp only at hsp
  subst hsp
  rw [gW]
  simpa [ha,kK] using this
structure ElemT (P:Program) (t e sz bytes:Nat):Prop where
  sl:P.underlying t=some (.slice e)
  info:∃ i z,P.info? e=some i∧i.zero=some z∧i.size=sz∧i.bytes=bytes∧z.cells.size=sz
theorem RP (h:St w0 H w) (k:Nat) {t ty e bytes c c2:Nat} {oa oa2:Option Addr} {xs ys:List α} (hk:H[k]?=some (oR e sz enc oa c xs)) (he:EncOk enc sz) (hT:ElemT P t e sz bytes) (hy:Row w oa2 sz enc ys)
    (hb:(xs.length+ys.length)*bytes≤140737488355328) (hm:xs.length+ys.length≤maxLen) :
    ∃ oa' c' w',(Builtin.append_ #[t,t] ty #[.slice oa xs.length c,.slice oa2 ys.length c2]).run P w=.ok (.slice oa' (xs++ys).length c') w'∧St w0 (H.set k (oR e sz enc oa' c' (xs++ys))) w':=by
  obtain ⟨i,z,hi,hz,hs,hby,hzs⟩:=hT.info
  subst hs; subst hby
  have ht:=hT.sl
  have hmem:=List.mem_of_getElem? hk
  have hlen:(xs++ys).length=xs.length+ys.length:=List.length_append
  have hsmall:xs.length+ys.length≤9223372036854775807:=by simp only [maxLen] at hm; omega
  have hflat:(xs++ys).flatMap enc=xs.flatMap enc++ys.flatMap enc:=List.flatMap_append
  have hl:(ys.flatMap enc).length=ys.length*i.size:=he.flat_len ys
  have hlx:(xs.flatMap enc).length=xs.length*i.size:=he.flat_len xs
  by_cases hnil:ys=[]
  · subst hnil
    refine ⟨oa,c,w,?_,?_⟩
    · have hf:(Builtin.firstCells i.size 0 (.slice oa2 0 c2)).run P w=.ok #[] w:=by
        cases oa2 with
        | none=>exact run_firstCells_none (P:=P) w _ _ _ _
        | some a=>exact run_firstCells_some (P:=P) w _ 0 a 0 c2 [] (by simp) (fun j v hj=>by simp at hj)
      rcases uD (h.ok _ hmem) with ⟨rfl,rfl,rfl⟩ | ⟨g,cur,rfl,hh,h1,h2,h3,h4⟩
      · simp [Builtin.append_,run_underlying ht,sizeOf,typeInfo,hi,Builtin.lenOf,hf]
      · simp [Builtin.append_,run_underlying ht,sizeOf,typeInfo,hi,Builtin.lenOf,hf,h1,storeCells]
    · rw [List.append_nil]
      rw [show H.set k (oR e i.size enc oa c xs)=H from ?_]
      · exact h
      · apply List.ext_getElem?
        intro j
        rw [List.getElem?_set]
        split
        · rename_i hj; subst hj
          split
          · exact hk.symm
          · rename_i hlt
            rw [List.getElem?_eq_none (by omega)]
        · rfl
  · obtain ⟨a,rfl,hsp⟩:=hy.ne hnil
    have hpos:0<ys.length:=List.length_pos_iff.2 hnil
    have hnews:=K9 hy he rfl
    have h1:=he.flat_one ys
    have grown:∀ (old:Nat),old<xs.length+ys.length →
        ∃ oa' c' w',(.slice (some ⟨w.heap.size,0,none⟩) (xs.length+ys.length) (grownCap w (xs.length+ys.length) old e):Value)=.slice oa' (xs++ys).length c' ∧
          w.drew.alloc (.cells ((xs.flatMap enc).toArray++(ys.flatMap enc).toArray++Builtin.zeroCells z.cells (grownCap w (xs.length+ys.length) old e-(xs.length+ys.length))) e)=w'∧St w0 (H.set k (oR e i.size enc oa' c' (xs++ys))) w':=by
      intro old ho
      refine ⟨_,_,_,by rw [hlen],rfl,?_⟩
      refine h.repl k hk ⟨rfl,rfl,rfl,by simp,fun j hj=>heap_alloc_old w.drew _ j hj⟩ (fun B hB=>?_) ⟨?_,?_⟩
      · simp only [oR,oI,Value.ownBlock,Option.some.injEq] at hB
        subst hB
        exact ⟨Nat.le_refl _,by simp⟩
      · rw [he.flat_len,hlen]
      · refine .inr ⟨w.heap.size,_,(xs.flatMap enc).toArray++(ys.flatMap enc).toArray++Builtin.zeroCells z.cells (grownCap w (xs.length+ys.length) old e-(xs.length+ys.length)),rfl,?_,?_,grownCap_le_maxLen w _ old e hm,?_,?_⟩
        · simp only [oR,oI,Value.ownBlock,Option.bind_some]
          exact heap_alloc_new w.drew _
        · rw [hlen]; exact grownCap_ge w _ old e
        · have hge:=grownCap_ge w (xs.length+ys.length) old e
          simp only [Array.size_append,List.size_toArray,size_zeroCells,hzs,hl,hlx,← Nat.add_mul]
          congr 1
          omega
        · rw [hflat]
          have e1:(xs++ys).length*i.size=(xs.flatMap enc++ys.flatMap enc).length:=by rw [hlen,List.length_append (as:=xs.flatMap enc),hl,hlx,Nat.add_mul]
          rw [e1]
          simp only [Array.toList_append,List.append_assoc]
          rw [← List.append_assoc]
          exact List.take_left
    rcases uD (h.ok _ hmem) with ⟨rfl,rfl,rfl⟩ | ⟨g,cur,rfl,hh,h1c,h2c,h3c,h4c⟩
    · have hr:=run_append_nil (P:=P) w t ty e i z ht hi hz a ys.length c2 (ys.flatMap enc) hl hnews hpos (by omega) (by simp at hb; omega)
      obtain ⟨oa',c',w',e1,e2,e3⟩:=grown 0 (by omega)
      refine ⟨oa',c',w',?_,e3⟩
      rw [← e2,← e1]
      simpa using hr
    · by_cases hroom:xs.length+ys.length≤c
      · have hfit:xs.length*i.size+(ys.flatMap enc).length≤cur.size:=by rw [hl,h3c,← Nat.add_mul]; exact Nat.mul_le_mul_right _ hroom
        have hr:=run_append_room (P:=P) w t ty e i ht hi g xs.length c cur hh a ys.length c2 (ys.flatMap enc) hl hnews h1 hroom hfit
        refine ⟨_,_,_,by rw [hlen]; exact hr,?_⟩
        refine h.upd k hk (B:=g) rfl rfl rfl rfl rfl (by simp) (fun j _ hj=>setRow_other w g j _ hj) ?_
        refine ⟨by rw [he.flat_len],.inr ⟨g,c,(cur.toList.take (xs.length*i.size)++ys.flatMap enc++cur.toList.drop (xs.length*i.size+(ys.flatMap enc).length)).toArray,rfl,setRow_heap w g cur _ e _ hh,by rw [hlen]; exact hroom,h2c,?_,?_⟩⟩
        · simp only [List.size_toArray,List.length_append,List.length_take,List.length_drop,Array.length_toList]
          omega
        · rw [h4c,hflat]
          have e1:(xs++ys).length*i.size=(xs.flatMap enc++ys.flatMap enc).length:=by rw [hlen,List.length_append (as:=xs.flatMap enc),hl,hlx,Nat.add_mul]
          rw [e1]
          exact List.take_left
      · have holds:∀ j u,(xs.flatMap enc)[j]?=some u→w.cell? ((⟨g,0,none⟩:Addr).add j)=some u:=fun j u hu=>by
          rw [gW,Nat.zero_add]
          rw [← h4c,List.getElem?_take] at hu
          split at hu
          · simp [World.cell?,hh]; simpa using hu
          · cases hu
        have hr:=run_append_grow (P:=P) w t ty e i z ht hi hz ⟨g,0,none⟩ xs.length c (xs.flatMap enc) hlx holds a ys.length c2 (ys.flatMap enc) hl hnews (by omega) (by omega) (growslice_fits (by omega) hb)
        obtain ⟨oa',c',w',e1,e2,e3⟩:=grown c (by omega)
        refine ⟨oa',c',w',?_,e3⟩
        rw [← e2,← e1]
        exact hr
theorem oV {Q:Exit→Act→World→Prop} {a:Act} {n:Nat} {ds:List Deferred} {E:List d9} {l:List Oper} (s:Sta n ds w0 E H a w) (k i:Nat) {t ty e bytes c c2 d:Nat} {sx xx:Operand} {pos:String} {after:Array Edge} {oa oa2:Option Addr} {xs ys:List α}
    (ho:l[k]?=some ⟨some d,.call ⟨.builtin .append,#[sx,xx],#[t,t]⟩,ty,pos,after,none⟩) (h1:rd E [] sx=some (.slice oa xs.length c)) (h2:rd E [] xx=some (.slice oa2 ys.length c2))
    (hk:H[i]?=some (oR e sz enc oa c xs)) (he:EncOk enc sz) (hT:ElemT P t e sz bytes) (hy:Row w oa2 sz enc ys)
    (hb:(xs.length+ys.length)*bytes≤140737488355328) (hm:xs.length+ys.length≤maxLen) (hok:eT n E d []=true)
    (next:∀ oa' c' a' w',Sta n ds w0 (put E d [] (.slice oa' (xs++ys).length c')) (H.set i (oR e sz enc oa' c' (xs++ys))) a' w'→WL P l Q (k+1) a' w'):WL P l Q k a w:=by
  obtain ⟨oa',c',w',hr,hst⟩:=RP (P:=P) s.m i (ty:=ty) (c2:=c2) hk he hT hy hb hm
  refine WL.loud k ho rfl fun K hK=>?_
  have hrun:(execOp a.eval ⟨some d,.call ⟨.builtin .append,#[sx,xx],#[t,t]⟩,ty,pos,after,none⟩).run P w=.ok (.value (.slice oa' (xs++ys).length c')) w':=by
    simp only [execOp,resolve,invoke,builtin,Sem.run_bind,Sem.run_pure,Result.andThen_ok,List.map_toArray,List.map_cons,List.map_nil,vL s.f h1,vL s.f h2,hr]
  simp only [Oper.wp,hrun,Oper.upon]
  exact hK _ _ (next oa' c' _ _ ⟨s.f.put0 _ hok,(put_defers _ _ _).trans s.d,hst⟩)
end own2
end Go.Fz
namespace Go.Fz
open Go Go.RowKit
theorem wU (a b:List Value) (j:Nat) (vs:List Value) (h:j+vs.length≤a.length):jP (a++b) j vs=jP a j vs++b:=by
  simp only [jP,List.append_assoc]
  rw [List.take_append_of_le_length (by omega),List.drop_append_of_le_length h]
theorem CS (a b:List Value) (j:Nat) (vs:List Value):jP (a++b) (a.length+j) vs=a++jP b j vs:=by
  simp only [jP]
  rw [List.take_length_add_append,Nat.add_assoc,List.drop_length_add_append,List.append_assoc,List.append_assoc,List.append_assoc]
theorem oJ (a:List Value) (j:Nat) (vs:List Value) (h:j+vs.length≤a.length):(jP a j vs).length=a.length:=by
  simp only [jP,List.length_append,List.length_take,List.length_drop]; omega
section set
variable {α:Type} {enc:α→List Value} {sz:Nat}
theorem EncOk.flat_set (h:EncOk enc sz):∀ (xs:List α) (i j:Nat) (x x':α) (vs:List Value),xs[i]?=some x→jP (enc x) j vs=enc x'→j+vs.length≤sz →
    (xs.set i x').flatMap enc=jP (xs.flatMap enc) (i*sz+j) vs
  | [],i,j,x,x',vs,hx,_,_=>by simp at hx
  | y::xs,0,j,x,x',vs,hx,hs,hj=>by
    simp only [List.getElem?_cons_zero,Option.some.injEq] at hx
    subst hx
    simp only [List.set_cons_zero,List.flatMap_cons,Nat.zero_mul,Nat.zero_add]
    rw [wU _ _ _ _ (by rw [h.len]; exact hj),hs]
  | y::xs,i+1,j,x,x',vs,hx,hs,hj=>by
    simp only [List.getElem?_cons_succ] at hx
    simp only [List.set_cons_succ,List.flatMap_cons]
    rw [EncOk.flat_set h xs i j x x' vs hx hs hj,← CS,h.len]
    congr 1
    rw [Nat.succ_mul]; omega
variable {P:Program} {w0 w:World} {H:List Item}
theorem iK (h:St w0 H w) (k i j:Nat) {e c:Nat} {oa:Option Addr} {xs:List α} {x:α} (x':α) (vs:List Value) (hk:H[k]?=some (oR e sz enc oa c xs)) (he:EncOk enc sz) (hx:xs[i]?=some x) (hs:jP (enc x) j vs=enc x') (hj:j+vs.length≤sz)
    (h1:vs.all Value.oneCell'=true) :
    ∃ w',(storeCells (kK oa (i*sz+j)) vs 0).run P w=.ok () w'∧St w0 (H.set k (oR e sz enc oa c (xs.set i x'))) w':=by
  have hlt:i<xs.length:=(List.getElem?_eq_some_iff.1 hx).1
  rcases uD (h.ok _ (List.mem_of_getElem? hk)) with ⟨rfl,rfl,rfl⟩ | ⟨g,cur,rfl,hh,h1c,h2c,h3c,h4c⟩
  · simp at hx
  · have hin:i*sz+j+vs.length≤xs.length*sz:=by
      have:(i+1)*sz≤xs.length*sz:=Nat.mul_le_mul_right _ hlt
      rw [Nat.succ_mul] at this
      omega
    have hcap:xs.length*sz≤c*sz:=Nat.mul_le_mul_right _ h1c
    have hh':w.heap[g]?=some (.cells cur.toList.toArray e (0,0)):=by simpa using hh
    obtain ⟨w',hr,hh2,hos,ht,hu,hsz,hoth⟩:=nI (P:=P) (t:=e) (B:=g) vs cur.toList (0+(i*sz+j)) 0 w hh' (fun u hu=>List.all_eq_true.1 h1 u hu) (by simp [h3c]; omega)
    refine ⟨w',by simpa [kK] using hr,?_⟩
    refine h.upd k hk (B:=g) rfl ?_ hos ht hu (Nat.le_of_eq hsz.symm) (fun m _ hm=>hoth m hm) ?_
    · simp [oR,oI,Value.ownBlock]
    · refine ⟨by rw [he.flat_len],.inr ⟨g,c,(jP cur.toList (0+(i*sz+j)+0) vs).toArray,rfl,hh2,by simpa using h1c,h2c,?_,?_⟩⟩
      · simp only [List.size_toArray]
        rw [oJ _ _ _ (by simp [h3c]; omega)]
        simpa using h3c
      · rw [he.flat_set xs i j x x' vs hx hs hj,← h4c]
        simp only [Nat.zero_add,Nat.add_zero,List.length_set]
        have e1:cur.toList=cur.toList.take (xs.length*sz)++cur.toList.drop (xs.length*sz):=(List.take_append_drop _ _).symm
        have e2:(cur.toList.take (xs.length*sz)).length=xs.length*sz:=by
          rw [List.length_take]
          have:cur.toList.length=c*sz:=by simpa using h3c
          omega
        conv=>lhs; rw [e1]
        rw [wU _ _ _ _ (by rw [e2]; exact hin)]
        rw [List.take_append_of_le_length (by rw [oJ _ _ _ (by rw [e2]; exact hin),e2]; exact Nat.le_refl _)]
        rw [List.take_of_length_le (by rw [oJ _ _ _ (by rw [e2]; exact hin),e2]; exact Nat.le_refl _)]
theorem UW {Q:Exit→Act→World→Prop} {a:Act} {n:Nat} {ds:List Deferred} {E:List d9} {l:List Oper} (s:Sta n ds w0 E H a w) (k m i j:Nat) {t ty e c:Nat} {ax vx:Operand} {pos:String} {after:Array Edge} {v:Value} {oa:Option Addr} {xs:List α} {x:α} (x':α) (vs:List Value)
    (ho:l[k]?=some ⟨none,.store t ax vx,ty,pos,after,none⟩) (ha:rd E [] ax=some (Pa (kK oa (i*sz+j)))) (hv:rd E [] vx=some v) (hvs:v.cells=vs.toArray) (hsz:SizeT P t vs.length) (h1:vs.all Value.oneCell'=true)
    (hk:H[m]?=some (oR e sz enc oa c xs)) (he:EncOk enc sz) (hx:xs[i]?=some x) (hs:jP (enc x) j vs=enc x') (hj:Nat.ble (j+vs.length) sz=true)
    (next:∀ w',Sta n ds w0 E (H.set m (oR e sz enc oa c (xs.set i x'))) a w'→WL P l Q (k+1) a w'):WL P l Q k a w:=by
  refine WL.loud k ho rfl fun K hK=>?_
  obtain ⟨w',hr,hst⟩:=iK (P:=P) s.m m i j x' vs hk he hx hs (Nat.le_of_ble_eq_true hj) h1
  have hsize:v.cells.size=vs.length:=by rw [hvs]; simp
  have htl:v.cells.toList=vs:=by rw [hvs]
  have hrun:(execOp a.eval ⟨none,.store t ax vx,ty,pos,after,none⟩).run P w=.ok .skip w':=by
    simp [execOp,Instr.storeAt,Instr.sureAddr,vL s.f ha,vL s.f hv,storeVar,hsz w,hsize,htl,hr]
  simp only [Oper.wp,hrun,Oper.upon]
  exact hK _ _ (next w' ⟨s.f,s.d,hst⟩)
end set
section own3
variable {P:Program} {Q:Exit→Act→World→Prop} {a:Act} {w w0:World} {n:Nat} {E:List d9} {H:List Item} {ds:List Deferred} {l:List Oper}
theorem lR (s:Sta n ds w0 E H a w) (k:Nat) {d t e ty m:Nat} {parts:Array (Nat × Operand)} {pos:String} {after:Array Edge} {vs:List Value} (cs:List Value) (ho:l[k]?=some ⟨some d,.buildSlice t m parts,ty,pos,after,none⟩)
    (hx:xQ E [] (parts.toList.map (·.2))=some vs)
    (hrun':∀ w,(Instr.buildSlice t m ((parts.toList.map (·.1)).zip vs).toArray).run P w=.ok (.slice (some ⟨w.heap.size,0,none⟩) m m) (w.alloc (.cells cs.toArray e)))
    (hok:eT n E d []=true) (next:∀ B a' w',Sta n ds w0 (put E d [] (.slice (some ⟨B,0,none⟩) m m)) (cI B e cs::H) a' w'→WL P l Q (k+1) a' w'):WL P l Q k a w :=
  WL.buildSlice k cs s.f s.m ho hx hrun' hok fun B a' w' h1 h2 h3 _=>next B a' w' ⟨h2,h1.trans s.d,h3⟩
theorem Sta.litR {α:Type} {enc:α→List Value} {sz:Nat} (s:Sta n ds w0 E H a w) (k:Nat) {B e:Nat} {cs:List Value} (xs:List α) (hk:H[k]?=some (cI B e cs)) (he:EncOk enc sz) (hcs:xs.flatMap enc=cs) (hn:xs.length≤maxLen):Sta n ds w0 E (H.set k (oR e sz enc (some ⟨B,0,none⟩) xs.length xs)) a w :=
  ⟨s.f,s.d,s.m.litR k xs hk he hcs hn⟩
theorem Sta.nilR {α:Type} (s:Sta n ds w0 E H a w) (e sz:Nat) (enc:α→List Value):Sta n ds w0 E (oR e sz enc none 0 ([]:List α)::H) a w:=⟨s.f,s.d,s.m.nilR e sz enc⟩
theorem Sta.got {α:Type} {enc:α→List Value} {sz e c:Nat} {oa:Option Addr} {xs:List α} {w':World} (s:Sta n ds w0 E H a w) (hb:Below w.heap.size w w') (ho:w'.ownsRow w.heap.size e sz (.slice oa xs.length c) xs.length (xs.flatMap enc)) {a':Act} {E':List d9} (hd:a'.defers=ds) (hF:Fits n a' E'):Sta n ds w0 E' (oR e sz enc oa c xs::H) a' w' :=
  ⟨hF,hd,s.m.got hb ho⟩
def qV {α:Type} (e sz:Nat) (enc:α→List Value) (xs:List α) (w:World):Ending→World→Prop :=
  fun en w'=>∃ oa c,en=.returned (.slice oa xs.length c)∧w'.ownsRow w.heap.size e sz (.slice oa xs.length c) xs.length (xs.flatMap enc)∧Below w.heap.size w w'
theorem n1 {α:Type} {enc:α→List Value} {sz e c:Nat} {oa:Option Addr} {xs xs':List α} (s:Sta n ds w0 E H a w) (k:Nat) (hk:H[k]?=some (oR e sz enc oa c xs)) (hx:xs=xs'):qV e sz enc xs' w0 (.returned (n0 [.slice oa xs.length c])) w:=by
  subst hx
  exact ⟨oa,c,rfl,s.m.ownsRow hk,s.m.below⟩
theorem I8 {α:Type} {enc:α→List Value} {sz e:Nat} {xs:List α} (s:Sta n ds w0 E H a w) (k:Nat) {dst:Option Nat} {f:Operand} {args:Array Operand} {ats:Array TypeId} {ty g:Nat} {pos:String} {after:Array Edge} {fi ca:Array Value} {vs:List Value}
    (ho:l[k]?=some ⟨dst,.call ⟨.value f,args,ats⟩,ty,pos,after,none⟩) (hf:rd E [] f=some (.func (.func g) fi ca)) (hargs:xQ E [] args.toList=some vs) (hent:Enters P g) (hok:RF n E dst=true)
    (hc:Calls P g (fi.toList++vs++ca.toList).toArray w (qV e sz enc xs w)) (next:∀ oa c a' w',Sta n ds w0 (Fz.putd E dst (.slice oa xs.length c)) (oR e sz enc oa c xs::H) a' w'→WL P l Q (k+1) a' w'):WL P l Q k a w :=
  lc s k ho hf hargs hent hok hc fun en w' ⟨oa,c,h1,h2,h3⟩=>by subst h1; exact fun a' h4 h5=>next oa c a' w' (s.got h3 h2 h4 h5)
end own3
theorem ElemT.of' {P:Program} {t e sz bytes:Nat} (h:P.underlying t=some (.slice e)) (h2:(P.info? e).map (fun i=>(i.size,i.bytes,i.zero.map (fun z=>z.cells.size)))=some (sz,bytes,some sz)):ElemT P t e sz bytes:=by
  refine ⟨h,?_⟩
  cases hi:P.info? e with
  | none=>rw [hi] at h2; cases h2
  | some i =>
    rw [hi] at h2
    simp only [Option.map_some,Option.some.injEq,Prod.mk.injEq] at h2
    obtain ⟨h3,h4,h5⟩:=h2
    cases hz:i.zero with
    | none=>rw [hz] at h5; cases h5
    | some z=>rw [hz] at h5; exact ⟨i,z,rfl,hz,h3,h4,by simpa using h5⟩
end Go.Fz
namespace Go.Fz
open Go Go.RowKit
section guards
variable {P:Program} {Q:Exit→Act→World→Prop} {a:Act} {w w0:World} {n:Nat} {E:List d9} {H:List Item} {ds:List Deferred} {l:List Oper}
theorem yL {ops ops':Array Oper} (h:∀ j:Nat,(ops[j]?).bind (fun o:Oper=>o.dst)=(ops'[j]?).bind (fun o:Oper=>o.dst)):∀ (rest:List Oper) (a:Act) (w:World),wpList P ops Q rest a w=wpList P ops' Q rest a w
  | [],_,_=>rfl
  | o::rest,a,w=>by
    have hy:∀ t,yielded ops t=yielded ops' t:=fun t=>by funext j; simp only [yielded,h j]
    have ih:wpList P ops Q rest=wpList P ops' Q rest:=by funext a w; exact yL h rest a w
    simp only [wpList,hy,ih]
theorem lug (s:Sta n ds w0 E H a w) (k:Nat) {o o':Oper} {p:List (Nat × Bool)} {l':List Oper} (ho:l[k]?=some o) (hp:lF l.toArray E o=some p) (hf:fZ E p=true) (ho':{ o with guard:=none }=o') (hl:l.set k o'=l')
    (h:WL P l' Q k a w):WL P l Q k a w:=by
  subst hl; subst ho'
  unfold WL at *
  obtain ⟨hlt,hget⟩:=List.getElem?_eq_some_iff.1 ho
  rw [List.drop_eq_getElem_cons (by simpa using hlt)] at h
  rw [List.drop_eq_getElem_cons hlt]
  rw [List.getElem_set_self,List.drop_set_of_lt (by omega)] at h
  rw [yL (ops:=l.toArray) (ops':=(l.set k { o with guard:=none }).toArray)]
  · rw [hget]
    simp only [wpList] at h ⊢
    have e1:Region.wanted o (yielded (l.set k { o with guard:=none }).toArray a.tmps)=true:=by
      have e2:yielded (l.set k { o with guard:=none }).toArray a.tmps=yielded l.toArray a.tmps:=by
        funext j
        simp only [yielded]
        have:((l.set k { o with guard:=none }).toArray[j]?).bind (fun o:Oper=>o.dst)=(l.toArray[j]?).bind (fun o:Oper=>o.dst):=by
          simp only [List.getElem?_toArray,List.getElem?_set]
          split
          · rename_i hj; subst hj; simp [hlt,hget]
          · rfl
        rw [this]
      rw [e2,fI s.f hp,hf]
    have e3:Region.wanted { o with guard:=none } (yielded (l.set k { o with guard:=none }).toArray a.tmps)=true:=rfl
    rw [e3] at h
    rw [e1]
    simp only [if_true] at h ⊢
    exact h
  · intro j
    simp only [List.getElem?_toArray,List.getElem?_set]
    split
    · rename_i hj; subst hj; simp [hlt,hget]
    · rfl
theorem I9 (s:Sta n ds w0 E H a w) (k:Nat) {o:Oper} {p:List (Nat × Bool)} {d:Nat} (ho:l[k]?=some o) (hp:lF l.toArray E o=some p) (hf:fZ E p=false) (hd:o.dst=some d) (hok:eT n E d []=true)
    (next:∀ a',Sta n ds w0 (put E d [] undef) H a' w→WL P l Q (k+1) a' w):WL P l Q k a w:=by
  unfold WL at *
  obtain ⟨hlt,hget⟩:=List.getElem?_eq_some_iff.1 ho
  rw [List.drop_eq_getElem_cons hlt,hget]
  simp only [wpList,fI s.f hp,hf]
  simp only [Bool.false_eq_true,if_false]
  rw [hd]
  exact next _ ⟨s.f.put0 undef hok,(put_defers _ _ _).trans s.d,s.m⟩
theorem lpk (s:Sta n ds w0 E H a w) (k:Nat) {d ty:Nat} {c x y:Operand} {pos:String} {after:Array Edge} {m:Bool} {v:Value} (ho:l[k]?=some ⟨some d,.pick c x y,ty,pos,after,none⟩) (hc:rd E [] c=some (.bool m)) (hx:rd E [] (bif m then x else y)=some v) (hok:eT n E d []=true)
    (next:∀ a',Sta n ds w0 (put E d [] v) H a' w→WL P l Q (k+1) a' w):WL P l Q k a w:=by
  refine WL.loud k ho rfl fun K hK=>?_
  have hrun:(execOp a.eval ⟨some d,.pick c x y,ty,pos,after,none⟩).run P w=.ok (.value v) w:=by
    cases m with
    | true=>simp only [cond_true] at hx; simp [execOp,vL s.f hc,vL s.f hx,asBool]
    | false=>simp only [cond_false] at hx; simp [execOp,vL s.f hc,vL s.f hx,asBool]
  simp only [Oper.wp,hrun,Oper.upon]
  exact hK _ _ (next _ ⟨s.f.put0 v hok,(put_defers _ _ _).trans s.d,s.m⟩)
theorem Sta.sp {E':List d9} (s:Sta n ds w0 E H a w) (h:E=E'):Sta n ds w0 E' H a w:=by subst h; exact s
end guards
theorem iaI {P:Program} (w:World) (oa:Option Addr) (n c:Nat) (k:Int) {t e sz:Nat} (h:eE P t e) (hs:SizeT P e sz) (hk:0≤k∧k<n) (ha:∃ a,oa=some a∧a.spot=none) :
    Yv P w (Instr.indexAt t (.slice oa n c) (I k)) (Pa (kK oa (k.toNat*sz))):=by
  have e:k=((k.toNat:Nat):Int):=by omega
  have:=ia w oa n c k.toNat h hs (by omega) ha
  rw [← e] at this
  exact this
theorem Row.iaI {P:Program} {w:World} {α:Type} {oa:Option Addr} {sz:Nat} {enc:α→List Value} {xs:List α} (h:Row w oa sz enc xs) (c:Nat) (k:Int) {t e:TypeId} (ht:eE P t e) (hs:SizeT P e sz) (hk:0≤k∧k<xs.length):Yv P w (Instr.indexAt t (.slice oa xs.length c) (I k)) (Pa (kK oa (k.toNat*sz))) :=
  Fz.iaI w oa xs.length c k ht hs hk (h.at' (k:=k.toNat) (by omega))
theorem NG (oa:Option Addr) (k:Nat) (h:k=0):oa.map (fun a=>a.add k)=oa:=by
  subst h
  cases oa with
  | none=>rfl
  | some a=>simp [Addr.add]
theorem X3 {P:Program} (w:World) (oa:Option Addr) (n c k:Nat) {t e sz:Nat} (h:eE P t e) (hs:SizeT P e sz) (hk:k≤c):Yv P w (Instr.sliceAt t (.slice oa n c) none (some (I k)) none) (.slice oa k c):=by
  refine Yv.intro fun w'=>?_
  have hc:(k:Int)≤(c:Int):=by omega
  simp [Instr.sliceAt,jS h,Instr.slice,Instr.sliceBounds,Instr.sliceBound,asIntOf,hs w',hc,NG]
  intro h1; omega
theorem Row.take {α:Type} {w:World} {oa:Option Addr} {sz:Nat} {enc:α→List Value} {xs:List α} (h:Row w oa sz enc xs) (k:Nat):Row w oa sz enc (xs.take k):=by
  refine ⟨fun hne=>h.ne (fun e=>by subst e; simp at hne),fun i x j v hx hv=>?_,by rw [List.length_take]; have:=h.small; omega⟩
  rw [List.getElem?_take] at hx
  split at hx
  · exact h.cell i x j v hx hv
  · cases hx
theorem CT {P:Program} {α:Type} (w:World) (oa:Option Addr) (xs:List α) (c k:Nat) {t e sz:Nat} (h:eE P t e) (hs:SizeT P e sz) (hk:k≤xs.length) (hc:xs.length≤c):Yv P w (Instr.sliceAt t (.slice oa xs.length c) none (some (I k)) none) (.slice oa (xs.take k).length c):=by
  have e1:(xs.take k).length=k:=by rw [List.length_take]; omega
  rw [e1]
  exact X3 w oa xs.length c k h hs (by omega)
theorem St.cap {α:Type} {w0 w:World} {H:List Item} {enc:α→List Value} {sz e c:Nat} {oa:Option Addr} {xs:List α} (h:St w0 H w) (k:Nat) (hk:H[k]?=some (oR e sz enc oa c xs)):xs.length≤c:=by
  rcases uD (h.ok _ (List.mem_of_getElem? hk)) with ⟨_,rfl,rfl⟩ | ⟨g,cur,_,_,h1,_⟩
  · exact Nat.le_refl _
  · exact h1
end Go.Fz
namespace Go.Fz
open Go Go.RowKit
def NH:Nat→Value→Bool
  | 0,.int .i64 _=>true
  | 1,.bool _=>true
  | 2,.string _=>true
  | _,_=>false
def wV:List Nat→List Value→Bool
  | [],[]=>true
  | k::ks,v::vs=>NH k v&&wV ks vs
  | _,_=>false
def tB:Value→Value→Bool
  | .int _ a,.int _ b=>a==b
  | .bool a,.bool b=>a==b
  | .string a,.string b=>decide (a=b)
  | _,_=>false
def oK:List Value→List Value→Bool
  | [],[]=>true
  | v::vs,u::us=>tB v u&&oK vs us
  | _,_=>false
def M7 (agg:Bool) (xs:List Value):Value:=if agg=true then .agg xs.toArray else xs.headD undef
theorem eF:∀ {ks:List Nat} {xs:List Value},wV ks xs=true→xs.length=ks.length
  | [],[],_=>rfl
  | [],_::_,h=>by simp [wV] at h
  | _::_,[],h=>by simp [wV] at h
  | k::ks,v::vs,h=>by
    simp only [wV,Bool.and_eq_true] at h
    simp [eF h.2]
theorem nJ:∀ {ks ls:List Nat} {xs:List Value},wV (ks++ls) xs=true→∃ a b,xs=a++b∧wV ks a=true∧wV ls b=true
  | [],ls,xs,h=>⟨[],xs,rfl,rfl,h⟩
  | k::ks,ls,[],h=>by simp [wV] at h
  | k::ks,ls,v::vs,h=>by
    simp only [List.cons_append,wV,Bool.and_eq_true] at h
    obtain ⟨a,b,h1,h2,h3⟩:=nJ h.2
    exact ⟨v::a,b,by rw [h1]; rfl,by simp [wV,h.1,h2],h3⟩
theorem tC:∀ {a c b d:List Value},a.length=c.length→oK (a++b) (c++d)=(oK a c&&oK b d)
  | [],[],b,d,_=>by simp [oK]
  | [],_::_,_,_,h=>by simp at h
  | _::_,[],_,_,h=>by simp at h
  | v::a,u::c,b,d,h=>by
    simp only [List.cons_append,oK,tC (a:=a) (c:=c) (by simpa using h),Bool.and_assoc]
structure EqOk (P:Program) (t:TypeId) (ks:List Nat) (agg:Bool) (n:Nat):Prop where
  run:∀ d w xs ys,n≤d→wV ks xs=true→wV ks ys=true→(Op.equalIn d t (M7 agg xs) (M7 agg ys)).run P w=.ok (oK xs ys) w
  isagg:∀ w,(isAgg t).run P w=.ok agg w
  size:∀ w,(sizeOf t).run P w=.ok ks.length w
  one:agg=false→ks.length=1
theorem EqOk.mono {P:Program} {t:TypeId} {ks:List Nat} {agg:Bool} {n m:Nat} (h:EqOk P t ks agg n) (hm:n≤m):EqOk P t ks agg m :=
  ⟨fun d w xs ys hd=>h.run d w xs ys (by omega),h.isagg,h.size,h.one⟩
section
variable {P:Program}
theorem yM {ks:List Nat} {xs:List Value} (h:wV ks xs=true) (h1:ks.length=1):∃ v,xs=[v]:=by
  have:=eF h
  rw [h1] at this
  exact List.length_eq_one_iff.1 this
theorem EqOk.int {t:TypeId} (h:P.underlying t=some (.int .i64)) (hs:SizeT P t 1):EqOk P t [0] false 1 where
  run:=fun d w xs ys hd hx hy=>by
    obtain ⟨v,rfl⟩:=yM hx rfl
    obtain ⟨u,rfl⟩:=yM hy rfl
    simp only [wV,Bool.and_true] at hx hy
    obtain ⟨d,rfl⟩:=Nat.exists_eq_add_of_lt (show 0<d by omega)
    unfold NH at hx hy
    split at hx
    · split at hy
      · simp [M7,Op.equalIn,run_underlying h,oK,tB]
      all_goals simp_all
    all_goals simp_all
  isagg:=Scalar.of h rfl
  size:=hs
  one:=fun _=>rfl
theorem EqOk.bool {t:TypeId} (h:P.underlying t=some .bool) (hs:SizeT P t 1):EqOk P t [1] false 1 where
  run:=fun d w xs ys hd hx hy=>by
    obtain ⟨v,rfl⟩:=yM hx rfl
    obtain ⟨u,rfl⟩:=yM hy rfl
    simp only [wV,Bool.and_true] at hx hy
    obtain ⟨d,rfl⟩:=Nat.exists_eq_add_of_lt (show 0<d by omega)
    unfold NH at hx hy
    split at hx
    · simp_all
    · split at hy
      · simp_all
      · simp [M7,Op.equalIn,run_underlying h,oK,tB]
      all_goals simp_all
    all_goals simp_all
  isagg:=Scalar.of h rfl
  size:=hs
  one:=fun _=>rfl
theorem FH {v:Value} (h:NH 2 v=true):∃ a,v=.string a:=by
  unfold NH at h
  split at h <;> simp_all
theorem EqOk.str {t:TypeId} (h:P.underlying t=some .string) (hs:SizeT P t 1):EqOk P t [2] false 1 where
  run:=fun d w xs ys hd hx hy=>by
    obtain ⟨v,rfl⟩:=yM hx rfl
    obtain ⟨u,rfl⟩:=yM hy rfl
    simp only [wV,Bool.and_true] at hx hy
    obtain ⟨d,rfl⟩:=Nat.exists_eq_add_of_lt (show 0<d by omega)
    obtain ⟨a,rfl⟩:=FH hx
    obtain ⟨b,rfl⟩:=FH hy
    have e:=yI a b
    simp only [Value.bool.injEq] at e
    simp only [M7,Bool.false_eq_true,if_false,List.headD_cons,oK,tB,Bool.and_true]
    rw [Nat.zero_add,run_equalIn_string w d t a b h,e]
  isagg:=Scalar.of h rfl
  size:=hs
  one:=fun _=>rfl
theorem EqOk.part {t:TypeId} {ks:List Nat} {agg:Bool} {n:Nat} (h:EqOk P t ks agg n) (pre mid post:List Value) (hf:wV ks mid=true) (w:World):(Go.part t (pre++(mid++post)).toArray pre.length).run P w=.ok (M7 agg mid) w:=by
  have hl:=eF hf
  cases agg with
  | true =>
    simp only [Go.part,Sem.run_bind,h.isagg w,Result.andThen_ok,if_true,h.size w,Sem.run_pure,M7]
    congr 2
    apply Array.toList_inj.1
    rw [← hl]
    simp
  | false =>
    obtain ⟨v,rfl⟩:=yM hf (h.one rfl)
    simp [Go.part,h.isagg w,M7]
inductive lD (P:Program):List Field→Nat→List Nat→Nat→Prop
  | nil (off n:Nat):lD P [] off [] n
  | cons {f:Field} {fs:List Field} {off n:Nat} {k1 k2:List Nat} {agg:Bool} (hn:f.name≠ "_") (ho:f.offset=off) (h1:EqOk P f.type k1 agg n) (h2:lD P fs (off+k1.length) k2 n):lD P (f::fs) off (k1++k2) n
theorem HQ {fs:List Field} {off n:Nat} {ks:List Nat} (h:lD P fs off ks n):∀ (d:Nat) (w:World) (px py xs ys:List Value),n≤d→px.length=off→py.length=off→wV ks xs=true→wV ks ys=true →
    (Op.eqFields d (px++xs).toArray (py++ys).toArray fs).run P w=.ok (oK xs ys) w:=by
  induction h with
  | nil off n =>
    intro d w px py xs ys _ _ _ hx hy
    have:=eF hx
    have:=eF hy
    have e1:xs=[]:=List.eq_nil_of_length_eq_zero (by assumption)
    have e2:ys=[]:=List.eq_nil_of_length_eq_zero (by assumption)
    subst e1; subst e2
    simp [Op.eqFields,oK]
  | cons hn ho h1 h2 ih =>
    rename_i f fs off n k1 k2 agg
    intro d w px py xs ys hd hpx hpy hx hy
    obtain ⟨x1,x2,rfl,hx1,hx2⟩:=nJ hx
    obtain ⟨y1,y2,rfl,hy1,hy2⟩:=nJ hy
    have e1:=h1.part px x1 x2 hx1 w
    have e2:=h1.part py y1 y2 hy1 w
    rw [hpx] at e1
    rw [hpy] at e2
    have e3:=h1.run d w x1 y1 hd hx1 hy1
    have ih':=ih d w (px++x1) (py++y1) x2 y2 hd (by rw [List.length_append,hpx,eF hx1]) (by rw [List.length_append,hpy,eF hy1]) hx2 hy2
    rw [List.append_assoc,List.append_assoc] at ih'
    rw [tC (by rw [eF hx1,eF hy1])]
    simp only [Op.eqFields,hn,ne_eq,not_false_eq_true,if_true,Sem.run_bind,ho,e1,e2,e3,Result.andThen_ok]
    cases oK x1 y1 with
    | true=>simpa using ih'
    | false=>simp
theorem EqOk.struct {t:TypeId} {fs:Array Field} {ks:List Nat} {n:Nat} (h:P.underlying t=some (.struct fs)) (hp:P.stoodInHeld t=false) (hf:lD P fs.toList 0 ks n) (hs:SizeT P t ks.length):EqOk P t ks true (n+1) where
  run:=fun d w xs ys hd hx hy=>by
    obtain ⟨d,rfl⟩:∃ e,d=e+1:=⟨d-1,by omega⟩
    have e:P.fieldsOf t=fs:=by simp [Program.fieldsOf,h]
    have:=HQ hf d w [] [] xs ys (by omega) rfl rfl hx hy
    simp only [M7,if_true]
    rw [run_equalIn_struct w d t _ _ (by rw [e]; exact h) hp,e]
    simpa using this
  isagg:=(AggT.of h rfl hs).agg
  size:=hs
  one:=fun h=>by cases h
def X4:Nat→List Nat→List Nat
  | 0,_=>[]
  | m+1,ks=>ks++X4 m ks
def pS (d:Nat) (t:TypeId) (sz:Nat) (xs ys:Array Value):List Nat→Sem Bool
  | []=>pure true
  | i::is=>do
    let a ← Go.part t xs (i*sz)
    let b ← Go.part t ys (i*sz)
    let r ← Op.equalIn d t a b
    if (!r)=true then pure false else pS d t sz xs ys is
theorem uE (d:Nat) (w:World) {t e:TypeId} {len sz:Nat} (xs ys:Array Value) (ht:P.underlying t=some (.array len e)) (hs:SizeT P e sz) :
    (Op.equalIn (d+1) t (.agg xs) (.agg ys)).run P w=(pS d e sz xs ys (List.range' 0 len)).run P w:=by
  simp only [Op.equalIn,Sem.run_bind,run_underlying ht,Result.andThen_ok,hs w]
  rw [Std.Legacy.Range.forIn_eq_forIn_range']
  simp only [Std.Legacy.Range.size,Nat.sub_zero,Nat.add_sub_cancel,Nat.div_one]
  generalize List.range' 0 len 1=is
  clear ht
  induction is generalizing w with
  | nil=>simp [pS]
  | cons i is ih =>
    simp only [List.forIn_cons,pS,Sem.run_bind]
    generalize (Go.part e xs (i*sz)).run P w=r1
    cases r1 with
    | ok a w1 =>
      simp only [Result.andThen_ok]
      generalize (Go.part e ys (i*sz)).run P w1=r2
      cases r2 with
      | ok b w2 =>
        simp only [Result.andThen_ok]
        generalize (Op.equalIn d e a b).run P w2=r3
        cases r3 with
        | ok r w3 =>
          cases r
          · simp only [Result.andThen_ok,Bool.not_false,if_true,Sem.run_pure]
          · simp only [Result.andThen_ok,Bool.not_true,Bool.false_eq_true,if_false,Sem.run_pure]
            exact ih w3
        | halt x w3=>simp [Result.andThen]
      | halt x w2=>simp [Result.andThen]
    | halt x w1=>simp [Result.andThen]
theorem BE {t:TypeId} {ks:List Nat} {agg:Bool} {n:Nat} (h:EqOk P t ks agg n) (d:Nat) (hd:n≤d):∀ (m s:Nat) (w:World) (px py xs ys:List Value),px.length=s*ks.length→py.length=s*ks.length→wV (X4 m ks) xs=true→wV (X4 m ks) ys=true →
    (pS d t ks.length (px++xs).toArray (py++ys).toArray (List.range' s m)).run P w=.ok (oK xs ys) w
  | 0,s,w,px,py,xs,ys,_,_,hx,hy=>by
    have:=eF hx
    have:=eF hy
    have e1:xs=[]:=List.eq_nil_of_length_eq_zero (by assumption)
    have e2:ys=[]:=List.eq_nil_of_length_eq_zero (by assumption)
    subst e1; subst e2
    simp [pS,oK]
  | m+1,s,w,px,py,xs,ys,hpx,hpy,hx,hy=>by
    obtain ⟨x1,x2,rfl,hx1,hx2⟩:=nJ hx
    obtain ⟨y1,y2,rfl,hy1,hy2⟩:=nJ hy
    have e1:=h.part px x1 x2 hx1 w
    have e2:=h.part py y1 y2 hy1 w
    rw [hpx] at e1
    rw [hpy] at e2
    have e3:=h.run d w x1 y1 hd hx1 hy1
    have ih':=BE h d hd m (s+1) w (px++x1) (py++y1) x2 y2 (by rw [List.length_append,hpx,eF hx1,Nat.succ_mul]) (by rw [List.length_append,hpy,eF hy1,Nat.succ_mul]) hx2 hy2
    rw [List.append_assoc,List.append_assoc] at ih'
    rw [tC (by rw [eF hx1,eF hy1])]
    simp only [List.range'_succ,pS,Sem.run_bind,e1,e2,e3,Result.andThen_ok]
    cases oK x1 y1 with
    | true=>simpa using ih'
    | false=>simp
theorem EqOk.array {t e:TypeId} {len:Nat} {ks:List Nat} {agg:Bool} {n:Nat} (h:P.underlying t=some (.array len e)) (he:EqOk P e ks agg n) (hs:SizeT P t (X4 len ks).length):EqOk P t (X4 len ks) true (n+1) where
  run:=fun d w xs ys hd hx hy=>by
    obtain ⟨d,rfl⟩:∃ e,d=e+1:=⟨d-1,by omega⟩
    have:=BE he d (by omega) len 0 w [] [] xs ys (by simp) (by simp) hx hy
    simp only [M7,if_true]
    rw [uE d w _ _ h (sz:=ks.length) he.size]
    simpa using this
  isagg:=(AggT.of h rfl hs).agg
  size:=hs
  one:=fun h=>by cases h
theorem M8 {t:TypeId} {ks:List Nat} {n:Nat} (w:World) (x y:Operand) (xs ys:List Value) (h:EqOk P t ks true n) (hn:n≤10000) (hg:P.eqGuardType P.depth t=false) (hx:wV ks xs=true) (hy:wV ks ys=true) :
    Yv P w (do eqGuard .eql t x y (.agg xs.toArray) (.agg ys.toArray); binOp .eql t (.agg xs.toArray) (.agg ys.toArray)) (Bo (oK xs ys)):=Yv.intro fun w'=>by
  have:=h.run 10000 w' xs ys hn hx hy
  simp only [M7,if_true] at this
  simp only [Sem.run_bind,run_eqGuard_agg w' .eql t x y _ _ hg,Result.andThen_ok,run_eql_struct,this]
theorem HM {t:TypeId} {ks:List Nat} {n:Nat} (w:World) (x y:Operand) (xs ys:List Value) (h:EqOk P t ks true n) (hn:n≤10000) (hg:P.eqGuardType P.depth t=false) (hx:wV ks xs=true) (hy:wV ks ys=true) :
    Yv P w (do eqGuard .neq t x y (.agg xs.toArray) (.agg ys.toArray); binOp .neq t (.agg xs.toArray) (.agg ys.toArray)) (Bo (!oK xs ys)):=Yv.intro fun w'=>by
  have:=h.run 10000 w' xs ys hn hx hy
  simp only [M7,if_true] at this
  simp only [Sem.run_bind,run_eqGuard_agg w' .neq t x y _ _ hg,Result.andThen_ok,run_neq_struct,this]
end
section arr
variable {P:Program} (w:World)
theorem HR (B O:Nat) (k:Int) {t n e sz:Nat} (h:P.underlying t=some (.array n e)) (hs:SizeT P e sz) (hk:0≤k∧k<n):Yv P w (Instr.indexAt t (Pt B O) (I k)) (Pt B (O+k.toNat*sz)):=Yv.intro fun w'=>by
  simp [Instr.indexAt,asIntOf,jS h,hs w',Instr.sureAddr,hk,gW]
theorem asl (B:Nat) (k:Int) {t n e sz:Nat} (h:P.underlying t=some (.array n e)) (hs:SizeT P e sz) (hk:0≤k∧k≤n):Yv P w (Instr.sliceAt t (Pt B 0) none (some (I k)) none) (.slice (some ⟨B,0,none⟩) k.toNat n):=Yv.intro fun w'=>by
  simp [Instr.sliceAt,jS h,Instr.slice,Instr.sliceBounds,Instr.sliceBound,asIntOf,hs w',Instr.sureAddr,hk,gW]
end arr
end Go.Fz
namespace Go.Fz
open Go Go.RowKit
section draw
variable {P:Program} {ops:Array Oper} {Q:Exit→Act→World→Prop} {md:Region.Mode} {m0:Nat}
def Gr (m0:Nat) (listed:Array Bool) (w w1:World):Prop:=(listed.getD m0 false=false∧Below w.heap.size w w1)∨w1=w
theorem Gr.refl (listed:Array Bool) (w:World):Gr m0 listed w w:=.inr rfl
theorem Gr.trans {listed:Array Bool} {w w1 w2:World} (h:Gr m0 listed w w1) (h2:Gr m0 listed w1 w2):Gr m0 listed w w2:=by
  rcases h with ⟨h0,h1⟩ | rfl
  · rcases h2 with ⟨_,h3⟩ | rfl
    · exact .inl ⟨h0,h1.trans (h3.mono h1.size)⟩
    · exact .inl ⟨h0,h1⟩
  · exact h2
theorem Gr.below {listed:Array Bool} {w w1:World} (h:Gr m0 listed w w1):Below w.heap.size w w1:=by
  rcases h with ⟨_,h1⟩ | rfl
  · exact h1
  · exact Below.refl _ _
theorem Gr.set {listed:Array Bool} {i:Nat} (hi:i≠m0) {w w1:World} (h:Gr m0 listed w w1):Gr m0 (listed.setIfInBounds i true) w w1 :=
  h.imp (fun ⟨h0,h1⟩=>⟨by rw [getD_set_ne false hi]; exact h0,h1⟩) id
def wpG (P:Program) (md:Region.Mode) (ops:Array Oper) (Q:Exit→Act→World→Prop) (m0:Nat):Nat→Array Bool→Act→World→Prop
  | 0,listed,a,w=>∀ w1,Gr m0 listed w w1→Region.ready md ops listed=[]∧Q .normal a w1
  | f+1,listed,a,w=>∀ w1,Gr m0 listed w w1 →
    (Region.ready md ops listed=[]→Q .normal a w1) ∧
    ∀ i∈Region.ready md ops listed,wpOp P ops Q i (fun a' w'=>(i≠m0→listed.getD m0 false=false→Below w1.heap.size w1 w')∧wpG P md ops Q m0 f (listed.setIfInBounds i true) a' w') a w1
theorem tD:∀ (fuel:Nat) (listed:Array Bool) (a:Act) (w:World),wpG P md ops Q m0 fuel listed a w→wpAny P md ops Q fuel listed a w
  | 0,_,_,w,h=>h w (Gr.refl _ _)
  | fuel+1,_,_,w,h=>⟨(h w (Gr.refl _ _)).1,fun i hi=>wpOp_mono (fun a' w' h'=>tD fuel _ a' w' h'.2) ((h w (Gr.refl _ _)).2 i hi)⟩
theorem wpG.mono {fuel:Nat} {listed:Array Bool} {a:Act} {w w1:World} (h:wpG P md ops Q m0 fuel listed a w) (hg:Gr m0 listed w w1):wpG P md ops Q m0 fuel listed a w1:=by
  cases fuel with
  | zero=>exact fun w2 h2=>h w2 (hg.trans h2)
  | succ f=>exact fun w2 h2=>h w2 (hg.trans h2)
theorem BF {j:Nat} {oi oj:Oper} {v:Value} (hj:ops[j]?=some oj) (hap:oi.apart ops oj=true) (hsj:∀ cs b,oj.op≠.select cs b)
    (hQ:∀ c a w,Q (.panic c) (a.put oi.dst v) w→Q (.panic c) a w) (Y:Act→Prop) (keep:∀ a u,Y a→Y (a.put oj.dst u)) (keepD:∀ a d,Y a→Y { a with defers:=d::a.defers }) {K:Act→World→Prop} {a:Act} {w:World}
    (hy:Y a) (h:wpOp P ops Q j K (a.put oi.dst v) w):wpOp P ops Q j (fun a' w'=>Y a'∧K (a'.put oi.dst v) w') a w:=by
  obtain ⟨h1,h2,_⟩:=Oper.apart_spec hap
  have out:∀ (b:Act) (u:Value) (w':World),Y b→K ((b.put oi.dst v).put oj.dst u) w'→Y (b.put oj.dst u)∧K ((b.put oj.dst u).put oi.dst v) w':=fun b u w' hb hk =>
    ⟨keep b u hb,by rw [← Act.put_comm b v u h2]; exact hk⟩
  unfold wpOp at *
  simp only [hj] at *
  rw [wanted_put oj a oi.dst v h1] at h
  split at h
  · rename_i hw
    rw [if_pos hw]
    rcases h with h | ⟨h,hl⟩
    · refine .inl ?_
      unfold Oper.wp at *
      rw [execOp_put oj hsj a oi.dst v h1] at h
      generalize (execOp a.eval oj).run P w=r at *
      cases r with
      | ok n w' =>
        cases n <;> simp only [Oper.upon] at h ⊢
        case value u=>exact out a u _ hy h
        case skip=>exact out a _ _ hy h
        case defer d =>
          refine out _ _ _ (keepD a d hy) ?_
          rw [← Act.put_defers]
          exact h
        case enter f args =>
          refine Calls.mono h fun e w'' he=>?_
          cases e with
          | returned u=>exact out a u _ hy he
          | panicked c=>exact hQ _ _ _ he
          | outgrown=>exact he
        case row row args=>exact Rows.mono h fun u w'' he=>out a u _ hy he
      | halt x w' =>
        cases x <;> simp only [Oper.upon] at h ⊢
        case panic u=>exact hQ _ _ _ h
    · exact .inr ⟨by unfold Oper.asks at *; rw [execOp_put oj hsj a oi.dst v h1] at h; exact h,hl⟩
  · rename_i hw
    rw [if_neg hw]
    exact out a _ _ hy h
def YG (P:Program) (ops:Array Oper) (w:World) (o:Oper) (v:Value) (a:Act):Prop :=
  (Region.wanted o (yielded ops a.tmps)=true∧q8 P w (execOp a.eval o) v)∨(Region.wanted o (yielded ops a.tmps)=false∧v=undef)
theorem YG.grow {w w':World} {o:Oper} {v:Value} {a:Act} (h:YG P ops w o v a) (hb:Below w.heap.size w w'):YG P ops w' o v a :=
  h.imp (fun ⟨h0,h1⟩=>⟨h0,fun w1 hw1=>h1 w1 (hb.trans (hw1.mono hb.size))⟩) id
theorem YG.same {w:World} {o:Oper} {v:Value} {a a':Act} (h:YG P ops w o v a) (he:execOp a'.eval o=execOp a.eval o) (hw:Region.wanted o (yielded ops a'.tmps)=Region.wanted o (yielded ops a.tmps)):YG P ops w o v a':=by
  unfold YG at *; rw [he,hw]; exact h
theorem YG.wpOp {w w1:World} {i:Nat} {o:Oper} {v:Value} {a:Act} {K:Act→World→Prop} (hi:ops[i]?=some o) (hy:YG P ops w o v a) (hb:Below w.heap.size w w1) (h:∀ w2,Below w1.heap.size w1 w2→K (a.put o.dst v) w2):wpOp P ops Q i K a w1:=by
  unfold Go.wpOp
  simp only [hi]
  rcases hy with ⟨hw,hq⟩ | ⟨hw,rfl⟩
  · rw [if_pos hw]
    refine .inl ?_
    exact Oper.wp_of_quiet (C:=fun w2=>w2=w1∨Below w1.heap.size w1 w2) (K:=fun a'=>a'=a.put o.dst v) (.inl rfl)
      (fun a' w' hw' ha'=>by subst ha'; rcases hw' with rfl | hw'; exact h _ (Below.refl _ _); exact h _ hw') ⟨v,fun w2 hw2=>by
        rcases hw2 with rfl | hw2
        · exact nF (fun w3 h3=>.inr h3) (hq _ hb)
        · have h4:=hq w2 (hb.trans (hw2.mono hb.size))
          exact nF (fun w3 h3=>.inr (hw2.trans (h3.mono hw2.size))) h4,rfl⟩
  · rw [if_neg (by simp [hw])]
    exact h _ (Below.refl _ _)
def Closed (md:Region.Mode) (ops:Array Oper) (listed:Array Bool):Prop:=∀ j oj,ops[j]?=some oj→listed.getD j false=true→∀ e∈oj.after,Region.binds md e=true→listed.getD e.on false=true
theorem Closed.set {listed:Array Bool} {i:Nat} (h:Closed md ops listed) (hi:i∈Region.ready md ops listed):Closed md ops (listed.setIfInBounds i true):=by
  obtain ⟨_,oi,hoi,hall⟩:=mem_ready.1 hi
  intro j oj hj hl e he hb
  by_cases hij:i=j
  · subst hij
    obtain rfl:oj=oi:=Option.some.inj (hj.symm.trans hoi)
    exact getD_set_true (hall e he hb)
  · rw [getD_set_ne false hij] at hl
    exact getD_set_true (h j oj hj hl e he hb)
def BG (md:Region.Mode) (ops:Array Oper) (j i:Nat):Bool:=match ops[j]? with | some oj=>oj.after.any fun e=>Region.binds md e&&e.on==i | none=>false
def vM (md:Region.Mode) (ops:Array Oper):Nat→List Nat→Nat→Bool
  | j,[],i=>BG md ops j i
  | j,x::xs,i=>BG md ops j x&&vM md ops x xs i
theorem uF {listed:Array Bool} (hc:Closed md ops listed) {j i:Nat} (h:BG md ops j i=true) (hl:listed.getD j false=true):listed.getD i false=true:=by
  unfold BG at h
  split at h
  · rename_i oj hj
    obtain ⟨e,he,hb⟩:=Array.any_eq_true'.1 h
    simp only [Bool.and_eq_true,beq_iff_eq] at hb
    rw [← hb.2]
    exact hc j oj hj hl e he hb.1
  · cases h
theorem uG {listed:Array Bool} (hc:Closed md ops listed):∀ (xs:List Nat) (j i:Nat),vM md ops j xs i=true→listed.getD j false=true→listed.getD i false=true
  | [],_,_,h,hl=>uF hc h hl
  | x::xs,j,i,h,hl=>by
    simp only [vM,Bool.and_eq_true] at h
    exact uG hc xs x i h.2 (uF hc h.1 hl)
theorem wW {listed:Array Bool} {j i:Nat} (h:BG md ops j i=true) (hr:j∈Region.ready md ops listed):listed.getD i false=true:=by
  obtain ⟨_,o,ho,hall⟩:=mem_ready.1 hr
  unfold BG at h
  rw [ho] at h
  obtain ⟨e,he,hb⟩:=Array.any_eq_true'.1 h
  simp only [Bool.and_eq_true,beq_iff_eq] at hb
  rw [← hb.2]
  exact hall e he hb.1
theorem FI {listed:Array Bool} (hc:Closed md ops listed) {xs:List Nat} {j i:Nat} (h:vM md ops j xs i=true) (hr:j∈Region.ready md ops listed):listed.getD i false=true:=by
  cases xs with
  | nil=>exact wW h hr
  | cons x xs =>
    simp only [vM,Bool.and_eq_true] at h
    exact uG hc xs x i h.2 (wW h.1 hr)
theorem lG {listed:Array Bool} {i:Nat} (h:i∈Region.ready md ops listed):listed.getD i false=false:=by
  have h0:=(mem_ready.1 h).1
  rcases Nat.lt_or_ge i listed.size with h' | h'
  · simp [h'] at h0 ⊢; exact h0
  · simp [Array.getElem?_eq_none h']
theorem X5 {i:Nat} {oi:Oper} {v:Value} (hi:ops[i]?=some oi) (hsel:∀ (j:Nat) (o:Oper) cs b,ops[j]?=some o→o.op≠.select cs b) (hQ:∀ c a w,Q (.panic c) (a.put oi.dst v) w→Q (.panic c) a w)
    (him:i≠m0) (hm:∀ listed,Closed md ops listed→m0∈Region.ready md ops listed→listed.getD i false=true) :
    ∀ (fuel:Nat) (listed:Array Bool) (a:Act) (w:World),Closed md ops listed→listed.getD m0 false=false →
      (∀ j oj,ops[j]?=some oj→j≠i→listed.getD j true=false→(∀ e∈oj.after,Region.binds md e=true→e.on≠i)→oi.apart ops oj=true) →
      i∈Region.ready md ops listed→YG P ops w oi v a →
      wpG P md ops Q m0 fuel (listed.setIfInBounds i true) (a.put oi.dst v) w→wpG P md ops Q m0 (fuel+1) listed a w:=by
  intro fuel
  induction fuel with
  | zero =>
    intro listed a w hcl hun hfree hr hy H w1 hg
    refine ⟨fun h=>(by rw [h] at hr; cases hr),fun j hj=>?_⟩
    by_cases hji:j=i
    · subst hji
      exact hy.wpOp hi hg.below fun w2 h2=>⟨fun _ _=>h2,H.mono (.inl ⟨by rw [getD_set_ne false him]; exact hun,hg.below.trans (h2.mono hg.below.size)⟩)⟩
    · have:=ready_mono hj hji
      rw [(H w (Gr.refl _ _)).1] at this
      cases this
  | succ fuel ih =>
    intro listed a w hcl hun hfree hr hy H w1 hg
    refine ⟨fun h=>(by rw [h] at hr; cases hr),fun j hj=>?_⟩
    by_cases hji:j=i
    · subst hji
      exact hy.wpOp hi hg.below fun w2 h2=>⟨fun _ _=>h2,H.mono (.inl ⟨by rw [getD_set_ne false him]; exact hun,hg.below.trans (h2.mono hg.below.size)⟩)⟩
    · have hjm:j≠m0:=fun e=>by
        subst e
        have h1:=hm listed hcl hj
        rw [lG hr] at h1
        cases h1
      have h1:=(H w1 (hg.set him)).2 j (ready_mono hj hji)
      obtain ⟨hjun,oj,hoj,hall⟩:=mem_ready.1 hj
      have hnot:∀ e∈oj.after,Region.binds md e=true→e.on≠i:=fun e he hb heq=>by
        have h1:=hall e he hb
        rw [heq,lG hr] at h1
        cases h1
      have hap:=hfree j oj hoj hji hjun hnot
      obtain ⟨_,_,hlk⟩:=Oper.apart_spec hap
      have h2:=BF hoj hap (fun cs b=>hsel j oj cs b hoj) hQ (fun a=>YG P ops w oi v a)
        (fun a u ha=>ha.same (execOp_put oi (fun cs b=>hsel i oi cs b hi) a oj.dst u hlk) (wanted_put oi a oj.dst u hlk)) (fun a d ha=>ha.same rfl rfl) hy h1
      have hfree':∀ k ok,ops[k]?=some ok→k≠i→(listed.setIfInBounds j true).getD k true=false→(∀ e∈ok.after,Region.binds md e=true→e.on≠i)→oi.apart ops ok=true:=fun k ok hk hki hkun hno=>by
        refine hfree k ok hk hki ?_ hno
        by_cases hjk:j=k
        · subst hjk; exact hjun
        · rw [getD_set_ne true hjk] at hkun; exact hkun
      refine wpOp_mono (fun a' w' ⟨hy',hb',hG⟩=>?_) h2
      have hbw:=hb' hjm (by rw [getD_set_ne false him]; exact hun)
      refine ⟨fun _ _=>hbw,ih (listed.setIfInBounds j true) a' w' (hcl.set hj) (by rw [getD_set_ne false hjm]; exact hun) hfree' (ready_mono hr (Ne.symm hji)) (hy'.grow (hg.below.trans (hbw.mono hg.below.size))) ?_⟩
      rw [Array.setIfInBounds_comm _ _ hji]
      exact hG
theorem X6 {i:Nat} {oi:Oper} {v:Value} (hi:ops[i]?=some oi) (hsel:∀ (j:Nat) (o:Oper) cs b,ops[j]?=some o→o.op≠.select cs b) (hQ:∀ c a w,Q (.panic c) (a.put oi.dst v) w→Q (.panic c) a w) (him:i≠m0) :
    ∀ (fuel:Nat) (listed:Array Bool) (a:Act) (w:World),
      (∀ j oj,ops[j]?=some oj→j≠i→listed.getD j true=false→(∀ e∈oj.after,Region.binds md e=true→e.on≠i)→oi.apart ops oj=true) →
      i∈Region.ready md ops listed→Yields P ops oi v a →
      wpG P md ops Q m0 fuel (listed.setIfInBounds i true) (a.put oi.dst v) w→wpG P md ops Q m0 (fuel+1) listed a w:=by
  intro fuel
  induction fuel with
  | zero =>
    intro listed a w hfree hr hy H w1 hg
    refine ⟨fun h=>(by rw [h] at hr; cases hr),fun j hj=>?_⟩
    by_cases hji:j=i
    · subst hji
      exact hy.wpOp hi ⟨fun _ _=>Below.refl _ _,H.mono (hg.set him)⟩
    · have:=ready_mono hj hji
      rw [(H w (Gr.refl _ _)).1] at this
      cases this
  | succ fuel ih =>
    intro listed a w hfree hr hy H w1 hg
    refine ⟨fun h=>(by rw [h] at hr; cases hr),fun j hj=>?_⟩
    by_cases hji:j=i
    · subst hji
      exact hy.wpOp hi ⟨fun _ _=>Below.refl _ _,H.mono (hg.set him)⟩
    · have h1:=(H w1 (hg.set him)).2 j (ready_mono hj hji)
      obtain ⟨hjun,oj,hoj,hall⟩:=mem_ready.1 hj
      have hnot:∀ e∈oj.after,Region.binds md e=true→e.on≠i:=fun e he hb heq=>by
        have h1:=hall e he hb
        rw [heq,lG hr] at h1
        cases h1
      have hap:=hfree j oj hoj hji hjun hnot
      have h2:=wpOp_put hoj hap (fun cs b=>hsel i oi cs b hi) (fun cs b=>hsel j oj cs b hoj) (fun c a w h=>hQ _ _ _ h) hy h1
      have hfree':∀ k ok,ops[k]?=some ok→k≠i→(listed.setIfInBounds j true).getD k true=false→(∀ e∈ok.after,Region.binds md e=true→e.on≠i)→oi.apart ops ok=true:=fun k ok hk hki hkun hno=>by
        refine hfree k ok hk hki ?_ hno
        by_cases hjk:j=k
        · subst hjk; exact hjun
        · rw [getD_set_ne true hjk] at hkun; exact hkun
      refine wpOp_mono (fun a' w' ⟨hy',hb',hG⟩=>⟨fun h3 h4=>hb' h3 (by rw [getD_set_ne false him]; exact h4),ih (listed.setIfInBounds j true) a' w' hfree' (ready_mono hr (Ne.symm hji)) hy' ?_⟩) h2
      rw [Array.setIfInBounds_comm _ _ hji]
      exact hG
end draw
end Go.Fz
namespace Go.Fz
open Go Go.RowKit
section dw
variable {P:Program} {Q:Exit→Act→World→Prop} {m0:Nat} {l:List Oper}
def oL (n k:Nat):Array Bool:=((List.range n).map fun i=>Nat.blt i k).toArray
theorem BH (n:Nat):oL n 0=Array.replicate n false:=by
  apply Array.toList_inj.1
  apply List.ext_getElem?
  intro i
  simp only [oL,Array.toList_replicate,List.getElem?_map,List.getElem?_replicate]
  rcases Nat.lt_or_ge i n with h | h
  · rw [List.getElem?_range h,if_pos h]
    simp only [Option.map_some,Option.some.injEq]
    rw [← Bool.not_eq_true,Nat.blt_eq]; omega
  · rw [if_neg (by omega)]
    simp [List.getElem?_eq_none,h]
theorem FJ {n k j:Nat} (d:Bool) (h:j<n):(oL n k).getD j d=Nat.blt j k:=by
  simp [oL,Array.getD,h]
theorem NI {n k j:Nat} (d:Bool) (h:n≤j):(oL n k).getD j d=d:=by
  simp [oL,Array.getD,Nat.not_lt.2 h]
theorem BI {n k j:Nat} (h:(oL n k).getD j false=true):j<k:=by
  rcases Nat.lt_or_ge j n with h' | h'
  · rw [FJ false h',Nat.blt_eq] at h; exact h
  · rw [NI false h'] at h; cases h
theorem FK {n k j:Nat} (h:j<k) (hn:j<n):(oL n k).getD j false=true:=by rw [FJ false hn,Nat.blt_eq]; exact h
theorem RQ {n k j:Nat} (h:k≤j):(oL n k).getD j false=false:=by
  rw [← Bool.not_eq_true]; exact fun e=>by have:=BI e; omega
theorem vN {n k:Nat} (h:k<n):(oL n k).setIfInBounds k true=oL n (k+1):=by
  apply Array.toList_inj.1
  apply List.ext_getElem?
  intro i
  simp only [oL,Array.toList_setIfInBounds,List.getElem?_set,List.getElem?_map,List.length_map,List.length_range]
  rcases Nat.lt_or_ge i n with hi | hi
  · by_cases hk:k=i
    · subst hk; simp [List.getElem?_range hi,hi,Nat.blt]
    · rw [if_neg hk,List.getElem?_range hi]
      simp only [Option.map_some,Option.some.injEq]
      rw [Bool.eq_iff_iff,Nat.blt_eq,Nat.blt_eq]
      omega
  · rw [if_neg (by omega)]
    simp [List.getElem?_eq_none,hi]
def DW (P:Program) (l:List Oper) (Q:Exit→Act→World→Prop) (m0 k:Nat) (a:Act) (w:World):Prop:=wpG P .any l.toArray Q m0 (l.length-k) (oL l.length k) a w
theorem aL {id:Nat} {a:Act} {w:World} (hm:P.follows .mixedOrders=true) (m0:Nat) (h:DW P l Q m0 0 a w):(Code.region id l.toArray true).wp P Q a w:=by
  refine wp_region_any hm (tD (m0:=m0) _ _ _ _ ?_)
  unfold DW at h
  rw [BH] at h
  refine wpG.mono (w:=w) (by simpa using h) (.inl ⟨?_,(Below.refl _ w).drew⟩)
  simp only [List.size_toArray]
  rcases Nat.lt_or_ge m0 l.length with h' | h'
  · simp [h']
  · simp [Array.getElem?_eq_none (show (Array.replicate l.length false).size≤m0 by simpa using h')]
def JA (ops:Array Oper) (k:Nat):Bool:=(List.range k).all fun j=>match ops[j]? with | some o=>o.after.all fun e => !Region.binds .any e||Nat.blt e.on k&&Nat.blt e.on ops.size | none=>true
theorem FL {k:Nat} (h:JA l.toArray k=true):Closed .any l.toArray (oL l.length k):=by
  intro j oj hj hl e he hb
  have hjk:j<k:=BI hl
  have h1:=List.all_eq_true.1 h j (List.mem_range.2 hjk)
  rw [hj] at h1
  have h2:=Array.all_eq_true_iff_forall_mem.1 h1 e he
  simp only [hb,Bool.not_true,Bool.false_or,Bool.and_eq_true,Nat.blt_eq,List.size_toArray] at h2
  exact FK h2.1 h2.2
def NJ (o:Oper):Bool:=match o.op with
  | .move _=>true
  | .assign _=>true
  | .pick ..=>true
  | .extract ..=>true
  | .unOp .not _ _=>true
  | _=>false
theorem FM {ops:Array Oper} {o:Oper} {v:Value} {a:Act} {w:World} (hp:NJ o=true) (h:YG P ops w o v a):Yields P ops o v a:=by
  rcases h with ⟨hw,hq⟩ | h
  · refine .inl ⟨hw,fun w2=>?_⟩
    have h1:=hq w (Below.refl _ _)
    obtain ⟨dst,op,ty,pos,after,guard⟩:=o
    unfold NJ at hp
    split at hp
    · rename_i x hx; simp only at hx; subst hx
      simp only [execOp,Sem.run_pure,Oper.quietUpon] at h1 ⊢
      rw [h1.2]
    · rename_i x hx; simp only at hx; subst hx
      simp only [execOp,Sem.run_pure,Oper.quietUpon] at h1 ⊢
      rw [h1.2]
    · rename_i c x y hx; simp only at hx; subst hx
      simp only [execOp] at h1 ⊢
      generalize a.eval c=cv at h1 ⊢
      cases cv <;> first | (simp only [asBool,Sem.run_bind,Sem.run_pure,Result.andThen_ok,Oper.quietUpon] at h1 ⊢; rw [h1.2]) | (simp [asBool,Oper.quietUpon,Result.andThen] at h1)
    · rename_i x i hx; simp only at hx; subst hx
      simp only [execOp] at h1 ⊢
      generalize a.eval x=xv at h1 ⊢
      cases xv <;> first | (simp [Instr.extract,Oper.quietUpon,Result.andThen] at h1; done) | skip
      rename_i vs
      simp only [Instr.extract] at h1 ⊢
      cases hv:vs[i]? <;> simp [hv,Oper.quietUpon,Result.andThen] at h1 ⊢
      exact h1
    · rename_i t x hx; simp only at hx; subst hx
      simp only [execOp] at h1 ⊢
      generalize a.eval x=xv at h1 ⊢
      cases xv <;> simp [Op.unary,Oper.quietUpon,Result.andThen] at h1 ⊢
      exact h1
    · cases hp
  · exact .inr h
def yO (l:List Oper) (m0:Nat):Nat→List (Option (List Nat))→Bool
  | _,[]=>true
  | k,c::cs=>(Region.ready .any l.toArray (oL l.length k)).contains k&&Region.free .any l.toArray (oL l.length k) k && !Nat.beq k m0 &&
      (match c with
        | some ch=>Nat.ble k m0&&JA l.toArray k&&(Nat.ble l.length m0||vM .any l.toArray m0 ch k)
        | none=>match l[k]? with | some o=>NJ o | none=>false)&&yO l m0 (k+1) cs
theorem NK (hs:Region.noSelect l.toArray=true) (hQ:∀ o∈l,∀ c v a w,Q (.panic c) (a.put o.dst v) w→Q (.panic c) a w) {wb:World} {Qq:Act→Prop}:∀ (cs:List (Option (List Nat))) (k:Nat) (a:Act) (w:World),Below wb.heap.size wb w→yO l m0 k cs=true →
    RM P l.toArray wb Qq ((l.drop k).take cs.length) a→(∀ a',Qq a'→DW P l Q m0 (k+cs.length) a' w)→DW P l Q m0 k a w
  | [],k,a,w,_,_,h,hn=>hn a (by simpa [RM] using h)
  | c::cs,k,a,w,hb,hB,h,hn=>by
    simp only [yO,Bool.and_eq_true] at hB
    obtain ⟨⟨⟨⟨hr,hf⟩,hkm⟩,hc⟩,hB'⟩:=hB
    have hr':k∈Region.ready .any l.toArray (oL l.length k):=by simpa using hr
    obtain ⟨_,o,ho,_⟩:=mem_ready.1 hr'
    have hlt:k<l.length:=by simpa using (Array.getElem?_eq_some_iff.1 ho).1
    have hne:k≠m0:=fun e=>by subst e; simp at hkm
    have hlk:l[k]?=some o:=by simpa using ho
    have hget:l[k]=o:=by rw [List.getElem?_eq_getElem hlt] at hlk; exact Option.some.inj hlk
    rw [List.length_cons,List.drop_eq_getElem_cons hlt,List.take_succ_cons,hget] at h
    obtain ⟨v,hv,h'⟩:=h
    have hyg:YG P l.toArray w o v a:=YG.grow hv hb
    have ih:=NK hs hQ cs (k+1) (a.put o.dst v) w hb hB' h' (fun a' ha'=>by have:=hn a' ha'; rw [List.length_cons] at this; rw [show k+1+cs.length=k+(cs.length+1) by omega]; exact this)
    unfold DW at ih ⊢
    rw [show l.length-k=(l.length-(k+1))+1 by omega]
    rw [← vN hlt] at ih
    have hsel:=Region.noSelect_spec hs
    have hfree:=Region.free_spec ho hf
    cases c with
    | some ch =>
      simp only [Bool.and_eq_true,Bool.or_eq_true] at hc
      obtain ⟨⟨hc1,hc2⟩,hc3⟩:=hc
      have hle:=Nat.le_of_ble_eq_true hc1
      have hun:(oL l.length k).getD m0 false=false:=RQ hle
      refine X5 ho hsel (fun c a w=>hQ o (List.mem_of_getElem? hlk) c _ a w) hne (fun listed hcl hrm=>?_) _ _ _ _ (FL hc2) hun hfree hr' hyg ih
      rcases hc3 with hc3 | hc3
      · obtain ⟨_,o2,ho2,_⟩:=mem_ready.1 hrm
        have h1:=(Array.getElem?_eq_some_iff.1 ho2).1
        have h2:=Nat.le_of_ble_eq_true hc3
        simp only [List.size_toArray] at h1
        omega
      · exact FI hcl hc3 hrm
    | none =>
      simp only [hlk] at hc
      exact X6 ho hsel (fun c a w=>hQ o (List.mem_of_getElem? hlk) c _ a w) hne _ _ _ _ hfree hr' (FM hc hyg) ih
section sta
variable {a:Act} {w w0:World} {n:Nat} {E:List d9} {H:List Item} {ds:List Deferred}
theorem Sta.grow {w1:World} (s:Sta n ds w0 E H a w) (h:Below w.heap.size w w1):Sta n ds w0 E H a w1:=⟨s.f,s.d,s.m.grow h⟩
theorem dqx {hs:List Value} {E1:List d9} {ks:List Nat} {O:Prop} (s:Sta n ds w0 E H a w) (k:Nat) (cs:List (Option (List Nat))) (hev:nH P w l.toArray n ((l.drop k).take cs.length) hs E ks=some (E1,O)) (hO:O)
    (hsel:Region.noSelect l.toArray=true) (hB:yO l m0 k cs=true) (hQ:∀ o∈l,∀ c v a w,Q (.panic c) (a.put o.dst v) w→Q (.panic c) a w)
    (next:∀ a',Sta n ds w0 E1 H a' w→DW P l Q m0 (k+cs.length) a' w):DW P l Q m0 k a w :=
  NK hsel hQ cs k a w (Below.refl _ _) hB (K7 s.f hev hO (Qq:=fun a'=>a'.defers=a.defers∧Fits n a' E1) fun a' h1 h2=>⟨h1,h2⟩) fun a' h=>next a' ⟨h.2,h.1.trans s.d,s.m⟩
theorem dq {hs:List Value} {E1:List d9} {ks:List Nat} {O:Prop} (s:Sta n ds w0 E H a w) (k:Nat) (cs:List (Option (List Nat))) (hev:nH P w l.toArray n ((l.drop k).take cs.length) hs E ks=some (E1,O)) (hO:O)
    (hsel:Region.noSelect l.toArray=true) (hB:yO l m0 k cs=true) (hQ:∀ c d v a w,Q (.panic c) (a.put d v) w→Q (.panic c) a w)
    (next:∀ a',Sta n ds w0 E1 H a' w→DW P l Q m0 (k+cs.length) a' w):DW P l Q m0 k a w :=
  dqx s k cs hev hO hsel hB (fun _ _ c v a w=>hQ c _ v a w) next
theorem WL.lone {K:Act→World→Prop} {o:Oper} {a:Act} {w:World} (hg:o.guard=none) (h:WL P [o] (Exit.then K Q) 0 a w):o.wp P a w K Q∨(o.asks P a w∧LetsOut Q):=by
  unfold WL at h
  simp only [List.drop_zero,wpList,Region.wanted,hg,if_true] at h
  rcases h with h | ⟨h1,a1,w1,h2⟩
  · refine .inl ?_
    unfold Oper.wp at *
    generalize (execOp a.eval o).run P w=r at *
    cases r with
    | ok nx w' =>
      cases nx <;> simp only [Oper.upon] at h ⊢ <;> exact h
    | halt x w'=>cases x <;> simp only [Oper.upon] at h ⊢ <;> first | exact h | exact h.elim
  · exact .inr ⟨h1,a1,w1,h2⟩
theorem df (s:Sta n ds w0 E H a w) (k:Nat) {o o':Oper} {p:List (Nat × Bool)} (ho:l[k]?=some o) (hp:lF l.toArray E o=some p) (hfl:fZ E p=true) (ho':{ o with guard:=none }=o') (hr:Region.ready .any l.toArray (oL l.length k)=[k]) (hk:Nat.ble m0 k=true)
    (h:∀ w1,Sta n ds w0 E H a w1→WL P [o'] (Exit.then (fun a' w'=>DW P l Q m0 (k+1) a' w') Q) 0 a w1):DW P l Q m0 k a w:=by
  have hlt:k<l.length:=(List.getElem?_eq_some_iff.1 ho).1
  have hle:=Nat.le_of_ble_eq_true hk
  unfold DW
  rw [show l.length-k=(l.length-(k+1))+1 by omega]
  intro w1 hg
  refine ⟨fun h0=>(by rw [hr] at h0; cases h0),fun i hi=>?_⟩
  rw [hr] at hi
  obtain rfl:i=k:=by simpa using hi
  have h1:=WL.lone (by rw [← ho']) (h w1 (s.grow hg.below))
  unfold wpOp
  have ho2:l.toArray[i]?=some o:=by simpa using ho
  simp only [ho2,fI s.f hp,hfl,if_true]
  have e1:∀ (K:Act→World→Prop),o'.wp P a w1 K Q→o.wp P a w1 K Q:=fun K hK=>by subst ho'; exact hK
  rcases h1 with h1 | ⟨h1,h2⟩
  · refine .inl (e1 _ (Oper.wp_mono (fun a' w' hd=>⟨fun h3 h4=>?_,?_⟩) h1))
    · rcases Nat.lt_or_ge m0 i with h5 | h5
      · rw [FK h5 (by omega)] at h4; cases h4
      · exact absurd (Nat.le_antisymm h5 hle) h3
    · rw [vN hlt]; exact hd
  · exact .inr ⟨by subst ho'; exact h1,h2⟩
theorem HN (s:Sta n ds w0 E H a w) (k:Nat) {o o':Oper} {p:List (Nat × Bool)} (ho:l[k]?=some o) (hp:lF l.toArray E o=some p) (hfl:fZ E p=true) (ho':{ o with guard:=none }=o') (hr:Region.ready .any l.toArray (oL l.length k)=[k])
    (h:∀ w1,Sta n ds w0 E H a w1→WL P [o'] (Exit.then (fun a' w'=>Below w1.heap.size w1 w'∧DW P l Q m0 (k+1) a' w') Q) 0 a w1):DW P l Q m0 k a w:=by
  have hlt:k<l.length:=(List.getElem?_eq_some_iff.1 ho).1
  unfold DW
  rw [show l.length-k=(l.length-(k+1))+1 by omega]
  intro w1 hg
  refine ⟨fun h0=>(by rw [hr] at h0; cases h0),fun i hi=>?_⟩
  rw [hr] at hi
  obtain rfl:i=k:=by simpa using hi
  have h1:=WL.lone (by rw [← ho']) (h w1 (s.grow hg.below))
  unfold wpOp
  have ho2:l.toArray[i]?=some o:=by simpa using ho
  simp only [ho2,fI s.f hp,hfl,if_true]
  have e1:∀ (K:Act→World→Prop),o'.wp P a w1 K Q→o.wp P a w1 K Q:=fun K hK=>by subst ho'; exact hK
  rcases h1 with h1 | ⟨h1,h2⟩
  · refine .inl (e1 _ (Oper.wp_mono (fun a' w' hd=>⟨fun _ _=>hd.1,?_⟩) h1))
    rw [vN hlt]; exact hd.2
  · exact .inr ⟨by subst ho'; exact h1,h2⟩
theorem dd {k:Nat} (s:Sta n ds w0 E H a w) (hr:Region.ready .any l.toArray (oL l.length k)=[]) (h:∀ w1,Sta n ds w0 E H a w1→Q .normal a w1):DW P l Q m0 k a w:=by
  unfold DW
  generalize l.length-k=f
  cases f with
  | zero=>exact fun w1 hg=>⟨hr,h w1 (s.grow hg.below)⟩
  | succ f=>exact fun w1 hg=>⟨fun _=>h w1 (s.grow hg.below),fun i hi=>(by rw [hr] at hi; cases hi)⟩
theorem lab (s:Sta n ds w0 E H a w) (k:Nat) {d t ty:Nat} {pos:String} {after:Array Edge} {z:Value} (cs:List Value) (ho:l[k]?=some ⟨some d,.alloc t,ty,pos,after,none⟩) (hz:ZeroT P t z) (hcs:z.cells=cs.toArray)
    (hok:eT n E d []=true) (next:∀ B a' w',Below w.heap.size w w'→Sta n ds w0 (put E d [] (Pt B 0)) (cI B t cs::H) a' w'→WL P l Q (k+1) a' w'):WL P l Q k a w :=
  WL.alloc k cs s.f s.m ho hz hcs hok fun B a' w' h1 h2 h3 h4=>next B a' w' h4 ⟨h2,h1.trans s.d,h3⟩
theorem FN (s:Sta n ds w0 E H a w) (k:Nat) {d t e ty m:Nat} {parts:Array (Nat × Operand)} {pos:String} {after:Array Edge} {vs:List Value} (cs:List Value) (ho:l[k]?=some ⟨some d,.buildSlice t m parts,ty,pos,after,none⟩)
    (hx:xQ E [] (parts.toList.map (·.2))=some vs)
    (hrun':∀ w,(Instr.buildSlice t m ((parts.toList.map (·.1)).zip vs).toArray).run P w=.ok (.slice (some ⟨w.heap.size,0,none⟩) m m) (w.alloc (.cells cs.toArray e)))
    (hok:eT n E d []=true) (next:∀ B a' w',Below w.heap.size w w'→Sta n ds w0 (put E d [] (.slice (some ⟨B,0,none⟩) m m)) (cI B e cs::H) a' w'→WL P l Q (k+1) a' w'):WL P l Q k a w :=
  WL.buildSlice k cs s.f s.m ho hx hrun' hok fun B a' w' h1 h2 h3 h4=>next B a' w' h4 ⟨h2,h1.trans s.d,h3⟩
theorem lqb {hs:List Value} {E1:List d9} {ks:List Nat} {O:Prop} (s:Sta n ds w0 E H a w) (k m:Nat) (hev:nH P w l.toArray n ((l.drop k).take m) hs E ks=some (E1,O)) (hO:O)
    (next:∀ a' w',Below w.heap.size w w'→Sta n ds w0 E1 H a' w'→WL P l Q (k+m) a' w'):WL P l Q k a w :=
  WL.quiet k m s.f hev hO fun a' w' h1 h2 h3=>next a' w' h3 ⟨h2,h1.trans s.d,s.m.grow h3⟩
theorem adW {α:Type} {enc:α→List Value} {sz e:Nat} {xs:List α} (s:Sta n ds w0 E H a w) (k:Nat) {dst:Option Nat} {f:Operand} {args:Array Operand} {ats:Array TypeId} {ty g:Nat} {pos:String} {after:Array Edge} {fi ca:Array Value} {vs:List Value}
    (ho:l[k]?=some ⟨dst,.call ⟨.value f,args,ats⟩,ty,pos,after,none⟩) (hf:rd E [] f=some (.func (.func g) fi ca)) (hargs:xQ E [] args.toList=some vs) (hent:Enters P g) (hok:RF n E dst=true)
    (hc:Calls P g (fi.toList++vs++ca.toList).toArray w (qV e sz enc xs w)) (next:∀ oa c a' w',Below w.heap.size w w'→Sta n ds w0 (Fz.putd E dst (.slice oa xs.length c)) (oR e sz enc oa c xs::H) a' w'→WL P l Q (k+1) a' w'):WL P l Q k a w :=
  lc s k ho hf hargs hent hok hc fun en w' ⟨oa,c,h1,h2,h3⟩=>by subst h1; exact fun a' h4 h5=>next oa c a' w' h3 (s.got h3 h2 h4 h5)
end sta
end dw
end Go.Fz
namespace Go.Fz
open Go Go.RowKit
section join
variable {P:Program} {w0 w w':World} {H H':List Item}
theorem St.join (h:St w0 H w) (h':St w H' w'):St w0 (H'++H) w':=by
  have hg:=h.grow h'.below
  refine ⟨hg.below,fun it hit=>?_,fun it hit B hB=>?_,?_⟩
  · rcases List.mem_append.1 hit with hit | hit
    · exact h'.ok it hit
    · exact hg.ok it hit
  · rcases List.mem_append.1 hit with hit | hit
    · exact ⟨Nat.le_trans h.size (h'.lo it hit B hB).1,(h'.lo it hit B hB).2⟩
    · exact hg.lo it hit B hB
  · rw [List.filterMap_append]
    refine List.nodup_append.2 ⟨h'.sep,h.sep,fun a ha b hb=>?_⟩
    obtain ⟨x,hx,hxa⟩:=List.mem_filterMap.1 ha
    obtain ⟨y,hy,hyb⟩:=List.mem_filterMap.1 hb
    have h1:=(h'.lo x hx a hxa).1
    have h2:=(h.lo y hy b hyb).2
    omega
variable {Q:Exit→Act→World→Prop} {a:Act} {n:Nat} {E:List d9} {ds:List Deferred} {l:List Oper}
def vO {α:Type} (v:α→Value) (I:α→List Item) (φ:α→Prop) (w:World):Ending→World→Prop:=fun e w'=>∃ x,e=.returned (v x)∧φ x∧St w (I x) w'
theorem lh {α:Type} {v:α→Value} {I:α→List Item} {φ:α→Prop} (s:Sta n ds w0 E H a w) (k:Nat) {dst:Option Nat} {f:Operand} {args:Array Operand} {ats:Array TypeId} {ty g:Nat} {pos:String} {after:Array Edge} {fi ca:Array Value} {vs:List Value}
    (ho:l[k]?=some ⟨dst,.call ⟨.value f,args,ats⟩,ty,pos,after,none⟩) (hf:rd E [] f=some (.func (.func g) fi ca)) (hargs:xQ E [] args.toList=some vs) (hent:Enters P g) (hok:RF n E dst=true)
    (hc:Calls P g (fi.toList++vs++ca.toList).toArray w (vO v I φ w)) (next:∀ x a' w',φ x→Sta n ds w0 (Fz.putd E dst (v x)) (I x++H) a' w'→WL P l Q (k+1) a' w'):WL P l Q k a w :=
  lc s k ho hf hargs hent hok hc fun en w' ⟨x,h1,h2,h3⟩=>by subst h1; exact fun a' h4 h5=>next x a' w' h2 ⟨h5,h4,s.m.join h3⟩
theorem lhb {α:Type} {v:α→Value} {I:α→List Item} {φ:α→Prop} (s:Sta n ds w0 E H a w) (k:Nat) {dst:Option Nat} {f:Operand} {args:Array Operand} {ats:Array TypeId} {ty g:Nat} {pos:String} {after:Array Edge} {fi ca:Array Value} {vs:List Value}
    (ho:l[k]?=some ⟨dst,.call ⟨.value f,args,ats⟩,ty,pos,after,none⟩) (hf:rd E [] f=some (.func (.func g) fi ca)) (hargs:xQ E [] args.toList=some vs) (hent:Enters P g) (hok:RF n E dst=true)
    (hc:Calls P g (fi.toList++vs++ca.toList).toArray w (vO v I φ w)) (next:∀ x a' w',Below w.heap.size w w'→φ x→Sta n ds w0 (Fz.putd E dst (v x)) (I x++H) a' w'→WL P l Q (k+1) a' w'):WL P l Q k a w :=
  lc s k ho hf hargs hent hok hc fun en w' ⟨x,h1,h2,h3⟩=>by subst h1; exact fun a' h4 h5=>next x a' w' h3.below h2 ⟨h5,h4,s.m.join h3⟩
theorem fX {α:Type} {v:α→Value} {I:α→List Item} {φ:α→Prop} (s:Sta n ds w0 E H a w) (x:α) {vs:List Value} (hv:n0 vs=v x) (hφ:φ x) (hI:(I x).Sublist H):vO v I φ w0 (.returned (n0 vs)) w :=
  ⟨x,by rw [hv],hφ,s.m.sub hI⟩
end join
end Go.Fz
namespace Go.Fz
open Go Go.RowKit
section needs
variable {P:Program} {Q:Exit→Act→World→Prop} {a:Act} {w w0:World} {n:Nat} {E:List d9} {H:List Item} {ds:List Deferred} {l:List Oper}
def oY (b:Bool) (ch:List PanicEntry) (w:World):Ending→World→Prop:=fun e w'=>(if b=true then e=.returned (.tuple #[]) else e=.panicked ch)∧Below w.heap.size w w'
theorem dA {b:Bool} {ch:List PanicEntry} (s:Sta n ds w0 E H a w) (h:b=true):oY b ch w0 (.returned (n0 [])) w:=⟨by rw [if_pos h]; rfl,s.m.below⟩
theorem bF {b:Bool} {ch:List PanicEntry} (s:Sta n ds w0 E H a w) (h:b=false):oY b ch w0 (.panicked ch) w:=⟨by rw [if_neg (by simp [h])],s.m.below⟩
theorem cU {b:Bool} {ch:List PanicEntry} (s:Sta n ds w0 E H a w) (k:Nat) {dst:Option Nat} {f:Operand} {args:Array Operand} {ats:Array TypeId} {ty g:Nat} {pos:String} {after:Array Edge} {fi ca:Array Value} {vs:List Value}
    (ho:l[k]?=some ⟨dst,.call ⟨.value f,args,ats⟩,ty,pos,after,none⟩) (hf:rd E [] f=some (.func (.func g) fi ca)) (hargs:xQ E [] args.toList=some vs) (hent:Enters P g) (hok:RF n E dst=true)
    (hc:Calls P g (fi.toList++vs++ca.toList).toArray w (oY b ch w))
    (no:b=false→∀ w',Sta n ds w0 E H a w'→Q (.panic ch) a w')
    (yes:b=true→∀ a' w',Sta n ds w0 (Fz.putd E dst (.tuple #[])) H a' w'→WL P l Q (k+1) a' w'):WL P l Q k a w :=
  lc s k ho hf hargs hent hok hc fun e w' ⟨h1,h2⟩=>by
    cases b with
    | true =>
      simp only [if_true] at h1
      subst h1
      exact fun a' h3 h4=>yes rfl a' w' ⟨h4,h3,s.m.grow h2⟩
    | false =>
      simp only [Bool.false_eq_true,if_false] at h1
      subst h1
      exact no rfl w' ⟨s.f,s.d,s.m.grow h2⟩
theorem X7 (s:Sta n ds w0 E H a w) (k:Nat) {x:Operand} {dst:Option Nat} {ty:Nat} {pos:String} {after:Array Edge} {v:Value} (ho:l[k]?=some ⟨dst,.panic x,ty,pos,after,none⟩) (hx:rd E [] x=some v) (hv:∃ t u,v=.iface t u)
    (h:Q (.panic [{ v,recovered:=false }]) a w):WL P l Q k a w:=by
  obtain ⟨t,u,rfl⟩:=hv
  refine WL.loud k ho rfl fun K hK=>?_
  have hrun:(execOp a.eval ⟨dst,.panic x,ty,pos,after,none⟩).run P w=.halt (.panic (.iface t u)) w:=by
    simp [execOp,vL s.f hx,Instr.panic,goPanic,Sem.run]
  simp only [Oper.wp,hrun,Oper.upon]
  exact h
theorem mki {t:TypeId} {d:TypeDesc} (w:World) (x:Value) (h:P.underlying t=some d) (hd:∀ ms,d≠.interface ms):Yv P w (Instr.makeInterface t x) (.iface t x):=Yv.intro fun w'=>by
  simp only [Instr.makeInterface,Sem.run_bind,jS h,Result.andThen_ok]
  cases d <;> first | rfl | (exfalso; exact hd _ rfl)
end needs
end Go.Fz
namespace Go.Fz
open Go Go.RowKit
def CU (es:List MapEntry):List (Value × Value):=es.map fun e=>(e.key,e.val)
def mI (B:Nat) (l:List (Value × Value)):Item:=⟨some B,fun o=>∃ es clock,o=some (.map es clock)∧CU es.toList=l⟩
section maps
variable {P:Program} {w0 w w':World} {H:List Item}
theorem St.mheap (h:St w0 H w) {k B:Nat} {l:List (Value × Value)} (hk:H[k]?=some (mI B l)):∃ es clock,w.heap[B]?=some (.map es clock)∧CU es.toList=l :=
  h.ok _ (List.mem_of_getElem? hk)
variable {n:Nat} {a:Act} {E:List d9} {l:List Oper} {Q:Exit→Act→World→Prop}
theorem WL.makeMap (k:Nat) {d t ty:Nat} {pos:String} {after:Array Edge} (hF:Fits n a E) (hst:St w0 H w) (ho:l[k]?=some ⟨some d,.makeMap t none,ty,pos,after,none⟩)
    (hok:eT n E d []=true) (next:∀ B a' w',a'.defers=a.defers→Fits n a' (Fz.put E d [] (.map (some B)))→St w0 (mI B []::H) w'→Below w.heap.size w w'→WL P l Q (k+1) a' w'):WL P l Q k a w:=by
  refine WL.loud k ho rfl fun K hK=>?_
  have hrun:(execOp a.eval ⟨some d,.makeMap t none,ty,pos,after,none⟩).run P w=.ok (.value (.map (some w.heap.size))) (w.alloc (.map #[] 0)):=by
    simp [execOp,run_makeMap]
  simp only [Oper.wp,hrun,Oper.upon]
  exact hK _ _ (next w.heap.size _ _ (put_defers _ _ _) (hF.put0 _ hok) (hst.new _ rfl ⟨#[],0,rfl,rfl⟩) ((Below.refl _ w).alloc (Nat.le_refl _) _))
end maps
end Go.Fz
namespace Go.Fz
open Go Go.RowKit
abbrev Fr (r:Option Nat):Fence:={ Fence.wide with round:=r }
theorem NL {P:Program} {f:FuncId} {args:Array Value} {w:World} {R:Ending→World→Prop} {n:Nat} (r:Option Nat) (h:Calls P f args w R):CallsIn (Fr r) n P f args w R :=
  (callsIn_wide (n:=n)).2 h
theorem AW {P:Program} {f:FuncId} {args:Array Value} {w:World} {R R':Ending→World→Prop} {n:Nat} (r:Option Nat) (h:Calls P f args w R) (hr:∀ e w',R e w'→R' e w'):CallsIn (Fr r) n P f args w R' :=
  NL r (h.mono hr)
def qK (o:Oper):Bool:=match o.op with
  | .defer _=>false
  | .call ⟨.builtin _,_,_⟩=>true
  | _=>true
theorem uH {o:Oper} (h:qK o=true) (c:Call):o.op≠.defer c:=fun e=>by simp [qK,e] at h
section fence
variable {P:Program} {Q:Exit→Act→World→Prop} {a:Act} {w:World} {r:Option Nat} {m:Nat}
theorem RR {row:String} {args:Array Value} {R:Value→World→Prop} (h:Rows P row args w R):RowsIn (Fr r) m P row args w R:=by
  intro c cs _
  obtain ⟨v,w',hR,hs⟩:=h c cs
  exact ⟨v,w',hR,stepsIn_wide.2 hs⟩
theorem xS {o:Oper} {next:Act→World→Prop} {x:Result Next} (h:o.upon P a next Q x):o.uponIn (Fr r) m P a next Q x:=by
  have h0:(Fr r).depth.isSome=true→1≤m:=fun hh=>by cases hh
  cases x with
  | ok nx w' =>
    cases nx <;> simp only [Oper.upon] at h <;> simp only [Oper.uponIn] <;> first
      | exact h
      | exact ⟨h0,AW r h fun e w'' he=>by cases e <;> exact he⟩
      | exact ⟨h0,RR h⟩
  | halt y w'=>cases y <;> simp only [Oper.upon] at h <;> simp only [Oper.uponIn] <;> exact h
theorem CV {ops:Array Oper} (hL:¬ LetsOut Q):∀ (l:List Oper),l.all qK=true→∀ a w,wpList P ops Q l a w→wpListIn (Fr r) m P ops Q l a w
  | [],_,a,w,h=>h
  | o::l,hd,a,w,h=>by
    simp only [List.all_cons,Bool.and_eq_true] at hd
    simp only [wpList] at h
    simp only [wpListIn]
    split
    · rename_i hw
      rw [if_pos hw] at h
      rcases h with h | ⟨_,h⟩
      · refine ⟨fun _ _=>trivial,?_⟩
        rw [Oper.semAt_eq _ _ _ (uH hd.1)]
        exact xS (Oper.wp_mono (fun a w h=>CV hL l hd.2 a w h) h)
      · exact (hL h).elim
    · rename_i hw
      rw [if_neg hw] at h
      exact ⟨fun _ _=>trivial,CV hL l hd.2 _ _ h⟩
theorem eH {id:Nat} {l:List Oper} (hd:l.all qK=true) (hL:¬ LetsOut Q) (h:WL P l Q 0 a w):(Code.region id l.toArray false).wpIn (Fr r) m P Q a w :=
  wpIn_region_lit (CV hL l hd a w h)
def Yields (P:Program) (L:Nat) (vs:List Value) (w:World) (R:Ending→World→Prop):Prop :=
  ∃ fn tmps assign body,(Instr.yield L vs.toArray).run P w=.ok (.round L fn tmps assign body) w∧RoundIn Fence.wide 0 P L fn tmps assign body w R
theorem Yields.mono {L:Nat} {vs:List Value} {R R':Ending→World→Prop} (h:Yields P L vs w R) (hr:∀ e w',R e w'→R' e w'):Yields P L vs w R' :=
  let ⟨fn,tmps,assign,body,h1,h2⟩:=h; ⟨fn,tmps,assign,body,h1,h2.mono hr⟩
def yP (o:Oper):Bool:=o.guard.isNone&&qK o
theorem FO {ops ops':Array Oper} {l2:List Oper} (hL:¬ LetsOut Q):∀ (l:List Oper),l.all yP=true→∀ a w,
    wpList P ops (Exit.then (fun a w=>wpListIn (Fr r) m P ops' Q l2 a w) Q) l a w→wpListIn (Fr r) m P ops' Q (l++l2) a w
  | [],_,a,w,h=>h
  | o::l,hd,a,w,h=>by
    simp only [List.all_cons,Bool.and_eq_true,yP] at hd
    have hg:o.guard=none:=by simpa using hd.1.1
    simp only [wpList,Region.wanted,hg,if_true] at h
    simp only [List.cons_append,wpListIn,Region.wanted,hg,if_true]
    rcases h with h | ⟨_,h⟩
    · refine ⟨fun _ _=>trivial,?_⟩
      rw [Oper.semAt_eq _ _ _ (uH hd.1.2)]
      have h2:=Oper.wp_mono (fun a w h=>FO hL l (List.all_eq_true.2 fun x hx=>by have:=List.all_eq_true.1 hd.2 x hx; simpa [yP] using this) a w h) h
      have h3:o.upon P a (fun a w=>wpListIn (Fr r) m P ops' Q (l++l2) a w) Q ((execOp a.eval o).run P w):=by
        unfold Oper.wp at h2
        generalize (execOp a.eval o).run P w=x at h2
        cases x with
        | ok nx w' =>
          cases nx <;> simp only [Oper.upon] at h2 ⊢ <;> first
            | exact h2
            | exact Calls.mono h2 fun e w'' he=>by cases e <;> exact he
        | halt y w'=>cases y <;> simp only [Oper.upon] at h2 ⊢ <;> exact h2
      exact xS h3
    · exact (hL h).elim
theorem RS {ops:Array Oper} {l:List Oper} (hL:¬ LetsOut Q) (hd:l.all yP=true) (h:WL P l Q 0 a w):wpListIn (Fr r) m P ops Q l a w:=by
  have h0:l=l++[]:=by simp
  rw [h0]
  refine FO (ops:=l.toArray) hL l hd a w ?_
  have h1:wpList P l.toArray Q l a w:=h
  have hQ:(Exit.then (fun a w=>wpListIn (Fr r) m P ops Q [] a w) Q)=Q:=by
    funext e a w; cases e <;> rfl
  rw [hQ]; exact h1
end fence
end Go.Fz
namespace Go.Fz
open Go Go.RowKit
def wq (P:Program) (fn:FuncId) (c:Code) (Q:Exit→Act→World→Prop) (a:Act) (w:World):Prop :=
  ∀ (b:Frame) (k:List Go.Item) (cs:List Frame),b.fn=fn→∃ e a' w',Q e a' w'∧Arrives P (lone (b.at a (.code c::k)) cs w) b k cs e a' w'
section wq
variable {P:Program} {fn:FuncId} {Q:Exit→Act→World→Prop} {a:Act} {w:World}
theorem kA {c:Code} (h:c.wp P Q a w):wq P fn c Q a w:=fun b k cs _=>h b k cs
theorem hM {x y:Code} (h:wq P fn x (Exit.then (wq P fn y Q) Q) a w):wq P fn (.seq x y) Q a w:=by
  intro b k cs hb
  obtain ⟨e,a₁,w₁,hq,harr⟩:=h b (.code y::k) cs hb
  cases e with
  | normal =>
    obtain ⟨e₂,a₂,w₂,hq₂,harr₂⟩:=hq b k cs hb
    exact ⟨e₂,a₂,w₂,hq₂,.of_steps (.head step_seq harr) harr₂⟩
  | exit id=>exact ⟨_,a₁,w₁,hq,.of_steps (.one step_seq) (.pass (x:=.code y) rfl (fun _ _=>.inl (by simp)) harr)⟩
  | goto l=>exact ⟨_,a₁,w₁,hq,.of_steps (.one step_seq) (.pass (x:=.code y) rfl (fun _ _=>.inl (by simp)) harr)⟩
  | ret=>exact ⟨_,a₁,w₁,hq,.of_steps (.one step_seq) (.pass (x:=.code y) rfl (fun _ _=>.inl (by simp)) harr)⟩
  | panic ch=>exact ⟨_,a₁,w₁,hq,.of_steps (.one step_seq) (.pass (x:=.code y) rfl (fun _ _=>.inl (by simp)) harr)⟩
  | outgrown=>exact ⟨_,a₁,w₁,hq,.of_steps (.one step_seq) (.pass (x:=.code y) rfl (fun _ _=>.inl (by simp)) harr)⟩
theorem yQ {id:Nat} {c:Code} (h:wq P fn c (Exit.inBlock id Q) a w):wq P fn (.block id c) Q a w:=by
  intro b k cs hb
  obtain ⟨e,a₁,w₁,hq,harr⟩:=h b (.inBlock id::k) cs hb
  cases e with
  | normal=>exact ⟨.normal,a₁,w₁,hq,.head step_block (Steps.trans harr (.one step_inBlock))⟩
  | exit id' =>
    by_cases hid:id'=id
    · simp only [Exit.inBlock,hid,if_true] at hq
      exact ⟨.normal,a₁,w₁,hq,.head step_block (harr k (by simp [exitTo,hid]))⟩
    · simp only [Exit.inBlock,hid,if_false] at hq
      refine ⟨.exit id',a₁,w₁,hq,fun k' hk=>.head step_block (harr k' ?_)⟩
      have:(id==id')=false:=by simp; exact fun h=>hid h.symm
      simp [exitTo,this,hk]
  | goto l=>exact ⟨_,a₁,w₁,hq,fun k' hk=>.head step_block (harr k' (by simp [gotoIn,hk]))⟩
  | ret=>exact ⟨_,a₁,w₁,hq,.of_steps (.one step_block) harr⟩
  | panic ch=>exact ⟨_,a₁,w₁,hq,.of_steps (.one step_block) harr⟩
  | outgrown=>exact ⟨_,a₁,w₁,hq,.of_steps (b:=b) (k:=k) (cs:=cs) (e:=.outgrown) (.one step_block) harr⟩
def HS (P:Program) (fn:Func) (tmps:Array Value) (R:Ending→World→Prop):List Deferred→FrameMode→World→Prop
  | [],.returning,w=>∃ v,(results fn tmps).run P w=.ok v w∧R (.returned v) w
  | [],.panicking chain,w=>R (.panicked chain) w
  | [],.run,_=>False
  | d::ds,u,w=>u≠.run ∧
      ((∃ r w',d.target=.collected r∧(Instr.takeDeferred r).run P w=.ok [] w'∧HS P fn tmps R ds u w') ∨
       (∃ fv cap f args,d.target=.fn fv cap∧(invoke d.target d.args).run P w=.ok (.enter f args) w ∧
        CallsD P f args u w fun
          | .returned _,u',w'=>HS P fn tmps R ds (settle u') w'
          | .panicked chain,u',w'=>HS P fn tmps R ds (raised u' chain) w'
          | .outgrown,_,w'=>R .outgrown w'))
theorem vP {fn:Func} {tmps:Array Value} {R:Ending→World→Prop}:∀ (ds:List Deferred) (u:FrameMode) (w:World) (fr:Frame)
    (cs:List Frame),fr.mode=u→fr.defers=ds→fr.tmps=tmps→P.funcs[fr.fn]?=some fn→fr.kind=.normal→HS P fn tmps R ds u w →
    ∃ e w' fr',R e w'∧Comes P (lone fr cs w) (lone fr' cs w') e∧fr'.fn=fr.fn∧fr'.leaving P w' e:=by
  intro ds
  induction ds with
  | nil =>
    intro u w fr cs hu hd ht hf hk h
    cases u with
    | run=>exact h.elim
    | returning =>
      obtain ⟨v,hr,hR⟩:=h
      exact ⟨.returned v,w,fr,hR,Steps.refl P _,rfl,hu,hd,hk,fn,hf,ht ▸ hr⟩
    | panicking chain=>exact ⟨.panicked chain,w,fr,h,Steps.refl P _,rfl,hu,hd,fn,hf⟩
  | cons d ds ih =>
    intro u w fr cs hu hd ht hf hk h
    obtain ⟨hrun,h⟩:=h
    rcases h with ⟨r,w',htar,htake,hrest⟩ | ⟨fv,cap,f,args,htar,hinv,hcall⟩
    · have h1:=step_collected (cs:=cs) (hu ▸ hrun) hd htar htake
      obtain ⟨e',w'',fr',hR',hs',hfn',hl'⟩:=ih u w' { fr with defers:=[]++ds } cs hu rfl ht hf hk hrest
      exact ⟨e',w'',fr',hR',Comes.of_steps (.one h1) hs',hfn',hl'⟩
    · have h1:=step_defer (cs:=cs) (hu ▸ hrun) hd htar hinv
      obtain ⟨e,u',w',frX,hR,hsteps,hkX,hgo⟩:=hcall { fr with defers:=ds } cs hu
      cases e with
      | returned v =>
        have h2:=step_going_returned (c:={ { fr with defers:=ds } with mode:=u' }) (cs:=cs) hkX hgo
        obtain ⟨e',w'',fr',hR',hs',hfn',hl'⟩:=ih (settle u') w' { { { fr with defers:=ds } with mode:=u' } with mode:=settle u' } cs rfl rfl ht hf hk hR
        exact ⟨e',w'',fr',hR',Comes.of_steps (.head h1 (Steps.trans hsteps (.one h2))) hs',hfn',hl'⟩
      | panicked chain =>
        have h2:=step_going_panicked (c:={ { fr with defers:=ds } with mode:=u' }) (cs:=cs) hgo
        obtain ⟨e',w'',fr',hR',hs',hfn',hl'⟩:=ih (raised u' chain) w' { { { fr with defers:=ds } with mode:=u' } with mode:=raised u' chain } cs rfl rfl ht hf hk hR
        exact ⟨e',w'',fr',hR',Comes.of_steps (.head h1 (Steps.trans hsteps (.one h2))) hs',hfn',hl'⟩
      | outgrown=>exact ⟨.outgrown,w',fr,hR,Outgrown.of_steps (.one h1) hsteps,rfl,trivial⟩
def FQ (P:Program) (fn:Func) (R:Ending→World→Prop):Exit→Act→World→Prop
  | .normal,a,w | .ret,a,w=>HS P fn a.tmps R a.defers .returning w
  | .panic chain,a,w=>HS P fn a.tmps R a.defers (.panicking chain) w
  | .outgrown,_,w=>R .outgrown w
  | _,_,_=>False
theorem FR {f:FuncId} {fn:Func} {c:Code} {args:Array Value} {w:World} {R:Ending→World→Prop}
    (hf:P.funcs[f]?=some fn) (hb:fn.body=some c)
    (h:wq P f c (FQ P fn R) { tmps:=args++Array.replicate (fn.ntmps-args.size) undef,defers:=[] } w):Calls P f args w R:=by
  intro cs
  let b:Frame:={ (default:Frame) with fn:=f,kind:=.normal }
  have henter:Frame.enter P f args .normal =
      b.at { tmps:=args++Array.replicate (fn.ntmps-args.size) undef,defers:=[] } [.code c]:=by
    simp [Frame.enter,Frame.at,hf,hb,b]
  obtain ⟨e,a',w',hq,harr⟩:=h b [] cs rfl
  rw [← henter] at harr
  cases e with
  | normal =>
    obtain ⟨e',w'',fr',hR,hs,hfn,hl⟩:=vP a'.defers .returning w' { b.at a' [] with mode:=.returning } cs rfl rfl rfl hf rfl hq
    exact ⟨e',w'',fr',hR,Comes.of_steps (Steps.trans harr (.one step_end)) hs,hfn,hl⟩
  | ret =>
    obtain ⟨todo,hs₀⟩:=harr
    obtain ⟨e',w'',fr',hR,hs,hfn,hl⟩:=vP a'.defers .returning w' { b.at a' todo with mode:=.returning } cs rfl rfl rfl hf rfl hq
    exact ⟨e',w'',fr',hR,Comes.of_steps hs₀ hs,hfn,hl⟩
  | panic chain =>
    obtain ⟨todo,hs₀⟩:=harr
    obtain ⟨e',w'',fr',hR,hs,hfn,hl⟩:=vP a'.defers (.panicking chain) w' { b.at a' todo with mode:=.panicking chain } cs rfl rfl rfl hf rfl hq
    exact ⟨e',w'',fr',hR,Comes.of_steps hs₀ hs,hfn,hl⟩
  | exit id=>exact hq.elim
  | goto l=>exact hq.elim
  | outgrown=>exact ⟨.outgrown,w',b,hq,harr.resolve_left (by simp [b]),rfl,trivial⟩
def V9 (P:Program) (fn:FuncId) (L:Nat) (Q:Exit→Act→World→Prop) (a':Act):Ending→World→Prop
  | .returned _,w₃=>∃ jump w₄,(Instr.endLoop L).run P w₃=.ok jump w₄∧(match jump with
      | none=>Q .normal a' w₄
      | some c=>wq P fn c Q a' w₄)
  | .panicked chain,w₃=>Q (.panic chain) a' w₃
  | .outgrown,_=>LetsOut Q
theorem CW {g:Operand} {ps:Array Tmp} {assign body:Code} {l:Nat} {mark:List Deferred} {w₁ w₁' w₂:World} {d:Deferred} {f:FuncId} {args:Array Value}
    (he:(Instr.enterLoop fn a.tmps ps assign body none).run P w=.ok (l,mark) w₁)
    (hres:(resolve a.eval (rangeCall g l) 0).run P w₁=.ok d w₁') (hinv:(invoke d.target d.args).run P w₁'=.ok (.enter f args) w₂)
    (hcall:Calls P f args w₂ (V9 P fn l Q { a with defers:=mark++a.defers })):wq P fn (.rangeFunc g ps assign body) Q a w:=by
  intro b k cs hb
  subst hb
  have henter:step P (lone (b.at a (.code (.rangeFunc g ps assign body)::k)) cs w) =
      .next (lone (Frame.enter P f args .normal) (b.at { a with defers:=mark++a.defers } (.inRangeFunc l::k)::cs) w₂) :=
    stepR_rangeFunc (P:=P) (b:={ b with roundOf:=none }) (a:=a) (k:=k) (cs:=cs) (w:=w) he hres hinv
  obtain ⟨e,w₃,fr,hR,hsteps,hfn,hleave⟩:=hcall (b.at { a with defers:=mark++a.defers } (.inRangeFunc l::k)::cs)
  cases e with
  | outgrown =>
    obtain ⟨a₀,w₀,hq⟩:=hR
    exact ⟨.outgrown,a₀,w₀,hq,.inr (Outgrown.of_steps (.one henter) hsteps)⟩
  | returned v =>
    obtain ⟨jump,w₄,hend,hj⟩:=hR
    have hfin:(b.at { a with defers:=mark++a.defers } (.inRangeFunc l::k)).finish v=b.at { a with defers:=mark++a.defers } (.endRangeFunc l::k) :=
      finish_atR_inRangeFunc (b:={ b with roundOf:=none }) l v
    have hback:step P (lone (b.at { a with defers:=mark++a.defers } (.endRangeFunc l::k)) cs w₃)=.next (lone (b.at { a with defers:=mark++a.defers } ((jump.map Go.Item.code).toList++k)) cs w₄) :=
      stepR_endRangeFunc (P:=P) (b:={ b with roundOf:=none }) hend
    have sback:Steps P (lone (b.at a (.code (.rangeFunc g ps assign body)::k)) cs w) (lone (b.at { a with defers:=mark++a.defers } ((jump.map Go.Item.code).toList++k)) cs w₄):=by
      refine .head henter (Steps.trans hsteps (.head ?_ (.one hback)))
      rw [← hfin]; exact step_leave_returned hleave
    cases jump with
    | none=>exact ⟨.normal,_,w₄,hj,sback⟩
    | some c =>
      obtain ⟨e',a'',w₅,hq,harr⟩:=hj b k cs rfl
      exact ⟨e',a'',w₅,hq,.of_steps sback harr⟩
  | panicked chain =>
    refine ⟨.panic chain,_,w₃,hR,.inRangeFunc l::k,.head henter (Steps.trans hsteps (.one ?_))⟩
    have:(b.at { a with defers:=mark++a.defers } (.inRangeFunc l::k)).raise chain={ b.at { a with defers:=mark++a.defers } (.inRangeFunc l::k) with mode:=.panicking chain }:=rfl
    rw [← this]; exact step_leave_panicked hleave
end wq
def nK (L:Nat) (r:Loop):Item:=⟨some L,fun o=>o=some (.loop r)⟩
def pN (D:Nat) (x:Option (List Deferred)):Item:=⟨some D,fun o=>o=some (.deferred x)⟩
def nL (D:Nat):Deferred:={ target:=.collected D,args:=#[] }
def NM (fn:FuncId) (tmps:Array Value) (ps:Array Tmp) (assign body:Code) (D:Nat):Loop:={ state:=.ready,pending:=none,fn,tmps,params:=ps,assign,body,defers:=D }
abbrev yv (L:Nat):Value:=.func (.yield L) #[] #[]
section items
variable {P:Program} {w0 w:World} {H:List Item}
theorem St.putO (h:St w0 H w) {i B:Nat} {it it':Item} (hi:H[i]?=some it) (hf:it.foot=some B) (o:Obj) (hf':it'.foot=some B) (ho:it'.ok (some o)):St w0 (H.set i it') (w.putObj B o) :=
  h.upd i hi hf hf' rfl rfl rfl (by simp) (fun j _ hj=>World.putObj_heap_other hj) (by rw [World.putObj_heap_same (h.lo _ (List.mem_of_getElem? hi) B hf).2]; exact ho)
theorem St.lheap (h:St w0 H w) {i L:Nat} {r:Loop} (hi:H[i]?=some (nK L r)):w.heap[L]?=some (.loop r):=h.ok _ (List.mem_of_getElem? hi)
theorem St.dheap (h:St w0 H w) {i D:Nat} {x:Option (List Deferred)} (hi:H[i]?=some (pN D x)):w.heap[D]?=some (.deferred x):=h.ok _ (List.mem_of_getElem? hi)
variable {n:Nat} {ds:List Deferred} {E:List d9} {a:Act} {Q:Exit→Act→World→Prop} {fn:FuncId}
theorem Sta.marked {H':List Item} {w':World} (s:Sta n ds w0 E H a w) (D:Nat) (h:St w0 H' w'):Sta n (nL D::ds) w0 E H' { a with defers:=nL D::a.defers } w' :=
  ⟨⟨s.f.size,s.f.at'⟩,by simp [s.d],h⟩
theorem NN {g:Operand} {ps:Array Tmp} {assign body:Code} {f:FuncId} {fi ca:Array Value} (s:Sta n ds w0 E H a w) (hg:rd E [] g=some (.func (.func f) fi ca)) (hent:Enters P f)
    (h:∀ L D w1,St w0 (nK L (NM fn a.tmps ps assign body D)::pN D (some [])::H) w1 →
      Calls P f (fi.toList++[yv L]++ca.toList).toArray w1 fun e w'=>match e with
        | .returned _=>∃ r H',St w0 (nK L r::H') w'∧r.state≠.busy∧∀ w4,Sta n (nL D::ds) w0 E (nK L { r with state:=.exhausted }::H') { a with defers:=nL D::a.defers } w4 →
            (match r.pending with
              | none=>Q .normal { a with defers:=nL D::a.defers } w4
              | some c=>wq P fn c Q { a with defers:=nL D::a.defers } w4)
        | .panicked ch=>Q (.panic ch) { a with defers:=nL D::a.defers } w'
        | .outgrown=>LetsOut Q):wq P fn (.rangeFunc g ps assign body) Q a w:=by
  have h1:=s.m.new (.deferred (some [])) (it:=pN w.heap.size (some [])) rfl rfl
  have h2:=h1.new (.loop (NM fn a.tmps ps assign body w.heap.size)) (it:=nK (w.heap.size+1) (NM fn a.tmps ps assign body w.heap.size)) (by simp [nK,World.size_alloc]) rfl
  have hc:=h _ _ _ h2
  have e2:(fi.toList++[yv (w.heap.size+1)]++ca.toList).toArray=fi++#[yv (w.heap.size+1)]++ca:=by simp
  rw [e2] at hc
  refine CW (run_enterLoop_outer fn a.tmps ps assign body) (d:={ target:=.fn (.func f) ca,args:=fi++#[yv (w.heap.size+1)] }) (w₁':=(w.alloc (.deferred (some []))).alloc (.loop (NM fn a.tmps ps assign body w.heap.size))) (by
    have hx:=vL s.f hg
    have hc:a.eval (.const (.func (.yield (w.heap.size+1)) #[] #[]))=.func (.yield (w.heap.size+1)) #[] #[]:=rfl
    simp [resolve,rangeCall,hx,hc,Deferred.ofValue,NM]) (by simp only [invoke]; exact hent _ _) (hc.mono fun e w' he=>?_)
  cases e with
  | outgrown=>exact he
  | panicked ch=>exact he
  | returned v =>
    obtain ⟨r,H',hs,hb,hk⟩:=he
    refine ⟨r.pending,_,run_endLoop (hs.lheap (i:=0) rfl) hb,?_⟩
    exact hk _ (s.marked _ (hs.putO (i:=0) (it':=nK (w.heap.size+1) { r with state:=.exhausted }) rfl rfl _ rfl rfl))
def vQ (P:Program) (L:Nat) (R:Ending→World→Prop):Exit→Act→World→Prop
  | .panic ch,a,w=>a.defers=[]∧R (.panicked ch) w
  | e,a,w=>roundPost P L R e a w
theorem NO {L:Nat} {f:FuncId} {fnn:Func} {tmps:Array Value} {assign body:Code} {w:World} {R:Ending→World→Prop} (hf:P.funcs[f]?=some fnn)
    (h:assign.wpIn (Fr (some L)) 0 P (Exit.then (fun a₁ w₁=>∃ w₂,(Instr.beginRound L).run P w₁=.ok () w₂∧body.wpIn (Fr (some L)) 0 P (vQ P L R) a₁ w₂) (fun _ _ _=>False))
      { tmps:=tmps,defers:=[] } w) :
    RoundIn Fence.wide 0 P L f tmps assign body w R:=by
  refine ⟨trivial,fun c cs _=>?_⟩
  let b:Frame:={ (default:Frame) with fn:=f,kind:=.normal,roundOf:=some L }
  have hb0:Frame.round L f tmps assign body .normal=b.atR { tmps:=tmps,defers:=[] } [.code assign,.beginRound,.code body]:=by
    simp [Frame.round,Frame.atR,b]
  have hr:∀ k,(Fr (some L)).room k:=fun k d hd=>by cases hd
  obtain ⟨e,a₁,w₁,hq,harr⟩:=h b [.beginRound,.code body] (c::cs) rfl trivial (hr _)
  rw [← hb0] at harr
  cases e with
  | normal =>
    obtain ⟨w₂,hbr,hbody⟩:=hq
    have s1:StepsIn (Machine.fenced P Fence.wide) P (lone (b.atR a₁ [.beginRound,.code body]) (c::cs) w₁) (lone (b.atR a₁ [.code body]) (c::cs) w₂) :=
      .one (fenced_wide P _) (stepR_beginRound rfl hbr)
    obtain ⟨e₂,a₂,w₃,hq₂,harr₂⟩:=hbody b [] (c::cs) rfl trivial (hr _)
    cases e₂ with
    | normal =>
      obtain ⟨v,w₄,hend,hR⟩:=hq₂
      exact ⟨.returned v,w₄,hR,(StepsIn.trans harr s1).trans (StepsIn.trans harr₂ (.one (fenced_wide P _) (stepR_round_end rfl rfl hend)))⟩
    | ret =>
      obtain ⟨v,w₄,hend,hR⟩:=hq₂
      obtain ⟨k₁,hs⟩:=harr₂.2 rfl
      exact ⟨.returned v,w₄,hR,(StepsIn.trans harr s1).trans (StepsIn.trans hs (.one (fenced_wide P _) (stepR_round_ret rfl rfl hend)))⟩
    | exit id =>
      obtain ⟨v,w₄,hend,hR⟩:=hq₂
      obtain ⟨k₁,hk,hs⟩:=harr₂.2 rfl rfl
      exact ⟨.returned v,w₄,hR,(StepsIn.trans harr s1).trans (StepsIn.trans hs (.one (fenced_wide P _) (stepR_round_exit rfl rfl hk hend)))⟩
    | goto t =>
      obtain ⟨v,w₄,hend,hR⟩:=hq₂
      obtain ⟨k₁,hk,hs⟩:=harr₂.2 rfl rfl
      exact ⟨.returned v,w₄,hR,(StepsIn.trans harr s1).trans (StepsIn.trans hs (.one (fenced_wide P _) (stepR_round_goto rfl rfl hk hend)))⟩
    | panic chain =>
      obtain ⟨hd,hR⟩:=hq₂
      obtain ⟨todo,hs⟩:=harr₂
      exact ⟨.panicked chain,w₃,hR,(StepsIn.trans harr s1).trans (StepsIn.trans hs (.one (fenced_wide P _) (step_leave_panicked ⟨rfl,hd,fnn,hf⟩)))⟩
    | outgrown=>exact hq₂.elim
  | exit id=>exact hq.elim
  | goto t=>exact hq.elim
  | ret=>exact hq.elim
  | panic chain=>exact hq.elim
  | outgrown=>exact hq.elim
theorem CX {L i:Nat} {r:Loop} {vs:List Value} {R:Ending→World→Prop} {fnn:Func} (h:St w0 H w) (hi:H[i]?=some (nK L r)) (hlen:vs.length=r.params.size) (hf:P.funcs[r.fn]?=some fnn)
    (hb:r.assign.wpIn (Fr (some L)) 0 P (Exit.then (fun a₁ w₁=>∃ w₂,(Instr.beginRound L).run P w₁=.ok () w₂∧r.body.wpIn (Fr (some L)) 0 P (vQ P L R) a₁ w₂) (fun _ _ _=>False))
      { tmps:=(r.params.zip vs.toArray).foldl (fun tmps (t,a)=>tmps.setIfInBounds t a) r.tmps,defers:=[] } w):Yields P L vs w R :=
  ⟨r.fn,_,r.assign,r.body,run_yield (h.lheap hi) (by simp [hlen]),NO hf hb⟩
theorem FS {L i:Nat} {r:Loop} {K:World→Prop} (h:St w0 H w) (hi:H[i]?=some (nK L r)) (hr:r.state=.ready)
    (k:∀ w2,St w0 (H.set i (nK L { r with state:=.busy })) w2→K w2):∃ w₂,(Instr.beginRound L).run P w=.ok () w₂∧K w₂ :=
  ⟨_,run_beginRound (h.lheap hi) hr,k _ (h.putO hi rfl _ rfl rfl)⟩
theorem Fits.round1 (hF:Fits n a E) {p:Nat} (v:Value) (hok:eT n E p []=true):Fits n { tmps:=(#[p].zip [v].toArray).foldl (fun tmps (t,a)=>tmps.setIfInBounds t a) a.tmps,defers:=[] } (Fz.put E p [] v):=by
  have h1:=hF.put0 (d:=p) v hok
  have h2:(#[p].zip [v].toArray).foldl (fun tmps (t,a)=>tmps.setIfInBounds t a) a.tmps=a.tmps.setIfInBounds p v:=by simp
  rw [h2]
  exact ⟨h1.size,h1.at'⟩
theorem n6 {L i:Nat} {r:Loop} {R:Ending→World→Prop} (s:Sta n ds w0 E H a w) (hi:H[i]?=some (nK L r)) (hR:∀ w',St w0 (H.set i (nK L { r with state:=.ready,pending:=none })) w'→R (.returned (Bo true)) w'):vQ P L R .normal a w :=
  ⟨_,_,run_endRound none (s.m.lheap hi),hR _ (s.m.putO hi rfl _ rfl rfl)⟩
theorem RT {L i:Nat} {r:Loop} {R:Ending→World→Prop} (s:Sta n ds w0 E H a w) (hi:H[i]?=some (nK L r)) (hR:∀ w',St w0 (H.set i (nK L { r with state:=.done,pending:=some .ret })) w'→R (.returned (Bo false)) w'):vQ P L R .ret a w :=
  ⟨_,_,run_endRound (some .ret) (s.m.lheap hi),hR _ (s.m.putO hi rfl _ rfl rfl)⟩
theorem nC {L:Nat} {ch:List PanicEntry} {R:Ending→World→Prop} (s:Sta n [] w0 E H a w) (hR:R (.panicked ch) w):vQ P L R (.panic ch) a w:=⟨s.d,hR⟩
theorem rV {f:Func} {tmps:Array Value} {R:Ending→World→Prop} {u:FrameMode} {D i:Nat} (h:St w0 H w) (hi:H[i]?=some (pN D (some []))) (hu:u≠.run)
    (k:∀ w',St w0 (H.set i (pN D none)) w'→HS P f tmps R ds u w'):HS P f tmps R (nL D::ds) u w :=
  ⟨hu,.inl ⟨D,_,rfl,run_takeDeferred (h.dheap hi),k _ (h.putO hi rfl _ rfl rfl)⟩⟩
theorem eQ {f:Func} {R:Ending→World→Prop} {rs:List ResultVar} (vs:List Value) (hr:f.results=rs.toArray) (hF:Fits n a E) (h:qJ P w E rs vs) (hR:R (.returned (n0 vs)) w):HS P f a.tmps R [] .returning w :=
  ⟨n0 vs,n5 (tmps:=a.tmps) hr ⟨hF.size,hF.at'⟩ h,hR⟩
theorem fnM {f:FuncId} {fn:Func} {c:Code} {args:Array Value} {R:Ending→World→Prop} (vs:List Value) (hf:P.funcs[f]?=some fn) (hb:fn.body=some c) (hn:fn.ntmps=n) (ha:args=vs.toArray) (hE:uC 0 vs=E)
    (h:∀ a,Sta n [] w E [] a w→wq P f c (FQ P fn R) a w):Calls P f args w R:=by
  refine FR hf hb (h _ ⟨?_,rfl,St.init w⟩)
  subst ha; subst hE
  refine ⟨by simp; omega,fun t e he=>?_⟩
  obtain ⟨_,h2,h3⟩:=pQ vs 0 t e he
  rw [h2]
  simp only [Nat.sub_zero] at h3
  have hlt:t<vs.length:=(List.getElem?_eq_some_iff.1 h3).1
  simp only [fZ,List.all_nil,if_true]
  rw [Array.getElem?_append_left (by simpa using hlt)]
  simpa using h3
theorem WA {f:FuncId} {fn:Func} {c:Code} {args:Array Value} {R:Ending→World→Prop} (vs:List Value) (hst:St w0 H w) (hf:P.funcs[f]?=some fn) (hb:fn.body=some c) (hn:fn.ntmps=n) (ha:args=vs.toArray) (hE:uC 0 vs=E)
    (h:∀ a,Sta n [] w0 E H a w→c.wp P (bodyPost P fn R) a w):Calls P f args w R :=
  FF vs hf hb hn ha hE fun a h1 h2=>h a ⟨h2,h1,hst⟩
end items
end Go.Fz
namespace Go.Fz
open Go Go.RowKit
section draw
variable {P:Program} {ops:Array Oper} {Q:Exit→Act→World→Prop} {md:Region.Mode} {C:World→Prop}
def wpC (P:Program) (md:Region.Mode) (ops:Array Oper) (Q:Exit→Act→World→Prop) (C:World→Prop):Nat→Array Bool→Act→World→Prop
  | 0,listed,a,w=>∀ w1,Below w.heap.size w w1→Region.ready md ops listed=[]∧Q .normal a w1
  | f+1,listed,a,w=>∀ w1,Below w.heap.size w w1 →
    (Region.ready md ops listed=[]→Q .normal a w1) ∧
    ∀ i∈Region.ready md ops listed,wpOp P ops Q i (fun a' w'=>C w'∧wpC P md ops Q C f (listed.setIfInBounds i true) a' w') a w1
theorem tE:∀ (fuel:Nat) (listed:Array Bool) (a:Act) (w:World),wpC P md ops Q C fuel listed a w→wpAny P md ops Q fuel listed a w
  | 0,_,_,w,h=>h w (Below.refl _ _)
  | fuel+1,_,_,w,h=>⟨(h w (Below.refl _ _)).1,fun i hi=>wpOp_mono (fun a' w' h'=>tE fuel _ a' w' h'.2) ((h w (Below.refl _ _)).2 i hi)⟩
theorem wpC.mono {fuel:Nat} {listed:Array Bool} {a:Act} {w w1:World} (h:wpC P md ops Q C fuel listed a w) (hg:Below w.heap.size w w1):wpC P md ops Q C fuel listed a w1:=by
  cases fuel with
  | zero=>exact fun w2 h2=>h w2 (hg.trans (h2.mono hg.size))
  | succ f=>exact fun w2 h2=>h w2 (hg.trans (h2.mono hg.size))
theorem wpC.weaken {C':World→Prop} (hCC:∀ w,C' w→C w):∀ (fuel:Nat) (listed:Array Bool) (a:Act) (w:World),wpC P md ops Q C' fuel listed a w→wpC P md ops Q C fuel listed a w
  | 0,_,_,_,h=>h
  | fuel+1,listed,a,w,h=>fun w1 h1=>⟨(h w1 h1).1,fun i hi=>wpOp_mono (fun a' w' h'=>⟨hCC _ h'.1,wpC.weaken hCC fuel _ a' w' h'.2⟩) ((h w1 h1).2 i hi)⟩
def YC (P:Program) (ops:Array Oper) (C:World→Prop) (o:Oper) (v:Value) (a:Act):Prop :=
  (Region.wanted o (yielded ops a.tmps)=true∧∀ w,C w→q8 P w (execOp a.eval o) v)∨(Region.wanted o (yielded ops a.tmps)=false∧v=undef)
theorem YC.same {o:Oper} {v:Value} {a a':Act} (h:YC P ops C o v a) (he:execOp a'.eval o=execOp a.eval o) (hw:Region.wanted o (yielded ops a'.tmps)=Region.wanted o (yielded ops a.tmps)):YC P ops C o v a':=by
  unfold YC at *; rw [he,hw]; exact h
theorem YC.at' {o:Oper} {v:Value} {a:Act} {w:World} (h:YC P ops C o v a) (hC:C w):YG P ops w o v a:=h.imp (fun ⟨h0,h1⟩=>⟨h0,h1 w hC⟩) id
theorem X8 {i:Nat} {oi:Oper} {v:Value} (hi:ops[i]?=some oi) (hsel:∀ (j:Nat) (o:Oper) cs b,ops[j]?=some o→o.op≠.select cs b) (hQ:∀ c d v a w,Q (.panic c) (a.put d v) w→Q (.panic c) a w)
    (hCg:∀ w w',C w→Below w.heap.size w w'→C w') :
    ∀ (fuel:Nat) (listed:Array Bool) (a:Act) (w:World),C w →
      (∀ j oj,ops[j]?=some oj→j≠i→listed.getD j true=false→(∀ e∈oj.after,Region.binds md e=true→e.on≠i)→oi.apart ops oj=true) →
      i∈Region.ready md ops listed→YC P ops C oi v a →
      wpC P md ops Q C fuel (listed.setIfInBounds i true) (a.put oi.dst v) w→wpC P md ops Q C (fuel+1) listed a w:=by
  intro fuel
  induction fuel with
  | zero =>
    intro listed a w hCw hfree hr hy H w1 hg
    refine ⟨fun h=>(by rw [h] at hr; cases hr),fun j hj=>?_⟩
    by_cases hji:j=i
    · subst hji
      exact (hy.at' (hCg _ _ hCw hg)).wpOp hi (Below.refl _ _) fun w2 h2=>⟨hCg _ _ hCw (hg.trans (h2.mono hg.size)),H.mono (hg.trans (h2.mono hg.size))⟩
    · have:=ready_mono hj hji
      rw [(H w (Below.refl _ _)).1] at this
      cases this
  | succ fuel ih =>
    intro listed a w hCw hfree hr hy H w1 hg
    refine ⟨fun h=>(by rw [h] at hr; cases hr),fun j hj=>?_⟩
    by_cases hji:j=i
    · subst hji
      exact (hy.at' (hCg _ _ hCw hg)).wpOp hi (Below.refl _ _) fun w2 h2=>⟨hCg _ _ hCw (hg.trans (h2.mono hg.size)),H.mono (hg.trans (h2.mono hg.size))⟩
    · have h1:=(H w1 hg).2 j (ready_mono hj hji)
      obtain ⟨hjun,oj,hoj,hall⟩:=mem_ready.1 hj
      have hnot:∀ e∈oj.after,Region.binds md e=true→e.on≠i:=fun e he hb heq=>by
        have h1:=hall e he hb
        rw [heq,lG hr] at h1
        cases h1
      have hap:=hfree j oj hoj hji hjun hnot
      obtain ⟨_,_,hlk⟩:=Oper.apart_spec hap
      have h2:=BF hoj hap (fun cs b=>hsel j oj cs b hoj) (fun c a w=>hQ c _ _ a w) (fun a=>YC P ops C oi v a)
        (fun a u ha=>ha.same (execOp_put oi (fun cs b=>hsel i oi cs b hi) a oj.dst u hlk) (wanted_put oi a oj.dst u hlk)) (fun a d ha=>ha.same rfl rfl) hy h1
      have hfree':∀ k ok,ops[k]?=some ok→k≠i→(listed.setIfInBounds j true).getD k true=false→(∀ e∈ok.after,Region.binds md e=true→e.on≠i)→oi.apart ops ok=true:=fun k ok hk hki hkun hno=>by
        refine hfree k ok hk hki ?_ hno
        by_cases hjk:j=k
        · subst hjk; exact hjun
        · rw [getD_set_ne true hjk] at hkun; exact hkun
      refine wpOp_mono (fun a' w' ⟨hy',hC',hG⟩=>⟨hC',ih (listed.setIfInBounds j true) a' w' hC' hfree' (ready_mono hr (Ne.symm hji)) hy' ?_⟩) h2
      rw [Array.setIfInBounds_comm _ _ hji]
      exact hG
def X9 (P:Program) (ops:Array Oper) (C:World→Prop) (Qq:Act→Prop):List Oper→Act→Prop
  | [],a=>Qq a
  | o::l,a=>∃ v,YC P ops C o v a∧X9 P ops C Qq l (a.put o.dst v)
theorem yR (P:Program) (w w2:World) (E:List d9) (p:List (Nat × Bool)) (o:Oper):(dO P w E p o).map (·.1)=(dO P w2 E p o).map (·.1):=by
  obtain ⟨dst,op,ty,pos,after,guard⟩:=o
  cases op <;> simp only [dO]
  all_goals (repeat' (first | rfl | split))
  all_goals (try rfl)
  all_goals (try (rename_i h1 h2; rw [h1] at h2; simp_all; done))
theorem oZ {n:Nat} {w w2:World}:∀ {l:List Oper} {hs:List Value} {E E1 E2:List d9} {O1 O2:Prop},gK P w ops n l hs E=some (E1,O1)→gK P w2 ops n l hs E=some (E2,O2)→E1=E2
  | [],[],E,E1,E2,O1,O2,h1,h2=>by
    simp only [gK,Option.some.injEq,Prod.mk.injEq] at h1 h2
    rw [← h1.1,← h2.1]
  | [],_::_,_,_,_,_,_,h1,_=>by simp [gK] at h1
  | o::l,hs,E,E1,E2,O1,O2,h1,h2=>by
    simp only [gK] at h1 h2
    cases hp:lF ops E o with
    | none=>rw [hp] at h1; cases h1
    | some p =>
      rw [hp] at h1 h2
      simp only at h1 h2
      have hf:=yR P w w2 E p o
      cases s1:dO P w E p o with
      | none=>rw [s1] at h1; cases h1
      | some x1 =>
        cases s2:dO P w2 E p o with
        | none=>rw [s2] at h2; cases h2
        | some x2 =>
          obtain ⟨u1,φ1⟩:=x1
          obtain ⟨u2,φ2⟩:=x2
          rw [s1,s2] at hf
          simp only [Option.map_some,Option.some.injEq] at hf
          subst hf
          rw [s1] at h1
          rw [s2] at h2
          cases u1 with
          | some v =>
            simp only at h1 h2
            cases hd:o.dst with
            | none=>rw [hd] at h1 h2; exact oZ h1 h2
            | some d =>
              rw [hd] at h1 h2
              cases hok:eT n E d p with
              | false=>simp [hok] at h1
              | true=>simp only [hok,cond_true] at h1 h2; exact oZ h1 h2
          | none =>
            simp only at h1 h2
            cases hs with
            | nil=>cases h1
            | cons v hs =>
              simp only at h1 h2
              cases hd:o.dst with
              | none =>
                rw [hd] at h1 h2
                simp only at h1 h2
                split at h1
                · rename_i E3 O3 h3
                  split at h2
                  · rename_i E4 O4 h4
                    rw [← (bJ h1).1,← (bJ h2).1]
                    exact oZ h3 h4
                  · cases h2
                · cases h1
              | some d =>
                rw [hd] at h1 h2
                cases hok:eT n E d p with
                | false=>simp [hok] at h1
                | true =>
                  simp only [hok,cond_true] at h1 h2
                  split at h1
                  · rename_i E3 O3 h3
                    split at h2
                    · rename_i E4 O4 h4
                      rw [← (bJ h1).1,← (bJ h2).1]
                      exact oZ h3 h4
                    · cases h2
                  · cases h1
theorem uI {Qq:Act→Prop} {n:Nat} {a:Act} {E:List d9} {o:Oper} {l:List Oper} {p:List (Nat × Bool)} {v:Value} (hF:Fits n a E) (hp:lF ops E o=some p)
    (hq:fZ E p=true→∀ w,C w→q8 P w (execOp a.eval o) v) (h:X9 P ops C Qq l (a.put o.dst (if fZ E p then v else undef))):X9 P ops C Qq (o::l) a:=by
  refine ⟨if fZ E p then v else undef,?_,h⟩
  cases hf:fZ E p with
  | true=>exact .inl ⟨by rw [fI hF hp,hf],by simpa [hf] using hq hf⟩
  | false=>exact .inr ⟨by rw [fI hF hp,hf],by simp⟩
theorem rB {Qq:Act→Prop} {n:Nat} {wb:World} (hb:C wb):∀ (l:List Oper) (hs:List Value) (E E':List d9) (O:World→Prop) (a:Act),
    (∀ w,C w→gK P w ops n l hs E=some (E',O w))→(∀ w,C w→O w)→Fits n a E→(∀ a',a'.defers=a.defers→Fits n a' E'→Qq a')→X9 P ops C Qq l a
  | [],[],E,E',O,a,hev,_,hF,hn=>by
    have hev:=hev wb hb
    simp only [gK,Option.some.injEq,Prod.mk.injEq] at hev
    rw [hev.1] at hF
    exact hn a rfl hF
  | [],_::_,_,_,_,_,hev,_,_,_=>by have hev:=hev wb hb; simp [gK] at hev
  | o::l,hs,E,E',O,a,hev,hO,hF,hn=>by
    have hev0:=hev wb hb
    simp only [gK] at hev0
    split at hev0
    · cases hev0
    · rename_i p hp
      have hfst:=fun w=>yR P w wb E p o
      split at hev0
      · cases hev0
      · rename_i v φ hst
        have hst':∀ w,∃ φ',dO P w E p o=some (some v,φ'):=fun w=>by
          have h1:=hfst w
          rw [hst] at h1
          cases h2:dO P w E p o with
          | none=>rw [h2] at h1; simp at h1
          | some x=>rw [h2] at h1; obtain ⟨x1,x2⟩:=x; simp at h1; subst h1; exact ⟨x2,rfl⟩
        have hq:fZ E p=true→∀ w,C w→q8 P w (execOp a.eval o) v:=fun hf w _=>let ⟨φ',h2⟩:=hst' w; lE hF hf h2 v (.inl rfl)
        split at hev0
        · rename_i hd
          refine uI hF hp hq ?_
          rw [hd]
          refine rB hb l hs E E' O a (fun w hw=>?_) hO hF hn
          have h3:=hev w hw
          obtain ⟨φ',h2⟩:=hst' w
          simpa [gK,hp,h2,hd] using h3
        · rename_i d hd
          cases hok:eT n E d p with
          | false=>rw [hok] at hev0; cases hev0
          | true =>
            refine uI hF hp hq ?_
            rw [hd]
            refine rB hb l hs _ E' O _ (fun w hw=>?_) hO (hF.step rfl hok) fun a' h1 h2=>hn a' (h1.trans (put_defers _ _ _)) h2
            have h3:=hev w hw
            obtain ⟨φ',h2⟩:=hst' w
            simpa [gK,hp,h2,hd,hok] using h3
      · rename_i φ hst
        have hst':∀ w,∃ φ',dO P w E p o=some (none,φ'):=fun w=>by
          have h1:=hfst w
          rw [hst] at h1
          cases h2:dO P w E p o with
          | none=>rw [h2] at h1; simp at h1
          | some x=>rw [h2] at h1; obtain ⟨x1,x2⟩:=x; simp at h1; subst h1; exact ⟨x2,rfl⟩
        split at hev0
        · cases hev0
        · rename_i hs v hs'
          have hparts:∀ (E2:List d9),(∀ w,C w→∃ φ' O',dO P w E p o=some (none,φ')∧gK P w ops n l hs' E2=some (E',O')∧(tA E p (φ' v)∧O')) →
              (fZ E p=true→∀ w,C w→q8 P w (execOp a.eval o) v)∧∃ O2:World→Prop,(∀ w,C w→gK P w ops n l hs' E2=some (E',O2 w))∧∀ w,C w→O2 w:=fun E2 h=>by
            refine ⟨fun hf w hw=>?_,fun w=>∃ O',gK P w ops n l hs' E2=some (E',O')∧O',fun w hw=>?_,fun w hw=>?_⟩
            · obtain ⟨φ',O',h1,_,h2,_⟩:=h w hw
              exact lE hF hf h1 v (.inr ⟨rfl,tZ h2 hf⟩)
            · obtain ⟨φ',O',_,h1,_,h2⟩:=h w hw
              rw [h1]
              congr 2
              apply propext
              exact ⟨fun h3=>⟨O',h1,h3⟩,fun _=>h2⟩
            · obtain ⟨φ',O',_,h1,_,h2⟩:=h w hw
              exact ⟨O',h1,h2⟩
          split at hev0
          · rename_i hd
            have hp2:∀ w,C w→∃ φ' O',dO P w E p o=some (none,φ')∧gK P w ops n l hs' E=some (E',O')∧(tA E p (φ' v)∧O'):=fun w hw=>by
              obtain ⟨φ',h2⟩:=hst' w
              have h3:=hev w hw
              have h4:=hO w hw
              simp only [gK,hp,h2,hd] at h3
              split at h3
              · rename_i E3 O3 h5
                obtain ⟨h6,h7⟩:=bJ h3
                subst h6
                exact ⟨φ',O3,h2,h5,by rw [h7]; exact h4⟩
              · cases h3
            obtain ⟨hq,O2,h5,h6⟩:=hparts E hp2
            refine uI hF hp hq ?_
            rw [hd]
            exact rB hb l hs' E E' O2 a h5 h6 hF hn
          · rename_i d hd
            cases hok:eT n E d p with
            | false=>rw [hok] at hev0; cases hev0
            | true =>
              have hp2:∀ w,C w→∃ φ' O',dO P w E p o=some (none,φ')∧gK P w ops n l hs' (put E d p v)=some (E',O')∧(tA E p (φ' v)∧O'):=fun w hw=>by
                obtain ⟨φ',h2⟩:=hst' w
                have h3:=hev w hw
                have h4:=hO w hw
                simp only [gK,hp,h2,hd,hok,cond_true] at h3
                split at h3
                · rename_i E3 O3 h5
                  obtain ⟨h6,h7⟩:=bJ h3
                  subst h6
                  exact ⟨φ',O3,h2,h5,by rw [h7]; exact h4⟩
                · cases h3
              obtain ⟨hq,O2,h5,h6⟩:=hparts (put E d p v) hp2
              refine uI hF hp hq ?_
              rw [hd]
              exact rB hb l hs' _ E' O2 _ h5 h6 (hF.step rfl hok) fun a' h1 h2=>hn a' (h1.trans (put_defers _ _ _)) h2
end draw
def keepU (E:List d9):List Nat→Option (List d9)
  | []=>some []
  | t::ts=>match kJ E t with
    | some e=>match keepU E ts with
      | some l=>some (⟨t,[],bif fZ E e.path then e.val else undef⟩::l)
      | none=>none
    | none=>none
theorem yS {E:List d9}:∀ {ts:List Nat} {E':List d9},keepU E ts=some E'→∀ t e,kJ E' t=some e→∃ e0,kJ E t=some e0∧e.path=[]∧e.val=(if fZ E e0.path then e0.val else undef)
  | [],E',h,t,e,he=>by
    simp only [keepU,Option.some.injEq] at h
    subst h
    simp [kJ] at he
  | u::ts,E',h,t,e,he=>by
    simp only [keepU] at h
    split at h
    · rename_i e1 h1
      split at h
      · rename_i l hl
        simp only [Option.some.injEq] at h
        subst h
        simp only [kJ] at he
        cases hb:Nat.beq u t with
        | true =>
          rw [hb] at he
          simp only [cond_true,Option.some.injEq] at he
          have:=Nat.eq_of_beq_eq_true hb
          subst this; subst he
          refine ⟨e1,h1,rfl,?_⟩
          cases fZ E e1.path <;> rfl
        | false =>
          rw [hb] at he
          exact yS hl t e he
      · cases h
    · cases h
theorem Fits.keepU {n:Nat} {a:Act} {E E':List d9} (hF:Fits n a E) {ts:List Nat} (h:Fz.keepU E ts=some E'):Fits n a E':=by
  refine ⟨hF.size,fun t e he=>?_⟩
  obtain ⟨e0,h1,h2,h3⟩:=yS h t e he
  have:=hF.at' t e0 h1
  rw [h2,this,← h3]
  simp [fZ]
def BJ (P:Program) (w:World) (ops:Array Oper) (n:Nat) (l:List Oper) (hs:List Value) (E:List d9) (ks:List Nat):Option (List d9 × Prop) :=
  match gK P w ops n l hs E with
  | some (E',O)=>match keepU E' ks with
    | some E1=>some (E1,O)
    | none=>none
  | none=>none
section dp
variable {P:Program} {Q:Exit→Act→World→Prop} {C:World→Prop} {l:List Oper}
def qW (n:Nat) (done:List Nat):Array Bool:=((List.range n).map fun i=>done.contains i).toArray
theorem FT (n:Nat):qW n []=Array.replicate n false:=by
  apply Array.toList_inj.1
  apply List.ext_getElem?
  intro i
  simp only [qW,Array.toList_replicate,List.getElem?_map,List.getElem?_replicate]
  rcases Nat.lt_or_ge i n with h | h
  · rw [List.getElem?_range h,if_pos h]; rfl
  · rw [if_neg (by omega)]
    simp [List.getElem?_eq_none,h]
theorem vR {n k:Nat} {done:List Nat} (h:k<n):(qW n done).setIfInBounds k true=qW n (k::done):=by
  apply Array.toList_inj.1
  apply List.ext_getElem?
  intro i
  simp only [qW,Array.toList_setIfInBounds,List.getElem?_set,List.getElem?_map,List.length_map,List.length_range]
  rcases Nat.lt_or_ge i n with hi | hi
  · by_cases hk:k=i
    · subst hk; simp [List.getElem?_range hi,hi]
    · rw [if_neg hk,List.getElem?_range hi]
      simp only [Option.map_some,Option.some.injEq,List.contains_cons]
      have:(i==k)=false:=by simpa using fun e=>hk e.symm
      rw [this,Bool.false_or]
  · rw [if_neg (by omega)]
    simp [List.getElem?_eq_none,hi]
def DP (P:Program) (l:List Oper) (Q:Exit→Act→World→Prop) (C:World→Prop) (done:List Nat) (a:Act) (w:World):Prop:=wpC P .any l.toArray Q C (l.length-done.length) (qW l.length done) a w
theorem lH {id:Nat} {a:Act} {w:World} (hm:P.follows .mixedOrders=true) (C:World→Prop) (h:DP P l Q C [] a w):(Code.region id l.toArray true).wp P Q a w:=by
  refine wp_region_any hm (tE (C:=C) _ _ _ _ ?_)
  unfold DP at h
  rw [FT] at h
  exact wpC.mono (w:=w) (by simpa using h) (Below.refl _ w).drew
theorem DP.more {done:List Nat} {a:Act} {w:World} (C':World→Prop) (hCC:∀ w,C' w→C w) (h:DP P l Q C' done a w):DP P l Q C done a w:=wpC.weaken hCC _ _ _ _ h
def FU (l:List Oper):List Nat→List Oper
  | []=>[]
  | i::is=>match l[i]? with
    | some o=>o::FU l is
    | none=>FU l is
def headD (l:List Oper):List Nat→List Nat→Bool
  | _,[]=>true
  | done,i::is=>(Region.ready .any l.toArray (qW l.length done)).contains i&&Region.free .any l.toArray (qW l.length done) i&&Nat.blt done.length l.length&&headD l (i::done) is
theorem NP (hs:Region.noSelect l.toArray=true) (hQ:∀ c d v a w,Q (.panic c) (a.put d v) w→Q (.panic c) a w) (hCg:∀ w w',C w→Below w.heap.size w w'→C w') {Qq:Act→Prop}:∀ (is:List Nat) (done:List Nat) (a:Act) (w:World),C w→headD l done is=true →
    X9 P l.toArray C Qq (FU l is) a→(∀ a',Qq a'→DP P l Q C (is.reverse++done) a' w)→DP P l Q C done a w
  | [],done,a,w,_,_,h,hn=>hn a h
  | i::is,done,a,w,hCw,hB,h,hn=>by
    simp only [headD,Bool.and_eq_true] at hB
    obtain ⟨⟨⟨hr,hf⟩,hlen⟩,hB'⟩:=hB
    have hr':i∈Region.ready .any l.toArray (qW l.length done):=by simpa using hr
    obtain ⟨_,o,ho,_⟩:=mem_ready.1 hr'
    have hlt:i<l.length:=by simpa using (Array.getElem?_eq_some_iff.1 ho).1
    have hlk:l[i]?=some o:=by simpa using ho
    simp only [FU,hlk] at h
    obtain ⟨v,hv,h'⟩:=h
    have ih:=NP hs hQ hCg is (i::done) (a.put o.dst v) w hCw hB' h' (fun a' ha'=>by have:=hn a' ha'; simpa using this)
    have hlen':done.length<l.length:=by simpa [Nat.blt_eq] using hlen
    unfold DP at ih ⊢
    rw [show l.length-done.length=(l.length-(i::done).length)+1 by simp only [List.length_cons]; omega]
    rw [← vR hlt] at ih
    exact X8 ho (Region.noSelect_spec hs) hQ hCg _ _ _ _ hCw (Region.free_spec ho hf) hr' hv ih
section sta
variable {a:Act} {w w0:World} {n:Nat} {E:List d9} {H Hc:List Item} {ds:List Deferred}
theorem St.gr:∀ w w':World,St w0 Hc w→Below w.heap.size w w'→St w0 Hc w':=fun _ _ h h2=>h.grow h2
structure StC (w0:World) (Hc:List Item) (w:World):Prop where
  m:St w0 Hc w
theorem wX {hs:List Value} {E1:List d9} {ks:List Nat} {O:World→Prop} (s:Sta n ds w0 E H a w) (done is:List Nat) (hev:∀ w,BJ P w l.toArray n (FU l is) hs E ks=some (E1,O w)) (hO:∀ w,StC w0 Hc w→O w) (hc:Hc.Sublist H)
    (hsel:Region.noSelect l.toArray=true) (hB:headD l done is=true) (hQ:∀ c d v a w,Q (.panic c) (a.put d v) w→Q (.panic c) a w)
    (next:∀ a',Sta n ds w0 E1 H a' w→DP P l Q (St w0 Hc) (is.reverse++done) a' w):DP P l Q (St w0 Hc) done a w:=by
  have hC:=s.m.sub hc
  have h0:=hev w
  simp only [BJ] at h0
  split at h0
  · rename_i E' O' hev2
    split at h0
    · rename_i E1' hk
      obtain ⟨h1,h2⟩:=bJ h0
      subst h1
      refine NP (Qq:=fun a'=>a'.defers=a.defers∧Fits n a' E1') hsel hQ St.gr is done a w hC hB ?_ (fun a' h=>next a' ⟨h.2,h.1.trans s.d,s.m⟩)
      refine rB (wb:=w) hC _ hs E E' O a (fun w1 _=>?_) (fun w1 hw1=>hO w1 ⟨hw1⟩) s.f fun a' h1 h2=>⟨h1,h2.keepU hk⟩
      have h3:=hev w1
      simp only [BJ] at h3
      split at h3
      · rename_i E3 O3 h4
        split at h3
        · obtain ⟨h5,h6⟩:=bJ h3
          rw [h4,h6]
          congr 2
          exact oZ h4 hev2
        · cases h3
      · cases h3
    · cases h0
  · cases h0
theorem tX (s:Sta n ds w0 E H a w) (done:List Nat) (k:Nat) {o o':Oper} {p:List (Nat × Bool)} (ho:l[k]?=some o) (hp:lF l.toArray E o=some p) (hfl:fZ E p=true) (ho':{ o with guard:=none }=o') (hr:Region.ready .any l.toArray (qW l.length done)=[k]) (hk:Nat.blt done.length l.length=true)
    (h:∀ w1,Sta n ds w0 E H a w1→WL P [o'] (Exit.then (fun a' w'=>C w'∧DP P l Q C (k::done) a' w') Q) 0 a w1):DP P l Q C done a w:=by
  have hlt:k<l.length:=(List.getElem?_eq_some_iff.1 ho).1
  have hlen':done.length<l.length:=by simpa [Nat.blt_eq] using hk
  unfold DP
  rw [show l.length-done.length=(l.length-(k::done).length)+1 by simp only [List.length_cons]; omega]
  intro w1 hg
  refine ⟨fun h0=>(by rw [hr] at h0; cases h0),fun i hi=>?_⟩
  rw [hr] at hi
  obtain rfl:i=k:=by simpa using hi
  have h1:=WL.lone (by rw [← ho']) (h w1 (s.grow hg))
  unfold wpOp
  have ho2:l.toArray[i]?=some o:=by simpa using ho
  simp only [ho2,fI s.f hp,hfl,if_true]
  have e1:∀ (K:Act→World→Prop),o'.wp P a w1 K Q→o.wp P a w1 K Q:=fun K hK=>by subst ho'; exact hK
  rcases h1 with h1 | ⟨h1,h2⟩
  · refine .inl (e1 _ (Oper.wp_mono (fun a' w' hd=>⟨hd.1,?_⟩) h1))
    rw [vR hlt]; exact hd.2
  · exact .inr ⟨by subst ho'; exact h1,h2⟩
theorem RG {done:List Nat} (s:Sta n ds w0 E H a w) (hr:Region.ready .any l.toArray (qW l.length done)=[]) (h:∀ w1,Sta n ds w0 E H a w1→Q .normal a w1):DP P l Q C done a w:=by
  unfold DP
  generalize l.length-done.length=f
  cases f with
  | zero=>exact fun w1 hg=>⟨hr,h w1 (s.grow hg)⟩
  | succ f=>exact fun w1 hg=>⟨fun _=>h w1 (s.grow hg),fun i hi=>(by rw [hr] at hi; cases hi)⟩
theorem dp2 (s:Sta n ds w0 E H a w) (done:List Nat) (k j:Nat) {o o2:Oper} (ho:l[k]?=some o) (ho2:l[j]?=some o2) (hg1:o.guard=none) (hg2:o2.guard=none) (hr:Region.ready .any l.toArray (qW l.length done)=[k,j]) (hk:Nat.blt done.length l.length=true)
    (h1:∀ w1,Sta n ds w0 E H a w1→WL P [o] (Exit.then (fun a' w'=>C w'∧DP P l Q C (k::done) a' w') Q) 0 a w1)
    (h2:∀ w1,Sta n ds w0 E H a w1→WL P [o2] (Exit.then (fun a' w'=>C w'∧DP P l Q C (j::done) a' w') Q) 0 a w1):DP P l Q C done a w:=by
  have hlen':done.length<l.length:=by simpa [Nat.blt_eq] using hk
  unfold DP
  rw [show l.length-done.length=(l.length-(done.length+1))+1 by omega]
  intro w1 hg
  refine ⟨fun h0=>(by rw [hr] at h0; cases h0),fun i hi=>?_⟩
  rw [hr] at hi
  have key:∀ (q:Nat) (x:Oper),l[q]?=some x→x.guard=none→WL P [x] (Exit.then (fun a' w'=>C w'∧DP P l Q C (q::done) a' w') Q) 0 a w1 →
      wpOp P l.toArray Q q (fun a' w'=>C w'∧wpC P .any l.toArray Q C (l.length-(done.length+1)) ((qW l.length done).setIfInBounds q true) a' w') a w1:=fun q x hx hgx hw=>by
    have hlt:q<l.length:=(List.getElem?_eq_some_iff.1 hx).1
    have h1:=WL.lone hgx hw
    unfold wpOp
    have ho2:l.toArray[q]?=some x:=by simpa using hx
    simp only [ho2,Region.wanted,hgx,if_true]
    rcases h1 with h1 | h1
    · refine .inl (Oper.wp_mono (fun a' w' hd=>⟨hd.1,?_⟩) h1)
      rw [vR hlt]; exact hd.2
    · exact .inr h1
  rcases List.mem_cons.1 hi with rfl | hi
  · exact key _ _ ho hg1 (h1 w1 (s.grow hg))
  · obtain rfl:i=j:=by simpa using hi
    exact key _ _ ho2 hg2 (h2 w1 (s.grow hg))
theorem Sta.swap {x y:Item} {E':List d9} (s:Sta n ds w0 E (x::y::H) a w) (h:∀ a,Fits n a E→Fits n a E'):Sta n ds w0 E' (y::x::H) a w:=⟨h _ s.f,s.d,s.m.perm (List.Perm.swap _ _ _)⟩
theorem adY (s:Sta n ds w0 E H a w) (done:List Nat) (k j:Nat) (cs1 cs2:List Value) (ks:List Nat) {d1 t1 ty1 d2 t2 ty2:Nat} {pos1 pos2:String} {after1 after2:Array Edge} {z1 z2:Value}
    (ho1:l[k]?=some ⟨some d1,.alloc t1,ty1,pos1,after1,none⟩) (ho2:l[j]?=some ⟨some d2,.alloc t2,ty2,pos2,after2,none⟩) (hz1:ZeroT P t1 z1) (hz2:ZeroT P t2 z2) (hc1:z1.cells=cs1.toArray) (hc2:z2.cells=cs2.toArray)
    (hok1:eT n E d1 []=true) (hok2:eT n E d2 []=true) (hok12:∀ B,eT n (put E d1 [] (Pt B 0)) d2 []=true) (hok21:∀ B,eT n (put E d2 [] (Pt B 0)) d1 []=true) (hc:Hc.Sublist H)
    (hr:Region.ready .any l.toArray (qW l.length done)=[k,j]) (hr1:Region.ready .any l.toArray (qW l.length (k::done))=[j]) (hr2:Region.ready .any l.toArray (qW l.length (j::done))=[k]) (hlen:Nat.blt (done.length+1) l.length=true)
    (hsame:qW l.length (k::j::done)=qW l.length (j::k::done)) (hre:∀ B1 B2,Fz.keep (put (put E d2 [] (Pt B2 0)) d1 [] (Pt B1 0)) ks=some (put (put E d1 [] (Pt B1 0)) d2 [] (Pt B2 0)))
    (next:∀ B1 B2 a' w',Sta n ds w0 (put (put E d1 [] (Pt B1 0)) d2 [] (Pt B2 0)) (cI B2 t2 cs2::cI B1 t1 cs1::H) a' w'→DP P l Q (St w0 Hc) (j::k::done) a' w'):DP P l Q (St w0 Hc) done a w:=by
  have hlen':done.length+1<l.length:=by simpa [Nat.blt_eq] using hlen
  have hl0:Nat.blt done.length l.length=true:=by rw [Nat.blt_eq]; omega
  have h0:∀ {H':List Item} {w'},St w0 (H'++H) w'→St w0 Hc w':=fun h=>h.sub (hc.trans (List.sublist_append_right _ _))
  refine dp2 s done k j ho1 ho2 rfl rfl hr hl0 (fun w1 s1=>?_) (fun w1 s1=>?_)
  · refine la s1 0 cs1 rfl hz1 hc1 hok1 fun B1 a2 w2 s2=>aR rfl (aD ⟨h0 (H':=[_]) s2.m,?_⟩)
    refine tX s2 (k::done) j ho2 rfl rfl rfl hr1 (by simpa using hlen) fun w3 s3=>?_
    exact la s3 0 cs2 rfl hz2 hc2 (hok12 B1) fun B2 a4 w4 s4=>aR rfl (aD ⟨h0 (H':=[_,_]) s4.m,next B1 B2 a4 w4 s4⟩)
  · refine la s1 0 cs2 rfl hz2 hc2 hok2 fun B2 a2 w2 s2=>aR rfl (aD ⟨h0 (H':=[_]) s2.m,?_⟩)
    refine tX s2 (j::done) k ho1 rfl rfl rfl hr2 (by simpa using hlen) fun w3 s3=>?_
    refine la s3 0 cs1 rfl hz1 hc1 (hok21 B2) fun B1 a4 w4 s4=>aR rfl (aD ⟨h0 (H':=[_,_]) s4.m,?_⟩)
    have:=next B1 B2 a4 w4 (s4.swap fun a hF=>hF.keep (hre B1 B2))
    unfold DP at this ⊢
    rw [hsame]
    simpa using this
end sta
end dp
end Go.Fz
namespace Go.Fz
open Go Go.RowKit
structure RU (d:TypeDesc) {α:Type} [BEq α] (K:α→Value):Prop where
  same:∀ a b,Instr.sameNow d (K a) (K b)=some (a==b)
  key:∀ a,MapKept.IsKey d (K a)
  eq:∀ a b:α,(a==b)=true→a=b
theorem YA:RU (.int .i64) I:=⟨fun a b=>by simp [Instr.sameNow],fun _=>rfl,fun a b h=>by simpa using h⟩
theorem YB:RU .string Value.string:=⟨fun a b=>by simp [Instr.sameNow],fun _=>trivial,fun a b h=>(MapKept.bytes_beq a b).1 h⟩
section m
variable {α:Type} [BEq α] {K:α→Value}
def mK (K:α→Value) (ps:List (α × Value)):List (Value × Value):=ps.map fun p=>(K p.1,p.2)
def vS (ps:List (α × Value)) (k:α):Option Nat:=ps.findIdx? fun p=>k==p.1
def qX (ps:List (α × Value)) (k:α):Option Value:=(vS ps k).bind fun j=>(ps[j]?).map (·.2)
def tF (ps:List (α × Value)) (k:α) (x:Value):List (α × Value):=match vS ps k with
  | some j=>ps.set j (k,x)
  | none=>ps++[(k,x)]
theorem BK {d:TypeDesc} (hk:RU d K) (v:α):∀ (es:List MapEntry) (ps:List (α × Value)) (i:Nat),CU es=mK K ps →
    Instr.findNow d (K v) es i=some ((vS ps v).bind fun j=>(ps[j]?).map fun p=>(i+j,p.2))
  | [],ps,i,h=>by
    have:ps=[]:=by cases ps <;> simp_all [CU,mK]
    subst this; simp [Instr.findNow,vS]
  | e::es,[],i,h=>by simp [CU,mK] at h
  | e::es,p::ps,i,h=>by
    simp only [CU,mK,List.map_cons,List.cons.injEq,Prod.mk.injEq] at h
    unfold Instr.findNow
    rw [h.1.1,hk.same]
    cases hv:v==p.1 with
    | true=>simp [vS,List.findIdx?_cons,hv,h.1.2]
    | false =>
      simp only
      rw [BK hk v es ps (i+1) h.2]
      simp only [vS,List.findIdx?_cons,hv]
      cases ps.findIdx? (fun p=>v==p.1) with
      | none=>rfl
      | some j=>simp [show i+1+j=i+(j+1) by omega]
variable {P:Program} {w w0:World} {H:List Item}
theorem sL {d:TypeDesc} {kt:TypeId} (hk:RU d K) (hd:P.underlying kt=some d) (v:α) {es:List MapEntry} {ps:List (α × Value)} (h:CU es=mK K ps) :
    (Instr.findKey kt (K v) es).run P w=.ok ((vS ps v).bind fun j=>(ps[j]?).map fun p=>(j,p.2)) w:=by
  have:=MapKept.run_findKey (P:=P) (w:=w) hd (BK hk v es ps 0 h)
  simpa using this
theorem wY {d:TypeDesc} {mt kt et r clock:Nat} {z:Value} {es:Array MapEntry} {ps:List (α × Value)} (hk:RU d K) (ht:P.underlying mt=some (.map kt et)) (hd:P.underlying kt=some d) (hz:ZeroT P et z)
    (hb:w.heap[r]?=some (.map es clock)) (hes:CU es.toList=mK K ps) (v:α) (ok:Bool) :
    (Instr.lookup mt (.map (some r)) (K v) ok).run P w=.ok (if ok then .tuple #[(qX ps v).getD z,.bool (qX ps v).isSome] else (qX ps v).getD z) w:=by
  have h1:(Instr.checkKey es.isEmpty 10000 kt (K v)).run P w=.ok () w:=MapKept.run_checkKey hd (hk.key v) _ 9999
  have h2:=sL (P:=P) (w:=w) hk hd v hes
  unfold qX
  cases hx:(vS ps v).bind fun j=>(ps[j]?).map fun p=>(j,p.2) with
  | none =>
    have h3:((vS ps v).bind fun j=>(ps[j]?).map (·.2))=none:=by
      cases hi:vS ps v with
      | none=>rfl
      | some j=>rw [hi] at hx; simp at hx; simp [hx]
    rw [hx] at h2
    rw [h3]
    cases ok <;> simp [Instr.lookup,run_underlying ht,MapKept.run_getObj_map hb,h1,h2,hz w]
  | some y =>
    have h3:((vS ps v).bind fun j=>(ps[j]?).map (·.2))=some y.2:=by
      cases hi:vS ps v with
      | none=>rw [hi] at hx; simp at hx
      | some j =>
        rw [hi] at hx
        cases hj:ps[j]? with
        | none=>simp [hj] at hx
        | some p=>simp [hj] at hx; simp [hj,← hx]
    rw [hx] at h2
    rw [h3]
    cases ok <;> simp [Instr.lookup,run_underlying ht,MapKept.run_getObj_map hb,h1,h2]
theorem RV (es:List MapEntry) (i:Nat) (k x:Value):CU (es.modify i fun e=>{ e with key:=k,val:=x })=(CU es).set i (k,x):=by
  apply List.ext_getElem?
  intro j
  simp only [CU,List.getElem?_map,List.getElem?_modify,List.getElem?_set,List.length_map]
  by_cases h:i=j
  · subst h
    by_cases hi:i<es.length
    · simp [hi]
    · simp [hi]
  · rw [if_neg h]
    simp [h]
theorem yT {d:TypeDesc} {mt kt et r clock:Nat} {x:Value} {es:Array MapEntry} {ps:List (α × Value)} (hk:RU d K) (ht:P.underlying mt=some (.map kt et)) (hd:P.underlying kt=some d)
    (hb:w.heap[r]?=some (.map es clock)) (hes:CU es.toList=mK K ps) (v:α) :
    ∃ es' clock',(Instr.mapUpdate mt (.map (some r)) (K v) x).run P w=.ok () { w with heap:=w.heap.setIfInBounds r (.map es' clock') }∧CU es'.toList=mK K (tF ps v x):=by
  have h1:(Instr.checkKey false 10000 kt (K v)).run P w=.ok () w:=MapKept.run_checkKey hd (hk.key v) _ 9999
  have h2:=sL (P:=P) (w:=w) hk hd v hes
  cases hi:vS ps v with
  | none =>
    rw [hi] at h2
    refine ⟨es.push ⟨K v,x,clock⟩,clock+1,?_,?_⟩
    · simp only [Option.bind_none] at h2
      simp [Instr.mapUpdate,run_underlying ht,MapKept.run_getObj_map hb,h1,h2,MapKept.run_setObj_map _ hb]
    · have:CU (es.push ⟨K v,x,clock⟩).toList=CU es.toList++[(K v,x)]:=by simp [CU]
      rw [this,hes]
      simp [tF,hi,mK]
  | some j =>
    have hj:=List.findIdx?_eq_some_iff_getElem.1 hi
    obtain ⟨hlt,hvj,_⟩:=hj
    have hv:v=ps[j].1:=hk.eq _ _ hvj
    have hpj:ps[j]?=some ps[j]:=List.getElem?_eq_getElem hlt
    rw [hi] at h2
    simp only [Option.bind_some,hpj,Option.map_some] at h2
    have hlen:es.toList.length=ps.length:=by have:=congrArg List.length hes; simpa [CU,mK] using this
    have hlt':j<es.size:=by have:es.toList.length=es.size:=Array.length_toList; omega
    have hej:es[j]?=some es[j]:=by simp [hlt']
    have hkey:es[j].key=K v:=by
      have h4:=congrArg (fun l=>l[j]?) hes
      simp only [CU,mK,List.getElem?_map,hpj] at h4
      simp [hlt'] at h4
      rw [h4.1,hv]
    refine ⟨es.modify j fun e=>{ e with key:=K v,val:=x },clock,?_,?_⟩
    · have h5:(((es[j]?).map (·.key)).getD (K v))=K v:=by rw [hej]; exact hkey
      simp [Instr.mapUpdate,run_underlying ht,MapKept.run_getObj_map hb,h1,h2,h5,MapKept.run_keyThatStays (hk.key v),MapKept.run_setObj_map _ hb]
    · rw [Array.toList_modify,RV,hes]
      simp [tF,hi,mK,List.map_set]
theorem St.lk (h:St w0 H w) (i:Nat) {d:TypeDesc} {mt kt et B:Nat} {z:Value} {ps:List (α × Value)} (hk:RU d K) (ht:P.underlying mt=some (.map kt et)) (hd:P.underlying kt=some d) (hz:ZeroT P et z) (hi:H[i]?=some (mI B (mK K ps))) (v:α) :
    Yv P w (Instr.lookup mt (.map (some B)) (K v) false) ((qX ps v).getD z):=fun w' hw'=>by
  obtain ⟨es,clock,hb,hes⟩:=(h.grow hw').mheap hi
  simpa using wY (P:=P) hk ht hd hz hb hes v false
theorem St.lkok (h:St w0 H w) (i:Nat) {d:TypeDesc} {mt kt et B:Nat} {z:Value} {ps:List (α × Value)} (hk:RU d K) (ht:P.underlying mt=some (.map kt et)) (hd:P.underlying kt=some d) (hz:ZeroT P et z) (hi:H[i]?=some (mI B (mK K ps))) (v:α) :
    Yv P w (Instr.lookup mt (.map (some B)) (K v) true) (.tuple #[(qX ps v).getD z,.bool (qX ps v).isSome]):=fun w' hw'=>by
  obtain ⟨es,clock,hb,hes⟩:=(h.grow hw').mheap hi
  simpa using wY (P:=P) hk ht hd hz hb hes v true
theorem St.mlen (h:St w0 H w) (i:Nat) {mt kt et ty B:Nat} {ps:List (Value × Value)} (ht:P.underlying mt=some (.map kt et)) (hi:H[i]?=some (mI B ps)) :
    Yv P w (Builtin.len_ #[mt] ty #[.map (some B)]) (I ps.length):=fun w' hw'=>by
  obtain ⟨es,clock,hb,hes⟩:=(h.grow hw').mheap hi
  have:es.size=ps.length:=by rw [← hes]; simp [CU]
  simp [Builtin.len_,run_underlying ht,MapKept.run_getObj_map hb,goInt,this,I]
variable {n:Nat} {a:Act} {E:List d9} {l:List Oper} {Q:Exit→Act→World→Prop} {ds:List Deferred}
theorem lmk (s:Sta n ds w0 E H a w) (k:Nat) {d t ty:Nat} {pos:String} {after:Array Edge} (ho:l[k]?=some ⟨some d,.makeMap t none,ty,pos,after,none⟩)
    (hok:eT n E d []=true) (next:∀ B a' w',Sta n ds w0 (Fz.put E d [] (.map (some B))) (mI B []::H) a' w'→WL P l Q (k+1) a' w'):WL P l Q k a w :=
  WL.makeMap k s.f s.m ho hok fun B a' w' h1 h2 h3 _=>next B a' w' ⟨h2,h1.trans s.d,h3⟩
theorem lmu (s:Sta n ds w0 E H a w) (k i:Nat) {d:TypeDesc} {mt kt et ty B:Nat} {mx kx vx:Operand} {pos:String} {after:Array Edge} {x:Value} {ps:List (α × Value)} (v:α) (hkk:RU d K)
    (ho:l[k]?=some ⟨none,.mapUpdate mt mx kx vx,ty,pos,after,none⟩) (hm:rd E [] mx=some (.map (some B))) (hk:rd E [] kx=some (K v)) (hx:rd E [] vx=some x)
    (ht:P.underlying mt=some (.map kt et)) (hd:P.underlying kt=some d) (hi:H[i]?=some (mI B (mK K ps)))
    (next:∀ w',Sta n ds w0 E (H.set i (mI B (mK K (tF ps v x)))) a w'→WL P l Q (k+1) a w'):WL P l Q k a w:=by
  refine WL.loud k ho rfl fun N hN=>?_
  obtain ⟨es,clock,hb,hes⟩:=s.m.mheap hi
  have hB:B<w.heap.size:=(s.m.lo _ (List.mem_of_getElem? hi) B rfl).2
  obtain ⟨es',clock',hrun',hes'⟩:=yT (P:=P) (x:=x) hkk ht hd hb hes v
  have hrun:(execOp a.eval ⟨none,.mapUpdate mt mx kx vx,ty,pos,after,none⟩).run P w=.ok .skip { w with heap:=w.heap.setIfInBounds B (.map es' clock') }:=by
    simp [execOp,vL s.f hm,vL s.f hk,vL s.f hx,hrun']
  simp only [Oper.wp,hrun,Oper.upon]
  refine hN _ _ (next _ ⟨s.f,s.d,?_⟩)
  exact s.m.upd i hi rfl rfl rfl rfl rfl (by simp) (fun j _ hj=>by simp [Array.getElem?_setIfInBounds,Ne.symm hj]) ⟨es',clock',by simp [hB],hes'⟩
end m
section nil
variable {P:Program}
theorem RW {t e:TypeId} (h:eE P t e) (w:World) (oa:Option Addr) (n c:Nat):(Op.equal t (.slice oa n c) (.slice none 0 0)).run P w=.ok oa.isNone w:=by
  unfold Op.equal
  rw [show Op.maxDepth=9999+1 from rfl]
  unfold Op.equalIn
  cases oa <;> simp only [Sem.run_bind,jS h,Result.andThen_ok,Sem.run_pure,Option.isNone]
theorem RY {t:TypeId} {ms:Array (String × TypeId)} (h:P.underlying t=some (.interface ms)) (w:World) (d:TypeId) (u:Value):(Op.equal t (.iface d u) .nilIface).run P w=.ok false w:=by
  unfold Op.equal
  rw [show Op.maxDepth=9999+1 from rfl]
  unfold Op.equalIn
  simp only [Sem.run_bind,run_underlying h,Result.andThen_ok,Sem.run_pure]
theorem NQ {t:TypeId} {ms:Array (String × TypeId)} (h:P.underlying t=some (.interface ms)) (w:World):(Op.equal t .nilIface .nilIface).run P w=.ok true w:=by
  unfold Op.equal
  rw [show Op.maxDepth=9999+1 from rfl]
  unfold Op.equalIn
  simp only [Sem.run_bind,run_underlying h,Result.andThen_ok,Sem.run_pure]
theorem WB (w:World) (x y:Operand) (oa:Option Addr) (n c:Nat) {t e:TypeId} (h:eE P t e) :
    Yv P w (do eqGuard .eql t x y (.slice oa n c) (.slice none 0 0); binOp .eql t (.slice oa n c) (.slice none 0 0)) (Bo oa.isNone):=Yv.intro fun w'=>by
  have:=RW h w' oa n c
  simp only [eqGuard,Bool.not_true,Bool.false_eq_true,if_false,binOp,Sem.run_bind,Sem.run_pure,Result.andThen_ok,this]
theorem nin (w:World) (x:Operand) (t d:TypeId) {ms:Array (String × TypeId)} (u:Value) (h:P.underlying t=some (.interface ms)) :
    Yv P w (do eqGuard .neq t x (.const .nilIface) (.iface d u) .nilIface; binOp .neq t (.iface d u) .nilIface) (Bo true):=Yv.intro fun w'=>by
  have:=RY h w' d u
  simp only [eqGuard,Bool.not_true,Bool.false_eq_true,if_false,binOp,Sem.run_bind,Sem.run_pure,Result.andThen_ok,this,Bool.not_false]
theorem YD (w:World) (x:Operand) (t:TypeId) {ms:Array (String × TypeId)} (h:P.underlying t=some (.interface ms)) :
    Yv P w (do eqGuard .neq t x (.const .nilIface) .nilIface .nilIface; binOp .neq t .nilIface .nilIface) (Bo false):=Yv.intro fun w'=>by
  have:=NQ h w'
  simp only [eqGuard,Bool.not_true,Bool.false_eq_true,if_false,binOp,Sem.run_bind,Sem.run_pure,Result.andThen_ok,this,Bool.or_true,if_true]
theorem tas (w:World) (xt t:TypeId) (v:Value) {d:TypeDesc} (h:P.underlying t=some d) (hd:∀ ms,d≠.interface ms):Yv P w (Instr.typeAssert (.iface t v) xt t true) (.tuple #[v,.bool true]):=Yv.intro fun w'=>by
  cases d <;> first | (simp [Instr.typeAssert,run_underlying h]; done) | exact absurd rfl (hd _)
end nil
end Go.Fz
namespace Go.Fz
open Go Go.RowKit
section y
variable {P:Program} {Q:Exit→Act→World→Prop} {a:Act} {w w0:World} {n:Nat} {E:List d9} {H:List Item} {ds:List Deferred} {l:List Oper}
theorem pT {r:Option Nat} {m:Nat} {ops:Array Oper} {C:World→Prop} {Qq:Act→Prop} {rest:List Oper}:∀ (l:List Oper) (a:Act) (w:World),C w→l.all qK=true →
    wpQuiet P ops C Qq l a→(∀ a' w',C w'→Qq a'→wpListIn (Fr r) m P ops Q rest a' w')→wpListIn (Fr r) m P ops Q (l++rest) a w
  | [],a,w,hw,_,h,hn=>hn a w hw h
  | o::l,a,w,hw,hd,h,hn=>by
    simp only [List.all_cons,Bool.and_eq_true] at hd
    simp only [List.cons_append,wpListIn]
    simp only [wpQuiet] at h
    split
    · rename_i hwant
      rw [if_pos hwant] at h
      refine ⟨fun _ _=>trivial,?_⟩
      rw [Oper.semAt_eq _ _ _ (uH hd.1)]
      exact xS (Oper.wp_of_quiet hw (fun a' w' hw' hk=>pT l a' w' hw' hd.2 hk hn) h)
    · rename_i hwant
      rw [if_neg hwant] at h
      exact ⟨fun _ _=>trivial,pT l _ w hw hd.2 h hn⟩
theorem AX {ops:Array Oper} {wb:World} {Qq:Act→Prop} {l:List Oper} {hs:List Value} {E1:List d9} {ks:List Nat} {O:Prop}
    (hF:Fits n a E) (hev:BJ P wb ops n l hs E ks=some (E1,O)) (hO:O) (hn:∀ a',a'.defers=a.defers→Fits n a' E1→Qq a'):wpQuiet P ops (fun w'=>Below wb.heap.size wb w') Qq l a:=by
  simp only [BJ] at hev
  split at hev
  · rename_i E' O' hev2
    split at hev
    · rename_i E1' hk
      obtain ⟨h1,h2⟩:=bJ hev
      subst h1; subst h2
      exact uA l hs E E' O' a hev2 hO hF fun a' h1 h2=>hn a' h1 (h2.keepU hk)
    · cases hev
  · cases hev
theorem UX {id:Nat} (h:wpListIn (Fr none) 0 P l.toArray Q (l.drop 0) a w):(Code.region id l.toArray false).wp P Q a w :=
  (wpIn_wide (n:=0)).1 (wpIn_region_lit h)
theorem ylq {hs:List Value} {E1:List d9} {ks:List Nat} {O:Prop} (s:Sta n ds w0 E H a w) (k m:Nat) (hev:BJ P w l.toArray n ((l.drop k).take m) hs E ks=some (E1,O)) (hO:O) (hd:((l.drop k).take m).all qK=true)
    (next:∀ a' w',Sta n ds w0 E1 H a' w'→wpListIn (Fr none) 0 P l.toArray Q (l.drop (k+m)) a' w'):wpListIn (Fr none) 0 P l.toArray Q (l.drop k) a w:=by
  have hsplit:l.drop k=(l.drop k).take m++l.drop (k+m):=by rw [← List.drop_drop,List.take_append_drop]
  rw [hsplit]
  exact pT _ a w (Below.refl _ _) hd (AX s.f hev hO (Qq:=fun a'=>a'.defers=a.defers∧Fits n a' E1) fun a' h1 h2=>⟨h1,h2⟩) fun a' w' hw' hq=>next a' w' ⟨hq.2,hq.1.trans s.d,s.m.grow hw'⟩
theorem yly (s:Sta n ds w0 E H a w) (k:Nat) {L:Nat} {dst:Option Nat} {f:Operand} {args:Array Operand} {ats:Array TypeId} {ty:Nat} {pos:String} {after:Array Edge} {g:Option (Nat × Bool)} {p:List (Nat × Bool)} {vs:List Value} {R:Ending→World→Prop}
    (ho:l[k]?=some ⟨dst,.call ⟨.value f,args,ats⟩,ty,pos,after,g⟩) (hp:lF l.toArray E ⟨dst,.call ⟨.value f,args,ats⟩,ty,pos,after,g⟩=some p) (hfl:fZ E p=true)
    (hf:rd E [] f=some (yv L)) (hargs:xQ E [] args.toList=some vs) (hok:RF n E dst=true) (hy:Yields P L vs w R)
    (hR:∀ e w',R e w'→match e with
      | .returned v=>∀ a',a'.defers=ds→Fits n a' (Fz.putd E dst v)→wpListIn (Fr none) 0 P l.toArray Q (l.drop (k+1)) a' w'
      | .panicked ch=>Q (.panic ch) a w'
      | .outgrown=>LetsOut Q):wpListIn (Fr none) 0 P l.toArray Q (l.drop k) a w:=by
  obtain ⟨hlt,hget⟩:=List.getElem?_eq_some_iff.1 ho
  rw [List.drop_eq_getElem_cons hlt,hget]
  simp only [wpListIn,fI s.f hp,hfl,if_true]
  refine ⟨fun _ _=>trivial,?_⟩
  obtain ⟨fn,tmps,assign,body,h1,h2⟩:=hy
  have e1:args.map a.eval=vs.toArray:=Array.toList_inj.1 (by rw [Array.toList_map,q9 s.f (rA E) hargs])
  have hrun:(Oper.semAt none a.eval ⟨dst,.call ⟨.value f,args,ats⟩,ty,pos,after,g⟩).run P w=.ok (.round L fn tmps assign body) w:=by
    simp [Oper.semAt_none,execOp,resolve,e1,vL s.f hf,Deferred.ofValue,invoke]
    exact h1
  show Oper.uponIn _ _ _ _ _ _ _ ((Oper.semAt none a.eval _).run P w)
  rw [hrun]
  simp only [Oper.uponIn]
  have h3:RoundIn (Fr none) (0-1) P L fn tmps assign body w R:=⟨trivial,fun c cs _=>h2.2 c cs (room_wide _)⟩
  refine And.intro (fun hh=>by cases hh) (h3.mono fun e w' he=>?_)
  have:=hR e w' he
  cases e with
  | returned v=>exact this _ ((put_defers _ _ _).trans s.d) (s.f.putd v hok)
  | panicked ch=>exact this
  | outgrown=>exact this
theorem UY (k:Nat) (hL:¬ LetsOut Q) (hd:(l.drop k).all yP=true) (h:WL P (l.drop k) Q 0 a w):wpListIn (Fr none) 0 P l.toArray Q (l.drop k) a w:=RS hL hd h
end y
theorem St.same {w0 w:World} {H:List Item} {i:Nat} {it:Item} (h:St w0 H w) (hi:H[i]?=some it):St w0 (H.set i it) w:=by
  have:H.set i it=H:=by
    apply List.ext_getElem?
    intro j
    rw [List.getElem?_set]
    split
    · rename_i e; subst e
      split
      · exact hi.symm
      · rename_i h'; rw [List.getElem?_eq_none (by omega)]
    · rfl
  rw [this]; exact h
structure RowO {α:Type} (w:World) (oa:Option Addr) (sz:Nat) (enc:α→List (Option Value)) (xs:List α):Prop where
  ne:xs≠[]→∃ a,oa=some a∧a.spot=none
  cell:∀ i x j v,xs[i]?=some x→(enc x)[j]?=some (some v)→w.cell? (kK oa (i*sz+j))=some v
  small:xs.length≤140737488355328
section rowo
variable {P:Program} {w w0:World} {α:Type} {oa:Option Addr} {sz:Nat} {enc:α→List (Option Value)} {xs:List α}
theorem RowO.at' (h:RowO w oa sz enc xs) {k:Nat} (hk:k<xs.length):∃ a,oa=some a∧a.spot=none:=h.ne (fun e=>by subst e; simp at hk)
theorem RowO.ia (h:RowO w oa sz enc xs) (c k:Nat) {t e:TypeId} (ht:eE P t e) (hs:SizeT P e sz) (hk:k<xs.length):Yv P w (Instr.indexAt t (.slice oa xs.length c) (I k)) (Pa (kK oa (k*sz))) :=
  Fz.ia w oa xs.length c k ht hs hk (h.at' hk)
theorem RowO.ld (h:RowO w oa sz enc xs) (t:TypeId) (i j:Nat) {x:α} {v:Value} (ht:Scalar P t) (hx:xs[i]?=some x) (hv:(enc x)[j]?=some (some v)):Yv P w (Instr.loadAt t (Pa (kK oa (i*sz+j)))) v:=fun w' hw'=>by
  have:=St.keepCell hw' (h.cell i x j v hx hv)
  simp [Instr.loadAt,Instr.sureAddr,lX ht this]
theorem Row.o {enc':α→List Value} (h:Row w oa sz enc' xs) (he:∀ (x:α) (j:Nat) (v:Value),(enc x)[j]?=some (some v)→(enc' x)[j]?=some v):RowO w oa sz enc xs :=
  ⟨h.ne,fun i x j v hx hv=>h.cell i x j v hx (he x j v hv),h.small⟩
end rowo
end Go.Fz
namespace Go.Fz
open Go Go.RowKit
section df
variable {P:Program} {Q:Exit→Act→World→Prop} {a:Act} {w w0:World} {n:Nat} {E:List d9} {H:List Item} {ds:List Deferred} {l:List Oper}
theorem Sta.at' {H':List Item} {w':World} (s:Sta n ds w0 E H a w) (h:St w0 H' w'):Sta n ds w0 E H' a w':=⟨s.f,s.d,h⟩
theorem ldf (s:Sta n ds w0 E H a w) (k:Nat) {f:Operand} {ats:Array TypeId} {ty g:Nat} {pos:String} {after:Array Edge} {ca:Array Value}
    (ho:l[k]?=some ⟨none,.defer ⟨.value f,#[],ats⟩,ty,pos,after,none⟩) (hf:rd E [] f=some (.func (.func g) #[] ca))
    (next:∀ a',Sta n (⟨.fn (.func g) ca,#[]⟩::ds) w0 E H a' w→WL P l Q (k+1) a' w):WL P l Q k a w:=by
  refine WL.loud k ho rfl fun K hK=>?_
  have hrun:(execOp a.eval ⟨none,.defer ⟨.value f,#[],ats⟩,ty,pos,after,none⟩).run P w=.ok (.defer ⟨.fn (.func g) ca,#[]⟩) w:=by
    simp [execOp,resolve,vL s.f hf,Deferred.ofValue]
  simp only [Oper.wp,hrun,Oper.upon]
  exact hK _ _ (next _ ⟨⟨s.f.size,s.f.at'⟩,by simp [Act.put,s.d],s.m⟩)
theorem pM {fn:Func} {R:Ending→World→Prop} (s:Sta n ds w0 E H a w) (h:HS P fn a.tmps R ds .returning w):FQ P fn R .ret a w:=by
  show HS P fn a.tmps R a.defers .returning w
  rw [s.d]; exact h
theorem yU {fn:Func} {R:Ending→World→Prop} {ch:List PanicEntry} {w1:World} (s:Sta n ds w0 E H a w) (h:HS P fn a.tmps R ds (.panicking ch) w1):FQ P fn R (.panic ch) a w1:=by
  show HS P fn a.tmps R a.defers (.panicking ch) w1
  rw [s.d]; exact h
theorem fR {f:Func} {tmps:Array Value} {R:Ending→World→Prop} {u u1:FrameMode} {g:FuncId} {ca:Array Value} {K:World→Prop} (hu:u≠.run) (hent:Enters P g)
    (hc:CallsD P g ca u w fun e u' w'=>e=.returned (.tuple #[])∧u'=u1∧K w') (k:∀ w',K w'→HS P f tmps R ds (settle u1) w'):HS P f tmps R (⟨.fn (.func g) ca,#[]⟩::ds) u w:=by
  refine ⟨hu,.inr ⟨_,_,g,ca,rfl,?_,hc.mono fun e u' w' ⟨h1,h2,h3⟩=>?_⟩⟩
  · simp [invoke]; exact hent _ _
  · subst h1; subst h2; exact k w' h3
theorem fnS {f:FuncId} {fn:Func} {c:Code} {args:Array Value} {u:FrameMode} {R:Ending→FrameMode→World→Prop} (vs:List Value) (hst:St w0 H w) (hf:P.funcs[f]?=some fn) (hb:fn.body=some c) (hn:fn.ntmps=n) (ha:args=vs.toArray) (hE:uC 0 vs=E)
    (h:∀ a c0 cs,c0.mode=u→Sta n [] w0 E H a w→c.wpS P (bodyPostS P fn c0 cs R) a (c0::cs) w):CallsD P f args u w R:=by
  refine callsD_of_wpS hf hb fun c0 cs hu=>h _ c0 cs hu ⟨?_,rfl,hst⟩
  subst ha; subst hE
  refine ⟨by simp; omega,fun t e he=>?_⟩
  obtain ⟨_,h2,h3⟩:=pQ vs 0 t e he
  rw [h2]
  simp only [Nat.sub_zero] at h3
  have hlt:t<vs.length:=(List.getElem?_eq_some_iff.1 h3).1
  simp only [fZ,List.all_nil,if_true]
  rw [Array.getElem?_append_left (by simpa using hlt)]
  simpa using h3
theorem xT {QS:Exit→Act→List Frame→World→Prop} {cs cs':List Frame} {v:Value} {id d d2 ty ty2:Nat} {pos pos2:String} {af af2:Array Edge} {ats:Array TypeId} (s:Sta n ds w0 E H a w)
    (hrec:recoverD cs=some (v,cs')∨(recoverD cs=none∧v=.nilIface∧cs'=cs)) (hok:eT n E d []=true) (hok2:eT n (put E d [] v) d2 []=true) (hrd:rd (put E d [] v) [] (.tmp d)=some v)
    (next:∀ a',Sta n ds w0 (put (put E d [] v) d2 [] v) H a' w→QS .normal a' cs' w) :
    (Code.region id #[⟨some d,.call ⟨.builtin .recover,#[],ats⟩,ty,pos,af,none⟩,⟨some d2,.assign (.tmp d),ty2,pos2,af2,none⟩] false).wpS P QS a cs w:=by
  refine wpS_region ?_
  have h1:(execOp a.eval ⟨some d,.call ⟨.builtin .recover,#[],ats⟩,ty,pos,af,none⟩).run P w=.ok .recover w:=by
    simp [execOp,resolve,invoke,builtin]
  have hF1:=s.f.put0 (d:=d) v hok
  have hF2:=hF1.put0 (d:=d2) v hok2
  have h2:(execOp (a.put (some d) v).eval ⟨some d2,.assign (.tmp d),ty2,pos2,af2,none⟩).run P w=.ok (.value v) w:=by
    simp [execOp,vL hF1 hrd]
  have hfin:=next _ ⟨hF2,((put_defers _ _ _).trans (put_defers _ _ _)).trans s.d,s.m⟩
  have hr:List.range (#[(⟨some d,.call ⟨.builtin .recover,#[],ats⟩,ty,pos,af,none⟩:Oper),⟨some d2,.assign (.tmp d),ty2,pos2,af2,none⟩]:Array Oper).size=[0,1]:=rfl
  rw [hr]
  rcases hrec with h | ⟨h,rfl,rfl⟩
  · simp only [wpOpsS]
    simp [Region.wanted,h1,h,h2,Oper.upon]
    exact hfin
  · simp only [wpOpsS]
    simp [Region.wanted,h1,h,h2,Oper.upon]
    exact hfin
theorem CY {fn:Func} {c0:Frame} {cs cs':List Frame} {u':FrameMode} {R:Ending→FrameMode→World→Prop} (s:Sta n [] w0 E H a w) (hr:fn.results=#[]) (hcs:cs'={ c0 with mode:=u' }::cs) (hR:R (.returned (.tuple #[])) u' w):bodyPostS P fn c0 cs R .normal a cs' w :=
  ⟨s.d,u',hcs,.tuple #[],n5 (tmps:=a.tmps) (rs:=[]) (vs:=[]) hr ⟨s.f.size,s.f.at'⟩ trivial,hR⟩
theorem YE {i j:Nat} {it x:Item} (h:i≠j) (hj:H[j]?=some it):(H.set i x)[j]?=some it:=by rw [List.getElem?_set_ne h]; exact hj
theorem NR {c0:Frame} {cs:List Frame} {v:Value} (h:c0.mode=.panicking [{ v,recovered:=false }]):recoverD (c0::cs)=some (v,{ c0 with mode:=.panicking [{ v,recovered:=true }] }::cs):=by
  simp [recoverD,h]
theorem JB {c0:Frame} {cs:List Frame} (h:c0.mode=.returning):recoverD (c0::cs)=none:=by
  simp [recoverD,h]
theorem BL {c0:Frame} {u:FrameMode} (h:c0.mode=u):c0={ c0 with mode:=u }:=by subst h; rfl
def WC (P:Program) (c:Code) (Q:Exit→Act→World→Prop) (a:Act) (w:World):Prop :=
  ∀ (b:Frame) (k:List Go.Item) (cs:List Frame),∃ e a' w',Q e a' w'∧Arrives P (lone (b.at a (.code c::.inLoop c::k)) cs w) b k cs e a' w'
theorem uJ {c:Code} (h:WC P c Q a w):(Code.loop c).wp P Q a w:=fun b k cs =>
  let ⟨e,a',w',hq,harr⟩:=h b k cs; ⟨e,a',w',hq,.of_steps (.one step_loop) harr⟩
theorem cL {c:Code} (h:c.wp P (Exit.then (fun a w=>WC P c Q a w) Q) a w):WC P c Q a w:=by
  intro b k cs
  obtain ⟨e,a₁,w₁,hq,harr⟩:=h b (.inLoop c::k) cs
  cases e with
  | normal =>
    obtain ⟨e₂,a₂,w₂,hq₂,harr₂⟩:=hq b k cs
    exact ⟨e₂,a₂,w₂,hq₂,.of_steps (Steps.trans harr (.one step_inLoop)) harr₂⟩
  | exit id=>exact ⟨_,a₁,w₁,hq,.pass (x:=.inLoop c) rfl (fun _ _=>.inl (by simp)) harr⟩
  | goto l=>exact ⟨_,a₁,w₁,hq,.pass (x:=.inLoop c) rfl (fun _ _=>.inl (by simp)) harr⟩
  | ret=>exact ⟨_,a₁,w₁,hq,.pass (x:=.inLoop c) rfl (fun _ _=>.inl (by simp)) harr⟩
  | panic ch=>exact ⟨_,a₁,w₁,hq,.pass (x:=.inLoop c) rfl (fun _ _=>.inl (by simp)) harr⟩
  | outgrown=>exact ⟨_,a₁,w₁,hq,.pass (x:=.inLoop c) rfl (fun _ _=>.inl (by simp)) harr⟩
end df
end Go.Fz
namespace Go.Fz
open Go Go.RowKit
section wi
variable {P:Program} {Q:Exit→Act→World→Prop} {a:Act} {w w0:World} {n:Nat} {E:List d9} {H:List Item} {ds:List Deferred} {l:List Oper} {r:Option Nat} {m:Nat}
theorem mS {x y:Code} (h:x.wpIn (Fr r) m P (Exit.then (y.wpIn (Fr r) m P Q) Q) a w):(Code.seq x y).wpIn (Fr r) m P Q a w:=wpIn_seq h
theorem yV {id:Nat} {c:Code} (h:c.wpIn (Fr r) m P (Exit.inBlock id Q) a w):(Code.block id c).wpIn (Fr r) m P Q a w:=wpIn_block h
theorem JC (h:Q .normal a w):Code.skip.wpIn (Fr r) m P Q a w:=wpIn_skip h
theorem RZ {id:Nat} (h:Q (.exit id) a w):(Code.exit id).wpIn (Fr r) m P Q a w:=wpIn_exit h
theorem R0 (h:Q .ret a w):Code.ret.wpIn (Fr r) m P Q a w:=wpIn_ret h
theorem UZ {c:Operand} {x y:Code} {b:Bool} (hF:Fits n a E) (hc:rd E [] c=some (.bool b)) (ht:b=true→x.wpIn (Fr r) m P Q a w) (hf:b=false→y.wpIn (Fr r) m P Q a w):(Code.cond c x y).wpIn (Fr r) m P Q a w :=
  wpIn_cond_split (vL hF hc) ht hf
theorem WD {c:Operand} {x y:Code} {i j:Int} (hF:Fits n a E) (hc:rd E [] c=some (.bool (i==j))) (ht:i=j→x.wpIn (Fr r) m P Q a w) (hf:i≠j→y.wpIn (Fr r) m P Q a w):(Code.cond c x y).wpIn (Fr r) m P Q a w :=
  UZ hF hc (fun h=>ht (by simpa using h)) (fun h=>hf (by simpa using h))
theorem WE {c:Operand} {x y:Code} {i j:Int} (hF:Fits n a E) (hc:rd E [] c=some (.bool (i != j))) (ht:i≠j→x.wpIn (Fr r) m P Q a w) (hf:i=j→y.wpIn (Fr r) m P Q a w):(Code.cond c x y).wpIn (Fr r) m P Q a w :=
  UZ hF hc (fun h=>ht (by simpa using h)) (fun h=>hf (by simpa using h))
theorem yW {md:Region.Mode} {ops:Array Oper} (hL:¬ LetsOut Q) (hd:ops.all qK=true):∀ (fuel:Nat) (listed:Array Bool) (a:Act) (w:World),wpAny P md ops Q fuel listed a w→wpAnyIn (Fr r) m P md ops Q fuel listed a w
  | 0,_,_,_,h=>h
  | fuel+1,listed,a,w,h=>by
    refine ⟨h.1,fun i hi=>?_⟩
    have h2:=h.2 i hi
    unfold wpOp at h2
    unfold wpOpIn
    cases ho:ops[i]? with
    | none=>rw [ho] at h2; exact yW hL hd fuel _ _ _ h2
    | some o =>
      rw [ho] at h2
      simp only at h2 ⊢
      have hno:qK o=true:=by
        obtain ⟨hlt,hget⟩:=Array.getElem?_eq_some_iff.1 ho
        rw [← hget]; exact Array.all_eq_true.1 hd i hlt
      split
      · rename_i hw
        rw [if_pos hw] at h2
        rcases h2 with h2 | ⟨_,h2⟩
        · refine ⟨fun _ _=>trivial,?_⟩
          rw [Oper.semAt_eq _ _ _ (uH hno)]
          exact xS (Oper.wp_mono (fun a w h=>yW hL hd fuel _ a w h) h2)
        · exact (hL h2).elim
      · rename_i hw
        rw [if_neg hw] at h2
        exact ⟨fun _ _=>trivial,yW hL hd fuel _ _ _ h2⟩
theorem CZ {id:Nat} (hm:P.follows .mixedOrders=true) (C:World→Prop) (hd:l.toArray.all qK=true) (hL:¬ LetsOut Q) (h:DP P l Q C [] a w):(Code.region id l.toArray true).wpIn (Fr r) m P Q a w:=by
  refine wpIn_region_any hm (yW hL hd _ _ _ _ (tE (C:=C) _ _ _ _ ?_))
  unfold DP at h
  rw [FT] at h
  exact wpC.mono (w:=w) (by simpa using h) (Below.refl _ w).drew
end wi
end Go.Fz
namespace Go.Fz
open Go Go.RowKit
section onp
variable {P:Program} {Q:Exit→Act→World→Prop} {a:Act} {w w0:World} {n:Nat} {E E0:List d9} {H:List Item} {ds:List Deferred}
def YF (n:Nat) (E0:List d9) (ds:List Deferred) (Q:Exit→Act→World→Prop):Exit→Act→World→Prop
  | .normal,a,w=>Q .normal a w
  | .panic c,a,w=>(a.defers=ds∧Fits n a E0)∧∀ a',a'.defers=ds→Fits n a' E0→Q (.panic c) a' w
  | _,_,_=>False
theorem WF {c:Code} (h:c.wp P (YF n E0 ds Q) a w):c.wp P Q a w :=
  wp_mono h fun e a w hq=>by
    cases e <;> first | exact hq | exact hq.2 _ hq.1.1 hq.1.2 | exact hq.elim
theorem adZ (h:Q .normal a w):YF n E0 ds Q .normal a w:=h
theorem ae0 {c:List PanicEntry} (s:Sta n ds w0 E H a w) (ts:List Nat) (hk:Fz.keep E ts=some E0) (next:∀ a',Sta n ds w0 E0 H a' w→Q (.panic c) a' w):YF n E0 ds Q (.panic c) a w :=
  ⟨⟨s.d,s.f.keep hk⟩,fun a' h1 h2=>next a' ⟨h2,h1,s.m⟩⟩
def YH (E0:List d9) (d:Option Nat):Bool:=E0.all fun e=>e.path.isEmpty&&(match d with | some t => !Nat.beq t e.slot | none=>true)
theorem NS {d:Option Nat} {v:Value} (h:YH E0 d=true) (hF:Fits n (a.put d v) E0):Fits n a E0:=by
  cases d with
  | none=>exact hF
  | some t =>
    refine ⟨by simpa [Act.put] using hF.size,fun u e he=>?_⟩
    have h1:=hF.at' u e he
    have h2:=List.all_eq_true.1 h e (FC he)
    have h3:=BD he
    simp only [Bool.and_eq_true] at h2
    have hne:t≠u:=fun e'=>by
      subst e'; subst h3
      simp at h2
    simp only [Act.put] at h1
    rw [Array.getElem?_setIfInBounds_ne hne] at h1
    exact h1
theorem R1 {l:List Oper} (hl:l.all (fun o=>YH E0 o.dst)=true):∀ o∈l,∀ c v a w,YF n E0 ds Q (.panic c) (a.put o.dst v) w→YF n E0 ds Q (.panic c) a w :=
  fun o ho c v a w ⟨⟨h1,h2⟩,h3⟩=>⟨⟨by rw [← h1]; exact (put_defers _ _ _).symm,NS (List.all_eq_true.1 hl o ho) h2⟩,h3⟩
end onp
end Go.Fz
namespace Go.Fz
open Go Go.RowKit
section mks
variable {P:Program} {Q:Exit→Act→World→Prop} {a:Act} {w w0:World} {n:Nat} {E:List d9} {H:List Item} {ds:List Deferred} {l:List Oper}
theorem lms {α:Type} {enc:α→List Value} {sz:Nat} (s:Sta n ds w0 E H a w) (k m:Nat) {d t e ty bytes:Nat} {z:Value} {lx cx:Operand} {pos:String} {after:Array Edge} (xs:List α)
    (ho:l[k]?=some ⟨some d,.makeSlice t lx cx,ty,pos,after,none⟩) (hl:rd E [] lx=some (I (m:Int))) (hc:rd E [] cx=some (I (m:Int))) (ht:eE P t e)
    (hi:(P.info? e).map (fun i=>(i.zero,i.size,i.bytes))=some (some z,sz,bytes)) (hb:bytes*m≤281474976710656) (hm:m≤140737488355328)
    (hlen:xs.length=m) (hxs:(madeCells z.cells (m*sz)).toList=xs.flatMap enc) (hok:eT n E d []=true)
    (next:∀ B a' w',Sta n ds w0 (put E d [] (.slice (some ⟨B,0,none⟩) m m)) (oR e sz enc (some ⟨B,0,none⟩) m xs::H) a' w'→WL P l Q (k+1) a' w'):WL P l Q k a w:=by
  obtain ⟨i,hi1,hi2⟩:=Option.map_eq_some_iff.1 hi
  simp only [Prod.mk.injEq] at hi2
  obtain ⟨hz,hsz,hby⟩:=hi2
  subst hsz; subst hby
  refine WL.loud k ho rfl fun K hK=>?_
  have hb2:(i.bytes:Int)*(m:Int)≤281474976710656:=by
    have:((i.bytes*m:Nat):Int)≤281474976710656:=by omega
    rwa [Int.natCast_mul] at this
  have hr:=run_make (P:=P) w t e i z ht hi1 hz .i64 .i64 (m:Int) (m:Int) (by omega) (Int.le_refl _) hb2 (by omega)
  simp only [Int.toNat_natCast] at hr
  have hrun:(execOp a.eval ⟨some d,.makeSlice t lx cx,ty,pos,after,none⟩).run P w=.ok (.value (.slice (some ⟨w.heap.size,0,none⟩) m m)) (w.alloc (.cells (madeCells z.cells (m*i.size)) e)):=by
    simp only [execOp,vL s.f hl,vL s.f hc,Sem.run_bind,hr,Result.andThen_ok,Sem.run_pure]
  simp only [Oper.wp,hrun,Oper.upon]
  have hown:=World.ownsRow_lit (e:=e) (size:=i.size) (base:=w.heap.size) w (madeCells z.cells (m*i.size)) m (Nat.le_refl _) (by simp only [maxLen]; omega) (size_madeCells _ _)
  have hst:=s.m.got ((Below.refl _ w).alloc (Nat.le_refl _) _) hown
  rw [hxs] at hst
  refine hK _ _ (next w.heap.size _ _ ⟨s.f.put0 _ hok,(put_defers _ _ _).trans s.d,?_⟩)
  unfold oR
  rw [hlen]
  exact hst
end mks
end Go.Fz
namespace Go.Fz
open Go Go.RowKit
def U0 (E:List d9) (t:Nat):Value:=match kJ E t with
  | some e=>e.val
  | none=>undef
def NT:List (Nat × Value)→Nat→Option Value
  | [],_=>none
  | (u,v)::l,t=>bif Nat.beq u t then some v else NT l t
def mk (ks:List Nat) (nw:List (Nat × Value)) (E:List d9):List d9:=ks.map fun t=>⟨t,[],(NT nw t).getD (U0 E t)⟩
def YI:List Nat→Nat→Option Nat
  | [],_=>none
  | c::l,t=>bif Nat.beq (c / 100) t then some (c % 100) else YI l t
def ae1 (ix:List Nat) (nw:List (Nat × Value)) (hs:List Value) (E:List d9) (t:Nat):Value:=match NT nw t with
  | some v=>v
  | none=>match YI ix t with
    | some i=>hs.getD i undef
    | none=>U0 E t
def RH (ks ix:List Nat) (nw:List (Nat × Value)) (hs:List Value) (E:List d9):List d9:=ks.map fun t=>⟨t,[],ae1 ix nw hs E t⟩
def WG:List Prop→Prop
  | []=>True
  | p::ps=>p∧WG ps
structure HL (hs:List Value) (bs:List Bool) (ps:List Prop):Prop where
  all:WG ps
theorem qe:HL [] [] []:=⟨trivial⟩
theorem qo {φ:Value→Prop} {v:Value} {hs:List Value} {bs:List Bool} {ps:List Prop} (h:φ v) (t:HL hs bs ps):HL (v::hs) (false::bs) (φ v::ps):=⟨⟨h,t.all⟩⟩
theorem qu {g:Prop} {φ:Value→Prop} {v:Value} {hs:List Value} {bs:List Bool} {ps:List Prop} (h:g→φ v) (t:HL hs bs ps):HL (v::hs) (true::bs) ((g→φ v)::ps):=⟨⟨h,t.all⟩⟩
theorem qv {g g':Prop} {φ:Value→Prop} {v:Value} {hs:List Value} {bs:List Bool} {ps:List Prop} (h:g→g'→φ v) (t:HL hs bs ps):HL (v::hs) (true::bs) ((g→g'→φ v)::ps):=⟨⟨h,t.all⟩⟩
def R2 (b:Bool) (E:List d9) (p:List (Nat × Bool)) (φ:Prop):Prop:=match b with
  | true=>tA E p φ
  | false=>φ
theorem xU {E:List d9} {φ:Prop} (h:φ):∀ {p:List (Nat × Bool)},tA E p φ
  | []=>h
  | (t,u)::p=>by
    simp only [tA]
    split
    · split
      · exact fun _=>xU h
      · exact xU h
    · exact xU h
theorem R3 {b:Bool} {E:List d9} {p:List (Nat × Bool)} {φ:Prop} (h:R2 b E p φ):tA E p φ:=by
  cases b with
  | true=>exact h
  | false=>exact xU h
def rC (P:Program) (w:World) (ops:Array Oper) (n:Nat):List Oper→List Value→List Bool→List d9→Option (List d9 × List Prop)
  | [],[],_,E=>some (E,[])
  | [],_::_,_,_=>none
  | o::l,hs,bs,E=>match lF ops E o with
    | none=>none
    | some p=>match dO P w E p o with
      | none=>none
      | some (some v,_)=>match o.dst with
        | none=>rC P w ops n l hs bs E
        | some d=>bif eT n E d p then rC P w ops n l hs bs (put E d p v) else none
      | some (none,φ)=>match hs with
        | []=>none
        | v::hs=>match o.dst with
          | none=>match rC P w ops n l hs bs.tail E with
            | some (E',O)=>some (E',R2 (bs.headD false) E p (φ v)::O)
            | none=>none
          | some d=>bif eT n E d p then (match rC P w ops n l hs bs.tail (put E d p v) with
            | some (E',O)=>some (E',R2 (bs.headD false) E p (φ v)::O)
            | none=>none) else none
theorem n7 {P:Program} {w:World} {ops:Array Oper} {n:Nat}:∀ (l:List Oper) (hs:List Value) (bs:List Bool) (E E':List d9) (ps:List Prop),
    rC P w ops n l hs bs E=some (E',ps)→WG ps→∃ O,gK P w ops n l hs E=some (E',O)∧O
  | [],[],_,E,E',ps,h,ha=>by
    simp only [rC,Option.some.injEq,Prod.mk.injEq] at h
    exact ⟨True,by rw [← h.1]; rfl,trivial⟩
  | [],_::_,_,_,_,_,h,_=>by simp [rC] at h
  | o::l,hs,bs,E,E',ps,h,ha=>by
    revert h
    simp only [rC,gK]
    cases lF ops E o with
    | none=>exact fun h=>by cases h
    | some p =>
      dsimp only
      cases dO P w E p o with
      | none=>exact fun h=>by cases h
      | some x =>
        obtain ⟨ov,φ⟩:=x
        cases ov with
        | some v =>
          dsimp only
          cases o.dst with
          | none=>exact fun h=>n7 l hs bs E E' ps h ha
          | some d =>
            dsimp only
            cases eT n E d p with
            | false=>exact fun h=>by cases h
            | true=>exact fun h=>n7 l hs bs _ E' ps h ha
        | none =>
          dsimp only
          cases hs with
          | nil=>exact fun h=>by cases h
          | cons v hs =>
            dsimp only
            have key:∀ E1,(match rC P w ops n l hs bs.tail E1 with
                | some (E',O)=>some (E',R2 (bs.headD false) E p (φ v)::O)
                | none=>none)=some (E',ps)→∃ O,(match gK P w ops n l hs E1 with
                | some (E',O)=>some (E',tA E p (φ v)∧O)
                | none=>none)=some (E',O)∧O:=fun E1 h=>by
              cases h2:rC P w ops n l hs bs.tail E1 with
              | none=>rw [h2] at h; cases h
              | some y =>
                obtain ⟨E2,O2⟩:=y
                rw [h2] at h
                obtain ⟨h3,h4⟩:=bJ h
                subst h3; subst h4
                obtain ⟨O,h5,h6⟩:=n7 l hs bs.tail E1 E2 O2 h2 ha.2
                rw [h5]
                exact ⟨_,rfl,R3 ha.1,h6⟩
            cases o.dst with
            | none=>exact key E
            | some d =>
              dsimp only
              cases eT n E d p with
              | false=>exact fun h=>by cases h
              | true=>exact key _
def qL (P:Program) (w:World) (ops:Array Oper) (n:Nat) (l:List Oper) (hs:List Value) (bs:List Bool) (E:List d9) (ks:List Nat):Option (List d9 × List Prop) :=
  match rC P w ops n l hs bs E with
  | some (E',ps)=>match keep E' ks with
    | some E1=>some (E1,ps)
    | none=>none
  | none=>none
theorem gL {P:Program} {w:World} {ops:Array Oper} {n:Nat} {l:List Oper} {hs:List Value} {bs:List Bool} {E E1:List d9} {ks:List Nat} {ps:List Prop} (h:qL P w ops n l hs bs E ks=some (E1,ps)) (L:HL hs bs ps) :
    ∃ O,nH P w ops n l hs E ks=some (E1,O)∧O:=by
  simp only [qL] at h
  split at h
  · rename_i E' O' h2
    split at h
    · rename_i E1' hk
      obtain ⟨h3,h4⟩:=bJ h
      subst h3; subst h4
      obtain ⟨O,h5,h6⟩:=n7 l hs bs E E' O' h2 L.all
      exact ⟨O,by simp only [nH,h5,hk],h6⟩
    · cases h
  · cases h
section z
variable {P:Program} {Q:Exit→Act→World→Prop} {a:Act} {w w0:World} {n:Nat} {E:List d9} {H:List Item} {ds:List Deferred} {l:List Oper} {O:Prop} {hs:List Value} {bs:List Bool} {ps:List Prop}
theorem zq {id:Nat} (s:Sta n ds w0 E H a w) (ks:List Nat) (nw:List (Nat × Value)) (L:HL hs bs ps)
    (next:∀ a' w',Sta n ds w0 (mk ks nw E) H a' w'→Q .normal a' w') (hev:qL P w l.toArray n l hs bs E ks=some (mk ks nw E,ps):=by kernel_rfl):(Code.region id l.toArray false).wp P Q a w:=by
  obtain ⟨O,h1,h2⟩:=gL hev L
  exact rq s h1 h2 next
theorem zs {id:Nat} {c:Code} (s:Sta n ds w0 E H a w) (ks:List Nat) (nw:List (Nat × Value)) (L:HL hs bs ps)
    (next:∀ a' w',Sta n ds w0 (mk ks nw E) H a' w'→c.wp P Q a' w') (hev:qL P w l.toArray n l hs bs E ks=some (mk ks nw E,ps):=by kernel_rfl):(Code.seq (.region id l.toArray false) c).wp P Q a w:=by
  obtain ⟨O,h1,h2⟩:=gL hev L
  exact wp_seq (rq s h1 h2 fun a' w' h=>aD (next a' w' h))
theorem zl (s:Sta n ds w0 E H a w) (ks:List Nat) (nw:List (Nat × Value)) (k m:Nat) (L:HL hs bs ps)
    (next:∀ a' w',Sta n ds w0 (mk ks nw E) H a' w'→WL P l Q (k+m) a' w') (hev:qL P w l.toArray n ((l.drop k).take m) hs bs E ks=some (mk ks nw E,ps):=by kernel_rfl):WL P l Q k a w:=by
  obtain ⟨O,h1,h2⟩:=gL hev L
  exact lq s k m h1 h2 next
theorem zr {id:Nat} (s:Sta n ds w0 E H a w) (ks:List Nat) (nw:List (Nat × Value)) (hm:P.follows .mixedOrders=true) (L:HL hs bs ps)
    (next:∀ a' w',Sta n ds w0 (mk ks nw E) H a' w'→Q .normal a' w') (hB:Region.lexB .any l.toArray=true:=by kernel_rfl) (hev:qL P w l.toArray n l hs bs E ks=some (mk ks nw E,ps):=by kernel_rfl):(Code.region id l.toArray true).wp P Q a w:=by
  obtain ⟨O,h1,h2⟩:=gL hev L
  exact rdr s hm hB h1 h2 next
theorem zd {m0:Nat} (s:Sta n ds w0 E H a w) (ks:List Nat) (nw:List (Nat × Value)) (k:Nat) (cs:List (Option (List Nat))) (L:HL hs bs ps) (hQ:∀ c d v a w,Q (.panic c) (a.put d v) w→Q (.panic c) a w)
    (next:∀ a',Sta n ds w0 (mk ks nw E) H a' w→DW P l Q m0 (k+cs.length) a' w) (hsel:Region.noSelect l.toArray=true:=by kernel_rfl) (hB:yO l m0 k cs=true:=by kernel_rfl)
    (hev:qL P w l.toArray n ((l.drop k).take cs.length) hs bs E ks=some (mk ks nw E,ps):=by kernel_rfl):DW P l Q m0 k a w:=by
  obtain ⟨O,h1,h2⟩:=gL hev L
  exact dq s k cs h1 h2 hsel hB hQ next
theorem dU {id:Nat} (s:Sta n ds w0 E H a w) (ks ix:List Nat) (nw:List (Nat × Value)) (L:HL hs bs ps)
    (next:∀ a' w',Sta n ds w0 (RH ks ix nw hs E) H a' w'→Q .normal a' w') (hev:qL P w l.toArray n l hs bs E ks=some (RH ks ix nw hs E,ps):=by kernel_rfl):(Code.region id l.toArray false).wp P Q a w:=by
  obtain ⟨O,h1,h2⟩:=gL hev L
  exact rq s h1 h2 next
theorem d5 {id:Nat} {c:Code} (s:Sta n ds w0 E H a w) (ks ix:List Nat) (nw:List (Nat × Value)) (L:HL hs bs ps)
    (next:∀ a' w',Sta n ds w0 (RH ks ix nw hs E) H a' w'→c.wp P Q a' w') (hev:qL P w l.toArray n l hs bs E ks=some (RH ks ix nw hs E,ps):=by kernel_rfl):(Code.seq (.region id l.toArray false) c).wp P Q a w:=by
  obtain ⟨O,h1,h2⟩:=gL hev L
  exact wp_seq (rq s h1 h2 fun a' w' h=>aD (next a' w' h))
theorem fJ (s:Sta n ds w0 E H a w) (ks ix:List Nat) (nw:List (Nat × Value)) (k m:Nat) (L:HL hs bs ps)
    (next:∀ a' w',Sta n ds w0 (RH ks ix nw hs E) H a' w'→WL P l Q (k+m) a' w') (hev:qL P w l.toArray n ((l.drop k).take m) hs bs E ks=some (RH ks ix nw hs E,ps):=by kernel_rfl):WL P l Q k a w:=by
  obtain ⟨O,h1,h2⟩:=gL hev L
  exact lq s k m h1 h2 next
theorem HT {id:Nat} (s:Sta n ds w0 E H a w) (ks ix:List Nat) (nw:List (Nat × Value)) (hm:P.follows .mixedOrders=true) (L:HL hs bs ps)
    (next:∀ a' w',Sta n ds w0 (RH ks ix nw hs E) H a' w'→Q .normal a' w') (hB:Region.lexB .any l.toArray=true:=by kernel_rfl) (hev:qL P w l.toArray n l hs bs E ks=some (RH ks ix nw hs E,ps):=by kernel_rfl):(Code.region id l.toArray true).wp P Q a w:=by
  obtain ⟨O,h1,h2⟩:=gL hev L
  exact rdr s hm hB h1 h2 next
theorem nD {m0:Nat} (s:Sta n ds w0 E H a w) (ks ix:List Nat) (nw:List (Nat × Value)) (k:Nat) (cs:List (Option (List Nat))) (L:HL hs bs ps) (hQ:∀ c d v a w,Q (.panic c) (a.put d v) w→Q (.panic c) a w)
    (next:∀ a',Sta n ds w0 (RH ks ix nw hs E) H a' w→DW P l Q m0 (k+cs.length) a' w) (hsel:Region.noSelect l.toArray=true:=by kernel_rfl) (hB:yO l m0 k cs=true:=by kernel_rfl)
    (hev:qL P w l.toArray n ((l.drop k).take cs.length) hs bs E ks=some (RH ks ix nw hs E,ps):=by kernel_rfl):DW P l Q m0 k a w:=by
  obtain ⟨O,h1,h2⟩:=gL hev L
  exact dq s k cs h1 h2 hsel hB hQ next
theorem Sta.kp {E':List d9} (s:Sta n ds w0 E H a w) (h:Fz.keep E (E'.map d9.slot)=some E':=by kernel_rfl):Sta n ds w0 E' H a w:=s.keep _ h
theorem Sta.kr {E':List d9} {H':List Item} (s:Sta n ds w0 E H a w) (hH:H=H') (h:Fz.keep E (E'.map d9.slot)=some E':=by kernel_rfl):Sta n ds w0 E' H' a w:=by subst hH; exact s.keep _ h
theorem sO (f:Fits n a E) (d:a.defers=ds) (m:St w0 H w):Sta n ds w0 E H a w:=⟨f,d,m⟩
end z
theorem bV:(∀ {α:Type} (a b:List α),(a++b).length=a.length+b.length)∧(∀ {α β:Type} (f:α→β) (a:List α),(a.map f).length=a.length)∧(∀ {α:Type} (i:Nat) (a:List α),(a.take i).length=min i a.length) ∧
    (∀ {α:Type} (i:Nat) (a:List α),(a.drop i).length=a.length-i)∧(∀ {α:Type} (a:List α) (i:Nat) (x:α),(a.set i x).length=a.length)∧(∀ {α:Type} (x:α) (a:List α),(x::a).length=a.length+1)∧(∀ {α:Type},([]:List α).length=0) :=
  ⟨fun _ _=>List.length_append,fun _ _=>List.length_map _,fun _ _=>List.length_take,fun _ _=>List.length_drop,fun _ _ _=>List.length_set,fun _ _=>List.length_cons,List.length_nil⟩
abbrev zz:List Value:=[.string (⟨#[]⟩:ByteArray),.slice none 0 0,.slice none 0 0,.slice none 0 0,.slice none 0 0,.slice none 0 0,.slice none 0 0,.slice none 0 0,.int .i64 0,.int .i64 0,.int .i64 0,.int .i64 0,.slice none 0 0,.slice none 0 0,.slice none 0 0]
section ifs
variable {α:Sort _} {b:Bool} {c:Prop} {x y z:α}
theorem iF [Decidable (b=true)] (h:b=false) (e:y=z):(if b=true then x else y)=z:=(if_neg (ne_true_of_eq_false h)).trans e
theorem iT [Decidable (b=false)] (h:b=true) (e:y=z):(if b=false then x else y)=z:=(if_neg (ne_false_of_eq_true h)).trans e
theorem iN [Decidable (¬c)] (h:c) (e:y=z):(if ¬c then x else y)=z:=(if_neg (fun g=>g h)).trans e
theorem iM [Decidable c] (h:¬c) (e:y=z):(if c then x else y)=z:=(if_neg h).trans e
theorem iP [Decidable c] (h:c) (e:x=z):(if c then x else y)=z:=(if_pos h).trans e
end ifs
theorem hq {R:List PanicEntry→World→Prop}:∀ (c:List PanicEntry) (d:Option Nat) (v:Value) (a:Act) (w:World),((a.put d v).defers=[]∧R c w)→(a.defers=[]∧R c w) :=
  fun _ d v a _ h=>⟨(put_defers a d v).symm.trans h.1,h.2⟩
end Go.Fz
