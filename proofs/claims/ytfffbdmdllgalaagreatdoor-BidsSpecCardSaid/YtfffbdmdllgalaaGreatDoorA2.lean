/-
Part 2 of a proof: what the texts D, S, Z1, D2, Shelf, S2, S3, S4, S5, S6, S7, S8, Z2, R1, T, R2, T2, W1, W2, W3, T3, W4, W5, W6 show, of the model and of the program.
-/
import Derived.Test.YtfffbdmdllgalaaGreatDoorA1
import Derived.Shelf.Small.Strs
import Derived.Shelf.Strings.Search1
import Derived.Shelf.Strings.Search2
import Derived.Shelf.Strings.Search3
import Derived.Test.YtfffbdmdllgalaaGreatDoorProg
import Derived.SizedLaws
import Derived.ChangeArms
import Derived.Carry
set_option maxHeartbeats 1000000
namespace Go.Fz
open Go Go.RowKit
structure cW where
  name:ByteArray
  n:Int
structure iY where
  name:ByteArray
structure nZ where
  a:cW
  b:cW
  minutes:Int
structure iL where
  town:cW
  sets:Int
structure bZ where
  name:ByteArray
  town:cW
  bear:Int
  wear:Int
  grow:Int
  uses:Int
structure cX where
  name:ByteArray
  ground:cW
  rank:Int
structure eS where
  year:Int
  month:Int
  day:Int
structure Week where
  b0:Bool
  b1:Bool
  b2:Bool
  b3:Bool
  b4:Bool
  b5:Bool
  b6:Bool
structure cQ where
  name:ByteArray
  frm:eS
  to:eS
  week:Week
structure j3 where
  name:ByteArray
  minute:Int
  length:Int
  stewards:Int
structure aX where
  name:ByteArray
  kind:Int
  window:cW
  teamsA:Option Addr
  teams:List cW
  teamsC:Nat
  of:cW
  sizesA:Option Addr
  sizes:List Int
  sizesC:Nat
  a:cW
  b:cW
  placeA:Int
  placeB:Int
structure cJ where
  name:ByteArray
  kind:Int
  a:cW
  b:cW
  n:Int
  frm:eS
  to:eS
  week:Week
  price:Int
structure Points where
  p0:Int
  p1:Int
  p2:Int
structure aE where
  name:ByteArray
  townsA:Option Addr
  towns:List iY
  townsC:Nat
  waysA:Option Addr
  ways:List nZ
  waysC:Nat
  depotsA:Option Addr
  depots:List iL
  depotsC:Nat
  groundsA:Option Addr
  grounds:List bZ
  groundsC:Nat
  teamsA:Option Addr
  teams:List cX
  teamsC:Nat
  windowsA:Option Addr
  windows:List cQ
  windowsC:Nat
  slotsA:Option Addr
  slots:List j3
  slotsC:Nat
  pool:Int
  points:Points
  keysA:Option Addr
  keys:List Int
  keysC:Nat
  phasesA:Option Addr
  phases:List aX
  phasesC:Nat
  condsA:Option Addr
  conds:List cJ
  condsC:Nat
structure m6 where
  kind:Int
  n:Int
  phase:Int
structure dP where
  no:Int
  phase:Int
  round:Int
  home:m6
  away:m6
structure bK where
  day:Int
  ground:Int
  slot:Int
structure bX where
  no:Int
  bidder:Int
  kind:Int
  a:Int
  b:Int
  most:Int
  price:Int
structure cE where
  townsA:Option Addr
  towns:List ByteArray
  townsC:Nat
  groundsA:Option Addr
  grounds:List ByteArray
  groundsC:Nat
  teamsA:Option Addr
  teams:List ByteArray
  teamsC:Nat
  windowsA:Option Addr
  windows:List ByteArray
  windowsC:Nat
  slotsA:Option Addr
  slots:List ByteArray
  slotsC:Nat
  phasesA:Option Addr
  phases:List ByteArray
  phasesC:Nat
  condsA:Option Addr
  conds:List ByteArray
  condsC:Nat
abbrev iO (x:Int):List Value:=[I x]
abbrev aJ (x:ByteArray):List Value:=[.string x]
abbrev YJ (x:Bool):List Value:=[Bo x]
def bN (x:cW):List Value:=[.string x.name,I x.n]
def gY (x:iY):List Value:=[.string x.name]
def cY (x:nZ):List Value:=[.string x.a.name,I x.a.n,.string x.b.name,I x.b.n,I x.minutes]
def bY (x:iL):List Value:=[.string x.town.name,I x.town.n,I x.sets]
def bG (x:bZ):List Value:=[.string x.name,.string x.town.name,I x.town.n,I x.bear,I x.wear,I x.grow,I x.uses]
def bU (x:cX):List Value:=[.string x.name,.string x.ground.name,I x.ground.n,I x.rank]
def dL (x:eS):List Value:=[I x.year,I x.month,I x.day]
def mE (x:Week):List Value:=[Bo x.b0,Bo x.b1,Bo x.b2,Bo x.b3,Bo x.b4,Bo x.b5,Bo x.b6]
def dB (x:cQ):List Value:=[.string x.name,I x.frm.year,I x.frm.month,I x.frm.day,I x.to.year,I x.to.month,I x.to.day,Bo x.week.b0,Bo x.week.b1,Bo x.week.b2,Bo x.week.b3,Bo x.week.b4,Bo x.week.b5,Bo x.week.b6]
def gB (x:j3):List Value:=[.string x.name,I x.minute,I x.length,I x.stewards]
def aK (x:aX):List Value:=[.string x.name,I x.kind,.string x.window.name,I x.window.n,.slice x.teamsA x.teams.length x.teamsC,.string x.of.name,I x.of.n,.slice x.sizesA x.sizes.length x.sizesC,.string x.a.name,I x.a.n,.string x.b.name,I x.b.n,I x.placeA,I x.placeB]
def aV (x:cJ):List Value:=[.string x.name,I x.kind,.string x.a.name,I x.a.n,.string x.b.name,I x.b.n,I x.n,I x.frm.year,I x.frm.month,I x.frm.day,I x.to.year,I x.to.month,I x.to.day,Bo x.week.b0,Bo x.week.b1,Bo x.week.b2,Bo x.week.b3,Bo x.week.b4,Bo x.week.b5,Bo x.week.b6,I x.price]
def lY (x:Points):List Value:=[I x.p0,I x.p1,I x.p2]
def aB (x:aE):List Value:=[.string x.name,.slice x.townsA x.towns.length x.townsC,.slice x.waysA x.ways.length x.waysC,.slice x.depotsA x.depots.length x.depotsC,.slice x.groundsA x.grounds.length x.groundsC,.slice x.teamsA x.teams.length x.teamsC,.slice x.windowsA x.windows.length x.windowsC,.slice x.slotsA x.slots.length x.slotsC,I x.pool,I x.points.p0,I x.points.p1,I x.points.p2,.slice x.keysA x.keys.length x.keysC,.slice x.phasesA x.phases.length x.phasesC,.slice x.condsA x.conds.length x.condsC]
def j4 (x:m6):List Value:=[I x.kind,I x.n,I x.phase]
def cA (x:dP):List Value:=[I x.no,I x.phase,I x.round,I x.home.kind,I x.home.n,I x.home.phase,I x.away.kind,I x.away.n,I x.away.phase]
def bB (x:bK):List Value:=[I x.day,I x.ground,I x.slot]
def bE (x:bX):List Value:=[I x.no,I x.bidder,I x.kind,I x.a,I x.b,I x.most,I x.price]
def dE (x:cE):List Value:=[.slice x.townsA x.towns.length x.townsC,.slice x.groundsA x.grounds.length x.groundsC,.slice x.teamsA x.teams.length x.teamsC,.slice x.windowsA x.windows.length x.windowsC,.slice x.slotsA x.slots.length x.slotsC,.slice x.phasesA x.phases.length x.phasesC,.slice x.condsA x.conds.length x.condsC]
theorem mF:EncOk iO 1:=⟨by decide,fun _=>rfl,fun x v hv=>List.all_eq_true.1 (rfl:(iO x).all Value.oneCell'=true) v hv⟩
theorem aU:EncOk aJ 1:=⟨by decide,fun _=>rfl,fun x v hv=>List.all_eq_true.1 (rfl:(aJ x).all Value.oneCell'=true) v hv⟩
theorem eI:EncOk bN 2:=⟨by decide,fun _=>rfl,fun x v hv=>List.all_eq_true.1 (rfl:(bN x).all Value.oneCell'=true) v hv⟩
theorem yX:EncOk gY 1:=⟨by decide,fun _=>rfl,fun x v hv=>List.all_eq_true.1 (rfl:(gY x).all Value.oneCell'=true) v hv⟩
theorem d6:EncOk cY 5:=⟨by decide,fun _=>rfl,fun x v hv=>List.all_eq_true.1 (rfl:(cY x).all Value.oneCell'=true) v hv⟩
theorem eJ:EncOk bY 3:=⟨by decide,fun _=>rfl,fun x v hv=>List.all_eq_true.1 (rfl:(bY x).all Value.oneCell'=true) v hv⟩
theorem dQ:EncOk bG 7:=⟨by decide,fun _=>rfl,fun x v hv=>List.all_eq_true.1 (rfl:(bG x).all Value.oneCell'=true) v hv⟩
theorem dF:EncOk bU 4:=⟨by decide,fun _=>rfl,fun x v hv=>List.all_eq_true.1 (rfl:(bU x).all Value.oneCell'=true) v hv⟩
theorem uK:EncOk dB 14:=⟨by decide,fun _=>rfl,fun x v hv=>List.all_eq_true.1 (rfl:(dB x).all Value.oneCell'=true) v hv⟩
theorem yY:EncOk gB 4:=⟨by decide,fun _=>rfl,fun x v hv=>List.all_eq_true.1 (rfl:(gB x).all Value.oneCell'=true) v hv⟩
theorem cV:EncOk aK 14:=⟨by decide,fun _=>rfl,fun x v hv=>List.all_eq_true.1 (rfl:(aK x).all Value.oneCell'=true) v hv⟩
theorem eR:EncOk aV 21:=⟨by decide,fun _=>rfl,fun x v hv=>List.all_eq_true.1 (rfl:(aV x).all Value.oneCell'=true) v hv⟩
theorem m7:EncOk aB 15:=⟨by decide,fun _=>rfl,fun x v hv=>List.all_eq_true.1 (rfl:(aB x).all Value.oneCell'=true) v hv⟩
theorem yZ:EncOk cA 9:=⟨by decide,fun _=>rfl,fun x v hv=>List.all_eq_true.1 (rfl:(cA x).all Value.oneCell'=true) v hv⟩
theorem sM:EncOk bB 3:=⟨by decide,fun _=>rfl,fun x v hv=>List.all_eq_true.1 (rfl:(bB x).all Value.oneCell'=true) v hv⟩
theorem gN:EncOk bE 7:=⟨by decide,fun _=>rfl,fun x v hv=>List.all_eq_true.1 (rfl:(bE x).all Value.oneCell'=true) v hv⟩
structure LeagueAt (w:World) (l:aE):Prop where
  towns:Row w l.townsA 1 gY l.towns
  ways:Row w l.waysA 5 cY l.ways
  depots:Row w l.depotsA 3 bY l.depots
  grounds:Row w l.groundsA 7 bG l.grounds
  teams:Row w l.teamsA 4 bU l.teams
  windows:Row w l.windowsA 14 dB l.windows
  slots:Row w l.slotsA 4 gB l.slots
  keys:Row w l.keysA 1 iO l.keys
  phases:Row w l.phasesA 14 aK l.phases
  conds:Row w l.condsA 21 aV l.conds
  pteams:∀ p∈l.phases,Row w p.teamsA 2 bN p.teams
  psizes:∀ p∈l.phases,Row w p.sizesA 1 iO p.sizes
  townsN:l.towns.length≤8796093021952
  groundsN:l.grounds.length≤8796093021952
  teamsN:l.teams.length≤8796093021952
  windowsN:l.windows.length≤8796093021952
  slotsN:l.slots.length≤8796093021952
  phasesN:l.phases.length≤8796093021952
  condsN:l.conds.length≤8796093021952
  keysK:l.keys.length≤l.keysC
theorem LeagueAt.grow {w w':World} {l:aE} (h:LeagueAt w l) (hb:Below w.heap.size w w'):LeagueAt w' l :=
  ⟨h.towns.grow hb,h.ways.grow hb,h.depots.grow hb,h.grounds.grow hb,h.teams.grow hb,h.windows.grow hb,h.slots.grow hb,h.keys.grow hb,h.phases.grow hb,h.conds.grow hb,fun p hp=>(h.pteams p hp).grow hb,fun p hp=>(h.psizes p hp).grow hb,h.townsN,h.groundsN,h.teamsN,h.windowsN,h.slotsN,h.phasesN,h.condsN,h.keysK⟩
theorem LeagueAt.up {w0 w:World} {H:List Item} {l:aE} (h:LeagueAt w0 l) (hs:St w0 H w):LeagueAt w l:=h.grow hs.below
structure NamesAt (w:World) (n:cE):Prop where
  towns:Row w n.townsA 1 aJ n.towns
  townsK:n.towns.length≤n.townsC
  grounds:Row w n.groundsA 1 aJ n.grounds
  groundsK:n.grounds.length≤n.groundsC
  teams:Row w n.teamsA 1 aJ n.teams
  teamsK:n.teams.length≤n.teamsC
  windows:Row w n.windowsA 1 aJ n.windows
  windowsK:n.windows.length≤n.windowsC
  slots:Row w n.slotsA 1 aJ n.slots
  slotsK:n.slots.length≤n.slotsC
  phases:Row w n.phasesA 1 aJ n.phases
  phasesK:n.phases.length≤n.phasesC
  conds:Row w n.condsA 1 aJ n.conds
  condsK:n.conds.length≤n.condsC
theorem NamesAt.grow {w w':World} {n:cE} (h:NamesAt w n) (hb:Below w.heap.size w w'):NamesAt w' n:=⟨h.towns.grow hb,h.townsK,h.grounds.grow hb,h.groundsK,h.teams.grow hb,h.teamsK,h.windows.grow hb,h.windowsK,h.slots.grow hb,h.slotsK,h.phases.grow hb,h.phasesK,h.conds.grow hb,h.condsK⟩
theorem NamesAt.up {w0 w:World} {H:List Item} {n:cE} (h:NamesAt w0 n) (hs:St w0 H w):NamesAt w n:=h.grow hs.below
def y0 (n:cE):List Item:=[oR 9 1 aJ n.condsA n.condsC n.conds,oR 9 1 aJ n.phasesA n.phasesC n.phases,oR 9 1 aJ n.slotsA n.slotsC n.slots,oR 9 1 aJ n.windowsA n.windowsC n.windows,oR 9 1 aJ n.teamsA n.teamsC n.teams,oR 9 1 aJ n.groundsA n.groundsC n.grounds,oR 9 1 aJ n.townsA n.townsC n.towns]
def gZ (l:aE) (n:cE):Prop:=n.towns=l.towns.map (·.name)∧n.grounds=l.grounds.map (·.name)∧n.teams=l.teams.map (·.name)∧n.windows=l.windows.map (·.name)∧n.slots=l.slots.map (·.name)∧n.phases=l.phases.map (·.name)∧n.conds=l.conds.map (·.name)
end Go.Fz
namespace Go.Fz
def aG (n lo hi:Int):Bool:=decide (lo≤n)&&decide (n≤hi)
theorem HU {n lo hi:Int}:aG n lo hi=true↔lo≤n∧n≤hi:=by simp [aG]
def eY (k:Int):Bool:=decide (1≤k)&&decide (k≤3)
theorem NU (k:Int):((k==1||k==2)||k==3)=eY k:=by
  rw [Bool.eq_iff_iff]; simp [eY]; omega
def rD (k:Int):Bool:=((((k==4)||(k==5))||(k==8))||(k==9))||(k==10)
def xK (n:Int):Bool:=decide (0≤n)&&decide (n≤73048)
theorem uL {n:Int}:xK n=true↔0≤n∧n≤73048:=by simp [xK]
def g5 (y:Int):Bool:=(Int.tmod y 4==0)&&(y != 2100)
def fL (y m:Int):Int:=if m=2 then (if g5 y=true then 29 else 28) else if (((m==4)||(m==6))||(m==9))||(m==11) then 30 else 31
def vT (n:Int):Int:=if xK n=true then Int.tmod (n+5) 7 else 0
def RI (n:Int):Int:=if xK n=true then 0 else 1
def j5 (c:Int):Bool:=(decide (c≥97)&&decide (c≤122))||(decide (c≥65)&&decide (c≤90))
def uM (c:Int):Bool:=decide (c≥48)&&decide (c≤57)
def n8 (c:Int):Bool:=(j5 c||uM c)||(c==95)
abbrev FV:ByteArray:=⟨#[]⟩
def aT (x:cW):Bool:=decide (x.name=FV)&&(x.n == -1)
def nM (x:dP) (t:Int):Bool:=(x.home.n==t)||(x.away.n==t)
def nN (x:dP) (t:Int):Bool:=((x.home.kind==1)&&(x.home.n==t))||((x.away.kind==1)&&(x.away.n==t))
def rE (x:dP):Bool:=(x.home.kind==1)&&(x.away.kind==1)
def dJ:bK:=⟨-1,-1,-1⟩
def jH (k:Int):Int:=if k=1 then 1 else if k=2∨k=3 then 1 else 0
def jI (k:Int):Int:=if k=1 then 400 else if k=2∨k=3 then 40 else if k=7 then 64 else if k=10 then 1440 else 0
end Go.Fz
namespace Go.Fz
open Go Go.RowKit
theorem LeagueAt.sm {w:World} {l:aE} (h:LeagueAt w l):l.towns.length≤140737488355328∧l.ways.length≤140737488355328∧l.depots.length≤140737488355328∧l.grounds.length≤140737488355328∧l.teams.length≤140737488355328 ∧
    l.windows.length≤140737488355328∧l.slots.length≤140737488355328∧l.keys.length≤140737488355328∧l.phases.length≤140737488355328∧l.conds.length≤140737488355328 :=
  ⟨h.towns.small,h.ways.small,h.depots.small,h.grounds.small,h.teams.small,h.windows.small,h.slots.small,h.keys.small,h.phases.small,h.conds.small⟩
theorem xV:(∀ (p:Prop) [Decidable p],(decide p=true)=p)∧(∀ (p:Prop) [Decidable p],(decide p=false)=¬p)∧(∀ {α:Type} [BEq α] [LawfulBEq α] (a b:α),(a==b)=true↔a=b)∧(∀ {α:Type} [BEq α] [LawfulBEq α] (a b:α),(a != b)=true↔a≠b) ∧
    (∀ a b:Bool,((a||b)=true)=(a=true∨b=true))∧(∀ a b:Bool,((a||b)=false)=(a=false∧b=false))∧(∀ a b:Bool,((a&&b)=true)=(a=true∧b=true))∧(∀ a b:Bool,((a&&b)=false)=(a=false∨b=false)) ∧
    (∀ a:Bool,((!a)=true)=(a=false))∧(∀ a:Bool,((!a)=false)=(a=true))∧(∀ {α:Type} [BEq α] [LawfulBEq α] (a b:α),(a==b)=false↔a≠b)∧(∀ n lo hi:Int,aG n lo hi=true↔lo≤n∧n≤hi)∧(∀ p:Prop,(True∧p)=p) :=
  ⟨fun _=>by simp,fun _=>by simp,fun _ _=>by simp,fun _ _=>by simp,fun _ _=>by simp,fun _ _=>by simp,fun _ _=>by simp,fun a b=>by cases a <;> simp,fun _=>by simp,fun _=>by simp,fun _ _=>by simp,fun _ _ _=>HU,fun _=>by simp⟩
end Go.Fz
namespace Go.Fz
open Go Go.RowKit
def fE (a b:cW):Bool:=oK (bN a) (bN b)
theorem gV (a b:cW):fE a b=true↔a=b:=by
  obtain ⟨aname,an⟩:=a
  obtain ⟨bname,bn⟩:=b
  simp [fE,oK,tB,bN,cW.mk.injEq,and_assoc]
theorem tH (a:cW):fE a a=true:=(gV a a).2 rfl
def tJ (a b:iY):Bool:=oK (gY a) (gY b)
theorem HV (a b:iY):tJ a b=true↔a=b:=by
  obtain ⟨aname⟩:=a
  obtain ⟨bname⟩:=b
  simp [tJ,oK,tB,gY,iY.mk.injEq,and_assoc]
def uN (a b:nZ):Bool:=oK (cY a) (cY b)
theorem LA (a b:nZ):uN a b=true↔a=b:=by
  obtain ⟨⟨aa_name,aa_n⟩,⟨ab_name,ab_n⟩,aminutes⟩:=a
  obtain ⟨⟨ba_name,ba_n⟩,⟨bb_name,bb_n⟩,bminutes⟩:=b
  simp [uN,oK,tB,cY,cW.mk.injEq,nZ.mk.injEq,and_assoc]
def m8 (a b:iL):Bool:=oK (bY a) (bY b)
theorem FW (a b:iL):m8 a b=true↔a=b:=by
  obtain ⟨⟨atown_name,atown_n⟩,asets⟩:=a
  obtain ⟨⟨btown_name,btown_n⟩,bsets⟩:=b
  simp [m8,oK,tB,bY,iL.mk.injEq,cW.mk.injEq,and_assoc]
def lI (a b:bZ):Bool:=oK (bG a) (bG b)
theorem C0 (a b:bZ):lI a b=true↔a=b:=by
  obtain ⟨aname,⟨atown_name,atown_n⟩,abear,awear,agrow,auses⟩:=a
  obtain ⟨bname,⟨btown_name,btown_n⟩,bbear,bwear,bgrow,buses⟩:=b
  simp [lI,oK,tB,bG,bZ.mk.injEq,cW.mk.injEq,and_assoc]
def pU (a b:cX):Bool:=oK (bU a) (bU b)
theorem HW (a b:cX):pU a b=true↔a=b:=by
  obtain ⟨aname,⟨aground_name,aground_n⟩,arank⟩:=a
  obtain ⟨bname,⟨bground_name,bground_n⟩,brank⟩:=b
  simp [pU,oK,tB,bU,cW.mk.injEq,cX.mk.injEq,and_assoc]
def gD (a b:eS):Bool:=oK (dL a) (dL b)
def oM (a b:Week):Bool:=oK (mE a) (mE b)
def nO (a b:cQ):Bool:=oK (dB a) (dB b)
theorem C1 (a b:cQ):nO a b=true↔a=b:=by
  obtain ⟨aname,⟨afrm_year,afrm_month,afrm_day⟩,⟨ato_year,ato_month,ato_day⟩,⟨aweek_b0,aweek_b1,aweek_b2,aweek_b3,aweek_b4,aweek_b5,aweek_b6⟩⟩:=a
  obtain ⟨bname,⟨bfrm_year,bfrm_month,bfrm_day⟩,⟨bto_year,bto_month,bto_day⟩,⟨bweek_b0,bweek_b1,bweek_b2,bweek_b3,bweek_b4,bweek_b5,bweek_b6⟩⟩:=b
  simp [nO,oK,tB,dB,eS.mk.injEq,Week.mk.injEq,cQ.mk.injEq,and_assoc]
def tK (a b:j3):Bool:=oK (gB a) (gB b)
theorem HX (a b:j3):tK a b=true↔a=b:=by
  obtain ⟨aname,aminute,alength,astewards⟩:=a
  obtain ⟨bname,bminute,blength,bstewards⟩:=b
  simp [tK,oK,tB,gB,j3.mk.injEq,and_assoc]
def mU (a b:cJ):Bool:=oK (aV a) (aV b)
theorem tL (a b:cJ):mU a b=true↔a=b:=by
  obtain ⟨aname,akind,⟨aa_name,aa_n⟩,⟨ab_name,ab_n⟩,an,⟨afrm_year,afrm_month,afrm_day⟩,⟨ato_year,ato_month,ato_day⟩,⟨aweek_b0,aweek_b1,aweek_b2,aweek_b3,aweek_b4,aweek_b5,aweek_b6⟩,aprice⟩:=a
  obtain ⟨bname,bkind,⟨ba_name,ba_n⟩,⟨bb_name,bb_n⟩,bn,⟨bfrm_year,bfrm_month,bfrm_day⟩,⟨bto_year,bto_month,bto_day⟩,⟨bweek_b0,bweek_b1,bweek_b2,bweek_b3,bweek_b4,bweek_b5,bweek_b6⟩,bprice⟩:=b
  simp [mU,oK,tB,aV,cJ.mk.injEq,eS.mk.injEq,cW.mk.injEq,Week.mk.injEq,and_assoc]
def rF (a b:Points):Bool:=oK (lY a) (lY b)
theorem C2 (a b:Points):rF a b=true↔a=b:=by
  obtain ⟨ap0,ap1,ap2⟩:=a
  obtain ⟨bp0,bp1,bp2⟩:=b
  simp [rF,oK,tB,lY,Points.mk.injEq,and_assoc]
theorem AY (a:Points):rF a a=true:=(C2 a a).2 rfl
def y3 (a b:m6):Bool:=oK (j4 a) (j4 b)
def jM (a b:bK):Bool:=oK (bB a) (bB b)
theorem AZ (a b:bK):jM a b=true↔a=b:=by
  obtain ⟨aday,aground,aslot⟩:=a
  obtain ⟨bday,bground,bslot⟩:=b
  simp [jM,oK,tB,bB,bK.mk.injEq,and_assoc]
def hZ:cW:=⟨⟨#[]⟩,0⟩
def lZ:iY:=⟨⟨#[]⟩⟩
def o0:nZ:=⟨⟨⟨#[]⟩,0⟩,⟨⟨#[]⟩,0⟩,0⟩
def j6:iL:=⟨⟨⟨#[]⟩,0⟩,0⟩
def iQ:bZ:=⟨⟨#[]⟩,⟨⟨#[]⟩,0⟩,0,0,0,0⟩
def l0:cX:=⟨⟨#[]⟩,⟨⟨#[]⟩,0⟩,0⟩
def iR:cQ:=⟨⟨#[]⟩,⟨0,0,0⟩,⟨0,0,0⟩,⟨false,false,false,false,false,false,false⟩⟩
def l5:j3:=⟨⟨#[]⟩,0,0,0⟩
def aF:aX:=⟨⟨#[]⟩,0,⟨⟨#[]⟩,0⟩,none,[],0,⟨⟨#[]⟩,0⟩,none,[],0,⟨⟨#[]⟩,0⟩,⟨⟨#[]⟩,0⟩,0,0⟩
def dZ:cJ:=⟨⟨#[]⟩,0,⟨⟨#[]⟩,0⟩,⟨⟨#[]⟩,0⟩,0,⟨0,0,0⟩,⟨0,0,0⟩,⟨false,false,false,false,false,false,false⟩,0⟩
def cH:aE:=⟨⟨#[]⟩,none,[],0,none,[],0,none,[],0,none,[],0,none,[],0,none,[],0,none,[],0,0,⟨0,0,0⟩,none,[],0,none,[],0,none,[],0⟩
def Week.list (w:Week):List Bool:=[w.b0,w.b1,w.b2,w.b3,w.b4,w.b5,w.b6]
def Week.at (w:Week) (k:Int):Bool:=w.list.getD k.toNat false
theorem YK {k:Int} (h:0≤k∧k<7):k.toNat=0∨k.toNat=1∨k.toNat=2∨k.toNat=3∨k.toNat=4∨k.toNat=5∨k.toNat=6:=by omega
theorem FX (x:cQ) {k:Int} (h:0≤k∧k<7):(dB x)[7+k.toNat*1]?=some (Bo (x.week.at k)):=by
  rcases YK h with h | h | h | h | h | h | h <;> simp [h,dB,Week.at,Week.list]
def Points.list (p:Points):List Int:=[p.p0,p.p1,p.p2]
def Points.at (p:Points) (k:Int):Int:=p.list.getD k.toNat 0
theorem vU (x:aE) {k:Int} (h:0≤k∧k<3):(aB x)[9+k.toNat*1]?=some (I (x.points.at k)):=by
  have:k.toNat=0∨k.toNat=1∨k.toNat=2:=by omega
  rcases this with h | h | h <;> simp [h,aB,Points.at,Points.list]
end Go.Fz
namespace Go.Proofs
open Go.Shelf
def Tryz.lays137_ren:Go.Shelf.Ren:=⟨fun | 137=>238 | 217=>241 | 266=>245 | n=>n,fun | 9=>9 | 5=>5 | 3=>3 | n=>n,fun | n=>n⟩
theorem Tryz.lays137:Go.Proofs.Lays.n137 Tryz.prog Tryz.lays137_ren:={
  mixed:=by kernel_rfl
  f137:=Tryz.func238.trans (congrArg some (by kernel_rfl))
  f217:=Tryz.func241.trans (congrArg some (by kernel_rfl))
  f266:=Tryz.func245.trans (congrArg some (by kernel_rfl))
  t3:=Tryz.underlying3
  a3:=Tryz.isAgg3
  z3:=Tryz.sizeOf3
  v3:=Tryz.zeroValue3
  t5:=Tryz.underlying5
  a5:=Tryz.isAgg5
  z5:=Tryz.sizeOf5
  v5:=Tryz.zeroValue5
  t9:=Tryz.underlying9
  a9:=Tryz.isAgg9
  z9:=Tryz.sizeOf9
  v9:=Tryz.zeroValue9 }
open Go.RowKit in
theorem Tryz.strings_IndexByte (s:ByteArray) (c:Int) (w:World) :
    Calls Tryz.prog 238 #[.string s,.int .u8 c] w fun e w'=>e=.returned (.int .i64 (Lib.indexByte s.data.toList c.toNat.toUInt8))∧w'=w:=Any.strings_IndexByte Tryz.lays137 s c w
open Go.RowKit Go.Lib in
open Go.RowKit Go.Lib in
open Go.RowKit Go.Lib in
open Go.RowKit Go.Lib in
open Go.RowKit Go.Lib in
open Go.RowKit Go.Lib in
open Go.RowKit Go.Lib in
open Go.RowKit Go.Lib in
def Tryz.lays144_ren:Go.Shelf.Ren:=⟨fun | 144=>226 | 143=>235 | 219=>239 | 217=>241 | 225=>242 | 224=>243 | 267=>244 | 266=>245 | 314=>246 | n=>n,fun | 9=>9 | 4=>4 | 3=>3 | 5=>5 | 46=>291 | 146=>292 | 51=>77 | n=>n,fun | 1=>1 | n=>n⟩
theorem Tryz.lays144:Go.Proofs.Lays.n144 Tryz.prog Tryz.lays144_ren:={
  mixed:=by kernel_rfl
  f143:=Tryz.func235.trans (congrArg some (by kernel_rfl))
  f144:=Tryz.func226.trans (congrArg some (by kernel_rfl))
  f217:=Tryz.func241.trans (congrArg some (by kernel_rfl))
  f219:=Tryz.func239.trans (congrArg some (by kernel_rfl))
  f224:=Tryz.func243.trans (congrArg some (by kernel_rfl))
  f225:=Tryz.func242.trans (congrArg some (by kernel_rfl))
  f266:=Tryz.func245.trans (congrArg some (by kernel_rfl))
  f267:=Tryz.func244.trans (congrArg some (by kernel_rfl))
  f314:=Tryz.func246.trans (congrArg some (by kernel_rfl))
  t3:=Tryz.underlying3
  a3:=Tryz.isAgg3
  z3:=Tryz.sizeOf3
  v3:=Tryz.zeroValue3
  t4:=Tryz.underlying4
  a4:=Tryz.isAgg4
  z4:=Tryz.sizeOf4
  v4:=Tryz.zeroValue4
  t5:=Tryz.underlying5
  a5:=Tryz.isAgg5
  z5:=Tryz.sizeOf5
  v5:=Tryz.zeroValue5
  t9:=Tryz.underlying9
  a9:=Tryz.isAgg9
  z9:=Tryz.sizeOf9
  v9:=Tryz.zeroValue9
  t46:=Tryz.underlying291
  a46:=Tryz.isAgg291
  z46:=Tryz.sizeOf291
  v46:=Tryz.zeroValue291
  t51:=Tryz.underlying77
  a51:=Tryz.isAgg77
  z51:=Tryz.sizeOf77
  v51:=Tryz.zeroValue77
  t146:=Tryz.underlying292
  a146:=Tryz.isAgg292
  z146:=Tryz.sizeOf292
  v146:=Tryz.zeroValue292
  g1:=by kernel_rfl }
open Go.RowKit Go.Lib in
open Go.RowKit Go.Lib in
theorem Tryz.strings_Contains (s sub:ByteArray) (m:Int) (w:World) (hs:s.size<4294967281) (hm:w.cell? ⟨1,0,none⟩=some (.int .i64 m)) :
    Calls Tryz.prog 226 #[.string s,.string sub] w fun e w'=>e=.returned (.bool (Lib.contains s.data.toList sub.data.toList))∧w'=w:=Any.strings_Contains Tryz.lays144 s sub m w hs hm
end Go.Proofs
namespace Go.Fz
open Go Go.RowKit
def WH:ByteArray:=⟨#[123,125,40,41,59,44,61,58,46,60,62,33,43,45,42,47]⟩
def WI (c:Int):Bool:=(((c==32)||(c==9))||(c==10))||(c==13)
def YL (c:Int):Int:=Lib.indexByte WH.data.toList c.toNat.toUInt8
def iZ (c:Int):Int:=if j5 c=true then 2 else if uM c=true then 3 else if c=95 then 5 else if WI c=true then 1 else if YL c≥0 then 4 else 0
theorem uO (c:Int):iZ c=2↔j5 c=true:=by
  unfold iZ; repeat' split
  all_goals simp_all
theorem y5 (c:Int):(iZ c≠2∧iZ c≠3∧iZ c≠5)↔n8 c=false:=by
  unfold iZ n8; repeat' split
  all_goals simp_all
def xW (s:ByteArray):Bool:=(List.range s.size).all fun i=>n8 (bt s i)
def lexB (s:ByteArray):Bool:=decide (1≤s.size)&&decide (s.size≤32)&&j5 (bt s 0)&&xW s
theorem BM {s:ByteArray} (h1:1≤s.size) (h2:s.size≤32) (h3:j5 (bt s 0)=true) (h4:∀ i,i<s.size→n8 (bt s i)=true):lexB s=true:=by
  simp [lexB,xW,h1,h2,h3]; exact h4
theorem FY {s:ByteArray} {k:Nat} (hk:k<s.size) (h:n8 (bt s k)=false):lexB s=false:=by
  simp only [lexB,Bool.and_eq_false_iff]
  refine .inr ?_
  simp only [xW]
  rw [List.all_eq_false]
  exact ⟨k,List.mem_range.2 hk,by simp [h]⟩
theorem NV {s:ByteArray}:s.size=0↔s=FV:=by
  constructor
  · intro h
    cases s with
    | mk d =>
      have:d.size=0:=h
      have:=Array.eq_empty_of_size_eq_zero this
      subst this; rfl
  · intro h; subst h; rfl
theorem BN {s:ByteArray} (h:¬ (1≤s.size∧s.size≤32∧j5 (bt s 0)=true)):lexB s=false:=by
  simp only [lexB]
  rcases Bool.eq_false_or_eq_true (j5 (bt s 0)) with h3 | h3
  · have:¬ (1≤s.size∧s.size≤32):=fun h'=>h ⟨h'.1,h'.2,h3⟩
    rcases Nat.lt_or_ge s.size 1 with h1 | h1
    · have:decide (1≤s.size)=false:=decide_eq_false (by omega)
      simp [this]
    · have:decide (s.size≤32)=false:=decide_eq_false (by omega)
      simp [this]
  · simp [h3]
theorem C3 {s:ByteArray} (h:(((decide (s=FV))||(decide ((s.size:Int)>32)))||((iZ (bt s 0)) != 2))=true):lexB s=false:=by
  refine BN fun ⟨h1,h2,h3⟩=>?_
  have h4:¬ s=FV:=fun e=>by rw [← NV] at e; omega
  have h5:=(uO _).2 h3
  have h6:¬ ((s.size:Int)>32):=by omega
  simp [h4,h5,h6] at h
theorem C4 {s:ByteArray} (h:(((decide (s=FV))||(decide ((s.size:Int)>32)))||((iZ (bt s 0)) != 2))=false) (h4:∀ i,i<s.size→n8 (bt s i)=true):lexB s=true:=by
  simp only [Bool.or_eq_false_iff,decide_eq_false_iff_not,bne_eq_false_iff_eq] at h
  have h1:s.size≠0:=fun e=>h.1.1 (NV.1 e)
  exact BM (by omega) (by omega) ((uO _).1 h.2) h4
theorem WJ {c:Int} (h:(((iZ c != 2)&&(iZ c != 3))&&(iZ c != 5))=true):n8 c=false:=by
  rw [← y5]
  simpa [and_assoc] using h
theorem R4 {c:Int} (h:(((iZ c != 2)&&(iZ c != 3))&&(iZ c != 5))=false):n8 c=true:=by
  rcases Bool.eq_false_or_eq_true (n8 c) with h2 | h2
  · exact h2
  · rw [← y5] at h2
    simp [h2] at h
theorem YM {s:ByteArray} {x:Bool} (h:(decide (s=FV)||x)=false):0<s.size:=by
  have:s≠FV:=by simpa using (Bool.or_eq_false_iff.1 h).1
  rw [ne_eq,← NV] at this; omega
theorem U1 {s:ByteArray} {x y:Bool} (h:((x||(decide ((s.size:Int)>32)))||y)=false):s.size≤32:=by
  have:=of_decide_eq_false (Bool.or_eq_false_iff.1 (Bool.or_eq_false_iff.1 h).1).2
  omega
theorem YN {s:ByteArray} {x:Bool} (h:(decide ((s.size:Int)<1)||x)=false):0<s.size:=by
  have:=of_decide_eq_false (Bool.or_eq_false_iff.1 h).1
  omega
theorem C5 {s:ByteArray} (h:(((decide ((s.size:Int)<1))||(decide ((s.size:Int)>32)))||(!j5 (bt s 0)))=true):lexB s=false:=by
  refine BN fun ⟨h1,h2,h3⟩=>?_
  have h4:¬ ((s.size:Int)<1):=by omega
  have h6:¬ ((s.size:Int)>32):=by omega
  simp [h4,h3,h6] at h
theorem C6 {s:ByteArray} (h:(((decide ((s.size:Int)<1))||(decide ((s.size:Int)>32)))||(!j5 (bt s 0)))=false) (h4:∀ i,i<s.size→n8 (bt s i)=true):lexB s=true:=by
  simp only [Bool.or_eq_false_iff,decide_eq_false_iff_not,Bool.not_eq_false'] at h
  exact BM (by omega) (by omega) h.2 h4
theorem aM {p:Nat→Prop} {k:Nat} (h:∀ i,i<k→p i) (hk:p k):∀ i,i<k+1→p i:=fun i hi=>by
  rcases Nat.lt_succ_iff_lt_or_eq.1 hi with h1 | rfl
  · exact h i h1
  · exact hk
def nP (l:List ByteArray) (s:ByteArray):Option Nat:=l.findIdx? fun x=>decide (x=s)
def aH (l:List ByteArray) (s:ByteArray):Int:=match nP l s with | some i=>i | none => -1
theorem nQ {l:List ByteArray} {s:ByteArray} {i:Nat}:nP l s=some i↔l[i]?=some s∧∀ j,j<i→l[j]?≠some s:=by
  unfold nP
  rw [List.findIdx?_eq_some_iff_getElem]
  constructor
  · rintro ⟨h,h1,h2⟩
    refine ⟨by rw [List.getElem?_eq_getElem h]; simpa using h1,fun j hj=>?_⟩
    have:=h2 j hj
    rw [List.getElem?_eq_getElem (by omega)]
    simpa using this
  · rintro ⟨h1,h2⟩
    obtain ⟨h,h3⟩:=List.getElem?_eq_some_iff.1 h1
    refine ⟨h,by simpa using h3,fun j hj=>?_⟩
    have:=h2 j hj
    rw [List.getElem?_eq_getElem (by omega)] at this
    simpa using this
theorem y6 {l:List ByteArray} {s:ByteArray}:nP l s=none↔s∉l:=by
  unfold nP
  rw [List.findIdx?_eq_none_iff]
  constructor
  · intro h hm; simpa using h s hm
  · intro h x hx; simp; rintro rfl; exact h hx
theorem HY {l:List ByteArray} {s:ByteArray} {k:Nat} (h:l[k]?=some s) (h2:∀ j,j<k→l[j]?≠some s):aH l s=k:=by
  unfold aH; rw [nQ.2 ⟨h,h2⟩]
theorem HZ {l:List ByteArray} {s:ByteArray} (h:∀ j,j<l.length→l[j]?≠some s):aH l s = -1:=by
  unfold aH
  rw [y6.2 ?_]
  intro hm
  obtain ⟨j,hj,e⟩:=List.getElem_of_mem hm
  exact h j hj (by rw [List.getElem?_eq_getElem hj,e])
theorem vV {l:List ByteArray} {s:ByteArray}:aH l s<0↔s∉l:=by
  unfold aH
  rw [← y6]
  split <;> simp_all
theorem NW {l:List ByteArray} {s:ByteArray}:aH l s<l.length ∧ -1≤aH l s:=by
  unfold aH
  split
  · rename_i i h
    have:=(List.getElem?_eq_some_iff.1 (nQ.1 h).1).1
    omega
  · omega
def l6:List ByteArray:=[⟨#[108,101,97,103,117,101]⟩,⟨#[116,111,119,110]⟩,⟨#[119,97,121]⟩,⟨#[109,105,110,117,116,101,115]⟩,⟨#[100,101,112,111,116]⟩,⟨#[115,101,116,115]⟩,⟨#[103,114,111,117,110,100]⟩,⟨#[98,101,97,114]⟩,⟨#[119,101,97,114]⟩,⟨#[103,114,111,119]⟩,⟨#[117,115,101,115]⟩,⟨#[116,101,97,109]⟩,⟨#[114,97,110,107]⟩,⟨#[119,105,110,100,111,119]⟩,⟨#[102,114,111,109]⟩,⟨#[116,111]⟩,⟨#[111,110]⟩,⟨#[115,108,111,116]⟩,⟨#[109,105,110,117,116,101]⟩,⟨#[108,101,110,103,116,104]⟩,⟨#[115,116,101,119,97,114,100,115]⟩,⟨#[112,111,105,110,116,115]⟩,⟨#[116,105,101,115]⟩,⟨#[112,104,97,115,101]⟩,⟨#[99,111,110,100,105,116,105,111,110]⟩,⟨#[104,97,114,100]⟩,⟨#[112,114,105,99,101]⟩,⟨#[109,111,110]⟩,⟨#[116,117,101]⟩,⟨#[119,101,100]⟩,⟨#[116,104,117]⟩,⟨#[102,114,105]⟩,⟨#[115,97,116]⟩,⟨#[115,117,110]⟩,⟨#[119,105,110,115]⟩,⟨#[100,105,102,102]⟩,⟨#[103,111,97,108,115]⟩,⟨#[104,101,97,100]⟩,⟨#[115,105,110,103,108,101]⟩,⟨#[100,111,117,98,108,101]⟩,⟨#[109,105,114,114,111,114,101,100]⟩,⟨#[99,117,112]⟩,⟨#[115,112,108,105,116]⟩,⟨#[100,101,99,105,100,101,114]⟩,⟨#[114,101,115,116]⟩,⟨#[104,111,109,101]⟩,⟨#[97,119,97,121]⟩,⟨#[115,104,117,116]⟩,⟨#[111,102,102]⟩,⟨#[97,112,97,114,116]⟩,⟨#[109,101,101,116]⟩,⟨#[110,101,118,101,114]⟩,⟨#[102,97,114]⟩]
def eO (s:ByteArray):Bool:=lexB s&&decide (aH l6 s<0)
def cZ (l:List ByteArray):Bool:=l.all eO
def c6 (l:List ByteArray):Bool := !decide l.Nodup
def fK:List Int:=[31,29,31,30,31,30,31,31,30,31,30,31]
structure Glb (w:World):Prop where
  most:∃ m,w.cell? ⟨1,0,none⟩=some (.int .i64 m)
  days:Row w (some ⟨0,0,none⟩) 1 iO fK
theorem Glb.grow {w w':World} (h:Glb w) (hb:Below w.heap.size w w'):Glb w' :=
  ⟨let ⟨m,hm⟩:=h.most; ⟨m,St.keepCell hb hm⟩,h.days.grow hb⟩
theorem Glb.up {w0 w:World} {H:List Item} (h:Glb w0) (hs:St w0 H w):Glb w:=h.grow hs.below
theorem FZ {P:Program} {k:Nat} {args:Array Value} {w:World} {v:Value} (h:Calls P k args w fun e w'=>e=.returned v∧w'=w):Calls P k args w (eB v w) :=
  h.mono fun e w' ⟨h1,h2⟩=>⟨h1,by subst h2; exact Below.refl _ _⟩
end Go.Fz
namespace Go.Fz
open Go Go.RowKit
set_option maxRecDepth 10000
def vW:ByteArray:=⟨#[32,108,101,97,103,117,101,32,116,111,119,110,32,119,97,121,32,109,105,110,117,116,101,115,32,100,101,112,111,116,32,115,101,116,115,32,103,114,111,117,110,100,32,98,101,97,114,32,119,101,97,114,32,103,114,111,119,32,117,115,101,115,32,116,101,97,109,32,114,97,110,107,32,119,105,110,100,111,119,32,102,114,111,109,32,116,111,32,111,110,32,115,108,111,116,32,109,105,110,117,116,101,32,108,101,110,103,116,104,32,115,116,101,119,97,114,100,115,32,112,111,105,110,116,115,32,116,105,101,115,32,112,104,97,115,101,32,99,111,110,100,105,116,105,111,110,32,104,97,114,100,32,112,114,105,99,101,32,109,111,110,32,116,117,101,32,119,101,100,32,116,104,117,32,102,114,105,32,115,97,116,32,115,117,110,32,119,105,110,115,32,100,105,102,102,32,103,111,97,108,115,32,104,101,97,100,32,115,105,110,103,108,101,32,100,111,117,98,108,101,32,109,105,114,114,111,114,101,100,32,99,117,112,32,115,112,108,105,116,32,100,101,99,105,100,101,114,32,114,101,115,116,32,104,111,109,101,32,97,119,97,121,32,115,104,117,116,32,111,102,102,32,97,112,97,114,116,32,109,101,101,116,32,110,101,118,101,114,32,102,97,114,32]⟩
theorem C7 (sub:List UInt8):Lib.contains [] sub=sub.isEmpty:=by
  unfold Lib.contains Lib.index; cases sub <;> rfl
theorem contains_cons (b:UInt8) (l sub:List UInt8):Lib.contains (b::l) sub=(sub.isPrefixOf (b::l)||Lib.contains l sub):=by
  unfold Lib.contains
  rw [Lib.index]
  have:=Lib.index_ge l sub
  cases sub.isPrefixOf (b::l) with
  | true=>simp
  | false =>
    simp only [Bool.false_eq_true,if_false,Bool.false_or]
    by_cases h:Lib.index l sub = -1
    · simp [h]
    · have:0≤Lib.index l sub:=by omega
      have h2:(Lib.index l sub == -1)=false:=by simpa using h
      have h3:0≤Lib.index l sub+1:=by omega
      simp [h2,this,h3]
theorem F0:∀ (s w r:List UInt8),32∉s→32∉w→((s++[32]).isPrefixOf (w++32::r)=true↔s=w)
  | [],[],r,_,_=>by simp
  | [],b::w,r,_,hw=>by
    have hb:(32:UInt8)≠b:=fun e=>hw (by simp [e])
    simp [hb]
  | a::s,[],r,hs,_=>by
    have ha:a≠32:=fun e=>hs (by simp [e])
    simp [ha]
  | a::s,b::w,r,hs,hw=>by
    have ih:=F0 s w r (fun h=>hs (List.mem_cons_of_mem _ h)) (fun h=>hw (List.mem_cons_of_mem _ h))
    simp only [List.cons_append,List.isPrefixOf_cons_cons,Bool.and_eq_true,beq_iff_eq,ih,List.cons.injEq]
theorem sQ (s r:List UInt8):∀ (w:List UInt8),32∉w→Lib.contains (w++32::r) (32::(s++[32]))=Lib.contains (32::r) (32::(s++[32]))
  | [],_=>rfl
  | b::w,hw=>by
    have hb:(32:UInt8)≠b:=fun e=>hw (by simp [e])
    rw [List.cons_append,contains_cons,sQ s r w (fun h=>hw (List.mem_cons_of_mem _ h))]
    simp [List.isPrefixOf_cons_cons,hb]
def vX:List (List UInt8)→List UInt8
  | []=>[32]
  | w::ws=>32::(w++vX ws)
theorem F1 (ws:List (List UInt8)):∃ r,vX ws=32::r:=by cases ws <;> exact ⟨_,rfl⟩
theorem qM (s:List UInt8) (hs:32∉s):∀ (ws:List (List UInt8)),(∀ w∈ws,32∉w)→(Lib.contains (vX ws) (32::(s++[32]))=true↔s∈ws)
  | [],_=>by
    simp only [vX,contains_cons,C7]
    cases s <;> simp
  | w::ws,hw=>by
    obtain ⟨r,hr⟩:=F1 ws
    have ih:=qM s hs ws (fun x hx=>hw x (List.mem_cons_of_mem _ hx))
    have hw1:=hw w List.mem_cons_self
    rw [hr] at ih
    simp only [vX,contains_cons,hr,sQ s r w hw1,List.isPrefixOf_cons_cons,Bool.or_eq_true,beq_self_eq_true,Bool.true_and,F0 s w r hs hw1,List.mem_cons]
    rw [contains_cons,Bool.or_eq_true] at ih
    rw [← ih]
    rw [List.isPrefixOf_cons_cons]
    simp
theorem C8:vW.data.toList=vX (l6.map (fun x=>x.data.toList)):=by rfl
theorem F2:∀ w∈l6.map (fun x=>x.data.toList),(32:UInt8)∉w:=by decide
theorem BP {s:ByteArray} (h:lexB s=true):1≤s.size∧s.size≤32:=by
  simp only [lexB,Bool.and_eq_true,decide_eq_true_eq] at h
  exact h.1.1
theorem H0 {s:ByteArray} (h:lexB s=true):(32:UInt8)∉s.data.toList:=by
  simp only [lexB,Bool.and_eq_true,decide_eq_true_eq,xW,List.all_eq_true,List.mem_range] at h
  intro hm
  obtain ⟨i,hi,e⟩:=List.getElem_of_mem hm
  have hi':i<s.size:=by simpa using hi
  have:=h.2 i hi'
  have e2:bt s i=32:=by
    unfold bt
    rw [List.getD_eq_getElem?_getD,List.getElem?_eq_getElem hi,Option.getD_some,e]
    rfl
  rw [e2] at this
  exact absurd this (by decide)
theorem R5 (s:ByteArray):(((⟨#[32]⟩:ByteArray)++s)++(⟨#[32]⟩:ByteArray)).data.toList=32::(s.data.toList++[32]):=by
  simp [ByteArray.data_append]
theorem y7 {s:ByteArray} (h:lexB s=true):(!Lib.contains vW.data.toList (((⟨#[32]⟩:ByteArray)++s)++(⟨#[32]⟩:ByteArray)).data.toList)=decide (aH l6 s<0):=by
  rw [R5,C8,Bool.eq_iff_iff]
  simp only [Bool.not_eq_true',decide_eq_true_eq,vV]
  rw [← Bool.not_eq_true,qM _ (H0 h) _ F2]
  refine not_congr ?_
  rw [List.mem_map]
  constructor
  · rintro ⟨x,hx,e⟩
    have:x=s:=by
      cases x; cases s
      simp only [ByteArray.mk.injEq]
      exact Array.toList_inj.1 e
    rwa [← this]
  · exact fun h=>⟨s,h,rfl⟩
theorem NY (s:ByteArray):(lexB s && !Lib.contains vW.data.toList (((⟨#[32]⟩:ByteArray)++s)++(⟨#[32]⟩:ByteArray)).data.toList)=eO s:=by
  unfold eO
  rcases Bool.eq_false_or_eq_true (lexB s) with h | h
  · rw [y7 h]
  · simp [h]
theorem YO {P:Program} (w:World) (t:TypeId) (a b:ByteArray) (h:a.size+b.size≤9223372036854775807):Yv P w (binOp .add t (.string a) (.string b)) (.string (a++b)):=Yv.intro fun w'=>by
  have h1:¬ (((a.size+b.size:Nat):Int)>IntKind.i64.max):=by
    have:IntKind.i64.max=9223372036854775807:=by decide
    omega
  have h2:¬ ((a.size:Int)+(b.size:Int)>IntKind.i64.max):=by simpa using h1
  simp [binOp,Op.stringOp]
  omega
theorem R6 {s:ByteArray} (h:lexB s=true):(⟨#[32]⟩:ByteArray).size+s.size≤9223372036854775807:=by
  have:=BP h
  have e:(⟨#[32]⟩:ByteArray).size=1:=rfl
  omega
theorem NZ {s:ByteArray} (h:lexB s=true):((⟨#[32]⟩:ByteArray)++s).size+(⟨#[32]⟩:ByteArray).size≤9223372036854775807:=by
  have:=BP h
  have e:(⟨#[32]⟩:ByteArray).size=1:=rfl
  rw [ByteArray.size_append]
  omega
theorem bI {α:Type} {p:α→Bool} {l:List α} {k:Nat} {x:α} (h:l[k]?=some x) (hp:p x=false):l.all p=false:=by
  rw [List.all_eq_false]
  exact ⟨x,List.mem_of_getElem? h,by simp [hp]⟩
theorem cR {α:Type} {p:α→Bool} {l:List α} (h:∀ i,i<l.length→∀ x,l[i]?=some x→p x=true):l.all p=true:=by
  rw [List.all_eq_true]
  intro x hx
  obtain ⟨i,hi,e⟩:=List.getElem_of_mem hx
  exact h i hi x (by rw [List.getElem?_eq_getElem hi,e])
theorem LB {l:List ByteArray} {k:Nat} {x:ByteArray} (h:l[k]?=some x) (hf:aH (l.take k) x≥0):c6 l=true:=by
  have hm:x∈l.take k:=by
    rcases Classical.em (x∈l.take k) with h1 | h1
    · exact h1
    · have:=vV.2 h1; omega
  simp only [c6,Bool.not_eq_true',decide_eq_false_iff_not]
  intro hn
  obtain ⟨j,hj,e⟩:=List.getElem_of_mem hm
  rw [List.length_take] at hj
  rw [List.getElem_take] at e
  obtain ⟨hk,e2⟩:=List.getElem?_eq_some_iff.1 h
  exact List.pairwise_iff_getElem.1 hn j k (by omega) hk (by omega) (e.trans e2.symm)
theorem H2 {l:List ByteArray} (h:∀ i,i<l.length→∀ x,l[i]?=some x→aH (l.take i) x<0):c6 l=false:=by
  simp only [c6,Bool.not_eq_false',decide_eq_true_eq]
  refine List.pairwise_iff_getElem.2 fun i j hi hj hij e=>?_
  have h1:=h j hj l[j] (List.getElem?_eq_getElem hj)
  rw [vV] at h1
  exact h1 (List.mem_take_iff_getElem.2 ⟨i,by omega,e⟩)
end Go.Fz
namespace Go.Fz
open Go Go.RowKit
theorem rW (n:Int):0≤vT n∧vT n<7:=by
  unfold vT
  split
  · rename_i h
    have:=uL.1 h
    rw [Int.tmod_eq_emod_of_nonneg (by omega)]
    omega
  · omega
theorem LC {y:Int} (h:0≤y):g5 y=true↔y % 4=0∧y≠2100:=by
  simp [g5,Int.tmod_eq_emod_of_nonneg h]
theorem j0 (y m:Int):28≤fL y m∧fL y m≤31:=by
  unfold fL; repeat' split
  all_goals omega
def kW (d:eS):Bool:=((((decide (d.year≥2000)&&decide (d.year≤2199))&&decide (d.month≥1))&&decide (d.month≤12))&&decide (d.day≥1))&&decide (d.day≤fL d.year d.month)
theorem jO {d:eS}:kW d=true↔2000≤d.year∧d.year≤2199∧1≤d.month∧d.month≤12∧1≤d.day∧d.day≤fL d.year d.month:=by
  simp [kW,and_assoc]
def l7 (m:Nat):Int:=(fK.take m).foldl (·+·) 0
def mO (y:Int) (m:Nat):Int:=l7 m-(if 2≤m∧g5 y=false then 1 else 0)
def vY (k:Int):Int:=365*k+(k+3) / 4-(if k>100 then 1 else 0)
def mV (d:eS):Int:=d.day-1+vY (d.year-2000)+mO d.year (d.month-1).toNat
def bO (d:eS):Int:=if kW d=true then mV d else 0
def g6 (d:eS):Int:=if kW d=true then 0 else 120
theorem vZ {m:Nat} (h:m<12):l7 (m+1)=l7 m+fK.getD m 0:=by
  have:m=0∨m=1∨m=2∨m=3∨m=4∨m=5∨m=6∨m=7∨m=8∨m=9∨m=10∨m=11:=by omega
  rcases this with h | h | h | h | h | h | h | h | h | h | h | h <;> subst h <;> decide
theorem wZ {y:Int} {m:Nat} (h:m<12):fL y ((m:Int)+1)=fK.getD m 0-(if m=1∧g5 y=false then 1 else 0):=by
  have:m=0∨m=1∨m=2∨m=3∨m=4∨m=5∨m=6∨m=7∨m=8∨m=9∨m=10∨m=11:=by omega
  rcases this with h | h | h | h | h | h | h | h | h | h | h | h <;> subst h
  all_goals (cases hl:g5 y <;> simp [fL,hl,fK])
theorem BQ {y:Int} {m:Nat} (h:m<12):mO y (m+1)=mO y m+fL y ((m:Int)+1):=by
  rw [wZ h]
  unfold mO
  rw [vZ h]
  by_cases h1:m=1
  · subst h1; cases g5 y <;> simp <;> omega
  · cases g5 y
    · by_cases h2:2≤m
      · rw [if_pos ⟨by omega,rfl⟩,if_pos ⟨h2,rfl⟩,if_neg (by omega)]; omega
      · rw [if_neg (by omega),if_neg (by omega),if_neg (by omega)]; omega
    · simp
theorem BR (y:Int):mO y 0=0:=by simp [mO,l7]
theorem BS (y:Int):mO y 12=365+(if g5 y=true then 1 else 0):=by
  unfold mO
  have:l7 12=366:=by decide
  rw [this]
  cases g5 y <;> simp
theorem LD {k:Int} (h:0≤k) (h2:k<200):vY (k+1)=vY k+mO (2000+k) 12:=by
  rw [BS]
  have hl:=LC (y:=2000+k) (by omega)
  unfold vY
  by_cases h3:g5 (2000+k)=true
  · rw [if_pos h3]
    have:=hl.1 h3
    split <;> split <;> omega
  · rw [if_neg h3]
    have:¬ ((2000+k) % 4=0∧2000+k≠2100):=fun h=>h3 (hl.2 h)
    split <;> split <;> omega
theorem y8 {y:Int} {m:Nat} (h:m≤12):0≤mO y m∧mO y m≤366:=by
  have:∀ m,m≤12→0≤mO y m∧mO y m≤31*m:=by
    intro m
    induction m with
    | zero=>intro _; rw [BR]; omega
    | succ m ih =>
      intro hm
      have:=ih (by omega)
      have h2:=j0 y ((m:Int)+1)
      rw [BQ (by omega)]
      omega
  have h1:=this m h
  refine ⟨h1.1,?_⟩
  by_cases h2:m=12
  · subst h2; rw [BS]; split <;> omega
  · omega
theorem y9 {k:Int} (h:0≤k) (h2:k≤200):0≤vY k∧vY k≤73050:=by
  unfold vY; split <;> omega
theorem C9 {d:eS} (h:kW d=true):0≤mV d∧mV d≤73500:=by
  have h1:=jO.1 h
  have h2:=j0 d.year d.month
  have h3:=y9 (k:=d.year-2000) (by omega) (by omega)
  have h4:=y8 (y:=d.year) (m:=(d.month-1).toNat) (by omega)
  unfold mV
  omega
theorem pV (d:eS):0≤bO d∧bO d≤73500:=by
  unfold bO
  split
  · exact C9 (by assumption)
  · omega
def yN (d:eS) (k:Nat):Int:=if 2000+(k:Int)≤d.year then d.day-1+vY k else mV d
def jN (d:eS) (k:Nat):Nat:=if 2000+(k:Int)<d.year then 12 else (d.month-1).toNat
theorem R7 {d:eS} (h:kW d=true):d.day-1=yN d 0:=by
  have h1:=jO.1 h
  unfold yN
  rw [if_pos (by omega)]
  have:vY ((0:Nat):Int)=0:=by decide
  omega
theorem R8 {d:eS} (h:kW d=true) {k:Nat} (hk:2000+(k:Int)≤d.year):yN d k+mO (2000+(k:Int)) (jN d k)=yN d (k+1):=by
  have h1:=jO.1 h
  unfold yN jN
  rw [if_pos hk]
  by_cases h2:2000+(k:Int)<d.year
  · rw [if_pos h2,if_pos (by omega)]
    have:=LD (k:=(k:Int)) (by omega) (by omega)
    push_cast
    omega
  · rw [if_neg h2,if_neg (by omega)]
    have e:d.year=2000+(k:Int):=by omega
    unfold mV
    rw [e]
    have e2:2000+(k:Int)-2000=(k:Int):=by omega
    rw [e2]
theorem WK {d:eS} {k:Nat} (hk:¬ 2000+(k:Int)≤d.year):yN d k=mV d:=if_neg hk
theorem N0 {d:eS} (h:kW d=true) {k:Nat} (hk:2000+(k:Int)≤d.year):0≤yN d k∧yN d k≤73500:=by
  have h1:=jO.1 h
  have h2:=j0 d.year d.month
  have:=y9 (k:=(k:Int)) (by omega) (by omega)
  unfold yN
  rw [if_pos hk]
  omega
theorem U2 {d:eS} (h:kW d=true) (k:Nat):jN d k≤12:=by
  have h1:=jO.1 h
  unfold jN; split <;> omega
theorem YP {d:eS} {k j:Nat} (h:kW d=true) (hk:2000+(k:Int)≤d.year) (ht:((decide (1+(j:Int)≤12))&&((decide (2000+(k:Int)<d.year))||(decide (1+(j:Int)<d.month))))=true):j<jN d k:=by
  have h1:=jO.1 h
  simp only [Bool.and_eq_true,Bool.or_eq_true,decide_eq_true_eq] at ht
  unfold jN; split <;> omega
theorem WM {d:eS} {k j:Nat} (h:kW d=true) (hk:2000+(k:Int)≤d.year) (hj:j≤jN d k) (ht:((decide (1+(j:Int)≤12))&&((decide (2000+(k:Int)<d.year))||(decide (1+(j:Int)<d.month))))=false):j=jN d k:=by
  have h1:=jO.1 h
  simp only [Bool.and_eq_false_iff,Bool.or_eq_false_iff,decide_eq_false_iff_not] at ht
  unfold jN at hj ⊢; split <;> (rename_i h2; simp only [h2,if_true,if_false] at hj; omega)
theorem R9 {d:eS} {k j:Nat} (h:kW d=true) (hk:2000+(k:Int)≤d.year) (hj:j<jN d k) :
    (yN d k+mO (2000+(k:Int)) j)+(fL (2000+(k:Int)) (1+(j:Int)))=yN d k+mO (2000+(k:Int)) (j+1) ∧ -9223372036854775808≤yN d k+mO (2000+(k:Int)) (j+1)∧yN d k+mO (2000+(k:Int)) (j+1)≤9223372036854775807:=by
  have h1:=U2 h k
  have h2:=N0 h hk
  have h3:=y8 (y:=2000+(k:Int)) (m:=j+1) (by omega)
  have h4:=BQ (y:=2000+(k:Int)) (m:=j) (by omega)
  rw [show (1:Int)+(j:Int)=(j:Int)+1 by omega]
  omega
theorem kL {d:eS} (h:kW d=true):bO d=mV d∧g6 d=0:=⟨if_pos h,if_pos h⟩
theorem xX {d:eS} (h:kW d=false):bO d=0∧g6 d=120:=by
  have:¬ kW d=true:=by simp [h]
  exact ⟨if_neg this,if_neg this⟩
end Go.Fz
namespace Go.Fz
open Go Go.RowKit
def sK (w:cQ):Nat:=min 7 (bO w.to+1-bO w.frm).toNat
def mP (w:cQ):Bool:=(g6 w.frm==0&&g6 w.to==0)&&(List.range (sK w)).any fun i=>w.week.at (vT (bO w.frm+i))
theorem N1 {w:cQ} (h:((g6 w.frm != 0)||(g6 w.to != 0))=true):mP w=false:=by
  have:(g6 w.frm==0&&g6 w.to==0)=false:=by
    rw [Bool.and_eq_false_iff]
    rw [Bool.or_eq_true] at h
    rcases h with h | h
    · exact .inl (by simpa using h)
    · exact .inr (by simpa using h)
  simp [mP,this]
theorem LE {w:cQ} (h:((g6 w.frm != 0)||(g6 w.to != 0))=false) {k:Nat} (hk:k<sK w) (hx:w.week.at (vT (bO w.frm+k))=true):mP w=true:=by
  rw [Bool.or_eq_false_iff] at h
  have h1:(g6 w.frm==0)=true:=by simpa using h.1
  have h2:(g6 w.to==0)=true:=by simpa using h.2
  simp only [mP,h1,h2,Bool.and_self,Bool.true_and,List.any_eq_true,List.mem_range]
  exact ⟨k,hk,hx⟩
theorem LF {w:cQ} (hx:∀ i,i<sK w→w.week.at (vT (bO w.frm+(i:Int)))=false):mP w=false:=by
  simp only [mP,Bool.and_eq_false_iff]
  refine .inr ?_
  rw [List.any_eq_false]
  intro i hi
  rw [hx i (List.mem_range.1 hi)]
  simp
theorem YQ {w:cQ} {k:Nat} (h:((decide (bO w.frm+(k:Int)≤bO w.to))&&(decide (bO w.frm+(k:Int)<bO w.frm+7)))=true):k<sK w:=by
  simp only [Bool.and_eq_true,decide_eq_true_eq] at h
  unfold sK; omega
theorem YR {w:cQ} {k:Nat} (hk:k≤sK w) (h:((decide (bO w.frm+(k:Int)≤bO w.to))&&(decide (bO w.frm+(k:Int)<bO w.frm+7)))=false):k=sK w:=by
  simp only [Bool.and_eq_false_iff,decide_eq_false_iff_not] at h
  unfold sK at hk ⊢; omega
theorem U3 (w:cQ):sK w≤7:=by unfold sK; omega
def l8 (l:List Int):Int:=l.foldl (fun a x=>IntKind.i64.wrap (a+x)) 0
theorem v6 {l:List Int} {k:Nat} {x:Int} (h:l[k]?=some x):l8 (l.take (k+1))=IntKind.i64.wrap (l8 (l.take k)+x):=by
  unfold l8
  rw [List.take_add_one,h]
  simp
theorem zA {l:List Int} {k:Nat} (h:k=l.length):l8 (l.take k)=l8 l:=by rw [List.take_of_length_le (by omega)]
def fF (p:aX):Int:=if p.kind=6 then 2 else if p.kind≠4 then p.teams.length else l8 p.sizes
def JD (l:List cW) (i:Nat):Prop:=∀ x,l[i]?=some x→∀ j,j<i→∀ y,l[j]?=some y→y.n≠x.n
def qN (l:List cW):Bool:=decide (l.map (·.n)).Nodup
theorem N2 {l:List cW} {i j:Nat} {x y:cW} (hx:l[i]?=some x) (hy:l[j]?=some y) (hj:j<i) (h:y.n=x.n):qN l=false:=by
  simp only [qN,decide_eq_false_iff_not]
  intro hn
  obtain ⟨h1,e1⟩:=List.getElem?_eq_some_iff.1 hx
  obtain ⟨h2,e2⟩:=List.getElem?_eq_some_iff.1 hy
  refine List.pairwise_iff_getElem.1 hn j i (by simpa using h2) (by simpa using h1) hj ?_
  simp [e1,e2,h]
theorem LG {l:List cW} (h:∀ i,i<l.length→JD l i):qN l=true:=by
  simp only [qN,decide_eq_true_eq]
  refine List.pairwise_iff_getElem.2 fun i j hi hj hij e=>?_
  simp only [List.length_map] at hi hj
  simp only [List.getElem_map] at e
  exact h j hj l[j] (List.getElem?_eq_getElem hj) i hij l[i] (List.getElem?_eq_getElem hi) e
def BT:Week:=⟨false,false,false,false,false,false,false⟩
def YS (w:Week):Bool := !oM w BT
def xA:eS:=⟨0,0,0⟩
def wayB (x:nZ):Bool := !((x.a.n==x.b.n)||(!aG x.minutes 1 1440))
def zB (x:iL):Bool:=aG x.sets 0 1000
def uP (x:bZ):Bool := !((((!aG x.bear 0 1000)||(!aG x.wear 0 1000))||(!aG x.grow 0 1000))||(!aG x.uses 1 4))
def F3 (x:cX):Bool:=aG x.rank 1 1000
def rY (l:aE):Bool :=
  if l.ways.all wayB=true then if l.depots.all zB=true then if l.grounds.all uP=true then if l.teams.all F3=true then true else false else false else false else false
theorem dG {n:Nat} {p:Nat→Bool} (h:∀ i,i<n→∀ x,(List.range n)[i]?=some x→p x=true):(List.range n).all p=true :=
  cR (by rw [List.length_range]; exact h)
def zC (s:j3):Bool := !((((!aG s.minute 0 1439)||(!aG s.stewards 0 1000))||(decide (s.length<1)))||(decide (s.length>1440-s.minute)))
def v7 (p:Points) (i:Nat):Bool:=(!aG (p.at i) 0 100)||((decide ((i:Int)>0))&&(decide (p.at i>p.at ((i:Int)-1))))
def v8 (ks:List Int) (i:Nat):Bool:=aG (ks.getD i 0) 1 5&&(ks.take i).all fun y => !(y==ks.getD i 0)
theorem LH {ks:List Int} {i:Nat} {x:Int} (hx:ks[i]?=some x) (h:aG x 1 5=false):v8 ks i=false:=by
  simp [v8,List.getD_eq_getElem?_getD,hx,h]
theorem LI {ks:List Int} {i j:Nat} {x y:Int} (hx:ks[i]?=some x) (hy:ks[j]?=some y) (hj:j<i) (h:y=x):v8 ks i=false:=by
  have e:ks.getD i 0=x:=by simp [List.getD_eq_getElem?_getD,hx]
  simp only [v8,e,Bool.and_eq_false_iff]
  refine .inr (bI (k:=j) (x:=y) ?_ (by simp [h]))
  rw [List.getElem?_take_of_lt hj]; exact hy
theorem LJ {ks:List Int} {i:Nat} {x:Int} (hx:ks[i]?=some x) (h:aG x 1 5=true) (h2:∀ j,j<i→∀ y,ks[j]?=some y→y≠x):v8 ks i=true:=by
  have e:ks.getD i 0=x:=by simp [List.getD_eq_getElem?_getD,hx]
  simp only [v8,e,h,Bool.true_and]
  refine cR fun j hj y hy=>?_
  rw [List.getElem?_take] at hy
  split at hy
  · simpa using h2 j (by assumption) y hy
  · cases hy
def wB (l:aE):Bool :=
  if l.windows.all mP=true then if l.slots.all zC=true then if (List.range 3).all (fun i => !v7 l.points i)=true then if (List.range l.keys.length).all (v8 l.keys)=true then
    (aG l.pool 0 1048576)&&(((l.phases.length:Int)==0)||(decide ((l.slots.length:Int)>0))) else false else false else false else false
def SA:cW:=⟨⟨#[]⟩,0⟩
def ae2:aX:=⟨⟨#[]⟩,0,SA,none,[],0,SA,none,[],0,SA,SA,0,0⟩
def c7 (l:aE) (n:Int):aX:=(l.phases[n.toNat]?).getD ae2
theorem o3 {l:aE} {n:Int} (h:0≤n∧n<l.phases.length):l.phases[n.toNat]?=some (c7 l n):=by
  unfold c7
  rw [List.getElem?_eq_getElem (by omega)]; rfl
def rG (l:aE) (p:aX):Bool :=
  if (((p.kind != 6)&&((p.placeA != 0)||(p.placeB != 0)))||((p.kind != 4)&&(decide ((p.sizes.length:Int)>0))))=true then false else
  if p.kind=4 then
    if (((!eY (c7 l p.of.n).kind)||(decide ((p.sizes.length:Int)<1)))||(decide ((p.sizes.length:Int)>8)))=true then false else
    if p.sizes.all (fun n=>aG n 2 20)=true then fF p==fF (c7 l p.of.n) else false
  else if p.kind=6 then
    if (((!eY (c7 l p.a.n).kind)&&((c7 l p.a.n).kind != 4))||((!eY (c7 l p.b.n).kind)&&((c7 l p.b.n).kind != 4)))=true then false else
    ((p.a.n != p.b.n)&&(aG p.placeA 1 (fF (c7 l p.a.n))))&&(aG p.placeB 1 (fF (c7 l p.b.n)))
  else (aG (p.teams.length:Int) 2 20)&&(qN p.teams)
def xB (c:cJ):Bool :=
  if (((!aG c.n (jH c.kind) (jI c.kind))||(!aG c.price 0 1048576))||(!(YS c.week==(c.kind==10))))=true then false else
  if ((((c.kind==6)||(c.kind==8))||(c.kind==9))&&(c.a.n==c.b.n))=true then false else
  if rD c.kind=false then (gD c.frm xA)&&(gD c.to xA) else
  ((g6 c.frm==0)&&(g6 c.to==0))&&(decide (bO c.frm≤bO c.to))
end Go.Fz
namespace Go.Fz
open Go Go.RowKit
def YT:m6:=⟨0,0,0⟩
def cM:dP:=⟨0,0,0,YT,YT⟩
def eG:bX:=⟨0,0,0,0,0,0,0⟩
theorem bC {α:Type} {l:List α} {k:Nat} {d:α} (h:k<l.length):l[k]?=some (l.getD k d):=by
  rw [List.getD_eq_getElem?_getD,List.getElem?_eq_getElem h]; rfl
def qO (l:aE) (s:m6) (at' phase:Int):Bool :=
  if s.kind=1 then ((decide (s.n≥0))&&(decide (s.n<(l.teams.length:Int))))&&(s.phase==0)
  else if s.kind=2 then (((decide (s.n≥1))&&(decide (s.n≤20)))&&(decide (s.phase≥0)))&&(decide (s.phase<phase))
  else if s.kind=3 then ((decide (s.n≥0))&&(decide (s.n<at')))&&(s.phase==0)
  else false
def xC (l:aE) (k:Nat) (x:dP):Bool :=
  if ((((((x.no != (k:Int))||(decide (x.phase<0)))||(decide (x.phase≥(l.phases.length:Int))))||(decide (x.round<0)))||(decide (x.round>1023)))||(y3 x.home x.away))=true then false else
  if ((!qO l x.home (k:Int) x.phase)||(!qO l x.away (k:Int) x.phase))=true then false else true
def DA (l:aE) (g:List dP):Bool:=if (List.range g.length).all (fun i=>xC l i (g.getD i cM))=true then true else false
def xL (l:aE) (x:dP) (f:bK):Bool :=
  if jM f dJ=true then true else
  ((((rE x&&xK f.day)&&(decide (f.ground≥0)))&&(decide (f.ground<(l.grounds.length:Int))))&&(decide (f.slot≥0)))&&(decide (f.slot<(l.slots.length:Int)))
def rH (l:aE) (w:bX):Bool :=
  if ((((!aG w.no 0 1048576)||(!aG w.bidder 0 3))||(!aG w.most 1 64))||(!aG w.price 0 1048576))=true then false else
  if w.kind=1 then (aG w.a 0 63)&&(aG w.b 0 ((l.phases.length:Int)-1))
  else if w.kind=2 then (aG w.a 0 ((l.teams.length:Int)-1))&&(w.b==0)
  else if w.kind=3 then ((aG w.a 0 ((l.teams.length:Int)-1))&&(aG w.b 0 ((l.teams.length:Int)-1)))&&(w.a != w.b)
  else if w.kind=4 then (aG w.a 0 ((l.slots.length:Int)-1))&&(w.b==0)
  else if w.kind=5 then (aG w.a 0 73048)&&(w.b==0)
  else false
def wD (x:dP) (f:bK) (w:bX):Bool :=
  if jM f dJ=true then false else
  if w.kind=1 then (x.round==w.a)&&(x.phase==w.b)
  else if w.kind=2 then nN x w.a
  else if w.kind=3 then nN x w.a&&nN x w.b
  else if w.kind=4 then f.slot==w.a
  else f.day==w.a
theorem zD {α β:Type} {f:β→α→β} {a:β} {l:List α} {k:Nat} {x:α} (h:l[k]?=some x):(l.take (k+1)).foldl f a=f ((l.take k).foldl f a) x:=by
  rw [List.take_add_one,h]; simp
theorem LK {α β:Type} {f:β→α→β} {a:β} {l:List α} {k:Nat} (h:k=l.length):(l.take k).foldl f a=l.foldl f a:=by rw [List.take_of_length_le (by omega)]
end Go.Fz
namespace Go.Fz
open Go Go.RowKit
def uQ (p:aX):Bool := !((decide ((p.teams.length:Int)>20))||(decide ((p.sizes.length:Int)>8)))
def n9 (l:aE):Bool :=
  if (((((decide ((l.towns.length:Int)>64))||(decide ((l.depots.length:Int)>64)))||(decide ((l.grounds.length:Int)>64)))||(decide ((l.ways.length:Int)>256)))||(decide ((l.teams.length:Int)>64)))=true then false else
  if (((((decide ((l.windows.length:Int)>32))||(decide ((l.slots.length:Int)>16)))||(decide ((l.keys.length:Int)>5)))||(decide ((l.phases.length:Int)>8)))||(decide ((l.conds.length:Int)>128)))=true then false else
  if l.phases.all uQ=true then true else false
def mX (l:List ByteArray):List Int:=l.map fun x=>(x.size:Int)
def kR (l:List ByteArray):Bool:=(decide (l8 (mX l)≤6000))&&(decide ((l.length:Int)≤300))
theorem H3 {l:List ByteArray} {k:Nat} {x:ByteArray} (h:l[k]?=some x):(mX l)[k]?=some (x.size:Int):=by
  unfold mX; rw [List.getElem?_map,h]; rfl
theorem H4 {l:List ByteArray} {k:Nat} (h:k=l.length):l8 ((mX l).take k)=l8 (mX l):=zA (by rw [h]; simp [mX])
def bW (x:cW) (l:List ByteArray):cW:=⟨x.name,aH l x.name⟩
def eK (x:cW) (l:List ByteArray):Bool:=decide (aH l x.name≥0)
def g7 (c:cJ) (n:cE):cJ × Bool :=
  if c.kind=1 then (c,aT c.a&&aT c.b)
  else if c.kind=2 then (c,aT c.a&&aT c.b)
  else if c.kind=3 then (c,aT c.a&&aT c.b)
  else if c.kind=10 then (c,aT c.a&&aT c.b)
  else if c.kind=4 then ({ c with a:=bW c.a n.grounds },eK c.a n.grounds&&aT c.b)
  else if c.kind=5 then ({ c with a:=bW c.a n.teams },eK c.a n.teams&&aT c.b)
  else if c.kind=7 then ({ c with a:=bW c.a n.towns },eK c.a n.towns&&aT c.b)
  else if c.kind=6 then (if eK c.a n.teams=false then ({ c with a:=bW c.a n.teams },false) else ({ c with a:=bW c.a n.teams,b:=bW c.b n.teams },eK c.b n.teams))
  else if c.kind=8 then (if eK c.a n.teams=false then ({ c with a:=bW c.a n.teams },false) else ({ c with a:=bW c.a n.teams,b:=bW c.b n.teams },eK c.b n.teams))
  else if c.kind=9 then (if eK c.a n.teams=false then ({ c with a:=bW c.a n.teams },false) else ({ c with a:=bW c.a n.teams,b:=bW c.b n.teams },eK c.b n.teams))
  else (c,false)
def rI (p:aX) (n:cE) (e:List ByteArray):Bool :=
  if eK p.window n.windows=false then false else
  if (((decide (p.kind<1))||(decide (p.kind>6)))||(((p.kind==4)||(p.kind==6))&&(decide ((p.teams.length:Int)>0))))=true then false else
  if p.teams.all (fun x=>eK x n.teams)=true then
    if p.kind=4 then ((eK p.of e&&aT p.a)&&aT p.b)
    else if aT p.of=false then false
    else if p.kind=6 then (if eK p.a e=false then false else eK p.b e) else aT p.a&&aT p.b
  else false
def qP (p:aX) (n:cE) (e:List ByteArray):aX :=
  { p with window:=bW p.window n.windows,teams:=p.teams.map (bW · n.teams),of:=if p.kind=4 then bW p.of e else p.of,
           a:=if p.kind=6 then bW p.a e else p.a,b:=if p.kind=6 then bW p.b e else p.b }
def jA (a b:aX):Bool :=
  if ((((((((!decide (a.name=b.name))||(a.kind != b.kind))||(!fE a.window b.window))||(!fE a.of b.of))||(!fE a.a b.a))||(!fE a.b b.b))||(a.placeA != b.placeA))||(a.placeB != b.placeB))=true then false else
  if (((a.teams.length:Int) != (b.teams.length:Int))||((a.sizes.length:Int) != (b.sizes.length:Int)))=true then false else
  if (List.range a.teams.length).all (fun i=>fE (a.teams.getD i hZ) (b.teams.getD i hZ))=true then
    if (List.range a.sizes.length).all (fun i => !((a.sizes.getD i 0) != (b.sizes.getD i 0)))=true then true else false else false
def o4 (a b:aE):Bool :=
  if ((((((!decide (a.name=b.name))||((a.towns.length:Int) != (b.towns.length:Int)))||((a.ways.length:Int) != (b.ways.length:Int)))||((a.depots.length:Int) != (b.depots.length:Int)))||((a.grounds.length:Int) != (b.grounds.length:Int)))||((a.teams.length:Int) != (b.teams.length:Int)))=true then false else
  if ((((((((a.windows.length:Int) != (b.windows.length:Int))||((a.slots.length:Int) != (b.slots.length:Int)))||(a.pool != b.pool))||(!rF a.points b.points))||((a.keys.length:Int) != (b.keys.length:Int)))||((a.phases.length:Int) != (b.phases.length:Int)))||((a.conds.length:Int) != (b.conds.length:Int)))=true then false else
  (if (List.range a.towns.length).all (fun i=>tJ (a.towns.getD i lZ) (b.towns.getD i lZ))=true then (if (List.range a.ways.length).all (fun i=>uN (a.ways.getD i o0) (b.ways.getD i o0))=true then (if (List.range a.depots.length).all (fun i=>m8 (a.depots.getD i j6) (b.depots.getD i j6))=true then (if (List.range a.grounds.length).all (fun i=>lI (a.grounds.getD i iQ) (b.grounds.getD i iQ))=true then (if (List.range a.teams.length).all (fun i=>pU (a.teams.getD i l0) (b.teams.getD i l0))=true then (if (List.range a.windows.length).all (fun i=>nO (a.windows.getD i iR) (b.windows.getD i iR))=true then (if (List.range a.slots.length).all (fun i=>tK (a.slots.getD i l5) (b.slots.getD i l5))=true then (if (List.range a.keys.length).all (fun i => !((a.keys.getD i 0) != (b.keys.getD i 0)))=true then (if (List.range a.phases.length).all (fun i=>jA (a.phases.getD i aF) (b.phases.getD i aF))=true then (if (List.range a.conds.length).all (fun i=>mU (a.conds.getD i dZ) (b.conds.getD i dZ))=true then true else false) else false) else false) else false) else false) else false) else false) else false) else false) else false)
theorem bS {α β:Type} {f:α→β} {l:List α} {k:Nat} {x:α} (h:l[k]?=some x):(l.take (k+1)).map f=(l.take k).map f++[f x]:=by
  rw [List.take_add_one,h]; simp
theorem cK {α β:Type} {f:α→β} {l:List α} {k:Nat} (h:k=l.length):(l.take k).map f=l.map f:=by rw [List.take_of_length_le (by omega)]
structure M9 where
  ph:aX
  ok:Bool
  oa:Option Addr
  c:Nat
  ts:List cW
def phV (x:M9):Value:=.tuple #[.agg (aK x.ph).toArray,Bo x.ok]
def phI (x:M9):List Item:=[oR 148 2 bN x.oa x.c x.ts]
def phR (p:aX) (n:cE) (e:List ByteArray) (x:M9):Prop:=x.ok=rI p n e∧(x.ok=true→x.ph={ qP p n e with teamsA:=x.oa,teamsC:=x.c }∧x.ts=p.teams.map (bW · n.teams))
end Go.Fz
namespace Go.Fz
open Go Go.RowKit
def oN (n:cE) (x:nZ):nZ:={ x with a:=bW x.a n.towns,b:=bW x.b n.towns }
def rJ (n:cE) (x:nZ):Bool:=if eK x.a n.towns=false then false else if eK x.b n.towns=false then false else true
def iS (n:cE) (x:iL):iL:={ x with town:=bW x.town n.towns }
def m9 (n:cE) (x:iL):Bool:=eK x.town n.towns
def gE (n:cE) (x:bZ):bZ:={ x with town:=bW x.town n.towns }
def lJ (n:cE) (x:bZ):Bool:=eK x.town n.towns
def lS (n:cE) (x:cX):cX:={ x with ground:=bW x.ground n.grounds }
def pW (n:cE) (x:cX):Bool:=eK x.ground n.grounds
def lK (n:cE) (x:cJ):cJ:=(g7 x n).1
def nR (n:cE) (x:cJ):Bool:=(g7 x n).2
def oO (l:aE) (n:cE) (i:Nat):Bool:=rI (l.phases.getD i aF) n (n.phases.take i)
def o5 (l:aE) (n:cE):Bool :=
  (((((((!eO l.name)||(!cZ n.towns))||(!cZ n.grounds))||(!cZ n.teams))||(!cZ n.windows))||(!cZ n.slots))||(!cZ n.phases))||(!cZ n.conds)
def mQ (n:cE):Bool :=
  (((((c6 n.towns||c6 n.grounds)||c6 n.teams)||c6 n.windows)||c6 n.slots)||c6 n.phases)||c6 n.conds
def n2 (l:aE) (n:cE):Int :=
  if n9 l=false then 2 else
  if o5 l n=true then 170 else
  if mQ n=true then 171 else
  if l.ways.all (rJ n)=true then if l.depots.all (m9 n)=true then if l.grounds.all (lJ n)=true then if l.teams.all (pW n)=true then
    if (List.range l.phases.length).all (oO l n)=true then if l.conds.all (nR n)=true then 0 else 170 else 170 else 170 else 170 else 170 else 170
section mid
variable {α:Type} {f:α→α} {l:List α} {k:Nat} {x:α}
theorem uR (f:α→α) (h:l[k]?=some x):((l.take k).map f++l.drop k)[k]?=some x:=by
  obtain ⟨hk,e⟩:=List.getElem?_eq_some_iff.1 h
  have hl:((l.take k).map f).length=k:=by simp; omega
  rw [List.getElem?_append_right (by omega),hl,Nat.sub_self,List.getElem?_drop,Nat.add_zero,h]
theorem JE {l:List α} {y:α} (h:l[k]?=some x):(l.set k y)[k]?=some y:=by
  obtain ⟨hk,e⟩:=List.getElem?_eq_some_iff.1 h
  rw [List.getElem?_set_self hk]
theorem rK (h:l[k]?=some x):((l.take k).map f++l.drop k).set k (f x)=(l.take (k+1)).map f++l.drop (k+1):=by
  obtain ⟨hk,e⟩:=List.getElem?_eq_some_iff.1 h
  have hl:((l.take k).map f).length=k:=by simp; omega
  rw [bS h,List.set_append_right _ _ (by omega),hl,Nat.sub_self,List.drop_eq_getElem_cons hk,List.set_cons_zero,List.append_assoc]
  rfl
theorem LL {y:α} (h:l[k]?=some x):(((l.take k).map f++l.drop k).set k y).set k (f x)=(l.take (k+1)).map f++l.drop (k+1):=by
  rw [List.set_set,rK h]
theorem uS (h:k=l.length):(l.take k).map f++l.drop k=l.map f:=by
  rw [List.take_of_length_le (by omega),List.drop_of_length_le (by omega),List.append_nil]
theorem SB {rs:List α} (hr:rs.length=k) (h:l[k]?=some x):(rs++l.drop k)[k]?=some x:=by
  rw [List.getElem?_append_right (by omega),hr,Nat.sub_self,List.getElem?_drop,Nat.add_zero,h]
theorem N3 {rs:List α} {y:α} (hr:rs.length=k) (h:l[k]?=some x):(rs++l.drop k).set k y=(rs++[y])++l.drop (k+1):=by
  obtain ⟨hk,e⟩:=List.getElem?_eq_some_iff.1 h
  rw [List.set_append_right _ _ (by omega),hr,Nat.sub_self,List.drop_eq_getElem_cons hk,List.set_cons_zero,List.append_assoc]
  rfl
theorem SC {rs:List α} (h:k=l.length):rs++l.drop k=rs:=by
  rw [List.drop_of_length_le (by omega),List.append_nil]
end mid
theorem Sta.perm {n:Nat} {ds:List Deferred} {w0 w:World} {E:List d9} {H H':List Item} {a:Act} (s:Sta n ds w0 E H a w) (h:H'.Perm H):Sta n ds w0 E H' a w:=⟨s.f,s.d,s.m.perm h⟩
abbrev GT:=Option Addr × Nat × List cW
def tG (g:GT):Item:=oR 148 2 bN g.1 g.2.1 g.2.2
def N4 (l:aE) (n:cE) (rs:List aX) (gs:List GT) (k:Nat):Prop :=
  rs.length=k∧∀ i x,rs[i]?=some x→∃ oa c,x={ qP (l.phases.getD i aF) n (n.phases.take i) with teamsA:=oa,teamsC:=c }∧(oa,c,x.teams)∈gs
theorem LM (l:aE) (n:cE):N4 l n [] [] 0:=⟨rfl,fun i x h=>by simp at h⟩
theorem LN {l:aE} {n:cE} {rs:List aX} {gs:List GT} {k:Nat} {x:M9} (h:N4 l n rs gs k) (hx:phR (l.phases.getD k aF) n (n.phases.take k) x) (ho:x.ok=true):N4 l n (rs++[x.ph]) ((x.oa,x.c,x.ts)::gs) (k+1):=by
  obtain ⟨h1,h2⟩:=h
  obtain ⟨_,h3⟩:=hx
  obtain ⟨h4,h5⟩:=h3 ho
  refine ⟨by simp [h1],fun i y hy=>?_⟩
  rcases Nat.lt_or_ge i rs.length with hi | hi
  · rw [List.getElem?_append_left hi] at hy
    obtain ⟨oa,c,h6,h7⟩:=h2 i y hy
    exact ⟨oa,c,h6,List.mem_cons_of_mem _ h7⟩
  · rw [List.getElem?_append_right hi] at hy
    have hik:i=k:=by
      rcases Nat.lt_or_ge (i-rs.length) 1 with h6 | h6
      · omega
      · rw [List.getElem?_eq_none (by simpa using h6)] at hy; cases hy
    subst hik
    rw [h1,Nat.sub_self] at hy
    simp only [List.getElem?_cons_zero,Option.some.injEq] at hy
    subst hy
    refine ⟨x.oa,x.c,h4,?_⟩
    have:x.ph.teams=x.ts:=by rw [h4,h5]; rfl
    rw [this]
    exact List.mem_cons_self
structure DB where
  out:aE
  err:Int
  g:aE
  gs:List GT
def SD (x:DB):Value:=.tuple #[.agg (aB x.out).toArray,I x.err]
def xM (x:DB):List Item :=
  oR 178 21 aV x.g.condsA x.g.condsC x.g.conds::oR 157 14 aK x.g.phasesA x.g.phasesC x.g.phases::oR 160 4 bU x.g.teamsA x.g.teamsC x.g.teams ::
  oR 152 7 bG x.g.groundsA x.g.groundsC x.g.grounds::oR 207 3 bY x.g.depotsA x.g.depotsC x.g.depots::oR 205 5 cY x.g.waysA x.g.waysC x.g.ways::x.gs.map tG
def JF (l:aE) (n:cE) (x:DB):Prop :=
  x.out=x.g∧x.g.ways=l.ways.map (oN n)∧x.g.depots=l.depots.map (iS n)∧x.g.grounds=l.grounds.map (gE n)∧x.g.teams=l.teams.map (lS n)∧x.g.conds=l.conds.map (lK n) ∧
  N4 l n x.g.phases x.gs l.phases.length ∧
  x.g={ l with waysA:=x.g.waysA,ways:=x.g.ways,waysC:=x.g.waysC,depotsA:=x.g.depotsA,depots:=x.g.depots,depotsC:=x.g.depotsC,groundsA:=x.g.groundsA,grounds:=x.g.grounds,groundsC:=x.g.groundsC,teamsA:=x.g.teamsA,teams:=x.g.teams,teamsC:=x.g.teamsC,
                 phasesA:=x.g.phasesA,phases:=x.g.phases,phasesC:=x.g.phasesC,condsA:=x.g.condsA,conds:=x.g.conds,condsC:=x.g.condsC }
def cB (l:aE):cE:=⟨none,l.towns.map (·.name),0,none,l.grounds.map (·.name),0,none,l.teams.map (·.name),0,none,l.windows.map (·.name),0,none,l.slots.map (·.name),0,none,l.phases.map (·.name),0,none,l.conds.map (·.name),0⟩
theorem BU (l:aE):gZ l (cB l):=⟨rfl,rfl,rfl,rfl,rfl,rfl,rfl⟩
def WN (l:aE) (x:DB):Prop:=∃ n,gZ l n∧x.err=n2 l n∧(x.err=0→JF l n x)
theorem DC {l:aE} (h:n9 l=true) {p:aX} (hp:p∈l.phases):p.teams.length≤20∧p.sizes.length≤8:=by
  unfold n9 at h
  split at h
  · cases h
  split at h
  · cases h
  split at h
  · rename_i h3
    have:=List.all_eq_true.1 h3 p hp
    simp only [uQ,Bool.not_eq_true',Bool.or_eq_false_iff,decide_eq_false_iff_not] at this
    omega
  · cases h
theorem DD {l:aE} (h:n9 l=true):(l.towns.length≤64∧l.depots.length≤64∧l.grounds.length≤64∧l.ways.length≤256∧l.teams.length≤64)∧(l.windows.length≤32∧l.slots.length≤16∧l.keys.length≤5∧l.phases.length≤8∧l.conds.length≤128):=by
  unfold n9 at h
  split at h
  · cases h
  rename_i h1
  split at h
  · cases h
  rename_i h2
  simp only [Bool.or_eq_true,decide_eq_true_eq] at h1 h2
  omega
end Go.Fz
namespace Go.Fz
open Go Go.RowKit
theorem rX {n:Nat} {ds:List Deferred} {E:List d9} {H:List Item} {a:Act} {w0 w:World} {l:aE} {N:cE} {c:Int} (s:Sta n ds w0 E H a w) (hn:gZ l N) (hR:n2 l N=c) (h0:c≠0) :
    vO SD xM (WN l) w0 (.returned (n0 [.agg zz.toArray,I c])) w:=by
  have s1:=s.nilR 205 5 cY
  have s2:=s1.nilR 207 3 bY
  have s3:=s2.nilR 152 7 bG
  have s4:=s3.nilR 160 4 bU
  have s5:=s4.nilR 157 14 aK
  have s6:=s5.nilR 178 21 aV
  exact fX s6 (⟨(⟨(⟨#[]⟩:ByteArray),none,[],0,none,[],0,none,[],0,none,[],0,none,[],0,none,[],0,none,[],0,0,⟨0,0,0⟩,none,[],0,none,[],0,none,[],0⟩:Fz.aE),c,cH,[]⟩:DB) rfl ⟨N,hn,hR.symm,fun h=>absurd h h0⟩ (.ck _ (.ck _ (.ck _ (.ck _ (.ck _ (.ck _ (List.nil_sublist _)))))))
end Go.Fz
namespace Go.Fz
open Go Go.RowKit
def inI (n:Int):Prop := -9223372036854775808≤n∧n≤9223372036854775807
structure Sl (α:Type) where
  a:Option Addr
  l:List α
  c:Nat
structure Rd (P:Program) (t:TypeId) {α:Type} (enc:α→List Value) (At:World→α→Prop):Prop where
  rd:∀ {H:Type} {en:TypeId × Value→H} {w:World} {b:Nat} {fuel:Nat} {cs:List Value} {d:DataW H} {p:List MemPlace},
    DataW.trod en P w b (fun _=>true) true fuel t cs=some (d,p)→(∀ n∈d.weights P t,n≤reachBytes)→∃ x:α,cs=enc x∧At w x
section rd
variable {P:Program} {t e:TypeId} {α:Type} {enc:α→List Value} {At:World→α→Prop}
theorem WO (h:P.underlying t=some (.int .i64)):Rd P t iO (fun _=>inI):=⟨fun hd _=>by
  obtain ⟨n,rfl,_,hw⟩:=DataW.trod_int h hd
  refine ⟨n,rfl,?_⟩
  simp [Lit.wf,IntKind.min,IntKind.max,IntKind.signed,IntKind.bits] at hw
  exact hw⟩
theorem WP (h:P.underlying t=some .string):Rd P t aJ (fun _ _=>True):=⟨fun hd _=>by
  obtain ⟨s,rfl,_,_⟩:=DataW.trod_string h hd
  exact ⟨s,rfl,trivial⟩⟩
theorem SE (h:P.underlying t=some .bool):Rd P t YJ (fun _ _=>True):=⟨fun hd _=>by
  obtain ⟨b,rfl,_⟩:=DataW.trod_bool h hd
  exact ⟨b,rfl,trivial⟩⟩
theorem Rd.weaken {At':World→α→Prop} (h:Rd P t enc At) (hA:∀ w x,At w x→At' w x):Rd P t enc At':=⟨fun hd hw=>by
  obtain ⟨x,h1,h2⟩:=h.rd hd hw
  exact ⟨x,h1,hA _ _ h2⟩⟩
theorem BV {β:Type} {φ:Nat→β→Prop}:∀ {n:Nat},(∀ i,i<n→∃ x,φ i x)→∃ l:List β,l.length=n∧∀ (i:Nat) (x:β),l[i]?=some x→φ i x
  | 0,_=>⟨[],rfl,fun i x h=>by simp at h⟩
  | n+1,h=>by
    obtain ⟨l,hl,h1⟩:=BV (n:=n) (fun i hi=>h i (by omega))
    obtain ⟨x,hx⟩:=h n (by omega)
    refine ⟨l++[x],by simp [hl],fun i y hy=>?_⟩
    rcases Nat.lt_or_ge i l.length with hi | hi
    · rw [List.getElem?_append_left hi] at hy; exact h1 i y hy
    · rw [List.getElem?_append_right hi] at hy
      obtain ⟨h2,h3⟩:=List.getElem?_eq_some_iff.1 hy
      simp only [List.length_singleton] at h2
      have:i=l.length:=by omega
      subst this
      simp only [Nat.sub_self,List.getElem_cons_zero] at h3
      subst h3; rw [hl]; exact hx
theorem BW {w:World} {b n:Nat} {a:Addr} {cs:List Value} (h:w.cells? b a n=some cs):cs.length=n∧∀ i,i<n→w.cell? (a.add i)=cs[i]?:=by
  unfold World.cells? at h
  split at h
  · refine ⟨by simpa using mapM_some_length h,fun i hi=>mapM_some_get h i i (by simp [hi])⟩
  · cases h
theorem SF {w:World} {a:Addr} {v:Value} (h:w.cell? a=some v):a.spot=none:=by
  unfold World.cell? at h
  split at h
  · split at h
    · cases h
    · rename_i h1; simpa using h1
  · cases h
theorem rL {H:Type}:∀ {l:List (DataW H)} {i:Nat} {d:DataW H},l[i]?=some d→∀ n∈d.weights P e,n∈DataW.weightsAll P e l
  | x::l,0,d,h,n,hn=>by
    simp only [List.getElem?_cons_zero,Option.some.injEq] at h
    subst h
    simp only [DataW.weightsAll,List.mem_append]
    exact .inl hn
  | x::l,i+1,d,h,n,hn=>by
    simp only [List.getElem?_cons_succ] at h
    simp only [DataW.weightsAll,List.mem_append]
    exact .inr (rL h n hn)
  | [],_,_,h,_,_=>by simp at h
structure tM (P:Program) (sz bytes:Nat) (enc:α→List Value) (At:World→α→Prop) (w:World) (x:Sl α):Prop where
  row:Row w x.a sz enc x.l
  all:∀ y∈x.l,At w y
  cap:x.l.length≤x.c
  reach:x.c*bytes≤reachBytes
theorem g8 {sz bytes:Nat} (ht:P.underlying t=some (.slice e)) (hc:P.cellsOf e=sz) (hb:P.bytesOf e=bytes) (R:Rd P e enc At) (hen:EncOk enc sz) (hby:0<bytes):Rd P t (fun x:Sl α=>[.slice x.a x.l.length x.c]) (tM P sz bytes enc At):=⟨fun {H en w b fuel cs d p} hd hw=>by
  rcases DataW.trod_slice ht hd with ⟨rfl,_⟩ | ⟨a,len,cap,elems,rest,n,_,rfl,hx,_,hl,hcap,hlen,hel,hsp,_⟩
  · exact ⟨⟨none,[],0⟩,rfl,Row.nil _ _ _ _,(fun y hy=>by cases hy),Nat.le_refl _,by simp⟩
  · simp only [Prod.mk.injEq] at hx
    obtain ⟨rfl,_⟩:=hx
    simp only [DataW.weights,ht,List.length_map] at hw
    rw [hc] at hel
    have hone:∀ i,i<len→∃ x:α,(∀ j v,(enc x)[j]?=some v→w.cell? (kK (some a) (i*sz+j))=some v)∧At w x∧a.spot=none:=fun i hi=>by
      have h1:=hel i hi
      cases hy:elems[i]? with
      | none=>rw [List.getElem?_eq_none_iff] at hy; omega
      | some y =>
        rw [hy] at h1
        simp only [Option.bind_eq_some_iff] at h1
        obtain ⟨cs',h2,h3⟩:=h1
        obtain ⟨x,rfl,hA⟩:=R.rd h3 (fun n hn=>hw n (List.mem_cons_of_mem _ (List.mem_append_left _ (rL (d:=y.1) (i:=i) (by simp [hy]) n hn))))
        obtain ⟨h4,h5⟩:=BW h2
        have hsz:=hen.pos
        have hsp2:a.spot=none:=by
          cases hz:elems[0]? with
          | none=>rw [List.getElem?_eq_none_iff] at hz; omega
          | some z =>
            have h6:=hel 0 (by omega)
            rw [hz] at h6
            simp only [Option.bind_eq_some_iff,Nat.zero_mul] at h6
            obtain ⟨c0,h7,_⟩:=h6
            obtain ⟨h8,h9⟩:=BW h7
            have h10:=h9 0 hsz
            have:c0[0]?=some c0[0]:=List.getElem?_eq_getElem (by omega)
            rw [this] at h10
            have h11:(a.add 0).add 0=a:=by simp [Addr.add]
            rw [h11] at h10
            exact SF h10
        refine ⟨x,fun j v hv=>?_,hA,hsp2⟩
        have hj:j<sz:=by rw [← hen.len x]; exact (List.getElem?_eq_some_iff.1 hv).1
        have h6:=h5 j hj
        rw [hv] at h6
        obtain ⟨B,O,spt⟩:=a
        simp only at hsp2
        subst hsp2
        rw [gW,gW] at h6
        simpa [kK,Nat.add_assoc] using h6
    obtain ⟨l,hll,hl2⟩:=BV hone
    refine ⟨⟨some a,l,cap⟩,by simp [hll],⟨fun hne=>?_,fun i x j v hx hv=>(hl2 i x hx).1 j v hv,?_⟩,fun y hy=>?_,by simp only; omega,?_⟩
    · cases l with
      | nil=>exact (hne rfl).elim
      | cons x l=>exact ⟨a,rfl,(hl2 0 x rfl).2.2⟩
    · have h1:=hw _ List.mem_cons_self
      rw [hb] at h1
      have:elems.length*1≤(elems.length+rest.length)*bytes:=Nat.mul_le_mul (Nat.le_add_right _ _) hby
      have:reachBytes≤140737488355328:=by decide
      simp only; omega
    · obtain ⟨i,hi⟩:=List.getElem?_of_mem hy
      exact (hl2 i y hi).2.1
    · have h1:=hw _ List.mem_cons_self
      rw [hb] at h1
      simp only
      have h2:=(hsp rfl).1
      have:elems.length+rest.length=cap:=by omega
      rw [this] at h1; exact h1⟩
theorem Rd.fld {H:Type} {en:TypeId × Value→H} {w:World} {b:Nat} {fuel:Nat} {cs:List Value} {d:DataW H} {p:List MemPlace} {fs:Array Field} (ht:P.underlying t=some (.struct fs))
    (hd:DataW.trod en P w b (fun _=>true) true fuel t cs=some (d,p)) (hw:∀ n∈d.weights P t,n≤reachBytes) (i:Nat) {f:Field} {off ty sz:Nat} (hi:fs[i]?=some f) (ho:f.offset=off) (hy:f.type=ty) (hs:P.cellsOf ty=sz) (R:Rd P ty enc At) :
    ∃ x:α,(cs.drop off).take sz=enc x∧At w x:=by
  obtain ⟨xs,n,_,hx,hl,hlen,hf⟩:=DataW.trod_struct ht hd
  simp only [Prod.mk.injEq] at hx
  obtain ⟨rfl,_⟩:=hx
  have h1:=hf i f hi
  subst ho; subst hy; subst hs
  have hi2:=(Array.getElem?_eq_some_iff.1 hi).1
  cases hy:xs[i]? with
  | none=>rw [List.getElem?_eq_none_iff] at hy; omega
  | some y =>
    rw [hy] at h1
    refine R.rd (d:=y.1) (p:=y.2) h1 fun n hn=>hw n ?_
    simp only [DataW.weights,ht]
    exact DataW.weights_mem_each (j:=i) (t:=f.type) (by simp [hi]) (by simp [hy]) n hn
theorem kC {H:Type} {en:TypeId × Value→H} {w:World} {b:Nat} {fuel:Nat} {cs:List Value} {d:DataW H} {p:List MemPlace} {fs:Array Field} {sz:Nat} (ht:P.underlying t=some (.struct fs))
    (hd:DataW.trod en P w b (fun _=>true) true fuel t cs=some (d,p)) (hs:P.cellsOf t=sz):cs.length=sz:=by
  obtain ⟨xs,n,_,hx,hl,hlen,hf⟩:=DataW.trod_struct ht hd
  rw [hl,hs]
theorem JG {H:Type} {en:TypeId × Value→H} {w:World} {b:Nat} {fuel:Nat} {cs:List Value} {d:DataW H} {p:List MemPlace} {n e sz:Nat} (ht:P.underlying t=some (.array n e))
    (hd:DataW.trod en P w b (fun _=>true) true fuel t cs=some (d,p)) (hs:P.cellsOf t=sz):cs.length=sz:=by
  subst hs
  cases fuel with
  | zero=>simp [DataW.trod] at hd
  | succ m =>
    unfold DataW.trod at hd
    rw [ht] at hd
    simp only at hd
    split at hd
    · rename_i h; exact h
    · cases hd
theorem Rd.elm {H:Type} {en:TypeId × Value→H} {w:World} {b:Nat} {fuel:Nat} {cs:List Value} {d:DataW H} {p:List MemPlace} {n e:Nat} (ht:P.underlying t=some (.array n e))
    (hd:DataW.trod en P w b (fun _=>true) true fuel t cs=some (d,p)) (hw:∀ n∈d.weights P t,n≤reachBytes) (i:Nat) (hi:i<n) {sz:Nat} (hs:P.cellsOf e=sz) (R:Rd P e enc At) :
    ∃ x:α,(cs.drop (i*sz)).take sz=enc x∧At w x:=by
  subst hs
  cases fuel with
  | zero=>simp [DataW.trod] at hd
  | succ m =>
    unfold DataW.trod at hd
    rw [ht] at hd
    simp only at hd
    split at hd
    · simp only [Option.map_eq_some_iff,Prod.mk.injEq] at hd
      obtain ⟨xs,hp,hd,_⟩:=hd
      subst hd
      have h1:=mapM_some_get hp i i (by simp [hi])
      have hlen:xs.length=n:=by simpa using mapM_some_length hp
      cases hy:xs[i]? with
      | none=>rw [List.getElem?_eq_none_iff] at hy; omega
      | some y =>
        rw [hy] at h1
        refine R.rd (d:=y.1) (p:=y.2) h1 fun q hq=>hw q ?_
        simp only [DataW.weights,ht]
        exact rL (i:=i) (by simp [hy]) q hq
    · cases hd
theorem bH (cs:List Value) (a b c:Nat) (h:a+b=c):cs.drop a=(cs.drop a).take b++cs.drop c:=by
  subst h
  rw [← List.drop_drop,List.take_append_drop]
end rd
end Go.Fz
namespace Go.Proofs.YtfffbdmdllgalaaGreatDoor
open Go Go.RowKit Go.Fz
set_option maxRecDepth 10000
theorem MO:Tryz.prog.follows .mixedOrders=true:=by kernel_rfl
theorem bM:Scalar Tryz.prog 3:=Scalar.of Tryz.underlying3 rfl
theorem X0:Scalar Tryz.prog 4:=Scalar.of Tryz.underlying4 rfl
theorem qQ:Scalar Tryz.prog 9:=Scalar.of Tryz.underlying9 rfl
theorem A0:Scalar Tryz.prog 22:=Scalar.of Tryz.underlying22 rfl
theorem nS:Scalar Tryz.prog 23:=Scalar.of Tryz.underlying23 rfl
theorem qY:Scalar Tryz.prog 24:=Scalar.of Tryz.underlying24 rfl
theorem n3:Scalar Tryz.prog 25:=Scalar.of Tryz.underlying25 rfl
theorem kS:Scalar Tryz.prog 26:=Scalar.of Tryz.underlying26 rfl
theorem wE:Scalar Tryz.prog 27:=Scalar.of Tryz.underlying27 rfl
theorem pX:Scalar Tryz.prog 28:=Scalar.of Tryz.underlying28 rfl
theorem jB:Scalar Tryz.prog 30:=Scalar.of Tryz.underlying30 rfl
theorem iE:Scalar Tryz.prog 31:=Scalar.of Tryz.underlying31 rfl
theorem o6:Scalar Tryz.prog 32:=Scalar.of Tryz.underlying32 rfl
theorem SG:Scalar Tryz.prog 35:=Scalar.of Tryz.underlying35 rfl
theorem WQ:Scalar Tryz.prog 36:=Scalar.of Tryz.underlying36 rfl
theorem kD:Scalar Tryz.prog 40:=Scalar.of Tryz.underlying40 rfl
theorem ae5:Scalar Tryz.prog 92:=Scalar.of Tryz.underlying92 rfl
theorem ae6:Scalar Tryz.prog 93:=Scalar.of Tryz.underlying93 rfl
theorem jT:Scalar Tryz.prog 155:=Scalar.of Tryz.underlying155 rfl
theorem c8:Scalar Tryz.prog 158:=Scalar.of Tryz.underlying158 rfl
theorem YU:Scalar Tryz.prog 172:=Scalar.of Tryz.underlying172 rfl
theorem o7:Scalar Tryz.prog 197:=Scalar.of Tryz.underlying197 rfl
theorem o8:Scalar Tryz.prog 198:=Scalar.of Tryz.underlying198 rfl
theorem qR:Scalar Tryz.prog 236:=Scalar.of Tryz.underlying236 rfl
theorem F4:Scalar Tryz.prog 237:=Scalar.of Tryz.underlying237 rfl
theorem U4:Scalar Tryz.prog 248:=Scalar.of Tryz.underlying248 rfl
theorem iA:Scalar Tryz.prog 249:=Scalar.of Tryz.underlying249 rfl
theorem hP:SizeT Tryz.prog 3 1:=SizeT.of' (by kernel_rfl)
theorem U5:SizeT Tryz.prog 4 1:=SizeT.of' (by kernel_rfl)
theorem A1:SizeT Tryz.prog 9 1:=SizeT.of' (by kernel_rfl)
theorem ae7:SizeT Tryz.prog 22 1:=SizeT.of' (by kernel_rfl)
theorem WR:SizeT Tryz.prog 23 1:=SizeT.of' (by kernel_rfl)
theorem WS:SizeT Tryz.prog 24 1:=SizeT.of' (by kernel_rfl)
theorem WT:SizeT Tryz.prog 25 1:=SizeT.of' (by kernel_rfl)
theorem LO:SizeT Tryz.prog 26 1:=SizeT.of' (by kernel_rfl)
theorem YV:SizeT Tryz.prog 27 1:=SizeT.of' (by kernel_rfl)
theorem ae8:SizeT Tryz.prog 28 1:=SizeT.of' (by kernel_rfl)
theorem WU:SizeT Tryz.prog 29 3:=SizeT.of' (by kernel_rfl)
theorem SH:SizeT Tryz.prog 30 1:=SizeT.of' (by kernel_rfl)
theorem SI:SizeT Tryz.prog 31 1:=SizeT.of' (by kernel_rfl)
theorem WV:SizeT Tryz.prog 32 1:=SizeT.of' (by kernel_rfl)
theorem nA:SizeT Tryz.prog 34 15:=SizeT.of' (by kernel_rfl)
theorem ae9:SizeT Tryz.prog 36 1:=SizeT.of' (by kernel_rfl)
theorem A2:SizeT Tryz.prog 40 1:=SizeT.of' (by kernel_rfl)
theorem sH:SizeT Tryz.prog 43 7:=SizeT.of' (by kernel_rfl)
theorem A3:SizeT Tryz.prog 57 3:=SizeT.of' (by kernel_rfl)
theorem N5:SizeT Tryz.prog 60 3:=SizeT.of' (by kernel_rfl)
theorem DE:SizeT Tryz.prog 62 9:=SizeT.of' (by kernel_rfl)
theorem aeA:SizeT Tryz.prog 92 1:=SizeT.of' (by kernel_rfl)
theorem aeB:SizeT Tryz.prog 93 1:=SizeT.of' (by kernel_rfl)
theorem YW:SizeT Tryz.prog 96 12:=SizeT.of' (by kernel_rfl)
theorem U6:SizeT Tryz.prog 103 8:=SizeT.of' (by kernel_rfl)
theorem eD:SizeT Tryz.prog 148 2:=SizeT.of' (by kernel_rfl)
theorem zE:SizeT Tryz.prog 150 1:=SizeT.of' (by kernel_rfl)
theorem oB:SizeT Tryz.prog 152 7:=SizeT.of' (by kernel_rfl)
theorem rM:SizeT Tryz.prog 154 4:=SizeT.of' (by kernel_rfl)
theorem BX:SizeT Tryz.prog 155 1:=SizeT.of' (by kernel_rfl)
theorem eL:SizeT Tryz.prog 157 14:=SizeT.of' (by kernel_rfl)
theorem iB:SizeT Tryz.prog 158 1:=SizeT.of' (by kernel_rfl)
theorem o9:SizeT Tryz.prog 160 4:=SizeT.of' (by kernel_rfl)
theorem zF:SizeT Tryz.prog 162 3:=SizeT.of' (by kernel_rfl)
theorem JH:SizeT Tryz.prog 163 7:=SizeT.of' (by kernel_rfl)
theorem sS:SizeT Tryz.prog 165 14:=SizeT.of' (by kernel_rfl)
theorem YX:SizeT Tryz.prog 169 0:=SizeT.of' (by kernel_rfl)
theorem pA:SizeT Tryz.prog 172 1:=SizeT.of' (by kernel_rfl)
theorem YY:SizeT Tryz.prog 173 7:=SizeT.of' (by kernel_rfl)
theorem iC:SizeT Tryz.prog 178 21:=SizeT.of' (by kernel_rfl)
theorem YZ:SizeT Tryz.prog 198 1:=SizeT.of' (by kernel_rfl)
theorem N6:SizeT Tryz.prog 200 3:=SizeT.of' (by kernel_rfl)
theorem nT:SizeT Tryz.prog 205 5:=SizeT.of' (by kernel_rfl)
theorem sT:SizeT Tryz.prog 207 3:=SizeT.of' (by kernel_rfl)
theorem N7:SizeT Tryz.prog 212 2:=SizeT.of' (by kernel_rfl)
theorem U7:SizeT Tryz.prog 213 22:=SizeT.of' (by kernel_rfl)
theorem F5:SizeT Tryz.prog 227 7:=SizeT.of' (by kernel_rfl)
theorem zG:SizeT Tryz.prog 236 1:=SizeT.of' (by kernel_rfl)
theorem F6:SizeT Tryz.prog 237 1:=SizeT.of' (by kernel_rfl)
theorem Y0:SizeT Tryz.prog 249 1:=SizeT.of' (by kernel_rfl)
theorem WW:AggT Tryz.prog 29 3:=AggT.of Tryz.underlying29 rfl WU
theorem cS:AggT Tryz.prog 34 15:=AggT.of Tryz.underlying34 rfl nA
theorem pB:AggT Tryz.prog 43 7:=AggT.of Tryz.underlying43 rfl sH
theorem A4:AggT Tryz.prog 57 3:=AggT.of Tryz.underlying57 rfl A3
theorem DF:AggT Tryz.prog 60 3:=AggT.of Tryz.underlying60 rfl N5
theorem rN:AggT Tryz.prog 62 9:=AggT.of Tryz.underlying62 rfl DE
theorem aeC:AggT Tryz.prog 96 12:=AggT.of Tryz.underlying96 rfl YW
theorem Y1:AggT Tryz.prog 103 8:=AggT.of Tryz.underlying103 rfl U6
theorem dK:AggT Tryz.prog 148 2:=AggT.of Tryz.underlying148 rfl eD
theorem JI:AggT Tryz.prog 150 1:=AggT.of Tryz.underlying150 rfl zE
theorem BY:AggT Tryz.prog 152 7:=AggT.of Tryz.underlying152 rfl oB
theorem BZ:AggT Tryz.prog 154 4:=AggT.of Tryz.underlying154 rfl rM
theorem eP:AggT Tryz.prog 157 14:=AggT.of Tryz.underlying157 rfl eL
theorem F7:AggT Tryz.prog 160 4:=AggT.of Tryz.underlying160 rfl o9
theorem dY:AggT Tryz.prog 162 3:=AggT.of Tryz.underlying162 rfl zF
theorem N8:AggT Tryz.prog 163 7:=AggT.of Tryz.underlying163 rfl JH
theorem B0:AggT Tryz.prog 165 14:=AggT.of Tryz.underlying165 rfl sS
theorem fH:AggT Tryz.prog 178 21:=AggT.of Tryz.underlying178 rfl iC
theorem N9:AggT Tryz.prog 205 5:=AggT.of Tryz.underlying205 rfl nT
theorem OA:AggT Tryz.prog 207 3:=AggT.of Tryz.underlying207 rfl sT
theorem Y2:AggT Tryz.prog 212 2:=AggT.of Tryz.underlying212 rfl N7
theorem Y3:AggT Tryz.prog 213 22:=AggT.of Tryz.underlying213 rfl U7
theorem JJ:AggT Tryz.prog 227 7:=AggT.of Tryz.underlying227 rfl F5
theorem WX:ZeroT Tryz.prog 3 (.int .i64 0):=ZeroT.of' (by kernel_rfl)
theorem ZT4:ZeroT Tryz.prog 4 (.bool false):=ZeroT.of' (by kernel_rfl)
theorem aeD:ZeroT Tryz.prog 30 (.slice none 0 0):=ZeroT.of' (by kernel_rfl)
theorem DG:ZeroT Tryz.prog 34 (.agg #[.string ⟨#[]⟩,.slice none 0 0,.slice none 0 0,.slice none 0 0,.slice none 0 0,.slice none 0 0,.slice none 0 0,.slice none 0 0,.int .i64 0,.int .i64 0,.int .i64 0,.int .i64 0,.slice none 0 0,.slice none 0 0,.slice none 0 0]):=ZeroT.of' (by kernel_rfl)
theorem WY:ZeroT Tryz.prog 40 (.int .i64 0):=ZeroT.of' (by kernel_rfl)
theorem WZ:ZeroT Tryz.prog 43 (.agg #[.int .i64 0,.int .i64 0,.int .i64 0,.int .i64 0,.int .i64 0,.int .i64 0,.int .i64 0]):=ZeroT.of' (by kernel_rfl)
theorem Y4:ZeroT Tryz.prog 57 (.agg #[.int .i64 0,.int .i64 0,.int .i64 0]):=ZeroT.of' (by kernel_rfl)
theorem aeE:ZeroT Tryz.prog 60 (.agg #[.int .i64 0,.int .i64 0,.int .i64 0]):=ZeroT.of' (by kernel_rfl)
theorem Y5:ZeroT Tryz.prog 62 (.agg #[.int .i64 0,.int .i64 0,.int .i64 0,.int .i64 0,.int .i64 0,.int .i64 0,.int .i64 0,.int .i64 0,.int .i64 0]):=ZeroT.of' (by kernel_rfl)
theorem aeF:ZeroT Tryz.prog 96 (.agg #[.nilFunc,.nilFunc,.nilFunc,.nilFunc,.nilFunc,.nilFunc,.nilFunc,.nilFunc,.nilFunc,.nilFunc,.nilFunc,.nilFunc]):=ZeroT.of' (by kernel_rfl)
theorem Y6:ZeroT Tryz.prog 103 (.agg #[.int .i64 0,.int .i64 0,.int .i64 0,.int .i64 0,.int .i64 0,.int .i64 0,.int .i64 0,.int .i64 0]):=ZeroT.of' (by kernel_rfl)
theorem JK:ZeroT Tryz.prog 148 (.agg #[.string ⟨#[]⟩,.int .i64 0]):=ZeroT.of' (by kernel_rfl)
theorem Y7:ZeroT Tryz.prog 150 (.agg #[.string ⟨#[]⟩]):=ZeroT.of' (by kernel_rfl)
theorem OB:ZeroT Tryz.prog 152 (.agg #[.string ⟨#[]⟩,.string ⟨#[]⟩,.int .i64 0,.int .i64 0,.int .i64 0,.int .i64 0,.int .i64 0]):=ZeroT.of' (by kernel_rfl)
theorem OC:ZeroT Tryz.prog 154 (.agg #[.string ⟨#[]⟩,.int .i64 0,.int .i64 0,.int .i64 0]):=ZeroT.of' (by kernel_rfl)
theorem sU:ZeroT Tryz.prog 157 (.agg #[.string ⟨#[]⟩,.int .i64 0,.string ⟨#[]⟩,.int .i64 0,.slice none 0 0,.string ⟨#[]⟩,.int .i64 0,.slice none 0 0,.string ⟨#[]⟩,.int .i64 0,.string ⟨#[]⟩,.int .i64 0,.int .i64 0,.int .i64 0]):=ZeroT.of' (by kernel_rfl)
theorem U8:ZeroT Tryz.prog 160 (.agg #[.string ⟨#[]⟩,.string ⟨#[]⟩,.int .i64 0,.int .i64 0]):=ZeroT.of' (by kernel_rfl)
theorem Y8:ZeroT Tryz.prog 162 (.agg #[.int .i64 0,.int .i64 0,.int .i64 0]):=ZeroT.of' (by kernel_rfl)
theorem U9:ZeroT Tryz.prog 165 (.agg #[.string ⟨#[]⟩,.int .i64 0,.int .i64 0,.int .i64 0,.int .i64 0,.int .i64 0,.int .i64 0,.bool false,.bool false,.bool false,.bool false,.bool false,.bool false,.bool false]):=ZeroT.of' (by kernel_rfl)
theorem Y9:ZeroT Tryz.prog 169 (.agg #[]):=ZeroT.of' (by kernel_rfl)
theorem OD:ZeroT Tryz.prog 178 (.agg #[.string ⟨#[]⟩,.int .i64 0,.string ⟨#[]⟩,.int .i64 0,.string ⟨#[]⟩,.int .i64 0,.int .i64 0,.int .i64 0,.int .i64 0,.int .i64 0,.int .i64 0,.int .i64 0,.int .i64 0,.bool false,.bool false,.bool false,.bool false,.bool false,.bool false,.bool false,.int .i64 0]):=ZeroT.of' (by kernel_rfl)
theorem OE:ZeroT Tryz.prog 200 (.agg #[.pointer none,.int .i64 0,.int .i64 0]):=ZeroT.of' (by kernel_rfl)
theorem ZA:ZeroT Tryz.prog 205 (.agg #[.string ⟨#[]⟩,.int .i64 0,.string ⟨#[]⟩,.int .i64 0,.int .i64 0]):=ZeroT.of' (by kernel_rfl)
theorem ZB:ZeroT Tryz.prog 207 (.agg #[.string ⟨#[]⟩,.int .i64 0,.int .i64 0]):=ZeroT.of' (by kernel_rfl)
theorem ZC:ZeroT Tryz.prog 212 (.agg #[.int .i64 0,.int .i64 0]):=ZeroT.of' (by kernel_rfl)
theorem ZD:ZeroT Tryz.prog 213 (.agg #[.int .i64 0,.int .i64 0,.int .i64 0,.int .i64 0,.int .i64 0,.int .i64 0,.int .i64 0,.int .i64 0,.int .i64 0,.int .i64 0,.int .i64 0,.int .i64 0,.int .i64 0,.int .i64 0,.int .i64 0,.int .i64 0,.int .i64 0,.int .i64 0,.int .i64 0,.int .i64 0,.int .i64 0,.int .i64 0]):=ZeroT.of' (by kernel_rfl)
theorem JL:ZeroT Tryz.prog 227 (.agg #[.slice none 0 0,.slice none 0 0,.slice none 0 0,.slice none 0 0,.slice none 0 0,.slice none 0 0,.slice none 0 0]):=ZeroT.of' (by kernel_rfl)
theorem ZE:ZeroT Tryz.prog 236 (.slice none 0 0):=ZeroT.of' (by kernel_rfl)
theorem ZF:ZeroT Tryz.prog 249 (.nilFunc):=ZeroT.of' (by kernel_rfl)
theorem zH:eE Tryz.prog 22 150:=Tryz.underlying22
theorem nU:eE Tryz.prog 23 205:=Tryz.underlying23
theorem qZ:eE Tryz.prog 24 207:=Tryz.underlying24
theorem nV:eE Tryz.prog 25 152:=Tryz.underlying25
theorem lL:eE Tryz.prog 26 160:=Tryz.underlying26
theorem tN:eE Tryz.prog 27 165:=Tryz.underlying27
theorem oP:eE Tryz.prog 28 154:=Tryz.underlying28
theorem eX:eE Tryz.prog 30 3:=Tryz.underlying30
theorem g9:eE Tryz.prog 31 157:=Tryz.underlying31
theorem oQ:eE Tryz.prog 32 178:=Tryz.underlying32
theorem pY:eE Tryz.prog 35 62:=Tryz.underlying35
theorem uT:eE Tryz.prog 36 57:=Tryz.underlying36
theorem pZ:eE Tryz.prog 37 43:=Tryz.underlying37
theorem jU:eE Tryz.prog 155 148:=Tryz.underlying155
theorem kX:eE Tryz.prog 158 9:=Tryz.underlying158
theorem m3:eE Tryz.prog 232 158:=Tryz.underlying232
theorem F8:eE Tryz.prog 236 237:=Tryz.underlying236
theorem VA:eE Tryz.prog 263 212:=Tryz.underlying263
theorem zI:FieldT Tryz.prog 34 0 0 9:=FieldT.of Tryz.underlying34 rfl rfl rfl A1 (by decide)
theorem oS:FieldT Tryz.prog 34 1 1 22:=FieldT.of Tryz.underlying34 rfl rfl rfl ae7 (by decide)
theorem fS:FieldT Tryz.prog 34 2 2 23:=FieldT.of Tryz.underlying34 rfl rfl rfl WR (by decide)
theorem iU:FieldT Tryz.prog 34 3 3 24:=FieldT.of Tryz.underlying34 rfl rfl rfl WS (by decide)
theorem gG:FieldT Tryz.prog 34 4 4 25:=FieldT.of Tryz.underlying34 rfl rfl rfl WT (by decide)
theorem dS:FieldT Tryz.prog 34 5 5 26:=FieldT.of Tryz.underlying34 rfl rfl rfl LO (by decide)
theorem lM:FieldT Tryz.prog 34 6 6 27:=FieldT.of Tryz.underlying34 rfl rfl rfl YV (by decide)
theorem jC:FieldT Tryz.prog 34 7 7 28:=FieldT.of Tryz.underlying34 rfl rfl rfl ae8 (by decide)
theorem DH:FieldT Tryz.prog 34 8 8 3:=FieldT.of Tryz.underlying34 rfl rfl rfl hP (by decide)
theorem wF:FieldT Tryz.prog 34 9 9 29:=FieldT.of Tryz.underlying34 rfl rfl rfl WU (by decide)
theorem jV:FieldT Tryz.prog 34 10 12 30:=FieldT.of Tryz.underlying34 rfl rfl rfl SH (by decide)
theorem cG:FieldT Tryz.prog 34 11 13 31:=FieldT.of Tryz.underlying34 rfl rfl rfl SI (by decide)
theorem eV:FieldT Tryz.prog 34 12 14 32:=FieldT.of Tryz.underlying34 rfl rfl rfl WV (by decide)
theorem wG:FieldT Tryz.prog 43 0 0 3:=FieldT.of Tryz.underlying43 rfl rfl rfl hP (by decide)
theorem H5:FieldT Tryz.prog 43 1 1 3:=FieldT.of Tryz.underlying43 rfl rfl rfl hP (by decide)
theorem zJ:FieldT Tryz.prog 43 2 2 3:=FieldT.of Tryz.underlying43 rfl rfl rfl hP (by decide)
theorem gU:FieldT Tryz.prog 43 3 3 3:=FieldT.of Tryz.underlying43 rfl rfl rfl hP (by decide)
theorem kE:FieldT Tryz.prog 43 4 4 3:=FieldT.of Tryz.underlying43 rfl rfl rfl hP (by decide)
theorem H6:FieldT Tryz.prog 43 5 5 3:=FieldT.of Tryz.underlying43 rfl rfl rfl hP (by decide)
theorem H7:FieldT Tryz.prog 43 6 6 3:=FieldT.of Tryz.underlying43 rfl rfl rfl hP (by decide)
theorem wH:FieldT Tryz.prog 57 0 0 3:=FieldT.of Tryz.underlying57 rfl rfl rfl hP (by decide)
theorem DI:FieldT Tryz.prog 57 1 1 3:=FieldT.of Tryz.underlying57 rfl rfl rfl hP (by decide)
theorem wJ:FieldT Tryz.prog 57 2 2 3:=FieldT.of Tryz.underlying57 rfl rfl rfl hP (by decide)
theorem rO:FieldT Tryz.prog 60 0 0 3:=FieldT.of Tryz.underlying60 rfl rfl rfl hP (by decide)
theorem kF:FieldT Tryz.prog 60 1 1 3:=FieldT.of Tryz.underlying60 rfl rfl rfl hP (by decide)
theorem rP:FieldT Tryz.prog 60 2 2 3:=FieldT.of Tryz.underlying60 rfl rfl rfl hP (by decide)
theorem H8:FieldT Tryz.prog 62 0 0 3:=FieldT.of Tryz.underlying62 rfl rfl rfl hP (by decide)
theorem p5:FieldT Tryz.prog 62 1 1 3:=FieldT.of Tryz.underlying62 rfl rfl rfl hP (by decide)
theorem wK:FieldT Tryz.prog 62 2 2 3:=FieldT.of Tryz.underlying62 rfl rfl rfl hP (by decide)
theorem p6:FieldT Tryz.prog 62 3 3 60:=FieldT.of Tryz.underlying62 rfl rfl rfl N5 (by decide)
theorem p7:FieldT Tryz.prog 62 4 6 60:=FieldT.of Tryz.underlying62 rfl rfl rfl N5 (by decide)
theorem W0:FieldT Tryz.prog 95 0 0 92:=FieldT.of Tryz.underlying95 rfl rfl rfl aeA (by decide)
theorem W1:FieldT Tryz.prog 95 1 1 93:=FieldT.of Tryz.underlying95 rfl rfl rfl aeB (by decide)
theorem JM:FieldT Tryz.prog 103 0 0 43:=FieldT.of Tryz.underlying103 rfl rfl rfl sH (by decide)
theorem DJ:FieldT Tryz.prog 103 1 7 3:=FieldT.of Tryz.underlying103 rfl rfl rfl hP (by decide)
theorem oD:FieldT Tryz.prog 148 0 0 9:=FieldT.of Tryz.underlying148 rfl rfl rfl A1 (by decide)
theorem dC:FieldT Tryz.prog 148 1 1 3:=FieldT.of Tryz.underlying148 rfl rfl rfl hP (by decide)
theorem JN:FieldT Tryz.prog 150 0 0 9:=FieldT.of Tryz.underlying150 rfl rfl rfl A1 (by decide)
theorem JO:FieldT Tryz.prog 152 0 0 9:=FieldT.of Tryz.underlying152 rfl rfl rfl A1 (by decide)
theorem DK:FieldT Tryz.prog 152 1 1 148:=FieldT.of Tryz.underlying152 rfl rfl rfl eD (by decide)
theorem JP:FieldT Tryz.prog 152 2 3 3:=FieldT.of Tryz.underlying152 rfl rfl rfl hP (by decide)
theorem JQ:FieldT Tryz.prog 152 3 4 3:=FieldT.of Tryz.underlying152 rfl rfl rfl hP (by decide)
theorem JR:FieldT Tryz.prog 152 4 5 3:=FieldT.of Tryz.underlying152 rfl rfl rfl hP (by decide)
theorem JS:FieldT Tryz.prog 152 5 6 3:=FieldT.of Tryz.underlying152 rfl rfl rfl hP (by decide)
theorem JT:FieldT Tryz.prog 154 0 0 9:=FieldT.of Tryz.underlying154 rfl rfl rfl A1 (by decide)
theorem xY:FieldT Tryz.prog 154 1 1 3:=FieldT.of Tryz.underlying154 rfl rfl rfl hP (by decide)
theorem DL:FieldT Tryz.prog 154 2 2 3:=FieldT.of Tryz.underlying154 rfl rfl rfl hP (by decide)
theorem JU:FieldT Tryz.prog 154 3 3 3:=FieldT.of Tryz.underlying154 rfl rfl rfl hP (by decide)
theorem xZ:FieldT Tryz.prog 157 0 0 9:=FieldT.of Tryz.underlying157 rfl rfl rfl A1 (by decide)
theorem dM:FieldT Tryz.prog 157 1 1 3:=FieldT.of Tryz.underlying157 rfl rfl rfl hP (by decide)
theorem uU:FieldT Tryz.prog 157 2 2 148:=FieldT.of Tryz.underlying157 rfl rfl rfl eD (by decide)
theorem dR:FieldT Tryz.prog 157 3 4 155:=FieldT.of Tryz.underlying157 rfl rfl rfl BX (by decide)
theorem oE:FieldT Tryz.prog 157 4 5 148:=FieldT.of Tryz.underlying157 rfl rfl rfl eD (by decide)
theorem gH:FieldT Tryz.prog 157 5 7 30:=FieldT.of Tryz.underlying157 rfl rfl rfl SH (by decide)
theorem lN:FieldT Tryz.prog 157 6 8 148:=FieldT.of Tryz.underlying157 rfl rfl rfl eD (by decide)
theorem lO:FieldT Tryz.prog 157 7 10 148:=FieldT.of Tryz.underlying157 rfl rfl rfl eD (by decide)
theorem rZ:FieldT Tryz.prog 157 8 12 3:=FieldT.of Tryz.underlying157 rfl rfl rfl hP (by decide)
theorem r5:FieldT Tryz.prog 157 9 13 3:=FieldT.of Tryz.underlying157 rfl rfl rfl hP (by decide)
theorem JV:FieldT Tryz.prog 160 0 0 9:=FieldT.of Tryz.underlying160 rfl rfl rfl A1 (by decide)
theorem DM:FieldT Tryz.prog 160 1 1 148:=FieldT.of Tryz.underlying160 rfl rfl rfl eD (by decide)
theorem JW:FieldT Tryz.prog 160 2 3 3:=FieldT.of Tryz.underlying160 rfl rfl rfl hP (by decide)
theorem lP:FieldT Tryz.prog 162 0 0 3:=FieldT.of Tryz.underlying162 rfl rfl rfl hP (by decide)
theorem kP:FieldT Tryz.prog 162 1 1 3:=FieldT.of Tryz.underlying162 rfl rfl rfl hP (by decide)
theorem p8:FieldT Tryz.prog 162 2 2 3:=FieldT.of Tryz.underlying162 rfl rfl rfl hP (by decide)
theorem JX:FieldT Tryz.prog 165 0 0 9:=FieldT.of Tryz.underlying165 rfl rfl rfl A1 (by decide)
theorem JY:FieldT Tryz.prog 165 1 1 162:=FieldT.of Tryz.underlying165 rfl rfl rfl zF (by decide)
theorem JZ:FieldT Tryz.prog 165 2 4 162:=FieldT.of Tryz.underlying165 rfl rfl rfl zF (by decide)
theorem J0:FieldT Tryz.prog 165 3 7 163:=FieldT.of Tryz.underlying165 rfl rfl rfl JH (by decide)
theorem jD:FieldT Tryz.prog 175 0 0 34:=FieldT.of Tryz.underlying175 rfl rfl rfl nA (by decide)
theorem p9:FieldT Tryz.prog 175 1 15 173:=FieldT.of Tryz.underlying175 rfl rfl rfl YY (by decide)
theorem J1:FieldT Tryz.prog 178 0 0 9:=FieldT.of Tryz.underlying178 rfl rfl rfl A1 (by decide)
theorem iH:FieldT Tryz.prog 178 1 1 3:=FieldT.of Tryz.underlying178 rfl rfl rfl hP (by decide)
theorem dN:FieldT Tryz.prog 178 2 2 148:=FieldT.of Tryz.underlying178 rfl rfl rfl eD (by decide)
theorem dW:FieldT Tryz.prog 178 3 4 148:=FieldT.of Tryz.underlying178 rfl rfl rfl eD (by decide)
theorem J2:FieldT Tryz.prog 178 4 6 3:=FieldT.of Tryz.underlying178 rfl rfl rfl hP (by decide)
theorem gQ:FieldT Tryz.prog 178 5 7 162:=FieldT.of Tryz.underlying178 rfl rfl rfl zF (by decide)
theorem gR:FieldT Tryz.prog 178 6 10 162:=FieldT.of Tryz.underlying178 rfl rfl rfl zF (by decide)
theorem J3:FieldT Tryz.prog 178 7 13 163:=FieldT.of Tryz.underlying178 rfl rfl rfl JH (by decide)
theorem J4:FieldT Tryz.prog 178 8 20 3:=FieldT.of Tryz.underlying178 rfl rfl rfl hP (by decide)
theorem j7:FieldT Tryz.prog 200 0 0 198:=FieldT.of Tryz.underlying200 rfl rfl rfl YZ (by decide)
theorem r6:FieldT Tryz.prog 200 1 1 3:=FieldT.of Tryz.underlying200 rfl rfl rfl hP (by decide)
theorem uV:FieldT Tryz.prog 200 2 2 3:=FieldT.of Tryz.underlying200 rfl rfl rfl hP (by decide)
theorem uW:FieldT Tryz.prog 205 0 0 148:=FieldT.of Tryz.underlying205 rfl rfl rfl eD (by decide)
theorem uX:FieldT Tryz.prog 205 1 2 148:=FieldT.of Tryz.underlying205 rfl rfl rfl eD (by decide)
theorem J5:FieldT Tryz.prog 205 2 4 3:=FieldT.of Tryz.underlying205 rfl rfl rfl hP (by decide)
theorem DN:FieldT Tryz.prog 207 0 0 148:=FieldT.of Tryz.underlying207 rfl rfl rfl eD (by decide)
theorem J6:FieldT Tryz.prog 207 1 2 3:=FieldT.of Tryz.underlying207 rfl rfl rfl hP (by decide)
theorem SJ:FieldT Tryz.prog 223 0 0 34:=FieldT.of Tryz.underlying223 rfl rfl rfl nA (by decide)
theorem SK:FieldT Tryz.prog 223 2 16 36:=FieldT.of Tryz.underlying223 rfl rfl rfl ae9 (by decide)
theorem mH:FieldT Tryz.prog 227 0 0 158:=FieldT.of Tryz.underlying227 rfl rfl rfl iB (by decide)
theorem qA:FieldT Tryz.prog 227 1 1 158:=FieldT.of Tryz.underlying227 rfl rfl rfl iB (by decide)
theorem j8:FieldT Tryz.prog 227 2 2 158:=FieldT.of Tryz.underlying227 rfl rfl rfl iB (by decide)
theorem r7:FieldT Tryz.prog 227 3 3 158:=FieldT.of Tryz.underlying227 rfl rfl rfl iB (by decide)
theorem uY:FieldT Tryz.prog 227 4 4 158:=FieldT.of Tryz.underlying227 rfl rfl rfl iB (by decide)
theorem r8:FieldT Tryz.prog 227 5 5 158:=FieldT.of Tryz.underlying227 rfl rfl rfl iB (by decide)
theorem uZ:FieldT Tryz.prog 227 6 6 158:=FieldT.of Tryz.underlying227 rfl rfl rfl iB (by decide)
theorem aeG:Enters Tryz.prog 27:=Enters.of Tryz.func27 (by kernel_rfl) rfl
theorem aeH:Enters Tryz.prog 28:=Enters.of Tryz.func28 (by kernel_rfl) rfl
theorem F9:Enters Tryz.prog 29:=Enters.of Tryz.func29 (by kernel_rfl) rfl
theorem ZG:Enters Tryz.prog 30:=Enters.of Tryz.func30 (by kernel_rfl) rfl
theorem OF:Enters Tryz.prog 31:=Enters.of Tryz.func31 (by kernel_rfl) rfl
theorem ZH:Enters Tryz.prog 32:=Enters.of Tryz.func32 (by kernel_rfl) rfl
theorem OG:Enters Tryz.prog 33:=Enters.of Tryz.func33 (by kernel_rfl) rfl
theorem aeI:Enters Tryz.prog 37:=Enters.of Tryz.func37 (by kernel_rfl) rfl
theorem ZI:Enters Tryz.prog 39:=Enters.of Tryz.func39 (by kernel_rfl) rfl
theorem aeJ:Enters Tryz.prog 67:=Enters.of Tryz.func67 (by kernel_rfl) rfl
theorem aeK:Enters Tryz.prog 68:=Enters.of Tryz.func68 (by kernel_rfl) rfl
theorem ZJ:Enters Tryz.prog 69:=Enters.of Tryz.func69 (by kernel_rfl) rfl
theorem tO:Enters Tryz.prog 70:=Enters.of Tryz.func70 (by kernel_rfl) rfl
theorem ZK:Enters Tryz.prog 71:=Enters.of Tryz.func71 (by kernel_rfl) rfl
theorem ZL:Enters Tryz.prog 72:=Enters.of Tryz.func72 (by kernel_rfl) rfl
theorem aeL:Enters Tryz.prog 73:=Enters.of Tryz.func73 (by kernel_rfl) rfl
theorem ZM:Enters Tryz.prog 74:=Enters.of Tryz.func74 (by kernel_rfl) rfl
theorem ZN:Enters Tryz.prog 75:=Enters.of Tryz.func75 (by kernel_rfl) rfl
theorem aeM:Enters Tryz.prog 76:=Enters.of Tryz.func76 (by kernel_rfl) rfl
theorem aeN:Enters Tryz.prog 77:=Enters.of Tryz.func77 (by kernel_rfl) rfl
theorem aeO:Enters Tryz.prog 78:=Enters.of Tryz.func78 (by kernel_rfl) rfl
theorem aeP:Enters Tryz.prog 79:=Enters.of Tryz.func79 (by kernel_rfl) rfl
theorem aeQ:Enters Tryz.prog 80:=Enters.of Tryz.func80 (by kernel_rfl) rfl
theorem zK:Enters Tryz.prog 81:=Enters.of Tryz.func81 (by kernel_rfl) rfl
theorem aeR:Enters Tryz.prog 84:=Enters.of Tryz.func84 (by kernel_rfl) rfl
theorem aeS:Enters Tryz.prog 85:=Enters.of Tryz.func85 (by kernel_rfl) rfl
theorem B3:Enters Tryz.prog 112:=Enters.of Tryz.func112 (by kernel_rfl) rfl
theorem ZO:Enters Tryz.prog 113:=Enters.of Tryz.func113 (by kernel_rfl) rfl
theorem ZP:Enters Tryz.prog 114:=Enters.of Tryz.func114 (by kernel_rfl) rfl
theorem zL:Enters Tryz.prog 115:=Enters.of Tryz.func115 (by kernel_rfl) rfl
theorem J7:Enters Tryz.prog 116:=Enters.of Tryz.func116 (by kernel_rfl) rfl
theorem ZQ:Enters Tryz.prog 117:=Enters.of Tryz.func117 (by kernel_rfl) rfl
theorem ZR:Enters Tryz.prog 118:=Enters.of Tryz.func118 (by kernel_rfl) rfl
theorem ZS:Enters Tryz.prog 119:=Enters.of Tryz.func119 (by kernel_rfl) rfl
theorem ZT:Enters Tryz.prog 120:=Enters.of Tryz.func120 (by kernel_rfl) rfl
theorem lT:Enters Tryz.prog 121:=Enters.of Tryz.func121 (by kernel_rfl) rfl
theorem ZU:Enters Tryz.prog 122:=Enters.of Tryz.func122 (by kernel_rfl) rfl
theorem ZV:Enters Tryz.prog 123:=Enters.of Tryz.func123 (by kernel_rfl) rfl
theorem ZW:Enters Tryz.prog 124:=Enters.of Tryz.func124 (by kernel_rfl) rfl
theorem ZX:Enters Tryz.prog 125:=Enters.of Tryz.func125 (by kernel_rfl) rfl
theorem ZY:Enters Tryz.prog 126:=Enters.of Tryz.func126 (by kernel_rfl) rfl
theorem OH:Enters Tryz.prog 127:=Enters.of Tryz.func127 (by kernel_rfl) rfl
theorem ZZ:Enters Tryz.prog 128:=Enters.of Tryz.func128 (by kernel_rfl) rfl
theorem Z0:Enters Tryz.prog 129:=Enters.of Tryz.func129 (by kernel_rfl) rfl
theorem Z1:Enters Tryz.prog 130:=Enters.of Tryz.func130 (by kernel_rfl) rfl
theorem Z2:Enters Tryz.prog 131:=Enters.of Tryz.func131 (by kernel_rfl) rfl
theorem Z3:Enters Tryz.prog 132:=Enters.of Tryz.func132 (by kernel_rfl) rfl
theorem Z4:Enters Tryz.prog 133:=Enters.of Tryz.func133 (by kernel_rfl) rfl
theorem Z5:Enters Tryz.prog 134:=Enters.of Tryz.func134 (by kernel_rfl) rfl
theorem Z6:Enters Tryz.prog 135:=Enters.of Tryz.func135 (by kernel_rfl) rfl
theorem Z7:Enters Tryz.prog 136:=Enters.of Tryz.func136 (by kernel_rfl) rfl
theorem Z8:Enters Tryz.prog 137:=Enters.of Tryz.func137 (by kernel_rfl) rfl
theorem Z9:Enters Tryz.prog 138:=Enters.of Tryz.func138 (by kernel_rfl) rfl
theorem aa0:Enters Tryz.prog 139:=Enters.of Tryz.func139 (by kernel_rfl) rfl
theorem OI:Enters Tryz.prog 140:=Enters.of Tryz.func140 (by kernel_rfl) rfl
theorem aa1:Enters Tryz.prog 141:=Enters.of Tryz.func141 (by kernel_rfl) rfl
theorem VB:Enters Tryz.prog 142:=Enters.of Tryz.func142 (by kernel_rfl) rfl
theorem aa2:Enters Tryz.prog 143:=Enters.of Tryz.func143 (by kernel_rfl) rfl
theorem VC:Enters Tryz.prog 144:=Enters.of Tryz.func144 (by kernel_rfl) rfl
theorem aa3:Enters Tryz.prog 150:=Enters.of Tryz.func150 (by kernel_rfl) rfl
theorem aa4:Enters Tryz.prog 151:=Enters.of Tryz.func151 (by kernel_rfl) rfl
theorem OJ:Enters Tryz.prog 152:=Enters.of Tryz.func152 (by kernel_rfl) rfl
theorem lU:Enters Tryz.prog 153:=Enters.of Tryz.func153 (by kernel_rfl) rfl
theorem OK:Enters Tryz.prog 154:=Enters.of Tryz.func154 (by kernel_rfl) rfl
theorem J8:Enters Tryz.prog 155:=Enters.of Tryz.func155 (by kernel_rfl) rfl
theorem nW:Enters Tryz.prog 156:=Enters.of Tryz.func156 (by kernel_rfl) rfl
theorem aa5:Enters Tryz.prog 157:=Enters.of Tryz.func157 (by kernel_rfl) rfl
theorem aa6:Enters Tryz.prog 158:=Enters.of Tryz.func158 (by kernel_rfl) rfl
theorem VD:Enters Tryz.prog 159:=Enters.of Tryz.func159 (by kernel_rfl) rfl
theorem aa7:Enters Tryz.prog 160:=Enters.of Tryz.func160 (by kernel_rfl) rfl
theorem aa8:Enters Tryz.prog 161:=Enters.of Tryz.func161 (by kernel_rfl) rfl
theorem lV:Enters Tryz.prog 162:=Enters.of Tryz.func162 (by kernel_rfl) rfl
theorem aa9:Enters Tryz.prog 163:=Enters.of Tryz.func163 (by kernel_rfl) rfl
theorem OL:Enters Tryz.prog 164:=Enters.of Tryz.func164 (by kernel_rfl) rfl
theorem J9:Enters Tryz.prog 165:=Enters.of Tryz.func165 (by kernel_rfl) rfl
theorem aaA:Enters Tryz.prog 166:=Enters.of Tryz.func166 (by kernel_rfl) rfl
theorem aaB:Enters Tryz.prog 167:=Enters.of Tryz.func167 (by kernel_rfl) rfl
theorem aaC:Enters Tryz.prog 168:=Enters.of Tryz.func168 (by kernel_rfl) rfl
theorem aaD:Enters Tryz.prog 169:=Enters.of Tryz.func169 (by kernel_rfl) rfl
theorem KA:Enters Tryz.prog 170:=Enters.of Tryz.func170 (by kernel_rfl) rfl
theorem VE:Enters Tryz.prog 171:=Enters.of Tryz.func171 (by kernel_rfl) rfl
theorem aaE:Enters Tryz.prog 172:=Enters.of Tryz.func172 (by kernel_rfl) rfl
theorem aaF:Enters Tryz.prog 173:=Enters.of Tryz.func173 (by kernel_rfl) rfl
theorem VF:Enters Tryz.prog 175:=Enters.of Tryz.func175 (by kernel_rfl) rfl
theorem zM:Enters Tryz.prog 176:=Enters.of Tryz.func176 (by kernel_rfl) rfl
theorem lW:Enters Tryz.prog 177:=Enters.of Tryz.func177 (by kernel_rfl) rfl
theorem jJ:Enters Tryz.prog 178:=Enters.of Tryz.func178 (by kernel_rfl) rfl
theorem aaG:Enters Tryz.prog 179:=Enters.of Tryz.func179 (by kernel_rfl) rfl
theorem aaH:Enters Tryz.prog 180:=Enters.of Tryz.func180 (by kernel_rfl) rfl
theorem VG:Enters Tryz.prog 181:=Enters.of Tryz.func181 (by kernel_rfl) rfl
theorem zN:Enters Tryz.prog 182:=Enters.of Tryz.func182 (by kernel_rfl) rfl
theorem aaI:Enters Tryz.prog 183:=Enters.of Tryz.func183 (by kernel_rfl) rfl
theorem zO:Enters Tryz.prog 184:=Enters.of Tryz.func184 (by kernel_rfl) rfl
theorem aaJ:Enters Tryz.prog 185:=Enters.of Tryz.func185 (by kernel_rfl) rfl
theorem aaK:Enters Tryz.prog 186:=Enters.of Tryz.func186 (by kernel_rfl) rfl
theorem aaL:Enters Tryz.prog 187:=Enters.of Tryz.func187 (by kernel_rfl) rfl
theorem aaM:Enters Tryz.prog 188:=Enters.of Tryz.func188 (by kernel_rfl) rfl
theorem aaN:Enters Tryz.prog 189:=Enters.of Tryz.func189 (by kernel_rfl) rfl
theorem aaO:Enters Tryz.prog 190:=Enters.of Tryz.func190 (by kernel_rfl) rfl
theorem aaP:Enters Tryz.prog 191:=Enters.of Tryz.func191 (by kernel_rfl) rfl
theorem OM:Enters Tryz.prog 192:=Enters.of Tryz.func192 (by kernel_rfl) rfl
theorem iD:Enters Tryz.prog 193:=Enters.of Tryz.func193 (by kernel_rfl) rfl
theorem ON:Enters Tryz.prog 194:=Enters.of Tryz.func194 (by kernel_rfl) rfl
theorem VH:Enters Tryz.prog 195:=Enters.of Tryz.func195 (by kernel_rfl) rfl
theorem aaQ:Enters Tryz.prog 196:=Enters.of Tryz.func196 (by kernel_rfl) rfl
theorem aaR:Enters Tryz.prog 197:=Enters.of Tryz.func197 (by kernel_rfl) rfl
theorem aaS:Enters Tryz.prog 198:=Enters.of Tryz.func198 (by kernel_rfl) rfl
theorem VI:Enters Tryz.prog 199:=Enters.of Tryz.func199 (by kernel_rfl) rfl
theorem zP:Enters Tryz.prog 200:=Enters.of Tryz.func200 (by kernel_rfl) rfl
theorem zQ:Enters Tryz.prog 201:=Enters.of Tryz.func201 (by kernel_rfl) rfl
theorem lQ:Enters Tryz.prog 202:=Enters.of Tryz.func202 (by kernel_rfl) rfl
theorem aaT:Enters Tryz.prog 203:=Enters.of Tryz.func203 (by kernel_rfl) rfl
theorem aaU:Enters Tryz.prog 204:=Enters.of Tryz.func204 (by kernel_rfl) rfl
theorem aaV:Enters Tryz.prog 205:=Enters.of Tryz.func205 (by kernel_rfl) rfl
theorem aaW:Enters Tryz.prog 206:=Enters.of Tryz.func206 (by kernel_rfl) rfl
theorem aaX:Enters Tryz.prog 207:=Enters.of Tryz.func207 (by kernel_rfl) rfl
theorem VJ:Enters Tryz.prog 208:=Enters.of Tryz.func208 (by kernel_rfl) rfl
theorem aaY:Enters Tryz.prog 209:=Enters.of Tryz.func209 (by kernel_rfl) rfl
theorem aaZ:Enters Tryz.prog 210:=Enters.of Tryz.func210 (by kernel_rfl) rfl
theorem ab0:Enters Tryz.prog 211:=Enters.of Tryz.func211 (by kernel_rfl) rfl
theorem ab1:Enters Tryz.prog 212:=Enters.of Tryz.func212 (by kernel_rfl) rfl
theorem ab2:Enters Tryz.prog 213:=Enters.of Tryz.func213 (by kernel_rfl) rfl
theorem ab3:Enters Tryz.prog 214:=Enters.of Tryz.func214 (by kernel_rfl) rfl
theorem ab4:Enters Tryz.prog 215:=Enters.of Tryz.func215 (by kernel_rfl) rfl
theorem ab5:Enters Tryz.prog 216:=Enters.of Tryz.func216 (by kernel_rfl) rfl
theorem ab6:Enters Tryz.prog 217:=Enters.of Tryz.func217 (by kernel_rfl) rfl
theorem ab7:Enters Tryz.prog 218:=Enters.of Tryz.func218 (by kernel_rfl) rfl
theorem ab8:Enters Tryz.prog 219:=Enters.of Tryz.func219 (by kernel_rfl) rfl
theorem ab9:Enters Tryz.prog 220:=Enters.of Tryz.func220 (by kernel_rfl) rfl
theorem abA:Enters Tryz.prog 221:=Enters.of Tryz.func221 (by kernel_rfl) rfl
theorem abB:Enters Tryz.prog 222:=Enters.of Tryz.func222 (by kernel_rfl) rfl
theorem abC:Enters Tryz.prog 223:=Enters.of Tryz.func223 (by kernel_rfl) rfl
theorem abD:Enters Tryz.prog 224:=Enters.of Tryz.func224 (by kernel_rfl) rfl
theorem abE:Enters Tryz.prog 225:=Enters.of Tryz.func225 (by kernel_rfl) rfl
theorem abF:Enters Tryz.prog 226:=Enters.of Tryz.func226 (by kernel_rfl) rfl
theorem abG:Enters Tryz.prog 227:=Enters.of Tryz.func227 (by kernel_rfl) rfl
theorem OO:Enters Tryz.prog 228:=Enters.of Tryz.func228 (by kernel_rfl) rfl
theorem abH:Enters Tryz.prog 229:=Enters.of Tryz.func229 (by kernel_rfl) rfl
theorem OP:Enters Tryz.prog 230:=Enters.of Tryz.func230 (by kernel_rfl) rfl
theorem abI:Enters Tryz.prog 231:=Enters.of Tryz.func231 (by kernel_rfl) rfl
theorem m4:Enters Tryz.prog 232:=Enters.of Tryz.func232 (by kernel_rfl) rfl
theorem abJ:Enters Tryz.prog 233:=Enters.of Tryz.func233 (by kernel_rfl) rfl
theorem VK:Enters Tryz.prog 234:=Enters.of Tryz.func234 (by kernel_rfl) rfl
theorem VL:Enters Tryz.prog 236:=Enters.of Tryz.func236 (by kernel_rfl) rfl
theorem abK:Enters Tryz.prog 237:=Enters.of Tryz.func237 (by kernel_rfl) rfl
theorem abL:Enters Tryz.prog 238:=Enters.of Tryz.func238 (by kernel_rfl) rfl
theorem abM:Enters Tryz.prog 240:=Enters.of Tryz.func240 (by kernel_rfl) rfl
end Go.Proofs.YtfffbdmdllgalaaGreatDoor
namespace Go.Proofs.YtfffbdmdllgalaaGreatDoor
open Go Go.RowKit Go.Fz
set_option maxRecDepth 10000
def KB (w:World) (p:Fz.aX):Prop:=Row w p.teamsA 2 bN p.teams∧Row w p.sizesA 1 iO p.sizes
theorem SL:Rd Tryz.prog 9 aJ (fun _ _=>True):=WP Tryz.underlying9
theorem SM:Tryz.prog.cellsOf 9=1:=by kernel_rfl
theorem VM:Tryz.prog.cellsOf 150=1:=by kernel_rfl
theorem abN:Rd Tryz.prog 150 gY (fun _ _=>True):=⟨fun {H en w b fuel cs d p} hd hw=>by
  have hl:cs.length=1:=kC Tryz.underlying150 hd VM
  obtain ⟨x0,e0,a0⟩:=Rd.fld (off:=0) (sz:=1) Tryz.underlying150 hd hw 0 rfl rfl rfl SM SL
  have h:cs.drop 0=gY ⟨x0⟩:=by
    rw [bH cs 0 1 1 rfl,e0,List.drop_eq_nil_of_le (by omega)]; rfl
  exact ⟨⟨x0⟩,h,trivial⟩⟩
theorem aeT:Rd Tryz.prog 22 (fun x:Sl Fz.iY=>[.slice x.a x.l.length x.c]) (tM Tryz.prog 1 16 gY (fun _ _=>True)):=g8 Tryz.underlying22 VM (by kernel_rfl) abN yX (by decide)
theorem aeU:Tryz.prog.cellsOf 22=1:=by kernel_rfl
theorem oW:Rd Tryz.prog 3 iO (fun _=>inI):=WO Tryz.underlying3
theorem pC:Tryz.prog.cellsOf 3=1:=by kernel_rfl
theorem pD:Tryz.prog.cellsOf 148=2:=by kernel_rfl
theorem qS:Rd Tryz.prog 148 bN (fun _ _=>True):=⟨fun {H en w b fuel cs d p} hd hw=>by
  have hl:cs.length=2:=kC Tryz.underlying148 hd pD
  obtain ⟨x0,e0,a0⟩:=Rd.fld (off:=0) (sz:=1) Tryz.underlying148 hd hw 0 rfl rfl rfl SM SL
  obtain ⟨x1,e1,a1⟩:=Rd.fld (off:=1) (sz:=1) Tryz.underlying148 hd hw 1 rfl rfl rfl pC oW
  have h:cs.drop 0=bN ⟨x0,x1⟩:=by
    rw [bH cs 0 1 1 rfl,e0,bH cs 1 1 2 rfl,e1,List.drop_eq_nil_of_le (by omega)]; rfl
  exact ⟨⟨x0,x1⟩,h,trivial⟩⟩
theorem VN:Tryz.prog.cellsOf 205=5:=by kernel_rfl
theorem abO:Rd Tryz.prog 205 cY (fun _ _=>True):=⟨fun {H en w b fuel cs d p} hd hw=>by
  have hl:cs.length=5:=kC Tryz.underlying205 hd VN
  obtain ⟨x0,e0,a0⟩:=Rd.fld (off:=0) (sz:=2) Tryz.underlying205 hd hw 0 rfl rfl rfl pD qS
  obtain ⟨x1,e1,a1⟩:=Rd.fld (off:=2) (sz:=2) Tryz.underlying205 hd hw 1 rfl rfl rfl pD qS
  obtain ⟨x2,e2,a2⟩:=Rd.fld (off:=4) (sz:=1) Tryz.underlying205 hd hw 2 rfl rfl rfl pC oW
  have h:cs.drop 0=cY ⟨x0,x1,x2⟩:=by
    rw [bH cs 0 2 2 rfl,e0,bH cs 2 2 4 rfl,e1,bH cs 4 1 5 rfl,e2,List.drop_eq_nil_of_le (by omega)]; rfl
  exact ⟨⟨x0,x1,x2⟩,h,trivial⟩⟩
theorem aeV:Rd Tryz.prog 23 (fun x:Sl Fz.nZ=>[.slice x.a x.l.length x.c]) (tM Tryz.prog 5 56 cY (fun _ _=>True)):=g8 Tryz.underlying23 VN (by kernel_rfl) abO d6 (by decide)
theorem aeW:Tryz.prog.cellsOf 23=1:=by kernel_rfl
theorem VO:Tryz.prog.cellsOf 207=3:=by kernel_rfl
theorem abP:Rd Tryz.prog 207 bY (fun _ _=>True):=⟨fun {H en w b fuel cs d p} hd hw=>by
  have hl:cs.length=3:=kC Tryz.underlying207 hd VO
  obtain ⟨x0,e0,a0⟩:=Rd.fld (off:=0) (sz:=2) Tryz.underlying207 hd hw 0 rfl rfl rfl pD qS
  obtain ⟨x1,e1,a1⟩:=Rd.fld (off:=2) (sz:=1) Tryz.underlying207 hd hw 1 rfl rfl rfl pC oW
  have h:cs.drop 0=bY ⟨x0,x1⟩:=by
    rw [bH cs 0 2 2 rfl,e0,bH cs 2 1 3 rfl,e1,List.drop_eq_nil_of_le (by omega)]; rfl
  exact ⟨⟨x0,x1⟩,h,trivial⟩⟩
theorem aeX:Rd Tryz.prog 24 (fun x:Sl Fz.iL=>[.slice x.a x.l.length x.c]) (tM Tryz.prog 3 32 bY (fun _ _=>True)):=g8 Tryz.underlying24 VO (by kernel_rfl) abP eJ (by decide)
theorem aeY:Tryz.prog.cellsOf 24=1:=by kernel_rfl
theorem VP:Tryz.prog.cellsOf 152=7:=by kernel_rfl
theorem abQ:Rd Tryz.prog 152 bG (fun _ _=>True):=⟨fun {H en w b fuel cs d p} hd hw=>by
  have hl:cs.length=7:=kC Tryz.underlying152 hd VP
  obtain ⟨x0,e0,a0⟩:=Rd.fld (off:=0) (sz:=1) Tryz.underlying152 hd hw 0 rfl rfl rfl SM SL
  obtain ⟨x1,e1,a1⟩:=Rd.fld (off:=1) (sz:=2) Tryz.underlying152 hd hw 1 rfl rfl rfl pD qS
  obtain ⟨x2,e2,a2⟩:=Rd.fld (off:=3) (sz:=1) Tryz.underlying152 hd hw 2 rfl rfl rfl pC oW
  obtain ⟨x3,e3,a3⟩:=Rd.fld (off:=4) (sz:=1) Tryz.underlying152 hd hw 3 rfl rfl rfl pC oW
  obtain ⟨x4,e4,a4⟩:=Rd.fld (off:=5) (sz:=1) Tryz.underlying152 hd hw 4 rfl rfl rfl pC oW
  obtain ⟨x5,e5,a5⟩:=Rd.fld (off:=6) (sz:=1) Tryz.underlying152 hd hw 5 rfl rfl rfl pC oW
  have h:cs.drop 0=bG ⟨x0,x1,x2,x3,x4,x5⟩:=by
    rw [bH cs 0 1 1 rfl,e0,bH cs 1 2 3 rfl,e1,bH cs 3 1 4 rfl,e2,bH cs 4 1 5 rfl,e3,bH cs 5 1 6 rfl,e4,bH cs 6 1 7 rfl,e5,List.drop_eq_nil_of_le (by omega)]; rfl
  exact ⟨⟨x0,x1,x2,x3,x4,x5⟩,h,trivial⟩⟩
theorem aeZ:Rd Tryz.prog 25 (fun x:Sl Fz.bZ=>[.slice x.a x.l.length x.c]) (tM Tryz.prog 7 72 bG (fun _ _=>True)):=g8 Tryz.underlying25 VP (by kernel_rfl) abQ dQ (by decide)
theorem af0:Tryz.prog.cellsOf 25=1:=by kernel_rfl
theorem VQ:Tryz.prog.cellsOf 160=4:=by kernel_rfl
theorem abR:Rd Tryz.prog 160 bU (fun _ _=>True):=⟨fun {H en w b fuel cs d p} hd hw=>by
  have hl:cs.length=4:=kC Tryz.underlying160 hd VQ
  obtain ⟨x0,e0,a0⟩:=Rd.fld (off:=0) (sz:=1) Tryz.underlying160 hd hw 0 rfl rfl rfl SM SL
  obtain ⟨x1,e1,a1⟩:=Rd.fld (off:=1) (sz:=2) Tryz.underlying160 hd hw 1 rfl rfl rfl pD qS
  obtain ⟨x2,e2,a2⟩:=Rd.fld (off:=3) (sz:=1) Tryz.underlying160 hd hw 2 rfl rfl rfl pC oW
  have h:cs.drop 0=bU ⟨x0,x1,x2⟩:=by
    rw [bH cs 0 1 1 rfl,e0,bH cs 1 2 3 rfl,e1,bH cs 3 1 4 rfl,e2,List.drop_eq_nil_of_le (by omega)]; rfl
  exact ⟨⟨x0,x1,x2⟩,h,trivial⟩⟩
theorem af1:Rd Tryz.prog 26 (fun x:Sl Fz.cX=>[.slice x.a x.l.length x.c]) (tM Tryz.prog 4 48 bU (fun _ _=>True)):=g8 Tryz.underlying26 VQ (by kernel_rfl) abR dF (by decide)
theorem af3:Tryz.prog.cellsOf 26=1:=by kernel_rfl
theorem GA:Tryz.prog.cellsOf 162=3:=by kernel_rfl
theorem KC:Rd Tryz.prog 162 dL (fun _ _=>True):=⟨fun {H en w b fuel cs d p} hd hw=>by
  have hl:cs.length=3:=kC Tryz.underlying162 hd GA
  obtain ⟨x0,e0,a0⟩:=Rd.fld (off:=0) (sz:=1) Tryz.underlying162 hd hw 0 rfl rfl rfl pC oW
  obtain ⟨x1,e1,a1⟩:=Rd.fld (off:=1) (sz:=1) Tryz.underlying162 hd hw 1 rfl rfl rfl pC oW
  obtain ⟨x2,e2,a2⟩:=Rd.fld (off:=2) (sz:=1) Tryz.underlying162 hd hw 2 rfl rfl rfl pC oW
  have h:cs.drop 0=dL ⟨x0,x1,x2⟩:=by
    rw [bH cs 0 1 1 rfl,e0,bH cs 1 1 2 rfl,e1,bH cs 2 1 3 rfl,e2,List.drop_eq_nil_of_le (by omega)]; rfl
  exact ⟨⟨x0,x1,x2⟩,h,trivial⟩⟩
theorem W2:Rd Tryz.prog 4 YJ (fun _ _=>True):=SE Tryz.underlying4
theorem W3:Tryz.prog.cellsOf 4=1:=by kernel_rfl
theorem OQ:Tryz.prog.cellsOf 163=7:=by kernel_rfl
theorem VR:Rd Tryz.prog 163 mE (fun _ _=>True):=⟨fun {H en w b fuel cs d p} hd hw=>by
  have hl:cs.length=7:=JG Tryz.underlying163 hd OQ
  obtain ⟨x0,e0,a0⟩:=Rd.elm Tryz.underlying163 hd hw 0 (by decide) W3 W2
  obtain ⟨x1,e1,a1⟩:=Rd.elm Tryz.underlying163 hd hw 1 (by decide) W3 W2
  obtain ⟨x2,e2,a2⟩:=Rd.elm Tryz.underlying163 hd hw 2 (by decide) W3 W2
  obtain ⟨x3,e3,a3⟩:=Rd.elm Tryz.underlying163 hd hw 3 (by decide) W3 W2
  obtain ⟨x4,e4,a4⟩:=Rd.elm Tryz.underlying163 hd hw 4 (by decide) W3 W2
  obtain ⟨x5,e5,a5⟩:=Rd.elm Tryz.underlying163 hd hw 5 (by decide) W3 W2
  obtain ⟨x6,e6,a6⟩:=Rd.elm Tryz.underlying163 hd hw 6 (by decide) W3 W2
  have h:cs.drop 0=mE ⟨x0,x1,x2,x3,x4,x5,x6⟩:=by
    rw [bH cs 0 1 1 rfl,show (cs.drop 0).take 1=_ from e0,bH cs 1 1 2 rfl,show (cs.drop 1).take 1=_ from e1,bH cs 2 1 3 rfl,show (cs.drop 2).take 1=_ from e2,bH cs 3 1 4 rfl,show (cs.drop 3).take 1=_ from e3,bH cs 4 1 5 rfl,show (cs.drop 4).take 1=_ from e4,bH cs 5 1 6 rfl,show (cs.drop 5).take 1=_ from e5,bH cs 6 1 7 rfl,show (cs.drop 6).take 1=_ from e6,List.drop_eq_nil_of_le (by omega)]; rfl
  exact ⟨⟨x0,x1,x2,x3,x4,x5,x6⟩,h,trivial⟩⟩
theorem VS:Tryz.prog.cellsOf 165=14:=by kernel_rfl
theorem abS:Rd Tryz.prog 165 dB (fun _ _=>True):=⟨fun {H en w b fuel cs d p} hd hw=>by
  have hl:cs.length=14:=kC Tryz.underlying165 hd VS
  obtain ⟨x0,e0,a0⟩:=Rd.fld (off:=0) (sz:=1) Tryz.underlying165 hd hw 0 rfl rfl rfl SM SL
  obtain ⟨x1,e1,a1⟩:=Rd.fld (off:=1) (sz:=3) Tryz.underlying165 hd hw 1 rfl rfl rfl GA KC
  obtain ⟨x2,e2,a2⟩:=Rd.fld (off:=4) (sz:=3) Tryz.underlying165 hd hw 2 rfl rfl rfl GA KC
  obtain ⟨x3,e3,a3⟩:=Rd.fld (off:=7) (sz:=7) Tryz.underlying165 hd hw 3 rfl rfl rfl OQ VR
  have h:cs.drop 0=dB ⟨x0,x1,x2,x3⟩:=by
    rw [bH cs 0 1 1 rfl,e0,bH cs 1 3 4 rfl,e1,bH cs 4 3 7 rfl,e2,bH cs 7 7 14 rfl,e3,List.drop_eq_nil_of_le (by omega)]; rfl
  exact ⟨⟨x0,x1,x2,x3⟩,h,trivial⟩⟩
theorem af4:Rd Tryz.prog 27 (fun x:Sl Fz.cQ=>[.slice x.a x.l.length x.c]) (tM Tryz.prog 14 72 dB (fun _ _=>True)):=g8 Tryz.underlying27 VS (by kernel_rfl) abS uK (by decide)
theorem af5:Tryz.prog.cellsOf 27=1:=by kernel_rfl
theorem VT:Tryz.prog.cellsOf 154=4:=by kernel_rfl
theorem abT:Rd Tryz.prog 154 gB (fun _ _=>True):=⟨fun {H en w b fuel cs d p} hd hw=>by
  have hl:cs.length=4:=kC Tryz.underlying154 hd VT
  obtain ⟨x0,e0,a0⟩:=Rd.fld (off:=0) (sz:=1) Tryz.underlying154 hd hw 0 rfl rfl rfl SM SL
  obtain ⟨x1,e1,a1⟩:=Rd.fld (off:=1) (sz:=1) Tryz.underlying154 hd hw 1 rfl rfl rfl pC oW
  obtain ⟨x2,e2,a2⟩:=Rd.fld (off:=2) (sz:=1) Tryz.underlying154 hd hw 2 rfl rfl rfl pC oW
  obtain ⟨x3,e3,a3⟩:=Rd.fld (off:=3) (sz:=1) Tryz.underlying154 hd hw 3 rfl rfl rfl pC oW
  have h:cs.drop 0=gB ⟨x0,x1,x2,x3⟩:=by
    rw [bH cs 0 1 1 rfl,e0,bH cs 1 1 2 rfl,e1,bH cs 2 1 3 rfl,e2,bH cs 3 1 4 rfl,e3,List.drop_eq_nil_of_le (by omega)]; rfl
  exact ⟨⟨x0,x1,x2,x3⟩,h,trivial⟩⟩
theorem af6:Rd Tryz.prog 28 (fun x:Sl Fz.j3=>[.slice x.a x.l.length x.c]) (tM Tryz.prog 4 40 gB (fun _ _=>True)):=g8 Tryz.underlying28 VT (by kernel_rfl) abT yY (by decide)
theorem af7:Tryz.prog.cellsOf 28=1:=by kernel_rfl
theorem abU:Tryz.prog.cellsOf 29=3:=by kernel_rfl
theorem af8:Rd Tryz.prog 29 lY (fun _ _=>True):=⟨fun {H en w b fuel cs d p} hd hw=>by
  have hl:cs.length=3:=JG Tryz.underlying29 hd abU
  obtain ⟨x0,e0,a0⟩:=Rd.elm Tryz.underlying29 hd hw 0 (by decide) pC oW
  obtain ⟨x1,e1,a1⟩:=Rd.elm Tryz.underlying29 hd hw 1 (by decide) pC oW
  obtain ⟨x2,e2,a2⟩:=Rd.elm Tryz.underlying29 hd hw 2 (by decide) pC oW
  have h:cs.drop 0=lY ⟨x0,x1,x2⟩:=by
    rw [bH cs 0 1 1 rfl,show (cs.drop 0).take 1=_ from e0,bH cs 1 1 2 rfl,show (cs.drop 1).take 1=_ from e1,bH cs 2 1 3 rfl,show (cs.drop 2).take 1=_ from e2,List.drop_eq_nil_of_le (by omega)]; rfl
  exact ⟨⟨x0,x1,x2⟩,h,trivial⟩⟩
theorem abV:Rd Tryz.prog 30 (fun x:Sl Int=>[.slice x.a x.l.length x.c]) (tM Tryz.prog 1 8 iO (fun _=>inI)):=g8 Tryz.underlying30 pC (by kernel_rfl) oW mF (by decide)
theorem abW:Tryz.prog.cellsOf 30=1:=by kernel_rfl
theorem abX:Rd Tryz.prog 155 (fun x:Sl Fz.cW=>[.slice x.a x.l.length x.c]) (tM Tryz.prog 2 24 bN (fun _ _=>True)):=g8 Tryz.underlying155 pD (by kernel_rfl) qS eI (by decide)
theorem abY:Tryz.prog.cellsOf 155=1:=by kernel_rfl
theorem VU:Tryz.prog.cellsOf 157=14:=by kernel_rfl
theorem abZ:Rd Tryz.prog 157 aK KB:=⟨fun {H en w b fuel cs d p} hd hw=>by
  have hl:cs.length=14:=kC Tryz.underlying157 hd VU
  obtain ⟨x0,e0,a0⟩:=Rd.fld (off:=0) (sz:=1) Tryz.underlying157 hd hw 0 rfl rfl rfl SM SL
  obtain ⟨x1,e1,a1⟩:=Rd.fld (off:=1) (sz:=1) Tryz.underlying157 hd hw 1 rfl rfl rfl pC oW
  obtain ⟨x2,e2,a2⟩:=Rd.fld (off:=2) (sz:=2) Tryz.underlying157 hd hw 2 rfl rfl rfl pD qS
  obtain ⟨x3,e3,a3⟩:=Rd.fld (off:=4) (sz:=1) Tryz.underlying157 hd hw 3 rfl rfl rfl abY abX
  obtain ⟨x4,e4,a4⟩:=Rd.fld (off:=5) (sz:=2) Tryz.underlying157 hd hw 4 rfl rfl rfl pD qS
  obtain ⟨x5,e5,a5⟩:=Rd.fld (off:=7) (sz:=1) Tryz.underlying157 hd hw 5 rfl rfl rfl abW abV
  obtain ⟨x6,e6,a6⟩:=Rd.fld (off:=8) (sz:=2) Tryz.underlying157 hd hw 6 rfl rfl rfl pD qS
  obtain ⟨x7,e7,a7⟩:=Rd.fld (off:=10) (sz:=2) Tryz.underlying157 hd hw 7 rfl rfl rfl pD qS
  obtain ⟨x8,e8,a8⟩:=Rd.fld (off:=12) (sz:=1) Tryz.underlying157 hd hw 8 rfl rfl rfl pC oW
  obtain ⟨x9,e9,a9⟩:=Rd.fld (off:=13) (sz:=1) Tryz.underlying157 hd hw 9 rfl rfl rfl pC oW
  have h:cs.drop 0=aK ⟨x0,x1,x2,x3.a,x3.l,x3.c,x4,x5.a,x5.l,x5.c,x6,x7,x8,x9⟩:=by
    rw [bH cs 0 1 1 rfl,e0,bH cs 1 1 2 rfl,e1,bH cs 2 2 4 rfl,e2,bH cs 4 1 5 rfl,e3,bH cs 5 2 7 rfl,e4,bH cs 7 1 8 rfl,e5,bH cs 8 2 10 rfl,e6,bH cs 10 2 12 rfl,e7,bH cs 12 1 13 rfl,e8,bH cs 13 1 14 rfl,e9,List.drop_eq_nil_of_le (by omega)]; rfl
  exact ⟨⟨x0,x1,x2,x3.a,x3.l,x3.c,x4,x5.a,x5.l,x5.c,x6,x7,x8,x9⟩,h,⟨a3.row,a5.row⟩⟩⟩
theorem af9:Rd Tryz.prog 31 (fun x:Sl Fz.aX=>[.slice x.a x.l.length x.c]) (tM Tryz.prog 14 184 aK KB):=g8 Tryz.underlying31 VU (by kernel_rfl) abZ cV (by decide)
theorem afA:Tryz.prog.cellsOf 31=1:=by kernel_rfl
theorem VV:Tryz.prog.cellsOf 178=21:=by kernel_rfl
theorem ac0:Rd Tryz.prog 178 aV (fun _ _=>True):=⟨fun {H en w b fuel cs d p} hd hw=>by
  have hl:cs.length=21:=kC Tryz.underlying178 hd VV
  obtain ⟨x0,e0,a0⟩:=Rd.fld (off:=0) (sz:=1) Tryz.underlying178 hd hw 0 rfl rfl rfl SM SL
  obtain ⟨x1,e1,a1⟩:=Rd.fld (off:=1) (sz:=1) Tryz.underlying178 hd hw 1 rfl rfl rfl pC oW
  obtain ⟨x2,e2,a2⟩:=Rd.fld (off:=2) (sz:=2) Tryz.underlying178 hd hw 2 rfl rfl rfl pD qS
  obtain ⟨x3,e3,a3⟩:=Rd.fld (off:=4) (sz:=2) Tryz.underlying178 hd hw 3 rfl rfl rfl pD qS
  obtain ⟨x4,e4,a4⟩:=Rd.fld (off:=6) (sz:=1) Tryz.underlying178 hd hw 4 rfl rfl rfl pC oW
  obtain ⟨x5,e5,a5⟩:=Rd.fld (off:=7) (sz:=3) Tryz.underlying178 hd hw 5 rfl rfl rfl GA KC
  obtain ⟨x6,e6,a6⟩:=Rd.fld (off:=10) (sz:=3) Tryz.underlying178 hd hw 6 rfl rfl rfl GA KC
  obtain ⟨x7,e7,a7⟩:=Rd.fld (off:=13) (sz:=7) Tryz.underlying178 hd hw 7 rfl rfl rfl OQ VR
  obtain ⟨x8,e8,a8⟩:=Rd.fld (off:=20) (sz:=1) Tryz.underlying178 hd hw 8 rfl rfl rfl pC oW
  have h:cs.drop 0=aV ⟨x0,x1,x2,x3,x4,x5,x6,x7,x8⟩:=by
    rw [bH cs 0 1 1 rfl,e0,bH cs 1 1 2 rfl,e1,bH cs 2 2 4 rfl,e2,bH cs 4 2 6 rfl,e3,bH cs 6 1 7 rfl,e4,bH cs 7 3 10 rfl,e5,bH cs 10 3 13 rfl,e6,bH cs 13 7 20 rfl,e7,bH cs 20 1 21 rfl,e8,List.drop_eq_nil_of_le (by omega)]; rfl
  exact ⟨⟨x0,x1,x2,x3,x4,x5,x6,x7,x8⟩,h,trivial⟩⟩
theorem afB:Rd Tryz.prog 32 (fun x:Sl Fz.cJ=>[.slice x.a x.l.length x.c]) (tM Tryz.prog 21 144 aV (fun _ _=>True)):=g8 Tryz.underlying32 VV (by kernel_rfl) ac0 eR (by decide)
theorem afC:Tryz.prog.cellsOf 32=1:=by kernel_rfl
theorem afD:Tryz.prog.cellsOf 34=15:=by kernel_rfl
theorem afE:Rd Tryz.prog 34 aB LeagueAt:=⟨fun {H en w b fuel cs d p} hd hw=>by
  have hl:cs.length=15:=kC Tryz.underlying34 hd afD
  obtain ⟨x0,e0,a0⟩:=Rd.fld (off:=0) (sz:=1) Tryz.underlying34 hd hw 0 rfl rfl rfl SM SL
  obtain ⟨x1,e1,a1⟩:=Rd.fld (off:=1) (sz:=1) Tryz.underlying34 hd hw 1 rfl rfl rfl aeU aeT
  obtain ⟨x2,e2,a2⟩:=Rd.fld (off:=2) (sz:=1) Tryz.underlying34 hd hw 2 rfl rfl rfl aeW aeV
  obtain ⟨x3,e3,a3⟩:=Rd.fld (off:=3) (sz:=1) Tryz.underlying34 hd hw 3 rfl rfl rfl aeY aeX
  obtain ⟨x4,e4,a4⟩:=Rd.fld (off:=4) (sz:=1) Tryz.underlying34 hd hw 4 rfl rfl rfl af0 aeZ
  obtain ⟨x5,e5,a5⟩:=Rd.fld (off:=5) (sz:=1) Tryz.underlying34 hd hw 5 rfl rfl rfl af3 af1
  obtain ⟨x6,e6,a6⟩:=Rd.fld (off:=6) (sz:=1) Tryz.underlying34 hd hw 6 rfl rfl rfl af5 af4
  obtain ⟨x7,e7,a7⟩:=Rd.fld (off:=7) (sz:=1) Tryz.underlying34 hd hw 7 rfl rfl rfl af7 af6
  obtain ⟨x8,e8,a8⟩:=Rd.fld (off:=8) (sz:=1) Tryz.underlying34 hd hw 8 rfl rfl rfl pC oW
  obtain ⟨x9,e9,a9⟩:=Rd.fld (off:=9) (sz:=3) Tryz.underlying34 hd hw 9 rfl rfl rfl abU af8
  obtain ⟨x10,e10,a10⟩:=Rd.fld (off:=12) (sz:=1) Tryz.underlying34 hd hw 10 rfl rfl rfl abW abV
  obtain ⟨x11,e11,a11⟩:=Rd.fld (off:=13) (sz:=1) Tryz.underlying34 hd hw 11 rfl rfl rfl afA af9
  obtain ⟨x12,e12,a12⟩:=Rd.fld (off:=14) (sz:=1) Tryz.underlying34 hd hw 12 rfl rfl rfl afC afB
  have h:cs.drop 0=aB ⟨x0,x1.a,x1.l,x1.c,x2.a,x2.l,x2.c,x3.a,x3.l,x3.c,x4.a,x4.l,x4.c,x5.a,x5.l,x5.c,x6.a,x6.l,x6.c,x7.a,x7.l,x7.c,x8,x9,x10.a,x10.l,x10.c,x11.a,x11.l,x11.c,x12.a,x12.l,x12.c⟩:=by
    rw [bH cs 0 1 1 rfl,e0,bH cs 1 1 2 rfl,e1,bH cs 2 1 3 rfl,e2,bH cs 3 1 4 rfl,e3,bH cs 4 1 5 rfl,e4,bH cs 5 1 6 rfl,e5,bH cs 6 1 7 rfl,e6,bH cs 7 1 8 rfl,e7,bH cs 8 1 9 rfl,e8,bH cs 9 3 12 rfl,e9,bH cs 12 1 13 rfl,e10,bH cs 13 1 14 rfl,e11,bH cs 14 1 15 rfl,e12,List.drop_eq_nil_of_le (by omega)]; rfl
  exact ⟨⟨x0,x1.a,x1.l,x1.c,x2.a,x2.l,x2.c,x3.a,x3.l,x3.c,x4.a,x4.l,x4.c,x5.a,x5.l,x5.c,x6.a,x6.l,x6.c,x7.a,x7.l,x7.c,x8,x9,x10.a,x10.l,x10.c,x11.a,x11.l,x11.c,x12.a,x12.l,x12.c⟩,h,⟨a1.row,a2.row,a3.row,a4.row,a5.row,a6.row,a7.row,a10.row,a11.row,a12.row,fun p hp=>(a11.all p hp).1,fun p hp=>(a11.all p hp).2,(by have h1:=a1.reach; have h2:=a1.cap; have:reachBytes=140737488351232:=rfl; show x1.l.length≤_; omega),(by have h1:=a4.reach; have h2:=a4.cap; have:reachBytes=140737488351232:=rfl; show x4.l.length≤_; omega),(by have h1:=a5.reach; have h2:=a5.cap; have:reachBytes=140737488351232:=rfl; show x5.l.length≤_; omega),(by have h1:=a6.reach; have h2:=a6.cap; have:reachBytes=140737488351232:=rfl; show x6.l.length≤_; omega),(by have h1:=a7.reach; have h2:=a7.cap; have:reachBytes=140737488351232:=rfl; show x7.l.length≤_; omega),(by have h1:=a11.reach; have h2:=a11.cap; have:reachBytes=140737488351232:=rfl; show x11.l.length≤_; omega),(by have h1:=a12.reach; have h2:=a12.cap; have:reachBytes=140737488351232:=rfl; show x12.l.length≤_; omega),a10.cap⟩⟩⟩
theorem W4:Tryz.prog.cellsOf 60=3:=by kernel_rfl
theorem ac1:Rd Tryz.prog 60 j4 (fun _ _=>True):=⟨fun {H en w b fuel cs d p} hd hw=>by
  have hl:cs.length=3:=kC Tryz.underlying60 hd W4
  obtain ⟨x0,e0,a0⟩:=Rd.fld (off:=0) (sz:=1) Tryz.underlying60 hd hw 0 rfl rfl rfl pC oW
  obtain ⟨x1,e1,a1⟩:=Rd.fld (off:=1) (sz:=1) Tryz.underlying60 hd hw 1 rfl rfl rfl pC oW
  obtain ⟨x2,e2,a2⟩:=Rd.fld (off:=2) (sz:=1) Tryz.underlying60 hd hw 2 rfl rfl rfl pC oW
  have h:cs.drop 0=j4 ⟨x0,x1,x2⟩:=by
    rw [bH cs 0 1 1 rfl,e0,bH cs 1 1 2 rfl,e1,bH cs 2 1 3 rfl,e2,List.drop_eq_nil_of_le (by omega)]; rfl
  exact ⟨⟨x0,x1,x2⟩,h,trivial⟩⟩
theorem ac2:Tryz.prog.cellsOf 62=9:=by kernel_rfl
theorem afF:Rd Tryz.prog 62 cA (fun _ _=>True):=⟨fun {H en w b fuel cs d p} hd hw=>by
  have hl:cs.length=9:=kC Tryz.underlying62 hd ac2
  obtain ⟨x0,e0,a0⟩:=Rd.fld (off:=0) (sz:=1) Tryz.underlying62 hd hw 0 rfl rfl rfl pC oW
  obtain ⟨x1,e1,a1⟩:=Rd.fld (off:=1) (sz:=1) Tryz.underlying62 hd hw 1 rfl rfl rfl pC oW
  obtain ⟨x2,e2,a2⟩:=Rd.fld (off:=2) (sz:=1) Tryz.underlying62 hd hw 2 rfl rfl rfl pC oW
  obtain ⟨x3,e3,a3⟩:=Rd.fld (off:=3) (sz:=3) Tryz.underlying62 hd hw 3 rfl rfl rfl W4 ac1
  obtain ⟨x4,e4,a4⟩:=Rd.fld (off:=6) (sz:=3) Tryz.underlying62 hd hw 4 rfl rfl rfl W4 ac1
  have h:cs.drop 0=cA ⟨x0,x1,x2,x3,x4⟩:=by
    rw [bH cs 0 1 1 rfl,e0,bH cs 1 1 2 rfl,e1,bH cs 2 1 3 rfl,e2,bH cs 3 3 6 rfl,e3,bH cs 6 3 9 rfl,e4,List.drop_eq_nil_of_le (by omega)]; rfl
  exact ⟨⟨x0,x1,x2,x3,x4⟩,h,trivial⟩⟩
theorem afG:Rd Tryz.prog 35 (fun x:Sl Fz.dP=>[.slice x.a x.l.length x.c]) (tM Tryz.prog 9 72 cA (fun _ _=>True)):=g8 Tryz.underlying35 ac2 (by kernel_rfl) afF yZ (by decide)
theorem ac3:Tryz.prog.cellsOf 57=3:=by kernel_rfl
theorem afH:Rd Tryz.prog 57 bB (fun _ _=>True):=⟨fun {H en w b fuel cs d p} hd hw=>by
  have hl:cs.length=3:=kC Tryz.underlying57 hd ac3
  obtain ⟨x0,e0,a0⟩:=Rd.fld (off:=0) (sz:=1) Tryz.underlying57 hd hw 0 rfl rfl rfl pC oW
  obtain ⟨x1,e1,a1⟩:=Rd.fld (off:=1) (sz:=1) Tryz.underlying57 hd hw 1 rfl rfl rfl pC oW
  obtain ⟨x2,e2,a2⟩:=Rd.fld (off:=2) (sz:=1) Tryz.underlying57 hd hw 2 rfl rfl rfl pC oW
  have h:cs.drop 0=bB ⟨x0,x1,x2⟩:=by
    rw [bH cs 0 1 1 rfl,e0,bH cs 1 1 2 rfl,e1,bH cs 2 1 3 rfl,e2,List.drop_eq_nil_of_le (by omega)]; rfl
  exact ⟨⟨x0,x1,x2⟩,h,trivial⟩⟩
theorem afI:Rd Tryz.prog 36 (fun x:Sl Fz.bK=>[.slice x.a x.l.length x.c]) (tM Tryz.prog 3 24 bB (fun _ _=>True)):=g8 Tryz.underlying36 ac3 (by kernel_rfl) afH sM (by decide)
theorem ac4:Tryz.prog.cellsOf 43=7:=by kernel_rfl
theorem afJ:Rd Tryz.prog 43 bE (fun _ _=>True):=⟨fun {H en w b fuel cs d p} hd hw=>by
  have hl:cs.length=7:=kC Tryz.underlying43 hd ac4
  obtain ⟨x0,e0,a0⟩:=Rd.fld (off:=0) (sz:=1) Tryz.underlying43 hd hw 0 rfl rfl rfl pC oW
  obtain ⟨x1,e1,a1⟩:=Rd.fld (off:=1) (sz:=1) Tryz.underlying43 hd hw 1 rfl rfl rfl pC oW
  obtain ⟨x2,e2,a2⟩:=Rd.fld (off:=2) (sz:=1) Tryz.underlying43 hd hw 2 rfl rfl rfl pC oW
  obtain ⟨x3,e3,a3⟩:=Rd.fld (off:=3) (sz:=1) Tryz.underlying43 hd hw 3 rfl rfl rfl pC oW
  obtain ⟨x4,e4,a4⟩:=Rd.fld (off:=4) (sz:=1) Tryz.underlying43 hd hw 4 rfl rfl rfl pC oW
  obtain ⟨x5,e5,a5⟩:=Rd.fld (off:=5) (sz:=1) Tryz.underlying43 hd hw 5 rfl rfl rfl pC oW
  obtain ⟨x6,e6,a6⟩:=Rd.fld (off:=6) (sz:=1) Tryz.underlying43 hd hw 6 rfl rfl rfl pC oW
  have h:cs.drop 0=bE ⟨x0,x1,x2,x3,x4,x5,x6⟩:=by
    rw [bH cs 0 1 1 rfl,e0,bH cs 1 1 2 rfl,e1,bH cs 2 1 3 rfl,e2,bH cs 3 1 4 rfl,e3,bH cs 4 1 5 rfl,e4,bH cs 5 1 6 rfl,e5,bH cs 6 1 7 rfl,e6,List.drop_eq_nil_of_le (by omega)]; rfl
  exact ⟨⟨x0,x1,x2,x3,x4,x5,x6⟩,h,trivial⟩⟩
theorem afK:Rd Tryz.prog 37 (fun x:Sl Fz.bX=>[.slice x.a x.l.length x.c]) (tM Tryz.prog 7 56 bE (fun _ _=>True)):=g8 Tryz.underlying37 ac4 (by kernel_rfl) afJ gN (by decide)
end Go.Proofs.YtfffbdmdllgalaaGreatDoor
namespace Go.Proofs.YtfffbdmdllgalaaGreatDoor
open Go Go.RowKit Go.Fz
set_option maxRecDepth 10000
theorem ac5:ElemT Tryz.prog 23 205 5 56:=ElemT.of' Tryz.underlying23 (by kernel_rfl)
theorem ac6:ElemT Tryz.prog 24 207 3 32:=ElemT.of' Tryz.underlying24 (by kernel_rfl)
theorem ac7:ElemT Tryz.prog 25 152 7 72:=ElemT.of' Tryz.underlying25 (by kernel_rfl)
theorem OR:ElemT Tryz.prog 26 160 4 48:=ElemT.of' Tryz.underlying26 (by kernel_rfl)
theorem afL:ElemT Tryz.prog 30 3 1 8:=ElemT.of' Tryz.underlying30 (by kernel_rfl)
theorem ac8:ElemT Tryz.prog 31 157 14 184:=ElemT.of' Tryz.underlying31 (by kernel_rfl)
theorem ac9:ElemT Tryz.prog 32 178 21 144:=ElemT.of' Tryz.underlying32 (by kernel_rfl)
theorem GB:ElemT Tryz.prog 155 148 2 24:=ElemT.of' Tryz.underlying155 (by kernel_rfl)
theorem oF:ElemT Tryz.prog 158 9 1 16:=ElemT.of' Tryz.underlying158 (by kernel_rfl)
theorem zR:ElemT Tryz.prog 236 237 1 8:=ElemT.of' Tryz.underlying236 (by kernel_rfl)
end Go.Proofs.YtfffbdmdllgalaaGreatDoor
namespace Go.Proofs.YtfffbdmdllgalaaGreatDoor
open Go Go.RowKit Go.Fz
set_option maxRecDepth 10000
theorem gO (n:Int) (lo:Int) (hi:Int) (w:World):Calls Tryz.prog 70 #[I n,I lo,I hi] w (eB (Bo (aG n lo hi)) w):=by
 refine dX [I n,I lo,I hi] Tryz.func70 rfl rfl rfl rfl fun _ s0=>zs s0 [0,1,2] [(0,I n),(1,I lo),(2,I hi)] qe fun _ w2 s3=>zs s3 [6] [(6,Bo ((decide (lo≤n))&&(decide (n≤hi))))] qe fun _ w5 s6=>aC<|pR [Bo ((decide (lo≤n))&&(decide (n≤hi)))] rfl s6 ⟨rfl,trivial⟩<|?_
 exact aW s6 rfl
theorem j1 (n:Int) (lo:Int) (hi:Int) (w:World):Calls Tryz.prog 81 #[I n,I lo,I hi] w (eB (Bo (aG n lo hi)) w):=by
 refine dX [I n,I lo,I hi] Tryz.func81 rfl rfl rfl rfl fun _ s0=>zs s0 [0,1,2] [(0,I n),(1,I lo),(2,I hi)] qe fun _ w2 s3=>zs s3 [6] [(6,Bo ((decide (n≥lo))&&(decide (n≤hi))))] qe fun _ w5 s6=>aC<|pR [Bo ((decide (n≥lo))&&(decide (n≤hi)))] rfl s6 ⟨rfl,trivial⟩<|?_
 exact aW s6 rfl
theorem d7 (n:Int) (lo:Int) (hi:Int) (w:World):Calls Tryz.prog 162 #[I n,I lo,I hi] w (eB (Bo (aG n lo hi)) w):=by
 refine dX [I n,I lo,I hi] Tryz.func162 rfl rfl rfl rfl fun _ s0=>zs s0 [0,1,2] [(0,I n),(1,I lo),(2,I hi)] qe fun _ w2 s3=>zs s3 [6] [(6,Bo ((decide (n≥lo))&&(decide (n≤hi))))] qe fun _ w5 s6=>aC<|pR [Bo ((decide (n≥lo))&&(decide (n≤hi)))] rfl s6 ⟨rfl,trivial⟩<|?_
 exact aW s6 rfl
theorem DO (k:Int) (w:World):Calls Tryz.prog 154 #[I k] w (eB (Bo (eY k)) w):=by
 refine dX [I k] Tryz.func154 rfl rfl rfl rfl fun _ s0=>zs s0 [0] [(0,I k)] qe fun _ w2 s3=>zs s3 [2] [(2,Bo ((decide (k≥1))&&(decide (k≤3))))] qe fun _ w5 s6=>aC<|pR [Bo ((decide (k≥1))&&(decide (k≤3)))] rfl s6 ⟨rfl,trivial⟩<|?_
 exact aW s6 rfl
theorem zS (k:Int) (w:World):Calls Tryz.prog 164 #[I k] w (eB (Bo (eY k)) w):=by
 refine dX [I k] Tryz.func164 rfl rfl rfl rfl fun _ s0=>zs s0 [0] [(0,I k)] qe fun _ w2 s3=>zs s3 [2] [(2,Bo (((k==1)||(k==2))||(k==3)))] qe fun _ w5 s6=>aC<|pR [Bo (((k==1)||(k==2))||(k==3))] rfl s6 ⟨rfl,trivial⟩<|?_
 exact aW s6 (congrArg Bo (NU k))
theorem SN (k:Int) (w:World):Calls Tryz.prog 169 #[I k] w (eB (Bo (rD k)) w):=by
 refine dX [I k] Tryz.func169 rfl rfl rfl rfl fun _ s0=>zs s0 [0] [(0,I k)] qe fun _ w2 s3=>zs s3 [2] [(2,Bo (((((k==4)||(k==5))||(k==8))||(k==9))||(k==10)))] qe fun _ w5 s6=>aC<|pR [Bo (((((k==4)||(k==5))||(k==8))||(k==9))||(k==10))] rfl s6 ⟨rfl,trivial⟩<|?_
 exact aW s6 rfl
theorem OS (n:Int) (w:World):Calls Tryz.prog 144 #[I n] w (eB (Bo (xK n)) w):=by
 refine dX [I n] Tryz.func144 rfl rfl rfl rfl fun _ s0=>zs s0 [0] [(0,I n)] qe fun _ w2 s3=>zs s3 [2] [(2,Bo ((decide (n≥0))&&(decide (n≤73048))))] qe fun _ w5 s6=>aC<|pR [Bo ((decide (n≥0))&&(decide (n≤73048)))] rfl s6 ⟨rfl,trivial⟩<|?_
 exact aW s6 rfl
theorem acA (n:Int) (w:World):Calls Tryz.prog 196 #[I n] w (eB (Bo (xK n)) w):=by
 refine dX [I n] Tryz.func196 rfl rfl rfl rfl fun _ s0=>zs s0 [0] [(0,I n)] qe fun _ w2 s3=>zs s3 [2] [(2,Bo ((decide (n≥0))&&(decide (n≤73048))))] qe fun _ w5 s6=>aC<|pR [Bo ((decide (n≥0))&&(decide (n≤73048)))] rfl s6 ⟨rfl,trivial⟩<|?_
 exact aW s6 rfl
theorem H9 (y:Int) (w:World):Calls Tryz.prog 228 #[I y] w (eB (Bo (g5 y)) w):=by
 refine dX [I y] Tryz.func228 rfl rfl rfl rfl fun _ s0=>zs s0 [0] [(0,I y)] qe fun _ w2 s3=>zs s3 [2] [(2,Bo (((Int.tmod y 4)==0)&&(y != 2100)))] (qo (RO (P:=Tryz.prog) w2 3 y 4 (by omega))<|qe) fun _ w5 s6=>aC<|pR [Bo (((Int.tmod y 4)==0)&&(y != 2100))] rfl s6 ⟨rfl,trivial⟩<|?_
 exact aW s6 rfl
theorem GC (y:Int) (m:Int) (w:World):Calls Tryz.prog 208 #[I y,I m] w (eB (I (fL y m)) w):=by
 refine dX [I y,I m] Tryz.func208 rfl rfl rfl rfl fun _ s0=>zs s0 [0,1] [(0,I y),(1,I m)] qe fun _ w2 s3=>wp_seq<|zs s3 [0,1,6] [(6,Bo (m==2))] qe fun _ w5 s6=>bA s6.f rfl (fun h7=>?_) (fun h7=>?_)
 ·refine wp_seq<|zs s6 [13] [(13,Bo (((Int.tmod y 4)==0)&&(y != 2100)))] (qo (RO (P:=Tryz.prog) w5 3 y 4 (by omega))<|qe) fun _ w9 s10=>cO s10.f rfl (fun h11=>?_) (fun h11=>?_)
  ·refine zs s10 [4] [(4,I 29)] qe fun _ w13 s14=>aC<|aN (aN (pR [I 29] rfl s14 ⟨rfl,trivial⟩ ?_))
   exact aW s14 (by rw [fL,if_pos (by simpa [g5] using h7),if_pos (by simpa [g5] using h11)])
  refine wp_skip<|aD<|zs s10 [4] [(4,I 28)] qe fun _ w16 s17=>aC<|aN (pR [I 28] rfl s17 ⟨rfl,trivial⟩ ?_)
  exact aW s17 (by rw [fL,if_pos (by simpa [g5] using h7),if_neg (by simpa [g5] using h11)])
 refine wp_skip<|aD<|wp_seq<|zs s6 [27] [(27,Bo ((((m==4)||(m==6))||(m==9))||(m==11)))] qe fun _ w19 s20=>cO s20.f rfl (fun h21=>?_) (fun h21=>?_)
 ·refine zs s20 [4] [(4,I 30)] qe fun _ w23 s24=>aC<|aN (pR [I 30] rfl s24 ⟨rfl,trivial⟩ ?_)
  exact aW s24 (by rw [fL,if_neg (by simpa [g5] using h7),if_pos (by simpa [g5] using h21)])
 refine wp_skip<|aD<|zs s20 [4] [(4,I 31)] qe fun _ w26 s27=>aC<|pR [I 31] rfl s27 ⟨rfl,trivial⟩<|?_
 exact aW s27 (by rw [fL,if_neg (by simpa [g5] using h7),if_neg (by simpa [g5] using h21)])
theorem LP (n:Int) (w:World):Calls Tryz.prog 157 #[I n] w (eB (.tuple #[I (vT n),I (RI n)]) w):=by
 refine dX [I n] Tryz.func157 rfl rfl rfl rfl fun _ s0=>zs s0 [0] [(0,I n)] qe fun _ w2 s3=>wp_seq<|zs s3 [0,6] [(6,Bo (!(xK n)))] (qo (yc w2 aaQ fun w' hb=>acA n w')<|qe) fun _ w5 s6=>bR s6.f rfl (fun h7=>?_) (fun h7=>?_)
 ·refine zs s6 [2,3] [(2,I 0),(3,I 1)] qe fun _ w9 s10=>aC<|aN (pR [I 0,I 1] rfl s10 ⟨rfl,rfl,trivial⟩ ?_)
  exact gX s10 (by simp [vT,RI,h7]) (by simp [vT,RI,h7])
 refine wp_skip<|aD<|wp_seq<|?_
 have hday:=uL.1 h7
 refine dU s6 [2,3] [201] [(3,I 0)] (qo (wr (n+5) (n+5) (by omega))<|qo (RO (P:=Tryz.prog) w5 3 (n+5) 7 (by omega))<|qe) fun _ w12 s13=>aD<|aC<|pR [I (Int.tmod (n+5) 7),I 0] rfl s13 ⟨rfl,rfl,trivial⟩<|?_
 exact gX s13 (by simp [vT,RI,h7]) (by simp [vT,RI,h7])
theorem IA (n:Int) (w:World):Calls Tryz.prog 206 #[I n] w (eB (.tuple #[I (vT n),I (RI n)]) w):=by
 refine dX [I n] Tryz.func206 rfl rfl rfl rfl fun _ s0=>zs s0 [0] [(0,I n)] qe fun _ w2 s3=>wp_seq<|zs s3 [0,6] [(6,Bo (!(xK n)))] (qo (yc w2 VC fun w' hb=>OS n w')<|qe) fun _ w5 s6=>bR s6.f rfl (fun h7=>?_) (fun h7=>?_)
 ·refine zs s6 [2,3] [(2,I 0),(3,I 1)] qe fun _ w9 s10=>aC<|aN (pR [I 0,I 1] rfl s10 ⟨rfl,rfl,trivial⟩ ?_)
  exact gX s10 (by simp [vT,RI,h7]) (by simp [vT,RI,h7])
 refine wp_skip<|aD<|wp_seq<|?_
 have hday:=uL.1 h7
 refine dU s6 [2,3] [201] [(3,I 0)] (qo (wr (n+5) (n+5) (by omega))<|qo (RO (P:=Tryz.prog) w5 3 (n+5) 7 (by omega))<|qe) fun _ w12 s13=>aD<|aC<|pR [I (Int.tmod (n+5) 7),I 0] rfl s13 ⟨rfl,rfl,trivial⟩<|?_
 exact gX s13 (by simp [vT,RI,h7]) (by simp [vT,RI,h7])
theorem GD (c:Int) (w:World):Calls Tryz.prog 236 #[.int .u8 c] w (eB (Bo (j5 c)) w):=by
 refine dX [.int .u8 c] Tryz.func236 rfl rfl rfl rfl fun _ s0=>zs s0 [0] [(0,.int .u8 c)] qe fun _ w2 s3=>zs s3 [2] [(2,Bo (((decide (c≥97))&&(decide (c≤122)))||((decide (c≥65))&&(decide (c≤90)))))] qe fun _ w5 s6=>aC<|pR [Bo (((decide (c≥97))&&(decide (c≤122)))||((decide (c≥65))&&(decide (c≤90))))] rfl s6 ⟨rfl,trivial⟩<|?_
 exact aW s6 rfl
theorem OT (c:Int) (w:World):Calls Tryz.prog 240 #[.int .u8 c] w (eB (Bo (uM c)) w):=by
 refine dX [.int .u8 c] Tryz.func240 rfl rfl rfl rfl fun _ s0=>zs s0 [0] [(0,.int .u8 c)] qe fun _ w2 s3=>zs s3 [2] [(2,Bo ((decide (c≥48))&&(decide (c≤57))))] qe fun _ w5 s6=>aC<|pR [Bo ((decide (c≥48))&&(decide (c≤57)))] rfl s6 ⟨rfl,trivial⟩<|?_
 exact aW s6 rfl
theorem W5 (c:Int) (w:World):Calls Tryz.prog 237 #[.int .u8 c] w (eB (Bo (n8 c)) w):=by
 refine dX [.int .u8 c] Tryz.func237 rfl rfl rfl rfl fun _ s0=>zs s0 [0] [(0,.int .u8 c)] qe fun _ w2 s3=>zs s3 [2] [(2,Bo (((j5 c)||(uM c))||(c==95)))] (qo (yc w2 VL fun w' hb=>GD c w')<|qo (yc w2 abM fun w' hb=>OT c w')<|qe) fun _ w5 s6=>aC<|pR [Bo (((j5 c)||(uM c))||(c==95))] rfl s6 ⟨rfl,trivial⟩<|?_
 exact aW s6 rfl
theorem fY (x:cW) (w:World):Calls Tryz.prog 232 #[.agg (bN x).toArray] w (eB (Bo (aT x)) w):=by
 refine dX [.agg (bN x).toArray] Tryz.func232 rfl rfl rfl rfl fun _ s0=>wp_seq<|aA<|lb s0 0 _ rfl rfl rfl rfl fun B1 a2 w3 s4=>zl s4 [1] [(1,Pt B1 0)] 1 1 qe fun _ w6 s7=>aR rfl<|aD<|zs s7 [2] [(2,Bo ((decide (x.name=(⟨#[]⟩:ByteArray)))&&(x.n==(-1))))] (qo (fa w6 B1 0 oD)<|qo (s7.m.ld 9 0 0 qQ rfl rfl)<|qo (yI x.name (⟨#[]⟩:ByteArray))<|qo (fa w6 B1 0 dC)<|qo (s7.m.ld 3 0 1 bM rfl rfl)<|qe) fun _ w9 s10=>aC<|pR [Bo ((decide (x.name=(⟨#[]⟩:ByteArray)))&&(x.n==(-1)))] rfl s10 ⟨rfl,trivial⟩<|?_
 exact aW s10 rfl
theorem DQ (x:dP) (t:Int) (w:World):Calls Tryz.prog 127 #[.agg (cA x).toArray,I t] w (eB (Bo (nM x t)) w):=by
 refine dX [.agg (cA x).toArray,I t] Tryz.func127 rfl rfl rfl rfl fun _ s0=>wp_seq<|aA<|lb s0 0 _ rfl rfl rfl rfl fun B1 a2 w3 s4=>zl s4 [1,2] [(1,I t),(2,Pt B1 0)] 1 1 qe fun _ w6 s7=>aR rfl<|aD<|zs s7 [4] [(4,Bo ((x.home.n==t)||(x.away.n==t)))] (qo (fa w6 B1 0 p6)<|qo (fa w6 B1 3 kF)<|qo (s7.m.ld 3 0 4 bM rfl rfl)<|qo (fa w6 B1 0 p7)<|qo (fa w6 B1 6 kF)<|qo (s7.m.ld 3 0 7 bM rfl rfl)<|qe) fun _ w9 s10=>aC<|pR [Bo ((x.home.n==t)||(x.away.n==t))] rfl s10 ⟨rfl,trivial⟩<|?_
 exact aW s10 rfl
theorem zT (x:dP) (t:Int) (w:World):Calls Tryz.prog 140 #[.agg (cA x).toArray,I t] w (eB (Bo (nN x t)) w):=by
 refine dX [.agg (cA x).toArray,I t] Tryz.func140 rfl rfl rfl rfl fun _ s0=>wp_seq<|aA<|lb s0 0 _ rfl rfl rfl rfl fun B1 a2 w3 s4=>zl s4 [1,2] [(1,I t),(2,Pt B1 0)] 1 1 qe fun _ w6 s7=>aR rfl<|aD<|zs s7 [4] [(4,Bo (((x.home.kind==1)&&(x.home.n==t))||((x.away.kind==1)&&(x.away.n==t))))] (qo (fa w6 B1 0 p6)<|qo (fa w6 B1 3 rO)<|qo (s7.m.ld 3 0 3 bM rfl rfl)<|qo (fa w6 B1 0 p6)<|qo (fa w6 B1 3 kF)<|qo (s7.m.ld 3 0 4 bM rfl rfl)<|qo (fa w6 B1 0 p7)<|qo (fa w6 B1 6 rO)<|qo (s7.m.ld 3 0 6 bM rfl rfl)<|qo (fa w6 B1 0 p7)<|qo (fa w6 B1 6 kF)<|qo (s7.m.ld 3 0 7 bM rfl rfl)<|qe) fun _ w9 s10=>aC<|pR [Bo (((x.home.kind==1)&&(x.home.n==t))||((x.away.kind==1)&&(x.away.n==t)))] rfl s10 ⟨rfl,trivial⟩<|?_
 exact aW s10 rfl
theorem OU (x:dP) (w:World):Calls Tryz.prog 143 #[.agg (cA x).toArray] w (eB (Bo (rE x)) w):=by
 refine dX [.agg (cA x).toArray] Tryz.func143 rfl rfl rfl rfl fun _ s0=>wp_seq<|aA<|lb s0 0 _ rfl rfl rfl rfl fun B1 a2 w3 s4=>zl s4 [1] [(1,Pt B1 0)] 1 1 qe fun _ w6 s7=>aR rfl<|aD<|zs s7 [2] [(2,Bo ((x.home.kind==1)&&(x.away.kind==1)))] (qo (fa w6 B1 0 p6)<|qo (fa w6 B1 3 rO)<|qo (s7.m.ld 3 0 3 bM rfl rfl)<|qo (fa w6 B1 0 p7)<|qo (fa w6 B1 6 rO)<|qo (s7.m.ld 3 0 6 bM rfl rfl)<|qe) fun _ w9 s10=>aC<|pR [Bo ((x.home.kind==1)&&(x.away.kind==1))] rfl s10 ⟨rfl,trivial⟩<|?_
 exact aW s10 rfl
theorem OV (x:dP) (w:World):Calls Tryz.prog 173 #[.agg (cA x).toArray] w (eB (Bo (rE x)) w):=by
 refine dX [.agg (cA x).toArray] Tryz.func173 rfl rfl rfl rfl fun _ s0=>wp_seq<|aA<|lb s0 0 _ rfl rfl rfl rfl fun B1 a2 w3 s4=>zl s4 [1] [(1,Pt B1 0)] 1 1 qe fun _ w6 s7=>aR rfl<|aD<|zs s7 [2] [(2,Bo ((x.home.kind==1)&&(x.away.kind==1)))] (qo (fa w6 B1 0 p6)<|qo (fa w6 B1 3 rO)<|qo (s7.m.ld 3 0 3 bM rfl rfl)<|qo (fa w6 B1 0 p7)<|qo (fa w6 B1 6 rO)<|qo (s7.m.ld 3 0 6 bM rfl rfl)<|qe) fun _ w9 s10=>aC<|pR [Bo ((x.home.kind==1)&&(x.away.kind==1))] rfl s10 ⟨rfl,trivial⟩<|?_
 exact aW s10 rfl
theorem OW  (w:World):Calls Tryz.prog 39 #[] w (eB (.agg (bB dJ).toArray) w):=by
 refine dX [] Tryz.func39 rfl rfl rfl rfl fun _ s0=>wp_seq<|aA<|la s0 0 _ rfl Y4 rfl rfl fun B1 a2 w3 s4=>aR rfl<|aD<|wp_seq<|aA<|zl s4 [0,1] [(0,Pt B1 0),(1,.agg #[I (-1),I (-1),I (-1)])] 0 1 (qo (jL (P:=Tryz.prog) w3 57 [(0,I (-1)),(1,I (-1)),(2,I (-1))] (.agg #[I (-1),I (-1),I (-1)]) (fun _=>by kernel_rfl))<|qe) fun _ w6 s7=>dD s7 1 0 _ _ rfl rfl rfl rfl A3 rfl rfl rfl rfl fun w8 s9=>aR rfl<|aD<|aC ?_
 refine pR [.agg #[I (-1),I (-1),I (-1)]] rfl s9 ⟨⟨_,rfl,bQ (k:=0) s9 A4 rfl rfl⟩,trivial⟩<|?_
 exact aW s9 rfl
theorem OX (k:Int) (w:World):Calls Tryz.prog 167 #[I k] w (eB (.tuple #[I (jH k),I (jI k)]) w):=by
 refine dX [I k] Tryz.func167 rfl rfl rfl rfl fun _ s0=>zs s0 [0] [(0,I k)] qe fun _ w2 s3=>wp_seq<|zs s3 [4] [(4,I k)] qe fun _ w5 s6=>wp_block<|zs s6 [4,5] [(5,Bo (k==1))] qe fun _ w8 s9=>bA s9.f rfl (fun h10=>?_) (fun h10=>?_)
 ·refine zs s9 [2,3] [(2,I 1),(3,I 400)] qe fun _ w12 s13=>aC<|bP (aN (pR [I 1,I 400] rfl s13 ⟨rfl,rfl,trivial⟩ ?_))
  exact gX s13 (by simp [jH,jI,h10]) (by simp [jH,jI,h10])
 refine wp_seq<|zs s9 [4,7] [(7,Bo (k==2))] qe fun _ w15 s16=>bA s16.f rfl (fun h17=>?_) (fun h17=>?_)
 ·refine wp_skip<|aD<|bA s16.f rfl (fun _=>?_) (fun hX=>by first | exact absurd h17 hX | exact absurd hX h17 | (rw [h17] at hX; cases hX))
  refine zs s16 [2,3] [(2,I 1),(3,I 40)] qe fun _ w20 s21=>aC<|bP (aN (pR [I 1,I 40] rfl s21 ⟨rfl,rfl,trivial⟩ ?_))
  exact gX s21 (by simp [jH,jI,h10,h17]) (by simp [jH,jI,h10,h17])
 refine zq s16 [4,7] [(7,Bo (k==3))] qe fun _ w23 s24=>aD<|bA s24.f rfl (fun h25=>?_) (fun h25=>?_)
 ·refine zs s24 [2,3] [(2,I 1),(3,I 40)] qe fun _ w27 s28=>aC<|bP (aN (pR [I 1,I 40] rfl s28 ⟨rfl,rfl,trivial⟩ ?_))
  exact gX s28 (by simp [jH,jI,h10,h17,h25]) (by simp [jH,jI,h10,h17,h25])
 refine zs s24 [4,10] [(10,Bo (k==7))] qe fun _ w30 s31=>bA s31.f rfl (fun h32=>?_) (fun h32=>?_)
 ·refine zs s31 [2,3] [(2,I 0),(3,I 64)] qe fun _ w34 s35=>aC<|bP (aN (pR [I 0,I 64] rfl s35 ⟨rfl,rfl,trivial⟩ ?_))
  exact gX s35 (by simp [jH,jI,h10,h17,h25,h32]) (by simp [jH,jI,h10,h17,h25,h32])
 refine zs s31 [12] [(12,Bo (k==10))] qe fun _ w37 s38=>bA s38.f rfl (fun h39=>?_) (fun h39=>?_)
 ·refine zs s38 [2,3] [(2,I 0),(3,I 1440)] qe fun _ w41 s42=>aC<|bP (aN (pR [I 0,I 1440] rfl s42 ⟨rfl,rfl,trivial⟩ ?_))
  exact gX s42 (by simp [jH,jI,h10,h17,h25,h32,h39]) (by simp [jH,jI,h10,h17,h25,h32,h39])
 refine wp_skip<|c9 (aD ?_)
 refine zs s38 [2,3] [(2,I 0),(3,I 0)] qe fun _ w44 s45=>aC<|pR [I 0,I 0] rfl s45 ⟨rfl,rfl,trivial⟩<|?_
 exact gX s45 (by simp [jH,jI,h10,h17,h25,h32,h39]) (by simp [jH,jI,h10,h17,h25,h32,h39])
end Go.Proofs.YtfffbdmdllgalaaGreatDoor
namespace Go.Proofs.YtfffbdmdllgalaaGreatDoor
open Go Go.RowKit Go.Fz
set_option maxRecDepth 10000
theorem KD (c:Int) (w:World):Calls Tryz.prog 234 #[.int .u8 c] w (eB (I (iZ c)) w):=by
 refine dX [.int .u8 c] Tryz.func234 rfl rfl rfl rfl fun _ s0=>zs s0 [0] [(0,.int .u8 c)] qe fun _ w2 s3=>wp_seq<|wp_block<|zs s3 [0,3] [(3,Bo (((decide (c≥97))&&(decide (c≤122)))||((decide (c≥65))&&(decide (c≤90)))))] qe fun _ w5 s6=>cO s6.f rfl (fun h7=>?_) (fun h7=>?_)
 ·refine zs s6 [2] [(2,I 2)] qe fun _ w9 s10=>aC<|bP (aN (pR [I 2] rfl s10 ⟨rfl,trivial⟩ ?_))
  exact aW s10 (congrArg I (if_pos h7).symm)
 refine zs s6 [0,18] [(18,Bo ((decide (c≥48))&&(decide (c≤57))))] qe fun _ w12 s13=>cO s13.f rfl (fun h14=>?_) (fun h14=>?_)
 ·refine zs s13 [2] [(2,I 3)] qe fun _ w16 s17=>aC<|bP (aN (pR [I 3] rfl s17 ⟨rfl,trivial⟩ ?_))
  exact aW s17 (congrArg I (iF h7 (if_pos h14)).symm)
 refine zs s13 [0,25] [(25,Bo (c==95))] qe fun _ w19 s20=>bA s20.f rfl (fun h21=>?_) (fun h21=>?_)
 ·refine zs s20 [2] [(2,I 5)] qe fun _ w23 s24=>aC<|bP (aN (pR [I 5] rfl s24 ⟨rfl,trivial⟩ ?_))
  exact aW s24 (congrArg I (iF h7 (iF h14 (if_pos h21))).symm)
 refine zs s20 [0,28] [(28,Bo ((((c==32)||(c==9))||(c==10))||(c==13)))] qe fun _ w26 s27=>cO s27.f rfl (fun h28=>?_) (fun h28=>?_)
 ·refine zs s27 [2] [(2,I 1)] qe fun _ w30 s31=>aC<|bP (aN (pR [I 1] rfl s31 ⟨rfl,trivial⟩ ?_))
  exact aW s31 (congrArg I (iF h7 (iF h14 (iM h21 (if_pos h28)))).symm)
 refine zs s27 [43] [(43,Bo (decide (Lib.indexByte (⟨#[123,125,40,41,59,44,61,58,46,60,62,33,43,45,42,47]⟩:ByteArray).data.toList (c).toNat.toUInt8≥0)))] (qo (yc w26 abL fun w' hb=>FZ (Tryz.strings_IndexByte (⟨#[123,125,40,41,59,44,61,58,46,60,62,33,43,45,42,47]⟩:ByteArray) c w'))<|qe) fun _ w33 s34=>aQ s34.f rfl (fun h35=>?_) (fun h35=>?_)
 ·refine zs s34 [2] [(2,I 4)] qe fun _ w37 s38=>aC<|bP (aN (pR [I 4] rfl s38 ⟨rfl,trivial⟩ ?_))
  exact aW s38 (congrArg I (iF h7 (iF h14 (iM h21 (iF h28 (if_pos h35))))).symm)
 refine wp_skip<|c9 (aD ?_)
 refine zs s34 [2] [(2,I 0)] qe fun _ w40 s41=>aC<|pR [I 0] rfl s41 ⟨rfl,trivial⟩<|?_
 exact aW s41 (congrArg I (iF h7 (iF h14 (iM h21 (iF h28 (if_neg h35))))).symm)
theorem LQ (s:ByteArray) (w:World):Calls Tryz.prog 225 #[.string s] w (eB (Bo (lexB s)) w):=by
 refine dX [.string s] Tryz.func225 rfl rfl rfl rfl fun _ s0=>zs s0 [0] [(0,.string s)] qe fun _ w2 s3=>wp_seq<|zs s3 [0,17] [(17,Bo (((decide (s=(⟨#[]⟩:ByteArray)))||(decide ((s.size:Int)>32)))||((iZ (bt s 0)) != 2)))] (qo (yI s (⟨#[]⟩:ByteArray))<|qo (V8 w2 3 s Tryz.underlying9)<|qu (fun (g0:((decide (s=(⟨#[]⟩:ByteArray)))||(decide ((s.size:Int)>32)))=false)=>six w2 9 s 0 Tryz.underlying9 (YM g0))<|qo (yc w2 VK fun w' hb=>KD (bt s 0) w')<|qe) fun _ w5 s6=>cO s6.f rfl (fun h7=>?_) (fun h7=>?_)
 ·refine zs s6 [2] [(2,Bo false)] qe fun _ w9 s10=>aC<|aN (pR [Bo false] rfl s10 ⟨rfl,trivial⟩ ?_)
  exact aW s10 (congrArg Bo (C3 h7).symm)
 refine wp_skip<|aD<|wp_seq<|wp_seq<|?_
 have hsz:=U1 h7
 refine dU s6 [0,19,20] [1900] [(20,I 0)] (qo (V8 w5 3 s Tryz.underlying9)<|qe) fun _ w12 s13=>aD<|wp_block<|aO (α:=Nat) (fun k aI wI=>(k≤s.size)∧(Sta 38 [] w [⟨0,[],.string s⟩,⟨19,[],I (s.size:Int)⟩,⟨20,[],I (k:Int)⟩] [] aI wI)∧(∀ i,i<k→n8 (bt s i)=true)) (fun k=>s.size-k) 0 ⟨Nat.zero_le _,s13.keep [0,19,20] (by kernel_rfl),fun i h=>(Nat.not_lt_zero i h).elim⟩<|?_
 rintro k a16 w15 ⟨k_le,s14,inv⟩
 refine zs s14 [0,19,20,21] [(21,Bo (decide ((k:Int)<(s.size:Int))))] qe fun _ w18 s19=>wp_seq<|aQ s19.f rfl (fun h20=>?_) (fun h20=>?_)
 ·have k_lt:k<s.size:=by omega
  refine wp_skip<|aD<|wp_seq<|wp_block<|zs s19 [0,3,19,20] [(3,I (k:Int))] qe fun _ w22 s23=>d5 s23 [0,4,19,20] [401] [] (qo (six w22 9 s k Tryz.underlying9 (by omega))<|qo (yc w22 VK fun w' hb=>KD (bt s k) w')<|qe) fun _ w25 s26=>zs s26 [0,19,20,36] [(36,Bo ((((iZ (bt s k)) != 2)&&((iZ (bt s k)) != 3))&&((iZ (bt s k)) != 5)))] qe fun _ w28 s29=>cO s29.f rfl (fun h30=>?_) (fun h30=>?_)
  ·refine zs s29 [2] [(2,Bo false)] qe fun _ w32 s33=>aC<|bP (aN (aN (bP (aN (pR [Bo false] rfl s33 ⟨rfl,trivial⟩ ?_)))))
   exact aW s33 (congrArg Bo (FY k_lt (WJ h30)).symm)
  refine wp_skip<|c9 (aD ?_)
  refine dU s29 [0,19,20] [2000] [] (qo (wr ((k:Int)+1) ((k+1:Nat):Int) (by omega))<|qe) fun _ w35 s36=>aD<|?_
  exact ⟨(k+1),⟨by omega,s36.keep [0,19,20] (by kernel_rfl),aM inv (R4 h30)⟩,by omega⟩
 have k_eq:k=s.size:=by omega
 refine wp_exit<|aY (aY (cP (aD ?_)))
 refine zs s19 [2] [(2,Bo true)] qe fun _ w38 s39=>aC<|pR [Bo true] rfl s39 ⟨rfl,trivial⟩<|?_
 exact aW s39 (congrArg Bo (C4 h7 (by rw [k_eq] at inv; exact inv)).symm)
theorem SO (s:ByteArray) (w:World):Calls Tryz.prog 229 #[.string s] w (eB (Bo (lexB s)) w):=by
 refine dX [.string s] Tryz.func229 rfl rfl rfl rfl fun _ s0=>zs s0 [0] [(0,.string s)] qe fun _ w2 s3=>wp_seq<|zs s3 [0,17] [(17,Bo (((decide ((s.size:Int)<1))||(decide ((s.size:Int)>32)))||(!(j5 (bt s 0)))))] (qo (V8 w2 3 s Tryz.underlying9)<|qo (V8 w2 3 s Tryz.underlying9)<|qu (fun (g0:((decide ((s.size:Int)<1))||(decide ((s.size:Int)>32)))=false)=>six w2 9 s 0 Tryz.underlying9 (YN g0))<|qo (yc w2 VL fun w' hb=>GD (bt s 0) w')<|qe) fun _ w5 s6=>cO s6.f rfl (fun h7=>?_) (fun h7=>?_)
 ·refine zs s6 [2] [(2,Bo false)] qe fun _ w9 s10=>aC<|aN (pR [Bo false] rfl s10 ⟨rfl,trivial⟩ ?_)
  exact aW s10 (congrArg Bo (C5 h7).symm)
 refine wp_skip<|aD<|wp_seq<|wp_seq<|?_
 have hsz:=U1 h7
 refine zq s6 [0,3] [(3,I 0)] qe fun _ w12 s13=>aD<|wp_block<|aO (α:=Nat) (fun k aI wI=>(k≤s.size)∧(Sta 29 [] w [⟨0,[],.string s⟩,⟨3,[],I (k:Int)⟩] [] aI wI)∧(∀ i,i<k→n8 (bt s i)=true)) (fun k=>s.size-k) 0 ⟨Nat.zero_le _,s13.keep [0,3] (by kernel_rfl),fun i h=>(Nat.not_lt_zero i h).elim⟩<|?_
 rintro k a16 w15 ⟨k_le,s14,inv⟩
 refine wp_seq<|zs s14 [0,3,21] [(21,Bo (decide ((k:Int)<(s.size:Int))))] (qo (V8 w15 3 s Tryz.underlying9)<|qe) fun _ w18 s19=>aQ s19.f rfl (fun h20=>?_) (fun h20=>?_)
 ·have k_lt:k<s.size:=by omega
  refine wp_skip<|aD<|wp_seq<|wp_block<|zs s19 [0,3,28] [(28,Bo (!(n8 (bt s k))))] (qo (six w18 9 s k Tryz.underlying9 (by omega))<|qo (yc w18 abK fun w' hb=>W5 (bt s k) w')<|qe) fun _ w22 s23=>bR s23.f rfl (fun h24=>?_) (fun h24=>?_)
  ·refine zs s23 [2] [(2,Bo false)] qe fun _ w26 s27=>aC<|bP (aN (aN (bP (aN (pR [Bo false] rfl s27 ⟨rfl,trivial⟩ ?_)))))
   exact aW s27 (congrArg Bo (FY k_lt h24).symm)
  refine wp_skip<|c9 (aD ?_)
  refine dU s23 [0,3] [300] [] (qo (wr ((k:Int)+1) ((k+1:Nat):Int) (by omega))<|qe) fun _ w29 s30=>aD<|?_
  exact ⟨(k+1),⟨by omega,s30.keep [0,3] (by kernel_rfl),aM inv h24⟩,by omega⟩
 have k_eq:k=s.size:=by omega
 refine wp_exit<|aY (aY (cP (aD ?_)))
 refine zs s19 [2] [(2,Bo true)] qe fun _ w32 s33=>aC<|pR [Bo true] rfl s33 ⟨rfl,trivial⟩<|?_
 exact aW s33 (congrArg Bo (C6 h7 (by rw [k_eq] at inv; exact inv)).symm)
theorem IB (oa:Option Addr) (l:List ByteArray) (c:Nat) (s:ByteArray) (w:World) (hl:Row w oa 1 aJ l):Calls Tryz.prog 230 #[.slice oa l.length c,.string s] w (eB (I (aH l s)) w):=by
 refine dX [.slice oa l.length c,.string s] Tryz.func230 rfl rfl rfl rfl fun _ s0=>?_
 have sm0:=hl.small
 refine zs s0 [0,1] [(0,.slice oa l.length c),(1,.string s)] qe fun _ w2 s3=>wp_seq<|zs s3 [0,1,5] [(5,I 0)] qe fun _ w5 s6=>wp_block<|aO (α:=Nat) (fun k aI wI=>(k≤l.length)∧(Sta 19 [] w [⟨0,[],.slice oa l.length c⟩,⟨1,[],.string s⟩,⟨5,[],I (k:Int)⟩] [] aI wI)∧(∀ i,i<k→l[i]?≠some s)) (fun k=>l.length-k) 0 ⟨Nat.zero_le _,s6.keep [0,1,5] (by kernel_rfl),fun i h=>(Nat.not_lt_zero i h).elim⟩<|?_
 rintro k a9 w8 ⟨k_le,s7,inv⟩
 refine wp_seq<|zs s7 [0,1,5,9] [(9,Bo (decide ((k:Int)<(l.length:Int))))] (qo (ln w8 3 oa l.length c kX)<|qe) fun _ w11 s12=>aQ s12.f rfl (fun h13=>?_) (fun h13=>?_)
 ·have k_lt:k<l.length:=by omega
  obtain ⟨x,hx14⟩:=cD (xs:=l) k_lt
  refine wp_skip<|aD<|wp_seq<|wp_block<|d5 s12 [0,1,5,17] [1702] [] (qo ((hl.up s12.m).ia c k kX A1 (by omega))<|qo ((hl.up s12.m).ld 9 k 0 qQ hx14 rfl)<|qo (yI x s)<|qe) fun _ w16 s17=>aQ s17.f rfl (fun h18=>?_) (fun h18=>?_)
  ·refine zs s17 [4] [(4,I (k:Int))] qe fun _ w20 s21=>aC<|bP (aN (aN (bP (aN (pR [I (k:Int)] rfl s21 ⟨rfl,trivial⟩ ?_)))))
   exact aW s21 (congrArg I (HY (by rw [hx14]; exact congrArg some h18) inv).symm)
  refine wp_skip<|c9 (aD ?_)
  refine dU s17 [0,1,5] [500] [] (qo (wr ((k:Int)+1) ((k+1:Nat):Int) (by omega))<|qe) fun _ w23 s24=>aD<|?_
  exact ⟨(k+1),⟨by omega,s24.keep [0,1,5] (by kernel_rfl),aM inv (by rw [hx14]; exact fun e=>h18 (Option.some.inj e))⟩,by omega⟩
 have k_eq:k=l.length:=by omega
 refine wp_exit<|aY (aY (cP (aD ?_)))
 refine zs s12 [4] [(4,I (-1))] qe fun _ w26 s27=>aC<|pR [I (-1)] rfl s27 ⟨rfl,trivial⟩<|?_
 exact aW s27 (congrArg I (HZ (by rw [k_eq] at inv; exact inv)).symm)
end Go.Proofs.YtfffbdmdllgalaaGreatDoor
namespace Go.Proofs.YtfffbdmdllgalaaGreatDoor
open Go Go.RowKit Go.Fz
set_option maxRecDepth 10000
theorem OY (s:ByteArray) (w:World) (hG:Glb w):Calls Tryz.prog 181 #[.string s] w (eB (Bo (eO s)) w):=by
 refine dX [.string s] Tryz.func181 rfl rfl rfl rfl fun _ s0=>zs s0 [0] [(0,.string s)] qe fun _ w2 s3=>zs s3 [2] [(2,Bo ((lexB s)&&(!(Lib.contains vW.data.toList (((⟨#[32]⟩:ByteArray)++s)++(⟨#[32]⟩:ByteArray)).data.toList))))] (qo (yc w2 abE fun w' hb=>LQ s w')<|qu (fun (g0:(lexB s)=true)=>YO (P:=Tryz.prog) w2 9 (⟨#[32]⟩:ByteArray) s (R6 g0))<|qu (fun (g0:(lexB s)=true)=>YO (P:=Tryz.prog) w2 9 ((⟨#[32]⟩:ByteArray)++s) (⟨#[32]⟩:ByteArray) (NZ g0))<|qo (yc w2 abF fun w' hb=>FZ (Tryz.strings_Contains vW (((⟨#[32]⟩:ByteArray)++s)++(⟨#[32]⟩:ByteArray)) _ w' (by decide) (hG.up s3.m |>.grow hb).most.choose_spec))<|qe) fun _ w5 s6=>aC<|pR [Bo ((lexB s)&&(!(Lib.contains vW.data.toList (((⟨#[32]⟩:ByteArray)++s)++(⟨#[32]⟩:ByteArray)).data.toList)))] rfl s6 ⟨rfl,trivial⟩<|?_
 exact aW s6 (congrArg Bo (NY s))
theorem SP (w:World):Calls Tryz.prog 231 #[] w (qV 9 1 aJ l6 w):=by
 refine dX [] Tryz.func231 rfl rfl rfl rfl fun _ s0=>zs s0 [] [] qe fun _ w2 s3=>wp_seq<|aA<|lR s3 0 (vs:=[.string (⟨#[108,101,97,103,117,101]⟩:ByteArray),.string (⟨#[116,111,119,110]⟩:ByteArray),.string (⟨#[119,97,121]⟩:ByteArray),.string (⟨#[109,105,110,117,116,101,115]⟩:ByteArray),.string (⟨#[100,101,112,111,116]⟩:ByteArray),.string (⟨#[115,101,116,115]⟩:ByteArray),.string (⟨#[103,114,111,117,110,100]⟩:ByteArray),.string (⟨#[98,101,97,114]⟩:ByteArray),.string (⟨#[119,101,97,114]⟩:ByteArray),.string (⟨#[103,114,111,119]⟩:ByteArray),.string (⟨#[117,115,101,115]⟩:ByteArray),.string (⟨#[116,101,97,109]⟩:ByteArray),.string (⟨#[114,97,110,107]⟩:ByteArray),.string (⟨#[119,105,110,100,111,119]⟩:ByteArray),.string (⟨#[102,114,111,109]⟩:ByteArray),.string (⟨#[116,111]⟩:ByteArray),.string (⟨#[111,110]⟩:ByteArray),.string (⟨#[115,108,111,116]⟩:ByteArray),.string (⟨#[109,105,110,117,116,101]⟩:ByteArray),.string (⟨#[108,101,110,103,116,104]⟩:ByteArray),.string (⟨#[115,116,101,119,97,114,100,115]⟩:ByteArray),.string (⟨#[112,111,105,110,116,115]⟩:ByteArray),.string (⟨#[116,105,101,115]⟩:ByteArray),.string (⟨#[112,104,97,115,101]⟩:ByteArray),.string (⟨#[99,111,110,100,105,116,105,111,110]⟩:ByteArray),.string (⟨#[104,97,114,100]⟩:ByteArray),.string (⟨#[112,114,105,99,101]⟩:ByteArray),.string (⟨#[109,111,110]⟩:ByteArray),.string (⟨#[116,117,101]⟩:ByteArray),.string (⟨#[119,101,100]⟩:ByteArray),.string (⟨#[116,104,117]⟩:ByteArray),.string (⟨#[102,114,105]⟩:ByteArray),.string (⟨#[115,97,116]⟩:ByteArray),.string (⟨#[115,117,110]⟩:ByteArray),.string (⟨#[119,105,110,115]⟩:ByteArray),.string (⟨#[100,105,102,102]⟩:ByteArray),.string (⟨#[103,111,97,108,115]⟩:ByteArray),.string (⟨#[104,101,97,100]⟩:ByteArray),.string (⟨#[115,105,110,103,108,101]⟩:ByteArray),.string (⟨#[100,111,117,98,108,101]⟩:ByteArray),.string (⟨#[109,105,114,114,111,114,101,100]⟩:ByteArray),.string (⟨#[99,117,112]⟩:ByteArray),.string (⟨#[115,112,108,105,116]⟩:ByteArray),.string (⟨#[100,101,99,105,100,101,114]⟩:ByteArray),.string (⟨#[114,101,115,116]⟩:ByteArray),.string (⟨#[104,111,109,101]⟩:ByteArray),.string (⟨#[97,119,97,121]⟩:ByteArray),.string (⟨#[115,104,117,116]⟩:ByteArray),.string (⟨#[111,102,102]⟩:ByteArray),.string (⟨#[97,112,97,114,116]⟩:ByteArray),.string (⟨#[109,101,101,116]⟩:ByteArray),.string (⟨#[110,101,118,101,114]⟩:ByteArray),.string (⟨#[102,97,114]⟩:ByteArray)]) (e:=9) [.string (⟨#[108,101,97,103,117,101]⟩:ByteArray),.string (⟨#[116,111,119,110]⟩:ByteArray),.string (⟨#[119,97,121]⟩:ByteArray),.string (⟨#[109,105,110,117,116,101,115]⟩:ByteArray),.string (⟨#[100,101,112,111,116]⟩:ByteArray),.string (⟨#[115,101,116,115]⟩:ByteArray),.string (⟨#[103,114,111,117,110,100]⟩:ByteArray),.string (⟨#[98,101,97,114]⟩:ByteArray),.string (⟨#[119,101,97,114]⟩:ByteArray),.string (⟨#[103,114,111,119]⟩:ByteArray),.string (⟨#[117,115,101,115]⟩:ByteArray),.string (⟨#[116,101,97,109]⟩:ByteArray),.string (⟨#[114,97,110,107]⟩:ByteArray),.string (⟨#[119,105,110,100,111,119]⟩:ByteArray),.string (⟨#[102,114,111,109]⟩:ByteArray),.string (⟨#[116,111]⟩:ByteArray),.string (⟨#[111,110]⟩:ByteArray),.string (⟨#[115,108,111,116]⟩:ByteArray),.string (⟨#[109,105,110,117,116,101]⟩:ByteArray),.string (⟨#[108,101,110,103,116,104]⟩:ByteArray),.string (⟨#[115,116,101,119,97,114,100,115]⟩:ByteArray),.string (⟨#[112,111,105,110,116,115]⟩:ByteArray),.string (⟨#[116,105,101,115]⟩:ByteArray),.string (⟨#[112,104,97,115,101]⟩:ByteArray),.string (⟨#[99,111,110,100,105,116,105,111,110]⟩:ByteArray),.string (⟨#[104,97,114,100]⟩:ByteArray),.string (⟨#[112,114,105,99,101]⟩:ByteArray),.string (⟨#[109,111,110]⟩:ByteArray),.string (⟨#[116,117,101]⟩:ByteArray),.string (⟨#[119,101,100]⟩:ByteArray),.string (⟨#[116,104,117]⟩:ByteArray),.string (⟨#[102,114,105]⟩:ByteArray),.string (⟨#[115,97,116]⟩:ByteArray),.string (⟨#[115,117,110]⟩:ByteArray),.string (⟨#[119,105,110,115]⟩:ByteArray),.string (⟨#[100,105,102,102]⟩:ByteArray),.string (⟨#[103,111,97,108,115]⟩:ByteArray),.string (⟨#[104,101,97,100]⟩:ByteArray),.string (⟨#[115,105,110,103,108,101]⟩:ByteArray),.string (⟨#[100,111,117,98,108,101]⟩:ByteArray),.string (⟨#[109,105,114,114,111,114,101,100]⟩:ByteArray),.string (⟨#[99,117,112]⟩:ByteArray),.string (⟨#[115,112,108,105,116]⟩:ByteArray),.string (⟨#[100,101,99,105,100,101,114]⟩:ByteArray),.string (⟨#[114,101,115,116]⟩:ByteArray),.string (⟨#[104,111,109,101]⟩:ByteArray),.string (⟨#[97,119,97,121]⟩:ByteArray),.string (⟨#[115,104,117,116]⟩:ByteArray),.string (⟨#[111,102,102]⟩:ByteArray),.string (⟨#[97,112,97,114,116]⟩:ByteArray),.string (⟨#[109,101,101,116]⟩:ByteArray),.string (⟨#[110,101,118,101,114]⟩:ByteArray),.string (⟨#[102,97,114]⟩:ByteArray)] rfl rfl (fun _=>by kernel_rfl) rfl fun B4 a5 w6 s7=>zl s7 [0] [(0,.slice (some ⟨B4,0,none⟩) 53 53)] 1 1 qe fun _ w9 s10=>aR rfl<|aD<|aC<|pR [.slice (some ⟨B4,0,none⟩) 53 53] rfl s10 ⟨rfl,trivial⟩<|?_
 have sx:=s10.litR (enc:=aJ) 0 l6 rfl aU rfl (by decide)
 exact n1 sx 0 rfl rfl
theorem KE (s:ByteArray) (w:World):Calls Tryz.prog 199 #[.string s] w (eB (Bo (eO s)) w):=by
 refine dX [.string s] Tryz.func199 rfl rfl rfl rfl fun _ s0=>?_
 have smW:l6.length≤140737488355328:=by decide
 refine zs s0 [0] [(0,.string s)] qe fun _ w2 s3=>d5 s3 [0,3] [300] [] (qo (yc w2 abH fun w' hb=>SO s w')<|qe) fun _ w5 s6=>wp_seq<|aA<|zl s6 [0,7] [(7,Bo (lexB s))] 0 2 qe fun _ w8 s9=>?_
 rcases Bool.eq_false_or_eq_true (lexB s) with h10 | h10
 ·have s11:=s9.sp (E':=[⟨0,[],.string s⟩,⟨7,[],Bo true⟩]) (by rw [h10] <;> rfl)
  refine lug s11 2 rfl rfl rfl rfl rfl<|I8 s11 2 (e:=9) (enc:=aJ) (xs:=l6) rfl rfl rfl abI rfl (SP _) fun oa12 c13 a14 w15 s16=>lug s16 3 rfl rfl rfl rfl rfl<|zl s16 [7,8,9] [(7,Bo true),(8,.slice oa12 ((l6).length) c13),(9,.string s)] 3 1 qe fun _ w18 s19=>lug s19 4 rfl rfl rfl rfl rfl<|fJ s19 [7,10] [1000] [] 4 1 (qo (yc w18 OP fun w' hb=>IB oa12 l6 c13 s w' ((s19.m.row (enc:=aJ) 0 rfl aU (by first | omega | (simp only [bV]; omega))).grow hb))<|qe) fun _ w21 s22=>lug s22 5 rfl rfl rfl rfl rfl<|zl s22 [7,11] [(11,Bo (decide (aH l6 s<0)))] 5 1 qe fun _ w24 s25=>lpk s25 6 rfl rfl rfl rfl fun _ s27=>zl s27 [2] [(2,Bo (decide (aH l6 s<0)))] 7 1 qe fun _ w29 s30=>aR rfl<|aD<|aC ?_
  refine pR [Bo (decide (aH l6 s<0))] rfl s30 ⟨rfl,trivial⟩<|?_
  exact aW s30 (congrArg Bo (by unfold eO; simp [h10]))
 have s31:=s9.sp (E':=[⟨0,[],.string s⟩,⟨7,[],Bo false⟩]) (by rw [h10] <;> rfl)
 refine I9 s31 2 rfl rfl rfl rfl rfl fun _ s33=>I9 s33 3 rfl rfl rfl rfl rfl fun _ s35=>I9 s35 4 rfl rfl rfl rfl rfl fun _ s37=>I9 s37 5 rfl rfl rfl rfl rfl fun _ s39=>lpk s39 6 rfl rfl rfl rfl fun _ s41=>zl s41 [2] [(2,Bo false)] 7 1 qe fun _ w43 s44=>aR rfl<|aD<|aC<|pR [Bo false] rfl s44 ⟨rfl,trivial⟩<|?_
 exact aW s44 (congrArg Bo (by unfold eO; simp [h10]))
theorem qB (oa:Option Addr) (l:List ByteArray) (c:Nat) (w:World) (hl:Row w oa 1 aJ l):Calls Tryz.prog 200 #[.slice oa l.length c] w (eB (Bo (cZ l)) w):=by
 refine dX [.slice oa l.length c] Tryz.func200 rfl rfl rfl rfl fun _ s0=>?_
 have sm0:=hl.small
 refine zs s0 [0] [(0,.slice oa l.length c)] qe fun _ w2 s3=>wp_seq<|zs s3 [0,3] [(3,I 0)] qe fun _ w5 s6=>wp_block<|aO (α:=Nat) (fun k aI wI=>(k≤l.length)∧(Sta 18 [] w [⟨0,[],.slice oa l.length c⟩,⟨3,[],I (k:Int)⟩] [] aI wI)∧(∀ i,i<k→∀ x,l[i]?=some x→eO x=true)) (fun k=>l.length-k) 0 ⟨Nat.zero_le _,s6.keep [0,3] (by kernel_rfl),fun i h=>(Nat.not_lt_zero i h).elim⟩<|?_
 rintro k a9 w8 ⟨k_le,s7,inv⟩
 refine wp_seq<|zs s7 [0,3,8] [(8,Bo (decide ((k:Int)<(l.length:Int))))] (qo (ln w8 3 oa l.length c kX)<|qe) fun _ w11 s12=>aQ s12.f rfl (fun h13=>?_) (fun h13=>?_)
 ·have k_lt:k<l.length:=by omega
  obtain ⟨x,hx14⟩:=cD (xs:=l) k_lt
  refine wp_skip<|aD<|wp_seq<|wp_block<|d5 s12 [0,3,4] [402] [] (qo ((hl.up s12.m).ia c k kX A1 (by omega))<|qo ((hl.up s12.m).ld 9 k 0 qQ hx14 rfl)<|qo (yc w11 VI fun w' hb=>KE x w')<|qe) fun _ w16 s17=>zs s17 [0,3,17] [(17,Bo (!(eO x)))] qe fun _ w19 s20=>bR s20.f rfl (fun h21=>?_) (fun h21=>?_)
  ·refine zs s20 [2] [(2,Bo false)] qe fun _ w23 s24=>aC<|bP (aN (aN (bP (aN (pR [Bo false] rfl s24 ⟨rfl,trivial⟩ ?_)))))
   exact aW s24 (congrArg Bo (bI hx14 h21).symm)
  refine wp_skip<|c9 (aD ?_)
  refine dU s20 [0,3] [300] [] (qo (wr ((k:Int)+1) ((k+1:Nat):Int) (by omega))<|qe) fun _ w26 s27=>aD<|?_
  exact ⟨(k+1),⟨by omega,s27.keep [0,3] (by kernel_rfl),aM inv (fun y hy=>by rw [hx14] at hy; cases hy; exact h21)⟩,by omega⟩
 have k_eq:k=l.length:=by omega
 refine wp_exit<|aY (aY (cP (aD ?_)))
 refine zs s12 [2] [(2,Bo true)] qe fun _ w29 s30=>aC<|pR [Bo true] rfl s30 ⟨rfl,trivial⟩<|?_
 exact aW s30 (congrArg Bo (cR (by rw [k_eq] at inv; exact inv)).symm)
theorem qC (oa:Option Addr) (l:List ByteArray) (c:Nat) (w:World) (hl:Row w oa 1 aJ l) (hc:l.length≤c):Calls Tryz.prog 201 #[.slice oa l.length c] w (eB (Bo (c6 l)) w):=by
 refine dX [.slice oa l.length c] Tryz.func201 rfl rfl rfl rfl fun _ s0=>?_
 have sm0:=hl.small
 refine zs s0 [0] [(0,.slice oa l.length c)] qe fun _ w2 s3=>wp_seq<|zs s3 [0,3] [(3,I 0)] qe fun _ w5 s6=>wp_block<|aO (α:=Nat) (fun k aI wI=>(k≤l.length)∧(Sta 19 [] w [⟨0,[],.slice oa l.length c⟩,⟨3,[],I (k:Int)⟩] [] aI wI)∧(∀ i,i<k→∀ x,l[i]?=some x→aH (l.take i) x<0)) (fun k=>l.length-k) 0 ⟨Nat.zero_le _,s6.keep [0,3] (by kernel_rfl),fun i h=>(Nat.not_lt_zero i h).elim⟩<|?_
 rintro k a9 w8 ⟨k_le,s7,inv⟩
 refine wp_seq<|zs s7 [0,3,7] [(7,Bo (decide ((k:Int)<(l.length:Int))))] (qo (ln w8 3 oa l.length c kX)<|qe) fun _ w11 s12=>aQ s12.f rfl (fun h13=>?_) (fun h13=>?_)
 ·have k_lt:k<l.length:=by omega
  obtain ⟨x,hx14⟩:=cD (xs:=l) k_lt
  refine wp_skip<|aD<|wp_seq<|wp_block<|wp_seq<|zr s12 [0,3,18] [(18,Bo (decide (aH (l.take k) x≥0)))] MO (qo (CT w11 oa l c k kX A1 (by omega) (by omega))<|qo ((hl.up s12.m).ia c k kX A1 (by omega))<|qo ((hl.up s12.m).ld 9 k 0 qQ hx14 rfl)<|qo (yc w11 OP fun w' hb=>IB oa (l.take k) c x w' (((hl.up s12.m).take k).grow hb))<|qe) fun _ w16 s17=>aD<|aQ s17.f rfl (fun h18=>?_) (fun h18=>?_)
  ·refine zs s17 [2] [(2,Bo true)] qe fun _ w20 s21=>aC<|bP (aN (aN (bP (aN (pR [Bo true] rfl s21 ⟨rfl,trivial⟩ ?_)))))
   exact aW s21 (congrArg Bo (LB hx14 h18).symm)
  refine wp_skip<|c9 (aD ?_)
  refine dU s17 [0,3] [300] [] (qo (wr ((k:Int)+1) ((k+1:Nat):Int) (by omega))<|qe) fun _ w23 s24=>aD<|?_
  exact ⟨(k+1),⟨by omega,s24.keep [0,3] (by kernel_rfl),aM inv (fun y hy=>by rw [hx14] at hy; cases hy; omega)⟩,by omega⟩
 have k_eq:k=l.length:=by omega
 refine wp_exit<|aY (aY (cP (aD ?_)))
 refine zs s12 [2] [(2,Bo false)] qe fun _ w26 s27=>aC<|pR [Bo false] rfl s27 ⟨rfl,trivial⟩<|?_
 exact aW s27 (congrArg Bo (H2 (by rw [k_eq] at inv; exact inv)).symm)
theorem gJ (x:cW) (oa:Option Addr) (l:List ByteArray) (c:Nat) (w:World) (hl:Row w oa 1 aJ l):Calls Tryz.prog 202 #[.agg (bN x).toArray,.slice oa l.length c] w (eB (.tuple #[.agg (bN ⟨x.name,aH l x.name⟩).toArray,Bo (decide (aH l x.name≥0))]) w):=by
 refine dX [.agg (bN x).toArray,.slice oa l.length c] Tryz.func202 rfl rfl rfl rfl fun _ s0=>?_
 have sm0:=hl.small
 refine wp_seq<|aA<|lb s0 0 _ rfl rfl rfl rfl fun B1 a2 w3 s4=>la s4 1 _ rfl JK rfl rfl fun B5 a6 w7 s8=>zl s8 [1,2,4] [(1,.slice oa l.length c),(2,Pt B1 0),(4,Pt B5 0)] 2 1 qe fun _ w10 s11=>aR rfl<|aD<|d5 s11 [2,4,6] [602] [] (qo (fa w10 B1 0 oD)<|qo (s11.m.ld 9 1 0 qQ rfl rfl)<|qo (yc w10 OP fun w' hb=>IB oa l c x.name w' ((hl.up s11.m).grow hb))<|qe) fun _ w13 s14=>wp_seq<|aA<|zl s14 [4,14,16] [(14,.agg #[.string x.name,I (aH l x.name)]),(16,Bo (decide (aH l x.name≥0)))] 0 6 (qo (fa w13 B1 0 oD)<|qo (s14.m.ld 9 1 0 qQ rfl rfl)<|qo (jL (P:=Tryz.prog) w13 148 [(0,.string x.name),(1,I (aH l x.name))] (.agg #[.string x.name,I (aH l x.name)]) (fun _=>by kernel_rfl))<|qe) fun _ w16 s17=>dD s17 6 0 _ _ rfl rfl rfl rfl eD rfl rfl rfl rfl fun w18 s19=>zl s19 [4,5] [(5,Bo (decide (aH l x.name≥0)))] 7 1 qe fun _ w21 s22=>?_
 refine aR rfl<|aD<|aC<|pR [.agg #[.string x.name,I (aH l x.name)],Bo (decide (aH l x.name≥0))] rfl s22 ⟨⟨_,rfl,bQ (k:=0) s22 dK rfl rfl⟩,rfl,trivial⟩<|?_
 exact gX s22 rfl rfl
end Go.Proofs.YtfffbdmdllgalaaGreatDoor
namespace Go.Proofs.YtfffbdmdllgalaaGreatDoor
open Go Go.RowKit Go.Fz
set_option maxRecDepth 10000
theorem yA (n:Nat) (h:1≤n):EqOk Tryz.prog 3 [0] false n:=(EqOk.int Tryz.underlying3 hP).mono h
theorem afM (n:Nat) (h:2≤n):EqOk Tryz.prog 29 [0,0,0] true n:=by
  obtain ⟨n,rfl⟩:∃ m,n=m+1:=⟨n-1,by omega⟩
  exact EqOk.array (len:=3) Tryz.underlying29 (yA n (by omega)) WU
theorem W6 (n:Nat) (h:2≤n):EqOk Tryz.prog 57 [0,0,0] true n:=by
  obtain ⟨n,rfl⟩:∃ m,n=m+1:=⟨n-1,by omega⟩
  refine EqOk.struct Tryz.underlying57 (by kernel_rfl) ?_ A3
  refine lD.cons (k1:=[0]) (k2:=[0,0]) (by decide) rfl (yA n (by omega)) ?_
  refine lD.cons (k1:=[0]) (k2:=[0]) (by decide) rfl (yA n (by omega)) ?_
  refine lD.cons (k1:=[0]) (k2:=[]) (by decide) rfl (yA n (by omega)) ?_
  exact lD.nil _ _
theorem acB (n:Nat) (h:2≤n):EqOk Tryz.prog 60 [0,0,0] true n:=by
  obtain ⟨n,rfl⟩:∃ m,n=m+1:=⟨n-1,by omega⟩
  refine EqOk.struct Tryz.underlying60 (by kernel_rfl) ?_ N5
  refine lD.cons (k1:=[0]) (k2:=[0,0]) (by decide) rfl (yA n (by omega)) ?_
  refine lD.cons (k1:=[0]) (k2:=[0]) (by decide) rfl (yA n (by omega)) ?_
  refine lD.cons (k1:=[0]) (k2:=[]) (by decide) rfl (yA n (by omega)) ?_
  exact lD.nil _ _
theorem W7 (n:Nat) (h:1≤n):EqOk Tryz.prog 9 [2] false n:=(EqOk.str Tryz.underlying9 A1).mono h
theorem pF (n:Nat) (h:2≤n):EqOk Tryz.prog 148 [2,0] true n:=by
  obtain ⟨n,rfl⟩:∃ m,n=m+1:=⟨n-1,by omega⟩
  refine EqOk.struct Tryz.underlying148 (by kernel_rfl) ?_ eD
  refine lD.cons (k1:=[2]) (k2:=[0]) (by decide) rfl (W7 n (by omega)) ?_
  refine lD.cons (k1:=[0]) (k2:=[]) (by decide) rfl (yA n (by omega)) ?_
  exact lD.nil _ _
theorem acC (n:Nat) (h:2≤n):EqOk Tryz.prog 150 [2] true n:=by
  obtain ⟨n,rfl⟩:∃ m,n=m+1:=⟨n-1,by omega⟩
  refine EqOk.struct Tryz.underlying150 (by kernel_rfl) ?_ zE
  refine lD.cons (k1:=[2]) (k2:=[]) (by decide) rfl (W7 n (by omega)) ?_
  exact lD.nil _ _
theorem acD (n:Nat) (h:3≤n):EqOk Tryz.prog 152 [2,2,0,0,0,0,0] true n:=by
  obtain ⟨n,rfl⟩:∃ m,n=m+1:=⟨n-1,by omega⟩
  refine EqOk.struct Tryz.underlying152 (by kernel_rfl) ?_ oB
  refine lD.cons (k1:=[2]) (k2:=[2,0,0,0,0,0]) (by decide) rfl (W7 n (by omega)) ?_
  refine lD.cons (k1:=[2,0]) (k2:=[0,0,0,0]) (by decide) rfl (pF n (by omega)) ?_
  refine lD.cons (k1:=[0]) (k2:=[0,0,0]) (by decide) rfl (yA n (by omega)) ?_
  refine lD.cons (k1:=[0]) (k2:=[0,0]) (by decide) rfl (yA n (by omega)) ?_
  refine lD.cons (k1:=[0]) (k2:=[0]) (by decide) rfl (yA n (by omega)) ?_
  refine lD.cons (k1:=[0]) (k2:=[]) (by decide) rfl (yA n (by omega)) ?_
  exact lD.nil _ _
theorem acE (n:Nat) (h:2≤n):EqOk Tryz.prog 154 [2,0,0,0] true n:=by
  obtain ⟨n,rfl⟩:∃ m,n=m+1:=⟨n-1,by omega⟩
  refine EqOk.struct Tryz.underlying154 (by kernel_rfl) ?_ rM
  refine lD.cons (k1:=[2]) (k2:=[0,0,0]) (by decide) rfl (W7 n (by omega)) ?_
  refine lD.cons (k1:=[0]) (k2:=[0,0]) (by decide) rfl (yA n (by omega)) ?_
  refine lD.cons (k1:=[0]) (k2:=[0]) (by decide) rfl (yA n (by omega)) ?_
  refine lD.cons (k1:=[0]) (k2:=[]) (by decide) rfl (yA n (by omega)) ?_
  exact lD.nil _ _
theorem acF (n:Nat) (h:3≤n):EqOk Tryz.prog 160 [2,2,0,0] true n:=by
  obtain ⟨n,rfl⟩:∃ m,n=m+1:=⟨n-1,by omega⟩
  refine EqOk.struct Tryz.underlying160 (by kernel_rfl) ?_ o9
  refine lD.cons (k1:=[2]) (k2:=[2,0,0]) (by decide) rfl (W7 n (by omega)) ?_
  refine lD.cons (k1:=[2,0]) (k2:=[0]) (by decide) rfl (pF n (by omega)) ?_
  refine lD.cons (k1:=[0]) (k2:=[]) (by decide) rfl (yA n (by omega)) ?_
  exact lD.nil _ _
theorem sV (n:Nat) (h:2≤n):EqOk Tryz.prog 162 [0,0,0] true n:=by
  obtain ⟨n,rfl⟩:∃ m,n=m+1:=⟨n-1,by omega⟩
  refine EqOk.struct Tryz.underlying162 (by kernel_rfl) ?_ zF
  refine lD.cons (k1:=[0]) (k2:=[0,0]) (by decide) rfl (yA n (by omega)) ?_
  refine lD.cons (k1:=[0]) (k2:=[0]) (by decide) rfl (yA n (by omega)) ?_
  refine lD.cons (k1:=[0]) (k2:=[]) (by decide) rfl (yA n (by omega)) ?_
  exact lD.nil _ _
theorem EQ4 (n:Nat) (h:1≤n):EqOk Tryz.prog 4 [1] false n:=(EqOk.bool Tryz.underlying4 U5).mono h
theorem KF (n:Nat) (h:2≤n):EqOk Tryz.prog 163 [1,1,1,1,1,1,1] true n:=by
  obtain ⟨n,rfl⟩:∃ m,n=m+1:=⟨n-1,by omega⟩
  exact EqOk.array (len:=7) Tryz.underlying163 (EQ4 n (by omega)) JH
theorem acG (n:Nat) (h:3≤n):EqOk Tryz.prog 165 [2,0,0,0,0,0,0,1,1,1,1,1,1,1] true n:=by
  obtain ⟨n,rfl⟩:∃ m,n=m+1:=⟨n-1,by omega⟩
  refine EqOk.struct Tryz.underlying165 (by kernel_rfl) ?_ sS
  refine lD.cons (k1:=[2]) (k2:=[0,0,0,0,0,0,1,1,1,1,1,1,1]) (by decide) rfl (W7 n (by omega)) ?_
  refine lD.cons (k1:=[0,0,0]) (k2:=[0,0,0,1,1,1,1,1,1,1]) (by decide) rfl (sV n (by omega)) ?_
  refine lD.cons (k1:=[0,0,0]) (k2:=[1,1,1,1,1,1,1]) (by decide) rfl (sV n (by omega)) ?_
  refine lD.cons (k1:=[1,1,1,1,1,1,1]) (k2:=[]) (by decide) rfl (KF n (by omega)) ?_
  exact lD.nil _ _
theorem acH (n:Nat) (h:3≤n):EqOk Tryz.prog 178 [2,0,2,0,2,0,0,0,0,0,0,0,0,1,1,1,1,1,1,1,0] true n:=by
  obtain ⟨n,rfl⟩:∃ m,n=m+1:=⟨n-1,by omega⟩
  refine EqOk.struct Tryz.underlying178 (by kernel_rfl) ?_ iC
  refine lD.cons (k1:=[2]) (k2:=[0,2,0,2,0,0,0,0,0,0,0,0,1,1,1,1,1,1,1,0]) (by decide) rfl (W7 n (by omega)) ?_
  refine lD.cons (k1:=[0]) (k2:=[2,0,2,0,0,0,0,0,0,0,0,1,1,1,1,1,1,1,0]) (by decide) rfl (yA n (by omega)) ?_
  refine lD.cons (k1:=[2,0]) (k2:=[2,0,0,0,0,0,0,0,0,1,1,1,1,1,1,1,0]) (by decide) rfl (pF n (by omega)) ?_
  refine lD.cons (k1:=[2,0]) (k2:=[0,0,0,0,0,0,0,1,1,1,1,1,1,1,0]) (by decide) rfl (pF n (by omega)) ?_
  refine lD.cons (k1:=[0]) (k2:=[0,0,0,0,0,0,1,1,1,1,1,1,1,0]) (by decide) rfl (yA n (by omega)) ?_
  refine lD.cons (k1:=[0,0,0]) (k2:=[0,0,0,1,1,1,1,1,1,1,0]) (by decide) rfl (sV n (by omega)) ?_
  refine lD.cons (k1:=[0,0,0]) (k2:=[1,1,1,1,1,1,1,0]) (by decide) rfl (sV n (by omega)) ?_
  refine lD.cons (k1:=[1,1,1,1,1,1,1]) (k2:=[0]) (by decide) rfl (KF n (by omega)) ?_
  refine lD.cons (k1:=[0]) (k2:=[]) (by decide) rfl (yA n (by omega)) ?_
  exact lD.nil _ _
theorem acI (n:Nat) (h:3≤n):EqOk Tryz.prog 205 [2,0,2,0,0] true n:=by
  obtain ⟨n,rfl⟩:∃ m,n=m+1:=⟨n-1,by omega⟩
  refine EqOk.struct Tryz.underlying205 (by kernel_rfl) ?_ nT
  refine lD.cons (k1:=[2,0]) (k2:=[2,0,0]) (by decide) rfl (pF n (by omega)) ?_
  refine lD.cons (k1:=[2,0]) (k2:=[0]) (by decide) rfl (pF n (by omega)) ?_
  refine lD.cons (k1:=[0]) (k2:=[]) (by decide) rfl (yA n (by omega)) ?_
  exact lD.nil _ _
theorem acJ (n:Nat) (h:3≤n):EqOk Tryz.prog 207 [2,0,0] true n:=by
  obtain ⟨n,rfl⟩:∃ m,n=m+1:=⟨n-1,by omega⟩
  refine EqOk.struct Tryz.underlying207 (by kernel_rfl) ?_ sT
  refine lD.cons (k1:=[2,0]) (k2:=[0]) (by decide) rfl (pF n (by omega)) ?_
  refine lD.cons (k1:=[0]) (k2:=[]) (by decide) rfl (yA n (by omega)) ?_
  exact lD.nil _ _
theorem afN:Tryz.prog.eqGuardType Tryz.prog.depth 29=false:=by kernel_rfl
theorem W8:Tryz.prog.eqGuardType Tryz.prog.depth 57=false:=by kernel_rfl
theorem acK:Tryz.prog.eqGuardType Tryz.prog.depth 60=false:=by kernel_rfl
theorem B6:Tryz.prog.eqGuardType Tryz.prog.depth 148=false:=by kernel_rfl
theorem acL:Tryz.prog.eqGuardType Tryz.prog.depth 150=false:=by kernel_rfl
theorem acM:Tryz.prog.eqGuardType Tryz.prog.depth 152=false:=by kernel_rfl
theorem acN:Tryz.prog.eqGuardType Tryz.prog.depth 154=false:=by kernel_rfl
theorem acO:Tryz.prog.eqGuardType Tryz.prog.depth 160=false:=by kernel_rfl
theorem CA:Tryz.prog.eqGuardType Tryz.prog.depth 162=false:=by kernel_rfl
theorem VW:Tryz.prog.eqGuardType Tryz.prog.depth 163=false:=by kernel_rfl
theorem acP:Tryz.prog.eqGuardType Tryz.prog.depth 165=false:=by kernel_rfl
theorem acQ:Tryz.prog.eqGuardType Tryz.prog.depth 178=false:=by kernel_rfl
theorem acR:Tryz.prog.eqGuardType Tryz.prog.depth 205=false:=by kernel_rfl
theorem acS:Tryz.prog.eqGuardType Tryz.prog.depth 207=false:=by kernel_rfl
end Go.Proofs.YtfffbdmdllgalaaGreatDoor
namespace Go.Proofs.YtfffbdmdllgalaaGreatDoor
open Go Go.RowKit Go.Fz
set_option maxRecDepth 10000
theorem OZ (d:eS) (w:World):Calls Tryz.prog 207 #[.agg (dL d).toArray] w (eB (Bo (kW d)) w):=by
 refine dX [.agg (dL d).toArray] Tryz.func207 rfl rfl rfl rfl fun _ s0=>wp_seq<|aA<|lb s0 0 _ rfl rfl rfl rfl fun B1 a2 w3 s4=>zl s4 [1] [(1,Pt B1 0)] 1 1 qe fun _ w6 s7=>aR rfl<|aD<|wp_seq<|zr s7 [2] [(2,Bo ((((((decide (d.year≥2000))&&(decide (d.year≤2199)))&&(decide (d.month≥1)))&&(decide (d.month≤12)))&&(decide (d.day≥1)))&&(decide (d.day≤(fL d.year d.month)))))] MO (qo (fa w6 B1 0 lP)<|qo (s7.m.ld 3 0 0 bM rfl rfl)<|qo (fa w6 B1 0 lP)<|qo (s7.m.ld 3 0 0 bM rfl rfl)<|qo (fa w6 B1 0 kP)<|qo (s7.m.ld 3 0 1 bM rfl rfl)<|qo (fa w6 B1 0 kP)<|qo (s7.m.ld 3 0 1 bM rfl rfl)<|qo (fa w6 B1 0 p8)<|qo (s7.m.ld 3 0 2 bM rfl rfl)<|qo (fa w6 B1 0 p8)<|qo (s7.m.ld 3 0 2 bM rfl rfl)<|qo (fa w6 B1 0 lP)<|qo (s7.m.ld 3 0 0 bM rfl rfl)<|qo (fa w6 B1 0 kP)<|qo (s7.m.ld 3 0 1 bM rfl rfl)<|qo (yc w6 VJ fun w' hb=>GC d.year d.month w')<|qe) fun _ w9 s10=>aD<|aC<|pR [Bo ((((((decide (d.year≥2000))&&(decide (d.year≤2199)))&&(decide (d.month≥1)))&&(decide (d.month≤12)))&&(decide (d.day≥1)))&&(decide (d.day≤(fL d.year d.month))))] rfl s10 ⟨rfl,trivial⟩<|?_
 exact aW s10 rfl
theorem r9 (d:eS) (w:World):Calls Tryz.prog 170 #[.agg (dL d).toArray] w (eB (.tuple #[I (bO d),I (g6 d)]) w):=by
 refine dX [.agg (dL d).toArray] Tryz.func170 rfl rfl rfl rfl fun _ s0=>wp_seq<|aA<|lb s0 0 _ rfl rfl rfl rfl fun B1 a2 w3 s4=>zl s4 [1] [(1,Pt B1 0)] 1 2 qe fun _ w6 s7=>aR rfl<|aD<|wp_seq<|zs s7 [1,9] [(9,Bo (!(kW d)))] (qo (s7.m.lda 162 0 0 dY rfl rfl rfl)<|qo (yc w6 aaX fun w' hb=>OZ d w')<|qe) fun _ w9 s10=>bR s10.f rfl (fun h11=>?_) (fun h11=>?_)
 ·refine zs s10 [2,3] [(2,I 0),(3,I 120)] qe fun _ w13 s14=>aC<|aN (pR [I 0,I 120] rfl s14 ⟨rfl,rfl,trivial⟩ ?_)
  exact gX s14 (congrArg I (xX h11).1.symm) (congrArg I (xX h11).2.symm)
 refine wp_skip<|aD<|wp_seq<|?_
 have hd:=h11
 have hdd:=jO.1 hd
 have hml:=j0 d.year d.month
 refine dU s10 [1,4] [402] [] (qo (fa w9 B1 0 p8)<|qo (s10.m.ld 3 0 2 bM rfl rfl)<|qo (wr (d.day-1) (d.day-1) (by omega))<|qe) fun _ w16 s17=>aD<|wp_seq<|zs s17 [1,4,5] [(5,I 2000)] qe fun _ w19 s20=>wp_block<|aO (α:=Nat) (fun k aI wI=>(k≤(d.year-1999).toNat)∧(Sta 41 [] w [⟨1,[],Pt B1 0⟩,⟨4,[],I (yN d k)⟩,⟨5,[],I (2000+(k:Int))⟩] [cI B1 162 (dL d)] aI wI)) (fun k=>(d.year-1999).toNat-k) 0 ⟨Nat.zero_le _,(s20.keep (E':=[⟨1,[],Pt B1 0⟩,⟨4,[],I (d.day-1)⟩,⟨5,[],I 2000⟩]) [1,4,5] (by kernel_rfl)).sp (by rw [R7 hd]; try rfl)⟩<|?_
 rintro k a23 w22 ⟨k_le,s21⟩
 refine wp_seq<|zs s21 [1,4,5,16] [(16,Bo (decide (2000+(k:Int)≤d.year)))] (qo (fa w22 B1 0 lP)<|qo (s21.m.ld 3 0 0 bM rfl rfl)<|qe) fun _ w25 s26=>aQ s26.f rfl (fun h27=>?_) (fun h27=>?_)
 ·have k_lt:k<(d.year-1999).toNat:=by omega
  refine wp_skip<|aD<|wp_seq<|wp_block<|wp_seq<|?_
  have hk:=h27
  have hjl:=U2 hd k
  refine zq s26 [1,4,5,6] [(6,I 1)] qe fun _ w29 s30=>aD<|wp_block<|aO (α:=Nat) (fun j aI wI=>(j≤jN d k)∧(Sta 41 [] w [⟨1,[],Pt B1 0⟩,⟨4,[],I (yN d k+mO (2000+(k:Int)) j)⟩,⟨5,[],I (2000+(k:Int))⟩,⟨6,[],I (1+(j:Int))⟩] [cI B1 162 (dL d)] aI wI)) (fun j=>jN d k-j) 0 ⟨Nat.zero_le _,(s30.keep (E':=[⟨1,[],Pt B1 0⟩,⟨4,[],I (yN d k)⟩,⟨5,[],I (2000+(k:Int))⟩,⟨6,[],I 1⟩]) [1,4,5,6] (by kernel_rfl)).sp (by rw [BR,Int.add_zero]; try rfl)⟩<|?_
  rintro j a33 w32 ⟨j_le,s31⟩
  refine wp_seq<|zs s31 [1,4,5,6,32] [(32,Bo ((decide (1+(j:Int)≤12))&&((decide (2000+(k:Int)<d.year))||(decide (1+(j:Int)<d.month)))))] (qo (fa w32 B1 0 lP)<|qo (s31.m.ld 3 0 0 bM rfl rfl)<|qo (fa w32 B1 0 kP)<|qo (s31.m.ld 3 0 1 bM rfl rfl)<|qe) fun _ w35 s36=>cO s36.f rfl (fun h37=>?_) (fun h37=>?_)
  ·have j_lt:j<jN d k:=YP hd hk h37
   refine wp_skip<|aD<|wp_seq<|wp_block<|dU s36 [1,4,5,6] [401] [] (qo (yc w35 VJ fun w' hb=>GC (2000+(k:Int)) (1+(j:Int)) w')<|qo (wr (yN d k+mO (2000+(k:Int)) j+(fL (2000+(k:Int)) (1+(j:Int)))) (yN d k+mO (2000+(k:Int)) (j+1)) (R9 hd hk j_lt))<|qe) fun _ w39 s40=>c9 (aD ?_)
   refine dU s40 [1,4,5,6] [600] [] (qo (wr (1+(j:Int)+1) (1+((j+1:Nat):Int)) (by omega))<|qe) fun _ w42 s43=>aD<|?_
   exact ⟨(j+1),⟨by omega,s43.kp⟩,by omega⟩
  have j_eq:j=jN d k:=WM hd hk j_le h37
  refine wp_exit<|aY (aY (cP (c9 (aD ?_))))
  refine dU s36 [1,4,5] [500] [] (qo (wr (2000+(k:Int)+1) (2000+((k+1:Nat):Int)) (by omega))<|qe) fun _ w45 s46=>aD<|?_
  exact ⟨(k+1),⟨by omega,(s46.keep (E':=[⟨1,[],Pt B1 0⟩,⟨4,[],I (yN d k+mO (2000+(k:Int)) j)⟩,⟨5,[],I (2000+((k+1:Nat):Int))⟩]) [1,4,5] (by kernel_rfl)).sp (by rw [j_eq,R8 hd hk]; try rfl)⟩,by omega⟩
 have k_eq:k=(d.year-1999).toNat:=by omega
 refine wp_exit<|aY (aY (cP (aD ?_)))
 refine zs s26 [2,3] [(2,I (yN d k)),(3,I 0)] qe fun _ w48 s49=>aC<|pR [I (yN d k),I 0] rfl s49 ⟨rfl,rfl,trivial⟩<|?_
 exact gX s49 (congrArg I ((WK h27).trans (kL hd).1.symm)) (congrArg I (kL hd).2.symm)
end Go.Proofs.YtfffbdmdllgalaaGreatDoor
namespace Go.Proofs.YtfffbdmdllgalaaGreatDoor
open Go Go.RowKit Go.Fz
set_option maxRecDepth 10000
theorem W9 (x:cQ) (w:World):Calls Tryz.prog 163 #[.agg (dB x).toArray] w (eB (Bo (mP x)) w):=by
 refine dX [.agg (dB x).toArray] Tryz.func163 rfl rfl rfl rfl fun _ s0=>wp_seq<|aA<|lb s0 0 _ rfl rfl rfl rfl fun B1 a2 w3 s4=>zl s4 [1] [(1,Pt B1 0)] 1 1 qe fun _ w6 s7=>aR rfl<|aD<|zs s7 [1,3,4] [(3,I (bO x.frm)),(4,I (g6 x.frm))] (qo (fa w6 B1 0 JY)<|qo (s7.m.lda 162 0 1 dY rfl rfl rfl)<|qo (yc w6 KA fun w' hb=>r9 x.frm w')<|qe) fun _ w9 s10=>zs s10 [1,3,4,5,6] [(5,I (bO x.to)),(6,I (g6 x.to))] (qo (fa w9 B1 0 JZ)<|qo (s10.m.lda 162 0 4 dY rfl rfl rfl)<|qo (yc w9 KA fun w' hb=>r9 x.to w')<|qe) fun _ w12 s13=>wp_seq<|zs s13 [1,3,5,27] [(27,Bo (((g6 x.frm) != 0)||((g6 x.to) != 0)))] qe fun _ w15 s16=>cO s16.f rfl (fun h17=>?_) (fun h17=>?_)
 ·refine zs s16 [2] [(2,Bo false)] qe fun _ w19 s20=>aC<|aN (pR [Bo false] rfl s20 ⟨rfl,trivial⟩ ?_)
  exact aW s20 (congrArg Bo (N1 h17).symm)
 refine wp_skip<|aD<|wp_seq<|wp_seq<|?_
 have hok:=h17
 have hkl:=U3 x
 have hr1:=pV x.frm
 have hr2:=pV x.to
 refine zq s16 [1,3,5,7] [(7,I (bO x.frm))] qe fun _ w22 s23=>aD<|wp_block<|aO (α:=Nat) (fun k aI wI=>(k≤sK x)∧(Sta 49 [] w [⟨1,[],Pt B1 0⟩,⟨3,[],I (bO x.frm)⟩,⟨5,[],I (bO x.to)⟩,⟨7,[],I (bO x.frm+(k:Int))⟩] [cI B1 165 (dB x)] aI wI)∧(∀ i,i<k→x.week.at (vT (bO x.frm+(i:Int)))=false)) (fun k=>sK x-k) 0 ⟨Nat.zero_le _,(s23.keep (E':=[⟨1,[],Pt B1 0⟩,⟨3,[],I (bO x.frm)⟩,⟨5,[],I (bO x.to)⟩,⟨7,[],I (bO x.frm)⟩]) [1,3,5,7] (by kernel_rfl)).sp (by simp),fun i h=>(Nat.not_lt_zero i h).elim⟩<|?_
 rintro k a26 w25 ⟨k_le,s24,inv⟩
 refine wp_seq<|zs s24 [1,3,5,7,37] [(37,Bo ((decide (bO x.frm+(k:Int)≤(bO x.to)))&&(decide (bO x.frm+(k:Int)<(bO x.frm+7)))))] (qu (fun (g0:(decide (bO x.frm+(k:Int)≤(bO x.to)))=true)=>wr (bO x.frm+7) (bO x.frm+7) (by first | omega | (simp only [xV] at *; omega)))<|qe) fun _ w28 s29=>cO s29.f rfl (fun h30=>?_) (fun h30=>?_)
 ·have k_lt:k<sK x:=YQ h30
  refine wp_skip<|aD<|wp_seq<|wp_block<|zs s29 [1,3,5,7,8] [(8,I (vT (bO x.frm+(k:Int))))] (qo (yc w28 aaW fun w' hb=>IA (bO x.frm+(k:Int)) w')<|qe) fun _ w32 s33=>d5 s33 [1,3,5,7,48] [4802] [] (qo (fa w32 B1 0 J0)<|qo (HR w32 B1 7 (vT (bO x.frm+(k:Int))) Tryz.underlying163 U5 (rW _))<|qo (s33.m.ld 4 0 (7+(vT (bO x.frm+(k:Int))).toNat*1) X0 rfl (FX x (rW _)))<|qe) fun _ w35 s36=>cO s36.f rfl (fun h37=>?_) (fun h37=>?_)
  ·refine zs s36 [2] [(2,Bo true)] qe fun _ w39 s40=>aC<|bP (aN (aN (bP (aN (pR [Bo true] rfl s40 ⟨rfl,trivial⟩ ?_)))))
   exact aW s40 (congrArg Bo (LE hok k_lt h37).symm)
  refine wp_skip<|c9 (aD ?_)
  refine dU s36 [1,3,5,7] [700] [] (qo (wr (bO x.frm+(k:Int)+1) (bO x.frm+((k+1:Nat):Int)) (by omega))<|qe) fun _ w42 s43=>aD<|?_
  exact ⟨(k+1),⟨by omega,s43.kp,aM inv h37⟩,by omega⟩
 have k_eq:k=sK x:=YR k_le h30
 refine wp_exit<|aY (aY (cP (aD ?_)))
 refine zs s29 [2] [(2,Bo false)] qe fun _ w45 s46=>aC<|pR [Bo false] rfl s46 ⟨rfl,trivial⟩<|?_
 exact aW s46 (congrArg Bo (LF (by rw [k_eq] at inv; exact inv)).symm)
theorem DR (p:aX) (w:World) (hz:Row w p.sizesA 1 iO p.sizes):Calls Tryz.prog 165 #[.agg (aK p).toArray] w (eB (I (fF p)) w):=by
 refine dX [.agg (aK p).toArray] Tryz.func165 rfl rfl rfl rfl fun _ s0=>?_
 have sm0:=hz.small
 refine wp_seq<|aA<|lb s0 0 _ rfl rfl rfl rfl fun B1 a2 w3 s4=>zl s4 [1] [(1,Pt B1 0)] 1 1 qe fun _ w6 s7=>aR rfl<|aD<|wp_seq<|zs s7 [1,7] [(7,Bo (p.kind==6))] (qo (fa w6 B1 0 dM)<|qo (s7.m.ld 3 0 1 bM rfl rfl)<|qe) fun _ w9 s10=>bA s10.f rfl (fun h11=>?_) (fun h11=>?_)
 ·refine zs s10 [2] [(2,I 2)] qe fun _ w13 s14=>aC<|aN (pR [I 2] rfl s14 ⟨rfl,trivial⟩ ?_)
  exact aW s14 (congrArg I (if_pos h11).symm)
 refine wp_skip<|aD<|wp_seq<|zs s10 [1,10] [(10,Bo (p.kind != 4))] (qo (fa w9 B1 0 dM)<|qo (s10.m.ld 3 0 1 bM rfl rfl)<|qe) fun _ w16 s17=>jQ s17.f rfl (fun h18=>?_) (fun h18=>?_)
 ·refine d5 s17 [2] [202] [] (qo (fa w16 B1 0 dR)<|qo (s17.m.ld 155 0 4 jT rfl rfl)<|qo (ln w16 3 p.teamsA p.teams.length p.teamsC jU)<|qe) fun _ w20 s21=>aC<|aN (pR [I (p.teams.length:Int)] rfl s21 ⟨rfl,trivial⟩ ?_)
  exact aW s21 (congrArg I (iM h11 (if_pos h18)).symm)
 refine wp_skip<|aD<|zs s17 [1,3] [(3,I 0)] qe fun _ w23 s24=>wp_seq<|zs s24 [1,3,4] [(4,I 0)] qe fun _ w26 s27=>wp_block<|aO (α:=Nat) (fun k aI wI=>(k≤p.sizes.length)∧(Sta 29 [] w [⟨1,[],Pt B1 0⟩,⟨3,[],I (l8 (p.sizes.take k))⟩,⟨4,[],I (k:Int)⟩] [cI B1 157 (aK p)] aI wI)) (fun k=>p.sizes.length-k) 0 ⟨Nat.zero_le _,s27.kp⟩<|?_
 rintro k a30 w29 ⟨k_le,s28⟩
 refine wp_seq<|zs s28 [1,3,4,18] [(18,Bo (decide ((k:Int)<(p.sizes.length:Int))))] (qo (fa w29 B1 0 gH)<|qo (s28.m.ld 30 0 7 jB rfl rfl)<|qo (ln w29 3 p.sizesA p.sizes.length p.sizesC eX)<|qe) fun _ w32 s33=>aQ s33.f rfl (fun h34=>?_) (fun h34=>?_)
 ·have k_lt:k<p.sizes.length:=by omega
  obtain ⟨x,hx35⟩:=cD (xs:=p.sizes) k_lt
  refine wp_skip<|aD<|wp_seq<|wp_block<|dU s33 [1,3,4] [304] [] (qo (fa w32 B1 0 gH)<|qo (s33.m.ld 30 0 7 jB rfl rfl)<|qo ((hz.up s33.m).ia p.sizesC k eX hP (by omega))<|qo ((hz.up s33.m).ld 3 k 0 bM hx35 rfl)<|qo (rfl:Value.int .i64 (IntKind.i64.wrap (l8 (p.sizes.take k)+x))=I (IntKind.i64.wrap (l8 (p.sizes.take k)+x)))<|qe) fun _ w37 s38=>c9 (aD ?_)
  refine dU s38 [1,3,4] [400] [] (qo (wr ((k:Int)+1) ((k+1:Nat):Int) (by omega))<|qe) fun _ w40 s41=>aD<|?_
  exact ⟨(k+1),⟨by omega,(s41.keep (E':=[⟨1,[],Pt B1 0⟩,⟨3,[],I (IntKind.i64.wrap (l8 (p.sizes.take k)+x))⟩,⟨4,[],I ((k+1:Nat):Int)⟩]) [1,3,4] (by kernel_rfl)).sp (by rw [v6 hx35] <;> rfl)⟩,by omega⟩
 have k_eq:k=p.sizes.length:=by omega
 refine wp_exit<|aY (aY (cP (aD ?_)))
 refine zs s33 [2] [(2,I (l8 (p.sizes.take k)))] qe fun _ w43 s44=>aC<|pR [I (l8 (p.sizes.take k))] rfl s44 ⟨rfl,trivial⟩<|?_
 exact aW s44 (congrArg I ((iM h11 (if_neg (fun hX=>hX h18))).trans (zA k_eq).symm).symm)
theorem GE (oa:Option Addr) (l:List cW) (c:Nat) (w:World) (hl:Row w oa 2 bN l):Calls Tryz.prog 166 #[.slice oa l.length c] w (eB (Bo (qN l)) w):=by
 refine dX [.slice oa l.length c] Tryz.func166 rfl rfl rfl rfl fun _ s0=>?_
 have sm0:=hl.small
 refine zs s0 [0] [(0,.slice oa l.length c)] qe fun _ w2 s3=>wp_seq<|zs s3 [0,3] [(3,I 0)] qe fun _ w5 s6=>wp_block<|aO (α:=Nat) (fun k aI wI=>(k≤l.length)∧(Sta 27 [] w [⟨0,[],.slice oa l.length c⟩,⟨3,[],I (k:Int)⟩] [] aI wI)∧(∀ i,i<k→JD l i)) (fun k=>l.length-k) 0 ⟨Nat.zero_le _,s6.keep [0,3] (by kernel_rfl),fun i h=>(Nat.not_lt_zero i h).elim⟩<|?_
 rintro k a9 w8 ⟨k_le,s7,inv⟩
 refine wp_seq<|zs s7 [0,3,8] [(8,Bo (decide ((k:Int)<(l.length:Int))))] (qo (ln w8 3 oa l.length c jU)<|qe) fun _ w11 s12=>aQ s12.f rfl (fun h13=>?_) (fun h13=>?_)
 ·have k_lt:k<l.length:=by omega
  obtain ⟨x,hx14⟩:=cD (xs:=l) k_lt
  refine wp_skip<|aD<|wp_seq<|wp_block<|zs s12 [0,3,4] [(4,I 0)] qe fun _ w16 s17=>wp_block<|aO (α:=Nat) (fun j aI wI=>(j≤k)∧(Sta 27 [] w [⟨0,[],.slice oa l.length c⟩,⟨3,[],I (k:Int)⟩,⟨4,[],I (j:Int)⟩] [] aI wI)∧(∀ i,i<j→∀ y,l[i]?=some y→y.n≠x.n)) (fun j=>k-j) 0 ⟨Nat.zero_le _,s17.keep [0,3,4] (by kernel_rfl),fun i h=>(Nat.not_lt_zero i h).elim⟩<|?_
  rintro j a20 w19 ⟨j_le,s18,inv2⟩
  refine wp_seq<|zs s18 [0,3,4,13] [(13,Bo (decide ((j:Int)<(k:Int))))] qe fun _ w22 s23=>aQ s23.f rfl (fun h24=>?_) (fun h24=>?_)
  ·have j_lt:j<k:=by omega
   obtain ⟨y,hx25⟩:=cD (xs:=l) (Nat.lt_trans j_lt k_lt)
   refine wp_skip<|aD<|wp_seq<|wp_block<|wp_seq<|zr s23 [0,3,4,26] [(26,Bo (y.n==x.n))] MO (qo ((hl.up s23.m).ia c j jU eD (by omega))<|qo (jZ w22 oa (j*2) dC)<|qo ((hl.up s23.m).ld 3 j 1 bM hx25 rfl)<|qo ((hl.up s23.m).ia c k jU eD (by omega))<|qo (jZ w22 oa (k*2) dC)<|qo ((hl.up s23.m).ld 3 k 1 bM hx14 rfl)<|qe) fun _ w27 s28=>aD<|bA s28.f rfl (fun h29=>?_) (fun h29=>?_)
   ·refine zs s28 [2] [(2,Bo false)] qe fun _ w31 s32=>aC<|bP (aN (aN (bP (bP (aN (aN (bP (aN (pR [Bo false] rfl s32 ⟨rfl,trivial⟩ ?_)))))))))
    exact aW s32 (congrArg Bo (N2 hx14 hx25 j_lt h29).symm)
   refine wp_skip<|c9 (aD ?_)
   refine dU s28 [0,3,4] [400] [] (qo (wr ((j:Int)+1) ((j+1:Nat):Int) (by omega))<|qe) fun _ w34 s35=>aD<|?_
   exact ⟨(j+1),⟨by omega,s35.keep [0,3,4] (by kernel_rfl),aM inv2 (fun z hz=>by rw [hx25] at hz; cases hz; exact h29)⟩,by omega⟩
  have j_eq:j=k:=by omega
  refine wp_exit<|aY (aY (cP (c9 (aD ?_))))
  refine dU s23 [0,3] [300] [] (qo (wr ((k:Int)+1) ((k+1:Nat):Int) (by omega))<|qe) fun _ w37 s38=>aD<|?_
  exact ⟨(k+1),⟨by omega,s38.keep [0,3] (by kernel_rfl),aM inv (fun y hy=>by rw [hx14] at hy; cases hy; rw [j_eq] at inv2; exact inv2)⟩,by omega⟩
 have k_eq:k=l.length:=by omega
 refine wp_exit<|aY (aY (cP (aD ?_)))
 refine zs s12 [2] [(2,Bo true)] qe fun _ w40 s41=>aC<|pR [Bo true] rfl s41 ⟨rfl,trivial⟩<|?_
 exact aW s41 (congrArg Bo (LG (by rw [k_eq] at inv; exact inv)).symm)
theorem afO (x:Week) (w:World):Calls Tryz.prog 168 #[.agg (mE x).toArray] w (eB (Bo (YS x)) w):=by
 refine dX [.agg (mE x).toArray] Tryz.func168 rfl rfl rfl rfl fun _ s0=>wp_seq<|aA<|lb s0 0 _ rfl rfl rfl rfl fun B1 a2 w3 s4=>zl s4 [1] [(1,Pt B1 0)] 1 1 qe fun _ w6 s7=>aR rfl<|aD<|d5 s7 [2] [202] [] (qo (s7.m.lda 163 0 0 N8 rfl rfl rfl)<|qo (jL (P:=Tryz.prog) w6 163 [] (.agg #[Bo false,Bo false,Bo false,Bo false,Bo false,Bo false,Bo false]) (fun _=>by kernel_rfl))<|qo (HM (P:=Tryz.prog) w6 (.tmp 3) (.tmp 4) (mE x) (mE (⟨false,false,false,false,false,false,false⟩:Week)) (KF 10 (by decide)) (by decide) VW rfl rfl)<|qe) fun _ w9 s10=>aC<|pR [Bo (!(oM x (⟨false,false,false,false,false,false,false⟩:Week)))] rfl s10 ⟨rfl,trivial⟩<|?_
 exact aW s10 rfl
theorem LR (l:aE) (w:World) (hL:LeagueAt w l):Calls Tryz.prog 135 #[.agg (aB l).toArray] w (eB (Bo (rY l)) w):=by
 refine dX [.agg (aB l).toArray] Tryz.func135 rfl rfl rfl rfl fun _ s0=>?_
 have smx1:=hL.sm
 refine wp_seq<|aA<|lb s0 0 _ rfl rfl rfl rfl fun B1 a2 w3 s4=>zl s4 [1] [(1,Pt B1 0)] 1 1 qe fun _ w6 s7=>aR rfl<|aD<|wp_seq<|zs s7 [1,3] [(3,I 0)] qe fun _ w9 s10=>wp_block<|aO (α:=Nat) (fun k1 aI wI=>(k1≤l.ways.length)∧(Sta 104 [] w [⟨1,[],Pt B1 0⟩,⟨3,[],I (k1:Int)⟩] [cI B1 34 (aB l)] aI wI)∧(∀ i,i<k1→∀ x,l.ways[i]?=some x→wayB x=true)) (fun k1=>l.ways.length-k1) 0 ⟨Nat.zero_le _,s10.keep [1,3] (by kernel_rfl),fun i h=>(Nat.not_lt_zero i h).elim⟩<|?_
 rintro k1 a13 w12 ⟨k1_le,s11,inv_k1⟩
 refine wp_seq<|zs s11 [1,3,12] [(12,Bo (decide ((k1:Int)<(l.ways.length:Int))))] (qo (fa w12 B1 0 fS)<|qo (s11.m.ld 23 0 2 nS rfl rfl)<|qo (ln w12 3 l.waysA l.ways.length l.waysC nU)<|qe) fun _ w15 s16=>aQ s16.f rfl (fun h17=>?_) (fun h17=>?_)
 ·have k1_lt:k1<l.ways.length:=by omega
  obtain ⟨x,hx18⟩:=cD (xs:=l.ways) k1_lt
  refine wp_skip<|aD<|wp_seq<|wp_block<|wp_seq<|zr s16 [1,3,39] [(39,Bo ((x.a.n==x.b.n)||(!(aG x.minutes 1 1440))))] MO (qo (fa w15 B1 0 fS)<|qo (s16.m.ld 23 0 2 nS rfl rfl)<|qo ((hL.ways.up s16.m).ia l.waysC k1 nU nT (by omega))<|qo (jZ w15 l.waysA (k1*5) uW)<|qo (jZ w15 l.waysA (k1*5) dC)<|qo ((hL.ways.up s16.m).ld 3 k1 1 bM hx18 rfl)<|qo (fa w15 B1 0 fS)<|qo (s16.m.ld 23 0 2 nS rfl rfl)<|qo ((hL.ways.up s16.m).ia l.waysC k1 nU nT (by omega))<|qo (jZ w15 l.waysA (k1*5) uX)<|qo (jZ w15 l.waysA (k1*5+2) dC)<|qo ((hL.ways.up s16.m).ld 3 k1 3 bM hx18 rfl)<|qo (fa w15 B1 0 fS)<|qo (s16.m.ld 23 0 2 nS rfl rfl)<|qu (fun (g0:(x.a.n==x.b.n)=false)=>(hL.ways.up s16.m).ia l.waysC k1 nU nT (by first | omega | (simp only [xV] at *; omega)))<|qo (jZ w15 l.waysA (k1*5) J5)<|qo ((hL.ways.up s16.m).ld 3 k1 4 bM hx18 rfl)<|qo (yc w15 lV fun w' hb=>d7 x.minutes 1 1440 w')<|qe) fun _ w20 s21=>aD<|cO s21.f rfl (fun h22=>?_) (fun h22=>?_)
  ·refine zs s21 [2] [(2,Bo false)] qe fun _ w24 s25=>aC<|bP (aN (aN (bP (aN (pR [Bo false] rfl s25 ⟨rfl,trivial⟩ ?_)))))
   exact aW s25 (congrArg Bo (iF (bI hx18 (congrArg (!·) h22)) rfl).symm)
  refine wp_skip<|c9 (aD ?_)
  refine dU s21 [1,3] [300] [] (qo (wr ((k1:Int)+1) ((k1+1:Nat):Int) (by omega))<|qe) fun _ w27 s28=>aD<|?_
  exact ⟨(k1+1),⟨by omega,s28.keep [1,3] (by kernel_rfl),aM inv_k1 (fun y hy=>by rw [hx18] at hy; cases hy; exact (congrArg (!·) h22))⟩,by omega⟩
 have k1_eq:k1=l.ways.length:=by omega
 have A29:l.ways.all wayB=true:=cR (by rw [k1_eq] at inv_k1; exact inv_k1)
 refine wp_exit<|aY (aY (cP (aD ?_)))
 refine wp_seq<|zs s16 [1,4] [(4,I 0)] qe fun _ w31 s32=>wp_block<|aO (α:=Nat) (fun k2 aI wI=>(k2≤l.depots.length)∧(Sta 104 [] w [⟨1,[],Pt B1 0⟩,⟨4,[],I (k2:Int)⟩] [cI B1 34 (aB l)] aI wI)∧(∀ i,i<k2→∀ x,l.depots[i]?=some x→zB x=true)) (fun k2=>l.depots.length-k2) 0 ⟨Nat.zero_le _,s32.keep [1,4] (by kernel_rfl),fun i h=>(Nat.not_lt_zero i h).elim⟩<|?_
 rintro k2 a35 w34 ⟨k2_le,s33,inv_k2⟩
 refine wp_seq<|zs s33 [1,4,44] [(44,Bo (decide ((k2:Int)<(l.depots.length:Int))))] (qo (fa w34 B1 0 iU)<|qo (s33.m.ld 24 0 3 qY rfl rfl)<|qo (ln w34 3 l.depotsA l.depots.length l.depotsC qZ)<|qe) fun _ w37 s38=>aQ s38.f rfl (fun h39=>?_) (fun h39=>?_)
 ·have k2_lt:k2<l.depots.length:=by omega
  obtain ⟨x,hx40⟩:=cD (xs:=l.depots) k2_lt
  refine wp_skip<|aD<|wp_seq<|wp_block<|zs s38 [1,4,54] [(54,Bo (!(aG x.sets 0 1000)))] (qo (fa w37 B1 0 iU)<|qo (s38.m.ld 24 0 3 qY rfl rfl)<|qo ((hL.depots.up s38.m).ia l.depotsC k2 qZ sT (by omega))<|qo (jZ w37 l.depotsA (k2*3) J6)<|qo ((hL.depots.up s38.m).ld 3 k2 2 bM hx40 rfl)<|qo (yc w37 lV fun w' hb=>d7 x.sets 0 1000 w')<|qe) fun _ w42 s43=>bR s43.f rfl (fun h44=>?_) (fun h44=>?_)
  ·refine zs s43 [2] [(2,Bo false)] qe fun _ w46 s47=>aC<|bP (aN (aN (bP (aN (pR [Bo false] rfl s47 ⟨rfl,trivial⟩ ?_)))))
   exact aW s47 (congrArg Bo (iP A29 (iF (bI hx40 h44) rfl)).symm)
  refine wp_skip<|c9 (aD ?_)
  refine dU s43 [1,4] [400] [] (qo (wr ((k2:Int)+1) ((k2+1:Nat):Int) (by omega))<|qe) fun _ w49 s50=>aD<|?_
  exact ⟨(k2+1),⟨by omega,s50.keep [1,4] (by kernel_rfl),aM inv_k2 (fun y hy=>by rw [hx40] at hy; cases hy; exact h44)⟩,by omega⟩
 have k2_eq:k2=l.depots.length:=by omega
 have A51:l.depots.all zB=true:=cR (by rw [k2_eq] at inv_k2; exact inv_k2)
 refine wp_exit<|aY (aY (cP (aD ?_)))
 refine wp_seq<|zs s38 [1,5] [(5,I 0)] qe fun _ w53 s54=>wp_block<|aO (α:=Nat) (fun k3 aI wI=>(k3≤l.grounds.length)∧(Sta 104 [] w [⟨1,[],Pt B1 0⟩,⟨5,[],I (k3:Int)⟩] [cI B1 34 (aB l)] aI wI)∧(∀ i,i<k3→∀ x,l.grounds[i]?=some x→uP x=true)) (fun k3=>l.grounds.length-k3) 0 ⟨Nat.zero_le _,s54.keep [1,5] (by kernel_rfl),fun i h=>(Nat.not_lt_zero i h).elim⟩<|?_
 rintro k3 a57 w56 ⟨k3_le,s55,inv_k3⟩
 refine wp_seq<|zs s55 [1,5,59] [(59,Bo (decide ((k3:Int)<(l.grounds.length:Int))))] (qo (fa w56 B1 0 gG)<|qo (s55.m.ld 25 0 4 n3 rfl rfl)<|qo (ln w56 3 l.groundsA l.grounds.length l.groundsC nV)<|qe) fun _ w59 s60=>aQ s60.f rfl (fun h61=>?_) (fun h61=>?_)
 ·have k3_lt:k3<l.grounds.length:=by omega
  obtain ⟨x,hx62⟩:=cD (xs:=l.grounds) k3_lt
  refine wp_skip<|aD<|wp_seq<|wp_block<|wp_seq<|aA<|zl s60 [1,5,66] [(66,.agg (bG x).toArray)] 0 5 (qo (fa w59 B1 0 gG)<|qo (s60.m.ld 25 0 4 n3 rfl rfl)<|qo ((hL.grounds.up s60.m).ia l.groundsC k3 nV oB (by omega))<|qo ((hL.grounds.up s60.m).lda 152 k3 0 BY hx62 rfl rfl)<|qe) fun _ w64 s65=>la s65 5 _ rfl OB rfl rfl fun B66 a67 w68 s69=>dD s69 6 0 _ _ rfl rfl rfl rfl oB rfl rfl rfl rfl fun w70 s71=>aR rfl<|aD<|zs s71 [1,5,88] [(88,Bo ((((!(aG x.bear 0 1000))||(!(aG x.wear 0 1000)))||(!(aG x.grow 0 1000)))||(!(aG x.uses 1 4))))] (qo (fa w70 B66 0 JP)<|qo (s71.m.ld 3 0 3 bM rfl rfl)<|qo (yc w70 lV fun w' hb=>d7 x.bear 0 1000 w')<|qo (fa w70 B66 0 JQ)<|qo (s71.m.ld 3 0 4 bM rfl rfl)<|qo (yc w70 lV fun w' hb=>d7 x.wear 0 1000 w')<|qo (fa w70 B66 0 JR)<|qo (s71.m.ld 3 0 5 bM rfl rfl)<|qo (yc w70 lV fun w' hb=>d7 x.grow 0 1000 w')<|qo (fa w70 B66 0 JS)<|qo (s71.m.ld 3 0 6 bM rfl rfl)<|qo (yc w70 lV fun w' hb=>d7 x.uses 1 4 w')<|qe) fun _ w73 s74=>cO s74.f rfl (fun h75=>?_) (fun h75=>?_)
  ·refine zs s74 [2] [(2,Bo false)] qe fun _ w77 s78=>aC<|bP (aN (aN (bP (aN (pR [Bo false] rfl s78 ⟨rfl,trivial⟩ ?_)))))
   exact aW s78 (congrArg Bo (iP A29 (iP A51 (iF (bI hx62 (congrArg (!·) h75)) rfl))).symm)
  refine wp_skip<|c9 (aD ?_)
  refine dU s74 [1,5] [500] [] (qo (wr ((k3:Int)+1) ((k3+1:Nat):Int) (by omega))<|qe) fun _ w80 s81=>aD<|?_
  exact ⟨(k3+1),⟨by omega,(s81.keep [1,5] (by kernel_rfl)).sub (.cons _ (.refl _)),aM inv_k3 (fun y hy=>by rw [hx62] at hy; cases hy; exact (congrArg (!·) h75))⟩,by omega⟩
 have k3_eq:k3=l.grounds.length:=by omega
 have A82:l.grounds.all uP=true:=cR (by rw [k3_eq] at inv_k3; exact inv_k3)
 refine wp_exit<|aY (aY (cP (aD ?_)))
 refine wp_seq<|zs s60 [1,7] [(7,I 0)] qe fun _ w84 s85=>wp_block<|aO (α:=Nat) (fun k4 aI wI=>(k4≤l.teams.length)∧(Sta 104 [] w [⟨1,[],Pt B1 0⟩,⟨7,[],I (k4:Int)⟩] [cI B1 34 (aB l)] aI wI)∧(∀ i,i<k4→∀ x,l.teams[i]?=some x→F3 x=true)) (fun k4=>l.teams.length-k4) 0 ⟨Nat.zero_le _,s85.keep [1,7] (by kernel_rfl),fun i h=>(Nat.not_lt_zero i h).elim⟩<|?_
 rintro k4 a88 w87 ⟨k4_le,s86,inv_k4⟩
 refine wp_seq<|zs s86 [1,7,93] [(93,Bo (decide ((k4:Int)<(l.teams.length:Int))))] (qo (fa w87 B1 0 dS)<|qo (s86.m.ld 26 0 5 kS rfl rfl)<|qo (ln w87 3 l.teamsA l.teams.length l.teamsC lL)<|qe) fun _ w90 s91=>aQ s91.f rfl (fun h92=>?_) (fun h92=>?_)
 ·have k4_lt:k4<l.teams.length:=by omega
  obtain ⟨x,hx93⟩:=cD (xs:=l.teams) k4_lt
  refine wp_skip<|aD<|wp_seq<|wp_block<|zs s91 [1,7,103] [(103,Bo (!(aG x.rank 1 1000)))] (qo (fa w90 B1 0 dS)<|qo (s91.m.ld 26 0 5 kS rfl rfl)<|qo ((hL.teams.up s91.m).ia l.teamsC k4 lL o9 (by omega))<|qo (jZ w90 l.teamsA (k4*4) JW)<|qo ((hL.teams.up s91.m).ld 3 k4 3 bM hx93 rfl)<|qo (yc w90 lV fun w' hb=>d7 x.rank 1 1000 w')<|qe) fun _ w95 s96=>bR s96.f rfl (fun h97=>?_) (fun h97=>?_)
  ·refine zs s96 [2] [(2,Bo false)] qe fun _ w99 s100=>aC<|bP (aN (aN (bP (aN (pR [Bo false] rfl s100 ⟨rfl,trivial⟩ ?_)))))
   exact aW s100 (congrArg Bo (iP A29 (iP A51 (iP A82 (iF (bI hx93 h97) rfl)))).symm)
  refine wp_skip<|c9 (aD ?_)
  refine dU s96 [1,7] [700] [] (qo (wr ((k4:Int)+1) ((k4+1:Nat):Int) (by omega))<|qe) fun _ w102 s103=>aD<|?_
  exact ⟨(k4+1),⟨by omega,s103.keep [1,7] (by kernel_rfl),aM inv_k4 (fun y hy=>by rw [hx93] at hy; cases hy; exact h97)⟩,by omega⟩
 have k4_eq:k4=l.teams.length:=by omega
 have A104:l.teams.all F3=true:=cR (by rw [k4_eq] at inv_k4; exact inv_k4)
 refine wp_exit<|aY (aY (cP (aD ?_)))
 refine zs s91 [2] [(2,Bo true)] qe fun _ w106 s107=>aC<|pR [Bo true] rfl s107 ⟨rfl,trivial⟩<|?_
 exact aW s107 (congrArg Bo (iP A29 (iP A51 (iP A82 (iP A104 rfl)))).symm)
theorem O0 (l:aE) (w:World) (hL:LeagueAt w l):Calls Tryz.prog 136 #[.agg (aB l).toArray] w (eB (Bo (wB l)) w):=by
 refine dX [.agg (aB l).toArray] Tryz.func136 rfl rfl rfl rfl fun _ s0=>?_
 have smx1:=hL.sm
 refine wp_seq<|aA<|lb s0 0 _ rfl rfl rfl rfl fun B1 a2 w3 s4=>zl s4 [1] [(1,Pt B1 0)] 1 1 qe fun _ w6 s7=>aR rfl<|aD<|wp_seq<|zs s7 [1,3] [(3,I 0)] qe fun _ w9 s10=>wp_block<|aO (α:=Nat) (fun k1 aI wI=>(k1≤l.windows.length)∧(Sta 129 [] w [⟨1,[],Pt B1 0⟩,⟨3,[],I (k1:Int)⟩] [cI B1 34 (aB l)] aI wI)∧(∀ i,i<k1→∀ x,l.windows[i]?=some x→mP x=true)) (fun k1=>l.windows.length-k1) 0 ⟨Nat.zero_le _,s10.keep [1,3] (by kernel_rfl),fun i h=>(Nat.not_lt_zero i h).elim⟩<|?_
 rintro k1 a13 w12 ⟨k1_le,s11,inv_k1⟩
 refine wp_seq<|zs s11 [1,3,13] [(13,Bo (decide ((k1:Int)<(l.windows.length:Int))))] (qo (fa w12 B1 0 lM)<|qo (s11.m.ld 27 0 6 wE rfl rfl)<|qo (ln w12 3 l.windowsA l.windows.length l.windowsC tN)<|qe) fun _ w15 s16=>aQ s16.f rfl (fun h17=>?_) (fun h17=>?_)
 ·have k1_lt:k1<l.windows.length:=by omega
  obtain ⟨x,hx18⟩:=cD (xs:=l.windows) k1_lt
  refine wp_skip<|aD<|wp_seq<|wp_block<|zs s16 [1,3,22] [(22,Bo (!(mP x)))] (qo (fa w15 B1 0 lM)<|qo (s16.m.ld 27 0 6 wE rfl rfl)<|qo ((hL.windows.up s16.m).ia l.windowsC k1 tN sS (by omega))<|qo ((hL.windows.up s16.m).lda 165 k1 0 B0 hx18 rfl rfl)<|qo (yc w15 aa9 fun w' hb=>W9 x w')<|qe) fun _ w20 s21=>bR s21.f rfl (fun h22=>?_) (fun h22=>?_)
  ·refine zs s21 [2] [(2,Bo false)] qe fun _ w24 s25=>aC<|bP (aN (aN (bP (aN (pR [Bo false] rfl s25 ⟨rfl,trivial⟩ ?_)))))
   exact aW s25 (congrArg Bo (iF (bI hx18 h22) rfl).symm)
  refine wp_skip<|c9 (aD ?_)
  refine dU s21 [1,3] [300] [] (qo (wr ((k1:Int)+1) ((k1+1:Nat):Int) (by omega))<|qe) fun _ w27 s28=>aD<|?_
  exact ⟨(k1+1),⟨by omega,s28.keep [1,3] (by kernel_rfl),aM inv_k1 (fun y hy=>by rw [hx18] at hy; cases hy; exact h22)⟩,by omega⟩
 have k1_eq:k1=l.windows.length:=by omega
 have A29:l.windows.all mP=true:=cR (by rw [k1_eq] at inv_k1; exact inv_k1)
 refine wp_exit<|aY (aY (cP (aD ?_)))
 refine wp_seq<|zs s16 [1,4] [(4,I 0)] qe fun _ w31 s32=>wp_block<|aO (α:=Nat) (fun k2 aI wI=>(k2≤l.slots.length)∧(Sta 129 [] w [⟨1,[],Pt B1 0⟩,⟨4,[],I (k2:Int)⟩] [cI B1 34 (aB l)] aI wI)∧(∀ i,i<k2→∀ x,l.slots[i]?=some x→zC x=true)) (fun k2=>l.slots.length-k2) 0 ⟨Nat.zero_le _,s32.keep [1,4] (by kernel_rfl),fun i h=>(Nat.not_lt_zero i h).elim⟩<|?_
 rintro k2 a35 w34 ⟨k2_le,s33,inv_k2⟩
 refine wp_seq<|zs s33 [1,4,27] [(27,Bo (decide ((k2:Int)<(l.slots.length:Int))))] (qo (fa w34 B1 0 jC)<|qo (s33.m.ld 28 0 7 pX rfl rfl)<|qo (ln w34 3 l.slotsA l.slots.length l.slotsC oP)<|qe) fun _ w37 s38=>aQ s38.f rfl (fun h39=>?_) (fun h39=>?_)
 ·have k2_lt:k2<l.slots.length:=by omega
  obtain ⟨x,hx40⟩:=cD (xs:=l.slots) k2_lt
  refine wp_skip<|aD<|wp_seq<|wp_block<|wp_seq<|aA<|zl s38 [1,4,34] [(34,.agg (gB x).toArray)] 0 5 (qo (fa w37 B1 0 jC)<|qo (s38.m.ld 28 0 7 pX rfl rfl)<|qo ((hL.slots.up s38.m).ia l.slotsC k2 oP rM (by omega))<|qo ((hL.slots.up s38.m).lda 154 k2 0 BZ hx40 rfl rfl)<|qe) fun _ w42 s43=>la s43 5 _ rfl OC rfl rfl fun B44 a45 w46 s47=>dD s47 6 0 _ _ rfl rfl rfl rfl rM rfl rfl rfl rfl fun w48 s49=>aR rfl<|aD<|zs s49 [1,4,57] [(57,Bo ((((!(aG x.minute 0 1439))||(!(aG x.stewards 0 1000)))||(decide (x.length<1)))||(decide (x.length>(1440-x.minute)))))] (qo (fa w48 B44 0 xY)<|qo (s49.m.ld 3 0 1 bM rfl rfl)<|qo (yc w48 lV fun w' hb=>d7 x.minute 0 1439 w')<|qo (fa w48 B44 0 JU)<|qo (s49.m.ld 3 0 3 bM rfl rfl)<|qo (yc w48 lV fun w' hb=>d7 x.stewards 0 1000 w')<|qo (fa w48 B44 0 DL)<|qo (s49.m.ld 3 0 2 bM rfl rfl)<|qo (fa w48 B44 0 DL)<|qo (s49.m.ld 3 0 2 bM rfl rfl)<|qo (fa w48 B44 0 xY)<|qo (s49.m.ld 3 0 1 bM rfl rfl)<|qu (fun (g0:(((!(aG x.minute 0 1439))||(!(aG x.stewards 0 1000)))||(decide (x.length<1)))=false)=>wr (1440-x.minute) (1440-x.minute) (by first | omega | (simp only [xV] at *; omega)))<|qe) fun _ w51 s52=>cO s52.f rfl (fun h53=>?_) (fun h53=>?_)
  ·refine zs s52 [2] [(2,Bo false)] qe fun _ w55 s56=>aC<|bP (aN (aN (bP (aN (pR [Bo false] rfl s56 ⟨rfl,trivial⟩ ?_)))))
   exact aW s56 (congrArg Bo (iP A29 (iF (bI hx40 (congrArg (!·) h53)) rfl)).symm)
  refine wp_skip<|c9 (aD ?_)
  refine dU s52 [1,4] [400] [] (qo (wr ((k2:Int)+1) ((k2+1:Nat):Int) (by omega))<|qe) fun _ w58 s59=>aD<|?_
  exact ⟨(k2+1),⟨by omega,(s59.keep [1,4] (by kernel_rfl)).sub (.cons _ (.refl _)),aM inv_k2 (fun y hy=>by rw [hx40] at hy; cases hy; exact (congrArg (!·) h53))⟩,by omega⟩
 have k2_eq:k2=l.slots.length:=by omega
 have A60:l.slots.all zC=true:=cR (by rw [k2_eq] at inv_k2; exact inv_k2)
 refine wp_exit<|aY (aY (cP (aD ?_)))
 refine wp_seq<|zs s38 [1,6] [(6,I 0)] qe fun _ w62 s63=>wp_block<|aO (α:=Nat) (fun k3 aI wI=>(k3≤3)∧(Sta 129 [] w [⟨1,[],Pt B1 0⟩,⟨6,[],I (k3:Int)⟩] [cI B1 34 (aB l)] aI wI)∧(∀ i,i<k3→∀ x,(List.range 3)[i]?=some x→(fun i => !v7 l.points i) x=true)) (fun k3=>3-k3) 0 ⟨Nat.zero_le _,s63.keep [1,6] (by kernel_rfl),fun i h=>(Nat.not_lt_zero i h).elim⟩<|?_
 rintro k3 a66 w65 ⟨k3_le,s64,inv_k3⟩
 refine wp_seq<|zs s64 [1,6,59] [(59,Bo (decide ((k3:Int)<3)))] qe fun _ w68 s69=>aQ s69.f rfl (fun h70=>?_) (fun h70=>?_)
 ·have k3_lt:k3<3:=by omega
  have hx71:(List.range 3)[k3]?=some k3:=List.getElem?_range k3_lt
  refine wp_skip<|aD<|wp_seq<|wp_block<|wp_seq<|zr s69 [1,6,83] [(83,Bo ((!(aG (l.points.at (k3:Int)) 0 100))||((decide ((k3:Int)>0))&&(decide (l.points.at (k3:Int)>(l.points.at ((k3:Int)-1)))))))] MO (qo (fa w68 B1 0 wF)<|qo (HR w68 B1 9 (k3:Int) Tryz.underlying29 hP (by omega))<|qo (s69.m.ld 3 0 (9+(k3:Int).toNat*1) bM rfl (vU l (by omega)))<|qo (yc w68 lV fun w' hb=>d7 (l.points.at (k3:Int)) 0 100 w')<|qo (fa w68 B1 0 wF)<|qv (fun (g0:(!(aG (l.points.at (k3:Int)) 0 100))=false)=>fun (g1:(decide ((k3:Int)>0))=true)=>HR w68 B1 9 (k3:Int) Tryz.underlying29 hP (by first | omega | (simp only [xV] at *; omega)))<|qv (fun (g0:(!(aG (l.points.at (k3:Int)) 0 100))=false)=>fun (g1:(decide ((k3:Int)>0))=true)=>s69.m.ld 3 0 (9+(k3:Int).toNat*1) bM rfl (vU l (by first | omega | (simp only [xV] at *; omega))))<|qv (fun (g0:(!(aG (l.points.at (k3:Int)) 0 100))=false)=>fun (g1:(decide ((k3:Int)>0))=true)=>wr ((k3:Int)-1) ((k3:Int)-1) (by first | omega | (simp only [xV] at *; omega)))<|qo (fa w68 B1 0 wF)<|qv (fun (g0:(!(aG (l.points.at (k3:Int)) 0 100))=false)=>fun (g1:(decide ((k3:Int)>0))=true)=>HR w68 B1 9 ((k3:Int)-1) Tryz.underlying29 hP (by first | omega | (simp only [xV] at *; omega)))<|qv (fun (g0:(!(aG (l.points.at (k3:Int)) 0 100))=false)=>fun (g1:(decide ((k3:Int)>0))=true)=>s69.m.ld 3 0 (9+((k3:Int)-1).toNat*1) bM rfl (vU l (by first | omega | (simp only [xV] at *; omega))))<|qe) fun _ w73 s74=>aD<|cO s74.f rfl (fun h75=>?_) (fun h75=>?_)
  ·refine zs s74 [2] [(2,Bo false)] qe fun _ w77 s78=>aC<|bP (aN (aN (bP (aN (pR [Bo false] rfl s78 ⟨rfl,trivial⟩ ?_)))))
   exact aW s78 (congrArg Bo (iP A29 (iP A60 (iF (bI hx71 (congrArg (!·) h75)) rfl))).symm)
  refine wp_skip<|c9 (aD ?_)
  refine dU s74 [1,6] [600] [] (qo (wr ((k3:Int)+1) ((k3+1:Nat):Int) (by omega))<|qe) fun _ w80 s81=>aD<|?_
  exact ⟨(k3+1),⟨by omega,s81.keep [1,6] (by kernel_rfl),aM inv_k3 (fun y hy=>by rw [hx71] at hy; cases hy; exact (congrArg (!·) h75))⟩,by omega⟩
 have k3_eq:k3=3:=by omega
 have A82:(List.range 3).all (fun i => !v7 l.points i)=true:=dG (by rw [k3_eq] at inv_k3; exact inv_k3)
 refine wp_exit<|aY (aY (cP (aD ?_)))
 refine wp_seq<|zs s69 [1,7] [(7,I 0)] qe fun _ w84 s85=>wp_block<|aO (α:=Nat) (fun k4 aI wI=>(k4≤l.keys.length)∧(Sta 129 [] w [⟨1,[],Pt B1 0⟩,⟨7,[],I (k4:Int)⟩] [cI B1 34 (aB l)] aI wI)∧(∀ i,i<k4→∀ x,(List.range l.keys.length)[i]?=some x→(v8 l.keys) x=true)) (fun k4=>l.keys.length-k4) 0 ⟨Nat.zero_le _,s85.keep [1,7] (by kernel_rfl),fun i h=>(Nat.not_lt_zero i h).elim⟩<|?_
 rintro k4 a88 w87 ⟨k4_le,s86,inv_k4⟩
 refine wp_seq<|zs s86 [1,7,88] [(88,Bo (decide ((k4:Int)<(l.keys.length:Int))))] (qo (fa w87 B1 0 jV)<|qo (s86.m.ld 30 0 12 jB rfl rfl)<|qo (ln w87 3 l.keysA l.keys.length l.keysC eX)<|qe) fun _ w90 s91=>aQ s91.f rfl (fun h92=>?_) (fun h92=>?_)
 ·have k4_lt:k4<l.keys.length:=by omega
  have hx93:(List.range l.keys.length)[k4]?=some k4:=List.getElem?_range k4_lt
  obtain ⟨x,hx94⟩:=cD (xs:=l.keys) k4_lt
  refine wp_skip<|aD<|wp_seq<|wp_block<|wp_seq<|zs s91 [1,7,97] [(97,Bo (!(aG x 1 5)))] (qo (fa w90 B1 0 jV)<|qo (s91.m.ld 30 0 12 jB rfl rfl)<|qo ((hL.keys.up s91.m).ia l.keysC k4 eX hP (by omega))<|qo ((hL.keys.up s91.m).ld 3 k4 0 bM hx94 rfl)<|qo (yc w90 lV fun w' hb=>d7 x 1 5 w')<|qe) fun _ w96 s97=>bR s97.f rfl (fun h98=>?_) (fun h98=>?_)
  ·refine zs s97 [2] [(2,Bo false)] qe fun _ w100 s101=>aC<|aN (bP (aN (aN (bP (aN (pR [Bo false] rfl s101 ⟨rfl,trivial⟩ ?_))))))
   exact aW s101 (congrArg Bo (iP A29 (iP A60 (iP A82 (iF (bI hx93 (LH hx94 h98)) rfl)))).symm)
  refine wp_skip<|aD<|wp_seq<|?_
  have hwk:=h98
  refine zq s97 [1,7,8] [(8,I 0)] qe fun _ w103 s104=>aD<|wp_block<|aO (α:=Nat) (fun k5 aI wI=>(k5≤k4)∧(Sta 129 [] w [⟨1,[],Pt B1 0⟩,⟨7,[],I (k4:Int)⟩,⟨8,[],I (k5:Int)⟩] [cI B1 34 (aB l)] aI wI)∧(∀ i,i<k5→∀ y,l.keys[i]?=some y→y≠x)) (fun k5=>k4-k5) 0 ⟨Nat.zero_le _,s104.keep [1,7,8] (by kernel_rfl),fun i h=>(Nat.not_lt_zero i h).elim⟩<|?_
  rintro k5 a107 w106 ⟨k5_le,s105,inv2⟩
  refine wp_seq<|zs s105 [1,7,8,100] [(100,Bo (decide ((k5:Int)<(k4:Int))))] qe fun _ w109 s110=>aQ s110.f rfl (fun h111=>?_) (fun h111=>?_)
  ·have k5_lt:k5<k4:=by omega
   obtain ⟨y,hx112⟩:=cD (xs:=l.keys) (Nat.lt_trans k5_lt k4_lt)
   refine wp_skip<|aD<|wp_seq<|wp_block<|wp_seq<|zr s110 [1,7,8,113] [(113,Bo (y==x))] MO (qo (fa w109 B1 0 jV)<|qo (s110.m.ld 30 0 12 jB rfl rfl)<|qo ((hL.keys.up s110.m).ia l.keysC k5 eX hP (by omega))<|qo ((hL.keys.up s110.m).ld 3 k5 0 bM hx112 rfl)<|qo (fa w109 B1 0 jV)<|qo (s110.m.ld 30 0 12 jB rfl rfl)<|qo ((hL.keys.up s110.m).ia l.keysC k4 eX hP (by omega))<|qo ((hL.keys.up s110.m).ld 3 k4 0 bM hx94 rfl)<|qe) fun _ w114 s115=>aD<|bA s115.f rfl (fun h116=>?_) (fun h116=>?_)
   ·refine zs s115 [2] [(2,Bo false)] qe fun _ w118 s119=>aC<|bP (aN (aN (bP (bP (aN (aN (bP (aN (pR [Bo false] rfl s119 ⟨rfl,trivial⟩ ?_)))))))))
    exact aW s119 (congrArg Bo (iP A29 (iP A60 (iP A82 (iF (bI hx93 (LI hx94 hx112 k5_lt h116)) rfl)))).symm)
   refine wp_skip<|c9 (aD ?_)
   refine dU s115 [1,7,8] [800] [] (qo (wr ((k5:Int)+1) ((k5+1:Nat):Int) (by omega))<|qe) fun _ w121 s122=>aD<|?_
   exact ⟨(k5+1),⟨by omega,s122.keep [1,7,8] (by kernel_rfl),aM inv2 (fun z hz=>by rw [hx112] at hz; cases hz; exact h116)⟩,by omega⟩
  have k5_eq:k5=k4:=by omega
  refine wp_exit<|aY (aY (cP (c9 (aD ?_))))
  refine dU s110 [1,7] [700] [] (qo (wr ((k4:Int)+1) ((k4+1:Nat):Int) (by omega))<|qe) fun _ w124 s125=>aD<|?_
  exact ⟨(k4+1),⟨by omega,s125.keep [1,7] (by kernel_rfl),aM inv_k4 (fun y hy=>by rw [hx93] at hy; cases hy; exact (LJ hx94 hwk (by rw [k5_eq] at inv2; exact inv2)))⟩,by omega⟩
 have k4_eq:k4=l.keys.length:=by omega
 have A126:(List.range l.keys.length).all (v8 l.keys)=true:=dG (by rw [k4_eq] at inv_k4; exact inv_k4)
 refine wp_exit<|aY (aY (cP (aD ?_)))
 refine zs s91 [2] [(2,Bo ((aG l.pool 0 1048576)&&(((l.phases.length:Int)==0)||(decide ((l.slots.length:Int)>0)))))] (qo (fa w90 B1 0 DH)<|qo (s91.m.ld 3 0 8 bM rfl rfl)<|qo (yc w90 lV fun w' hb=>d7 l.pool 0 1048576 w')<|qo (fa w90 B1 0 cG)<|qo (s91.m.ld 31 0 13 iE rfl rfl)<|qo (ln w90 3 l.phasesA l.phases.length l.phasesC g9)<|qo (fa w90 B1 0 jC)<|qo (s91.m.ld 28 0 7 pX rfl rfl)<|qo (ln w90 3 l.slotsA l.slots.length l.slotsC oP)<|qe) fun _ w128 s129=>aC<|pR [Bo ((aG l.pool 0 1048576)&&(((l.phases.length:Int)==0)||(decide ((l.slots.length:Int)>0))))] rfl s129 ⟨rfl,trivial⟩<|?_
 exact aW s129 (congrArg Bo (iP A29 (iP A60 (iP A82 (iP A126 rfl)))).symm)
theorem O5 (l:aE) (p:aX) (w:World) (hL:LeagueAt w l) (ht:Row w p.teamsA 2 bN p.teams) (hz:Row w p.sizesA 1 iO p.sizes) (hof:p.kind=4→0≤p.of.n∧p.of.n<l.phases.length) (hab:p.kind=6→(0≤p.a.n∧p.a.n<l.phases.length)∧(0≤p.b.n∧p.b.n<l.phases.length)):Calls Tryz.prog 137 #[.agg (aB l).toArray,.agg (aK p).toArray] w (eB (Bo (rG l p)) w):=by
 refine dX [.agg (aB l).toArray,.agg (aK p).toArray] Tryz.func137 rfl rfl rfl rfl fun _ s0=>?_
 have smx1:=hL.sm
 have sm10:=ht.small
 have sm11:=hz.small
 refine wp_seq<|aA<|lb s0 0 _ rfl rfl rfl rfl fun B1 a2 w3 s4=>lb s4 1 _ rfl rfl rfl rfl fun B5 a6 w7 s8=>zl s8 [2,3] [(2,Pt B1 0),(3,Pt B5 0)] 2 1 qe fun _ w10 s11=>aR rfl<|aD<|wp_seq<|zs s11 [2,3,32] [(32,Bo (((p.kind != 6)&&((p.placeA != 0)||(p.placeB != 0)))||((p.kind != 4)&&(decide ((p.sizes.length:Int)>0)))))] (qo (fa w10 B5 0 dM)<|qo (s11.m.ld 3 0 1 bM rfl rfl)<|qo (fa w10 B5 0 rZ)<|qo (s11.m.ld 3 0 12 bM rfl rfl)<|qo (fa w10 B5 0 r5)<|qo (s11.m.ld 3 0 13 bM rfl rfl)<|qo (fa w10 B5 0 dM)<|qo (s11.m.ld 3 0 1 bM rfl rfl)<|qo (fa w10 B5 0 gH)<|qo (s11.m.ld 30 0 7 jB rfl rfl)<|qo (ln w10 3 p.sizesA p.sizes.length p.sizesC eX)<|qe) fun _ w13 s14=>cO s14.f rfl (fun h15=>?_) (fun h15=>?_)
 ·refine zs s14 [4] [(4,Bo false)] qe fun _ w17 s18=>aC<|aN (pR [Bo false] rfl s18 ⟨rfl,trivial⟩ ?_)
  exact aW s18 (congrArg Bo (iP h15 rfl).symm)
 refine wp_skip<|aD<|wp_seq<|zs s14 [2,3,35] [(35,Bo (p.kind==4))] (qo (fa w13 B5 0 dM)<|qo (s14.m.ld 3 0 1 bM rfl rfl)<|qe) fun _ w20 s21=>bA s21.f rfl (fun h22=>?_) (fun h22=>?_)
 ·refine wp_seq<|?_
  have hgofR:=hof h22
  have hgof:=o3 hgofR
  refine aA<|zl s21 [3,42] [(42,.agg (aK (c7 l p.of.n)).toArray)] 0 7 (qo (fa w20 B1 0 cG)<|qo (s21.m.ld 31 1 13 iE rfl rfl)<|qo (fa w20 B5 0 oE)<|qo (fa w20 B5 5 dC)<|qo (s21.m.ld 3 0 6 bM rfl rfl)<|qo ((hL.phases.up s21.m).iaI l.phasesC p.of.n g9 eL hgofR)<|qo ((hL.phases.up s21.m).lda 157 p.of.n.toNat 0 eP hgof rfl rfl)<|qe) fun _ w24 s25=>la s25 7 _ rfl sU rfl rfl fun B26 a27 w28 s29=>dD s29 8 0 _ _ rfl rfl rfl rfl eL rfl rfl rfl rfl fun w30 s31=>aR rfl<|aD<|wp_seq<|zs s31 [3,5,58] [(5,Pt B26 0),(58,Bo (((!(eY ((c7 l p.of.n).kind)))||(decide ((p.sizes.length:Int)<1)))||(decide ((p.sizes.length:Int)>8))))] (qo (fa w30 B26 0 dM)<|qo (s31.m.ld 3 0 1 bM rfl rfl)<|qo (yc w30 OL fun w' hb=>zS ((c7 l p.of.n).kind) w')<|qo (fa w30 B5 0 gH)<|qo (s31.m.ld 30 1 7 jB rfl rfl)<|qo (ln w30 3 p.sizesA p.sizes.length p.sizesC eX)<|qo (fa w30 B5 0 gH)<|qo (s31.m.ld 30 1 7 jB rfl rfl)<|qo (ln w30 3 p.sizesA p.sizes.length p.sizesC eX)<|qe) fun _ w33 s34=>cO s34.f rfl (fun h35=>?_) (fun h35=>?_)
  ·refine zs s34 [4] [(4,Bo false)] qe fun _ w37 s38=>aC<|aN (aN (pR [Bo false] rfl s38 ⟨rfl,trivial⟩ ?_))
   exact aW s38 (congrArg Bo (iF h15 (iP h22 (iP h35 rfl))).symm)
  refine wp_skip<|aD<|wp_seq<|zs s34 [3,5,6] [(6,I 0)] qe fun _ w40 s41=>wp_block<|aO (α:=Nat) (fun k aI wI=>(k≤p.sizes.length)∧(Sta 145 [] w [⟨3,[],Pt B5 0⟩,⟨5,[],Pt B26 0⟩,⟨6,[],I (k:Int)⟩] [cI B26 157 (aK (c7 l p.of.n)),cI B5 157 (aK p),cI B1 34 (aB l)] aI wI)∧(∀ i,i<k→∀ x,p.sizes[i]?=some x→(fun n=>aG n 2 20) x=true)) (fun k=>p.sizes.length-k) 0 ⟨Nat.zero_le _,s41.keep [3,5,6] (by kernel_rfl),fun i h=>(Nat.not_lt_zero i h).elim⟩<|?_
  rintro k a44 w43 ⟨k_le,s42,inv_k⟩
  refine wp_seq<|zs s42 [3,5,6,63] [(63,Bo (decide ((k:Int)<(p.sizes.length:Int))))] (qo (fa w43 B5 0 gH)<|qo (s42.m.ld 30 1 7 jB rfl rfl)<|qo (ln w43 3 p.sizesA p.sizes.length p.sizesC eX)<|qe) fun _ w46 s47=>aQ s47.f rfl (fun h48=>?_) (fun h48=>?_)
  ·have k_lt:k<p.sizes.length:=by omega
   obtain ⟨x,hx49⟩:=cD (xs:=p.sizes) k_lt
   refine wp_skip<|aD<|wp_seq<|wp_block<|zs s47 [3,5,6,72] [(72,Bo (!(aG x 2 20)))] (qo (fa w46 B5 0 gH)<|qo (s47.m.ld 30 1 7 jB rfl rfl)<|qo ((hz.up s47.m).ia p.sizesC k eX hP (by omega))<|qo ((hz.up s47.m).ld 3 k 0 bM hx49 rfl)<|qo (yc w46 lV fun w' hb=>d7 x 2 20 w')<|qe) fun _ w51 s52=>bR s52.f rfl (fun h53=>?_) (fun h53=>?_)
   ·refine zs s52 [4] [(4,Bo false)] qe fun _ w55 s56=>aC<|bP (aN (aN (bP (aN (aN (pR [Bo false] rfl s56 ⟨rfl,trivial⟩ ?_))))))
    exact aW s56 (congrArg Bo (iF h15 (iP h22 (iF h35 (iF (bI hx49 h53) rfl)))).symm)
   refine wp_skip<|c9 (aD ?_)
   refine dU s52 [3,5,6] [600] [] (qo (wr ((k:Int)+1) ((k+1:Nat):Int) (by omega))<|qe) fun _ w58 s59=>aD<|?_
   exact ⟨(k+1),⟨by omega,s59.keep [3,5,6] (by kernel_rfl),aM inv_k (fun y hy=>by rw [hx49] at hy; cases hy; exact h53)⟩,by omega⟩
  have k_eq:k=p.sizes.length:=by omega
  have A60:p.sizes.all (fun n=>aG n 2 20)=true:=cR (by rw [k_eq] at inv_k; exact inv_k)
  refine wp_exit<|aY (aY (cP (aD ?_)))
  refine wp_seq<|zr s47 [4] [(4,Bo ((fF p)==(fF (c7 l p.of.n))))] MO (qo (s47.m.lda 157 1 0 eP rfl rfl rfl)<|qo (yc w46 J9 fun w' hb=>DR p w' ((hz.up s47.m).grow hb))<|qo (s47.m.lda 157 0 0 eP rfl rfl rfl)<|qo (yc w46 J9 fun w' hb=>DR (c7 l p.of.n) w' (((hL.psizes _ (List.mem_of_getElem? hgof)).up s47.m).grow hb))<|qe) fun _ w62 s63=>aD<|aC<|aN (pR [Bo ((fF p)==(fF (c7 l p.of.n)))] rfl s63 ⟨rfl,trivial⟩ ?_)
  exact aW s63 (congrArg Bo (iF h15 (iP h22 (iF h35 (iP A60 rfl)))).symm)
 refine wp_skip<|aD<|wp_seq<|zs s21 [2,3,80] [(80,Bo (p.kind==6))] (qo (fa w20 B5 0 dM)<|qo (s21.m.ld 3 0 1 bM rfl rfl)<|qe) fun _ w65 s66=>bA s66.f rfl (fun h67=>?_) (fun h67=>?_)
 ·refine wp_seq<|?_
  have hgaR:=(hab h67).1
  have hga:=o3 hgaR
  refine aA<|zl s66 [2,3,87] [(87,.agg (aK (c7 l p.a.n)).toArray)] 0 7 (qo (fa w65 B1 0 cG)<|qo (s66.m.ld 31 1 13 iE rfl rfl)<|qo (fa w65 B5 0 lN)<|qo (fa w65 B5 8 dC)<|qo (s66.m.ld 3 0 9 bM rfl rfl)<|qo ((hL.phases.up s66.m).iaI l.phasesC p.a.n g9 eL hgaR)<|qo ((hL.phases.up s66.m).lda 157 p.a.n.toNat 0 eP hga rfl rfl)<|qe) fun _ w69 s70=>la s70 7 _ rfl sU rfl rfl fun B71 a72 w73 s74=>dD s74 8 0 _ _ rfl rfl rfl rfl eL rfl rfl rfl rfl fun w75 s76=>aR rfl<|aD<|wp_seq<|?_
  have hgbR:=(hab h67).2
  have hgb:=o3 hgbR
  refine aA<|zl s76 [3,7,94] [(7,Pt B71 0),(94,.agg (aK (c7 l p.b.n)).toArray)] 0 7 (qo (fa w75 B1 0 cG)<|qo (s76.m.ld 31 2 13 iE rfl rfl)<|qo (fa w75 B5 0 lO)<|qo (fa w75 B5 10 dC)<|qo (s76.m.ld 3 1 11 bM rfl rfl)<|qo ((hL.phases.up s76.m).iaI l.phasesC p.b.n g9 eL hgbR)<|qo ((hL.phases.up s76.m).lda 157 p.b.n.toNat 0 eP hgb rfl rfl)<|qe) fun _ w78 s79=>la s79 7 _ rfl sU rfl rfl fun B80 a81 w82 s83=>dD s83 8 0 _ _ rfl rfl rfl rfl eL rfl rfl rfl rfl fun w84 s85=>aR rfl<|aD<|wp_seq<|zs s85 [3,7,8,114] [(8,Pt B80 0),(114,Bo (((!(eY ((c7 l p.a.n).kind)))&&(((c7 l p.a.n).kind) != 4))||((!(eY ((c7 l p.b.n).kind)))&&(((c7 l p.b.n).kind) != 4))))] (qo (fa w84 B71 0 dM)<|qo (s85.m.ld 3 1 1 bM rfl rfl)<|qo (yc w84 OL fun w' hb=>zS ((c7 l p.a.n).kind) w')<|qo (fa w84 B71 0 dM)<|qo (s85.m.ld 3 1 1 bM rfl rfl)<|qo (fa w84 B80 0 dM)<|qo (s85.m.ld 3 0 1 bM rfl rfl)<|qo (yc w84 OL fun w' hb=>zS ((c7 l p.b.n).kind) w')<|qo (fa w84 B80 0 dM)<|qo (s85.m.ld 3 0 1 bM rfl rfl)<|qe) fun _ w87 s88=>cO s88.f rfl (fun h89=>?_) (fun h89=>?_)
  ·refine zs s88 [4] [(4,Bo false)] qe fun _ w91 s92=>aC<|aN (aN (pR [Bo false] rfl s92 ⟨rfl,trivial⟩ ?_))
   exact aW s92 (congrArg Bo (iF h15 (iM h22 (iP h67 (iP h89 rfl)))).symm)
  refine wp_skip<|aD<|wp_seq<|zr s88 [4] [(4,Bo (((p.a.n != p.b.n)&&(aG p.placeA 1 (fF (c7 l p.a.n))))&&(aG p.placeB 1 (fF (c7 l p.b.n)))))] MO (qo (fa w87 B5 0 lN)<|qo (fa w87 B5 8 dC)<|qo (s88.m.ld 3 2 9 bM rfl rfl)<|qo (fa w87 B5 0 lO)<|qo (fa w87 B5 10 dC)<|qo (s88.m.ld 3 2 11 bM rfl rfl)<|qo (fa w87 B5 0 rZ)<|qo (s88.m.ld 3 2 12 bM rfl rfl)<|qo (s88.m.lda 157 1 0 eP rfl rfl rfl)<|qo (yc w87 J9 fun w' hb=>DR (c7 l p.a.n) w' (((hL.psizes _ (List.mem_of_getElem? hga)).up s88.m).grow hb))<|qo (yc w87 lV fun w' hb=>d7 p.placeA 1 (fF (c7 l p.a.n)) w')<|qo (fa w87 B5 0 r5)<|qo (s88.m.ld 3 2 13 bM rfl rfl)<|qo (s88.m.lda 157 0 0 eP rfl rfl rfl)<|qo (yc w87 J9 fun w' hb=>DR (c7 l p.b.n) w' (((hL.psizes _ (List.mem_of_getElem? hgb)).up s88.m).grow hb))<|qo (yc w87 lV fun w' hb=>d7 p.placeB 1 (fF (c7 l p.b.n)) w')<|qe) fun _ w94 s95=>aD<|aC<|aN (pR [Bo (((p.a.n != p.b.n)&&(aG p.placeA 1 (fF (c7 l p.a.n))))&&(aG p.placeB 1 (fF (c7 l p.b.n))))] rfl s95 ⟨rfl,trivial⟩ ?_)
  exact aW s95 (congrArg Bo (iF h15 (iM h22 (iP h67 (iF h89 rfl)))).symm)
 refine wp_skip<|aD<|zs s66 [4] [(4,Bo ((aG (p.teams.length:Int) 2 20)&&(qN p.teams)))] (qo (fa w65 B5 0 dR)<|qo (s66.m.ld 155 0 4 jT rfl rfl)<|qo (ln w65 3 p.teamsA p.teams.length p.teamsC jU)<|qo (yc w65 lV fun w' hb=>d7 (p.teams.length:Int) 2 20 w')<|qo (fa w65 B5 0 dR)<|qo (s66.m.ld 155 0 4 jT rfl rfl)<|qo (yc w65 aaA fun w' hb=>GE p.teamsA p.teams p.teamsC w' ((ht.up s66.m).grow hb))<|qe) fun _ w97 s98=>aC<|pR [Bo ((aG (p.teams.length:Int) 2 20)&&(qN p.teams))] rfl s98 ⟨rfl,trivial⟩<|?_
 exact aW s98 (congrArg Bo (iF h15 (iM h22 (iM h67 rfl))).symm)
theorem SQ (x:cJ) (w:World):Calls Tryz.prog 138 #[.agg (aV x).toArray] w (eB (Bo (xB x)) w):=by
 refine dX [.agg (aV x).toArray] Tryz.func138 rfl rfl rfl rfl fun _ s0=>wp_seq<|aA<|lb s0 0 _ rfl rfl rfl rfl fun B1 a2 w3 s4=>zl s4 [1] [(1,Pt B1 0)] 1 1 qe fun _ w6 s7=>aR rfl<|aD<|zs s7 [1,3,4] [(3,I (jH x.kind)),(4,I (jI x.kind))] (qo (fa w6 B1 0 iH)<|qo (s7.m.ld 3 0 1 bM rfl rfl)<|qo (yc w6 aaB fun w' hb=>OX x.kind w')<|qe) fun _ w9 s10=>wp_seq<|wp_seq<|zr s10 [1,35] [(35,Bo (((!(aG x.n (jH x.kind) (jI x.kind)))||(!(aG x.price 0 1048576)))||(!((YS x.week)==(x.kind==10)))))] MO (qo (fa w9 B1 0 J2)<|qo (s10.m.ld 3 0 6 bM rfl rfl)<|qo (yc w9 lV fun w' hb=>d7 x.n (jH x.kind) (jI x.kind) w')<|qo (fa w9 B1 0 J4)<|qo (s10.m.ld 3 0 20 bM rfl rfl)<|qo (yc w9 lV fun w' hb=>d7 x.price 0 1048576 w')<|qo (fa w9 B1 0 J3)<|qo (s10.m.lda 163 0 13 N8 rfl rfl rfl)<|qo (yc w9 aaC fun w' hb=>afO x.week w')<|qo (fa w9 B1 0 iH)<|qo (s10.m.ld 3 0 1 bM rfl rfl)<|qo (neb (P:=Tryz.prog) w9 4 (.tmp 30) (.tmp 33) (YS x.week) (x.kind==10) Tryz.underlying4)<|qe) fun _ w12 s13=>aD<|cO s13.f rfl (fun h14=>?_) (fun h14=>?_)
 ·refine zs s13 [2] [(2,Bo false)] qe fun _ w16 s17=>aC<|aN (pR [Bo false] rfl s17 ⟨rfl,trivial⟩ ?_)
  exact aW s17 (congrArg Bo (iP h14 rfl).symm)
 refine wp_skip<|aD<|wp_seq<|zs s13 [1,57] [(57,Bo ((((x.kind==6)||(x.kind==8))||(x.kind==9))&&(x.a.n==x.b.n)))] (qo (fa w12 B1 0 iH)<|qo (s13.m.ld 3 0 1 bM rfl rfl)<|qo (fa w12 B1 0 iH)<|qo (s13.m.ld 3 0 1 bM rfl rfl)<|qo (fa w12 B1 0 iH)<|qo (s13.m.ld 3 0 1 bM rfl rfl)<|qo (fa w12 B1 0 dN)<|qo (fa w12 B1 2 dC)<|qo (s13.m.ld 3 0 3 bM rfl rfl)<|qo (fa w12 B1 0 dW)<|qo (fa w12 B1 4 dC)<|qo (s13.m.ld 3 0 5 bM rfl rfl)<|qe) fun _ w19 s20=>cO s20.f rfl (fun h21=>?_) (fun h21=>?_)
 ·refine zs s20 [2] [(2,Bo false)] qe fun _ w23 s24=>aC<|aN (pR [Bo false] rfl s24 ⟨rfl,trivial⟩ ?_)
  exact aW s24 (congrArg Bo (iF h14 (iP h21 rfl)).symm)
 refine wp_skip<|aD<|wp_seq<|zs s20 [1,61] [(61,Bo (!(rD x.kind)))] (qo (fa w19 B1 0 iH)<|qo (s20.m.ld 3 0 1 bM rfl rfl)<|qo (yc w19 aaD fun w' hb=>SN x.kind w')<|qe) fun _ w26 s27=>bR s27.f rfl (fun h28=>?_) (fun h28=>?_)
 ·refine zs s27 [2] [(2,Bo ((gD x.frm (⟨0,0,0⟩:eS))&&(gD x.to (⟨0,0,0⟩:eS))))] (qo (fa w26 B1 0 gQ)<|qo (s27.m.lda 162 0 7 dY rfl rfl rfl)<|qo (jL (P:=Tryz.prog) w26 162 [] (.agg #[I 0,I 0,I 0]) (fun _=>by kernel_rfl))<|qo (M8 (P:=Tryz.prog) w26 (.tmp 63) (.tmp 64) (dL x.frm) (dL (⟨0,0,0⟩:eS)) (sV 10 (by decide)) (by decide) CA rfl rfl)<|qo (fa w26 B1 0 gR)<|qo (s27.m.lda 162 0 10 dY rfl rfl rfl)<|qo (jL (P:=Tryz.prog) w26 162 [] (.agg #[I 0,I 0,I 0]) (fun _=>by kernel_rfl))<|qo (M8 (P:=Tryz.prog) w26 (.tmp 68) (.tmp 69) (dL x.to) (dL (⟨0,0,0⟩:eS)) (sV 10 (by decide)) (by decide) CA rfl rfl)<|qe) fun _ w30 s31=>aC<|aN (pR [Bo ((gD x.frm (⟨0,0,0⟩:eS))&&(gD x.to (⟨0,0,0⟩:eS)))] rfl s31 ⟨rfl,trivial⟩ ?_)
  exact aW s31 (congrArg Bo (iF h14 (iF h21 (iP h28 rfl))).symm)
 refine wp_skip<|aD<|zs s27 [1,5,6] [(5,I (bO x.frm)),(6,I (g6 x.frm))] (qo (fa w26 B1 0 gQ)<|qo (s27.m.lda 162 0 7 dY rfl rfl rfl)<|qo (yc w26 KA fun w' hb=>r9 x.frm w')<|qe) fun _ w33 s34=>zs s34 [5,6,7,8] [(7,I (bO x.to)),(8,I (g6 x.to))] (qo (fa w33 B1 0 gR)<|qo (s34.m.lda 162 0 10 dY rfl rfl rfl)<|qo (yc w33 KA fun w' hb=>r9 x.to w')<|qe) fun _ w36 s37=>zs s37 [2] [(2,Bo ((((g6 x.frm)==0)&&((g6 x.to)==0))&&(decide (bO x.frm≤(bO x.to)))))] qe fun _ w39 s40=>aC<|pR [Bo ((((g6 x.frm)==0)&&((g6 x.to)==0))&&(decide (bO x.frm≤(bO x.to))))] rfl s40 ⟨rfl,trivial⟩<|?_
 exact aW s40 (congrArg Bo (iF h14 (iF h21 (iT h28 rfl))).symm)
end Go.Proofs.YtfffbdmdllgalaaGreatDoor
namespace Go.Proofs.YtfffbdmdllgalaaGreatDoor
open Go Go.RowKit Go.Fz
set_option maxRecDepth 10000
theorem KG (l:aE) (s:m6) (i:Int) (q:Int) (w:World):Calls Tryz.prog 142 #[.agg (aB l).toArray,.agg (j4 s).toArray,I i,I q] w (eB (Bo (qO l s i q)) w):=by
 refine dX [.agg (aB l).toArray,.agg (j4 s).toArray,I i,I q] Tryz.func142 rfl rfl rfl rfl fun _ s0=>wp_seq<|aA<|lb s0 0 _ rfl rfl rfl rfl fun B1 a2 w3 s4=>lb s4 1 _ rfl rfl rfl rfl fun B5 a6 w7 s8=>zl s8 [2,3,4,5] [(2,I i),(3,I q),(4,Pt B1 0),(5,Pt B5 0)] 2 1 qe fun _ w10 s11=>aR rfl<|aD<|wp_seq<|d5 s11 [2,3,4,5,10] [1001] [] (qo (fa w10 B5 0 rO)<|qo (s11.m.ld 3 0 0 bM rfl rfl)<|qe) fun _ w13 s14=>wp_block<|zs s14 [2,3,4,5,10,11] [(11,Bo (s.kind==1))] qe fun _ w16 s17=>bA s17.f rfl (fun h18=>?_) (fun h18=>?_)
 ·refine zs s17 [8] [(8,Bo (((decide (s.n≥0))&&(decide (s.n<(l.teams.length:Int))))&&(s.phase==0)))] (qo (fa w16 B5 0 kF)<|qo (s17.m.ld 3 0 1 bM rfl rfl)<|qo (fa w16 B5 0 kF)<|qo (s17.m.ld 3 0 1 bM rfl rfl)<|qo (fa w16 B1 0 dS)<|qo (s17.m.ld 26 1 5 kS rfl rfl)<|qo (ln w16 3 l.teamsA l.teams.length l.teamsC lL)<|qo (fa w16 B5 0 rP)<|qo (s17.m.ld 3 0 2 bM rfl rfl)<|qe) fun _ w20 s21=>aC<|bP (aN (pR [Bo (((decide (s.n≥0))&&(decide (s.n<(l.teams.length:Int))))&&(s.phase==0))] rfl s21 ⟨rfl,trivial⟩ ?_))
  exact aW s21 (congrArg Bo (iP h18 rfl).symm)
 refine zs s17 [2,3,5,10,29] [(29,Bo (s.kind==2))] qe fun _ w23 s24=>bA s24.f rfl (fun h25=>?_) (fun h25=>?_)
 ·refine zs s24 [8] [(8,Bo ((((decide (s.n≥1))&&(decide (s.n≤20)))&&(decide (s.phase≥0)))&&(decide (s.phase<q))))] (qo (fa w23 B5 0 kF)<|qo (s24.m.ld 3 0 1 bM rfl rfl)<|qo (fa w23 B5 0 kF)<|qo (s24.m.ld 3 0 1 bM rfl rfl)<|qo (fa w23 B5 0 rP)<|qo (s24.m.ld 3 0 2 bM rfl rfl)<|qo (fa w23 B5 0 rP)<|qo (s24.m.ld 3 0 2 bM rfl rfl)<|qe) fun _ w27 s28=>aC<|bP (aN (pR [Bo ((((decide (s.n≥1))&&(decide (s.n≤20)))&&(decide (s.phase≥0)))&&(decide (s.phase<q)))] rfl s28 ⟨rfl,trivial⟩ ?_))
  exact aW s28 (congrArg Bo (iM h18 (iP h25 rfl)).symm)
 refine zs s24 [2,5,50] [(50,Bo (s.kind==3))] qe fun _ w30 s31=>bA s31.f rfl (fun h32=>?_) (fun h32=>?_)
 ·refine zs s31 [8] [(8,Bo (((decide (s.n≥0))&&(decide (s.n<i)))&&(s.phase==0)))] (qo (fa w30 B5 0 kF)<|qo (s31.m.ld 3 0 1 bM rfl rfl)<|qo (fa w30 B5 0 kF)<|qo (s31.m.ld 3 0 1 bM rfl rfl)<|qo (fa w30 B5 0 rP)<|qo (s31.m.ld 3 0 2 bM rfl rfl)<|qe) fun _ w34 s35=>aC<|bP (aN (pR [Bo (((decide (s.n≥0))&&(decide (s.n<i)))&&(s.phase==0))] rfl s35 ⟨rfl,trivial⟩ ?_))
  exact aW s35 (congrArg Bo (iM h18 (iM h25 (iP h32 rfl))).symm)
 refine wp_skip<|c9 (aD ?_)
 refine zs s31 [8] [(8,Bo false)] qe fun _ w37 s38=>aC<|pR [Bo false] rfl s38 ⟨rfl,trivial⟩<|?_
 exact aW s38 (congrArg Bo (iM h18 (iM h25 (iM h32 rfl))).symm)
theorem SR (l:aE) (gA:Option Addr) (g:List dP) (gC:Nat) (w:World) (hg:Row w gA 9 cA g):Calls Tryz.prog 84 #[.agg (aB l).toArray,.slice gA g.length gC] w (eB (Bo (DA l g)) w):=by
 refine dX [.agg (aB l).toArray,.slice gA g.length gC] Tryz.func84 rfl rfl rfl rfl fun _ s0=>?_
 have sm0:=hg.small
 refine wp_seq<|aA<|lb s0 0 _ rfl rfl rfl rfl fun B1 a2 w3 s4=>zl s4 [1,2] [(1,.slice gA g.length gC),(2,Pt B1 0)] 1 1 qe fun _ w6 s7=>aR rfl<|aD<|wp_seq<|zs s7 [1,2,5] [(5,I 0)] qe fun _ w9 s10=>wp_block<|aO (α:=Nat) (fun k aI wI=>(k≤g.length)∧(Sta 69 [] w [⟨1,[],.slice gA g.length gC⟩,⟨2,[],Pt B1 0⟩,⟨5,[],I (k:Int)⟩] [cI B1 34 (aB l)] aI wI)∧(∀ i,i<k→∀ x,(List.range g.length)[i]?=some x→(fun i=>xC l i (g.getD i cM)) x=true)) (fun k=>g.length-k) 0 ⟨Nat.zero_le _,s10.keep [1,2,5] (by kernel_rfl),fun i h=>(Nat.not_lt_zero i h).elim⟩<|?_
 rintro k a13 w12 ⟨k_le,s11,inv_k⟩
 refine wp_seq<|zs s11 [1,2,5,10] [(10,Bo (decide ((k:Int)<(g.length:Int))))] (qo (ln w12 3 gA g.length gC pY)<|qe) fun _ w15 s16=>aQ s16.f rfl (fun h17=>?_) (fun h17=>?_)
 ·have k_lt:k<g.length:=by omega
  have hx18:(List.range g.length)[k]?=some k:=List.getElem?_range k_lt
  have hx19:g[k]?=some (g.getD k cM):=bC (by omega)
  refine wp_skip<|aD<|wp_seq<|wp_block<|wp_seq<|aA<|zl s16 [1,2,5,16] [(16,.agg (cA (g.getD k cM)).toArray)] 0 4 (qo ((hg.up s16.m).ia gC k pY DE (by omega))<|qo ((hg.up s16.m).lda 62 k 0 rN hx19 rfl rfl)<|qe) fun _ w21 s22=>la s22 4 _ rfl Y5 rfl rfl fun B23 a24 w25 s26=>dD s26 5 0 _ _ rfl rfl rfl rfl DE rfl rfl rfl rfl fun w27 s28=>aR rfl<|aD<|wp_seq<|d5 s28 [1,2,5,6,50] [600] [(50,Bo ((((((((g.getD k cM).no) != (k:Int))||(decide ((g.getD k cM).phase<0)))||(decide ((g.getD k cM).phase≥(l.phases.length:Int))))||(decide ((g.getD k cM).round<0)))||(decide ((g.getD k cM).round>1023)))||(y3 (⟨((g.getD k cM).home).kind,((g.getD k cM).home).n,((g.getD k cM).home).phase⟩:m6) (⟨((g.getD k cM).away).kind,((g.getD k cM).away).n,((g.getD k cM).away).phase⟩:m6))))] (qo (fa w27 B23 0 H8)<|qo (s28.m.ld 3 0 0 bM rfl rfl)<|qo (fa w27 B23 0 p5)<|qo (s28.m.ld 3 0 1 bM rfl rfl)<|qo (fa w27 B23 0 p5)<|qo (s28.m.ld 3 0 1 bM rfl rfl)<|qo (fa w27 B1 0 cG)<|qo (s28.m.ld 31 1 13 iE rfl rfl)<|qo (ln w27 3 l.phasesA l.phases.length l.phasesC g9)<|qo (fa w27 B23 0 wK)<|qo (s28.m.ld 3 0 2 bM rfl rfl)<|qo (fa w27 B23 0 wK)<|qo (s28.m.ld 3 0 2 bM rfl rfl)<|qo (fa w27 B23 0 p6)<|qo (s28.m.lda 60 0 3 DF rfl rfl rfl)<|qo (fa w27 B23 0 p7)<|qo (s28.m.lda 60 0 6 DF rfl rfl rfl)<|qo (M8 (P:=Tryz.prog) w27 (.tmp 46) (.tmp 48) (j4 (⟨((g.getD k cM).home).kind,((g.getD k cM).home).n,((g.getD k cM).home).phase⟩:m6)) (j4 (⟨((g.getD k cM).away).kind,((g.getD k cM).away).n,((g.getD k cM).away).phase⟩:m6)) (acB 10 (by decide)) (by decide) acK rfl rfl)<|qe) fun _ w30 s31=>?_
  refine cO s31.f rfl (fun h32=>?_) (fun h32=>?_)
  ·refine zs s31 [4] [(4,Bo false)] qe fun _ w34 s35=>aC<|aN (bP (aN (aN (bP (aN (pR [Bo false] rfl s35 ⟨rfl,trivial⟩ ?_))))))
   exact aW s35 (congrArg Bo (iF (bI hx18 (iP h32 rfl)) rfl).symm)
  refine wp_skip<|aD<|zs s31 [1,2,5,68] [(68,Bo ((!(qO l (⟨((g.getD k cM).home).kind,((g.getD k cM).home).n,((g.getD k cM).home).phase⟩:m6) (k:Int) ((g.getD k cM).phase)))||(!(qO l (⟨((g.getD k cM).away).kind,((g.getD k cM).away).n,((g.getD k cM).away).phase⟩:m6) (k:Int) ((g.getD k cM).phase)))))] (qo (s31.m.lda 34 1 0 cS rfl rfl rfl)<|qo (fa w30 B23 0 p6)<|qo (s31.m.lda 60 0 3 DF rfl rfl rfl)<|qo (fa w30 B23 0 p5)<|qo (s31.m.ld 3 0 1 bM rfl rfl)<|qo (yc w30 VB fun w' hb=>KG l (⟨((g.getD k cM).home).kind,((g.getD k cM).home).n,((g.getD k cM).home).phase⟩:m6) (k:Int) ((g.getD k cM).phase) w')<|qo (s31.m.lda 34 1 0 cS rfl rfl rfl)<|qo (fa w30 B23 0 p7)<|qo (s31.m.lda 60 0 6 DF rfl rfl rfl)<|qo (fa w30 B23 0 p5)<|qo (s31.m.ld 3 0 1 bM rfl rfl)<|qo (yc w30 VB fun w' hb=>KG l (⟨((g.getD k cM).away).kind,((g.getD k cM).away).n,((g.getD k cM).away).phase⟩:m6) (k:Int) ((g.getD k cM).phase) w')<|qe) fun _ w37 s38=>cO s38.f rfl (fun h39=>?_) (fun h39=>?_)
  ·refine zs s38 [4] [(4,Bo false)] qe fun _ w41 s42=>aC<|bP (aN (aN (bP (aN (pR [Bo false] rfl s42 ⟨rfl,trivial⟩ ?_)))))
   exact aW s42 (congrArg Bo (iF (bI hx18 (iF h32 (iP h39 rfl))) rfl).symm)
  refine wp_skip<|c9 (aD ?_)
  refine dU s38 [1,2,5] [500] [] (qo (wr ((k:Int)+1) ((k+1:Nat):Int) (by omega))<|qe) fun _ w44 s45=>aD<|?_
  exact ⟨(k+1),⟨by omega,(s45.keep [1,2,5] (by kernel_rfl)).sub (.cons _ (.refl _)),aM inv_k (fun y hy=>by rw [hx18] at hy; cases hy; exact (iF h32 (iF h39 rfl)))⟩,by omega⟩
 have k_eq:k=g.length:=by omega
 have A46:(List.range g.length).all (fun i=>xC l i (g.getD i cM))=true:=dG (by rw [k_eq] at inv_k; exact inv_k)
 refine wp_exit<|aY (aY (cP (aD ?_)))
 refine zs s16 [4] [(4,Bo true)] qe fun _ w48 s49=>aC<|pR [Bo true] rfl s49 ⟨rfl,trivial⟩<|?_
 exact aW s49 (congrArg Bo (iP A46 rfl).symm)
theorem LS (l:aE) (x:dP) (f:bK) (w:World):Calls Tryz.prog 85 #[.agg (aB l).toArray,.agg (cA x).toArray,.agg (bB f).toArray] w (eB (Bo (xL l x f)) w):=by
 refine dX [.agg (aB l).toArray,.agg (cA x).toArray,.agg (bB f).toArray] Tryz.func85 rfl rfl rfl rfl fun _ s0=>wp_seq<|aA<|lb s0 0 _ rfl rfl rfl rfl fun B1 a2 w3 s4=>lb s4 1 _ rfl rfl rfl rfl fun B5 a6 w7 s8=>lb s8 2 _ rfl rfl rfl rfl fun B9 a10 w11 s12=>zl s12 [3,4,5] [(3,Pt B1 0),(4,Pt B5 0),(5,Pt B9 0)] 3 1 qe fun _ w14 s15=>aR rfl<|aD<|wp_seq<|wp_seq<|HT s15 [3,4,5,9] [902] [] MO (qo (s15.m.lda 57 0 0 A4 rfl rfl rfl)<|qo (yc w14 ZI fun w' hb=>OW w')<|qo (M8 (P:=Tryz.prog) w14 (.tmp 7) (.tmp 8) (bB f) (bB dJ) (W6 10 (by decide)) (by decide) W8 rfl rfl)<|qe) fun _ w17 s18=>aD ?_
 refine cO s18.f rfl (fun h19=>?_) (fun h19=>?_)
 ·refine zs s18 [6] [(6,Bo true)] qe fun _ w21 s22=>aC<|aN (pR [Bo true] rfl s22 ⟨rfl,trivial⟩ ?_)
  exact aW s22 (congrArg Bo (iP h19 rfl).symm)
 refine wp_skip<|aD<|zs s18 [6] [(6,Bo ((((((rE x)&&(xK f.day))&&(decide (f.ground≥0)))&&(decide (f.ground<(l.grounds.length:Int))))&&(decide (f.slot≥0)))&&(decide (f.slot<(l.slots.length:Int)))))] (qo (s18.m.lda 62 1 0 rN rfl rfl rfl)<|qo (yc w17 aa2 fun w' hb=>OU x w')<|qo (fa w17 B9 0 wH)<|qo (s18.m.ld 3 0 0 bM rfl rfl)<|qo (yc w17 VC fun w' hb=>OS f.day w')<|qo (fa w17 B9 0 DI)<|qo (s18.m.ld 3 0 1 bM rfl rfl)<|qo (fa w17 B9 0 DI)<|qo (s18.m.ld 3 0 1 bM rfl rfl)<|qo (fa w17 B1 0 gG)<|qo (s18.m.ld 25 2 4 n3 rfl rfl)<|qo (ln w17 3 l.groundsA l.grounds.length l.groundsC nV)<|qo (fa w17 B9 0 wJ)<|qo (s18.m.ld 3 0 2 bM rfl rfl)<|qo (fa w17 B9 0 wJ)<|qo (s18.m.ld 3 0 2 bM rfl rfl)<|qo (fa w17 B1 0 jC)<|qo (s18.m.ld 28 2 7 pX rfl rfl)<|qo (ln w17 3 l.slotsA l.slots.length l.slotsC oP)<|qe) fun _ w24 s25=>aC<|pR [Bo ((((((rE x)&&(xK f.day))&&(decide (f.ground≥0)))&&(decide (f.ground<(l.grounds.length:Int))))&&(decide (f.slot≥0)))&&(decide (f.slot<(l.slots.length:Int))))] rfl s25 ⟨rfl,trivial⟩<|?_
 exact aW s25 (congrArg Bo (iF h19 rfl).symm)
theorem XA (l:aE) (x:bX) (w:World) (hL:LeagueAt w l):Calls Tryz.prog 73 #[.agg (aB l).toArray,.agg (bE x).toArray] w (eB (Bo (rH l x)) w):=by
 refine dX [.agg (aB l).toArray,.agg (bE x).toArray] Tryz.func73 rfl rfl rfl rfl fun _ s0=>?_
 have smA:=hL.phases.small
 have smB:=hL.teams.small
 have smC:=hL.slots.small
 refine wp_seq<|aA<|lb s0 0 _ rfl rfl rfl rfl fun B1 a2 w3 s4=>lb s4 1 _ rfl rfl rfl rfl fun B5 a6 w7 s8=>zl s8 [2,3] [(2,Pt B1 0),(3,Pt B5 0)] 2 1 qe fun _ w10 s11=>aR rfl<|aD<|wp_seq<|zs s11 [2,3,26] [(26,Bo ((((!(aG x.no 0 1048576))||(!(aG x.bidder 0 3)))||(!(aG x.most 1 64)))||(!(aG x.price 0 1048576))))] (qo (fa w10 B5 0 wG)<|qo (s11.m.ld 3 0 0 bM rfl rfl)<|qo (yc w10 zK fun w' hb=>j1 x.no 0 1048576 w')<|qo (fa w10 B5 0 H5)<|qo (s11.m.ld 3 0 1 bM rfl rfl)<|qo (yc w10 zK fun w' hb=>j1 x.bidder 0 3 w')<|qo (fa w10 B5 0 H6)<|qo (s11.m.ld 3 0 5 bM rfl rfl)<|qo (yc w10 zK fun w' hb=>j1 x.most 1 64 w')<|qo (fa w10 B5 0 H7)<|qo (s11.m.ld 3 0 6 bM rfl rfl)<|qo (yc w10 zK fun w' hb=>j1 x.price 0 1048576 w')<|qe) fun _ w13 s14=>cO s14.f rfl (fun h15=>?_) (fun h15=>?_)
 ·refine zs s14 [4] [(4,Bo false)] qe fun _ w17 s18=>aC<|aN (pR [Bo false] rfl s18 ⟨rfl,trivial⟩ ?_)
  exact aW s18 (congrArg Bo (iP h15 rfl).symm)
 refine wp_skip<|aD<|wp_seq<|d5 s14 [2,3,28] [2801] [] (qo (fa w13 B5 0 zJ)<|qo (s14.m.ld 3 0 2 bM rfl rfl)<|qe) fun _ w20 s21=>wp_block<|zs s21 [2,3,28,29] [(29,Bo (x.kind==1))] qe fun _ w23 s24=>bA s24.f rfl (fun h25=>?_) (fun h25=>?_)
 ·refine zs s24 [4] [(4,Bo ((aG x.a 0 63)&&(aG x.b 0 ((l.phases.length:Int)-1))))] (qo (fa w23 B5 0 gU)<|qo (s24.m.ld 3 0 3 bM rfl rfl)<|qo (yc w23 zK fun w' hb=>j1 x.a 0 63 w')<|qo (fa w23 B5 0 kE)<|qo (s24.m.ld 3 0 4 bM rfl rfl)<|qo (fa w23 B1 0 cG)<|qo (s24.m.ld 31 1 13 iE rfl rfl)<|qo (ln w23 3 l.phasesA l.phases.length l.phasesC g9)<|qu (fun (g0:(aG x.a 0 63)=true)=>wr ((l.phases.length:Int)-1) ((l.phases.length:Int)-1) (by first | omega | (simp only [xV] at *; omega)))<|qo (yc w23 zK fun w' hb=>j1 x.b 0 ((l.phases.length:Int)-1) w')<|qe) fun _ w27 s28=>aC<|bP (aN (pR [Bo ((aG x.a 0 63)&&(aG x.b 0 ((l.phases.length:Int)-1)))] rfl s28 ⟨rfl,trivial⟩ ?_))
  exact aW s28 (congrArg Bo (iF h15 (iP h25 rfl)).symm)
 refine zs s24 [2,3,28,43] [(43,Bo (x.kind==2))] qe fun _ w30 s31=>bA s31.f rfl (fun h32=>?_) (fun h32=>?_)
 ·refine zs s31 [4] [(4,Bo ((aG x.a 0 ((l.teams.length:Int)-1))&&(x.b==0)))] (qo (fa w30 B5 0 gU)<|qo (s31.m.ld 3 0 3 bM rfl rfl)<|qo (fa w30 B1 0 dS)<|qo (s31.m.ld 26 1 5 kS rfl rfl)<|qo (ln w30 3 l.teamsA l.teams.length l.teamsC lL)<|qo (wr ((l.teams.length:Int)-1) ((l.teams.length:Int)-1) (by omega))<|qo (yc w30 zK fun w' hb=>j1 x.a 0 ((l.teams.length:Int)-1) w')<|qo (fa w30 B5 0 kE)<|qo (s31.m.ld 3 0 4 bM rfl rfl)<|qe) fun _ w34 s35=>aC<|bP (aN (pR [Bo ((aG x.a 0 ((l.teams.length:Int)-1))&&(x.b==0))] rfl s35 ⟨rfl,trivial⟩ ?_))
  exact aW s35 (congrArg Bo (iF h15 (iM h25 (iP h32 rfl))).symm)
 refine zs s31 [2,3,28,57] [(57,Bo (x.kind==3))] qe fun _ w37 s38=>bA s38.f rfl (fun h39=>?_) (fun h39=>?_)
 ·refine zs s38 [4] [(4,Bo (((aG x.a 0 ((l.teams.length:Int)-1))&&(aG x.b 0 ((l.teams.length:Int)-1)))&&(x.a != x.b)))] (qo (fa w37 B5 0 gU)<|qo (s38.m.ld 3 0 3 bM rfl rfl)<|qo (fa w37 B1 0 dS)<|qo (s38.m.ld 26 1 5 kS rfl rfl)<|qo (ln w37 3 l.teamsA l.teams.length l.teamsC lL)<|qo (wr ((l.teams.length:Int)-1) ((l.teams.length:Int)-1) (by omega))<|qo (yc w37 zK fun w' hb=>j1 x.a 0 ((l.teams.length:Int)-1) w')<|qo (fa w37 B5 0 kE)<|qo (s38.m.ld 3 0 4 bM rfl rfl)<|qo (fa w37 B1 0 dS)<|qo (s38.m.ld 26 1 5 kS rfl rfl)<|qo (ln w37 3 l.teamsA l.teams.length l.teamsC lL)<|qu (fun (g0:(aG x.a 0 ((l.teams.length:Int)-1))=true)=>wr ((l.teams.length:Int)-1) ((l.teams.length:Int)-1) (by first | omega | (simp only [xV] at *; omega)))<|qo (yc w37 zK fun w' hb=>j1 x.b 0 ((l.teams.length:Int)-1) w')<|qo (fa w37 B5 0 gU)<|qo (s38.m.ld 3 0 3 bM rfl rfl)<|qo (fa w37 B5 0 kE)<|qo (s38.m.ld 3 0 4 bM rfl rfl)<|qe) fun _ w41 s42=>aC<|bP (aN (pR [Bo (((aG x.a 0 ((l.teams.length:Int)-1))&&(aG x.b 0 ((l.teams.length:Int)-1)))&&(x.a != x.b))] rfl s42 ⟨rfl,trivial⟩ ?_))
  exact aW s42 (congrArg Bo (iF h15 (iM h25 (iM h32 (iP h39 rfl)))).symm)
 refine zs s38 [2,3,28,82] [(82,Bo (x.kind==4))] qe fun _ w44 s45=>bA s45.f rfl (fun h46=>?_) (fun h46=>?_)
 ·refine zs s45 [4] [(4,Bo ((aG x.a 0 ((l.slots.length:Int)-1))&&(x.b==0)))] (qo (fa w44 B5 0 gU)<|qo (s45.m.ld 3 0 3 bM rfl rfl)<|qo (fa w44 B1 0 jC)<|qo (s45.m.ld 28 1 7 pX rfl rfl)<|qo (ln w44 3 l.slotsA l.slots.length l.slotsC oP)<|qo (wr ((l.slots.length:Int)-1) ((l.slots.length:Int)-1) (by omega))<|qo (yc w44 zK fun w' hb=>j1 x.a 0 ((l.slots.length:Int)-1) w')<|qo (fa w44 B5 0 kE)<|qo (s45.m.ld 3 0 4 bM rfl rfl)<|qe) fun _ w48 s49=>aC<|bP (aN (pR [Bo ((aG x.a 0 ((l.slots.length:Int)-1))&&(x.b==0))] rfl s49 ⟨rfl,trivial⟩ ?_))
  exact aW s49 (congrArg Bo (iF h15 (iM h25 (iM h32 (iM h39 (iP h46 rfl))))).symm)
 refine zs s45 [3,96] [(96,Bo (x.kind==5))] qe fun _ w51 s52=>bA s52.f rfl (fun h53=>?_) (fun h53=>?_)
 ·refine zs s52 [4] [(4,Bo ((aG x.a 0 73048)&&(x.b==0)))] (qo (fa w51 B5 0 gU)<|qo (s52.m.ld 3 0 3 bM rfl rfl)<|qo (yc w51 zK fun w' hb=>j1 x.a 0 73048 w')<|qo (fa w51 B5 0 kE)<|qo (s52.m.ld 3 0 4 bM rfl rfl)<|qe) fun _ w55 s56=>aC<|bP (aN (pR [Bo ((aG x.a 0 73048)&&(x.b==0))] rfl s56 ⟨rfl,trivial⟩ ?_))
  exact aW s56 (congrArg Bo (iF h15 (iM h25 (iM h32 (iM h39 (iM h46 (iP h53 rfl)))))).symm)
 refine wp_skip<|c9 (aD ?_)
 refine zs s52 [4] [(4,Bo false)] qe fun _ w58 s59=>aC<|pR [Bo false] rfl s59 ⟨rfl,trivial⟩<|?_
 exact aW s59 (congrArg Bo (iF h15 (iM h25 (iM h32 (iM h39 (iM h46 (iM h53 rfl)))))).symm)
theorem SS (x:dP) (f:bK) (z:bX) (w:World):Calls Tryz.prog 76 #[.agg (cA x).toArray,.agg (bB f).toArray,.agg (bE z).toArray] w (eB (Bo (wD x f z)) w):=by
 refine dX [.agg (cA x).toArray,.agg (bB f).toArray,.agg (bE z).toArray] Tryz.func76 rfl rfl rfl rfl fun _ s0=>wp_seq<|aA<|lb s0 0 _ rfl rfl rfl rfl fun B1 a2 w3 s4=>lb s4 1 _ rfl rfl rfl rfl fun B5 a6 w7 s8=>lb s8 2 _ rfl rfl rfl rfl fun B9 a10 w11 s12=>zl s12 [3,4,5] [(3,Pt B1 0),(4,Pt B5 0),(5,Pt B9 0)] 3 1 qe fun _ w14 s15=>aR rfl<|aD<|wp_seq<|wp_seq<|HT s15 [3,4,5,9] [902] [] MO (qo (s15.m.lda 57 1 0 A4 rfl rfl rfl)<|qo (yc w14 ZI fun w' hb=>OW w')<|qo (M8 (P:=Tryz.prog) w14 (.tmp 7) (.tmp 8) (bB f) (bB dJ) (W6 10 (by decide)) (by decide) W8 rfl rfl)<|qe) fun _ w17 s18=>aD ?_
 refine cO s18.f rfl (fun h19=>?_) (fun h19=>?_)
 ·refine zs s18 [6] [(6,Bo false)] qe fun _ w21 s22=>aC<|aN (pR [Bo false] rfl s22 ⟨rfl,trivial⟩ ?_)
  exact aW s22 (congrArg Bo (iP h19 rfl).symm)
 refine wp_skip<|aD<|wp_seq<|d5 s18 [3,4,5,11] [1101] [] (qo (fa w17 B9 0 zJ)<|qo (s18.m.ld 3 0 2 bM rfl rfl)<|qe) fun _ w24 s25=>wp_block<|zs s25 [3,4,5,11,12] [(12,Bo (z.kind==1))] qe fun _ w27 s28=>bA s28.f rfl (fun h29=>?_) (fun h29=>?_)
 ·refine zs s28 [6] [(6,Bo ((x.round==z.a)&&(x.phase==z.b)))] (qo (fa w27 B1 0 wK)<|qo (s28.m.ld 3 2 2 bM rfl rfl)<|qo (fa w27 B9 0 gU)<|qo (s28.m.ld 3 0 3 bM rfl rfl)<|qo (fa w27 B1 0 p5)<|qo (s28.m.ld 3 2 1 bM rfl rfl)<|qo (fa w27 B9 0 kE)<|qo (s28.m.ld 3 0 4 bM rfl rfl)<|qe) fun _ w31 s32=>aC<|bP (aN (pR [Bo ((x.round==z.a)&&(x.phase==z.b))] rfl s32 ⟨rfl,trivial⟩ ?_))
  exact aW s32 (congrArg Bo (iF h19 (iP h29 rfl)).symm)
 refine zs s28 [3,4,5,11,26] [(26,Bo (z.kind==2))] qe fun _ w34 s35=>bA s35.f rfl (fun h36=>?_) (fun h36=>?_)
 ·refine d5 s35 [6] [603] [] (qo (s35.m.lda 62 2 0 rN rfl rfl rfl)<|qo (fa w34 B9 0 gU)<|qo (s35.m.ld 3 0 3 bM rfl rfl)<|qo (yc w34 OI fun w' hb=>zT x z.a w')<|qe) fun _ w38 s39=>aC<|bP (aN (pR [Bo (nN x z.a)] rfl s39 ⟨rfl,trivial⟩ ?_))
  exact aW s39 (congrArg Bo (iF h19 (iM h29 (iP h36 rfl))).symm)
 refine zs s35 [3,4,5,11,32] [(32,Bo (z.kind==3))] qe fun _ w41 s42=>bA s42.f rfl (fun h43=>?_) (fun h43=>?_)
 ·refine zs s42 [6] [(6,Bo ((nN x z.a)&&(nN x z.b)))] (qo (s42.m.lda 62 2 0 rN rfl rfl rfl)<|qo (fa w41 B9 0 gU)<|qo (s42.m.ld 3 0 3 bM rfl rfl)<|qo (yc w41 OI fun w' hb=>zT x z.a w')<|qo (s42.m.lda 62 2 0 rN rfl rfl rfl)<|qo (fa w41 B9 0 kE)<|qo (s42.m.ld 3 0 4 bM rfl rfl)<|qo (yc w41 OI fun w' hb=>zT x z.b w')<|qe) fun _ w45 s46=>aC<|bP (aN (pR [Bo ((nN x z.a)&&(nN x z.b))] rfl s46 ⟨rfl,trivial⟩ ?_))
  exact aW s46 (congrArg Bo (iF h19 (iM h29 (iM h36 (iP h43 rfl)))).symm)
 refine zs s42 [4,5,44] [(44,Bo (z.kind==4))] qe fun _ w48 s49=>bA s49.f rfl (fun h50=>?_) (fun h50=>?_)
 ·refine zs s49 [6] [(6,Bo (f.slot==z.a))] (qo (fa w48 B5 0 wJ)<|qo (s49.m.ld 3 1 2 bM rfl rfl)<|qo (fa w48 B9 0 gU)<|qo (s49.m.ld 3 0 3 bM rfl rfl)<|qe) fun _ w52 s53=>aC<|bP (aN (pR [Bo (f.slot==z.a)] rfl s53 ⟨rfl,trivial⟩ ?_))
  exact aW s53 (congrArg Bo (iF h19 (iM h29 (iM h36 (iM h43 (iP h50 rfl))))).symm)
 refine wp_skip<|c9 (aD ?_)
 refine zs s49 [6] [(6,Bo (f.day==z.a))] (qo (fa w48 B5 0 wH)<|qo (s49.m.ld 3 1 0 bM rfl rfl)<|qo (fa w48 B9 0 gU)<|qo (s49.m.ld 3 0 3 bM rfl rfl)<|qe) fun _ w55 s56=>aC<|pR [Bo (f.day==z.a)] rfl s56 ⟨rfl,trivial⟩<|?_
 exact aW s56 (congrArg Bo (iF h19 (iM h29 (iM h36 (iM h43 (iM h50 rfl))))).symm)
end Go.Proofs.YtfffbdmdllgalaaGreatDoor
