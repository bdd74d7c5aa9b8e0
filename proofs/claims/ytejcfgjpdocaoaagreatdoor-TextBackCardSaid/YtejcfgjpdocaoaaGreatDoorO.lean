/- Part of the proof. -/
import Derived.Test.YtejcfgjpdocaoaaGreatDoorSc
set_option linter.all false
namespace Go.Proofs.YtejcfgjpdocaoaaGreatDoor
open Go Go.Sk
open Go.IntKind (i64)
structure Field where
 name:Int
 lo:Int
 hi:Int
structure Row where
 op:Int
 name:ByteArray
 fields:List Field
structure aJ where
 op:Int
 d:Int
 a:Int
 b:Int
 n:Int
 m:Int
 to:Int
structure ak where
 from_:Int
 to:Int
 at_:Int
 clean:Bool
structure Loop where
 head:Int
 back:Int
 bound:Int
structure be where
 kind:Int
 entry:Int
 guard:Int
 time:Int
 at_:Int
structure az where
 alts:List be
 obj:Int
 else_:Int
structure Obj where
 size:Int
 lo:Int
 hi:Int
 ptr:Bool
 set_:List Int
structure bq where
 o:Int
 slot:Int
 v:Int
structure aB where
 ins:List Int
 outs:List Int
structure aK where
 prio:Int
 at_:Int
 entries:List aB
 deadline:Int
structure ae where
 kind:Int
 op:Int
 n:Int
 o:Int
 off:Int
 len:Int
 lo:Int
 hi:Int
 l:List ae
structure aT where
 ceiling:Int
 barriers:List ae
structure bf where
 at_:Int
 kind:Int
structure aC where
 insns:List aJ
 handlers:List ak
 loops:List Loop
 selects:List az
 lists:List (List Int)
 objs:List Obj
 inits:List bq
 excs:Int
 tasks:List aK
 prots:List aT
 checks:List bf
structure bI where
 text:aC
structure Judge where
 hO:bI
 entries:Int
 left:Int
structure Spot where
 o:Int
 slot:Int
structure gB where
 name:ByteArray
 fields:ByteArray
structure OutB where
 b:List Int
structure Coder where
 b:List Int
 read:Bool
 bad:Bool
abbrev R59(x:aJ):List D:=[.i .u8 x.op, .i .i64 x.d, .i .i64 x.a, .i .i64 x.b, .i .i64 x.n, .i .i64 x.m, .i .i64 x.to]
abbrev E59(x:aJ):List D:=R59 x
theorem fk(x:aJ):E59 x=R59 x:=rfl
abbrev R83(x:ak):List D:=[.i .i64 x.from_, .i .i64 x.to, .i .i64 x.at_, .b x.clean]
abbrev E83(x:ak):List D:=R83 x
theorem fX(x:ak):E83 x=R83 x:=rfl
abbrev fy(x:Loop):List D:=[.i .i64 x.head, .i .i64 x.back, .i .i64 x.bound]
abbrev cP(x:Loop):List D:=fy x
theorem f'(x:Loop):cP x=fy x:=rfl
abbrev dL(x:be):List D:=[.i .u8 x.kind, .i .i64 x.entry, .i .i64 x.guard, .i .i64 x.time, .i .i64 x.at_]
abbrev ef(x:be):List D:=dL x
theorem jj(x:be):ef x=dL x:=rfl
abbrev R65(x:az):List D:=[.sl (List.map ef x.alts), .i .i64 x.obj, .i .i64 x.else_]
abbrev E65(x:az):List D:=R65 x
theorem jM(x:az):E65 x=R65 x:=rfl
abbrev E3(x:Int):List D:=[.i .i64 x]
theorem bS(x:Int):E3 x=[.i .i64 x]:=rfl
abbrev E54(x:List Int):List D:=[.sl (List.map E3 x)]
theorem jN(x:List Int):E54 x=[.sl (List.map E3 x)]:=rfl
abbrev R67(x:Obj):List D:=[.i .i64 x.size, .i .i64 x.lo, .i .i64 x.hi, .b x.ptr, .sl (List.map E3 x.set_)]
abbrev E67(x:Obj):List D:=R67 x
theorem ed(x:Obj):E67 x=R67 x:=rfl
abbrev R93(x:bq):List D:=[.i .i64 x.o, .i .i64 x.slot, .i .i64 x.v]
abbrev E93(x:bq):List D:=R93 x
theorem iz(x:bq):E93 x=R93 x:=rfl
abbrev R72(x:aB):List D:=[.sl (List.map E3 x.ins), .sl (List.map E3 x.outs)]
abbrev E72(x:aB):List D:=R72 x
theorem fY(x:aB):E72 x=R72 x:=rfl
abbrev R70(x:aK):List D:=[.i .i64 x.prio, .i .i64 x.at_, .sl (List.map E72 x.entries), .i .i64 x.deadline]
abbrev E70(x:aK):List D:=R70 x
theorem eS(x:aK):E70 x=R70 x:=rfl
abbrev lI:=List Int
abbrev lL:=List (List Int)
abbrev lN:=List aJ
abbrev lH:=List ak
abbrev lO:=List Obj
abbrev lD:=List D
abbrev lV:=List AV
abbrev lW:=List AO
abbrev oB:=Option Bool
abbrev lP:=List Loop
abbrev lS:=List az
abbrev lT:=List bq
abbrev lK:=List aK
abbrev lM:=List aT
abbrev lC:=List bf
abbrev fD:=Field.mk
abbrev bA:=ByteArray.mk

mutual
def E80:ae->lD
 | .mk kind op n o off len lo hi l=> [.i .u8 kind, .i .u8 op, .i .i64 n, .i .i64 o, .i .i64 off, .i .i64 len, .i .i64 lo, .i .i64 hi, .sl (E80s l)]
def E80s:List ae->List lD
 |[]=> []
 |e::l=>E80 e::E80s l
end
abbrev R80(x:ae):lD:=[.i .u8 x.kind, .i .u8 x.op, .i .i64 x.n, .i .i64 x.o, .i .i64 x.off, .i .i64 x.len, .i .i64 x.lo, .i .i64 x.hi, .sl (List.map E80 x.l)]
theorem rg:∀l,E80s l=List.map E80 l
 |[]=>rfl
 |e::l=>by rw[E80s,rg l];rfl
theorem dW(x:ae):E80 x=R80 x:=by
 cases x;simp only[E80,rg]
abbrev R75(x:aT):lD:=[.i .i64 x.ceiling, .sl (List.map E80 x.barriers)]
abbrev E75(x:aT):lD:=R75 x
theorem ez(x:aT):E75 x=R75 x:=rfl
abbrev fW(x:bf):lD:=[.i .i64 x.at_, .i .u8 x.kind]
abbrev aU(x:bf):lD:=fW x
theorem gO(x:bf):aU x=fW x:=rfl
abbrev R33(x:aC):lD:=[.sl (List.map E59 x.insns), .sl (List.map E83 x.handlers), .sl (List.map cP x.loops), .sl (List.map E65 x.selects), .sl (List.map E54 x.lists), .sl (List.map E67 x.objs), .sl (List.map E93 x.inits), .i .i64 x.excs, .sl (List.map E70 x.tasks), .sl (List.map E75 x.prots), .sl (List.map aU x.checks)]
abbrev E33(x:aC):lD:=R33 x
abbrev R86(x:bI):lD:=[.sl (List.map E59 x.text.insns), .sl (List.map E83 x.text.handlers), .sl (List.map cP x.text.loops), .sl (List.map E65 x.text.selects), .sl (List.map E54 x.text.lists), .sl (List.map E67 x.text.objs), .sl (List.map E93 x.text.inits), .i .i64 x.text.excs, .sl (List.map E70 x.text.tasks), .sl (List.map E75 x.text.prots), .sl (List.map aU x.text.checks)]
abbrev yq(x:gB):lD:=[.s x.name, .s x.fields]
abbrev E2(x:Int):lD:=[.i .i64 x]
abbrev E73(x:List ae):lD:=[.sl (List.map E80 x)]
abbrev E9(x:ByteArray):lD:=[.s x]
theorem wW(x:ByteArray):E9 x=[.s x]:=rfl
abbrev E5(x:Int):lD:=[.i .u8 x]
theorem j5(x:Int):E5 x=[.i .u8 x]:=rfl
abbrev fZ(x:Option Int):lD:=[ke E3 x]
theorem cV(x:Option Int):fZ x=[ke E3 x]:=rfl
abbrev E57(x:Int):lD:=[.i .u8 x]
abbrev E22(x:lN):lD:=[.sl (List.map E59 x)]
abbrev pQ(x:Option Int):lD:=[ke E57 x]
theorem rm(x:Option Int):pQ x=[ke E57 x]:=rfl
abbrev uA(x:Int):lD:=[.i .u8 x]
abbrev pO(x:Option Int):lD:=[ke uA x]
theorem rj(x:Option Int):pO x=[ke uA x]:=rfl
abbrev E77(x:Int):lD:=[.i .u8 x]
abbrev pN(x:Option Int):lD:=[ke E77 x]
theorem ri(x:Option Int):pN x=[ke E77 x]:=rfl
abbrev E78(x:Int):lD:=[.i .u8 x]
abbrev pM(x:Option Int):lD:=[ke E78 x]
theorem rh(x:Option Int):pM x=[ke E78 x]:=rfl
abbrev uB(x:Int):lD:=[.i .u8 x]
abbrev pP(x:Option Int):lD:=[ke uB x]
theorem rk(x:Option Int):pP x=[ke uB x]:=rfl
abbrev E4(x:Bool):lD:=[.b x]
abbrev E63(x:List be):lD:=[.sl (List.map ef x)]
abbrev E68(x:List aB):lD:=[.sl (List.map E72 x)]
abbrev E23(x:lH):lD:=[.sl (List.map E83 x)]
abbrev E24(x:lP):lD:=[.sl (List.map cP x)]
abbrev E25(x:lS):lD:=[.sl (List.map E65 x)]
abbrev E26(x:lL):lD:=[.sl (List.map E54 x)]
abbrev E27(x:lO):lD:=[.sl (List.map E67 x)]
abbrev E28(x:lT):lD:=[.sl (List.map E93 x)]
abbrev E29(x:lK):lD:=[.sl (List.map E70 x)]
abbrev E30(x:lM):lD:=[.sl (List.map E75 x)]
abbrev E31(x:lC):lD:=[.sl (List.map aU x)]
def iS:List gB:=mM.map λp=>⟨p.1,p.2⟩
theorem mV:gpc 0=some (iS.flatMap yq):=by
 unfold iS
 rw[List.flatMap_map]
 rfl
def f163_l1(s0:lI)(c:Int->oB)(d:Unit->Option (Int)):Nat->Int->Option (Int)
 |0,_=>none
 |n+1,a=>
 (bif (decide (a<(s0.length:Int))) then (idx s0 a).bind λe=>
 (c e).bind λf=>
 (bif f then some a else(f163_l1 s0 c d n (i64.wrap (a+1)))) else(d ()))
def f163(s0:lI)(a:Int->oB):Option Int:=
 aq (λ(_:Unit)=>
 some (-1)) λc=>
 (f163_l1 s0 a c (Int.toNat ((s0.length:Int) - 0)+1) 0)
def f112(s0:lI)(a:Int->oB):oB:=
 (f163 s0 a).bind λc=>
 some (decide (c>=0))
def f113(n0:Int)(a:Int):Bool:=
 (decide ((i64.wrap (n0+1))=a))
def f45(o0:Obj)(v1:Int):oB:=
 (bif o0.ptr then (bif (decide (v1=0)) then some true else((f112 o0.set_ (λz0=>some (f113 z0 v1))).bind λa=>some a)).bind λc=>
 some c else some ((decide (v1>=o0.lo))&&(decide (v1<=o0.hi))))
def f88_l1(t0:bI)(o1:Obj)(d:Unit->oB):Nat->Int->Int->oB
 |0,_,_=>none
 |n+1,e,c=>
 (bif (decide (c<(o1.set_.length:Int))) then (idx o1.set_ c).bind λa=>
 (bif ((decide (a<=e))||(decide (a>=(t0.text.objs.length:Int)))) then some true else((idx t0.text.objs a).bind λf=>some (!decide (f.size=1)))).bind λg=>
 (bif g then some true else((idx t0.text.objs a).bind λh=>some h.ptr)).bind λj=>
 (bif j then some false else(f88_l1 t0 o1 d n a (i64.wrap (c+1)))) else(d ()))
def f88(t0:bI)(o1:Obj):oB:=
 (bif (((decide (o1.size<1))||(decide (o1.size>16384)))||(decide (o1.lo>o1.hi))) then some false else(bif (!o1.ptr) then some (decide ((o1.set_.length:Int)=0)) else aq (λ(_:Unit)=>
 some ((decide (o1.lo=0))&&(decide (o1.hi=0)))) λa=>
 (f88_l1 t0 o1 a (Int.toNat ((o1.set_.length:Int) - 0)+1) (-1) 0)))
def f89(t0:bI)(o1:Int)(a:Int)(c:Int):oB:=
 (bif (((decide (o1>=0))&&(decide (o1<(t0.text.objs.length:Int))))&&(decide (a>=0))) then((idx t0.text.objs o1).bind λd=>some (decide (a<=(i64.wrap (d.size - c))))) else some false).bind λe=>
 some e
def f27_l1(t0:bI)(c:Int->oB):Nat->Int->Int->oB
 |0,_,_=>none
 |n+1,d,a=>
 (bif (decide (a<(t0.text.objs.length:Int))) then (idx t0.text.objs a).bind λe=>
 (f88 t0 e).bind λf=>
 (bif (!f) then some false else(f27_l1 t0 c n (i64.wrap (d+e.size)) (i64.wrap (a+1)))) else(c d))
def f27_l2(t0:bI)(e:(List ((Int×Int)×Bool))->oB):Nat->Int->(List ((Int×Int)×Bool))->oB
 |0,_,_=>none
 |n+1,c,d=>
 (bif (decide (c<(t0.text.inits.length:Int))) then (idx t0.text.inits c).bind λa=>
 (bif (Option.getD (dv d (a.o,a.slot)) false) then some true else((f89 t0 a.o a.slot 1).bind λf=>some (!f))).bind λg=>
 (bif g then some true else((idx t0.text.objs a.o).bind λh=>(f45 h a.v).bind λj=>some (!j))).bind λk=>
 (bif k then some false else(f27_l2 t0 e n (i64.wrap (c+1)) (cm d (a.o,a.slot) true))) else(e d))
def f27(t0:bI):oB:=
 (bif (((decide ((t0.text.objs.length:Int)>4096))||(decide (t0.text.excs<4)))||(decide (t0.text.excs>64))) then some false else aq (λ(a:Int)=>
 aq (λ(e:List ((Int×Int)×Bool))=>
 some (decide (a<=65536))) λc=>
 (f27_l2 t0 c (Int.toNat ((t0.text.inits.length:Int) - 0)+1) 0 ([]:List ((Int×Int)×Bool)))) λd=>
 (f27_l1 t0 d (Int.toNat ((t0.text.objs.length:Int) - 0)+1) 0 0))
def f47(t0:bI)(a1:Int):Bool:=
 ((decide (a1>=0))&&(decide (a1<(t0.text.insns.length:Int))))
def f151_l1(s0:List aB)(c:aB->oB)(d:Unit->Option (Int)):Nat->Int->Option (Int)
 |0,_=>none
 |n+1,a=>
 (bif (decide (a<(s0.length:Int))) then (idx s0 a).bind λe=>
 (c e).bind λf=>
 (bif f then some a else(f151_l1 s0 c d n (i64.wrap (a+1)))) else(d ()))
def f151(s0:List aB)(a:aB->oB):Option Int:=
 aq (λ(_:Unit)=>
 some (-1)) λc=>
 (f151_l1 s0 a c (Int.toNat ((s0.length:Int) - 0)+1) 0)
def f90(s0:List aB)(a:aB->oB):oB:=
 (f151 s0 a).bind λc=>
 some (decide (c>=0))
def f152(o0:Int)(a:bI):oB:=
 (bif ((decide (o0<0))||(decide (o0>=(a.text.objs.length:Int)))) then some true else((idx a.text.objs o0).bind λc=>some (!decide (c.size=1)))).bind λd=>
 some d
def f92(t0:bI)(l1:lI):oB:=
 (bif (decide ((l1.length:Int)<=8)) then((f112 l1 λz0=>f152 z0 t0).bind λa=>some (!a)) else some false).bind λc=>
 some c
def f91(e0:aB)(a:bI):oB:=
 (f92 a e0.ins).bind λc=>
 (bif (!c) then some true else((f92 a e0.outs).bind λd=>some (!d))).bind λe=>
 some e
def f28_l1(t0:bI)(d:Unit->oB):Nat->Int->oB
 |0,_=>none
 |n+1,c=>
 (bif (decide (c<(t0.text.tasks.length:Int))) then (idx t0.text.tasks c).bind λa=>
 (bif ((((((decide (a.prio<0))||(decide (a.prio>31)))||(!(f47 t0 a.at_)))||(decide (a.deadline<0)))||(decide (a.deadline>2147483647)))||(decide ((a.entries.length:Int)>8))) then some false else (f90 a.entries λz0=>f91 z0 t0).bind λe=>
 (bif e then some false else(f28_l1 t0 d n (i64.wrap (c+1))))) else(d ()))
def f28(t0:bI):oB:=
 (bif ((decide ((t0.text.tasks.length:Int)<1))||(decide ((t0.text.tasks.length:Int)>32))) then some false else aq (λ(_:Unit)=>
 some true) λa=>
 (f28_l1 t0 a (Int.toNat ((t0.text.tasks.length:Int) - 0)+1) 0))
def f29_l2(t0:bI)(c:lI)(f:(List (Int×Bool))->oB):Nat->Int->(List (Int×Bool))->oB
 |0,_,_=>none
 |na+1,d,e=>
 (bif (decide (d<(c.length:Int))) then (idx c d).bind λa=>
 (bif (((decide (a<1))||(decide (a>=(t0.text.tasks.length:Int))))||(Option.getD (dv e a) false)) then some false else(f29_l2 t0 c f na (i64.wrap (d+1)) (cm e a true))) else(f e))
def f29_l1(t0:bI)(d:Unit->oB):Nat->Int->oB
 |0,_=>none
 |n+1,a=>
 (bif (decide (a<(t0.text.lists.length:Int))) then aq (λ(h:List (Int×Bool))=>
 (f29_l1 t0 d n (i64.wrap (a+1)))) λe=>
 (idx t0.text.lists a).bind λc=>
 aq (λ(f:List (Int×Bool))=>
 (bif (decide ((c.length:Int)>32)) then some false else(e f))) λg=>
 (f29_l2 t0 c g (Int.toNat ((c.length:Int) - 0)+1) 0 ([]:List (Int×Bool))) else(d ()))
def f29(t0:bI):oB:=
 (bif (decide ((t0.text.lists.length:Int)>4096)) then some false else aq (λ(_:Unit)=>
 some true) λa=>
 (f29_l1 t0 a (Int.toNat ((t0.text.lists.length:Int) - 0)+1) 0))
def f93s_l1(d:lN->lH->lP->lS->lL->lO->lT->Int->lK->lM->lC->Int->Int->ae->Int->Option (Bool×lN×lH×lP×lS×lL×lO×lT×Int×lK×lM×lC×Int×Int))(e1:ae)(e:Int)(f:Int->lN->lH->lP->lS->lL->lO->lT->Int->lK->lM->lC->Int->Int->Option (Bool×lN×lH×lP×lS×lL×lO×lT×Int×lK×lM×lC×Int×Int))(g:lN->lH->lP->lS->lL->lO->lT->Int->lK->lM->lC->Int->Int->Option (Bool×lN×lH×lP×lS×lL×lO×lT×Int×lK×lM×lC×Int×Int)):Nat->Int->lN->lH->lP->lS->lL->lO->lT->Int->lK->lM->lC->Int->Int->Option (Bool×lN×lH×lP×lS×lL×lO×lT×Int×lK×lM×lC×Int×Int)
 |0,_,_,_,_,_,_,_,_,_,_,_,_,_,_=>none
 |n+1,c,c00v179,c01v180,c02v181,c03v182,c04v183,c05v184,c06v185,c07v186,c08v187,c09v188,c010v189,c011v190,c012v191=>
 (bif (decide (c<(e1.l.length:Int))) then (idx e1.l c).bind λh=>
 aq (λ(j:Bool)(c00v209:lN)(c01v210:lH)(c02v211:lP)(c03v212:lS)(c04v213:lL)(c05v214:lO)(c06v215:lT)(c07v216:Int)(c08v217:lK)(c09v218:lM)(c010v219:lC)(c011v220:Int)(c012v221:Int)=>
 (bif j then(f c c00v209 c01v210 c02v211 c03v212 c04v213 c05v214 c06v215 c07v216 c08v217 c09v218 c010v219 c011v220 c012v221) else(f93s_l1 d e1 e f g n (i64.wrap (c+1)) c00v209 c01v210 c02v211 c03v212 c04v213 c05v214 c06v215 c07v216 c08v217 c09v218 c010v219 c011v220 c012v221))) λk=>
 (d c00v179 c01v180 c02v181 c03v182 c04v183 c05v184 c06v185 c07v186 c08v187 c09v188 c010v189 c011v190 c012v191 h (i64.wrap (e+1))).bind λa=>
 (k (!a.1) a.2.1 a.2.2.1 a.2.2.2.1 a.2.2.2.2.1 a.2.2.2.2.2.1 a.2.2.2.2.2.2.1 a.2.2.2.2.2.2.2.1 a.2.2.2.2.2.2.2.2.1 a.2.2.2.2.2.2.2.2.2.1 a.2.2.2.2.2.2.2.2.2.2.1 a.2.2.2.2.2.2.2.2.2.2.2.1 a.2.2.2.2.2.2.2.2.2.2.2.2.1 a.2.2.2.2.2.2.2.2.2.2.2.2.2) else(g c00v179 c01v180 c02v181 c03v182 c04v183 c05v184 c06v185 c07v186 c08v187 c09v188 c010v189 c011v190 c012v191))
def f93s(C:lN->lH->lP->lS->lL->lO->lT->Int->lK->lM->lC->Int->Int->ae->Int->Option (Bool×lN×lH×lP×lS×lL×lO×lT×Int×lK×lM×lC×Int×Int))(f:lN)(g:lH)(h:lP)(j:lS)(k:lL)(c:lO)(m:lT)(p:Int)(r:lK)(t:lM)(w:lC)(jent:Int)(jleft:Int)(e1:ae)(x:Int):Option (Bool×lN×lH×lP×lS×lL×lO×lT×Int×lK×lM×lC×Int×Int):=
 aq (λ(E:Bool)(F:Int)(d:ae)(c21v100:Int)(c22v101:Int)(c23v102:Int)(c24v103:Int)=>
 (bif (((((((((((decide ((i64.wrap (jleft - 1))<0))||(decide (x>64)))||(!E))||(!decide ((e1.l.length:Int)=F)))||(!decide (e1.op=d.op)))||(!decide (e1.n=d.n)))||(!decide (e1.o=d.o)))||(!decide (e1.off=d.off)))||(!decide (e1.len=0)))||(!decide (e1.lo=0)))||(!decide (e1.hi=0))) then some (false,f,g,h,j,k,c,m,p,r,t,w,jent,(i64.wrap (jleft - 1))) else aq (λ(G:Bool)(c00v120:lN)(c01v121:lH)(c02v122:lP)(c03v123:lS)(c04v124:lL)(c05v125:lO)(c06v126:lT)(c07v127:Int)(c08v128:lK)(c09v129:lM)(c010v130:lC)(c011v131:Int)(c012v132:Int)=>
 some ((!G),c00v120,c01v121,c02v122,c03v123,c04v124,c05v125,c06v126,c07v127,c08v128,c09v129,c010v130,c011v131,c012v132)) λH=>
 aq (λ(I:Int)(c00v136:lN)(c01v137:lH)(c02v138:lP)(c03v139:lS)(c04v140:lL)(c05v141:lO)(c06v142:lT)(c07v143:Int)(c08v144:lK)(c09v145:lM)(c010v146:lC)(c011v147:Int)(c012v148:Int)=>
 (H (decide (I>=0)) c00v136 c01v137 c02v138 c03v139 c04v140 c05v141 c06v142 c07v143 c08v144 c09v145 c010v146 c011v147 c012v148)) λy=>
 aq (λ(c00v150:lN)(c01v151:lH)(c02v152:lP)(c03v153:lS)(c04v154:lL)(c05v155:lO)(c06v156:lT)(c07v157:Int)(c08v158:lK)(c09v159:lM)(c010v160:lC)(c011v161:Int)(c012v162:Int)=>
 (y (-1) c00v150 c01v151 c02v152 c03v153 c04v154 c05v155 c06v156 c07v157 c08v158 c09v159 c010v160 c011v161 c012v162)) λJ=>
 (f93s_l1 C e1 x y J (Int.toNat ((e1.l.length:Int) - 0)+1) 0 f g h j k c m p r t w jent (i64.wrap (jleft - 1))))) λe=>
 aq (λ(K:Int)(c21v106:Int)(c22v107:Int)(c23v108:Int)(c24v109:Int)=>
 (e true K (ae.mk e1.kind c21v106 c22v107 c23v108 c24v109 0 0 0 []) c21v106 c22v107 c23v108 c24v109)) λa=>
 (bif (decide (e1.kind=1)) then(a 0 0 e1.n 0 0) else(bif (decide (e1.kind=2)) then (f89 (bI.mk (aC.mk f g h j k c m p r t w)) e1.o e1.off 1).bind λL=>
 (bif (!L) then some true else((idx c e1.o).bind λM=>some M.ptr)).bind λN=>
 (bif N then(e false 0 (ae.mk e1.kind 0 0 0 0 0 0 0 []) 0 0 0 0) else(a 0 0 0 e1.o e1.off)) else(bif (decide (e1.kind=14)) then aq (λ(O:Bool)=>
 (e O 0 (ae.mk e1.kind 0 e1.n 0 0 0 0 0 []) 0 e1.n 0 0)) λA=>
 (bif (decide (e1.n>=0)) then(A (decide (e1.n<jent))) else(A false)) else(bif (decide (e1.kind=4)) then(a 1 18 0 0 0) else(bif (decide (e1.kind=5)) then(a 2 (if(if 15<e1.op then 15 else e1.op)>7 then(if 15<e1.op then 15 else e1.op) else 7) 0 0 0) else aq (λ(P:Bool)=>
 (bif P then(a 2 0 0 0 0) else(e false 0 (ae.mk e1.kind 0 0 0 0 0 0 0 []) 0 0 0 0))) λB=>
 (bif (decide (e1.kind=6)) then(B (decide (e1.kind=6))) else(B (decide (e1.kind=7)))))))))
def f93:Nat->lN->lH->lP->lS->lL->lO->lT->Int->lK->lM->lC->Int->Int->ae->Int->Option (Bool×lN×lH×lP×lS×lL×lO×lT×Int×lK×lM×lC×Int×Int)
 |0=>λ_ _ _ _ _ _ _ _ _ _ _ _ _ _ _=>none
 |n+1=>f93s (f93 n)
def f30_l2(t0:bI)(d:Int->(List ae)->oB)(a:aT):Nat->Int->oB
 |0,_=>none
 |na+1,c=>
 (bif (decide (c<(a.barriers.length:Int))) then (idx a.barriers c).bind λe=>
 (f93 66 t0.text.insns t0.text.handlers t0.text.loops t0.text.selects t0.text.lists t0.text.objs t0.text.inits t0.text.excs t0.text.tasks t0.text.prots t0.text.checks (a.barriers.length:Int) 256 e 1).bind λf=>
 (bif (!f.1) then some false else(f30_l2 t0 d a na (i64.wrap (c+1)))) else(d a.ceiling a.barriers))
def f30_l1(t0:bI)(d:Unit->oB):Nat->Int->oB
 |0,_=>none
 |n+1,c=>
 (bif (decide (c<(t0.text.prots.length:Int))) then aq (λ(c00v60:Int)(c01v61:List ae)=>
 (f30_l1 t0 d n (i64.wrap (c+1)))) λe=>
 (idx t0.text.prots c).bind λa=>
 (bif (((decide (a.ceiling<0))||(decide (a.ceiling>31)))||(decide ((a.barriers.length:Int)>8))) then some false else(f30_l2 t0 e a (Int.toNat ((a.barriers.length:Int) - 0)+1) 0)) else(d ()))
def f30(t0:bI):oB:=
 aq (λ(_:Unit)=>
 some (decide ((t0.text.prots.length:Int)<=32))) λa=>
 (f30_l1 t0 a (Int.toNat ((t0.text.prots.length:Int) - 0)+1) 0)
def f157(n0:Int)(a:bI)(c:Int):oB:=
 (f89 a c n0 1).bind λd=>
 some d
def f96(t0:bI)(a:Int)(a2:be):oB:=
 (bif (!(f47 t0 a2.at_)) then some true else((bif (!decide (a2.guard=(-1))) then((f157 a2.guard t0 a).bind λd=>some (!d)) else some false).bind λe=>some e)).bind λf=>
 (bif f then some false else(bif (decide (a2.kind=1)) then some (((decide (a2.entry>=0))&&(decide (a2.entry<8)))&&(decide (a2.time=0))) else aq (λ(g:Bool)=>
 (bif g then (bif (decide (a2.entry=0)) then((f157 a2.time t0 a).bind λh=>some h) else some false).bind λj=>
 some j else some ((decide (a2.kind=4))&&(decide ((i64.wrap (BitVec.ofInt i64.bits a2.entry|||BitVec.ofInt i64.bits a2.time).toNat)=0))))) λc=>
 (bif (decide (a2.kind=2)) then(c (decide (a2.kind=2))) else(c (decide (a2.kind=3))))))
def f31_l2(t0:bI)(a:az)(d:Int->oB)(e:Unit->oB):Nat->Int->oB
 |0,_=>none
 |na+1,c=>
 (bif (decide (c<(a.alts.length:Int))) then (idx a.alts c).bind λf=>
 aq (λ(g:Bool)=>
 (bif g then(d c) else(f31_l2 t0 a d e na (i64.wrap (c+1))))) λh=>
 (f96 t0 a.obj f).bind λj=>
 (h (!j)) else(e ()))
def f31_l1(t0:bI)(d:Unit->oB):Nat->Int->oB
 |0,_=>none
 |n+1,c=>
 (bif (decide (c<(t0.text.selects.length:Int))) then (idx t0.text.selects c).bind λa=>
 (bif (((((decide ((a.alts.length:Int)<1))||(decide ((a.alts.length:Int)>16)))||(decide (a.obj<0)))||(decide (a.obj>=(t0.text.objs.length:Int))))||((!decide (a.else_=(-1)))&&(!(f47 t0 a.else_)))) then some false else aq (λ(f:Bool)=>
 (bif f then some false else(f31_l1 t0 d n (i64.wrap (c+1))))) λg=>
 aq (λ(h:Int)=>
 (g (decide (h>=0)))) λe=>
 aq (λ(_:Unit)=>
 (e (-1))) λj=>
 (f31_l2 t0 a e j (Int.toNat ((a.alts.length:Int) - 0)+1) 0)) else(d ()))
def f31(t0:bI):oB:=
 (bif (decide ((t0.text.selects.length:Int)>1024)) then some false else aq (λ(_:Unit)=>
 some true) λa=>
 (f31_l1 t0 a (Int.toNat ((t0.text.selects.length:Int) - 0)+1) 0))
def f50(h0:ak)(a1:Int):Bool:=
 ((decide (h0.from_<=a1))&&(decide (a1<h0.to)))
def f32_l2(t0:bI)(d:Int)(f:Int->Int->Int->Bool->oB)(a:ak):Nat->Int->oB
 |0,_=>none
 |na+1,e=>
 (bif (decide (e<(List.length (bu t0.text.handlers 0 d):Int))) then (idx (bu t0.text.handlers 0 d) e).bind λc=>
 (bif ((!((decide (c.from_>=a.from_))&&(decide (c.to<=a.to))))&&(decide ((if a.from_>c.from_ then a.from_ else c.from_)<(if a.to<c.to then a.to else c.to)))) then some false else(f32_l2 t0 d f a na (i64.wrap (e+1)))) else(f a.from_ a.to a.at_ a.clean))
def f32_l1(t0:bI)(d:Unit->oB):Nat->Int->oB
 |0,_=>none
 |n+1,c=>
 (bif (decide (c<(t0.text.handlers.length:Int))) then aq (λ(c00v99:Int)(c01v100:Int)(c02v101:Int)(c03v102:Bool)=>
 (f32_l1 t0 d n (i64.wrap (c+1)))) λe=>
 (idx t0.text.handlers c).bind λa=>
 (bif (((((decide (a.from_<0))||(decide (a.from_>=a.to)))||(decide (a.to>(t0.text.insns.length:Int))))||(!(f47 t0 a.at_)))||(f50 a a.at_)) then some false else aS (bX t0.text.handlers 0 c)<|
 (f32_l2 t0 c e a (Int.toNat ((List.length (bu t0.text.handlers 0 c):Int) - 0)+1) 0)) else(d ()))
def f32(t0:bI):oB:=
 (bif (decide ((t0.text.handlers.length:Int)>4096)) then some false else aq (λ(_:Unit)=>
 some true) λa=>
 (f32_l1 t0 a (Int.toNat ((t0.text.handlers.length:Int) - 0)+1) 0))
def f97(x0:aJ)(a:Int):Bool:=
 ((((decide (x0.op=29))||(decide (x0.op=30)))||(decide (x0.op=31)))&&(decide (x0.to=a)))
def f33_l1(t0:bI)(e:(List (Int×Bool))->oB):Nat->Int->(List (Int×Bool))->oB
 |0,_,_=>none
 |n+1,c,d=>
 (bif (decide (c<(t0.text.loops.length:Int))) then (idx t0.text.loops c).bind λa=>
 (bif ((((decide (a.head<0))||(decide (a.head>a.back)))||(!(f47 t0 a.back)))||(Option.getD (dv d a.back) false)) then some true else((idx t0.text.insns a.back).bind λf=>some (!(f97 f a.head)))).bind λg=>
 (bif ((g||(decide (a.bound<0)))||(decide (a.bound>2147483647))) then some false else(f33_l1 t0 e n (i64.wrap (c+1)) (cm d a.back true))) else(e d))
def f33(t0:bI):oB:=
 (bif (decide ((t0.text.loops.length:Int)>4096)) then some false else aq (λ(c:List (Int×Bool))=>
 some true) λa=>
 (f33_l1 t0 a (Int.toNat ((t0.text.loops.length:Int) - 0)+1) 0 ([]:List (Int×Bool))))
def f61(t0:bI)(a1:Int):oB:=
 (bif (f47 t0 a1) then((idx t0.text.insns a1).bind λa=>(bif (decide (a.op=27)) then some true else((idx t0.text.insns a1).bind λc=>some (decide (c.op=28)))).bind λd=>some d) else some false).bind λe=>
 some e
def f34_l1(t0:bI)(d:Unit->oB):Nat->Int->Int->oB
 |0,_,_=>none
 |n+1,e,c=>
 (bif (decide (c<(t0.text.checks.length:Int))) then (idx t0.text.checks c).bind λa=>
 (bif (decide (a.at_<=e)) then some true else((f61 t0 a.at_).bind λf=>some (!f))).bind λg=>
 (bif ((g||(decide (a.kind<1)))||(decide (a.kind>5))) then some false else(f34_l1 t0 d n a.at_ (i64.wrap (c+1)))) else(d ()))
def f34(t0:bI):oB:=
 aq (λ(_:Unit)=>
 some true) λa=>
 (f34_l1 t0 a (Int.toNat ((t0.text.checks.length:Int) - 0)+1) (-1) 0)
def f98_l1(s0:lN)(c:aJ->oB)(d:Unit->Option (Int)):Nat->Int->Option (Int)
 |0,_=>none
 |n+1,a=>
 (bif (decide (a<(s0.length:Int))) then (idx s0 a).bind λe=>
 (c e).bind λf=>
 (bif f then some a else(f98_l1 s0 c d n (i64.wrap (a+1)))) else(d ()))
def f98(s0:lN)(a:aJ->oB):Option Int:=
 aq (λ(_:Unit)=>
 some (-1)) λc=>
 (f98_l1 s0 a c (Int.toNat ((s0.length:Int) - 0)+1) 0)
def f35(s0:lN)(a:aJ->oB):oB:=
 (f98 s0 a).bind λc=>
 some (decide (c>=0))
def f158(o0:Int):Option (gB×Bool):=
 (bif ((decide (o0<1))||(decide ((i64.wrap o0)>57))) then some ((gB.mk ByteArray.empty ByteArray.empty),false) else (idx iS (IntKind.u8.wrap (o0 - 1))).bind λa=>
 some (a,true))
def f186_l1(s0:ByteArray)(c:Int->Int->Option (List ByteArray)):Nat->Int->Int->Int->Int->Option (List ByteArray)
 |0,_,_,_,_=>none
 |n+1,d,wasSpace116,setBits117,a=>
 (bif (decide (a<(s0.size:Int))) then (eU s0 a).bind λe=>
 (idx dx e).bind λf=>
 (f186_l1 s0 c n (i64.wrap (d+(i64.wrap (BitVec.ofInt i64.bits wasSpace116&&&BitVec.ofInt i64.bits (i64.wrap (BitVec.ofInt i64.bits (-1)^^^BitVec.ofInt i64.bits (i64.wrap f)).toNat)).toNat))) (i64.wrap f) (IntKind.u8.wrap (BitVec.ofInt IntKind.u8.bits setBits117|||BitVec.ofInt IntKind.u8.bits e).toNat) (i64.wrap (a+1))) else(c d setBits117))
def f186_l2(s0:ByteArray)(c:Int->Option (List ByteArray)):Nat->Int->Option (List ByteArray)
 |0,_=>none
 |n+1,a=>
 (bif (decide (a<(s0.size:Int))) then((eU s0 a).bind λd=>(idx dx d).bind λe=>some (!decide (e=0))) else some false).bind λf=>
 (bif f then(f186_l2 s0 c n (i64.wrap (a+1))) else(c a))
def f186_l4(s0:ByteArray)(c:Int->Option (List ByteArray)):Nat->Int->Option (List ByteArray)
 |0,_=>none
 |na+1,a=>
 (bif (decide (a<(s0.size:Int))) then((eU s0 a).bind λd=>(idx dx d).bind λe=>some (!decide (e=0))) else some false).bind λf=>
 (bif f then(f186_l4 s0 c na (i64.wrap (a+1))) else(c a))
def f186_l3(s0:ByteArray)(e:Int->Int->(List ByteArray)->Option (List ByteArray)):Nat->Int->Int->Int->(List ByteArray)->Option (List ByteArray)
 |0,_,_,_,_=>none
 |n+1,a,fieldStart143,c,d=>
 (bif (decide (c<(s0.size:Int))) then aq (λ(h:Int)(fieldStart151:Int)(j:Int)(k:List ByteArray)=>
 (f186_l3 s0 e n h fieldStart151 j k)) λf=>
 (eU s0 c).bind λm=>
 (idx dx m).bind λp=>
 (bif (decide (p=0)) then(f a fieldStart143 (i64.wrap (c+1)) d) else (rB s0 fieldStart143 c).bind λr=>
 (idx d a).bind λw=>
 aq (λ(g:Int)=>
 (f (i64.wrap (a+1)) g g (List.set d a.toNat r))) λt=>
 (f186_l4 s0 t 9223372036854775808 (i64.wrap (c+1)))) else(e a fieldStart143 d))
def f186(s0:ByteArray):Option (List ByteArray):=
 aq (λ(c:Int)(setBits109:Int)=>
 (bif (decide (setBits109>=128)) then none else aS (dP 16 c)<|
 aq (λ(d:Int)=>
 aq (λ(e:Int)(fieldStart135:Int)(a:List ByteArray)=>
 aq (λ(g:List ByteArray)=>
 some g) λf=>
 (bif (decide (fieldStart135<(s0.size:Int))) then (rB s0 fieldStart135 (s0.size:Int)).bind λh=>
 (idx a e).bind λp=>
 (f (List.set a e.toNat h)) else(f a))) λj=>
 (f186_l3 s0 j 9223372036854775808 0 d d (List.replicate c.toNat (ByteArray.empty:ByteArray)))) λk=>
 (f186_l2 s0 k 9223372036854775808 0))) λm=>
 (f186_l1 s0 m 9223372036854775808 0 1 0 0)
def f189(a:Int):Int×Int:=
 (bif (decide (a=114)) then(0,15) else(bif (decide (a=111)) then(0,4095) else(bif (decide (a=115)) then(0,65535) else(bif (decide (a=108)) then(1,65536) else(bif (decide (a=120)) then(1,64) else(bif (decide (a=107)) then(6,7) else(bif (decide (a=101)) then(0,7) else(bif (decide (a=112)) then(0,31) else(bif (decide (a=113)) then((-1),31) else(bif (decide (a=109)) then(0,3) else(bif (decide (a=106)) then(0,1023) else(bif (decide (a=98)) then(0,1) else((-9223372036854775808),9223372036854775807)))))))))))))
def f99_l1(e:Int->Int->Int->Int->Int->Int->ByteArray->ByteArray->Int->Int->Int->Int->oB)(f:Int->Int->Int->Int->Int->Int->ByteArray->ByteArray->Int->Int->Int->Int->oB)(g:Int->Int->Int->Int->Int->Int->ByteArray->ByteArray->Int->Int->Int->Int->oB)(h:Int->Int->Int->Int->Int->Int->ByteArray->ByteArray->Int->Int->Int->Int->oB)(j:Int->Int->Int->Int->Int->Int->ByteArray->ByteArray->Int->Int->Int->Int->oB)(k:Int->Int->Int->Int->Int->Int->ByteArray->ByteArray->Int->Int->Int->Int->oB)(m:Int->Int->Int->Int->Int->Int->ByteArray->ByteArray->oB)(a:gB×Bool)(c:List ByteArray):Nat->Int->Int->Int->Int->Int->Int->Int->oB
 |0,_,_,_,_,_,_,_=>none
 |n+1,d,c21v178,c22v179,c23v180,c24v181,c25v182,c26v183=>
 (bif (decide (d<(c.length:Int))) then (idx c d).bind λp=>
 (eU p 0).bind λB=>
 (bif (decide (B=68)) then aq (λ(_:Unit)=>
 (eU p 1).bind λr=>
 aq (λ(_:Unit)=>
 (e c21v178 c22v179 c23v180 c24v181 c25v182 c26v183 a.1.name a.1.fields ((f189 r).1) ((f189 r).2) ((f189 r).1) ((f189 r).2))) λC=>
 aq (λ(_:Unit)=>
 (f99_l1 e f g h j k m a c n (i64.wrap (d+1)) 0 c22v179 c23v180 c24v181 c25v182 c26v183)) λE=>
 aq (λ(_:Unit)=>
 (bif ((decide (c21v178<((f189 r).1)))||(decide (c21v178>((f189 r).2)))) then(C ()) else aq (λ(_:Unit)=>
 (E ())) λF=>
 (F ()))) λG=>
 (G ())) λH=>
 (H ()) else(bif (decide (B=65)) then aq (λ(_:Unit)=>
 (eU p 1).bind λt=>
 aq (λ(_:Unit)=>
 (f c21v178 c22v179 c23v180 c24v181 c25v182 c26v183 a.1.name a.1.fields ((f189 t).1) ((f189 t).2) ((f189 t).1) ((f189 t).2))) λI=>
 aq (λ(_:Unit)=>
 (f99_l1 e f g h j k m a c n (i64.wrap (d+1)) c21v178 0 c23v180 c24v181 c25v182 c26v183)) λJ=>
 aq (λ(_:Unit)=>
 (bif ((decide (c22v179<((f189 t).1)))||(decide (c22v179>((f189 t).2)))) then(I ()) else aq (λ(_:Unit)=>
 (J ())) λK=>
 (K ()))) λL=>
 (L ())) λM=>
 (M ()) else(bif (decide (B=66)) then aq (λ(_:Unit)=>
 (eU p 1).bind λw=>
 aq (λ(_:Unit)=>
 (g c21v178 c22v179 c23v180 c24v181 c25v182 c26v183 a.1.name a.1.fields ((f189 w).1) ((f189 w).2) ((f189 w).1) ((f189 w).2))) λN=>
 aq (λ(_:Unit)=>
 (f99_l1 e f g h j k m a c n (i64.wrap (d+1)) c21v178 c22v179 0 c24v181 c25v182 c26v183)) λO=>
 aq (λ(_:Unit)=>
 (bif ((decide (c23v180<((f189 w).1)))||(decide (c23v180>((f189 w).2)))) then(N ()) else aq (λ(_:Unit)=>
 (O ())) λP=>
 (P ()))) λQ=>
 (Q ())) λR=>
 (R ()) else(bif (decide (B=78)) then aq (λ(_:Unit)=>
 (eU p 1).bind λx=>
 aq (λ(_:Unit)=>
 (h c21v178 c22v179 c23v180 c24v181 c25v182 c26v183 a.1.name a.1.fields ((f189 x).1) ((f189 x).2) ((f189 x).1) ((f189 x).2))) λS=>
 aq (λ(_:Unit)=>
 (f99_l1 e f g h j k m a c n (i64.wrap (d+1)) c21v178 c22v179 c23v180 0 c25v182 c26v183)) λT=>
 aq (λ(_:Unit)=>
 (bif ((decide (c24v181<((f189 x).1)))||(decide (c24v181>((f189 x).2)))) then(S ()) else aq (λ(_:Unit)=>
 (T ())) λU=>
 (U ()))) λV=>
 (V ())) λW=>
 (W ()) else(bif (decide (B=77)) then aq (λ(_:Unit)=>
 (eU p 1).bind λy=>
 aq (λ(_:Unit)=>
 (j c21v178 c22v179 c23v180 c24v181 c25v182 c26v183 a.1.name a.1.fields ((f189 y).1) ((f189 y).2) ((f189 y).1) ((f189 y).2))) λX=>
 aq (λ(_:Unit)=>
 (f99_l1 e f g h j k m a c n (i64.wrap (d+1)) c21v178 c22v179 c23v180 c24v181 0 c26v183)) λY=>
 aq (λ(_:Unit)=>
 (bif ((decide (c25v182<((f189 y).1)))||(decide (c25v182>((f189 y).2)))) then(X ()) else aq (λ(_:Unit)=>
 (Y ())) λZ=>
 (Z ()))) λad=>
 (ad ())) λag=>
 (ag ()) else aq (λ(_:Unit)=>
 (eU p 1).bind λA=>
 aq (λ(_:Unit)=>
 (k c21v178 c22v179 c23v180 c24v181 c25v182 c26v183 a.1.name a.1.fields ((f189 A).1) ((f189 A).2) ((f189 A).1) ((f189 A).2))) λal=>
 aq (λ(_:Unit)=>
 (f99_l1 e f g h j k m a c n (i64.wrap (d+1)) c21v178 c22v179 c23v180 c24v181 c25v182 0)) λa0=>
 aq (λ(_:Unit)=>
 (bif ((decide (c26v183<((f189 A).1)))||(decide (c26v183>((f189 A).2)))) then(al ()) else aq (λ(_:Unit)=>
 (a0 ())) λa1=>
 (a1 ()))) λa6=>
 (a6 ())) λa7=>
 (a7 ())))))) else(m c21v178 c22v179 c23v180 c24v181 c25v182 c26v183 a.1.name a.1.fields))
def f99(x0:aJ):oB:=
 (f158 x0.op).bind λf=>
 (bif ((!f.2)||((decide (x0.op=27))&&(decide (x0.n>x0.m)))) then some false else(bif (((decide (x0.op=37))&&(decide ((IntKind.u8.wrap x0.n)=6)))&&(!decide (x0.m=0))) then some false else aq (λ(c21v69:Int)(c22v70:Int)(c23v71:Int)(c24v72:Int)(c25v73:Int)(c26v74:Int)(c50v75:ByteArray)(c51v76:ByteArray)=>
 some (((decide (x0.op=x0.op))&&((decide (c21v69=0))&&((decide (c22v70=0))&&((decide (c23v71=0))&&((decide (c24v72=0))&&((decide (c25v73=0))&&((decide (c26v74=0))&&true))))))))) λg=>
 aq (λ(_:Unit)=>
 aq (λ(c21v81:Int)(c22v82:Int)(c23v83:Int)(c24v84:Int)(c25v85:Int)(c26v86:Int)(c50v87:ByteArray)(c51v88:ByteArray)(c62v89:Int)(c63v90:Int)(c92v91:Int)(c93v92:Int)=>
 some false) λh=>
 aq (λ(c21v94:Int)(c22v95:Int)(c23v96:Int)(c24v97:Int)(c25v98:Int)(c26v99:Int)(c50v100:ByteArray)(c51v101:ByteArray)(c62v102:Int)(c63v103:Int)(c92v104:Int)(c93v105:Int)=>
 some false) λj=>
 aq (λ(c21v107:Int)(c22v108:Int)(c23v109:Int)(c24v110:Int)(c25v111:Int)(c26v112:Int)(c50v113:ByteArray)(c51v114:ByteArray)(c62v115:Int)(c63v116:Int)(c92v117:Int)(c93v118:Int)=>
 some false) λk=>
 aq (λ(c21v120:Int)(c22v121:Int)(c23v122:Int)(c24v123:Int)(c25v124:Int)(c26v125:Int)(c50v126:ByteArray)(c51v127:ByteArray)(c62v128:Int)(c63v129:Int)(c92v130:Int)(c93v131:Int)=>
 some false) λp=>
 aq (λ(c21v133:Int)(c22v134:Int)(c23v135:Int)(c24v136:Int)(c25v137:Int)(c26v138:Int)(c50v139:ByteArray)(c51v140:ByteArray)(c62v141:Int)(c63v142:Int)(c92v143:Int)(c93v144:Int)=>
 some false) λr=>
 aq (λ(c21v146:Int)(c22v147:Int)(c23v148:Int)(c24v149:Int)(c25v150:Int)(c26v151:Int)(c50v152:ByteArray)(c51v153:ByteArray)(c62v154:Int)(c63v155:Int)(c92v156:Int)(c93v157:Int)=>
 some false) λt=>
 aq (λ(c21v159:Int)(c22v160:Int)(c23v161:Int)(c24v162:Int)(c25v163:Int)(c26v164:Int)(c50v165:ByteArray)(c51v166:ByteArray)=>
 (g c21v159 c22v160 c23v161 c24v162 c25v163 c26v164 c50v165 c51v166)) λw=>
 (f158 x0.op).bind λc=>
 (f186 c.1.fields).bind λe=>
 (f99_l1 h j k p r t w c e (Int.toNat ((e.length:Int) - 0)+1) 0 x0.d x0.a x0.b x0.n x0.m x0.to)) λx=>
 (x ())))
def f100(y0:aJ):Bool:=
 (!decide (y0.op=29))
def f101(t0:bI)(a:Int)(n2:Int):Option (Int×Bool):=
 (bif (((decide (a<0))||(decide (a>=(t0.text.tasks.length:Int))))||(decide (n2<0))) then some true else((idx t0.text.tasks a).bind λd=>some (decide (n2>=(d.entries.length:Int))))).bind λe=>
 (bif e then some (0,false) else (idx t0.text.tasks a).bind λf=>
 (idx f.entries n2).bind λc=>
 some ((i64.wrap ((i64.wrap ((c.ins.length:Int)+(c.outs.length:Int)))+1)),true))
def f102(t0:bI)(p1:Int)(n2:Int):oB:=
 (bif (((decide (p1>=0))&&(decide (p1<(t0.text.prots.length:Int))))&&(decide (n2>=0))) then((idx t0.text.prots p1).bind λa=>some (decide (n2<(a.barriers.length:Int)))) else some false).bind λc=>
 some c
def f37(t0:bI)(x1:aJ):oB:=
 (f99 x1).bind λj=>
 (bif (!j) then some false else aq (λ(k:Bool)=>
 (bif k then (f89 t0 x1.n x1.m 1).bind λp=>
 some p else aq (λ(r:Bool)=>
 (bif r then (f89 t0 x1.n x1.m x1.b).bind λt=>
 some t else aq (λ(w:Bool)=>
 (bif w then some (f47 t0 x1.to) else(bif (decide (x1.op=32)) then (bif (decide ((i64.wrap (x1.to+x1.m))<=(t0.text.insns.length:Int))) then(aS (bX t0.text.insns x1.to (i64.wrap (x1.to+x1.m)))<|(f35 (bu t0.text.insns x1.to (i64.wrap (x1.to+x1.m))) (λz0=>some (f100 z0))).bind λx=>some (!x)) else some false).bind λy=>
 some y else(bif (decide (x1.op=33)) then some (decide (x1.n<=t0.text.excs)) else aq (λ(A:Bool)=>
 (bif A then some (decide (x1.n<(t0.text.lists.length:Int))) else(bif (decide (x1.op=50)) then some (decide (x1.n<(t0.text.selects.length:Int))) else(bif (decide (x1.op=49)) then (f101 t0 x1.a x1.b).bind λe=>
 (bif e.2 then((f89 t0 x1.n 0 e.1).bind λB=>some B) else some false).bind λC=>
 some C else(bif (decide (x1.op=52)) then (f101 t0 x1.a x1.b).bind λE=>
 some (E.2&&(decide (x1.to<(t0.text.insns.length:Int)))) else aq (λ(F:Bool)=>
 (bif F then some (decide (x1.n<(t0.text.prots.length:Int))) else(bif (decide (x1.op=54)) then (f102 t0 x1.n x1.m).bind λG=>
 some G else(bif (decide (x1.op=43)) then (bif (decide (x1.m<0)) then some true else((f102 t0 x1.m x1.n).bind λH=>some H)).bind λI=>
 some I else some true)))) λf=>
 (bif (decide (x1.op=53)) then(f (decide (x1.op=53))) else(f (decide (x1.op=55))))))))) λc=>
 (bif (decide (x1.op=44)) then(c (decide (x1.op=44))) else(bif (decide (x1.op=45)) then(c (decide (x1.op=45))) else(bif (decide (x1.op=46)) then(c (decide (x1.op=46))) else(c (decide (x1.op=56)))))))))) λd=>
 (bif (decide (x1.op=29)) then(d (decide (x1.op=29))) else(bif (decide (x1.op=30)) then(d (decide (x1.op=30))) else(d (decide (x1.op=31))))))) λg=>
 (bif (decide (x1.op=5)) then(g (decide (x1.op=5))) else(g (decide (x1.op=6)))))) λh=>
 (bif (decide (x1.op=3)) then(h (decide (x1.op=3))) else(h (decide (x1.op=4)))))
def f10_l1(t0:aC)(c:Int->oB)(d:Unit->oB):Nat->Int->oB
 |0,_=>none
 |n+1,a=>
 (bif (decide (a<(t0.insns.length:Int))) then (idx t0.insns a).bind λe=>
 aq (λ(f:Bool)=>
 (bif f then(c a) else(f10_l1 t0 c d n (i64.wrap (a+1))))) λg=>
 (f37 (bI.mk t0) e).bind λh=>
 (g (!h)) else(d ()))
def f10(t0:aC):oB:=
 (bif ((decide ((t0.insns.length:Int)<1))||(decide ((t0.insns.length:Int)>65536))) then some false else (idx t0.insns (i64.wrap ((t0.insns.length:Int) - 1))).bind λa=>
 aq (λ(e:Bool)=>
 (bif e then aq (λ(_:Unit)=>
 aq (λ(f:Bool)=>
 some (!f)) λg=>
 aq (λ(h:Int)=>
 (g (decide (h>=0)))) λd=>
 aq (λ(_:Unit)=>
 (d (-1))) λj=>
 (f10_l1 t0 d j (Int.toNat ((t0.insns.length:Int) - 0)+1) 0)) λk=>
 (f27 (bI.mk t0)).bind λm=>
 (bif (!m) then some false else (f28 (bI.mk t0)).bind λp=>
 (bif (!p) then some false else (f29 (bI.mk t0)).bind λr=>
 (bif (!r) then some false else (f30 (bI.mk t0)).bind λt=>
 (bif (!t) then some false else (f31 (bI.mk t0)).bind λw=>
 (bif (!w) then some false else (f32 (bI.mk t0)).bind λx=>
 (bif (!x) then some false else (f33 (bI.mk t0)).bind λy=>
 (bif (!y) then some false else (f34 (bI.mk t0)).bind λA=>
 (bif (!A) then some false else(k ()))))))))) else some false)) λc=>
 (bif (decide (a.op=29)) then(c (decide (a.op=29))) else(bif (decide (a.op=33)) then(c (decide (a.op=33))) else(bif (decide (a.op=34)) then(c (decide (a.op=34))) else(c (decide (a.op=57)))))))
def f175_l1(d:lI->Option lI):Nat->Int->Int->lI->Option lI
 |0,_,_,_=>none
 |n+1,a,e,c=>
 (bif (decide (e<8)) then aS (gA 1 c [(IntKind.u8.wrap (Int.tmod a 256))])<|
 (f175_l1 d n (IntKind.u64.wrap (Int.tdiv a 256)) (i64.wrap (e+1)) (c++ [(IntKind.u8.wrap (Int.tmod a 256))])) else(d c))
def f175(v0:Int):Option lI:=
 aq (λ(a:lI)=>
 some a) λc=>
 (f175_l1 c 9223372036854775808 (IntKind.u64.wrap v0) 0 [])
def f143(l:lI)(v1:Int):Option lI:=
 (f175 v1).bind λa=>
 aS (gA 1 l a)<|
 some (l++a)
def f176_l1(l1:lI):Nat->Int->lI->Option lI
 |0,_,_=>none
 |n+1,a,c=>
 (bif (decide (a<(l1.length:Int))) then (idx l1 a).bind λd=>
 (f143 c d).bind λe=>
 (f176_l1 l1 n (i64.wrap (a+1)) e) else some c)
def f176(l:lI)(l1:lI):Option lI:=
 (f176_l1 l1 9223372036854775808 0 l)
def f177(l:lI)(a:Bool):Option lI:=
 (bif a then (f143 l 1).bind λc=>
 some c else (f143 l 0).bind λd=>
 some d)
def f178(l:lI)(l1:lI):Option lI:=
 (f176 l [(l1.length:Int)]).bind λa=>
 (f176 a l1).bind λc=>
 some c
def f144_l1(t1:aC)(f:lI->Option lI):Nat->Int->lI->Option lI
 |0,_,_=>none
 |n+1,e,g=>
 (bif (decide (e<(t1.insns.length:Int))) then (idx t1.insns e).bind λc=>
 (f176 g [(i64.wrap c.op),c.d,c.a,c.b]).bind λh=>
 (f143 h c.n).bind λj=>
 (f143 j c.m).bind λk=>
 (f176 k [c.to]).bind λp=>
 (f144_l1 t1 f n (i64.wrap (e+1)) p) else(f g))
def f144_l2(t1:aC)(c:lI->Option lI):Nat->Int->lI->Option lI
 |0,_,_=>none
 |n+1,a,d=>
 (bif (decide (a<(t1.handlers.length:Int))) then (idx t1.handlers a).bind λe=>
 (idx t1.handlers a).bind λf=>
 (idx t1.handlers a).bind λg=>
 (f176 d [e.from_,f.to,g.at_]).bind λh=>
 (idx t1.handlers a).bind λj=>
 (f177 h j.clean).bind λk=>
 (f144_l2 t1 c n (i64.wrap (a+1)) k) else(c d))
def f144_l3(t1:aC)(c:lI->Option lI):Nat->Int->lI->Option lI
 |0,_,_=>none
 |n+1,a,d=>
 (bif (decide (a<(t1.loops.length:Int))) then (idx t1.loops a).bind λe=>
 (idx t1.loops a).bind λf=>
 (f176 d [e.head,f.back]).bind λg=>
 (idx t1.loops a).bind λh=>
 (f143 g h.bound).bind λj=>
 (f144_l3 t1 c n (i64.wrap (a+1)) j) else(c d))
def f144_l5(c:az)(e:lI->Option lI):Nat->Int->lI->Option lI
 |0,_,_=>none
 |na+1,d,f=>
 (bif (decide (d<(c.alts.length:Int))) then (idx c.alts d).bind λa=>
 (f176 f [(i64.wrap a.kind),a.entry,a.guard,a.time,a.at_]).bind λg=>
 (f144_l5 c e na (i64.wrap (d+1)) g) else(e f))
def f144_l4(t1:aC)(d:lI->Option lI):Nat->Int->lI->Option lI
 |0,_,_=>none
 |n+1,c,e=>
 (bif (decide (c<(t1.selects.length:Int))) then aq (λ(f:lI)(c60v284:List be)(c61v285:Int)(c62v286:Int)=>
 (f144_l4 t1 d n (i64.wrap (c+1)) f)) λg=>
 (idx t1.selects c).bind λa=>
 (f176 e [(a.alts.length:Int)]).bind λh=>
 aq (λ(j:lI)=>
 (f176 j [a.obj,a.else_]).bind λk=>
 (g k a.alts a.obj a.else_)) λm=>
 (f144_l5 a m 9223372036854775808 0 h) else(d e))
def f144_l6(t1:aC):Nat->Int->lI->Option lI
 |0,_,_=>none
 |n+1,a,c=>
 (bif (decide (a<(t1.lists.length:Int))) then (idx t1.lists a).bind λd=>
 (f178 c d).bind λe=>
 (f144_l6 t1 n (i64.wrap (a+1)) e) else some c)
def f144(l:lI)(t1:aC):Option lI:=
 (f176 l [(t1.insns.length:Int)]).bind λa=>
 aq (λ(c:lI)=>
 (f176 c [(t1.handlers.length:Int)]).bind λd=>
 aq (λ(e:lI)=>
 (f176 e [(t1.loops.length:Int)]).bind λf=>
 aq (λ(g:lI)=>
 (f176 g [(t1.selects.length:Int)]).bind λh=>
 aq (λ(j:lI)=>
 (f176 j [(t1.lists.length:Int)]).bind λk=>
 (f144_l6 t1 9223372036854775808 0 k)) λm=>
 (f144_l4 t1 m 9223372036854775808 0 h)) λp=>
 (f144_l3 t1 p 9223372036854775808 0 f)) λr=>
 (f144_l2 t1 r 9223372036854775808 0 d)) λt=>
 (f144_l1 t1 t 9223372036854775808 0 a)
def f179s_l1(c:lI->ae->Option lI)(l:lI)(e1:ae):Nat->Int->lI->Option lI
 |0,_,_=>none
 |n+1,a,d=>
 (bif (decide (a<(e1.l.length:Int))) then (idx e1.l a).bind λe=>
 (c d e).bind λf=>
 (f179s_l1 c l e1 n (i64.wrap (a+1)) f) else some d)
def f179s(a:lI->ae->Option lI)(l:lI)(e1:ae):Option lI:=
 (f176 l [(i64.wrap e1.kind),(i64.wrap e1.op)]).bind λc=>
 (f143 c e1.n).bind λd=>
 (f176 d [e1.o,e1.off,e1.len]).bind λe=>
 (f143 e e1.lo).bind λf=>
 (f143 f e1.hi).bind λg=>
 (f176 g [(e1.l.length:Int)]).bind λh=>
 (f179s_l1 a l e1 9223372036854775808 0 h)
def f179:Nat->lI->ae->Option lI
 |0=>λ_ _=>none
 |n+1=>f179s (f179 n)
def f145_l1(t1:aC)(d:lI->Option lI):Nat->Int->lI->Option lI
 |0,_,_=>none
 |n+1,c,e=>
 (bif (decide (c<(t1.objs.length:Int))) then (idx t1.objs c).bind λa=>
 (f176 e [a.size]).bind λf=>
 (f143 f a.lo).bind λg=>
 (f143 g a.hi).bind λh=>
 (f177 h a.ptr).bind λj=>
 (f178 j a.set_).bind λk=>
 (f145_l1 t1 d n (i64.wrap (c+1)) k) else(d e))
def f145_l2(t1:aC)(c:lI->Option lI):Nat->Int->lI->Option lI
 |0,_,_=>none
 |n+1,a,d=>
 (bif (decide (a<(t1.inits.length:Int))) then (idx t1.inits a).bind λe=>
 (idx t1.inits a).bind λf=>
 (f176 d [e.o,f.slot]).bind λg=>
 (idx t1.inits a).bind λh=>
 (f143 g h.v).bind λj=>
 (f145_l2 t1 c n (i64.wrap (a+1)) j) else(c d))
def f145_l4(a:aK)(d:lI->Option lI):Nat->Int->lI->Option lI
 |0,_,_=>none
 |na+1,c,e=>
 (bif (decide (c<(a.entries.length:Int))) then (idx a.entries c).bind λf=>
 (f178 e f.ins).bind λg=>
 (idx a.entries c).bind λh=>
 (f178 g h.outs).bind λj=>
 (f145_l4 a d na (i64.wrap (c+1)) j) else(d e))
def f145_l3(t1:aC)(d:lI->Option lI):Nat->Int->lI->Option lI
 |0,_,_=>none
 |n+1,c,e=>
 (bif (decide (c<(t1.tasks.length:Int))) then aq (λ(f:lI)(c50v280:Int)(c51v281:Int)(c52v282:List aB)(c53v283:Int)=>
 (f145_l3 t1 d n (i64.wrap (c+1)) f)) λg=>
 (idx t1.tasks c).bind λa=>
 (f176 e [a.prio,a.at_,(a.entries.length:Int)]).bind λh=>
 aq (λ(j:lI)=>
 (f143 j a.deadline).bind λk=>
 (g k a.prio a.at_ a.entries a.deadline)) λm=>
 (f145_l4 a m 9223372036854775808 0 h) else(d e))
def f145_l6(t1:aC)(a:Int)(d:lI->Option lI):Nat->Int->lI->Option lI
 |0,_,_=>none
 |na+1,c,e=>
 (idx t1.prots a).bind λf=>
 (bif (decide (c<(f.barriers.length:Int))) then (idx t1.prots a).bind λg=>
 (idx g.barriers c).bind λh=>
 (f179 9223372036854775808 e h).bind λj=>
 (f145_l6 t1 a d na (i64.wrap (c+1)) j) else(d e))
def f145_l5(t1:aC)(c:lI->Option lI):Nat->Int->lI->Option lI
 |0,_,_=>none
 |n+1,a,d=>
 (bif (decide (a<(t1.prots.length:Int))) then aq (λ(e:lI)=>
 (f145_l5 t1 c n (i64.wrap (a+1)) e)) λf=>
 (idx t1.prots a).bind λg=>
 (idx t1.prots a).bind λh=>
 (f176 d [g.ceiling,(h.barriers.length:Int)]).bind λj=>
 (f145_l6 t1 a f 9223372036854775808 0 j) else(c d))
def f145_l7(t1:aC):Nat->Int->lI->Option lI
 |0,_,_=>none
 |n+1,a,c=>
 (bif (decide (a<(t1.checks.length:Int))) then (idx t1.checks a).bind λd=>
 (idx t1.checks a).bind λe=>
 (f176 c [d.at_,(i64.wrap e.kind)]).bind λf=>
 (f145_l7 t1 n (i64.wrap (a+1)) f) else some c)
def f145(l:lI)(t1:aC):Option lI:=
 (f176 l [(t1.objs.length:Int)]).bind λa=>
 aq (λ(c:lI)=>
 (f176 c [(t1.inits.length:Int)]).bind λd=>
 aq (λ(e:lI)=>
 (f176 e [t1.excs,(t1.tasks.length:Int)]).bind λf=>
 aq (λ(g:lI)=>
 (f176 g [(t1.prots.length:Int)]).bind λh=>
 aq (λ(j:lI)=>
 (f176 j [(t1.checks.length:Int)]).bind λk=>
 (f145_l7 t1 9223372036854775808 0 k)) λm=>
 (f145_l5 t1 m 9223372036854775808 0 h)) λp=>
 (f145_l3 t1 p 9223372036854775808 0 f)) λr=>
 (f145_l2 t1 r 9223372036854775808 0 d)) λt=>
 (f145_l1 t1 t 9223372036854775808 0 a)
def f58(t0:aC):Option lI:=
 (f143 [] 958023).bind λa=>
 (f144 a t0).bind λc=>
 (f145 c t0).bind λd=>
 some d
def f19(a0:aC)(b1:aC):oB:=
 (f58 a0).bind λa=>
 aS (iY a)<|
 (f58 b1).bind λc=>
 aS (iY c)<|
 some (((oQ a).toList==(oQ c).toList))
def f24s_l1(d:ae->Option (Int))(e0:ae)(e:Int->Option (Int)):Nat->Int->Int->Option (Int)
 |0,_,_=>none
 |n+1,a,c=>
 (bif ((decide (c<(e0.l.length:Int)))&&(decide (a<400))) then (idx e0.l c).bind λf=>
 (d f).bind λg=>
 (f24s_l1 d e0 e n (i64.wrap (a+g)) (i64.wrap (c+1))) else(e a))
def f24s(a:ae->Option (Int))(e0:ae):Option Int:=
 aq (λ(c:Int)=>
 some c) λd=>
 (f24s_l1 a e0 d 9223372036854775808 1 0)
def f24:Nat->ae->Option (Int)
 |0=>λ_=>none
 |n+1=>f24s (f24 n)
mutual
def pE:ae->Nat
 | .mk _ _ _ _ _ _ _ _ l=>depL l+1
def depL:List ae->Nat
 |[]=>0
 |e::l=>max (pE e) (depL l)
end
def f24w(x0:ae):Option Int:=f24 (pE x0) x0
def f8_l1(t0:aC)(c:Int->oB):Nat->Int->Int->oB
 |0,_,_=>none
 |n+1,d,a=>
 (bif (decide (a<(t0.selects.length:Int))) then (idx t0.selects a).bind λe=>
 (f8_l1 t0 c n (i64.wrap (d+(e.alts.length:Int))) (i64.wrap (a+1))) else(c d))
def f8_l2(t0:aC)(c:Int->oB):Nat->Int->Int->oB
 |0,_,_=>none
 |n+1,d,a=>
 (bif (decide (a<(t0.lists.length:Int))) then (idx t0.lists a).bind λe=>
 (f8_l2 t0 c n (i64.wrap (d+(e.length:Int))) (i64.wrap (a+1))) else(c d))
def f8_l3(t0:aC)(d:Int->oB):Nat->Int->Int->oB
 |0,_,_=>none
 |n+1,e,a=>
 (bif (decide (a<(t0.objs.length:Int))) then (idx t0.objs a).bind λf=>
 (idx t0.objs a).bind λc=>
 (f8_l3 t0 d n (i64.wrap ((i64.wrap (e+(f.set_.length:Int)))+(if(i64.wrap (Int.tdiv (if 40000<c.size then 40000 else c.size) 20))>0 then(i64.wrap (Int.tdiv (if 40000<c.size then 40000 else c.size) 20)) else 0))) (i64.wrap (a+1))) else(d e))
def f8_l5(t0:aC)(c:Int)(d:Int->oB):Nat->Int->Int->oB
 |0,_,_=>none
 |na+1,e,a=>
 (idx t0.tasks c).bind λf=>
 (bif ((decide (a<(f.entries.length:Int)))&&(decide (a<100))) then (idx t0.tasks c).bind λg=>
 (idx g.entries a).bind λh=>
 (idx t0.tasks c).bind λj=>
 (idx j.entries a).bind λk=>
 (f8_l5 t0 c d na (i64.wrap ((i64.wrap ((i64.wrap (e+(h.ins.length:Int)))+(k.outs.length:Int)))+1)) (i64.wrap (a+1))) else(d e))
def f8_l4(t0:aC)(d:Int->oB):Nat->Int->Int->oB
 |0,_,_=>none
 |n+1,c,a=>
 (bif ((decide (a<(t0.tasks.length:Int)))&&(decide (c<=3000))) then aq (λ(e:Int)=>
 (f8_l4 t0 d n e (i64.wrap (a+1)))) λf=>
 aq (λ(g:Int)=>
 (idx t0.tasks a).bind λh=>
 (f (i64.wrap (g+(h.entries.length:Int))))) λj=>
 (f8_l5 t0 a j 9223372036854775808 c 0) else(d c))
def f8_l7(t0:aC)(c:Int)(e:Int->oB):Nat->Int->Int->oB
 |0,_,_=>none
 |na+1,d,a=>
 (idx t0.prots c).bind λf=>
 (bif (((decide (a<(f.barriers.length:Int)))&&(decide (a<100)))&&(decide (d<=3000))) then (idx t0.prots c).bind λg=>
 (idx g.barriers a).bind λh=>
 (f24w h).bind λj=>
 (f8_l7 t0 c e na (i64.wrap (d+j)) (i64.wrap (a+1))) else(e d))
def f8_l6(t0:aC)(d:Int->oB):Nat->Int->Int->oB
 |0,_,_=>none
 |n+1,c,a=>
 (bif ((decide (a<(t0.prots.length:Int)))&&(decide (c<=3000))) then aq (λ(e:Int)=>
 (f8_l6 t0 d n e (i64.wrap (a+1)))) λf=>
 (idx t0.prots a).bind λg=>
 (f8_l7 t0 a f 9223372036854775808 (i64.wrap (c+(g.barriers.length:Int))) 0) else(d c))
def f8(t0:aC):oB:=
 (bif (decide ((i64.wrap ((i64.wrap ((i64.wrap ((i64.wrap ((i64.wrap ((i64.wrap ((i64.wrap ((i64.wrap ((i64.wrap ((t0.insns.length:Int)+(t0.handlers.length:Int)))+(t0.loops.length:Int)))+(t0.selects.length:Int)))+(t0.lists.length:Int)))+(t0.objs.length:Int)))+(t0.inits.length:Int)))+(t0.tasks.length:Int)))+(t0.prots.length:Int)))+(t0.checks.length:Int)))>500)) then some true else aq (λ(a:Int)=>
 aq (λ(c:Int)=>
 aq (λ(d:Int)=>
 aq (λ(e:Int)=>
 aq (λ(f:Int)=>
 some (decide (f>3000))) λg=>
 (f8_l6 t0 g 9223372036854775808 e 0)) λh=>
 (f8_l4 t0 h 9223372036854775808 d 0)) λj=>
 (f8_l3 t0 j 9223372036854775808 c 0)) λk=>
 (f8_l2 t0 k 9223372036854775808 a 0)) λm=>
 (f8_l1 t0 m 9223372036854775808 (i64.wrap ((i64.wrap ((i64.wrap ((i64.wrap ((i64.wrap ((i64.wrap ((i64.wrap ((i64.wrap ((i64.wrap ((t0.insns.length:Int)+(t0.handlers.length:Int)))+(t0.loops.length:Int)))+(t0.selects.length:Int)))+(t0.lists.length:Int)))+(t0.objs.length:Int)))+(t0.inits.length:Int)))+(t0.tasks.length:Int)))+(t0.prots.length:Int)))+(t0.checks.length:Int))) 0))
def f116_l1(b0:lI)(c:Int->Option (Int)):Nat->Int->Int->Option (Int)
 |0,_,_=>none
 |n+1,d,a=>
 (bif (decide (a<8)) then (idx b0 a).bind λe=>
 aS (shc (i64.wrap (8*a)))<|
 (f116_l1 b0 c n (i64.wrap (BitVec.ofInt i64.bits d|||BitVec.ofInt i64.bits (i64.wrap ((i64.wrap e)*2^min (Int.toNat (i64.wrap (8*a))) i64.bits))).toNat) (i64.wrap (a+1))) else(c d))
def f116(b0:lI):Option Int:=
 aq (λ(a:Int)=>
 some a) λc=>
 (f116_l1 b0 c (Int.toNat (8 - 0)+1) 0 0)
def f53(b:lI)(bad:Bool)(v:Int):Option (lI×Bool×Int):=
 (bif (decide ((b.length:Int)<8)) then some (b,true,v) else (f116 b).bind λa=>
 aS (bX b 8 (b.length:Int))<|
 some ((bu b 8 (b.length:Int)),bad,a))
def f131_a(b:lI)(bad:Bool)(l:lN)(k:Int):Option (lI×Bool×lN):=
 aq (λ(p:lN)(c00v34:lI)(c02v35:Bool)(c30v36:Int)=>
 aq (λ(r:lN)(c00v44:lI)(c02v45:Bool)(c40v46:Int)=>
 aq (λ(y:lN)(c00v54:lI)(c02v55:Bool)(c50v56:Int)=>
 some (c00v54,c02v55,y)) λt=>
 (idx r k).bind λA=>
 (f53 c00v44 c02v45 A.b).bind λg=>
 (idx r k).bind λc=>
 (idx (List.set r k.toNat (aJ.mk c.op c.d c.a g.2.2 c.n c.m c.to)) k).bind λB=>
 (bif (!decide (B.b=g.2.2)) then(t (List.set r k.toNat (aJ.mk c.op c.d c.a g.2.2 c.n c.m c.to)) g.1 true g.2.2) else(t (List.set r k.toNat (aJ.mk c.op c.d c.a g.2.2 c.n c.m c.to)) g.1 g.2.1 g.2.2))) λw=>
 (idx p k).bind λC=>
 (f53 c00v34 c02v35 C.a).bind λh=>
 (idx p k).bind λe=>
 (idx (List.set p k.toNat (aJ.mk e.op e.d h.2.2 e.b e.n e.m e.to)) k).bind λE=>
 (bif (!decide (E.a=h.2.2)) then(w (List.set p k.toNat (aJ.mk e.op e.d h.2.2 e.b e.n e.m e.to)) h.1 true h.2.2) else(w (List.set p k.toNat (aJ.mk e.op e.d h.2.2 e.b e.n e.m e.to)) h.1 h.2.1 h.2.2))) λx=>
 (idx l k).bind λF=>
 (f53 b bad F.d).bind λj=>
 (idx l k).bind λf=>
 (idx (List.set l k.toNat (aJ.mk f.op j.2.2 f.a f.b f.n f.m f.to)) k).bind λG=>
 (bif (!decide (G.d=j.2.2)) then(x (List.set l k.toNat (aJ.mk f.op j.2.2 f.a f.b f.n f.m f.to)) j.1 true j.2.2) else(x (List.set l k.toNat (aJ.mk f.op j.2.2 f.a f.b f.n f.m f.to)) j.1 j.2.1 j.2.2))
def f164_o(b:lI)(bad:Bool)(l:lN)(k:Int):Option (lI×Bool×lN):=
 aq (λ(g:lN)(c00v37:lI)(c02v38:Bool)(c30v39:Int)=>
 some (c00v37,c02v38,g)) λf=>
 (idx l k).bind λh=>
 (f53 b bad (i64.wrap h.op)).bind λe=>
 (idx l k).bind λc=>
 (idx (List.set l k.toNat (aJ.mk (IntKind.u8.wrap e.2.2) c.d c.a c.b c.n c.m c.to)) k).bind λj=>
 (bif (!decide ((i64.wrap j.op)=e.2.2)) then(f (List.set l k.toNat (aJ.mk (IntKind.u8.wrap e.2.2) c.d c.a c.b c.n c.m c.to)) e.1 true e.2.2) else(f (List.set l k.toNat (aJ.mk (IntKind.u8.wrap e.2.2) c.d c.a c.b c.n c.m c.to)) e.1 e.2.1 e.2.2))
def f131_t(b:lI)(bad:Bool)(l:lN)(k:Int):Option (lI×Bool×lN):=
 aq (λ(g:lN)(c00v34:lI)(c02v35:Bool)(c30v36:Int)=>
 some (c00v34,c02v35,g)) λf=>
 (idx l k).bind λh=>
 (f53 b bad h.to).bind λe=>
 (idx l k).bind λc=>
 (idx (List.set l k.toNat (aJ.mk c.op c.d c.a c.b c.n c.m e.2.2)) k).bind λj=>
 (bif (!decide (j.to=e.2.2)) then(f (List.set l k.toNat (aJ.mk c.op c.d c.a c.b c.n c.m e.2.2)) e.1 true e.2.2) else(f (List.set l k.toNat (aJ.mk c.op c.d c.a c.b c.n c.m e.2.2)) e.1 e.2.1 e.2.2))
def f118(b:lI)(bad:Bool)(l:lN)(k:Int):Option (lI×Bool×lN):=
 (f164_o b bad l k).bind λg=>
 (f131_a g.1 g.2.1 g.2.2 k).bind λc=>
 aq (λ(h:lN)(c00v47:lI)(c02v48:Bool)=>
 aq (λ(t:lN)(c00v55:lI)(c02v56:Bool)=>
 (f131_t c00v55 c02v56 t k).bind λj=>
 some (j.1,j.2.1,j.2.2)) λp=>
 (bif (decide ((c00v47.length:Int)<8)) then(p h c00v47 true) else (f116 c00v47).bind λw=>
 (idx h k).bind λe=>
 aS (bX c00v47 8 (c00v47.length:Int))<|
 (p (List.set h k.toNat (aJ.mk e.op e.d e.a e.b e.n w e.to)) (bu c00v47 8 (c00v47.length:Int)) c02v48))) λr=>
 (bif (decide ((c.1.length:Int)<8)) then(r c.2.2 c.1 true) else (f116 c.1).bind λx=>
 (idx c.2.2 k).bind λf=>
 aS (bX c.1 8 (c.1.length:Int))<|
 (r (List.set c.2.2 k.toNat (aJ.mk f.op f.d f.a f.b x f.m f.to)) (bu c.1 8 (c.1.length:Int)) c.2.1))
def f131_h(b:lI)(bad:Bool)(l:lH)(k:Int):Option (lI×Bool×lH):=
 aq (λ(h:lH)(c00v34:lI)(c02v35:Bool)(c30v36:Int)=>
 aq (λ(j:lH)(c00v44:lI)(c02v45:Bool)(c40v46:Int)=>
 aq (λ(t:lH)(c00v54:lI)(c02v55:Bool)(c50v56:Int)=>
 some (c00v54,c02v55,t)) λm=>
 (idx j k).bind λw=>
 (f53 c00v44 c02v45 w.at_).bind λa=>
 (idx j k).bind λc=>
 (idx (List.set j k.toNat (ak.mk c.from_ c.to a.2.2 c.clean)) k).bind λx=>
 (bif (!decide (x.at_=a.2.2)) then(m (List.set j k.toNat (ak.mk c.from_ c.to a.2.2 c.clean)) a.1 true a.2.2) else(m (List.set j k.toNat (ak.mk c.from_ c.to a.2.2 c.clean)) a.1 a.2.1 a.2.2))) λp=>
 (idx h k).bind λy=>
 (f53 c00v34 c02v35 y.to).bind λd=>
 (idx h k).bind λe=>
 (idx (List.set h k.toNat (ak.mk e.from_ d.2.2 e.at_ e.clean)) k).bind λA=>
 (bif (!decide (A.to=d.2.2)) then(p (List.set h k.toNat (ak.mk e.from_ d.2.2 e.at_ e.clean)) d.1 true d.2.2) else(p (List.set h k.toNat (ak.mk e.from_ d.2.2 e.at_ e.clean)) d.1 d.2.1 d.2.2))) λr=>
 (idx l k).bind λB=>
 (f53 b bad B.from_).bind λf=>
 (idx l k).bind λg=>
 (idx (List.set l k.toNat (ak.mk f.2.2 g.to g.at_ g.clean)) k).bind λC=>
 (bif (!decide (C.from_=f.2.2)) then(r (List.set l k.toNat (ak.mk f.2.2 g.to g.at_ g.clean)) f.1 true f.2.2) else(r (List.set l k.toNat (ak.mk f.2.2 g.to g.at_ g.clean)) f.1 f.2.1 f.2.2))
def f120(b:lI)(bad:Bool)(l:lH)(k:Int):Option (lI×Bool×lH):=
 (f131_h b bad l k).bind λc=>
 aq (λ(f:lH)(c00v28:lI)(c02v29:Bool)(c30v30:Int)=>
 some (c00v28,c02v29,f)) λg=>
 aq (λ(c30v32:Int)=>
 (f53 c.1 c.2.1 c30v32).bind λa=>
 (idx c.2.2 k).bind λd=>
 (g (List.set c.2.2 k.toNat (ak.mk d.from_ d.to d.at_ (decide (a.2.2=1)))) a.1 ((a.2.1||(decide (a.2.2<0)))||(decide (a.2.2>1))) a.2.2)) λe=>
 (idx c.2.2 k).bind λh=>
 (bif h.clean then(e 1) else(e 0))
def f131_l(b:lI)(bad:Bool)(l:lP)(k:Int):Option (lI×Bool×lP):=
 aq (λ(f:lP)(c00v34:lI)(c02v35:Bool)(c30v36:Int)=>
 aq (λ(j:lP)(c00v44:lI)(c02v45:Bool)(c40v46:Int)=>
 some (c00v44,c02v45,j)) λg=>
 (idx f k).bind λm=>
 (f53 c00v34 c02v35 m.back).bind λa=>
 (idx f k).bind λd=>
 (idx (List.set f k.toNat (Loop.mk d.head a.2.2 d.bound)) k).bind λp=>
 (bif (!decide (p.back=a.2.2)) then(g (List.set f k.toNat (Loop.mk d.head a.2.2 d.bound)) a.1 true a.2.2) else(g (List.set f k.toNat (Loop.mk d.head a.2.2 d.bound)) a.1 a.2.1 a.2.2))) λh=>
 (idx l k).bind λr=>
 (f53 b bad r.head).bind λc=>
 (idx l k).bind λe=>
 (idx (List.set l k.toNat (Loop.mk c.2.2 e.back e.bound)) k).bind λt=>
 (bif (!decide (t.head=c.2.2)) then(h (List.set l k.toNat (Loop.mk c.2.2 e.back e.bound)) c.1 true c.2.2) else(h (List.set l k.toNat (Loop.mk c.2.2 e.back e.bound)) c.1 c.2.1 c.2.2))
def f122(b:lI)(bad:Bool)(l:lP)(k:Int):Option (lI×Bool×lP):=
 (f131_l b bad l k).bind λa=>
 aq (λ(e:lP)(c00v25:lI)(c02v26:Bool)=>
 some (c00v25,c02v26,e)) λc=>
 (bif (decide ((a.1.length:Int)<8)) then(c a.2.2 a.1 true) else (f116 a.1).bind λf=>
 (idx a.2.2 k).bind λd=>
 aS (bX a.1 8 (a.1.length:Int))<|
 (c (List.set a.2.2 k.toNat (Loop.mk d.head d.back f)) (bu a.1 8 (a.1.length:Int)) a.2.1))
def f191_x(b:lI)(bad:Bool)(l:List be)(k:Int):Option (lI×Bool×(List be)):=
 aq (λ(e:List be)(c00v37:lI)(c02v38:Bool)(c30v39:Int)=>
 some (c00v37,c02v38,e)) λd=>
 (idx l k).bind λf=>
 (f53 b bad (i64.wrap f.kind)).bind λc=>
 (idx l k).bind λa=>
 (idx (List.set l k.toNat (be.mk (IntKind.u8.wrap c.2.2) a.entry a.guard a.time a.at_)) k).bind λg=>
 (bif (!decide ((i64.wrap g.kind)=c.2.2)) then(d (List.set l k.toNat (be.mk (IntKind.u8.wrap c.2.2) a.entry a.guard a.time a.at_)) c.1 true c.2.2) else(d (List.set l k.toNat (be.mk (IntKind.u8.wrap c.2.2) a.entry a.guard a.time a.at_)) c.1 c.2.1 c.2.2))
def f131_x(b:lI)(bad:Bool)(l:List be)(k:Int):Option (lI×Bool×(List be)):=
 aq (λ(m:List be)(c00v34:lI)(c02v35:Bool)(c30v36:Int)=>
 aq (λ(p:List be)(c00v44:lI)(c02v45:Bool)(c40v46:Int)=>
 aq (λ(r:List be)(c00v54:lI)(c02v55:Bool)(c50v56:Int)=>
 aq (λ(A:List be)(c00v64:lI)(c02v65:Bool)(c60v66:Int)=>
 some (c00v64,c02v65,A)) λt=>
 (idx r k).bind λB=>
 (f53 c00v54 c02v55 B.at_).bind λf=>
 (idx r k).bind λa=>
 (idx (List.set r k.toNat (be.mk a.kind a.entry a.guard a.time f.2.2)) k).bind λC=>
 (bif (!decide (C.at_=f.2.2)) then(t (List.set r k.toNat (be.mk a.kind a.entry a.guard a.time f.2.2)) f.1 true f.2.2) else(t (List.set r k.toNat (be.mk a.kind a.entry a.guard a.time f.2.2)) f.1 f.2.1 f.2.2))) λw=>
 (idx p k).bind λE=>
 (f53 c00v44 c02v45 E.time).bind λg=>
 (idx p k).bind λc=>
 (idx (List.set p k.toNat (be.mk c.kind c.entry c.guard g.2.2 c.at_)) k).bind λF=>
 (bif (!decide (F.time=g.2.2)) then(w (List.set p k.toNat (be.mk c.kind c.entry c.guard g.2.2 c.at_)) g.1 true g.2.2) else(w (List.set p k.toNat (be.mk c.kind c.entry c.guard g.2.2 c.at_)) g.1 g.2.1 g.2.2))) λx=>
 (idx m k).bind λG=>
 (f53 c00v34 c02v35 G.guard).bind λh=>
 (idx m k).bind λd=>
 (idx (List.set m k.toNat (be.mk d.kind d.entry h.2.2 d.time d.at_)) k).bind λH=>
 (bif (!decide (H.guard=h.2.2)) then(x (List.set m k.toNat (be.mk d.kind d.entry h.2.2 d.time d.at_)) h.1 true h.2.2) else(x (List.set m k.toNat (be.mk d.kind d.entry h.2.2 d.time d.at_)) h.1 h.2.1 h.2.2))) λy=>
 (idx l k).bind λI=>
 (f53 b bad I.entry).bind λj=>
 (idx l k).bind λe=>
 (idx (List.set l k.toNat (be.mk e.kind j.2.2 e.guard e.time e.at_)) k).bind λJ=>
 (bif (!decide (J.entry=j.2.2)) then(y (List.set l k.toNat (be.mk e.kind j.2.2 e.guard e.time e.at_)) j.1 true j.2.2) else(y (List.set l k.toNat (be.mk e.kind j.2.2 e.guard e.time e.at_)) j.1 j.2.1 j.2.2))
def f167(b:lI)(bad:Bool)(l:List be)(k:Int):Option (lI×Bool×(List be)):=
 (f191_x b bad l k).bind λa=>
 (f131_x a.1 a.2.1 a.2.2 k).bind λc=>
 some (c.1,c.2.1,c.2.2)
def f131_s(b:lI)(bad:Bool)(l:lT)(k:Int):Option (lI×Bool×lT):=
 aq (λ(f:lT)(c00v34:lI)(c02v35:Bool)(c30v36:Int)=>
 aq (λ(j:lT)(c00v44:lI)(c02v45:Bool)(c40v46:Int)=>
 some (c00v44,c02v45,j)) λg=>
 (idx f k).bind λm=>
 (f53 c00v34 c02v35 m.slot).bind λa=>
 (idx f k).bind λd=>
 (idx (List.set f k.toNat (bq.mk d.o a.2.2 d.v)) k).bind λp=>
 (bif (!decide (p.slot=a.2.2)) then(g (List.set f k.toNat (bq.mk d.o a.2.2 d.v)) a.1 true a.2.2) else(g (List.set f k.toNat (bq.mk d.o a.2.2 d.v)) a.1 a.2.1 a.2.2))) λh=>
 (idx l k).bind λr=>
 (f53 b bad r.o).bind λc=>
 (idx l k).bind λe=>
 (idx (List.set l k.toNat (bq.mk c.2.2 e.slot e.v)) k).bind λt=>
 (bif (!decide (t.o=c.2.2)) then(h (List.set l k.toNat (bq.mk c.2.2 e.slot e.v)) c.1 true c.2.2) else(h (List.set l k.toNat (bq.mk c.2.2 e.slot e.v)) c.1 c.2.1 c.2.2))
def f130(b:lI)(bad:Bool)(l:lT)(k:Int):Option (lI×Bool×lT):=
 (f131_s b bad l k).bind λa=>
 aq (λ(e:lT)(c00v25:lI)(c02v26:Bool)=>
 some (c00v25,c02v26,e)) λc=>
 (bif (decide ((a.1.length:Int)<8)) then(c a.2.2 a.1 true) else (f116 a.1).bind λf=>
 (idx a.2.2 k).bind λd=>
 aS (bX a.1 8 (a.1.length:Int))<|
 (c (List.set a.2.2 k.toNat (bq.mk d.o d.slot f)) (bu a.1 8 (a.1.length:Int)) a.2.1))
def f131_c(b:lI)(bad:Bool)(l:lC)(k:Int):Option (lI×Bool×lC):=
 aq (λ(e:lC)(c00v34:lI)(c02v35:Bool)(c30v36:Int)=>
 some (c00v34,c02v35,e)) λd=>
 (idx l k).bind λf=>
 (f53 b bad f.at_).bind λa=>
 (idx l k).bind λc=>
 (idx (List.set l k.toNat (bf.mk a.2.2 c.kind)) k).bind λg=>
 (bif (!decide (g.at_=a.2.2)) then(d (List.set l k.toNat (bf.mk a.2.2 c.kind)) a.1 true a.2.2) else(d (List.set l k.toNat (bf.mk a.2.2 c.kind)) a.1 a.2.1 a.2.2))
def f174_c(b:lI)(bad:Bool)(l:lC)(k:Int):Option (lI×Bool×lC):=
 aq (λ(e:lC)(c00v37:lI)(c02v38:Bool)(c30v39:Int)=>
 some (c00v37,c02v38,e)) λd=>
 (idx l k).bind λf=>
 (f53 b bad (i64.wrap f.kind)).bind λa=>
 (idx l k).bind λc=>
 (idx (List.set l k.toNat (bf.mk c.at_ (IntKind.u8.wrap a.2.2))) k).bind λg=>
 (bif (!decide ((i64.wrap g.kind)=a.2.2)) then(d (List.set l k.toNat (bf.mk c.at_ (IntKind.u8.wrap a.2.2))) a.1 true a.2.2) else(d (List.set l k.toNat (bf.mk c.at_ (IntKind.u8.wrap a.2.2))) a.1 a.2.1 a.2.2))
def f137(b:lI)(bad:Bool)(l:lC)(k:Int):Option (lI×Bool×lC):=
 (f131_c b bad l k).bind λa=>
 (f174_c a.1 a.2.1 a.2.2 k).bind λc=>
 some (c.1,c.2.1,c.2.2)
def f131_n(b:lI)(bad:Bool)(l:lI)(k:Int):Option (lI×Bool×lI):=
 aq (λ(d:lI)(c00v34:lI)(c02v35:Bool)(c30v36:Int)=>
 some (c00v34,c02v35,d)) λc=>
 (idx l k).bind λe=>
 (f53 b bad e).bind λa=>
 (idx l k).bind λg=>
 (idx (List.set l k.toNat a.2.2) k).bind λf=>
 (bif (!decide (f=a.2.2)) then(c (List.set l k.toNat a.2.2) a.1 true a.2.2) else(c (List.set l k.toNat a.2.2) a.1 a.2.1 a.2.2))
def f169(b:lI)(bad:Bool)(l:lI)(k:Int):Option (lI×Bool×lI):=
 (f131_n b bad l k).bind λa=>
 some (a.1,a.2.1,a.2.2)
def f126_l1(l:lL)(k:Int)(d:lL->lI->Bool->Option (lI×Bool×lL))(f:lI×Bool×Int):Nat->Int->lI->lI->Bool->Option (lI×Bool×lL)
 |0,_,_,_,_=>none
 |n+1,a,c,c00v28,c02v29=>
 (bif (decide (a<(List.length (List.replicate f.2.2.toNat (0:Int)):Int))) then(bif c02v29 then(d (List.set l k.toNat c) c00v28 c02v29) else (idx c a).bind λg=>
 (f169 c00v28 c02v29 c a).bind λe=>
 (f126_l1 l k d f n (i64.wrap (a+1)) e.2.2 e.1 e.2.1)) else(d (List.set l k.toNat c) c00v28 c02v29))
def f126(b:lI)(bad:Bool)(l:lL)(k:Int):Option (lI×Bool×lL):=
 aq (λ(d:lL)(c00v14:lI)(c02v15:Bool)=>
 some (c00v14,c02v15,d)) λc=>
 (idx l k).bind λe=>
 (f53 b bad (e.length:Int)).bind λa=>
 (bif ((decide (a.2.2<0))||(decide (a.2.2>(i64.wrap (Int.tdiv (a.1.length:Int) 8))))) then(c l a.1 true) else aS (dP 8 a.2.2)<|
 (idx l k).bind λf=>
 (f126_l1 l k c a (Int.toNat ((List.length (List.replicate a.2.2.toNat (0:Int)):Int) - 0)+1) 0 (List.replicate a.2.2.toNat (0:Int)) a.1 a.2.1))
def f131_o(b:lI)(bad:Bool)(l:lO)(k:Int):Option (lI×Bool×lO):=
 aq (λ(e:lO)(c00v34:lI)(c02v35:Bool)(c30v36:Int)=>
 some (c00v34,c02v35,e)) λd=>
 (idx l k).bind λf=>
 (f53 b bad f.size).bind λc=>
 (idx l k).bind λa=>
 (idx (List.set l k.toNat (Obj.mk c.2.2 a.lo a.hi a.ptr a.set_)) k).bind λg=>
 (bif (!decide (g.size=c.2.2)) then(d (List.set l k.toNat (Obj.mk c.2.2 a.lo a.hi a.ptr a.set_)) c.1 true c.2.2) else(d (List.set l k.toNat (Obj.mk c.2.2 a.lo a.hi a.ptr a.set_)) c.1 c.2.1 c.2.2))
def f128_l1(k:Int)(e:lO)(f:lO->lI->Bool->Option (lI×Bool×lO))(h:lI×Bool×Int)(a:Obj):Nat->Int->lI->lI->Bool->Option (lI×Bool×lO)
 |0,_,_,_,_=>none
 |n+1,c,d,c00v84,c02v85=>
 (bif (decide (c<(List.length (List.replicate h.2.2.toNat (0:Int)):Int))) then(bif c02v85 then(f (List.set e k.toNat (Obj.mk a.size a.lo a.hi a.ptr d)) c00v84 c02v85) else (idx d c).bind λj=>
 (f169 c00v84 c02v85 d c).bind λg=>
 (f128_l1 k e f h a n (i64.wrap (c+1)) g.2.2 g.1 g.2.1)) else(f (List.set e k.toNat (Obj.mk a.size a.lo a.hi a.ptr d)) c00v84 c02v85))
def f128(b:lI)(bad:Bool)(l:lO)(k:Int):Option (lI×Bool×lO):=
 (f131_o b bad l k).bind λa=>
 aq (λ(j:lO)(c00v37:lI)(c02v38:Bool)=>
 aq (λ(m:lO)(c00v45:lI)(c02v46:Bool)=>
 aq (λ(e:lO)(c00v53:lI)(c02v54:Bool)(c30v55:Int)=>
 aq (λ(x:lO)(c00v65:lI)(c02v66:Bool)=>
 some (c00v65,c02v66,x)) λy=>
 aq (λ(A:lO)(c00v70:lI)(c02v71:Bool)=>
 (y A c00v70 c02v71)) λp=>
 (idx e k).bind λB=>
 (f53 c00v53 c02v54 (B.set_.length:Int)).bind λc=>
 (bif ((decide (c.2.2<0))||(decide (c.2.2>(i64.wrap (Int.tdiv (c.1.length:Int) 8))))) then(p e c.1 true) else aS (dP 8 c.2.2)<|
 (idx e k).bind λC=>
 (f128_l1 k e p c C (Int.toNat ((List.length (List.replicate c.2.2.toNat (0:Int)):Int) - 0)+1) 0 (List.replicate c.2.2.toNat (0:Int)) c.1 c.2.1))) λE=>
 aq (λ(c30v57:Int)=>
 (f53 c00v45 c02v46 c30v57).bind λd=>
 (idx m k).bind λf=>
 (E (List.set m k.toNat (Obj.mk f.size f.lo f.hi (decide (d.2.2=1)) f.set_)) d.1 ((d.2.1||(decide (d.2.2<0)))||(decide (d.2.2>1))) d.2.2)) λr=>
 (idx m k).bind λF=>
 (bif F.ptr then(r 1) else(r 0))) λt=>
 (bif (decide ((c00v37.length:Int)<8)) then(t j c00v37 true) else (f116 c00v37).bind λG=>
 (idx j k).bind λg=>
 aS (bX c00v37 8 (c00v37.length:Int))<|
 (t (List.set j k.toNat (Obj.mk g.size g.lo G g.ptr g.set_)) (bu c00v37 8 (c00v37.length:Int)) c02v38))) λw=>
 (bif (decide ((a.1.length:Int)<8)) then(w a.2.2 a.1 true) else (f116 a.1).bind λH=>
 (idx a.2.2 k).bind λh=>
 aS (bX a.1 8 (a.1.length:Int))<|
 (w (List.set a.2.2 k.toNat (Obj.mk h.size H h.hi h.ptr h.set_)) (bu a.1 8 (a.1.length:Int)) a.2.1))
def f171_l1(l:List aB)(k:Int)(d:(List aB)->lI->Bool->Option (lI×Bool×(List aB)))(g:lI×Bool×Int)(e:aB):Nat->Int->lI->lI->Bool->Option (lI×Bool×(List aB))
 |0,_,_,_,_=>none
 |n+1,a,c,c00v38,c02v39=>
 (bif (decide (a<(List.length (List.replicate g.2.2.toNat (0:Int)):Int))) then(bif c02v39 then(d (List.set l k.toNat (aB.mk c e.outs)) c00v38 c02v39) else (idx c a).bind λh=>
 (f169 c00v38 c02v39 c a).bind λf=>
 (f171_l1 l k d g e n (i64.wrap (a+1)) f.2.2 f.1 f.2.1)) else(d (List.set l k.toNat (aB.mk c e.outs)) c00v38 c02v39))
def f171_l2(k:Int)(d:List aB)(e:(List aB)->lI->Bool->Option (lI×Bool×(List aB)))(h:lI×Bool×Int)(f:aB):Nat->Int->lI->lI->Bool->Option (lI×Bool×(List aB))
 |0,_,_,_,_=>none
 |n+1,a,c,c00v68,c02v69=>
 (bif (decide (a<(List.length (List.replicate h.2.2.toNat (0:Int)):Int))) then(bif c02v69 then(e (List.set d k.toNat (aB.mk f.ins c)) c00v68 c02v69) else (idx c a).bind λj=>
 (f169 c00v68 c02v69 c a).bind λg=>
 (f171_l2 k d e h f n (i64.wrap (a+1)) g.2.2 g.1 g.2.1)) else(e (List.set d k.toNat (aB.mk f.ins c)) c00v68 c02v69))
def f171(b:lI)(bad:Bool)(l:List aB)(k:Int):Option (lI×Bool×(List aB)):=
 aq (λ(d:List aB)(c00v19:lI)(c02v20:Bool)=>
 aq (λ(g:List aB)(c00v49:lI)(c02v50:Bool)=>
 some (c00v49,c02v50,g)) λh=>
 aq (λ(j:List aB)(c00v54:lI)(c02v55:Bool)=>
 (h j c00v54 c02v55)) λe=>
 (idx d k).bind λm=>
 (f53 c00v19 c02v20 (m.outs.length:Int)).bind λa=>
 (bif ((decide (a.2.2<0))||(decide (a.2.2>(i64.wrap (Int.tdiv (a.1.length:Int) 8))))) then(e d a.1 true) else aS (dP 8 a.2.2)<|
 (idx d k).bind λp=>
 (f171_l2 k d e a p (Int.toNat ((List.length (List.replicate a.2.2.toNat (0:Int)):Int) - 0)+1) 0 (List.replicate a.2.2.toNat (0:Int)) a.1 a.2.1))) λr=>
 aq (λ(t:List aB)(c00v24:lI)(c02v25:Bool)=>
 (r t c00v24 c02v25)) λf=>
 (idx l k).bind λw=>
 (f53 b bad (w.ins.length:Int)).bind λc=>
 (bif ((decide (c.2.2<0))||(decide (c.2.2>(i64.wrap (Int.tdiv (c.1.length:Int) 8))))) then(f l c.1 true) else aS (dP 8 c.2.2)<|
 (idx l k).bind λx=>
 (f171_l1 l k f c x (Int.toNat ((List.length (List.replicate c.2.2.toNat (0:Int)):Int) - 0)+1) 0 (List.replicate c.2.2.toNat (0:Int)) c.1 c.2.1))
def f131_q(b:lI)(bad:Bool)(l:lS)(k:Int):Option (lI×Bool×lS):=
 aq (λ(f:lS)(c00v34:lI)(c02v35:Bool)(c30v36:Int)=>
 aq (λ(j:lS)(c00v44:lI)(c02v45:Bool)(c40v46:Int)=>
 some (c00v44,c02v45,j)) λg=>
 (idx f k).bind λm=>
 (f53 c00v34 c02v35 m.else_).bind λa=>
 (idx f k).bind λd=>
 (idx (List.set f k.toNat (az.mk d.alts d.obj a.2.2)) k).bind λp=>
 (bif (!decide (p.else_=a.2.2)) then(g (List.set f k.toNat (az.mk d.alts d.obj a.2.2)) a.1 true a.2.2) else(g (List.set f k.toNat (az.mk d.alts d.obj a.2.2)) a.1 a.2.1 a.2.2))) λh=>
 (idx l k).bind λr=>
 (f53 b bad r.obj).bind λc=>
 (idx l k).bind λe=>
 (idx (List.set l k.toNat (az.mk e.alts c.2.2 e.else_)) k).bind λt=>
 (bif (!decide (t.obj=c.2.2)) then(h (List.set l k.toNat (az.mk e.alts c.2.2 e.else_)) c.1 true c.2.2) else(h (List.set l k.toNat (az.mk e.alts c.2.2 e.else_)) c.1 c.2.1 c.2.2))
def f124_l1(l:lS)(k:Int)(e:lS->lI->Bool->Option (lI×Bool×lS))(g:lI×Bool×Int)(a:az):Nat->Int->(List be)->lI->Bool->Option (lI×Bool×lS)
 |0,_,_,_,_=>none
 |n+1,c,d,c00v39,c02v40=>
 (bif (decide (c<(List.length (List.replicate g.2.2.toNat ((be.mk 0 0 0 0 0):be)):Int))) then(bif c02v40 then(e (List.set l k.toNat (az.mk d a.obj a.else_)) c00v39 c02v40) else (idx d c).bind λh=>
 (f167 c00v39 c02v40 d c).bind λf=>
 (f124_l1 l k e g a n (i64.wrap (c+1)) f.2.2 f.1 f.2.1)) else(e (List.set l k.toNat (az.mk d a.obj a.else_)) c00v39 c02v40))
def f124(b:lI)(bad:Bool)(l:lS)(k:Int):Option (lI×Bool×lS):=
 aq (λ(e:lS)(c00v25:lI)(c02v26:Bool)=>
 (f131_q c00v25 c02v26 e k).bind λc=>
 some (c.1,c.2.1,c.2.2)) λd=>
 (idx l k).bind λf=>
 (f53 b bad (f.alts.length:Int)).bind λa=>
 (bif ((decide (a.2.2<0))||(decide (a.2.2>(i64.wrap (Int.tdiv (a.1.length:Int) 8))))) then(d l a.1 true) else aS (dP 40 a.2.2)<|
 (idx l k).bind λg=>
 (f124_l1 l k d a g (Int.toNat ((List.length (List.replicate a.2.2.toNat ((be.mk 0 0 0 0 0):be)):Int) - 0)+1) 0 (List.replicate a.2.2.toNat ((be.mk 0 0 0 0 0):be)) a.1 a.2.1))
def f131_k(b:lI)(bad:Bool)(l:lK)(k:Int):Option (lI×Bool×lK):=
 aq (λ(f:lK)(c00v34:lI)(c02v35:Bool)(c30v36:Int)=>
 aq (λ(j:lK)(c00v44:lI)(c02v45:Bool)(c40v46:Int)=>
 some (c00v44,c02v45,j)) λg=>
 (idx f k).bind λm=>
 (f53 c00v34 c02v35 m.at_).bind λa=>
 (idx f k).bind λc=>
 (idx (List.set f k.toNat (aK.mk c.prio a.2.2 c.entries c.deadline)) k).bind λp=>
 (bif (!decide (p.at_=a.2.2)) then(g (List.set f k.toNat (aK.mk c.prio a.2.2 c.entries c.deadline)) a.1 true a.2.2) else(g (List.set f k.toNat (aK.mk c.prio a.2.2 c.entries c.deadline)) a.1 a.2.1 a.2.2))) λh=>
 (idx l k).bind λr=>
 (f53 b bad r.prio).bind λd=>
 (idx l k).bind λe=>
 (idx (List.set l k.toNat (aK.mk d.2.2 e.at_ e.entries e.deadline)) k).bind λt=>
 (bif (!decide (t.prio=d.2.2)) then(h (List.set l k.toNat (aK.mk d.2.2 e.at_ e.entries e.deadline)) d.1 true d.2.2) else(h (List.set l k.toNat (aK.mk d.2.2 e.at_ e.entries e.deadline)) d.1 d.2.1 d.2.2))
def f133_l1(k:Int)(e:lI×Bool×lK)(f:lK->lI->Bool->Option (lI×Bool×lK))(h:lI×Bool×Int)(a:aK):Nat->Int->(List aB)->lI->Bool->Option (lI×Bool×lK)
 |0,_,_,_,_=>none
 |n+1,c,d,c00v46,c02v47=>
 (bif (decide (c<(List.length (List.replicate h.2.2.toNat ((aB.mk [] []):aB)):Int))) then(bif c02v47 then(f (List.set e.2.2 k.toNat (aK.mk a.prio a.at_ d a.deadline)) c00v46 c02v47) else (idx d c).bind λj=>
 (f171 c00v46 c02v47 d c).bind λg=>
 (f133_l1 k e f h a n (i64.wrap (c+1)) g.2.2 g.1 g.2.1)) else(f (List.set e.2.2 k.toNat (aK.mk a.prio a.at_ d a.deadline)) c00v46 c02v47))
def f133(b:lI)(bad:Bool)(l:lK)(k:Int):Option (lI×Bool×lK):=
 (f131_k b bad l k).bind λc=>
 aq (λ(d:lK)(c00v32:lI)(c02v33:Bool)=>
 aq (λ(h:lK)(c00v57:lI)(c02v58:Bool)=>
 some (c00v57,c02v58,h)) λf=>
 (bif (decide ((c00v32.length:Int)<8)) then(f d c00v32 true) else (f116 c00v32).bind λj=>
 (idx d k).bind λe=>
 aS (bX c00v32 8 (c00v32.length:Int))<|
 (f (List.set d k.toNat (aK.mk e.prio e.at_ e.entries j)) (bu c00v32 8 (c00v32.length:Int)) c02v33))) λg=>
 (idx c.2.2 k).bind λm=>
 (f53 c.1 c.2.1 (m.entries.length:Int)).bind λa=>
 (bif ((decide (a.2.2<0))||(decide (a.2.2>(i64.wrap (Int.tdiv (a.1.length:Int) 8))))) then(g c.2.2 a.1 true) else aS (dP 48 a.2.2)<|
 (idx c.2.2 k).bind λp=>
 (f133_l1 k c g a p (Int.toNat ((List.length (List.replicate a.2.2.toNat ((aB.mk [] []):aB)):Int) - 0)+1) 0 (List.replicate a.2.2.toNat ((aB.mk [] []):aB)) a.1 a.2.1))
def f192_e(b:lI)(bad:Bool)(l:List ae)(k:Int):Option (lI×Bool×(List ae)):=
 aq (λ(e:List ae)(c00v37:lI)(c02v38:Bool)(c30v39:Int)=>
 some (c00v37,c02v38,e)) λd=>
 (idx l k).bind λf=>
 (f53 b bad (i64.wrap f.kind)).bind λc=>
 (idx l k).bind λa=>
 (idx (List.set l k.toNat (ae.mk (IntKind.u8.wrap c.2.2) a.op a.n a.o a.off a.len a.lo a.hi a.l)) k).bind λg=>
 (bif (!decide ((i64.wrap g.kind)=c.2.2)) then(d (List.set l k.toNat (ae.mk (IntKind.u8.wrap c.2.2) a.op a.n a.o a.off a.len a.lo a.hi a.l)) c.1 true c.2.2) else(d (List.set l k.toNat (ae.mk (IntKind.u8.wrap c.2.2) a.op a.n a.o a.off a.len a.lo a.hi a.l)) c.1 c.2.1 c.2.2))
def f193_e(b:lI)(bad:Bool)(l:List ae)(k:Int):Option (lI×Bool×(List ae)):=
 aq (λ(e:List ae)(c00v37:lI)(c02v38:Bool)(c30v39:Int)=>
 some (c00v37,c02v38,e)) λd=>
 (idx l k).bind λf=>
 (f53 b bad (i64.wrap f.op)).bind λc=>
 (idx l k).bind λa=>
 (idx (List.set l k.toNat (ae.mk a.kind (IntKind.u8.wrap c.2.2) a.n a.o a.off a.len a.lo a.hi a.l)) k).bind λg=>
 (bif (!decide ((i64.wrap g.op)=c.2.2)) then(d (List.set l k.toNat (ae.mk a.kind (IntKind.u8.wrap c.2.2) a.n a.o a.off a.len a.lo a.hi a.l)) c.1 true c.2.2) else(d (List.set l k.toNat (ae.mk a.kind (IntKind.u8.wrap c.2.2) a.n a.o a.off a.len a.lo a.hi a.l)) c.1 c.2.1 c.2.2))
def f131_e(b:lI)(bad:Bool)(l:List ae)(k:Int):Option (lI×Bool×(List ae)):=
 aq (λ(h:List ae)(c00v34:lI)(c02v35:Bool)(c30v36:Int)=>
 aq (λ(j:List ae)(c00v44:lI)(c02v45:Bool)(c40v46:Int)=>
 aq (λ(t:List ae)(c00v54:lI)(c02v55:Bool)(c50v56:Int)=>
 some (c00v54,c02v55,t)) λm=>
 (idx j k).bind λw=>
 (f53 c00v44 c02v45 w.len).bind λe=>
 (idx j k).bind λa=>
 (idx (List.set j k.toNat (ae.mk a.kind a.op a.n a.o a.off e.2.2 a.lo a.hi a.l)) k).bind λx=>
 (bif (!decide (x.len=e.2.2)) then(m (List.set j k.toNat (ae.mk a.kind a.op a.n a.o a.off e.2.2 a.lo a.hi a.l)) e.1 true e.2.2) else(m (List.set j k.toNat (ae.mk a.kind a.op a.n a.o a.off e.2.2 a.lo a.hi a.l)) e.1 e.2.1 e.2.2))) λp=>
 (idx h k).bind λy=>
 (f53 c00v34 c02v35 y.off).bind λf=>
 (idx h k).bind λc=>
 (idx (List.set h k.toNat (ae.mk c.kind c.op c.n c.o f.2.2 c.len c.lo c.hi c.l)) k).bind λA=>
 (bif (!decide (A.off=f.2.2)) then(p (List.set h k.toNat (ae.mk c.kind c.op c.n c.o f.2.2 c.len c.lo c.hi c.l)) f.1 true f.2.2) else(p (List.set h k.toNat (ae.mk c.kind c.op c.n c.o f.2.2 c.len c.lo c.hi c.l)) f.1 f.2.1 f.2.2))) λr=>
 (idx l k).bind λB=>
 (f53 b bad B.o).bind λg=>
 (idx l k).bind λd=>
 (idx (List.set l k.toNat (ae.mk d.kind d.op d.n g.2.2 d.off d.len d.lo d.hi d.l)) k).bind λC=>
 (bif (!decide (C.o=g.2.2)) then(r (List.set l k.toNat (ae.mk d.kind d.op d.n g.2.2 d.off d.len d.lo d.hi d.l)) g.1 true g.2.2) else(r (List.set l k.toNat (ae.mk d.kind d.op d.n g.2.2 d.off d.len d.lo d.hi d.l)) g.1 g.2.1 g.2.2))
def f173s_l1(h:lI->Bool->(List ae)->Int->Option (lI×Bool×(List ae)))(k:Int)(e:List ae)(f:(List ae)->lI->Bool->Option (lI×Bool×(List ae)))(j:lI×Bool×Int)(a:ae):Nat->Int->(List ae)->lI->Bool->Option (lI×Bool×(List ae))
 |0,_,_,_,_=>none
 |n+1,c,d,c00v99,c02v100=>
 (bif (decide (c<(List.length (List.replicate j.2.2.toNat ((ae.mk 0 0 0 0 0 0 0 0 []):ae)):Int))) then(bif c02v100 then(f (List.set e k.toNat (ae.mk a.kind a.op a.n a.o a.off a.len a.lo a.hi d)) c00v99 c02v100) else (idx d c).bind λm=>
 (h c00v99 c02v100 d c).bind λg=>
 (f173s_l1 h k e f j a n (i64.wrap (c+1)) g.2.2 g.1 g.2.1)) else(f (List.set e k.toNat (ae.mk a.kind a.op a.n a.o a.off a.len a.lo a.hi d)) c00v99 c02v100))
def f173s(x:lI->Bool->(List ae)->Int->Option (lI×Bool×(List ae)))(b:lI)(bad:Bool)(l:List ae)(k:Int):Option (lI×Bool×(List ae)):=
 (f192_e b bad l k).bind λj=>
 (f193_e j.1 j.2.1 j.2.2 k).bind λa=>
 aq (λ(y:List ae)(c00v59:lI)(c02v60:Bool)=>
 (f131_e c00v59 c02v60 y k).bind λc=>
 aq (λ(m:List ae)(c00v69:lI)(c02v70:Bool)=>
 aq (λ(h:List ae)(c00v77:lI)(c02v78:Bool)=>
 aq (λ(A:List ae)(c00v85:lI)(c02v86:Bool)=>
 some (c00v85,c02v86,A)) λp=>
 (idx h k).bind λB=>
 (f53 c00v77 c02v78 (B.l.length:Int)).bind λd=>
 (bif ((decide (d.2.2<0))||(decide (d.2.2>(i64.wrap (Int.tdiv (d.1.length:Int) 8))))) then(p h d.1 true) else aS (dP 80 d.2.2)<|
 (idx h k).bind λC=>
 (f173s_l1 x k h p d C (Int.toNat ((List.length (List.replicate d.2.2.toNat ((ae.mk 0 0 0 0 0 0 0 0 []):ae)):Int) - 0)+1) 0 (List.replicate d.2.2.toNat ((ae.mk 0 0 0 0 0 0 0 0 []):ae)) d.1 d.2.1))) λr=>
 (bif (decide ((c00v69.length:Int)<8)) then(r m c00v69 true) else (f116 c00v69).bind λE=>
 (idx m k).bind λe=>
 aS (bX c00v69 8 (c00v69.length:Int))<|
 (r (List.set m k.toNat (ae.mk e.kind e.op e.n e.o e.off e.len e.lo E e.l)) (bu c00v69 8 (c00v69.length:Int)) c02v70))) λt=>
 (bif (decide ((c.1.length:Int)<8)) then(t c.2.2 c.1 true) else (f116 c.1).bind λF=>
 (idx c.2.2 k).bind λf=>
 aS (bX c.1 8 (c.1.length:Int))<|
 (t (List.set c.2.2 k.toNat (ae.mk f.kind f.op f.n f.o f.off f.len F f.hi f.l)) (bu c.1 8 (c.1.length:Int)) c.2.1))) λw=>
 (bif (decide ((a.1.length:Int)<8)) then(w a.2.2 a.1 true) else (f116 a.1).bind λG=>
 (idx a.2.2 k).bind λg=>
 aS (bX a.1 8 (a.1.length:Int))<|
 (w (List.set a.2.2 k.toNat (ae.mk g.kind g.op G g.o g.off g.len g.lo g.hi g.l)) (bu a.1 8 (a.1.length:Int)) a.2.1))
def f173:Nat->lI->Bool->(List ae)->Int->Option (lI×Bool×(List ae))
 |0=>λ_ _ _ _=>none
 |n+1=>f173s (f173 n)
def f131_p(b:lI)(bad:Bool)(l:lM)(k:Int):Option (lI×Bool×lM):=
 aq (λ(e:lM)(c00v34:lI)(c02v35:Bool)(c30v36:Int)=>
 some (c00v34,c02v35,e)) λd=>
 (idx l k).bind λf=>
 (f53 b bad f.ceiling).bind λa=>
 (idx l k).bind λc=>
 (idx (List.set l k.toNat (aT.mk a.2.2 c.barriers)) k).bind λg=>
 (bif (!decide (g.ceiling=a.2.2)) then(d (List.set l k.toNat (aT.mk a.2.2 c.barriers)) a.1 true a.2.2) else(d (List.set l k.toNat (aT.mk a.2.2 c.barriers)) a.1 a.2.1 a.2.2))
def f135_l1(k:Int)(d:lI×Bool×lM)(e:lM->lI->Bool->Option (lI×Bool×lM))(h:lI×Bool×Int)(f:aT):Nat->Int->(List ae)->lI->Bool->Option (lI×Bool×lM)
 |0,_,_,_,_=>none
 |n+1,a,c,c00v38,c02v39=>
 (bif (decide (a<(List.length (List.replicate h.2.2.toNat ((ae.mk 0 0 0 0 0 0 0 0 []):ae)):Int))) then(bif c02v39 then(e (List.set d.2.2 k.toNat (aT.mk f.ceiling c)) c00v38 c02v39) else (idx c a).bind λj=>
 (f173 9223372036854775808 c00v38 c02v39 c a).bind λg=>
 (f135_l1 k d e h f n (i64.wrap (a+1)) g.2.2 g.1 g.2.1)) else(e (List.set d.2.2 k.toNat (aT.mk f.ceiling c)) c00v38 c02v39))
def f135(b:lI)(bad:Bool)(l:lM)(k:Int):Option (lI×Bool×lM):=
 (f131_p b bad l k).bind λc=>
 aq (λ(e:lM)(c00v24:lI)(c02v25:Bool)=>
 some (c00v24,c02v25,e)) λd=>
 (idx c.2.2 k).bind λf=>
 (f53 c.1 c.2.1 (f.barriers.length:Int)).bind λa=>
 (bif ((decide (a.2.2<0))||(decide (a.2.2>(i64.wrap (Int.tdiv (a.1.length:Int) 8))))) then(d c.2.2 a.1 true) else aS (dP 80 a.2.2)<|
 (idx c.2.2 k).bind λg=>
 (f135_l1 k c d a g (Int.toNat ((List.length (List.replicate a.2.2.toNat ((ae.mk 0 0 0 0 0 0 0 0 []):ae)):Int) - 0)+1) 0 (List.replicate a.2.2.toNat ((ae.mk 0 0 0 0 0 0 0 0 []):ae)) a.1 a.2.1))
def f131_T(b:lI)(bad:Bool)(tinsns:lN)(thandlers:lH)(tloops:lP)(tselects:lS)(tlists:lL)(tobjs:lO)(tinits:lT)(texcs:Int)(ttasks:lK)(tprots:lM)(tchecks:lC):Option (lI×Bool×Int):=
 aq (λ(c00v33:lI)(c02v34:Bool)(c17v35:Int)(c30v36:Int)=>
 some (c00v33,c02v34,c17v35)) λc=>
 (f53 b bad texcs).bind λa=>
 (bif (!decide (a.2.2=a.2.2)) then(c a.1 true a.2.2 a.2.2) else(c a.1 a.2.1 a.2.2 a.2.2))
def f54_l1(d:lI->Bool->lN->Option (lI×Bool×lN×lH×lP×lS×lL×lO×lT×Int×lK×lM×lC))(f:lI×Bool×Int):Nat->Int->lN->lI->Bool->Option (lI×Bool×lN×lH×lP×lS×lL×lO×lT×Int×lK×lM×lC)
 |0,_,_,_,_=>none
 |n+1,a,c,c00v97,c02v98=>
 (bif (decide (a<(List.length (List.replicate f.2.2.toNat ((aJ.mk 0 0 0 0 0 0 0):aJ)):Int))) then(bif c02v98 then(d c00v97 c02v98 c) else (idx c a).bind λg=>
 (f118 c00v97 c02v98 c a).bind λe=>
 (f54_l1 d f n (i64.wrap (a+1)) e.2.2 e.1 e.2.1)) else(d c00v97 c02v98 c))
def f54_l2(d:lI->Bool->lH->Option (lI×Bool×lN×lH×lP×lS×lL×lO×lT×Int×lK×lM×lC))(f:lI×Bool×Int):Nat->Int->lH->lI->Bool->Option (lI×Bool×lN×lH×lP×lS×lL×lO×lT×Int×lK×lM×lC)
 |0,_,_,_,_=>none
 |n+1,a,c,c00v120,c02v121=>
 (bif (decide (a<(List.length (List.replicate f.2.2.toNat ((ak.mk 0 0 0 false):ak)):Int))) then(bif c02v121 then(d c00v120 c02v121 c) else (idx c a).bind λg=>
 (f120 c00v120 c02v121 c a).bind λe=>
 (f54_l2 d f n (i64.wrap (a+1)) e.2.2 e.1 e.2.1)) else(d c00v120 c02v121 c))
def f54_l3(d:lI->Bool->lP->Option (lI×Bool×lN×lH×lP×lS×lL×lO×lT×Int×lK×lM×lC))(f:lI×Bool×Int):Nat->Int->lP->lI->Bool->Option (lI×Bool×lN×lH×lP×lS×lL×lO×lT×Int×lK×lM×lC)
 |0,_,_,_,_=>none
 |n+1,a,c,c00v143,c02v144=>
 (bif (decide (a<(List.length (List.replicate f.2.2.toNat ((Loop.mk 0 0 0):Loop)):Int))) then(bif c02v144 then(d c00v143 c02v144 c) else (idx c a).bind λg=>
 (f122 c00v143 c02v144 c a).bind λe=>
 (f54_l3 d f n (i64.wrap (a+1)) e.2.2 e.1 e.2.1)) else(d c00v143 c02v144 c))
def f54_l4(d:lI->Bool->lS->Option (lI×Bool×lN×lH×lP×lS×lL×lO×lT×Int×lK×lM×lC))(f:lI×Bool×Int):Nat->Int->lS->lI->Bool->Option (lI×Bool×lN×lH×lP×lS×lL×lO×lT×Int×lK×lM×lC)
 |0,_,_,_,_=>none
 |n+1,a,c,c00v166,c02v167=>
 (bif (decide (a<(List.length (List.replicate f.2.2.toNat ((az.mk [] 0 0):az)):Int))) then(bif c02v167 then(d c00v166 c02v167 c) else (idx c a).bind λg=>
 (f124 c00v166 c02v167 c a).bind λe=>
 (f54_l4 d f n (i64.wrap (a+1)) e.2.2 e.1 e.2.1)) else(d c00v166 c02v167 c))
def f54_l5(d:lI->Bool->lL->Option (lI×Bool×lN×lH×lP×lS×lL×lO×lT×Int×lK×lM×lC))(f:lI×Bool×Int):Nat->Int->lL->lI->Bool->Option (lI×Bool×lN×lH×lP×lS×lL×lO×lT×Int×lK×lM×lC)
 |0,_,_,_,_=>none
 |n+1,a,c,c00v189,c02v190=>
 (bif (decide (a<(List.length (List.replicate f.2.2.toNat ([]:lI)):Int))) then(bif c02v190 then(d c00v189 c02v190 c) else (idx c a).bind λg=>
 (f126 c00v189 c02v190 c a).bind λe=>
 (f54_l5 d f n (i64.wrap (a+1)) e.2.2 e.1 e.2.1)) else(d c00v189 c02v190 c))
def f54_l6(d:lI->Bool->lO->Option (lI×Bool×lN×lH×lP×lS×lL×lO×lT×Int×lK×lM×lC))(f:lI×Bool×Int):Nat->Int->lO->lI->Bool->Option (lI×Bool×lN×lH×lP×lS×lL×lO×lT×Int×lK×lM×lC)
 |0,_,_,_,_=>none
 |n+1,a,c,c00v212,c02v213=>
 (bif (decide (a<(List.length (List.replicate f.2.2.toNat ((Obj.mk 0 0 0 false []):Obj)):Int))) then(bif c02v213 then(d c00v212 c02v213 c) else (idx c a).bind λg=>
 (f128 c00v212 c02v213 c a).bind λe=>
 (f54_l6 d f n (i64.wrap (a+1)) e.2.2 e.1 e.2.1)) else(d c00v212 c02v213 c))
def f54_l7(d:lI->Bool->lT->Option (lI×Bool×lN×lH×lP×lS×lL×lO×lT×Int×lK×lM×lC))(f:lI×Bool×Int):Nat->Int->lT->lI->Bool->Option (lI×Bool×lN×lH×lP×lS×lL×lO×lT×Int×lK×lM×lC)
 |0,_,_,_,_=>none
 |n+1,a,c,c00v235,c02v236=>
 (bif (decide (a<(List.length (List.replicate f.2.2.toNat ((bq.mk 0 0 0):bq)):Int))) then(bif c02v236 then(d c00v235 c02v236 c) else (idx c a).bind λg=>
 (f130 c00v235 c02v236 c a).bind λe=>
 (f54_l7 d f n (i64.wrap (a+1)) e.2.2 e.1 e.2.1)) else(d c00v235 c02v236 c))
def f54_l8(d:lI->Bool->lK->Option (lI×Bool×lN×lH×lP×lS×lL×lO×lT×Int×lK×lM×lC))(f:lI×Bool×Int):Nat->Int->lK->lI->Bool->Option (lI×Bool×lN×lH×lP×lS×lL×lO×lT×Int×lK×lM×lC)
 |0,_,_,_,_=>none
 |n+1,a,c,c00v260,c02v261=>
 (bif (decide (a<(List.length (List.replicate f.2.2.toNat ((aK.mk 0 0 [] 0):aK)):Int))) then(bif c02v261 then(d c00v260 c02v261 c) else (idx c a).bind λg=>
 (f133 c00v260 c02v261 c a).bind λe=>
 (f54_l8 d f n (i64.wrap (a+1)) e.2.2 e.1 e.2.1)) else(d c00v260 c02v261 c))
def f54_l9(d:lI->Bool->lM->Option (lI×Bool×lN×lH×lP×lS×lL×lO×lT×Int×lK×lM×lC))(f:lI×Bool×Int):Nat->Int->lM->lI->Bool->Option (lI×Bool×lN×lH×lP×lS×lL×lO×lT×Int×lK×lM×lC)
 |0,_,_,_,_=>none
 |n+1,a,c,c00v283,c02v284=>
 (bif (decide (a<(List.length (List.replicate f.2.2.toNat ((aT.mk 0 []):aT)):Int))) then(bif c02v284 then(d c00v283 c02v284 c) else (idx c a).bind λg=>
 (f135 c00v283 c02v284 c a).bind λe=>
 (f54_l9 d f n (i64.wrap (a+1)) e.2.2 e.1 e.2.1)) else(d c00v283 c02v284 c))
def f54_l10(d:lI->Bool->lC->Option (lI×Bool×lN×lH×lP×lS×lL×lO×lT×Int×lK×lM×lC))(f:lI×Bool×Int):Nat->Int->lC->lI->Bool->Option (lI×Bool×lN×lH×lP×lS×lL×lO×lT×Int×lK×lM×lC)
 |0,_,_,_,_=>none
 |n+1,a,c,c00v306,c02v307=>
 (bif (decide (a<(List.length (List.replicate f.2.2.toNat ((bf.mk 0 0):bf)):Int))) then(bif c02v307 then(d c00v306 c02v307 c) else (idx c a).bind λg=>
 (f137 c00v306 c02v307 c a).bind λe=>
 (f54_l10 d f n (i64.wrap (a+1)) e.2.2 e.1 e.2.1)) else(d c00v306 c02v307 c))
def f54(b:lI)(bad:Bool)(tinsns:lN)(thandlers:lH)(tloops:lP)(tselects:lS)(tlists:lL)(tobjs:lO)(tinits:lT)(texcs:Int)(ttasks:lK)(tprots:lM)(tchecks:lC):Option (lI×Bool×lN×lH×lP×lS×lL×lO×lT×Int×lK×lM×lC):=
 aq (λ(c00v84:lI)(c02v85:Bool)(c10v86:lN)=>
 aq (λ(c00v107:lI)(c02v108:Bool)(c11v109:lH)=>
 aq (λ(c00v130:lI)(c02v131:Bool)(c12v132:lP)=>
 aq (λ(c00v153:lI)(c02v154:Bool)(c13v155:lS)=>
 aq (λ(c00v176:lI)(c02v177:Bool)(c14v178:lL)=>
 aq (λ(c00v199:lI)(c02v200:Bool)(c15v201:lO)=>
 aq (λ(c00v222:lI)(c02v223:Bool)(c16v224:lT)=>
 (f131_T c00v222 c02v223 c10v86 c11v109 c12v132 c13v155 c14v178 c15v201 c16v224 texcs ttasks tprots tchecks).bind λp=>
 aq (λ(c00v247:lI)(c02v248:Bool)(c18v249:lK)=>
 aq (λ(c00v270:lI)(c02v271:Bool)(c19v272:lM)=>
 aq (λ(c00v293:lI)(c02v294:Bool)(c110v295:lC)=>
 some (c00v293,c02v294,c10v86,c11v109,c12v132,c13v155,c14v178,c15v201,c16v224,p.2.2,c18v249,c19v272,c110v295)) λr=>
 (f53 c00v270 c02v271 (tchecks.length:Int)).bind λa=>
 (bif ((decide (a.2.2<0))||(decide (a.2.2>(i64.wrap (Int.tdiv (a.1.length:Int) 8))))) then(r a.1 true tchecks) else aS (dP 16 a.2.2)<|
 (f54_l10 r a (Int.toNat ((List.length (List.replicate a.2.2.toNat ((bf.mk 0 0):bf)):Int) - 0)+1) 0 (List.replicate a.2.2.toNat ((bf.mk 0 0):bf)) a.1 a.2.1))) λt=>
 (f53 c00v247 c02v248 (tprots.length:Int)).bind λc=>
 (bif ((decide (c.2.2<0))||(decide (c.2.2>(i64.wrap (Int.tdiv (c.1.length:Int) 8))))) then(t c.1 true tprots) else aS (dP 32 c.2.2)<|
 (f54_l9 t c (Int.toNat ((List.length (List.replicate c.2.2.toNat ((aT.mk 0 []):aT)):Int) - 0)+1) 0 (List.replicate c.2.2.toNat ((aT.mk 0 []):aT)) c.1 c.2.1))) λw=>
 (f53 p.1 p.2.1 (ttasks.length:Int)).bind λd=>
 (bif ((decide (d.2.2<0))||(decide (d.2.2>(i64.wrap (Int.tdiv (d.1.length:Int) 8))))) then(w d.1 true ttasks) else aS (dP 48 d.2.2)<|
 (f54_l8 w d (Int.toNat ((List.length (List.replicate d.2.2.toNat ((aK.mk 0 0 [] 0):aK)):Int) - 0)+1) 0 (List.replicate d.2.2.toNat ((aK.mk 0 0 [] 0):aK)) d.1 d.2.1))) λx=>
 (f53 c00v199 c02v200 (tinits.length:Int)).bind λe=>
 (bif ((decide (e.2.2<0))||(decide (e.2.2>(i64.wrap (Int.tdiv (e.1.length:Int) 8))))) then(x e.1 true tinits) else aS (dP 24 e.2.2)<|
 (f54_l7 x e (Int.toNat ((List.length (List.replicate e.2.2.toNat ((bq.mk 0 0 0):bq)):Int) - 0)+1) 0 (List.replicate e.2.2.toNat ((bq.mk 0 0 0):bq)) e.1 e.2.1))) λy=>
 (f53 c00v176 c02v177 (tobjs.length:Int)).bind λf=>
 (bif ((decide (f.2.2<0))||(decide (f.2.2>(i64.wrap (Int.tdiv (f.1.length:Int) 8))))) then(y f.1 true tobjs) else aS (dP 56 f.2.2)<|
 (f54_l6 y f (Int.toNat ((List.length (List.replicate f.2.2.toNat ((Obj.mk 0 0 0 false []):Obj)):Int) - 0)+1) 0 (List.replicate f.2.2.toNat ((Obj.mk 0 0 0 false []):Obj)) f.1 f.2.1))) λA=>
 (f53 c00v153 c02v154 (tlists.length:Int)).bind λg=>
 (bif ((decide (g.2.2<0))||(decide (g.2.2>(i64.wrap (Int.tdiv (g.1.length:Int) 8))))) then(A g.1 true tlists) else aS (dP 24 g.2.2)<|
 (f54_l5 A g (Int.toNat ((List.length (List.replicate g.2.2.toNat ([]:lI)):Int) - 0)+1) 0 (List.replicate g.2.2.toNat ([]:lI)) g.1 g.2.1))) λB=>
 (f53 c00v130 c02v131 (tselects.length:Int)).bind λh=>
 (bif ((decide (h.2.2<0))||(decide (h.2.2>(i64.wrap (Int.tdiv (h.1.length:Int) 8))))) then(B h.1 true tselects) else aS (dP 40 h.2.2)<|
 (f54_l4 B h (Int.toNat ((List.length (List.replicate h.2.2.toNat ((az.mk [] 0 0):az)):Int) - 0)+1) 0 (List.replicate h.2.2.toNat ((az.mk [] 0 0):az)) h.1 h.2.1))) λC=>
 (f53 c00v107 c02v108 (tloops.length:Int)).bind λj=>
 (bif ((decide (j.2.2<0))||(decide (j.2.2>(i64.wrap (Int.tdiv (j.1.length:Int) 8))))) then(C j.1 true tloops) else aS (dP 24 j.2.2)<|
 (f54_l3 C j (Int.toNat ((List.length (List.replicate j.2.2.toNat ((Loop.mk 0 0 0):Loop)):Int) - 0)+1) 0 (List.replicate j.2.2.toNat ((Loop.mk 0 0 0):Loop)) j.1 j.2.1))) λE=>
 (f53 c00v84 c02v85 (thandlers.length:Int)).bind λk=>
 (bif ((decide (k.2.2<0))||(decide (k.2.2>(i64.wrap (Int.tdiv (k.1.length:Int) 8))))) then(E k.1 true thandlers) else aS (dP 32 k.2.2)<|
 (f54_l2 E k (Int.toNat ((List.length (List.replicate k.2.2.toNat ((ak.mk 0 0 0 false):ak)):Int) - 0)+1) 0 (List.replicate k.2.2.toNat ((ak.mk 0 0 0 false):ak)) k.1 k.2.1))) λF=>
 (f53 b bad (tinsns.length:Int)).bind λm=>
 (bif ((decide (m.2.2<0))||(decide (m.2.2>(i64.wrap (Int.tdiv (m.1.length:Int) 8))))) then(F m.1 true tinsns) else aS (dP 56 m.2.2)<|
 (f54_l1 F m (Int.toNat ((List.length (List.replicate m.2.2.toNat ((aJ.mk 0 0 0 0 0 0 0):aJ)):Int) - 0)+1) 0 (List.replicate m.2.2.toNat ((aJ.mk 0 0 0 0 0 0 0):aJ)) m.1 m.2.1))
def f17(b0:lI):Option (aC×Int):=
 (f53 b0 false 0).bind λc=>
 aq (λ(c10v46:lI)(c12v47:Bool)(c30v48:lN)(c31v49:lH)(c32v50:lP)(c33v51:lS)(c34v52:lL)(c35v53:lO)(c36v54:lT)(c37v55:Int)(c38v56:lK)(c39v57:lM)(c310v58:lC)=>
 (bif ((c12v47||(!decide (c.2.2=958023)))||(decide ((c10v46.length:Int)>0))) then some true else((f10 (aC.mk c30v48 c31v49 c32v50 c33v51 c34v52 c35v53 c36v54 c37v55 c38v56 c39v57 c310v58)).bind λe=>some (!e))).bind λf=>
 (bif f then some ((aC.mk [] [] [] [] [] [] [] 0 [] [] []),230) else some ((aC.mk c30v48 c31v49 c32v50 c33v51 c34v52 c35v53 c36v54 c37v55 c38v56 c39v57 c310v58),0))) λd=>
 (bif (!c.2.1) then (f54 c.1 c.2.1 [] [] [] [] [] [] [] 0 [] [] []).bind λa=>
 (d a.1 a.2.1 a.2.2.1 a.2.2.2.1 a.2.2.2.2.1 a.2.2.2.2.2.1 a.2.2.2.2.2.2.1 a.2.2.2.2.2.2.2.1 a.2.2.2.2.2.2.2.2.1 a.2.2.2.2.2.2.2.2.2.1 a.2.2.2.2.2.2.2.2.2.2.1 a.2.2.2.2.2.2.2.2.2.2.2.1 a.2.2.2.2.2.2.2.2.2.2.2.2) else(d c.1 c.2.1 [] [] [] [] [] [] [] 0 [] [] []))
def f115_l1(v0:Int)(d:lI->Option lI):Nat->Int->lI->Option lI
 |0,_,_=>none
 |n+1,a,c=>
 (bif (decide (a<(List.length (List.replicate (Int.toNat 8) (0:Int)):Int))) then aS (shc (i64.wrap (8*a)))<|
 (idx c a).bind λe=>
 (f115_l1 v0 d n (i64.wrap (a+1)) (List.set c a.toNat (IntKind.u8.wrap (Int.fdiv v0 (2^min (Int.toNat (i64.wrap (8*a))) i64.bits))))) else(d c))
def f115(v0:Int):Option lI:=
 aq (λ(a:lI)=>
 some a) λc=>
 (f115_l1 v0 c (Int.toNat ((List.length (List.replicate (Int.toNat 8) (0:Int)):Int) - 0)+1) 0 (List.replicate (Int.toNat 8) (0:Int)))
def f53p(bad:Bool)(l:lI)(x1:Int):Option (Bool×lI):=
 (f115 x1).bind λa=>
 aS (gA 1 l a)<|
 some (bad,(l++a))
def f53b(bad:Bool)(l:lI)(v:Int):Option (Bool×lI):=
 (f115 v).bind λa=>
 aS (gA 1 l a)<|
 some (bad,(l++a))
def f131p_l1(l1:List (Option Int)):Nat->Int->lI->Bool->Option (Bool×lI)
 |0,_,_,_=>none
 |n+1,c,f,c02v40=>
 (bif (decide (c<(l1.length:Int))) then aq (λ(h:lI)(c02v47:Bool)(c20v48:Int)=>
 (f131p_l1 l1 n (i64.wrap (c+1)) h c02v47)) λg=>
 (idx l1 c).bind λd=>
 (d).bind λa=>
 (f53b c02v40 f a).bind λe=>
 (d).bind λj=>
 aS ((a==j))<|
 (d).bind λk=>
 (bif (!decide (k=a)) then(g e.2 true a) else(g e.2 e.1 a)) else some (c02v40,f))
def f131p(bad:Bool)(l:lI)(l1:List (Option Int)):Option (Bool×lI):=
 (f131p_l1 l1 (Int.toNat ((l1.length:Int) - 0)+1) 0 l bad)
def f164p_l1(l1:List (Option Int)):Nat->Int->lI->Bool->Option (Bool×lI)
 |0,_,_,_=>none
 |n+1,c,f,c02v43=>
 (bif (decide (c<(l1.length:Int))) then aq (λ(h:lI)(c02v50:Bool)(c20v51:Int)=>
 (f164p_l1 l1 n (i64.wrap (c+1)) h c02v50)) λg=>
 (idx l1 c).bind λd=>
 (d).bind λa=>
 (f53b c02v43 f (i64.wrap a)).bind λe=>
 (d).bind λj=>
 aS (((IntKind.u8.wrap (i64.wrap a))==j))<|
 (d).bind λk=>
 (bif (!decide ((i64.wrap k)=(i64.wrap a))) then(g e.2 true (i64.wrap a)) else(g e.2 e.1 (i64.wrap a))) else some (c02v43,f))
def f164p(bad:Bool)(l:lI)(l1:List (Option Int)):Option (Bool×lI):=
 (f164p_l1 l1 (Int.toNat ((l1.length:Int) - 0)+1) 0 l bad)
def f191p_l1(l1:List (Option Int)):Nat->Int->lI->Bool->Option (Bool×lI)
 |0,_,_,_=>none
 |n+1,c,f,c02v43=>
 (bif (decide (c<(l1.length:Int))) then aq (λ(h:lI)(c02v50:Bool)(c20v51:Int)=>
 (f191p_l1 l1 n (i64.wrap (c+1)) h c02v50)) λg=>
 (idx l1 c).bind λd=>
 (d).bind λa=>
 (f53b c02v43 f (i64.wrap a)).bind λe=>
 (d).bind λj=>
 aS (((IntKind.u8.wrap (i64.wrap a))==j))<|
 (d).bind λk=>
 (bif (!decide ((i64.wrap k)=(i64.wrap a))) then(g e.2 true (i64.wrap a)) else(g e.2 e.1 (i64.wrap a))) else some (c02v43,f))
def f191p(bad:Bool)(l:lI)(l1:List (Option Int)):Option (Bool×lI):=
 (f191p_l1 l1 (Int.toNat ((l1.length:Int) - 0)+1) 0 l bad)
def f192p_l1(l1:List (Option Int)):Nat->Int->lI->Bool->Option (Bool×lI)
 |0,_,_,_=>none
 |n+1,c,f,c02v43=>
 (bif (decide (c<(l1.length:Int))) then aq (λ(h:lI)(c02v50:Bool)(c20v51:Int)=>
 (f192p_l1 l1 n (i64.wrap (c+1)) h c02v50)) λg=>
 (idx l1 c).bind λd=>
 (d).bind λa=>
 (f53b c02v43 f (i64.wrap a)).bind λe=>
 (d).bind λj=>
 aS (((IntKind.u8.wrap (i64.wrap a))==j))<|
 (d).bind λk=>
 (bif (!decide ((i64.wrap k)=(i64.wrap a))) then(g e.2 true (i64.wrap a)) else(g e.2 e.1 (i64.wrap a))) else some (c02v43,f))
def f192p(bad:Bool)(l:lI)(l1:List (Option Int)):Option (Bool×lI):=
 (f192p_l1 l1 (Int.toNat ((l1.length:Int) - 0)+1) 0 l bad)
def f193p_l1(l1:List (Option Int)):Nat->Int->lI->Bool->Option (Bool×lI)
 |0,_,_,_=>none
 |n+1,c,f,c02v43=>
 (bif (decide (c<(l1.length:Int))) then aq (λ(h:lI)(c02v50:Bool)(c20v51:Int)=>
 (f193p_l1 l1 n (i64.wrap (c+1)) h c02v50)) λg=>
 (idx l1 c).bind λd=>
 (d).bind λa=>
 (f53b c02v43 f (i64.wrap a)).bind λe=>
 (d).bind λj=>
 aS (((IntKind.u8.wrap (i64.wrap a))==j))<|
 (d).bind λk=>
 (bif (!decide ((i64.wrap k)=(i64.wrap a))) then(g e.2 true (i64.wrap a)) else(g e.2 e.1 (i64.wrap a))) else some (c02v43,f))
def f193p(bad:Bool)(l:lI)(l1:List (Option Int)):Option (Bool×lI):=
 (f193p_l1 l1 (Int.toNat ((l1.length:Int) - 0)+1) 0 l bad)
def f174p_l1(l1:List (Option Int)):Nat->Int->lI->Bool->Option (Bool×lI)
 |0,_,_,_=>none
 |n+1,c,f,c02v43=>
 (bif (decide (c<(l1.length:Int))) then aq (λ(h:lI)(c02v50:Bool)(c20v51:Int)=>
 (f174p_l1 l1 n (i64.wrap (c+1)) h c02v50)) λg=>
 (idx l1 c).bind λd=>
 (d).bind λa=>
 (f53b c02v43 f (i64.wrap a)).bind λe=>
 (d).bind λj=>
 aS (((IntKind.u8.wrap (i64.wrap a))==j))<|
 (d).bind λk=>
 (bif (!decide ((i64.wrap k)=(i64.wrap a))) then(g e.2 true (i64.wrap a)) else(g e.2 e.1 (i64.wrap a))) else some (c02v43,f))
def f174p(bad:Bool)(l:lI)(l1:List (Option Int)):Option (Bool×lI):=
 (f174p_l1 l1 (Int.toNat ((l1.length:Int) - 0)+1) 0 l bad)
def f165p(bad:Bool)(l:lI)(x1:Bool):Option (Bool×lI):=
 aq (λ(c20v32:Int)=>
 (f53b bad l c20v32).bind λa=>
 aS (((decide (c20v32=1))==x1))<|
 some (((a.1||(decide (c20v32<0)))||(decide (c20v32>1))),a.2)) λc=>
 (bif x1 then(c 1) else(c 0))
def f169p(bad:Bool)(l:lI)(x1:Int):Option (Bool×lI):=
 (f131p bad l [(some x1)]).bind λa=>
 some (a.1,a.2)
def f118p(bad:Bool)(l:lI)(x1:aJ):Option (Bool×lI):=
 (f164p bad l [(some x1.op)]).bind λc=>
 (f131p c.1 c.2 [(some x1.d),(some x1.a),(some x1.b)]).bind λe=>
 (f53p e.1 e.2 x1.n).bind λf=>
 (f53p f.1 f.2 x1.m).bind λg=>
 (f131p g.1 g.2 [(some x1.to)]).bind λh=>
 some (h.1,h.2)
def f120p(bad:Bool)(l:lI)(x1:ak):Option (Bool×lI):=
 (f131p bad l [(some x1.from_),(some x1.to),(some x1.at_)]).bind λa=>
 (f165p a.1 a.2 x1.clean).bind λc=>
 some (c.1,c.2)
def f122p(bad:Bool)(l:lI)(x1:Loop):Option (Bool×lI):=
 (f131p bad l [(some x1.head),(some x1.back)]).bind λa=>
 (f53p a.1 a.2 x1.bound).bind λc=>
 some (c.1,c.2)
def f167p(bad:Bool)(l:lI)(x1:be):Option (Bool×lI):=
 (f191p bad l [(some x1.kind)]).bind λa=>
 (f131p a.1 a.2 [(some x1.entry),(some x1.guard),(some x1.time),(some x1.at_)]).bind λc=>
 some (c.1,c.2)
def f130p(bad:Bool)(l:lI)(x1:bq):Option (Bool×lI):=
 (f131p bad l [(some x1.o),(some x1.slot)]).bind λa=>
 (f53p a.1 a.2 x1.v).bind λc=>
 some (c.1,c.2)
def f137p(bad:Bool)(l:lI)(x1:bf):Option (Bool×lI):=
 (f131p bad l [(some x1.at_)]).bind λa=>
 (f174p a.1 a.2 [(some x1.kind)]).bind λc=>
 some (c.1,c.2)
def f126p_l1(x1:lI)(a:lI->Bool->Option (Bool×lI)):Nat->Int->lI->Bool->Option (Bool×lI)
 |0,_,_,_=>none
 |n+1,c,d,c02v26=>
 (bif (decide (c<(x1.length:Int))) then(bif c02v26 then(a d c02v26) else (idx x1 c).bind λf=>
 (f169p c02v26 d f).bind λe=>
 (f126p_l1 x1 a n (i64.wrap (c+1)) e.2 e.1)) else(a d c02v26))
def f126p(bad:Bool)(l:lI)(x1:lI):Option (Bool×lI):=
 aq (λ(c:lI)(c02v15:Bool)=>
 some (c02v15,c)) λd=>
 (f53b bad l (x1.length:Int)).bind λa=>
 (f126p_l1 x1 d (Int.toNat ((x1.length:Int) - 0)+1) 0 a.2 a.1)
def f128p(bad:Bool)(l:lI)(x1:Obj):Option (Bool×lI):=
 (f131p bad l [(some x1.size)]).bind λa=>
 (f53p a.1 a.2 x1.lo).bind λc=>
 (f53p c.1 c.2 x1.hi).bind λd=>
 (f165p d.1 d.2 x1.ptr).bind λe=>
 (f126p e.1 e.2 x1.set_).bind λf=>
 some (f.1,f.2)
def f171p(bad:Bool)(l:lI)(x1:aB):Option (Bool×lI):=
 (f126p bad l x1.ins).bind λa=>
 (f126p a.1 a.2 x1.outs).bind λc=>
 some (c.1,c.2)
def f124p_l1(x1:az)(a:lI->Bool->Option (Bool×lI)):Nat->Int->lI->Bool->Option (Bool×lI)
 |0,_,_,_=>none
 |n+1,c,d,c02v37=>
 (bif (decide (c<(x1.alts.length:Int))) then(bif c02v37 then(a d c02v37) else (idx x1.alts c).bind λf=>
 (f167p c02v37 d f).bind λe=>
 (f124p_l1 x1 a n (i64.wrap (c+1)) e.2 e.1)) else(a d c02v37))
def f124p(bad:Bool)(l:lI)(x1:az):Option (Bool×lI):=
 aq (λ(d:lI)(c02v26:Bool)=>
 (f131p c02v26 d [(some x1.obj),(some x1.else_)]).bind λa=>
 some (a.1,a.2)) λe=>
 (f53b bad l (x1.alts.length:Int)).bind λc=>
 (f124p_l1 x1 e (Int.toNat ((x1.alts.length:Int) - 0)+1) 0 c.2 c.1)
def f133p_l1(x1:aK)(a:lI->Bool->Option (Bool×lI)):Nat->Int->lI->Bool->Option (Bool×lI)
 |0,_,_,_=>none
 |n+1,c,d,c02v44=>
 (bif (decide (c<(x1.entries.length:Int))) then(bif c02v44 then(a d c02v44) else (idx x1.entries c).bind λf=>
 (f171p c02v44 d f).bind λe=>
 (f133p_l1 x1 a n (i64.wrap (c+1)) e.2 e.1)) else(a d c02v44))
def f133p(bad:Bool)(l:lI)(x1:aK):Option (Bool×lI):=
 (f131p bad l [(some x1.prio),(some x1.at_)]).bind λa=>
 aq (λ(e:lI)(c02v33:Bool)=>
 (f53p c02v33 e x1.deadline).bind λc=>
 some (c.1,c.2)) λf=>
 (f53b a.1 a.2 (x1.entries.length:Int)).bind λd=>
 (f133p_l1 x1 f (Int.toNat ((x1.entries.length:Int) - 0)+1) 0 d.2 d.1)
def f173ps_l1(e:Bool->lI->ae->Option (Bool×lI))(l:lI)(x1:ae)(a:lI->Bool->Option (Bool×lI)):Nat->Int->lI->Bool->Option (Bool×lI)
 |0,_,_,_=>none
 |n+1,c,d,c02v79=>
 (bif (decide (c<(x1.l.length:Int))) then(bif c02v79 then(a d c02v79) else (idx x1.l c).bind λg=>
 (e c02v79 d g).bind λf=>
 (f173ps_l1 e l x1 a n (i64.wrap (c+1)) f.2 f.1)) else(a d c02v79))
def f173ps(j:Bool->lI->ae->Option (Bool×lI))(bad:Bool)(l:lI)(x1:ae):Option (Bool×lI):=
 (f192p bad l [(some x1.kind)]).bind λa=>
 (f193p a.1 a.2 [(some x1.op)]).bind λc=>
 (f53p c.1 c.2 x1.n).bind λd=>
 (f131p d.1 d.2 [(some x1.o),(some x1.off),(some x1.len)]).bind λe=>
 (f53p e.1 e.2 x1.lo).bind λf=>
 (f53p f.1 f.2 x1.hi).bind λg=>
 aq (λ(k:lI)(c02v68:Bool)=>
 some (c02v68,k)) λm=>
 (f53b g.1 g.2 (x1.l.length:Int)).bind λh=>
 (f173ps_l1 j l x1 m (Int.toNat ((x1.l.length:Int) - 0)+1) 0 h.2 h.1)
def f173p:Nat->Bool->lI->ae->Option (Bool×lI)
 |0=>λ_ _ _=>none
 |n+1=>f173ps (f173p n)
def f135p_l1(x1:aT)(a:lI->Bool->Option (Bool×lI)):Nat->Int->lI->Bool->Option (Bool×lI)
 |0,_,_,_=>none
 |n+1,c,d,c02v36=>
 (bif (decide (c<(x1.barriers.length:Int))) then(bif c02v36 then(a d c02v36) else (idx x1.barriers c).bind λf=>
 (f173p 9223372036854775808 c02v36 d f).bind λe=>
 (f135p_l1 x1 a n (i64.wrap (c+1)) e.2 e.1)) else(a d c02v36))
def f135p(bad:Bool)(l:lI)(x1:aT):Option (Bool×lI):=
 (f131p bad l [(some x1.ceiling)]).bind λa=>
 aq (λ(d:lI)(c02v25:Bool)=>
 some (c02v25,d)) λe=>
 (f53b a.1 a.2 (x1.barriers.length:Int)).bind λc=>
 (f135p_l1 x1 e (Int.toNat ((x1.barriers.length:Int) - 0)+1) 0 c.2 c.1)
def f54p_l1(x1:aC)(a:lI->Bool->Option (Bool×lI)):Nat->Int->lI->Bool->Option (Bool×lI)
 |0,_,_,_=>none
 |n+1,c,d,c02v97=>
 (bif (decide (c<(x1.insns.length:Int))) then(bif c02v97 then(a d c02v97) else (idx x1.insns c).bind λf=>
 (f118p c02v97 d f).bind λe=>
 (f54p_l1 x1 a n (i64.wrap (c+1)) e.2 e.1)) else(a d c02v97))
def f54p_l2(x1:aC)(a:lI->Bool->Option (Bool×lI)):Nat->Int->lI->Bool->Option (Bool×lI)
 |0,_,_,_=>none
 |n+1,c,d,c02v119=>
 (bif (decide (c<(x1.handlers.length:Int))) then(bif c02v119 then(a d c02v119) else (idx x1.handlers c).bind λf=>
 (f120p c02v119 d f).bind λe=>
 (f54p_l2 x1 a n (i64.wrap (c+1)) e.2 e.1)) else(a d c02v119))
def f54p_l3(x1:aC)(a:lI->Bool->Option (Bool×lI)):Nat->Int->lI->Bool->Option (Bool×lI)
 |0,_,_,_=>none
 |n+1,c,d,c02v141=>
 (bif (decide (c<(x1.loops.length:Int))) then(bif c02v141 then(a d c02v141) else (idx x1.loops c).bind λf=>
 (f122p c02v141 d f).bind λe=>
 (f54p_l3 x1 a n (i64.wrap (c+1)) e.2 e.1)) else(a d c02v141))
def f54p_l4(x1:aC)(a:lI->Bool->Option (Bool×lI)):Nat->Int->lI->Bool->Option (Bool×lI)
 |0,_,_,_=>none
 |n+1,c,d,c02v163=>
 (bif (decide (c<(x1.selects.length:Int))) then(bif c02v163 then(a d c02v163) else (idx x1.selects c).bind λf=>
 (f124p c02v163 d f).bind λe=>
 (f54p_l4 x1 a n (i64.wrap (c+1)) e.2 e.1)) else(a d c02v163))
def f54p_l5(x1:aC)(a:lI->Bool->Option (Bool×lI)):Nat->Int->lI->Bool->Option (Bool×lI)
 |0,_,_,_=>none
 |n+1,c,d,c02v185=>
 (bif (decide (c<(x1.lists.length:Int))) then(bif c02v185 then(a d c02v185) else (idx x1.lists c).bind λf=>
 (f126p c02v185 d f).bind λe=>
 (f54p_l5 x1 a n (i64.wrap (c+1)) e.2 e.1)) else(a d c02v185))
def f54p_l6(x1:aC)(a:lI->Bool->Option (Bool×lI)):Nat->Int->lI->Bool->Option (Bool×lI)
 |0,_,_,_=>none
 |n+1,c,d,c02v207=>
 (bif (decide (c<(x1.objs.length:Int))) then(bif c02v207 then(a d c02v207) else (idx x1.objs c).bind λf=>
 (f128p c02v207 d f).bind λe=>
 (f54p_l6 x1 a n (i64.wrap (c+1)) e.2 e.1)) else(a d c02v207))
def f54p_l7(x1:aC)(a:lI->Bool->Option (Bool×lI)):Nat->Int->lI->Bool->Option (Bool×lI)
 |0,_,_,_=>none
 |n+1,c,d,c02v229=>
 (bif (decide (c<(x1.inits.length:Int))) then(bif c02v229 then(a d c02v229) else (idx x1.inits c).bind λf=>
 (f130p c02v229 d f).bind λe=>
 (f54p_l7 x1 a n (i64.wrap (c+1)) e.2 e.1)) else(a d c02v229))
def f54p_l8(x1:aC)(a:lI->Bool->Option (Bool×lI)):Nat->Int->lI->Bool->Option (Bool×lI)
 |0,_,_,_=>none
 |n+1,c,d,c02v253=>
 (bif (decide (c<(x1.tasks.length:Int))) then(bif c02v253 then(a d c02v253) else (idx x1.tasks c).bind λf=>
 (f133p c02v253 d f).bind λe=>
 (f54p_l8 x1 a n (i64.wrap (c+1)) e.2 e.1)) else(a d c02v253))
def f54p_l9(x1:aC)(a:lI->Bool->Option (Bool×lI)):Nat->Int->lI->Bool->Option (Bool×lI)
 |0,_,_,_=>none
 |n+1,c,d,c02v275=>
 (bif (decide (c<(x1.prots.length:Int))) then(bif c02v275 then(a d c02v275) else (idx x1.prots c).bind λf=>
 (f135p c02v275 d f).bind λe=>
 (f54p_l9 x1 a n (i64.wrap (c+1)) e.2 e.1)) else(a d c02v275))
def f54p_l10(x1:aC)(a:lI->Bool->Option (Bool×lI)):Nat->Int->lI->Bool->Option (Bool×lI)
 |0,_,_,_=>none
 |n+1,c,d,c02v297=>
 (bif (decide (c<(x1.checks.length:Int))) then(bif c02v297 then(a d c02v297) else (idx x1.checks c).bind λf=>
 (f137p c02v297 d f).bind λe=>
 (f54p_l10 x1 a n (i64.wrap (c+1)) e.2 e.1)) else(a d c02v297))
def f54p(bad:Bool)(l:lI)(x1:aC):Option (Bool×lI):=
 aq (λ(r:lI)(c02v86:Bool)=>
 aq (λ(t:lI)(c02v108:Bool)=>
 aq (λ(w:lI)(c02v130:Bool)=>
 aq (λ(x:lI)(c02v152:Bool)=>
 aq (λ(y:lI)(c02v174:Bool)=>
 aq (λ(A:lI)(c02v196:Bool)=>
 aq (λ(B:lI)(c02v218:Bool)=>
 (f131p c02v218 B [(some x1.excs)]).bind λa=>
 aq (λ(C:lI)(c02v242:Bool)=>
 aq (λ(E:lI)(c02v264:Bool)=>
 aq (λ(F:lI)(c02v286:Bool)=>
 some (c02v286,F)) λG=>
 (f53b c02v264 E (x1.checks.length:Int)).bind λc=>
 (f54p_l10 x1 G (Int.toNat ((x1.checks.length:Int) - 0)+1) 0 c.2 c.1)) λH=>
 (f53b c02v242 C (x1.prots.length:Int)).bind λd=>
 (f54p_l9 x1 H (Int.toNat ((x1.prots.length:Int) - 0)+1) 0 d.2 d.1)) λI=>
 (f53b a.1 a.2 (x1.tasks.length:Int)).bind λe=>
 (f54p_l8 x1 I (Int.toNat ((x1.tasks.length:Int) - 0)+1) 0 e.2 e.1)) λJ=>
 (f53b c02v196 A (x1.inits.length:Int)).bind λf=>
 (f54p_l7 x1 J (Int.toNat ((x1.inits.length:Int) - 0)+1) 0 f.2 f.1)) λK=>
 (f53b c02v174 y (x1.objs.length:Int)).bind λg=>
 (f54p_l6 x1 K (Int.toNat ((x1.objs.length:Int) - 0)+1) 0 g.2 g.1)) λL=>
 (f53b c02v152 x (x1.lists.length:Int)).bind λh=>
 (f54p_l5 x1 L (Int.toNat ((x1.lists.length:Int) - 0)+1) 0 h.2 h.1)) λM=>
 (f53b c02v130 w (x1.selects.length:Int)).bind λj=>
 (f54p_l4 x1 M (Int.toNat ((x1.selects.length:Int) - 0)+1) 0 j.2 j.1)) λN=>
 (f53b c02v108 t (x1.loops.length:Int)).bind λk=>
 (f54p_l3 x1 N (Int.toNat ((x1.loops.length:Int) - 0)+1) 0 k.2 k.1)) λO=>
 (f53b c02v86 r (x1.handlers.length:Int)).bind λm=>
 (f54p_l2 x1 O (Int.toNat ((x1.handlers.length:Int) - 0)+1) 0 m.2 m.1)) λP=>
 (f53b bad l (x1.insns.length:Int)).bind λp=>
 (f54p_l1 x1 P (Int.toNat ((x1.insns.length:Int) - 0)+1) 0 p.2 p.1)
def f20(t0:aC):Option (lI×Int):=
 (f10 t0).bind λc=>
 (bif (!c) then some ([],2) else (f53b false ([]:lI) 958023).bind λa=>
 (f54p a.1 a.2 t0).bind λd=>
 some (d.2,0))
def f9:oB:=some true
def f6(t0:aC)(b1:lI):oB:=
 (f8 t0).bind λf=>
 (bif (f||(decide ((b1.length:Int)>30000))) then (f9).bind λg=>
 some g else (f20 t0).bind λc=>
 (f17 c.1).bind λe=>
 (f10 t0).bind λh=>
 (bif (!(h==(decide (c.2=0)))) then some true else((bif (decide (c.2=0)) then((bif (!decide (e.2=0)) then some true else((f19 t0 e.1).bind λj=>some (!j))).bind λk=>some k) else some false).bind λm=>some m)).bind λp=>
 (bif p then some false else (f17 b1).bind λa=>
 (bif (!decide (a.2=0)) then (bif (decide (a.2=230)) then((f19 a.1 (aC.mk [] [] [] [] [] [] [] 0 [] [] [])).bind λr=>some r) else some false).bind λt=>
 (bif t then((f9).bind λw=>some w) else some false).bind λx=>
 some x else (f20 a.1).bind λd=>
 (bif (decide (d.2=0)) then(aS (iY d.1)<|aS (iY b1)<|some (((oQ d.1).toList==(oQ b1).toList))) else some false).bind λy=>
 (bif y then((f10 a.1).bind λA=>some A) else some false).bind λB=>
 (bif B then((f9).bind λC=>some C) else some false).bind λE=>
 some E)))
abbrev sN:AV:= .d (.v (.slice none 0 0))
abbrev fe(k:Int)(f o:Nat):Int×AV:=(k, .fn (.func f) [] [.pt o 0])
abbrev _root_.Go.Sk.AO.z:AO:= .dead
abbrev txA(t:aC):lV:=[.l E59 t.insns, .l E83 t.handlers, .l cP t.loops, .l E65 t.selects, .l E54 t.lists, .l E67 t.objs, .l E93 t.inits, .n t.excs, .l E70 t.tasks, .l E75 t.prots, .l aU t.checks]
abbrev txV(a:lN)(b:lH)(c:lP)(d:lS)(e:lL)(f:lO)(g:lT)(h:Int)(i:lK)(j:lM)(k:lC):lV:=[.l E59 a, .l E83 b, .l cP c, .l E65 d, .l E54 e, .l E67 f, .l E93 g, .n h, .l E70 i, .l E75 j, .l aU k]
abbrev n10:lV:=[sN,sN,sN,sN,sN,sN, .n 0,sN,sN,sN]
abbrev n9:lV:=[sN,sN,sN,sN,sN, .n 0,sN,sN,sN]
abbrev n8:lV:=[sN,sN,sN,sN, .n 0,sN,sN,sN]
abbrev n7:lV:=[sN,sN,sN, .n 0,sN,sN,sN]
abbrev n6:lV:=[sN,sN, .n 0,sN,sN,sN]
abbrev nT:lV:=sN::n10
abbrev rz:AO:= .row 33 nT
abbrev tD(a:lN)(b:lH)(c:lP)(d:lS)(e:lL)(l:lV):lV:= .l E59 a:: .l E83 b:: .l cP c:: .l E65 d:: .l E54 e::l
abbrev rC(a:lN)(b:lH)(c:lP)(d:lS)(e:lL):AO:= .row 33 (tD a b c d e n6)
abbrev rW(b:lI)(x:Bool):AO:= .row 100 [.l E5 b, .d (D.b true), .d (D.b x)]
abbrev rV(b:lI)(x:Bool):AO:= .row 107 [.l E5 b, .d (D.b x)]
end Go.Proofs.YtejcfgjpdocaoaaGreatDoor
