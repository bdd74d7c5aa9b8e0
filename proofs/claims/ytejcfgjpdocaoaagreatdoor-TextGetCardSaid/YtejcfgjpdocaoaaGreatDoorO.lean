/- Part of the proof. -/
import Derived.Test.YtejcfgjpdocaoaaGreatDoorSc
set_option linter.all false
namespace Go.Proofs.YtejcfgjpdocaoaaGreatDoor
open Go Go.Sk
open Go.IntKind (i64)
structure Field where
 name:Int
 lo:Int
 hi:Int
structure Row where
 op:Int
 name:ByteArray
 fields:List Field
structure aB where
 op:Int
 d:Int
 a:Int
 b:Int
 n:Int
 m:Int
 to:Int
structure am where
 from_:Int
 to:Int
 at_:Int
 clean:Bool
structure Loop where
 head:Int
 back:Int
 bound:Int
structure aX where
 kind:Int
 entry:Int
 guard:Int
 time:Int
 at_:Int
structure aC where
 alts:List aX
 obj:Int
 else_:Int
structure Obj where
 size:Int
 lo:Int
 hi:Int
 ptr:Bool
 set_:List Int
structure bt where
 o:Int
 slot:Int
 v:Int
structure az where
 ins:List Int
 outs:List Int
structure aJ where
 prio:Int
 at_:Int
 entries:List az
 deadline:Int
structure ah where
 kind:Int
 op:Int
 n:Int
 o:Int
 off:Int
 len:Int
 lo:Int
 hi:Int
 l:List ah
structure aV where
 ceiling:Int
 barriers:List ah
structure bc where
 at_:Int
 kind:Int
structure ao where
 insns:List aB
 handlers:List am
 loops:List Loop
 selects:List aC
 lists:List (List Int)
 objs:List Obj
 inits:List bt
 excs:Int
 tasks:List aJ
 prots:List aV
 checks:List bc
structure bR where
 text:ao
structure Judge where
 ik:bR
 entries:Int
 left:Int
structure Spot where
 o:Int
 slot:Int
structure gL where
 name:ByteArray
 fields:ByteArray
structure OutB where
 b:List Int
structure Coder where
 b:List Int
 read:Bool
 bad:Bool
structure Inp where
 b:List Int
 bad:Bool
abbrev R59(x:aB):List D:=[.i .u8 x.op, .i .i64 x.d, .i .i64 x.a, .i .i64 x.b, .i .i64 x.n, .i .i64 x.m, .i .i64 x.to]
abbrev E59(x:aB):List D:=R59 x
theorem dn(x:aB):E59 x=R59 x:=rfl
abbrev R83(x:am):List D:=[.i .i64 x.from_, .i .i64 x.to, .i .i64 x.at_, .b x.clean]
abbrev E83(x:am):List D:=R83 x
theorem eA(x:am):E83 x=R83 x:=rfl
abbrev cU(x:Loop):List D:=[.i .i64 x.head, .i .i64 x.back, .i .i64 x.bound]
abbrev dp(x:Loop):List D:=cU x
theorem d7(x:Loop):dp x=cU x:=rfl
abbrev c9(x:aX):List D:=[.i .u8 x.kind, .i .i64 x.entry, .i .i64 x.guard, .i .i64 x.time, .i .i64 x.at_]
abbrev eB(x:aX):List D:=c9 x
theorem fA(x:aX):eB x=c9 x:=rfl
abbrev R65(x:aC):List D:=[.sl (List.map eB x.alts), .i .i64 x.obj, .i .i64 x.else_]
abbrev E65(x:aC):List D:=R65 x
theorem jV(x:aC):E65 x=R65 x:=rfl
abbrev E3(x:Int):List D:=[.i .i64 x]
theorem bN(x:Int):E3 x=[.i .i64 x]:=rfl
abbrev E54(x:List Int):List D:=[.sl (List.map E3 x)]
theorem gO(x:List Int):E54 x=[.sl (List.map E3 x)]:=rfl
abbrev R67(x:Obj):List D:=[.i .i64 x.size, .i .i64 x.lo, .i .i64 x.hi, .b x.ptr, .sl (List.map E3 x.set_)]
abbrev E67(x:Obj):List D:=R67 x
theorem cV(x:Obj):E67 x=R67 x:=rfl
abbrev R93(x:bt):List D:=[.i .i64 x.o, .i .i64 x.slot, .i .i64 x.v]
abbrev E93(x:bt):List D:=R93 x
theorem eO(x:bt):E93 x=R93 x:=rfl
abbrev R72(x:az):List D:=[.sl (List.map E3 x.ins), .sl (List.map E3 x.outs)]
abbrev E72(x:az):List D:=R72 x
theorem eP(x:az):E72 x=R72 x:=rfl
abbrev R70(x:aJ):List D:=[.i .i64 x.prio, .i .i64 x.at_, .sl (List.map E72 x.entries), .i .i64 x.deadline]
abbrev E70(x:aJ):List D:=R70 x
theorem fJ(x:aJ):E70 x=R70 x:=rfl
abbrev lI:=List Int
abbrev lL:=List (List Int)
abbrev lN:=List aB
abbrev lH:=List am
abbrev lO:=List Obj
abbrev lD:=List D
abbrev lV:=List AV
abbrev lW:=List AO
abbrev oB:=Option Bool
abbrev lP:=List Loop
abbrev lS:=List aC
abbrev lT:=List bt
abbrev lK:=List aJ
abbrev lM:=List aV
abbrev lC:=List bc
abbrev fD:=Field.mk
abbrev bA:=ByteArray.mk

mutual
def E80:ah->lD
 | .mk kind op n o off len lo hi l=> [.i .u8 kind, .i .u8 op, .i .i64 n, .i .i64 o, .i .i64 off, .i .i64 len, .i .i64 lo, .i .i64 hi, .sl (E80s l)]
def E80s:List ah->List lD
 |[]=> []
 |e::l=>E80 e::E80s l
end
abbrev R80(x:ah):lD:=[.i .u8 x.kind, .i .u8 x.op, .i .i64 x.n, .i .i64 x.o, .i .i64 x.off, .i .i64 x.len, .i .i64 x.lo, .i .i64 x.hi, .sl (List.map E80 x.l)]
theorem ru:∀l,E80s l=List.map E80 l
 |[]=>rfl
 |e::l=>by rw[E80s,ru l];rfl
theorem dD(x:ah):E80 x=R80 x:=by
 cases x;simp only[E80,ru]
abbrev R75(x:aV):lD:=[.i .i64 x.ceiling, .sl (List.map E80 x.barriers)]
abbrev E75(x:aV):lD:=R75 x
theorem fk(x:aV):E75 x=R75 x:=rfl
abbrev eN(x:bc):lD:=[.i .i64 x.at_, .i .u8 x.kind]
abbrev aY(x:bc):lD:=eN x
theorem eG(x:bc):aY x=eN x:=rfl
abbrev R33(x:ao):lD:=[.sl (List.map E59 x.insns), .sl (List.map E83 x.handlers), .sl (List.map dp x.loops), .sl (List.map E65 x.selects), .sl (List.map E54 x.lists), .sl (List.map E67 x.objs), .sl (List.map E93 x.inits), .i .i64 x.excs, .sl (List.map E70 x.tasks), .sl (List.map E75 x.prots), .sl (List.map aY x.checks)]
abbrev R86(x:bR):lD:=[.sl (List.map E59 x.text.insns), .sl (List.map E83 x.text.handlers), .sl (List.map dp x.text.loops), .sl (List.map E65 x.text.selects), .sl (List.map E54 x.text.lists), .sl (List.map E67 x.text.objs), .sl (List.map E93 x.text.inits), .i .i64 x.text.excs, .sl (List.map E70 x.text.tasks), .sl (List.map E75 x.text.prots), .sl (List.map aY x.text.checks)]
abbrev yz(x:gL):lD:=[.s x.name, .s x.fields]
abbrev R247(x:Field):lD:=[.i .u8 x.name, .i .i64 x.lo, .i .i64 x.hi]
abbrev uI(x:Field):lD:=R247 x
theorem aL(x:Field):uI x=R247 x:=rfl
abbrev wu(x:Row):lD:=[.i .u8 x.op, .s x.name, .sl (List.map uI x.fields)]
abbrev wA(x:Row):lD:=wu x
theorem nN(x:Row):wA x=wu x:=rfl
abbrev E2(x:Int):lD:=[.i .i64 x]
abbrev E9(x:ByteArray):lD:=[.s x]
theorem wY(x:ByteArray):E9 x=[.s x]:=rfl
abbrev E5(x:Int):lD:=[.i .u8 x]
theorem lJ(x:Int):E5 x=[.i .u8 x]:=rfl
def je:List gL:=mV.map λp=>⟨p.1,p.2⟩
theorem ni:gpc 0=some (je.flatMap yz):=by
 unfold je
 rw[List.flatMap_map]
 rfl
def f163_l1(s0:lI)(c:Int->oB)(d:Unit->Option (Int)):Nat->Int->Option (Int)
 |0,_=>none
 |n+1,a=>
 (bif (decide (a<(s0.length:Int))) then (idx s0 a).bind λe=>
 (c e).bind λf=>
 (bif f then some a else(f163_l1 s0 c d n (i64.wrap (a+1)))) else(d ()))
def f163(s0:lI)(a:Int->oB):Option Int:=
 aq (λ(_:Unit)=>
 some (-1)) λc=>
 (f163_l1 s0 a c (Int.toNat ((s0.length:Int) - 0)+1) 0)
def f112(s0:lI)(a:Int->oB):oB:=
 (f163 s0 a).bind λc=>
 some (decide (c>=0))
def f113(n0:Int)(a:Int):Bool:=
 (decide ((i64.wrap (n0+1))=a))
def f45(o0:Obj)(v1:Int):oB:=
 (bif o0.ptr then (bif (decide (v1=0)) then some true else((f112 o0.set_ (λz0=>some (f113 z0 v1))).bind λa=>some a)).bind λc=>
 some c else some ((decide (v1>=o0.lo))&&(decide (v1<=o0.hi))))
def f88_l1(t0:bR)(o1:Obj)(d:Unit->oB):Nat->Int->Int->oB
 |0,_,_=>none
 |n+1,e,c=>
 (bif (decide (c<(o1.set_.length:Int))) then (idx o1.set_ c).bind λa=>
 (bif ((decide (a<=e))||(decide (a>=(t0.text.objs.length:Int)))) then some true else((idx t0.text.objs a).bind λf=>some (!decide (f.size=1)))).bind λg=>
 (bif g then some true else((idx t0.text.objs a).bind λh=>some h.ptr)).bind λj=>
 (bif j then some false else(f88_l1 t0 o1 d n a (i64.wrap (c+1)))) else(d ()))
def f88(t0:bR)(o1:Obj):oB:=
 (bif (((decide (o1.size<1))||(decide (o1.size>16384)))||(decide (o1.lo>o1.hi))) then some false else(bif (!o1.ptr) then some (decide ((o1.set_.length:Int)=0)) else aq (λ(_:Unit)=>
 some ((decide (o1.lo=0))&&(decide (o1.hi=0)))) λa=>
 (f88_l1 t0 o1 a (Int.toNat ((o1.set_.length:Int) - 0)+1) (-1) 0)))
def f89(t0:bR)(o1:Int)(a:Int)(c:Int):oB:=
 (bif (((decide (o1>=0))&&(decide (o1<(t0.text.objs.length:Int))))&&(decide (a>=0))) then((idx t0.text.objs o1).bind λd=>some (decide (a<=(i64.wrap (d.size - c))))) else some false).bind λe=>
 some e
def f27_l1(t0:bR)(c:Int->oB):Nat->Int->Int->oB
 |0,_,_=>none
 |n+1,d,a=>
 (bif (decide (a<(t0.text.objs.length:Int))) then (idx t0.text.objs a).bind λe=>
 (f88 t0 e).bind λf=>
 (bif (!f) then some false else(f27_l1 t0 c n (i64.wrap (d+e.size)) (i64.wrap (a+1)))) else(c d))
def f27_l2(t0:bR)(e:(List ((Int×Int)×Bool))->oB):Nat->Int->(List ((Int×Int)×Bool))->oB
 |0,_,_=>none
 |n+1,c,d=>
 (bif (decide (c<(t0.text.inits.length:Int))) then (idx t0.text.inits c).bind λa=>
 (bif (Option.getD (dG d (a.o,a.slot)) false) then some true else((f89 t0 a.o a.slot 1).bind λf=>some (!f))).bind λg=>
 (bif g then some true else((idx t0.text.objs a.o).bind λh=>(f45 h a.v).bind λj=>some (!j))).bind λk=>
 (bif k then some false else(f27_l2 t0 e n (i64.wrap (c+1)) (co d (a.o,a.slot) true))) else(e d))
def f27(t0:bR):oB:=
 (bif (((decide ((t0.text.objs.length:Int)>4096))||(decide (t0.text.excs<4)))||(decide (t0.text.excs>64))) then some false else aq (λ(a:Int)=>
 aq (λ(e:List ((Int×Int)×Bool))=>
 some (decide (a<=65536))) λc=>
 (f27_l2 t0 c (Int.toNat ((t0.text.inits.length:Int) - 0)+1) 0 ([]:List ((Int×Int)×Bool)))) λd=>
 (f27_l1 t0 d (Int.toNat ((t0.text.objs.length:Int) - 0)+1) 0 0))
def f47(t0:bR)(a1:Int):Bool:=
 ((decide (a1>=0))&&(decide (a1<(t0.text.insns.length:Int))))
def f151_l1(s0:List az)(c:az->oB)(d:Unit->Option (Int)):Nat->Int->Option (Int)
 |0,_=>none
 |n+1,a=>
 (bif (decide (a<(s0.length:Int))) then (idx s0 a).bind λe=>
 (c e).bind λf=>
 (bif f then some a else(f151_l1 s0 c d n (i64.wrap (a+1)))) else(d ()))
def f151(s0:List az)(a:az->oB):Option Int:=
 aq (λ(_:Unit)=>
 some (-1)) λc=>
 (f151_l1 s0 a c (Int.toNat ((s0.length:Int) - 0)+1) 0)
def f90(s0:List az)(a:az->oB):oB:=
 (f151 s0 a).bind λc=>
 some (decide (c>=0))
def f152(o0:Int)(a:bR):oB:=
 (bif ((decide (o0<0))||(decide (o0>=(a.text.objs.length:Int)))) then some true else((idx a.text.objs o0).bind λc=>some (!decide (c.size=1)))).bind λd=>
 some d
def f92(t0:bR)(l1:lI):oB:=
 (bif (decide ((l1.length:Int)<=8)) then((f112 l1 λz0=>f152 z0 t0).bind λa=>some (!a)) else some false).bind λc=>
 some c
def f91(e0:az)(a:bR):oB:=
 (f92 a e0.ins).bind λc=>
 (bif (!c) then some true else((f92 a e0.outs).bind λd=>some (!d))).bind λe=>
 some e
def f28_l1(t0:bR)(d:Unit->oB):Nat->Int->oB
 |0,_=>none
 |n+1,c=>
 (bif (decide (c<(t0.text.tasks.length:Int))) then (idx t0.text.tasks c).bind λa=>
 (bif ((((((decide (a.prio<0))||(decide (a.prio>31)))||(!(f47 t0 a.at_)))||(decide (a.deadline<0)))||(decide (a.deadline>2147483647)))||(decide ((a.entries.length:Int)>8))) then some false else (f90 a.entries λz0=>f91 z0 t0).bind λe=>
 (bif e then some false else(f28_l1 t0 d n (i64.wrap (c+1))))) else(d ()))
def f28(t0:bR):oB:=
 (bif ((decide ((t0.text.tasks.length:Int)<1))||(decide ((t0.text.tasks.length:Int)>32))) then some false else aq (λ(_:Unit)=>
 some true) λa=>
 (f28_l1 t0 a (Int.toNat ((t0.text.tasks.length:Int) - 0)+1) 0))
def f29_l2(t0:bR)(c:lI)(f:(List (Int×Bool))->oB):Nat->Int->(List (Int×Bool))->oB
 |0,_,_=>none
 |na+1,d,e=>
 (bif (decide (d<(c.length:Int))) then (idx c d).bind λa=>
 (bif (((decide (a<1))||(decide (a>=(t0.text.tasks.length:Int))))||(Option.getD (dG e a) false)) then some false else(f29_l2 t0 c f na (i64.wrap (d+1)) (co e a true))) else(f e))
def f29_l1(t0:bR)(d:Unit->oB):Nat->Int->oB
 |0,_=>none
 |n+1,a=>
 (bif (decide (a<(t0.text.lists.length:Int))) then aq (λ(h:List (Int×Bool))=>
 (f29_l1 t0 d n (i64.wrap (a+1)))) λe=>
 (idx t0.text.lists a).bind λc=>
 aq (λ(f:List (Int×Bool))=>
 (bif (decide ((c.length:Int)>32)) then some false else(e f))) λg=>
 (f29_l2 t0 c g (Int.toNat ((c.length:Int) - 0)+1) 0 ([]:List (Int×Bool))) else(d ()))
def f29(t0:bR):oB:=
 (bif (decide ((t0.text.lists.length:Int)>4096)) then some false else aq (λ(_:Unit)=>
 some true) λa=>
 (f29_l1 t0 a (Int.toNat ((t0.text.lists.length:Int) - 0)+1) 0))
def f93s_l1(d:lN->lH->lP->lS->lL->lO->lT->Int->lK->lM->lC->Int->Int->ah->Int->Option (Bool×lN×lH×lP×lS×lL×lO×lT×Int×lK×lM×lC×Int×Int))(e1:ah)(e:Int)(f:Int->lN->lH->lP->lS->lL->lO->lT->Int->lK->lM->lC->Int->Int->Option (Bool×lN×lH×lP×lS×lL×lO×lT×Int×lK×lM×lC×Int×Int))(g:lN->lH->lP->lS->lL->lO->lT->Int->lK->lM->lC->Int->Int->Option (Bool×lN×lH×lP×lS×lL×lO×lT×Int×lK×lM×lC×Int×Int)):Nat->Int->lN->lH->lP->lS->lL->lO->lT->Int->lK->lM->lC->Int->Int->Option (Bool×lN×lH×lP×lS×lL×lO×lT×Int×lK×lM×lC×Int×Int)
 |0,_,_,_,_,_,_,_,_,_,_,_,_,_,_=>none
 |n+1,c,c00v179,c01v180,c02v181,c03v182,c04v183,c05v184,c06v185,c07v186,c08v187,c09v188,c010v189,c011v190,c012v191=>
 (bif (decide (c<(e1.l.length:Int))) then (idx e1.l c).bind λh=>
 aq (λ(j:Bool)(c00v209:lN)(c01v210:lH)(c02v211:lP)(c03v212:lS)(c04v213:lL)(c05v214:lO)(c06v215:lT)(c07v216:Int)(c08v217:lK)(c09v218:lM)(c010v219:lC)(c011v220:Int)(c012v221:Int)=>
 (bif j then(f c c00v209 c01v210 c02v211 c03v212 c04v213 c05v214 c06v215 c07v216 c08v217 c09v218 c010v219 c011v220 c012v221) else(f93s_l1 d e1 e f g n (i64.wrap (c+1)) c00v209 c01v210 c02v211 c03v212 c04v213 c05v214 c06v215 c07v216 c08v217 c09v218 c010v219 c011v220 c012v221))) λk=>
 (d c00v179 c01v180 c02v181 c03v182 c04v183 c05v184 c06v185 c07v186 c08v187 c09v188 c010v189 c011v190 c012v191 h (i64.wrap (e+1))).bind λa=>
 (k (!a.1) a.2.1 a.2.2.1 a.2.2.2.1 a.2.2.2.2.1 a.2.2.2.2.2.1 a.2.2.2.2.2.2.1 a.2.2.2.2.2.2.2.1 a.2.2.2.2.2.2.2.2.1 a.2.2.2.2.2.2.2.2.2.1 a.2.2.2.2.2.2.2.2.2.2.1 a.2.2.2.2.2.2.2.2.2.2.2.1 a.2.2.2.2.2.2.2.2.2.2.2.2.1 a.2.2.2.2.2.2.2.2.2.2.2.2.2) else(g c00v179 c01v180 c02v181 c03v182 c04v183 c05v184 c06v185 c07v186 c08v187 c09v188 c010v189 c011v190 c012v191))
def f93s(C:lN->lH->lP->lS->lL->lO->lT->Int->lK->lM->lC->Int->Int->ah->Int->Option (Bool×lN×lH×lP×lS×lL×lO×lT×Int×lK×lM×lC×Int×Int))(f:lN)(g:lH)(h:lP)(j:lS)(k:lL)(c:lO)(m:lT)(p:Int)(r:lK)(t:lM)(w:lC)(jent:Int)(jleft:Int)(e1:ah)(x:Int):Option (Bool×lN×lH×lP×lS×lL×lO×lT×Int×lK×lM×lC×Int×Int):=
 aq (λ(E:Bool)(F:Int)(d:ah)(c21v100:Int)(c22v101:Int)(c23v102:Int)(c24v103:Int)=>
 (bif (((((((((((decide ((i64.wrap (jleft - 1))<0))||(decide (x>64)))||(!E))||(!decide ((e1.l.length:Int)=F)))||(!decide (e1.op=d.op)))||(!decide (e1.n=d.n)))||(!decide (e1.o=d.o)))||(!decide (e1.off=d.off)))||(!decide (e1.len=0)))||(!decide (e1.lo=0)))||(!decide (e1.hi=0))) then some (false,f,g,h,j,k,c,m,p,r,t,w,jent,(i64.wrap (jleft - 1))) else aq (λ(G:Bool)(c00v120:lN)(c01v121:lH)(c02v122:lP)(c03v123:lS)(c04v124:lL)(c05v125:lO)(c06v126:lT)(c07v127:Int)(c08v128:lK)(c09v129:lM)(c010v130:lC)(c011v131:Int)(c012v132:Int)=>
 some ((!G),c00v120,c01v121,c02v122,c03v123,c04v124,c05v125,c06v126,c07v127,c08v128,c09v129,c010v130,c011v131,c012v132)) λH=>
 aq (λ(I:Int)(c00v136:lN)(c01v137:lH)(c02v138:lP)(c03v139:lS)(c04v140:lL)(c05v141:lO)(c06v142:lT)(c07v143:Int)(c08v144:lK)(c09v145:lM)(c010v146:lC)(c011v147:Int)(c012v148:Int)=>
 (H (decide (I>=0)) c00v136 c01v137 c02v138 c03v139 c04v140 c05v141 c06v142 c07v143 c08v144 c09v145 c010v146 c011v147 c012v148)) λy=>
 aq (λ(c00v150:lN)(c01v151:lH)(c02v152:lP)(c03v153:lS)(c04v154:lL)(c05v155:lO)(c06v156:lT)(c07v157:Int)(c08v158:lK)(c09v159:lM)(c010v160:lC)(c011v161:Int)(c012v162:Int)=>
 (y (-1) c00v150 c01v151 c02v152 c03v153 c04v154 c05v155 c06v156 c07v157 c08v158 c09v159 c010v160 c011v161 c012v162)) λJ=>
 (f93s_l1 C e1 x y J (Int.toNat ((e1.l.length:Int) - 0)+1) 0 f g h j k c m p r t w jent (i64.wrap (jleft - 1))))) λe=>
 aq (λ(K:Int)(c21v106:Int)(c22v107:Int)(c23v108:Int)(c24v109:Int)=>
 (e true K (ah.mk e1.kind c21v106 c22v107 c23v108 c24v109 0 0 0 []) c21v106 c22v107 c23v108 c24v109)) λa=>
 (bif (decide (e1.kind=1)) then(a 0 0 e1.n 0 0) else(bif (decide (e1.kind=2)) then (f89 (bR.mk (ao.mk f g h j k c m p r t w)) e1.o e1.off 1).bind λL=>
 (bif (!L) then some true else((idx c e1.o).bind λM=>some M.ptr)).bind λN=>
 (bif N then(e false 0 (ah.mk e1.kind 0 0 0 0 0 0 0 []) 0 0 0 0) else(a 0 0 0 e1.o e1.off)) else(bif (decide (e1.kind=14)) then aq (λ(O:Bool)=>
 (e O 0 (ah.mk e1.kind 0 e1.n 0 0 0 0 0 []) 0 e1.n 0 0)) λA=>
 (bif (decide (e1.n>=0)) then(A (decide (e1.n<jent))) else(A false)) else(bif (decide (e1.kind=4)) then(a 1 18 0 0 0) else(bif (decide (e1.kind=5)) then(a 2 (if(if 15<e1.op then 15 else e1.op)>7 then(if 15<e1.op then 15 else e1.op) else 7) 0 0 0) else aq (λ(P:Bool)=>
 (bif P then(a 2 0 0 0 0) else(e false 0 (ah.mk e1.kind 0 0 0 0 0 0 0 []) 0 0 0 0))) λB=>
 (bif (decide (e1.kind=6)) then(B (decide (e1.kind=6))) else(B (decide (e1.kind=7)))))))))
def f93:Nat->lN->lH->lP->lS->lL->lO->lT->Int->lK->lM->lC->Int->Int->ah->Int->Option (Bool×lN×lH×lP×lS×lL×lO×lT×Int×lK×lM×lC×Int×Int)
 |0=>λ_ _ _ _ _ _ _ _ _ _ _ _ _ _ _=>none
 |n+1=>f93s (f93 n)
def f30_l2(t0:bR)(d:Int->(List ah)->oB)(a:aV):Nat->Int->oB
 |0,_=>none
 |na+1,c=>
 (bif (decide (c<(a.barriers.length:Int))) then (idx a.barriers c).bind λe=>
 (f93 66 t0.text.insns t0.text.handlers t0.text.loops t0.text.selects t0.text.lists t0.text.objs t0.text.inits t0.text.excs t0.text.tasks t0.text.prots t0.text.checks (a.barriers.length:Int) 256 e 1).bind λf=>
 (bif (!f.1) then some false else(f30_l2 t0 d a na (i64.wrap (c+1)))) else(d a.ceiling a.barriers))
def f30_l1(t0:bR)(d:Unit->oB):Nat->Int->oB
 |0,_=>none
 |n+1,c=>
 (bif (decide (c<(t0.text.prots.length:Int))) then aq (λ(c00v60:Int)(c01v61:List ah)=>
 (f30_l1 t0 d n (i64.wrap (c+1)))) λe=>
 (idx t0.text.prots c).bind λa=>
 (bif (((decide (a.ceiling<0))||(decide (a.ceiling>31)))||(decide ((a.barriers.length:Int)>8))) then some false else(f30_l2 t0 e a (Int.toNat ((a.barriers.length:Int) - 0)+1) 0)) else(d ()))
def f30(t0:bR):oB:=
 aq (λ(_:Unit)=>
 some (decide ((t0.text.prots.length:Int)<=32))) λa=>
 (f30_l1 t0 a (Int.toNat ((t0.text.prots.length:Int) - 0)+1) 0)
def f157(n0:Int)(a:bR)(c:Int):oB:=
 (f89 a c n0 1).bind λd=>
 some d
def f96(t0:bR)(a:Int)(a2:aX):oB:=
 (bif (!(f47 t0 a2.at_)) then some true else((bif (!decide (a2.guard=(-1))) then((f157 a2.guard t0 a).bind λd=>some (!d)) else some false).bind λe=>some e)).bind λf=>
 (bif f then some false else(bif (decide (a2.kind=1)) then some (((decide (a2.entry>=0))&&(decide (a2.entry<8)))&&(decide (a2.time=0))) else aq (λ(g:Bool)=>
 (bif g then (bif (decide (a2.entry=0)) then((f157 a2.time t0 a).bind λh=>some h) else some false).bind λj=>
 some j else some ((decide (a2.kind=4))&&(decide ((i64.wrap (BitVec.ofInt i64.bits a2.entry|||BitVec.ofInt i64.bits a2.time).toNat)=0))))) λc=>
 (bif (decide (a2.kind=2)) then(c (decide (a2.kind=2))) else(c (decide (a2.kind=3))))))
def f31_l2(t0:bR)(a:aC)(d:Int->oB)(e:Unit->oB):Nat->Int->oB
 |0,_=>none
 |na+1,c=>
 (bif (decide (c<(a.alts.length:Int))) then (idx a.alts c).bind λf=>
 aq (λ(g:Bool)=>
 (bif g then(d c) else(f31_l2 t0 a d e na (i64.wrap (c+1))))) λh=>
 (f96 t0 a.obj f).bind λj=>
 (h (!j)) else(e ()))
def f31_l1(t0:bR)(d:Unit->oB):Nat->Int->oB
 |0,_=>none
 |n+1,c=>
 (bif (decide (c<(t0.text.selects.length:Int))) then (idx t0.text.selects c).bind λa=>
 (bif (((((decide ((a.alts.length:Int)<1))||(decide ((a.alts.length:Int)>16)))||(decide (a.obj<0)))||(decide (a.obj>=(t0.text.objs.length:Int))))||((!decide (a.else_=(-1)))&&(!(f47 t0 a.else_)))) then some false else aq (λ(f:Bool)=>
 (bif f then some false else(f31_l1 t0 d n (i64.wrap (c+1))))) λg=>
 aq (λ(h:Int)=>
 (g (decide (h>=0)))) λe=>
 aq (λ(_:Unit)=>
 (e (-1))) λj=>
 (f31_l2 t0 a e j (Int.toNat ((a.alts.length:Int) - 0)+1) 0)) else(d ()))
def f31(t0:bR):oB:=
 (bif (decide ((t0.text.selects.length:Int)>1024)) then some false else aq (λ(_:Unit)=>
 some true) λa=>
 (f31_l1 t0 a (Int.toNat ((t0.text.selects.length:Int) - 0)+1) 0))
def f50(h0:am)(a1:Int):Bool:=
 ((decide (h0.from_<=a1))&&(decide (a1<h0.to)))
def f32_l2(t0:bR)(d:Int)(f:Int->Int->Int->Bool->oB)(a:am):Nat->Int->oB
 |0,_=>none
 |na+1,e=>
 (bif (decide (e<(List.length (br t0.text.handlers 0 d):Int))) then (idx (br t0.text.handlers 0 d) e).bind λc=>
 (bif ((!((decide (c.from_>=a.from_))&&(decide (c.to<=a.to))))&&(decide ((if a.from_>c.from_ then a.from_ else c.from_)<(if a.to<c.to then a.to else c.to)))) then some false else(f32_l2 t0 d f a na (i64.wrap (e+1)))) else(f a.from_ a.to a.at_ a.clean))
def f32_l1(t0:bR)(d:Unit->oB):Nat->Int->oB
 |0,_=>none
 |n+1,c=>
 (bif (decide (c<(t0.text.handlers.length:Int))) then aq (λ(c00v99:Int)(c01v100:Int)(c02v101:Int)(c03v102:Bool)=>
 (f32_l1 t0 d n (i64.wrap (c+1)))) λe=>
 (idx t0.text.handlers c).bind λa=>
 (bif (((((decide (a.from_<0))||(decide (a.from_>=a.to)))||(decide (a.to>(t0.text.insns.length:Int))))||(!(f47 t0 a.at_)))||(f50 a a.at_)) then some false else aN (ce t0.text.handlers 0 c)<|
 (f32_l2 t0 c e a (Int.toNat ((List.length (br t0.text.handlers 0 c):Int) - 0)+1) 0)) else(d ()))
def f32(t0:bR):oB:=
 (bif (decide ((t0.text.handlers.length:Int)>4096)) then some false else aq (λ(_:Unit)=>
 some true) λa=>
 (f32_l1 t0 a (Int.toNat ((t0.text.handlers.length:Int) - 0)+1) 0))
def f97(x0:aB)(a:Int):Bool:=
 ((((decide (x0.op=29))||(decide (x0.op=30)))||(decide (x0.op=31)))&&(decide (x0.to=a)))
def f33_l1(t0:bR)(e:(List (Int×Bool))->oB):Nat->Int->(List (Int×Bool))->oB
 |0,_,_=>none
 |n+1,c,d=>
 (bif (decide (c<(t0.text.loops.length:Int))) then (idx t0.text.loops c).bind λa=>
 (bif ((((decide (a.head<0))||(decide (a.head>a.back)))||(!(f47 t0 a.back)))||(Option.getD (dG d a.back) false)) then some true else((idx t0.text.insns a.back).bind λf=>some (!(f97 f a.head)))).bind λg=>
 (bif ((g||(decide (a.bound<0)))||(decide (a.bound>2147483647))) then some false else(f33_l1 t0 e n (i64.wrap (c+1)) (co d a.back true))) else(e d))
def f33(t0:bR):oB:=
 (bif (decide ((t0.text.loops.length:Int)>4096)) then some false else aq (λ(c:List (Int×Bool))=>
 some true) λa=>
 (f33_l1 t0 a (Int.toNat ((t0.text.loops.length:Int) - 0)+1) 0 ([]:List (Int×Bool))))
def f61(t0:bR)(a1:Int):oB:=
 (bif (f47 t0 a1) then((idx t0.text.insns a1).bind λa=>(bif (decide (a.op=27)) then some true else((idx t0.text.insns a1).bind λc=>some (decide (c.op=28)))).bind λd=>some d) else some false).bind λe=>
 some e
def f34_l1(t0:bR)(d:Unit->oB):Nat->Int->Int->oB
 |0,_,_=>none
 |n+1,e,c=>
 (bif (decide (c<(t0.text.checks.length:Int))) then (idx t0.text.checks c).bind λa=>
 (bif (decide (a.at_<=e)) then some true else((f61 t0 a.at_).bind λf=>some (!f))).bind λg=>
 (bif ((g||(decide (a.kind<1)))||(decide (a.kind>5))) then some false else(f34_l1 t0 d n a.at_ (i64.wrap (c+1)))) else(d ()))
def f34(t0:bR):oB:=
 aq (λ(_:Unit)=>
 some true) λa=>
 (f34_l1 t0 a (Int.toNat ((t0.text.checks.length:Int) - 0)+1) (-1) 0)
def f98_l1(s0:lN)(c:aB->oB)(d:Unit->Option (Int)):Nat->Int->Option (Int)
 |0,_=>none
 |n+1,a=>
 (bif (decide (a<(s0.length:Int))) then (idx s0 a).bind λe=>
 (c e).bind λf=>
 (bif f then some a else(f98_l1 s0 c d n (i64.wrap (a+1)))) else(d ()))
def f98(s0:lN)(a:aB->oB):Option Int:=
 aq (λ(_:Unit)=>
 some (-1)) λc=>
 (f98_l1 s0 a c (Int.toNat ((s0.length:Int) - 0)+1) 0)
def f35(s0:lN)(a:aB->oB):oB:=
 (f98 s0 a).bind λc=>
 some (decide (c>=0))
def f158(o0:Int):Option (gL×Bool):=
 (bif ((decide (o0<1))||(decide ((i64.wrap o0)>57))) then some ((gL.mk ByteArray.empty ByteArray.empty),false) else (idx je (IntKind.u8.wrap (o0 - 1))).bind λa=>
 some (a,true))
def f186_l1(s0:ByteArray)(c:Int->Int->Option (List ByteArray)):Nat->Int->Int->Int->Int->Option (List ByteArray)
 |0,_,_,_,_=>none
 |n+1,d,wasSpace116,setBits117,a=>
 (bif (decide (a<(s0.size:Int))) then (fp s0 a).bind λe=>
 (idx dJ e).bind λf=>
 (f186_l1 s0 c n (i64.wrap (d+(i64.wrap (BitVec.ofInt i64.bits wasSpace116&&&BitVec.ofInt i64.bits (i64.wrap (BitVec.ofInt i64.bits (-1)^^^BitVec.ofInt i64.bits (i64.wrap f)).toNat)).toNat))) (i64.wrap f) (IntKind.u8.wrap (BitVec.ofInt IntKind.u8.bits setBits117|||BitVec.ofInt IntKind.u8.bits e).toNat) (i64.wrap (a+1))) else(c d setBits117))
def f186_l2(s0:ByteArray)(c:Int->Option (List ByteArray)):Nat->Int->Option (List ByteArray)
 |0,_=>none
 |n+1,a=>
 (bif (decide (a<(s0.size:Int))) then((fp s0 a).bind λd=>(idx dJ d).bind λe=>some (!decide (e=0))) else some false).bind λf=>
 (bif f then(f186_l2 s0 c n (i64.wrap (a+1))) else(c a))
def f186_l4(s0:ByteArray)(c:Int->Option (List ByteArray)):Nat->Int->Option (List ByteArray)
 |0,_=>none
 |na+1,a=>
 (bif (decide (a<(s0.size:Int))) then((fp s0 a).bind λd=>(idx dJ d).bind λe=>some (!decide (e=0))) else some false).bind λf=>
 (bif f then(f186_l4 s0 c na (i64.wrap (a+1))) else(c a))
def f186_l3(s0:ByteArray)(e:Int->Int->(List ByteArray)->Option (List ByteArray)):Nat->Int->Int->Int->(List ByteArray)->Option (List ByteArray)
 |0,_,_,_,_=>none
 |n+1,a,fieldStart143,c,d=>
 (bif (decide (c<(s0.size:Int))) then aq (λ(h:Int)(fieldStart151:Int)(j:Int)(k:List ByteArray)=>
 (f186_l3 s0 e n h fieldStart151 j k)) λf=>
 (fp s0 c).bind λm=>
 (idx dJ m).bind λo=>
 (bif (decide (o=0)) then(f a fieldStart143 (i64.wrap (c+1)) d) else (rL s0 fieldStart143 c).bind λp=>
 (idx d a).bind λt=>
 aq (λ(g:Int)=>
 (f (i64.wrap (a+1)) g g (List.set d a.toNat p))) λr=>
 (f186_l4 s0 r 9223372036854775808 (i64.wrap (c+1)))) else(e a fieldStart143 d))
def f186(s0:ByteArray):Option (List ByteArray):=
 aq (λ(c:Int)(setBits109:Int)=>
 (bif (decide (setBits109>=128)) then none else aN (dY 16 c)<|
 aq (λ(d:Int)=>
 aq (λ(e:Int)(fieldStart135:Int)(a:List ByteArray)=>
 aq (λ(g:List ByteArray)=>
 some g) λf=>
 (bif (decide (fieldStart135<(s0.size:Int))) then (rL s0 fieldStart135 (s0.size:Int)).bind λh=>
 (idx a e).bind λo=>
 (f (List.set a e.toNat h)) else(f a))) λj=>
 (f186_l3 s0 j 9223372036854775808 0 d d (List.replicate c.toNat (ByteArray.empty:ByteArray)))) λk=>
 (f186_l2 s0 k 9223372036854775808 0))) λm=>
 (f186_l1 s0 m 9223372036854775808 0 1 0 0)
def f189(a:Int):Int×Int:=
 (bif (decide (a=114)) then(0,15) else(bif (decide (a=111)) then(0,4095) else(bif (decide (a=115)) then(0,65535) else(bif (decide (a=108)) then(1,65536) else(bif (decide (a=120)) then(1,64) else(bif (decide (a=107)) then(6,7) else(bif (decide (a=101)) then(0,7) else(bif (decide (a=112)) then(0,31) else(bif (decide (a=113)) then((-1),31) else(bif (decide (a=109)) then(0,3) else(bif (decide (a=106)) then(0,1023) else(bif (decide (a=98)) then(0,1) else((-9223372036854775808),9223372036854775807)))))))))))))
def f99_l1(e:Int->Int->Int->Int->Int->Int->ByteArray->ByteArray->Int->Int->Int->Int->oB)(f:Int->Int->Int->Int->Int->Int->ByteArray->ByteArray->Int->Int->Int->Int->oB)(g:Int->Int->Int->Int->Int->Int->ByteArray->ByteArray->Int->Int->Int->Int->oB)(h:Int->Int->Int->Int->Int->Int->ByteArray->ByteArray->Int->Int->Int->Int->oB)(j:Int->Int->Int->Int->Int->Int->ByteArray->ByteArray->Int->Int->Int->Int->oB)(k:Int->Int->Int->Int->Int->Int->ByteArray->ByteArray->Int->Int->Int->Int->oB)(m:Int->Int->Int->Int->Int->Int->ByteArray->ByteArray->oB)(a:gL×Bool)(c:List ByteArray):Nat->Int->Int->Int->Int->Int->Int->Int->oB
 |0,_,_,_,_,_,_,_=>none
 |n+1,d,c21v178,c22v179,c23v180,c24v181,c25v182,c26v183=>
 (bif (decide (d<(c.length:Int))) then (idx c d).bind λo=>
 (fp o 0).bind λA=>
 (bif (decide (A=68)) then aq (λ(_:Unit)=>
 (fp o 1).bind λp=>
 aq (λ(_:Unit)=>
 (e c21v178 c22v179 c23v180 c24v181 c25v182 c26v183 a.1.name a.1.fields ((f189 p).1) ((f189 p).2) ((f189 p).1) ((f189 p).2))) λB=>
 aq (λ(_:Unit)=>
 (f99_l1 e f g h j k m a c n (i64.wrap (d+1)) 0 c22v179 c23v180 c24v181 c25v182 c26v183)) λC=>
 aq (λ(_:Unit)=>
 (bif ((decide (c21v178<((f189 p).1)))||(decide (c21v178>((f189 p).2)))) then(B ()) else aq (λ(_:Unit)=>
 (C ())) λE=>
 (E ()))) λF=>
 (F ())) λG=>
 (G ()) else(bif (decide (A=65)) then aq (λ(_:Unit)=>
 (fp o 1).bind λr=>
 aq (λ(_:Unit)=>
 (f c21v178 c22v179 c23v180 c24v181 c25v182 c26v183 a.1.name a.1.fields ((f189 r).1) ((f189 r).2) ((f189 r).1) ((f189 r).2))) λH=>
 aq (λ(_:Unit)=>
 (f99_l1 e f g h j k m a c n (i64.wrap (d+1)) c21v178 0 c23v180 c24v181 c25v182 c26v183)) λI=>
 aq (λ(_:Unit)=>
 (bif ((decide (c22v179<((f189 r).1)))||(decide (c22v179>((f189 r).2)))) then(H ()) else aq (λ(_:Unit)=>
 (I ())) λJ=>
 (J ()))) λK=>
 (K ())) λL=>
 (L ()) else(bif (decide (A=66)) then aq (λ(_:Unit)=>
 (fp o 1).bind λt=>
 aq (λ(_:Unit)=>
 (g c21v178 c22v179 c23v180 c24v181 c25v182 c26v183 a.1.name a.1.fields ((f189 t).1) ((f189 t).2) ((f189 t).1) ((f189 t).2))) λM=>
 aq (λ(_:Unit)=>
 (f99_l1 e f g h j k m a c n (i64.wrap (d+1)) c21v178 c22v179 0 c24v181 c25v182 c26v183)) λN=>
 aq (λ(_:Unit)=>
 (bif ((decide (c23v180<((f189 t).1)))||(decide (c23v180>((f189 t).2)))) then(M ()) else aq (λ(_:Unit)=>
 (N ())) λO=>
 (O ()))) λP=>
 (P ())) λQ=>
 (Q ()) else(bif (decide (A=78)) then aq (λ(_:Unit)=>
 (fp o 1).bind λw=>
 aq (λ(_:Unit)=>
 (h c21v178 c22v179 c23v180 c24v181 c25v182 c26v183 a.1.name a.1.fields ((f189 w).1) ((f189 w).2) ((f189 w).1) ((f189 w).2))) λR=>
 aq (λ(_:Unit)=>
 (f99_l1 e f g h j k m a c n (i64.wrap (d+1)) c21v178 c22v179 c23v180 0 c25v182 c26v183)) λS=>
 aq (λ(_:Unit)=>
 (bif ((decide (c24v181<((f189 w).1)))||(decide (c24v181>((f189 w).2)))) then(R ()) else aq (λ(_:Unit)=>
 (S ())) λT=>
 (T ()))) λU=>
 (U ())) λV=>
 (V ()) else(bif (decide (A=77)) then aq (λ(_:Unit)=>
 (fp o 1).bind λx=>
 aq (λ(_:Unit)=>
 (j c21v178 c22v179 c23v180 c24v181 c25v182 c26v183 a.1.name a.1.fields ((f189 x).1) ((f189 x).2) ((f189 x).1) ((f189 x).2))) λW=>
 aq (λ(_:Unit)=>
 (f99_l1 e f g h j k m a c n (i64.wrap (d+1)) c21v178 c22v179 c23v180 c24v181 0 c26v183)) λX=>
 aq (λ(_:Unit)=>
 (bif ((decide (c25v182<((f189 x).1)))||(decide (c25v182>((f189 x).2)))) then(W ()) else aq (λ(_:Unit)=>
 (X ())) λY=>
 (Y ()))) λZ=>
 (Z ())) λad=>
 (ad ()) else aq (λ(_:Unit)=>
 (fp o 1).bind λy=>
 aq (λ(_:Unit)=>
 (k c21v178 c22v179 c23v180 c24v181 c25v182 c26v183 a.1.name a.1.fields ((f189 y).1) ((f189 y).2) ((f189 y).1) ((f189 y).2))) λag=>
 aq (λ(_:Unit)=>
 (f99_l1 e f g h j k m a c n (i64.wrap (d+1)) c21v178 c22v179 c23v180 c24v181 c25v182 0)) λal=>
 aq (λ(_:Unit)=>
 (bif ((decide (c26v183<((f189 y).1)))||(decide (c26v183>((f189 y).2)))) then(ag ()) else aq (λ(_:Unit)=>
 (al ())) λax=>
 (ax ()))) λa0=>
 (a0 ())) λa1=>
 (a1 ())))))) else(m c21v178 c22v179 c23v180 c24v181 c25v182 c26v183 a.1.name a.1.fields))
def f99(x0:aB):oB:=
 (f158 x0.op).bind λf=>
 (bif ((!f.2)||((decide (x0.op=27))&&(decide (x0.n>x0.m)))) then some false else(bif (((decide (x0.op=37))&&(decide ((IntKind.u8.wrap x0.n)=6)))&&(!decide (x0.m=0))) then some false else aq (λ(c21v69:Int)(c22v70:Int)(c23v71:Int)(c24v72:Int)(c25v73:Int)(c26v74:Int)(c50v75:ByteArray)(c51v76:ByteArray)=>
 some (((decide (x0.op=x0.op))&&((decide (c21v69=0))&&((decide (c22v70=0))&&((decide (c23v71=0))&&((decide (c24v72=0))&&((decide (c25v73=0))&&((decide (c26v74=0))&&true))))))))) λg=>
 aq (λ(_:Unit)=>
 aq (λ(c21v81:Int)(c22v82:Int)(c23v83:Int)(c24v84:Int)(c25v85:Int)(c26v86:Int)(c50v87:ByteArray)(c51v88:ByteArray)(c62v89:Int)(c63v90:Int)(c92v91:Int)(c93v92:Int)=>
 some false) λh=>
 aq (λ(c21v94:Int)(c22v95:Int)(c23v96:Int)(c24v97:Int)(c25v98:Int)(c26v99:Int)(c50v100:ByteArray)(c51v101:ByteArray)(c62v102:Int)(c63v103:Int)(c92v104:Int)(c93v105:Int)=>
 some false) λj=>
 aq (λ(c21v107:Int)(c22v108:Int)(c23v109:Int)(c24v110:Int)(c25v111:Int)(c26v112:Int)(c50v113:ByteArray)(c51v114:ByteArray)(c62v115:Int)(c63v116:Int)(c92v117:Int)(c93v118:Int)=>
 some false) λk=>
 aq (λ(c21v120:Int)(c22v121:Int)(c23v122:Int)(c24v123:Int)(c25v124:Int)(c26v125:Int)(c50v126:ByteArray)(c51v127:ByteArray)(c62v128:Int)(c63v129:Int)(c92v130:Int)(c93v131:Int)=>
 some false) λo=>
 aq (λ(c21v133:Int)(c22v134:Int)(c23v135:Int)(c24v136:Int)(c25v137:Int)(c26v138:Int)(c50v139:ByteArray)(c51v140:ByteArray)(c62v141:Int)(c63v142:Int)(c92v143:Int)(c93v144:Int)=>
 some false) λp=>
 aq (λ(c21v146:Int)(c22v147:Int)(c23v148:Int)(c24v149:Int)(c25v150:Int)(c26v151:Int)(c50v152:ByteArray)(c51v153:ByteArray)(c62v154:Int)(c63v155:Int)(c92v156:Int)(c93v157:Int)=>
 some false) λr=>
 aq (λ(c21v159:Int)(c22v160:Int)(c23v161:Int)(c24v162:Int)(c25v163:Int)(c26v164:Int)(c50v165:ByteArray)(c51v166:ByteArray)=>
 (g c21v159 c22v160 c23v161 c24v162 c25v163 c26v164 c50v165 c51v166)) λt=>
 (f158 x0.op).bind λc=>
 (f186 c.1.fields).bind λe=>
 (f99_l1 h j k o p r t c e (Int.toNat ((e.length:Int) - 0)+1) 0 x0.d x0.a x0.b x0.n x0.m x0.to)) λw=>
 (w ())))
def f100(y0:aB):Bool:=
 (!decide (y0.op=29))
def f101(t0:bR)(a:Int)(n2:Int):Option (Int×Bool):=
 (bif (((decide (a<0))||(decide (a>=(t0.text.tasks.length:Int))))||(decide (n2<0))) then some true else((idx t0.text.tasks a).bind λd=>some (decide (n2>=(d.entries.length:Int))))).bind λe=>
 (bif e then some (0,false) else (idx t0.text.tasks a).bind λf=>
 (idx f.entries n2).bind λc=>
 some ((i64.wrap ((i64.wrap ((c.ins.length:Int)+(c.outs.length:Int)))+1)),true))
def f102(t0:bR)(p1:Int)(n2:Int):oB:=
 (bif (((decide (p1>=0))&&(decide (p1<(t0.text.prots.length:Int))))&&(decide (n2>=0))) then((idx t0.text.prots p1).bind λa=>some (decide (n2<(a.barriers.length:Int)))) else some false).bind λc=>
 some c
def f37(t0:bR)(x1:aB):oB:=
 (f99 x1).bind λj=>
 (bif (!j) then some false else aq (λ(k:Bool)=>
 (bif k then (f89 t0 x1.n x1.m 1).bind λo=>
 some o else aq (λ(p:Bool)=>
 (bif p then (f89 t0 x1.n x1.m x1.b).bind λr=>
 some r else aq (λ(t:Bool)=>
 (bif t then some (f47 t0 x1.to) else(bif (decide (x1.op=32)) then (bif (decide ((i64.wrap (x1.to+x1.m))<=(t0.text.insns.length:Int))) then(aN (ce t0.text.insns x1.to (i64.wrap (x1.to+x1.m)))<|(f35 (br t0.text.insns x1.to (i64.wrap (x1.to+x1.m))) (λz0=>some (f100 z0))).bind λw=>some (!w)) else some false).bind λx=>
 some x else(bif (decide (x1.op=33)) then some (decide (x1.n<=t0.text.excs)) else aq (λ(y:Bool)=>
 (bif y then some (decide (x1.n<(t0.text.lists.length:Int))) else(bif (decide (x1.op=50)) then some (decide (x1.n<(t0.text.selects.length:Int))) else(bif (decide (x1.op=49)) then (f101 t0 x1.a x1.b).bind λe=>
 (bif e.2 then((f89 t0 x1.n 0 e.1).bind λA=>some A) else some false).bind λB=>
 some B else(bif (decide (x1.op=52)) then (f101 t0 x1.a x1.b).bind λC=>
 some (C.2&&(decide (x1.to<(t0.text.insns.length:Int)))) else aq (λ(E:Bool)=>
 (bif E then some (decide (x1.n<(t0.text.prots.length:Int))) else(bif (decide (x1.op=54)) then (f102 t0 x1.n x1.m).bind λF=>
 some F else(bif (decide (x1.op=43)) then (bif (decide (x1.m<0)) then some true else((f102 t0 x1.m x1.n).bind λG=>some G)).bind λH=>
 some H else some true)))) λf=>
 (bif (decide (x1.op=53)) then(f (decide (x1.op=53))) else(f (decide (x1.op=55))))))))) λc=>
 (bif (decide (x1.op=44)) then(c (decide (x1.op=44))) else(bif (decide (x1.op=45)) then(c (decide (x1.op=45))) else(bif (decide (x1.op=46)) then(c (decide (x1.op=46))) else(c (decide (x1.op=56)))))))))) λd=>
 (bif (decide (x1.op=29)) then(d (decide (x1.op=29))) else(bif (decide (x1.op=30)) then(d (decide (x1.op=30))) else(d (decide (x1.op=31))))))) λg=>
 (bif (decide (x1.op=5)) then(g (decide (x1.op=5))) else(g (decide (x1.op=6)))))) λh=>
 (bif (decide (x1.op=3)) then(h (decide (x1.op=3))) else(h (decide (x1.op=4)))))
def f10_l1(t0:ao)(c:Int->oB)(d:Unit->oB):Nat->Int->oB
 |0,_=>none
 |n+1,a=>
 (bif (decide (a<(t0.insns.length:Int))) then (idx t0.insns a).bind λe=>
 aq (λ(f:Bool)=>
 (bif f then(c a) else(f10_l1 t0 c d n (i64.wrap (a+1))))) λg=>
 (f37 (bR.mk t0) e).bind λh=>
 (g (!h)) else(d ()))
def f10(t0:ao):oB:=
 (bif ((decide ((t0.insns.length:Int)<1))||(decide ((t0.insns.length:Int)>65536))) then some false else (idx t0.insns (i64.wrap ((t0.insns.length:Int) - 1))).bind λa=>
 aq (λ(e:Bool)=>
 (bif e then aq (λ(_:Unit)=>
 aq (λ(f:Bool)=>
 some (!f)) λg=>
 aq (λ(h:Int)=>
 (g (decide (h>=0)))) λd=>
 aq (λ(_:Unit)=>
 (d (-1))) λj=>
 (f10_l1 t0 d j (Int.toNat ((t0.insns.length:Int) - 0)+1) 0)) λk=>
 (f27 (bR.mk t0)).bind λm=>
 (bif (!m) then some false else (f28 (bR.mk t0)).bind λo=>
 (bif (!o) then some false else (f29 (bR.mk t0)).bind λp=>
 (bif (!p) then some false else (f30 (bR.mk t0)).bind λr=>
 (bif (!r) then some false else (f31 (bR.mk t0)).bind λt=>
 (bif (!t) then some false else (f32 (bR.mk t0)).bind λw=>
 (bif (!w) then some false else (f33 (bR.mk t0)).bind λx=>
 (bif (!x) then some false else (f34 (bR.mk t0)).bind λy=>
 (bif (!y) then some false else(k ()))))))))) else some false)) λc=>
 (bif (decide (a.op=29)) then(c (decide (a.op=29))) else(bif (decide (a.op=33)) then(c (decide (a.op=33))) else(bif (decide (a.op=34)) then(c (decide (a.op=34))) else(c (decide (a.op=57)))))))
def f46_l1(o0:Obj)(v1:Int)(c:Unit->oB):Nat->Int->oB
 |0,_=>none
 |n+1,a=>
 (bif (decide (a<(o0.set_.length:Int))) then (idx o0.set_ a).bind λd=>
 (bif (decide (v1=(i64.wrap (d+1)))) then some true else(f46_l1 o0 v1 c n (i64.wrap (a+1)))) else(c ()))
def f46(o0:Obj)(v1:Int):oB:=
 (bif (!o0.ptr) then some ((decide (v1>=o0.lo))&&(decide (v1<=o0.hi))) else aq (λ(_:Unit)=>
 some (decide (v1=0))) λa=>
 (f46_l1 o0 v1 a 9223372036854775808 0))
def f103_l1(t0:ao)(o1:Obj)(d:Unit->oB):Nat->Int->oB
 |0,_=>none
 |n+1,a=>
 (bif (decide (a<(o1.set_.length:Int))) then (idx o1.set_ a).bind λc=>
 (bif ((decide (c<0))||(decide (c>=(t0.objs.length:Int)))) then some true else((idx t0.objs c).bind λe=>some (!decide (e.size=1)))).bind λf=>
 (bif f then some true else((idx t0.objs c).bind λg=>some g.ptr)).bind λh=>
 (bif h then some true else((bif (decide (a>0)) then((idx o1.set_ (i64.wrap (a - 1))).bind λj=>some (decide (j>=c))) else some false).bind λk=>some k)).bind λm=>
 (bif m then some false else(f103_l1 t0 o1 d n (i64.wrap (a+1)))) else(d ()))
def f103(t0:ao)(o1:Obj):oB:=
 (bif (((((decide (o1.size<1))||(decide (o1.size>16384)))||(decide (o1.lo>o1.hi)))||((!o1.ptr)&&(decide ((o1.set_.length:Int)>0))))||(o1.ptr&&((!decide (o1.lo=0))||(!decide (o1.hi=0))))) then some false else aq (λ(_:Unit)=>
 some true) λa=>
 (f103_l1 t0 o1 a 9223372036854775808 0))
def f104(t0:ao)(o1:Int)(a:Int)(c:Int):oB:=
 (bif ((((decide (o1>=0))&&(decide (o1<(t0.objs.length:Int))))&&(decide (a>=0)))&&(decide (c>=0))) then((idx t0.objs o1).bind λd=>some (decide (a<=(i64.wrap (d.size - c))))) else some false).bind λe=>
 some e
def f38_l1(t0:ao)(c:Int->oB):Nat->Int->Int->oB
 |0,_,_=>none
 |n+1,d,a=>
 (bif (decide (a<(t0.objs.length:Int))) then (idx t0.objs a).bind λe=>
 (f103 t0 e).bind λf=>
 (bif (!f) then some false else (idx t0.objs a).bind λg=>
 (f38_l1 t0 c n (i64.wrap (d+g.size)) (i64.wrap (a+1)))) else(c d))
def f38_l3(t0:ao)(d:Int)(e:Int->Int->Int->oB)(a:bt):Nat->Int->oB
 |0,_=>none
 |na+1,c=>
 (bif (decide (c<d)) then (idx t0.inits c).bind λf=>
 (bif (decide (f.o=a.o)) then((idx t0.inits c).bind λg=>some (decide (g.slot=a.slot))) else some false).bind λh=>
 (bif h then some false else(f38_l3 t0 d e a na (i64.wrap (c+1)))) else(e a.o a.slot a.v))
def f38_l2(t0:ao)(d:Unit->oB):Nat->Int->oB
 |0,_=>none
 |n+1,c=>
 (bif (decide (c<(t0.inits.length:Int))) then aq (λ(c00v126:Int)(c01v127:Int)(c02v128:Int)=>
 (f38_l2 t0 d n (i64.wrap (c+1)))) λe=>
 (idx t0.inits c).bind λa=>
 (f104 t0 a.o a.slot 1).bind λf=>
 (bif (!f) then some true else((idx t0.objs a.o).bind λg=>(f46 g a.v).bind λh=>some (!h))).bind λj=>
 (bif j then some false else(f38_l3 t0 c e a 9223372036854775808 0)) else(d ()))
def f38(t0:ao):oB:=
 (bif ((((decide ((t0.objs.length:Int)>4096))||(decide (t0.excs<4)))||(decide (t0.excs>64)))||(decide ((t0.inits.length:Int)>65536))) then some false else aq (λ(a:Int)=>
 aq (λ(_:Unit)=>
 some (decide (a<=65536))) λc=>
 (f38_l2 t0 c 9223372036854775808 0)) λd=>
 (f38_l1 t0 d 9223372036854775808 0 0))
def f51(t0:ao)(a1:Int):Bool:=
 ((decide (a1>=0))&&(decide (a1<(t0.insns.length:Int))))
def f105_l1(t0:ao)(l1:lI)(c:Unit->oB):Nat->Int->oB
 |0,_=>none
 |n+1,a=>
 (bif (decide (a<(l1.length:Int))) then (idx l1 a).bind λd=>
 (bif (decide (d<0)) then some true else((idx l1 a).bind λe=>some (decide (e>=(t0.objs.length:Int))))).bind λf=>
 (bif f then some true else((idx l1 a).bind λg=>(idx t0.objs g).bind λh=>some (!decide (h.size=1)))).bind λj=>
 (bif j then some false else(f105_l1 t0 l1 c n (i64.wrap (a+1)))) else(c ()))
def f105(t0:ao)(l1:lI):oB:=
 (bif (decide ((l1.length:Int)>8)) then some false else aq (λ(_:Unit)=>
 some true) λa=>
 (f105_l1 t0 l1 a 9223372036854775808 0))
def f39_l2(t0:ao)(d:Int->Int->(List az)->Int->oB)(a:aJ):Nat->Int->oB
 |0,_=>none
 |na+1,c=>
 (bif (decide (c<(a.entries.length:Int))) then (idx a.entries c).bind λe=>
 (f105 t0 e.ins).bind λf=>
 (bif (!f) then some true else((idx a.entries c).bind λg=>(f105 t0 g.outs).bind λh=>some (!h))).bind λj=>
 (bif j then some false else(f39_l2 t0 d a na (i64.wrap (c+1)))) else(d a.prio a.at_ a.entries a.deadline))
def f39_l1(t0:ao)(d:Unit->oB):Nat->Int->oB
 |0,_=>none
 |n+1,c=>
 (bif (decide (c<(t0.tasks.length:Int))) then aq (λ(c00v92:Int)(c01v93:Int)(c02v94:List az)(c03v95:Int)=>
 (f39_l1 t0 d n (i64.wrap (c+1)))) λe=>
 (idx t0.tasks c).bind λa=>
 (bif ((((((decide (a.prio<0))||(decide (a.prio>31)))||(!(f51 t0 a.at_)))||(decide (a.deadline<0)))||(decide (a.deadline>2147483647)))||(decide ((a.entries.length:Int)>8))) then some false else(f39_l2 t0 e a 9223372036854775808 0)) else(d ()))
def f39(t0:ao):oB:=
 (bif ((decide ((t0.tasks.length:Int)<1))||(decide ((t0.tasks.length:Int)>32))) then some false else aq (λ(_:Unit)=>
 some true) λa=>
 (f39_l1 t0 a 9223372036854775808 0))
def f21(t0:ao)(a1:Int):oB:=
 (bif (f51 t0 a1) then((idx t0.insns a1).bind λa=>(bif (decide (a.op=27)) then some true else((idx t0.insns a1).bind λc=>some (decide (c.op=28)))).bind λd=>some d) else some false).bind λe=>
 some e
def f106s_l1(d:ao->Int->ah->Int->Int->Option (Int))(t0:ao)(e:Int)(e2:ah)(f:Int)(g:Int->Option (Int)):Nat->Int->Int->Option (Int)
 |0,_,_=>none
 |n+1,a,c=>
 (bif ((decide (c<(e2.l.length:Int)))&&(decide (a>=0))) then (idx e2.l c).bind λh=>
 (d t0 e h (i64.wrap (f+1)) a).bind λj=>
 (f106s_l1 d t0 e e2 f g n j (i64.wrap (c+1))) else(g a))
def f106s(f:ao->Int->ah->Int->Int->Option (Int))(t0:ao)(c:Int)(e2:ah)(d:Int)(n4:Int):Option Int:=
 (bif ((decide (n4=0))||(decide (d>64))) then some (-1) else aq (λ(g:Int)(h:Bool)(c01v176:Int)(c02v177:Int)(c03v178:Int)(c04v179:Int)=>
 (bif (((!h)||(!(((((((decide (e2.op=c01v176))&&(decide (e2.n=c02v177)))&&(decide (e2.o=c03v178)))&&(decide (e2.off=c04v179)))&&(decide (e2.len=0)))&&(decide (e2.lo=0)))&&(decide (e2.hi=0)))))||(!decide ((e2.l.length:Int)=g))) then some (-1) else aq (λ(j:Int)=>
 some j) λk=>
 (f106s_l1 f t0 c e2 d k 9223372036854775808 (i64.wrap (n4 - 1)) 0))) λa=>
 (bif (decide (e2.kind=1)) then(a 0 true 0 e2.n 0 0) else(bif (decide (e2.kind=2)) then (f104 t0 e2.o e2.off 1).bind λm=>
 (bif m then((idx t0.objs e2.o).bind λp=>some (!p.ptr)) else some false).bind λr=>
 (a 0 r 0 0 e2.o e2.off) else(bif (decide (e2.kind=14)) then(a 0 ((decide (e2.n>=0))&&(decide (e2.n<c))) 0 e2.n 0 0) else(bif (decide (e2.kind=4)) then(a 1 true 18 0 0 0) else(bif (decide (e2.kind=5)) then(a 2 ((decide (e2.op>=7))&&(decide (e2.op<=15))) e2.op 0 0 0) else aq (λ(t:Bool)=>
 (bif t then(a 2 true 0 0 0 0) else some (-1))) λe=>
 (bif (decide (e2.kind=6)) then(e (decide (e2.kind=6))) else(e (decide (e2.kind=7))))))))))
def f106:Nat->ao->Int->ah->Int->Int->Option (Int)
 |0=>λ_ _ _ _ _=>none
 |n+1=>f106s (f106 n)
def f40_l2(t0:ao)(d:Int->(List ah)->oB)(a:aV):Nat->Int->oB
 |0,_=>none
 |na+1,c=>
 (bif (decide (c<(a.barriers.length:Int))) then (idx a.barriers c).bind λe=>
 (f106 67 t0 (a.barriers.length:Int) e 1 256).bind λf=>
 (bif (decide (f<0)) then some false else(f40_l2 t0 d a na (i64.wrap (c+1)))) else(d a.ceiling a.barriers))
def f40_l1(t0:ao)(d:Unit->oB):Nat->Int->oB
 |0,_=>none
 |n+1,c=>
 (bif (decide (c<(t0.prots.length:Int))) then aq (λ(c00v105:Int)(c01v106:List ah)=>
 (f40_l1 t0 d n (i64.wrap (c+1)))) λe=>
 (idx t0.prots c).bind λa=>
 (bif (((decide (a.ceiling<0))||(decide (a.ceiling>31)))||(decide ((a.barriers.length:Int)>8))) then some false else(f40_l2 t0 e a 9223372036854775808 0)) else(d ()))
def f40_l3(t0:ao)(d:Unit->oB):Nat->Int->oB
 |0,_=>none
 |n+1,a=>
 (bif (decide (a<(t0.checks.length:Int))) then (idx t0.checks a).bind λc=>
 (f21 t0 c.at_).bind λe=>
 (bif (!e) then some true else((bif (decide (a>0)) then((idx t0.checks (i64.wrap (a - 1))).bind λf=>some (decide (f.at_>=c.at_))) else some false).bind λg=>some g)).bind λh=>
 (bif ((h||(decide (c.kind<1)))||(decide (c.kind>5))) then some false else(f40_l3 t0 d n (i64.wrap (a+1)))) else(d ()))
def f40(t0:ao):oB:=
 (bif (decide ((t0.prots.length:Int)>32)) then some false else aq (λ(_:Unit)=>
 aq (λ(_:Unit)=>
 some true) λa=>
 (f40_l3 t0 a 9223372036854775808 0)) λc=>
 (f40_l1 t0 c 9223372036854775808 0))
def f107(t0:ao)(a:Int)(a2:aX):oB:=
 (bif (!(f51 t0 a2.at_)) then some true else((bif (!decide (a2.guard=(-1))) then((f104 t0 a a2.guard 1).bind λd=>some (!d)) else some false).bind λe=>some e)).bind λf=>
 (bif f then some false else(bif (decide (a2.kind=1)) then some (((decide (a2.entry>=0))&&(decide (a2.entry<=7)))&&(decide (a2.time=0))) else aq (λ(g:Bool)=>
 (bif g then (bif (decide (a2.entry=0)) then((f104 t0 a a2.time 1).bind λh=>some h) else some false).bind λj=>
 some j else some (((decide (a2.kind=4))&&(decide (a2.entry=0)))&&(decide (a2.time=0))))) λc=>
 (bif (decide (a2.kind=2)) then(c (decide (a2.kind=2))) else(c (decide (a2.kind=3))))))
def f41_l2(t0:ao)(d:(List aX)->Int->Int->oB)(a:aC):Nat->Int->oB
 |0,_=>none
 |na+1,c=>
 (bif (decide (c<(a.alts.length:Int))) then (idx a.alts c).bind λe=>
 (f107 t0 a.obj e).bind λf=>
 (bif (!f) then some false else(f41_l2 t0 d a na (i64.wrap (c+1)))) else(d a.alts a.obj a.else_))
def f41_l1(t0:ao)(d:Unit->oB):Nat->Int->oB
 |0,_=>none
 |n+1,c=>
 (bif (decide (c<(t0.selects.length:Int))) then aq (λ(c00v134:List aX)(c01v135:Int)(c02v136:Int)=>
 (f41_l1 t0 d n (i64.wrap (c+1)))) λe=>
 (idx t0.selects c).bind λa=>
 (bif ((decide ((a.alts.length:Int)<1))||(decide ((a.alts.length:Int)>16))) then some true else((f104 t0 a.obj 0 1).bind λr140=>some (!r140))).bind λf=>
 (bif (f||((!decide (a.else_=(-1)))&&(!(f51 t0 a.else_)))) then some false else(f41_l2 t0 e a 9223372036854775808 0)) else(d ()))
def f41_l5(a:lI)(c:Int)(e:Unit->oB):Nat->Int->oB
 |0,_=>none
 |nb+1,d=>
 (bif (decide (d<c)) then (idx a d).bind λf=>
 (idx a c).bind λg=>
 (bif (decide (f=g)) then some false else(f41_l5 a c e nb (i64.wrap (d+1)))) else(e ()))
def f41_l4(t0:ao)(d:Unit->oB)(a:lI):Nat->Int->oB
 |0,_=>none
 |na+1,c=>
 (bif (decide (c<(a.length:Int))) then aq (λ(_:Unit)=>
 (f41_l4 t0 d a na (i64.wrap (c+1)))) λe=>
 (idx a c).bind λf=>
 (bif (decide (f<1)) then some true else((idx a c).bind λg=>some (decide (g>=(t0.tasks.length:Int))))).bind λh=>
 (bif h then some false else(f41_l5 a c e 9223372036854775808 0)) else(d ()))
def f41_l3(t0:ao)(c:Unit->oB):Nat->Int->oB
 |0,_=>none
 |n+1,a=>
 (bif (decide (a<(t0.lists.length:Int))) then aq (λ(_:Unit)=>
 (f41_l3 t0 c n (i64.wrap (a+1)))) λe=>
 (idx t0.lists a).bind λd=>
 (bif (decide ((d.length:Int)>32)) then some false else(f41_l4 t0 e d 9223372036854775808 0)) else(c ()))
def f41(t0:ao):oB:=
 (bif ((decide ((t0.selects.length:Int)>1024))||(decide ((t0.lists.length:Int)>4096))) then some false else aq (λ(_:Unit)=>
 aq (λ(_:Unit)=>
 some true) λa=>
 (f41_l3 t0 a 9223372036854775808 0)) λc=>
 (f41_l1 t0 c 9223372036854775808 0))
def f42_l2(t0:ao)(e:Int)(f:Int->Int->Int->Bool->oB)(a:am):Nat->Int->oB
 |0,_=>none
 |na+1,d=>
 (bif (decide (d<e)) then (idx t0.handlers d).bind λc=>
 (bif ((!((decide (c.from_>=a.from_))&&(decide (c.to<=a.to))))&&(!((decide (c.to<=a.from_))||(decide (a.to<=c.from_))))) then some false else(f42_l2 t0 e f a na (i64.wrap (d+1)))) else(f a.from_ a.to a.at_ a.clean))
def f42_l1(t0:ao)(d:Unit->oB):Nat->Int->oB
 |0,_=>none
 |n+1,c=>
 (bif (decide (c<(t0.handlers.length:Int))) then aq (λ(c00v110:Int)(c01v111:Int)(c02v112:Int)(c03v113:Bool)=>
 (f42_l1 t0 d n (i64.wrap (c+1)))) λe=>
 (idx t0.handlers c).bind λa=>
 (bif (((((decide (a.from_<0))||(decide (a.from_>=a.to)))||(decide (a.to>(t0.insns.length:Int))))||(!(f51 t0 a.at_)))||((decide (a.at_>=a.from_))&&(decide (a.at_<a.to)))) then some false else(f42_l2 t0 c e a 9223372036854775808 0)) else(d ()))
def f42(t0:ao):oB:=
 (bif (decide ((t0.handlers.length:Int)>4096)) then some false else aq (λ(_:Unit)=>
 some true) λa=>
 (f42_l1 t0 a 9223372036854775808 0))
def f43_l2(t0:ao)(g:Int)(n:Nat)(h:Int->Int->Int->Int->Int->Int->Int->Int->Int->Int->oB)(e:Loop)(c:aB):Nat->Int->oB
 |0,_=>none
 |na+1,f=>
 (bif (decide (f<g)) then (idx t0.loops f).bind λj=>
 (bif (decide (j.back=e.back)) then some false else(f43_l2 t0 g n h e c na (i64.wrap (f+1)))) else(h e.head e.back e.bound c.op c.d c.a c.b c.n c.m c.to))
def f43_l1(t0:ao)(e:Unit->oB):Nat->Int->oB
 |0,_=>none
 |n+1,d=>
 (bif (decide (d<(t0.loops.length:Int))) then aq (λ(c00v98:Int)(c01v99:Int)(c02v100:Int)(c10v101:Int)(c11v102:Int)(c12v103:Int)(c13v104:Int)(c14v105:Int)(c15v106:Int)(c16v107:Int)=>
 (f43_l1 t0 e n (i64.wrap (d+1)))) λf=>
 (idx t0.loops d).bind λa=>
 (bif (((((!(f51 t0 a.head))||(!(f51 t0 a.back)))||(decide (a.head>a.back)))||(decide (a.bound<0)))||(decide (a.bound>2147483647))) then some false else (idx t0.insns a.back).bind λc=>
 (bif ((((!decide (c.op=29))&&(!decide (c.op=30)))&&(!decide (c.op=31)))||(!decide (c.to=a.head))) then some false else(f43_l2 t0 d n f a c 9223372036854775808 0))) else(e ()))
def f43(t0:ao):oB:=
 (bif (decide ((t0.loops.length:Int)>4096)) then some false else aq (λ(_:Unit)=>
 some true) λa=>
 (f43_l1 t0 a 9223372036854775808 0))
def f190:List Row:=
 [(Row.mk 1 (bA #[108,105]) [fD 68 0 15,fD 78 (-9223372036854775808) 9223372036854775807]),(Row.mk 2 (bA #[109,118]) [fD 68 0 15,fD 65 0 15]),(Row.mk 3 (bA #[108,100]) [fD 68 0 15,fD 78 0 4095,fD 77 0 65535]),(Row.mk 4 (bA #[115,116]) [fD 65 0 15,fD 78 0 4095,fD 77 0 65535]),(Row.mk 5 (bA #[108,100,120]) [fD 68 0 15,fD 65 0 15,fD 66 1 65536,fD 78 0 4095,fD 77 0 65535]),(Row.mk 6 (bA #[115,116,120]) [fD 68 0 15,fD 65 0 15,fD 66 1 65536,fD 78 0 4095,fD 77 0 65535]),(Row.mk 7 (bA #[108,100,97]) [fD 68 0 15,fD 65 0 15]),(Row.mk 8 (bA #[115,116,97]) [fD 68 0 15,fD 65 0 15]),(Row.mk 9 (bA #[97,100,100]) [fD 68 0 15,fD 65 0 15,fD 66 0 15]),(Row.mk 10 (bA #[115,117,98]) [fD 68 0 15,fD 65 0 15,fD 66 0 15]),(Row.mk 11 (bA #[109,117,108]) [fD 68 0 15,fD 65 0 15,fD 66 0 15]),(Row.mk 12 (bA #[100,105,118]) [fD 68 0 15,fD 65 0 15,fD 66 0 15]),(Row.mk 13 (bA #[114,101,109]) [fD 68 0 15,fD 65 0 15,fD 66 0 15]),(Row.mk 14 (bA #[109,111,100]) [fD 68 0 15,fD 65 0 15,fD 66 0 15]),(Row.mk 15 (bA #[101,113]) [fD 68 0 15,fD 65 0 15,fD 66 0 15]),(Row.mk 16 (bA #[110,101]) [fD 68 0 15,fD 65 0 15,fD 66 0 15]),(Row.mk 17 (bA #[108,116]) [fD 68 0 15,fD 65 0 15,fD 66 0 15]),(Row.mk 18 (bA #[108,101]) [fD 68 0 15,fD 65 0 15,fD 66 0 15]),(Row.mk 19 (bA #[103,116]) [fD 68 0 15,fD 65 0 15,fD 66 0 15]),(Row.mk 20 (bA #[103,101]) [fD 68 0 15,fD 65 0 15,fD 66 0 15]),(Row.mk 21 (bA #[97,110,100]) [fD 68 0 15,fD 65 0 15,fD 66 0 15]),(Row.mk 22 (bA #[111,114]) [fD 68 0 15,fD 65 0 15,fD 66 0 15]),(Row.mk 23 (bA #[120,111,114]) [fD 68 0 15,fD 65 0 15,fD 66 0 15]),(Row.mk 24 (bA #[110,101,103]) [fD 68 0 15,fD 65 0 15]),(Row.mk 25 (bA #[97,98,115]) [fD 68 0 15,fD 65 0 15]),(Row.mk 26 (bA #[110,111,116]) [fD 68 0 15,fD 65 0 15]),(Row.mk 27 (bA #[99,104,107]) [fD 65 0 15,fD 78 (-9223372036854775808) 9223372036854775807,fD 77 (-9223372036854775808) 9223372036854775807]),(Row.mk 28 (bA #[99,104,107,122]) [fD 65 0 15]),(Row.mk 29 (bA #[106,109,112]) [fD 84 0 65535]),(Row.mk 30 (bA #[106,122]) [fD 65 0 15,fD 84 0 65535]),(Row.mk 31 (bA #[106,110,122]) [fD 65 0 15,fD 84 0 65535]),(Row.mk 32 (bA #[106,116]) [fD 65 0 15,fD 78 (-9223372036854775808) 9223372036854775807,fD 77 1 65536,fD 84 0 65535]),(Row.mk 33 (bA #[114,97,105,115,101]) [fD 78 1 64]),(Row.mk 34 (bA #[114,97,105,115,101,114]) [fD 65 0 15]),(Row.mk 35 (bA #[99,111,110,116]) [fD 65 0 15]),(Row.mk 36 (bA #[101,120,99]) [fD 68 0 15]),(Row.mk 37 (bA #[109,97,114,107]) [fD 78 6 7,fD 77 0 65535]),(Row.mk 38 (bA #[103,101,116]) [fD 68 0 15]),(Row.mk 39 (bA #[112,117,116]) [fD 65 0 15]),(Row.mk 40 (bA #[100,101,102,101,114]) []),(Row.mk 41 (bA #[97,108,108,111,119]) []),(Row.mk 42 (bA #[99,108,111,99,107]) [fD 68 0 15]),(Row.mk 43 (bA #[99,111,117,110,116]) [fD 68 0 15,fD 78 0 7,fD 77 (-1) 31]),(Row.mk 44 (bA #[115,116,97,114,116]) [fD 78 0 65535]),(Row.mk 45 (bA #[110,101,118,101,114]) [fD 78 0 65535]),(Row.mk 46 (bA #[97,119,97,105,116]) [fD 65 0 15,fD 78 0 65535]),(Row.mk 47 (bA #[100,101,108,97,121]) [fD 65 0 15]),(Row.mk 48 (bA #[117,110,116,105,108]) [fD 65 0 15]),(Row.mk 49 (bA #[99,97,108,108]) [fD 68 0 15,fD 65 0 31,fD 66 0 7,fD 78 0 4095,fD 77 0 3]),(Row.mk 50 (bA #[115,101,108]) [fD 78 0 1023]),(Row.mk 51 (bA #[100,111,110,101]) [fD 78 0 1]),(Row.mk 52 (bA #[114,101,113]) [fD 65 0 31,fD 66 0 7,fD 78 0 1,fD 84 0 65535]),(Row.mk 53 (bA #[108,111,99,107]) [fD 78 0 31]),(Row.mk 54 (bA #[112,101,110,116]) [fD 68 0 15,fD 65 0 15,fD 66 0 3,fD 78 0 31,fD 77 0 7]),(Row.mk 55 (bA #[117,110,108,111,99,107]) [fD 78 0 31]),(Row.mk 56 (bA #[97,98,111,114,116]) [fD 78 0 65535]),(Row.mk 57 (bA #[101,110,100]) [])]
def f160_l1(o0:Int)(c:Unit->Option (Row×Bool)):Nat->Int->Option (Row×Bool)
 |0,_=>none
 |n+1,a=>
 (bif (decide (a<(f190.length:Int))) then (idx f190 a).bind λd=>
 (bif (decide (d.op=o0)) then (idx f190 a).bind λe=>
 some (e,true) else(f160_l1 o0 c n (i64.wrap (a+1)))) else(c ()))
def f160(o0:Int):Option (Row×Bool):=
 aq (λ(_:Unit)=>
 some ((Row.mk 0 ByteArray.empty []),false)) λa=>
 (f160_l1 o0 a 9223372036854775808 0)
def f161(x0:aB)(f1:Int):Int:=
 (bif (decide (f1=68)) then x0.d else(bif (decide (f1=65)) then x0.a else(bif (decide (f1=66)) then x0.b else(bif (decide (f1=78)) then x0.n else(bif (decide (f1=77)) then x0.m else x0.to)))))
def f162(x0:aB)(f1:Int)(v2:Int):aB:=
 aq (λ(c01v35:Int)(c02v36:Int)(c03v37:Int)(c04v38:Int)(c05v39:Int)(c06v40:Int)=>
 (aB.mk x0.op c01v35 c02v36 c03v37 c04v38 c05v39 c06v40)) λc=>
 (bif (decide (f1=68)) then(c v2 x0.a x0.b x0.n x0.m x0.to) else(bif (decide (f1=65)) then(c x0.d v2 x0.b x0.n x0.m x0.to) else(bif (decide (f1=66)) then(c x0.d x0.a v2 x0.n x0.m x0.to) else(bif (decide (f1=78)) then(c x0.d x0.a x0.b v2 x0.m x0.to) else(bif (decide (f1=77)) then(c x0.d x0.a x0.b x0.n v2 x0.to) else(c x0.d x0.a x0.b x0.n x0.m v2))))))
def f108_l1(x0:aB)(e:Row×Bool)(g:Int->Int->Int->Int->Int->Int->Int->oB):Nat->Int->Int->Int->Int->Int->Int->Int->Int->oB
 |0,_,_,_,_,_,_,_,_=>none
 |n+1,f,c10v99,c11v100,c12v101,c13v102,c14v103,c15v104,c16v105=>
 (bif (decide (f<(e.1.fields.length:Int))) then (idx e.1.fields f).bind λc=>
 (bif ((decide ((f161 x0 c.name)<c.lo))||(decide ((f161 x0 c.name)>c.hi))) then some false else(f108_l1 x0 e g n (i64.wrap (f+1)) ((f162 (aB.mk c10v99 c11v100 c12v101 c13v102 c14v103 c15v104 c16v105) c.name 0).op) ((f162 (aB.mk c10v99 c11v100 c12v101 c13v102 c14v103 c15v104 c16v105) c.name 0).d) ((f162 (aB.mk c10v99 c11v100 c12v101 c13v102 c14v103 c15v104 c16v105) c.name 0).a) ((f162 (aB.mk c10v99 c11v100 c12v101 c13v102 c14v103 c15v104 c16v105) c.name 0).b) ((f162 (aB.mk c10v99 c11v100 c12v101 c13v102 c14v103 c15v104 c16v105) c.name 0).n) ((f162 (aB.mk c10v99 c11v100 c12v101 c13v102 c14v103 c15v104 c16v105) c.name 0).m) ((f162 (aB.mk c10v99 c11v100 c12v101 c13v102 c14v103 c15v104 c16v105) c.name 0).to))) else(g c10v99 c11v100 c12v101 c13v102 c14v103 c15v104 c16v105))
def f108(x0:aB):oB:=
 (f160 x0.op).bind λc=>
 (bif (!c.2) then some false else aq (λ(c10v82:Int)(c11v83:Int)(c12v84:Int)(c13v85:Int)(c14v86:Int)(c15v87:Int)(c16v88:Int)=>
 some (((((decide (c10v82=0))&&((decide (c11v83=0))&&((decide (c12v84=0))&&((decide (c13v85=0))&&((decide (c14v86=0))&&((decide (c15v87=0))&&((decide (c16v88=0))&&true))))))))&&((!decide (x0.op=27))||(decide (x0.n<=x0.m))))&&(((!decide (x0.op=37))||(!decide (x0.n=6)))||(decide (x0.m=0))))) λe=>
 (f108_l1 x0 c e 9223372036854775808 0 0 x0.d x0.a x0.b x0.n x0.m x0.to))
def f109_l1(t0:ao)(c:Int)(d:Int)(e:Unit->oB):Nat->Int->oB
 |0,_=>none
 |n+1,a=>
 (bif (decide (a<(i64.wrap (c+d)))) then (idx t0.insns a).bind λf=>
 (bif (!decide (f.op=29)) then some false else(f109_l1 t0 c d e n (i64.wrap (a+1)))) else(e ()))
def f109(t0:ao)(a:Int)(c:Int):oB:=
 (bif (decide ((i64.wrap (a+c))>(t0.insns.length:Int))) then some false else aq (λ(_:Unit)=>
 some true) λd=>
 (f109_l1 t0 a c d 9223372036854775808 a))
def f110(t0:ao)(a:Int)(n2:Int):Option (az×Bool):=
 (bif (((decide (a<0))||(decide (a>=(t0.tasks.length:Int))))||(decide (n2<0))) then some true else((idx t0.tasks a).bind λc=>some (decide (n2>=(c.entries.length:Int))))).bind λd=>
 (bif d then some ((az.mk [] []),false) else (idx t0.tasks a).bind λe=>
 (idx e.entries n2).bind λf=>
 some (f,true))
def f111(t0:ao)(p1:Int)(n2:Int):oB:=
 (bif (((decide (p1>=0))&&(decide (p1<(t0.prots.length:Int))))&&(decide (n2>=0))) then((idx t0.prots p1).bind λa=>some (decide (n2<(a.barriers.length:Int)))) else some false).bind λc=>
 some c
def f44(t0:ao)(x1:aB):oB:=
 (f108 x1).bind λj=>
 (bif (!j) then some false else aq (λ(k:Bool)=>
 (bif k then (f104 t0 x1.n x1.m 1).bind λo=>
 some o else aq (λ(p:Bool)=>
 (bif p then (f104 t0 x1.n x1.m x1.b).bind λr=>
 some r else aq (λ(t:Bool)=>
 (bif t then some (f51 t0 x1.to) else(bif (decide (x1.op=32)) then (f109 t0 x1.to x1.m).bind λw=>
 some w else(bif (decide (x1.op=33)) then some (decide (x1.n<=t0.excs)) else aq (λ(x:Bool)=>
 (bif x then some (decide (x1.n<(t0.lists.length:Int))) else(bif (decide (x1.op=50)) then some (decide (x1.n<(t0.selects.length:Int))) else(bif (decide (x1.op=49)) then (f110 t0 x1.a x1.b).bind λd=>
 (bif d.2 then((f104 t0 x1.n 0 (i64.wrap ((i64.wrap ((d.1.ins.length:Int)+(d.1.outs.length:Int)))+1))).bind λy=>some y) else some false).bind λA=>
 some A else(bif (decide (x1.op=52)) then (f110 t0 x1.a x1.b).bind λB=>
 some (B.2&&(f51 t0 x1.to)) else aq (λ(C:Bool)=>
 (bif C then some (decide (x1.n<(t0.prots.length:Int))) else(bif (decide (x1.op=54)) then (f111 t0 x1.n x1.m).bind λE=>
 some E else(bif (decide (x1.op=43)) then (bif (decide (x1.m=(-1))) then some true else((f111 t0 x1.m x1.n).bind λF=>some F)).bind λG=>
 some G else some true)))) λf=>
 (bif (decide (x1.op=53)) then(f (decide (x1.op=53))) else(f (decide (x1.op=55))))))))) λc=>
 (bif (decide (x1.op=44)) then(c (decide (x1.op=44))) else(bif (decide (x1.op=45)) then(c (decide (x1.op=45))) else(bif (decide (x1.op=46)) then(c (decide (x1.op=46))) else(c (decide (x1.op=56)))))))))) λe=>
 (bif (decide (x1.op=29)) then(e (decide (x1.op=29))) else(bif (decide (x1.op=30)) then(e (decide (x1.op=30))) else(e (decide (x1.op=31))))))) λg=>
 (bif (decide (x1.op=5)) then(g (decide (x1.op=5))) else(g (decide (x1.op=6)))))) λh=>
 (bif (decide (x1.op=3)) then(h (decide (x1.op=3))) else(h (decide (x1.op=4)))))
def f11_l1(t0:ao)(c:Unit->oB):Nat->Int->oB
 |0,_=>none
 |n+1,a=>
 (bif (decide (a<(t0.insns.length:Int))) then (idx t0.insns a).bind λd=>
 (f44 t0 d).bind λe=>
 (bif (!e) then some false else(f11_l1 t0 c n (i64.wrap (a+1)))) else(c ()))
def f11(t0:ao):oB:=
 (bif ((decide ((t0.insns.length:Int)<1))||(decide ((t0.insns.length:Int)>65536))) then some true else((f38 t0).bind λc=>some (!c))).bind λd=>
 (bif d then some true else((f39 t0).bind λe=>some (!e))).bind λf=>
 (bif f then some true else((f40 t0).bind λg=>some (!g))).bind λh=>
 (bif h then some true else((f41 t0).bind λj=>some (!j))).bind λk=>
 (bif k then some true else((f42 t0).bind λm=>some (!m))).bind λo=>
 (bif o then some true else((f43 t0).bind λp=>some (!p))).bind λr=>
 (bif r then some false else aq (λ(_:Unit)=>
 (idx t0.insns (i64.wrap ((t0.insns.length:Int) - 1))).bind λa=>
 some ((((decide (a.op=29))||(decide (a.op=33)))||(decide (a.op=34)))||(decide (a.op=57)))) λt=>
 (f11_l1 t0 t 9223372036854775808 0))
def f175_l1(d:lI->Option lI):Nat->Int->Int->lI->Option lI
 |0,_,_,_=>none
 |n+1,a,e,c=>
 (bif (decide (e<8)) then aN (cS 1 c [(IntKind.u8.wrap (Int.tmod a 256))])<|
 (f175_l1 d n (IntKind.u64.wrap (Int.tdiv a 256)) (i64.wrap (e+1)) (c++ [(IntKind.u8.wrap (Int.tmod a 256))])) else(d c))
def f175(v0:Int):Option lI:=
 aq (λ(a:lI)=>
 some a) λc=>
 (f175_l1 c 9223372036854775808 (IntKind.u64.wrap v0) 0 [])
def f143(l:lI)(v1:Int):Option lI:=
 (f175 v1).bind λa=>
 aN (cS 1 l a)<|
 some (l++a)
def f176_l1(l1:lI):Nat->Int->lI->Option lI
 |0,_,_=>none
 |n+1,a,c=>
 (bif (decide (a<(l1.length:Int))) then (idx l1 a).bind λd=>
 (f143 c d).bind λe=>
 (f176_l1 l1 n (i64.wrap (a+1)) e) else some c)
def f176(l:lI)(l1:lI):Option lI:=
 (f176_l1 l1 9223372036854775808 0 l)
def f177(l:lI)(a:Bool):Option lI:=
 (bif a then (f143 l 1).bind λc=>
 some c else (f143 l 0).bind λd=>
 some d)
def f178(l:lI)(l1:lI):Option lI:=
 (f176 l [(l1.length:Int)]).bind λa=>
 (f176 a l1).bind λc=>
 some c
def f144_l1(t1:ao)(f:lI->Option lI):Nat->Int->lI->Option lI
 |0,_,_=>none
 |n+1,e,g=>
 (bif (decide (e<(t1.insns.length:Int))) then (idx t1.insns e).bind λc=>
 (f176 g [(i64.wrap c.op),c.d,c.a,c.b]).bind λh=>
 (f143 h c.n).bind λj=>
 (f143 j c.m).bind λk=>
 (f176 k [c.to]).bind λo=>
 (f144_l1 t1 f n (i64.wrap (e+1)) o) else(f g))
def f144_l2(t1:ao)(c:lI->Option lI):Nat->Int->lI->Option lI
 |0,_,_=>none
 |n+1,a,d=>
 (bif (decide (a<(t1.handlers.length:Int))) then (idx t1.handlers a).bind λe=>
 (idx t1.handlers a).bind λf=>
 (idx t1.handlers a).bind λg=>
 (f176 d [e.from_,f.to,g.at_]).bind λh=>
 (idx t1.handlers a).bind λj=>
 (f177 h j.clean).bind λk=>
 (f144_l2 t1 c n (i64.wrap (a+1)) k) else(c d))
def f144_l3(t1:ao)(c:lI->Option lI):Nat->Int->lI->Option lI
 |0,_,_=>none
 |n+1,a,d=>
 (bif (decide (a<(t1.loops.length:Int))) then (idx t1.loops a).bind λe=>
 (idx t1.loops a).bind λf=>
 (f176 d [e.head,f.back]).bind λg=>
 (idx t1.loops a).bind λh=>
 (f143 g h.bound).bind λj=>
 (f144_l3 t1 c n (i64.wrap (a+1)) j) else(c d))
def f144_l5(c:aC)(e:lI->Option lI):Nat->Int->lI->Option lI
 |0,_,_=>none
 |na+1,d,f=>
 (bif (decide (d<(c.alts.length:Int))) then (idx c.alts d).bind λa=>
 (f176 f [(i64.wrap a.kind),a.entry,a.guard,a.time,a.at_]).bind λg=>
 (f144_l5 c e na (i64.wrap (d+1)) g) else(e f))
def f144_l4(t1:ao)(d:lI->Option lI):Nat->Int->lI->Option lI
 |0,_,_=>none
 |n+1,c,e=>
 (bif (decide (c<(t1.selects.length:Int))) then aq (λ(f:lI)(c60v284:List aX)(c61v285:Int)(c62v286:Int)=>
 (f144_l4 t1 d n (i64.wrap (c+1)) f)) λg=>
 (idx t1.selects c).bind λa=>
 (f176 e [(a.alts.length:Int)]).bind λh=>
 aq (λ(j:lI)=>
 (f176 j [a.obj,a.else_]).bind λk=>
 (g k a.alts a.obj a.else_)) λm=>
 (f144_l5 a m 9223372036854775808 0 h) else(d e))
def f144_l6(t1:ao):Nat->Int->lI->Option lI
 |0,_,_=>none
 |n+1,a,c=>
 (bif (decide (a<(t1.lists.length:Int))) then (idx t1.lists a).bind λd=>
 (f178 c d).bind λe=>
 (f144_l6 t1 n (i64.wrap (a+1)) e) else some c)
def f144(l:lI)(t1:ao):Option lI:=
 (f176 l [(t1.insns.length:Int)]).bind λa=>
 aq (λ(c:lI)=>
 (f176 c [(t1.handlers.length:Int)]).bind λd=>
 aq (λ(e:lI)=>
 (f176 e [(t1.loops.length:Int)]).bind λf=>
 aq (λ(g:lI)=>
 (f176 g [(t1.selects.length:Int)]).bind λh=>
 aq (λ(j:lI)=>
 (f176 j [(t1.lists.length:Int)]).bind λk=>
 (f144_l6 t1 9223372036854775808 0 k)) λm=>
 (f144_l4 t1 m 9223372036854775808 0 h)) λo=>
 (f144_l3 t1 o 9223372036854775808 0 f)) λp=>
 (f144_l2 t1 p 9223372036854775808 0 d)) λr=>
 (f144_l1 t1 r 9223372036854775808 0 a)
def f179s_l1(c:lI->ah->Option lI)(l:lI)(e1:ah):Nat->Int->lI->Option lI
 |0,_,_=>none
 |n+1,a,d=>
 (bif (decide (a<(e1.l.length:Int))) then (idx e1.l a).bind λe=>
 (c d e).bind λf=>
 (f179s_l1 c l e1 n (i64.wrap (a+1)) f) else some d)
def f179s(a:lI->ah->Option lI)(l:lI)(e1:ah):Option lI:=
 (f176 l [(i64.wrap e1.kind),(i64.wrap e1.op)]).bind λc=>
 (f143 c e1.n).bind λd=>
 (f176 d [e1.o,e1.off,e1.len]).bind λe=>
 (f143 e e1.lo).bind λf=>
 (f143 f e1.hi).bind λg=>
 (f176 g [(e1.l.length:Int)]).bind λh=>
 (f179s_l1 a l e1 9223372036854775808 0 h)
def f179:Nat->lI->ah->Option lI
 |0=>λ_ _=>none
 |n+1=>f179s (f179 n)
def f145_l1(t1:ao)(d:lI->Option lI):Nat->Int->lI->Option lI
 |0,_,_=>none
 |n+1,c,e=>
 (bif (decide (c<(t1.objs.length:Int))) then (idx t1.objs c).bind λa=>
 (f176 e [a.size]).bind λf=>
 (f143 f a.lo).bind λg=>
 (f143 g a.hi).bind λh=>
 (f177 h a.ptr).bind λj=>
 (f178 j a.set_).bind λk=>
 (f145_l1 t1 d n (i64.wrap (c+1)) k) else(d e))
def f145_l2(t1:ao)(c:lI->Option lI):Nat->Int->lI->Option lI
 |0,_,_=>none
 |n+1,a,d=>
 (bif (decide (a<(t1.inits.length:Int))) then (idx t1.inits a).bind λe=>
 (idx t1.inits a).bind λf=>
 (f176 d [e.o,f.slot]).bind λg=>
 (idx t1.inits a).bind λh=>
 (f143 g h.v).bind λj=>
 (f145_l2 t1 c n (i64.wrap (a+1)) j) else(c d))
def f145_l4(a:aJ)(d:lI->Option lI):Nat->Int->lI->Option lI
 |0,_,_=>none
 |na+1,c,e=>
 (bif (decide (c<(a.entries.length:Int))) then (idx a.entries c).bind λf=>
 (f178 e f.ins).bind λg=>
 (idx a.entries c).bind λh=>
 (f178 g h.outs).bind λj=>
 (f145_l4 a d na (i64.wrap (c+1)) j) else(d e))
def f145_l3(t1:ao)(d:lI->Option lI):Nat->Int->lI->Option lI
 |0,_,_=>none
 |n+1,c,e=>
 (bif (decide (c<(t1.tasks.length:Int))) then aq (λ(f:lI)(c50v280:Int)(c51v281:Int)(c52v282:List az)(c53v283:Int)=>
 (f145_l3 t1 d n (i64.wrap (c+1)) f)) λg=>
 (idx t1.tasks c).bind λa=>
 (f176 e [a.prio,a.at_,(a.entries.length:Int)]).bind λh=>
 aq (λ(j:lI)=>
 (f143 j a.deadline).bind λk=>
 (g k a.prio a.at_ a.entries a.deadline)) λm=>
 (f145_l4 a m 9223372036854775808 0 h) else(d e))
def f145_l6(t1:ao)(a:Int)(d:lI->Option lI):Nat->Int->lI->Option lI
 |0,_,_=>none
 |na+1,c,e=>
 (idx t1.prots a).bind λf=>
 (bif (decide (c<(f.barriers.length:Int))) then (idx t1.prots a).bind λg=>
 (idx g.barriers c).bind λh=>
 (f179 9223372036854775808 e h).bind λj=>
 (f145_l6 t1 a d na (i64.wrap (c+1)) j) else(d e))
def f145_l5(t1:ao)(c:lI->Option lI):Nat->Int->lI->Option lI
 |0,_,_=>none
 |n+1,a,d=>
 (bif (decide (a<(t1.prots.length:Int))) then aq (λ(e:lI)=>
 (f145_l5 t1 c n (i64.wrap (a+1)) e)) λf=>
 (idx t1.prots a).bind λg=>
 (idx t1.prots a).bind λh=>
 (f176 d [g.ceiling,(h.barriers.length:Int)]).bind λj=>
 (f145_l6 t1 a f 9223372036854775808 0 j) else(c d))
def f145_l7(t1:ao):Nat->Int->lI->Option lI
 |0,_,_=>none
 |n+1,a,c=>
 (bif (decide (a<(t1.checks.length:Int))) then (idx t1.checks a).bind λd=>
 (idx t1.checks a).bind λe=>
 (f176 c [d.at_,(i64.wrap e.kind)]).bind λf=>
 (f145_l7 t1 n (i64.wrap (a+1)) f) else some c)
def f145(l:lI)(t1:ao):Option lI:=
 (f176 l [(t1.objs.length:Int)]).bind λa=>
 aq (λ(c:lI)=>
 (f176 c [(t1.inits.length:Int)]).bind λd=>
 aq (λ(e:lI)=>
 (f176 e [t1.excs,(t1.tasks.length:Int)]).bind λf=>
 aq (λ(g:lI)=>
 (f176 g [(t1.prots.length:Int)]).bind λh=>
 aq (λ(j:lI)=>
 (f176 j [(t1.checks.length:Int)]).bind λk=>
 (f145_l7 t1 9223372036854775808 0 k)) λm=>
 (f145_l5 t1 m 9223372036854775808 0 h)) λo=>
 (f145_l3 t1 o 9223372036854775808 0 f)) λp=>
 (f145_l2 t1 p 9223372036854775808 0 d)) λr=>
 (f145_l1 t1 r 9223372036854775808 0 a)
def f58(t0:ao):Option lI:=
 (f143 [] 958023).bind λa=>
 (f144 a t0).bind λc=>
 (f145 c t0).bind λd=>
 some d
def f19(a0:ao)(b1:ao):oB:=
 (f58 a0).bind λa=>
 aN (jj a)<|
 (f58 b1).bind λc=>
 aN (jj c)<|
 some (((jk a).toList==(jk c).toList))
def f116_l1(b0:lI)(c:Int->Option (Int)):Nat->Int->Int->Option (Int)
 |0,_,_=>none
 |n+1,d,a=>
 (bif (decide (a<8)) then (idx b0 a).bind λe=>
 aN (shc (i64.wrap (8*a)))<|
 (f116_l1 b0 c n (i64.wrap (BitVec.ofInt i64.bits d|||BitVec.ofInt i64.bits (i64.wrap ((i64.wrap e)*2^min (Int.toNat (i64.wrap (8*a))) i64.bits))).toNat) (i64.wrap (a+1))) else(c d))
def f116(b0:lI):Option Int:=
 aq (λ(a:Int)=>
 some a) λc=>
 (f116_l1 b0 c (Int.toNat (8 - 0)+1) 0 0)
def f53(b:lI)(bad:Bool)(v:Int):Option (lI×Bool×Int):=
 (bif (decide ((b.length:Int)<8)) then some (b,true,v) else (f116 b).bind λa=>
 aN (ce b 8 (b.length:Int))<|
 some ((br b 8 (b.length:Int)),bad,a))
def f131_a(b:lI)(bad:Bool)(l:lN)(k:Int):Option (lI×Bool×lN):=
 aq (λ(o:lN)(c00v34:lI)(c02v35:Bool)(c30v36:Int)=>
 aq (λ(p:lN)(c00v44:lI)(c02v45:Bool)(c40v46:Int)=>
 aq (λ(x:lN)(c00v54:lI)(c02v55:Bool)(c50v56:Int)=>
 some (c00v54,c02v55,x)) λr=>
 (idx p k).bind λy=>
 (f53 c00v44 c02v45 y.b).bind λg=>
 (idx p k).bind λc=>
 (idx (List.set p k.toNat (aB.mk c.op c.d c.a g.2.2 c.n c.m c.to)) k).bind λA=>
 (bif (!decide (A.b=g.2.2)) then(r (List.set p k.toNat (aB.mk c.op c.d c.a g.2.2 c.n c.m c.to)) g.1 true g.2.2) else(r (List.set p k.toNat (aB.mk c.op c.d c.a g.2.2 c.n c.m c.to)) g.1 g.2.1 g.2.2))) λt=>
 (idx o k).bind λB=>
 (f53 c00v34 c02v35 B.a).bind λh=>
 (idx o k).bind λe=>
 (idx (List.set o k.toNat (aB.mk e.op e.d h.2.2 e.b e.n e.m e.to)) k).bind λC=>
 (bif (!decide (C.a=h.2.2)) then(t (List.set o k.toNat (aB.mk e.op e.d h.2.2 e.b e.n e.m e.to)) h.1 true h.2.2) else(t (List.set o k.toNat (aB.mk e.op e.d h.2.2 e.b e.n e.m e.to)) h.1 h.2.1 h.2.2))) λw=>
 (idx l k).bind λE=>
 (f53 b bad E.d).bind λj=>
 (idx l k).bind λf=>
 (idx (List.set l k.toNat (aB.mk f.op j.2.2 f.a f.b f.n f.m f.to)) k).bind λF=>
 (bif (!decide (F.d=j.2.2)) then(w (List.set l k.toNat (aB.mk f.op j.2.2 f.a f.b f.n f.m f.to)) j.1 true j.2.2) else(w (List.set l k.toNat (aB.mk f.op j.2.2 f.a f.b f.n f.m f.to)) j.1 j.2.1 j.2.2))
def f164_o(b:lI)(bad:Bool)(l:lN)(k:Int):Option (lI×Bool×lN):=
 aq (λ(g:lN)(c00v37:lI)(c02v38:Bool)(c30v39:Int)=>
 some (c00v37,c02v38,g)) λf=>
 (idx l k).bind λh=>
 (f53 b bad (i64.wrap h.op)).bind λe=>
 (idx l k).bind λc=>
 (idx (List.set l k.toNat (aB.mk (IntKind.u8.wrap e.2.2) c.d c.a c.b c.n c.m c.to)) k).bind λj=>
 (bif (!decide ((i64.wrap j.op)=e.2.2)) then(f (List.set l k.toNat (aB.mk (IntKind.u8.wrap e.2.2) c.d c.a c.b c.n c.m c.to)) e.1 true e.2.2) else(f (List.set l k.toNat (aB.mk (IntKind.u8.wrap e.2.2) c.d c.a c.b c.n c.m c.to)) e.1 e.2.1 e.2.2))
def f131_t(b:lI)(bad:Bool)(l:lN)(k:Int):Option (lI×Bool×lN):=
 aq (λ(g:lN)(c00v34:lI)(c02v35:Bool)(c30v36:Int)=>
 some (c00v34,c02v35,g)) λf=>
 (idx l k).bind λh=>
 (f53 b bad h.to).bind λe=>
 (idx l k).bind λc=>
 (idx (List.set l k.toNat (aB.mk c.op c.d c.a c.b c.n c.m e.2.2)) k).bind λj=>
 (bif (!decide (j.to=e.2.2)) then(f (List.set l k.toNat (aB.mk c.op c.d c.a c.b c.n c.m e.2.2)) e.1 true e.2.2) else(f (List.set l k.toNat (aB.mk c.op c.d c.a c.b c.n c.m e.2.2)) e.1 e.2.1 e.2.2))
def f118(b:lI)(bad:Bool)(l:lN)(k:Int):Option (lI×Bool×lN):=
 (f164_o b bad l k).bind λg=>
 (f131_a g.1 g.2.1 g.2.2 k).bind λc=>
 aq (λ(h:lN)(c00v47:lI)(c02v48:Bool)=>
 aq (λ(r:lN)(c00v55:lI)(c02v56:Bool)=>
 (f131_t c00v55 c02v56 r k).bind λj=>
 some (j.1,j.2.1,j.2.2)) λo=>
 (bif (decide ((c00v47.length:Int)<8)) then(o h c00v47 true) else (f116 c00v47).bind λt=>
 (idx h k).bind λe=>
 aN (ce c00v47 8 (c00v47.length:Int))<|
 (o (List.set h k.toNat (aB.mk e.op e.d e.a e.b e.n t e.to)) (br c00v47 8 (c00v47.length:Int)) c02v48))) λp=>
 (bif (decide ((c.1.length:Int)<8)) then(p c.2.2 c.1 true) else (f116 c.1).bind λw=>
 (idx c.2.2 k).bind λf=>
 aN (ce c.1 8 (c.1.length:Int))<|
 (p (List.set c.2.2 k.toNat (aB.mk f.op f.d f.a f.b w f.m f.to)) (br c.1 8 (c.1.length:Int)) c.2.1))
def f131_h(b:lI)(bad:Bool)(l:lH)(k:Int):Option (lI×Bool×lH):=
 aq (λ(h:lH)(c00v34:lI)(c02v35:Bool)(c30v36:Int)=>
 aq (λ(j:lH)(c00v44:lI)(c02v45:Bool)(c40v46:Int)=>
 aq (λ(r:lH)(c00v54:lI)(c02v55:Bool)(c50v56:Int)=>
 some (c00v54,c02v55,r)) λm=>
 (idx j k).bind λt=>
 (f53 c00v44 c02v45 t.at_).bind λa=>
 (idx j k).bind λc=>
 (idx (List.set j k.toNat (am.mk c.from_ c.to a.2.2 c.clean)) k).bind λw=>
 (bif (!decide (w.at_=a.2.2)) then(m (List.set j k.toNat (am.mk c.from_ c.to a.2.2 c.clean)) a.1 true a.2.2) else(m (List.set j k.toNat (am.mk c.from_ c.to a.2.2 c.clean)) a.1 a.2.1 a.2.2))) λo=>
 (idx h k).bind λx=>
 (f53 c00v34 c02v35 x.to).bind λd=>
 (idx h k).bind λe=>
 (idx (List.set h k.toNat (am.mk e.from_ d.2.2 e.at_ e.clean)) k).bind λy=>
 (bif (!decide (y.to=d.2.2)) then(o (List.set h k.toNat (am.mk e.from_ d.2.2 e.at_ e.clean)) d.1 true d.2.2) else(o (List.set h k.toNat (am.mk e.from_ d.2.2 e.at_ e.clean)) d.1 d.2.1 d.2.2))) λp=>
 (idx l k).bind λA=>
 (f53 b bad A.from_).bind λf=>
 (idx l k).bind λg=>
 (idx (List.set l k.toNat (am.mk f.2.2 g.to g.at_ g.clean)) k).bind λB=>
 (bif (!decide (B.from_=f.2.2)) then(p (List.set l k.toNat (am.mk f.2.2 g.to g.at_ g.clean)) f.1 true f.2.2) else(p (List.set l k.toNat (am.mk f.2.2 g.to g.at_ g.clean)) f.1 f.2.1 f.2.2))
def f120(b:lI)(bad:Bool)(l:lH)(k:Int):Option (lI×Bool×lH):=
 (f131_h b bad l k).bind λc=>
 aq (λ(f:lH)(c00v28:lI)(c02v29:Bool)(c30v30:Int)=>
 some (c00v28,c02v29,f)) λg=>
 aq (λ(c30v32:Int)=>
 (f53 c.1 c.2.1 c30v32).bind λa=>
 (idx c.2.2 k).bind λd=>
 (g (List.set c.2.2 k.toNat (am.mk d.from_ d.to d.at_ (decide (a.2.2=1)))) a.1 ((a.2.1||(decide (a.2.2<0)))||(decide (a.2.2>1))) a.2.2)) λe=>
 (idx c.2.2 k).bind λh=>
 (bif h.clean then(e 1) else(e 0))
def f131_l(b:lI)(bad:Bool)(l:lP)(k:Int):Option (lI×Bool×lP):=
 aq (λ(f:lP)(c00v34:lI)(c02v35:Bool)(c30v36:Int)=>
 aq (λ(j:lP)(c00v44:lI)(c02v45:Bool)(c40v46:Int)=>
 some (c00v44,c02v45,j)) λg=>
 (idx f k).bind λm=>
 (f53 c00v34 c02v35 m.back).bind λa=>
 (idx f k).bind λd=>
 (idx (List.set f k.toNat (Loop.mk d.head a.2.2 d.bound)) k).bind λo=>
 (bif (!decide (o.back=a.2.2)) then(g (List.set f k.toNat (Loop.mk d.head a.2.2 d.bound)) a.1 true a.2.2) else(g (List.set f k.toNat (Loop.mk d.head a.2.2 d.bound)) a.1 a.2.1 a.2.2))) λh=>
 (idx l k).bind λp=>
 (f53 b bad p.head).bind λc=>
 (idx l k).bind λe=>
 (idx (List.set l k.toNat (Loop.mk c.2.2 e.back e.bound)) k).bind λr=>
 (bif (!decide (r.head=c.2.2)) then(h (List.set l k.toNat (Loop.mk c.2.2 e.back e.bound)) c.1 true c.2.2) else(h (List.set l k.toNat (Loop.mk c.2.2 e.back e.bound)) c.1 c.2.1 c.2.2))
def f122(b:lI)(bad:Bool)(l:lP)(k:Int):Option (lI×Bool×lP):=
 (f131_l b bad l k).bind λa=>
 aq (λ(e:lP)(c00v25:lI)(c02v26:Bool)=>
 some (c00v25,c02v26,e)) λc=>
 (bif (decide ((a.1.length:Int)<8)) then(c a.2.2 a.1 true) else (f116 a.1).bind λf=>
 (idx a.2.2 k).bind λd=>
 aN (ce a.1 8 (a.1.length:Int))<|
 (c (List.set a.2.2 k.toNat (Loop.mk d.head d.back f)) (br a.1 8 (a.1.length:Int)) a.2.1))
def f191_x(b:lI)(bad:Bool)(l:List aX)(k:Int):Option (lI×Bool×(List aX)):=
 aq (λ(e:List aX)(c00v37:lI)(c02v38:Bool)(c30v39:Int)=>
 some (c00v37,c02v38,e)) λd=>
 (idx l k).bind λf=>
 (f53 b bad (i64.wrap f.kind)).bind λc=>
 (idx l k).bind λa=>
 (idx (List.set l k.toNat (aX.mk (IntKind.u8.wrap c.2.2) a.entry a.guard a.time a.at_)) k).bind λg=>
 (bif (!decide ((i64.wrap g.kind)=c.2.2)) then(d (List.set l k.toNat (aX.mk (IntKind.u8.wrap c.2.2) a.entry a.guard a.time a.at_)) c.1 true c.2.2) else(d (List.set l k.toNat (aX.mk (IntKind.u8.wrap c.2.2) a.entry a.guard a.time a.at_)) c.1 c.2.1 c.2.2))
def f131_x(b:lI)(bad:Bool)(l:List aX)(k:Int):Option (lI×Bool×(List aX)):=
 aq (λ(m:List aX)(c00v34:lI)(c02v35:Bool)(c30v36:Int)=>
 aq (λ(o:List aX)(c00v44:lI)(c02v45:Bool)(c40v46:Int)=>
 aq (λ(p:List aX)(c00v54:lI)(c02v55:Bool)(c50v56:Int)=>
 aq (λ(y:List aX)(c00v64:lI)(c02v65:Bool)(c60v66:Int)=>
 some (c00v64,c02v65,y)) λr=>
 (idx p k).bind λA=>
 (f53 c00v54 c02v55 A.at_).bind λf=>
 (idx p k).bind λa=>
 (idx (List.set p k.toNat (aX.mk a.kind a.entry a.guard a.time f.2.2)) k).bind λB=>
 (bif (!decide (B.at_=f.2.2)) then(r (List.set p k.toNat (aX.mk a.kind a.entry a.guard a.time f.2.2)) f.1 true f.2.2) else(r (List.set p k.toNat (aX.mk a.kind a.entry a.guard a.time f.2.2)) f.1 f.2.1 f.2.2))) λt=>
 (idx o k).bind λC=>
 (f53 c00v44 c02v45 C.time).bind λg=>
 (idx o k).bind λc=>
 (idx (List.set o k.toNat (aX.mk c.kind c.entry c.guard g.2.2 c.at_)) k).bind λE=>
 (bif (!decide (E.time=g.2.2)) then(t (List.set o k.toNat (aX.mk c.kind c.entry c.guard g.2.2 c.at_)) g.1 true g.2.2) else(t (List.set o k.toNat (aX.mk c.kind c.entry c.guard g.2.2 c.at_)) g.1 g.2.1 g.2.2))) λw=>
 (idx m k).bind λF=>
 (f53 c00v34 c02v35 F.guard).bind λh=>
 (idx m k).bind λd=>
 (idx (List.set m k.toNat (aX.mk d.kind d.entry h.2.2 d.time d.at_)) k).bind λG=>
 (bif (!decide (G.guard=h.2.2)) then(w (List.set m k.toNat (aX.mk d.kind d.entry h.2.2 d.time d.at_)) h.1 true h.2.2) else(w (List.set m k.toNat (aX.mk d.kind d.entry h.2.2 d.time d.at_)) h.1 h.2.1 h.2.2))) λx=>
 (idx l k).bind λH=>
 (f53 b bad H.entry).bind λj=>
 (idx l k).bind λe=>
 (idx (List.set l k.toNat (aX.mk e.kind j.2.2 e.guard e.time e.at_)) k).bind λI=>
 (bif (!decide (I.entry=j.2.2)) then(x (List.set l k.toNat (aX.mk e.kind j.2.2 e.guard e.time e.at_)) j.1 true j.2.2) else(x (List.set l k.toNat (aX.mk e.kind j.2.2 e.guard e.time e.at_)) j.1 j.2.1 j.2.2))
def f167(b:lI)(bad:Bool)(l:List aX)(k:Int):Option (lI×Bool×(List aX)):=
 (f191_x b bad l k).bind λa=>
 (f131_x a.1 a.2.1 a.2.2 k).bind λc=>
 some (c.1,c.2.1,c.2.2)
def f131_s(b:lI)(bad:Bool)(l:lT)(k:Int):Option (lI×Bool×lT):=
 aq (λ(f:lT)(c00v34:lI)(c02v35:Bool)(c30v36:Int)=>
 aq (λ(j:lT)(c00v44:lI)(c02v45:Bool)(c40v46:Int)=>
 some (c00v44,c02v45,j)) λg=>
 (idx f k).bind λm=>
 (f53 c00v34 c02v35 m.slot).bind λa=>
 (idx f k).bind λd=>
 (idx (List.set f k.toNat (bt.mk d.o a.2.2 d.v)) k).bind λp=>
 (bif (!decide (p.slot=a.2.2)) then(g (List.set f k.toNat (bt.mk d.o a.2.2 d.v)) a.1 true a.2.2) else(g (List.set f k.toNat (bt.mk d.o a.2.2 d.v)) a.1 a.2.1 a.2.2))) λh=>
 (idx l k).bind λr=>
 (f53 b bad r.o).bind λc=>
 (idx l k).bind λe=>
 (idx (List.set l k.toNat (bt.mk c.2.2 e.slot e.v)) k).bind λt=>
 (bif (!decide (t.o=c.2.2)) then(h (List.set l k.toNat (bt.mk c.2.2 e.slot e.v)) c.1 true c.2.2) else(h (List.set l k.toNat (bt.mk c.2.2 e.slot e.v)) c.1 c.2.1 c.2.2))
def f130(b:lI)(bad:Bool)(l:lT)(k:Int):Option (lI×Bool×lT):=
 (f131_s b bad l k).bind λa=>
 aq (λ(e:lT)(c00v25:lI)(c02v26:Bool)=>
 some (c00v25,c02v26,e)) λc=>
 (bif (decide ((a.1.length:Int)<8)) then(c a.2.2 a.1 true) else (f116 a.1).bind λf=>
 (idx a.2.2 k).bind λd=>
 aN (ce a.1 8 (a.1.length:Int))<|
 (c (List.set a.2.2 k.toNat (bt.mk d.o d.slot f)) (br a.1 8 (a.1.length:Int)) a.2.1))
def f131_c(b:lI)(bad:Bool)(l:lC)(k:Int):Option (lI×Bool×lC):=
 aq (λ(e:lC)(c00v34:lI)(c02v35:Bool)(c30v36:Int)=>
 some (c00v34,c02v35,e)) λd=>
 (idx l k).bind λf=>
 (f53 b bad f.at_).bind λa=>
 (idx l k).bind λc=>
 (idx (List.set l k.toNat (bc.mk a.2.2 c.kind)) k).bind λg=>
 (bif (!decide (g.at_=a.2.2)) then(d (List.set l k.toNat (bc.mk a.2.2 c.kind)) a.1 true a.2.2) else(d (List.set l k.toNat (bc.mk a.2.2 c.kind)) a.1 a.2.1 a.2.2))
def f174_c(b:lI)(bad:Bool)(l:lC)(k:Int):Option (lI×Bool×lC):=
 aq (λ(e:lC)(c00v37:lI)(c02v38:Bool)(c30v39:Int)=>
 some (c00v37,c02v38,e)) λd=>
 (idx l k).bind λf=>
 (f53 b bad (i64.wrap f.kind)).bind λa=>
 (idx l k).bind λc=>
 (idx (List.set l k.toNat (bc.mk c.at_ (IntKind.u8.wrap a.2.2))) k).bind λg=>
 (bif (!decide ((i64.wrap g.kind)=a.2.2)) then(d (List.set l k.toNat (bc.mk c.at_ (IntKind.u8.wrap a.2.2))) a.1 true a.2.2) else(d (List.set l k.toNat (bc.mk c.at_ (IntKind.u8.wrap a.2.2))) a.1 a.2.1 a.2.2))
def f137(b:lI)(bad:Bool)(l:lC)(k:Int):Option (lI×Bool×lC):=
 (f131_c b bad l k).bind λa=>
 (f174_c a.1 a.2.1 a.2.2 k).bind λc=>
 some (c.1,c.2.1,c.2.2)
def f131_n(b:lI)(bad:Bool)(l:lI)(k:Int):Option (lI×Bool×lI):=
 aq (λ(d:lI)(c00v34:lI)(c02v35:Bool)(c30v36:Int)=>
 some (c00v34,c02v35,d)) λc=>
 (idx l k).bind λe=>
 (f53 b bad e).bind λa=>
 (idx l k).bind λg=>
 (idx (List.set l k.toNat a.2.2) k).bind λf=>
 (bif (!decide (f=a.2.2)) then(c (List.set l k.toNat a.2.2) a.1 true a.2.2) else(c (List.set l k.toNat a.2.2) a.1 a.2.1 a.2.2))
def f169(b:lI)(bad:Bool)(l:lI)(k:Int):Option (lI×Bool×lI):=
 (f131_n b bad l k).bind λa=>
 some (a.1,a.2.1,a.2.2)
def f126_l1(l:lL)(k:Int)(d:lL->lI->Bool->Option (lI×Bool×lL))(f:lI×Bool×Int):Nat->Int->lI->lI->Bool->Option (lI×Bool×lL)
 |0,_,_,_,_=>none
 |n+1,a,c,c00v28,c02v29=>
 (bif (decide (a<(List.length (List.replicate f.2.2.toNat (0:Int)):Int))) then(bif c02v29 then(d (List.set l k.toNat c) c00v28 c02v29) else (idx c a).bind λg=>
 (f169 c00v28 c02v29 c a).bind λe=>
 (f126_l1 l k d f n (i64.wrap (a+1)) e.2.2 e.1 e.2.1)) else(d (List.set l k.toNat c) c00v28 c02v29))
def f126(b:lI)(bad:Bool)(l:lL)(k:Int):Option (lI×Bool×lL):=
 aq (λ(d:lL)(c00v14:lI)(c02v15:Bool)=>
 some (c00v14,c02v15,d)) λc=>
 (idx l k).bind λe=>
 (f53 b bad (e.length:Int)).bind λa=>
 (bif ((decide (a.2.2<0))||(decide (a.2.2>(i64.wrap (Int.tdiv (a.1.length:Int) 8))))) then(c l a.1 true) else aN (dY 8 a.2.2)<|
 (idx l k).bind λf=>
 (f126_l1 l k c a (Int.toNat ((List.length (List.replicate a.2.2.toNat (0:Int)):Int) - 0)+1) 0 (List.replicate a.2.2.toNat (0:Int)) a.1 a.2.1))
def f131_o(b:lI)(bad:Bool)(l:lO)(k:Int):Option (lI×Bool×lO):=
 aq (λ(e:lO)(c00v34:lI)(c02v35:Bool)(c30v36:Int)=>
 some (c00v34,c02v35,e)) λd=>
 (idx l k).bind λf=>
 (f53 b bad f.size).bind λc=>
 (idx l k).bind λa=>
 (idx (List.set l k.toNat (Obj.mk c.2.2 a.lo a.hi a.ptr a.set_)) k).bind λg=>
 (bif (!decide (g.size=c.2.2)) then(d (List.set l k.toNat (Obj.mk c.2.2 a.lo a.hi a.ptr a.set_)) c.1 true c.2.2) else(d (List.set l k.toNat (Obj.mk c.2.2 a.lo a.hi a.ptr a.set_)) c.1 c.2.1 c.2.2))
def f128_l1(k:Int)(e:lO)(f:lO->lI->Bool->Option (lI×Bool×lO))(h:lI×Bool×Int)(a:Obj):Nat->Int->lI->lI->Bool->Option (lI×Bool×lO)
 |0,_,_,_,_=>none
 |n+1,c,d,c00v84,c02v85=>
 (bif (decide (c<(List.length (List.replicate h.2.2.toNat (0:Int)):Int))) then(bif c02v85 then(f (List.set e k.toNat (Obj.mk a.size a.lo a.hi a.ptr d)) c00v84 c02v85) else (idx d c).bind λj=>
 (f169 c00v84 c02v85 d c).bind λg=>
 (f128_l1 k e f h a n (i64.wrap (c+1)) g.2.2 g.1 g.2.1)) else(f (List.set e k.toNat (Obj.mk a.size a.lo a.hi a.ptr d)) c00v84 c02v85))
def f128(b:lI)(bad:Bool)(l:lO)(k:Int):Option (lI×Bool×lO):=
 (f131_o b bad l k).bind λa=>
 aq (λ(j:lO)(c00v37:lI)(c02v38:Bool)=>
 aq (λ(m:lO)(c00v45:lI)(c02v46:Bool)=>
 aq (λ(e:lO)(c00v53:lI)(c02v54:Bool)(c30v55:Int)=>
 aq (λ(w:lO)(c00v65:lI)(c02v66:Bool)=>
 some (c00v65,c02v66,w)) λx=>
 aq (λ(y:lO)(c00v70:lI)(c02v71:Bool)=>
 (x y c00v70 c02v71)) λo=>
 (idx e k).bind λA=>
 (f53 c00v53 c02v54 (A.set_.length:Int)).bind λc=>
 (bif ((decide (c.2.2<0))||(decide (c.2.2>(i64.wrap (Int.tdiv (c.1.length:Int) 8))))) then(o e c.1 true) else aN (dY 8 c.2.2)<|
 (idx e k).bind λB=>
 (f128_l1 k e o c B (Int.toNat ((List.length (List.replicate c.2.2.toNat (0:Int)):Int) - 0)+1) 0 (List.replicate c.2.2.toNat (0:Int)) c.1 c.2.1))) λC=>
 aq (λ(c30v57:Int)=>
 (f53 c00v45 c02v46 c30v57).bind λd=>
 (idx m k).bind λf=>
 (C (List.set m k.toNat (Obj.mk f.size f.lo f.hi (decide (d.2.2=1)) f.set_)) d.1 ((d.2.1||(decide (d.2.2<0)))||(decide (d.2.2>1))) d.2.2)) λp=>
 (idx m k).bind λE=>
 (bif E.ptr then(p 1) else(p 0))) λr=>
 (bif (decide ((c00v37.length:Int)<8)) then(r j c00v37 true) else (f116 c00v37).bind λF=>
 (idx j k).bind λg=>
 aN (ce c00v37 8 (c00v37.length:Int))<|
 (r (List.set j k.toNat (Obj.mk g.size g.lo F g.ptr g.set_)) (br c00v37 8 (c00v37.length:Int)) c02v38))) λt=>
 (bif (decide ((a.1.length:Int)<8)) then(t a.2.2 a.1 true) else (f116 a.1).bind λG=>
 (idx a.2.2 k).bind λh=>
 aN (ce a.1 8 (a.1.length:Int))<|
 (t (List.set a.2.2 k.toNat (Obj.mk h.size G h.hi h.ptr h.set_)) (br a.1 8 (a.1.length:Int)) a.2.1))
def f171_l1(l:List az)(k:Int)(d:(List az)->lI->Bool->Option (lI×Bool×(List az)))(g:lI×Bool×Int)(e:az):Nat->Int->lI->lI->Bool->Option (lI×Bool×(List az))
 |0,_,_,_,_=>none
 |n+1,a,c,c00v38,c02v39=>
 (bif (decide (a<(List.length (List.replicate g.2.2.toNat (0:Int)):Int))) then(bif c02v39 then(d (List.set l k.toNat (az.mk c e.outs)) c00v38 c02v39) else (idx c a).bind λh=>
 (f169 c00v38 c02v39 c a).bind λf=>
 (f171_l1 l k d g e n (i64.wrap (a+1)) f.2.2 f.1 f.2.1)) else(d (List.set l k.toNat (az.mk c e.outs)) c00v38 c02v39))
def f171_l2(k:Int)(d:List az)(e:(List az)->lI->Bool->Option (lI×Bool×(List az)))(h:lI×Bool×Int)(f:az):Nat->Int->lI->lI->Bool->Option (lI×Bool×(List az))
 |0,_,_,_,_=>none
 |n+1,a,c,c00v68,c02v69=>
 (bif (decide (a<(List.length (List.replicate h.2.2.toNat (0:Int)):Int))) then(bif c02v69 then(e (List.set d k.toNat (az.mk f.ins c)) c00v68 c02v69) else (idx c a).bind λj=>
 (f169 c00v68 c02v69 c a).bind λg=>
 (f171_l2 k d e h f n (i64.wrap (a+1)) g.2.2 g.1 g.2.1)) else(e (List.set d k.toNat (az.mk f.ins c)) c00v68 c02v69))
def f171(b:lI)(bad:Bool)(l:List az)(k:Int):Option (lI×Bool×(List az)):=
 aq (λ(d:List az)(c00v19:lI)(c02v20:Bool)=>
 aq (λ(g:List az)(c00v49:lI)(c02v50:Bool)=>
 some (c00v49,c02v50,g)) λh=>
 aq (λ(j:List az)(c00v54:lI)(c02v55:Bool)=>
 (h j c00v54 c02v55)) λe=>
 (idx d k).bind λm=>
 (f53 c00v19 c02v20 (m.outs.length:Int)).bind λa=>
 (bif ((decide (a.2.2<0))||(decide (a.2.2>(i64.wrap (Int.tdiv (a.1.length:Int) 8))))) then(e d a.1 true) else aN (dY 8 a.2.2)<|
 (idx d k).bind λo=>
 (f171_l2 k d e a o (Int.toNat ((List.length (List.replicate a.2.2.toNat (0:Int)):Int) - 0)+1) 0 (List.replicate a.2.2.toNat (0:Int)) a.1 a.2.1))) λp=>
 aq (λ(r:List az)(c00v24:lI)(c02v25:Bool)=>
 (p r c00v24 c02v25)) λf=>
 (idx l k).bind λt=>
 (f53 b bad (t.ins.length:Int)).bind λc=>
 (bif ((decide (c.2.2<0))||(decide (c.2.2>(i64.wrap (Int.tdiv (c.1.length:Int) 8))))) then(f l c.1 true) else aN (dY 8 c.2.2)<|
 (idx l k).bind λw=>
 (f171_l1 l k f c w (Int.toNat ((List.length (List.replicate c.2.2.toNat (0:Int)):Int) - 0)+1) 0 (List.replicate c.2.2.toNat (0:Int)) c.1 c.2.1))
def f131_q(b:lI)(bad:Bool)(l:lS)(k:Int):Option (lI×Bool×lS):=
 aq (λ(f:lS)(c00v34:lI)(c02v35:Bool)(c30v36:Int)=>
 aq (λ(j:lS)(c00v44:lI)(c02v45:Bool)(c40v46:Int)=>
 some (c00v44,c02v45,j)) λg=>
 (idx f k).bind λm=>
 (f53 c00v34 c02v35 m.else_).bind λa=>
 (idx f k).bind λd=>
 (idx (List.set f k.toNat (aC.mk d.alts d.obj a.2.2)) k).bind λo=>
 (bif (!decide (o.else_=a.2.2)) then(g (List.set f k.toNat (aC.mk d.alts d.obj a.2.2)) a.1 true a.2.2) else(g (List.set f k.toNat (aC.mk d.alts d.obj a.2.2)) a.1 a.2.1 a.2.2))) λh=>
 (idx l k).bind λp=>
 (f53 b bad p.obj).bind λc=>
 (idx l k).bind λe=>
 (idx (List.set l k.toNat (aC.mk e.alts c.2.2 e.else_)) k).bind λr=>
 (bif (!decide (r.obj=c.2.2)) then(h (List.set l k.toNat (aC.mk e.alts c.2.2 e.else_)) c.1 true c.2.2) else(h (List.set l k.toNat (aC.mk e.alts c.2.2 e.else_)) c.1 c.2.1 c.2.2))
def f124_l1(l:lS)(k:Int)(e:lS->lI->Bool->Option (lI×Bool×lS))(g:lI×Bool×Int)(a:aC):Nat->Int->(List aX)->lI->Bool->Option (lI×Bool×lS)
 |0,_,_,_,_=>none
 |n+1,c,d,c00v39,c02v40=>
 (bif (decide (c<(List.length (List.replicate g.2.2.toNat ((aX.mk 0 0 0 0 0):aX)):Int))) then(bif c02v40 then(e (List.set l k.toNat (aC.mk d a.obj a.else_)) c00v39 c02v40) else (idx d c).bind λh=>
 (f167 c00v39 c02v40 d c).bind λf=>
 (f124_l1 l k e g a n (i64.wrap (c+1)) f.2.2 f.1 f.2.1)) else(e (List.set l k.toNat (aC.mk d a.obj a.else_)) c00v39 c02v40))
def f124(b:lI)(bad:Bool)(l:lS)(k:Int):Option (lI×Bool×lS):=
 aq (λ(e:lS)(c00v25:lI)(c02v26:Bool)=>
 (f131_q c00v25 c02v26 e k).bind λc=>
 some (c.1,c.2.1,c.2.2)) λd=>
 (idx l k).bind λf=>
 (f53 b bad (f.alts.length:Int)).bind λa=>
 (bif ((decide (a.2.2<0))||(decide (a.2.2>(i64.wrap (Int.tdiv (a.1.length:Int) 8))))) then(d l a.1 true) else aN (dY 40 a.2.2)<|
 (idx l k).bind λg=>
 (f124_l1 l k d a g (Int.toNat ((List.length (List.replicate a.2.2.toNat ((aX.mk 0 0 0 0 0):aX)):Int) - 0)+1) 0 (List.replicate a.2.2.toNat ((aX.mk 0 0 0 0 0):aX)) a.1 a.2.1))
def f131_k(b:lI)(bad:Bool)(l:lK)(k:Int):Option (lI×Bool×lK):=
 aq (λ(f:lK)(c00v34:lI)(c02v35:Bool)(c30v36:Int)=>
 aq (λ(j:lK)(c00v44:lI)(c02v45:Bool)(c40v46:Int)=>
 some (c00v44,c02v45,j)) λg=>
 (idx f k).bind λm=>
 (f53 c00v34 c02v35 m.at_).bind λa=>
 (idx f k).bind λc=>
 (idx (List.set f k.toNat (aJ.mk c.prio a.2.2 c.entries c.deadline)) k).bind λo=>
 (bif (!decide (o.at_=a.2.2)) then(g (List.set f k.toNat (aJ.mk c.prio a.2.2 c.entries c.deadline)) a.1 true a.2.2) else(g (List.set f k.toNat (aJ.mk c.prio a.2.2 c.entries c.deadline)) a.1 a.2.1 a.2.2))) λh=>
 (idx l k).bind λp=>
 (f53 b bad p.prio).bind λd=>
 (idx l k).bind λe=>
 (idx (List.set l k.toNat (aJ.mk d.2.2 e.at_ e.entries e.deadline)) k).bind λr=>
 (bif (!decide (r.prio=d.2.2)) then(h (List.set l k.toNat (aJ.mk d.2.2 e.at_ e.entries e.deadline)) d.1 true d.2.2) else(h (List.set l k.toNat (aJ.mk d.2.2 e.at_ e.entries e.deadline)) d.1 d.2.1 d.2.2))
def f133_l1(k:Int)(e:lI×Bool×lK)(f:lK->lI->Bool->Option (lI×Bool×lK))(h:lI×Bool×Int)(a:aJ):Nat->Int->(List az)->lI->Bool->Option (lI×Bool×lK)
 |0,_,_,_,_=>none
 |n+1,c,d,c00v46,c02v47=>
 (bif (decide (c<(List.length (List.replicate h.2.2.toNat ((az.mk [] []):az)):Int))) then(bif c02v47 then(f (List.set e.2.2 k.toNat (aJ.mk a.prio a.at_ d a.deadline)) c00v46 c02v47) else (idx d c).bind λj=>
 (f171 c00v46 c02v47 d c).bind λg=>
 (f133_l1 k e f h a n (i64.wrap (c+1)) g.2.2 g.1 g.2.1)) else(f (List.set e.2.2 k.toNat (aJ.mk a.prio a.at_ d a.deadline)) c00v46 c02v47))
def f133(b:lI)(bad:Bool)(l:lK)(k:Int):Option (lI×Bool×lK):=
 (f131_k b bad l k).bind λc=>
 aq (λ(d:lK)(c00v32:lI)(c02v33:Bool)=>
 aq (λ(h:lK)(c00v57:lI)(c02v58:Bool)=>
 some (c00v57,c02v58,h)) λf=>
 (bif (decide ((c00v32.length:Int)<8)) then(f d c00v32 true) else (f116 c00v32).bind λj=>
 (idx d k).bind λe=>
 aN (ce c00v32 8 (c00v32.length:Int))<|
 (f (List.set d k.toNat (aJ.mk e.prio e.at_ e.entries j)) (br c00v32 8 (c00v32.length:Int)) c02v33))) λg=>
 (idx c.2.2 k).bind λm=>
 (f53 c.1 c.2.1 (m.entries.length:Int)).bind λa=>
 (bif ((decide (a.2.2<0))||(decide (a.2.2>(i64.wrap (Int.tdiv (a.1.length:Int) 8))))) then(g c.2.2 a.1 true) else aN (dY 48 a.2.2)<|
 (idx c.2.2 k).bind λo=>
 (f133_l1 k c g a o (Int.toNat ((List.length (List.replicate a.2.2.toNat ((az.mk [] []):az)):Int) - 0)+1) 0 (List.replicate a.2.2.toNat ((az.mk [] []):az)) a.1 a.2.1))
def f192_e(b:lI)(bad:Bool)(l:List ah)(k:Int):Option (lI×Bool×(List ah)):=
 aq (λ(e:List ah)(c00v37:lI)(c02v38:Bool)(c30v39:Int)=>
 some (c00v37,c02v38,e)) λd=>
 (idx l k).bind λf=>
 (f53 b bad (i64.wrap f.kind)).bind λc=>
 (idx l k).bind λa=>
 (idx (List.set l k.toNat (ah.mk (IntKind.u8.wrap c.2.2) a.op a.n a.o a.off a.len a.lo a.hi a.l)) k).bind λg=>
 (bif (!decide ((i64.wrap g.kind)=c.2.2)) then(d (List.set l k.toNat (ah.mk (IntKind.u8.wrap c.2.2) a.op a.n a.o a.off a.len a.lo a.hi a.l)) c.1 true c.2.2) else(d (List.set l k.toNat (ah.mk (IntKind.u8.wrap c.2.2) a.op a.n a.o a.off a.len a.lo a.hi a.l)) c.1 c.2.1 c.2.2))
def f193_e(b:lI)(bad:Bool)(l:List ah)(k:Int):Option (lI×Bool×(List ah)):=
 aq (λ(e:List ah)(c00v37:lI)(c02v38:Bool)(c30v39:Int)=>
 some (c00v37,c02v38,e)) λd=>
 (idx l k).bind λf=>
 (f53 b bad (i64.wrap f.op)).bind λc=>
 (idx l k).bind λa=>
 (idx (List.set l k.toNat (ah.mk a.kind (IntKind.u8.wrap c.2.2) a.n a.o a.off a.len a.lo a.hi a.l)) k).bind λg=>
 (bif (!decide ((i64.wrap g.op)=c.2.2)) then(d (List.set l k.toNat (ah.mk a.kind (IntKind.u8.wrap c.2.2) a.n a.o a.off a.len a.lo a.hi a.l)) c.1 true c.2.2) else(d (List.set l k.toNat (ah.mk a.kind (IntKind.u8.wrap c.2.2) a.n a.o a.off a.len a.lo a.hi a.l)) c.1 c.2.1 c.2.2))
def f131_e(b:lI)(bad:Bool)(l:List ah)(k:Int):Option (lI×Bool×(List ah)):=
 aq (λ(h:List ah)(c00v34:lI)(c02v35:Bool)(c30v36:Int)=>
 aq (λ(j:List ah)(c00v44:lI)(c02v45:Bool)(c40v46:Int)=>
 aq (λ(t:List ah)(c00v54:lI)(c02v55:Bool)(c50v56:Int)=>
 some (c00v54,c02v55,t)) λm=>
 (idx j k).bind λw=>
 (f53 c00v44 c02v45 w.len).bind λe=>
 (idx j k).bind λa=>
 (idx (List.set j k.toNat (ah.mk a.kind a.op a.n a.o a.off e.2.2 a.lo a.hi a.l)) k).bind λx=>
 (bif (!decide (x.len=e.2.2)) then(m (List.set j k.toNat (ah.mk a.kind a.op a.n a.o a.off e.2.2 a.lo a.hi a.l)) e.1 true e.2.2) else(m (List.set j k.toNat (ah.mk a.kind a.op a.n a.o a.off e.2.2 a.lo a.hi a.l)) e.1 e.2.1 e.2.2))) λp=>
 (idx h k).bind λy=>
 (f53 c00v34 c02v35 y.off).bind λf=>
 (idx h k).bind λc=>
 (idx (List.set h k.toNat (ah.mk c.kind c.op c.n c.o f.2.2 c.len c.lo c.hi c.l)) k).bind λA=>
 (bif (!decide (A.off=f.2.2)) then(p (List.set h k.toNat (ah.mk c.kind c.op c.n c.o f.2.2 c.len c.lo c.hi c.l)) f.1 true f.2.2) else(p (List.set h k.toNat (ah.mk c.kind c.op c.n c.o f.2.2 c.len c.lo c.hi c.l)) f.1 f.2.1 f.2.2))) λr=>
 (idx l k).bind λB=>
 (f53 b bad B.o).bind λg=>
 (idx l k).bind λd=>
 (idx (List.set l k.toNat (ah.mk d.kind d.op d.n g.2.2 d.off d.len d.lo d.hi d.l)) k).bind λC=>
 (bif (!decide (C.o=g.2.2)) then(r (List.set l k.toNat (ah.mk d.kind d.op d.n g.2.2 d.off d.len d.lo d.hi d.l)) g.1 true g.2.2) else(r (List.set l k.toNat (ah.mk d.kind d.op d.n g.2.2 d.off d.len d.lo d.hi d.l)) g.1 g.2.1 g.2.2))
def f173s_l1(h:lI->Bool->(List ah)->Int->Option (lI×Bool×(List ah)))(k:Int)(e:List ah)(f:(List ah)->lI->Bool->Option (lI×Bool×(List ah)))(j:lI×Bool×Int)(a:ah):Nat->Int->(List ah)->lI->Bool->Option (lI×Bool×(List ah))
 |0,_,_,_,_=>none
 |n+1,c,d,c00v99,c02v100=>
 (bif (decide (c<(List.length (List.replicate j.2.2.toNat ((ah.mk 0 0 0 0 0 0 0 0 []):ah)):Int))) then(bif c02v100 then(f (List.set e k.toNat (ah.mk a.kind a.op a.n a.o a.off a.len a.lo a.hi d)) c00v99 c02v100) else (idx d c).bind λm=>
 (h c00v99 c02v100 d c).bind λg=>
 (f173s_l1 h k e f j a n (i64.wrap (c+1)) g.2.2 g.1 g.2.1)) else(f (List.set e k.toNat (ah.mk a.kind a.op a.n a.o a.off a.len a.lo a.hi d)) c00v99 c02v100))
def f173s(w:lI->Bool->(List ah)->Int->Option (lI×Bool×(List ah)))(b:lI)(bad:Bool)(l:List ah)(k:Int):Option (lI×Bool×(List ah)):=
 (f192_e b bad l k).bind λh=>
 (f193_e h.1 h.2.1 h.2.2 k).bind λr55=>
 aq (λ(x:List ah)(c00v59:lI)(c02v60:Bool)=>
 (f131_e c00v59 c02v60 x k).bind λa=>
 aq (λ(j:List ah)(c00v69:lI)(c02v70:Bool)=>
 aq (λ(g:List ah)(c00v77:lI)(c02v78:Bool)=>
 aq (λ(y:List ah)(c00v85:lI)(c02v86:Bool)=>
 some (c00v85,c02v86,y)) λm=>
 (idx g k).bind λA=>
 (f53 c00v77 c02v78 (A.l.length:Int)).bind λc=>
 (bif ((decide (c.2.2<0))||(decide (c.2.2>(i64.wrap (Int.tdiv (c.1.length:Int) 8))))) then(m g c.1 true) else aN (dY 80 c.2.2)<|
 (idx g k).bind λB=>
 (f173s_l1 w k g m c B (Int.toNat ((List.length (List.replicate c.2.2.toNat ((ah.mk 0 0 0 0 0 0 0 0 []):ah)):Int) - 0)+1) 0 (List.replicate c.2.2.toNat ((ah.mk 0 0 0 0 0 0 0 0 []):ah)) c.1 c.2.1))) λp=>
 (bif (decide ((c00v69.length:Int)<8)) then(p j c00v69 true) else (f116 c00v69).bind λC=>
 (idx j k).bind λd=>
 aN (ce c00v69 8 (c00v69.length:Int))<|
 (p (List.set j k.toNat (ah.mk d.kind d.op d.n d.o d.off d.len d.lo C d.l)) (br c00v69 8 (c00v69.length:Int)) c02v70))) λr=>
 (bif (decide ((a.1.length:Int)<8)) then(r a.2.2 a.1 true) else (f116 a.1).bind λE=>
 (idx a.2.2 k).bind λe=>
 aN (ce a.1 8 (a.1.length:Int))<|
 (r (List.set a.2.2 k.toNat (ah.mk e.kind e.op e.n e.o e.off e.len E e.hi e.l)) (br a.1 8 (a.1.length:Int)) a.2.1))) λt=>
 (bif (decide ((r55.1.length:Int)<8)) then(t r55.2.2 r55.1 true) else (f116 r55.1).bind λF=>
 (idx r55.2.2 k).bind λf=>
 aN (ce r55.1 8 (r55.1.length:Int))<|
 (t (List.set r55.2.2 k.toNat (ah.mk f.kind f.op F f.o f.off f.len f.lo f.hi f.l)) (br r55.1 8 (r55.1.length:Int)) r55.2.1))
def f173:Nat->lI->Bool->(List ah)->Int->Option (lI×Bool×(List ah))
 |0=>λ_ _ _ _=>none
 |n+1=>f173s (f173 n)
def f131_p(b:lI)(bad:Bool)(l:lM)(k:Int):Option (lI×Bool×lM):=
 aq (λ(e:lM)(c00v34:lI)(c02v35:Bool)(c30v36:Int)=>
 some (c00v34,c02v35,e)) λd=>
 (idx l k).bind λf=>
 (f53 b bad f.ceiling).bind λa=>
 (idx l k).bind λc=>
 (idx (List.set l k.toNat (aV.mk a.2.2 c.barriers)) k).bind λg=>
 (bif (!decide (g.ceiling=a.2.2)) then(d (List.set l k.toNat (aV.mk a.2.2 c.barriers)) a.1 true a.2.2) else(d (List.set l k.toNat (aV.mk a.2.2 c.barriers)) a.1 a.2.1 a.2.2))
def f135_l1(k:Int)(d:lI×Bool×lM)(e:lM->lI->Bool->Option (lI×Bool×lM))(h:lI×Bool×Int)(f:aV):Nat->Int->(List ah)->lI->Bool->Option (lI×Bool×lM)
 |0,_,_,_,_=>none
 |n+1,a,c,c00v38,c02v39=>
 (bif (decide (a<(List.length (List.replicate h.2.2.toNat ((ah.mk 0 0 0 0 0 0 0 0 []):ah)):Int))) then(bif c02v39 then(e (List.set d.2.2 k.toNat (aV.mk f.ceiling c)) c00v38 c02v39) else (idx c a).bind λj=>
 (f173 9223372036854775808 c00v38 c02v39 c a).bind λg=>
 (f135_l1 k d e h f n (i64.wrap (a+1)) g.2.2 g.1 g.2.1)) else(e (List.set d.2.2 k.toNat (aV.mk f.ceiling c)) c00v38 c02v39))
def f135(b:lI)(bad:Bool)(l:lM)(k:Int):Option (lI×Bool×lM):=
 (f131_p b bad l k).bind λc=>
 aq (λ(e:lM)(c00v24:lI)(c02v25:Bool)=>
 some (c00v24,c02v25,e)) λd=>
 (idx c.2.2 k).bind λf=>
 (f53 c.1 c.2.1 (f.barriers.length:Int)).bind λa=>
 (bif ((decide (a.2.2<0))||(decide (a.2.2>(i64.wrap (Int.tdiv (a.1.length:Int) 8))))) then(d c.2.2 a.1 true) else aN (dY 80 a.2.2)<|
 (idx c.2.2 k).bind λg=>
 (f135_l1 k c d a g (Int.toNat ((List.length (List.replicate a.2.2.toNat ((ah.mk 0 0 0 0 0 0 0 0 []):ah)):Int) - 0)+1) 0 (List.replicate a.2.2.toNat ((ah.mk 0 0 0 0 0 0 0 0 []):ah)) a.1 a.2.1))
def f131_T(b:lI)(bad:Bool)(tinsns:lN)(thandlers:lH)(tloops:lP)(tselects:lS)(tlists:lL)(tobjs:lO)(tinits:lT)(texcs:Int)(ttasks:lK)(tprots:lM)(tchecks:lC):Option (lI×Bool×Int):=
 aq (λ(c00v33:lI)(c02v34:Bool)(c17v35:Int)(c30v36:Int)=>
 some (c00v33,c02v34,c17v35)) λc=>
 (f53 b bad texcs).bind λa=>
 (bif (!decide (a.2.2=a.2.2)) then(c a.1 true a.2.2 a.2.2) else(c a.1 a.2.1 a.2.2 a.2.2))
def f54_l1(d:lI->Bool->lN->Option (lI×Bool×lN×lH×lP×lS×lL×lO×lT×Int×lK×lM×lC))(f:lI×Bool×Int):Nat->Int->lN->lI->Bool->Option (lI×Bool×lN×lH×lP×lS×lL×lO×lT×Int×lK×lM×lC)
 |0,_,_,_,_=>none
 |n+1,a,c,c00v97,c02v98=>
 (bif (decide (a<(List.length (List.replicate f.2.2.toNat ((aB.mk 0 0 0 0 0 0 0):aB)):Int))) then(bif c02v98 then(d c00v97 c02v98 c) else (idx c a).bind λg=>
 (f118 c00v97 c02v98 c a).bind λe=>
 (f54_l1 d f n (i64.wrap (a+1)) e.2.2 e.1 e.2.1)) else(d c00v97 c02v98 c))
def f54_l2(d:lI->Bool->lH->Option (lI×Bool×lN×lH×lP×lS×lL×lO×lT×Int×lK×lM×lC))(f:lI×Bool×Int):Nat->Int->lH->lI->Bool->Option (lI×Bool×lN×lH×lP×lS×lL×lO×lT×Int×lK×lM×lC)
 |0,_,_,_,_=>none
 |n+1,a,c,c00v120,c02v121=>
 (bif (decide (a<(List.length (List.replicate f.2.2.toNat ((am.mk 0 0 0 false):am)):Int))) then(bif c02v121 then(d c00v120 c02v121 c) else (idx c a).bind λg=>
 (f120 c00v120 c02v121 c a).bind λe=>
 (f54_l2 d f n (i64.wrap (a+1)) e.2.2 e.1 e.2.1)) else(d c00v120 c02v121 c))
def f54_l3(d:lI->Bool->lP->Option (lI×Bool×lN×lH×lP×lS×lL×lO×lT×Int×lK×lM×lC))(f:lI×Bool×Int):Nat->Int->lP->lI->Bool->Option (lI×Bool×lN×lH×lP×lS×lL×lO×lT×Int×lK×lM×lC)
 |0,_,_,_,_=>none
 |n+1,a,c,c00v143,c02v144=>
 (bif (decide (a<(List.length (List.replicate f.2.2.toNat ((Loop.mk 0 0 0):Loop)):Int))) then(bif c02v144 then(d c00v143 c02v144 c) else (idx c a).bind λg=>
 (f122 c00v143 c02v144 c a).bind λe=>
 (f54_l3 d f n (i64.wrap (a+1)) e.2.2 e.1 e.2.1)) else(d c00v143 c02v144 c))
def f54_l4(d:lI->Bool->lS->Option (lI×Bool×lN×lH×lP×lS×lL×lO×lT×Int×lK×lM×lC))(f:lI×Bool×Int):Nat->Int->lS->lI->Bool->Option (lI×Bool×lN×lH×lP×lS×lL×lO×lT×Int×lK×lM×lC)
 |0,_,_,_,_=>none
 |n+1,a,c,c00v166,c02v167=>
 (bif (decide (a<(List.length (List.replicate f.2.2.toNat ((aC.mk [] 0 0):aC)):Int))) then(bif c02v167 then(d c00v166 c02v167 c) else (idx c a).bind λg=>
 (f124 c00v166 c02v167 c a).bind λe=>
 (f54_l4 d f n (i64.wrap (a+1)) e.2.2 e.1 e.2.1)) else(d c00v166 c02v167 c))
def f54_l5(d:lI->Bool->lL->Option (lI×Bool×lN×lH×lP×lS×lL×lO×lT×Int×lK×lM×lC))(f:lI×Bool×Int):Nat->Int->lL->lI->Bool->Option (lI×Bool×lN×lH×lP×lS×lL×lO×lT×Int×lK×lM×lC)
 |0,_,_,_,_=>none
 |n+1,a,c,c00v189,c02v190=>
 (bif (decide (a<(List.length (List.replicate f.2.2.toNat ([]:lI)):Int))) then(bif c02v190 then(d c00v189 c02v190 c) else (idx c a).bind λg=>
 (f126 c00v189 c02v190 c a).bind λe=>
 (f54_l5 d f n (i64.wrap (a+1)) e.2.2 e.1 e.2.1)) else(d c00v189 c02v190 c))
def f54_l6(d:lI->Bool->lO->Option (lI×Bool×lN×lH×lP×lS×lL×lO×lT×Int×lK×lM×lC))(f:lI×Bool×Int):Nat->Int->lO->lI->Bool->Option (lI×Bool×lN×lH×lP×lS×lL×lO×lT×Int×lK×lM×lC)
 |0,_,_,_,_=>none
 |n+1,a,c,c00v212,c02v213=>
 (bif (decide (a<(List.length (List.replicate f.2.2.toNat ((Obj.mk 0 0 0 false []):Obj)):Int))) then(bif c02v213 then(d c00v212 c02v213 c) else (idx c a).bind λg=>
 (f128 c00v212 c02v213 c a).bind λe=>
 (f54_l6 d f n (i64.wrap (a+1)) e.2.2 e.1 e.2.1)) else(d c00v212 c02v213 c))
def f54_l7(d:lI->Bool->lT->Option (lI×Bool×lN×lH×lP×lS×lL×lO×lT×Int×lK×lM×lC))(f:lI×Bool×Int):Nat->Int->lT->lI->Bool->Option (lI×Bool×lN×lH×lP×lS×lL×lO×lT×Int×lK×lM×lC)
 |0,_,_,_,_=>none
 |n+1,a,c,c00v235,c02v236=>
 (bif (decide (a<(List.length (List.replicate f.2.2.toNat ((bt.mk 0 0 0):bt)):Int))) then(bif c02v236 then(d c00v235 c02v236 c) else (idx c a).bind λg=>
 (f130 c00v235 c02v236 c a).bind λe=>
 (f54_l7 d f n (i64.wrap (a+1)) e.2.2 e.1 e.2.1)) else(d c00v235 c02v236 c))
def f54_l8(d:lI->Bool->lK->Option (lI×Bool×lN×lH×lP×lS×lL×lO×lT×Int×lK×lM×lC))(f:lI×Bool×Int):Nat->Int->lK->lI->Bool->Option (lI×Bool×lN×lH×lP×lS×lL×lO×lT×Int×lK×lM×lC)
 |0,_,_,_,_=>none
 |n+1,a,c,c00v260,c02v261=>
 (bif (decide (a<(List.length (List.replicate f.2.2.toNat ((aJ.mk 0 0 [] 0):aJ)):Int))) then(bif c02v261 then(d c00v260 c02v261 c) else (idx c a).bind λg=>
 (f133 c00v260 c02v261 c a).bind λe=>
 (f54_l8 d f n (i64.wrap (a+1)) e.2.2 e.1 e.2.1)) else(d c00v260 c02v261 c))
def f54_l9(d:lI->Bool->lM->Option (lI×Bool×lN×lH×lP×lS×lL×lO×lT×Int×lK×lM×lC))(f:lI×Bool×Int):Nat->Int->lM->lI->Bool->Option (lI×Bool×lN×lH×lP×lS×lL×lO×lT×Int×lK×lM×lC)
 |0,_,_,_,_=>none
 |n+1,a,c,c00v283,c02v284=>
 (bif (decide (a<(List.length (List.replicate f.2.2.toNat ((aV.mk 0 []):aV)):Int))) then(bif c02v284 then(d c00v283 c02v284 c) else (idx c a).bind λg=>
 (f135 c00v283 c02v284 c a).bind λe=>
 (f54_l9 d f n (i64.wrap (a+1)) e.2.2 e.1 e.2.1)) else(d c00v283 c02v284 c))
def f54_l10(d:lI->Bool->lC->Option (lI×Bool×lN×lH×lP×lS×lL×lO×lT×Int×lK×lM×lC))(f:lI×Bool×Int):Nat->Int->lC->lI->Bool->Option (lI×Bool×lN×lH×lP×lS×lL×lO×lT×Int×lK×lM×lC)
 |0,_,_,_,_=>none
 |n+1,a,c,c00v306,c02v307=>
 (bif (decide (a<(List.length (List.replicate f.2.2.toNat ((bc.mk 0 0):bc)):Int))) then(bif c02v307 then(d c00v306 c02v307 c) else (idx c a).bind λg=>
 (f137 c00v306 c02v307 c a).bind λe=>
 (f54_l10 d f n (i64.wrap (a+1)) e.2.2 e.1 e.2.1)) else(d c00v306 c02v307 c))
def f54(b:lI)(bad:Bool)(tinsns:lN)(thandlers:lH)(tloops:lP)(tselects:lS)(tlists:lL)(tobjs:lO)(tinits:lT)(texcs:Int)(ttasks:lK)(tprots:lM)(tchecks:lC):Option (lI×Bool×lN×lH×lP×lS×lL×lO×lT×Int×lK×lM×lC):=
 aq (λ(c00v84:lI)(c02v85:Bool)(c10v86:lN)=>
 aq (λ(c00v107:lI)(c02v108:Bool)(c11v109:lH)=>
 aq (λ(c00v130:lI)(c02v131:Bool)(c12v132:lP)=>
 aq (λ(c00v153:lI)(c02v154:Bool)(c13v155:lS)=>
 aq (λ(c00v176:lI)(c02v177:Bool)(c14v178:lL)=>
 aq (λ(c00v199:lI)(c02v200:Bool)(c15v201:lO)=>
 aq (λ(c00v222:lI)(c02v223:Bool)(c16v224:lT)=>
 (f131_T c00v222 c02v223 c10v86 c11v109 c12v132 c13v155 c14v178 c15v201 c16v224 texcs ttasks tprots tchecks).bind λo=>
 aq (λ(c00v247:lI)(c02v248:Bool)(c18v249:lK)=>
 aq (λ(c00v270:lI)(c02v271:Bool)(c19v272:lM)=>
 aq (λ(c00v293:lI)(c02v294:Bool)(c110v295:lC)=>
 some (c00v293,c02v294,c10v86,c11v109,c12v132,c13v155,c14v178,c15v201,c16v224,o.2.2,c18v249,c19v272,c110v295)) λp=>
 (f53 c00v270 c02v271 (tchecks.length:Int)).bind λa=>
 (bif ((decide (a.2.2<0))||(decide (a.2.2>(i64.wrap (Int.tdiv (a.1.length:Int) 8))))) then(p a.1 true tchecks) else aN (dY 16 a.2.2)<|
 (f54_l10 p a (Int.toNat ((List.length (List.replicate a.2.2.toNat ((bc.mk 0 0):bc)):Int) - 0)+1) 0 (List.replicate a.2.2.toNat ((bc.mk 0 0):bc)) a.1 a.2.1))) λr=>
 (f53 c00v247 c02v248 (tprots.length:Int)).bind λc=>
 (bif ((decide (c.2.2<0))||(decide (c.2.2>(i64.wrap (Int.tdiv (c.1.length:Int) 8))))) then(r c.1 true tprots) else aN (dY 32 c.2.2)<|
 (f54_l9 r c (Int.toNat ((List.length (List.replicate c.2.2.toNat ((aV.mk 0 []):aV)):Int) - 0)+1) 0 (List.replicate c.2.2.toNat ((aV.mk 0 []):aV)) c.1 c.2.1))) λt=>
 (f53 o.1 o.2.1 (ttasks.length:Int)).bind λd=>
 (bif ((decide (d.2.2<0))||(decide (d.2.2>(i64.wrap (Int.tdiv (d.1.length:Int) 8))))) then(t d.1 true ttasks) else aN (dY 48 d.2.2)<|
 (f54_l8 t d (Int.toNat ((List.length (List.replicate d.2.2.toNat ((aJ.mk 0 0 [] 0):aJ)):Int) - 0)+1) 0 (List.replicate d.2.2.toNat ((aJ.mk 0 0 [] 0):aJ)) d.1 d.2.1))) λw=>
 (f53 c00v199 c02v200 (tinits.length:Int)).bind λe=>
 (bif ((decide (e.2.2<0))||(decide (e.2.2>(i64.wrap (Int.tdiv (e.1.length:Int) 8))))) then(w e.1 true tinits) else aN (dY 24 e.2.2)<|
 (f54_l7 w e (Int.toNat ((List.length (List.replicate e.2.2.toNat ((bt.mk 0 0 0):bt)):Int) - 0)+1) 0 (List.replicate e.2.2.toNat ((bt.mk 0 0 0):bt)) e.1 e.2.1))) λx=>
 (f53 c00v176 c02v177 (tobjs.length:Int)).bind λf=>
 (bif ((decide (f.2.2<0))||(decide (f.2.2>(i64.wrap (Int.tdiv (f.1.length:Int) 8))))) then(x f.1 true tobjs) else aN (dY 56 f.2.2)<|
 (f54_l6 x f (Int.toNat ((List.length (List.replicate f.2.2.toNat ((Obj.mk 0 0 0 false []):Obj)):Int) - 0)+1) 0 (List.replicate f.2.2.toNat ((Obj.mk 0 0 0 false []):Obj)) f.1 f.2.1))) λy=>
 (f53 c00v153 c02v154 (tlists.length:Int)).bind λg=>
 (bif ((decide (g.2.2<0))||(decide (g.2.2>(i64.wrap (Int.tdiv (g.1.length:Int) 8))))) then(y g.1 true tlists) else aN (dY 24 g.2.2)<|
 (f54_l5 y g (Int.toNat ((List.length (List.replicate g.2.2.toNat ([]:lI)):Int) - 0)+1) 0 (List.replicate g.2.2.toNat ([]:lI)) g.1 g.2.1))) λA=>
 (f53 c00v130 c02v131 (tselects.length:Int)).bind λh=>
 (bif ((decide (h.2.2<0))||(decide (h.2.2>(i64.wrap (Int.tdiv (h.1.length:Int) 8))))) then(A h.1 true tselects) else aN (dY 40 h.2.2)<|
 (f54_l4 A h (Int.toNat ((List.length (List.replicate h.2.2.toNat ((aC.mk [] 0 0):aC)):Int) - 0)+1) 0 (List.replicate h.2.2.toNat ((aC.mk [] 0 0):aC)) h.1 h.2.1))) λB=>
 (f53 c00v107 c02v108 (tloops.length:Int)).bind λj=>
 (bif ((decide (j.2.2<0))||(decide (j.2.2>(i64.wrap (Int.tdiv (j.1.length:Int) 8))))) then(B j.1 true tloops) else aN (dY 24 j.2.2)<|
 (f54_l3 B j (Int.toNat ((List.length (List.replicate j.2.2.toNat ((Loop.mk 0 0 0):Loop)):Int) - 0)+1) 0 (List.replicate j.2.2.toNat ((Loop.mk 0 0 0):Loop)) j.1 j.2.1))) λC=>
 (f53 c00v84 c02v85 (thandlers.length:Int)).bind λk=>
 (bif ((decide (k.2.2<0))||(decide (k.2.2>(i64.wrap (Int.tdiv (k.1.length:Int) 8))))) then(C k.1 true thandlers) else aN (dY 32 k.2.2)<|
 (f54_l2 C k (Int.toNat ((List.length (List.replicate k.2.2.toNat ((am.mk 0 0 0 false):am)):Int) - 0)+1) 0 (List.replicate k.2.2.toNat ((am.mk 0 0 0 false):am)) k.1 k.2.1))) λE=>
 (f53 b bad (tinsns.length:Int)).bind λm=>
 (bif ((decide (m.2.2<0))||(decide (m.2.2>(i64.wrap (Int.tdiv (m.1.length:Int) 8))))) then(E m.1 true tinsns) else aN (dY 56 m.2.2)<|
 (f54_l1 E m (Int.toNat ((List.length (List.replicate m.2.2.toNat ((aB.mk 0 0 0 0 0 0 0):aB)):Int) - 0)+1) 0 (List.replicate m.2.2.toNat ((aB.mk 0 0 0 0 0 0 0):aB)) m.1 m.2.1))
def f138_l1(b0:lI)(c:Int->Option (Int)):Nat->Int->Int->Option (Int)
 |0,_,_=>none
 |n+1,d,a=>
 (bif (decide (a>=0)) then (idx b0 a).bind λe=>
 (f138_l1 b0 c n (IntKind.u64.wrap ((IntKind.u64.wrap (256*d))+(IntKind.u64.wrap e))) (i64.wrap (a - 1))) else(c d))
def f138(b0:lI):Option Int:=
 aq (λ(a:Int)=>
 some (i64.wrap a)) λc=>
 (f138_l1 b0 c (Int.toNat (7+1)+1) 0 7)
def f55(b:lI)(bad:Bool):Option (Int×lI×Bool):=
 (bif (decide ((b.length:Int)<8)) then some (0,b,true) else (f138 b).bind λa=>
 aN (ce b 8 (b.length:Int))<|
 some (a,(br b 8 (b.length:Int)),bad))
def f140(b:lI)(bad:Bool):Option (Int×lI×Bool):=
 (f55 b bad).bind λr7=>
 some (r7.1,r7.2.1,r7.2.2)
def f139(b:lI)(bad:Bool):Option (Int×lI×Bool):=
 (f55 b bad).bind λa=>
 (bif ((decide (a.1<0))||(decide (a.1>(i64.wrap (Int.tdiv (a.2.1.length:Int) 8))))) then some (0,a.2.1,true) else some (a.1,a.2.1,a.2.2))
def f141_l1(d:lI->lI->Bool->Option (lI×lI×Bool)):Nat->Int->lI->lI->Bool->Option (lI×lI×Bool)
 |0,_,_,_,_=>none
 |n+1,e,c,c00v34,c01v35=>
 (bif (decide (e>0)) then (f140 c00v34 c01v35).bind λa=>
 aN (cS 8 c [a.1])<|
 (f141_l1 d n (i64.wrap (e - 1)) (c++ [a.1]) a.2.1 a.2.2) else(d c c00v34 c01v35))
def f141(b:lI)(bad:Bool):Option (lI×lI×Bool):=
 aq (λ(c:lI)(c00v21:lI)(c01v22:Bool)=>
 some (c,c00v21,c01v22)) λd=>
 (f139 b bad).bind λa=>
 (f141_l1 d 9223372036854775808 a.1 [] a.2.1 a.2.2)
def f142s_l1(d:lI->Bool->Option (ah×lI×Bool))(e:(List ah)->lI->Bool->Option (ah×lI×Bool)):Nat->Int->(List ah)->lI->Bool->Option (ah×lI×Bool)
 |0,_,_,_,_=>none
 |n+1,f,c,c00v81,c01v82=>
 (bif ((decide (f>0))&&(!c01v82)) then (d c00v81 c01v82).bind λa=>
 aN (cS 80 c [a.1])<|
 (f142s_l1 d e n (i64.wrap (f - 1)) (c++ [a.1]) a.2.1 a.2.2) else(e c c00v81 c01v82))
def f142s(k:lI->Bool->Option (ah×lI×Bool))(b:lI)(bad:Bool):Option (ah×lI×Bool):=
 (f140 b bad).bind λa=>
 (f140 a.2.1 a.2.2).bind λc=>
 (f55 c.2.1 c.2.2).bind λd=>
 (f140 d.2.1 d.2.2).bind λe=>
 (f140 e.2.1 e.2.2).bind λr55=>
 (f140 r55.2.1 r55.2.2).bind λf=>
 (f55 f.2.1 f.2.2).bind λg=>
 (f55 g.2.1 g.2.2).bind λh=>
 aq (λ(m:List ah)(c00v65:lI)(c01v66:Bool)=>
 some ((ah.mk (IntKind.u8.wrap a.1) (IntKind.u8.wrap c.1) d.1 e.1 r55.1 f.1 g.1 h.1 m),c00v65,c01v66)) λo=>
 (f139 h.2.1 h.2.2).bind λj=>
 (f142s_l1 k o 9223372036854775808 j.1 [] j.2.1 j.2.2)
def f142:Nat->lI->Bool->Option (ah×lI×Bool)
 |0=>λ_ _=>none
 |n+1=>f142s (f142 n)
def f17(b0:lI):Option (ao×Int):=
 (f53 b0 false 0).bind λc=>
 aq (λ(c10v46:lI)(c12v47:Bool)(c30v48:lN)(c31v49:lH)(c32v50:lP)(c33v51:lS)(c34v52:lL)(c35v53:lO)(c36v54:lT)(c37v55:Int)(c38v56:lK)(c39v57:lM)(c310v58:lC)=>
 (bif ((c12v47||(!decide (c.2.2=958023)))||(decide ((c10v46.length:Int)>0))) then some true else((f10 (ao.mk c30v48 c31v49 c32v50 c33v51 c34v52 c35v53 c36v54 c37v55 c38v56 c39v57 c310v58)).bind λe=>some (!e))).bind λf=>
 (bif f then some ((ao.mk [] [] [] [] [] [] [] 0 [] [] []),230) else some ((ao.mk c30v48 c31v49 c32v50 c33v51 c34v52 c35v53 c36v54 c37v55 c38v56 c39v57 c310v58),0))) λd=>
 (bif (!c.2.1) then (f54 c.1 c.2.1 [] [] [] [] [] [] [] 0 [] [] []).bind λa=>
 (d a.1 a.2.1 a.2.2.1 a.2.2.2.1 a.2.2.2.2.1 a.2.2.2.2.2.1 a.2.2.2.2.2.2.1 a.2.2.2.2.2.2.2.1 a.2.2.2.2.2.2.2.2.1 a.2.2.2.2.2.2.2.2.2.1 a.2.2.2.2.2.2.2.2.2.2.1 a.2.2.2.2.2.2.2.2.2.2.2.1 a.2.2.2.2.2.2.2.2.2.2.2.2) else(d c.1 c.2.1 [] [] [] [] [] [] [] 0 [] [] []))
def f18_l1(k:lN->lI->Bool->Option (ao×Int)):Nat->Int->lN->lI->Bool->Option (ao×Int)
 |0,_,_,_,_=>none
 |n+1,m,j,c10v76,c11v77=>
 (bif ((decide (m>0))&&(!c11v77)) then (f140 c10v76 c11v77).bind λa=>
 (f140 a.2.1 a.2.2).bind λc=>
 (f140 c.2.1 c.2.2).bind λd=>
 (f140 d.2.1 d.2.2).bind λe=>
 (f55 e.2.1 e.2.2).bind λf=>
 (f55 f.2.1 f.2.2).bind λg=>
 (f140 g.2.1 g.2.2).bind λh=>
 aN (cS 56 j [(aB.mk (IntKind.u8.wrap a.1) c.1 d.1 e.1 f.1 g.1 h.1)])<|
 (f18_l1 k n (i64.wrap (m - 1)) (j++ [(aB.mk (IntKind.u8.wrap a.1) c.1 d.1 e.1 f.1 g.1 h.1)]) h.2.1 h.2.2) else(k j c10v76 c11v77))
def f18_l2(g:lH->lI->Bool->Option (ao×Int)):Nat->Int->lH->lI->Bool->Option (ao×Int)
 |0,_,_,_,_=>none
 |n+1,h,f,c10v116,c11v117=>
 (bif ((decide (h>0))&&(!c11v117)) then (f140 c10v116 c11v117).bind λa=>
 (f140 a.2.1 a.2.2).bind λc=>
 (f140 c.2.1 c.2.2).bind λd=>
 (f55 d.2.1 d.2.2).bind λe=>
 aN (cS 32 f [(am.mk a.1 c.1 d.1 (decide (e.1=1)))])<|
 (f18_l2 g n (i64.wrap (h - 1)) (f++ [(am.mk a.1 c.1 d.1 (decide (e.1=1)))]) e.2.1 e.2.2) else(g f c10v116 c11v117))
def f18_l3(f:lP->lI->Bool->Option (ao×Int)):Nat->Int->lP->lI->Bool->Option (ao×Int)
 |0,_,_,_,_=>none
 |n+1,g,e,c10v150,c11v151=>
 (bif ((decide (g>0))&&(!c11v151)) then (f140 c10v150 c11v151).bind λa=>
 (f140 a.2.1 a.2.2).bind λc=>
 (f55 c.2.1 c.2.2).bind λd=>
 aN (cS 24 e [(Loop.mk a.1 c.1 d.1)])<|
 (f18_l3 f n (i64.wrap (g - 1)) (e++ [(Loop.mk a.1 c.1 d.1)]) d.2.1 d.2.2) else(f e c10v150 c11v151))
def f18_l5(h:(List aX)->lI->Bool->Option (ao×Int)):Nat->Int->(List aX)->lI->Bool->Option (ao×Int)
 |0,_,_,_,_=>none
 |na+1,j,g,c10v215,c11v216=>
 (bif ((decide (j>0))&&(!c11v216)) then (f140 c10v215 c11v216).bind λa=>
 (f140 a.2.1 a.2.2).bind λc=>
 (f140 c.2.1 c.2.2).bind λd=>
 (f140 d.2.1 d.2.2).bind λe=>
 (f140 e.2.1 e.2.2).bind λf=>
 aN (cS 40 g [(aX.mk (IntKind.u8.wrap a.1) c.1 d.1 e.1 f.1)])<|
 (f18_l5 h na (i64.wrap (j - 1)) (g++ [(aX.mk (IntKind.u8.wrap a.1) c.1 d.1 e.1 f.1)]) f.2.1 f.2.2) else(h g c10v215 c11v216))
def f18_l4(g:lS->lI->Bool->Option (ao×Int)):Nat->Int->lS->lI->Bool->Option (ao×Int)
 |0,_,_,_,_=>none
 |n+1,h,e,c10v182,c11v183=>
 (bif ((decide (h>0))&&(!c11v183)) then aq (λ(j:lS)(o:lS)(c10v191:lI)(c11v192:Bool)(c80v193:List aX)(c81v194:Int)(c82v195:Int)=>
 (f18_l4 g n (i64.wrap (h - 1)) j c10v191 c11v192)) λk=>
 aq (λ(d:List aX)(c10v199:lI)(c11v200:Bool)=>
 (f140 c10v199 c11v200).bind λa=>
 (f140 a.2.1 a.2.2).bind λc=>
 aN (cS 40 e [(aC.mk d a.1 c.1)])<|
 (k (e++ [(aC.mk d a.1 c.1)]) [(aC.mk d a.1 c.1)] c.2.1 c.2.2 d a.1 c.1)) λm=>
 (f139 c10v182 c11v183).bind λf=>
 (f18_l5 m 9223372036854775808 f.1 [] f.2.1 f.2.2) else(g e c10v182 c11v183))
def f18_l6(d:lL->lI->Bool->Option (ao×Int)):Nat->Int->lL->lI->Bool->Option (ao×Int)
 |0,_,_,_,_=>none
 |n+1,e,c,c10v256,c11v257=>
 (bif ((decide (e>0))&&(!c11v257)) then (f141 c10v256 c11v257).bind λa=>
 aN (cS 24 c [a.1])<|
 (f18_l6 d n (i64.wrap (e - 1)) (c++ [a.1]) a.2.1 a.2.2) else(d c c10v256 c11v257))
def f18_l7(h:lO->lI->Bool->Option (ao×Int)):Nat->Int->lO->lI->Bool->Option (ao×Int)
 |0,_,_,_,_=>none
 |n+1,j,g,c10v301,c11v302=>
 (bif ((decide (j>0))&&(!c11v302)) then (f140 c10v301 c11v302).bind λa=>
 (f55 a.2.1 a.2.2).bind λc=>
 (f55 c.2.1 c.2.2).bind λd=>
 (f55 d.2.1 d.2.2).bind λe=>
 (f141 e.2.1 e.2.2).bind λf=>
 aN (cS 56 g [(Obj.mk a.1 c.1 d.1 (decide (e.1=1)) f.1)])<|
 (f18_l7 h n (i64.wrap (j - 1)) (g++ [(Obj.mk a.1 c.1 d.1 (decide (e.1=1)) f.1)]) f.2.1 f.2.2) else(h g c10v301 c11v302))
def f18_l8(f:lT->lI->Bool->Option (ao×Int)):Nat->Int->lT->lI->Bool->Option (ao×Int)
 |0,_,_,_,_=>none
 |n+1,g,e,c10v337,c11v338=>
 (bif ((decide (g>0))&&(!c11v338)) then (f140 c10v337 c11v338).bind λa=>
 (f140 a.2.1 a.2.2).bind λc=>
 (f55 c.2.1 c.2.2).bind λd=>
 aN (cS 24 e [(bt.mk a.1 c.1 d.1)])<|
 (f18_l8 f n (i64.wrap (g - 1)) (e++ [(bt.mk a.1 c.1 d.1)]) d.2.1 d.2.2) else(f e c10v337 c11v338))
def f18_l10(e:(List az)->lI->Bool->Option (ao×Int)):Nat->Int->(List az)->lI->Bool->Option (ao×Int)
 |0,_,_,_,_=>none
 |na+1,f,d,c10v409,c11v410=>
 (bif ((decide (f>0))&&(!c11v410)) then (f141 c10v409 c11v410).bind λa=>
 (f141 a.2.1 a.2.2).bind λc=>
 aN (cS 48 d [(az.mk a.1 c.1)])<|
 (f18_l10 e na (i64.wrap (f - 1)) (d++ [(az.mk a.1 c.1)]) c.2.1 c.2.2) else(e d c10v409 c11v410))
def f18_l9(h:lK->lI->Bool->Option (ao×Int)):Nat->Int->lK->lI->Bool->Option (ao×Int)
 |0,_,_,_,_=>none
 |n+1,j,f,c10v371,c11v372=>
 (bif ((decide (j>0))&&(!c11v372)) then aq (λ(k:lK)(p:lK)(c10v380:lI)(c11v381:Bool)(c140v382:Int)(c141v383:Int)(c142v384:List az)(c143v385:Int)=>
 (f18_l9 h n (i64.wrap (j - 1)) k c10v380 c11v381)) λm=>
 (f140 c10v371 c11v372).bind λa=>
 (f140 a.2.1 a.2.2).bind λc=>
 aq (λ(e:List az)(c10v393:lI)(c11v394:Bool)=>
 (f55 c10v393 c11v394).bind λd=>
 aN (cS 48 f [(aJ.mk a.1 c.1 e d.1)])<|
 (m (f++ [(aJ.mk a.1 c.1 e d.1)]) [(aJ.mk a.1 c.1 e d.1)] d.2.1 d.2.2 a.1 c.1 e d.1)) λo=>
 (f139 c.2.1 c.2.2).bind λg=>
 (f18_l10 o 9223372036854775808 g.1 [] g.2.1 g.2.2) else(h f c10v371 c11v372))
def f18_l12(d:(List ah)->lI->Bool->Option (ao×Int)):Nat->Int->(List ah)->lI->Bool->Option (ao×Int)
 |0,_,_,_,_=>none
 |na+1,e,c,c10v476,c11v477=>
 (bif ((decide (e>0))&&(!c11v477)) then (f142 9223372036854775808 c10v476 c11v477).bind λa=>
 aN (cS 80 c [a.1])<|
 (f18_l12 d na (i64.wrap (e - 1)) (c++ [a.1]) a.2.1 a.2.2) else(d c c10v476 c11v477))
def f18_l11(f:lM->lI->Bool->Option (ao×Int)):Nat->Int->lM->lI->Bool->Option (ao×Int)
 |0,_,_,_,_=>none
 |n+1,g,d,c10v442,c11v443=>
 (bif ((decide (g>0))&&(!c11v443)) then aq (λ(h:lM)(m:lM)(c10v451:lI)(c11v452:Bool)(c150v453:Int)(c151v454:List ah)=>
 (f18_l11 f n (i64.wrap (g - 1)) h c10v451 c11v452)) λj=>
 (f140 c10v442 c11v443).bind λa=>
 aq (λ(c:List ah)(c10v460:lI)(c11v461:Bool)=>
 aN (cS 32 d [(aV.mk a.1 c)])<|
 (j (d++ [(aV.mk a.1 c)]) [(aV.mk a.1 c)] c10v460 c11v461 a.1 c)) λk=>
 (f139 a.2.1 a.2.2).bind λe=>
 (f18_l12 k 9223372036854775808 e.1 [] e.2.1 e.2.2) else(f d c10v442 c11v443))
def f18_l13(e:lC->lI->Bool->Option (ao×Int)):Nat->Int->lC->lI->Bool->Option (ao×Int)
 |0,_,_,_,_=>none
 |n+1,f,d,c10v505,c11v506=>
 (bif ((decide (f>0))&&(!c11v506)) then (f140 c10v505 c11v506).bind λa=>
 (f140 a.2.1 a.2.2).bind λc=>
 aN (cS 16 d [(bc.mk a.1 (IntKind.u8.wrap c.1))])<|
 (f18_l13 e n (i64.wrap (f - 1)) (d++ [(bc.mk a.1 (IntKind.u8.wrap c.1))]) c.2.1 c.2.2) else(e d c10v505 c11v506))
def f18(b0:lI):Option (ao×Int):=
 (f55 b0 false).bind λH=>
 aq (λ(c0v40:lN)(c1v41:lH)(c2v42:lP)(c3v43:lS)(c4v44:lL)(c10v45:lI)(c11v46:Bool)(c20v47:lN)(c21v48:lH)(c22v49:lP)(c23v50:lS)(c24v51:lL)(c30v52:lN)(c31v53:lH)(c32v54:lP)(c33v55:lS)(c34v56:lL)=>
 aq (λ(c:ao)(c10v268:lI)(c11v269:Bool)(c95v270:lO)(c96v271:lT)(c97v272:Int)(c98v273:lK)(c99v274:lM)(c910v275:lC)(c105v276:lO)(c106v277:lT)(c107v278:Int)(c108v279:lK)(c109v280:lM)(c1010v281:lC)=>
 aq (λ(J:Bool)=>
 (bif J then some ((ao.mk [] [] [] [] [] [] [] 0 [] [] []),230) else some (c,0))) λd=>
 (bif c11v269 then(d true) else (f58 c).bind λI=>
 aN (jj I)<|
 aN (jj b0)<|
 (bif (!((jk I).toList==(jk b0).toList)) then(d true) else (f11 c).bind λK=>
 (d (!K))))) λL=>
 aq (λ(e:lO)(c10v285:lI)(c11v286:Bool)=>
 aq (λ(f:lT)(c10v321:lI)(c11v322:Bool)=>
 (f140 c10v321 c11v322).bind λa=>
 aq (λ(g:lK)(c10v355:lI)(c11v356:Bool)=>
 aq (λ(h:lM)(c10v426:lI)(c11v427:Bool)=>
 aq (λ(j:lC)(c10v489:lI)(c11v490:Bool)=>
 (L (ao.mk c0v40 c1v41 c2v42 c3v43 c4v44 e f a.1 g h j) c10v489 c11v490 e f a.1 g h j e f a.1 g h j)) λM=>
 (f139 c10v426 c11v427).bind λk=>
 (f18_l13 M 9223372036854775808 k.1 [] k.2.1 k.2.2)) λN=>
 (f139 c10v355 c11v356).bind λm=>
 (f18_l11 N 9223372036854775808 m.1 [] m.2.1 m.2.2)) λO=>
 (f139 a.2.1 a.2.2).bind λo=>
 (f18_l9 O 9223372036854775808 o.1 [] o.2.1 o.2.2)) λP=>
 (f139 c10v285 c11v286).bind λp=>
 (f18_l8 P 9223372036854775808 p.1 [] p.2.1 p.2.2)) λQ=>
 (f139 c10v45 c11v46).bind λr=>
 (f18_l7 Q 9223372036854775808 r.1 [] r.2.1 r.2.2)) λR=>
 aq (λ(t:lN)(c10v60:lI)(c11v61:Bool)=>
 aq (λ(w:lH)(c10v100:lI)(c11v101:Bool)=>
 aq (λ(x:lP)(c10v134:lI)(c11v135:Bool)=>
 aq (λ(y:lS)(c10v166:lI)(c11v167:Bool)=>
 aq (λ(A:lL)(c10v240:lI)(c11v241:Bool)=>
 (R t w x y A c10v240 c11v241 t w x y A t w x y A)) λS=>
 (f139 c10v166 c11v167).bind λB=>
 (f18_l6 S 9223372036854775808 B.1 [] B.2.1 B.2.2)) λT=>
 (f139 c10v134 c11v135).bind λC=>
 (f18_l4 T 9223372036854775808 C.1 [] C.2.1 C.2.2)) λU=>
 (f139 c10v100 c11v101).bind λE=>
 (f18_l3 U 9223372036854775808 E.1 [] E.2.1 E.2.2)) λV=>
 (f139 c10v60 c11v61).bind λF=>
 (f18_l2 V 9223372036854775808 F.1 [] F.2.1 F.2.2)) λW=>
 (f139 H.2.1 H.2.2).bind λG=>
 (f18_l1 W 9223372036854775808 G.1 [] G.2.1 G.2.2)
def f9:oB:=some true
def f5(b0:lI):oB:=
 (bif (decide ((b0.length:Int)>30000)) then (f9).bind λd=>
 some d else aN (cS 1 ([]:lI) b0)<|
 (f17 (([]:lI)++b0)).bind λa=>
 (f18 b0).bind λc=>
 (f19 a.1 c.1).bind λe=>
 (bif (e&&(decide (a.2=c.2))) then((f9).bind λf=>some f) else some false).bind λg=>
 some g)
abbrev sN:AV:= .d (.v (.slice none 0 0))
abbrev fe(k:Int)(f o:Nat):Int×AV:=(k, .fn (.func f) [] [.pt o 0])
abbrev _root_.Go.Sk.AO.z:AO:= .dead
abbrev txA(t:ao):lV:=[.l E59 t.insns, .l E83 t.handlers, .l dp t.loops, .l E65 t.selects, .l E54 t.lists, .l E67 t.objs, .l E93 t.inits, .n t.excs, .l E70 t.tasks, .l E75 t.prots, .l aY t.checks]
abbrev txV(a:lN)(b:lH)(c:lP)(d:lS)(e:lL)(f:lO)(g:lT)(h:Int)(i:lK)(j:lM)(k:lC):lV:=[.l E59 a, .l E83 b, .l dp c, .l E65 d, .l E54 e, .l E67 f, .l E93 g, .n h, .l E70 i, .l E75 j, .l aY k]
abbrev n10:lV:=[sN,sN,sN,sN,sN,sN, .n 0,sN,sN,sN]
abbrev n9:lV:=[sN,sN,sN,sN,sN, .n 0,sN,sN,sN]
abbrev n8:lV:=[sN,sN,sN,sN, .n 0,sN,sN,sN]
abbrev n7:lV:=[sN,sN,sN, .n 0,sN,sN,sN]
abbrev n6:lV:=[sN,sN, .n 0,sN,sN,sN]
abbrev nT:lV:=sN::n10
abbrev rz:AO:= .row 33 nT
abbrev tD(a:lN)(b:lH)(c:lP)(d:lS)(e:lL)(l:lV):lV:= .l E59 a:: .l E83 b:: .l dp c:: .l E65 d:: .l E54 e::l
abbrev rC(a:lN)(b:lH)(c:lP)(d:lS)(e:lL):AO:= .row 33 (tD a b c d e n6)
abbrev rW(b:lI)(x:Bool):AO:= .row 100 [.l E5 b, .d (D.b true), .d (D.b x)]
abbrev rV(b:lI)(x:Bool):AO:= .row 107 [.l E5 b, .d (D.b x)]
end Go.Proofs.YtejcfgjpdocaoaaGreatDoor
