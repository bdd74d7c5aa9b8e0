/- Part of the proof. -/
import Derived.Test.YtiigiagchaibdaaGreatDoorEb
set_option linter.unusedVariables false
set_option linter.unusedSimpArgs false
set_option linter.unusedSectionVars false
set_option linter.unnecessarySimpa false
namespace Go.Proofs.YtiigiagchaibdaaGreatDoor
open Go Go.Sk
structure Field where
 name:Int
 lo:Int
 hi:Int
structure Row where
 op:Int
 name:ByteArray
 fields:List Field
structure Regs where
 r:Nat→Int
 pc:Int
 exc:Int
 defer:Int
structure Act where
 time:Int
 task:Int
 kind:Int
 a:Int
 b:Int
 n:Int
structure Wrong where
 e:Int
structure dl where
 op:Int
 d:Int
 a:Int
 b:Int
 n:Int
 m:Int
 to:Int
structure cb where
 from_:Int
 to:Int
 at_:Int
 clean:Bool
structure Obj where
 size:Int
 lo:Int
 hi:Int
 ptr:Bool
 set_:List Int
structure Mem where
 insns:List dl
 handlers:List cb
 objs:List Obj
 excs:Int
 slots:List (List Int)
 in_:List Int
 out:List Int
structure Task where
 mem:Option Mem
 r:Regs
 acts:List Act
structure Loop where
 head:Int
 back:Int
 bound:Int
structure px where
 kind:Int
 entry:Int
 guard:Int
 time:Int
 at_:Int
structure gI where
 alts:List px
 obj:Int
 else_:Int
structure rJ where
 o:Int
 slot:Int
 v:Int
structure cg where
 ins:List Int
 outs:List Int
structure mt where
 prio:Int
 at_:Int
 entries:List cg
 deadline:Int
structure be where
 kind:Int
 op:Int
 n:Int
 o:Int
 off:Int
 len:Int
 lo:Int
 hi:Int
 l:List be
structure j0 where
 ceiling:Int
 barriers:List be
structure mw where
 at_:Int
 kind:Int
structure jh where
 insns:List dl
 handlers:List cb
 loops:List Loop
 selects:List gI
 lists:List (List Int)
 objs:List Obj
 inits:List rJ
 excs:Int
 tasks:List mt
 prots:List j0
 checks:List mw
structure aB where
 text:jh
structure Judge where
 eV:aB
 entries:Int
 left:Int
structure Spot where
 o:Int
 slot:Int
structure gJ where
 name:ByteArray
 fields:ByteArray
abbrev lI:=List Int
abbrev lL:=List (List Int)
abbrev lN:=List dl
abbrev lH:=List cb
abbrev lO:=List Obj
abbrev lD:=List D
abbrev lV:=List AV
abbrev lW:=List AO
abbrev oB:=Option Bool
abbrev lP:=List Loop
abbrev lS:=List gI
abbrev lT:=List rJ
abbrev lK:=List mt
abbrev lM:=List j0
abbrev lC:=List mw
abbrev fD:=Field.mk
abbrev bA:=ByteArray.mk

mutual
def E27:be→lD
 | .mk kind op n o off len lo hi l=> [.i .u8 kind, .i .u8 op, .i .i64 n, .i .i64 o, .i .i64 off, .i .i64 len, .i .i64 lo, .i .i64 hi, .sl (E27s l)]
def E27s:List be→List lD
 |[]=> []
 |e::l=>E27 e::E27s l
end
abbrev R27(x:be):lD:=[.i .u8 x.kind, .i .u8 x.op, .i .i64 x.n, .i .i64 x.o, .i .i64 x.off, .i .i64 x.len, .i .i64 x.lo, .i .i64 x.hi, .sl (List.map E27 x.l)]
theorem oF:∀l,E27s l=List.map E27 l
 |[]=>rfl
 |e::l=>by rw[E27s,oF l];rfl
theorem rL(x:be):E27 x=R27 x:=by
 cases x;simp only[E27,oF]
abbrev fg(x:dl):lD:=[.i .u8 x.op, .i .i64 x.d, .i .i64 x.a, .i .i64 x.b, .i .i64 x.n, .i .i64 x.m, .i .i64 x.to]
abbrev bj(x:dl):lD:=fg x
theorem eF(x:dl):bj x=fg x:=rfl
abbrev v9(x:cb):lD:=[.i .i64 x.from_, .i .i64 x.to, .i .i64 x.at_, .b x.clean]
abbrev bJ(x:cb):lD:=v9 x
theorem oH(x:cb):bJ x=v9 x:=rfl
abbrev R247(x:Loop):lD:=[.i .i64 x.head, .i .i64 x.back, .i .i64 x.bound]
abbrev cz(x:Loop):lD:=R247 x
theorem ui(x:Loop):cz x=R247 x:=rfl
abbrev rD(x:px):lD:=[.i .u8 x.kind, .i .i64 x.entry, .i .i64 x.guard, .i .i64 x.time, .i .i64 x.at_]
abbrev gN(x:px):lD:=rD x
theorem uj(x:px):gN x=rD x:=rfl
abbrev R238(x:gI):lD:=[.sl (List.map gN x.alts), .i .i64 x.obj, .i .i64 x.else_]
abbrev cq(x:gI):lD:=R238 x
theorem uk(x:gI):cq x=R238 x:=rfl
abbrev E3(x:Int):lD:=[.i .i64 x]
theorem rK(x:Int):E3 x=[.i .i64 x]:=rfl
abbrev E31(x:lI):lD:=[.sl (List.map E3 x)]
theorem wd(x:lI):E31 x=[.sl (List.map E3 x)]:=rfl
abbrev R80(x:Obj):lD:=[.i .i64 x.size, .i .i64 x.lo, .i .i64 x.hi, .b x.ptr, .sl (List.map E3 x.set_)]
abbrev E80(x:Obj):lD:=R80 x
theorem fh(x:Obj):E80 x=R80 x:=rfl
abbrev R221(x:rJ):lD:=[.i .i64 x.o, .i .i64 x.slot, .i .i64 x.v]
abbrev cG(x:rJ):lD:=R221 x
theorem ul(x:rJ):cG x=R221 x:=rfl
abbrev rE(x:cg):lD:=[.sl (List.map E3 x.ins), .sl (List.map E3 x.outs)]
abbrev mv(x:cg):lD:=rE x
theorem oG(x:cg):mv x=rE x:=rfl
abbrev R109(x:mt):lD:=[.i .i64 x.prio, .i .i64 x.at_, .sl (List.map mv x.entries), .i .i64 x.deadline]
abbrev cf(x:mt):lD:=R109 x
theorem k6(x:mt):cf x=R109 x:=rfl
abbrev R111(x:j0):lD:=[.i .i64 x.ceiling, .sl (List.map E27 x.barriers)]
abbrev bR(x:j0):lD:=R111 x
theorem oI(x:j0):bR x=R111 x:=rfl
abbrev R251(x:mw):lD:=[.i .i64 x.at_, .i .u8 x.kind]
abbrev cF(x:mw):lD:=R251 x
theorem uh(x:mw):cF x=R251 x:=rfl
abbrev R55(x:jh):lD:=[.sl (List.map bj x.insns), .sl (List.map bJ x.handlers), .sl (List.map cz x.loops), .sl (List.map cq x.selects), .sl (List.map E31 x.lists), .sl (List.map E80 x.objs), .sl (List.map cG x.inits), .i .i64 x.excs, .sl (List.map cf x.tasks), .sl (List.map bR x.prots), .sl (List.map cF x.checks)]
abbrev E2(x:Int):lD:=[.i .i64 x]
abbrev aI(x:aB):lD:=[.sl (List.map bj x.text.insns), .sl (List.map bJ x.text.handlers), .sl (List.map cz x.text.loops), .sl (List.map cq x.text.selects), .sl (List.map E31 x.text.lists), .sl (List.map E80 x.text.objs), .sl (List.map cG x.text.inits), .i .i64 x.text.excs, .sl (List.map cf x.text.tasks), .sl (List.map bR x.text.prots), .sl (List.map cF x.text.checks)]
abbrev v8(x:gJ):lD:=[.s x.name, .s x.fields]
abbrev E9(x:ByteArray):lD:=[.s x]
theorem uC(x:ByteArray):E9 x=[.s x]:=rfl
def fO:List gJ:=kj.map λp=>⟨p.1,p.2⟩
theorem kA:gpc 0=some (fO.flatMap v8):=by
 unfold fO
 rw[List.flatMap_map]
 rfl
def f277_l1(s0:lI)(c:Int→oB)(d:Unit→Option (Int)):Nat→Int→Option (Int)
 |0,_=>none
 |n+1,a=>
 (bif (decide (a<(List.length s0:Int))) then Option.bind (idx s0 a) λe=>
 Option.bind (c e) λf=>
 (bif f then some a else(f277_l1 s0 c d n (IntKind.i64.wrap (a+1)))) else(d ()))
def f277(s0:lI)(a:Int→oB):Option Int:=
 am (λ(_:Unit)=>
 some (-1)) λc=>
 (f277_l1 s0 a c (Int.toNat ((List.length s0:Int) - 0)+1) 0)
def f186(s0:lI)(a:Int→oB):oB:=
 Option.bind (f277 s0 a) λc=>
 some (decide (c≥0))
def f187(n0:Int)(a:Int):Bool:=
 (decide ((IntKind.i64.wrap (n0+1))=a))
def f95(o0:Obj)(v1:Int):oB:=
 (bif o0.ptr then Option.bind (bif (decide (v1=0)) then some true else(Option.bind (f186 o0.set_ (λz0=>some (f187 z0 v1))) λa=>some a)) λc=>
 some c else some ((decide (v1≥o0.lo))&&(decide (v1≤o0.hi))))
def f96_l1(t0:aB)(o1:Obj)(d:Unit→oB):Nat→Int→Int→oB
 |0,_,_=>none
 |n+1,e,c=>
 (bif (decide (c<(List.length o1.set_:Int))) then Option.bind (idx o1.set_ c) λa=>
 Option.bind (bif ((decide (a≤e))||(decide (a≥(List.length t0.text.objs:Int)))) then some true else(Option.bind (idx t0.text.objs a) λf=>some (!decide (f.size=1)))) λg=>
 Option.bind (bif g then some true else(Option.bind (idx t0.text.objs a) λh=>some h.ptr)) λj=>
 (bif j then some false else(f96_l1 t0 o1 d n a (IntKind.i64.wrap (c+1)))) else(d ()))
def f96(t0:aB)(o1:Obj):oB:=
 (bif (((decide (o1.size<1))||(decide (o1.size>16384)))||(decide (o1.lo>o1.hi))) then some false else(bif (!o1.ptr) then some (decide ((List.length o1.set_:Int)=0)) else am (λ(_:Unit)=>
 some ((decide (o1.lo=0))&&(decide (o1.hi=0)))) λa=>
 (f96_l1 t0 o1 a (Int.toNat ((List.length o1.set_:Int) - 0)+1) (-1) 0)))
def f97(t0:aB)(o1:Int)(a:Int)(c:Int):oB:=
 Option.bind (bif (((decide (o1≥0))&&(decide (o1<(List.length t0.text.objs:Int))))&&(decide (a≥0))) then(Option.bind (idx t0.text.objs o1) λd=>some (decide (a≤(IntKind.i64.wrap (d.size - c))))) else some false) λe=>
 some e
def f50_l1(t0:aB)(c:Int→oB):Nat→Int→Int→oB
 |0,_,_=>none
 |n+1,d,a=>
 (bif (decide (a<(List.length t0.text.objs:Int))) then Option.bind (idx t0.text.objs a) λe=>
 Option.bind (f96 t0 e) λf=>
 (bif (!f) then some false else(f50_l1 t0 c n (IntKind.i64.wrap (d+e.size)) (IntKind.i64.wrap (a+1)))) else(c d))
def f50_l2(t0:aB)(e:(List ((Int×Int)×Bool))→oB):Nat→Int→(List ((Int×Int)×Bool))→oB
 |0,_,_=>none
 |n+1,c,d=>
 (bif (decide (c<(List.length t0.text.inits:Int))) then Option.bind (idx t0.text.inits c) λa=>
 Option.bind (bif (Option.getD (cJ d (a.o,a.slot)) false) then some true else(Option.bind (f97 t0 a.o a.slot 1) λf=>some (!f))) λg=>
 Option.bind (bif g then some true else(Option.bind (idx t0.text.objs a.o) λh=>Option.bind (f95 h a.v) λj=>some (!j))) λk=>
 (bif k then some false else(f50_l2 t0 e n (IntKind.i64.wrap (c+1)) (bo d (a.o,a.slot) true))) else(e d))
def f50(t0:aB):oB:=
 (bif (((decide ((List.length t0.text.objs:Int)>4096))||(decide (t0.text.excs<4)))||(decide (t0.text.excs>64))) then some false else am (λ(a:Int)=>
 am (λ(e:List ((Int×Int)×Bool))=>
 some (decide (a≤65536))) λc=>
 (f50_l2 t0 c (Int.toNat ((List.length t0.text.inits:Int) - 0)+1) 0 ([]:List ((Int×Int)×Bool)))) λd=>
 (f50_l1 t0 d (Int.toNat ((List.length t0.text.objs:Int) - 0)+1) 0 0))
def f98(t0:aB)(a1:Int):Bool:=
 ((decide (a1≥0))&&(decide (a1<(List.length t0.text.insns:Int))))
def f188_l1(s0:List cg)(c:cg→oB)(d:Unit→Option (Int)):Nat→Int→Option (Int)
 |0,_=>none
 |n+1,a=>
 (bif (decide (a<(List.length s0:Int))) then Option.bind (idx s0 a) λe=>
 Option.bind (c e) λf=>
 (bif f then some a else(f188_l1 s0 c d n (IntKind.i64.wrap (a+1)))) else(d ()))
def f188(s0:List cg)(a:cg→oB):Option Int:=
 am (λ(_:Unit)=>
 some (-1)) λc=>
 (f188_l1 s0 a c (Int.toNat ((List.length s0:Int) - 0)+1) 0)
def f99(s0:List cg)(a:cg→oB):oB:=
 Option.bind (f188 s0 a) λc=>
 some (decide (c≥0))
def f189(o0:Int)(a:aB):oB:=
 Option.bind (bif ((decide (o0<0))||(decide (o0≥(List.length a.text.objs:Int)))) then some true else(Option.bind (idx a.text.objs o0) λc=>some (!decide (c.size=1)))) λd=>
 some d
def f101(t0:aB)(l1:lI):oB:=
 Option.bind (bif (decide ((List.length l1:Int)≤8)) then(Option.bind (f186 l1 λz0=>f189 z0 t0) λa=>some (!a)) else some false) λc=>
 some c
def f100(e0:cg)(a:aB):oB:=
 Option.bind (f101 a e0.ins) λc=>
 Option.bind (bif (!c) then some true else(Option.bind (f101 a e0.outs) λd=>some (!d))) λe=>
 some e
def f51_l1(t0:aB)(d:Unit→oB):Nat→Int→oB
 |0,_=>none
 |n+1,c=>
 (bif (decide (c<(List.length t0.text.tasks:Int))) then Option.bind (idx t0.text.tasks c) λa=>
 (bif ((((((decide (a.prio<0))||(decide (a.prio>31)))||(!(f98 t0 a.at_)))||(decide (a.deadline<0)))||(decide (a.deadline>2147483647)))||(decide ((List.length a.entries:Int)>8))) then some false else Option.bind (f99 a.entries λz0=>f100 z0 t0) λe=>
 (bif e then some false else(f51_l1 t0 d n (IntKind.i64.wrap (c+1))))) else(d ()))
def f51(t0:aB):oB:=
 (bif ((decide ((List.length t0.text.tasks:Int)<1))||(decide ((List.length t0.text.tasks:Int)>32))) then some false else am (λ(_:Unit)=>
 some true) λa=>
 (f51_l1 t0 a (Int.toNat ((List.length t0.text.tasks:Int) - 0)+1) 0))
def f52_l2(t0:aB)(c:lI)(f:(List (Int×Bool))→oB):Nat→Int→(List (Int×Bool))→oB
 |0,_,_=>none
 |na+1,d,e=>
 (bif (decide (d<(List.length c:Int))) then Option.bind (idx c d) λa=>
 (bif (((decide (a<1))||(decide (a≥(List.length t0.text.tasks:Int))))||(Option.getD (cJ e a) false)) then some false else(f52_l2 t0 c f na (IntKind.i64.wrap (d+1)) (bo e a true))) else(f e))
def f52_l1(t0:aB)(d:Unit→oB):Nat→Int→oB
 |0,_=>none
 |n+1,a=>
 (bif (decide (a<(List.length t0.text.lists:Int))) then am (λ(h:List (Int×Bool))=>
 (f52_l1 t0 d n (IntKind.i64.wrap (a+1)))) λe=>
 Option.bind (idx t0.text.lists a) λc=>
 am (λ(f:List (Int×Bool))=>
 (bif (decide ((List.length c:Int)>32)) then some false else(e f))) λg=>
 (f52_l2 t0 c g (Int.toNat ((List.length c:Int) - 0)+1) 0 ([]:List (Int×Bool))) else(d ()))
def f52(t0:aB):oB:=
 (bif (decide ((List.length t0.text.lists:Int)>4096)) then some false else am (λ(_:Unit)=>
 some true) λa=>
 (f52_l1 t0 a (Int.toNat ((List.length t0.text.lists:Int) - 0)+1) 0))
def f102s_l1(d:lN→lH→lP→lS→lL→lO→lT→Int→lK→lM→lC→Int→Int→be→Int→Option (Bool×lN×lH×lP×lS×lL×lO×lT×Int×lK×lM×lC×Int×Int))(e1:be)(e:Int)(f:Int→lN→lH→lP→lS→lL→lO→lT→Int→lK→lM→lC→Int→Int→Option (Bool×lN×lH×lP×lS×lL×lO×lT×Int×lK×lM×lC×Int×Int))(g:lN→lH→lP→lS→lL→lO→lT→Int→lK→lM→lC→Int→Int→Option (Bool×lN×lH×lP×lS×lL×lO×lT×Int×lK×lM×lC×Int×Int)):Nat→Int→lN→lH→lP→lS→lL→lO→lT→Int→lK→lM→lC→Int→Int→Option (Bool×lN×lH×lP×lS×lL×lO×lT×Int×lK×lM×lC×Int×Int)
 |0,_,_,_,_,_,_,_,_,_,_,_,_,_,_=>none
 |n+1,c,c00v179,c01v180,c02v181,c03v182,c04v183,c05v184,c06v185,c07v186,c08v187,c09v188,c010v189,c011v190,c012v191=>
 (bif (decide (c<(List.length e1.l:Int))) then Option.bind (idx e1.l c) λh=>
 am (λ(j:Bool)(c00v209:lN)(c01v210:lH)(c02v211:lP)(c03v212:lS)(c04v213:lL)(c05v214:lO)(c06v215:lT)(c07v216:Int)(c08v217:lK)(c09v218:lM)(c010v219:lC)(c011v220:Int)(c012v221:Int)=>
 (bif j then(f c c00v209 c01v210 c02v211 c03v212 c04v213 c05v214 c06v215 c07v216 c08v217 c09v218 c010v219 c011v220 c012v221) else(f102s_l1 d e1 e f g n (IntKind.i64.wrap (c+1)) c00v209 c01v210 c02v211 c03v212 c04v213 c05v214 c06v215 c07v216 c08v217 c09v218 c010v219 c011v220 c012v221))) λk=>
 Option.bind (d c00v179 c01v180 c02v181 c03v182 c04v183 c05v184 c06v185 c07v186 c08v187 c09v188 c010v189 c011v190 c012v191 h (IntKind.i64.wrap (e+1))) λa=>
 (k (!a.1) a.2.1 a.2.2.1 a.2.2.2.1 a.2.2.2.2.1 a.2.2.2.2.2.1 a.2.2.2.2.2.2.1 a.2.2.2.2.2.2.2.1 a.2.2.2.2.2.2.2.2.1 a.2.2.2.2.2.2.2.2.2.1 a.2.2.2.2.2.2.2.2.2.2.1 a.2.2.2.2.2.2.2.2.2.2.2.1 a.2.2.2.2.2.2.2.2.2.2.2.2.1 a.2.2.2.2.2.2.2.2.2.2.2.2.2) else(g c00v179 c01v180 c02v181 c03v182 c04v183 c05v184 c06v185 c07v186 c08v187 c09v188 c010v189 c011v190 c012v191))
def f102s(C:lN→lH→lP→lS→lL→lO→lT→Int→lK→lM→lC→Int→Int→be→Int→Option (Bool×lN×lH×lP×lS×lL×lO×lT×Int×lK×lM×lC×Int×Int))(f:lN)(g:lH)(h:lP)(j:lS)(k:lL)(c:lO)(m:lT)(p:Int)(r:lK)(t:lM)(w:lC)(jent:Int)(jleft:Int)(e1:be)(x:Int):Option (Bool×lN×lH×lP×lS×lL×lO×lT×Int×lK×lM×lC×Int×Int):=
 am (λ(E:Bool)(F:Int)(d:be)(c21v100:Int)(c22v101:Int)(c23v102:Int)(c24v103:Int)=>
 (bif (((((((((((decide ((IntKind.i64.wrap (jleft - 1))<0))||(decide (x>64)))||(!E))||(!decide ((List.length e1.l:Int)=F)))||(!decide (e1.op=d.op)))||(!decide (e1.n=d.n)))||(!decide (e1.o=d.o)))||(!decide (e1.off=d.off)))||(!decide (e1.len=0)))||(!decide (e1.lo=0)))||(!decide (e1.hi=0))) then some (false,f,g,h,j,k,c,m,p,r,t,w,jent,(IntKind.i64.wrap (jleft - 1))) else am (λ(G:Bool)(c00v120:lN)(c01v121:lH)(c02v122:lP)(c03v123:lS)(c04v124:lL)(c05v125:lO)(c06v126:lT)(c07v127:Int)(c08v128:lK)(c09v129:lM)(c010v130:lC)(c011v131:Int)(c012v132:Int)=>
 some ((!G),c00v120,c01v121,c02v122,c03v123,c04v124,c05v125,c06v126,c07v127,c08v128,c09v129,c010v130,c011v131,c012v132)) λH=>
 am (λ(I:Int)(c00v136:lN)(c01v137:lH)(c02v138:lP)(c03v139:lS)(c04v140:lL)(c05v141:lO)(c06v142:lT)(c07v143:Int)(c08v144:lK)(c09v145:lM)(c010v146:lC)(c011v147:Int)(c012v148:Int)=>
 (H (decide (I≥0)) c00v136 c01v137 c02v138 c03v139 c04v140 c05v141 c06v142 c07v143 c08v144 c09v145 c010v146 c011v147 c012v148)) λy=>
 am (λ(c00v150:lN)(c01v151:lH)(c02v152:lP)(c03v153:lS)(c04v154:lL)(c05v155:lO)(c06v156:lT)(c07v157:Int)(c08v158:lK)(c09v159:lM)(c010v160:lC)(c011v161:Int)(c012v162:Int)=>
 (y (-1) c00v150 c01v151 c02v152 c03v153 c04v154 c05v155 c06v156 c07v157 c08v158 c09v159 c010v160 c011v161 c012v162)) λJ=>
 (f102s_l1 C e1 x y J (Int.toNat ((List.length e1.l:Int) - 0)+1) 0 f g h j k c m p r t w jent (IntKind.i64.wrap (jleft - 1))))) λe=>
 am (λ(K:Int)(c21v106:Int)(c22v107:Int)(c23v108:Int)(c24v109:Int)=>
 (e true K (be.mk e1.kind c21v106 c22v107 c23v108 c24v109 0 0 0 []) c21v106 c22v107 c23v108 c24v109)) λa=>
 (bif (decide (e1.kind=1)) then(a 0 0 e1.n 0 0) else(bif (decide (e1.kind=2)) then Option.bind (f97 (aB.mk (jh.mk f g h j k c m p r t w)) e1.o e1.off 1) λL=>
 Option.bind (bif (!L) then some true else(Option.bind (idx c e1.o) λM=>some M.ptr)) λN=>
 (bif N then(e false 0 (be.mk e1.kind 0 0 0 0 0 0 0 []) 0 0 0 0) else(a 0 0 0 e1.o e1.off)) else(bif (decide (e1.kind=14)) then am (λ(O:Bool)=>
 (e O 0 (be.mk e1.kind 0 e1.n 0 0 0 0 0 []) 0 e1.n 0 0)) λA=>
 (bif (decide (e1.n≥0)) then(A (decide (e1.n<jent))) else(A false)) else(bif (decide (e1.kind=4)) then(a 1 18 0 0 0) else(bif (decide (e1.kind=5)) then(a 2 (if(if 15<e1.op then 15 else e1.op)>7 then(if 15<e1.op then 15 else e1.op) else 7) 0 0 0) else am (λ(P:Bool)=>
 (bif P then(a 2 0 0 0 0) else(e false 0 (be.mk e1.kind 0 0 0 0 0 0 0 []) 0 0 0 0))) λB=>
 (bif (decide (e1.kind=6)) then(B (decide (e1.kind=6))) else(B (decide (e1.kind=7)))))))))
def f102:Nat→lN→lH→lP→lS→lL→lO→lT→Int→lK→lM→lC→Int→Int→be→Int→Option (Bool×lN×lH×lP×lS×lL×lO×lT×Int×lK×lM×lC×Int×Int)
 |0=>λ_ _ _ _ _ _ _ _ _ _ _ _ _ _ _=>none
 |n+1=>f102s (f102 n)
def f53_l2(t0:aB)(d:Int→(List be)→oB)(a:j0):Nat→Int→oB
 |0,_=>none
 |na+1,c=>
 (bif (decide (c<(List.length a.barriers:Int))) then Option.bind (idx a.barriers c) λe=>
 Option.bind (f102 66 t0.text.insns t0.text.handlers t0.text.loops t0.text.selects t0.text.lists t0.text.objs t0.text.inits t0.text.excs t0.text.tasks t0.text.prots t0.text.checks (List.length a.barriers:Int) 256 e 1) λf=>
 (bif (!f.1) then some false else(f53_l2 t0 d a na (IntKind.i64.wrap (c+1)))) else(d a.ceiling a.barriers))
def f53_l1(t0:aB)(d:Unit→oB):Nat→Int→oB
 |0,_=>none
 |n+1,c=>
 (bif (decide (c<(List.length t0.text.prots:Int))) then am (λ(c00v60:Int)(c01v61:List be)=>
 (f53_l1 t0 d n (IntKind.i64.wrap (c+1)))) λe=>
 Option.bind (idx t0.text.prots c) λa=>
 (bif (((decide (a.ceiling<0))||(decide (a.ceiling>31)))||(decide ((List.length a.barriers:Int)>8))) then some false else(f53_l2 t0 e a (Int.toNat ((List.length a.barriers:Int) - 0)+1) 0)) else(d ()))
def f53(t0:aB):oB:=
 am (λ(_:Unit)=>
 some (decide ((List.length t0.text.prots:Int)≤32))) λa=>
 (f53_l1 t0 a (Int.toNat ((List.length t0.text.prots:Int) - 0)+1) 0)
def f193(n0:Int)(a:aB)(c:Int):oB:=
 Option.bind (f97 a c n0 1) λd=>
 some d
def f105(t0:aB)(a:Int)(a2:px):oB:=
 Option.bind (bif (!(f98 t0 a2.at_)) then some true else(Option.bind (bif (!decide (a2.guard=(-1))) then(Option.bind (f193 a2.guard t0 a) λd=>some (!d)) else some false) λe=>some e)) λf=>
 (bif f then some false else(bif (decide (a2.kind=1)) then some (((decide (a2.entry≥0))&&(decide (a2.entry<8)))&&(decide (a2.time=0))) else am (λ(g:Bool)=>
 (bif g then Option.bind (bif (decide (a2.entry=0)) then(Option.bind (f193 a2.time t0 a) λh=>some h) else some false) λj=>
 some j else some ((decide (a2.kind=4))&&(decide ((IntKind.i64.wrap (BitVec.ofInt IntKind.i64.bits a2.entry|||BitVec.ofInt IntKind.i64.bits a2.time).toNat)=0))))) λc=>
 (bif (decide (a2.kind=2)) then(c (decide (a2.kind=2))) else(c (decide (a2.kind=3))))))
def f54_l2(t0:aB)(a:gI)(d:Int→oB)(e:Unit→oB):Nat→Int→oB
 |0,_=>none
 |na+1,c=>
 (bif (decide (c<(List.length a.alts:Int))) then Option.bind (idx a.alts c) λf=>
 am (λ(g:Bool)=>
 (bif g then(d c) else(f54_l2 t0 a d e na (IntKind.i64.wrap (c+1))))) λh=>
 Option.bind (f105 t0 a.obj f) λj=>
 (h (!j)) else(e ()))
def f54_l1(t0:aB)(d:Unit→oB):Nat→Int→oB
 |0,_=>none
 |n+1,c=>
 (bif (decide (c<(List.length t0.text.selects:Int))) then Option.bind (idx t0.text.selects c) λa=>
 (bif (((((decide ((List.length a.alts:Int)<1))||(decide ((List.length a.alts:Int)>16)))||(decide (a.obj<0)))||(decide (a.obj≥(List.length t0.text.objs:Int))))||((!decide (a.else_=(-1)))&&(!(f98 t0 a.else_)))) then some false else am (λ(f:Bool)=>
 (bif f then some false else(f54_l1 t0 d n (IntKind.i64.wrap (c+1))))) λg=>
 am (λ(h:Int)=>
 (g (decide (h≥0)))) λe=>
 am (λ(_:Unit)=>
 (e (-1))) λj=>
 (f54_l2 t0 a e j (Int.toNat ((List.length a.alts:Int) - 0)+1) 0)) else(d ()))
def f54(t0:aB):oB:=
 (bif (decide ((List.length t0.text.selects:Int)>1024)) then some false else am (λ(_:Unit)=>
 some true) λa=>
 (f54_l1 t0 a (Int.toNat ((List.length t0.text.selects:Int) - 0)+1) 0))
def f106(h0:cb)(a1:Int):Bool:=
 ((decide (h0.from_≤a1))&&(decide (a1<h0.to)))
def f55_l2(t0:aB)(d:Int)(f:Int→Int→Int→Bool→oB)(a:cb):Nat→Int→oB
 |0,_=>none
 |na+1,e=>
 (bif (decide (e<(List.length (cW t0.text.handlers 0 d):Int))) then Option.bind (idx (cW t0.text.handlers 0 d) e) λc=>
 (bif ((!((decide (c.from_≥a.from_))&&(decide (c.to≤a.to))))&&(decide ((if a.from_>c.from_ then a.from_ else c.from_)<(if a.to<c.to then a.to else c.to)))) then some false else(f55_l2 t0 d f a na (IntKind.i64.wrap (e+1)))) else(f a.from_ a.to a.at_ a.clean))
def f55_l1(t0:aB)(d:Unit→oB):Nat→Int→oB
 |0,_=>none
 |n+1,c=>
 (bif (decide (c<(List.length t0.text.handlers:Int))) then am (λ(c00v99:Int)(c01v100:Int)(c02v101:Int)(c03v102:Bool)=>
 (f55_l1 t0 d n (IntKind.i64.wrap (c+1)))) λe=>
 Option.bind (idx t0.text.handlers c) λa=>
 (bif (((((decide (a.from_<0))||(decide (a.from_≥a.to)))||(decide (a.to>(List.length t0.text.insns:Int))))||(!(f98 t0 a.at_)))||(f106 a a.at_)) then some false else kC (fx t0.text.handlers 0 c)<|
 (f55_l2 t0 c e a (Int.toNat ((List.length (cW t0.text.handlers 0 c):Int) - 0)+1) 0)) else(d ()))
def f55(t0:aB):oB:=
 (bif (decide ((List.length t0.text.handlers:Int)>4096)) then some false else am (λ(_:Unit)=>
 some true) λa=>
 (f55_l1 t0 a (Int.toNat ((List.length t0.text.handlers:Int) - 0)+1) 0))
def f107(x0:dl)(a:Int):Bool:=
 ((((decide (x0.op=29))||(decide (x0.op=30)))||(decide (x0.op=31)))&&(decide (x0.to=a)))
def f56_l1(t0:aB)(e:(List (Int×Bool))→oB):Nat→Int→(List (Int×Bool))→oB
 |0,_,_=>none
 |n+1,c,d=>
 (bif (decide (c<(List.length t0.text.loops:Int))) then Option.bind (idx t0.text.loops c) λa=>
 Option.bind (bif ((((decide (a.head<0))||(decide (a.head>a.back)))||(!(f98 t0 a.back)))||(Option.getD (cJ d a.back) false)) then some true else(Option.bind (idx t0.text.insns a.back) λf=>some (!(f107 f a.head)))) λg=>
 (bif ((g||(decide (a.bound<0)))||(decide (a.bound>2147483647))) then some false else(f56_l1 t0 e n (IntKind.i64.wrap (c+1)) (bo d a.back true))) else(e d))
def f56(t0:aB):oB:=
 (bif (decide ((List.length t0.text.loops:Int)>4096)) then some false else am (λ(c:List (Int×Bool))=>
 some true) λa=>
 (f56_l1 t0 a (Int.toNat ((List.length t0.text.loops:Int) - 0)+1) 0 ([]:List (Int×Bool))))
def f108(t0:aB)(a1:Int):oB:=
 Option.bind (bif (f98 t0 a1) then(Option.bind (idx t0.text.insns a1) λa=>Option.bind (bif (decide (a.op=27)) then some true else(Option.bind (idx t0.text.insns a1) λc=>some (decide (c.op=28)))) λd=>some d) else some false) λe=>
 some e
def f57_l1(t0:aB)(d:Unit→oB):Nat→Int→Int→oB
 |0,_,_=>none
 |n+1,e,c=>
 (bif (decide (c<(List.length t0.text.checks:Int))) then Option.bind (idx t0.text.checks c) λa=>
 Option.bind (bif (decide (a.at_≤e)) then some true else(Option.bind (f108 t0 a.at_) λf=>some (!f))) λg=>
 (bif ((g||(decide (a.kind<1)))||(decide (a.kind>5))) then some false else(f57_l1 t0 d n a.at_ (IntKind.i64.wrap (c+1)))) else(d ()))
def f57(t0:aB):oB:=
 am (λ(_:Unit)=>
 some true) λa=>
 (f57_l1 t0 a (Int.toNat ((List.length t0.text.checks:Int) - 0)+1) (-1) 0)
def f109_l1(s0:lN)(c:dl→oB)(d:Unit→Option (Int)):Nat→Int→Option (Int)
 |0,_=>none
 |n+1,a=>
 (bif (decide (a<(List.length s0:Int))) then Option.bind (idx s0 a) λe=>
 Option.bind (c e) λf=>
 (bif f then some a else(f109_l1 s0 c d n (IntKind.i64.wrap (a+1)))) else(d ()))
def f109(s0:lN)(a:dl→oB):Option Int:=
 am (λ(_:Unit)=>
 some (-1)) λc=>
 (f109_l1 s0 a c (Int.toNat ((List.length s0:Int) - 0)+1) 0)
def f58(s0:lN)(a:dl→oB):oB:=
 Option.bind (f109 s0 a) λc=>
 some (decide (c≥0))
def f194(o0:Int):Option (gJ×Bool):=
 (bif ((decide (o0<1))||(decide ((IntKind.i64.wrap o0)>57))) then some ((gJ.mk ByteArray.empty ByteArray.empty),false) else Option.bind (idx fO (IntKind.u8.wrap (o0 - 1))) λa=>
 some (a,true))
def f280_l1(s0:ByteArray)(c:Int→Int→Option (List ByteArray)):Nat→Int→Int→Int→Int→Option (List ByteArray)
 |0,_,_,_,_=>none
 |n+1,d,wasSpace116,setBits117,a=>
 (bif (decide (a<(s0.size:Int))) then Option.bind (fy s0 a) λe=>
 Option.bind (idx bK e) λf=>
 (f280_l1 s0 c n (IntKind.i64.wrap (d+(IntKind.i64.wrap (BitVec.ofInt IntKind.i64.bits wasSpace116&&&BitVec.ofInt IntKind.i64.bits (IntKind.i64.wrap (BitVec.ofInt IntKind.i64.bits (-1)^^^BitVec.ofInt IntKind.i64.bits (IntKind.i64.wrap f)).toNat)).toNat))) (IntKind.i64.wrap f) (IntKind.u8.wrap (BitVec.ofInt IntKind.u8.bits setBits117|||BitVec.ofInt IntKind.u8.bits e).toNat) (IntKind.i64.wrap (a+1))) else(c d setBits117))
def f280_l2(s0:ByteArray)(c:Int→Option (List ByteArray)):Nat→Int→Option (List ByteArray)
 |0,_=>none
 |n+1,a=>
 Option.bind (bif (decide (a<(s0.size:Int))) then(Option.bind (fy s0 a) λd=>Option.bind (idx bK d) λe=>some (!decide (e=0))) else some false) λf=>
 (bif f then(f280_l2 s0 c n (IntKind.i64.wrap (a+1))) else(c a))
def f280_l4(s0:ByteArray)(c:Int→Option (List ByteArray)):Nat→Int→Option (List ByteArray)
 |0,_=>none
 |na+1,a=>
 Option.bind (bif (decide (a<(s0.size:Int))) then(Option.bind (fy s0 a) λd=>Option.bind (idx bK d) λe=>some (!decide (e=0))) else some false) λf=>
 (bif f then(f280_l4 s0 c na (IntKind.i64.wrap (a+1))) else(c a))
def f280_l3(s0:ByteArray)(e:Int→Int→(List ByteArray)→Option (List ByteArray)):Nat→Int→Int→Int→(List ByteArray)→Option (List ByteArray)
 |0,_,_,_,_=>none
 |n+1,a,fieldStart143,c,d=>
 (bif (decide (c<(s0.size:Int))) then am (λ(h:Int)(fieldStart151:Int)(j:Int)(k:List ByteArray)=>
 (f280_l3 s0 e n h fieldStart151 j k)) λf=>
 Option.bind (fy s0 c) λm=>
 Option.bind (idx bK m) λo=>
 (bif (decide (o=0)) then(f a fieldStart143 (IntKind.i64.wrap (c+1)) d) else Option.bind (oV s0 fieldStart143 c) λp=>
 Option.bind (idx d a) λt=>
 am (λ(g:Int)=>
 (f (IntKind.i64.wrap (a+1)) g g (List.set d (Int.toNat a) p))) λr=>
 (f280_l4 s0 r 9223372036854775808 (IntKind.i64.wrap (c+1)))) else(e a fieldStart143 d))
def f280(s0:ByteArray):Option (List ByteArray):=
 am (λ(c:Int)(setBits109:Int)=>
 (bif (decide (setBits109≥128)) then none else kC (tv 16 c)<|
 am (λ(d:Int)=>
 am (λ(e:Int)(fieldStart135:Int)(a:List ByteArray)=>
 am (λ(g:List ByteArray)=>
 some g) λf=>
 (bif (decide (fieldStart135<(s0.size:Int))) then Option.bind (oV s0 fieldStart135 (s0.size:Int)) λh=>
 Option.bind (idx a e) λo=>
 (f (List.set a (Int.toNat e) h)) else(f a))) λj=>
 (f280_l3 s0 j 9223372036854775808 0 d d (List.replicate (Int.toNat c) (ByteArray.empty:ByteArray)))) λk=>
 (f280_l2 s0 k 9223372036854775808 0))) λm=>
 (f280_l1 s0 m 9223372036854775808 0 1 0 0)
def f283(a:Int):Int×Int:=
 (bif (decide (a=114)) then(0,15) else(bif (decide (a=111)) then(0,4095) else(bif (decide (a=115)) then(0,65535) else(bif (decide (a=108)) then(1,65536) else(bif (decide (a=120)) then(1,64) else(bif (decide (a=107)) then(6,7) else(bif (decide (a=101)) then(0,7) else(bif (decide (a=112)) then(0,31) else(bif (decide (a=113)) then((-1),31) else(bif (decide (a=109)) then(0,3) else(bif (decide (a=106)) then(0,1023) else(bif (decide (a=98)) then(0,1) else((-9223372036854775808),9223372036854775807)))))))))))))
def f110_l1(e:Int→Int→Int→Int→Int→Int→ByteArray→ByteArray→Int→Int→Int→Int→oB)(f:Int→Int→Int→Int→Int→Int→ByteArray→ByteArray→Int→Int→Int→Int→oB)(g:Int→Int→Int→Int→Int→Int→ByteArray→ByteArray→Int→Int→Int→Int→oB)(h:Int→Int→Int→Int→Int→Int→ByteArray→ByteArray→Int→Int→Int→Int→oB)(j:Int→Int→Int→Int→Int→Int→ByteArray→ByteArray→Int→Int→Int→Int→oB)(k:Int→Int→Int→Int→Int→Int→ByteArray→ByteArray→Int→Int→Int→Int→oB)(m:Int→Int→Int→Int→Int→Int→ByteArray→ByteArray→oB)(a:gJ×Bool)(c:List ByteArray):Nat→Int→Int→Int→Int→Int→Int→Int→oB
 |0,_,_,_,_,_,_,_=>none
 |n+1,d,c21v178,c22v179,c23v180,c24v181,c25v182,c26v183=>
 (bif (decide (d<(List.length c:Int))) then Option.bind (idx c d) λo=>
 Option.bind (fy o 0) λA=>
 (bif (decide (A=68)) then am (λ(_:Unit)=>
 Option.bind (fy o 1) λp=>
 am (λ(_:Unit)=>
 (e c21v178 c22v179 c23v180 c24v181 c25v182 c26v183 a.1.name a.1.fields ((f283 p).1) ((f283 p).2) ((f283 p).1) ((f283 p).2))) λB=>
 am (λ(_:Unit)=>
 (f110_l1 e f g h j k m a c n (IntKind.i64.wrap (d+1)) 0 c22v179 c23v180 c24v181 c25v182 c26v183)) λC=>
 am (λ(_:Unit)=>
 (bif ((decide (c21v178<((f283 p).1)))||(decide (c21v178>((f283 p).2)))) then(B ()) else am (λ(_:Unit)=>
 (C ())) λE=>
 (E ()))) λF=>
 (F ())) λG=>
 (G ()) else(bif (decide (A=65)) then am (λ(_:Unit)=>
 Option.bind (fy o 1) λr=>
 am (λ(_:Unit)=>
 (f c21v178 c22v179 c23v180 c24v181 c25v182 c26v183 a.1.name a.1.fields ((f283 r).1) ((f283 r).2) ((f283 r).1) ((f283 r).2))) λH=>
 am (λ(_:Unit)=>
 (f110_l1 e f g h j k m a c n (IntKind.i64.wrap (d+1)) c21v178 0 c23v180 c24v181 c25v182 c26v183)) λI=>
 am (λ(_:Unit)=>
 (bif ((decide (c22v179<((f283 r).1)))||(decide (c22v179>((f283 r).2)))) then(H ()) else am (λ(_:Unit)=>
 (I ())) λJ=>
 (J ()))) λK=>
 (K ())) λL=>
 (L ()) else(bif (decide (A=66)) then am (λ(_:Unit)=>
 Option.bind (fy o 1) λt=>
 am (λ(_:Unit)=>
 (g c21v178 c22v179 c23v180 c24v181 c25v182 c26v183 a.1.name a.1.fields ((f283 t).1) ((f283 t).2) ((f283 t).1) ((f283 t).2))) λM=>
 am (λ(_:Unit)=>
 (f110_l1 e f g h j k m a c n (IntKind.i64.wrap (d+1)) c21v178 c22v179 0 c24v181 c25v182 c26v183)) λN=>
 am (λ(_:Unit)=>
 (bif ((decide (c23v180<((f283 t).1)))||(decide (c23v180>((f283 t).2)))) then(M ()) else am (λ(_:Unit)=>
 (N ())) λO=>
 (O ()))) λP=>
 (P ())) λQ=>
 (Q ()) else(bif (decide (A=78)) then am (λ(_:Unit)=>
 Option.bind (fy o 1) λw=>
 am (λ(_:Unit)=>
 (h c21v178 c22v179 c23v180 c24v181 c25v182 c26v183 a.1.name a.1.fields ((f283 w).1) ((f283 w).2) ((f283 w).1) ((f283 w).2))) λR=>
 am (λ(_:Unit)=>
 (f110_l1 e f g h j k m a c n (IntKind.i64.wrap (d+1)) c21v178 c22v179 c23v180 0 c25v182 c26v183)) λS=>
 am (λ(_:Unit)=>
 (bif ((decide (c24v181<((f283 w).1)))||(decide (c24v181>((f283 w).2)))) then(R ()) else am (λ(_:Unit)=>
 (S ())) λT=>
 (T ()))) λU=>
 (U ())) λV=>
 (V ()) else(bif (decide (A=77)) then am (λ(_:Unit)=>
 Option.bind (fy o 1) λx=>
 am (λ(_:Unit)=>
 (j c21v178 c22v179 c23v180 c24v181 c25v182 c26v183 a.1.name a.1.fields ((f283 x).1) ((f283 x).2) ((f283 x).1) ((f283 x).2))) λW=>
 am (λ(_:Unit)=>
 (f110_l1 e f g h j k m a c n (IntKind.i64.wrap (d+1)) c21v178 c22v179 c23v180 c24v181 0 c26v183)) λX=>
 am (λ(_:Unit)=>
 (bif ((decide (c25v182<((f283 x).1)))||(decide (c25v182>((f283 x).2)))) then(W ()) else am (λ(_:Unit)=>
 (X ())) λY=>
 (Y ()))) λZ=>
 (Z ())) λad=>
 (ad ()) else am (λ(_:Unit)=>
 Option.bind (fy o 1) λy=>
 am (λ(_:Unit)=>
 (k c21v178 c22v179 c23v180 c24v181 c25v182 c26v183 a.1.name a.1.fields ((f283 y).1) ((f283 y).2) ((f283 y).1) ((f283 y).2))) λag=>
 am (λ(_:Unit)=>
 (f110_l1 e f g h j k m a c n (IntKind.i64.wrap (d+1)) c21v178 c22v179 c23v180 c24v181 c25v182 0)) λar=>
 am (λ(_:Unit)=>
 (bif ((decide (c26v183<((f283 y).1)))||(decide (c26v183>((f283 y).2)))) then(ag ()) else am (λ(_:Unit)=>
 (ar ())) λa0=>
 (a0 ()))) λa1=>
 (a1 ())) λa6=>
 (a6 ())))))) else(m c21v178 c22v179 c23v180 c24v181 c25v182 c26v183 a.1.name a.1.fields))
def f110(x0:dl):oB:=
 Option.bind (f194 x0.op) λf=>
 (bif ((!f.2)||((decide (x0.op=27))&&(decide (x0.n>x0.m)))) then some false else(bif (((decide (x0.op=37))&&(decide ((IntKind.u8.wrap x0.n)=6)))&&(!decide (x0.m=0))) then some false else am (λ(c21v69:Int)(c22v70:Int)(c23v71:Int)(c24v72:Int)(c25v73:Int)(c26v74:Int)(c50v75:ByteArray)(c51v76:ByteArray)=>
 some (((decide (x0.op=x0.op))&&((decide (c21v69=0))&&((decide (c22v70=0))&&((decide (c23v71=0))&&((decide (c24v72=0))&&((decide (c25v73=0))&&((decide (c26v74=0))&&true))))))))) λg=>
 am (λ(_:Unit)=>
 am (λ(c21v81:Int)(c22v82:Int)(c23v83:Int)(c24v84:Int)(c25v85:Int)(c26v86:Int)(c50v87:ByteArray)(c51v88:ByteArray)(c62v89:Int)(c63v90:Int)(c92v91:Int)(c93v92:Int)=>
 some false) λh=>
 am (λ(c21v94:Int)(c22v95:Int)(c23v96:Int)(c24v97:Int)(c25v98:Int)(c26v99:Int)(c50v100:ByteArray)(c51v101:ByteArray)(c62v102:Int)(c63v103:Int)(c92v104:Int)(c93v105:Int)=>
 some false) λj=>
 am (λ(c21v107:Int)(c22v108:Int)(c23v109:Int)(c24v110:Int)(c25v111:Int)(c26v112:Int)(c50v113:ByteArray)(c51v114:ByteArray)(c62v115:Int)(c63v116:Int)(c92v117:Int)(c93v118:Int)=>
 some false) λk=>
 am (λ(c21v120:Int)(c22v121:Int)(c23v122:Int)(c24v123:Int)(c25v124:Int)(c26v125:Int)(c50v126:ByteArray)(c51v127:ByteArray)(c62v128:Int)(c63v129:Int)(c92v130:Int)(c93v131:Int)=>
 some false) λo=>
 am (λ(c21v133:Int)(c22v134:Int)(c23v135:Int)(c24v136:Int)(c25v137:Int)(c26v138:Int)(c50v139:ByteArray)(c51v140:ByteArray)(c62v141:Int)(c63v142:Int)(c92v143:Int)(c93v144:Int)=>
 some false) λp=>
 am (λ(c21v146:Int)(c22v147:Int)(c23v148:Int)(c24v149:Int)(c25v150:Int)(c26v151:Int)(c50v152:ByteArray)(c51v153:ByteArray)(c62v154:Int)(c63v155:Int)(c92v156:Int)(c93v157:Int)=>
 some false) λr=>
 am (λ(c21v159:Int)(c22v160:Int)(c23v161:Int)(c24v162:Int)(c25v163:Int)(c26v164:Int)(c50v165:ByteArray)(c51v166:ByteArray)=>
 (g c21v159 c22v160 c23v161 c24v162 c25v163 c26v164 c50v165 c51v166)) λt=>
 Option.bind (f194 x0.op) λc=>
 Option.bind (f280 c.1.fields) λe=>
 (f110_l1 h j k o p r t c e (Int.toNat ((List.length e:Int) - 0)+1) 0 x0.d x0.a x0.b x0.n x0.m x0.to)) λw=>
 (w ())))
def f111(y0:dl):Bool:=
 (!decide (y0.op=29))
def f112(t0:aB)(a:Int)(n2:Int):Option (Int×Bool):=
 Option.bind (bif (((decide (a<0))||(decide (a≥(List.length t0.text.tasks:Int))))||(decide (n2<0))) then some true else(Option.bind (idx t0.text.tasks a) λd=>some (decide (n2≥(List.length d.entries:Int))))) λe=>
 (bif e then some (0,false) else Option.bind (idx t0.text.tasks a) λf=>
 Option.bind (idx f.entries n2) λc=>
 some ((IntKind.i64.wrap ((IntKind.i64.wrap ((List.length c.ins:Int)+(List.length c.outs:Int)))+1)),true))
def f113(t0:aB)(p1:Int)(n2:Int):oB:=
 Option.bind (bif (((decide (p1≥0))&&(decide (p1<(List.length t0.text.prots:Int))))&&(decide (n2≥0))) then(Option.bind (idx t0.text.prots p1) λa=>some (decide (n2<(List.length a.barriers:Int)))) else some false) λc=>
 some c
def f60(t0:aB)(x1:dl):oB:=
 Option.bind (f110 x1) λj=>
 (bif (!j) then some false else am (λ(k:Bool)=>
 (bif k then Option.bind (f97 t0 x1.n x1.m 1) λo=>
 some o else am (λ(p:Bool)=>
 (bif p then Option.bind (f97 t0 x1.n x1.m x1.b) λr=>
 some r else am (λ(t:Bool)=>
 (bif t then some (f98 t0 x1.to) else(bif (decide (x1.op=32)) then Option.bind (bif (decide ((IntKind.i64.wrap (x1.to+x1.m))≤(List.length t0.text.insns:Int))) then(kC (fx t0.text.insns x1.to (IntKind.i64.wrap (x1.to+x1.m)))<|Option.bind (f58 (cW t0.text.insns x1.to (IntKind.i64.wrap (x1.to+x1.m))) (λz0=>some (f111 z0))) λw=>some (!w)) else some false) λx=>
 some x else(bif (decide (x1.op=33)) then some (decide (x1.n≤t0.text.excs)) else am (λ(y:Bool)=>
 (bif y then some (decide (x1.n<(List.length t0.text.lists:Int))) else(bif (decide (x1.op=50)) then some (decide (x1.n<(List.length t0.text.selects:Int))) else(bif (decide (x1.op=49)) then Option.bind (f112 t0 x1.a x1.b) λe=>
 Option.bind (bif e.2 then(Option.bind (f97 t0 x1.n 0 e.1) λA=>some A) else some false) λB=>
 some B else(bif (decide (x1.op=52)) then Option.bind (f112 t0 x1.a x1.b) λC=>
 some (C.2&&(decide (x1.to<(List.length t0.text.insns:Int)))) else am (λ(E:Bool)=>
 (bif E then some (decide (x1.n<(List.length t0.text.prots:Int))) else(bif (decide (x1.op=54)) then Option.bind (f113 t0 x1.n x1.m) λF=>
 some F else(bif (decide (x1.op=43)) then Option.bind (bif (decide (x1.m<0)) then some true else(Option.bind (f113 t0 x1.m x1.n) λG=>some G)) λH=>
 some H else some true)))) λf=>
 (bif (decide (x1.op=53)) then(f (decide (x1.op=53))) else(f (decide (x1.op=55))))))))) λc=>
 (bif (decide (x1.op=44)) then(c (decide (x1.op=44))) else(bif (decide (x1.op=45)) then(c (decide (x1.op=45))) else(bif (decide (x1.op=46)) then(c (decide (x1.op=46))) else(c (decide (x1.op=56)))))))))) λd=>
 (bif (decide (x1.op=29)) then(d (decide (x1.op=29))) else(bif (decide (x1.op=30)) then(d (decide (x1.op=30))) else(d (decide (x1.op=31))))))) λg=>
 (bif (decide (x1.op=5)) then(g (decide (x1.op=5))) else(g (decide (x1.op=6)))))) λh=>
 (bif (decide (x1.op=3)) then(h (decide (x1.op=3))) else(h (decide (x1.op=4)))))
def f19_l1(t0:jh)(c:Int→oB)(d:Unit→oB):Nat→Int→oB
 |0,_=>none
 |n+1,a=>
 (bif (decide (a<(List.length t0.insns:Int))) then Option.bind (idx t0.insns a) λe=>
 am (λ(f:Bool)=>
 (bif f then(c a) else(f19_l1 t0 c d n (IntKind.i64.wrap (a+1))))) λg=>
 Option.bind (f60 (aB.mk t0) e) λh=>
 (g (!h)) else(d ()))
def f19(t0:jh):oB:=
 (bif ((decide ((List.length t0.insns:Int)<1))||(decide ((List.length t0.insns:Int)>65536))) then some false else Option.bind (idx t0.insns (IntKind.i64.wrap ((List.length t0.insns:Int) - 1))) λa=>
 am (λ(e:Bool)=>
 (bif e then am (λ(_:Unit)=>
 am (λ(f:Bool)=>
 some (!f)) λg=>
 am (λ(h:Int)=>
 (g (decide (h≥0)))) λd=>
 am (λ(_:Unit)=>
 (d (-1))) λj=>
 (f19_l1 t0 d j (Int.toNat ((List.length t0.insns:Int) - 0)+1) 0)) λk=>
 Option.bind (f50 (aB.mk t0)) λm=>
 (bif (!m) then some false else Option.bind (f51 (aB.mk t0)) λo=>
 (bif (!o) then some false else Option.bind (f52 (aB.mk t0)) λp=>
 (bif (!p) then some false else Option.bind (f53 (aB.mk t0)) λr=>
 (bif (!r) then some false else Option.bind (f54 (aB.mk t0)) λt=>
 (bif (!t) then some false else Option.bind (f55 (aB.mk t0)) λw=>
 (bif (!w) then some false else Option.bind (f56 (aB.mk t0)) λx=>
 (bif (!x) then some false else Option.bind (f57 (aB.mk t0)) λy=>
 (bif (!y) then some false else(k ()))))))))) else some false)) λc=>
 (bif (decide (a.op=29)) then(c (decide (a.op=29))) else(bif (decide (a.op=33)) then(c (decide (a.op=33))) else(bif (decide (a.op=34)) then(c (decide (a.op=34))) else(c (decide (a.op=57)))))))
abbrev sN:AV:= .d (.v (.slice none 0 0))
abbrev _root_.Go.Sk.AO.z:AO:= .dead
abbrev txA(t:jh):lV:=[.l bj t.insns, .l bJ t.handlers, .l cz t.loops, .l cq t.selects, .l E31 t.lists, .l E80 t.objs, .l cG t.inits, .n t.excs, .l cf t.tasks, .l bR t.prots, .l cF t.checks]
abbrev txV(a:lN)(b:lH)(c:lP)(d:lS)(e:lL)(f:lO)(g:lT)(h:Int)(i:lK)(j:lM)(k:lC):lV:=[.l bj a, .l bJ b, .l cz c, .l cq d, .l E31 e, .l E80 f, .l cG g, .n h, .l cf i, .l bR j, .l cF k]
end Go.Proofs.YtiigiagchaibdaaGreatDoor
