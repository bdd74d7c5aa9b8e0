/- Part of the proof. -/
import Derived.Test.YtlkhnkpflmpjhaaGreatDoorE
set_option linter.unusedVariables false
set_option linter.unusedSimpArgs false
set_option linter.unusedSectionVars false
set_option linter.unnecessarySimpa false
namespace Go.Proofs.YtlkhnkpflmpjhaaGreatDoor
open Go Go.Sk
structure aS where
 lo:Int
 hi:Int
structure Field where
 name:Int
 lo:Int
 hi:Int
structure Row where
 op:Int
 name:ByteArray
 fields:List Field
structure Place where
 o:Int
 k:Int
structure cQ where
 op:Int
 d:Int
 a:Int
 b:Int
 n:Int
 m:Int
 to:Int
structure bY where
 from_:Int
 to:Int
 at_:Int
 clean:Bool
structure Loop where
 head:Int
 back:Int
 bound:Int
structure np where
 kind:Int
 entry:Int
 guard:Int
 time:Int
 at_:Int
structure fM where
 alts:List np
 obj:Int
 else_:Int
structure Obj where
 size:Int
 lo:Int
 hi:Int
 ptr:Bool
 set_:List Int
structure oZ where
 o:Int
 slot:Int
 v:Int
structure bS where
 ins:List Int
 outs:List Int
structure kO where
 prio:Int
 at_:Int
 entries:List bS
 deadline:Int
structure a9 where
 kind:Int
 op:Int
 n:Int
 o:Int
 off:Int
 len:Int
 lo:Int
 hi:Int
 l:List a9
structure iN where
 ceiling:Int
 barriers:List a9
structure kQ where
 at_:Int
 kind:Int
structure gp where
 insns:List cQ
 handlers:List bY
 loops:List Loop
 selects:List fM
 lists:List (List Int)
 objs:List Obj
 inits:List oZ
 excs:Int
 tasks:List kO
 prots:List iN
 checks:List kQ
structure aC where
 text:gp
structure Judge where
 eC:aC
 entries:Int
 left:Int
structure Spot where
 o:Int
 slot:Int
structure fN where
 name:ByteArray
 fields:ByteArray
abbrev R45(x:cQ):List D:=[.i .u8 x.op, .i .i64 x.d, .i .i64 x.a, .i .i64 x.b, .i .i64 x.n, .i .i64 x.m, .i .i64 x.to]
abbrev E45(x:cQ):List D:=R45 x
theorem fS(x:cQ):E45 x=R45 x:=rfl
abbrev R88(x:bY):List D:=[.i .i64 x.from_, .i .i64 x.to, .i .i64 x.at_, .b x.clean]
abbrev E88(x:bY):List D:=R88 x
theorem o4(x:bY):E88 x=R88 x:=rfl
abbrev R90(x:Loop):List D:=[.i .i64 x.head, .i .i64 x.back, .i .i64 x.bound]
abbrev E90(x:Loop):List D:=R90 x
theorem rY(x:Loop):E90 x=R90 x:=rfl
abbrev R86(x:np):List D:=[.i .u8 x.kind, .i .i64 x.entry, .i .i64 x.guard, .i .i64 x.time, .i .i64 x.at_]
abbrev E86(x:np):List D:=R86 x
theorem rZ(x:np):E86 x=R86 x:=rfl
abbrev R82(x:fM):List D:=[.sl (List.map E86 x.alts), .i .i64 x.obj, .i .i64 x.else_]
abbrev E82(x:fM):List D:=R82 x
theorem r5(x:fM):E82 x=R82 x:=rfl
abbrev E3(x:Int):List D:=[.i .i64 x]
theorem dN(x:Int):E3 x=[.i .i64 x]:=rfl
abbrev E22(x:List Int):List D:=[.sl (List.map E3 x)]
theorem r8(x:List Int):E22 x=[.sl (List.map E3 x)]:=rfl
abbrev R50(x:Obj):List D:=[.i .i64 x.size, .i .i64 x.lo, .i .i64 x.hi, .b x.ptr, .sl (List.map E3 x.set_)]
abbrev E50(x:Obj):List D:=R50 x
theorem eK(x:Obj):E50 x=R50 x:=rfl
abbrev R62(x:oZ):List D:=[.i .i64 x.o, .i .i64 x.slot, .i .i64 x.v]
abbrev E62(x:oZ):List D:=R62 x
theorem r7(x:oZ):E62 x=R62 x:=rfl
abbrev R68(x:bS):List D:=[.sl (List.map E3 x.ins), .sl (List.map E3 x.outs)]
abbrev E68(x:bS):List D:=R68 x
theorem o7(x:bS):E68 x=R68 x:=rfl
abbrev R57(x:kO):List D:=[.i .i64 x.prio, .i .i64 x.at_, .sl (List.map E68 x.entries), .i .i64 x.deadline]
abbrev E57(x:kO):List D:=R57 x
theorem lv(x:kO):E57 x=R57 x:=rfl
abbrev lI:=List Int
abbrev lL:=List (List Int)
abbrev lN:=List cQ
abbrev lH:=List bY
abbrev lO:=List Obj
abbrev lD:=List D
abbrev lV:=List AV
abbrev lW:=List AO
abbrev oB:=Option Bool
abbrev lP:=List Loop
abbrev lS:=List fM
abbrev lT:=List oZ
abbrev lK:=List kO
abbrev lM:=List iN
abbrev lC:=List kQ
abbrev fD:=Field.mk
abbrev bA:=ByteArray.mk

mutual
def E76:a9→lD
 | .mk kind op n o off len lo hi l=> [.i .u8 kind, .i .u8 op, .i .i64 n, .i .i64 o, .i .i64 off, .i .i64 len, .i .i64 lo, .i .i64 hi, .sl (E76s l)]
def E76s:List a9→List lD
 |[]=> []
 |e::l=>E76 e::E76s l
end
abbrev R76(x:a9):lD:=[.i .u8 x.kind, .i .u8 x.op, .i .i64 x.n, .i .i64 x.o, .i .i64 x.off, .i .i64 x.len, .i .i64 x.lo, .i .i64 x.hi, .sl (List.map E76 x.l)]
theorem mK:∀l,E76s l=List.map E76 l
 |[]=>rfl
 |e::l=>by rw[E76s,mK l];rfl
theorem o5(x:a9):E76 x=R76 x:=by
 cases x;simp only[E76,mK]
abbrev R71(x:iN):lD:=[.i .i64 x.ceiling, .sl (List.map E76 x.barriers)]
abbrev E71(x:iN):lD:=R71 x
theorem o6(x:iN):E71 x=R71 x:=rfl
abbrev R79(x:kQ):lD:=[.i .i64 x.at_, .i .u8 x.kind]
abbrev E79(x:kQ):lD:=R79 x
theorem r6(x:kQ):E79 x=R79 x:=rfl
abbrev R38(x:gp):lD:=[.sl (List.map E45 x.insns), .sl (List.map E88 x.handlers), .sl (List.map E90 x.loops), .sl (List.map E82 x.selects), .sl (List.map E22 x.lists), .sl (List.map E50 x.objs), .sl (List.map E62 x.inits), .i .i64 x.excs, .sl (List.map E57 x.tasks), .sl (List.map E71 x.prots), .sl (List.map E79 x.checks)]
abbrev cC(x:aS):lD:=[.i .i64 x.lo, .i .i64 x.hi]
abbrev aF(x:aC):lD:=[.sl (List.map E45 x.text.insns), .sl (List.map E88 x.text.handlers), .sl (List.map E90 x.text.loops), .sl (List.map E82 x.text.selects), .sl (List.map E22 x.text.lists), .sl (List.map E50 x.text.objs), .sl (List.map E62 x.text.inits), .i .i64 x.text.excs, .sl (List.map E57 x.text.tasks), .sl (List.map E71 x.text.prots), .sl (List.map E79 x.text.checks)]
abbrev rW(x:fN):lD:=[.s x.name, .s x.fields]
abbrev E2(x:Int):lD:=[.i .i64 x]
theorem qS(x:Int):E2 x=[.i .i64 x]:=rfl
abbrev E9(x:ByteArray):lD:=[.s x]
theorem qR(x:ByteArray):E9 x=[.s x]:=rfl
def e9:List fN:=jb.map λp=>⟨p.1,p.2⟩
theorem jk:gpc 0=some (e9.flatMap rW):=by
 unfold e9
 rw[List.flatMap_map]
 rfl
def f78_l1(t0:aC)(o1:Obj)(d:Unit→oB):Nat→Int→Int→oB
 |0,_,_=>none
 |n+1,e,c=>
 (bif (decide (c<(List.length o1.set_:Int))) then Option.bind (idx o1.set_ c) λa=>
 Option.bind (bif ((decide (a≤e))||(decide (a≥(List.length t0.text.objs:Int)))) then some true else(Option.bind (idx t0.text.objs a) λf=>some (!decide (f.size=1)))) λg=>
 Option.bind (bif g then some true else(Option.bind (idx t0.text.objs a) λh=>some h.ptr)) λj=>
 (bif j then some false else(f78_l1 t0 o1 d n a (IntKind.i64.wrap (c+1)))) else(d ()))
def f78(t0:aC)(o1:Obj):oB:=
 (bif (((decide (o1.size<1))||(decide (o1.size>16384)))||(decide (o1.lo>o1.hi))) then some false else(bif (!o1.ptr) then some (decide ((List.length o1.set_:Int)=0)) else af (λ(_:Unit)=>
 some ((decide (o1.lo=0))&&(decide (o1.hi=0)))) λa=>
 (f78_l1 t0 o1 a (Int.toNat ((List.length o1.set_:Int) - 0)+1) (-1) 0)))
def f79(t0:aC)(o1:Int)(a:Int)(c:Int):oB:=
 Option.bind (bif (((decide (o1≥0))&&(decide (o1<(List.length t0.text.objs:Int))))&&(decide (a≥0))) then(Option.bind (idx t0.text.objs o1) λd=>some (decide (a≤(IntKind.i64.wrap (d.size - c))))) else some false) λe=>
 some e
def f144_l1(s0:lI)(c:Int→oB)(d:Unit→Option (Int)):Nat→Int→Option (Int)
 |0,_=>none
 |n+1,a=>
 (bif (decide (a<(List.length s0:Int))) then Option.bind (idx s0 a) λe=>
 Option.bind (c e) λf=>
 (bif f then some a else(f144_l1 s0 c d n (IntKind.i64.wrap (a+1)))) else(d ()))
def f144(s0:lI)(a:Int→oB):Option Int:=
 af (λ(_:Unit)=>
 some (-1)) λc=>
 (f144_l1 s0 a c (Int.toNat ((List.length s0:Int) - 0)+1) 0)
def f109(s0:lI)(a:Int→oB):oB:=
 Option.bind (f144 s0 a) λc=>
 some (decide (c≥0))
def f110(n0:Int)(a:Int):Bool:=
 (decide ((IntKind.i64.wrap (n0+1))=a))
def f80(o0:Obj)(v1:Int):oB:=
 (bif o0.ptr then Option.bind (bif (decide (v1=0)) then some true else(Option.bind (f109 o0.set_ (λz0=>some (f110 z0 v1))) λa=>some a)) λc=>
 some c else some ((decide (v1≥o0.lo))&&(decide (v1≤o0.hi))))
def f50_l1(t0:aC)(c:Int→oB):Nat→Int→Int→oB
 |0,_,_=>none
 |n+1,d,a=>
 (bif (decide (a<(List.length t0.text.objs:Int))) then Option.bind (idx t0.text.objs a) λe=>
 Option.bind (f78 t0 e) λf=>
 (bif (!f) then some false else(f50_l1 t0 c n (IntKind.i64.wrap (d+e.size)) (IntKind.i64.wrap (a+1)))) else(c d))
def f50_l2(t0:aC)(e:(List ((Int×Int)×Bool))→oB):Nat→Int→(List ((Int×Int)×Bool))→oB
 |0,_,_=>none
 |n+1,c,d=>
 (bif (decide (c<(List.length t0.text.inits:Int))) then Option.bind (idx t0.text.inits c) λa=>
 Option.bind (bif (Option.getD (bd d (a.o,a.slot)) false) then some true else(Option.bind (f79 t0 a.o a.slot 1) λf=>some (!f))) λg=>
 Option.bind (bif g then some true else(Option.bind (idx t0.text.objs a.o) λh=>Option.bind (f80 h a.v) λj=>some (!j))) λk=>
 (bif k then some false else(f50_l2 t0 e n (IntKind.i64.wrap (c+1)) (aO d (a.o,a.slot) true))) else(e d))
def f50(t0:aC):oB:=
 (bif (((decide ((List.length t0.text.objs:Int)>4096))||(decide (t0.text.excs<4)))||(decide (t0.text.excs>64))) then some false else af (λ(a:Int)=>
 af (λ(e:List ((Int×Int)×Bool))=>
 some (decide (a≤65536))) λc=>
 (f50_l2 t0 c (Int.toNat ((List.length t0.text.inits:Int) - 0)+1) 0 ([]:List ((Int×Int)×Bool)))) λd=>
 (f50_l1 t0 d (Int.toNat ((List.length t0.text.objs:Int) - 0)+1) 0 0))
def f75(t0:aC)(a1:Int):Bool:=
 ((decide (a1≥0))&&(decide (a1<(List.length t0.text.insns:Int))))
def f111_l1(s0:List bS)(c:bS→oB)(d:Unit→Option (Int)):Nat→Int→Option (Int)
 |0,_=>none
 |n+1,a=>
 (bif (decide (a<(List.length s0:Int))) then Option.bind (idx s0 a) λe=>
 Option.bind (c e) λf=>
 (bif f then some a else(f111_l1 s0 c d n (IntKind.i64.wrap (a+1)))) else(d ()))
def f111(s0:List bS)(a:bS→oB):Option Int:=
 af (λ(_:Unit)=>
 some (-1)) λc=>
 (f111_l1 s0 a c (Int.toNat ((List.length s0:Int) - 0)+1) 0)
def f81(s0:List bS)(a:bS→oB):oB:=
 Option.bind (f111 s0 a) λc=>
 some (decide (c≥0))
def f112(o0:Int)(a:aC):oB:=
 Option.bind (bif ((decide (o0<0))||(decide (o0≥(List.length a.text.objs:Int)))) then some true else(Option.bind (idx a.text.objs o0) λc=>some (!decide (c.size=1)))) λd=>
 some d
def f83(t0:aC)(l1:lI):oB:=
 Option.bind (bif (decide ((List.length l1:Int)≤8)) then(Option.bind (f109 l1 λz0=>f112 z0 t0) λa=>some (!a)) else some false) λc=>
 some c
def f82(e0:bS)(a:aC):oB:=
 Option.bind (f83 a e0.ins) λc=>
 Option.bind (bif (!c) then some true else(Option.bind (f83 a e0.outs) λd=>some (!d))) λe=>
 some e
def f51_l1(t0:aC)(d:Unit→oB):Nat→Int→oB
 |0,_=>none
 |n+1,c=>
 (bif (decide (c<(List.length t0.text.tasks:Int))) then Option.bind (idx t0.text.tasks c) λa=>
 (bif ((((((decide (a.prio<0))||(decide (a.prio>31)))||(!(f75 t0 a.at_)))||(decide (a.deadline<0)))||(decide (a.deadline>2147483647)))||(decide ((List.length a.entries:Int)>8))) then some false else Option.bind (f81 a.entries λz0=>f82 z0 t0) λe=>
 (bif e then some false else(f51_l1 t0 d n (IntKind.i64.wrap (c+1))))) else(d ()))
def f51(t0:aC):oB:=
 (bif ((decide ((List.length t0.text.tasks:Int)<1))||(decide ((List.length t0.text.tasks:Int)>32))) then some false else af (λ(_:Unit)=>
 some true) λa=>
 (f51_l1 t0 a (Int.toNat ((List.length t0.text.tasks:Int) - 0)+1) 0))
def f52_l2(t0:aC)(c:lI)(f:(List (Int×Bool))→oB):Nat→Int→(List (Int×Bool))→oB
 |0,_,_=>none
 |na+1,d,e=>
 (bif (decide (d<(List.length c:Int))) then Option.bind (idx c d) λa=>
 (bif (((decide (a<1))||(decide (a≥(List.length t0.text.tasks:Int))))||(Option.getD (bd e a) false)) then some false else(f52_l2 t0 c f na (IntKind.i64.wrap (d+1)) (aO e a true))) else(f e))
def f52_l1(t0:aC)(d:Unit→oB):Nat→Int→oB
 |0,_=>none
 |n+1,a=>
 (bif (decide (a<(List.length t0.text.lists:Int))) then af (λ(h:List (Int×Bool))=>
 (f52_l1 t0 d n (IntKind.i64.wrap (a+1)))) λe=>
 Option.bind (idx t0.text.lists a) λc=>
 af (λ(f:List (Int×Bool))=>
 (bif (decide ((List.length c:Int)>32)) then some false else(e f))) λg=>
 (f52_l2 t0 c g (Int.toNat ((List.length c:Int) - 0)+1) 0 ([]:List (Int×Bool))) else(d ()))
def f52(t0:aC):oB:=
 (bif (decide ((List.length t0.text.lists:Int)>4096)) then some false else af (λ(_:Unit)=>
 some true) λa=>
 (f52_l1 t0 a (Int.toNat ((List.length t0.text.lists:Int) - 0)+1) 0))
def f84s_l1(d:lN→lH→lP→lS→lL→lO→lT→Int→lK→lM→lC→Int→Int→a9→Int→Option (Bool×lN×lH×lP×lS×lL×lO×lT×Int×lK×lM×lC×Int×Int))(e1:a9)(e:Int)(f:Int→lN→lH→lP→lS→lL→lO→lT→Int→lK→lM→lC→Int→Int→Option (Bool×lN×lH×lP×lS×lL×lO×lT×Int×lK×lM×lC×Int×Int))(g:lN→lH→lP→lS→lL→lO→lT→Int→lK→lM→lC→Int→Int→Option (Bool×lN×lH×lP×lS×lL×lO×lT×Int×lK×lM×lC×Int×Int)):Nat→Int→lN→lH→lP→lS→lL→lO→lT→Int→lK→lM→lC→Int→Int→Option (Bool×lN×lH×lP×lS×lL×lO×lT×Int×lK×lM×lC×Int×Int)
 |0,_,_,_,_,_,_,_,_,_,_,_,_,_,_=>none
 |n+1,c,c00v179,c01v180,c02v181,c03v182,c04v183,c05v184,c06v185,c07v186,c08v187,c09v188,c010v189,c011v190,c012v191=>
 (bif (decide (c<(List.length e1.l:Int))) then Option.bind (idx e1.l c) λh=>
 af (λ(j:Bool)(c00v209:lN)(c01v210:lH)(c02v211:lP)(c03v212:lS)(c04v213:lL)(c05v214:lO)(c06v215:lT)(c07v216:Int)(c08v217:lK)(c09v218:lM)(c010v219:lC)(c011v220:Int)(c012v221:Int)=>
 (bif j then(f c c00v209 c01v210 c02v211 c03v212 c04v213 c05v214 c06v215 c07v216 c08v217 c09v218 c010v219 c011v220 c012v221) else(f84s_l1 d e1 e f g n (IntKind.i64.wrap (c+1)) c00v209 c01v210 c02v211 c03v212 c04v213 c05v214 c06v215 c07v216 c08v217 c09v218 c010v219 c011v220 c012v221))) λk=>
 Option.bind (d c00v179 c01v180 c02v181 c03v182 c04v183 c05v184 c06v185 c07v186 c08v187 c09v188 c010v189 c011v190 c012v191 h (IntKind.i64.wrap (e+1))) λa=>
 (k (!a.1) a.2.1 a.2.2.1 a.2.2.2.1 a.2.2.2.2.1 a.2.2.2.2.2.1 a.2.2.2.2.2.2.1 a.2.2.2.2.2.2.2.1 a.2.2.2.2.2.2.2.2.1 a.2.2.2.2.2.2.2.2.2.1 a.2.2.2.2.2.2.2.2.2.2.1 a.2.2.2.2.2.2.2.2.2.2.2.1 a.2.2.2.2.2.2.2.2.2.2.2.2.1 a.2.2.2.2.2.2.2.2.2.2.2.2.2) else(g c00v179 c01v180 c02v181 c03v182 c04v183 c05v184 c06v185 c07v186 c08v187 c09v188 c010v189 c011v190 c012v191))
def f84s(C:lN→lH→lP→lS→lL→lO→lT→Int→lK→lM→lC→Int→Int→a9→Int→Option (Bool×lN×lH×lP×lS×lL×lO×lT×Int×lK×lM×lC×Int×Int))(f:lN)(g:lH)(h:lP)(j:lS)(k:lL)(c:lO)(m:lT)(p:Int)(r:lK)(t:lM)(w:lC)(jent:Int)(jleft:Int)(e1:a9)(x:Int):Option (Bool×lN×lH×lP×lS×lL×lO×lT×Int×lK×lM×lC×Int×Int):=
 af (λ(E:Bool)(F:Int)(d:a9)(c21v100:Int)(c22v101:Int)(c23v102:Int)(c24v103:Int)=>
 (bif (((((((((((decide ((IntKind.i64.wrap (jleft - 1))<0))||(decide (x>64)))||(!E))||(!decide ((List.length e1.l:Int)=F)))||(!decide (e1.op=d.op)))||(!decide (e1.n=d.n)))||(!decide (e1.o=d.o)))||(!decide (e1.off=d.off)))||(!decide (e1.len=0)))||(!decide (e1.lo=0)))||(!decide (e1.hi=0))) then some (false,f,g,h,j,k,c,m,p,r,t,w,jent,(IntKind.i64.wrap (jleft - 1))) else af (λ(G:Bool)(c00v120:lN)(c01v121:lH)(c02v122:lP)(c03v123:lS)(c04v124:lL)(c05v125:lO)(c06v126:lT)(c07v127:Int)(c08v128:lK)(c09v129:lM)(c010v130:lC)(c011v131:Int)(c012v132:Int)=>
 some ((!G),c00v120,c01v121,c02v122,c03v123,c04v124,c05v125,c06v126,c07v127,c08v128,c09v129,c010v130,c011v131,c012v132)) λH=>
 af (λ(I:Int)(c00v136:lN)(c01v137:lH)(c02v138:lP)(c03v139:lS)(c04v140:lL)(c05v141:lO)(c06v142:lT)(c07v143:Int)(c08v144:lK)(c09v145:lM)(c010v146:lC)(c011v147:Int)(c012v148:Int)=>
 (H (decide (I≥0)) c00v136 c01v137 c02v138 c03v139 c04v140 c05v141 c06v142 c07v143 c08v144 c09v145 c010v146 c011v147 c012v148)) λy=>
 af (λ(c00v150:lN)(c01v151:lH)(c02v152:lP)(c03v153:lS)(c04v154:lL)(c05v155:lO)(c06v156:lT)(c07v157:Int)(c08v158:lK)(c09v159:lM)(c010v160:lC)(c011v161:Int)(c012v162:Int)=>
 (y (-1) c00v150 c01v151 c02v152 c03v153 c04v154 c05v155 c06v156 c07v157 c08v158 c09v159 c010v160 c011v161 c012v162)) λJ=>
 (f84s_l1 C e1 x y J (Int.toNat ((List.length e1.l:Int) - 0)+1) 0 f g h j k c m p r t w jent (IntKind.i64.wrap (jleft - 1))))) λe=>
 af (λ(K:Int)(c21v106:Int)(c22v107:Int)(c23v108:Int)(c24v109:Int)=>
 (e true K (a9.mk e1.kind c21v106 c22v107 c23v108 c24v109 0 0 0 []) c21v106 c22v107 c23v108 c24v109)) λa=>
 (bif (decide (e1.kind=1)) then(a 0 0 e1.n 0 0) else(bif (decide (e1.kind=2)) then Option.bind (f79 (aC.mk (gp.mk f g h j k c m p r t w)) e1.o e1.off 1) λL=>
 Option.bind (bif (!L) then some true else(Option.bind (idx c e1.o) λM=>some M.ptr)) λN=>
 (bif N then(e false 0 (a9.mk e1.kind 0 0 0 0 0 0 0 []) 0 0 0 0) else(a 0 0 0 e1.o e1.off)) else(bif (decide (e1.kind=14)) then af (λ(O:Bool)=>
 (e O 0 (a9.mk e1.kind 0 e1.n 0 0 0 0 0 []) 0 e1.n 0 0)) λA=>
 (bif (decide (e1.n≥0)) then(A (decide (e1.n<jent))) else(A false)) else(bif (decide (e1.kind=4)) then(a 1 18 0 0 0) else(bif (decide (e1.kind=5)) then(a 2 (if(if 15<e1.op then 15 else e1.op)>7 then(if 15<e1.op then 15 else e1.op) else 7) 0 0 0) else af (λ(P:Bool)=>
 (bif P then(a 2 0 0 0 0) else(e false 0 (a9.mk e1.kind 0 0 0 0 0 0 0 []) 0 0 0 0))) λB=>
 (bif (decide (e1.kind=6)) then(B (decide (e1.kind=6))) else(B (decide (e1.kind=7)))))))))
def f84:Nat→lN→lH→lP→lS→lL→lO→lT→Int→lK→lM→lC→Int→Int→a9→Int→Option (Bool×lN×lH×lP×lS×lL×lO×lT×Int×lK×lM×lC×Int×Int)
 |0=>λ_ _ _ _ _ _ _ _ _ _ _ _ _ _ _=>none
 |n+1=>f84s (f84 n)
def f53_l2(t0:aC)(d:Int→(List a9)→oB)(a:iN):Nat→Int→oB
 |0,_=>none
 |na+1,c=>
 (bif (decide (c<(List.length a.barriers:Int))) then Option.bind (idx a.barriers c) λe=>
 Option.bind (f84 66 t0.text.insns t0.text.handlers t0.text.loops t0.text.selects t0.text.lists t0.text.objs t0.text.inits t0.text.excs t0.text.tasks t0.text.prots t0.text.checks (List.length a.barriers:Int) 256 e 1) λf=>
 (bif (!f.1) then some false else(f53_l2 t0 d a na (IntKind.i64.wrap (c+1)))) else(d a.ceiling a.barriers))
def f53_l1(t0:aC)(d:Unit→oB):Nat→Int→oB
 |0,_=>none
 |n+1,c=>
 (bif (decide (c<(List.length t0.text.prots:Int))) then af (λ(c00v60:Int)(c01v61:List a9)=>
 (f53_l1 t0 d n (IntKind.i64.wrap (c+1)))) λe=>
 Option.bind (idx t0.text.prots c) λa=>
 (bif (((decide (a.ceiling<0))||(decide (a.ceiling>31)))||(decide ((List.length a.barriers:Int)>8))) then some false else(f53_l2 t0 e a (Int.toNat ((List.length a.barriers:Int) - 0)+1) 0)) else(d ()))
def f53(t0:aC):oB:=
 af (λ(_:Unit)=>
 some (decide ((List.length t0.text.prots:Int)≤32))) λa=>
 (f53_l1 t0 a (Int.toNat ((List.length t0.text.prots:Int) - 0)+1) 0)
def f117(n0:Int)(a:aC)(c:Int):oB:=
 Option.bind (f79 a c n0 1) λd=>
 some d
def f87(t0:aC)(a:Int)(a2:np):oB:=
 Option.bind (bif (!(f75 t0 a2.at_)) then some true else(Option.bind (bif (!decide (a2.guard=(-1))) then(Option.bind (f117 a2.guard t0 a) λd=>some (!d)) else some false) λe=>some e)) λf=>
 (bif f then some false else(bif (decide (a2.kind=1)) then some (((decide (a2.entry≥0))&&(decide (a2.entry<8)))&&(decide (a2.time=0))) else af (λ(g:Bool)=>
 (bif g then Option.bind (bif (decide (a2.entry=0)) then(Option.bind (f117 a2.time t0 a) λh=>some h) else some false) λj=>
 some j else some ((decide (a2.kind=4))&&(decide ((IntKind.i64.wrap (BitVec.ofInt IntKind.i64.bits a2.entry|||BitVec.ofInt IntKind.i64.bits a2.time).toNat)=0))))) λc=>
 (bif (decide (a2.kind=2)) then(c (decide (a2.kind=2))) else(c (decide (a2.kind=3))))))
def f54_l2(t0:aC)(a:fM)(d:Int→oB)(e:Unit→oB):Nat→Int→oB
 |0,_=>none
 |na+1,c=>
 (bif (decide (c<(List.length a.alts:Int))) then Option.bind (idx a.alts c) λf=>
 af (λ(g:Bool)=>
 (bif g then(d c) else(f54_l2 t0 a d e na (IntKind.i64.wrap (c+1))))) λh=>
 Option.bind (f87 t0 a.obj f) λj=>
 (h (!j)) else(e ()))
def f54_l1(t0:aC)(d:Unit→oB):Nat→Int→oB
 |0,_=>none
 |n+1,c=>
 (bif (decide (c<(List.length t0.text.selects:Int))) then Option.bind (idx t0.text.selects c) λa=>
 (bif (((((decide ((List.length a.alts:Int)<1))||(decide ((List.length a.alts:Int)>16)))||(decide (a.obj<0)))||(decide (a.obj≥(List.length t0.text.objs:Int))))||((!decide (a.else_=(-1)))&&(!(f75 t0 a.else_)))) then some false else af (λ(f:Bool)=>
 (bif f then some false else(f54_l1 t0 d n (IntKind.i64.wrap (c+1))))) λg=>
 af (λ(h:Int)=>
 (g (decide (h≥0)))) λe=>
 af (λ(_:Unit)=>
 (e (-1))) λj=>
 (f54_l2 t0 a e j (Int.toNat ((List.length a.alts:Int) - 0)+1) 0)) else(d ()))
def f54(t0:aC):oB:=
 (bif (decide ((List.length t0.text.selects:Int)>1024)) then some false else af (λ(_:Unit)=>
 some true) λa=>
 (f54_l1 t0 a (Int.toNat ((List.length t0.text.selects:Int) - 0)+1) 0))
def f88(h0:bY)(a1:Int):Bool:=
 ((decide (h0.from_≤a1))&&(decide (a1<h0.to)))
def f55_l2(t0:aC)(d:Int)(f:Int→Int→Int→Bool→oB)(a:bY):Nat→Int→oB
 |0,_=>none
 |na+1,e=>
 (bif (decide (e<(List.length (cv t0.text.handlers 0 d):Int))) then Option.bind (idx (cv t0.text.handlers 0 d) e) λc=>
 (bif ((!((decide (c.from_≥a.from_))&&(decide (c.to≤a.to))))&&(decide ((if a.from_>c.from_ then a.from_ else c.from_)<(if a.to<c.to then a.to else c.to)))) then some false else(f55_l2 t0 d f a na (IntKind.i64.wrap (e+1)))) else(f a.from_ a.to a.at_ a.clean))
def f55_l1(t0:aC)(d:Unit→oB):Nat→Int→oB
 |0,_=>none
 |n+1,c=>
 (bif (decide (c<(List.length t0.text.handlers:Int))) then af (λ(c00v99:Int)(c01v100:Int)(c02v101:Int)(c03v102:Bool)=>
 (f55_l1 t0 d n (IntKind.i64.wrap (c+1)))) λe=>
 Option.bind (idx t0.text.handlers c) λa=>
 (bif (((((decide (a.from_<0))||(decide (a.from_≥a.to)))||(decide (a.to>(List.length t0.text.insns:Int))))||(!(f75 t0 a.at_)))||(f88 a a.at_)) then some false else fE (eQ t0.text.handlers 0 c)<|
 (f55_l2 t0 c e a (Int.toNat ((List.length (cv t0.text.handlers 0 c):Int) - 0)+1) 0)) else(d ()))
def f55(t0:aC):oB:=
 (bif (decide ((List.length t0.text.handlers:Int)>4096)) then some false else af (λ(_:Unit)=>
 some true) λa=>
 (f55_l1 t0 a (Int.toNat ((List.length t0.text.handlers:Int) - 0)+1) 0))
def f89(x0:cQ)(a:Int):Bool:=
 ((((decide (x0.op=29))||(decide (x0.op=30)))||(decide (x0.op=31)))&&(decide (x0.to=a)))
def f56_l1(t0:aC)(e:(List (Int×Bool))→oB):Nat→Int→(List (Int×Bool))→oB
 |0,_,_=>none
 |n+1,c,d=>
 (bif (decide (c<(List.length t0.text.loops:Int))) then Option.bind (idx t0.text.loops c) λa=>
 Option.bind (bif ((((decide (a.head<0))||(decide (a.head>a.back)))||(!(f75 t0 a.back)))||(Option.getD (bd d a.back) false)) then some true else(Option.bind (idx t0.text.insns a.back) λf=>some (!(f89 f a.head)))) λg=>
 (bif ((g||(decide (a.bound<0)))||(decide (a.bound>2147483647))) then some false else(f56_l1 t0 e n (IntKind.i64.wrap (c+1)) (aO d a.back true))) else(e d))
def f56(t0:aC):oB:=
 (bif (decide ((List.length t0.text.loops:Int)>4096)) then some false else af (λ(c:List (Int×Bool))=>
 some true) λa=>
 (f56_l1 t0 a (Int.toNat ((List.length t0.text.loops:Int) - 0)+1) 0 ([]:List (Int×Bool))))
def f43(t0:aC)(a1:Int):oB:=
 Option.bind (bif (f75 t0 a1) then(Option.bind (idx t0.text.insns a1) λa=>Option.bind (bif (decide (a.op=27)) then some true else(Option.bind (idx t0.text.insns a1) λc=>some (decide (c.op=28)))) λd=>some d) else some false) λe=>
 some e
def f57_l1(t0:aC)(d:Unit→oB):Nat→Int→Int→oB
 |0,_,_=>none
 |n+1,e,c=>
 (bif (decide (c<(List.length t0.text.checks:Int))) then Option.bind (idx t0.text.checks c) λa=>
 Option.bind (bif (decide (a.at_≤e)) then some true else(Option.bind (f43 t0 a.at_) λf=>some (!f))) λg=>
 (bif ((g||(decide (a.kind<1)))||(decide (a.kind>5))) then some false else(f57_l1 t0 d n a.at_ (IntKind.i64.wrap (c+1)))) else(d ()))
def f57(t0:aC):oB:=
 af (λ(_:Unit)=>
 some true) λa=>
 (f57_l1 t0 a (Int.toNat ((List.length t0.text.checks:Int) - 0)+1) (-1) 0)
def f90_l1(s0:lN)(c:cQ→oB)(d:Unit→Option (Int)):Nat→Int→Option (Int)
 |0,_=>none
 |n+1,a=>
 (bif (decide (a<(List.length s0:Int))) then Option.bind (idx s0 a) λe=>
 Option.bind (c e) λf=>
 (bif f then some a else(f90_l1 s0 c d n (IntKind.i64.wrap (a+1)))) else(d ()))
def f90(s0:lN)(a:cQ→oB):Option Int:=
 af (λ(_:Unit)=>
 some (-1)) λc=>
 (f90_l1 s0 a c (Int.toNat ((List.length s0:Int) - 0)+1) 0)
def f58(s0:lN)(a:cQ→oB):oB:=
 Option.bind (f90 s0 a) λc=>
 some (decide (c≥0))
def f118(o0:Int):Option (fN×Bool):=
 (bif ((decide (o0<1))||(decide ((IntKind.i64.wrap o0)>57))) then some ((fN.mk ByteArray.empty ByteArray.empty),false) else Option.bind (idx e9 (IntKind.u8.wrap (o0 - 1))) λa=>
 some (a,true))
def f147_l1(s0:ByteArray)(c:Int→Int→Option (List ByteArray)):Nat→Int→Int→Int→Int→Option (List ByteArray)
 |0,_,_,_,_=>none
 |n+1,d,wasSpace116,setBits117,a=>
 (bif (decide (a<(s0.size:Int))) then Option.bind (eR s0 a) λe=>
 Option.bind (idx bH e) λf=>
 (f147_l1 s0 c n (IntKind.i64.wrap (d+(IntKind.i64.wrap (BitVec.ofInt IntKind.i64.bits wasSpace116&&&BitVec.ofInt IntKind.i64.bits (IntKind.i64.wrap (BitVec.ofInt IntKind.i64.bits (-1)^^^BitVec.ofInt IntKind.i64.bits (IntKind.i64.wrap f)).toNat)).toNat))) (IntKind.i64.wrap f) (IntKind.u8.wrap (BitVec.ofInt IntKind.u8.bits setBits117|||BitVec.ofInt IntKind.u8.bits e).toNat) (IntKind.i64.wrap (a+1))) else(c d setBits117))
def f147_l2(s0:ByteArray)(c:Int→Option (List ByteArray)):Nat→Int→Option (List ByteArray)
 |0,_=>none
 |n+1,a=>
 Option.bind (bif (decide (a<(s0.size:Int))) then(Option.bind (eR s0 a) λd=>Option.bind (idx bH d) λe=>some (!decide (e=0))) else some false) λf=>
 (bif f then(f147_l2 s0 c n (IntKind.i64.wrap (a+1))) else(c a))
def f147_l4(s0:ByteArray)(c:Int→Option (List ByteArray)):Nat→Int→Option (List ByteArray)
 |0,_=>none
 |na+1,a=>
 Option.bind (bif (decide (a<(s0.size:Int))) then(Option.bind (eR s0 a) λd=>Option.bind (idx bH d) λe=>some (!decide (e=0))) else some false) λf=>
 (bif f then(f147_l4 s0 c na (IntKind.i64.wrap (a+1))) else(c a))
def f147_l3(s0:ByteArray)(e:Int→Int→(List ByteArray)→Option (List ByteArray)):Nat→Int→Int→Int→(List ByteArray)→Option (List ByteArray)
 |0,_,_,_,_=>none
 |n+1,a,fieldStart143,c,d=>
 (bif (decide (c<(s0.size:Int))) then Option.bind (eR s0 c) λg=>
 Option.bind (idx bH g) λh=>
 (bif (decide (h=0)) then(f147_l3 s0 e n a fieldStart143 (IntKind.i64.wrap (c+1)) d) else Option.bind (mV s0 fieldStart143 c) λj=>
 Option.bind (idx d a) λm=>
 af (λ(f:Int)=>
 (f147_l3 s0 e n (IntKind.i64.wrap (a+1)) f f (List.set d (Int.toNat a) j))) λk=>
 (f147_l4 s0 k 9223372036854775808 (IntKind.i64.wrap (c+1)))) else(e a fieldStart143 d))
def f147(s0:ByteArray):Option (List ByteArray):=
 af (λ(c:Int)(setBits109:Int)=>
 (bif (decide (setBits109≥128)) then none else fE (p9 16 c)<|
 af (λ(d:Int)=>
 af (λ(e:Int)(fieldStart135:Int)(a:List ByteArray)=>
 af (λ(g:List ByteArray)=>
 some g) λf=>
 (bif (decide (fieldStart135<(s0.size:Int))) then Option.bind (mV s0 fieldStart135 (s0.size:Int)) λh=>
 Option.bind (idx a e) λo=>
 (f (List.set a (Int.toNat e) h)) else(f a))) λj=>
 (f147_l3 s0 j 9223372036854775808 0 d d (List.replicate (Int.toNat c) (ByteArray.empty:ByteArray)))) λk=>
 (f147_l2 s0 k 9223372036854775808 0))) λm=>
 (f147_l1 s0 m 9223372036854775808 0 1 0 0)
def f150(a:Int):Int×Int:=
 (bif (decide (a=114)) then(0,15) else(bif (decide (a=111)) then(0,4095) else(bif (decide (a=115)) then(0,65535) else(bif (decide (a=108)) then(1,65536) else(bif (decide (a=120)) then(1,64) else(bif (decide (a=107)) then(6,7) else(bif (decide (a=101)) then(0,7) else(bif (decide (a=112)) then(0,31) else(bif (decide (a=113)) then((-1),31) else(bif (decide (a=109)) then(0,3) else(bif (decide (a=106)) then(0,1023) else(bif (decide (a=98)) then(0,1) else((-9223372036854775808),9223372036854775807)))))))))))))
def f91_l1(e:Int→Int→Int→Int→Int→Int→ByteArray→ByteArray→Int→Int→Int→Int→oB)(f:Int→Int→Int→Int→Int→Int→ByteArray→ByteArray→Int→Int→Int→Int→oB)(g:Int→Int→Int→Int→Int→Int→ByteArray→ByteArray→Int→Int→Int→Int→oB)(h:Int→Int→Int→Int→Int→Int→ByteArray→ByteArray→Int→Int→Int→Int→oB)(j:Int→Int→Int→Int→Int→Int→ByteArray→ByteArray→Int→Int→Int→Int→oB)(k:Int→Int→Int→Int→Int→Int→ByteArray→ByteArray→Int→Int→Int→Int→oB)(m:Int→Int→Int→Int→Int→Int→ByteArray→ByteArray→oB)(a:fN×Bool)(c:List ByteArray):Nat→Int→Int→Int→Int→Int→Int→Int→oB
 |0,_,_,_,_,_,_,_=>none
 |n+1,d,c21v178,c22v179,c23v180,c24v181,c25v182,c26v183=>
 (bif (decide (d<(List.length c:Int))) then Option.bind (idx c d) λo=>
 Option.bind (eR o 0) λA=>
 (bif (decide (A=68)) then af (λ(_:Unit)=>
 Option.bind (eR o 1) λp=>
 af (λ(_:Unit)=>
 (e c21v178 c22v179 c23v180 c24v181 c25v182 c26v183 a.1.name a.1.fields ((f150 p).1) ((f150 p).2) ((f150 p).1) ((f150 p).2))) λB=>
 af (λ(_:Unit)=>
 (f91_l1 e f g h j k m a c n (IntKind.i64.wrap (d+1)) 0 c22v179 c23v180 c24v181 c25v182 c26v183)) λC=>
 af (λ(_:Unit)=>
 (bif ((decide (c21v178<((f150 p).1)))||(decide (c21v178>((f150 p).2)))) then(B ()) else af (λ(_:Unit)=>
 (C ())) λE=>
 (E ()))) λF=>
 (F ())) λG=>
 (G ()) else(bif (decide (A=65)) then af (λ(_:Unit)=>
 Option.bind (eR o 1) λr=>
 af (λ(_:Unit)=>
 (f c21v178 c22v179 c23v180 c24v181 c25v182 c26v183 a.1.name a.1.fields ((f150 r).1) ((f150 r).2) ((f150 r).1) ((f150 r).2))) λH=>
 af (λ(_:Unit)=>
 (f91_l1 e f g h j k m a c n (IntKind.i64.wrap (d+1)) c21v178 0 c23v180 c24v181 c25v182 c26v183)) λI=>
 af (λ(_:Unit)=>
 (bif ((decide (c22v179<((f150 r).1)))||(decide (c22v179>((f150 r).2)))) then(H ()) else af (λ(_:Unit)=>
 (I ())) λJ=>
 (J ()))) λK=>
 (K ())) λL=>
 (L ()) else(bif (decide (A=66)) then af (λ(_:Unit)=>
 Option.bind (eR o 1) λt=>
 af (λ(_:Unit)=>
 (g c21v178 c22v179 c23v180 c24v181 c25v182 c26v183 a.1.name a.1.fields ((f150 t).1) ((f150 t).2) ((f150 t).1) ((f150 t).2))) λM=>
 af (λ(_:Unit)=>
 (f91_l1 e f g h j k m a c n (IntKind.i64.wrap (d+1)) c21v178 c22v179 0 c24v181 c25v182 c26v183)) λN=>
 af (λ(_:Unit)=>
 (bif ((decide (c23v180<((f150 t).1)))||(decide (c23v180>((f150 t).2)))) then(M ()) else af (λ(_:Unit)=>
 (N ())) λO=>
 (O ()))) λP=>
 (P ())) λQ=>
 (Q ()) else(bif (decide (A=78)) then af (λ(_:Unit)=>
 Option.bind (eR o 1) λw=>
 af (λ(_:Unit)=>
 (h c21v178 c22v179 c23v180 c24v181 c25v182 c26v183 a.1.name a.1.fields ((f150 w).1) ((f150 w).2) ((f150 w).1) ((f150 w).2))) λR=>
 af (λ(_:Unit)=>
 (f91_l1 e f g h j k m a c n (IntKind.i64.wrap (d+1)) c21v178 c22v179 c23v180 0 c25v182 c26v183)) λS=>
 af (λ(_:Unit)=>
 (bif ((decide (c24v181<((f150 w).1)))||(decide (c24v181>((f150 w).2)))) then(R ()) else af (λ(_:Unit)=>
 (S ())) λT=>
 (T ()))) λU=>
 (U ())) λV=>
 (V ()) else(bif (decide (A=77)) then af (λ(_:Unit)=>
 Option.bind (eR o 1) λx=>
 af (λ(_:Unit)=>
 (j c21v178 c22v179 c23v180 c24v181 c25v182 c26v183 a.1.name a.1.fields ((f150 x).1) ((f150 x).2) ((f150 x).1) ((f150 x).2))) λW=>
 af (λ(_:Unit)=>
 (f91_l1 e f g h j k m a c n (IntKind.i64.wrap (d+1)) c21v178 c22v179 c23v180 c24v181 0 c26v183)) λX=>
 af (λ(_:Unit)=>
 (bif ((decide (c25v182<((f150 x).1)))||(decide (c25v182>((f150 x).2)))) then(W ()) else af (λ(_:Unit)=>
 (X ())) λY=>
 (Y ()))) λZ=>
 (Z ())) λad=>
 (ad ()) else af (λ(_:Unit)=>
 Option.bind (eR o 1) λy=>
 af (λ(_:Unit)=>
 (k c21v178 c22v179 c23v180 c24v181 c25v182 c26v183 a.1.name a.1.fields ((f150 y).1) ((f150 y).2) ((f150 y).1) ((f150 y).2))) λag=>
 af (λ(_:Unit)=>
 (f91_l1 e f g h j k m a c n (IntKind.i64.wrap (d+1)) c21v178 c22v179 c23v180 c24v181 c25v182 0)) λax=>
 af (λ(_:Unit)=>
 (bif ((decide (c26v183<((f150 y).1)))||(decide (c26v183>((f150 y).2)))) then(ag ()) else af (λ(_:Unit)=>
 (ax ())) λa0=>
 (a0 ()))) λa1=>
 (a1 ())) λa6=>
 (a6 ())))))) else(m c21v178 c22v179 c23v180 c24v181 c25v182 c26v183 a.1.name a.1.fields))
def f91(x0:cQ):oB:=
 Option.bind (f118 x0.op) λf=>
 (bif ((!f.2)||((decide (x0.op=27))&&(decide (x0.n>x0.m)))) then some false else(bif (((decide (x0.op=37))&&(decide ((IntKind.u8.wrap x0.n)=6)))&&(!decide (x0.m=0))) then some false else af (λ(c21v69:Int)(c22v70:Int)(c23v71:Int)(c24v72:Int)(c25v73:Int)(c26v74:Int)(c50v75:ByteArray)(c51v76:ByteArray)=>
 some (((decide (x0.op=x0.op))&&((decide (c21v69=0))&&((decide (c22v70=0))&&((decide (c23v71=0))&&((decide (c24v72=0))&&((decide (c25v73=0))&&((decide (c26v74=0))&&true))))))))) λg=>
 af (λ(_:Unit)=>
 af (λ(c21v81:Int)(c22v82:Int)(c23v83:Int)(c24v84:Int)(c25v85:Int)(c26v86:Int)(c50v87:ByteArray)(c51v88:ByteArray)(c62v89:Int)(c63v90:Int)(c92v91:Int)(c93v92:Int)=>
 some false) λh=>
 af (λ(c21v94:Int)(c22v95:Int)(c23v96:Int)(c24v97:Int)(c25v98:Int)(c26v99:Int)(c50v100:ByteArray)(c51v101:ByteArray)(c62v102:Int)(c63v103:Int)(c92v104:Int)(c93v105:Int)=>
 some false) λj=>
 af (λ(c21v107:Int)(c22v108:Int)(c23v109:Int)(c24v110:Int)(c25v111:Int)(c26v112:Int)(c50v113:ByteArray)(c51v114:ByteArray)(c62v115:Int)(c63v116:Int)(c92v117:Int)(c93v118:Int)=>
 some false) λk=>
 af (λ(c21v120:Int)(c22v121:Int)(c23v122:Int)(c24v123:Int)(c25v124:Int)(c26v125:Int)(c50v126:ByteArray)(c51v127:ByteArray)(c62v128:Int)(c63v129:Int)(c92v130:Int)(c93v131:Int)=>
 some false) λo=>
 af (λ(c21v133:Int)(c22v134:Int)(c23v135:Int)(c24v136:Int)(c25v137:Int)(c26v138:Int)(c50v139:ByteArray)(c51v140:ByteArray)(c62v141:Int)(c63v142:Int)(c92v143:Int)(c93v144:Int)=>
 some false) λp=>
 af (λ(c21v146:Int)(c22v147:Int)(c23v148:Int)(c24v149:Int)(c25v150:Int)(c26v151:Int)(c50v152:ByteArray)(c51v153:ByteArray)(c62v154:Int)(c63v155:Int)(c92v156:Int)(c93v157:Int)=>
 some false) λr=>
 af (λ(c21v159:Int)(c22v160:Int)(c23v161:Int)(c24v162:Int)(c25v163:Int)(c26v164:Int)(c50v165:ByteArray)(c51v166:ByteArray)=>
 (g c21v159 c22v160 c23v161 c24v162 c25v163 c26v164 c50v165 c51v166)) λt=>
 Option.bind (f118 x0.op) λc=>
 Option.bind (f147 c.1.fields) λe=>
 (f91_l1 h j k o p r t c e (Int.toNat ((List.length e:Int) - 0)+1) 0 x0.d x0.a x0.b x0.n x0.m x0.to)) λw=>
 (w ())))
def f92(y0:cQ):Bool:=
 (!decide (y0.op=29))
def f93(t0:aC)(a:Int)(n2:Int):Option (Int×Bool):=
 Option.bind (bif (((decide (a<0))||(decide (a≥(List.length t0.text.tasks:Int))))||(decide (n2<0))) then some true else(Option.bind (idx t0.text.tasks a) λd=>some (decide (n2≥(List.length d.entries:Int))))) λe=>
 (bif e then some (0,false) else Option.bind (idx t0.text.tasks a) λf=>
 Option.bind (idx f.entries n2) λc=>
 some ((IntKind.i64.wrap ((IntKind.i64.wrap ((List.length c.ins:Int)+(List.length c.outs:Int)))+1)),true))
def f94(t0:aC)(p1:Int)(n2:Int):oB:=
 Option.bind (bif (((decide (p1≥0))&&(decide (p1<(List.length t0.text.prots:Int))))&&(decide (n2≥0))) then(Option.bind (idx t0.text.prots p1) λa=>some (decide (n2<(List.length a.barriers:Int)))) else some false) λc=>
 some c
def f60(t0:aC)(x1:cQ):oB:=
 Option.bind (f91 x1) λj=>
 (bif (!j) then some false else af (λ(k:Bool)=>
 (bif k then Option.bind (f79 t0 x1.n x1.m 1) λo=>
 some o else af (λ(p:Bool)=>
 (bif p then Option.bind (f79 t0 x1.n x1.m x1.b) λr=>
 some r else af (λ(t:Bool)=>
 (bif t then some (f75 t0 x1.to) else(bif (decide (x1.op=32)) then Option.bind (bif (decide ((IntKind.i64.wrap (x1.to+x1.m))≤(List.length t0.text.insns:Int))) then(fE (eQ t0.text.insns x1.to (IntKind.i64.wrap (x1.to+x1.m)))<|Option.bind (f58 (cv t0.text.insns x1.to (IntKind.i64.wrap (x1.to+x1.m))) (λz0=>some (f92 z0))) λw=>some (!w)) else some false) λx=>
 some x else(bif (decide (x1.op=33)) then some (decide (x1.n≤t0.text.excs)) else af (λ(y:Bool)=>
 (bif y then some (decide (x1.n<(List.length t0.text.lists:Int))) else(bif (decide (x1.op=50)) then some (decide (x1.n<(List.length t0.text.selects:Int))) else(bif (decide (x1.op=49)) then Option.bind (f93 t0 x1.a x1.b) λe=>
 Option.bind (bif e.2 then(Option.bind (f79 t0 x1.n 0 e.1) λA=>some A) else some false) λB=>
 some B else(bif (decide (x1.op=52)) then Option.bind (f93 t0 x1.a x1.b) λC=>
 some (C.2&&(decide (x1.to<(List.length t0.text.insns:Int)))) else af (λ(E:Bool)=>
 (bif E then some (decide (x1.n<(List.length t0.text.prots:Int))) else(bif (decide (x1.op=54)) then Option.bind (f94 t0 x1.n x1.m) λF=>
 some F else(bif (decide (x1.op=43)) then Option.bind (bif (decide (x1.m<0)) then some true else(Option.bind (f94 t0 x1.m x1.n) λG=>some G)) λH=>
 some H else some true)))) λf=>
 (bif (decide (x1.op=53)) then(f (decide (x1.op=53))) else(f (decide (x1.op=55))))))))) λc=>
 (bif (decide (x1.op=44)) then(c (decide (x1.op=44))) else(bif (decide (x1.op=45)) then(c (decide (x1.op=45))) else(bif (decide (x1.op=46)) then(c (decide (x1.op=46))) else(c (decide (x1.op=56)))))))))) λd=>
 (bif (decide (x1.op=29)) then(d (decide (x1.op=29))) else(bif (decide (x1.op=30)) then(d (decide (x1.op=30))) else(d (decide (x1.op=31))))))) λg=>
 (bif (decide (x1.op=5)) then(g (decide (x1.op=5))) else(g (decide (x1.op=6)))))) λh=>
 (bif (decide (x1.op=3)) then(h (decide (x1.op=3))) else(h (decide (x1.op=4)))))
def f23_l1(t0:gp)(c:Int→oB)(d:Unit→oB):Nat→Int→oB
 |0,_=>none
 |n+1,a=>
 (bif (decide (a<(List.length t0.insns:Int))) then Option.bind (idx t0.insns a) λe=>
 af (λ(f:Bool)=>
 (bif f then(c a) else(f23_l1 t0 c d n (IntKind.i64.wrap (a+1))))) λg=>
 Option.bind (f60 (aC.mk t0) e) λh=>
 (g (!h)) else(d ()))
def f23(t0:gp):oB:=
 (bif ((decide ((List.length t0.insns:Int)<1))||(decide ((List.length t0.insns:Int)>65536))) then some false else Option.bind (idx t0.insns (IntKind.i64.wrap ((List.length t0.insns:Int) - 1))) λa=>
 af (λ(e:Bool)=>
 (bif e then af (λ(_:Unit)=>
 af (λ(f:Bool)=>
 some (!f)) λg=>
 af (λ(h:Int)=>
 (g (decide (h≥0)))) λd=>
 af (λ(_:Unit)=>
 (d (-1))) λj=>
 (f23_l1 t0 d j (Int.toNat ((List.length t0.insns:Int) - 0)+1) 0)) λk=>
 Option.bind (f50 (aC.mk t0)) λm=>
 (bif (!m) then some false else Option.bind (f51 (aC.mk t0)) λo=>
 (bif (!o) then some false else Option.bind (f52 (aC.mk t0)) λp=>
 (bif (!p) then some false else Option.bind (f53 (aC.mk t0)) λr=>
 (bif (!r) then some false else Option.bind (f54 (aC.mk t0)) λt=>
 (bif (!t) then some false else Option.bind (f55 (aC.mk t0)) λw=>
 (bif (!w) then some false else Option.bind (f56 (aC.mk t0)) λx=>
 (bif (!x) then some false else Option.bind (f57 (aC.mk t0)) λy=>
 (bif (!y) then some false else(k ()))))))))) else some false)) λc=>
 (bif (decide (a.op=29)) then(c (decide (a.op=29))) else(bif (decide (a.op=33)) then(c (decide (a.op=33))) else(bif (decide (a.op=34)) then(c (decide (a.op=34))) else(c (decide (a.op=57)))))))
def f71(a0:aS):Bool:=
 (decide (a0.lo>a0.hi))
def f39(a:Int)(c:Int):aS:=
 (aS.mk a c)
def f68(v0:Int):aS:=
 (aS.mk v0 v0)
def f38(a0:aS)(b1:aS):Bool:=
 ((f71 a0)||((decide (a0.lo≥b1.lo))&&(decide (a0.hi≤b1.hi))))
def f151:aS:=
 (aS.mk 1 0)
def f154(a0:aS)(b1:aS):aS:=
 (bif (!(f71 (aS.mk (if b1.lo>a0.lo then b1.lo else a0.lo) (if b1.hi<a0.hi then b1.hi else a0.hi)))) then(aS.mk (if b1.lo>a0.lo then b1.lo else a0.lo) (if b1.hi<a0.hi then b1.hi else a0.hi)) else f151)
def f40(a0:aS)(v1:Int):Bool:=
 ((decide (a0.lo≤v1))&&(decide (v1≤a0.hi)))
def f158(v0:aS):aS:=
 af (λ(c00v20:Int)=>
 af (λ(c01v22:Int)=>
 (aS.mk c00v20 c01v22)) λa=>
 (bif (decide (v0.hi=0)) then(a (IntKind.i64.wrap (v0.hi - 1))) else(a v0.hi))) λc=>
 (bif (decide (v0.lo=0)) then(c (IntKind.i64.wrap (v0.lo+1))) else(c v0.lo))
def f155(v0:aS):Bool:=
 (decide (v0.lo>v0.hi))
def f152_l1(c:lI)(e:Int→Int→Option (aS)):Nat→Int→Int→Int→Option (aS)
 |0,_,_,_=>none
 |n+1,d,c10v39,c11v40=>
 (bif (decide (d<(List.length c:Int))) then Option.bind (idx c d) λa=>
 (f152_l1 c e n (IntKind.i64.wrap (d+1)) (if a<c10v39 then a else c10v39) (if a>c11v40 then a else c11v40)) else(e c10v39 c11v40))
def f152(a:Int)(c:lI):Option aS:=
 af (λ(c10v32:Int)(c11v33:Int)=>
 some (aS.mk c10v32 c11v33)) λd=>
 (f152_l1 c d (Int.toNat ((List.length c:Int) - 0)+1) 0 a a)
def f120(a0:aS)(b1:aS):Option aS:=
 (bif ((f71 a0)&&(f71 b1)) then some f151 else(bif (f71 a0) then some b1 else(bif (f71 b1) then some a0 else Option.bind (f152 a0.lo [a0.hi,b1.lo,b1.hi]) λa=>
 some a)))
def f6_l1(a:lI)(a1:Int)(e:(List (Int×Bool))→Option (Int)):Nat→Int→(List (Int×Bool))→Option (Int)
 |0,_,_=>none
 |n+1,c,d=>
 (bif (decide (c<(List.length a:Int))) then af (λ(h:List (Int×Bool))=>
 (f6_l1 a a1 e n (IntKind.i64.wrap (c+1)) h)) λf=>
 Option.bind (idx a c) λg=>
 (bif (decide (g<a1)) then(f (aO d g true)) else(f d)) else(e d))
def f6(a:lI)(a1:Int):Option Int:=
 af (λ(c:List (Int×Bool))=>
 some (IntKind.i64.wrap (a1 - (List.length c:Int)))) λd=>
 (f6_l1 a a1 d (Int.toNat ((List.length a:Int) - 0)+1) 0 ([]:List (Int×Bool)))
def f7_l2(a:lI)(c:Int)(e:Bool→Option (Int)):Nat→Bool→Int→Option (Int)
 |0,_,_=>none
 |na+1,f,d=>
 (bif (decide (d<c)) then Option.bind (bif f then some true else(Option.bind (idx a d) λg=>Option.bind (idx a c) λh=>some (decide (g=h)))) λj=>
 (f7_l2 a c e na j (IntKind.i64.wrap (d+1))) else(e f))
def f7_l1(a:lI)(a1:Int)(e:Int→Option (Int)):Nat→Int→Int→Option (Int)
 |0,_,_=>none
 |n+1,d,c=>
 (bif (decide (c<(List.length a:Int))) then af (λ(g:Int)=>
 (f7_l1 a a1 e n g (IntKind.i64.wrap (c+1)))) λf=>
 af (λ(h:Bool)=>
 Option.bind (idx a c) λj=>
 (bif ((decide (j<a1))&&(!h)) then(f (IntKind.i64.wrap (d+1))) else(f d))) λk=>
 (f7_l2 a c k 9223372036854775808 false 0) else(e d))
def f7(a:lI)(a1:Int):Option Int:=
 af (λ(c:Int)=>
 some (IntKind.i64.wrap (a1 - c))) λd=>
 (f7_l1 a a1 d 9223372036854775808 0 0)
def f8_l1(a0:lI)(b1:lI)(c:Unit→oB):Nat→Int→oB
 |0,_=>none
 |n+1,a=>
 (bif (decide (a<(List.length a0:Int))) then Option.bind (idx a0 a) λd=>
 Option.bind (idx b1 a) λe=>
 (bif (!decide (d=e)) then some false else(f8_l1 a0 b1 c n (IntKind.i64.wrap (a+1)))) else(c ()))
def f8(a0:lI)(b1:lI):oB:=
 (bif (!decide ((List.length a0:Int)=(List.length b1:Int))) then some false else af (λ(_:Unit)=>
 some true) λa=>
 (f8_l1 a0 b1 a 9223372036854775808 0))
def f5:oB:=some true
def f3(a:lI)(a1:Int):oB:=
 (bif (decide ((List.length a:Int)>200)) then Option.bind (f5) λc=>
 some c else fE (ge 8 ([]:lI) a)<|
 Option.bind (f6 (([]:lI)++a) a1) λd=>
 Option.bind (f7 a a1) λe=>
 Option.bind (bif (decide (d=e)) then(Option.bind (f8 (([]:lI)++a) a) λf=>some f) else some false) λg=>
 Option.bind (bif g then(Option.bind (f5) λh=>some h) else some false) λj=>
 some j)
abbrev sN:AV:= .d (.v (.slice none 0 0))
abbrev _root_.Go.Sk.AO.z:AO:= .dead
abbrev txA(t:gp):lV:=[.l E45 t.insns, .l E88 t.handlers, .l E90 t.loops, .l E82 t.selects, .l E22 t.lists, .l E50 t.objs, .l E62 t.inits, .n t.excs, .l E57 t.tasks, .l E71 t.prots, .l E79 t.checks]
abbrev txV(a:lN)(b:lH)(c:lP)(d:lS)(e:lL)(f:lO)(g:lT)(h:Int)(i:lK)(j:lM)(k:lC):lV:=[.l E45 a, .l E88 b, .l E90 c, .l E82 d, .l E22 e, .l E50 f, .l E62 g, .n h, .l E57 i, .l E71 j, .l E79 k]
end Go.Proofs.YtlkhnkpflmpjhaaGreatDoor
