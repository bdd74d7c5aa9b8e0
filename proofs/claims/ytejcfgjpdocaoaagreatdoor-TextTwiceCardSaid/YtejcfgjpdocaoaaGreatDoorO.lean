/- Part of the proof. -/
import Derived.Test.YtejcfgjpdocaoaaGreatDoorE
set_option linter.unusedVariables false
set_option linter.unusedSimpArgs false
set_option linter.unusedSectionVars false
set_option linter.unnecessarySimpa false
namespace Go.Proofs.YtejcfgjpdocaoaaGreatDoor
open Go Go.Sk
structure Field where
 name:Int
 lo:Int
 hi:Int
structure Row where
 op:Int
 name:ByteArray
 fields:List Field
structure aE where
 op:Int
 d:Int
 a:Int
 b:Int
 n:Int
 m:Int
 to:Int
structure aD where
 from_:Int
 to:Int
 at_:Int
 clean:Bool
structure Loop where
 head:Int
 back:Int
 bound:Int
structure cD where
 kind:Int
 entry:Int
 guard:Int
 time:Int
 at_:Int
structure aZ where
 alts:List cD
 obj:Int
 else_:Int
structure Obj where
 size:Int
 lo:Int
 hi:Int
 ptr:Bool
 set_:List Int
structure dM where
 o:Int
 slot:Int
 v:Int
structure bq where
 ins:List Int
 outs:List Int
structure bX where
 prio:Int
 at_:Int
 entries:List bq
 deadline:Int
structure ap where
 kind:Int
 op:Int
 n:Int
 o:Int
 off:Int
 len:Int
 lo:Int
 hi:Int
 l:List ap
structure d7 where
 ceiling:Int
 barriers:List ap
structure bM where
 at_:Int
 kind:Int
structure af where
 insns:List aE
 handlers:List aD
 loops:List Loop
 selects:List aZ
 lists:List (List Int)
 objs:List Obj
 inits:List dM
 excs:Int
 tasks:List bX
 prots:List d7
 checks:List bM
structure bg where
 text:af
structure Judge where
 ia:bg
 entries:Int
 left:Int
structure Spot where
 o:Int
 slot:Int
structure gD where
 name:ByteArray
 fields:ByteArray
structure OutB where
 b:List Int
abbrev R59(x:aE):List D:=[.i .u8 x.op, .i .i64 x.d, .i .i64 x.a, .i .i64 x.b, .i .i64 x.n, .i .i64 x.m, .i .i64 x.to]
abbrev E59(x:aE):List D:=R59 x
theorem cO(x:aE):E59 x=R59 x:=rfl
abbrev R83(x:aD):List D:=[.i .i64 x.from_, .i .i64 x.to, .i .i64 x.at_, .b x.clean]
abbrev E83(x:aD):List D:=R83 x
theorem fg(x:aD):E83 x=R83 x:=rfl
abbrev d6(x:Loop):List D:=[.i .i64 x.head, .i .i64 x.back, .i .i64 x.bound]
abbrev cm(x:Loop):List D:=d6 x
theorem dT(x:Loop):cm x=d6 x:=rfl
abbrev iz(x:cD):List D:=[.i .u8 x.kind, .i .i64 x.entry, .i .i64 x.guard, .i .i64 x.time, .i .i64 x.at_]
abbrev dB(x:cD):List D:=iz x
theorem jm(x:cD):dB x=iz x:=rfl
abbrev R65(x:aZ):List D:=[.sl (List.map dB x.alts), .i .i64 x.obj, .i .i64 x.else_]
abbrev E65(x:aZ):List D:=R65 x
theorem jT(x:aZ):E65 x=R65 x:=rfl
abbrev E3(x:Int):List D:=[.i .i64 x]
theorem bd(x:Int):E3 x=[.i .i64 x]:=rfl
abbrev E54(x:List Int):List D:=[.sl (List.map E3 x)]
theorem nO(x:List Int):E54 x=[.sl (List.map E3 x)]:=rfl
abbrev R67(x:Obj):List D:=[.i .i64 x.size, .i .i64 x.lo, .i .i64 x.hi, .b x.ptr, .sl (List.map E3 x.set_)]
abbrev E67(x:Obj):List D:=R67 x
theorem cE(x:Obj):E67 x=R67 x:=rfl
abbrev R93(x:dM):List D:=[.i .i64 x.o, .i .i64 x.slot, .i .i64 x.v]
abbrev E93(x:dM):List D:=R93 x
theorem iC(x:dM):E93 x=R93 x:=rfl
abbrev R72(x:bq):List D:=[.sl (List.map E3 x.ins), .sl (List.map E3 x.outs)]
abbrev E72(x:bq):List D:=R72 x
theorem fS(x:bq):E72 x=R72 x:=rfl
abbrev R70(x:bX):List D:=[.i .i64 x.prio, .i .i64 x.at_, .sl (List.map E72 x.entries), .i .i64 x.deadline]
abbrev E70(x:bX):List D:=R70 x
theorem dN(x:bX):E70 x=R70 x:=rfl
abbrev lI:=List Int
abbrev lL:=List (List Int)
abbrev lN:=List aE
abbrev lH:=List aD
abbrev lO:=List Obj
abbrev lD:=List D
abbrev lV:=List AV
abbrev lW:=List AO
abbrev oB:=Option Bool
abbrev lP:=List Loop
abbrev lS:=List aZ
abbrev lT:=List dM
abbrev lK:=List bX
abbrev lM:=List d7
abbrev lC:=List bM
abbrev fD:=Field.mk
abbrev bA:=ByteArray.mk

mutual
def E80:ap→lD
 | .mk kind op n o off len lo hi l=> [.i .u8 kind, .i .u8 op, .i .i64 n, .i .i64 o, .i .i64 off, .i .i64 len, .i .i64 lo, .i .i64 hi, .sl (E80s l)]
def E80s:List ap→List lD
 |[]=> []
 |e::l=>E80 e::E80s l
end
abbrev R80(x:ap):lD:=[.i .u8 x.kind, .i .u8 x.op, .i .i64 x.n, .i .i64 x.o, .i .i64 x.off, .i .i64 x.len, .i .i64 x.lo, .i .i64 x.hi, .sl (List.map E80 x.l)]
theorem rB:∀l,E80s l=List.map E80 l
 |[]=>rfl
 |e::l=>by rw[E80s,rB l];rfl
theorem fh(x:ap):E80 x=R80 x:=by
 cases x;simp only[E80,rB]
abbrev R75(x:d7):lD:=[.i .i64 x.ceiling, .sl (List.map E80 x.barriers)]
abbrev E75(x:d7):lD:=R75 x
theorem eJ(x:d7):E75 x=R75 x:=rfl
abbrev ff(x:bM):lD:=[.i .i64 x.at_, .i .u8 x.kind]
abbrev cv(x:bM):lD:=ff x
theorem ek(x:bM):cv x=ff x:=rfl
abbrev R33(x:af):lD:=[.sl (List.map E59 x.insns), .sl (List.map E83 x.handlers), .sl (List.map cm x.loops), .sl (List.map E65 x.selects), .sl (List.map E54 x.lists), .sl (List.map E67 x.objs), .sl (List.map E93 x.inits), .i .i64 x.excs, .sl (List.map E70 x.tasks), .sl (List.map E75 x.prots), .sl (List.map cv x.checks)]
abbrev E33(x:af):lD:=R33 x
abbrev R86(x:bg):lD:=[.sl (List.map E59 x.text.insns), .sl (List.map E83 x.text.handlers), .sl (List.map cm x.text.loops), .sl (List.map E65 x.text.selects), .sl (List.map E54 x.text.lists), .sl (List.map E67 x.text.objs), .sl (List.map E93 x.text.inits), .i .i64 x.text.excs, .sl (List.map E70 x.text.tasks), .sl (List.map E75 x.text.prots), .sl (List.map cv x.text.checks)]
abbrev yQ(x:gD):lD:=[.s x.name, .s x.fields]
abbrev R247(x:Field):lD:=[.i .u8 x.name, .i .i64 x.lo, .i .i64 x.hi]
abbrev uY(x:Field):lD:=R247 x
theorem av(x:Field):uY x=R247 x:=rfl
abbrev wU(x:Row):lD:=[.i .u8 x.op, .s x.name, .sl (List.map uY x.fields)]
abbrev wX(x:Row):lD:=wU x
theorem nP(x:Row):wX x=wU x:=rfl
abbrev E2(x:Int):lD:=[.i .i64 x]
abbrev E9(x:ByteArray):lD:=[.s x]
theorem xp(x:ByteArray):E9 x=[.s x]:=rfl
abbrev E5(x:Int):lD:=[.i .u8 x]
theorem uX(x:Int):E5 x=[.i .u8 x]:=rfl
def iU:List gD:=m9.map λp=>⟨p.1,p.2⟩
theorem np:gpc 0=some (iU.flatMap yQ):=by
 unfold iU
 rw[List.flatMap_map]
 rfl
def f147(l:lI):Option lI:=bB (decide (l.length<4611686018427387904)) (some (l.mergeSort λx y=>decide (x≤y)))
def f163_l1(s0:lI)(c:Int→oB)(d:Unit→Option (Int)):Nat→Int→Option (Int)
 |0,_=>none
 |n+1,a=>
 (bif (decide (a<(List.length s0:Int))) then Option.bind (idx s0 a) λe=>
 Option.bind (c e) λf=>
 (bif f then some a else(f163_l1 s0 c d n (IntKind.i64.wrap (a+1)))) else(d ()))
def f163(s0:lI)(a:Int→oB):Option Int:=
 an (λ(_:Unit)=>
 some (-1)) λc=>
 (f163_l1 s0 a c (Int.toNat ((List.length s0:Int) - 0)+1) 0)
def f112(s0:lI)(a:Int→oB):oB:=
 Option.bind (f163 s0 a) λc=>
 some (decide (c≥0))
def f113(n0:Int)(a:Int):Bool:=
 (decide ((IntKind.i64.wrap (n0+1))=a))
def f45(o0:Obj)(v1:Int):oB:=
 (bif o0.ptr then Option.bind (bif (decide (v1=0)) then some true else(Option.bind (f112 o0.set_ (λz0=>some (f113 z0 v1))) λa=>some a)) λc=>
 some c else some ((decide (v1≥o0.lo))&&(decide (v1≤o0.hi))))
def f88_l1(t0:bg)(o1:Obj)(d:Unit→oB):Nat→Int→Int→oB
 |0,_,_=>none
 |n+1,e,c=>
 (bif (decide (c<(List.length o1.set_:Int))) then Option.bind (idx o1.set_ c) λa=>
 Option.bind (bif ((decide (a≤e))||(decide (a≥(List.length t0.text.objs:Int)))) then some true else(Option.bind (idx t0.text.objs a) λf=>some (!decide (f.size=1)))) λg=>
 Option.bind (bif g then some true else(Option.bind (idx t0.text.objs a) λh=>some h.ptr)) λj=>
 (bif j then some false else(f88_l1 t0 o1 d n a (IntKind.i64.wrap (c+1)))) else(d ()))
def f88(t0:bg)(o1:Obj):oB:=
 (bif (((decide (o1.size<1))||(decide (o1.size>16384)))||(decide (o1.lo>o1.hi))) then some false else(bif (!o1.ptr) then some (decide ((List.length o1.set_:Int)=0)) else an (λ(_:Unit)=>
 some ((decide (o1.lo=0))&&(decide (o1.hi=0)))) λa=>
 (f88_l1 t0 o1 a (Int.toNat ((List.length o1.set_:Int) - 0)+1) (-1) 0)))
def f89(t0:bg)(o1:Int)(a:Int)(c:Int):oB:=
 Option.bind (bif (((decide (o1≥0))&&(decide (o1<(List.length t0.text.objs:Int))))&&(decide (a≥0))) then(Option.bind (idx t0.text.objs o1) λd=>some (decide (a≤(IntKind.i64.wrap (d.size - c))))) else some false) λe=>
 some e
def f27_l1(t0:bg)(c:Int→oB):Nat→Int→Int→oB
 |0,_,_=>none
 |n+1,d,a=>
 (bif (decide (a<(List.length t0.text.objs:Int))) then Option.bind (idx t0.text.objs a) λe=>
 Option.bind (f88 t0 e) λf=>
 (bif (!f) then some false else(f27_l1 t0 c n (IntKind.i64.wrap (d+e.size)) (IntKind.i64.wrap (a+1)))) else(c d))
def f27_l2(t0:bg)(e:(List ((Int×Int)×Bool))→oB):Nat→Int→(List ((Int×Int)×Bool))→oB
 |0,_,_=>none
 |n+1,c,d=>
 (bif (decide (c<(List.length t0.text.inits:Int))) then Option.bind (idx t0.text.inits c) λa=>
 Option.bind (bif (Option.getD (cY d (a.o,a.slot)) false) then some true else(Option.bind (f89 t0 a.o a.slot 1) λf=>some (!f))) λg=>
 Option.bind (bif g then some true else(Option.bind (idx t0.text.objs a.o) λh=>Option.bind (f45 h a.v) λj=>some (!j))) λk=>
 (bif k then some false else(f27_l2 t0 e n (IntKind.i64.wrap (c+1)) (bw d (a.o,a.slot) true))) else(e d))
def f27(t0:bg):oB:=
 (bif (((decide ((List.length t0.text.objs:Int)>4096))||(decide (t0.text.excs<4)))||(decide (t0.text.excs>64))) then some false else an (λ(a:Int)=>
 an (λ(e:List ((Int×Int)×Bool))=>
 some (decide (a≤65536))) λc=>
 (f27_l2 t0 c (Int.toNat ((List.length t0.text.inits:Int) - 0)+1) 0 ([]:List ((Int×Int)×Bool)))) λd=>
 (f27_l1 t0 d (Int.toNat ((List.length t0.text.objs:Int) - 0)+1) 0 0))
def f47(t0:bg)(a1:Int):Bool:=
 ((decide (a1≥0))&&(decide (a1<(List.length t0.text.insns:Int))))
def f151_l1(s0:List bq)(c:bq→oB)(d:Unit→Option (Int)):Nat→Int→Option (Int)
 |0,_=>none
 |n+1,a=>
 (bif (decide (a<(List.length s0:Int))) then Option.bind (idx s0 a) λe=>
 Option.bind (c e) λf=>
 (bif f then some a else(f151_l1 s0 c d n (IntKind.i64.wrap (a+1)))) else(d ()))
def f151(s0:List bq)(a:bq→oB):Option Int:=
 an (λ(_:Unit)=>
 some (-1)) λc=>
 (f151_l1 s0 a c (Int.toNat ((List.length s0:Int) - 0)+1) 0)
def f90(s0:List bq)(a:bq→oB):oB:=
 Option.bind (f151 s0 a) λc=>
 some (decide (c≥0))
def f152(o0:Int)(a:bg):oB:=
 Option.bind (bif ((decide (o0<0))||(decide (o0≥(List.length a.text.objs:Int)))) then some true else(Option.bind (idx a.text.objs o0) λc=>some (!decide (c.size=1)))) λd=>
 some d
def f92(t0:bg)(l1:lI):oB:=
 Option.bind (bif (decide ((List.length l1:Int)≤8)) then(Option.bind (f112 l1 λz0=>f152 z0 t0) λa=>some (!a)) else some false) λc=>
 some c
def f91(e0:bq)(a:bg):oB:=
 Option.bind (f92 a e0.ins) λc=>
 Option.bind (bif (!c) then some true else(Option.bind (f92 a e0.outs) λd=>some (!d))) λe=>
 some e
def f28_l1(t0:bg)(d:Unit→oB):Nat→Int→oB
 |0,_=>none
 |n+1,c=>
 (bif (decide (c<(List.length t0.text.tasks:Int))) then Option.bind (idx t0.text.tasks c) λa=>
 (bif ((((((decide (a.prio<0))||(decide (a.prio>31)))||(!(f47 t0 a.at_)))||(decide (a.deadline<0)))||(decide (a.deadline>2147483647)))||(decide ((List.length a.entries:Int)>8))) then some false else Option.bind (f90 a.entries λz0=>f91 z0 t0) λe=>
 (bif e then some false else(f28_l1 t0 d n (IntKind.i64.wrap (c+1))))) else(d ()))
def f28(t0:bg):oB:=
 (bif ((decide ((List.length t0.text.tasks:Int)<1))||(decide ((List.length t0.text.tasks:Int)>32))) then some false else an (λ(_:Unit)=>
 some true) λa=>
 (f28_l1 t0 a (Int.toNat ((List.length t0.text.tasks:Int) - 0)+1) 0))
def f29_l2(t0:bg)(c:lI)(f:(List (Int×Bool))→oB):Nat→Int→(List (Int×Bool))→oB
 |0,_,_=>none
 |na+1,d,e=>
 (bif (decide (d<(List.length c:Int))) then Option.bind (idx c d) λa=>
 (bif (((decide (a<1))||(decide (a≥(List.length t0.text.tasks:Int))))||(Option.getD (cY e a) false)) then some false else(f29_l2 t0 c f na (IntKind.i64.wrap (d+1)) (bw e a true))) else(f e))
def f29_l1(t0:bg)(d:Unit→oB):Nat→Int→oB
 |0,_=>none
 |n+1,a=>
 (bif (decide (a<(List.length t0.text.lists:Int))) then an (λ(h:List (Int×Bool))=>
 (f29_l1 t0 d n (IntKind.i64.wrap (a+1)))) λe=>
 Option.bind (idx t0.text.lists a) λc=>
 an (λ(f:List (Int×Bool))=>
 (bif (decide ((List.length c:Int)>32)) then some false else(e f))) λg=>
 (f29_l2 t0 c g (Int.toNat ((List.length c:Int) - 0)+1) 0 ([]:List (Int×Bool))) else(d ()))
def f29(t0:bg):oB:=
 (bif (decide ((List.length t0.text.lists:Int)>4096)) then some false else an (λ(_:Unit)=>
 some true) λa=>
 (f29_l1 t0 a (Int.toNat ((List.length t0.text.lists:Int) - 0)+1) 0))
def f93s_l1(d:lN→lH→lP→lS→lL→lO→lT→Int→lK→lM→lC→Int→Int→ap→Int→Option (Bool×lN×lH×lP×lS×lL×lO×lT×Int×lK×lM×lC×Int×Int))(e1:ap)(e:Int)(f:Int→lN→lH→lP→lS→lL→lO→lT→Int→lK→lM→lC→Int→Int→Option (Bool×lN×lH×lP×lS×lL×lO×lT×Int×lK×lM×lC×Int×Int))(g:lN→lH→lP→lS→lL→lO→lT→Int→lK→lM→lC→Int→Int→Option (Bool×lN×lH×lP×lS×lL×lO×lT×Int×lK×lM×lC×Int×Int)):Nat→Int→lN→lH→lP→lS→lL→lO→lT→Int→lK→lM→lC→Int→Int→Option (Bool×lN×lH×lP×lS×lL×lO×lT×Int×lK×lM×lC×Int×Int)
 |0,_,_,_,_,_,_,_,_,_,_,_,_,_,_=>none
 |n+1,c,c00v179,c01v180,c02v181,c03v182,c04v183,c05v184,c06v185,c07v186,c08v187,c09v188,c010v189,c011v190,c012v191=>
 (bif (decide (c<(List.length e1.l:Int))) then Option.bind (idx e1.l c) λh=>
 an (λ(j:Bool)(c00v209:lN)(c01v210:lH)(c02v211:lP)(c03v212:lS)(c04v213:lL)(c05v214:lO)(c06v215:lT)(c07v216:Int)(c08v217:lK)(c09v218:lM)(c010v219:lC)(c011v220:Int)(c012v221:Int)=>
 (bif j then(f c c00v209 c01v210 c02v211 c03v212 c04v213 c05v214 c06v215 c07v216 c08v217 c09v218 c010v219 c011v220 c012v221) else(f93s_l1 d e1 e f g n (IntKind.i64.wrap (c+1)) c00v209 c01v210 c02v211 c03v212 c04v213 c05v214 c06v215 c07v216 c08v217 c09v218 c010v219 c011v220 c012v221))) λk=>
 Option.bind (d c00v179 c01v180 c02v181 c03v182 c04v183 c05v184 c06v185 c07v186 c08v187 c09v188 c010v189 c011v190 c012v191 h (IntKind.i64.wrap (e+1))) λa=>
 (k (!a.1) a.2.1 a.2.2.1 a.2.2.2.1 a.2.2.2.2.1 a.2.2.2.2.2.1 a.2.2.2.2.2.2.1 a.2.2.2.2.2.2.2.1 a.2.2.2.2.2.2.2.2.1 a.2.2.2.2.2.2.2.2.2.1 a.2.2.2.2.2.2.2.2.2.2.1 a.2.2.2.2.2.2.2.2.2.2.2.1 a.2.2.2.2.2.2.2.2.2.2.2.2.1 a.2.2.2.2.2.2.2.2.2.2.2.2.2) else(g c00v179 c01v180 c02v181 c03v182 c04v183 c05v184 c06v185 c07v186 c08v187 c09v188 c010v189 c011v190 c012v191))
def f93s(C:lN→lH→lP→lS→lL→lO→lT→Int→lK→lM→lC→Int→Int→ap→Int→Option (Bool×lN×lH×lP×lS×lL×lO×lT×Int×lK×lM×lC×Int×Int))(f:lN)(g:lH)(h:lP)(j:lS)(k:lL)(c:lO)(m:lT)(p:Int)(r:lK)(t:lM)(w:lC)(jent:Int)(jleft:Int)(e1:ap)(x:Int):Option (Bool×lN×lH×lP×lS×lL×lO×lT×Int×lK×lM×lC×Int×Int):=
 an (λ(E:Bool)(F:Int)(d:ap)(c21v100:Int)(c22v101:Int)(c23v102:Int)(c24v103:Int)=>
 (bif (((((((((((decide ((IntKind.i64.wrap (jleft - 1))<0))||(decide (x>64)))||(!E))||(!decide ((List.length e1.l:Int)=F)))||(!decide (e1.op=d.op)))||(!decide (e1.n=d.n)))||(!decide (e1.o=d.o)))||(!decide (e1.off=d.off)))||(!decide (e1.len=0)))||(!decide (e1.lo=0)))||(!decide (e1.hi=0))) then some (false,f,g,h,j,k,c,m,p,r,t,w,jent,(IntKind.i64.wrap (jleft - 1))) else an (λ(G:Bool)(c00v120:lN)(c01v121:lH)(c02v122:lP)(c03v123:lS)(c04v124:lL)(c05v125:lO)(c06v126:lT)(c07v127:Int)(c08v128:lK)(c09v129:lM)(c010v130:lC)(c011v131:Int)(c012v132:Int)=>
 some ((!G),c00v120,c01v121,c02v122,c03v123,c04v124,c05v125,c06v126,c07v127,c08v128,c09v129,c010v130,c011v131,c012v132)) λH=>
 an (λ(I:Int)(c00v136:lN)(c01v137:lH)(c02v138:lP)(c03v139:lS)(c04v140:lL)(c05v141:lO)(c06v142:lT)(c07v143:Int)(c08v144:lK)(c09v145:lM)(c010v146:lC)(c011v147:Int)(c012v148:Int)=>
 (H (decide (I≥0)) c00v136 c01v137 c02v138 c03v139 c04v140 c05v141 c06v142 c07v143 c08v144 c09v145 c010v146 c011v147 c012v148)) λy=>
 an (λ(c00v150:lN)(c01v151:lH)(c02v152:lP)(c03v153:lS)(c04v154:lL)(c05v155:lO)(c06v156:lT)(c07v157:Int)(c08v158:lK)(c09v159:lM)(c010v160:lC)(c011v161:Int)(c012v162:Int)=>
 (y (-1) c00v150 c01v151 c02v152 c03v153 c04v154 c05v155 c06v156 c07v157 c08v158 c09v159 c010v160 c011v161 c012v162)) λJ=>
 (f93s_l1 C e1 x y J (Int.toNat ((List.length e1.l:Int) - 0)+1) 0 f g h j k c m p r t w jent (IntKind.i64.wrap (jleft - 1))))) λe=>
 an (λ(K:Int)(c21v106:Int)(c22v107:Int)(c23v108:Int)(c24v109:Int)=>
 (e true K (ap.mk e1.kind c21v106 c22v107 c23v108 c24v109 0 0 0 []) c21v106 c22v107 c23v108 c24v109)) λa=>
 (bif (decide (e1.kind=1)) then(a 0 0 e1.n 0 0) else(bif (decide (e1.kind=2)) then Option.bind (f89 (bg.mk (af.mk f g h j k c m p r t w)) e1.o e1.off 1) λL=>
 Option.bind (bif (!L) then some true else(Option.bind (idx c e1.o) λM=>some M.ptr)) λN=>
 (bif N then(e false 0 (ap.mk e1.kind 0 0 0 0 0 0 0 []) 0 0 0 0) else(a 0 0 0 e1.o e1.off)) else(bif (decide (e1.kind=14)) then an (λ(O:Bool)=>
 (e O 0 (ap.mk e1.kind 0 e1.n 0 0 0 0 0 []) 0 e1.n 0 0)) λA=>
 (bif (decide (e1.n≥0)) then(A (decide (e1.n<jent))) else(A false)) else(bif (decide (e1.kind=4)) then(a 1 18 0 0 0) else(bif (decide (e1.kind=5)) then(a 2 (if(if 15<e1.op then 15 else e1.op)>7 then(if 15<e1.op then 15 else e1.op) else 7) 0 0 0) else an (λ(P:Bool)=>
 (bif P then(a 2 0 0 0 0) else(e false 0 (ap.mk e1.kind 0 0 0 0 0 0 0 []) 0 0 0 0))) λB=>
 (bif (decide (e1.kind=6)) then(B (decide (e1.kind=6))) else(B (decide (e1.kind=7)))))))))
def f93:Nat→lN→lH→lP→lS→lL→lO→lT→Int→lK→lM→lC→Int→Int→ap→Int→Option (Bool×lN×lH×lP×lS×lL×lO×lT×Int×lK×lM×lC×Int×Int)
 |0=>λ_ _ _ _ _ _ _ _ _ _ _ _ _ _ _=>none
 |n+1=>f93s (f93 n)
def f30_l2(t0:bg)(d:Int→(List ap)→oB)(a:d7):Nat→Int→oB
 |0,_=>none
 |na+1,c=>
 (bif (decide (c<(List.length a.barriers:Int))) then Option.bind (idx a.barriers c) λe=>
 Option.bind (f93 66 t0.text.insns t0.text.handlers t0.text.loops t0.text.selects t0.text.lists t0.text.objs t0.text.inits t0.text.excs t0.text.tasks t0.text.prots t0.text.checks (List.length a.barriers:Int) 256 e 1) λf=>
 (bif (!f.1) then some false else(f30_l2 t0 d a na (IntKind.i64.wrap (c+1)))) else(d a.ceiling a.barriers))
def f30_l1(t0:bg)(d:Unit→oB):Nat→Int→oB
 |0,_=>none
 |n+1,c=>
 (bif (decide (c<(List.length t0.text.prots:Int))) then an (λ(c00v60:Int)(c01v61:List ap)=>
 (f30_l1 t0 d n (IntKind.i64.wrap (c+1)))) λe=>
 Option.bind (idx t0.text.prots c) λa=>
 (bif (((decide (a.ceiling<0))||(decide (a.ceiling>31)))||(decide ((List.length a.barriers:Int)>8))) then some false else(f30_l2 t0 e a (Int.toNat ((List.length a.barriers:Int) - 0)+1) 0)) else(d ()))
def f30(t0:bg):oB:=
 an (λ(_:Unit)=>
 some (decide ((List.length t0.text.prots:Int)≤32))) λa=>
 (f30_l1 t0 a (Int.toNat ((List.length t0.text.prots:Int) - 0)+1) 0)
def f157(n0:Int)(a:bg)(c:Int):oB:=
 Option.bind (f89 a c n0 1) λd=>
 some d
def f96(t0:bg)(a:Int)(a2:cD):oB:=
 Option.bind (bif (!(f47 t0 a2.at_)) then some true else(Option.bind (bif (!decide (a2.guard=(-1))) then(Option.bind (f157 a2.guard t0 a) λd=>some (!d)) else some false) λe=>some e)) λf=>
 (bif f then some false else(bif (decide (a2.kind=1)) then some (((decide (a2.entry≥0))&&(decide (a2.entry<8)))&&(decide (a2.time=0))) else an (λ(g:Bool)=>
 (bif g then Option.bind (bif (decide (a2.entry=0)) then(Option.bind (f157 a2.time t0 a) λh=>some h) else some false) λj=>
 some j else some ((decide (a2.kind=4))&&(decide ((IntKind.i64.wrap (BitVec.ofInt IntKind.i64.bits a2.entry|||BitVec.ofInt IntKind.i64.bits a2.time).toNat)=0))))) λc=>
 (bif (decide (a2.kind=2)) then(c (decide (a2.kind=2))) else(c (decide (a2.kind=3))))))
def f31_l2(t0:bg)(a:aZ)(d:Int→oB)(e:Unit→oB):Nat→Int→oB
 |0,_=>none
 |na+1,c=>
 (bif (decide (c<(List.length a.alts:Int))) then Option.bind (idx a.alts c) λf=>
 an (λ(g:Bool)=>
 (bif g then(d c) else(f31_l2 t0 a d e na (IntKind.i64.wrap (c+1))))) λh=>
 Option.bind (f96 t0 a.obj f) λj=>
 (h (!j)) else(e ()))
def f31_l1(t0:bg)(d:Unit→oB):Nat→Int→oB
 |0,_=>none
 |n+1,c=>
 (bif (decide (c<(List.length t0.text.selects:Int))) then Option.bind (idx t0.text.selects c) λa=>
 (bif (((((decide ((List.length a.alts:Int)<1))||(decide ((List.length a.alts:Int)>16)))||(decide (a.obj<0)))||(decide (a.obj≥(List.length t0.text.objs:Int))))||((!decide (a.else_=(-1)))&&(!(f47 t0 a.else_)))) then some false else an (λ(f:Bool)=>
 (bif f then some false else(f31_l1 t0 d n (IntKind.i64.wrap (c+1))))) λg=>
 an (λ(h:Int)=>
 (g (decide (h≥0)))) λe=>
 an (λ(_:Unit)=>
 (e (-1))) λj=>
 (f31_l2 t0 a e j (Int.toNat ((List.length a.alts:Int) - 0)+1) 0)) else(d ()))
def f31(t0:bg):oB:=
 (bif (decide ((List.length t0.text.selects:Int)>1024)) then some false else an (λ(_:Unit)=>
 some true) λa=>
 (f31_l1 t0 a (Int.toNat ((List.length t0.text.selects:Int) - 0)+1) 0))
def f50(h0:aD)(a1:Int):Bool:=
 ((decide (h0.from_≤a1))&&(decide (a1<h0.to)))
def f32_l2(t0:bg)(d:Int)(f:Int→Int→Int→Bool→oB)(a:aD):Nat→Int→oB
 |0,_=>none
 |na+1,e=>
 (bif (decide (e<(List.length (cB t0.text.handlers 0 d):Int))) then Option.bind (idx (cB t0.text.handlers 0 d) e) λc=>
 (bif ((!((decide (c.from_≥a.from_))&&(decide (c.to≤a.to))))&&(decide ((if a.from_>c.from_ then a.from_ else c.from_)<(if a.to<c.to then a.to else c.to)))) then some false else(f32_l2 t0 d f a na (IntKind.i64.wrap (e+1)))) else(f a.from_ a.to a.at_ a.clean))
def f32_l1(t0:bg)(d:Unit→oB):Nat→Int→oB
 |0,_=>none
 |n+1,c=>
 (bif (decide (c<(List.length t0.text.handlers:Int))) then an (λ(c00v99:Int)(c01v100:Int)(c02v101:Int)(c03v102:Bool)=>
 (f32_l1 t0 d n (IntKind.i64.wrap (c+1)))) λe=>
 Option.bind (idx t0.text.handlers c) λa=>
 (bif (((((decide (a.from_<0))||(decide (a.from_≥a.to)))||(decide (a.to>(List.length t0.text.insns:Int))))||(!(f47 t0 a.at_)))||(f50 a a.at_)) then some false else bB (fB t0.text.handlers 0 c)<|
 (f32_l2 t0 c e a (Int.toNat ((List.length (cB t0.text.handlers 0 c):Int) - 0)+1) 0)) else(d ()))
def f32(t0:bg):oB:=
 (bif (decide ((List.length t0.text.handlers:Int)>4096)) then some false else an (λ(_:Unit)=>
 some true) λa=>
 (f32_l1 t0 a (Int.toNat ((List.length t0.text.handlers:Int) - 0)+1) 0))
def f97(x0:aE)(a:Int):Bool:=
 ((((decide (x0.op=29))||(decide (x0.op=30)))||(decide (x0.op=31)))&&(decide (x0.to=a)))
def f33_l1(t0:bg)(e:(List (Int×Bool))→oB):Nat→Int→(List (Int×Bool))→oB
 |0,_,_=>none
 |n+1,c,d=>
 (bif (decide (c<(List.length t0.text.loops:Int))) then Option.bind (idx t0.text.loops c) λa=>
 Option.bind (bif ((((decide (a.head<0))||(decide (a.head>a.back)))||(!(f47 t0 a.back)))||(Option.getD (cY d a.back) false)) then some true else(Option.bind (idx t0.text.insns a.back) λf=>some (!(f97 f a.head)))) λg=>
 (bif ((g||(decide (a.bound<0)))||(decide (a.bound>2147483647))) then some false else(f33_l1 t0 e n (IntKind.i64.wrap (c+1)) (bw d a.back true))) else(e d))
def f33(t0:bg):oB:=
 (bif (decide ((List.length t0.text.loops:Int)>4096)) then some false else an (λ(c:List (Int×Bool))=>
 some true) λa=>
 (f33_l1 t0 a (Int.toNat ((List.length t0.text.loops:Int) - 0)+1) 0 ([]:List (Int×Bool))))
def f61(t0:bg)(a1:Int):oB:=
 Option.bind (bif (f47 t0 a1) then(Option.bind (idx t0.text.insns a1) λa=>Option.bind (bif (decide (a.op=27)) then some true else(Option.bind (idx t0.text.insns a1) λc=>some (decide (c.op=28)))) λd=>some d) else some false) λe=>
 some e
def f34_l1(t0:bg)(d:Unit→oB):Nat→Int→Int→oB
 |0,_,_=>none
 |n+1,e,c=>
 (bif (decide (c<(List.length t0.text.checks:Int))) then Option.bind (idx t0.text.checks c) λa=>
 Option.bind (bif (decide (a.at_≤e)) then some true else(Option.bind (f61 t0 a.at_) λf=>some (!f))) λg=>
 (bif ((g||(decide (a.kind<1)))||(decide (a.kind>5))) then some false else(f34_l1 t0 d n a.at_ (IntKind.i64.wrap (c+1)))) else(d ()))
def f34(t0:bg):oB:=
 an (λ(_:Unit)=>
 some true) λa=>
 (f34_l1 t0 a (Int.toNat ((List.length t0.text.checks:Int) - 0)+1) (-1) 0)
def f98_l1(s0:lN)(c:aE→oB)(d:Unit→Option (Int)):Nat→Int→Option (Int)
 |0,_=>none
 |n+1,a=>
 (bif (decide (a<(List.length s0:Int))) then Option.bind (idx s0 a) λe=>
 Option.bind (c e) λf=>
 (bif f then some a else(f98_l1 s0 c d n (IntKind.i64.wrap (a+1)))) else(d ()))
def f98(s0:lN)(a:aE→oB):Option Int:=
 an (λ(_:Unit)=>
 some (-1)) λc=>
 (f98_l1 s0 a c (Int.toNat ((List.length s0:Int) - 0)+1) 0)
def f35(s0:lN)(a:aE→oB):oB:=
 Option.bind (f98 s0 a) λc=>
 some (decide (c≥0))
def f158(o0:Int):Option (gD×Bool):=
 (bif ((decide (o0<1))||(decide ((IntKind.i64.wrap o0)>57))) then some ((gD.mk ByteArray.empty ByteArray.empty),false) else Option.bind (idx iU (IntKind.u8.wrap (o0 - 1))) λa=>
 some (a,true))
def f186_l1(s0:ByteArray)(c:Int→Int→Option (List ByteArray)):Nat→Int→Int→Int→Int→Option (List ByteArray)
 |0,_,_,_,_=>none
 |n+1,d,wasSpace116,setBits117,a=>
 (bif (decide (a<(s0.size:Int))) then Option.bind (eK s0 a) λe=>
 Option.bind (idx da e) λf=>
 (f186_l1 s0 c n (IntKind.i64.wrap (d+(IntKind.i64.wrap (BitVec.ofInt IntKind.i64.bits wasSpace116&&&BitVec.ofInt IntKind.i64.bits (IntKind.i64.wrap (BitVec.ofInt IntKind.i64.bits (-1)^^^BitVec.ofInt IntKind.i64.bits (IntKind.i64.wrap f)).toNat)).toNat))) (IntKind.i64.wrap f) (IntKind.u8.wrap (BitVec.ofInt IntKind.u8.bits setBits117|||BitVec.ofInt IntKind.u8.bits e).toNat) (IntKind.i64.wrap (a+1))) else(c d setBits117))
def f186_l2(s0:ByteArray)(c:Int→Option (List ByteArray)):Nat→Int→Option (List ByteArray)
 |0,_=>none
 |n+1,a=>
 Option.bind (bif (decide (a<(s0.size:Int))) then(Option.bind (eK s0 a) λd=>Option.bind (idx da d) λe=>some (!decide (e=0))) else some false) λf=>
 (bif f then(f186_l2 s0 c n (IntKind.i64.wrap (a+1))) else(c a))
def f186_l4(s0:ByteArray)(c:Int→Option (List ByteArray)):Nat→Int→Option (List ByteArray)
 |0,_=>none
 |na+1,a=>
 Option.bind (bif (decide (a<(s0.size:Int))) then(Option.bind (eK s0 a) λd=>Option.bind (idx da d) λe=>some (!decide (e=0))) else some false) λf=>
 (bif f then(f186_l4 s0 c na (IntKind.i64.wrap (a+1))) else(c a))
def f186_l3(s0:ByteArray)(e:Int→Int→(List ByteArray)→Option (List ByteArray)):Nat→Int→Int→Int→(List ByteArray)→Option (List ByteArray)
 |0,_,_,_,_=>none
 |n+1,a,fieldStart143,c,d=>
 (bif (decide (c<(s0.size:Int))) then an (λ(h:Int)(fieldStart151:Int)(j:Int)(k:List ByteArray)=>
 (f186_l3 s0 e n h fieldStart151 j k)) λf=>
 Option.bind (eK s0 c) λm=>
 Option.bind (idx da m) λp=>
 (bif (decide (p=0)) then(f a fieldStart143 (IntKind.i64.wrap (c+1)) d) else Option.bind (rP s0 fieldStart143 c) λr=>
 Option.bind (idx d a) λw=>
 an (λ(g:Int)=>
 (f (IntKind.i64.wrap (a+1)) g g (List.set d (Int.toNat a) r))) λt=>
 (f186_l4 s0 t 9223372036854775808 (IntKind.i64.wrap (c+1)))) else(e a fieldStart143 d))
def f186(s0:ByteArray):Option (List ByteArray):=
 an (λ(c:Int)(setBits109:Int)=>
 (bif (decide (setBits109≥128)) then none else bB (vT 16 c)<|
 an (λ(d:Int)=>
 an (λ(e:Int)(fieldStart135:Int)(a:List ByteArray)=>
 an (λ(g:List ByteArray)=>
 some g) λf=>
 (bif (decide (fieldStart135<(s0.size:Int))) then Option.bind (rP s0 fieldStart135 (s0.size:Int)) λh=>
 Option.bind (idx a e) λp=>
 (f (List.set a (Int.toNat e) h)) else(f a))) λj=>
 (f186_l3 s0 j 9223372036854775808 0 d d (List.replicate (Int.toNat c) (ByteArray.empty:ByteArray)))) λk=>
 (f186_l2 s0 k 9223372036854775808 0))) λm=>
 (f186_l1 s0 m 9223372036854775808 0 1 0 0)
def f189(a:Int):Int×Int:=
 (bif (decide (a=114)) then(0,15) else(bif (decide (a=111)) then(0,4095) else(bif (decide (a=115)) then(0,65535) else(bif (decide (a=108)) then(1,65536) else(bif (decide (a=120)) then(1,64) else(bif (decide (a=107)) then(6,7) else(bif (decide (a=101)) then(0,7) else(bif (decide (a=112)) then(0,31) else(bif (decide (a=113)) then((-1),31) else(bif (decide (a=109)) then(0,3) else(bif (decide (a=106)) then(0,1023) else(bif (decide (a=98)) then(0,1) else((-9223372036854775808),9223372036854775807)))))))))))))
def f99_l1(e:Int→Int→Int→Int→Int→Int→ByteArray→ByteArray→Int→Int→Int→Int→oB)(f:Int→Int→Int→Int→Int→Int→ByteArray→ByteArray→Int→Int→Int→Int→oB)(g:Int→Int→Int→Int→Int→Int→ByteArray→ByteArray→Int→Int→Int→Int→oB)(h:Int→Int→Int→Int→Int→Int→ByteArray→ByteArray→Int→Int→Int→Int→oB)(j:Int→Int→Int→Int→Int→Int→ByteArray→ByteArray→Int→Int→Int→Int→oB)(k:Int→Int→Int→Int→Int→Int→ByteArray→ByteArray→Int→Int→Int→Int→oB)(m:Int→Int→Int→Int→Int→Int→ByteArray→ByteArray→oB)(a:gD×Bool)(c:List ByteArray):Nat→Int→Int→Int→Int→Int→Int→Int→oB
 |0,_,_,_,_,_,_,_=>none
 |n+1,d,c21v178,c22v179,c23v180,c24v181,c25v182,c26v183=>
 (bif (decide (d<(List.length c:Int))) then Option.bind (idx c d) λp=>
 Option.bind (eK p 0) λB=>
 (bif (decide (B=68)) then an (λ(_:Unit)=>
 Option.bind (eK p 1) λr=>
 an (λ(_:Unit)=>
 (e c21v178 c22v179 c23v180 c24v181 c25v182 c26v183 a.1.name a.1.fields ((f189 r).1) ((f189 r).2) ((f189 r).1) ((f189 r).2))) λC=>
 an (λ(_:Unit)=>
 (f99_l1 e f g h j k m a c n (IntKind.i64.wrap (d+1)) 0 c22v179 c23v180 c24v181 c25v182 c26v183)) λE=>
 an (λ(_:Unit)=>
 (bif ((decide (c21v178<((f189 r).1)))||(decide (c21v178>((f189 r).2)))) then(C ()) else an (λ(_:Unit)=>
 (E ())) λF=>
 (F ()))) λG=>
 (G ())) λH=>
 (H ()) else(bif (decide (B=65)) then an (λ(_:Unit)=>
 Option.bind (eK p 1) λt=>
 an (λ(_:Unit)=>
 (f c21v178 c22v179 c23v180 c24v181 c25v182 c26v183 a.1.name a.1.fields ((f189 t).1) ((f189 t).2) ((f189 t).1) ((f189 t).2))) λI=>
 an (λ(_:Unit)=>
 (f99_l1 e f g h j k m a c n (IntKind.i64.wrap (d+1)) c21v178 0 c23v180 c24v181 c25v182 c26v183)) λJ=>
 an (λ(_:Unit)=>
 (bif ((decide (c22v179<((f189 t).1)))||(decide (c22v179>((f189 t).2)))) then(I ()) else an (λ(_:Unit)=>
 (J ())) λK=>
 (K ()))) λL=>
 (L ())) λM=>
 (M ()) else(bif (decide (B=66)) then an (λ(_:Unit)=>
 Option.bind (eK p 1) λw=>
 an (λ(_:Unit)=>
 (g c21v178 c22v179 c23v180 c24v181 c25v182 c26v183 a.1.name a.1.fields ((f189 w).1) ((f189 w).2) ((f189 w).1) ((f189 w).2))) λN=>
 an (λ(_:Unit)=>
 (f99_l1 e f g h j k m a c n (IntKind.i64.wrap (d+1)) c21v178 c22v179 0 c24v181 c25v182 c26v183)) λO=>
 an (λ(_:Unit)=>
 (bif ((decide (c23v180<((f189 w).1)))||(decide (c23v180>((f189 w).2)))) then(N ()) else an (λ(_:Unit)=>
 (O ())) λP=>
 (P ()))) λQ=>
 (Q ())) λR=>
 (R ()) else(bif (decide (B=78)) then an (λ(_:Unit)=>
 Option.bind (eK p 1) λx=>
 an (λ(_:Unit)=>
 (h c21v178 c22v179 c23v180 c24v181 c25v182 c26v183 a.1.name a.1.fields ((f189 x).1) ((f189 x).2) ((f189 x).1) ((f189 x).2))) λS=>
 an (λ(_:Unit)=>
 (f99_l1 e f g h j k m a c n (IntKind.i64.wrap (d+1)) c21v178 c22v179 c23v180 0 c25v182 c26v183)) λT=>
 an (λ(_:Unit)=>
 (bif ((decide (c24v181<((f189 x).1)))||(decide (c24v181>((f189 x).2)))) then(S ()) else an (λ(_:Unit)=>
 (T ())) λU=>
 (U ()))) λV=>
 (V ())) λW=>
 (W ()) else(bif (decide (B=77)) then an (λ(_:Unit)=>
 Option.bind (eK p 1) λy=>
 an (λ(_:Unit)=>
 (j c21v178 c22v179 c23v180 c24v181 c25v182 c26v183 a.1.name a.1.fields ((f189 y).1) ((f189 y).2) ((f189 y).1) ((f189 y).2))) λX=>
 an (λ(_:Unit)=>
 (f99_l1 e f g h j k m a c n (IntKind.i64.wrap (d+1)) c21v178 c22v179 c23v180 c24v181 0 c26v183)) λY=>
 an (λ(_:Unit)=>
 (bif ((decide (c25v182<((f189 y).1)))||(decide (c25v182>((f189 y).2)))) then(X ()) else an (λ(_:Unit)=>
 (Y ())) λZ=>
 (Z ()))) λad=>
 (ad ())) λag=>
 (ag ()) else an (λ(_:Unit)=>
 Option.bind (eK p 1) λA=>
 an (λ(_:Unit)=>
 (k c21v178 c22v179 c23v180 c24v181 c25v182 c26v183 a.1.name a.1.fields ((f189 A).1) ((f189 A).2) ((f189 A).1) ((f189 A).2))) λal=>
 an (λ(_:Unit)=>
 (f99_l1 e f g h j k m a c n (IntKind.i64.wrap (d+1)) c21v178 c22v179 c23v180 c24v181 c25v182 0)) λa0=>
 an (λ(_:Unit)=>
 (bif ((decide (c26v183<((f189 A).1)))||(decide (c26v183>((f189 A).2)))) then(al ()) else an (λ(_:Unit)=>
 (a0 ())) λa1=>
 (a1 ()))) λa6=>
 (a6 ())) λa7=>
 (a7 ())))))) else(m c21v178 c22v179 c23v180 c24v181 c25v182 c26v183 a.1.name a.1.fields))
def f99(x0:aE):oB:=
 Option.bind (f158 x0.op) λf=>
 (bif ((!f.2)||((decide (x0.op=27))&&(decide (x0.n>x0.m)))) then some false else(bif (((decide (x0.op=37))&&(decide ((IntKind.u8.wrap x0.n)=6)))&&(!decide (x0.m=0))) then some false else an (λ(c21v69:Int)(c22v70:Int)(c23v71:Int)(c24v72:Int)(c25v73:Int)(c26v74:Int)(c50v75:ByteArray)(c51v76:ByteArray)=>
 some (((decide (x0.op=x0.op))&&((decide (c21v69=0))&&((decide (c22v70=0))&&((decide (c23v71=0))&&((decide (c24v72=0))&&((decide (c25v73=0))&&((decide (c26v74=0))&&true))))))))) λg=>
 an (λ(_:Unit)=>
 an (λ(c21v81:Int)(c22v82:Int)(c23v83:Int)(c24v84:Int)(c25v85:Int)(c26v86:Int)(c50v87:ByteArray)(c51v88:ByteArray)(c62v89:Int)(c63v90:Int)(c92v91:Int)(c93v92:Int)=>
 some false) λh=>
 an (λ(c21v94:Int)(c22v95:Int)(c23v96:Int)(c24v97:Int)(c25v98:Int)(c26v99:Int)(c50v100:ByteArray)(c51v101:ByteArray)(c62v102:Int)(c63v103:Int)(c92v104:Int)(c93v105:Int)=>
 some false) λj=>
 an (λ(c21v107:Int)(c22v108:Int)(c23v109:Int)(c24v110:Int)(c25v111:Int)(c26v112:Int)(c50v113:ByteArray)(c51v114:ByteArray)(c62v115:Int)(c63v116:Int)(c92v117:Int)(c93v118:Int)=>
 some false) λk=>
 an (λ(c21v120:Int)(c22v121:Int)(c23v122:Int)(c24v123:Int)(c25v124:Int)(c26v125:Int)(c50v126:ByteArray)(c51v127:ByteArray)(c62v128:Int)(c63v129:Int)(c92v130:Int)(c93v131:Int)=>
 some false) λp=>
 an (λ(c21v133:Int)(c22v134:Int)(c23v135:Int)(c24v136:Int)(c25v137:Int)(c26v138:Int)(c50v139:ByteArray)(c51v140:ByteArray)(c62v141:Int)(c63v142:Int)(c92v143:Int)(c93v144:Int)=>
 some false) λr=>
 an (λ(c21v146:Int)(c22v147:Int)(c23v148:Int)(c24v149:Int)(c25v150:Int)(c26v151:Int)(c50v152:ByteArray)(c51v153:ByteArray)(c62v154:Int)(c63v155:Int)(c92v156:Int)(c93v157:Int)=>
 some false) λt=>
 an (λ(c21v159:Int)(c22v160:Int)(c23v161:Int)(c24v162:Int)(c25v163:Int)(c26v164:Int)(c50v165:ByteArray)(c51v166:ByteArray)=>
 (g c21v159 c22v160 c23v161 c24v162 c25v163 c26v164 c50v165 c51v166)) λw=>
 Option.bind (f158 x0.op) λc=>
 Option.bind (f186 c.1.fields) λe=>
 (f99_l1 h j k p r t w c e (Int.toNat ((List.length e:Int) - 0)+1) 0 x0.d x0.a x0.b x0.n x0.m x0.to)) λx=>
 (x ())))
def f100(y0:aE):Bool:=
 (!decide (y0.op=29))
def f101(t0:bg)(a:Int)(n2:Int):Option (Int×Bool):=
 Option.bind (bif (((decide (a<0))||(decide (a≥(List.length t0.text.tasks:Int))))||(decide (n2<0))) then some true else(Option.bind (idx t0.text.tasks a) λd=>some (decide (n2≥(List.length d.entries:Int))))) λe=>
 (bif e then some (0,false) else Option.bind (idx t0.text.tasks a) λf=>
 Option.bind (idx f.entries n2) λc=>
 some ((IntKind.i64.wrap ((IntKind.i64.wrap ((List.length c.ins:Int)+(List.length c.outs:Int)))+1)),true))
def f102(t0:bg)(p1:Int)(n2:Int):oB:=
 Option.bind (bif (((decide (p1≥0))&&(decide (p1<(List.length t0.text.prots:Int))))&&(decide (n2≥0))) then(Option.bind (idx t0.text.prots p1) λa=>some (decide (n2<(List.length a.barriers:Int)))) else some false) λc=>
 some c
def f37(t0:bg)(x1:aE):oB:=
 Option.bind (f99 x1) λj=>
 (bif (!j) then some false else an (λ(k:Bool)=>
 (bif k then Option.bind (f89 t0 x1.n x1.m 1) λp=>
 some p else an (λ(r:Bool)=>
 (bif r then Option.bind (f89 t0 x1.n x1.m x1.b) λt=>
 some t else an (λ(w:Bool)=>
 (bif w then some (f47 t0 x1.to) else(bif (decide (x1.op=32)) then Option.bind (bif (decide ((IntKind.i64.wrap (x1.to+x1.m))≤(List.length t0.text.insns:Int))) then(bB (fB t0.text.insns x1.to (IntKind.i64.wrap (x1.to+x1.m)))<|Option.bind (f35 (cB t0.text.insns x1.to (IntKind.i64.wrap (x1.to+x1.m))) (λz0=>some (f100 z0))) λx=>some (!x)) else some false) λy=>
 some y else(bif (decide (x1.op=33)) then some (decide (x1.n≤t0.text.excs)) else an (λ(A:Bool)=>
 (bif A then some (decide (x1.n<(List.length t0.text.lists:Int))) else(bif (decide (x1.op=50)) then some (decide (x1.n<(List.length t0.text.selects:Int))) else(bif (decide (x1.op=49)) then Option.bind (f101 t0 x1.a x1.b) λe=>
 Option.bind (bif e.2 then(Option.bind (f89 t0 x1.n 0 e.1) λB=>some B) else some false) λC=>
 some C else(bif (decide (x1.op=52)) then Option.bind (f101 t0 x1.a x1.b) λE=>
 some (E.2&&(decide (x1.to<(List.length t0.text.insns:Int)))) else an (λ(F:Bool)=>
 (bif F then some (decide (x1.n<(List.length t0.text.prots:Int))) else(bif (decide (x1.op=54)) then Option.bind (f102 t0 x1.n x1.m) λG=>
 some G else(bif (decide (x1.op=43)) then Option.bind (bif (decide (x1.m<0)) then some true else(Option.bind (f102 t0 x1.m x1.n) λH=>some H)) λI=>
 some I else some true)))) λf=>
 (bif (decide (x1.op=53)) then(f (decide (x1.op=53))) else(f (decide (x1.op=55))))))))) λc=>
 (bif (decide (x1.op=44)) then(c (decide (x1.op=44))) else(bif (decide (x1.op=45)) then(c (decide (x1.op=45))) else(bif (decide (x1.op=46)) then(c (decide (x1.op=46))) else(c (decide (x1.op=56)))))))))) λd=>
 (bif (decide (x1.op=29)) then(d (decide (x1.op=29))) else(bif (decide (x1.op=30)) then(d (decide (x1.op=30))) else(d (decide (x1.op=31))))))) λg=>
 (bif (decide (x1.op=5)) then(g (decide (x1.op=5))) else(g (decide (x1.op=6)))))) λh=>
 (bif (decide (x1.op=3)) then(h (decide (x1.op=3))) else(h (decide (x1.op=4)))))
def f10_l1(t0:af)(c:Int→oB)(d:Unit→oB):Nat→Int→oB
 |0,_=>none
 |n+1,a=>
 (bif (decide (a<(List.length t0.insns:Int))) then Option.bind (idx t0.insns a) λe=>
 an (λ(f:Bool)=>
 (bif f then(c a) else(f10_l1 t0 c d n (IntKind.i64.wrap (a+1))))) λg=>
 Option.bind (f37 (bg.mk t0) e) λh=>
 (g (!h)) else(d ()))
def f10(t0:af):oB:=
 (bif ((decide ((List.length t0.insns:Int)<1))||(decide ((List.length t0.insns:Int)>65536))) then some false else Option.bind (idx t0.insns (IntKind.i64.wrap ((List.length t0.insns:Int) - 1))) λa=>
 an (λ(e:Bool)=>
 (bif e then an (λ(_:Unit)=>
 an (λ(f:Bool)=>
 some (!f)) λg=>
 an (λ(h:Int)=>
 (g (decide (h≥0)))) λd=>
 an (λ(_:Unit)=>
 (d (-1))) λj=>
 (f10_l1 t0 d j (Int.toNat ((List.length t0.insns:Int) - 0)+1) 0)) λk=>
 Option.bind (f27 (bg.mk t0)) λm=>
 (bif (!m) then some false else Option.bind (f28 (bg.mk t0)) λp=>
 (bif (!p) then some false else Option.bind (f29 (bg.mk t0)) λr=>
 (bif (!r) then some false else Option.bind (f30 (bg.mk t0)) λt=>
 (bif (!t) then some false else Option.bind (f31 (bg.mk t0)) λw=>
 (bif (!w) then some false else Option.bind (f32 (bg.mk t0)) λx=>
 (bif (!x) then some false else Option.bind (f33 (bg.mk t0)) λy=>
 (bif (!y) then some false else Option.bind (f34 (bg.mk t0)) λA=>
 (bif (!A) then some false else(k ()))))))))) else some false)) λc=>
 (bif (decide (a.op=29)) then(c (decide (a.op=29))) else(bif (decide (a.op=33)) then(c (decide (a.op=33))) else(bif (decide (a.op=34)) then(c (decide (a.op=34))) else(c (decide (a.op=57)))))))
def f24s_l1(d:ap→Option (Int))(e0:ap)(e:Int→Option (Int)):Nat→Int→Int→Option (Int)
 |0,_,_=>none
 |n+1,a,c=>
 (bif ((decide (c<(List.length e0.l:Int)))&&(decide (a<400))) then Option.bind (idx e0.l c) λf=>
 Option.bind (d f) λg=>
 (f24s_l1 d e0 e n (IntKind.i64.wrap (a+g)) (IntKind.i64.wrap (c+1))) else(e a))
def f24s(a:ap→Option (Int))(e0:ap):Option Int:=
 an (λ(c:Int)=>
 some c) λd=>
 (f24s_l1 a e0 d 9223372036854775808 1 0)
def f24:Nat→ap→Option (Int)
 |0=>λ_=>none
 |n+1=>f24s (f24 n)
mutual
def pY:ap→Nat
 | .mk _ _ _ _ _ _ _ _ l=>depL l+1
def depL:List ap→Nat
 |[]=>0
 |e::l=>max (pY e) (depL l)
end
def f24w(x0:ap):Option Int:=f24 (pY x0) x0
def f8_l1(t0:af)(c:Int→oB):Nat→Int→Int→oB
 |0,_,_=>none
 |n+1,d,a=>
 (bif (decide (a<(List.length t0.selects:Int))) then Option.bind (idx t0.selects a) λe=>
 (f8_l1 t0 c n (IntKind.i64.wrap (d+(List.length e.alts:Int))) (IntKind.i64.wrap (a+1))) else(c d))
def f8_l2(t0:af)(c:Int→oB):Nat→Int→Int→oB
 |0,_,_=>none
 |n+1,d,a=>
 (bif (decide (a<(List.length t0.lists:Int))) then Option.bind (idx t0.lists a) λe=>
 (f8_l2 t0 c n (IntKind.i64.wrap (d+(List.length e:Int))) (IntKind.i64.wrap (a+1))) else(c d))
def f8_l3(t0:af)(d:Int→oB):Nat→Int→Int→oB
 |0,_,_=>none
 |n+1,e,a=>
 (bif (decide (a<(List.length t0.objs:Int))) then Option.bind (idx t0.objs a) λf=>
 Option.bind (idx t0.objs a) λc=>
 (f8_l3 t0 d n (IntKind.i64.wrap ((IntKind.i64.wrap (e+(List.length f.set_:Int)))+(if(IntKind.i64.wrap (Int.tdiv (if 40000<c.size then 40000 else c.size) 20))>0 then(IntKind.i64.wrap (Int.tdiv (if 40000<c.size then 40000 else c.size) 20)) else 0))) (IntKind.i64.wrap (a+1))) else(d e))
def f8_l5(t0:af)(c:Int)(d:Int→oB):Nat→Int→Int→oB
 |0,_,_=>none
 |na+1,e,a=>
 Option.bind (idx t0.tasks c) λf=>
 (bif ((decide (a<(List.length f.entries:Int)))&&(decide (a<100))) then Option.bind (idx t0.tasks c) λg=>
 Option.bind (idx g.entries a) λh=>
 Option.bind (idx t0.tasks c) λj=>
 Option.bind (idx j.entries a) λk=>
 (f8_l5 t0 c d na (IntKind.i64.wrap ((IntKind.i64.wrap ((IntKind.i64.wrap (e+(List.length h.ins:Int)))+(List.length k.outs:Int)))+1)) (IntKind.i64.wrap (a+1))) else(d e))
def f8_l4(t0:af)(d:Int→oB):Nat→Int→Int→oB
 |0,_,_=>none
 |n+1,c,a=>
 (bif ((decide (a<(List.length t0.tasks:Int)))&&(decide (c≤3000))) then an (λ(e:Int)=>
 (f8_l4 t0 d n e (IntKind.i64.wrap (a+1)))) λf=>
 an (λ(g:Int)=>
 Option.bind (idx t0.tasks a) λh=>
 (f (IntKind.i64.wrap (g+(List.length h.entries:Int))))) λj=>
 (f8_l5 t0 a j 9223372036854775808 c 0) else(d c))
def f8_l7(t0:af)(c:Int)(e:Int→oB):Nat→Int→Int→oB
 |0,_,_=>none
 |na+1,d,a=>
 Option.bind (idx t0.prots c) λf=>
 (bif (((decide (a<(List.length f.barriers:Int)))&&(decide (a<100)))&&(decide (d≤3000))) then Option.bind (idx t0.prots c) λg=>
 Option.bind (idx g.barriers a) λh=>
 Option.bind (f24w h) λj=>
 (f8_l7 t0 c e na (IntKind.i64.wrap (d+j)) (IntKind.i64.wrap (a+1))) else(e d))
def f8_l6(t0:af)(d:Int→oB):Nat→Int→Int→oB
 |0,_,_=>none
 |n+1,c,a=>
 (bif ((decide (a<(List.length t0.prots:Int)))&&(decide (c≤3000))) then an (λ(e:Int)=>
 (f8_l6 t0 d n e (IntKind.i64.wrap (a+1)))) λf=>
 Option.bind (idx t0.prots a) λg=>
 (f8_l7 t0 a f 9223372036854775808 (IntKind.i64.wrap (c+(List.length g.barriers:Int))) 0) else(d c))
def f8(t0:af):oB:=
 (bif (decide ((IntKind.i64.wrap ((IntKind.i64.wrap ((IntKind.i64.wrap ((IntKind.i64.wrap ((IntKind.i64.wrap ((IntKind.i64.wrap ((IntKind.i64.wrap ((IntKind.i64.wrap ((IntKind.i64.wrap ((List.length t0.insns:Int)+(List.length t0.handlers:Int)))+(List.length t0.loops:Int)))+(List.length t0.selects:Int)))+(List.length t0.lists:Int)))+(List.length t0.objs:Int)))+(List.length t0.inits:Int)))+(List.length t0.tasks:Int)))+(List.length t0.prots:Int)))+(List.length t0.checks:Int)))>500)) then some true else an (λ(a:Int)=>
 an (λ(c:Int)=>
 an (λ(d:Int)=>
 an (λ(e:Int)=>
 an (λ(f:Int)=>
 some (decide (f>3000))) λg=>
 (f8_l6 t0 g 9223372036854775808 e 0)) λh=>
 (f8_l4 t0 h 9223372036854775808 d 0)) λj=>
 (f8_l3 t0 j 9223372036854775808 c 0)) λk=>
 (f8_l2 t0 k 9223372036854775808 a 0)) λm=>
 (f8_l1 t0 m 9223372036854775808 (IntKind.i64.wrap ((IntKind.i64.wrap ((IntKind.i64.wrap ((IntKind.i64.wrap ((IntKind.i64.wrap ((IntKind.i64.wrap ((IntKind.i64.wrap ((IntKind.i64.wrap ((IntKind.i64.wrap ((List.length t0.insns:Int)+(List.length t0.handlers:Int)))+(List.length t0.loops:Int)))+(List.length t0.selects:Int)))+(List.length t0.lists:Int)))+(List.length t0.objs:Int)))+(List.length t0.inits:Int)))+(List.length t0.tasks:Int)))+(List.length t0.prots:Int)))+(List.length t0.checks:Int))) 0))
def f46_l1(o0:Obj)(v1:Int)(c:Unit→oB):Nat→Int→oB
 |0,_=>none
 |n+1,a=>
 (bif (decide (a<(List.length o0.set_:Int))) then Option.bind (idx o0.set_ a) λd=>
 (bif (decide (v1=(IntKind.i64.wrap (d+1)))) then some true else(f46_l1 o0 v1 c n (IntKind.i64.wrap (a+1)))) else(c ()))
def f46(o0:Obj)(v1:Int):oB:=
 (bif (!o0.ptr) then some ((decide (v1≥o0.lo))&&(decide (v1≤o0.hi))) else an (λ(_:Unit)=>
 some (decide (v1=0))) λa=>
 (f46_l1 o0 v1 a 9223372036854775808 0))
def f103_l1(t0:af)(o1:Obj)(d:Unit→oB):Nat→Int→oB
 |0,_=>none
 |n+1,a=>
 (bif (decide (a<(List.length o1.set_:Int))) then Option.bind (idx o1.set_ a) λc=>
 Option.bind (bif ((decide (c<0))||(decide (c≥(List.length t0.objs:Int)))) then some true else(Option.bind (idx t0.objs c) λe=>some (!decide (e.size=1)))) λf=>
 Option.bind (bif f then some true else(Option.bind (idx t0.objs c) λg=>some g.ptr)) λh=>
 Option.bind (bif h then some true else(Option.bind (bif (decide (a>0)) then(Option.bind (idx o1.set_ (IntKind.i64.wrap (a - 1))) λj=>some (decide (j≥c))) else some false) λk=>some k)) λm=>
 (bif m then some false else(f103_l1 t0 o1 d n (IntKind.i64.wrap (a+1)))) else(d ()))
def f103(t0:af)(o1:Obj):oB:=
 (bif (((((decide (o1.size<1))||(decide (o1.size>16384)))||(decide (o1.lo>o1.hi)))||((!o1.ptr)&&(decide ((List.length o1.set_:Int)>0))))||(o1.ptr&&((!decide (o1.lo=0))||(!decide (o1.hi=0))))) then some false else an (λ(_:Unit)=>
 some true) λa=>
 (f103_l1 t0 o1 a 9223372036854775808 0))
def f104(t0:af)(o1:Int)(a:Int)(c:Int):oB:=
 Option.bind (bif ((((decide (o1≥0))&&(decide (o1<(List.length t0.objs:Int))))&&(decide (a≥0)))&&(decide (c≥0))) then(Option.bind (idx t0.objs o1) λd=>some (decide (a≤(IntKind.i64.wrap (d.size - c))))) else some false) λe=>
 some e
def f38_l1(t0:af)(c:Int→oB):Nat→Int→Int→oB
 |0,_,_=>none
 |n+1,d,a=>
 (bif (decide (a<(List.length t0.objs:Int))) then Option.bind (idx t0.objs a) λe=>
 Option.bind (f103 t0 e) λf=>
 (bif (!f) then some false else Option.bind (idx t0.objs a) λg=>
 (f38_l1 t0 c n (IntKind.i64.wrap (d+g.size)) (IntKind.i64.wrap (a+1)))) else(c d))
def f38_l3(t0:af)(d:Int)(e:Int→Int→Int→oB)(a:dM):Nat→Int→oB
 |0,_=>none
 |na+1,c=>
 (bif (decide (c<d)) then Option.bind (idx t0.inits c) λf=>
 Option.bind (bif (decide (f.o=a.o)) then(Option.bind (idx t0.inits c) λg=>some (decide (g.slot=a.slot))) else some false) λh=>
 (bif h then some false else(f38_l3 t0 d e a na (IntKind.i64.wrap (c+1)))) else(e a.o a.slot a.v))
def f38_l2(t0:af)(d:Unit→oB):Nat→Int→oB
 |0,_=>none
 |n+1,c=>
 (bif (decide (c<(List.length t0.inits:Int))) then an (λ(c00v126:Int)(c01v127:Int)(c02v128:Int)=>
 (f38_l2 t0 d n (IntKind.i64.wrap (c+1)))) λe=>
 Option.bind (idx t0.inits c) λa=>
 Option.bind (f104 t0 a.o a.slot 1) λf=>
 Option.bind (bif (!f) then some true else(Option.bind (idx t0.objs a.o) λg=>Option.bind (f46 g a.v) λh=>some (!h))) λj=>
 (bif j then some false else(f38_l3 t0 c e a 9223372036854775808 0)) else(d ()))
def f38(t0:af):oB:=
 (bif ((((decide ((List.length t0.objs:Int)>4096))||(decide (t0.excs<4)))||(decide (t0.excs>64)))||(decide ((List.length t0.inits:Int)>65536))) then some false else an (λ(a:Int)=>
 an (λ(_:Unit)=>
 some (decide (a≤65536))) λc=>
 (f38_l2 t0 c 9223372036854775808 0)) λd=>
 (f38_l1 t0 d 9223372036854775808 0 0))
def f51(t0:af)(a1:Int):Bool:=
 ((decide (a1≥0))&&(decide (a1<(List.length t0.insns:Int))))
def f105_l1(t0:af)(l1:lI)(c:Unit→oB):Nat→Int→oB
 |0,_=>none
 |n+1,a=>
 (bif (decide (a<(List.length l1:Int))) then Option.bind (idx l1 a) λd=>
 Option.bind (bif (decide (d<0)) then some true else(Option.bind (idx l1 a) λe=>some (decide (e≥(List.length t0.objs:Int))))) λf=>
 Option.bind (bif f then some true else(Option.bind (idx l1 a) λg=>Option.bind (idx t0.objs g) λh=>some (!decide (h.size=1)))) λj=>
 (bif j then some false else(f105_l1 t0 l1 c n (IntKind.i64.wrap (a+1)))) else(c ()))
def f105(t0:af)(l1:lI):oB:=
 (bif (decide ((List.length l1:Int)>8)) then some false else an (λ(_:Unit)=>
 some true) λa=>
 (f105_l1 t0 l1 a 9223372036854775808 0))
def f39_l2(t0:af)(d:Int→Int→(List bq)→Int→oB)(a:bX):Nat→Int→oB
 |0,_=>none
 |na+1,c=>
 (bif (decide (c<(List.length a.entries:Int))) then Option.bind (idx a.entries c) λe=>
 Option.bind (f105 t0 e.ins) λf=>
 Option.bind (bif (!f) then some true else(Option.bind (idx a.entries c) λg=>Option.bind (f105 t0 g.outs) λh=>some (!h))) λj=>
 (bif j then some false else(f39_l2 t0 d a na (IntKind.i64.wrap (c+1)))) else(d a.prio a.at_ a.entries a.deadline))
def f39_l1(t0:af)(d:Unit→oB):Nat→Int→oB
 |0,_=>none
 |n+1,c=>
 (bif (decide (c<(List.length t0.tasks:Int))) then an (λ(c00v92:Int)(c01v93:Int)(c02v94:List bq)(c03v95:Int)=>
 (f39_l1 t0 d n (IntKind.i64.wrap (c+1)))) λe=>
 Option.bind (idx t0.tasks c) λa=>
 (bif ((((((decide (a.prio<0))||(decide (a.prio>31)))||(!(f51 t0 a.at_)))||(decide (a.deadline<0)))||(decide (a.deadline>2147483647)))||(decide ((List.length a.entries:Int)>8))) then some false else(f39_l2 t0 e a 9223372036854775808 0)) else(d ()))
def f39(t0:af):oB:=
 (bif ((decide ((List.length t0.tasks:Int)<1))||(decide ((List.length t0.tasks:Int)>32))) then some false else an (λ(_:Unit)=>
 some true) λa=>
 (f39_l1 t0 a 9223372036854775808 0))
def f21(t0:af)(a1:Int):oB:=
 Option.bind (bif (f51 t0 a1) then(Option.bind (idx t0.insns a1) λa=>Option.bind (bif (decide (a.op=27)) then some true else(Option.bind (idx t0.insns a1) λc=>some (decide (c.op=28)))) λd=>some d) else some false) λe=>
 some e
def f106s_l1(d:af→Int→ap→Int→Int→Option (Int))(t0:af)(e:Int)(e2:ap)(f:Int)(g:Int→Option (Int)):Nat→Int→Int→Option (Int)
 |0,_,_=>none
 |n+1,a,c=>
 (bif ((decide (c<(List.length e2.l:Int)))&&(decide (a≥0))) then Option.bind (idx e2.l c) λh=>
 Option.bind (d t0 e h (IntKind.i64.wrap (f+1)) a) λj=>
 (f106s_l1 d t0 e e2 f g n j (IntKind.i64.wrap (c+1))) else(g a))
def f106s(f:af→Int→ap→Int→Int→Option (Int))(t0:af)(c:Int)(e2:ap)(d:Int)(n4:Int):Option Int:=
 (bif ((decide (n4=0))||(decide (d>64))) then some (-1) else an (λ(g:Int)(h:Bool)(c01v176:Int)(c02v177:Int)(c03v178:Int)(c04v179:Int)=>
 (bif (((!h)||(!(((((((decide (e2.op=c01v176))&&(decide (e2.n=c02v177)))&&(decide (e2.o=c03v178)))&&(decide (e2.off=c04v179)))&&(decide (e2.len=0)))&&(decide (e2.lo=0)))&&(decide (e2.hi=0)))))||(!decide ((List.length e2.l:Int)=g))) then some (-1) else an (λ(j:Int)=>
 some j) λk=>
 (f106s_l1 f t0 c e2 d k 9223372036854775808 (IntKind.i64.wrap (n4 - 1)) 0))) λa=>
 (bif (decide (e2.kind=1)) then(a 0 true 0 e2.n 0 0) else(bif (decide (e2.kind=2)) then Option.bind (f104 t0 e2.o e2.off 1) λm=>
 Option.bind (bif m then(Option.bind (idx t0.objs e2.o) λp=>some (!p.ptr)) else some false) λr=>
 (a 0 r 0 0 e2.o e2.off) else(bif (decide (e2.kind=14)) then(a 0 ((decide (e2.n≥0))&&(decide (e2.n<c))) 0 e2.n 0 0) else(bif (decide (e2.kind=4)) then(a 1 true 18 0 0 0) else(bif (decide (e2.kind=5)) then(a 2 ((decide (e2.op≥7))&&(decide (e2.op≤15))) e2.op 0 0 0) else an (λ(t:Bool)=>
 (bif t then(a 2 true 0 0 0 0) else some (-1))) λe=>
 (bif (decide (e2.kind=6)) then(e (decide (e2.kind=6))) else(e (decide (e2.kind=7))))))))))
def f106:Nat→af→Int→ap→Int→Int→Option (Int)
 |0=>λ_ _ _ _ _=>none
 |n+1=>f106s (f106 n)
def f40_l2(t0:af)(d:Int→(List ap)→oB)(a:d7):Nat→Int→oB
 |0,_=>none
 |na+1,c=>
 (bif (decide (c<(List.length a.barriers:Int))) then Option.bind (idx a.barriers c) λe=>
 Option.bind (f106 67 t0 (List.length a.barriers:Int) e 1 256) λf=>
 (bif (decide (f<0)) then some false else(f40_l2 t0 d a na (IntKind.i64.wrap (c+1)))) else(d a.ceiling a.barriers))
def f40_l1(t0:af)(d:Unit→oB):Nat→Int→oB
 |0,_=>none
 |n+1,c=>
 (bif (decide (c<(List.length t0.prots:Int))) then an (λ(c00v105:Int)(c01v106:List ap)=>
 (f40_l1 t0 d n (IntKind.i64.wrap (c+1)))) λe=>
 Option.bind (idx t0.prots c) λa=>
 (bif (((decide (a.ceiling<0))||(decide (a.ceiling>31)))||(decide ((List.length a.barriers:Int)>8))) then some false else(f40_l2 t0 e a 9223372036854775808 0)) else(d ()))
def f40_l3(t0:af)(d:Unit→oB):Nat→Int→oB
 |0,_=>none
 |n+1,a=>
 (bif (decide (a<(List.length t0.checks:Int))) then Option.bind (idx t0.checks a) λc=>
 Option.bind (f21 t0 c.at_) λe=>
 Option.bind (bif (!e) then some true else(Option.bind (bif (decide (a>0)) then(Option.bind (idx t0.checks (IntKind.i64.wrap (a - 1))) λf=>some (decide (f.at_≥c.at_))) else some false) λg=>some g)) λh=>
 (bif ((h||(decide (c.kind<1)))||(decide (c.kind>5))) then some false else(f40_l3 t0 d n (IntKind.i64.wrap (a+1)))) else(d ()))
def f40(t0:af):oB:=
 (bif (decide ((List.length t0.prots:Int)>32)) then some false else an (λ(_:Unit)=>
 an (λ(_:Unit)=>
 some true) λa=>
 (f40_l3 t0 a 9223372036854775808 0)) λc=>
 (f40_l1 t0 c 9223372036854775808 0))
def f107(t0:af)(a:Int)(a2:cD):oB:=
 Option.bind (bif (!(f51 t0 a2.at_)) then some true else(Option.bind (bif (!decide (a2.guard=(-1))) then(Option.bind (f104 t0 a a2.guard 1) λd=>some (!d)) else some false) λe=>some e)) λf=>
 (bif f then some false else(bif (decide (a2.kind=1)) then some (((decide (a2.entry≥0))&&(decide (a2.entry≤7)))&&(decide (a2.time=0))) else an (λ(g:Bool)=>
 (bif g then Option.bind (bif (decide (a2.entry=0)) then(Option.bind (f104 t0 a a2.time 1) λh=>some h) else some false) λj=>
 some j else some (((decide (a2.kind=4))&&(decide (a2.entry=0)))&&(decide (a2.time=0))))) λc=>
 (bif (decide (a2.kind=2)) then(c (decide (a2.kind=2))) else(c (decide (a2.kind=3))))))
def f41_l2(t0:af)(d:(List cD)→Int→Int→oB)(a:aZ):Nat→Int→oB
 |0,_=>none
 |na+1,c=>
 (bif (decide (c<(List.length a.alts:Int))) then Option.bind (idx a.alts c) λe=>
 Option.bind (f107 t0 a.obj e) λf=>
 (bif (!f) then some false else(f41_l2 t0 d a na (IntKind.i64.wrap (c+1)))) else(d a.alts a.obj a.else_))
def f41_l1(t0:af)(d:Unit→oB):Nat→Int→oB
 |0,_=>none
 |n+1,c=>
 (bif (decide (c<(List.length t0.selects:Int))) then an (λ(c00v134:List cD)(c01v135:Int)(c02v136:Int)=>
 (f41_l1 t0 d n (IntKind.i64.wrap (c+1)))) λe=>
 Option.bind (idx t0.selects c) λa=>
 Option.bind (bif ((decide ((List.length a.alts:Int)<1))||(decide ((List.length a.alts:Int)>16))) then some true else(Option.bind (f104 t0 a.obj 0 1) λf=>some (!f))) λg=>
 (bif (g||((!decide (a.else_=(-1)))&&(!(f51 t0 a.else_)))) then some false else(f41_l2 t0 e a 9223372036854775808 0)) else(d ()))
def f41_l5(a:lI)(c:Int)(e:Unit→oB):Nat→Int→oB
 |0,_=>none
 |nb+1,d=>
 (bif (decide (d<c)) then Option.bind (idx a d) λf=>
 Option.bind (idx a c) λg=>
 (bif (decide (f=g)) then some false else(f41_l5 a c e nb (IntKind.i64.wrap (d+1)))) else(e ()))
def f41_l4(t0:af)(d:Unit→oB)(a:lI):Nat→Int→oB
 |0,_=>none
 |na+1,c=>
 (bif (decide (c<(List.length a:Int))) then an (λ(_:Unit)=>
 (f41_l4 t0 d a na (IntKind.i64.wrap (c+1)))) λe=>
 Option.bind (idx a c) λf=>
 Option.bind (bif (decide (f<1)) then some true else(Option.bind (idx a c) λg=>some (decide (g≥(List.length t0.tasks:Int))))) λh=>
 (bif h then some false else(f41_l5 a c e 9223372036854775808 0)) else(d ()))
def f41_l3(t0:af)(c:Unit→oB):Nat→Int→oB
 |0,_=>none
 |n+1,a=>
 (bif (decide (a<(List.length t0.lists:Int))) then an (λ(_:Unit)=>
 (f41_l3 t0 c n (IntKind.i64.wrap (a+1)))) λe=>
 Option.bind (idx t0.lists a) λd=>
 (bif (decide ((List.length d:Int)>32)) then some false else(f41_l4 t0 e d 9223372036854775808 0)) else(c ()))
def f41(t0:af):oB:=
 (bif ((decide ((List.length t0.selects:Int)>1024))||(decide ((List.length t0.lists:Int)>4096))) then some false else an (λ(_:Unit)=>
 an (λ(_:Unit)=>
 some true) λa=>
 (f41_l3 t0 a 9223372036854775808 0)) λc=>
 (f41_l1 t0 c 9223372036854775808 0))
def f42_l2(t0:af)(e:Int)(f:Int→Int→Int→Bool→oB)(a:aD):Nat→Int→oB
 |0,_=>none
 |na+1,d=>
 (bif (decide (d<e)) then Option.bind (idx t0.handlers d) λc=>
 (bif ((!((decide (c.from_≥a.from_))&&(decide (c.to≤a.to))))&&(!((decide (c.to≤a.from_))||(decide (a.to≤c.from_))))) then some false else(f42_l2 t0 e f a na (IntKind.i64.wrap (d+1)))) else(f a.from_ a.to a.at_ a.clean))
def f42_l1(t0:af)(d:Unit→oB):Nat→Int→oB
 |0,_=>none
 |n+1,c=>
 (bif (decide (c<(List.length t0.handlers:Int))) then an (λ(c00v110:Int)(c01v111:Int)(c02v112:Int)(c03v113:Bool)=>
 (f42_l1 t0 d n (IntKind.i64.wrap (c+1)))) λe=>
 Option.bind (idx t0.handlers c) λa=>
 (bif (((((decide (a.from_<0))||(decide (a.from_≥a.to)))||(decide (a.to>(List.length t0.insns:Int))))||(!(f51 t0 a.at_)))||((decide (a.at_≥a.from_))&&(decide (a.at_<a.to)))) then some false else(f42_l2 t0 c e a 9223372036854775808 0)) else(d ()))
def f42(t0:af):oB:=
 (bif (decide ((List.length t0.handlers:Int)>4096)) then some false else an (λ(_:Unit)=>
 some true) λa=>
 (f42_l1 t0 a 9223372036854775808 0))
def f43_l2(t0:af)(g:Int)(n:Nat)(h:Int→Int→Int→Int→Int→Int→Int→Int→Int→Int→oB)(e:Loop)(c:aE):Nat→Int→oB
 |0,_=>none
 |na+1,f=>
 (bif (decide (f<g)) then Option.bind (idx t0.loops f) λj=>
 (bif (decide (j.back=e.back)) then some false else(f43_l2 t0 g n h e c na (IntKind.i64.wrap (f+1)))) else(h e.head e.back e.bound c.op c.d c.a c.b c.n c.m c.to))
def f43_l1(t0:af)(e:Unit→oB):Nat→Int→oB
 |0,_=>none
 |n+1,d=>
 (bif (decide (d<(List.length t0.loops:Int))) then an (λ(c00v98:Int)(c01v99:Int)(c02v100:Int)(c10v101:Int)(c11v102:Int)(c12v103:Int)(c13v104:Int)(c14v105:Int)(c15v106:Int)(c16v107:Int)=>
 (f43_l1 t0 e n (IntKind.i64.wrap (d+1)))) λf=>
 Option.bind (idx t0.loops d) λa=>
 (bif (((((!(f51 t0 a.head))||(!(f51 t0 a.back)))||(decide (a.head>a.back)))||(decide (a.bound<0)))||(decide (a.bound>2147483647))) then some false else Option.bind (idx t0.insns a.back) λc=>
 (bif ((((!decide (c.op=29))&&(!decide (c.op=30)))&&(!decide (c.op=31)))||(!decide (c.to=a.head))) then some false else(f43_l2 t0 d n f a c 9223372036854775808 0))) else(e ()))
def f43(t0:af):oB:=
 (bif (decide ((List.length t0.loops:Int)>4096)) then some false else an (λ(_:Unit)=>
 some true) λa=>
 (f43_l1 t0 a 9223372036854775808 0))
def f190:List Row:=
 [(Row.mk 1 (bA #[108,105]) [fD 68 0 15,fD 78 (-9223372036854775808) 9223372036854775807]),(Row.mk 2 (bA #[109,118]) [fD 68 0 15,fD 65 0 15]),(Row.mk 3 (bA #[108,100]) [fD 68 0 15,fD 78 0 4095,fD 77 0 65535]),(Row.mk 4 (bA #[115,116]) [fD 65 0 15,fD 78 0 4095,fD 77 0 65535]),(Row.mk 5 (bA #[108,100,120]) [fD 68 0 15,fD 65 0 15,fD 66 1 65536,fD 78 0 4095,fD 77 0 65535]),(Row.mk 6 (bA #[115,116,120]) [fD 68 0 15,fD 65 0 15,fD 66 1 65536,fD 78 0 4095,fD 77 0 65535]),(Row.mk 7 (bA #[108,100,97]) [fD 68 0 15,fD 65 0 15]),(Row.mk 8 (bA #[115,116,97]) [fD 68 0 15,fD 65 0 15]),(Row.mk 9 (bA #[97,100,100]) [fD 68 0 15,fD 65 0 15,fD 66 0 15]),(Row.mk 10 (bA #[115,117,98]) [fD 68 0 15,fD 65 0 15,fD 66 0 15]),(Row.mk 11 (bA #[109,117,108]) [fD 68 0 15,fD 65 0 15,fD 66 0 15]),(Row.mk 12 (bA #[100,105,118]) [fD 68 0 15,fD 65 0 15,fD 66 0 15]),(Row.mk 13 (bA #[114,101,109]) [fD 68 0 15,fD 65 0 15,fD 66 0 15]),(Row.mk 14 (bA #[109,111,100]) [fD 68 0 15,fD 65 0 15,fD 66 0 15]),(Row.mk 15 (bA #[101,113]) [fD 68 0 15,fD 65 0 15,fD 66 0 15]),(Row.mk 16 (bA #[110,101]) [fD 68 0 15,fD 65 0 15,fD 66 0 15]),(Row.mk 17 (bA #[108,116]) [fD 68 0 15,fD 65 0 15,fD 66 0 15]),(Row.mk 18 (bA #[108,101]) [fD 68 0 15,fD 65 0 15,fD 66 0 15]),(Row.mk 19 (bA #[103,116]) [fD 68 0 15,fD 65 0 15,fD 66 0 15]),(Row.mk 20 (bA #[103,101]) [fD 68 0 15,fD 65 0 15,fD 66 0 15]),(Row.mk 21 (bA #[97,110,100]) [fD 68 0 15,fD 65 0 15,fD 66 0 15]),(Row.mk 22 (bA #[111,114]) [fD 68 0 15,fD 65 0 15,fD 66 0 15]),(Row.mk 23 (bA #[120,111,114]) [fD 68 0 15,fD 65 0 15,fD 66 0 15]),(Row.mk 24 (bA #[110,101,103]) [fD 68 0 15,fD 65 0 15]),(Row.mk 25 (bA #[97,98,115]) [fD 68 0 15,fD 65 0 15]),(Row.mk 26 (bA #[110,111,116]) [fD 68 0 15,fD 65 0 15]),(Row.mk 27 (bA #[99,104,107]) [fD 65 0 15,fD 78 (-9223372036854775808) 9223372036854775807,fD 77 (-9223372036854775808) 9223372036854775807]),(Row.mk 28 (bA #[99,104,107,122]) [fD 65 0 15]),(Row.mk 29 (bA #[106,109,112]) [fD 84 0 65535]),(Row.mk 30 (bA #[106,122]) [fD 65 0 15,fD 84 0 65535]),(Row.mk 31 (bA #[106,110,122]) [fD 65 0 15,fD 84 0 65535]),(Row.mk 32 (bA #[106,116]) [fD 65 0 15,fD 78 (-9223372036854775808) 9223372036854775807,fD 77 1 65536,fD 84 0 65535]),(Row.mk 33 (bA #[114,97,105,115,101]) [fD 78 1 64]),(Row.mk 34 (bA #[114,97,105,115,101,114]) [fD 65 0 15]),(Row.mk 35 (bA #[99,111,110,116]) [fD 65 0 15]),(Row.mk 36 (bA #[101,120,99]) [fD 68 0 15]),(Row.mk 37 (bA #[109,97,114,107]) [fD 78 6 7,fD 77 0 65535]),(Row.mk 38 (bA #[103,101,116]) [fD 68 0 15]),(Row.mk 39 (bA #[112,117,116]) [fD 65 0 15]),(Row.mk 40 (bA #[100,101,102,101,114]) []),(Row.mk 41 (bA #[97,108,108,111,119]) []),(Row.mk 42 (bA #[99,108,111,99,107]) [fD 68 0 15]),(Row.mk 43 (bA #[99,111,117,110,116]) [fD 68 0 15,fD 78 0 7,fD 77 (-1) 31]),(Row.mk 44 (bA #[115,116,97,114,116]) [fD 78 0 65535]),(Row.mk 45 (bA #[110,101,118,101,114]) [fD 78 0 65535]),(Row.mk 46 (bA #[97,119,97,105,116]) [fD 65 0 15,fD 78 0 65535]),(Row.mk 47 (bA #[100,101,108,97,121]) [fD 65 0 15]),(Row.mk 48 (bA #[117,110,116,105,108]) [fD 65 0 15]),(Row.mk 49 (bA #[99,97,108,108]) [fD 68 0 15,fD 65 0 31,fD 66 0 7,fD 78 0 4095,fD 77 0 3]),(Row.mk 50 (bA #[115,101,108]) [fD 78 0 1023]),(Row.mk 51 (bA #[100,111,110,101]) [fD 78 0 1]),(Row.mk 52 (bA #[114,101,113]) [fD 65 0 31,fD 66 0 7,fD 78 0 1,fD 84 0 65535]),(Row.mk 53 (bA #[108,111,99,107]) [fD 78 0 31]),(Row.mk 54 (bA #[112,101,110,116]) [fD 68 0 15,fD 65 0 15,fD 66 0 3,fD 78 0 31,fD 77 0 7]),(Row.mk 55 (bA #[117,110,108,111,99,107]) [fD 78 0 31]),(Row.mk 56 (bA #[97,98,111,114,116]) [fD 78 0 65535]),(Row.mk 57 (bA #[101,110,100]) [])]
def f160_l1(o0:Int)(c:Unit→Option (Row×Bool)):Nat→Int→Option (Row×Bool)
 |0,_=>none
 |n+1,a=>
 (bif (decide (a<(List.length f190:Int))) then Option.bind (idx f190 a) λd=>
 (bif (decide (d.op=o0)) then Option.bind (idx f190 a) λe=>
 some (e,true) else(f160_l1 o0 c n (IntKind.i64.wrap (a+1)))) else(c ()))
def f160(o0:Int):Option (Row×Bool):=
 an (λ(_:Unit)=>
 some ((Row.mk 0 ByteArray.empty []),false)) λa=>
 (f160_l1 o0 a 9223372036854775808 0)
def f161(x0:aE)(f1:Int):Int:=
 (bif (decide (f1=68)) then x0.d else(bif (decide (f1=65)) then x0.a else(bif (decide (f1=66)) then x0.b else(bif (decide (f1=78)) then x0.n else(bif (decide (f1=77)) then x0.m else x0.to)))))
def f162(x0:aE)(f1:Int)(v2:Int):aE:=
 an (λ(c01v35:Int)(c02v36:Int)(c03v37:Int)(c04v38:Int)(c05v39:Int)(c06v40:Int)=>
 (aE.mk x0.op c01v35 c02v36 c03v37 c04v38 c05v39 c06v40)) λc=>
 (bif (decide (f1=68)) then(c v2 x0.a x0.b x0.n x0.m x0.to) else(bif (decide (f1=65)) then(c x0.d v2 x0.b x0.n x0.m x0.to) else(bif (decide (f1=66)) then(c x0.d x0.a v2 x0.n x0.m x0.to) else(bif (decide (f1=78)) then(c x0.d x0.a x0.b v2 x0.m x0.to) else(bif (decide (f1=77)) then(c x0.d x0.a x0.b x0.n v2 x0.to) else(c x0.d x0.a x0.b x0.n x0.m v2))))))
def f108_l1(x0:aE)(e:Row×Bool)(g:Int→Int→Int→Int→Int→Int→Int→oB):Nat→Int→Int→Int→Int→Int→Int→Int→Int→oB
 |0,_,_,_,_,_,_,_,_=>none
 |n+1,f,c10v99,c11v100,c12v101,c13v102,c14v103,c15v104,c16v105=>
 (bif (decide (f<(List.length e.1.fields:Int))) then Option.bind (idx e.1.fields f) λc=>
 (bif ((decide ((f161 x0 c.name)<c.lo))||(decide ((f161 x0 c.name)>c.hi))) then some false else(f108_l1 x0 e g n (IntKind.i64.wrap (f+1)) ((f162 (aE.mk c10v99 c11v100 c12v101 c13v102 c14v103 c15v104 c16v105) c.name 0).op) ((f162 (aE.mk c10v99 c11v100 c12v101 c13v102 c14v103 c15v104 c16v105) c.name 0).d) ((f162 (aE.mk c10v99 c11v100 c12v101 c13v102 c14v103 c15v104 c16v105) c.name 0).a) ((f162 (aE.mk c10v99 c11v100 c12v101 c13v102 c14v103 c15v104 c16v105) c.name 0).b) ((f162 (aE.mk c10v99 c11v100 c12v101 c13v102 c14v103 c15v104 c16v105) c.name 0).n) ((f162 (aE.mk c10v99 c11v100 c12v101 c13v102 c14v103 c15v104 c16v105) c.name 0).m) ((f162 (aE.mk c10v99 c11v100 c12v101 c13v102 c14v103 c15v104 c16v105) c.name 0).to))) else(g c10v99 c11v100 c12v101 c13v102 c14v103 c15v104 c16v105))
def f108(x0:aE):oB:=
 Option.bind (f160 x0.op) λc=>
 (bif (!c.2) then some false else an (λ(c10v82:Int)(c11v83:Int)(c12v84:Int)(c13v85:Int)(c14v86:Int)(c15v87:Int)(c16v88:Int)=>
 some (((((decide (c10v82=0))&&((decide (c11v83=0))&&((decide (c12v84=0))&&((decide (c13v85=0))&&((decide (c14v86=0))&&((decide (c15v87=0))&&((decide (c16v88=0))&&true))))))))&&((!decide (x0.op=27))||(decide (x0.n≤x0.m))))&&(((!decide (x0.op=37))||(!decide (x0.n=6)))||(decide (x0.m=0))))) λe=>
 (f108_l1 x0 c e 9223372036854775808 0 0 x0.d x0.a x0.b x0.n x0.m x0.to))
def f109_l1(t0:af)(c:Int)(d:Int)(e:Unit→oB):Nat→Int→oB
 |0,_=>none
 |n+1,a=>
 (bif (decide (a<(IntKind.i64.wrap (c+d)))) then Option.bind (idx t0.insns a) λf=>
 (bif (!decide (f.op=29)) then some false else(f109_l1 t0 c d e n (IntKind.i64.wrap (a+1)))) else(e ()))
def f109(t0:af)(a:Int)(c:Int):oB:=
 (bif (decide ((IntKind.i64.wrap (a+c))>(List.length t0.insns:Int))) then some false else an (λ(_:Unit)=>
 some true) λd=>
 (f109_l1 t0 a c d 9223372036854775808 a))
def f110(t0:af)(a:Int)(n2:Int):Option (bq×Bool):=
 Option.bind (bif (((decide (a<0))||(decide (a≥(List.length t0.tasks:Int))))||(decide (n2<0))) then some true else(Option.bind (idx t0.tasks a) λc=>some (decide (n2≥(List.length c.entries:Int))))) λd=>
 (bif d then some ((bq.mk [] []),false) else Option.bind (idx t0.tasks a) λe=>
 Option.bind (idx e.entries n2) λf=>
 some (f,true))
def f111(t0:af)(p1:Int)(n2:Int):oB:=
 Option.bind (bif (((decide (p1≥0))&&(decide (p1<(List.length t0.prots:Int))))&&(decide (n2≥0))) then(Option.bind (idx t0.prots p1) λa=>some (decide (n2<(List.length a.barriers:Int)))) else some false) λc=>
 some c
def f44(t0:af)(x1:aE):oB:=
 Option.bind (f108 x1) λj=>
 (bif (!j) then some false else an (λ(k:Bool)=>
 (bif k then Option.bind (f104 t0 x1.n x1.m 1) λp=>
 some p else an (λ(r:Bool)=>
 (bif r then Option.bind (f104 t0 x1.n x1.m x1.b) λt=>
 some t else an (λ(w:Bool)=>
 (bif w then some (f51 t0 x1.to) else(bif (decide (x1.op=32)) then Option.bind (f109 t0 x1.to x1.m) λx=>
 some x else(bif (decide (x1.op=33)) then some (decide (x1.n≤t0.excs)) else an (λ(y:Bool)=>
 (bif y then some (decide (x1.n<(List.length t0.lists:Int))) else(bif (decide (x1.op=50)) then some (decide (x1.n<(List.length t0.selects:Int))) else(bif (decide (x1.op=49)) then Option.bind (f110 t0 x1.a x1.b) λd=>
 Option.bind (bif d.2 then(Option.bind (f104 t0 x1.n 0 (IntKind.i64.wrap ((IntKind.i64.wrap ((List.length d.1.ins:Int)+(List.length d.1.outs:Int)))+1))) λA=>some A) else some false) λB=>
 some B else(bif (decide (x1.op=52)) then Option.bind (f110 t0 x1.a x1.b) λC=>
 some (C.2&&(f51 t0 x1.to)) else an (λ(E:Bool)=>
 (bif E then some (decide (x1.n<(List.length t0.prots:Int))) else(bif (decide (x1.op=54)) then Option.bind (f111 t0 x1.n x1.m) λF=>
 some F else(bif (decide (x1.op=43)) then Option.bind (bif (decide (x1.m=(-1))) then some true else(Option.bind (f111 t0 x1.m x1.n) λG=>some G)) λH=>
 some H else some true)))) λf=>
 (bif (decide (x1.op=53)) then(f (decide (x1.op=53))) else(f (decide (x1.op=55))))))))) λc=>
 (bif (decide (x1.op=44)) then(c (decide (x1.op=44))) else(bif (decide (x1.op=45)) then(c (decide (x1.op=45))) else(bif (decide (x1.op=46)) then(c (decide (x1.op=46))) else(c (decide (x1.op=56)))))))))) λe=>
 (bif (decide (x1.op=29)) then(e (decide (x1.op=29))) else(bif (decide (x1.op=30)) then(e (decide (x1.op=30))) else(e (decide (x1.op=31))))))) λg=>
 (bif (decide (x1.op=5)) then(g (decide (x1.op=5))) else(g (decide (x1.op=6)))))) λh=>
 (bif (decide (x1.op=3)) then(h (decide (x1.op=3))) else(h (decide (x1.op=4)))))
def f11_l1(t0:af)(c:Unit→oB):Nat→Int→oB
 |0,_=>none
 |n+1,a=>
 (bif (decide (a<(List.length t0.insns:Int))) then Option.bind (idx t0.insns a) λd=>
 Option.bind (f44 t0 d) λe=>
 (bif (!e) then some false else(f11_l1 t0 c n (IntKind.i64.wrap (a+1)))) else(c ()))
def f11(t0:af):oB:=
 Option.bind (bif ((decide ((List.length t0.insns:Int)<1))||(decide ((List.length t0.insns:Int)>65536))) then some true else(Option.bind (f38 t0) λc=>some (!c))) λd=>
 Option.bind (bif d then some true else(Option.bind (f39 t0) λe=>some (!e))) λf=>
 Option.bind (bif f then some true else(Option.bind (f40 t0) λg=>some (!g))) λh=>
 Option.bind (bif h then some true else(Option.bind (f41 t0) λj=>some (!j))) λk=>
 Option.bind (bif k then some true else(Option.bind (f42 t0) λm=>some (!m))) λp=>
 Option.bind (bif p then some true else(Option.bind (f43 t0) λr=>some (!r))) λt=>
 (bif t then some false else an (λ(_:Unit)=>
 Option.bind (idx t0.insns (IntKind.i64.wrap ((List.length t0.insns:Int) - 1))) λa=>
 some ((((decide (a.op=29))||(decide (a.op=33)))||(decide (a.op=34)))||(decide (a.op=57)))) λw=>
 (f11_l1 t0 w 9223372036854775808 0))
def f175_l1(d:lI→Option lI):Nat→Int→Int→lI→Option lI
 |0,_,_,_=>none
 |n+1,a,e,c=>
 (bif (decide (e<8)) then bB (cq 1 c [(IntKind.u8.wrap (Int.tmod a 256))])<|
 (f175_l1 d n (IntKind.u64.wrap (Int.tdiv a 256)) (IntKind.i64.wrap (e+1)) (c++ [(IntKind.u8.wrap (Int.tmod a 256))])) else(d c))
def f175(v0:Int):Option lI:=
 an (λ(a:lI)=>
 some a) λc=>
 (f175_l1 c 9223372036854775808 (IntKind.u64.wrap v0) 0 [])
def f143(l:lI)(v1:Int):Option lI:=
 Option.bind (f175 v1) λa=>
 bB (cq 1 l a)<|
 some (l++a)
def f176_l1(l1:lI):Nat→Int→lI→Option lI
 |0,_,_=>none
 |n+1,a,c=>
 (bif (decide (a<(List.length l1:Int))) then Option.bind (idx l1 a) λd=>
 Option.bind (f143 c d) λe=>
 (f176_l1 l1 n (IntKind.i64.wrap (a+1)) e) else some c)
def f176(l:lI)(l1:lI):Option lI:=
 (f176_l1 l1 9223372036854775808 0 l)
def f177(l:lI)(a:Bool):Option lI:=
 (bif a then Option.bind (f143 l 1) λc=>
 some c else Option.bind (f143 l 0) λd=>
 some d)
def f178(l:lI)(l1:lI):Option lI:=
 Option.bind (f176 l [(List.length l1:Int)]) λa=>
 Option.bind (f176 a l1) λc=>
 some c
def f144_l1(t1:af)(f:lI→Option lI):Nat→Int→lI→Option lI
 |0,_,_=>none
 |n+1,e,g=>
 (bif (decide (e<(List.length t1.insns:Int))) then Option.bind (idx t1.insns e) λc=>
 Option.bind (f176 g [(IntKind.i64.wrap c.op),c.d,c.a,c.b]) λh=>
 Option.bind (f143 h c.n) λj=>
 Option.bind (f143 j c.m) λk=>
 Option.bind (f176 k [c.to]) λp=>
 (f144_l1 t1 f n (IntKind.i64.wrap (e+1)) p) else(f g))
def f144_l2(t1:af)(c:lI→Option lI):Nat→Int→lI→Option lI
 |0,_,_=>none
 |n+1,a,d=>
 (bif (decide (a<(List.length t1.handlers:Int))) then Option.bind (idx t1.handlers a) λe=>
 Option.bind (idx t1.handlers a) λf=>
 Option.bind (idx t1.handlers a) λg=>
 Option.bind (f176 d [e.from_,f.to,g.at_]) λh=>
 Option.bind (idx t1.handlers a) λj=>
 Option.bind (f177 h j.clean) λk=>
 (f144_l2 t1 c n (IntKind.i64.wrap (a+1)) k) else(c d))
def f144_l3(t1:af)(c:lI→Option lI):Nat→Int→lI→Option lI
 |0,_,_=>none
 |n+1,a,d=>
 (bif (decide (a<(List.length t1.loops:Int))) then Option.bind (idx t1.loops a) λe=>
 Option.bind (idx t1.loops a) λf=>
 Option.bind (f176 d [e.head,f.back]) λg=>
 Option.bind (idx t1.loops a) λh=>
 Option.bind (f143 g h.bound) λj=>
 (f144_l3 t1 c n (IntKind.i64.wrap (a+1)) j) else(c d))
def f144_l5(c:aZ)(e:lI→Option lI):Nat→Int→lI→Option lI
 |0,_,_=>none
 |na+1,d,f=>
 (bif (decide (d<(List.length c.alts:Int))) then Option.bind (idx c.alts d) λa=>
 Option.bind (f176 f [(IntKind.i64.wrap a.kind),a.entry,a.guard,a.time,a.at_]) λg=>
 (f144_l5 c e na (IntKind.i64.wrap (d+1)) g) else(e f))
def f144_l4(t1:af)(d:lI→Option lI):Nat→Int→lI→Option lI
 |0,_,_=>none
 |n+1,c,e=>
 (bif (decide (c<(List.length t1.selects:Int))) then an (λ(f:lI)(c60v284:List cD)(c61v285:Int)(c62v286:Int)=>
 (f144_l4 t1 d n (IntKind.i64.wrap (c+1)) f)) λg=>
 Option.bind (idx t1.selects c) λa=>
 Option.bind (f176 e [(List.length a.alts:Int)]) λh=>
 an (λ(j:lI)=>
 Option.bind (f176 j [a.obj,a.else_]) λk=>
 (g k a.alts a.obj a.else_)) λm=>
 (f144_l5 a m 9223372036854775808 0 h) else(d e))
def f144_l6(t1:af):Nat→Int→lI→Option lI
 |0,_,_=>none
 |n+1,a,c=>
 (bif (decide (a<(List.length t1.lists:Int))) then Option.bind (idx t1.lists a) λd=>
 Option.bind (f178 c d) λe=>
 (f144_l6 t1 n (IntKind.i64.wrap (a+1)) e) else some c)
def f144(l:lI)(t1:af):Option lI:=
 Option.bind (f176 l [(List.length t1.insns:Int)]) λa=>
 an (λ(c:lI)=>
 Option.bind (f176 c [(List.length t1.handlers:Int)]) λd=>
 an (λ(e:lI)=>
 Option.bind (f176 e [(List.length t1.loops:Int)]) λf=>
 an (λ(g:lI)=>
 Option.bind (f176 g [(List.length t1.selects:Int)]) λh=>
 an (λ(j:lI)=>
 Option.bind (f176 j [(List.length t1.lists:Int)]) λk=>
 (f144_l6 t1 9223372036854775808 0 k)) λm=>
 (f144_l4 t1 m 9223372036854775808 0 h)) λp=>
 (f144_l3 t1 p 9223372036854775808 0 f)) λr=>
 (f144_l2 t1 r 9223372036854775808 0 d)) λt=>
 (f144_l1 t1 t 9223372036854775808 0 a)
def f179s_l1(c:lI→ap→Option lI)(l:lI)(e1:ap):Nat→Int→lI→Option lI
 |0,_,_=>none
 |n+1,a,d=>
 (bif (decide (a<(List.length e1.l:Int))) then Option.bind (idx e1.l a) λe=>
 Option.bind (c d e) λf=>
 (f179s_l1 c l e1 n (IntKind.i64.wrap (a+1)) f) else some d)
def f179s(a:lI→ap→Option lI)(l:lI)(e1:ap):Option lI:=
 Option.bind (f176 l [(IntKind.i64.wrap e1.kind),(IntKind.i64.wrap e1.op)]) λc=>
 Option.bind (f143 c e1.n) λd=>
 Option.bind (f176 d [e1.o,e1.off,e1.len]) λe=>
 Option.bind (f143 e e1.lo) λf=>
 Option.bind (f143 f e1.hi) λg=>
 Option.bind (f176 g [(List.length e1.l:Int)]) λh=>
 (f179s_l1 a l e1 9223372036854775808 0 h)
def f179:Nat→lI→ap→Option lI
 |0=>λ_ _=>none
 |n+1=>f179s (f179 n)
def f145_l1(t1:af)(d:lI→Option lI):Nat→Int→lI→Option lI
 |0,_,_=>none
 |n+1,c,e=>
 (bif (decide (c<(List.length t1.objs:Int))) then Option.bind (idx t1.objs c) λa=>
 Option.bind (f176 e [a.size]) λf=>
 Option.bind (f143 f a.lo) λg=>
 Option.bind (f143 g a.hi) λh=>
 Option.bind (f177 h a.ptr) λj=>
 Option.bind (f178 j a.set_) λk=>
 (f145_l1 t1 d n (IntKind.i64.wrap (c+1)) k) else(d e))
def f145_l2(t1:af)(c:lI→Option lI):Nat→Int→lI→Option lI
 |0,_,_=>none
 |n+1,a,d=>
 (bif (decide (a<(List.length t1.inits:Int))) then Option.bind (idx t1.inits a) λe=>
 Option.bind (idx t1.inits a) λf=>
 Option.bind (f176 d [e.o,f.slot]) λg=>
 Option.bind (idx t1.inits a) λh=>
 Option.bind (f143 g h.v) λj=>
 (f145_l2 t1 c n (IntKind.i64.wrap (a+1)) j) else(c d))
def f145_l4(a:bX)(d:lI→Option lI):Nat→Int→lI→Option lI
 |0,_,_=>none
 |na+1,c,e=>
 (bif (decide (c<(List.length a.entries:Int))) then Option.bind (idx a.entries c) λf=>
 Option.bind (f178 e f.ins) λg=>
 Option.bind (idx a.entries c) λh=>
 Option.bind (f178 g h.outs) λj=>
 (f145_l4 a d na (IntKind.i64.wrap (c+1)) j) else(d e))
def f145_l3(t1:af)(d:lI→Option lI):Nat→Int→lI→Option lI
 |0,_,_=>none
 |n+1,c,e=>
 (bif (decide (c<(List.length t1.tasks:Int))) then an (λ(f:lI)(c50v280:Int)(c51v281:Int)(c52v282:List bq)(c53v283:Int)=>
 (f145_l3 t1 d n (IntKind.i64.wrap (c+1)) f)) λg=>
 Option.bind (idx t1.tasks c) λa=>
 Option.bind (f176 e [a.prio,a.at_,(List.length a.entries:Int)]) λh=>
 an (λ(j:lI)=>
 Option.bind (f143 j a.deadline) λk=>
 (g k a.prio a.at_ a.entries a.deadline)) λm=>
 (f145_l4 a m 9223372036854775808 0 h) else(d e))
def f145_l6(t1:af)(a:Int)(d:lI→Option lI):Nat→Int→lI→Option lI
 |0,_,_=>none
 |na+1,c,e=>
 Option.bind (idx t1.prots a) λf=>
 (bif (decide (c<(List.length f.barriers:Int))) then Option.bind (idx t1.prots a) λg=>
 Option.bind (idx g.barriers c) λh=>
 Option.bind (f179 66 e h) λj=>
 (f145_l6 t1 a d na (IntKind.i64.wrap (c+1)) j) else(d e))
def f145_l5(t1:af)(c:lI→Option lI):Nat→Int→lI→Option lI
 |0,_,_=>none
 |n+1,a,d=>
 (bif (decide (a<(List.length t1.prots:Int))) then an (λ(e:lI)=>
 (f145_l5 t1 c n (IntKind.i64.wrap (a+1)) e)) λf=>
 Option.bind (idx t1.prots a) λg=>
 Option.bind (idx t1.prots a) λh=>
 Option.bind (f176 d [g.ceiling,(List.length h.barriers:Int)]) λj=>
 (f145_l6 t1 a f 9223372036854775808 0 j) else(c d))
def f145_l7(t1:af):Nat→Int→lI→Option lI
 |0,_,_=>none
 |n+1,a,c=>
 (bif (decide (a<(List.length t1.checks:Int))) then Option.bind (idx t1.checks a) λd=>
 Option.bind (idx t1.checks a) λe=>
 Option.bind (f176 c [d.at_,(IntKind.i64.wrap e.kind)]) λf=>
 (f145_l7 t1 n (IntKind.i64.wrap (a+1)) f) else some c)
def f145(l:lI)(t1:af):Option lI:=
 Option.bind (f176 l [(List.length t1.objs:Int)]) λa=>
 an (λ(c:lI)=>
 Option.bind (f176 c [(List.length t1.inits:Int)]) λd=>
 an (λ(e:lI)=>
 Option.bind (f176 e [t1.excs,(List.length t1.tasks:Int)]) λf=>
 an (λ(g:lI)=>
 Option.bind (f176 g [(List.length t1.prots:Int)]) λh=>
 an (λ(j:lI)=>
 Option.bind (f176 j [(List.length t1.checks:Int)]) λk=>
 (f145_l7 t1 9223372036854775808 0 k)) λm=>
 (f145_l5 t1 m 9223372036854775808 0 h)) λp=>
 (f145_l3 t1 p 9223372036854775808 0 f)) λr=>
 (f145_l2 t1 r 9223372036854775808 0 d)) λt=>
 (f145_l1 t1 t 9223372036854775808 0 a)
def f58(t0:af):Option lI:=
 Option.bind (f143 [] 958023) λa=>
 Option.bind (f144 a t0) λc=>
 Option.bind (f145 c t0) λd=>
 some d
def f19(a0:af)(b1:af):oB:=
 Option.bind (f58 a0) λa=>
 bB (o7 a)<|
 Option.bind (f58 b1) λc=>
 bB (o7 c)<|
 some (((wJ a).toList==(wJ c).toList))
def f23(x0:aE)(y1:aE):Bool:=
 (((decide (x0.op=y1.op))&&((decide (x0.d=y1.d))&&((decide (x0.a=y1.a))&&((decide (x0.b=y1.b))&&((decide (x0.n=y1.n))&&((decide (x0.m=y1.m))&&((decide (0=0))&&true))))))))
def f183(x0:Int):Bool:=
 (!decide (x0=x0))
def f149(x0:Int)(y1:Int):Bool:=
 (((f183 x0)&&(!(f183 y1)))||(decide (x0<y1)))
def f150(x0:Int):Bool:=
 (!decide (x0=x0))
def f63_l1(x0:lI)(d:Int)(e:Int→Option (Int×Bool)):Nat→Int→Int→Option (Int×Bool)
 |0,_,_=>none
 |n+1,a,c=>
 (bif (decide (a<c)) then Option.bind (idx x0 (IntKind.i64.wrap (Int.fdiv (IntKind.u64.wrap (IntKind.i64.wrap (a+c))) (2^min (Int.toNat 1) IntKind.u64.bits)))) λf=>
 (bif (f149 f d) then(f63_l1 x0 d e n (IntKind.i64.wrap ((IntKind.i64.wrap (Int.fdiv (IntKind.u64.wrap (IntKind.i64.wrap (a+c))) (2^min (Int.toNat 1) IntKind.u64.bits)))+1)) c) else(f63_l1 x0 d e n a (IntKind.i64.wrap (Int.fdiv (IntKind.u64.wrap (IntKind.i64.wrap (a+c))) (2^min (Int.toNat 1) IntKind.u64.bits))))) else(e a))
def f63(x0:lI)(c:Int):Option (Int×Bool):=
 an (λ(a:Int)=>
 Option.bind (bif (decide (a<(List.length x0:Int))) then(Option.bind (idx x0 a) λd=>Option.bind (bif (decide (d=c)) then some true else(Option.bind (idx x0 a) λe=>some ((f150 e)&&(f150 c)))) λf=>some f) else some false) λg=>
 some (a,g)) λh=>
 (f63_l1 x0 c h 9223372036854775808 0 (List.length x0:Int))
def f62(a0:Int)(a:lI):Option Int:=
 Option.bind (f63 a a0) λc=>
 some (IntKind.i64.wrap (a0 - c.1))
def f64(a0:Int)(a:lI):oB:=
 Option.bind (f63 a a0) λc=>
 some c.2
def f65n(s0:lS):Option lS:=bB (cq 40 [] s0) (some s0)
def f66n(s0:lK):Option lK:=bB (cq 48 [] s0) (some s0)
def f67o(s0:List cD):Option (List cD):=bB (cq 40 [] s0) (some s0)
def f22_l1(at1:lI)(d:lI→Option (af×Int)):Nat→Int→lI→Option (af×Int)
 |0,_,_=>none
 |n+1,a,c=>
 (bif (decide (a<(List.length at1:Int))) then Option.bind (idx at1 a) λe=>
 an (λ(_:Unit)=>
 (f22_l1 at1 d n (IntKind.i64.wrap (a+1)) (c++ [e]))) λf=>
 bB (cq 8 c [e])<|
 (f ()) else(d c))
def f22_l2(t0:af)(c:lI)(d:Unit→Option (af×Int)):Nat→Int→Option (af×Int)
 |0,_=>none
 |n+1,a=>
 (bif (decide (a<(List.length c:Int))) then Option.bind (idx c a) λe=>
 Option.bind (f61 (bg.mk t0) e) λf=>
 Option.bind (bif (!f) then some true else(Option.bind (bif (decide (a>0)) then(Option.bind (idx c (IntKind.i64.wrap (a - 1))) λg=>some (decide (g=e))) else some false) λh=>some h)) λj=>
 (bif j then some ((af.mk [] [] [] [] [] [] [] 0 [] [] []),2) else(f22_l2 t0 c d n (IntKind.i64.wrap (a+1)))) else(d ()))
def f22_l3(t0:af)(g:lI)(h:lN→Option (af×Int)):Nat→Int→lN→Option (af×Int)
 |0,_,_=>none
 |n+1,e,f=>
 (bif (decide (e<(List.length t0.insns:Int))) then an (λ(p:lN)=>
 (f22_l3 t0 g h n (IntKind.i64.wrap (e+1)) p)) λj=>
 Option.bind (idx t0.insns e) λc=>
 Option.bind (f64 e g) λr=>
 (bif r then(j f) else an (λ(c76v343:Int)=>
 bB (cq 56 f [(aE.mk c.op c.d c.a c.b c.n c.m c76v343)])<|
 (j (f++ [(aE.mk c.op c.d c.a c.b c.n c.m c76v343)]))) λk=>
 (bif (((decide (c.op≥29))&&(decide (c.op≤32)))||(decide (c.op=52))) then Option.bind (f62 c.to g) λt=>
 (k t) else(k c.to))) else(h f))
def f22_l4(t0:af)(c:lI)(h:lH→Option (af×Int)):Nat→Int→lH→Option (af×Int)
 |0,_,_=>none
 |n+1,e,d=>
 (bif (decide (e<(List.length t0.handlers:Int))) then an (λ(m:lH)=>
 (f22_l4 t0 c h n (IntKind.i64.wrap (e+1)) m)) λj=>
 Option.bind (idx t0.handlers e) λa=>
 Option.bind (f62 a.from_ c) λf=>
 Option.bind (f62 a.to c) λg=>
 Option.bind (f62 a.at_ c) λk=>
 (bif (decide (f<g)) then bB (cq 32 d [(aD.mk f g k a.clean)])<|
 (j (d++ [(aD.mk f g k a.clean)])) else(j d)) else(h d))
def f22_l5(t0:af)(c:lI)(f:lP→Option (af×Int)):Nat→Int→lP→Option (af×Int)
 |0,_,_=>none
 |n+1,d,e=>
 (bif (decide (d<(List.length t0.loops:Int))) then Option.bind (idx t0.loops d) λa=>
 Option.bind (f62 a.head c) λg=>
 Option.bind (f62 a.back c) λh=>
 bB (cq 24 e [(Loop.mk g h a.bound)])<|
 (f22_l5 t0 c f n (IntKind.i64.wrap (d+1)) (e++ [(Loop.mk g h a.bound)])) else(f e))
def f22_l6(t0:af)(d:lI)(f:lC→Option (af×Int)):Nat→Int→lC→Option (af×Int)
 |0,_,_=>none
 |n+1,e,c=>
 (bif (decide (e<(List.length t0.checks:Int))) then an (λ(j:lC)(c100v400:Int)(c101v401:Int)=>
 (f22_l6 t0 d f n (IntKind.i64.wrap (e+1)) j)) λg=>
 Option.bind (idx t0.checks e) λa=>
 Option.bind (f64 a.at_ d) λk=>
 (bif (!k) then Option.bind (f62 a.at_ d) λh=>
 bB (cq 16 c [(bM.mk h a.kind)])<|
 (g (c++ [(bM.mk h a.kind)]) a.at_ a.kind) else(g c a.at_ a.kind)) else(f c))
def f22_l8(e:lI)(f:List cD)(g:(List cD)→Option (af×Int)):Nat→Int→(List cD)→Option (af×Int)
 |0,_,_=>none
 |na+1,a,c=>
 (bif (decide (a<(List.length f:Int))) then Option.bind (idx c a) λh=>
 Option.bind (f62 h.at_ e) λj=>
 Option.bind (idx c a) λd=>
 (f22_l8 e f g na (IntKind.i64.wrap (a+1)) (List.set c (Int.toNat a) (cD.mk d.kind d.entry d.guard d.time j))) else(g c))
def f22_l7(f:lI)(h:lS)(j:lS→Option (af×Int)):Nat→Int→lS→Option (af×Int)
 |0,_,_=>none
 |n+1,a,d=>
 (bif (decide (a<(List.length h:Int))) then an (λ(p:lS)=>
 (f22_l7 f h j n (IntKind.i64.wrap (a+1)) p)) λk=>
 Option.bind (idx d a) λc=>
 Option.bind (f67o c.alts) λg=>
 an (λ(e:List cD)=>
 Option.bind (idx (List.set d (Int.toNat a) (aZ.mk e c.obj c.else_)) a) λr=>
 (bif (decide (r.else_≥0)) then Option.bind (idx (List.set d (Int.toNat a) (aZ.mk e c.obj c.else_)) a) λt=>
 Option.bind (f62 t.else_ f) λw=>
 Option.bind (idx (List.set d (Int.toNat a) (aZ.mk e c.obj c.else_)) a) λm=>
 (k (List.set (List.set d (Int.toNat a) (aZ.mk e c.obj c.else_)) (Int.toNat a) (aZ.mk m.alts m.obj w))) else(k (List.set d (Int.toNat a) (aZ.mk e c.obj c.else_))))) λx=>
 (f22_l8 f g x (Int.toNat ((List.length g:Int) - 0)+1) 0 g) else(j d))
def f22_l9(e:lI)(f:lK)(g:lK→Option (af×Int)):Nat→Int→lK→Option (af×Int)
 |0,_,_=>none
 |n+1,a,c=>
 (bif (decide (a<(List.length f:Int))) then Option.bind (idx c a) λh=>
 Option.bind (f62 h.at_ e) λj=>
 Option.bind (idx c a) λd=>
 (f22_l9 e f g n (IntKind.i64.wrap (a+1)) (List.set c (Int.toNat a) (bX.mk d.prio j d.entries d.deadline))) else(g c))
def f22(t0:af)(at1:lI):Option (af×Int):=
 Option.bind (f10 t0) λm=>
 (bif (!m) then some ((af.mk [] [] [] [] [] [] [] 0 [] [] []),2) else an (λ(_:Unit)=>
 an (λ(a:lI)=>
 an (λ(_:Unit)=>
 an (λ(e:lN)=>
 an (λ(f:lH)=>
 an (λ(g:lP)=>
 an (λ(h:lC)=>
 Option.bind (f65n t0.selects) λc=>
 Option.bind (f66n t0.tasks) λd=>
 an (λ(j:lS)=>
 an (λ(k:lK)=>
 Option.bind (f10 (af.mk e f g j t0.lists t0.objs t0.inits t0.excs k t0.prots h)) λp=>
 (bif (!p) then some ((af.mk [] [] [] [] [] [] [] 0 [] [] []),230) else some ((af.mk e f g j t0.lists t0.objs t0.inits t0.excs k t0.prots h),0))) λr=>
 (f22_l9 a d r (Int.toNat ((List.length d:Int) - 0)+1) 0 d)) λt=>
 (f22_l7 a c t (Int.toNat ((List.length c:Int) - 0)+1) 0 c)) λw=>
 (f22_l6 t0 a w (Int.toNat ((List.length t0.checks:Int) - 0)+1) 0 [])) λx=>
 (f22_l5 t0 a x (Int.toNat ((List.length t0.loops:Int) - 0)+1) 0 [])) λy=>
 (f22_l4 t0 a y (Int.toNat ((List.length t0.handlers:Int) - 0)+1) 0 [])) λA=>
 (f22_l3 t0 a A (Int.toNat ((List.length t0.insns:Int) - 0)+1) 0 [])) λB=>
 (f22_l2 t0 a B (Int.toNat ((List.length a:Int) - 0)+1) 0)) λC=>
 an (λ(E:lI)=>
 Option.bind (f147 E) λF=>
 (C F)) λG=>
 an (λ(H:lI)=>
 (G H)) λI=>
 an (λ(J:lI)=>
 (I J)) λK=>
 an (λ(L:lI)=>
 (K L)) λM=>
 (f22_l1 at1 M (Int.toNat ((List.length at1:Int) - 0)+1) 0 [])) λN=>
 (N ()))
def f9:oB:=some true
def f7_l1(t0:af)(g:Int)(h:Int)(m:lI→lI→lI→lN→oB):Nat→Int→Int→Int→lI→lI→lI→lN→oB
 |0,_,_,_,_,_,_,_=>none
 |n+1,a,removed212,c,d,e,f,j=>
 (bif (decide (c<(List.length t0.insns:Int))) then an (λ(C:Int)(removed234:Int)(E:lI)(F:lI)(G:lI)(H:lN)=>
 (f7_l1 t0 g h m n C removed234 (IntKind.i64.wrap (c+1)) E F G H)) λp=>
 an (λ(r:Int)(removed245:Int)(I:Bool)(t:lI)(w:lI)(x:lI)=>
 (bif (!I) then Option.bind (idx t0.insns c) λy=>
 bB (cq 56 j [y])<|
 (p r removed245 t w x (j++ [y])) else(p r removed245 t w x j))) λA=>
 Option.bind (f21 t0 c) λJ=>
 (bif (J&&(decide (a<64))) then bB (shc (IntKind.u64.wrap a))<|
 bB (shc (IntKind.u64.wrap a))<|
 an (λ(removed257:Int)(K:lI)(L:lI)=>
 an (λ(M:lI)=>
 (A (IntKind.i64.wrap (a+1)) removed257 ((decide ((IntKind.u64.wrap (BitVec.ofInt IntKind.u64.bits (Int.fdiv g (2^min (Int.toNat (IntKind.u64.wrap a)) IntKind.u64.bits))&&&BitVec.ofInt IntKind.u64.bits 1).toNat)=1))||(decide ((IntKind.u64.wrap (BitVec.ofInt IntKind.u64.bits (Int.fdiv h (2^min (Int.toNat (IntKind.u64.wrap a)) IntKind.u64.bits))&&&BitVec.ofInt IntKind.u64.bits 1).toNat)=1))) K L M)) λB=>
 (bif ((decide ((IntKind.u64.wrap (BitVec.ofInt IntKind.u64.bits (Int.fdiv g (2^min (Int.toNat (IntKind.u64.wrap a)) IntKind.u64.bits))&&&BitVec.ofInt IntKind.u64.bits 1).toNat)=1))||(decide ((IntKind.u64.wrap (BitVec.ofInt IntKind.u64.bits (Int.fdiv h (2^min (Int.toNat (IntKind.u64.wrap a)) IntKind.u64.bits))&&&BitVec.ofInt IntKind.u64.bits 1).toNat)=1))) then bB (cq 8 f [c])<|
 (B (f++ [c])) else(B f))) λk=>
 (bif (decide ((IntKind.u64.wrap (BitVec.ofInt IntKind.u64.bits (Int.fdiv g (2^min (Int.toNat (IntKind.u64.wrap a)) IntKind.u64.bits))&&&BitVec.ofInt IntKind.u64.bits 1).toNat)=1)) then bB (cq 8 d [c])<|
 (k (IntKind.i64.wrap (removed212+1)) (d++ [c]) e) else(bif (decide ((IntKind.u64.wrap (BitVec.ofInt IntKind.u64.bits (Int.fdiv h (2^min (Int.toNat (IntKind.u64.wrap a)) IntKind.u64.bits))&&&BitVec.ofInt IntKind.u64.bits 1).toNat)=1)) then bB (cq 8 e [(IntKind.i64.wrap (c - removed212))])<|
 (k removed212 d (e++ [(IntKind.i64.wrap (c - removed212))])) else(k removed212 d e))) else(A a removed212 false d e f)) else(m d e f j))
def f7_l2(c:lN)(d:af×Int)(e:Unit→oB):Nat→Int→oB
 |0,_=>none
 |n+1,a=>
 (bif (decide (a<(List.length c:Int))) then Option.bind (idx c a) λf=>
 Option.bind (idx d.1.insns a) λg=>
 (bif (!(f23 f g)) then some false else(f7_l2 c d e n (IntKind.i64.wrap (a+1)))) else(e ()))
def f7(t0:af)(g:Int)(h:Int):oB:=
 Option.bind (f8 t0) λj=>
 Option.bind (bif j then some true else(Option.bind (f11 t0) λk=>some (!k))) λm=>
 (bif m then Option.bind (f9) λp=>
 some p else an (λ(r:lI)(t:lI)(d:lI)(e:lN)=>
 Option.bind (f22 t0 r) λc=>
 Option.bind (f22 t0 d) λa=>
 (bif ((!decide (c.2=0))||(!decide (a.2=0))) then Option.bind (bif (((decide (c.2=0))||(decide (c.2=230)))&&((decide (a.2=0))||(decide (a.2=230)))) then(Option.bind (f9) λw=>some w) else some false) λx=>
 some x else Option.bind (f22 c.1 t) λf=>
 Option.bind (bif (!decide (f.2=0)) then some true else(Option.bind (f19 a.1 f.1) λy=>some (!y))) λA=>
 Option.bind (bif (A||(!decide ((List.length a.1.insns:Int)=(List.length e:Int)))) then some true else(Option.bind (bif (decide ((List.length d:Int)=0)) then(Option.bind (f19 a.1 t0) λB=>some (!B)) else some false) λC=>some C)) λE=>
 (bif E then some false else an (λ(_:Unit)=>
 Option.bind (f10 a.1) λF=>
 Option.bind (bif F then(Option.bind (f9) λG=>some G) else some false) λH=>
 some H) λI=>
 (f7_l2 e a I 9223372036854775808 0)))) λJ=>
 (f7_l1 t0 g h J 9223372036854775808 0 0 0 [] [] [] []))
abbrev sN:AV:= .d (.v (.slice none 0 0))
abbrev _root_.Go.Sk.AO.z:AO:= .dead
abbrev txA(t:af):lV:=[.l E59 t.insns, .l E83 t.handlers, .l cm t.loops, .l E65 t.selects, .l E54 t.lists, .l E67 t.objs, .l E93 t.inits, .n t.excs, .l E70 t.tasks, .l E75 t.prots, .l cv t.checks]
abbrev txV(a:lN)(b:lH)(c:lP)(d:lS)(e:lL)(f:lO)(g:lT)(h:Int)(i:lK)(j:lM)(k:lC):lV:=[.l E59 a, .l E83 b, .l cm c, .l E65 d, .l E54 e, .l E67 f, .l E93 g, .n h, .l E70 i, .l E75 j, .l cv k]
end Go.Proofs.YtejcfgjpdocaoaaGreatDoor
