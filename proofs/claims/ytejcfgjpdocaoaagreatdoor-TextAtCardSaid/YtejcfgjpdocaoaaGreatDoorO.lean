/- Part of the proof. -/
import Derived.Test.YtejcfgjpdocaoaaGreatDoorE
set_option linter.unusedVariables false
set_option linter.unusedSimpArgs false
set_option linter.unusedSectionVars false
set_option linter.unnecessarySimpa false
namespace Go.Proofs.YtejcfgjpdocaoaaGreatDoor
open Go Go.Sk
structure Field where
 name:Int
 lo:Int
 hi:Int
structure Row where
 op:Int
 name:ByteArray
 fields:List Field
structure aM where
 op:Int
 d:Int
 a:Int
 b:Int
 n:Int
 m:Int
 to:Int
structure az where
 from_:Int
 to:Int
 at_:Int
 clean:Bool
structure Loop where
 head:Int
 back:Int
 bound:Int
structure fu where
 kind:Int
 entry:Int
 guard:Int
 time:Int
 at_:Int
structure bI where
 alts:List fu
 obj:Int
 else_:Int
structure Obj where
 size:Int
 lo:Int
 hi:Int
 ptr:Bool
 set_:List Int
structure cw where
 o:Int
 slot:Int
 v:Int
structure bd where
 ins:List Int
 outs:List Int
structure dc where
 prio:Int
 at_:Int
 entries:List bd
 deadline:Int
structure aq where
 kind:Int
 op:Int
 n:Int
 o:Int
 off:Int
 len:Int
 lo:Int
 hi:Int
 l:List aq
structure cO where
 ceiling:Int
 barriers:List aq
structure cP where
 at_:Int
 kind:Int
structure af where
 insns:List aM
 handlers:List az
 loops:List Loop
 selects:List bI
 lists:List (List Int)
 objs:List Obj
 inits:List cw
 excs:Int
 tasks:List dc
 prots:List cO
 checks:List cP
structure aT where
 text:af
structure Judge where
 e8:aT
 entries:Int
 left:Int
structure Spot where
 o:Int
 slot:Int
structure ez where
 name:ByteArray
 fields:ByteArray
abbrev R59(x:aM):List D:=[.i .u8 x.op, .i .i64 x.d, .i .i64 x.a, .i .i64 x.b, .i .i64 x.n, .i .i64 x.m, .i .i64 x.to]
abbrev E59(x:aM):List D:=R59 x
theorem cL(x:aM):E59 x=R59 x:=rfl
abbrev R83(x:az):List D:=[.i .i64 x.from_, .i .i64 x.to, .i .i64 x.at_, .b x.clean]
abbrev E83(x:az):List D:=R83 x
theorem eB(x:az):E83 x=R83 x:=rfl
abbrev R118(x:Loop):List D:=[.i .i64 x.head, .i .i64 x.back, .i .i64 x.bound]
abbrev ce(x:Loop):List D:=R118 x
theorem kv(x:Loop):ce x=R118 x:=rfl
abbrev mB(x:fu):List D:=[.i .u8 x.kind, .i .i64 x.entry, .i .i64 x.guard, .i .i64 x.time, .i .i64 x.at_]
abbrev dy(x:fu):List D:=mB x
theorem nK(x:fu):dy x=mB x:=rfl
abbrev R65(x:bI):List D:=[.sl (List.map dy x.alts), .i .i64 x.obj, .i .i64 x.else_]
abbrev E65(x:bI):List D:=R65 x
theorem mD(x:bI):E65 x=R65 x:=rfl
abbrev E3(x:Int):List D:=[.i .i64 x]
theorem dF(x:Int):E3 x=[.i .i64 x]:=rfl
abbrev E54(x:List Int):List D:=[.sl (List.map E3 x)]
theorem mE(x:List Int):E54 x=[.sl (List.map E3 x)]:=rfl
abbrev R67(x:Obj):List D:=[.i .i64 x.size, .i .i64 x.lo, .i .i64 x.hi, .b x.ptr, .sl (List.map E3 x.set_)]
abbrev E67(x:Obj):List D:=R67 x
theorem bJ(x:Obj):E67 x=R67 x:=rfl
abbrev R93(x:cw):List D:=[.i .i64 x.o, .i .i64 x.slot, .i .i64 x.v]
abbrev E93(x:cw):List D:=R93 x
theorem kq(x:cw):E93 x=R93 x:=rfl
abbrev R72(x:bd):List D:=[.sl (List.map E3 x.ins), .sl (List.map E3 x.outs)]
abbrev E72(x:bd):List D:=R72 x
theorem fx(x:bd):E72 x=R72 x:=rfl
abbrev R70(x:dc):List D:=[.i .i64 x.prio, .i .i64 x.at_, .sl (List.map E72 x.entries), .i .i64 x.deadline]
abbrev E70(x:dc):List D:=R70 x
theorem dx(x:dc):E70 x=R70 x:=rfl
abbrev lI:=List Int
abbrev lL:=List (List Int)
abbrev lN:=List aM
abbrev lH:=List az
abbrev lO:=List Obj
abbrev lD:=List D
abbrev lV:=List AV
abbrev lW:=List AO
abbrev oB:=Option Bool
abbrev lP:=List Loop
abbrev lS:=List bI
abbrev lT:=List cw
abbrev lK:=List dc
abbrev lM:=List cO
abbrev lC:=List cP
abbrev fD:=Field.mk
abbrev bA:=ByteArray.mk

mutual
def E80:aq→lD
 | .mk kind op n o off len lo hi l=> [.i .u8 kind, .i .u8 op, .i .i64 n, .i .i64 o, .i .i64 off, .i .i64 len, .i .i64 lo, .i .i64 hi, .sl (E80s l)]
def E80s:List aq→List lD
 |[]=> []
 |e::l=>E80 e::E80s l
end
abbrev R80(x:aq):lD:=[.i .u8 x.kind, .i .u8 x.op, .i .i64 x.n, .i .i64 x.o, .i .i64 x.off, .i .i64 x.len, .i .i64 x.lo, .i .i64 x.hi, .sl (List.map E80 x.l)]
theorem nJ:∀l,E80s l=List.map E80 l
 |[]=>rfl
 |e::l=>by rw[E80s,nJ l];rfl
theorem eC(x:aq):E80 x=R80 x:=by
 cases x;simp only[E80,nJ]
abbrev R75(x:cO):lD:=[.i .i64 x.ceiling, .sl (List.map E80 x.barriers)]
abbrev E75(x:cO):lD:=R75 x
theorem fw(x:cO):E75 x=R75 x:=rfl
abbrev R121(x:cP):lD:=[.i .i64 x.at_, .i .u8 x.kind]
abbrev cv(x:cP):lD:=R121 x
theorem ku(x:cP):cv x=R121 x:=rfl
abbrev R33(x:af):lD:=[.sl (List.map E59 x.insns), .sl (List.map E83 x.handlers), .sl (List.map ce x.loops), .sl (List.map E65 x.selects), .sl (List.map E54 x.lists), .sl (List.map E67 x.objs), .sl (List.map E93 x.inits), .i .i64 x.excs, .sl (List.map E70 x.tasks), .sl (List.map E75 x.prots), .sl (List.map cv x.checks)]
abbrev E33(x:af):lD:=R33 x
abbrev R86(x:aT):lD:=[.sl (List.map E59 x.text.insns), .sl (List.map E83 x.text.handlers), .sl (List.map ce x.text.loops), .sl (List.map E65 x.text.selects), .sl (List.map E54 x.text.lists), .sl (List.map E67 x.text.objs), .sl (List.map E93 x.text.inits), .i .i64 x.text.excs, .sl (List.map E70 x.text.tasks), .sl (List.map E75 x.text.prots), .sl (List.map cv x.text.checks)]
abbrev s6(x:ez):lD:=[.s x.name, .s x.fields]
abbrev R247(x:Field):lD:=[.i .u8 x.name, .i .i64 x.lo, .i .i64 x.hi]
abbrev pU(x:Field):lD:=R247 x
theorem ar(x:Field):pU x=R247 x:=rfl
abbrev ro(x:Row):lD:=[.i .u8 x.op, .s x.name, .sl (List.map pU x.fields)]
abbrev rq(x:Row):lD:=ro x
theorem kr(x:Row):rq x=ro x:=rfl
abbrev E2(x:Int):lD:=[.i .i64 x]
abbrev E9(x:ByteArray):lD:=[.s x]
theorem rK(x:ByteArray):E9 x=[.s x]:=rfl
def fU:List ez:=jO.map λp=>⟨p.1,p.2⟩
theorem jW:gpc 0=some (fU.flatMap s6):=by
 unfold fU
 rw[List.flatMap_map]
 rfl
def f163_l1(s0:lI)(c:Int→oB)(d:Unit→Option (Int)):Nat→Int→Option (Int)
 |0,_=>none
 |n+1,a=>
 (bif (decide (a<(List.length s0:Int))) then Option.bind (idx s0 a) λe=>
 Option.bind (c e) λf=>
 (bif f then some a else(f163_l1 s0 c d n (IntKind.i64.wrap (a+1)))) else(d ()))
def f163(s0:lI)(a:Int→oB):Option Int:=
 ap (λ(_:Unit)=>
 some (-1)) λc=>
 (f163_l1 s0 a c (Int.toNat ((List.length s0:Int) - 0)+1) 0)
def f112(s0:lI)(a:Int→oB):oB:=
 Option.bind (f163 s0 a) λc=>
 some (decide (c≥0))
def f113(n0:Int)(a:Int):Bool:=
 (decide ((IntKind.i64.wrap (n0+1))=a))
def f45(o0:Obj)(v1:Int):oB:=
 (bif o0.ptr then Option.bind (bif (decide (v1=0)) then some true else(Option.bind (f112 o0.set_ (λz0=>some (f113 z0 v1))) λa=>some a)) λc=>
 some c else some ((decide (v1≥o0.lo))&&(decide (v1≤o0.hi))))
def f88_l1(t0:aT)(o1:Obj)(d:Unit→oB):Nat→Int→Int→oB
 |0,_,_=>none
 |n+1,e,c=>
 (bif (decide (c<(List.length o1.set_:Int))) then Option.bind (idx o1.set_ c) λa=>
 Option.bind (bif ((decide (a≤e))||(decide (a≥(List.length t0.text.objs:Int)))) then some true else(Option.bind (idx t0.text.objs a) λf=>some (!decide (f.size=1)))) λg=>
 Option.bind (bif g then some true else(Option.bind (idx t0.text.objs a) λh=>some h.ptr)) λj=>
 (bif j then some false else(f88_l1 t0 o1 d n a (IntKind.i64.wrap (c+1)))) else(d ()))
def f88(t0:aT)(o1:Obj):oB:=
 (bif (((decide (o1.size<1))||(decide (o1.size>16384)))||(decide (o1.lo>o1.hi))) then some false else(bif (!o1.ptr) then some (decide ((List.length o1.set_:Int)=0)) else ap (λ(_:Unit)=>
 some ((decide (o1.lo=0))&&(decide (o1.hi=0)))) λa=>
 (f88_l1 t0 o1 a (Int.toNat ((List.length o1.set_:Int) - 0)+1) (-1) 0)))
def f89(t0:aT)(o1:Int)(a:Int)(c:Int):oB:=
 Option.bind (bif (((decide (o1≥0))&&(decide (o1<(List.length t0.text.objs:Int))))&&(decide (a≥0))) then(Option.bind (idx t0.text.objs o1) λd=>some (decide (a≤(IntKind.i64.wrap (d.size - c))))) else some false) λe=>
 some e
def f27_l1(t0:aT)(c:Int→oB):Nat→Int→Int→oB
 |0,_,_=>none
 |n+1,d,a=>
 (bif (decide (a<(List.length t0.text.objs:Int))) then Option.bind (idx t0.text.objs a) λe=>
 Option.bind (f88 t0 e) λf=>
 (bif (!f) then some false else(f27_l1 t0 c n (IntKind.i64.wrap (d+e.size)) (IntKind.i64.wrap (a+1)))) else(c d))
def f27_l2(t0:aT)(e:(List ((Int×Int)×Bool))→oB):Nat→Int→(List ((Int×Int)×Bool))→oB
 |0,_,_=>none
 |n+1,c,d=>
 (bif (decide (c<(List.length t0.text.inits:Int))) then Option.bind (idx t0.text.inits c) λa=>
 Option.bind (bif (Option.getD (bT d (a.o,a.slot)) false) then some true else(Option.bind (f89 t0 a.o a.slot 1) λf=>some (!f))) λg=>
 Option.bind (bif g then some true else(Option.bind (idx t0.text.objs a.o) λh=>Option.bind (f45 h a.v) λj=>some (!j))) λk=>
 (bif k then some false else(f27_l2 t0 e n (IntKind.i64.wrap (c+1)) (ba d (a.o,a.slot) true))) else(e d))
def f27(t0:aT):oB:=
 (bif (((decide ((List.length t0.text.objs:Int)>4096))||(decide (t0.text.excs<4)))||(decide (t0.text.excs>64))) then some false else ap (λ(a:Int)=>
 ap (λ(e:List ((Int×Int)×Bool))=>
 some (decide (a≤65536))) λc=>
 (f27_l2 t0 c (Int.toNat ((List.length t0.text.inits:Int) - 0)+1) 0 ([]:List ((Int×Int)×Bool)))) λd=>
 (f27_l1 t0 d (Int.toNat ((List.length t0.text.objs:Int) - 0)+1) 0 0))
def f47(t0:aT)(a1:Int):Bool:=
 ((decide (a1≥0))&&(decide (a1<(List.length t0.text.insns:Int))))
def f151_l1(s0:List bd)(c:bd→oB)(d:Unit→Option (Int)):Nat→Int→Option (Int)
 |0,_=>none
 |n+1,a=>
 (bif (decide (a<(List.length s0:Int))) then Option.bind (idx s0 a) λe=>
 Option.bind (c e) λf=>
 (bif f then some a else(f151_l1 s0 c d n (IntKind.i64.wrap (a+1)))) else(d ()))
def f151(s0:List bd)(a:bd→oB):Option Int:=
 ap (λ(_:Unit)=>
 some (-1)) λc=>
 (f151_l1 s0 a c (Int.toNat ((List.length s0:Int) - 0)+1) 0)
def f90(s0:List bd)(a:bd→oB):oB:=
 Option.bind (f151 s0 a) λc=>
 some (decide (c≥0))
def f152(o0:Int)(a:aT):oB:=
 Option.bind (bif ((decide (o0<0))||(decide (o0≥(List.length a.text.objs:Int)))) then some true else(Option.bind (idx a.text.objs o0) λc=>some (!decide (c.size=1)))) λd=>
 some d
def f92(t0:aT)(l1:lI):oB:=
 Option.bind (bif (decide ((List.length l1:Int)≤8)) then(Option.bind (f112 l1 λz0=>f152 z0 t0) λa=>some (!a)) else some false) λc=>
 some c
def f91(e0:bd)(a:aT):oB:=
 Option.bind (f92 a e0.ins) λc=>
 Option.bind (bif (!c) then some true else(Option.bind (f92 a e0.outs) λd=>some (!d))) λe=>
 some e
def f28_l1(t0:aT)(d:Unit→oB):Nat→Int→oB
 |0,_=>none
 |n+1,c=>
 (bif (decide (c<(List.length t0.text.tasks:Int))) then Option.bind (idx t0.text.tasks c) λa=>
 (bif ((((((decide (a.prio<0))||(decide (a.prio>31)))||(!(f47 t0 a.at_)))||(decide (a.deadline<0)))||(decide (a.deadline>2147483647)))||(decide ((List.length a.entries:Int)>8))) then some false else Option.bind (f90 a.entries λz0=>f91 z0 t0) λe=>
 (bif e then some false else(f28_l1 t0 d n (IntKind.i64.wrap (c+1))))) else(d ()))
def f28(t0:aT):oB:=
 (bif ((decide ((List.length t0.text.tasks:Int)<1))||(decide ((List.length t0.text.tasks:Int)>32))) then some false else ap (λ(_:Unit)=>
 some true) λa=>
 (f28_l1 t0 a (Int.toNat ((List.length t0.text.tasks:Int) - 0)+1) 0))
def f29_l2(t0:aT)(c:lI)(f:(List (Int×Bool))→oB):Nat→Int→(List (Int×Bool))→oB
 |0,_,_=>none
 |na+1,d,e=>
 (bif (decide (d<(List.length c:Int))) then Option.bind (idx c d) λa=>
 (bif (((decide (a<1))||(decide (a≥(List.length t0.text.tasks:Int))))||(Option.getD (bT e a) false)) then some false else(f29_l2 t0 c f na (IntKind.i64.wrap (d+1)) (ba e a true))) else(f e))
def f29_l1(t0:aT)(d:Unit→oB):Nat→Int→oB
 |0,_=>none
 |n+1,a=>
 (bif (decide (a<(List.length t0.text.lists:Int))) then ap (λ(h:List (Int×Bool))=>
 (f29_l1 t0 d n (IntKind.i64.wrap (a+1)))) λe=>
 Option.bind (idx t0.text.lists a) λc=>
 ap (λ(f:List (Int×Bool))=>
 (bif (decide ((List.length c:Int)>32)) then some false else(e f))) λg=>
 (f29_l2 t0 c g (Int.toNat ((List.length c:Int) - 0)+1) 0 ([]:List (Int×Bool))) else(d ()))
def f29(t0:aT):oB:=
 (bif (decide ((List.length t0.text.lists:Int)>4096)) then some false else ap (λ(_:Unit)=>
 some true) λa=>
 (f29_l1 t0 a (Int.toNat ((List.length t0.text.lists:Int) - 0)+1) 0))
def f93s_l1(d:lN→lH→lP→lS→lL→lO→lT→Int→lK→lM→lC→Int→Int→aq→Int→Option (Bool×lN×lH×lP×lS×lL×lO×lT×Int×lK×lM×lC×Int×Int))(e1:aq)(e:Int)(f:Int→lN→lH→lP→lS→lL→lO→lT→Int→lK→lM→lC→Int→Int→Option (Bool×lN×lH×lP×lS×lL×lO×lT×Int×lK×lM×lC×Int×Int))(g:lN→lH→lP→lS→lL→lO→lT→Int→lK→lM→lC→Int→Int→Option (Bool×lN×lH×lP×lS×lL×lO×lT×Int×lK×lM×lC×Int×Int)):Nat→Int→lN→lH→lP→lS→lL→lO→lT→Int→lK→lM→lC→Int→Int→Option (Bool×lN×lH×lP×lS×lL×lO×lT×Int×lK×lM×lC×Int×Int)
 |0,_,_,_,_,_,_,_,_,_,_,_,_,_,_=>none
 |n+1,c,h,j,k,m,o,p,r,t,w,x,y,A,B=>
 (bif (decide (c<(List.length e1.l:Int))) then Option.bind (idx e1.l c) λQ=>
 ap (λ(R:Bool)(C:lN)(E:lH)(F:lP)(G:lS)(H:lL)(I:lO)(J:lT)(K:Int)(L:lK)(M:lM)(N:lC)(O:Int)(P:Int)=>
 (bif R then(f c C E F G H I J K L M N O P) else(f93s_l1 d e1 e f g n (IntKind.i64.wrap (c+1)) C E F G H I J K L M N O P))) λS=>
 Option.bind (d h j k m o p r t w x y A B Q (IntKind.i64.wrap (e+1))) λa=>
 (S (!a.1) a.2.1 a.2.2.1 a.2.2.2.1 a.2.2.2.2.1 a.2.2.2.2.2.1 a.2.2.2.2.2.2.1 a.2.2.2.2.2.2.2.1 a.2.2.2.2.2.2.2.2.1 a.2.2.2.2.2.2.2.2.2.1 a.2.2.2.2.2.2.2.2.2.2.1 a.2.2.2.2.2.2.2.2.2.2.2.1 a.2.2.2.2.2.2.2.2.2.2.2.2.1 a.2.2.2.2.2.2.2.2.2.2.2.2.2) else(g h j k m o p r t w x y A B))
def f93s(H:lN→lH→lP→lS→lL→lO→lT→Int→lK→lM→lC→Int→Int→aq→Int→Option (Bool×lN×lH×lP×lS×lL×lO×lT×Int×lK×lM×lC×Int×Int))(f:lN)(g:lH)(h:lP)(j:lS)(k:lL)(c:lO)(m:lT)(p:Int)(r:lK)(t:lM)(w:lC)(jent:Int)(jleft:Int)(e1:aq)(x:Int):Option (Bool×lN×lH×lP×lS×lL×lO×lT×Int×lK×lM×lC×Int×Int):=
 ap (λ(I:Bool)(J:Int)(d:aq)(c5:Int)(c6:Int)(c7:Int)(c8:Int)=>
 (bif (((((((((((decide ((IntKind.i64.wrap (jleft - 1))<0))||(decide (x>64)))||(!I))||(!decide ((List.length e1.l:Int)=J)))||(!decide (e1.op=d.op)))||(!decide (e1.n=d.n)))||(!decide (e1.o=d.o)))||(!decide (e1.off=d.off)))||(!decide (e1.len=0)))||(!decide (e1.lo=0)))||(!decide (e1.hi=0))) then some (false,f,g,h,j,k,c,m,p,r,t,w,jent,(IntKind.i64.wrap (jleft - 1))) else ap (λ(K:Bool)(L:lN)(M:lH)(N:lP)(O:lS)(P:lL)(Q:lO)(R:lT)(S:Int)(T:lK)(U:lM)(V:lC)(W:Int)(X:Int)=>
 some ((!K),L,M,N,O,P,Q,R,S,T,U,V,W,X)) λY=>
 ap (λ(Z:Int)(ad:lN)(ag:lH)(a0:lP)(a1:lS)(a6:lL)(a7:lO)(a':lT)(bb:Int)(bk:lK)(bs:lM)(b0:lC)(b1:Int)(b2:Int)=>
 (Y (decide (Z≥0)) ad ag a0 a1 a6 a7 a' bb bk bs b0 b1 b2)) λy=>
 ap (λ(b3:lN)(b4:lH)(b5:lP)(b6:lS)(b7:lL)(b8:lO)(b9:lT)(b':Int)(ca:lK)(cc:lM)(cd:lC)(ci:Int)(cj:Int)=>
 (y (-1) b3 b4 b5 b6 b7 b8 b9 b' ca cc cd ci cj)) λcl=>
 (f93s_l1 H e1 x y cl (Int.toNat ((List.length e1.l:Int) - 0)+1) 0 f g h j k c m p r t w jent (IntKind.i64.wrap (jleft - 1))))) λe=>
 ap (λ(cp:Int)(A:Int)(B:Int)(C:Int)(E:Int)=>
 (e true cp (aq.mk e1.kind A B C E 0 0 0 []) A B C E)) λa=>
 (bif (decide (e1.kind=1)) then(a 0 0 e1.n 0 0) else(bif (decide (e1.kind=2)) then Option.bind (f89 (aT.mk (af.mk f g h j k c m p r t w)) e1.o e1.off 1) λc0=>
 Option.bind (bif (!c0) then some true else(Option.bind (idx c e1.o) λc1=>some c1.ptr)) λc2=>
 (bif c2 then(e false 0 (aq.mk e1.kind 0 0 0 0 0 0 0 []) 0 0 0 0) else(a 0 0 0 e1.o e1.off)) else(bif (decide (e1.kind=14)) then ap (λ(c3:Bool)=>
 (e c3 0 (aq.mk e1.kind 0 e1.n 0 0 0 0 0 []) 0 e1.n 0 0)) λF=>
 (bif (decide (e1.n≥0)) then(F (decide (e1.n<jent))) else(F false)) else(bif (decide (e1.kind=4)) then(a 1 18 0 0 0) else(bif (decide (e1.kind=5)) then(a 2 (if(if 15<e1.op then 15 else e1.op)>7 then(if 15<e1.op then 15 else e1.op) else 7) 0 0 0) else ap (λ(c4:Bool)=>
 (bif c4 then(a 2 0 0 0 0) else(e false 0 (aq.mk e1.kind 0 0 0 0 0 0 0 []) 0 0 0 0))) λG=>
 (bif (decide (e1.kind=6)) then(G (decide (e1.kind=6))) else(G (decide (e1.kind=7)))))))))
def f93:Nat→lN→lH→lP→lS→lL→lO→lT→Int→lK→lM→lC→Int→Int→aq→Int→Option (Bool×lN×lH×lP×lS×lL×lO×lT×Int×lK×lM×lC×Int×Int)
 |0=>λ_ _ _ _ _ _ _ _ _ _ _ _ _ _ _=>none
 |n+1=>f93s (f93 n)
def f30_l2(t0:aT)(d:Int→(List aq)→oB)(a:cO):Nat→Int→oB
 |0,_=>none
 |na+1,c=>
 (bif (decide (c<(List.length a.barriers:Int))) then Option.bind (idx a.barriers c) λe=>
 Option.bind (f93 66 t0.text.insns t0.text.handlers t0.text.loops t0.text.selects t0.text.lists t0.text.objs t0.text.inits t0.text.excs t0.text.tasks t0.text.prots t0.text.checks (List.length a.barriers:Int) 256 e 1) λf=>
 (bif (!f.1) then some false else(f30_l2 t0 d a na (IntKind.i64.wrap (c+1)))) else(d a.ceiling a.barriers))
def f30_l1(t0:aT)(d:Unit→oB):Nat→Int→oB
 |0,_=>none
 |n+1,c=>
 (bif (decide (c<(List.length t0.text.prots:Int))) then ap (λ(f:Int)(g:List aq)=>
 (f30_l1 t0 d n (IntKind.i64.wrap (c+1)))) λe=>
 Option.bind (idx t0.text.prots c) λa=>
 (bif (((decide (a.ceiling<0))||(decide (a.ceiling>31)))||(decide ((List.length a.barriers:Int)>8))) then some false else(f30_l2 t0 e a (Int.toNat ((List.length a.barriers:Int) - 0)+1) 0)) else(d ()))
def f30(t0:aT):oB:=
 ap (λ(_:Unit)=>
 some (decide ((List.length t0.text.prots:Int)≤32))) λa=>
 (f30_l1 t0 a (Int.toNat ((List.length t0.text.prots:Int) - 0)+1) 0)
def f157(n0:Int)(a:aT)(c:Int):oB:=
 Option.bind (f89 a c n0 1) λd=>
 some d
def f96(t0:aT)(a:Int)(a2:fu):oB:=
 Option.bind (bif (!(f47 t0 a2.at_)) then some true else(Option.bind (bif (!decide (a2.guard=(-1))) then(Option.bind (f157 a2.guard t0 a) λd=>some (!d)) else some false) λe=>some e)) λf=>
 (bif f then some false else(bif (decide (a2.kind=1)) then some (((decide (a2.entry≥0))&&(decide (a2.entry<8)))&&(decide (a2.time=0))) else ap (λ(g:Bool)=>
 (bif g then Option.bind (bif (decide (a2.entry=0)) then(Option.bind (f157 a2.time t0 a) λh=>some h) else some false) λj=>
 some j else some ((decide (a2.kind=4))&&(decide ((IntKind.i64.wrap (BitVec.ofInt IntKind.i64.bits a2.entry|||BitVec.ofInt IntKind.i64.bits a2.time).toNat)=0))))) λc=>
 (bif (decide (a2.kind=2)) then(c (decide (a2.kind=2))) else(c (decide (a2.kind=3))))))
def f31_l2(t0:aT)(a:bI)(d:Int→oB)(e:Unit→oB):Nat→Int→oB
 |0,_=>none
 |na+1,c=>
 (bif (decide (c<(List.length a.alts:Int))) then Option.bind (idx a.alts c) λf=>
 ap (λ(g:Bool)=>
 (bif g then(d c) else(f31_l2 t0 a d e na (IntKind.i64.wrap (c+1))))) λh=>
 Option.bind (f96 t0 a.obj f) λj=>
 (h (!j)) else(e ()))
def f31_l1(t0:aT)(d:Unit→oB):Nat→Int→oB
 |0,_=>none
 |n+1,c=>
 (bif (decide (c<(List.length t0.text.selects:Int))) then Option.bind (idx t0.text.selects c) λa=>
 (bif (((((decide ((List.length a.alts:Int)<1))||(decide ((List.length a.alts:Int)>16)))||(decide (a.obj<0)))||(decide (a.obj≥(List.length t0.text.objs:Int))))||((!decide (a.else_=(-1)))&&(!(f47 t0 a.else_)))) then some false else ap (λ(f:Bool)=>
 (bif f then some false else(f31_l1 t0 d n (IntKind.i64.wrap (c+1))))) λg=>
 ap (λ(h:Int)=>
 (g (decide (h≥0)))) λe=>
 ap (λ(_:Unit)=>
 (e (-1))) λj=>
 (f31_l2 t0 a e j (Int.toNat ((List.length a.alts:Int) - 0)+1) 0)) else(d ()))
def f31(t0:aT):oB:=
 (bif (decide ((List.length t0.text.selects:Int)>1024)) then some false else ap (λ(_:Unit)=>
 some true) λa=>
 (f31_l1 t0 a (Int.toNat ((List.length t0.text.selects:Int) - 0)+1) 0))
def f50(h0:az)(a1:Int):Bool:=
 ((decide (h0.from_≤a1))&&(decide (a1<h0.to)))
def f32_l2(t0:aT)(d:Int)(f:Int→Int→Int→Bool→oB)(a:az):Nat→Int→oB
 |0,_=>none
 |na+1,e=>
 (bif (decide (e<(List.length (bC t0.text.handlers 0 d):Int))) then Option.bind (idx (bC t0.text.handlers 0 d) e) λc=>
 (bif ((!((decide (c.from_≥a.from_))&&(decide (c.to≤a.to))))&&(decide ((if a.from_>c.from_ then a.from_ else c.from_)<(if a.to<c.to then a.to else c.to)))) then some false else(f32_l2 t0 d f a na (IntKind.i64.wrap (e+1)))) else(f a.from_ a.to a.at_ a.clean))
def f32_l1(t0:aT)(d:Unit→oB):Nat→Int→oB
 |0,_=>none
 |n+1,c=>
 (bif (decide (c<(List.length t0.text.handlers:Int))) then ap (λ(f:Int)(g:Int)(h:Int)(j:Bool)=>
 (f32_l1 t0 d n (IntKind.i64.wrap (c+1)))) λe=>
 Option.bind (idx t0.text.handlers c) λa=>
 (bif (((((decide (a.from_<0))||(decide (a.from_≥a.to)))||(decide (a.to>(List.length t0.text.insns:Int))))||(!(f47 t0 a.at_)))||(f50 a a.at_)) then some false else iv (dL t0.text.handlers 0 c)<|
 (f32_l2 t0 c e a (Int.toNat ((List.length (bC t0.text.handlers 0 c):Int) - 0)+1) 0)) else(d ()))
def f32(t0:aT):oB:=
 (bif (decide ((List.length t0.text.handlers:Int)>4096)) then some false else ap (λ(_:Unit)=>
 some true) λa=>
 (f32_l1 t0 a (Int.toNat ((List.length t0.text.handlers:Int) - 0)+1) 0))
def f97(x0:aM)(a:Int):Bool:=
 ((((decide (x0.op=29))||(decide (x0.op=30)))||(decide (x0.op=31)))&&(decide (x0.to=a)))
def f33_l1(t0:aT)(e:(List (Int×Bool))→oB):Nat→Int→(List (Int×Bool))→oB
 |0,_,_=>none
 |n+1,c,d=>
 (bif (decide (c<(List.length t0.text.loops:Int))) then Option.bind (idx t0.text.loops c) λa=>
 Option.bind (bif ((((decide (a.head<0))||(decide (a.head>a.back)))||(!(f47 t0 a.back)))||(Option.getD (bT d a.back) false)) then some true else(Option.bind (idx t0.text.insns a.back) λf=>some (!(f97 f a.head)))) λg=>
 (bif ((g||(decide (a.bound<0)))||(decide (a.bound>2147483647))) then some false else(f33_l1 t0 e n (IntKind.i64.wrap (c+1)) (ba d a.back true))) else(e d))
def f33(t0:aT):oB:=
 (bif (decide ((List.length t0.text.loops:Int)>4096)) then some false else ap (λ(c:List (Int×Bool))=>
 some true) λa=>
 (f33_l1 t0 a (Int.toNat ((List.length t0.text.loops:Int) - 0)+1) 0 ([]:List (Int×Bool))))
def f61(t0:aT)(a1:Int):oB:=
 Option.bind (bif (f47 t0 a1) then(Option.bind (idx t0.text.insns a1) λa=>Option.bind (bif (decide (a.op=27)) then some true else(Option.bind (idx t0.text.insns a1) λc=>some (decide (c.op=28)))) λd=>some d) else some false) λe=>
 some e
def f34_l1(t0:aT)(d:Unit→oB):Nat→Int→Int→oB
 |0,_,_=>none
 |n+1,e,c=>
 (bif (decide (c<(List.length t0.text.checks:Int))) then Option.bind (idx t0.text.checks c) λa=>
 Option.bind (bif (decide (a.at_≤e)) then some true else(Option.bind (f61 t0 a.at_) λf=>some (!f))) λg=>
 (bif ((g||(decide (a.kind<1)))||(decide (a.kind>5))) then some false else(f34_l1 t0 d n a.at_ (IntKind.i64.wrap (c+1)))) else(d ()))
def f34(t0:aT):oB:=
 ap (λ(_:Unit)=>
 some true) λa=>
 (f34_l1 t0 a (Int.toNat ((List.length t0.text.checks:Int) - 0)+1) (-1) 0)
def f98_l1(s0:lN)(c:aM→oB)(d:Unit→Option (Int)):Nat→Int→Option (Int)
 |0,_=>none
 |n+1,a=>
 (bif (decide (a<(List.length s0:Int))) then Option.bind (idx s0 a) λe=>
 Option.bind (c e) λf=>
 (bif f then some a else(f98_l1 s0 c d n (IntKind.i64.wrap (a+1)))) else(d ()))
def f98(s0:lN)(a:aM→oB):Option Int:=
 ap (λ(_:Unit)=>
 some (-1)) λc=>
 (f98_l1 s0 a c (Int.toNat ((List.length s0:Int) - 0)+1) 0)
def f35(s0:lN)(a:aM→oB):oB:=
 Option.bind (f98 s0 a) λc=>
 some (decide (c≥0))
def f158(o0:Int):Option (ez×Bool):=
 (bif ((decide (o0<1))||(decide ((IntKind.i64.wrap o0)>57))) then some ((ez.mk ByteArray.empty ByteArray.empty),false) else Option.bind (idx fU (IntKind.u8.wrap (o0 - 1))) λa=>
 some (a,true))
def f186_l1(s0:ByteArray)(c:Int→Int→Option (List ByteArray)):Nat→Int→Int→Int→Int→Option (List ByteArray)
 |0,_,_,_,_=>none
 |n+1,d,wasSpace116,setBits117,a=>
 (bif (decide (a<(s0.size:Int))) then Option.bind (dg s0 a) λe=>
 Option.bind (idx bW e) λf=>
 (f186_l1 s0 c n (IntKind.i64.wrap (d+(IntKind.i64.wrap (BitVec.ofInt IntKind.i64.bits wasSpace116&&&BitVec.ofInt IntKind.i64.bits (IntKind.i64.wrap (BitVec.ofInt IntKind.i64.bits (-1)^^^BitVec.ofInt IntKind.i64.bits (IntKind.i64.wrap f)).toNat)).toNat))) (IntKind.i64.wrap f) (IntKind.u8.wrap (BitVec.ofInt IntKind.u8.bits setBits117|||BitVec.ofInt IntKind.u8.bits e).toNat) (IntKind.i64.wrap (a+1))) else(c d setBits117))
def f186_l2(s0:ByteArray)(c:Int→Option (List ByteArray)):Nat→Int→Option (List ByteArray)
 |0,_=>none
 |n+1,a=>
 Option.bind (bif (decide (a<(s0.size:Int))) then(Option.bind (dg s0 a) λd=>Option.bind (idx bW d) λe=>some (!decide (e=0))) else some false) λf=>
 (bif f then(f186_l2 s0 c n (IntKind.i64.wrap (a+1))) else(c a))
def f186_l4(s0:ByteArray)(c:Int→Option (List ByteArray)):Nat→Int→Option (List ByteArray)
 |0,_=>none
 |na+1,a=>
 Option.bind (bif (decide (a<(s0.size:Int))) then(Option.bind (dg s0 a) λd=>Option.bind (idx bW d) λe=>some (!decide (e=0))) else some false) λf=>
 (bif f then(f186_l4 s0 c na (IntKind.i64.wrap (a+1))) else(c a))
def f186_l3(s0:ByteArray)(e:Int→Int→(List ByteArray)→Option (List ByteArray)):Nat→Int→Int→Int→(List ByteArray)→Option (List ByteArray)
 |0,_,_,_,_=>none
 |n+1,a,fieldStart143,c,d=>
 (bif (decide (c<(s0.size:Int))) then Option.bind (dg s0 c) λg=>
 Option.bind (idx bW g) λh=>
 (bif (decide (h=0)) then(f186_l3 s0 e n a fieldStart143 (IntKind.i64.wrap (c+1)) d) else Option.bind (nT s0 fieldStart143 c) λs152=>
 Option.bind (idx d a) λk=>
 ap (λ(f:Int)=>
 (f186_l3 s0 e n (IntKind.i64.wrap (a+1)) f f (List.set d (Int.toNat a) s152))) λj=>
 (f186_l4 s0 j 9223372036854775808 (IntKind.i64.wrap (c+1)))) else(e a fieldStart143 d))
def f186(s0:ByteArray):Option (List ByteArray):=
 ap (λ(c:Int)(setBits109:Int)=>
 (bif (decide (setBits109≥128)) then none else iv (qJ 16 c)<|
 ap (λ(d:Int)=>
 ap (λ(e:Int)(fieldStart135:Int)(a:List ByteArray)=>
 ap (λ(g:List ByteArray)=>
 some g) λf=>
 (bif (decide (fieldStart135<(s0.size:Int))) then Option.bind (nT s0 fieldStart135 (s0.size:Int)) λh=>
 Option.bind (idx a e) λo=>
 (f (List.set a (Int.toNat e) h)) else(f a))) λj=>
 (f186_l3 s0 j 9223372036854775808 0 d d (List.replicate (Int.toNat c) (ByteArray.empty:ByteArray)))) λk=>
 (f186_l2 s0 k 9223372036854775808 0))) λm=>
 (f186_l1 s0 m 9223372036854775808 0 1 0 0)
def f189(a:Int):Int×Int:=
 (bif (decide (a=114)) then(0,15) else(bif (decide (a=111)) then(0,4095) else(bif (decide (a=115)) then(0,65535) else(bif (decide (a=108)) then(1,65536) else(bif (decide (a=120)) then(1,64) else(bif (decide (a=107)) then(6,7) else(bif (decide (a=101)) then(0,7) else(bif (decide (a=112)) then(0,31) else(bif (decide (a=113)) then((-1),31) else(bif (decide (a=109)) then(0,3) else(bif (decide (a=106)) then(0,1023) else(bif (decide (a=98)) then(0,1) else((-9223372036854775808),9223372036854775807)))))))))))))
def f99_l1(m:Int→Int→Int→Int→Int→Int→ByteArray→ByteArray→Int→Int→Int→Int→oB)(o:Int→Int→Int→Int→Int→Int→ByteArray→ByteArray→Int→Int→Int→Int→oB)(p:Int→Int→Int→Int→Int→Int→ByteArray→ByteArray→Int→Int→Int→Int→oB)(r:Int→Int→Int→Int→Int→Int→ByteArray→ByteArray→Int→Int→Int→Int→oB)(t:Int→Int→Int→Int→Int→Int→ByteArray→ByteArray→Int→Int→Int→Int→oB)(w:Int→Int→Int→Int→Int→Int→ByteArray→ByteArray→Int→Int→Int→Int→oB)(x:Int→Int→Int→Int→Int→Int→ByteArray→ByteArray→oB)(a:ez×Bool)(j:List ByteArray):Nat→Int→Int→Int→Int→Int→Int→Int→oB
 |0,_,_,_,_,_,_,_=>none
 |n+1,k,c,d,e,f,g,h=>
 (bif (decide (k<(List.length j:Int))) then Option.bind (idx j k) λy=>
 Option.bind (dg y 0) λH=>
 (bif (decide (H=68)) then ap (λ(_:Unit)=>
 Option.bind (dg y 1) λA=>
 ap (λ(_:Unit)=>
 (m c d e f g h a.1.name a.1.fields ((f189 A).1) ((f189 A).2) ((f189 A).1) ((f189 A).2))) λI=>
 ap (λ(_:Unit)=>
 (f99_l1 m o p r t w x a j n (IntKind.i64.wrap (k+1)) 0 d e f g h)) λJ=>
 ap (λ(_:Unit)=>
 (bif ((decide (c<((f189 A).1)))||(decide (c>((f189 A).2)))) then(I ()) else ap (λ(_:Unit)=>
 (J ())) λK=>
 (K ()))) λL=>
 (L ())) λM=>
 (M ()) else(bif (decide (H=65)) then ap (λ(_:Unit)=>
 Option.bind (dg y 1) λB=>
 ap (λ(_:Unit)=>
 (o c d e f g h a.1.name a.1.fields ((f189 B).1) ((f189 B).2) ((f189 B).1) ((f189 B).2))) λN=>
 ap (λ(_:Unit)=>
 (f99_l1 m o p r t w x a j n (IntKind.i64.wrap (k+1)) c 0 e f g h)) λO=>
 ap (λ(_:Unit)=>
 (bif ((decide (d<((f189 B).1)))||(decide (d>((f189 B).2)))) then(N ()) else ap (λ(_:Unit)=>
 (O ())) λP=>
 (P ()))) λQ=>
 (Q ())) λR=>
 (R ()) else(bif (decide (H=66)) then ap (λ(_:Unit)=>
 Option.bind (dg y 1) λC=>
 ap (λ(_:Unit)=>
 (p c d e f g h a.1.name a.1.fields ((f189 C).1) ((f189 C).2) ((f189 C).1) ((f189 C).2))) λS=>
 ap (λ(_:Unit)=>
 (f99_l1 m o p r t w x a j n (IntKind.i64.wrap (k+1)) c d 0 f g h)) λT=>
 ap (λ(_:Unit)=>
 (bif ((decide (e<((f189 C).1)))||(decide (e>((f189 C).2)))) then(S ()) else ap (λ(_:Unit)=>
 (T ())) λU=>
 (U ()))) λV=>
 (V ())) λW=>
 (W ()) else(bif (decide (H=78)) then ap (λ(_:Unit)=>
 Option.bind (dg y 1) λE=>
 ap (λ(_:Unit)=>
 (r c d e f g h a.1.name a.1.fields ((f189 E).1) ((f189 E).2) ((f189 E).1) ((f189 E).2))) λX=>
 ap (λ(_:Unit)=>
 (f99_l1 m o p r t w x a j n (IntKind.i64.wrap (k+1)) c d e 0 g h)) λY=>
 ap (λ(_:Unit)=>
 (bif ((decide (f<((f189 E).1)))||(decide (f>((f189 E).2)))) then(X ()) else ap (λ(_:Unit)=>
 (Y ())) λZ=>
 (Z ()))) λad=>
 (ad ())) λag=>
 (ag ()) else(bif (decide (H=77)) then ap (λ(_:Unit)=>
 Option.bind (dg y 1) λF=>
 ap (λ(_:Unit)=>
 (t c d e f g h a.1.name a.1.fields ((f189 F).1) ((f189 F).2) ((f189 F).1) ((f189 F).2))) λa0=>
 ap (λ(_:Unit)=>
 (f99_l1 m o p r t w x a j n (IntKind.i64.wrap (k+1)) c d e f 0 h)) λa1=>
 ap (λ(_:Unit)=>
 (bif ((decide (g<((f189 F).1)))||(decide (g>((f189 F).2)))) then(a0 ()) else ap (λ(_:Unit)=>
 (a1 ())) λa6=>
 (a6 ()))) λa7=>
 (a7 ())) λa'=>
 (a' ()) else ap (λ(_:Unit)=>
 Option.bind (dg y 1) λG=>
 ap (λ(_:Unit)=>
 (w c d e f g h a.1.name a.1.fields ((f189 G).1) ((f189 G).2) ((f189 G).1) ((f189 G).2))) λbb=>
 ap (λ(_:Unit)=>
 (f99_l1 m o p r t w x a j n (IntKind.i64.wrap (k+1)) c d e f g 0)) λbk=>
 ap (λ(_:Unit)=>
 (bif ((decide (h<((f189 G).1)))||(decide (h>((f189 G).2)))) then(bb ()) else ap (λ(_:Unit)=>
 (bk ())) λbs=>
 (bs ()))) λb0=>
 (b0 ())) λb1=>
 (b1 ())))))) else(x c d e f g h a.1.name a.1.fields))
def f99(x0:aM):oB:=
 Option.bind (f158 x0.op) λf=>
 (bif ((!f.2)||((decide (x0.op=27))&&(decide (x0.n>x0.m)))) then some false else(bif (((decide (x0.op=37))&&(decide ((IntKind.u8.wrap x0.n)=6)))&&(!decide (x0.m=0))) then some false else ap (λ(g:Int)(h:Int)(j:Int)(k:Int)(o:Int)(p:Int)(N:ByteArray)(O:ByteArray)=>
 some (((decide (x0.op=x0.op))&&((decide (g=0))&&((decide (h=0))&&((decide (j=0))&&((decide (k=0))&&((decide (o=0))&&((decide (p=0))&&true))))))))) λr=>
 ap (λ(_:Unit)=>
 ap (λ(P:Int)(Q:Int)(R:Int)(S:Int)(T:Int)(U:Int)(V:ByteArray)(W:ByteArray)(X:Int)(Y:Int)(Z:Int)(ad:Int)=>
 some false) λt=>
 ap (λ(ag:Int)(a0:Int)(a1:Int)(a6:Int)(a7:Int)(a':Int)(bb:ByteArray)(bk:ByteArray)(bs:Int)(b0:Int)(b1:Int)(b2:Int)=>
 some false) λw=>
 ap (λ(b3:Int)(b4:Int)(b5:Int)(b6:Int)(b7:Int)(b8:Int)(b9:ByteArray)(b':ByteArray)(ca:Int)(cc:Int)(cd:Int)(ci:Int)=>
 some false) λx=>
 ap (λ(cj:Int)(cl:Int)(cp:Int)(c0:Int)(c1:Int)(c2:Int)(c3:ByteArray)(c4:ByteArray)(c5:Int)(c6:Int)(c7:Int)(c8:Int)=>
 some false) λy=>
 ap (λ(c':Int)(dd:Int)(df:Int)(ds:Int)(dS:Int)(d0:Int)(d1:ByteArray)(d2:ByteArray)(d':Int)(ec:Int)(ee:Int)(ei:Int)=>
 some false) λA=>
 ap (λ(el:Int)(em:Int)(en:Int)(eq:Int)(er:Int)(es:Int)(et:ByteArray)(ew:ByteArray)(ex:Int)(ey:Int)(e0:Int)(e1:Int)=>
 some false) λB=>
 ap (λ(C:Int)(E:Int)(F:Int)(G:Int)(H:Int)(I:Int)(J:ByteArray)(K:ByteArray)=>
 (r C E F G H I J K)) λL=>
 Option.bind (f158 x0.op) λc=>
 Option.bind (f186 c.1.fields) λe=>
 (f99_l1 t w x y A B L c e (Int.toNat ((List.length e:Int) - 0)+1) 0 x0.d x0.a x0.b x0.n x0.m x0.to)) λM=>
 (M ())))
def f100(y0:aM):Bool:=
 (!decide (y0.op=29))
def f101(t0:aT)(a:Int)(n2:Int):Option (Int×Bool):=
 Option.bind (bif (((decide (a<0))||(decide (a≥(List.length t0.text.tasks:Int))))||(decide (n2<0))) then some true else(Option.bind (idx t0.text.tasks a) λd=>some (decide (n2≥(List.length d.entries:Int))))) λe=>
 (bif e then some (0,false) else Option.bind (idx t0.text.tasks a) λf=>
 Option.bind (idx f.entries n2) λc=>
 some ((IntKind.i64.wrap ((IntKind.i64.wrap ((List.length c.ins:Int)+(List.length c.outs:Int)))+1)),true))
def f102(t0:aT)(p1:Int)(n2:Int):oB:=
 Option.bind (bif (((decide (p1≥0))&&(decide (p1<(List.length t0.text.prots:Int))))&&(decide (n2≥0))) then(Option.bind (idx t0.text.prots p1) λa=>some (decide (n2<(List.length a.barriers:Int)))) else some false) λc=>
 some c
def f37(t0:aT)(x1:aM):oB:=
 Option.bind (f99 x1) λj=>
 (bif (!j) then some false else ap (λ(k:Bool)=>
 (bif k then Option.bind (f89 t0 x1.n x1.m 1) λo=>
 some o else ap (λ(p:Bool)=>
 (bif p then Option.bind (f89 t0 x1.n x1.m x1.b) λr=>
 some r else ap (λ(t:Bool)=>
 (bif t then some (f47 t0 x1.to) else(bif (decide (x1.op=32)) then Option.bind (bif (decide ((IntKind.i64.wrap (x1.to+x1.m))≤(List.length t0.text.insns:Int))) then(iv (dL t0.text.insns x1.to (IntKind.i64.wrap (x1.to+x1.m)))<|Option.bind (f35 (bC t0.text.insns x1.to (IntKind.i64.wrap (x1.to+x1.m))) (λz0=>some (f100 z0))) λw=>some (!w)) else some false) λx=>
 some x else(bif (decide (x1.op=33)) then some (decide (x1.n≤t0.text.excs)) else ap (λ(y:Bool)=>
 (bif y then some (decide (x1.n<(List.length t0.text.lists:Int))) else(bif (decide (x1.op=50)) then some (decide (x1.n<(List.length t0.text.selects:Int))) else(bif (decide (x1.op=49)) then Option.bind (f101 t0 x1.a x1.b) λe=>
 Option.bind (bif e.2 then(Option.bind (f89 t0 x1.n 0 e.1) λA=>some A) else some false) λB=>
 some B else(bif (decide (x1.op=52)) then Option.bind (f101 t0 x1.a x1.b) λC=>
 some (C.2&&(decide (x1.to<(List.length t0.text.insns:Int)))) else ap (λ(E:Bool)=>
 (bif E then some (decide (x1.n<(List.length t0.text.prots:Int))) else(bif (decide (x1.op=54)) then Option.bind (f102 t0 x1.n x1.m) λF=>
 some F else(bif (decide (x1.op=43)) then Option.bind (bif (decide (x1.m<0)) then some true else(Option.bind (f102 t0 x1.m x1.n) λG=>some G)) λH=>
 some H else some true)))) λf=>
 (bif (decide (x1.op=53)) then(f (decide (x1.op=53))) else(f (decide (x1.op=55))))))))) λc=>
 (bif (decide (x1.op=44)) then(c (decide (x1.op=44))) else(bif (decide (x1.op=45)) then(c (decide (x1.op=45))) else(bif (decide (x1.op=46)) then(c (decide (x1.op=46))) else(c (decide (x1.op=56)))))))))) λd=>
 (bif (decide (x1.op=29)) then(d (decide (x1.op=29))) else(bif (decide (x1.op=30)) then(d (decide (x1.op=30))) else(d (decide (x1.op=31))))))) λg=>
 (bif (decide (x1.op=5)) then(g (decide (x1.op=5))) else(g (decide (x1.op=6)))))) λh=>
 (bif (decide (x1.op=3)) then(h (decide (x1.op=3))) else(h (decide (x1.op=4)))))
def f10_l1(t0:af)(c:Int→oB)(d:Unit→oB):Nat→Int→oB
 |0,_=>none
 |n+1,a=>
 (bif (decide (a<(List.length t0.insns:Int))) then Option.bind (idx t0.insns a) λe=>
 ap (λ(f:Bool)=>
 (bif f then(c a) else(f10_l1 t0 c d n (IntKind.i64.wrap (a+1))))) λg=>
 Option.bind (f37 (aT.mk t0) e) λh=>
 (g (!h)) else(d ()))
def f10(t0:af):oB:=
 (bif ((decide ((List.length t0.insns:Int)<1))||(decide ((List.length t0.insns:Int)>65536))) then some false else Option.bind (idx t0.insns (IntKind.i64.wrap ((List.length t0.insns:Int) - 1))) λa=>
 ap (λ(e:Bool)=>
 (bif e then ap (λ(_:Unit)=>
 ap (λ(f:Bool)=>
 some (!f)) λg=>
 ap (λ(h:Int)=>
 (g (decide (h≥0)))) λd=>
 ap (λ(_:Unit)=>
 (d (-1))) λj=>
 (f10_l1 t0 d j (Int.toNat ((List.length t0.insns:Int) - 0)+1) 0)) λk=>
 Option.bind (f27 (aT.mk t0)) λm=>
 (bif (!m) then some false else Option.bind (f28 (aT.mk t0)) λo=>
 (bif (!o) then some false else Option.bind (f29 (aT.mk t0)) λp=>
 (bif (!p) then some false else Option.bind (f30 (aT.mk t0)) λr=>
 (bif (!r) then some false else Option.bind (f31 (aT.mk t0)) λt=>
 (bif (!t) then some false else Option.bind (f32 (aT.mk t0)) λw=>
 (bif (!w) then some false else Option.bind (f33 (aT.mk t0)) λx=>
 (bif (!x) then some false else Option.bind (f34 (aT.mk t0)) λy=>
 (bif (!y) then some false else(k ()))))))))) else some false)) λc=>
 (bif (decide (a.op=29)) then(c (decide (a.op=29))) else(bif (decide (a.op=33)) then(c (decide (a.op=33))) else(bif (decide (a.op=34)) then(c (decide (a.op=34))) else(c (decide (a.op=57)))))))
def f24s_l1(d:aq→Option (Int))(e0:aq)(e:Int→Option (Int)):Nat→Int→Int→Option (Int)
 |0,_,_=>none
 |n+1,a,c=>
 (bif ((decide (c<(List.length e0.l:Int)))&&(decide (a<400))) then Option.bind (idx e0.l c) λf=>
 Option.bind (d f) λg=>
 (f24s_l1 d e0 e n (IntKind.i64.wrap (a+g)) (IntKind.i64.wrap (c+1))) else(e a))
def f24s(a:aq→Option (Int))(e0:aq):Option Int:=
 ap (λ(c:Int)=>
 some c) λd=>
 (f24s_l1 a e0 d 9223372036854775808 1 0)
def f24:Nat→aq→Option (Int)
 |0=>λ_=>none
 |n+1=>f24s (f24 n)
mutual
def mv:aq→Nat
 | .mk _ _ _ _ _ _ _ _ l=>depL l+1
def depL:List aq→Nat
 |[]=>0
 |e::l=>max (mv e) (depL l)
end
def f24w(x0:aq):Option Int:=f24 (mv x0) x0
def f8_l1(t0:af)(c:Int→oB):Nat→Int→Int→oB
 |0,_,_=>none
 |n+1,d,a=>
 (bif (decide (a<(List.length t0.selects:Int))) then Option.bind (idx t0.selects a) λe=>
 (f8_l1 t0 c n (IntKind.i64.wrap (d+(List.length e.alts:Int))) (IntKind.i64.wrap (a+1))) else(c d))
def f8_l2(t0:af)(c:Int→oB):Nat→Int→Int→oB
 |0,_,_=>none
 |n+1,d,a=>
 (bif (decide (a<(List.length t0.lists:Int))) then Option.bind (idx t0.lists a) λe=>
 (f8_l2 t0 c n (IntKind.i64.wrap (d+(List.length e:Int))) (IntKind.i64.wrap (a+1))) else(c d))
def f8_l3(t0:af)(d:Int→oB):Nat→Int→Int→oB
 |0,_,_=>none
 |n+1,e,a=>
 (bif (decide (a<(List.length t0.objs:Int))) then Option.bind (idx t0.objs a) λf=>
 Option.bind (idx t0.objs a) λc=>
 (f8_l3 t0 d n (IntKind.i64.wrap ((IntKind.i64.wrap (e+(List.length f.set_:Int)))+(if(IntKind.i64.wrap (Int.tdiv (if 40000<c.size then 40000 else c.size) 20))>0 then(IntKind.i64.wrap (Int.tdiv (if 40000<c.size then 40000 else c.size) 20)) else 0))) (IntKind.i64.wrap (a+1))) else(d e))
def f8_l5(t0:af)(c:Int)(d:Int→oB):Nat→Int→Int→oB
 |0,_,_=>none
 |na+1,e,a=>
 Option.bind (idx t0.tasks c) λf=>
 (bif ((decide (a<(List.length f.entries:Int)))&&(decide (a<100))) then Option.bind (idx t0.tasks c) λg=>
 Option.bind (idx g.entries a) λh=>
 Option.bind (idx t0.tasks c) λj=>
 Option.bind (idx j.entries a) λk=>
 (f8_l5 t0 c d na (IntKind.i64.wrap ((IntKind.i64.wrap ((IntKind.i64.wrap (e+(List.length h.ins:Int)))+(List.length k.outs:Int)))+1)) (IntKind.i64.wrap (a+1))) else(d e))
def f8_l4(t0:af)(d:Int→oB):Nat→Int→Int→oB
 |0,_,_=>none
 |n+1,c,a=>
 (bif ((decide (a<(List.length t0.tasks:Int)))&&(decide (c≤3000))) then ap (λ(e:Int)=>
 (f8_l4 t0 d n e (IntKind.i64.wrap (a+1)))) λf=>
 ap (λ(g:Int)=>
 Option.bind (idx t0.tasks a) λh=>
 (f (IntKind.i64.wrap (g+(List.length h.entries:Int))))) λj=>
 (f8_l5 t0 a j 9223372036854775808 c 0) else(d c))
def f8_l7(t0:af)(c:Int)(e:Int→oB):Nat→Int→Int→oB
 |0,_,_=>none
 |na+1,d,a=>
 Option.bind (idx t0.prots c) λf=>
 (bif (((decide (a<(List.length f.barriers:Int)))&&(decide (a<100)))&&(decide (d≤3000))) then Option.bind (idx t0.prots c) λg=>
 Option.bind (idx g.barriers a) λh=>
 Option.bind (f24w h) λj=>
 (f8_l7 t0 c e na (IntKind.i64.wrap (d+j)) (IntKind.i64.wrap (a+1))) else(e d))
def f8_l6(t0:af)(d:Int→oB):Nat→Int→Int→oB
 |0,_,_=>none
 |n+1,c,a=>
 (bif ((decide (a<(List.length t0.prots:Int)))&&(decide (c≤3000))) then ap (λ(e:Int)=>
 (f8_l6 t0 d n e (IntKind.i64.wrap (a+1)))) λf=>
 Option.bind (idx t0.prots a) λg=>
 (f8_l7 t0 a f 9223372036854775808 (IntKind.i64.wrap (c+(List.length g.barriers:Int))) 0) else(d c))
def f8(t0:af):oB:=
 (bif (decide ((IntKind.i64.wrap ((IntKind.i64.wrap ((IntKind.i64.wrap ((IntKind.i64.wrap ((IntKind.i64.wrap ((IntKind.i64.wrap ((IntKind.i64.wrap ((IntKind.i64.wrap ((IntKind.i64.wrap ((List.length t0.insns:Int)+(List.length t0.handlers:Int)))+(List.length t0.loops:Int)))+(List.length t0.selects:Int)))+(List.length t0.lists:Int)))+(List.length t0.objs:Int)))+(List.length t0.inits:Int)))+(List.length t0.tasks:Int)))+(List.length t0.prots:Int)))+(List.length t0.checks:Int)))>500)) then some true else ap (λ(a:Int)=>
 ap (λ(c:Int)=>
 ap (λ(d:Int)=>
 ap (λ(e:Int)=>
 ap (λ(f:Int)=>
 some (decide (f>3000))) λg=>
 (f8_l6 t0 g 9223372036854775808 e 0)) λh=>
 (f8_l4 t0 h 9223372036854775808 d 0)) λj=>
 (f8_l3 t0 j 9223372036854775808 c 0)) λk=>
 (f8_l2 t0 k 9223372036854775808 a 0)) λm=>
 (f8_l1 t0 m 9223372036854775808 (IntKind.i64.wrap ((IntKind.i64.wrap ((IntKind.i64.wrap ((IntKind.i64.wrap ((IntKind.i64.wrap ((IntKind.i64.wrap ((IntKind.i64.wrap ((IntKind.i64.wrap ((IntKind.i64.wrap ((List.length t0.insns:Int)+(List.length t0.handlers:Int)))+(List.length t0.loops:Int)))+(List.length t0.selects:Int)))+(List.length t0.lists:Int)))+(List.length t0.objs:Int)))+(List.length t0.inits:Int)))+(List.length t0.tasks:Int)))+(List.length t0.prots:Int)))+(List.length t0.checks:Int))) 0))
def f46_l1(o0:Obj)(v1:Int)(c:Unit→oB):Nat→Int→oB
 |0,_=>none
 |n+1,a=>
 (bif (decide (a<(List.length o0.set_:Int))) then Option.bind (idx o0.set_ a) λd=>
 (bif (decide (v1=(IntKind.i64.wrap (d+1)))) then some true else(f46_l1 o0 v1 c n (IntKind.i64.wrap (a+1)))) else(c ()))
def f46(o0:Obj)(v1:Int):oB:=
 (bif (!o0.ptr) then some ((decide (v1≥o0.lo))&&(decide (v1≤o0.hi))) else ap (λ(_:Unit)=>
 some (decide (v1=0))) λa=>
 (f46_l1 o0 v1 a 9223372036854775808 0))
def f103_l1(t0:af)(o1:Obj)(d:Unit→oB):Nat→Int→oB
 |0,_=>none
 |n+1,a=>
 (bif (decide (a<(List.length o1.set_:Int))) then Option.bind (idx o1.set_ a) λc=>
 Option.bind (bif ((decide (c<0))||(decide (c≥(List.length t0.objs:Int)))) then some true else(Option.bind (idx t0.objs c) λe=>some (!decide (e.size=1)))) λf=>
 Option.bind (bif f then some true else(Option.bind (idx t0.objs c) λg=>some g.ptr)) λh=>
 Option.bind (bif h then some true else(Option.bind (bif (decide (a>0)) then(Option.bind (idx o1.set_ (IntKind.i64.wrap (a - 1))) λj=>some (decide (j≥c))) else some false) λk=>some k)) λm=>
 (bif m then some false else(f103_l1 t0 o1 d n (IntKind.i64.wrap (a+1)))) else(d ()))
def f103(t0:af)(o1:Obj):oB:=
 (bif (((((decide (o1.size<1))||(decide (o1.size>16384)))||(decide (o1.lo>o1.hi)))||((!o1.ptr)&&(decide ((List.length o1.set_:Int)>0))))||(o1.ptr&&((!decide (o1.lo=0))||(!decide (o1.hi=0))))) then some false else ap (λ(_:Unit)=>
 some true) λa=>
 (f103_l1 t0 o1 a 9223372036854775808 0))
def f104(t0:af)(o1:Int)(a:Int)(c:Int):oB:=
 Option.bind (bif ((((decide (o1≥0))&&(decide (o1<(List.length t0.objs:Int))))&&(decide (a≥0)))&&(decide (c≥0))) then(Option.bind (idx t0.objs o1) λd=>some (decide (a≤(IntKind.i64.wrap (d.size - c))))) else some false) λe=>
 some e
def f38_l1(t0:af)(c:Int→oB):Nat→Int→Int→oB
 |0,_,_=>none
 |n+1,d,a=>
 (bif (decide (a<(List.length t0.objs:Int))) then Option.bind (idx t0.objs a) λe=>
 Option.bind (f103 t0 e) λf=>
 (bif (!f) then some false else Option.bind (idx t0.objs a) λg=>
 (f38_l1 t0 c n (IntKind.i64.wrap (d+g.size)) (IntKind.i64.wrap (a+1)))) else(c d))
def f38_l3(t0:af)(d:Int)(e:Int→Int→Int→oB)(a:cw):Nat→Int→oB
 |0,_=>none
 |na+1,c=>
 (bif (decide (c<d)) then Option.bind (idx t0.inits c) λf=>
 Option.bind (bif (decide (f.o=a.o)) then(Option.bind (idx t0.inits c) λg=>some (decide (g.slot=a.slot))) else some false) λh=>
 (bif h then some false else(f38_l3 t0 d e a na (IntKind.i64.wrap (c+1)))) else(e a.o a.slot a.v))
def f38_l2(t0:af)(d:Unit→oB):Nat→Int→oB
 |0,_=>none
 |n+1,c=>
 (bif (decide (c<(List.length t0.inits:Int))) then ap (λ(k:Int)(m:Int)(p:Int)=>
 (f38_l2 t0 d n (IntKind.i64.wrap (c+1)))) λe=>
 Option.bind (idx t0.inits c) λa=>
 Option.bind (f104 t0 a.o a.slot 1) λf=>
 Option.bind (bif (!f) then some true else(Option.bind (idx t0.objs a.o) λg=>Option.bind (f46 g a.v) λh=>some (!h))) λj=>
 (bif j then some false else(f38_l3 t0 c e a 9223372036854775808 0)) else(d ()))
def f38(t0:af):oB:=
 (bif ((((decide ((List.length t0.objs:Int)>4096))||(decide (t0.excs<4)))||(decide (t0.excs>64)))||(decide ((List.length t0.inits:Int)>65536))) then some false else ap (λ(a:Int)=>
 ap (λ(_:Unit)=>
 some (decide (a≤65536))) λc=>
 (f38_l2 t0 c 9223372036854775808 0)) λd=>
 (f38_l1 t0 d 9223372036854775808 0 0))
def f51(t0:af)(a1:Int):Bool:=
 ((decide (a1≥0))&&(decide (a1<(List.length t0.insns:Int))))
def f105_l1(t0:af)(l1:lI)(c:Unit→oB):Nat→Int→oB
 |0,_=>none
 |n+1,a=>
 (bif (decide (a<(List.length l1:Int))) then Option.bind (idx l1 a) λd=>
 Option.bind (bif (decide (d<0)) then some true else(Option.bind (idx l1 a) λe=>some (decide (e≥(List.length t0.objs:Int))))) λf=>
 Option.bind (bif f then some true else(Option.bind (idx l1 a) λg=>Option.bind (idx t0.objs g) λh=>some (!decide (h.size=1)))) λj=>
 (bif j then some false else(f105_l1 t0 l1 c n (IntKind.i64.wrap (a+1)))) else(c ()))
def f105(t0:af)(l1:lI):oB:=
 (bif (decide ((List.length l1:Int)>8)) then some false else ap (λ(_:Unit)=>
 some true) λa=>
 (f105_l1 t0 l1 a 9223372036854775808 0))
def f39_l2(t0:af)(d:Int→Int→(List bd)→Int→oB)(a:dc):Nat→Int→oB
 |0,_=>none
 |na+1,c=>
 (bif (decide (c<(List.length a.entries:Int))) then Option.bind (idx a.entries c) λe=>
 Option.bind (f105 t0 e.ins) λf=>
 Option.bind (bif (!f) then some true else(Option.bind (idx a.entries c) λg=>Option.bind (f105 t0 g.outs) λh=>some (!h))) λj=>
 (bif j then some false else(f39_l2 t0 d a na (IntKind.i64.wrap (c+1)))) else(d a.prio a.at_ a.entries a.deadline))
def f39_l1(t0:af)(d:Unit→oB):Nat→Int→oB
 |0,_=>none
 |n+1,c=>
 (bif (decide (c<(List.length t0.tasks:Int))) then ap (λ(f:Int)(g:Int)(h:List bd)(j:Int)=>
 (f39_l1 t0 d n (IntKind.i64.wrap (c+1)))) λe=>
 Option.bind (idx t0.tasks c) λa=>
 (bif ((((((decide (a.prio<0))||(decide (a.prio>31)))||(!(f51 t0 a.at_)))||(decide (a.deadline<0)))||(decide (a.deadline>2147483647)))||(decide ((List.length a.entries:Int)>8))) then some false else(f39_l2 t0 e a 9223372036854775808 0)) else(d ()))
def f39(t0:af):oB:=
 (bif ((decide ((List.length t0.tasks:Int)<1))||(decide ((List.length t0.tasks:Int)>32))) then some false else ap (λ(_:Unit)=>
 some true) λa=>
 (f39_l1 t0 a 9223372036854775808 0))
def f21(t0:af)(a1:Int):oB:=
 Option.bind (bif (f51 t0 a1) then(Option.bind (idx t0.insns a1) λa=>Option.bind (bif (decide (a.op=27)) then some true else(Option.bind (idx t0.insns a1) λc=>some (decide (c.op=28)))) λd=>some d) else some false) λe=>
 some e
def f106s_l1(d:af→Int→aq→Int→Int→Option (Int))(t0:af)(e:Int)(e2:aq)(f:Int)(g:Int→Option (Int)):Nat→Int→Int→Option (Int)
 |0,_,_=>none
 |n+1,a,c=>
 (bif ((decide (c<(List.length e2.l:Int)))&&(decide (a≥0))) then Option.bind (idx e2.l c) λh=>
 Option.bind (d t0 e h (IntKind.i64.wrap (f+1)) a) λj=>
 (f106s_l1 d t0 e e2 f g n j (IntKind.i64.wrap (c+1))) else(g a))
def f106s(f:af→Int→aq→Int→Int→Option (Int))(t0:af)(c:Int)(e2:aq)(d:Int)(n4:Int):Option Int:=
 (bif ((decide (n4=0))||(decide (d>64))) then some (-1) else ap (λ(g:Int)(h:Bool)(j:Int)(k:Int)(m:Int)(p:Int)=>
 (bif (((!h)||(!(((((((decide (e2.op=j))&&(decide (e2.n=k)))&&(decide (e2.o=m)))&&(decide (e2.off=p)))&&(decide (e2.len=0)))&&(decide (e2.lo=0)))&&(decide (e2.hi=0)))))||(!decide ((List.length e2.l:Int)=g))) then some (-1) else ap (λ(r:Int)=>
 some r) λt=>
 (f106s_l1 f t0 c e2 d t 9223372036854775808 (IntKind.i64.wrap (n4 - 1)) 0))) λa=>
 (bif (decide (e2.kind=1)) then(a 0 true 0 e2.n 0 0) else(bif (decide (e2.kind=2)) then Option.bind (f104 t0 e2.o e2.off 1) λw=>
 Option.bind (bif w then(Option.bind (idx t0.objs e2.o) λx=>some (!x.ptr)) else some false) λy=>
 (a 0 y 0 0 e2.o e2.off) else(bif (decide (e2.kind=14)) then(a 0 ((decide (e2.n≥0))&&(decide (e2.n<c))) 0 e2.n 0 0) else(bif (decide (e2.kind=4)) then(a 1 true 18 0 0 0) else(bif (decide (e2.kind=5)) then(a 2 ((decide (e2.op≥7))&&(decide (e2.op≤15))) e2.op 0 0 0) else ap (λ(A:Bool)=>
 (bif A then(a 2 true 0 0 0 0) else some (-1))) λe=>
 (bif (decide (e2.kind=6)) then(e (decide (e2.kind=6))) else(e (decide (e2.kind=7))))))))))
def f106:Nat→af→Int→aq→Int→Int→Option (Int)
 |0=>λ_ _ _ _ _=>none
 |n+1=>f106s (f106 n)
def f40_l2(t0:af)(d:Int→(List aq)→oB)(a:cO):Nat→Int→oB
 |0,_=>none
 |na+1,c=>
 (bif (decide (c<(List.length a.barriers:Int))) then Option.bind (idx a.barriers c) λe=>
 Option.bind (f106 67 t0 (List.length a.barriers:Int) e 1 256) λf=>
 (bif (decide (f<0)) then some false else(f40_l2 t0 d a na (IntKind.i64.wrap (c+1)))) else(d a.ceiling a.barriers))
def f40_l1(t0:af)(d:Unit→oB):Nat→Int→oB
 |0,_=>none
 |n+1,c=>
 (bif (decide (c<(List.length t0.prots:Int))) then ap (λ(f:Int)(g:List aq)=>
 (f40_l1 t0 d n (IntKind.i64.wrap (c+1)))) λe=>
 Option.bind (idx t0.prots c) λa=>
 (bif (((decide (a.ceiling<0))||(decide (a.ceiling>31)))||(decide ((List.length a.barriers:Int)>8))) then some false else(f40_l2 t0 e a 9223372036854775808 0)) else(d ()))
def f40_l3(t0:af)(d:Unit→oB):Nat→Int→oB
 |0,_=>none
 |n+1,a=>
 (bif (decide (a<(List.length t0.checks:Int))) then Option.bind (idx t0.checks a) λc=>
 Option.bind (f21 t0 c.at_) λe=>
 Option.bind (bif (!e) then some true else(Option.bind (bif (decide (a>0)) then(Option.bind (idx t0.checks (IntKind.i64.wrap (a - 1))) λf=>some (decide (f.at_≥c.at_))) else some false) λg=>some g)) λh=>
 (bif ((h||(decide (c.kind<1)))||(decide (c.kind>5))) then some false else(f40_l3 t0 d n (IntKind.i64.wrap (a+1)))) else(d ()))
def f40(t0:af):oB:=
 (bif (decide ((List.length t0.prots:Int)>32)) then some false else ap (λ(_:Unit)=>
 ap (λ(_:Unit)=>
 some true) λa=>
 (f40_l3 t0 a 9223372036854775808 0)) λc=>
 (f40_l1 t0 c 9223372036854775808 0))
def f107(t0:af)(a:Int)(a2:fu):oB:=
 Option.bind (bif (!(f51 t0 a2.at_)) then some true else(Option.bind (bif (!decide (a2.guard=(-1))) then(Option.bind (f104 t0 a a2.guard 1) λd=>some (!d)) else some false) λe=>some e)) λf=>
 (bif f then some false else(bif (decide (a2.kind=1)) then some (((decide (a2.entry≥0))&&(decide (a2.entry≤7)))&&(decide (a2.time=0))) else ap (λ(g:Bool)=>
 (bif g then Option.bind (bif (decide (a2.entry=0)) then(Option.bind (f104 t0 a a2.time 1) λh=>some h) else some false) λj=>
 some j else some (((decide (a2.kind=4))&&(decide (a2.entry=0)))&&(decide (a2.time=0))))) λc=>
 (bif (decide (a2.kind=2)) then(c (decide (a2.kind=2))) else(c (decide (a2.kind=3))))))
def f41_l2(t0:af)(d:(List fu)→Int→Int→oB)(a:bI):Nat→Int→oB
 |0,_=>none
 |na+1,c=>
 (bif (decide (c<(List.length a.alts:Int))) then Option.bind (idx a.alts c) λe=>
 Option.bind (f107 t0 a.obj e) λf=>
 (bif (!f) then some false else(f41_l2 t0 d a na (IntKind.i64.wrap (c+1)))) else(d a.alts a.obj a.else_))
def f41_l1(t0:af)(d:Unit→oB):Nat→Int→oB
 |0,_=>none
 |n+1,c=>
 (bif (decide (c<(List.length t0.selects:Int))) then ap (λ(h:List fu)(j:Int)(k:Int)=>
 (f41_l1 t0 d n (IntKind.i64.wrap (c+1)))) λe=>
 Option.bind (idx t0.selects c) λa=>
 Option.bind (bif ((decide ((List.length a.alts:Int)<1))||(decide ((List.length a.alts:Int)>16))) then some true else(Option.bind (f104 t0 a.obj 0 1) λf=>some (!f))) λg=>
 (bif (g||((!decide (a.else_=(-1)))&&(!(f51 t0 a.else_)))) then some false else(f41_l2 t0 e a 9223372036854775808 0)) else(d ()))
def f41_l5(a:lI)(c:Int)(e:Unit→oB):Nat→Int→oB
 |0,_=>none
 |nb+1,d=>
 (bif (decide (d<c)) then Option.bind (idx a d) λf=>
 Option.bind (idx a c) λg=>
 (bif (decide (f=g)) then some false else(f41_l5 a c e nb (IntKind.i64.wrap (d+1)))) else(e ()))
def f41_l4(t0:af)(d:Unit→oB)(a:lI):Nat→Int→oB
 |0,_=>none
 |na+1,c=>
 (bif (decide (c<(List.length a:Int))) then ap (λ(_:Unit)=>
 (f41_l4 t0 d a na (IntKind.i64.wrap (c+1)))) λe=>
 Option.bind (idx a c) λf=>
 Option.bind (bif (decide (f<1)) then some true else(Option.bind (idx a c) λg=>some (decide (g≥(List.length t0.tasks:Int))))) λh=>
 (bif h then some false else(f41_l5 a c e 9223372036854775808 0)) else(d ()))
def f41_l3(t0:af)(c:Unit→oB):Nat→Int→oB
 |0,_=>none
 |n+1,a=>
 (bif (decide (a<(List.length t0.lists:Int))) then ap (λ(_:Unit)=>
 (f41_l3 t0 c n (IntKind.i64.wrap (a+1)))) λe=>
 Option.bind (idx t0.lists a) λd=>
 (bif (decide ((List.length d:Int)>32)) then some false else(f41_l4 t0 e d 9223372036854775808 0)) else(c ()))
def f41(t0:af):oB:=
 (bif ((decide ((List.length t0.selects:Int)>1024))||(decide ((List.length t0.lists:Int)>4096))) then some false else ap (λ(_:Unit)=>
 ap (λ(_:Unit)=>
 some true) λa=>
 (f41_l3 t0 a 9223372036854775808 0)) λc=>
 (f41_l1 t0 c 9223372036854775808 0))
def f42_l2(t0:af)(e:Int)(f:Int→Int→Int→Bool→oB)(a:az):Nat→Int→oB
 |0,_=>none
 |na+1,d=>
 (bif (decide (d<e)) then Option.bind (idx t0.handlers d) λc=>
 (bif ((!((decide (c.from_≥a.from_))&&(decide (c.to≤a.to))))&&(!((decide (c.to≤a.from_))||(decide (a.to≤c.from_))))) then some false else(f42_l2 t0 e f a na (IntKind.i64.wrap (d+1)))) else(f a.from_ a.to a.at_ a.clean))
def f42_l1(t0:af)(d:Unit→oB):Nat→Int→oB
 |0,_=>none
 |n+1,c=>
 (bif (decide (c<(List.length t0.handlers:Int))) then ap (λ(f:Int)(g:Int)(h:Int)(j:Bool)=>
 (f42_l1 t0 d n (IntKind.i64.wrap (c+1)))) λe=>
 Option.bind (idx t0.handlers c) λa=>
 (bif (((((decide (a.from_<0))||(decide (a.from_≥a.to)))||(decide (a.to>(List.length t0.insns:Int))))||(!(f51 t0 a.at_)))||((decide (a.at_≥a.from_))&&(decide (a.at_<a.to)))) then some false else(f42_l2 t0 c e a 9223372036854775808 0)) else(d ()))
def f42(t0:af):oB:=
 (bif (decide ((List.length t0.handlers:Int)>4096)) then some false else ap (λ(_:Unit)=>
 some true) λa=>
 (f42_l1 t0 a 9223372036854775808 0))
def f43_l2(t0:af)(g:Int)(n:Nat)(h:Int→Int→Int→Int→Int→Int→Int→Int→Int→Int→oB)(e:Loop)(c:aM):Nat→Int→oB
 |0,_=>none
 |na+1,f=>
 (bif (decide (f<g)) then Option.bind (idx t0.loops f) λj=>
 (bif (decide (j.back=e.back)) then some false else(f43_l2 t0 g n h e c na (IntKind.i64.wrap (f+1)))) else(h e.head e.back e.bound c.op c.d c.a c.b c.n c.m c.to))
def f43_l1(t0:af)(e:Unit→oB):Nat→Int→oB
 |0,_=>none
 |n+1,d=>
 (bif (decide (d<(List.length t0.loops:Int))) then ap (λ(g:Int)(h:Int)(j:Int)(k:Int)(m:Int)(o:Int)(p:Int)(r:Int)(t:Int)(w:Int)=>
 (f43_l1 t0 e n (IntKind.i64.wrap (d+1)))) λf=>
 Option.bind (idx t0.loops d) λa=>
 (bif (((((!(f51 t0 a.head))||(!(f51 t0 a.back)))||(decide (a.head>a.back)))||(decide (a.bound<0)))||(decide (a.bound>2147483647))) then some false else Option.bind (idx t0.insns a.back) λc=>
 (bif ((((!decide (c.op=29))&&(!decide (c.op=30)))&&(!decide (c.op=31)))||(!decide (c.to=a.head))) then some false else(f43_l2 t0 d n f a c 9223372036854775808 0))) else(e ()))
def f43(t0:af):oB:=
 (bif (decide ((List.length t0.loops:Int)>4096)) then some false else ap (λ(_:Unit)=>
 some true) λa=>
 (f43_l1 t0 a 9223372036854775808 0))
def f190:List Row:=
 [(Row.mk 1 (bA #[108,105]) [fD 68 0 15,fD 78 (-9223372036854775808) 9223372036854775807]),(Row.mk 2 (bA #[109,118]) [fD 68 0 15,fD 65 0 15]),(Row.mk 3 (bA #[108,100]) [fD 68 0 15,fD 78 0 4095,fD 77 0 65535]),(Row.mk 4 (bA #[115,116]) [fD 65 0 15,fD 78 0 4095,fD 77 0 65535]),(Row.mk 5 (bA #[108,100,120]) [fD 68 0 15,fD 65 0 15,fD 66 1 65536,fD 78 0 4095,fD 77 0 65535]),(Row.mk 6 (bA #[115,116,120]) [fD 68 0 15,fD 65 0 15,fD 66 1 65536,fD 78 0 4095,fD 77 0 65535]),(Row.mk 7 (bA #[108,100,97]) [fD 68 0 15,fD 65 0 15]),(Row.mk 8 (bA #[115,116,97]) [fD 68 0 15,fD 65 0 15]),(Row.mk 9 (bA #[97,100,100]) [fD 68 0 15,fD 65 0 15,fD 66 0 15]),(Row.mk 10 (bA #[115,117,98]) [fD 68 0 15,fD 65 0 15,fD 66 0 15]),(Row.mk 11 (bA #[109,117,108]) [fD 68 0 15,fD 65 0 15,fD 66 0 15]),(Row.mk 12 (bA #[100,105,118]) [fD 68 0 15,fD 65 0 15,fD 66 0 15]),(Row.mk 13 (bA #[114,101,109]) [fD 68 0 15,fD 65 0 15,fD 66 0 15]),(Row.mk 14 (bA #[109,111,100]) [fD 68 0 15,fD 65 0 15,fD 66 0 15]),(Row.mk 15 (bA #[101,113]) [fD 68 0 15,fD 65 0 15,fD 66 0 15]),(Row.mk 16 (bA #[110,101]) [fD 68 0 15,fD 65 0 15,fD 66 0 15]),(Row.mk 17 (bA #[108,116]) [fD 68 0 15,fD 65 0 15,fD 66 0 15]),(Row.mk 18 (bA #[108,101]) [fD 68 0 15,fD 65 0 15,fD 66 0 15]),(Row.mk 19 (bA #[103,116]) [fD 68 0 15,fD 65 0 15,fD 66 0 15]),(Row.mk 20 (bA #[103,101]) [fD 68 0 15,fD 65 0 15,fD 66 0 15]),(Row.mk 21 (bA #[97,110,100]) [fD 68 0 15,fD 65 0 15,fD 66 0 15]),(Row.mk 22 (bA #[111,114]) [fD 68 0 15,fD 65 0 15,fD 66 0 15]),(Row.mk 23 (bA #[120,111,114]) [fD 68 0 15,fD 65 0 15,fD 66 0 15]),(Row.mk 24 (bA #[110,101,103]) [fD 68 0 15,fD 65 0 15]),(Row.mk 25 (bA #[97,98,115]) [fD 68 0 15,fD 65 0 15]),(Row.mk 26 (bA #[110,111,116]) [fD 68 0 15,fD 65 0 15]),(Row.mk 27 (bA #[99,104,107]) [fD 65 0 15,fD 78 (-9223372036854775808) 9223372036854775807,fD 77 (-9223372036854775808) 9223372036854775807]),(Row.mk 28 (bA #[99,104,107,122]) [fD 65 0 15]),(Row.mk 29 (bA #[106,109,112]) [fD 84 0 65535]),(Row.mk 30 (bA #[106,122]) [fD 65 0 15,fD 84 0 65535]),(Row.mk 31 (bA #[106,110,122]) [fD 65 0 15,fD 84 0 65535]),(Row.mk 32 (bA #[106,116]) [fD 65 0 15,fD 78 (-9223372036854775808) 9223372036854775807,fD 77 1 65536,fD 84 0 65535]),(Row.mk 33 (bA #[114,97,105,115,101]) [fD 78 1 64]),(Row.mk 34 (bA #[114,97,105,115,101,114]) [fD 65 0 15]),(Row.mk 35 (bA #[99,111,110,116]) [fD 65 0 15]),(Row.mk 36 (bA #[101,120,99]) [fD 68 0 15]),(Row.mk 37 (bA #[109,97,114,107]) [fD 78 6 7,fD 77 0 65535]),(Row.mk 38 (bA #[103,101,116]) [fD 68 0 15]),(Row.mk 39 (bA #[112,117,116]) [fD 65 0 15]),(Row.mk 40 (bA #[100,101,102,101,114]) []),(Row.mk 41 (bA #[97,108,108,111,119]) []),(Row.mk 42 (bA #[99,108,111,99,107]) [fD 68 0 15]),(Row.mk 43 (bA #[99,111,117,110,116]) [fD 68 0 15,fD 78 0 7,fD 77 (-1) 31]),(Row.mk 44 (bA #[115,116,97,114,116]) [fD 78 0 65535]),(Row.mk 45 (bA #[110,101,118,101,114]) [fD 78 0 65535]),(Row.mk 46 (bA #[97,119,97,105,116]) [fD 65 0 15,fD 78 0 65535]),(Row.mk 47 (bA #[100,101,108,97,121]) [fD 65 0 15]),(Row.mk 48 (bA #[117,110,116,105,108]) [fD 65 0 15]),(Row.mk 49 (bA #[99,97,108,108]) [fD 68 0 15,fD 65 0 31,fD 66 0 7,fD 78 0 4095,fD 77 0 3]),(Row.mk 50 (bA #[115,101,108]) [fD 78 0 1023]),(Row.mk 51 (bA #[100,111,110,101]) [fD 78 0 1]),(Row.mk 52 (bA #[114,101,113]) [fD 65 0 31,fD 66 0 7,fD 78 0 1,fD 84 0 65535]),(Row.mk 53 (bA #[108,111,99,107]) [fD 78 0 31]),(Row.mk 54 (bA #[112,101,110,116]) [fD 68 0 15,fD 65 0 15,fD 66 0 3,fD 78 0 31,fD 77 0 7]),(Row.mk 55 (bA #[117,110,108,111,99,107]) [fD 78 0 31]),(Row.mk 56 (bA #[97,98,111,114,116]) [fD 78 0 65535]),(Row.mk 57 (bA #[101,110,100]) [])]
def f160_l1(o0:Int)(c:Unit→Option (Row×Bool)):Nat→Int→Option (Row×Bool)
 |0,_=>none
 |n+1,a=>
 (bif (decide (a<(List.length f190:Int))) then Option.bind (idx f190 a) λd=>
 (bif (decide (d.op=o0)) then Option.bind (idx f190 a) λe=>
 some (e,true) else(f160_l1 o0 c n (IntKind.i64.wrap (a+1)))) else(c ()))
def f160(o0:Int):Option (Row×Bool):=
 ap (λ(_:Unit)=>
 some ((Row.mk 0 ByteArray.empty []),false)) λa=>
 (f160_l1 o0 a 9223372036854775808 0)
def f161(x0:aM)(f1:Int):Int:=
 (bif (decide (f1=68)) then x0.d else(bif (decide (f1=65)) then x0.a else(bif (decide (f1=66)) then x0.b else(bif (decide (f1=78)) then x0.n else(bif (decide (f1=77)) then x0.m else x0.to)))))
def f162(x0:aM)(f1:Int)(v2:Int):aM:=
 ap (λ(e:Int)(f:Int)(g:Int)(h:Int)(j:Int)(k:Int)=>
 (aM.mk x0.op e f g h j k)) λc=>
 (bif (decide (f1=68)) then(c v2 x0.a x0.b x0.n x0.m x0.to) else(bif (decide (f1=65)) then(c x0.d v2 x0.b x0.n x0.m x0.to) else(bif (decide (f1=66)) then(c x0.d x0.a v2 x0.n x0.m x0.to) else(bif (decide (f1=78)) then(c x0.d x0.a x0.b v2 x0.m x0.to) else(bif (decide (f1=77)) then(c x0.d x0.a x0.b x0.n v2 x0.to) else(c x0.d x0.a x0.b x0.n x0.m v2))))))
def f108_l1(x0:aM)(p:Row×Bool)(t:Int→Int→Int→Int→Int→Int→Int→oB):Nat→Int→Int→Int→Int→Int→Int→Int→Int→oB
 |0,_,_,_,_,_,_,_,_=>none
 |n+1,r,e,f,g,h,j,k,o=>
 (bif (decide (r<(List.length p.1.fields:Int))) then Option.bind (idx p.1.fields r) λc=>
 (bif ((decide ((f161 x0 c.name)<c.lo))||(decide ((f161 x0 c.name)>c.hi))) then some false else(f108_l1 x0 p t n (IntKind.i64.wrap (r+1)) ((f162 (aM.mk e f g h j k o) c.name 0).op) ((f162 (aM.mk e f g h j k o) c.name 0).d) ((f162 (aM.mk e f g h j k o) c.name 0).a) ((f162 (aM.mk e f g h j k o) c.name 0).b) ((f162 (aM.mk e f g h j k o) c.name 0).n) ((f162 (aM.mk e f g h j k o) c.name 0).m) ((f162 (aM.mk e f g h j k o) c.name 0).to))) else(t e f g h j k o))
def f108(x0:aM):oB:=
 Option.bind (f160 x0.op) λc=>
 (bif (!c.2) then some false else ap (λ(e:Int)(f:Int)(g:Int)(h:Int)(j:Int)(k:Int)(o:Int)=>
 some (((((decide (e=0))&&((decide (f=0))&&((decide (g=0))&&((decide (h=0))&&((decide (j=0))&&((decide (k=0))&&((decide (o=0))&&true))))))))&&((!decide (x0.op=27))||(decide (x0.n≤x0.m))))&&(((!decide (x0.op=37))||(!decide (x0.n=6)))||(decide (x0.m=0))))) λp=>
 (f108_l1 x0 c p 9223372036854775808 0 0 x0.d x0.a x0.b x0.n x0.m x0.to))
def f109_l1(t0:af)(c:Int)(d:Int)(e:Unit→oB):Nat→Int→oB
 |0,_=>none
 |n+1,a=>
 (bif (decide (a<(IntKind.i64.wrap (c+d)))) then Option.bind (idx t0.insns a) λf=>
 (bif (!decide (f.op=29)) then some false else(f109_l1 t0 c d e n (IntKind.i64.wrap (a+1)))) else(e ()))
def f109(t0:af)(a:Int)(c:Int):oB:=
 (bif (decide ((IntKind.i64.wrap (a+c))>(List.length t0.insns:Int))) then some false else ap (λ(_:Unit)=>
 some true) λd=>
 (f109_l1 t0 a c d 9223372036854775808 a))
def f110(t0:af)(a:Int)(n2:Int):Option (bd×Bool):=
 Option.bind (bif (((decide (a<0))||(decide (a≥(List.length t0.tasks:Int))))||(decide (n2<0))) then some true else(Option.bind (idx t0.tasks a) λc=>some (decide (n2≥(List.length c.entries:Int))))) λd=>
 (bif d then some ((bd.mk [] []),false) else Option.bind (idx t0.tasks a) λe=>
 Option.bind (idx e.entries n2) λf=>
 some (f,true))
def f111(t0:af)(p1:Int)(n2:Int):oB:=
 Option.bind (bif (((decide (p1≥0))&&(decide (p1<(List.length t0.prots:Int))))&&(decide (n2≥0))) then(Option.bind (idx t0.prots p1) λa=>some (decide (n2<(List.length a.barriers:Int)))) else some false) λc=>
 some c
def f44(t0:af)(x1:aM):oB:=
 Option.bind (f108 x1) λj=>
 (bif (!j) then some false else ap (λ(k:Bool)=>
 (bif k then Option.bind (f104 t0 x1.n x1.m 1) λo=>
 some o else ap (λ(p:Bool)=>
 (bif p then Option.bind (f104 t0 x1.n x1.m x1.b) λr=>
 some r else ap (λ(t:Bool)=>
 (bif t then some (f51 t0 x1.to) else(bif (decide (x1.op=32)) then Option.bind (f109 t0 x1.to x1.m) λw=>
 some w else(bif (decide (x1.op=33)) then some (decide (x1.n≤t0.excs)) else ap (λ(x:Bool)=>
 (bif x then some (decide (x1.n<(List.length t0.lists:Int))) else(bif (decide (x1.op=50)) then some (decide (x1.n<(List.length t0.selects:Int))) else(bif (decide (x1.op=49)) then Option.bind (f110 t0 x1.a x1.b) λd=>
 Option.bind (bif d.2 then(Option.bind (f104 t0 x1.n 0 (IntKind.i64.wrap ((IntKind.i64.wrap ((List.length d.1.ins:Int)+(List.length d.1.outs:Int)))+1))) λy=>some y) else some false) λA=>
 some A else(bif (decide (x1.op=52)) then Option.bind (f110 t0 x1.a x1.b) λB=>
 some (B.2&&(f51 t0 x1.to)) else ap (λ(C:Bool)=>
 (bif C then some (decide (x1.n<(List.length t0.prots:Int))) else(bif (decide (x1.op=54)) then Option.bind (f111 t0 x1.n x1.m) λE=>
 some E else(bif (decide (x1.op=43)) then Option.bind (bif (decide (x1.m=(-1))) then some true else(Option.bind (f111 t0 x1.m x1.n) λF=>some F)) λG=>
 some G else some true)))) λf=>
 (bif (decide (x1.op=53)) then(f (decide (x1.op=53))) else(f (decide (x1.op=55))))))))) λc=>
 (bif (decide (x1.op=44)) then(c (decide (x1.op=44))) else(bif (decide (x1.op=45)) then(c (decide (x1.op=45))) else(bif (decide (x1.op=46)) then(c (decide (x1.op=46))) else(c (decide (x1.op=56)))))))))) λe=>
 (bif (decide (x1.op=29)) then(e (decide (x1.op=29))) else(bif (decide (x1.op=30)) then(e (decide (x1.op=30))) else(e (decide (x1.op=31))))))) λg=>
 (bif (decide (x1.op=5)) then(g (decide (x1.op=5))) else(g (decide (x1.op=6)))))) λh=>
 (bif (decide (x1.op=3)) then(h (decide (x1.op=3))) else(h (decide (x1.op=4)))))
def f11_l1(t0:af)(c:Unit→oB):Nat→Int→oB
 |0,_=>none
 |n+1,a=>
 (bif (decide (a<(List.length t0.insns:Int))) then Option.bind (idx t0.insns a) λd=>
 Option.bind (f44 t0 d) λe=>
 (bif (!e) then some false else(f11_l1 t0 c n (IntKind.i64.wrap (a+1)))) else(c ()))
def f11(t0:af):oB:=
 Option.bind (bif ((decide ((List.length t0.insns:Int)<1))||(decide ((List.length t0.insns:Int)>65536))) then some true else(Option.bind (f38 t0) λc=>some (!c))) λd=>
 Option.bind (bif d then some true else(Option.bind (f39 t0) λe=>some (!e))) λf=>
 Option.bind (bif f then some true else(Option.bind (f40 t0) λg=>some (!g))) λh=>
 Option.bind (bif h then some true else(Option.bind (f41 t0) λj=>some (!j))) λk=>
 Option.bind (bif k then some true else(Option.bind (f42 t0) λm=>some (!m))) λo=>
 Option.bind (bif o then some true else(Option.bind (f43 t0) λp=>some (!p))) λr=>
 (bif r then some false else ap (λ(_:Unit)=>
 Option.bind (idx t0.insns (IntKind.i64.wrap ((List.length t0.insns:Int) - 1))) λa=>
 some ((((decide (a.op=29))||(decide (a.op=33)))||(decide (a.op=34)))||(decide (a.op=57)))) λt=>
 (f11_l1 t0 t 9223372036854775808 0))
def f48_l1(s0:lH)(c:az→oB)(d:Unit→Option (Int)):Nat→Int→Option (Int)
 |0,_=>none
 |n+1,a=>
 (bif (decide (a<(List.length s0:Int))) then Option.bind (idx s0 a) λe=>
 Option.bind (c e) λf=>
 (bif f then some a else(f48_l1 s0 c d n (IntKind.i64.wrap (a+1)))) else(d ()))
def f48(s0:lH)(a:az→oB):Option Int:=
 ap (λ(_:Unit)=>
 some (-1)) λc=>
 (f48_l1 s0 a c (Int.toNat ((List.length s0:Int) - 0)+1) 0)
def f49(h0:az)(a:Int)(c:Int):Bool:=
 ((f50 h0 a)&&(h0.clean||(decide (c>0))))
def f15(t0:af)(a:Int)(c2:Int):Option (Int×Bool):=
 Option.bind (bif (decide (c2=0)) then some true else(Option.bind (f10 t0) λd=>some (!d))) λe=>
 (bif (e||(!(f47 (aT.mk t0) a))) then some (0,false) else Option.bind (f48 t0.handlers (λz0=>some (f49 z0 a c2))) λc=>
 (bif (decide (c<0)) then some (0,false) else Option.bind (idx t0.handlers c) λf=>
 some (f.at_,true)))
def f114_l1(t0:af)(c:Int)(c2:Int)(e:Unit→Option (Int)):Nat→Int→Option (Int)
 |0,_=>none
 |n+1,a=>
 (bif ((decide (a<(List.length t0.handlers:Int)))&&(!decide (c2=0))) then Option.bind (idx t0.handlers a) λd=>
 (bif (((decide (d.from_≤c))&&(decide (c<d.to)))&&((decide (c2>0))||d.clean)) then some a else(f114_l1 t0 c c2 e n (IntKind.i64.wrap (a+1)))) else(e ()))
def f114(t0:af)(a:Int)(c2:Int):Option Int:=
 ap (λ(_:Unit)=>
 some (-1)) λc=>
 (f114_l1 t0 a c2 c 9223372036854775808 0)
def f52(t0:af)(c:Int)(c2:Int):Option (Int×Bool):=
 Option.bind (f114 t0 c c2) λa=>
 (bif (decide (a<0)) then some (0,false) else Option.bind (idx t0.handlers a) λd=>
 some (d.at_,true))
def f16(t0:af)(a:Int)(c2:Int):Option (Int×Bool):=
 Option.bind (f11 t0) λd=>
 (bif ((!d)||(!(f51 t0 a))) then some (0,false) else Option.bind (f52 t0 a c2) λc=>
 some (c.1,c.2))
def f9:oB:=some true
def f4(t0:af)(a:Int)(c2:Int):oB:=
 Option.bind (f8 t0) λe=>
 (bif e then Option.bind (f9) λf=>
 some f else Option.bind (f15 t0 a c2) λc=>
 Option.bind (f16 t0 a c2) λd=>
 Option.bind (bif ((decide (c.1=d.1))&&((c.2==d.2))) then(Option.bind (f9) λg=>some g) else some false) λh=>
 some h)
abbrev sN:AV:= .d (.v (.slice none 0 0))
abbrev _root_.Go.Sk.AO.z:AO:= .dead
abbrev txA(t:af):lV:=[.l E59 t.insns, .l E83 t.handlers, .l ce t.loops, .l E65 t.selects, .l E54 t.lists, .l E67 t.objs, .l E93 t.inits, .n t.excs, .l E70 t.tasks, .l E75 t.prots, .l cv t.checks]
abbrev txV(a:lN)(b:lH)(c:lP)(d:lS)(e:lL)(f:lO)(g:lT)(h:Int)(i:lK)(j:lM)(k:lC):lV:=[.l E59 a, .l E83 b, .l ce c, .l E65 d, .l E54 e, .l E67 f, .l E93 g, .n h, .l E70 i, .l E75 j, .l cv k]
end Go.Proofs.YtejcfgjpdocaoaaGreatDoor
