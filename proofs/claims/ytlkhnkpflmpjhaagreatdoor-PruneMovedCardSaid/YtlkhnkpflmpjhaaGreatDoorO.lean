/- Part of the proof. -/
import Derived.Test.YtlkhnkpflmpjhaaGreatDoorE
set_option linter.unusedVariables false
set_option linter.unusedSimpArgs false
set_option linter.unusedSectionVars false
set_option linter.unnecessarySimpa false
namespace Go.Proofs.YtlkhnkpflmpjhaaGreatDoor
open Go Go.Sk
structure aS where
 lo:Int
 hi:Int
structure Field where
 name:Int
 lo:Int
 hi:Int
structure Row where
 op:Int
 name:ByteArray
 fields:List Field
structure Place where
 o:Int
 k:Int
structure cQ where
 op:Int
 d:Int
 a:Int
 b:Int
 n:Int
 m:Int
 to:Int
structure bY where
 from_:Int
 to:Int
 at_:Int
 clean:Bool
structure Loop where
 head:Int
 back:Int
 bound:Int
structure np where
 kind:Int
 entry:Int
 guard:Int
 time:Int
 at_:Int
structure fM where
 alts:List np
 obj:Int
 else_:Int
structure Obj where
 size:Int
 lo:Int
 hi:Int
 ptr:Bool
 set_:List Int
structure oZ where
 o:Int
 slot:Int
 v:Int
structure bS where
 ins:List Int
 outs:List Int
structure kO where
 prio:Int
 at_:Int
 entries:List bS
 deadline:Int
structure a9 where
 kind:Int
 op:Int
 n:Int
 o:Int
 off:Int
 len:Int
 lo:Int
 hi:Int
 l:List a9
structure iN where
 ceiling:Int
 barriers:List a9
structure kQ where
 at_:Int
 kind:Int
structure gp where
 insns:List cQ
 handlers:List bY
 loops:List Loop
 selects:List fM
 lists:List (List Int)
 objs:List Obj
 inits:List oZ
 excs:Int
 tasks:List kO
 prots:List iN
 checks:List kQ
structure aC where
 text:gp
structure Judge where
 eC:aC
 entries:Int
 left:Int
structure Spot where
 o:Int
 slot:Int
structure fN where
 name:ByteArray
 fields:ByteArray
abbrev R45(x:cQ):List D:=[.i .u8 x.op, .i .i64 x.d, .i .i64 x.a, .i .i64 x.b, .i .i64 x.n, .i .i64 x.m, .i .i64 x.to]
abbrev E45(x:cQ):List D:=R45 x
theorem fS(x:cQ):E45 x=R45 x:=rfl
abbrev R88(x:bY):List D:=[.i .i64 x.from_, .i .i64 x.to, .i .i64 x.at_, .b x.clean]
abbrev E88(x:bY):List D:=R88 x
theorem o4(x:bY):E88 x=R88 x:=rfl
abbrev R90(x:Loop):List D:=[.i .i64 x.head, .i .i64 x.back, .i .i64 x.bound]
abbrev E90(x:Loop):List D:=R90 x
theorem rY(x:Loop):E90 x=R90 x:=rfl
abbrev R86(x:np):List D:=[.i .u8 x.kind, .i .i64 x.entry, .i .i64 x.guard, .i .i64 x.time, .i .i64 x.at_]
abbrev E86(x:np):List D:=R86 x
theorem rZ(x:np):E86 x=R86 x:=rfl
abbrev R82(x:fM):List D:=[.sl (List.map E86 x.alts), .i .i64 x.obj, .i .i64 x.else_]
abbrev E82(x:fM):List D:=R82 x
theorem r5(x:fM):E82 x=R82 x:=rfl
abbrev E3(x:Int):List D:=[.i .i64 x]
theorem dN(x:Int):E3 x=[.i .i64 x]:=rfl
abbrev E22(x:List Int):List D:=[.sl (List.map E3 x)]
theorem r8(x:List Int):E22 x=[.sl (List.map E3 x)]:=rfl
abbrev R50(x:Obj):List D:=[.i .i64 x.size, .i .i64 x.lo, .i .i64 x.hi, .b x.ptr, .sl (List.map E3 x.set_)]
abbrev E50(x:Obj):List D:=R50 x
theorem eK(x:Obj):E50 x=R50 x:=rfl
abbrev R62(x:oZ):List D:=[.i .i64 x.o, .i .i64 x.slot, .i .i64 x.v]
abbrev E62(x:oZ):List D:=R62 x
theorem r7(x:oZ):E62 x=R62 x:=rfl
abbrev R68(x:bS):List D:=[.sl (List.map E3 x.ins), .sl (List.map E3 x.outs)]
abbrev E68(x:bS):List D:=R68 x
theorem o7(x:bS):E68 x=R68 x:=rfl
abbrev R57(x:kO):List D:=[.i .i64 x.prio, .i .i64 x.at_, .sl (List.map E68 x.entries), .i .i64 x.deadline]
abbrev E57(x:kO):List D:=R57 x
theorem lv(x:kO):E57 x=R57 x:=rfl
abbrev lI:=List Int
abbrev lL:=List (List Int)
abbrev lN:=List cQ
abbrev lH:=List bY
abbrev lO:=List Obj
abbrev lD:=List D
abbrev lV:=List AV
abbrev lW:=List AO
abbrev oB:=Option Bool
abbrev lP:=List Loop
abbrev lS:=List fM
abbrev lT:=List oZ
abbrev lK:=List kO
abbrev lM:=List iN
abbrev lC:=List kQ
abbrev fD:=Field.mk
abbrev bA:=ByteArray.mk

mutual
def E76:a9→lD
 | .mk kind op n o off len lo hi l=> [.i .u8 kind, .i .u8 op, .i .i64 n, .i .i64 o, .i .i64 off, .i .i64 len, .i .i64 lo, .i .i64 hi, .sl (E76s l)]
def E76s:List a9→List lD
 |[]=> []
 |e::l=>E76 e::E76s l
end
abbrev R76(x:a9):lD:=[.i .u8 x.kind, .i .u8 x.op, .i .i64 x.n, .i .i64 x.o, .i .i64 x.off, .i .i64 x.len, .i .i64 x.lo, .i .i64 x.hi, .sl (List.map E76 x.l)]
theorem mK:∀l,E76s l=List.map E76 l
 |[]=>rfl
 |e::l=>by rw[E76s,mK l];rfl
theorem o5(x:a9):E76 x=R76 x:=by
 cases x;simp only[E76,mK]
abbrev R71(x:iN):lD:=[.i .i64 x.ceiling, .sl (List.map E76 x.barriers)]
abbrev E71(x:iN):lD:=R71 x
theorem o6(x:iN):E71 x=R71 x:=rfl
abbrev R79(x:kQ):lD:=[.i .i64 x.at_, .i .u8 x.kind]
abbrev E79(x:kQ):lD:=R79 x
theorem r6(x:kQ):E79 x=R79 x:=rfl
abbrev R38(x:gp):lD:=[.sl (List.map E45 x.insns), .sl (List.map E88 x.handlers), .sl (List.map E90 x.loops), .sl (List.map E82 x.selects), .sl (List.map E22 x.lists), .sl (List.map E50 x.objs), .sl (List.map E62 x.inits), .i .i64 x.excs, .sl (List.map E57 x.tasks), .sl (List.map E71 x.prots), .sl (List.map E79 x.checks)]
abbrev cC(x:aS):lD:=[.i .i64 x.lo, .i .i64 x.hi]
abbrev aF(x:aC):lD:=[.sl (List.map E45 x.text.insns), .sl (List.map E88 x.text.handlers), .sl (List.map E90 x.text.loops), .sl (List.map E82 x.text.selects), .sl (List.map E22 x.text.lists), .sl (List.map E50 x.text.objs), .sl (List.map E62 x.text.inits), .i .i64 x.text.excs, .sl (List.map E57 x.text.tasks), .sl (List.map E71 x.text.prots), .sl (List.map E79 x.text.checks)]
abbrev rW(x:fN):lD:=[.s x.name, .s x.fields]
abbrev E2(x:Int):lD:=[.i .i64 x]
theorem qS(x:Int):E2 x=[.i .i64 x]:=rfl
abbrev E9(x:ByteArray):lD:=[.s x]
theorem qR(x:ByteArray):E9 x=[.s x]:=rfl
def e9:List fN:=jb.map λp=>⟨p.1,p.2⟩
theorem jk:gpc 0=some (e9.flatMap rW):=by
 unfold e9
 rw[List.flatMap_map]
 rfl
def f78_l1(t0:aC)(o1:Obj)(d:Unit→oB):Nat→Int→Int→oB
 |0,_,_=>none
 |n+1,e,c=>
 (bif (decide (c<(List.length o1.set_:Int))) then Option.bind (idx o1.set_ c) λa=>
 Option.bind (bif ((decide (a≤e))||(decide (a≥(List.length t0.text.objs:Int)))) then some true else(Option.bind (idx t0.text.objs a) λf=>some (!decide (f.size=1)))) λg=>
 Option.bind (bif g then some true else(Option.bind (idx t0.text.objs a) λh=>some h.ptr)) λj=>
 (bif j then some false else(f78_l1 t0 o1 d n a (IntKind.i64.wrap (c+1)))) else(d ()))
def f78(t0:aC)(o1:Obj):oB:=
 (bif (((decide (o1.size<1))||(decide (o1.size>16384)))||(decide (o1.lo>o1.hi))) then some false else(bif (!o1.ptr) then some (decide ((List.length o1.set_:Int)=0)) else af (λ(_:Unit)=>
 some ((decide (o1.lo=0))&&(decide (o1.hi=0)))) λa=>
 (f78_l1 t0 o1 a (Int.toNat ((List.length o1.set_:Int) - 0)+1) (-1) 0)))
def f79(t0:aC)(o1:Int)(a:Int)(c:Int):oB:=
 Option.bind (bif (((decide (o1≥0))&&(decide (o1<(List.length t0.text.objs:Int))))&&(decide (a≥0))) then(Option.bind (idx t0.text.objs o1) λd=>some (decide (a≤(IntKind.i64.wrap (d.size - c))))) else some false) λe=>
 some e
def f144_l1(s0:lI)(c:Int→oB)(d:Unit→Option (Int)):Nat→Int→Option (Int)
 |0,_=>none
 |n+1,a=>
 (bif (decide (a<(List.length s0:Int))) then Option.bind (idx s0 a) λe=>
 Option.bind (c e) λf=>
 (bif f then some a else(f144_l1 s0 c d n (IntKind.i64.wrap (a+1)))) else(d ()))
def f144(s0:lI)(a:Int→oB):Option Int:=
 af (λ(_:Unit)=>
 some (-1)) λc=>
 (f144_l1 s0 a c (Int.toNat ((List.length s0:Int) - 0)+1) 0)
def f109(s0:lI)(a:Int→oB):oB:=
 Option.bind (f144 s0 a) λc=>
 some (decide (c≥0))
def f110(n0:Int)(a:Int):Bool:=
 (decide ((IntKind.i64.wrap (n0+1))=a))
def f80(o0:Obj)(v1:Int):oB:=
 (bif o0.ptr then Option.bind (bif (decide (v1=0)) then some true else(Option.bind (f109 o0.set_ (λz0=>some (f110 z0 v1))) λa=>some a)) λc=>
 some c else some ((decide (v1≥o0.lo))&&(decide (v1≤o0.hi))))
def f50_l1(t0:aC)(c:Int→oB):Nat→Int→Int→oB
 |0,_,_=>none
 |n+1,d,a=>
 (bif (decide (a<(List.length t0.text.objs:Int))) then Option.bind (idx t0.text.objs a) λe=>
 Option.bind (f78 t0 e) λf=>
 (bif (!f) then some false else(f50_l1 t0 c n (IntKind.i64.wrap (d+e.size)) (IntKind.i64.wrap (a+1)))) else(c d))
def f50_l2(t0:aC)(e:(List ((Int×Int)×Bool))→oB):Nat→Int→(List ((Int×Int)×Bool))→oB
 |0,_,_=>none
 |n+1,c,d=>
 (bif (decide (c<(List.length t0.text.inits:Int))) then Option.bind (idx t0.text.inits c) λa=>
 Option.bind (bif (Option.getD (bd d (a.o,a.slot)) false) then some true else(Option.bind (f79 t0 a.o a.slot 1) λf=>some (!f))) λg=>
 Option.bind (bif g then some true else(Option.bind (idx t0.text.objs a.o) λh=>Option.bind (f80 h a.v) λj=>some (!j))) λk=>
 (bif k then some false else(f50_l2 t0 e n (IntKind.i64.wrap (c+1)) (aO d (a.o,a.slot) true))) else(e d))
def f50(t0:aC):oB:=
 (bif (((decide ((List.length t0.text.objs:Int)>4096))||(decide (t0.text.excs<4)))||(decide (t0.text.excs>64))) then some false else af (λ(a:Int)=>
 af (λ(e:List ((Int×Int)×Bool))=>
 some (decide (a≤65536))) λc=>
 (f50_l2 t0 c (Int.toNat ((List.length t0.text.inits:Int) - 0)+1) 0 ([]:List ((Int×Int)×Bool)))) λd=>
 (f50_l1 t0 d (Int.toNat ((List.length t0.text.objs:Int) - 0)+1) 0 0))
def f75(t0:aC)(a1:Int):Bool:=
 ((decide (a1≥0))&&(decide (a1<(List.length t0.text.insns:Int))))
def f111_l1(s0:List bS)(c:bS→oB)(d:Unit→Option (Int)):Nat→Int→Option (Int)
 |0,_=>none
 |n+1,a=>
 (bif (decide (a<(List.length s0:Int))) then Option.bind (idx s0 a) λe=>
 Option.bind (c e) λf=>
 (bif f then some a else(f111_l1 s0 c d n (IntKind.i64.wrap (a+1)))) else(d ()))
def f111(s0:List bS)(a:bS→oB):Option Int:=
 af (λ(_:Unit)=>
 some (-1)) λc=>
 (f111_l1 s0 a c (Int.toNat ((List.length s0:Int) - 0)+1) 0)
def f81(s0:List bS)(a:bS→oB):oB:=
 Option.bind (f111 s0 a) λc=>
 some (decide (c≥0))
def f112(o0:Int)(a:aC):oB:=
 Option.bind (bif ((decide (o0<0))||(decide (o0≥(List.length a.text.objs:Int)))) then some true else(Option.bind (idx a.text.objs o0) λc=>some (!decide (c.size=1)))) λd=>
 some d
def f83(t0:aC)(l1:lI):oB:=
 Option.bind (bif (decide ((List.length l1:Int)≤8)) then(Option.bind (f109 l1 λz0=>f112 z0 t0) λa=>some (!a)) else some false) λc=>
 some c
def f82(e0:bS)(a:aC):oB:=
 Option.bind (f83 a e0.ins) λc=>
 Option.bind (bif (!c) then some true else(Option.bind (f83 a e0.outs) λd=>some (!d))) λe=>
 some e
def f51_l1(t0:aC)(d:Unit→oB):Nat→Int→oB
 |0,_=>none
 |n+1,c=>
 (bif (decide (c<(List.length t0.text.tasks:Int))) then Option.bind (idx t0.text.tasks c) λa=>
 (bif ((((((decide (a.prio<0))||(decide (a.prio>31)))||(!(f75 t0 a.at_)))||(decide (a.deadline<0)))||(decide (a.deadline>2147483647)))||(decide ((List.length a.entries:Int)>8))) then some false else Option.bind (f81 a.entries λz0=>f82 z0 t0) λe=>
 (bif e then some false else(f51_l1 t0 d n (IntKind.i64.wrap (c+1))))) else(d ()))
def f51(t0:aC):oB:=
 (bif ((decide ((List.length t0.text.tasks:Int)<1))||(decide ((List.length t0.text.tasks:Int)>32))) then some false else af (λ(_:Unit)=>
 some true) λa=>
 (f51_l1 t0 a (Int.toNat ((List.length t0.text.tasks:Int) - 0)+1) 0))
def f52_l2(t0:aC)(c:lI)(f:(List (Int×Bool))→oB):Nat→Int→(List (Int×Bool))→oB
 |0,_,_=>none
 |na+1,d,e=>
 (bif (decide (d<(List.length c:Int))) then Option.bind (idx c d) λa=>
 (bif (((decide (a<1))||(decide (a≥(List.length t0.text.tasks:Int))))||(Option.getD (bd e a) false)) then some false else(f52_l2 t0 c f na (IntKind.i64.wrap (d+1)) (aO e a true))) else(f e))
def f52_l1(t0:aC)(d:Unit→oB):Nat→Int→oB
 |0,_=>none
 |n+1,a=>
 (bif (decide (a<(List.length t0.text.lists:Int))) then af (λ(h:List (Int×Bool))=>
 (f52_l1 t0 d n (IntKind.i64.wrap (a+1)))) λe=>
 Option.bind (idx t0.text.lists a) λc=>
 af (λ(f:List (Int×Bool))=>
 (bif (decide ((List.length c:Int)>32)) then some false else(e f))) λg=>
 (f52_l2 t0 c g (Int.toNat ((List.length c:Int) - 0)+1) 0 ([]:List (Int×Bool))) else(d ()))
def f52(t0:aC):oB:=
 (bif (decide ((List.length t0.text.lists:Int)>4096)) then some false else af (λ(_:Unit)=>
 some true) λa=>
 (f52_l1 t0 a (Int.toNat ((List.length t0.text.lists:Int) - 0)+1) 0))
def f84s_l1(d:lN→lH→lP→lS→lL→lO→lT→Int→lK→lM→lC→Int→Int→a9→Int→Option (Bool×lN×lH×lP×lS×lL×lO×lT×Int×lK×lM×lC×Int×Int))(e1:a9)(e:Int)(f:Int→lN→lH→lP→lS→lL→lO→lT→Int→lK→lM→lC→Int→Int→Option (Bool×lN×lH×lP×lS×lL×lO×lT×Int×lK×lM×lC×Int×Int))(g:lN→lH→lP→lS→lL→lO→lT→Int→lK→lM→lC→Int→Int→Option (Bool×lN×lH×lP×lS×lL×lO×lT×Int×lK×lM×lC×Int×Int)):Nat→Int→lN→lH→lP→lS→lL→lO→lT→Int→lK→lM→lC→Int→Int→Option (Bool×lN×lH×lP×lS×lL×lO×lT×Int×lK×lM×lC×Int×Int)
 |0,_,_,_,_,_,_,_,_,_,_,_,_,_,_=>none
 |n+1,c,h,j,k,m,o,p,r,t,w,x,y,A,B=>
 (bif (decide (c<(List.length e1.l:Int))) then Option.bind (idx e1.l c) λQ=>
 af (λ(R:Bool)(C:lN)(E:lH)(F:lP)(G:lS)(H:lL)(I:lO)(J:lT)(K:Int)(L:lK)(M:lM)(N:lC)(O:Int)(P:Int)=>
 (bif R then(f c C E F G H I J K L M N O P) else(f84s_l1 d e1 e f g n (IntKind.i64.wrap (c+1)) C E F G H I J K L M N O P))) λS=>
 Option.bind (d h j k m o p r t w x y A B Q (IntKind.i64.wrap (e+1))) λa=>
 (S (!a.1) a.2.1 a.2.2.1 a.2.2.2.1 a.2.2.2.2.1 a.2.2.2.2.2.1 a.2.2.2.2.2.2.1 a.2.2.2.2.2.2.2.1 a.2.2.2.2.2.2.2.2.1 a.2.2.2.2.2.2.2.2.2.1 a.2.2.2.2.2.2.2.2.2.2.1 a.2.2.2.2.2.2.2.2.2.2.2.1 a.2.2.2.2.2.2.2.2.2.2.2.2.1 a.2.2.2.2.2.2.2.2.2.2.2.2.2) else(g h j k m o p r t w x y A B))
def f84s(H:lN→lH→lP→lS→lL→lO→lT→Int→lK→lM→lC→Int→Int→a9→Int→Option (Bool×lN×lH×lP×lS×lL×lO×lT×Int×lK×lM×lC×Int×Int))(f:lN)(g:lH)(h:lP)(j:lS)(k:lL)(c:lO)(m:lT)(p:Int)(r:lK)(t:lM)(w:lC)(jent:Int)(jleft:Int)(e1:a9)(x:Int):Option (Bool×lN×lH×lP×lS×lL×lO×lT×Int×lK×lM×lC×Int×Int):=
 af (λ(I:Bool)(J:Int)(d:a9)(c':Int)(dd:Int)(df:Int)(dk:Int)=>
 (bif (((((((((((decide ((IntKind.i64.wrap (jleft - 1))<0))||(decide (x>64)))||(!I))||(!decide ((List.length e1.l:Int)=J)))||(!decide (e1.op=d.op)))||(!decide (e1.n=d.n)))||(!decide (e1.o=d.o)))||(!decide (e1.off=d.off)))||(!decide (e1.len=0)))||(!decide (e1.lo=0)))||(!decide (e1.hi=0))) then some (false,f,g,h,j,k,c,m,p,r,t,w,jent,(IntKind.i64.wrap (jleft - 1))) else af (λ(K:Bool)(L:lN)(M:lH)(N:lP)(O:lS)(P:lL)(Q:lO)(R:lT)(S:Int)(T:lK)(U:lM)(V:lC)(W:Int)(X:Int)=>
 some ((!K),L,M,N,O,P,Q,R,S,T,U,V,W,X)) λY=>
 af (λ(Z:Int)(ad:lN)(ag:lH)(ax:lP)(a0:lS)(a1:lL)(a6:lO)(a7:lT)(a':Int)(bb:lK)(bk:lM)(bs:lC)(b0:Int)(b1:Int)=>
 (Y (decide (Z≥0)) ad ag ax a0 a1 a6 a7 a' bb bk bs b0 b1)) λy=>
 af (λ(b2:lN)(b3:lH)(b':lP)(ca:lS)(cc:lL)(cd:lO)(ci:lT)(cj:Int)(cl:lK)(cp:lM)(cx:lC)(c0:Int)(c1:Int)=>
 (y (-1) b2 b3 b' ca cc cd ci cj cl cp cx c0 c1)) λc2=>
 (f84s_l1 H e1 x y c2 (Int.toNat ((List.length e1.l:Int) - 0)+1) 0 f g h j k c m p r t w jent (IntKind.i64.wrap (jleft - 1))))) λe=>
 af (λ(c3:Int)(A:Int)(B:Int)(C:Int)(E:Int)=>
 (e true c3 (a9.mk e1.kind A B C E 0 0 0 []) A B C E)) λa=>
 (bif (decide (e1.kind=1)) then(a 0 0 e1.n 0 0) else(bif (decide (e1.kind=2)) then Option.bind (f79 (aC.mk (gp.mk f g h j k c m p r t w)) e1.o e1.off 1) λc4=>
 Option.bind (bif (!c4) then some true else(Option.bind (idx c e1.o) λc5=>some c5.ptr)) λc6=>
 (bif c6 then(e false 0 (a9.mk e1.kind 0 0 0 0 0 0 0 []) 0 0 0 0) else(a 0 0 0 e1.o e1.off)) else(bif (decide (e1.kind=14)) then af (λ(c7:Bool)=>
 (e c7 0 (a9.mk e1.kind 0 e1.n 0 0 0 0 0 []) 0 e1.n 0 0)) λF=>
 (bif (decide (e1.n≥0)) then(F (decide (e1.n<jent))) else(F false)) else(bif (decide (e1.kind=4)) then(a 1 18 0 0 0) else(bif (decide (e1.kind=5)) then(a 2 (if(if 15<e1.op then 15 else e1.op)>7 then(if 15<e1.op then 15 else e1.op) else 7) 0 0 0) else af (λ(c8:Bool)=>
 (bif c8 then(a 2 0 0 0 0) else(e false 0 (a9.mk e1.kind 0 0 0 0 0 0 0 []) 0 0 0 0))) λG=>
 (bif (decide (e1.kind=6)) then(G (decide (e1.kind=6))) else(G (decide (e1.kind=7)))))))))
def f84:Nat→lN→lH→lP→lS→lL→lO→lT→Int→lK→lM→lC→Int→Int→a9→Int→Option (Bool×lN×lH×lP×lS×lL×lO×lT×Int×lK×lM×lC×Int×Int)
 |0=>λ_ _ _ _ _ _ _ _ _ _ _ _ _ _ _=>none
 |n+1=>f84s (f84 n)
def f53_l2(t0:aC)(d:Int→(List a9)→oB)(a:iN):Nat→Int→oB
 |0,_=>none
 |na+1,c=>
 (bif (decide (c<(List.length a.barriers:Int))) then Option.bind (idx a.barriers c) λe=>
 Option.bind (f84 66 t0.text.insns t0.text.handlers t0.text.loops t0.text.selects t0.text.lists t0.text.objs t0.text.inits t0.text.excs t0.text.tasks t0.text.prots t0.text.checks (List.length a.barriers:Int) 256 e 1) λf=>
 (bif (!f.1) then some false else(f53_l2 t0 d a na (IntKind.i64.wrap (c+1)))) else(d a.ceiling a.barriers))
def f53_l1(t0:aC)(d:Unit→oB):Nat→Int→oB
 |0,_=>none
 |n+1,c=>
 (bif (decide (c<(List.length t0.text.prots:Int))) then af (λ(f:Int)(g:List a9)=>
 (f53_l1 t0 d n (IntKind.i64.wrap (c+1)))) λe=>
 Option.bind (idx t0.text.prots c) λa=>
 (bif (((decide (a.ceiling<0))||(decide (a.ceiling>31)))||(decide ((List.length a.barriers:Int)>8))) then some false else(f53_l2 t0 e a (Int.toNat ((List.length a.barriers:Int) - 0)+1) 0)) else(d ()))
def f53(t0:aC):oB:=
 af (λ(_:Unit)=>
 some (decide ((List.length t0.text.prots:Int)≤32))) λa=>
 (f53_l1 t0 a (Int.toNat ((List.length t0.text.prots:Int) - 0)+1) 0)
def f117(n0:Int)(a:aC)(c:Int):oB:=
 Option.bind (f79 a c n0 1) λd=>
 some d
def f87(t0:aC)(a:Int)(a2:np):oB:=
 Option.bind (bif (!(f75 t0 a2.at_)) then some true else(Option.bind (bif (!decide (a2.guard=(-1))) then(Option.bind (f117 a2.guard t0 a) λd=>some (!d)) else some false) λe=>some e)) λf=>
 (bif f then some false else(bif (decide (a2.kind=1)) then some (((decide (a2.entry≥0))&&(decide (a2.entry<8)))&&(decide (a2.time=0))) else af (λ(g:Bool)=>
 (bif g then Option.bind (bif (decide (a2.entry=0)) then(Option.bind (f117 a2.time t0 a) λh=>some h) else some false) λj=>
 some j else some ((decide (a2.kind=4))&&(decide ((IntKind.i64.wrap (BitVec.ofInt IntKind.i64.bits a2.entry|||BitVec.ofInt IntKind.i64.bits a2.time).toNat)=0))))) λc=>
 (bif (decide (a2.kind=2)) then(c (decide (a2.kind=2))) else(c (decide (a2.kind=3))))))
def f54_l2(t0:aC)(a:fM)(d:Int→oB)(e:Unit→oB):Nat→Int→oB
 |0,_=>none
 |na+1,c=>
 (bif (decide (c<(List.length a.alts:Int))) then Option.bind (idx a.alts c) λf=>
 af (λ(g:Bool)=>
 (bif g then(d c) else(f54_l2 t0 a d e na (IntKind.i64.wrap (c+1))))) λh=>
 Option.bind (f87 t0 a.obj f) λj=>
 (h (!j)) else(e ()))
def f54_l1(t0:aC)(d:Unit→oB):Nat→Int→oB
 |0,_=>none
 |n+1,c=>
 (bif (decide (c<(List.length t0.text.selects:Int))) then Option.bind (idx t0.text.selects c) λa=>
 (bif (((((decide ((List.length a.alts:Int)<1))||(decide ((List.length a.alts:Int)>16)))||(decide (a.obj<0)))||(decide (a.obj≥(List.length t0.text.objs:Int))))||((!decide (a.else_=(-1)))&&(!(f75 t0 a.else_)))) then some false else af (λ(f:Bool)=>
 (bif f then some false else(f54_l1 t0 d n (IntKind.i64.wrap (c+1))))) λg=>
 af (λ(h:Int)=>
 (g (decide (h≥0)))) λe=>
 af (λ(_:Unit)=>
 (e (-1))) λj=>
 (f54_l2 t0 a e j (Int.toNat ((List.length a.alts:Int) - 0)+1) 0)) else(d ()))
def f54(t0:aC):oB:=
 (bif (decide ((List.length t0.text.selects:Int)>1024)) then some false else af (λ(_:Unit)=>
 some true) λa=>
 (f54_l1 t0 a (Int.toNat ((List.length t0.text.selects:Int) - 0)+1) 0))
def f88(h0:bY)(a1:Int):Bool:=
 ((decide (h0.from_≤a1))&&(decide (a1<h0.to)))
def f55_l2(t0:aC)(d:Int)(f:Int→Int→Int→Bool→oB)(a:bY):Nat→Int→oB
 |0,_=>none
 |na+1,e=>
 (bif (decide (e<(List.length (cv t0.text.handlers 0 d):Int))) then Option.bind (idx (cv t0.text.handlers 0 d) e) λc=>
 (bif ((!((decide (c.from_≥a.from_))&&(decide (c.to≤a.to))))&&(decide ((if a.from_>c.from_ then a.from_ else c.from_)<(if a.to<c.to then a.to else c.to)))) then some false else(f55_l2 t0 d f a na (IntKind.i64.wrap (e+1)))) else(f a.from_ a.to a.at_ a.clean))
def f55_l1(t0:aC)(d:Unit→oB):Nat→Int→oB
 |0,_=>none
 |n+1,c=>
 (bif (decide (c<(List.length t0.text.handlers:Int))) then af (λ(f:Int)(g:Int)(h:Int)(j:Bool)=>
 (f55_l1 t0 d n (IntKind.i64.wrap (c+1)))) λe=>
 Option.bind (idx t0.text.handlers c) λa=>
 (bif (((((decide (a.from_<0))||(decide (a.from_≥a.to)))||(decide (a.to>(List.length t0.text.insns:Int))))||(!(f75 t0 a.at_)))||(f88 a a.at_)) then some false else fE (eQ t0.text.handlers 0 c)<|
 (f55_l2 t0 c e a (Int.toNat ((List.length (cv t0.text.handlers 0 c):Int) - 0)+1) 0)) else(d ()))
def f55(t0:aC):oB:=
 (bif (decide ((List.length t0.text.handlers:Int)>4096)) then some false else af (λ(_:Unit)=>
 some true) λa=>
 (f55_l1 t0 a (Int.toNat ((List.length t0.text.handlers:Int) - 0)+1) 0))
def f89(x0:cQ)(a:Int):Bool:=
 ((((decide (x0.op=29))||(decide (x0.op=30)))||(decide (x0.op=31)))&&(decide (x0.to=a)))
def f56_l1(t0:aC)(e:(List (Int×Bool))→oB):Nat→Int→(List (Int×Bool))→oB
 |0,_,_=>none
 |n+1,c,d=>
 (bif (decide (c<(List.length t0.text.loops:Int))) then Option.bind (idx t0.text.loops c) λa=>
 Option.bind (bif ((((decide (a.head<0))||(decide (a.head>a.back)))||(!(f75 t0 a.back)))||(Option.getD (bd d a.back) false)) then some true else(Option.bind (idx t0.text.insns a.back) λf=>some (!(f89 f a.head)))) λg=>
 (bif ((g||(decide (a.bound<0)))||(decide (a.bound>2147483647))) then some false else(f56_l1 t0 e n (IntKind.i64.wrap (c+1)) (aO d a.back true))) else(e d))
def f56(t0:aC):oB:=
 (bif (decide ((List.length t0.text.loops:Int)>4096)) then some false else af (λ(c:List (Int×Bool))=>
 some true) λa=>
 (f56_l1 t0 a (Int.toNat ((List.length t0.text.loops:Int) - 0)+1) 0 ([]:List (Int×Bool))))
def f43(t0:aC)(a1:Int):oB:=
 Option.bind (bif (f75 t0 a1) then(Option.bind (idx t0.text.insns a1) λa=>Option.bind (bif (decide (a.op=27)) then some true else(Option.bind (idx t0.text.insns a1) λc=>some (decide (c.op=28)))) λd=>some d) else some false) λe=>
 some e
def f57_l1(t0:aC)(d:Unit→oB):Nat→Int→Int→oB
 |0,_,_=>none
 |n+1,e,c=>
 (bif (decide (c<(List.length t0.text.checks:Int))) then Option.bind (idx t0.text.checks c) λa=>
 Option.bind (bif (decide (a.at_≤e)) then some true else(Option.bind (f43 t0 a.at_) λf=>some (!f))) λg=>
 (bif ((g||(decide (a.kind<1)))||(decide (a.kind>5))) then some false else(f57_l1 t0 d n a.at_ (IntKind.i64.wrap (c+1)))) else(d ()))
def f57(t0:aC):oB:=
 af (λ(_:Unit)=>
 some true) λa=>
 (f57_l1 t0 a (Int.toNat ((List.length t0.text.checks:Int) - 0)+1) (-1) 0)
def f90_l1(s0:lN)(c:cQ→oB)(d:Unit→Option (Int)):Nat→Int→Option (Int)
 |0,_=>none
 |n+1,a=>
 (bif (decide (a<(List.length s0:Int))) then Option.bind (idx s0 a) λe=>
 Option.bind (c e) λf=>
 (bif f then some a else(f90_l1 s0 c d n (IntKind.i64.wrap (a+1)))) else(d ()))
def f90(s0:lN)(a:cQ→oB):Option Int:=
 af (λ(_:Unit)=>
 some (-1)) λc=>
 (f90_l1 s0 a c (Int.toNat ((List.length s0:Int) - 0)+1) 0)
def f58(s0:lN)(a:cQ→oB):oB:=
 Option.bind (f90 s0 a) λc=>
 some (decide (c≥0))
def f118(o0:Int):Option (fN×Bool):=
 (bif ((decide (o0<1))||(decide ((IntKind.i64.wrap o0)>57))) then some ((fN.mk ByteArray.empty ByteArray.empty),false) else Option.bind (idx e9 (IntKind.u8.wrap (o0 - 1))) λa=>
 some (a,true))
def f147_l1(s0:ByteArray)(c:Int→Int→Option (List ByteArray)):Nat→Int→Int→Int→Int→Option (List ByteArray)
 |0,_,_,_,_=>none
 |n+1,d,wasSpace116,setBits117,a=>
 (bif (decide (a<(s0.size:Int))) then Option.bind (eR s0 a) λe=>
 Option.bind (idx bH e) λf=>
 (f147_l1 s0 c n (IntKind.i64.wrap (d+(IntKind.i64.wrap (BitVec.ofInt IntKind.i64.bits wasSpace116&&&BitVec.ofInt IntKind.i64.bits (IntKind.i64.wrap (BitVec.ofInt IntKind.i64.bits (-1)^^^BitVec.ofInt IntKind.i64.bits (IntKind.i64.wrap f)).toNat)).toNat))) (IntKind.i64.wrap f) (IntKind.u8.wrap (BitVec.ofInt IntKind.u8.bits setBits117|||BitVec.ofInt IntKind.u8.bits e).toNat) (IntKind.i64.wrap (a+1))) else(c d setBits117))
def f147_l2(s0:ByteArray)(c:Int→Option (List ByteArray)):Nat→Int→Option (List ByteArray)
 |0,_=>none
 |n+1,a=>
 Option.bind (bif (decide (a<(s0.size:Int))) then(Option.bind (eR s0 a) λd=>Option.bind (idx bH d) λe=>some (!decide (e=0))) else some false) λf=>
 (bif f then(f147_l2 s0 c n (IntKind.i64.wrap (a+1))) else(c a))
def f147_l4(s0:ByteArray)(c:Int→Option (List ByteArray)):Nat→Int→Option (List ByteArray)
 |0,_=>none
 |na+1,a=>
 Option.bind (bif (decide (a<(s0.size:Int))) then(Option.bind (eR s0 a) λd=>Option.bind (idx bH d) λe=>some (!decide (e=0))) else some false) λf=>
 (bif f then(f147_l4 s0 c na (IntKind.i64.wrap (a+1))) else(c a))
def f147_l3(s0:ByteArray)(e:Int→Int→(List ByteArray)→Option (List ByteArray)):Nat→Int→Int→Int→(List ByteArray)→Option (List ByteArray)
 |0,_,_,_,_=>none
 |n+1,a,fieldStart143,c,d=>
 (bif (decide (c<(s0.size:Int))) then Option.bind (eR s0 c) λg=>
 Option.bind (idx bH g) λh=>
 (bif (decide (h=0)) then(f147_l3 s0 e n a fieldStart143 (IntKind.i64.wrap (c+1)) d) else Option.bind (mV s0 fieldStart143 c) λj=>
 Option.bind (idx d a) λm=>
 af (λ(f:Int)=>
 (f147_l3 s0 e n (IntKind.i64.wrap (a+1)) f f (List.set d (Int.toNat a) j))) λk=>
 (f147_l4 s0 k 9223372036854775808 (IntKind.i64.wrap (c+1)))) else(e a fieldStart143 d))
def f147(s0:ByteArray):Option (List ByteArray):=
 af (λ(c:Int)(setBits109:Int)=>
 (bif (decide (setBits109≥128)) then none else fE (p9 16 c)<|
 af (λ(d:Int)=>
 af (λ(e:Int)(fieldStart135:Int)(a:List ByteArray)=>
 af (λ(g:List ByteArray)=>
 some g) λf=>
 (bif (decide (fieldStart135<(s0.size:Int))) then Option.bind (mV s0 fieldStart135 (s0.size:Int)) λh=>
 Option.bind (idx a e) λo=>
 (f (List.set a (Int.toNat e) h)) else(f a))) λj=>
 (f147_l3 s0 j 9223372036854775808 0 d d (List.replicate (Int.toNat c) (ByteArray.empty:ByteArray)))) λk=>
 (f147_l2 s0 k 9223372036854775808 0))) λm=>
 (f147_l1 s0 m 9223372036854775808 0 1 0 0)
def f150(a:Int):Int×Int:=
 (bif (decide (a=114)) then(0,15) else(bif (decide (a=111)) then(0,4095) else(bif (decide (a=115)) then(0,65535) else(bif (decide (a=108)) then(1,65536) else(bif (decide (a=120)) then(1,64) else(bif (decide (a=107)) then(6,7) else(bif (decide (a=101)) then(0,7) else(bif (decide (a=112)) then(0,31) else(bif (decide (a=113)) then((-1),31) else(bif (decide (a=109)) then(0,3) else(bif (decide (a=106)) then(0,1023) else(bif (decide (a=98)) then(0,1) else((-9223372036854775808),9223372036854775807)))))))))))))
def f91_l1(m:Int→Int→Int→Int→Int→Int→ByteArray→ByteArray→Int→Int→Int→Int→oB)(o:Int→Int→Int→Int→Int→Int→ByteArray→ByteArray→Int→Int→Int→Int→oB)(p:Int→Int→Int→Int→Int→Int→ByteArray→ByteArray→Int→Int→Int→Int→oB)(r:Int→Int→Int→Int→Int→Int→ByteArray→ByteArray→Int→Int→Int→Int→oB)(t:Int→Int→Int→Int→Int→Int→ByteArray→ByteArray→Int→Int→Int→Int→oB)(w:Int→Int→Int→Int→Int→Int→ByteArray→ByteArray→Int→Int→Int→Int→oB)(x:Int→Int→Int→Int→Int→Int→ByteArray→ByteArray→oB)(a:fN×Bool)(j:List ByteArray):Nat→Int→Int→Int→Int→Int→Int→Int→oB
 |0,_,_,_,_,_,_,_=>none
 |n+1,k,c,d,e,f,g,h=>
 (bif (decide (k<(List.length j:Int))) then Option.bind (idx j k) λy=>
 Option.bind (eR y 0) λH=>
 (bif (decide (H=68)) then af (λ(_:Unit)=>
 Option.bind (eR y 1) λA=>
 af (λ(_:Unit)=>
 (m c d e f g h a.1.name a.1.fields ((f150 A).1) ((f150 A).2) ((f150 A).1) ((f150 A).2))) λI=>
 af (λ(_:Unit)=>
 (f91_l1 m o p r t w x a j n (IntKind.i64.wrap (k+1)) 0 d e f g h)) λJ=>
 af (λ(_:Unit)=>
 (bif ((decide (c<((f150 A).1)))||(decide (c>((f150 A).2)))) then(I ()) else af (λ(_:Unit)=>
 (J ())) λK=>
 (K ()))) λL=>
 (L ())) λM=>
 (M ()) else(bif (decide (H=65)) then af (λ(_:Unit)=>
 Option.bind (eR y 1) λB=>
 af (λ(_:Unit)=>
 (o c d e f g h a.1.name a.1.fields ((f150 B).1) ((f150 B).2) ((f150 B).1) ((f150 B).2))) λN=>
 af (λ(_:Unit)=>
 (f91_l1 m o p r t w x a j n (IntKind.i64.wrap (k+1)) c 0 e f g h)) λO=>
 af (λ(_:Unit)=>
 (bif ((decide (d<((f150 B).1)))||(decide (d>((f150 B).2)))) then(N ()) else af (λ(_:Unit)=>
 (O ())) λP=>
 (P ()))) λQ=>
 (Q ())) λR=>
 (R ()) else(bif (decide (H=66)) then af (λ(_:Unit)=>
 Option.bind (eR y 1) λC=>
 af (λ(_:Unit)=>
 (p c d e f g h a.1.name a.1.fields ((f150 C).1) ((f150 C).2) ((f150 C).1) ((f150 C).2))) λS=>
 af (λ(_:Unit)=>
 (f91_l1 m o p r t w x a j n (IntKind.i64.wrap (k+1)) c d 0 f g h)) λT=>
 af (λ(_:Unit)=>
 (bif ((decide (e<((f150 C).1)))||(decide (e>((f150 C).2)))) then(S ()) else af (λ(_:Unit)=>
 (T ())) λU=>
 (U ()))) λV=>
 (V ())) λW=>
 (W ()) else(bif (decide (H=78)) then af (λ(_:Unit)=>
 Option.bind (eR y 1) λE=>
 af (λ(_:Unit)=>
 (r c d e f g h a.1.name a.1.fields ((f150 E).1) ((f150 E).2) ((f150 E).1) ((f150 E).2))) λX=>
 af (λ(_:Unit)=>
 (f91_l1 m o p r t w x a j n (IntKind.i64.wrap (k+1)) c d e 0 g h)) λY=>
 af (λ(_:Unit)=>
 (bif ((decide (f<((f150 E).1)))||(decide (f>((f150 E).2)))) then(X ()) else af (λ(_:Unit)=>
 (Y ())) λZ=>
 (Z ()))) λad=>
 (ad ())) λag=>
 (ag ()) else(bif (decide (H=77)) then af (λ(_:Unit)=>
 Option.bind (eR y 1) λF=>
 af (λ(_:Unit)=>
 (t c d e f g h a.1.name a.1.fields ((f150 F).1) ((f150 F).2) ((f150 F).1) ((f150 F).2))) λax=>
 af (λ(_:Unit)=>
 (f91_l1 m o p r t w x a j n (IntKind.i64.wrap (k+1)) c d e f 0 h)) λa0=>
 af (λ(_:Unit)=>
 (bif ((decide (g<((f150 F).1)))||(decide (g>((f150 F).2)))) then(ax ()) else af (λ(_:Unit)=>
 (a0 ())) λa1=>
 (a1 ()))) λa6=>
 (a6 ())) λa7=>
 (a7 ()) else af (λ(_:Unit)=>
 Option.bind (eR y 1) λG=>
 af (λ(_:Unit)=>
 (w c d e f g h a.1.name a.1.fields ((f150 G).1) ((f150 G).2) ((f150 G).1) ((f150 G).2))) λa'=>
 af (λ(_:Unit)=>
 (f91_l1 m o p r t w x a j n (IntKind.i64.wrap (k+1)) c d e f g 0)) λbb=>
 af (λ(_:Unit)=>
 (bif ((decide (h<((f150 G).1)))||(decide (h>((f150 G).2)))) then(a' ()) else af (λ(_:Unit)=>
 (bb ())) λbk=>
 (bk ()))) λbs=>
 (bs ())) λb0=>
 (b0 ())))))) else(x c d e f g h a.1.name a.1.fields))
def f91(x0:cQ):oB:=
 Option.bind (f118 x0.op) λf=>
 (bif ((!f.2)||((decide (x0.op=27))&&(decide (x0.n>x0.m)))) then some false else(bif (((decide (x0.op=37))&&(decide ((IntKind.u8.wrap x0.n)=6)))&&(!decide (x0.m=0))) then some false else af (λ(g:Int)(h:Int)(j:Int)(k:Int)(o:Int)(p:Int)(N:ByteArray)(O:ByteArray)=>
 some (((decide (x0.op=x0.op))&&((decide (g=0))&&((decide (h=0))&&((decide (j=0))&&((decide (k=0))&&((decide (o=0))&&((decide (p=0))&&true))))))))) λr=>
 af (λ(_:Unit)=>
 af (λ(P:Int)(Q:Int)(R:Int)(S:Int)(T:Int)(U:Int)(V:ByteArray)(W:ByteArray)(X:Int)(Y:Int)(Z:Int)(ad:Int)=>
 some false) λt=>
 af (λ(ag:Int)(ax:Int)(a0:Int)(a1:Int)(a6:Int)(a7:Int)(a':ByteArray)(bb:ByteArray)(bk:Int)(bs:Int)(b0:Int)(b1:Int)=>
 some false) λw=>
 af (λ(b2:Int)(b3:Int)(b':Int)(ca:Int)(cc:Int)(cd:Int)(ci:ByteArray)(cj:ByteArray)(cl:Int)(cp:Int)(cx:Int)(c0:Int)=>
 some false) λx=>
 af (λ(c1:Int)(c2:Int)(c3:Int)(c4:Int)(c5:Int)(c6:Int)(c7:ByteArray)(c8:ByteArray)(c':Int)(dd:Int)(df:Int)(dk:Int)=>
 some false) λy=>
 af (λ(ds:Int)(dS:Int)(d0:Int)(d1:Int)(d':Int)(ee:Int)(el:ByteArray)(em:ByteArray)(en:Int)(eq:Int)(er:Int)(es:Int)=>
 some false) λA=>
 af (λ(et:Int)(ew:Int)(ex:Int)(ey:Int)(e0:Int)(e1:Int)(e2:ByteArray)(e3:ByteArray)(e4:Int)(e5:Int)(e6:Int)(e7:Int)=>
 some false) λB=>
 af (λ(C:Int)(E:Int)(F:Int)(G:Int)(H:Int)(I:Int)(J:ByteArray)(K:ByteArray)=>
 (r C E F G H I J K)) λL=>
 Option.bind (f118 x0.op) λc=>
 Option.bind (f147 c.1.fields) λe=>
 (f91_l1 t w x y A B L c e (Int.toNat ((List.length e:Int) - 0)+1) 0 x0.d x0.a x0.b x0.n x0.m x0.to)) λM=>
 (M ())))
def f92(y0:cQ):Bool:=
 (!decide (y0.op=29))
def f93(t0:aC)(a:Int)(n2:Int):Option (Int×Bool):=
 Option.bind (bif (((decide (a<0))||(decide (a≥(List.length t0.text.tasks:Int))))||(decide (n2<0))) then some true else(Option.bind (idx t0.text.tasks a) λd=>some (decide (n2≥(List.length d.entries:Int))))) λe=>
 (bif e then some (0,false) else Option.bind (idx t0.text.tasks a) λf=>
 Option.bind (idx f.entries n2) λc=>
 some ((IntKind.i64.wrap ((IntKind.i64.wrap ((List.length c.ins:Int)+(List.length c.outs:Int)))+1)),true))
def f94(t0:aC)(p1:Int)(n2:Int):oB:=
 Option.bind (bif (((decide (p1≥0))&&(decide (p1<(List.length t0.text.prots:Int))))&&(decide (n2≥0))) then(Option.bind (idx t0.text.prots p1) λa=>some (decide (n2<(List.length a.barriers:Int)))) else some false) λc=>
 some c
def f60(t0:aC)(x1:cQ):oB:=
 Option.bind (f91 x1) λj=>
 (bif (!j) then some false else af (λ(k:Bool)=>
 (bif k then Option.bind (f79 t0 x1.n x1.m 1) λo=>
 some o else af (λ(p:Bool)=>
 (bif p then Option.bind (f79 t0 x1.n x1.m x1.b) λr=>
 some r else af (λ(t:Bool)=>
 (bif t then some (f75 t0 x1.to) else(bif (decide (x1.op=32)) then Option.bind (bif (decide ((IntKind.i64.wrap (x1.to+x1.m))≤(List.length t0.text.insns:Int))) then(fE (eQ t0.text.insns x1.to (IntKind.i64.wrap (x1.to+x1.m)))<|Option.bind (f58 (cv t0.text.insns x1.to (IntKind.i64.wrap (x1.to+x1.m))) (λz0=>some (f92 z0))) λw=>some (!w)) else some false) λx=>
 some x else(bif (decide (x1.op=33)) then some (decide (x1.n≤t0.text.excs)) else af (λ(y:Bool)=>
 (bif y then some (decide (x1.n<(List.length t0.text.lists:Int))) else(bif (decide (x1.op=50)) then some (decide (x1.n<(List.length t0.text.selects:Int))) else(bif (decide (x1.op=49)) then Option.bind (f93 t0 x1.a x1.b) λe=>
 Option.bind (bif e.2 then(Option.bind (f79 t0 x1.n 0 e.1) λA=>some A) else some false) λB=>
 some B else(bif (decide (x1.op=52)) then Option.bind (f93 t0 x1.a x1.b) λC=>
 some (C.2&&(decide (x1.to<(List.length t0.text.insns:Int)))) else af (λ(E:Bool)=>
 (bif E then some (decide (x1.n<(List.length t0.text.prots:Int))) else(bif (decide (x1.op=54)) then Option.bind (f94 t0 x1.n x1.m) λF=>
 some F else(bif (decide (x1.op=43)) then Option.bind (bif (decide (x1.m<0)) then some true else(Option.bind (f94 t0 x1.m x1.n) λG=>some G)) λH=>
 some H else some true)))) λf=>
 (bif (decide (x1.op=53)) then(f (decide (x1.op=53))) else(f (decide (x1.op=55))))))))) λc=>
 (bif (decide (x1.op=44)) then(c (decide (x1.op=44))) else(bif (decide (x1.op=45)) then(c (decide (x1.op=45))) else(bif (decide (x1.op=46)) then(c (decide (x1.op=46))) else(c (decide (x1.op=56)))))))))) λd=>
 (bif (decide (x1.op=29)) then(d (decide (x1.op=29))) else(bif (decide (x1.op=30)) then(d (decide (x1.op=30))) else(d (decide (x1.op=31))))))) λg=>
 (bif (decide (x1.op=5)) then(g (decide (x1.op=5))) else(g (decide (x1.op=6)))))) λh=>
 (bif (decide (x1.op=3)) then(h (decide (x1.op=3))) else(h (decide (x1.op=4)))))
def f23_l1(t0:gp)(c:Int→oB)(d:Unit→oB):Nat→Int→oB
 |0,_=>none
 |n+1,a=>
 (bif (decide (a<(List.length t0.insns:Int))) then Option.bind (idx t0.insns a) λe=>
 af (λ(f:Bool)=>
 (bif f then(c a) else(f23_l1 t0 c d n (IntKind.i64.wrap (a+1))))) λg=>
 Option.bind (f60 (aC.mk t0) e) λh=>
 (g (!h)) else(d ()))
def f23(t0:gp):oB:=
 (bif ((decide ((List.length t0.insns:Int)<1))||(decide ((List.length t0.insns:Int)>65536))) then some false else Option.bind (idx t0.insns (IntKind.i64.wrap ((List.length t0.insns:Int) - 1))) λa=>
 af (λ(e:Bool)=>
 (bif e then af (λ(_:Unit)=>
 af (λ(f:Bool)=>
 some (!f)) λg=>
 af (λ(h:Int)=>
 (g (decide (h≥0)))) λd=>
 af (λ(_:Unit)=>
 (d (-1))) λj=>
 (f23_l1 t0 d j (Int.toNat ((List.length t0.insns:Int) - 0)+1) 0)) λk=>
 Option.bind (f50 (aC.mk t0)) λm=>
 (bif (!m) then some false else Option.bind (f51 (aC.mk t0)) λo=>
 (bif (!o) then some false else Option.bind (f52 (aC.mk t0)) λp=>
 (bif (!p) then some false else Option.bind (f53 (aC.mk t0)) λr=>
 (bif (!r) then some false else Option.bind (f54 (aC.mk t0)) λt=>
 (bif (!t) then some false else Option.bind (f55 (aC.mk t0)) λw=>
 (bif (!w) then some false else Option.bind (f56 (aC.mk t0)) λx=>
 (bif (!x) then some false else Option.bind (f57 (aC.mk t0)) λy=>
 (bif (!y) then some false else(k ()))))))))) else some false)) λc=>
 (bif (decide (a.op=29)) then(c (decide (a.op=29))) else(bif (decide (a.op=33)) then(c (decide (a.op=33))) else(bif (decide (a.op=34)) then(c (decide (a.op=34))) else(c (decide (a.op=57)))))))
def f71(a0:aS):Bool:=
 (decide (a0.lo>a0.hi))
def f39(a:Int)(c:Int):aS:=
 (aS.mk a c)
def f68(v0:Int):aS:=
 (aS.mk v0 v0)
def f38(a0:aS)(b1:aS):Bool:=
 ((f71 a0)||((decide (a0.lo≥b1.lo))&&(decide (a0.hi≤b1.hi))))
def f151:aS:=
 (aS.mk 1 0)
def f154(a0:aS)(b1:aS):aS:=
 (bif (!(f71 (aS.mk (if b1.lo>a0.lo then b1.lo else a0.lo) (if b1.hi<a0.hi then b1.hi else a0.hi)))) then(aS.mk (if b1.lo>a0.lo then b1.lo else a0.lo) (if b1.hi<a0.hi then b1.hi else a0.hi)) else f151)
def f40(a0:aS)(v1:Int):Bool:=
 ((decide (a0.lo≤v1))&&(decide (v1≤a0.hi)))
def f158(v0:aS):aS:=
 af (λ(d:Int)=>
 af (λ(e:Int)=>
 (aS.mk d e)) λa=>
 (bif (decide (v0.hi=0)) then(a (IntKind.i64.wrap (v0.hi - 1))) else(a v0.hi))) λc=>
 (bif (decide (v0.lo=0)) then(c (IntKind.i64.wrap (v0.lo+1))) else(c v0.lo))
def f155(v0:aS):Bool:=
 (decide (v0.lo>v0.hi))
def f152_l1(c:lI)(g:Int→Int→Option (aS)):Nat→Int→Int→Int→Option (aS)
 |0,_,_,_=>none
 |n+1,d,e,f=>
 (bif (decide (d<(List.length c:Int))) then Option.bind (idx c d) λa=>
 (f152_l1 c g n (IntKind.i64.wrap (d+1)) (if a<e then a else e) (if a>f then a else f)) else(g e f))
def f152(a:Int)(c:lI):Option aS:=
 af (λ(d:Int)(e:Int)=>
 some (aS.mk d e)) λf=>
 (f152_l1 c f (Int.toNat ((List.length c:Int) - 0)+1) 0 a a)
def f120(a0:aS)(b1:aS):Option aS:=
 (bif ((f71 a0)&&(f71 b1)) then some f151 else(bif (f71 a0) then some b1 else(bif (f71 b1) then some a0 else Option.bind (f152 a0.lo [a0.hi,b1.lo,b1.hi]) λa=>
 some a)))
def f6_l1(a:lI)(a1:Int)(e:(List (Int×Bool))→Option (Int)):Nat→Int→(List (Int×Bool))→Option (Int)
 |0,_,_=>none
 |n+1,c,d=>
 (bif (decide (c<(List.length a:Int))) then af (λ(h:List (Int×Bool))=>
 (f6_l1 a a1 e n (IntKind.i64.wrap (c+1)) h)) λf=>
 Option.bind (idx a c) λg=>
 (bif (decide (g<a1)) then(f (aO d g true)) else(f d)) else(e d))
def f6(a:lI)(a1:Int):Option Int:=
 af (λ(c:List (Int×Bool))=>
 some (IntKind.i64.wrap (a1 - (List.length c:Int)))) λd=>
 (f6_l1 a a1 d (Int.toNat ((List.length a:Int) - 0)+1) 0 ([]:List (Int×Bool)))
def f7_l2(a:lI)(c:Int)(e:Bool→Option (Int)):Nat→Bool→Int→Option (Int)
 |0,_,_=>none
 |na+1,f,d=>
 (bif (decide (d<c)) then Option.bind (bif f then some true else(Option.bind (idx a d) λg=>Option.bind (idx a c) λh=>some (decide (g=h)))) λj=>
 (f7_l2 a c e na j (IntKind.i64.wrap (d+1))) else(e f))
def f7_l1(a:lI)(a1:Int)(e:Int→Option (Int)):Nat→Int→Int→Option (Int)
 |0,_,_=>none
 |n+1,d,c=>
 (bif (decide (c<(List.length a:Int))) then af (λ(g:Int)=>
 (f7_l1 a a1 e n g (IntKind.i64.wrap (c+1)))) λf=>
 af (λ(h:Bool)=>
 Option.bind (idx a c) λj=>
 (bif ((decide (j<a1))&&(!h)) then(f (IntKind.i64.wrap (d+1))) else(f d))) λk=>
 (f7_l2 a c k 9223372036854775808 false 0) else(e d))
def f7(a:lI)(a1:Int):Option Int:=
 af (λ(c:Int)=>
 some (IntKind.i64.wrap (a1 - c))) λd=>
 (f7_l1 a a1 d 9223372036854775808 0 0)
def f8_l1(a0:lI)(b1:lI)(c:Unit→oB):Nat→Int→oB
 |0,_=>none
 |n+1,a=>
 (bif (decide (a<(List.length a0:Int))) then Option.bind (idx a0 a) λd=>
 Option.bind (idx b1 a) λe=>
 (bif (!decide (d=e)) then some false else(f8_l1 a0 b1 c n (IntKind.i64.wrap (a+1)))) else(c ()))
def f8(a0:lI)(b1:lI):oB:=
 (bif (!decide ((List.length a0:Int)=(List.length b1:Int))) then some false else af (λ(_:Unit)=>
 some true) λa=>
 (f8_l1 a0 b1 a 9223372036854775808 0))
def f5:oB:=some true
def f3(a:lI)(a1:Int):oB:=
 (bif (decide ((List.length a:Int)>200)) then Option.bind (f5) λc=>
 some c else fE (ge 8 ([]:lI) a)<|
 Option.bind (f6 (([]:lI)++a) a1) λd=>
 Option.bind (f7 a a1) λe=>
 Option.bind (bif (decide (d=e)) then(Option.bind (f8 (([]:lI)++a) a) λf=>some f) else some false) λg=>
 Option.bind (bif g then(Option.bind (f5) λh=>some h) else some false) λj=>
 some j)
abbrev sN:AV:= .d (.v (.slice none 0 0))
abbrev _root_.Go.Sk.AO.z:AO:= .dead
abbrev txA(t:gp):lV:=[.l E45 t.insns, .l E88 t.handlers, .l E90 t.loops, .l E82 t.selects, .l E22 t.lists, .l E50 t.objs, .l E62 t.inits, .n t.excs, .l E57 t.tasks, .l E71 t.prots, .l E79 t.checks]
abbrev txV(a:lN)(b:lH)(c:lP)(d:lS)(e:lL)(f:lO)(g:lT)(h:Int)(i:lK)(j:lM)(k:lC):lV:=[.l E45 a, .l E88 b, .l E90 c, .l E82 d, .l E22 e, .l E50 f, .l E62 g, .n h, .l E57 i, .l E71 j, .l E79 k]
end Go.Proofs.YtlkhnkpflmpjhaaGreatDoor
