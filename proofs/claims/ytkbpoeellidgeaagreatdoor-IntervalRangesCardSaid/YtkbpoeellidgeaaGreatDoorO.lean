/- Part of the proof. -/
import Derived.Test.YtkbpoeellidgeaaGreatDoorSc
set_option linter.unusedVariables false
set_option linter.unusedSimpArgs false
set_option linter.unusedSectionVars false
set_option linter.unnecessarySimpa false
namespace Go.Proofs.YtkbpoeellidgeaaGreatDoor
open Go Go.Sk
structure aa where
 lo:Int
 hi:Int
structure aj where
 reached:Bool
 r:Nat→aa
structure Field where
 name:Int
 lo:Int
 hi:Int
structure Row where
 op:Int
 name:ByteArray
 fields:List Field
structure Place where
 o:Int
 k:Int
structure ao where
 op:Int
 d:Int
 a:Int
 b:Int
 n:Int
 m:Int
 to:Int
structure bB where
 from_:Int
 to:Int
 at_:Int
 clean:Bool
structure Loop where
 head:Int
 back:Int
 bound:Int
structure jb where
 kind:Int
 entry:Int
 guard:Int
 time:Int
 at_:Int
structure c4 where
 alts:List jb
 obj:Int
 else_:Int
structure Obj where
 size:Int
 lo:Int
 hi:Int
 ptr:Bool
 set_:List Int
structure bZ where
 o:Int
 slot:Int
 v:Int
structure bO where
 ins:List Int
 outs:List Int
structure bJ where
 prio:Int
 at_:Int
 entries:List bO
 deadline:Int
structure bc where
 kind:Int
 op:Int
 n:Int
 o:Int
 off:Int
 len:Int
 lo:Int
 hi:Int
 l:List bc
structure eH where
 ceiling:Int
 barriers:List bc
structure ef where
 at_:Int
 kind:Int
structure al where
 insns:List ao
 handlers:List bB
 loops:List Loop
 selects:List c4
 lists:List (List Int)
 objs:List Obj
 inits:List bZ
 excs:Int
 tasks:List bJ
 prots:List eH
 checks:List ef
structure bP where
 text:al
structure Judge where
 view:bP
 entries:Int
 left:Int
structure Spot where
 o:Int
 slot:Int
structure hZ where
 name:ByteArray
 fields:ByteArray
abbrev R59(x:ao):List D:=[.i .u8 x.op, .i .i64 x.d, .i .i64 x.a, .i .i64 x.b, .i .i64 x.n, .i .i64 x.m, .i .i64 x.to]
abbrev E59(x:ao):List D:=R59 x
theorem c9(x:ao):E59 x=R59 x:=rfl
abbrev u7(x:bB):List D:=[.i .i64 x.from_, .i .i64 x.to, .i .i64 x.at_, .b x.clean]
abbrev cq(x:bB):List D:=u7 x
theorem ir(x:bB):cq x=u7 x:=rfl
abbrev R106(x:Loop):List D:=[.i .i64 x.head, .i .i64 x.back, .i .i64 x.bound]
abbrev cM(x:Loop):List D:=R106 x
theorem nI(x:Loop):cM x=R106 x:=rfl
abbrev qs(x:jb):List D:=[.i .u8 x.kind, .i .i64 x.entry, .i .i64 x.guard, .i .i64 x.time, .i .i64 x.at_]
abbrev eo(x:jb):List D:=qs x
theorem nJ(x:jb):eo x=qs x:=rfl
abbrev R98(x:c4):List D:=[.sl (List.map eo x.alts), .i .i64 x.obj, .i .i64 x.else_]
abbrev E98(x:c4):List D:=R98 x
theorem nF(x:c4):E98 x=R98 x:=rfl
abbrev E3(x:Int):List D:=[.i .i64 x]
theorem du(x:Int):E3 x=[.i .i64 x]:=rfl
abbrev E51(x:List Int):List D:=[.sl (List.map E3 x)]
theorem t8(x:List Int):E51 x=[.sl (List.map E3 x)]:=rfl
abbrev R53(x:Obj):List D:=[.i .i64 x.size, .i .i64 x.lo, .i .i64 x.hi, .b x.ptr, .sl (List.map E3 x.set_)]
abbrev E53(x:Obj):List D:=R53 x
theorem cA(x:Obj):E53 x=R53 x:=rfl
abbrev R80(x:bZ):List D:=[.i .i64 x.o, .i .i64 x.slot, .i .i64 x.v]
abbrev E80(x:bZ):List D:=R80 x
theorem fK(x:bZ):E80 x=R80 x:=rfl
abbrev R74(x:bO):List D:=[.sl (List.map E3 x.ins), .sl (List.map E3 x.outs)]
abbrev E74(x:bO):List D:=R74 x
theorem ib(x:bO):E74 x=R74 x:=rfl
abbrev R48(x:bJ):List D:=[.i .i64 x.prio, .i .i64 x.at_, .sl (List.map E74 x.entries), .i .i64 x.deadline]
abbrev E48(x:bJ):List D:=R48 x
theorem dK(x:bJ):E48 x=R48 x:=rfl
abbrev lI:=List Int
abbrev lL:=List (List Int)
abbrev lN:=List ao
abbrev lH:=List bB
abbrev lO:=List Obj
abbrev lD:=List D
abbrev lV:=List AV
abbrev lW:=List AO
abbrev oB:=Option Bool
abbrev lP:=List Loop
abbrev lS:=List c4
abbrev lT:=List bZ
abbrev lK:=List bJ
abbrev lM:=List eH
abbrev lC:=List ef
abbrev fD:=Field.mk
abbrev bA:=ByteArray.mk

mutual
def E92:bc→lD
 | .mk kind op n o off len lo hi l=> [.i .u8 kind, .i .u8 op, .i .i64 n, .i .i64 o, .i .i64 off, .i .i64 len, .i .i64 lo, .i .i64 hi, .sl (E92s l)]
def E92s:List bc→List lD
 |[]=> []
 |e::l=>E92 e::E92s l
end
abbrev R92(x:bc):lD:=[.i .u8 x.kind, .i .u8 x.op, .i .i64 x.n, .i .i64 x.o, .i .i64 x.off, .i .i64 x.len, .i .i64 x.lo, .i .i64 x.hi, .sl (List.map E92 x.l)]
theorem ry:∀l,E92s l=List.map E92 l
 |[]=>rfl
 |e::l=>by rw[E92s,ry l];rfl
theorem jX(x:bc):E92 x=R92 x:=by
 cases x;simp only[E92,ry]
abbrev R87(x:eH):lD:=[.i .i64 x.ceiling, .sl (List.map E92 x.barriers)]
abbrev E87(x:eH):lD:=R87 x
theorem nG(x:eH):E87 x=R87 x:=rfl
abbrev R95(x:ef):lD:=[.i .i64 x.at_, .i .u8 x.kind]
abbrev E95(x:ef):lD:=R95 x
theorem qu(x:ef):E95 x=R95 x:=rfl
abbrev R33(x:al):lD:=[.sl (List.map E59 x.insns), .sl (List.map cq x.handlers), .sl (List.map cM x.loops), .sl (List.map E98 x.selects), .sl (List.map E51 x.lists), .sl (List.map E53 x.objs), .sl (List.map E80 x.inits), .i .i64 x.excs, .sl (List.map E48 x.tasks), .sl (List.map E87 x.prots), .sl (List.map E95 x.checks)]
abbrev E33(x:al):lD:=R33 x
abbrev R42(x:aa):lD:=[.i .i64 x.lo, .i .i64 x.hi]
abbrev E42(x:aa):lD:=R42 x
theorem bL(x:aa):E42 x=R42 x:=rfl
abbrev R43(x:Nat→aa):lD:=nZ 32 (aO R42 x)
abbrev R45(x:aj):lD:=[.b x.reached]++(R43 x.r)
abbrev E45(x:aj):lD:=R45 x
theorem dL(x:aj):E45 x=R45 x:=rfl
abbrev bU(x:bP):lD:=[.sl (List.map E59 x.text.insns), .sl (List.map cq x.text.handlers), .sl (List.map cM x.text.loops), .sl (List.map E98 x.text.selects), .sl (List.map E51 x.text.lists), .sl (List.map E53 x.text.objs), .sl (List.map E80 x.text.inits), .i .i64 x.text.excs, .sl (List.map E48 x.text.tasks), .sl (List.map E87 x.text.prots), .sl (List.map E95 x.text.checks)]
abbrev R134(x:Field):lD:=[.i .u8 x.name, .i .i64 x.lo, .i .i64 x.hi]
abbrev t9(x:Field):lD:=R134 x
theorem aI(x:Field):t9 x=R134 x:=rfl
abbrev u6(x:Row):lD:=[.i .u8 x.op, .s x.name, .sl (List.map t9 x.fields)]
abbrev u9(x:Row):lD:=u6 x
theorem nH(x:Row):u9 x=u6 x:=rfl
abbrev wD(x:hZ):lD:=[.s x.name, .s x.fields]
abbrev E2(x:Int):lD:=[.i .i64 x]
theorem fg(x:Int):E2 x=[.i .i64 x]:=rfl
abbrev E4(x:Bool):lD:=[.b x]
theorem lQ(x:Bool):E4 x=[.b x]:=rfl
abbrev E90(x:Int):lD:=[.i .u8 x]
abbrev E50(x:List aa):lD:=[.sl (List.map E42 x)]
theorem c5(x:List aa):E50 x=[.sl (List.map E42 x)]:=rfl
abbrev E9(x:ByteArray):lD:=[.s x]
theorem vG(x:ByteArray):E9 x=[.s x]:=rfl
abbrev E71(x:lI):lD:=[.sl (List.map E2 x)]
theorem t7(x:lI):E71 x=[.sl (List.map E2 x)]:=rfl
def jm:List hZ:=ng.map λp=>⟨p.1,p.2⟩
theorem nt:gpc 0=some (jm.flatMap wD):=by
 unfold jm
 rw[List.flatMap_map]
 rfl
def f160(a0:Int)(b1:Int):Int:=
 (IntKind.i64.wrap (a0+b1))
def f161(a0:Int)(b1:Int):Int:=
 (IntKind.i64.wrap (a0 - b1))
def f162(a0:Int)(b1:Int):Int:=
 (IntKind.i64.wrap (a0*b1))
def f164(a0:Int)(b1:Int):Option Int:=
 aL (nz b1)<|
 some (IntKind.i64.wrap (Int.tdiv a0 b1))
def f165(a0:Int)(b1:Int):Option Int:=
 aL (nz b1)<|
 some (Int.tmod a0 b1)
def f168(a0:Int)(b1:Int):Bool:=
 (decide (a0=b1))
def f169(a0:Int)(b1:Int):Bool:=
 (!decide (a0=b1))
def f170(a0:Int)(b1:Int):Bool:=
 (decide (a0<b1))
def f171(a0:Int)(b1:Int):Bool:=
 (decide (a0≤b1))
def f172(a0:Int)(b1:Int):Bool:=
 (decide (a0>b1))
def f173(a0:Int)(b1:Int):Bool:=
 (decide (a0≥b1))
def f174(a0:Int)(b1:Int):Int:=
 (IntKind.i64.wrap (BitVec.ofInt IntKind.i64.bits a0&&&BitVec.ofInt IntKind.i64.bits b1).toNat)
def f175(a0:Int)(b1:Int):Int:=
 (IntKind.i64.wrap (BitVec.ofInt IntKind.i64.bits a0|||BitVec.ofInt IntKind.i64.bits b1).toNat)
def f176(a0:Int)(b1:Int):Int:=
 (IntKind.i64.wrap (BitVec.ofInt IntKind.i64.bits a0^^^BitVec.ofInt IntKind.i64.bits b1).toNat)
def f177(a0:Int)(p1:Int):Int:=
 (IntKind.i64.wrap (0 - a0))
def f178(a0:Int)(p1:Int):Int:=
 (if(IntKind.i64.wrap (0 - a0))>a0 then(IntKind.i64.wrap (0 - a0)) else a0)
def f179(a0:Int)(p1:Int):Int:=
 (IntKind.i64.wrap (1 - a0))
def f166(a0:Int)(b1:Int):Option Int:=
 aL (nz b1)<|
 (bif ((decide ((Int.tmod a0 b1)=0))||(decide ((IntKind.i64.wrap (BitVec.ofInt IntKind.i64.bits (Int.tmod a0 b1)^^^BitVec.ofInt IntKind.i64.bits b1).toNat)≥0))) then some (Int.tmod a0 b1) else aL (nz b1)<|
 some (IntKind.i64.wrap ((Int.tmod a0 b1)+b1)))
def f103(a0:aa):Bool:=
 (decide (a0.lo>a0.hi))
def f114:aa:=
 (aa.mk 1 0)
def f131(a:Int):Bool:=
 ((decide (a≥16))&&(decide (a≤18)))
def f115_l1(c:lI)(f:Int→Int→Option (aa)):Nat→Int→Int→Int→Option (aa)
 |0,_,_,_=>none
 |n+1,e,c10v39,c11v40=>
 (bif (decide (e<(List.length c:Int))) then Option.bind (idx c e) λa=>
 (f115_l1 c f n (IntKind.i64.wrap (e+1)) (if a<c10v39 then a else c10v39) (if a>c11v40 then a else c11v40)) else(f c10v39 c11v40))
def f115(a:Int)(c:lI):Option aa:=
 letk (λ(c10v32:Int)(c11v33:Int)=>
 some (aa.mk c10v32 c11v33)) λe=>
 (f115_l1 c e (Int.toNat ((List.length c:Int) - 0)+1) 0 a a)
def f87(a0:aa)(b1:aa):Option aa:=
 (bif ((f103 a0)&&(f103 b1)) then some f114 else(bif (f103 a0) then some b1 else(bif (f103 b1) then some a0 else Option.bind (f115 a0.lo [a0.hi,b1.lo,b1.hi]) λa=>
 some a)))
def f124:aa:=
 (aa.mk (-9223372036854775808) 9223372036854775807)
def f132_l2(c:Int→Int→Option (Int×Bool))(m2:lI)(e:Int→Int→Option (aa))(f:Int):Nat→Int→Int→Int→Option (aa)
 |0,_,_,_=>none
 |na+1,a,c10v68,c11v69=>
 (bif (decide (a<(List.length m2:Int))) then Option.bind (idx m2 a) λj=>
 Option.bind (c f j) λg=>
 (bif (!g.2) then some f124 else Option.bind (f115 g.1 []) λk=>
 Option.bind (f87 (aa.mk c10v68 c11v69) k) λh=>
 (f132_l2 c m2 e f na (IntKind.i64.wrap (a+1)) h.lo h.hi)) else(e c10v68 c11v69))
def f132_l1(c:Int→Int→Option (Int×Bool))(l1:lI)(m2:lI)(e:Int→Int→Option (aa)):Nat→Int→Int→Int→Option (aa)
 |0,_,_,_=>none
 |n+1,a,c10v55,c11v56=>
 (bif (decide (a<(List.length l1:Int))) then letk (λ(c10v60:Int)(c11v61:Int)=>
 (f132_l1 c l1 m2 e n (IntKind.i64.wrap (a+1)) c10v60 c11v61)) λf=>
 Option.bind (idx l1 a) λg=>
 (f132_l2 c m2 f g (Int.toNat ((List.length m2:Int) - 0)+1) 0 c10v55 c11v56) else(e c10v55 c11v56))
def f132(a:Int→Int→Option (Int×Bool))(l1:lI)(m2:lI):Option aa:=
 letk (λ(c10v48:Int)(c11v49:Int)=>
 some (aa.mk c10v48 c11v49)) λc=>
 (f132_l1 a l1 m2 c (Int.toNat ((List.length l1:Int) - 0)+1) 0 f114.lo f114.hi)
def f133(x0:Int)(y1:Int):Int×Bool:=
 ((IntKind.i64.wrap (x0+y1)),(decide ((IntKind.i64.wrap (BitVec.ofInt IntKind.i64.bits (IntKind.i64.wrap (BitVec.ofInt IntKind.i64.bits x0^^^BitVec.ofInt IntKind.i64.bits (IntKind.i64.wrap (x0+y1))).toNat)&&&BitVec.ofInt IntKind.i64.bits (IntKind.i64.wrap (BitVec.ofInt IntKind.i64.bits y1^^^BitVec.ofInt IntKind.i64.bits (IntKind.i64.wrap (x0+y1))).toNat)).toNat)≥0)))
def f134(x0:Int)(y1:Int):Int×Bool:=
 ((IntKind.i64.wrap (x0 - y1)),(decide ((IntKind.i64.wrap (BitVec.ofInt IntKind.i64.bits (IntKind.i64.wrap (BitVec.ofInt IntKind.i64.bits x0^^^BitVec.ofInt IntKind.i64.bits y1).toNat)&&&BitVec.ofInt IntKind.i64.bits (IntKind.i64.wrap (BitVec.ofInt IntKind.i64.bits x0^^^BitVec.ofInt IntKind.i64.bits (IntKind.i64.wrap (x0 - y1))).toNat)).toNat)≥0)))
def f149(x0:Int)(y1:Int):Int×Int:=
 ((IntKind.u64.wrap ((IntKind.u64.wrap ((IntKind.u64.wrap ((Int.fdiv x0 (2^min (Int.toNat 32) IntKind.u64.bits))*(Int.fdiv y1 (2^min (Int.toNat 32) IntKind.u64.bits))))+(Int.fdiv (IntKind.u64.wrap ((IntKind.u64.wrap ((Int.fdiv x0 (2^min (Int.toNat 32) IntKind.u64.bits))*(IntKind.u64.wrap (BitVec.ofInt IntKind.u64.bits y1&&&BitVec.ofInt IntKind.u64.bits 4294967295).toNat)))+(Int.fdiv (IntKind.u64.wrap ((IntKind.u64.wrap (BitVec.ofInt IntKind.u64.bits x0&&&BitVec.ofInt IntKind.u64.bits 4294967295).toNat)*(IntKind.u64.wrap (BitVec.ofInt IntKind.u64.bits y1&&&BitVec.ofInt IntKind.u64.bits 4294967295).toNat))) (2^min (Int.toNat 32) IntKind.u64.bits)))) (2^min (Int.toNat 32) IntKind.u64.bits))))+(Int.fdiv (IntKind.u64.wrap ((IntKind.u64.wrap (BitVec.ofInt IntKind.u64.bits (IntKind.u64.wrap ((IntKind.u64.wrap ((Int.fdiv x0 (2^min (Int.toNat 32) IntKind.u64.bits))*(IntKind.u64.wrap (BitVec.ofInt IntKind.u64.bits y1&&&BitVec.ofInt IntKind.u64.bits 4294967295).toNat)))+(Int.fdiv (IntKind.u64.wrap ((IntKind.u64.wrap (BitVec.ofInt IntKind.u64.bits x0&&&BitVec.ofInt IntKind.u64.bits 4294967295).toNat)*(IntKind.u64.wrap (BitVec.ofInt IntKind.u64.bits y1&&&BitVec.ofInt IntKind.u64.bits 4294967295).toNat))) (2^min (Int.toNat 32) IntKind.u64.bits))))&&&BitVec.ofInt IntKind.u64.bits 4294967295).toNat)+(IntKind.u64.wrap ((IntKind.u64.wrap (BitVec.ofInt IntKind.u64.bits x0&&&BitVec.ofInt IntKind.u64.bits 4294967295).toNat)*(Int.fdiv y1 (2^min (Int.toNat 32) IntKind.u64.bits)))))) (2^min (Int.toNat 32) IntKind.u64.bits)))),(IntKind.u64.wrap (x0*y1)))
def f150(x0:Int):Int:=
 (bif (decide (x0<0)) then(IntKind.u64.wrap (0 - (IntKind.u64.wrap x0))) else(IntKind.u64.wrap x0))
def f135(x0:Int)(y1:Int):Int×Bool:=
 (bif (!((decide (x0<0))==(decide (y1<0)))) then((IntKind.i64.wrap (0 - (IntKind.i64.wrap ((f149 (f150 x0) (f150 y1)).2)))),((decide (((f149 (f150 x0) (f150 y1)).1)=0))&&(decide (((f149 (f150 x0) (f150 y1)).2)≤9223372036854775808)))) else((IntKind.i64.wrap ((f149 (f150 x0) (f150 y1)).2)),((decide (((f149 (f150 x0) (f150 y1)).1)=0))&&(decide (((f149 (f150 x0) (f150 y1)).2)<9223372036854775808)))))
def f136(x0:Int)(y1:Int):Option (Int×Bool):=
 aL (nz y1)<|
 some ((IntKind.i64.wrap (Int.tdiv x0 y1)),((!decide (x0=(-9223372036854775808)))||(!decide (y1=(-1)))))
def f66(a0:aa)(v1:Int):Bool:=
 ((decide (a0.lo≤v1))&&(decide (v1≤a0.hi)))
def f137_l1(b0:aa)(f:lI→Option lI):Nat→Int→lI→Option lI
 |0,_,_=>none
 |n+1,e,a=>
 (bif (decide (e<(List.length [b0.lo,(-1),1,b0.hi]:Int))) then letk (λ(h:lI)=>
 (f137_l1 b0 f n (IntKind.i64.wrap (e+1)) h)) λg=>
 Option.bind (idx [b0.lo,(-1),1,b0.hi] e) λc=>
 (bif ((!decide (c=0))&&(f66 b0 c)) then aL (ed 8 a [c])<|
 (g (a++ [c])) else(g a)) else(f a))
def f137(b0:aa):Option lI:=
 letk (λ(a:lI)=>
 some a) λc=>
 (f137_l1 b0 c (Int.toNat ((List.length [b0.lo,(-1),1,b0.hi]:Int) - 0)+1) 0 [])
def f138(a0:aa)(b1:aa):aa:=
 (aa.mk (if(if(IntKind.i64.wrap (0 - (IntKind.i64.wrap (IntKind.u64.wrap ((if(f150 b1.hi)>(f150 b1.lo) then(f150 b1.hi) else(f150 b1.lo)) - 1)))))>a0.lo then(IntKind.i64.wrap (0 - (IntKind.i64.wrap (IntKind.u64.wrap ((if(f150 b1.hi)>(f150 b1.lo) then(f150 b1.hi) else(f150 b1.lo)) - 1))))) else a0.lo)<0 then(if(IntKind.i64.wrap (0 - (IntKind.i64.wrap (IntKind.u64.wrap ((if(f150 b1.hi)>(f150 b1.lo) then(f150 b1.hi) else(f150 b1.lo)) - 1)))))>a0.lo then(IntKind.i64.wrap (0 - (IntKind.i64.wrap (IntKind.u64.wrap ((if(f150 b1.hi)>(f150 b1.lo) then(f150 b1.hi) else(f150 b1.lo)) - 1))))) else a0.lo) else 0) (if(if(IntKind.i64.wrap (IntKind.u64.wrap ((if(f150 b1.hi)>(f150 b1.lo) then(f150 b1.hi) else(f150 b1.lo)) - 1)))<a0.hi then(IntKind.i64.wrap (IntKind.u64.wrap ((if(f150 b1.hi)>(f150 b1.lo) then(f150 b1.hi) else(f150 b1.lo)) - 1))) else a0.hi)>0 then(if(IntKind.i64.wrap (IntKind.u64.wrap ((if(f150 b1.hi)>(f150 b1.lo) then(f150 b1.hi) else(f150 b1.lo)) - 1)))<a0.hi then(IntKind.i64.wrap (IntKind.u64.wrap ((if(f150 b1.hi)>(f150 b1.lo) then(f150 b1.hi) else(f150 b1.lo)) - 1))) else a0.hi) else 0))
def f139(a0:aa)(b1:aa):aa:=
 letk (λ(c11v52:Int)=>
 letk (λ(c10v54:Int)=>
 (aa.mk c10v54 c11v52)) λa=>
 (bif (decide (b1.lo<0)) then(bif ((decide (a0.hi≤0))&&(decide (b1.hi<0))) then(a (if a0.lo>(IntKind.i64.wrap (b1.lo+1)) then a0.lo else(IntKind.i64.wrap (b1.lo+1)))) else(a (IntKind.i64.wrap (b1.lo+1)))) else(a 0))) λc=>
 (bif (decide (b1.hi>0)) then(bif ((decide (a0.lo≥0))&&(decide (b1.lo>0))) then(c (if a0.hi<(IntKind.i64.wrap (b1.hi - 1)) then a0.hi else(IntKind.i64.wrap (b1.hi - 1)))) else(c (IntKind.i64.wrap (b1.hi - 1)))) else(c 0))
def f151_l1(a:List Bool)(e:Unit→oB):Nat→Int→oB
 |0,_=>none
 |n+1,c=>
 (bif (decide (c<(List.length a:Int))) then Option.bind (idx a c) λf=>
 (bif f then some true else(f151_l1 a e n (IntKind.i64.wrap (c+1)))) else(e ()))
def f151(a:List Bool):oB:=
 letk (λ(_:Unit)=>
 some false) λc=>
 (f151_l1 a c (Int.toNat ((List.length a:Int) - 0)+1) 0)
def f152(a:Bool):Int:=
 (bif a then 1 else 0)
def f140(c:Int)(a1:aa)(b2:aa):Option aa:=
 letk (λ(e:Bool)(f:Bool)=>
 some (aa.mk (f152 (!f)) (f152 e))) λa=>
 (bif (decide (c=7)) then Option.bind (f151 [(decide (a1.lo<b2.hi)),(decide (a1.hi>b2.lo))]) λg=>
 (a (decide ((if b2.lo>a1.lo then b2.lo else a1.lo)≤(if b2.hi<a1.hi then b2.hi else a1.hi))) g) else(bif (decide (c=8)) then Option.bind (f151 [(decide (a1.lo<b2.hi)),(decide (a1.hi>b2.lo))]) λh=>
 (a h (decide ((if b2.lo>a1.lo then b2.lo else a1.lo)≤(if b2.hi<a1.hi then b2.hi else a1.hi)))) else(bif (decide (c=9)) then Option.bind (f151 [(decide ((if b2.lo>a1.lo then b2.lo else a1.lo)≤(if b2.hi<a1.hi then b2.hi else a1.hi))),(decide (a1.hi>b2.lo))]) λj=>
 (a (decide (a1.lo<b2.hi)) j) else(bif (decide (c=10)) then Option.bind (f151 [(decide (a1.lo<b2.hi)),(decide ((if b2.lo>a1.lo then b2.lo else a1.lo)≤(if b2.hi<a1.hi then b2.hi else a1.hi)))]) λk=>
 (a k (decide (a1.hi>b2.lo))) else(bif (decide (c=11)) then Option.bind (f151 [(decide (a1.lo<b2.hi)),(decide ((if b2.lo>a1.lo then b2.lo else a1.lo)≤(if b2.hi<a1.hi then b2.hi else a1.hi)))]) λm=>
 (a (decide (a1.hi>b2.lo)) m) else Option.bind (f151 [(decide ((if b2.lo>a1.lo then b2.lo else a1.lo)≤(if b2.hi<a1.hi then b2.hi else a1.hi))),(decide (a1.hi>b2.lo))]) λp=>
 (a p (decide (a1.lo<b2.hi))))))))
def f65(a0:aa)(b1:aa):Bool:=
 ((f103 a0)||((decide (a0.lo≥b1.lo))&&(decide (a0.hi≤b1.hi))))
def f154(a:Int)(a1:Int)(b2:Int):Option (Int×Bool):=
 (bif (decide (a=1)) then some ((IntKind.i64.wrap (a1+b2)),true) else(bif (decide (a=2)) then some ((IntKind.i64.wrap (a1 - b2)),true) else letk (λ(_:Unit)=>
 (bif decide (a=1) then letk (λ(_:Unit)=>
 some ((f160 a1 b2),true)) λg=>
 (g ()) else(bif decide (a=2) then letk (λ(_:Unit)=>
 some ((f161 a1 b2),true)) λh=>
 (h ()) else(bif decide (a=3) then letk (λ(_:Unit)=>
 some ((f162 a1 b2),true)) λj=>
 (j ()) else(bif decide (a=4) then letk (λ(k:Bool)(m:Int)=>
 some (m,k)) λc=>
 (bif (decide (b2=0)) then(c false 0) else Option.bind (f164 a1 b2) λp=>
 (c true p)) else(bif decide (a=5) then letk (λ(r:Bool)(t:Int)=>
 some (t,r)) λe=>
 (bif (decide (b2=0)) then(e false 0) else Option.bind (f165 a1 b2) λw=>
 (e true w)) else(bif decide (a=6) then letk (λ(x:Bool)(y:Int)=>
 some (y,x)) λf=>
 (bif (decide (b2=0)) then(f false 0) else Option.bind (f166 a1 b2) λA=>
 (f true A)) else(bif decide (a=7) then letk (λ(_:Unit)=>
 some ((f152 (f168 a1 b2)),true)) λB=>
 (B ()) else(bif decide (a=8) then letk (λ(_:Unit)=>
 some ((f152 (f169 a1 b2)),true)) λC=>
 (C ()) else(bif decide (a=9) then letk (λ(_:Unit)=>
 some ((f152 (f170 a1 b2)),true)) λE=>
 (E ()) else(bif decide (a=10) then letk (λ(_:Unit)=>
 some ((f152 (f171 a1 b2)),true)) λF=>
 (F ()) else(bif decide (a=11) then letk (λ(_:Unit)=>
 some ((f152 (f172 a1 b2)),true)) λG=>
 (G ()) else(bif decide (a=12) then letk (λ(_:Unit)=>
 some ((f152 (f173 a1 b2)),true)) λH=>
 (H ()) else(bif decide (a=13) then letk (λ(_:Unit)=>
 some ((f174 a1 b2),true)) λI=>
 (I ()) else(bif decide (a=14) then letk (λ(_:Unit)=>
 some ((f175 a1 b2),true)) λK=>
 (K ()) else(bif decide (a=15) then letk (λ(_:Unit)=>
 some ((f176 a1 b2),true)) λL=>
 (L ()) else(bif decide (a=16) then letk (λ(_:Unit)=>
 some ((f177 a1 b2),true)) λM=>
 (M ()) else(bif decide (a=17) then letk (λ(_:Unit)=>
 some ((f178 a1 b2),true)) λN=>
 (N ()) else(bif decide (a=18) then letk (λ(_:Unit)=>
 some ((f179 a1 b2),true)) λO=>
 (O ()) else some (0,false)))))))))))))))))))) λP=>
 letk (λ(_:Unit)=>
 letk (λ(_:Unit)=>
 letk (λ(_:Unit)=>
 letk (λ(_:Unit)=>
 letk (λ(_:Unit)=>
 letk (λ(_:Unit)=>
 letk (λ(_:Unit)=>
 letk (λ(_:Unit)=>
 letk (λ(_:Unit)=>
 letk (λ(_:Unit)=>
 letk (λ(_:Unit)=>
 letk (λ(_:Unit)=>
 letk (λ(_:Unit)=>
 letk (λ(_:Unit)=>
 letk (λ(_:Unit)=>
 letk (λ(_:Unit)=>
 letk (λ(_:Unit)=>
 letk (λ(_:Unit)=>
 (P ())) λQ=>
 (Q ())) λR=>
 (R ())) λS=>
 (S ())) λT=>
 (T ())) λU=>
 (U ())) λV=>
 (V ())) λX=>
 (X ())) λY=>
 (Y ())) λZ=>
 (Z ())) λag=>
 (ag ())) λa0=>
 (a0 ())) λa6=>
 (a6 ())) λa7=>
 (a7 ())) λa8=>
 (a8 ())) λa'=>
 (a' ())) λbb=>
 (bb ())) λbd=>
 (bd ())) λbk=>
 (bk ())))
def f153(x0:Int)(y1:Int)(c:Int):Option (Int×Bool):=
 Option.bind (f154 c x0 y1) λa=>
 some (a.1,a.2)
def f141(a:Int)(a1:aa)(b2:aa):Option aa:=
 (bif ((!(f65 a1 (aa.mk 0 1)))||(!(f65 b2 (aa.mk 0 1)))) then some f124 else Option.bind (f132 (λz0 z1=>f153 z0 z1 a) [a1.lo,a1.hi] [b2.lo,b2.hi]) λc=>
 some c)
def f142(a0:aa):Option aa:=
 (bif (decide (a0.lo=(-9223372036854775808))) then some f124 else(bif ((decide (a0.lo≤0))&&(decide (a0.hi≥0))) then Option.bind (f115 0 [(IntKind.i64.wrap (0 - a0.lo)),a0.hi]) λa=>
 some a else Option.bind (f115 (if(IntKind.i64.wrap (0 - a0.lo))>a0.lo then(IntKind.i64.wrap (0 - a0.lo)) else a0.lo) [(if(IntKind.i64.wrap (0 - a0.hi))>a0.hi then(IntKind.i64.wrap (0 - a0.hi)) else a0.hi)]) λc=>
 some c))
def f120(a:Int)(a1:aa)(b2:aa):Option aa:=
 (bif ((f103 a1)||((f103 b2)&&(!(f131 a)))) then some f114 else(bif (decide (a=1)) then Option.bind (f132 (λz0 z1=>some (f133 z0 z1)) [a1.lo,a1.hi] [b2.lo,b2.hi]) λg=>
 some g else(bif (decide (a=2)) then Option.bind (f132 (λz0 z1=>some (f134 z0 z1)) [a1.lo,a1.hi] [b2.lo,b2.hi]) λh=>
 some h else(bif (decide (a=3)) then Option.bind (f132 (λz0 z1=>some (f135 z0 z1)) [a1.lo,a1.hi] [b2.lo,b2.hi]) λj=>
 some j else(bif (decide (a=4)) then Option.bind (f137 b2) λk=>
 Option.bind (f132 f136 [a1.lo,a1.hi] k) λm=>
 some m else letk (λ(p:Bool)=>
 (bif p then(bif (((decide (b2.lo=0))&&((decide (b2.hi=0))&&true))) then some f114 else(bif (decide (a=5)) then some (f138 a1 b2) else some (f139 a1 b2))) else letk (λ(r:Bool)=>
 (bif r then Option.bind (f140 a a1 b2) λt=>
 some t else letk (λ(w:Bool)=>
 (bif w then Option.bind (f141 a a1 b2) λx=>
 some x else(bif (decide (a=16)) then Option.bind (f132 (λz0 z1=>some (f134 z0 z1)) [0] [a1.lo,a1.hi]) λy=>
 some y else(bif (decide (a=18)) then Option.bind (f132 (λz0 z1=>some (f134 z0 z1)) [1] [a1.lo,a1.hi]) λA=>
 some A else(bif (decide (a=17)) then Option.bind (f142 a1) λB=>
 some B else some f114))))) λe=>
 (bif (decide (a=13)) then(e (decide (a=13))) else(bif (decide (a=14)) then(e (decide (a=14))) else(e (decide (a=15))))))) λc=>
 (bif (decide (a=7)) then(c (decide (a=7))) else(bif (decide (a=8)) then(c (decide (a=8))) else(bif (decide (a=9)) then(c (decide (a=9))) else(bif (decide (a=10)) then(c (decide (a=10))) else(bif (decide (a=11)) then(c (decide (a=11))) else(c (decide (a=12)))))))))) λf=>
 (bif (decide (a=5)) then(f (decide (a=5))) else(f (decide (a=6)))))))))
def f97(o0:Int):Bool:=
 ((decide (o0≥42))&&(decide (o0<58)))
def f24(v0:Int):aa:=
 (aa.mk v0 v0)
def f56(a:Int)(c:Int):aa:=
 (aa.mk a c)
def f118(v0:aa):Bool:=
 (decide (v0.lo>v0.hi))
def f57_l1(a:List aa)(e:Int→Int→Option (aa)):Nat→Int→Int→Int→Option (aa)
 |0,_,_,_=>none
 |n+1,c,c00v28,c01v29=>
 (bif (decide (c<(List.length a:Int))) then Option.bind (idx a c) λg=>
 Option.bind (f87 (aa.mk c00v28 c01v29) g) λf=>
 (f57_l1 a e n (IntKind.i64.wrap (c+1)) f.lo f.hi) else(e c00v28 c01v29))
def f57(a:aa)(c:List aa):Option aa:=
 letk (λ(c00v21:Int)(c01v22:Int)=>
 some (aa.mk c00v21 c01v22)) λe=>
 (f57_l1 c e (Int.toNat ((List.length c:Int) - 0)+1) 0 a.lo a.hi)
def f25_l1(o0:Obj)(c:Int→Int→Option (aa)):Nat→Int→Int→Int→Option (aa)
 |0,_,_,_=>none
 |n+1,a,c10v39,c11v40=>
 (bif (decide (a<(List.length o0.set_:Int))) then Option.bind (idx o0.set_ a) λf=>
 Option.bind (f57 (aa.mk c10v39 c11v40) [(f24 (IntKind.i64.wrap (f+1)))]) λe=>
 (f25_l1 o0 c n (IntKind.i64.wrap (a+1)) e.lo e.hi) else(c c10v39 c11v40))
def f25(o0:Obj):Option aa:=
 (bif (!o0.ptr) then some (f56 o0.lo o0.hi) else letk (λ(c10v32:Int)(c11v33:Int)=>
 some (aa.mk c10v32 c11v33)) λa=>
 (f25_l1 o0 a (Int.toNat ((List.length o0.set_:Int) - 0)+1) 0 ((f24 0).lo) ((f24 0).hi)))
def f121(v0:aa):aa:=
 letk (λ(c00v20:Int)=>
 letk (λ(c01v22:Int)=>
 (aa.mk c00v20 c01v22)) λa=>
 (bif (decide (v0.hi=0)) then(a (IntKind.i64.wrap (v0.hi - 1))) else(a v0.hi))) λc=>
 (bif (decide (v0.lo=0)) then(c (IntKind.i64.wrap (v0.lo+1))) else(c v0.lo))
def f117(a0:aa)(b1:aa):aa:=
 (bif (!(f103 (aa.mk (if b1.lo>a0.lo then b1.lo else a0.lo) (if b1.hi<a0.hi then b1.hi else a0.hi)))) then(aa.mk (if b1.lo>a0.lo then b1.lo else a0.lo) (if b1.hi<a0.hi then b1.hi else a0.hi)) else f114)
def f100(a0:aa)(b1:aa)(a:aa):Option aa:=
 (bif ((f103 a0)||(f103 b1)) then Option.bind (f87 a0 b1) λf=>
 some f else letk (λ(c10v60:Int)=>
 letk (λ(c11v62:Int)=>
 some (aa.mk c10v60 c11v62)) λc=>
 (bif (decide (a0.hi≥b1.hi)) then(c a0.hi) else(bif (decide (a.hi≥b1.hi)) then(c a.hi) else(c f124.hi)))) λe=>
 (bif (decide (a0.lo≤b1.lo)) then(e a0.lo) else(bif (decide (a.lo≤b1.lo)) then(e a.lo) else(e f124.lo))))
def f90_l1(wy:List (Int×(Nat→aa)))(at1:Int)(c:(Nat→aa)→Option (List (Int×(Nat→aa)))):Nat→Int→(Nat→aa)→Option (List (Int×(Nat→aa)))
 |0,_,_=>none
 |n+1,a,c30v59=>
 (bif (decide (a<16)) then aL (bE 16 a)<|
 aL (bE 16 a)<|
 Option.bind (f57 (c30v59 (Int.toNat a)) [((Option.getD (bH wy at1) (λ_=>(aa.mk 0 0))) (Int.toNat a))]) λe=>
 aL (bE 16 a)<|
 (f90_l1 wy at1 c n (IntKind.i64.wrap (a+1)) (be c30v59 (Int.toNat a) e)) else(c c30v59))
def f90(t:al)(rg:List aa)(fc:List aj)(sl:List (List aa))(pc:Int)(rr:Nat→aa)(pl:List ((Int×Int)×aa))(wy:List (Int×(Nat→aa)))(at1:Int)(r2:Nat→aa):Option (List (Int×(Nat→aa))):=
 (bif ((decide (at1<0))||(decide (at1≥(List.length fc:Int)))) then some wy else letk (λ(c30v54:Nat→aa)=>
 some (bI wy at1 c30v54)) λa=>
 (bif (Option.isSome (bH wy at1)) then(f90_l1 wy at1 a (Int.toNat (16 - 0)+1) 0 r2) else(a r2)))
def f119(t:al)(rg:List aa)(fc:List aj)(sl:List (List aa))(pc:Int)(rr:Nat→aa)(pl:List ((Int×Int)×aa))(wy:List (Int×(Nat→aa)))(o1:Int)(k2:Int)(v3:aa):Option (List ((Int×Int)×aa)):=
 letk (λ(c30v39:Int)(c31v40:Int)=>
 some (bI pl (o1,k2) (aa.mk c30v39 c31v40))) λa=>
 (bif (Option.isSome (bH pl (o1,k2))) then Option.bind (f57 v3 [(Option.getD (bH pl (o1,k2)) (aa.mk 0 0))]) λc=>
 (a c.lo c.hi) else(a v3.lo v3.hi))
def f58_l1(t:al)(pc:Int)(e:Bool)(f:Int→Option (List (Int×(Nat→aa))))(g:Unit→Option (List (Int×(Nat→aa)))):Nat→Int→Option (List (Int×(Nat→aa)))
 |0,_=>none
 |n+1,a=>
 (bif (decide (a<(List.length t.handlers:Int))) then Option.bind (idx t.handlers a) λc=>
 letk (λ(_:Unit)=>
 (bif (((decide (c.from_≤pc))&&(decide (pc<c.to)))&&(c.clean||(!e))) then(f a) else(f58_l1 t pc e f g n (IntKind.i64.wrap (a+1))))) λh=>
 (h ()) else(g ()))
def f58(t:al)(rg:List aa)(fc:List aj)(sl:List (List aa))(pc:Int)(rr:Nat→aa)(pl:List ((Int×Int)×aa))(wy:List (Int×(Nat→aa)))(e:Bool):Option (List (Int×(Nat→aa))):=
 letk (λ(a:Int)=>
 (bif (decide (a≥0)) then Option.bind (idx t.handlers a) λf=>
 Option.bind (f90 t rg fc sl pc rr pl wy f.at_ (λ_=>(aa.mk 0 0))) λg=>
 some g else some wy)) λc=>
 letk (λ(_:Unit)=>
 (c (-1))) λh=>
 (f58_l1 t pc e c h (Int.toNat ((List.length t.handlers:Int) - 0)+1) 0)
def f116(t:al)(rg:List aa)(fc:List aj)(sl:List (List aa))(pc:Int)(rr:Nat→aa)(pl:List ((Int×Int)×aa))(wy:List (Int×(Nat→aa)))(d1:Int)(v2:aa):Option (List (Int×(Nat→aa))):=
 (bif (!(f118 v2)) then aL (bE 16 d1)<|
 Option.bind (f90 t rg fc sl pc rr pl wy (IntKind.i64.wrap (pc+1)) (be rr (Int.toNat d1) v2)) λa=>
 some a else some wy)
def f122(t:al)(rg:List aa)(fc:List aj)(sl:List (List aa))(pc:Int)(rr:Nat→aa)(pl:List ((Int×Int)×aa))(wy:List (Int×(Nat→aa)))(a:Int)(d2:Int)(v3:aa):Option (List (Int×(Nat→aa))):=
 (bif (!(f118 v3)) then aL (bE 16 d2)<|
 Option.bind (f90 t rg fc sl pc rr pl wy a (be rr (Int.toNat d2) v3)) λc=>
 some c else some wy)
def f91_l1(sl:List (List aa))(rr:Nat→aa)(x1:ao)(e:Int→Int→Option ((Nat→aa)×(List (Int×(Nat→aa))))):Nat→Int→Int→Int→Option ((Nat→aa)×(List (Int×(Nat→aa))))
 |0,_,_,_=>none
 |n+1,c,c50v167,c51v168=>
 (bif (decide (c<(List.length (bD sl ((f117 (rr (Int.toNat x1.a)) (f56 1 (List.length sl:Int))).lo) ((f117 (rr (Int.toNat x1.a)) (f56 1 (List.length sl:Int))).hi)):Int))) then Option.bind (idx (bD sl ((f117 (rr (Int.toNat x1.a)) (f56 1 (List.length sl:Int))).lo) ((f117 (rr (Int.toNat x1.a)) (f56 1 (List.length sl:Int))).hi)) c) λg=>
 Option.bind (idx g 0) λh=>
 Option.bind (f57 (aa.mk c50v167 c51v168) [h]) λf=>
 (f91_l1 sl rr x1 e n (IntKind.i64.wrap (c+1)) f.lo f.hi) else(e c50v167 c51v168))
def f91(t:al)(rg:List aa)(fc:List aj)(sl:List (List aa))(pc:Int)(rr:Nat→aa)(pl:List ((Int×Int)×aa))(wy:List (Int×(Nat→aa)))(x1:ao):Option ((Nat→aa)×(List (Int×(Nat→aa)))):=
 aL (bE 16 x1.a)<|
 (bif (decide (x1.op=3)) then Option.bind (idx sl x1.n) λf=>
 Option.bind (idx f x1.m) λg=>
 Option.bind (f116 t rg fc sl pc rr pl wy x1.d g) λh=>
 some (rr,h) else(bif (decide (x1.op=5)) then(bif (f118 (f117 (rr (Int.toNat x1.a)) (f56 0 (IntKind.i64.wrap (x1.b - 1))))) then some (rr,wy) else Option.bind (idx sl x1.n) λc=>
 aL (dD c (IntKind.i64.wrap (x1.m+((f117 (rr (Int.toNat x1.a)) (f56 0 (IntKind.i64.wrap (x1.b - 1)))).lo))) (IntKind.i64.wrap ((IntKind.i64.wrap (x1.m+((f117 (rr (Int.toNat x1.a)) (f56 0 (IntKind.i64.wrap (x1.b - 1)))).hi)))+1)))<|
 aL (bE 16 x1.a)<|
 Option.bind (idx (bD c (IntKind.i64.wrap (x1.m+((f117 (rr (Int.toNat x1.a)) (f56 0 (IntKind.i64.wrap (x1.b - 1)))).lo))) (IntKind.i64.wrap ((IntKind.i64.wrap (x1.m+((f117 (rr (Int.toNat x1.a)) (f56 0 (IntKind.i64.wrap (x1.b - 1)))).hi)))+1))) 0) λj=>
 aL (dD (bD c (IntKind.i64.wrap (x1.m+((f117 (rr (Int.toNat x1.a)) (f56 0 (IntKind.i64.wrap (x1.b - 1)))).lo))) (IntKind.i64.wrap ((IntKind.i64.wrap (x1.m+((f117 (rr (Int.toNat x1.a)) (f56 0 (IntKind.i64.wrap (x1.b - 1)))).hi)))+1))) 1 (List.length (bD c (IntKind.i64.wrap (x1.m+((f117 (rr (Int.toNat x1.a)) (f56 0 (IntKind.i64.wrap (x1.b - 1)))).lo))) (IntKind.i64.wrap ((IntKind.i64.wrap (x1.m+((f117 (rr (Int.toNat x1.a)) (f56 0 (IntKind.i64.wrap (x1.b - 1)))).hi)))+1))):Int))<|
 Option.bind (f57 j (bD (bD c (IntKind.i64.wrap (x1.m+((f117 (rr (Int.toNat x1.a)) (f56 0 (IntKind.i64.wrap (x1.b - 1)))).lo))) (IntKind.i64.wrap ((IntKind.i64.wrap (x1.m+((f117 (rr (Int.toNat x1.a)) (f56 0 (IntKind.i64.wrap (x1.b - 1)))).hi)))+1))) 1 (List.length (bD c (IntKind.i64.wrap (x1.m+((f117 (rr (Int.toNat x1.a)) (f56 0 (IntKind.i64.wrap (x1.b - 1)))).lo))) (IntKind.i64.wrap ((IntKind.i64.wrap (x1.m+((f117 (rr (Int.toNat x1.a)) (f56 0 (IntKind.i64.wrap (x1.b - 1)))).hi)))+1))):Int))) λk=>
 Option.bind (f116 t rg fc sl pc (be rr (Int.toNat x1.a) (f117 (rr (Int.toNat x1.a)) (f56 0 (IntKind.i64.wrap (x1.b - 1))))) pl wy x1.d k) λp=>
 some ((be rr (Int.toNat x1.a) (f117 (rr (Int.toNat x1.a)) (f56 0 (IntKind.i64.wrap (x1.b - 1))))),p)) else(bif (decide (x1.op=7)) then(bif (f118 (f117 (rr (Int.toNat x1.a)) (f56 1 (List.length sl:Int)))) then some (rr,wy) else Option.bind (idx sl (IntKind.i64.wrap (((f117 (rr (Int.toNat x1.a)) (f56 1 (List.length sl:Int))).lo) - 1))) λr=>
 Option.bind (idx r 0) λe=>
 letk (λ(c50v159:Int)(c51v160:Int)=>
 aL (bE 16 x1.a)<|
 Option.bind (f116 t rg fc sl pc (be rr (Int.toNat x1.a) (f117 (rr (Int.toNat x1.a)) (f56 1 (List.length sl:Int)))) pl wy x1.d (aa.mk c50v159 c51v160)) λw=>
 some ((be rr (Int.toNat x1.a) (f117 (rr (Int.toNat x1.a)) (f56 1 (List.length sl:Int)))),w)) λx=>
 aL (dD sl ((f117 (rr (Int.toNat x1.a)) (f56 1 (List.length sl:Int))).lo) ((f117 (rr (Int.toNat x1.a)) (f56 1 (List.length sl:Int))).hi))<|
 (f91_l1 sl rr x1 x (Int.toNat ((List.length (bD sl ((f117 (rr (Int.toNat x1.a)) (f56 1 (List.length sl:Int))).lo) ((f117 (rr (Int.toNat x1.a)) (f56 1 (List.length sl:Int))).hi)):Int) - 0)+1) 0 e.lo e.hi)) else some (rr,wy))))
def f92_l1(t:al)(rg:List aa)(fc:List aj)(sl:List (List aa))(pc:Int)(rr:Nat→aa)(wy:List (Int×(Nat→aa)))(x1:ao)(e:aa)(f:(List ((Int×Int)×aa))→Option ((Nat→aa)×(List ((Int×Int)×aa))×(List (Int×(Nat→aa))))):Nat→Int→(List ((Int×Int)×aa))→Option ((Nat→aa)×(List ((Int×Int)×aa))×(List (Int×(Nat→aa))))
 |0,_,_=>none
 |n+1,c,g=>
 aL (bE 16 x1.a)<|
 (bif (decide (c≤(((be rr (Int.toNat x1.a) (f117 (rr (Int.toNat x1.a)) (f56 0 (IntKind.i64.wrap (x1.b - 1))))) (Int.toNat x1.a)).hi))) then Option.bind (f119 t rg fc sl pc (be rr (Int.toNat x1.a) (f117 (rr (Int.toNat x1.a)) (f56 0 (IntKind.i64.wrap (x1.b - 1))))) g wy x1.n (IntKind.i64.wrap (x1.m+c)) (f117 ((be rr (Int.toNat x1.a) (f117 (rr (Int.toNat x1.a)) (f56 0 (IntKind.i64.wrap (x1.b - 1))))) (Int.toNat x1.d)) e)) λh=>
 (f92_l1 t rg fc sl pc rr wy x1 e f n (IntKind.i64.wrap (c+1)) h) else(f g))
def f92_l2(t:al)(rg:List aa)(fc:List aj)(sl:List (List aa))(pc:Int)(rr:Nat→aa)(wy:List (Int×(Nat→aa)))(x1:ao)(g:Bool→(List ((Int×Int)×aa))→Option ((Nat→aa)×(List ((Int×Int)×aa))×(List (Int×(Nat→aa))))):Nat→Bool→Int→(List ((Int×Int)×aa))→Option ((Nat→aa)×(List ((Int×Int)×aa))×(List (Int×(Nat→aa))))
 |0,_,_,_=>none
 |n+1,h,e,f=>
 aL (bE 16 x1.a)<|
 (bif (decide (e≤(((be rr (Int.toNat x1.a) (f117 (rr (Int.toNat x1.a)) (f56 1 (List.length sl:Int)))) (Int.toNat x1.a)).hi))) then letk (λ(k:Bool)(m:List ((Int×Int)×aa))(c40v239:Int)(c41v240:Int)=>
 (f92_l2 t rg fc sl pc rr wy x1 g n k (IntKind.i64.wrap (e+1)) m)) λj=>
 aL (bE 16 x1.d)<|
 Option.bind (idx rg (IntKind.i64.wrap (e - 1))) λc=>
 (bif (!(f118 (f117 ((be rr (Int.toNat x1.a) (f117 (rr (Int.toNat x1.a)) (f56 1 (List.length sl:Int)))) (Int.toNat x1.d)) c))) then Option.bind (f119 t rg fc sl pc (be rr (Int.toNat x1.a) (f117 (rr (Int.toNat x1.a)) (f56 1 (List.length sl:Int)))) f wy (IntKind.i64.wrap (e - 1)) 0 (f117 ((be rr (Int.toNat x1.a) (f117 (rr (Int.toNat x1.a)) (f56 1 (List.length sl:Int)))) (Int.toNat x1.d)) c)) λp=>
 (j true p ((f117 ((be rr (Int.toNat x1.a) (f117 (rr (Int.toNat x1.a)) (f56 1 (List.length sl:Int)))) (Int.toNat x1.d)) c).lo) ((f117 ((be rr (Int.toNat x1.a) (f117 (rr (Int.toNat x1.a)) (f56 1 (List.length sl:Int)))) (Int.toNat x1.d)) c).hi)) else(j h f ((f117 ((be rr (Int.toNat x1.a) (f117 (rr (Int.toNat x1.a)) (f56 1 (List.length sl:Int)))) (Int.toNat x1.d)) c).lo) ((f117 ((be rr (Int.toNat x1.a) (f117 (rr (Int.toNat x1.a)) (f56 1 (List.length sl:Int)))) (Int.toNat x1.d)) c).hi))) else(g h f))
def f92(t:al)(rg:List aa)(fc:List aj)(sl:List (List aa))(pc:Int)(rr:Nat→aa)(pl:List ((Int×Int)×aa))(wy:List (Int×(Nat→aa)))(x1:ao):Option ((Nat→aa)×(List ((Int×Int)×aa))×(List (Int×(Nat→aa)))):=
 aL (bE 16 x1.a)<|
 (bif (decide (x1.op=4)) then Option.bind (idx rg x1.n) λc=>
 (bif (!(f118 (f117 (rr (Int.toNat x1.a)) c))) then Option.bind (f119 t rg fc sl pc rr pl wy x1.n x1.m (f117 (rr (Int.toNat x1.a)) c)) λg=>
 Option.bind (f116 t rg fc sl pc rr g wy x1.a (f117 (rr (Int.toNat x1.a)) c)) λj=>
 some (rr,g,j) else some (rr,pl,wy)) else(bif (decide (x1.op=6)) then aL (bE 16 x1.a)<|
 aL (bE 16 x1.d)<|
 Option.bind (idx rg x1.n) λe=>
 aL (bE 16 x1.a)<|
 (bif ((f118 ((be rr (Int.toNat x1.a) (f117 (rr (Int.toNat x1.a)) (f56 0 (IntKind.i64.wrap (x1.b - 1))))) (Int.toNat x1.a)))||(f118 (f117 ((be rr (Int.toNat x1.a) (f117 (rr (Int.toNat x1.a)) (f56 0 (IntKind.i64.wrap (x1.b - 1))))) (Int.toNat x1.d)) e))) then some ((be rr (Int.toNat x1.a) (f117 (rr (Int.toNat x1.a)) (f56 0 (IntKind.i64.wrap (x1.b - 1))))),pl,wy) else letk (λ(h:List ((Int×Int)×aa))=>
 Option.bind (f116 t rg fc sl pc (be rr (Int.toNat x1.a) (f117 (rr (Int.toNat x1.a)) (f56 0 (IntKind.i64.wrap (x1.b - 1))))) h wy x1.d (f117 ((be rr (Int.toNat x1.a) (f117 (rr (Int.toNat x1.a)) (f56 0 (IntKind.i64.wrap (x1.b - 1))))) (Int.toNat x1.d)) e)) λk=>
 some ((be rr (Int.toNat x1.a) (f117 (rr (Int.toNat x1.a)) (f56 0 (IntKind.i64.wrap (x1.b - 1))))),h,k)) λp=>
 aL (bE 16 x1.a)<|
 (f92_l1 t rg fc sl pc rr wy x1 e p 9223372036854775808 (((be rr (Int.toNat x1.a) (f117 (rr (Int.toNat x1.a)) (f56 0 (IntKind.i64.wrap (x1.b - 1))))) (Int.toNat x1.a)).lo) pl)) else(bif (decide (x1.op=8)) then aL (bE 16 x1.a)<|
 letk (λ(r:Bool)(f:List ((Int×Int)×aa))=>
 (bif r then Option.bind (f90 t rg fc sl pc (be rr (Int.toNat x1.a) (f117 (rr (Int.toNat x1.a)) (f56 1 (List.length sl:Int)))) f wy (IntKind.i64.wrap (pc+1)) (be rr (Int.toNat x1.a) (f117 (rr (Int.toNat x1.a)) (f56 1 (List.length sl:Int))))) λw=>
 some ((be rr (Int.toNat x1.a) (f117 (rr (Int.toNat x1.a)) (f56 1 (List.length sl:Int)))),f,w) else some ((be rr (Int.toNat x1.a) (f117 (rr (Int.toNat x1.a)) (f56 1 (List.length sl:Int)))),f,wy))) λx=>
 aL (bE 16 x1.a)<|
 (f92_l2 t rg fc sl pc rr wy x1 x 9223372036854775808 false (((be rr (Int.toNat x1.a) (f117 (rr (Int.toNat x1.a)) (f56 1 (List.length sl:Int)))) (Int.toNat x1.a)).lo) pl) else some (rr,pl,wy))))
def f93(t:al)(rg:List aa)(fc:List aj)(sl:List (List aa))(pc:Int)(rr:Nat→aa)(pl:List ((Int×Int)×aa))(wy:List (Int×(Nat→aa)))(x1:ao):Option (List (Int×(Nat→aa))):=
 aL (bE 16 x1.a)<|
 aL (bE 16 x1.b)<|
 Option.bind (f120 (IntKind.u8.wrap (1+(IntKind.u8.wrap (x1.op - 9)))) (rr (Int.toNat x1.a)) (rr (Int.toNat x1.b))) λc=>
 Option.bind (f116 t rg fc sl pc rr pl wy x1.d c) λe=>
 some e
def f94(t:al)(rg:List aa)(fc:List aj)(sl:List (List aa))(pc:Int)(rr:Nat→aa)(pl:List ((Int×Int)×aa))(wy:List (Int×(Nat→aa)))(x1:ao):Option (List (Int×(Nat→aa))):=
 aL (bE 16 x1.a)<|
 letk (λ(f:Bool)(c40v50:Int)(c41v51:Int)=>
 letk (λ(g:List (Int×(Nat→aa)))=>
 Option.bind (f116 t rg fc sl pc rr pl g x1.a (aa.mk c40v50 c41v51)) λh=>
 some h) λc=>
 (bif (!f) then Option.bind (f58 t rg fc sl pc rr pl wy false) λj=>
 (c j) else(c wy))) λe=>
 (bif (decide (x1.op=27)) then(e (f65 (rr (Int.toNat x1.a)) (f56 x1.n x1.m)) ((f117 (rr (Int.toNat x1.a)) (f56 x1.n x1.m)).lo) ((f117 (rr (Int.toNat x1.a)) (f56 x1.n x1.m)).hi)) else(e (!(f66 (rr (Int.toNat x1.a)) 0)) ((f121 (rr (Int.toNat x1.a))).lo) ((f121 (rr (Int.toNat x1.a))).hi)))
def f95_l1(t:al)(rg:List aa)(fc:List aj)(sl:List (List aa))(pc:Int)(rr:Nat→aa)(pl:List ((Int×Int)×aa))(x1:ao)(f:Int)(g:(List (Int×(Nat→aa)))→Option (List (Int×(Nat→aa)))):Nat→Int→(List (Int×(Nat→aa)))→Option (List (Int×(Nat→aa)))
 |0,_,_=>none
 |n+1,c,e=>
 (bif (decide (c<x1.m)) then letk (λ(j:List (Int×(Nat→aa)))=>
 (f95_l1 t rg fc sl pc rr pl x1 f g n (IntKind.i64.wrap (c+1)) j)) λh=>
 (bif ((decide ((IntKind.i64.wrap (x1.n+c))≥x1.n))&&(f66 (f117 (rr (Int.toNat x1.a)) (f56 x1.n f)) (IntKind.i64.wrap (x1.n+c)))) then Option.bind (f122 t rg fc sl pc rr pl e (IntKind.i64.wrap (x1.to+c)) x1.a (f24 (IntKind.i64.wrap (x1.n+c)))) λk=>
 (h k) else(h e)) else(g e))
def f95(t:al)(rg:List aa)(fc:List aj)(sl:List (List aa))(pc:Int)(rr:Nat→aa)(pl:List ((Int×Int)×aa))(wy:List (Int×(Nat→aa)))(x1:ao):Option (List (Int×(Nat→aa))):=
 aL (bE 16 x1.a)<|
 (bif (decide (x1.op=29)) then Option.bind (f90 t rg fc sl pc rr pl wy x1.to rr) λg=>
 some g else(bif (decide (x1.op=30)) then Option.bind (f122 t rg fc sl pc rr pl wy x1.to x1.a (f117 (rr (Int.toNat x1.a)) (f24 0))) λh=>
 Option.bind (f116 t rg fc sl pc rr pl h x1.a (f121 (rr (Int.toNat x1.a)))) λj=>
 some j else(bif (decide (x1.op=31)) then Option.bind (f122 t rg fc sl pc rr pl wy x1.to x1.a (f121 (rr (Int.toNat x1.a)))) λk=>
 Option.bind (f116 t rg fc sl pc rr pl k x1.a (f117 (rr (Int.toNat x1.a)) (f24 0))) λp=>
 some p else(bif (decide (x1.op=32)) then letk (λ(c:Int)=>
 letk (λ(e:List (Int×(Nat→aa)))=>
 (bif (!(f65 (rr (Int.toNat x1.a)) (f56 x1.n c))) then Option.bind (f90 t rg fc sl pc rr pl e (IntKind.i64.wrap (pc+1)) rr) λr=>
 some r else some e)) λw=>
 (f95_l1 t rg fc sl pc rr pl x1 c w (Int.toNat (x1.m - 0)+1) 0 wy)) λf=>
 (bif (decide ((IntKind.i64.wrap ((IntKind.i64.wrap (x1.n+x1.m)) - 1))<x1.n)) then(f 9223372036854775807) else(f (IntKind.i64.wrap ((IntKind.i64.wrap (x1.n+x1.m)) - 1)))) else some wy))))
def f96(t:al)(rg:List aa)(fc:List aj)(sl:List (List aa))(pc:Int)(rr:Nat→aa)(pl:List ((Int×Int)×aa))(wy:List (Int×(Nat→aa)))(x1:ao):Option (List (Int×(Nat→aa))):=
 aL (bE 16 x1.a)<|
 letk (λ(c:List (Int×(Nat→aa)))=>
 (bif ((decide (x1.op=33))||(!(f118 (f117 (rr (Int.toNat x1.a)) (f56 1 t.excs))))) then Option.bind (f58 t rg fc sl pc rr pl c false) λf=>
 some f else some c)) λe=>
 (bif (decide (x1.op=35)) then Option.bind (f116 t rg fc sl pc rr pl wy x1.a (f117 (rr (Int.toNat x1.a)) (f24 0))) λg=>
 (e g) else(e wy))
def f98(t:al)(rg:List aa)(fc:List aj)(sl:List (List aa))(pc:Int)(rr:Nat→aa)(pl:List ((Int×Int)×aa))(wy:List (Int×(Nat→aa)))(x1:ao):Option (List (Int×(Nat→aa))):=
 (bif (decide (x1.op=1)) then Option.bind (f116 t rg fc sl pc rr pl wy x1.d (f24 x1.n)) λc=>
 some c else(bif (decide (x1.op=2)) then aL (bE 16 x1.a)<|
 Option.bind (f116 t rg fc sl pc rr pl wy x1.d (rr (Int.toNat x1.a))) λe=>
 some e else(bif (decide (x1.op=36)) then Option.bind (f116 t rg fc sl pc rr pl wy x1.d (f56 (-2) t.excs)) λf=>
 some f else(bif (decide (x1.op=38)) then Option.bind (f58 t rg fc sl pc rr pl wy false) λg=>
 Option.bind (f116 t rg fc sl pc rr pl g x1.d (f56 (-9223372036854775808) 9223372036854775807)) λh=>
 some h else(bif (decide (x1.op=42)) then Option.bind (f116 t rg fc sl pc rr pl wy x1.d (f56 0 9007199254740992)) λj=>
 some j else(bif (decide (x1.op=43)) then Option.bind (f116 t rg fc sl pc rr pl wy x1.d (f56 0 32)) λk=>
 some k else Option.bind (f90 t rg fc sl pc rr pl wy (IntKind.i64.wrap (pc+1)) rr) λm=>
 some m))))))
def f123_l3(t:al)(rg:List aa)(fc:List aj)(sl:List (List aa))(pc:Int)(rr:Nat→aa)(wy:List (Int×(Nat→aa)))(a:Int)(e:(List ((Int×Int)×aa))→Option (List ((Int×Int)×aa)))(f:List aa):Nat→Int→(List ((Int×Int)×aa))→Option (List ((Int×Int)×aa))
 |0,_,_=>none
 |nb+1,c,g=>
 (bif (decide (c<(List.length f:Int))) then Option.bind (idx rg a) λh=>
 Option.bind (f119 t rg fc sl pc rr g wy a c h) λj=>
 (f123_l3 t rg fc sl pc rr wy a e f nb (IntKind.i64.wrap (c+1)) j) else(e g))
def f123_l2(t:al)(rg:List aa)(fc:List aj)(sl:List (List aa))(pc:Int)(rr:Nat→aa)(wy:List (Int×(Nat→aa)))(e:(List ((Int×Int)×aa))→Int→Int→Option (List ((Int×Int)×aa)))(a:aa):Nat→Int→(List ((Int×Int)×aa))→Option (List ((Int×Int)×aa))
 |0,_,_=>none
 |na+1,c,f=>
 (bif (decide (c≤(if(Int.fdiv a.hi (2^min (Int.toNat 32) IntKind.i64.bits))<(IntKind.i64.wrap ((List.length sl:Int) - 1)) then(Int.fdiv a.hi (2^min (Int.toNat 32) IntKind.i64.bits)) else(IntKind.i64.wrap ((List.length sl:Int) - 1))))) then letk (λ(h:List ((Int×Int)×aa))=>
 (f123_l2 t rg fc sl pc rr wy e a na (IntKind.i64.wrap (c+1)) h)) λj=>
 Option.bind (idx sl c) λg=>
 (f123_l3 t rg fc sl pc rr wy c j g (Int.toNat ((List.length g:Int) - 0)+1) 0 f) else(e f a.lo a.hi))
def f123_l1(t:al)(rg:List aa)(fc:List aj)(sl:List (List aa))(pc:Int)(rr:Nat→aa)(wy:List (Int×(Nat→aa)))(x1:ao)(a:bO):Nat→Int→(List ((Int×Int)×aa))→Option (List ((Int×Int)×aa))
 |0,_,_=>none
 |n+1,c,f=>
 (bif (decide (c<(List.length a.outs:Int))) then letk (λ(g:List ((Int×Int)×aa))(c40v98:Int)(c41v99:Int)=>
 (f123_l1 t rg fc sl pc rr wy x1 a n (IntKind.i64.wrap (c+1)) g)) λh=>
 Option.bind (idx sl x1.n) λj=>
 Option.bind (idx j (IntKind.i64.wrap ((List.length a.ins:Int)+c))) λe=>
 (f123_l2 t rg fc sl pc rr wy h e 9223372036854775808 (if(Int.fdiv e.lo (2^min (Int.toNat 32) IntKind.i64.bits))>0 then(Int.fdiv e.lo (2^min (Int.toNat 32) IntKind.i64.bits)) else 0) f) else some f)
def f123(t:al)(rg:List aa)(fc:List aj)(sl:List (List aa))(pc:Int)(rr:Nat→aa)(pl:List ((Int×Int)×aa))(wy:List (Int×(Nat→aa)))(x1:ao):Option (List ((Int×Int)×aa)):=
 Option.bind (idx t.tasks x1.a) λe=>
 Option.bind (idx e.entries x1.b) λc=>
 (f123_l1 t rg fc sl pc rr wy x1 c (Int.toNat ((List.length c.outs:Int) - 0)+1) 0 pl)
def f99_l1(c:(Nat→aa)→Option ((Nat→aa)×(List ((Int×Int)×aa))×(List (Int×(Nat→aa))))):Nat→Int→(Nat→aa)→Option ((Nat→aa)×(List ((Int×Int)×aa))×(List (Int×(Nat→aa))))
 |0,_,_=>none
 |n+1,a,c015v140=>
 (bif (decide (a<16)) then aL (bE 16 a)<|
 Option.bind (f57 (c015v140 (Int.toNat a)) [(f24 0)]) λe=>
 aL (bE 16 a)<|
 (f99_l1 c n (IntKind.i64.wrap (a+1)) (be c015v140 (Int.toNat a) e)) else(c c015v140))
def f99_l2(t:al)(rg:List aa)(fc:List aj)(sl:List (List aa))(pc:Int)(pl:List ((Int×Int)×aa))(c015v135:Nat→aa)(a:c4):Nat→Int→(List (Int×(Nat→aa)))→Option ((Nat→aa)×(List ((Int×Int)×aa))×(List (Int×(Nat→aa))))
 |0,_,_=>none
 |n+1,c,e=>
 (bif (decide (c<(List.length a.alts:Int))) then Option.bind (idx a.alts c) λf=>
 Option.bind (f90 t rg fc sl pc c015v135 pl e f.at_ c015v135) λg=>
 (f99_l2 t rg fc sl pc pl c015v135 a n (IntKind.i64.wrap (c+1)) g) else some (c015v135,pl,e))
def f99(t:al)(rg:List aa)(fc:List aj)(sl:List (List aa))(pc:Int)(rr:Nat→aa)(pl:List ((Int×Int)×aa))(wy:List (Int×(Nat→aa)))(x1:ao):Option ((Nat→aa)×(List ((Int×Int)×aa))×(List (Int×(Nat→aa)))):=
 aL (bE 16 (IntKind.i64.wrap (BitVec.ofInt IntKind.i64.bits x1.a&&&BitVec.ofInt IntKind.i64.bits 15).toNat))<|
 letk (λ(c015v135:Nat→aa)=>
 letk (λ(c:List (Int×(Nat→aa)))=>
 (bif (decide (x1.op=46)) then Option.bind (f57 (rr (Int.toNat (IntKind.i64.wrap (BitVec.ofInt IntKind.i64.bits x1.a&&&BitVec.ofInt IntKind.i64.bits 15).toNat))) [(f56 (-1) 0)]) λj=>
 Option.bind (f116 t rg fc sl pc c015v135 pl c x1.a j) λk=>
 some (c015v135,pl,k) else(bif (decide (x1.op=49)) then Option.bind (f123 t rg fc sl pc c015v135 pl c x1) λg=>
 Option.bind (f116 t rg fc sl pc c015v135 g c x1.d (f56 0 1)) λm=>
 some (c015v135,g,m) else(bif (decide (x1.op=54)) then Option.bind (f116 t rg fc sl pc c015v135 pl c x1.d (f56 0 1)) λp=>
 some (c015v135,pl,p) else(bif (decide (x1.op=52)) then Option.bind (f90 t rg fc sl pc c015v135 pl c x1.to c015v135) λr=>
 some (c015v135,pl,r) else(bif (decide (x1.op=50)) then Option.bind (idx t.selects x1.n) λf=>
 Option.bind (f90 t rg fc sl pc c015v135 pl c f.else_ c015v135) λw=>
 (f99_l2 t rg fc sl pc pl c015v135 f (Int.toNat ((List.length f.alts:Int) - 0)+1) 0 w) else Option.bind (f90 t rg fc sl pc c015v135 pl c (IntKind.i64.wrap (pc+1)) c015v135) λx=>
 some (c015v135,pl,x))))))) λh=>
 (bif (decide (x1.op=57)) then some (c015v135,pl,wy) else letk (λ(y:Bool)=>
 (bif y then Option.bind (f58 t rg fc sl pc c015v135 pl wy false) λA=>
 (h A) else(h wy))) λe=>
 (bif (decide (x1.op=53)) then(e (decide (x1.op=53))) else(bif (decide (x1.op=49)) then(e (decide (x1.op=49))) else(bif (decide (x1.op=54)) then(e (decide (x1.op=54))) else(e (decide (x1.op=50)))))))) λB=>
 (f99_l1 B (Int.toNat (16 - 0)+1) 0 rr)
def f59(t:al)(rg:List aa)(fc:List aj)(sl:List (List aa))(pc:Int)(rr:Nat→aa)(pl:List ((Int×Int)×aa))(wy:List (Int×(Nat→aa)))(o1:Int):Option Nat:=
 (bif (((decide (o1=3))||(decide (o1=5)))||(decide (o1=7))) then some 91 else(bif (((decide (o1=4))||(decide (o1=6)))||(decide (o1=8))) then some 92 else(bif ((decide (o1≥9))&&(decide (o1≤26))) then some 93 else(bif ((decide (o1=27))||(decide (o1=28))) then some 94 else(bif ((decide (o1≥29))&&(decide (o1≤32))) then some 95 else(bif (((decide (o1=33))||(decide (o1=34)))||(decide (o1=35))) then some 96 else(bif (((!(f97 o1))||(decide (o1=42)))||(decide (o1=43))) then some 98 else some 99)))))))
def fm(n:Nat)(t:al)(rg:List aa)(fc:List aj)(sl:List (List aa))(pc:Int)(rr:Nat→aa)(pl:List ((Int×Int)×aa))(wy:List (Int×(Nat→aa)))(x:ao):Option ((Nat→aa)×(List ((Int×Int)×aa))×(List (Int×(Nat→aa)))):=
 bif Nat.beq n 91 then Option.bind (f91 t rg fc sl pc rr pl wy x) λz=>some (z.1,pl,z.2) else
 bif Nat.beq n 92 then Option.bind (f92 t rg fc sl pc rr pl wy x) λz=>some (z.1,z.2.1,z.2.2) else
 bif Nat.beq n 93 then Option.bind (f93 t rg fc sl pc rr pl wy x) λz=>some (rr,pl,z) else
 bif Nat.beq n 94 then Option.bind (f94 t rg fc sl pc rr pl wy x) λz=>some (rr,pl,z) else
 bif Nat.beq n 95 then Option.bind (f95 t rg fc sl pc rr pl wy x) λz=>some (rr,pl,z) else
 bif Nat.beq n 96 then Option.bind (f96 t rg fc sl pc rr pl wy x) λz=>some (rr,pl,z) else
 bif Nat.beq n 98 then Option.bind (f98 t rg fc sl pc rr pl wy x) λz=>some (rr,pl,z) else
 bif Nat.beq n 99 then Option.bind (f99 t rg fc sl pc rr pl wy x) λz=>some (z.1,z.2.1,z.2.2) else
 none
def f60m(sl:List (List aa))(v1:aa)(g:aa)(h:Bool)(o:Int)(k:Int):Option (Bool×(List (List aa))):=
 Option.bind (idx sl o) λj=>
 Option.bind (idx j k) λm=>
 (bif (f65 v1 m) then some (false,sl) else Option.bind (idx sl o) λp=>
 Option.bind (idx p k) λr=>
 Option.bind (f57 r [v1]) λa=>
 letk (λ(c20v41:Int)(c21v42:Int)=>
 Option.bind (idx sl o) λc=>
 Option.bind (idx c k) λx=>
 some (true,(List.set sl (Int.toNat o) (List.set c (Int.toNat k) (aa.mk c20v41 c21v42))))) λe=>
 (bif h then Option.bind (idx sl o) λt=>
 Option.bind (idx t k) λw=>
 Option.bind (f100 w a g) λf=>
 (e f.lo f.hi) else(e a.lo a.hi)))
def f60e(fc:List aj)(v1:aa)(h:aa)(j:Bool)(a:Int)(kq:Int):Option (Bool×(List aj)):=
 aL (bE 16 kq)<|
 Option.bind (idx fc a) λk=>
 (bif (f65 v1 (k.r (Int.toNat kq))) then some (false,fc) else aL (bE 16 kq)<|
 Option.bind (idx fc a) λm=>
 Option.bind (f57 (m.r (Int.toNat kq)) [v1]) λc=>
 letk (λ(c10v41:Int)(c11v42:Int)=>
 aL (bE 16 kq)<|
 Option.bind (idx fc a) λe=>
 some (true,(List.set fc (Int.toNat a) (aj.mk e.reached (be e.r (Int.toNat kq) (aa.mk c10v41 c11v42)))))) λf=>
 (bif j then aL (bE 16 kq)<|
 Option.bind (idx fc a) λp=>
 Option.bind (f100 (p.r (Int.toNat kq)) c h) λg=>
 (f g.lo g.hi) else(f c.lo c.hi)))
def f26_m2(rg:List aa)(f:Bool):((Int×Int)×aa)→(Bool×(List (List aa)))→Option (Bool×(List (List aa)))
 |a,(changed204,e)=>
 Option.bind (idx e a.1.1) λg=>
 Option.bind (idx g a.1.2) λj=>
 Option.bind (idx rg a.1.1) λh=>
 Option.bind (f60m e a.2 h f a.1.1 a.1.2) λc=>
 (bif c.1 then some (true,c.2) else some (changed204,c.2))
def f26_l4(j:Bool)(k:Int)(c:Int×(Nat→aa)):Nat→Bool→Int→(List aj)→Option (Bool×(List aj))
 |0,_,_,_=>none
 |na+1,changed243,a,f=>
 (bif (decide (a<16)) then letk (λ(changed249:Bool)(m:List aj)=>
 (f26_l4 j k c na changed249 (IntKind.i64.wrap (a+1)) m)) λe=>
 aL (bE 16 a)<|
 aL (bE 16 a)<|
 (bif j then Option.bind (f60e f (c.2 (Int.toNat a)) (f56 (-2147483648) 2147483647) (decide (c.1≤k)) c.1 a) λg=>
 (bif g.1 then(e true g.2) else(e changed243 g.2)) else Option.bind (f60e f (c.2 (Int.toNat a)) (f56 (-2147483648) 2147483647) false c.1 a) λh=>
 (bif h.1 then(e true h.2) else(e changed243 h.2))) else some (changed243,f))
def f26_m3(e:Bool)(a:Int):(Int×(Nat→aa))→(Bool×(List aj))→Option (Bool×(List aj))
 |g,(changed226,j)=>
 Option.bind (idx j g.1) λB=>
 (bif (!B.reached) then some (true,(List.set j (Int.toNat g.1) (aj.mk true g.2))) else(f26_l4 e a g (Int.toNat (16 - 0)+1) changed226 0 j))
noncomputable def f26_l1(t:al)(rg:List aa)(fc:List aj)(e:Bool)(h:Bool→(List aj)→(List (List aa))→Int→(Nat→aa)→Option (Bool×Int×(Nat→aa)×(List aj)×(List (List aa)))):Nat→Bool→Int→(List aj)→(List (List aa))→Int→(Nat→aa)→Option (Bool×Int×(Nat→aa)×(List aj)×(List (List aa)))
 |0,_,_,_,_,_,_=>none
 |n+1,changed170,a,c,f,c014v174,c015v175=>
 (bif (decide (a<(List.length fc:Int))) then letk (λ(changed182:Bool)(C:List aj)(E:List (List aa))(c014v185:Int)(c015v186:Nat→aa)=>
 (f26_l1 t rg fc e h n changed182 (IntKind.i64.wrap (a+1)) C E c014v185 c015v186)) λp=>
 Option.bind (idx c a) λF=>
 (bif (!F.reached) then(p changed170 c f c014v174 c015v175) else Option.bind (idx c a) λk=>
 Option.bind (f58 t rg c f a k.r ([]:List ((Int×Int)×aa)) ([]:List (Int×(Nat→aa))) true) λw=>
 Option.bind (idx t.insns a) λx=>
 Option.bind (f59 t rg c f a k.r ([]:List ((Int×Int)×aa)) w x.op) λG=>
 Option.bind (fm G t rg c f a k.r ([]:List ((Int×Int)×aa)) w x) λm=>
 letk (λ(changed197:Bool)(H:List (List aa))=>
 (gb m.2.2 (f26_m3 e a) (λ(y:Bool×(List aj))=>(p y.1 y.2 H a m.1)) (changed197,c))) λI=>
 (gb m.2.1 (f26_m2 rg e) (λ(A:Bool×(List (List aa)))=>(I A.1 A.2)) (changed170,f))) else(h changed170 c f c014v174 c015v175))
noncomputable def f26(t:al)(rg:List aa)(pc:Int)(rr:Nat→aa)(fc:List aj)(sl:List (List aa))(e:Bool):Option (Bool×Int×(Nat→aa)×(List aj)×(List (List aa))):=
 letk (λ(changed158:Bool)(K:List aj)(L:List (List aa))(c014v161:Int)(c015v162:Nat→aa)=>
 some (changed158,c014v161,c015v162,K,L)) λh=>
 (f26_l1 t rg fc e h (Int.toNat ((List.length fc:Int) - 0)+1) false 0 fc sl pc rr)
def f113_l1(s0:lI)(c:Int→oB)(e:Unit→Option (Int)):Nat→Int→Option (Int)
 |0,_=>none
 |n+1,a=>
 (bif (decide (a<(List.length s0:Int))) then Option.bind (idx s0 a) λf=>
 Option.bind (c f) λg=>
 (bif g then some a else(f113_l1 s0 c e n (IntKind.i64.wrap (a+1)))) else(e ()))
def f113(s0:lI)(a:Int→oB):Option Int:=
 letk (λ(_:Unit)=>
 some (-1)) λc=>
 (f113_l1 s0 a c (Int.toNat ((List.length s0:Int) - 0)+1) 0)
def f85(s0:lI)(a:Int→oB):oB:=
 Option.bind (f113 s0 a) λc=>
 some (decide (c≥0))
def f86(n0:Int)(a:Int):Bool:=
 (decide ((IntKind.i64.wrap (n0+1))=a))
def f55(o0:Obj)(v1:Int):oB:=
 (bif o0.ptr then Option.bind (bif (decide (v1=0)) then some true else(Option.bind (f85 o0.set_ (λz0=>some (f86 z0 v1))) λa=>some a)) λc=>
 some c else some ((decide (v1≥o0.lo))&&(decide (v1≤o0.hi))))
def f67_l1(t0:bP)(o1:Obj)(e:Unit→oB):Nat→Int→Int→oB
 |0,_,_=>none
 |n+1,f,c=>
 (bif (decide (c<(List.length o1.set_:Int))) then Option.bind (idx o1.set_ c) λa=>
 Option.bind (bif ((decide (a≤f))||(decide (a≥(List.length t0.text.objs:Int)))) then some true else(Option.bind (idx t0.text.objs a) λg=>some (!decide (g.size=1)))) λh=>
 Option.bind (bif h then some true else(Option.bind (idx t0.text.objs a) λj=>some j.ptr)) λk=>
 (bif k then some false else(f67_l1 t0 o1 e n a (IntKind.i64.wrap (c+1)))) else(e ()))
def f67(t0:bP)(o1:Obj):oB:=
 (bif (((decide (o1.size<1))||(decide (o1.size>16384)))||(decide (o1.lo>o1.hi))) then some false else(bif (!o1.ptr) then some (decide ((List.length o1.set_:Int)=0)) else letk (λ(_:Unit)=>
 some ((decide (o1.lo=0))&&(decide (o1.hi=0)))) λa=>
 (f67_l1 t0 o1 a (Int.toNat ((List.length o1.set_:Int) - 0)+1) (-1) 0)))
def f68(t0:bP)(o1:Int)(a:Int)(c:Int):oB:=
 Option.bind (bif (((decide (o1≥0))&&(decide (o1<(List.length t0.text.objs:Int))))&&(decide (a≥0))) then(Option.bind (idx t0.text.objs o1) λe=>some (decide (a≤(IntKind.i64.wrap (e.size - c))))) else some false) λf=>
 some f
def f44_l1(t0:bP)(c:Int→oB):Nat→Int→Int→oB
 |0,_,_=>none
 |n+1,e,a=>
 (bif (decide (a<(List.length t0.text.objs:Int))) then Option.bind (idx t0.text.objs a) λf=>
 Option.bind (f67 t0 f) λg=>
 (bif (!g) then some false else(f44_l1 t0 c n (IntKind.i64.wrap (e+f.size)) (IntKind.i64.wrap (a+1)))) else(c e))
def f44_l2(t0:bP)(f:(List ((Int×Int)×Bool))→oB):Nat→Int→(List ((Int×Int)×Bool))→oB
 |0,_,_=>none
 |n+1,c,e=>
 (bif (decide (c<(List.length t0.text.inits:Int))) then Option.bind (idx t0.text.inits c) λa=>
 Option.bind (bif (Option.getD (bH e (a.o,a.slot)) false) then some true else(Option.bind (f68 t0 a.o a.slot 1) λg=>some (!g))) λh=>
 Option.bind (bif h then some true else(Option.bind (idx t0.text.objs a.o) λj=>Option.bind (f55 j a.v) λk=>some (!k))) λm=>
 (bif m then some false else(f44_l2 t0 f n (IntKind.i64.wrap (c+1)) (bI e (a.o,a.slot) true))) else(f e))
def f44(t0:bP):oB:=
 (bif (((decide ((List.length t0.text.objs:Int)>4096))||(decide (t0.text.excs<4)))||(decide (t0.text.excs>64))) then some false else letk (λ(a:Int)=>
 letk (λ(f:List ((Int×Int)×Bool))=>
 some (decide (a≤65536))) λc=>
 (f44_l2 t0 c (Int.toNat ((List.length t0.text.inits:Int) - 0)+1) 0 ([]:List ((Int×Int)×Bool)))) λe=>
 (f44_l1 t0 e (Int.toNat ((List.length t0.text.objs:Int) - 0)+1) 0 0))
def f69(t0:bP)(a1:Int):Bool:=
 ((decide (a1≥0))&&(decide (a1<(List.length t0.text.insns:Int))))
def f104_l1(s0:List bO)(c:bO→oB)(e:Unit→Option (Int)):Nat→Int→Option (Int)
 |0,_=>none
 |n+1,a=>
 (bif (decide (a<(List.length s0:Int))) then Option.bind (idx s0 a) λf=>
 Option.bind (c f) λg=>
 (bif g then some a else(f104_l1 s0 c e n (IntKind.i64.wrap (a+1)))) else(e ()))
def f104(s0:List bO)(a:bO→oB):Option Int:=
 letk (λ(_:Unit)=>
 some (-1)) λc=>
 (f104_l1 s0 a c (Int.toNat ((List.length s0:Int) - 0)+1) 0)
def f70(s0:List bO)(a:bO→oB):oB:=
 Option.bind (f104 s0 a) λc=>
 some (decide (c≥0))
def f105(o0:Int)(a:bP):oB:=
 Option.bind (bif ((decide (o0<0))||(decide (o0≥(List.length a.text.objs:Int)))) then some true else(Option.bind (idx a.text.objs o0) λc=>some (!decide (c.size=1)))) λe=>
 some e
def f72(t0:bP)(l1:lI):oB:=
 Option.bind (bif (decide ((List.length l1:Int)≤8)) then(Option.bind (f85 l1 λz0=>f105 z0 t0) λa=>some (!a)) else some false) λc=>
 some c
def f71(e0:bO)(a:bP):oB:=
 Option.bind (f72 a e0.ins) λc=>
 Option.bind (bif (!c) then some true else(Option.bind (f72 a e0.outs) λe=>some (!e))) λf=>
 some f
def f45_l1(t0:bP)(e:Unit→oB):Nat→Int→oB
 |0,_=>none
 |n+1,c=>
 (bif (decide (c<(List.length t0.text.tasks:Int))) then Option.bind (idx t0.text.tasks c) λa=>
 (bif ((((((decide (a.prio<0))||(decide (a.prio>31)))||(!(f69 t0 a.at_)))||(decide (a.deadline<0)))||(decide (a.deadline>2147483647)))||(decide ((List.length a.entries:Int)>8))) then some false else Option.bind (f70 a.entries λz0=>f71 z0 t0) λf=>
 (bif f then some false else(f45_l1 t0 e n (IntKind.i64.wrap (c+1))))) else(e ()))
def f45(t0:bP):oB:=
 (bif ((decide ((List.length t0.text.tasks:Int)<1))||(decide ((List.length t0.text.tasks:Int)>32))) then some false else letk (λ(_:Unit)=>
 some true) λa=>
 (f45_l1 t0 a (Int.toNat ((List.length t0.text.tasks:Int) - 0)+1) 0))
def f46_l2(t0:bP)(c:lI)(g:(List (Int×Bool))→oB):Nat→Int→(List (Int×Bool))→oB
 |0,_,_=>none
 |na+1,e,f=>
 (bif (decide (e<(List.length c:Int))) then Option.bind (idx c e) λa=>
 (bif (((decide (a<1))||(decide (a≥(List.length t0.text.tasks:Int))))||(Option.getD (bH f a) false)) then some false else(f46_l2 t0 c g na (IntKind.i64.wrap (e+1)) (bI f a true))) else(g f))
def f46_l1(t0:bP)(e:Unit→oB):Nat→Int→oB
 |0,_=>none
 |n+1,a=>
 (bif (decide (a<(List.length t0.text.lists:Int))) then letk (λ(j:List (Int×Bool))=>
 (f46_l1 t0 e n (IntKind.i64.wrap (a+1)))) λf=>
 Option.bind (idx t0.text.lists a) λc=>
 letk (λ(g:List (Int×Bool))=>
 (bif (decide ((List.length c:Int)>32)) then some false else(f g))) λh=>
 (f46_l2 t0 c h (Int.toNat ((List.length c:Int) - 0)+1) 0 ([]:List (Int×Bool))) else(e ()))
def f46(t0:bP):oB:=
 (bif (decide ((List.length t0.text.lists:Int)>4096)) then some false else letk (λ(_:Unit)=>
 some true) λa=>
 (f46_l1 t0 a (Int.toNat ((List.length t0.text.lists:Int) - 0)+1) 0))
def f73s_l1(e:lN→lH→lP→lS→lL→lO→lT→Int→lK→lM→lC→Int→Int→bc→Int→Option (Bool×lN×lH×lP×lS×lL×lO×lT×Int×lK×lM×lC×Int×Int))(e1:bc)(f:Int)(g:Int→lN→lH→lP→lS→lL→lO→lT→Int→lK→lM→lC→Int→Int→Option (Bool×lN×lH×lP×lS×lL×lO×lT×Int×lK×lM×lC×Int×Int))(h:lN→lH→lP→lS→lL→lO→lT→Int→lK→lM→lC→Int→Int→Option (Bool×lN×lH×lP×lS×lL×lO×lT×Int×lK×lM×lC×Int×Int)):Nat→Int→lN→lH→lP→lS→lL→lO→lT→Int→lK→lM→lC→Int→Int→Option (Bool×lN×lH×lP×lS×lL×lO×lT×Int×lK×lM×lC×Int×Int)
 |0,_,_,_,_,_,_,_,_,_,_,_,_,_,_=>none
 |n+1,c,c00v179,c01v180,c02v181,c03v182,c04v183,c05v184,c06v185,c07v186,c08v187,c09v188,c010v189,c011v190,c012v191=>
 (bif (decide (c<(List.length e1.l:Int))) then Option.bind (idx e1.l c) λj=>
 letk (λ(k:Bool)(c00v209:lN)(c01v210:lH)(c02v211:lP)(c03v212:lS)(c04v213:lL)(c05v214:lO)(c06v215:lT)(c07v216:Int)(c08v217:lK)(c09v218:lM)(c010v219:lC)(c011v220:Int)(c012v221:Int)=>
 (bif k then(g c c00v209 c01v210 c02v211 c03v212 c04v213 c05v214 c06v215 c07v216 c08v217 c09v218 c010v219 c011v220 c012v221) else(f73s_l1 e e1 f g h n (IntKind.i64.wrap (c+1)) c00v209 c01v210 c02v211 c03v212 c04v213 c05v214 c06v215 c07v216 c08v217 c09v218 c010v219 c011v220 c012v221))) λm=>
 Option.bind (e c00v179 c01v180 c02v181 c03v182 c04v183 c05v184 c06v185 c07v186 c08v187 c09v188 c010v189 c011v190 c012v191 j (IntKind.i64.wrap (f+1))) λa=>
 (m (!a.1) a.2.1 a.2.2.1 a.2.2.2.1 a.2.2.2.2.1 a.2.2.2.2.2.1 a.2.2.2.2.2.2.1 a.2.2.2.2.2.2.2.1 a.2.2.2.2.2.2.2.2.1 a.2.2.2.2.2.2.2.2.2.1 a.2.2.2.2.2.2.2.2.2.2.1 a.2.2.2.2.2.2.2.2.2.2.2.1 a.2.2.2.2.2.2.2.2.2.2.2.2.1 a.2.2.2.2.2.2.2.2.2.2.2.2.2) else(h c00v179 c01v180 c02v181 c03v182 c04v183 c05v184 c06v185 c07v186 c08v187 c09v188 c010v189 c011v190 c012v191))
def f73s(E:lN→lH→lP→lS→lL→lO→lT→Int→lK→lM→lC→Int→Int→bc→Int→Option (Bool×lN×lH×lP×lS×lL×lO×lT×Int×lK×lM×lC×Int×Int))(g:lN)(h:lH)(j:lP)(k:lS)(m:lL)(c:lO)(p:lT)(r:Int)(t:lK)(w:lM)(x:lC)(jent:Int)(jleft:Int)(e1:bc)(y:Int):Option (Bool×lN×lH×lP×lS×lL×lO×lT×Int×lK×lM×lC×Int×Int):=
 letk (λ(F:Bool)(G:Int)(e:bc)(c21v100:Int)(c22v101:Int)(c23v102:Int)(c24v103:Int)=>
 (bif (((((((((((decide ((IntKind.i64.wrap (jleft - 1))<0))||(decide (y>64)))||(!F))||(!decide ((List.length e1.l:Int)=G)))||(!decide (e1.op=e.op)))||(!decide (e1.n=e.n)))||(!decide (e1.o=e.o)))||(!decide (e1.off=e.off)))||(!decide (e1.len=0)))||(!decide (e1.lo=0)))||(!decide (e1.hi=0))) then some (false,g,h,j,k,m,c,p,r,t,w,x,jent,(IntKind.i64.wrap (jleft - 1))) else letk (λ(H:Bool)(c00v120:lN)(c01v121:lH)(c02v122:lP)(c03v123:lS)(c04v124:lL)(c05v125:lO)(c06v126:lT)(c07v127:Int)(c08v128:lK)(c09v129:lM)(c010v130:lC)(c011v131:Int)(c012v132:Int)=>
 some ((!H),c00v120,c01v121,c02v122,c03v123,c04v124,c05v125,c06v126,c07v127,c08v128,c09v129,c010v130,c011v131,c012v132)) λI=>
 letk (λ(K:Int)(c00v136:lN)(c01v137:lH)(c02v138:lP)(c03v139:lS)(c04v140:lL)(c05v141:lO)(c06v142:lT)(c07v143:Int)(c08v144:lK)(c09v145:lM)(c010v146:lC)(c011v147:Int)(c012v148:Int)=>
 (I (decide (K≥0)) c00v136 c01v137 c02v138 c03v139 c04v140 c05v141 c06v142 c07v143 c08v144 c09v145 c010v146 c011v147 c012v148)) λA=>
 letk (λ(c00v150:lN)(c01v151:lH)(c02v152:lP)(c03v153:lS)(c04v154:lL)(c05v155:lO)(c06v156:lT)(c07v157:Int)(c08v158:lK)(c09v159:lM)(c010v160:lC)(c011v161:Int)(c012v162:Int)=>
 (A (-1) c00v150 c01v151 c02v152 c03v153 c04v154 c05v155 c06v156 c07v157 c08v158 c09v159 c010v160 c011v161 c012v162)) λL=>
 (f73s_l1 E e1 y A L (Int.toNat ((List.length e1.l:Int) - 0)+1) 0 g h j k m c p r t w x jent (IntKind.i64.wrap (jleft - 1))))) λf=>
 letk (λ(M:Int)(c21v106:Int)(c22v107:Int)(c23v108:Int)(c24v109:Int)=>
 (f true M (bc.mk e1.kind c21v106 c22v107 c23v108 c24v109 0 0 0 []) c21v106 c22v107 c23v108 c24v109)) λa=>
 (bif (decide (e1.kind=1)) then(a 0 0 e1.n 0 0) else(bif (decide (e1.kind=2)) then Option.bind (f68 (bP.mk (al.mk g h j k m c p r t w x)) e1.o e1.off 1) λN=>
 Option.bind (bif (!N) then some true else(Option.bind (idx c e1.o) λO=>some O.ptr)) λP=>
 (bif P then(f false 0 (bc.mk e1.kind 0 0 0 0 0 0 0 []) 0 0 0 0) else(a 0 0 0 e1.o e1.off)) else(bif (decide (e1.kind=14)) then letk (λ(Q:Bool)=>
 (f Q 0 (bc.mk e1.kind 0 e1.n 0 0 0 0 0 []) 0 e1.n 0 0)) λB=>
 (bif (decide (e1.n≥0)) then(B (decide (e1.n<jent))) else(B false)) else(bif (decide (e1.kind=4)) then(a 1 18 0 0 0) else(bif (decide (e1.kind=5)) then(a 2 (if(if 15<e1.op then 15 else e1.op)>7 then(if 15<e1.op then 15 else e1.op) else 7) 0 0 0) else letk (λ(R:Bool)=>
 (bif R then(a 2 0 0 0 0) else(f false 0 (bc.mk e1.kind 0 0 0 0 0 0 0 []) 0 0 0 0))) λC=>
 (bif (decide (e1.kind=6)) then(C (decide (e1.kind=6))) else(C (decide (e1.kind=7)))))))))
def f73:Nat→lN→lH→lP→lS→lL→lO→lT→Int→lK→lM→lC→Int→Int→bc→Int→Option (Bool×lN×lH×lP×lS×lL×lO×lT×Int×lK×lM×lC×Int×Int)
 |0=>λ_ _ _ _ _ _ _ _ _ _ _ _ _ _ _=>none
 |n+1=>f73s (f73 n)
def f47_l2(t0:bP)(e:Int→(List bc)→oB)(a:eH):Nat→Int→oB
 |0,_=>none
 |na+1,c=>
 (bif (decide (c<(List.length a.barriers:Int))) then Option.bind (idx a.barriers c) λf=>
 Option.bind (f73 66 t0.text.insns t0.text.handlers t0.text.loops t0.text.selects t0.text.lists t0.text.objs t0.text.inits t0.text.excs t0.text.tasks t0.text.prots t0.text.checks (List.length a.barriers:Int) 256 f 1) λg=>
 (bif (!g.1) then some false else(f47_l2 t0 e a na (IntKind.i64.wrap (c+1)))) else(e a.ceiling a.barriers))
def f47_l1(t0:bP)(e:Unit→oB):Nat→Int→oB
 |0,_=>none
 |n+1,c=>
 (bif (decide (c<(List.length t0.text.prots:Int))) then letk (λ(c00v60:Int)(c01v61:List bc)=>
 (f47_l1 t0 e n (IntKind.i64.wrap (c+1)))) λf=>
 Option.bind (idx t0.text.prots c) λa=>
 (bif (((decide (a.ceiling<0))||(decide (a.ceiling>31)))||(decide ((List.length a.barriers:Int)>8))) then some false else(f47_l2 t0 f a (Int.toNat ((List.length a.barriers:Int) - 0)+1) 0)) else(e ()))
def f47(t0:bP):oB:=
 letk (λ(_:Unit)=>
 some (decide ((List.length t0.text.prots:Int)≤32))) λa=>
 (f47_l1 t0 a (Int.toNat ((List.length t0.text.prots:Int) - 0)+1) 0)
def f110(n0:Int)(a:bP)(c:Int):oB:=
 Option.bind (f68 a c n0 1) λe=>
 some e
def f76(t0:bP)(a:Int)(a2:jb):oB:=
 Option.bind (bif (!(f69 t0 a2.at_)) then some true else(Option.bind (bif (!decide (a2.guard=(-1))) then(Option.bind (f110 a2.guard t0 a) λe=>some (!e)) else some false) λf=>some f)) λg=>
 (bif g then some false else(bif (decide (a2.kind=1)) then some (((decide (a2.entry≥0))&&(decide (a2.entry<8)))&&(decide (a2.time=0))) else letk (λ(h:Bool)=>
 (bif h then Option.bind (bif (decide (a2.entry=0)) then(Option.bind (f110 a2.time t0 a) λj=>some j) else some false) λk=>
 some k else some ((decide (a2.kind=4))&&(decide ((IntKind.i64.wrap (BitVec.ofInt IntKind.i64.bits a2.entry|||BitVec.ofInt IntKind.i64.bits a2.time).toNat)=0))))) λc=>
 (bif (decide (a2.kind=2)) then(c (decide (a2.kind=2))) else(c (decide (a2.kind=3))))))
def f48_l2(t0:bP)(a:c4)(e:Int→oB)(f:Unit→oB):Nat→Int→oB
 |0,_=>none
 |na+1,c=>
 (bif (decide (c<(List.length a.alts:Int))) then Option.bind (idx a.alts c) λg=>
 letk (λ(h:Bool)=>
 (bif h then(e c) else(f48_l2 t0 a e f na (IntKind.i64.wrap (c+1))))) λj=>
 Option.bind (f76 t0 a.obj g) λk=>
 (j (!k)) else(f ()))
def f48_l1(t0:bP)(e:Unit→oB):Nat→Int→oB
 |0,_=>none
 |n+1,c=>
 (bif (decide (c<(List.length t0.text.selects:Int))) then Option.bind (idx t0.text.selects c) λa=>
 (bif (((((decide ((List.length a.alts:Int)<1))||(decide ((List.length a.alts:Int)>16)))||(decide (a.obj<0)))||(decide (a.obj≥(List.length t0.text.objs:Int))))||((!decide (a.else_=(-1)))&&(!(f69 t0 a.else_)))) then some false else letk (λ(g:Bool)=>
 (bif g then some false else(f48_l1 t0 e n (IntKind.i64.wrap (c+1))))) λh=>
 letk (λ(j:Int)=>
 (h (decide (j≥0)))) λf=>
 letk (λ(_:Unit)=>
 (f (-1))) λk=>
 (f48_l2 t0 a f k (Int.toNat ((List.length a.alts:Int) - 0)+1) 0)) else(e ()))
def f48(t0:bP):oB:=
 (bif (decide ((List.length t0.text.selects:Int)>1024)) then some false else letk (λ(_:Unit)=>
 some true) λa=>
 (f48_l1 t0 a (Int.toNat ((List.length t0.text.selects:Int) - 0)+1) 0))
def f77(h0:bB)(a1:Int):Bool:=
 ((decide (h0.from_≤a1))&&(decide (a1<h0.to)))
def f49_l2(t0:bP)(e:Int)(g:Int→Int→Int→Bool→oB)(a:bB):Nat→Int→oB
 |0,_=>none
 |na+1,f=>
 (bif (decide (f<(List.length (bD t0.text.handlers 0 e):Int))) then Option.bind (idx (bD t0.text.handlers 0 e) f) λc=>
 (bif ((!((decide (c.from_≥a.from_))&&(decide (c.to≤a.to))))&&(decide ((if a.from_>c.from_ then a.from_ else c.from_)<(if a.to<c.to then a.to else c.to)))) then some false else(f49_l2 t0 e g a na (IntKind.i64.wrap (f+1)))) else(g a.from_ a.to a.at_ a.clean))
def f49_l1(t0:bP)(e:Unit→oB):Nat→Int→oB
 |0,_=>none
 |n+1,c=>
 (bif (decide (c<(List.length t0.text.handlers:Int))) then letk (λ(c00v99:Int)(c01v100:Int)(c02v101:Int)(c03v102:Bool)=>
 (f49_l1 t0 e n (IntKind.i64.wrap (c+1)))) λf=>
 Option.bind (idx t0.text.handlers c) λa=>
 (bif (((((decide (a.from_<0))||(decide (a.from_≥a.to)))||(decide (a.to>(List.length t0.text.insns:Int))))||(!(f69 t0 a.at_)))||(f77 a a.at_)) then some false else aL (dD t0.text.handlers 0 c)<|
 (f49_l2 t0 c f a (Int.toNat ((List.length (bD t0.text.handlers 0 c):Int) - 0)+1) 0)) else(e ()))
def f49(t0:bP):oB:=
 (bif (decide ((List.length t0.text.handlers:Int)>4096)) then some false else letk (λ(_:Unit)=>
 some true) λa=>
 (f49_l1 t0 a (Int.toNat ((List.length t0.text.handlers:Int) - 0)+1) 0))
def f78(x0:ao)(a:Int):Bool:=
 ((((decide (x0.op=29))||(decide (x0.op=30)))||(decide (x0.op=31)))&&(decide (x0.to=a)))
def f50_l1(t0:bP)(f:(List (Int×Bool))→oB):Nat→Int→(List (Int×Bool))→oB
 |0,_,_=>none
 |n+1,c,e=>
 (bif (decide (c<(List.length t0.text.loops:Int))) then Option.bind (idx t0.text.loops c) λa=>
 Option.bind (bif ((((decide (a.head<0))||(decide (a.head>a.back)))||(!(f69 t0 a.back)))||(Option.getD (bH e a.back) false)) then some true else(Option.bind (idx t0.text.insns a.back) λg=>some (!(f78 g a.head)))) λh=>
 (bif ((h||(decide (a.bound<0)))||(decide (a.bound>2147483647))) then some false else(f50_l1 t0 f n (IntKind.i64.wrap (c+1)) (bI e a.back true))) else(f e))
def f50(t0:bP):oB:=
 (bif (decide ((List.length t0.text.loops:Int)>4096)) then some false else letk (λ(c:List (Int×Bool))=>
 some true) λa=>
 (f50_l1 t0 a (Int.toNat ((List.length t0.text.loops:Int) - 0)+1) 0 ([]:List (Int×Bool))))
def f79(t0:bP)(a1:Int):oB:=
 Option.bind (bif (f69 t0 a1) then(Option.bind (idx t0.text.insns a1) λa=>Option.bind (bif (decide (a.op=27)) then some true else(Option.bind (idx t0.text.insns a1) λc=>some (decide (c.op=28)))) λe=>some e) else some false) λf=>
 some f
def f51_l1(t0:bP)(e:Unit→oB):Nat→Int→Int→oB
 |0,_,_=>none
 |n+1,f,c=>
 (bif (decide (c<(List.length t0.text.checks:Int))) then Option.bind (idx t0.text.checks c) λa=>
 Option.bind (bif (decide (a.at_≤f)) then some true else(Option.bind (f79 t0 a.at_) λg=>some (!g))) λh=>
 (bif ((h||(decide (a.kind<1)))||(decide (a.kind>5))) then some false else(f51_l1 t0 e n a.at_ (IntKind.i64.wrap (c+1)))) else(e ()))
def f51(t0:bP):oB:=
 letk (λ(_:Unit)=>
 some true) λa=>
 (f51_l1 t0 a (Int.toNat ((List.length t0.text.checks:Int) - 0)+1) (-1) 0)
def f80_l1(s0:lN)(c:ao→oB)(e:Unit→Option (Int)):Nat→Int→Option (Int)
 |0,_=>none
 |n+1,a=>
 (bif (decide (a<(List.length s0:Int))) then Option.bind (idx s0 a) λf=>
 Option.bind (c f) λg=>
 (bif g then some a else(f80_l1 s0 c e n (IntKind.i64.wrap (a+1)))) else(e ()))
def f80(s0:lN)(a:ao→oB):Option Int:=
 letk (λ(_:Unit)=>
 some (-1)) λc=>
 (f80_l1 s0 a c (Int.toNat ((List.length s0:Int) - 0)+1) 0)
def f52(s0:lN)(a:ao→oB):oB:=
 Option.bind (f80 s0 a) λc=>
 some (decide (c≥0))
def f111(o0:Int):Option (hZ×Bool):=
 (bif ((decide (o0<1))||(decide ((IntKind.i64.wrap o0)>57))) then some ((hZ.mk ByteArray.empty ByteArray.empty),false) else Option.bind (idx jm (IntKind.u8.wrap (o0 - 1))) λa=>
 some (a,true))
def f127_l1(s0:ByteArray)(c:Int→Int→Option (List ByteArray)):Nat→Int→Int→Int→Int→Option (List ByteArray)
 |0,_,_,_,_=>none
 |n+1,e,wasSpace116,setBits117,a=>
 (bif (decide (a<(s0.size:Int))) then Option.bind (fE s0 a) λf=>
 Option.bind (idx dA f) λg=>
 (f127_l1 s0 c n (IntKind.i64.wrap (e+(IntKind.i64.wrap (BitVec.ofInt IntKind.i64.bits wasSpace116&&&BitVec.ofInt IntKind.i64.bits (IntKind.i64.wrap (BitVec.ofInt IntKind.i64.bits (-1)^^^BitVec.ofInt IntKind.i64.bits (IntKind.i64.wrap g)).toNat)).toNat))) (IntKind.i64.wrap g) (IntKind.u8.wrap (BitVec.ofInt IntKind.u8.bits setBits117|||BitVec.ofInt IntKind.u8.bits f).toNat) (IntKind.i64.wrap (a+1))) else(c e setBits117))
def f127_l2(s0:ByteArray)(c:Int→Option (List ByteArray)):Nat→Int→Option (List ByteArray)
 |0,_=>none
 |n+1,a=>
 Option.bind (bif (decide (a<(s0.size:Int))) then(Option.bind (fE s0 a) λe=>Option.bind (idx dA e) λf=>some (!decide (f=0))) else some false) λg=>
 (bif g then(f127_l2 s0 c n (IntKind.i64.wrap (a+1))) else(c a))
def f127_l4(s0:ByteArray)(c:Int→Option (List ByteArray)):Nat→Int→Option (List ByteArray)
 |0,_=>none
 |na+1,a=>
 Option.bind (bif (decide (a<(s0.size:Int))) then(Option.bind (fE s0 a) λe=>Option.bind (idx dA e) λf=>some (!decide (f=0))) else some false) λg=>
 (bif g then(f127_l4 s0 c na (IntKind.i64.wrap (a+1))) else(c a))
def f127_l3(s0:ByteArray)(f:Int→Int→(List ByteArray)→Option (List ByteArray)):Nat→Int→Int→Int→(List ByteArray)→Option (List ByteArray)
 |0,_,_,_,_=>none
 |n+1,a,fieldStart143,c,e=>
 (bif (decide (c<(s0.size:Int))) then letk (λ(j:Int)(fieldStart151:Int)(k:Int)(m:List ByteArray)=>
 (f127_l3 s0 f n j fieldStart151 k m)) λg=>
 Option.bind (fE s0 c) λp=>
 Option.bind (idx dA p) λr=>
 (bif (decide (r=0)) then(g a fieldStart143 (IntKind.i64.wrap (c+1)) e) else Option.bind (rJ s0 fieldStart143 c) λt=>
 Option.bind (idx e a) λx=>
 letk (λ(h:Int)=>
 (g (IntKind.i64.wrap (a+1)) h h (List.set e (Int.toNat a) t))) λw=>
 (f127_l4 s0 w 9223372036854775808 (IntKind.i64.wrap (c+1)))) else(f a fieldStart143 e))
def f127(s0:ByteArray):Option (List ByteArray):=
 letk (λ(c:Int)(setBits109:Int)=>
 (bif (decide (setBits109≥128)) then none else aL (mc 16 c)<|
 letk (λ(e:Int)=>
 letk (λ(f:Int)(fieldStart135:Int)(a:List ByteArray)=>
 letk (λ(h:List ByteArray)=>
 some h) λg=>
 (bif (decide (fieldStart135<(s0.size:Int))) then Option.bind (rJ s0 fieldStart135 (s0.size:Int)) λj=>
 Option.bind (idx a f) λr=>
 (g (List.set a (Int.toNat f) j)) else(g a))) λk=>
 (f127_l3 s0 k 9223372036854775808 0 e e (List.replicate (Int.toNat c) (ByteArray.empty:ByteArray)))) λm=>
 (f127_l2 s0 m 9223372036854775808 0))) λp=>
 (f127_l1 s0 p 9223372036854775808 0 1 0 0)
def f130(a:Int):Int×Int:=
 (bif (decide (a=114)) then(0,15) else(bif (decide (a=111)) then(0,4095) else(bif (decide (a=115)) then(0,65535) else(bif (decide (a=108)) then(1,65536) else(bif (decide (a=120)) then(1,64) else(bif (decide (a=107)) then(6,7) else(bif (decide (a=101)) then(0,7) else(bif (decide (a=112)) then(0,31) else(bif (decide (a=113)) then((-1),31) else(bif (decide (a=109)) then(0,3) else(bif (decide (a=106)) then(0,1023) else(bif (decide (a=98)) then(0,1) else((-9223372036854775808),9223372036854775807)))))))))))))
def f81_l1(f:Int→Int→Int→Int→Int→Int→ByteArray→ByteArray→Int→Int→Int→Int→oB)(g:Int→Int→Int→Int→Int→Int→ByteArray→ByteArray→Int→Int→Int→Int→oB)(h:Int→Int→Int→Int→Int→Int→ByteArray→ByteArray→Int→Int→Int→Int→oB)(j:Int→Int→Int→Int→Int→Int→ByteArray→ByteArray→Int→Int→Int→Int→oB)(k:Int→Int→Int→Int→Int→Int→ByteArray→ByteArray→Int→Int→Int→Int→oB)(m:Int→Int→Int→Int→Int→Int→ByteArray→ByteArray→Int→Int→Int→Int→oB)(p:Int→Int→Int→Int→Int→Int→ByteArray→ByteArray→oB)(a:hZ×Bool)(c:List ByteArray):Nat→Int→Int→Int→Int→Int→Int→Int→oB
 |0,_,_,_,_,_,_,_=>none
 |n+1,e,c21v178,c22v179,c23v180,c24v181,c25v182,c26v183=>
 (bif (decide (e<(List.length c:Int))) then Option.bind (idx c e) λr=>
 Option.bind (fE r 0) λC=>
 (bif (decide (C=68)) then letk (λ(_:Unit)=>
 Option.bind (fE r 1) λt=>
 letk (λ(_:Unit)=>
 (f c21v178 c22v179 c23v180 c24v181 c25v182 c26v183 a.1.name a.1.fields ((f130 t).1) ((f130 t).2) ((f130 t).1) ((f130 t).2))) λE=>
 letk (λ(_:Unit)=>
 (f81_l1 f g h j k m p a c n (IntKind.i64.wrap (e+1)) 0 c22v179 c23v180 c24v181 c25v182 c26v183)) λF=>
 letk (λ(_:Unit)=>
 (bif ((decide (c21v178<((f130 t).1)))||(decide (c21v178>((f130 t).2)))) then(E ()) else letk (λ(_:Unit)=>
 (F ())) λG=>
 (G ()))) λH=>
 (H ())) λI=>
 (I ()) else(bif (decide (C=65)) then letk (λ(_:Unit)=>
 Option.bind (fE r 1) λw=>
 letk (λ(_:Unit)=>
 (g c21v178 c22v179 c23v180 c24v181 c25v182 c26v183 a.1.name a.1.fields ((f130 w).1) ((f130 w).2) ((f130 w).1) ((f130 w).2))) λK=>
 letk (λ(_:Unit)=>
 (f81_l1 f g h j k m p a c n (IntKind.i64.wrap (e+1)) c21v178 0 c23v180 c24v181 c25v182 c26v183)) λL=>
 letk (λ(_:Unit)=>
 (bif ((decide (c22v179<((f130 w).1)))||(decide (c22v179>((f130 w).2)))) then(K ()) else letk (λ(_:Unit)=>
 (L ())) λM=>
 (M ()))) λN=>
 (N ())) λO=>
 (O ()) else(bif (decide (C=66)) then letk (λ(_:Unit)=>
 Option.bind (fE r 1) λx=>
 letk (λ(_:Unit)=>
 (h c21v178 c22v179 c23v180 c24v181 c25v182 c26v183 a.1.name a.1.fields ((f130 x).1) ((f130 x).2) ((f130 x).1) ((f130 x).2))) λP=>
 letk (λ(_:Unit)=>
 (f81_l1 f g h j k m p a c n (IntKind.i64.wrap (e+1)) c21v178 c22v179 0 c24v181 c25v182 c26v183)) λQ=>
 letk (λ(_:Unit)=>
 (bif ((decide (c23v180<((f130 x).1)))||(decide (c23v180>((f130 x).2)))) then(P ()) else letk (λ(_:Unit)=>
 (Q ())) λR=>
 (R ()))) λS=>
 (S ())) λT=>
 (T ()) else(bif (decide (C=78)) then letk (λ(_:Unit)=>
 Option.bind (fE r 1) λy=>
 letk (λ(_:Unit)=>
 (j c21v178 c22v179 c23v180 c24v181 c25v182 c26v183 a.1.name a.1.fields ((f130 y).1) ((f130 y).2) ((f130 y).1) ((f130 y).2))) λU=>
 letk (λ(_:Unit)=>
 (f81_l1 f g h j k m p a c n (IntKind.i64.wrap (e+1)) c21v178 c22v179 c23v180 0 c25v182 c26v183)) λV=>
 letk (λ(_:Unit)=>
 (bif ((decide (c24v181<((f130 y).1)))||(decide (c24v181>((f130 y).2)))) then(U ()) else letk (λ(_:Unit)=>
 (V ())) λX=>
 (X ()))) λY=>
 (Y ())) λZ=>
 (Z ()) else(bif (decide (C=77)) then letk (λ(_:Unit)=>
 Option.bind (fE r 1) λA=>
 letk (λ(_:Unit)=>
 (k c21v178 c22v179 c23v180 c24v181 c25v182 c26v183 a.1.name a.1.fields ((f130 A).1) ((f130 A).2) ((f130 A).1) ((f130 A).2))) λag=>
 letk (λ(_:Unit)=>
 (f81_l1 f g h j k m p a c n (IntKind.i64.wrap (e+1)) c21v178 c22v179 c23v180 c24v181 0 c26v183)) λa0=>
 letk (λ(_:Unit)=>
 (bif ((decide (c25v182<((f130 A).1)))||(decide (c25v182>((f130 A).2)))) then(ag ()) else letk (λ(_:Unit)=>
 (a0 ())) λa1=>
 (a1 ()))) λa6=>
 (a6 ())) λa7=>
 (a7 ()) else letk (λ(_:Unit)=>
 Option.bind (fE r 1) λB=>
 letk (λ(_:Unit)=>
 (m c21v178 c22v179 c23v180 c24v181 c25v182 c26v183 a.1.name a.1.fields ((f130 B).1) ((f130 B).2) ((f130 B).1) ((f130 B).2))) λa8=>
 letk (λ(_:Unit)=>
 (f81_l1 f g h j k m p a c n (IntKind.i64.wrap (e+1)) c21v178 c22v179 c23v180 c24v181 c25v182 0)) λa'=>
 letk (λ(_:Unit)=>
 (bif ((decide (c26v183<((f130 B).1)))||(decide (c26v183>((f130 B).2)))) then(a8 ()) else letk (λ(_:Unit)=>
 (a' ())) λbb=>
 (bb ()))) λbd=>
 (bd ())) λbk=>
 (bk ())))))) else(p c21v178 c22v179 c23v180 c24v181 c25v182 c26v183 a.1.name a.1.fields))
def f81(x0:ao):oB:=
 Option.bind (f111 x0.op) λf=>
 (bif ((!f.2)||((decide (x0.op=27))&&(decide (x0.n>x0.m)))) then some false else(bif (((decide (x0.op=37))&&(decide ((IntKind.u8.wrap x0.n)=6)))&&(!decide (x0.m=0))) then some false else letk (λ(c21v69:Int)(c22v70:Int)(c23v71:Int)(c24v72:Int)(c25v73:Int)(c26v74:Int)(c50v75:ByteArray)(c51v76:ByteArray)=>
 some (((decide (x0.op=x0.op))&&((decide (c21v69=0))&&((decide (c22v70=0))&&((decide (c23v71=0))&&((decide (c24v72=0))&&((decide (c25v73=0))&&((decide (c26v74=0))&&true))))))))) λg=>
 letk (λ(_:Unit)=>
 letk (λ(c21v81:Int)(c22v82:Int)(c23v83:Int)(c24v84:Int)(c25v85:Int)(c26v86:Int)(c50v87:ByteArray)(c51v88:ByteArray)(c62v89:Int)(c63v90:Int)(c92v91:Int)(c93v92:Int)=>
 some false) λh=>
 letk (λ(c21v94:Int)(c22v95:Int)(c23v96:Int)(c24v97:Int)(c25v98:Int)(c26v99:Int)(c50v100:ByteArray)(c51v101:ByteArray)(c62v102:Int)(c63v103:Int)(c92v104:Int)(c93v105:Int)=>
 some false) λj=>
 letk (λ(c21v107:Int)(c22v108:Int)(c23v109:Int)(c24v110:Int)(c25v111:Int)(c26v112:Int)(c50v113:ByteArray)(c51v114:ByteArray)(c62v115:Int)(c63v116:Int)(c92v117:Int)(c93v118:Int)=>
 some false) λk=>
 letk (λ(c21v120:Int)(c22v121:Int)(c23v122:Int)(c24v123:Int)(c25v124:Int)(c26v125:Int)(c50v126:ByteArray)(c51v127:ByteArray)(c62v128:Int)(c63v129:Int)(c92v130:Int)(c93v131:Int)=>
 some false) λp=>
 letk (λ(c21v133:Int)(c22v134:Int)(c23v135:Int)(c24v136:Int)(c25v137:Int)(c26v138:Int)(c50v139:ByteArray)(c51v140:ByteArray)(c62v141:Int)(c63v142:Int)(c92v143:Int)(c93v144:Int)=>
 some false) λr=>
 letk (λ(c21v146:Int)(c22v147:Int)(c23v148:Int)(c24v149:Int)(c25v150:Int)(c26v151:Int)(c50v152:ByteArray)(c51v153:ByteArray)(c62v154:Int)(c63v155:Int)(c92v156:Int)(c93v157:Int)=>
 some false) λt=>
 letk (λ(c21v159:Int)(c22v160:Int)(c23v161:Int)(c24v162:Int)(c25v163:Int)(c26v164:Int)(c50v165:ByteArray)(c51v166:ByteArray)=>
 (g c21v159 c22v160 c23v161 c24v162 c25v163 c26v164 c50v165 c51v166)) λw=>
 Option.bind (f111 x0.op) λc=>
 Option.bind (f127 c.1.fields) λe=>
 (f81_l1 h j k p r t w c e (Int.toNat ((List.length e:Int) - 0)+1) 0 x0.d x0.a x0.b x0.n x0.m x0.to)) λx=>
 (x ())))
def f82(y0:ao):Bool:=
 (!decide (y0.op=29))
def f83(t0:bP)(a:Int)(n2:Int):Option (Int×Bool):=
 Option.bind (bif (((decide (a<0))||(decide (a≥(List.length t0.text.tasks:Int))))||(decide (n2<0))) then some true else(Option.bind (idx t0.text.tasks a) λe=>some (decide (n2≥(List.length e.entries:Int))))) λf=>
 (bif f then some (0,false) else Option.bind (idx t0.text.tasks a) λg=>
 Option.bind (idx g.entries n2) λc=>
 some ((IntKind.i64.wrap ((IntKind.i64.wrap ((List.length c.ins:Int)+(List.length c.outs:Int)))+1)),true))
def f84(t0:bP)(p1:Int)(n2:Int):oB:=
 Option.bind (bif (((decide (p1≥0))&&(decide (p1<(List.length t0.text.prots:Int))))&&(decide (n2≥0))) then(Option.bind (idx t0.text.prots p1) λa=>some (decide (n2<(List.length a.barriers:Int)))) else some false) λc=>
 some c
def f54(t0:bP)(x1:ao):oB:=
 Option.bind (f81 x1) λk=>
 (bif (!k) then some false else letk (λ(p:Bool)=>
 (bif p then Option.bind (f68 t0 x1.n x1.m 1) λr=>
 some r else letk (λ(t:Bool)=>
 (bif t then Option.bind (f68 t0 x1.n x1.m x1.b) λw=>
 some w else letk (λ(x:Bool)=>
 (bif x then some (f69 t0 x1.to) else(bif (decide (x1.op=32)) then Option.bind (bif (decide ((IntKind.i64.wrap (x1.to+x1.m))≤(List.length t0.text.insns:Int))) then(aL (dD t0.text.insns x1.to (IntKind.i64.wrap (x1.to+x1.m)))<|Option.bind (f52 (bD t0.text.insns x1.to (IntKind.i64.wrap (x1.to+x1.m))) (λz0=>some (f82 z0))) λy=>some (!y)) else some false) λA=>
 some A else(bif (decide (x1.op=33)) then some (decide (x1.n≤t0.text.excs)) else letk (λ(B:Bool)=>
 (bif B then some (decide (x1.n<(List.length t0.text.lists:Int))) else(bif (decide (x1.op=50)) then some (decide (x1.n<(List.length t0.text.selects:Int))) else(bif (decide (x1.op=49)) then Option.bind (f83 t0 x1.a x1.b) λf=>
 Option.bind (bif f.2 then(Option.bind (f68 t0 x1.n 0 f.1) λC=>some C) else some false) λE=>
 some E else(bif (decide (x1.op=52)) then Option.bind (f83 t0 x1.a x1.b) λF=>
 some (F.2&&(decide (x1.to<(List.length t0.text.insns:Int)))) else letk (λ(G:Bool)=>
 (bif G then some (decide (x1.n<(List.length t0.text.prots:Int))) else(bif (decide (x1.op=54)) then Option.bind (f84 t0 x1.n x1.m) λH=>
 some H else(bif (decide (x1.op=43)) then Option.bind (bif (decide (x1.m<0)) then some true else(Option.bind (f84 t0 x1.m x1.n) λI=>some I)) λK=>
 some K else some true)))) λg=>
 (bif (decide (x1.op=53)) then(g (decide (x1.op=53))) else(g (decide (x1.op=55))))))))) λc=>
 (bif (decide (x1.op=44)) then(c (decide (x1.op=44))) else(bif (decide (x1.op=45)) then(c (decide (x1.op=45))) else(bif (decide (x1.op=46)) then(c (decide (x1.op=46))) else(c (decide (x1.op=56)))))))))) λe=>
 (bif (decide (x1.op=29)) then(e (decide (x1.op=29))) else(bif (decide (x1.op=30)) then(e (decide (x1.op=30))) else(e (decide (x1.op=31))))))) λh=>
 (bif (decide (x1.op=5)) then(h (decide (x1.op=5))) else(h (decide (x1.op=6)))))) λj=>
 (bif (decide (x1.op=3)) then(j (decide (x1.op=3))) else(j (decide (x1.op=4)))))
def f22_l1(t0:al)(c:Int→oB)(e:Unit→oB):Nat→Int→oB
 |0,_=>none
 |n+1,a=>
 (bif (decide (a<(List.length t0.insns:Int))) then Option.bind (idx t0.insns a) λf=>
 letk (λ(g:Bool)=>
 (bif g then(c a) else(f22_l1 t0 c e n (IntKind.i64.wrap (a+1))))) λh=>
 Option.bind (f54 (bP.mk t0) f) λj=>
 (h (!j)) else(e ()))
def f22(t0:al):oB:=
 (bif ((decide ((List.length t0.insns:Int)<1))||(decide ((List.length t0.insns:Int)>65536))) then some false else Option.bind (idx t0.insns (IntKind.i64.wrap ((List.length t0.insns:Int) - 1))) λa=>
 letk (λ(f:Bool)=>
 (bif f then letk (λ(_:Unit)=>
 letk (λ(g:Bool)=>
 some (!g)) λh=>
 letk (λ(j:Int)=>
 (h (decide (j≥0)))) λe=>
 letk (λ(_:Unit)=>
 (e (-1))) λk=>
 (f22_l1 t0 e k (Int.toNat ((List.length t0.insns:Int) - 0)+1) 0)) λm=>
 Option.bind (f44 (bP.mk t0)) λp=>
 (bif (!p) then some false else Option.bind (f45 (bP.mk t0)) λr=>
 (bif (!r) then some false else Option.bind (f46 (bP.mk t0)) λt=>
 (bif (!t) then some false else Option.bind (f47 (bP.mk t0)) λw=>
 (bif (!w) then some false else Option.bind (f48 (bP.mk t0)) λx=>
 (bif (!x) then some false else Option.bind (f49 (bP.mk t0)) λy=>
 (bif (!y) then some false else Option.bind (f50 (bP.mk t0)) λA=>
 (bif (!A) then some false else Option.bind (f51 (bP.mk t0)) λB=>
 (bif (!B) then some false else(m ()))))))))) else some false)) λc=>
 (bif (decide (a.op=29)) then(c (decide (a.op=29))) else(bif (decide (a.op=33)) then(c (decide (a.op=33))) else(bif (decide (a.op=34)) then(c (decide (a.op=34))) else(c (decide (a.op=57)))))))
def f23_l2(c:Int)(f:lL→Option lL)(g:Obj)(h:lI):Nat→Int→lL→Option lL
 |0,_,_=>none
 |na+1,a,e=>
 (bif (decide (a<(List.length h:Int))) then Option.bind (idx e c) λj=>
 Option.bind (idx j a) λk=>
 (f23_l2 c f g h na (IntKind.i64.wrap (a+1)) (List.set e (Int.toNat c) (List.set j (Int.toNat a) g.lo))) else(f e))
def f23_l1(t0:al)(f:lL→Option lL):Nat→Int→lL→Option lL
 |0,_,_=>none
 |n+1,a,e=>
 (bif (decide (a<(List.length t0.objs:Int))) then letk (λ(j:lL)=>
 (f23_l1 t0 f n (IntKind.i64.wrap (a+1)) j)) λg=>
 Option.bind (idx t0.objs a) λc=>
 aL (mc 8 c.size)<|
 Option.bind (idx e a) λm=>
 Option.bind (f55 c 0) λk=>
 (bif (!k) then Option.bind (idx (List.set e (Int.toNat a) (List.replicate (Int.toNat c.size) (0:Int))) a) λh=>
 (f23_l2 a g c h (Int.toNat ((List.length h:Int) - 0)+1) 0 (List.set e (Int.toNat a) (List.replicate (Int.toNat c.size) (0:Int)))) else(g (List.set e (Int.toNat a) (List.replicate (Int.toNat c.size) (0:Int))))) else(f e))
def f23_l3(t0:al)(f:lL→Option lL):Nat→Int→lL→Option lL
 |0,_,_=>none
 |n+1,c,e=>
 (bif (decide (c<(List.length t0.inits:Int))) then Option.bind (idx t0.inits c) λa=>
 Option.bind (idx e a.o) λg=>
 Option.bind (idx g a.slot) λh=>
 (f23_l3 t0 f n (IntKind.i64.wrap (c+1)) (List.set e (Int.toNat a.o) (List.set g (Int.toNat a.slot) a.v))) else(f e))
def f23(t0:al):Option lL:=
 Option.bind (f22 t0) λa=>
 (bif (!a) then some [] else aL (mc 24 (List.length t0.objs:Int))<|
 letk (λ(c:lL)=>
 letk (λ(e:lL)=>
 some e) λf=>
 (f23_l3 t0 f (Int.toNat ((List.length t0.inits:Int) - 0)+1) 0 c)) λg=>
 (f23_l1 t0 g (Int.toNat ((List.length t0.objs:Int) - 0)+1) 0 (List.replicate (Int.toNat (List.length t0.objs:Int)) ([]:lI))))
def f7_l2(a:lI)(f:(List aa)→Option ((List aj)×(List (List aa))×Int)):Nat→Int→(List aa)→Option ((List aj)×(List (List aa))×Int)
 |0,_,_=>none
 |na+1,c,e=>
 (bif (decide (c<(List.length a:Int))) then Option.bind (idx a c) λg=>
 aL (ed 16 e [(f24 g)])<|
 (f7_l2 a f na (IntKind.i64.wrap (c+1)) (e++ [(f24 g)])) else(f e))
def f7_l1(t0:al)(g:(List aa)→(List (List aa))→Option ((List aj)×(List (List aa))×Int))(c:lL):Nat→Int→(List aa)→(List (List aa))→Option ((List aj)×(List (List aa))×Int)
 |0,_,_,_=>none
 |n+1,a,e,f=>
 (bif (decide (a<(List.length c:Int))) then letk (λ(m:List aa)(p:List (List aa))=>
 (f7_l1 t0 g c n (IntKind.i64.wrap (a+1)) m p)) λr=>
 Option.bind (idx c a) λh=>
 letk (λ(j:List aa)=>
 aL (ed 24 f [j])<|
 Option.bind (idx t0.objs a) λt=>
 Option.bind (f25 t) λk=>
 aL (ed 16 e [k])<|
 (r (e++ [k]) (f++ [j]))) λw=>
 (f7_l2 h w (Int.toNat ((List.length h:Int) - 0)+1) 0 []) else(g e f))
def f7_l5(g:List aa)(h:(List (List aa))→lI→lI→Option ((List aj)×(List (List aa))×Int))(a:bO):Nat→Int→(List (List aa))→Option ((List aj)×(List (List aa))×Int)
 |0,_,_=>none
 |nb+1,c,e=>
 (bif (decide (c<(List.length a.ins:Int))) then Option.bind (idx a.ins c) λf=>
 Option.bind (idx e f) λj=>
 Option.bind (idx g f) λk=>
 Option.bind (idx j 0) λm=>
 (f7_l5 g h a nb (IntKind.i64.wrap (c+1)) (List.set e (Int.toNat f) (List.set j (Int.toNat 0) k))) else(h e a.ins a.outs))
def f7_l4(e:List aa)(f:List aj)(g:(List aj)→(List (List aa))→Int→Int→(List bO)→Int→Option ((List aj)×(List (List aa))×Int))(a:bJ)(h:aj):Nat→Int→(List (List aa))→Option ((List aj)×(List (List aa))×Int)
 |0,_,_=>none
 |na+1,c,j=>
 (bif (decide (c<(List.length a.entries:Int))) then letk (λ(m:List (List aa))(c60v214:lI)(c61v215:lI)=>
 (f7_l4 e f g a h na (IntKind.i64.wrap (c+1)) m)) λp=>
 Option.bind (idx a.entries c) λk=>
 (f7_l5 e p k (Int.toNat ((List.length k.ins:Int) - 0)+1) 0 j) else(g (List.set f (Int.toNat a.at_) (aj.mk true h.r)) j a.prio a.at_ a.entries a.deadline))
def f7_l3(t0:al)(c:List aa)(e:(List aj)→(List (List aa))→Option ((List aj)×(List (List aa))×Int)):Nat→Int→(List aj)→(List (List aa))→Option ((List aj)×(List (List aa))×Int)
 |0,_,_,_=>none
 |n+1,g,h,k=>
 (bif (decide (g<(List.length t0.tasks:Int))) then letk (λ(r:List aj)(t:List (List aa))(c50v200:Int)(c51v201:Int)(c52v202:List bO)(c53v203:Int)=>
 (f7_l3 t0 c e n (IntKind.i64.wrap (g+1)) r t)) λw=>
 Option.bind (idx t0.tasks g) λj=>
 Option.bind (idx h j.at_) λx=>
 (f7_l4 c h w j x (Int.toNat ((List.length j.entries:Int) - 0)+1) 0 k) else(e h k))
noncomputable def f7_l6(t0:al)(c:List aa)(f:(List aj)→(List (List aa))→Int→(Nat→aa)→Option ((List aj)×(List (List aa))×Int)):Nat→Int→(List aj)→(List (List aa))→Int→(Nat→aa)→Option ((List aj)×(List (List aa))×Int)
 |0,_,_,_,_,_=>none
 |n+1,m,y,A,c114v241,c115v242=>
 Option.bind (f26 t0 c c114v241 c115v242 y A (decide (m>4))) λa=>
 (bif a.1 then(f7_l6 t0 c f n (IntKind.i64.wrap (m+1)) a.2.2.2.1 a.2.2.2.2 a.2.1 a.2.2.1) else(f a.2.2.2.1 a.2.2.2.2 a.2.1 a.2.2.1))
noncomputable def f7(t0:al):Option ((List aj)×(List (List aa))×Int):=
 Option.bind (f22 t0) λB=>
 (bif (!B) then some ([],[],2) else aL (mc 264 (List.length t0.insns:Int))<|
 letk (λ(c:List aa)(C:List (List aa))=>
 letk (λ(E:List aj)(F:List (List aa))=>
 letk (λ(G:List aj)(H:List (List aa))(c114v230:Int)(c115v231:Nat→aa)=>
 some (G,H,0)) λf=>
 (f7_l6 t0 c f 9223372036854775808 1 E F 0 (λ_=>((aa.mk 0 0):aa)))) λe=>
 (f7_l3 t0 c e (Int.toNat ((List.length t0.tasks:Int) - 0)+1) 0 (List.replicate (Int.toNat (List.length t0.insns:Int)) ((aj.mk false (λ_=>(aa.mk 0 0))):aj)) C)) λI=>
 Option.bind (f23 t0) λp=>
 (f7_l1 t0 I p (Int.toNat ((List.length p:Int) - 0)+1) 0 ([]:List aa) ([]:List (List aa))))
def f43_l1(t0:al)(e:(List aj)×(List (List aa))×Int)(h:lI→Option lI):Nat→Int→lI→Option lI
 |0,_,_=>none
 |n+1,f,g=>
 (bif (decide (f<(List.length e.1:Int))) then letk (λ(x:lI)=>
 (f43_l1 t0 e h n (IntKind.i64.wrap (f+1)) x)) λk=>
 Option.bind (idx e.1 f) λj=>
 Option.bind (idx t0.insns f) λc=>
 (bif ((!decide (c.op=27))&&(!decide (c.op=28))) then(k g) else letk (λ(y:Bool)=>
 (bif y then aL (ed 8 g [f])<|
 (k (g++ [f])) else(k g))) λp=>
 (bif (!j.reached) then(p (!j.reached)) else letk (λ(t:Bool)=>
 (bif t then(p t) else Option.bind (bif (decide (c.op=28)) then(aL (bE 16 c.a)<|some (!(f66 (j.r (Int.toNat c.a)) 0))) else some false) λA=>
 (p A))) λw=>
 (bif (decide (c.op=27)) then aL (bE 16 c.a)<|
 (w (f65 (j.r (Int.toNat c.a)) (f56 c.n c.m))) else(w false)))) else(h g))
noncomputable def f43(t0:al):Option lI:=
 Option.bind (f7 t0) λe=>
 letk (λ(B:lI)=>
 some B) λh=>
 (f43_l1 t0 e h (Int.toNat ((List.length e.1:Int) - 0)+1) 0 [])
def f42_l1(a0:lI)(b1:lI)(c:Unit→oB):Nat→Int→oB
 |0,_=>none
 |n+1,a=>
 (bif (decide (a<(List.length a0:Int))) then Option.bind (idx a0 a) λe=>
 Option.bind (idx b1 a) λf=>
 (bif (!decide (e=f)) then some false else(f42_l1 a0 b1 c n (IntKind.i64.wrap (a+1)))) else(c ()))
def f42(a0:lI)(b1:lI):oB:=
 (bif (!decide ((List.length a0:Int)=(List.length b1:Int))) then some false else letk (λ(_:Unit)=>
 some true) λa=>
 (f42_l1 a0 b1 a 9223372036854775808 0))
def f20:aa:=
 (aa.mk (-9223372036854775808) 9223372036854775807)
def f18(h:Int)(j:Int):ao:=
 (ao.mk 27 0 1 0 h j 0)
noncomputable def f21(t0:al)(k:lI):oB:=
 Option.bind (f43 t0) λm=>
 Option.bind (f42 m k) λp=>
 some p
noncomputable def f6:oB:=
 letk (λ(_:Unit)=>
 Option.bind (f7 (al.mk ([(ao.mk 1 1 0 0 0 0 0),(ao.mk 1 2 0 0 1 0 0),(ao.mk 9 1 1 2 0 0 0),(ao.mk 29 0 0 0 0 0 2)]++ [(ao.mk 57 0 0 0 0 0 0)]) [] [] [] [] [(Obj.mk 1 0 9 false []),(Obj.mk 2 (-9223372036854775808) 9223372036854775807 false [])] [(bZ.mk 0 0 3)] 4 [(bJ.mk 0 0 [] 0)] [] [])) λa=>
 letk (λ(t:Bool)=>
 (bif t then some false else Option.bind (f7 (al.mk [] [] [] [] [] [] [] 0 [] [] [])) λw=>
 letk (λ(_:Unit)=>
 Option.bind (f21 (al.mk ([(ao.mk 1 1 0 0 5 0 0),(f18 0 9)]++ [(ao.mk 57 0 0 0 0 0 0)]) [] [] [] [] [(Obj.mk 1 0 9 false []),(Obj.mk 2 (-9223372036854775808) 9223372036854775807 false [])] [(bZ.mk 0 0 3)] 4 [(bJ.mk 0 0 [] 0)] [] []) [1]) λx=>
 (bif x then letk (λ(_:Unit)=>
 Option.bind (f21 (al.mk ([(ao.mk 38 1 0 0 0 0 0),(f18 0 9),(f18 0 9)]++ [(ao.mk 57 0 0 0 0 0 0)]) [] [] [] [] [(Obj.mk 1 0 9 false []),(Obj.mk 2 (-9223372036854775808) 9223372036854775807 false [])] [(bZ.mk 0 0 3)] 4 [(bJ.mk 0 0 [] 0)] [] []) [2]) λy=>
 (bif y then letk (λ(_:Unit)=>
 Option.bind (f21 (al.mk ([(ao.mk 3 1 0 0 0 0 0),(f18 3 3)]++ [(ao.mk 57 0 0 0 0 0 0)]) [] [] [] [] [(Obj.mk 1 0 9 false []),(Obj.mk 2 (-9223372036854775808) 9223372036854775807 false [])] [(bZ.mk 0 0 3)] 4 [(bJ.mk 0 0 [] 0)] [] []) [1]) λA=>
 (bif A then letk (λ(_:Unit)=>
 Option.bind (f21 (al.mk ([(ao.mk 38 1 0 0 0 0 0),(ao.mk 4 0 1 0 0 0 0),(ao.mk 3 1 0 0 0 0 0),(f18 0 9),(f18 1 9)]++ [(ao.mk 57 0 0 0 0 0 0)]) [] [] [] [] [(Obj.mk 1 0 9 false []),(Obj.mk 2 (-9223372036854775808) 9223372036854775807 false [])] [(bZ.mk 0 0 3)] 4 [(bJ.mk 0 0 [] 0)] [] []) [3]) λB=>
 some (B&&(decide (w.2.2=2)))) λC=>
 aL (ed 56 [(ao.mk 38 1 0 0 0 0 0),(ao.mk 4 0 1 0 0 0 0),(ao.mk 3 1 0 0 0 0 0),(f18 0 9),(f18 1 9)] [(ao.mk 57 0 0 0 0 0 0)])<|
 (C ()) else some false)) λE=>
 aL (ed 56 [(ao.mk 3 1 0 0 0 0 0),(f18 3 3)] [(ao.mk 57 0 0 0 0 0 0)])<|
 (E ()) else some false)) λF=>
 aL (ed 56 [(ao.mk 38 1 0 0 0 0 0),(f18 0 9),(f18 0 9)] [(ao.mk 57 0 0 0 0 0 0)])<|
 (F ()) else some false)) λG=>
 aL (ed 56 [(ao.mk 1 1 0 0 5 0 0),(f18 0 9)] [(ao.mk 57 0 0 0 0 0 0)])<|
 (G ()))) λc=>
 (bif (!decide (a.2.2=0)) then(c true) else(bif (!decide ((List.length a.1:Int)=5)) then(c true) else(bif (!decide ((List.length a.2.1:Int)=2)) then(c true) else Option.bind (idx a.2.1 0) λH=>
 (bif (!decide ((List.length H:Int)=1)) then(c true) else Option.bind (idx a.1 4) λI=>
 (bif I.reached then(c true) else Option.bind (idx a.1 3) λe=>
 (bif (!((decide (((e.r (Int.toNat 1)).lo)=f20.lo))&&((decide (((e.r (Int.toNat 1)).hi)=f20.hi))&&true))) then(c true) else Option.bind (idx a.1 3) λf=>
 (bif (!((decide (((f.r (Int.toNat 2)).lo)=1))&&((decide (((f.r (Int.toNat 2)).hi)=1))&&true))) then(c true) else Option.bind (idx a.2.1 0) λK=>
 Option.bind (idx K 0) λg=>
 (c (!((decide (g.lo=3))&&((decide (g.hi=3))&&true)))))))))))) λL=>
 aL (ed 56 [(ao.mk 1 1 0 0 0 0 0),(ao.mk 1 2 0 0 1 0 0),(ao.mk 9 1 1 2 0 0 0),(ao.mk 29 0 0 0 0 0 2)] [(ao.mk 57 0 0 0 0 0 0)])<|
 (L ())
def f4_l1(t0:al)(e:Int→oB):Nat→Int→Int→oB
 |0,_,_=>none
 |n+1,f,a=>
 (bif ((decide (a<(List.length t0.objs:Int)))&&(decide (a<100))) then Option.bind (idx t0.objs a) λc=>
 (f4_l1 t0 e n (IntKind.i64.wrap (f+(if(if 20000<c.size then 20000 else c.size)>0 then(if 20000<c.size then 20000 else c.size) else 0))) (IntKind.i64.wrap (a+1))) else(e f))
def f4(t0:al):oB:=
 letk (λ(a:Int)=>
 some (((((((((((decide (a>200))||(decide ((List.length t0.insns:Int)>60)))||(decide ((List.length t0.handlers:Int)>20)))||(decide ((List.length t0.loops:Int)>60)))||(decide ((List.length t0.selects:Int)>20)))||(decide ((List.length t0.lists:Int)>40)))||(decide ((List.length t0.objs:Int)>30)))||(decide ((List.length t0.inits:Int)>60)))||(decide ((List.length t0.tasks:Int)>20)))||(decide ((List.length t0.prots:Int)>10)))||(decide ((List.length t0.checks:Int)>60)))) λc=>
 (f4_l1 t0 c 9223372036854775808 0 0)
def f30_l1(t0:al)(o1:Obj)(e:Unit→oB):Nat→Int→oB
 |0,_=>none
 |n+1,a=>
 (bif (decide (a<(List.length o1.set_:Int))) then Option.bind (idx o1.set_ a) λc=>
 Option.bind (bif ((decide (c<0))||(decide (c≥(List.length t0.objs:Int)))) then some true else(Option.bind (idx t0.objs c) λf=>some (!decide (f.size=1)))) λg=>
 Option.bind (bif g then some true else(Option.bind (idx t0.objs c) λh=>some h.ptr)) λj=>
 Option.bind (bif j then some true else(Option.bind (bif (decide (a>0)) then(Option.bind (idx o1.set_ (IntKind.i64.wrap (a - 1))) λk=>some (decide (k≥c))) else some false) λm=>some m)) λp=>
 (bif p then some false else(f30_l1 t0 o1 e n (IntKind.i64.wrap (a+1)))) else(e ()))
def f30(t0:al)(o1:Obj):oB:=
 (bif (((((decide (o1.size<1))||(decide (o1.size>16384)))||(decide (o1.lo>o1.hi)))||((!o1.ptr)&&(decide ((List.length o1.set_:Int)>0))))||(o1.ptr&&((!decide (o1.lo=0))||(!decide (o1.hi=0))))) then some false else letk (λ(_:Unit)=>
 some true) λa=>
 (f30_l1 t0 o1 a 9223372036854775808 0))
def f31(t0:al)(o1:Int)(a:Int)(c:Int):oB:=
 Option.bind (bif ((((decide (o1≥0))&&(decide (o1<(List.length t0.objs:Int))))&&(decide (a≥0)))&&(decide (c≥0))) then(Option.bind (idx t0.objs o1) λe=>some (decide (a≤(IntKind.i64.wrap (e.size - c))))) else some false) λf=>
 some f
def f32_l1(o0:Obj)(v1:Int)(c:Unit→oB):Nat→Int→oB
 |0,_=>none
 |n+1,a=>
 (bif (decide (a<(List.length o0.set_:Int))) then Option.bind (idx o0.set_ a) λe=>
 (bif (decide (v1=(IntKind.i64.wrap (e+1)))) then some true else(f32_l1 o0 v1 c n (IntKind.i64.wrap (a+1)))) else(c ()))
def f32(o0:Obj)(v1:Int):oB:=
 (bif (!o0.ptr) then some ((decide (v1≥o0.lo))&&(decide (v1≤o0.hi))) else letk (λ(_:Unit)=>
 some (decide (v1=0))) λa=>
 (f32_l1 o0 v1 a 9223372036854775808 0))
def f11_l1(t0:al)(c:Int→oB):Nat→Int→Int→oB
 |0,_,_=>none
 |n+1,e,a=>
 (bif (decide (a<(List.length t0.objs:Int))) then Option.bind (idx t0.objs a) λf=>
 Option.bind (f30 t0 f) λg=>
 (bif (!g) then some false else Option.bind (idx t0.objs a) λh=>
 (f11_l1 t0 c n (IntKind.i64.wrap (e+h.size)) (IntKind.i64.wrap (a+1)))) else(c e))
def f11_l3(t0:al)(e:Int)(f:Int→Int→Int→oB)(a:bZ):Nat→Int→oB
 |0,_=>none
 |na+1,c=>
 (bif (decide (c<e)) then Option.bind (idx t0.inits c) λg=>
 Option.bind (bif (decide (g.o=a.o)) then(Option.bind (idx t0.inits c) λh=>some (decide (h.slot=a.slot))) else some false) λj=>
 (bif j then some false else(f11_l3 t0 e f a na (IntKind.i64.wrap (c+1)))) else(f a.o a.slot a.v))
def f11_l2(t0:al)(e:Unit→oB):Nat→Int→oB
 |0,_=>none
 |n+1,c=>
 (bif (decide (c<(List.length t0.inits:Int))) then letk (λ(c00v126:Int)(c01v127:Int)(c02v128:Int)=>
 (f11_l2 t0 e n (IntKind.i64.wrap (c+1)))) λf=>
 Option.bind (idx t0.inits c) λa=>
 Option.bind (f31 t0 a.o a.slot 1) λg=>
 Option.bind (bif (!g) then some true else(Option.bind (idx t0.objs a.o) λh=>Option.bind (f32 h a.v) λj=>some (!j))) λk=>
 (bif k then some false else(f11_l3 t0 c f a 9223372036854775808 0)) else(e ()))
def f11(t0:al):oB:=
 (bif ((((decide ((List.length t0.objs:Int)>4096))||(decide (t0.excs<4)))||(decide (t0.excs>64)))||(decide ((List.length t0.inits:Int)>65536))) then some false else letk (λ(a:Int)=>
 letk (λ(_:Unit)=>
 some (decide (a≤65536))) λc=>
 (f11_l2 t0 c 9223372036854775808 0)) λe=>
 (f11_l1 t0 e 9223372036854775808 0 0))
def f33(t0:al)(a1:Int):Bool:=
 ((decide (a1≥0))&&(decide (a1<(List.length t0.insns:Int))))
def f34_l1(t0:al)(l1:lI)(c:Unit→oB):Nat→Int→oB
 |0,_=>none
 |n+1,a=>
 (bif (decide (a<(List.length l1:Int))) then Option.bind (idx l1 a) λe=>
 Option.bind (bif (decide (e<0)) then some true else(Option.bind (idx l1 a) λf=>some (decide (f≥(List.length t0.objs:Int))))) λg=>
 Option.bind (bif g then some true else(Option.bind (idx l1 a) λh=>Option.bind (idx t0.objs h) λj=>some (!decide (j.size=1)))) λk=>
 (bif k then some false else(f34_l1 t0 l1 c n (IntKind.i64.wrap (a+1)))) else(c ()))
def f34(t0:al)(l1:lI):oB:=
 (bif (decide ((List.length l1:Int)>8)) then some false else letk (λ(_:Unit)=>
 some true) λa=>
 (f34_l1 t0 l1 a 9223372036854775808 0))
def f12_l2(t0:al)(e:Int→Int→(List bO)→Int→oB)(a:bJ):Nat→Int→oB
 |0,_=>none
 |na+1,c=>
 (bif (decide (c<(List.length a.entries:Int))) then Option.bind (idx a.entries c) λf=>
 Option.bind (f34 t0 f.ins) λg=>
 Option.bind (bif (!g) then some true else(Option.bind (idx a.entries c) λh=>Option.bind (f34 t0 h.outs) λj=>some (!j))) λk=>
 (bif k then some false else(f12_l2 t0 e a na (IntKind.i64.wrap (c+1)))) else(e a.prio a.at_ a.entries a.deadline))
def f12_l1(t0:al)(e:Unit→oB):Nat→Int→oB
 |0,_=>none
 |n+1,c=>
 (bif (decide (c<(List.length t0.tasks:Int))) then letk (λ(c00v92:Int)(c01v93:Int)(c02v94:List bO)(c03v95:Int)=>
 (f12_l1 t0 e n (IntKind.i64.wrap (c+1)))) λf=>
 Option.bind (idx t0.tasks c) λa=>
 (bif ((((((decide (a.prio<0))||(decide (a.prio>31)))||(!(f33 t0 a.at_)))||(decide (a.deadline<0)))||(decide (a.deadline>2147483647)))||(decide ((List.length a.entries:Int)>8))) then some false else(f12_l2 t0 f a 9223372036854775808 0)) else(e ()))
def f12(t0:al):oB:=
 (bif ((decide ((List.length t0.tasks:Int)<1))||(decide ((List.length t0.tasks:Int)>32))) then some false else letk (λ(_:Unit)=>
 some true) λa=>
 (f12_l1 t0 a 9223372036854775808 0))
def f35s_l1(e:al→Int→bc→Int→Int→Option (Int))(t0:al)(f:Int)(e2:bc)(g:Int)(h:Int→Option (Int)):Nat→Int→Int→Option (Int)
 |0,_,_=>none
 |n+1,a,c=>
 (bif ((decide (c<(List.length e2.l:Int)))&&(decide (a≥0))) then Option.bind (idx e2.l c) λj=>
 Option.bind (e t0 f j (IntKind.i64.wrap (g+1)) a) λk=>
 (f35s_l1 e t0 f e2 g h n k (IntKind.i64.wrap (c+1))) else(h a))
def f35s(g:al→Int→bc→Int→Int→Option (Int))(t0:al)(c:Int)(e2:bc)(e:Int)(n4:Int):Option Int:=
 (bif ((decide (n4=0))||(decide (e>64))) then some (-1) else letk (λ(h:Int)(j:Bool)(c01v176:Int)(c02v177:Int)(c03v178:Int)(c04v179:Int)=>
 (bif (((!j)||(!(((((((decide (e2.op=c01v176))&&(decide (e2.n=c02v177)))&&(decide (e2.o=c03v178)))&&(decide (e2.off=c04v179)))&&(decide (e2.len=0)))&&(decide (e2.lo=0)))&&(decide (e2.hi=0)))))||(!decide ((List.length e2.l:Int)=h))) then some (-1) else letk (λ(k:Int)=>
 some k) λm=>
 (f35s_l1 g t0 c e2 e m 9223372036854775808 (IntKind.i64.wrap (n4 - 1)) 0))) λa=>
 (bif (decide (e2.kind=1)) then(a 0 true 0 e2.n 0 0) else(bif (decide (e2.kind=2)) then Option.bind (f31 t0 e2.o e2.off 1) λp=>
 Option.bind (bif p then(Option.bind (idx t0.objs e2.o) λr=>some (!r.ptr)) else some false) λt=>
 (a 0 t 0 0 e2.o e2.off) else(bif (decide (e2.kind=14)) then(a 0 ((decide (e2.n≥0))&&(decide (e2.n<c))) 0 e2.n 0 0) else(bif (decide (e2.kind=4)) then(a 1 true 18 0 0 0) else(bif (decide (e2.kind=5)) then(a 2 ((decide (e2.op≥7))&&(decide (e2.op≤15))) e2.op 0 0 0) else letk (λ(w:Bool)=>
 (bif w then(a 2 true 0 0 0 0) else some (-1))) λf=>
 (bif (decide (e2.kind=6)) then(f (decide (e2.kind=6))) else(f (decide (e2.kind=7))))))))))
def f35:Nat→al→Int→bc→Int→Int→Option (Int)
 |0=>λ_ _ _ _ _=>none
 |n+1=>f35s (f35 n)
def f36(t0:al)(a1:Int):oB:=
 Option.bind (bif (f33 t0 a1) then(Option.bind (idx t0.insns a1) λa=>Option.bind (bif (decide (a.op=27)) then some true else(Option.bind (idx t0.insns a1) λc=>some (decide (c.op=28)))) λe=>some e) else some false) λf=>
 some f
def f13_l2(t0:al)(e:Int→(List bc)→oB)(a:eH):Nat→Int→oB
 |0,_=>none
 |na+1,c=>
 (bif (decide (c<(List.length a.barriers:Int))) then Option.bind (idx a.barriers c) λf=>
 Option.bind (f35 67 t0 (List.length a.barriers:Int) f 1 256) λg=>
 (bif (decide (g<0)) then some false else(f13_l2 t0 e a na (IntKind.i64.wrap (c+1)))) else(e a.ceiling a.barriers))
def f13_l1(t0:al)(e:Unit→oB):Nat→Int→oB
 |0,_=>none
 |n+1,c=>
 (bif (decide (c<(List.length t0.prots:Int))) then letk (λ(c00v105:Int)(c01v106:List bc)=>
 (f13_l1 t0 e n (IntKind.i64.wrap (c+1)))) λf=>
 Option.bind (idx t0.prots c) λa=>
 (bif (((decide (a.ceiling<0))||(decide (a.ceiling>31)))||(decide ((List.length a.barriers:Int)>8))) then some false else(f13_l2 t0 f a 9223372036854775808 0)) else(e ()))
def f13_l3(t0:al)(e:Unit→oB):Nat→Int→oB
 |0,_=>none
 |n+1,a=>
 (bif (decide (a<(List.length t0.checks:Int))) then Option.bind (idx t0.checks a) λc=>
 Option.bind (f36 t0 c.at_) λf=>
 Option.bind (bif (!f) then some true else(Option.bind (bif (decide (a>0)) then(Option.bind (idx t0.checks (IntKind.i64.wrap (a - 1))) λg=>some (decide (g.at_≥c.at_))) else some false) λh=>some h)) λj=>
 (bif ((j||(decide (c.kind<1)))||(decide (c.kind>5))) then some false else(f13_l3 t0 e n (IntKind.i64.wrap (a+1)))) else(e ()))
def f13(t0:al):oB:=
 (bif (decide ((List.length t0.prots:Int)>32)) then some false else letk (λ(_:Unit)=>
 letk (λ(_:Unit)=>
 some true) λa=>
 (f13_l3 t0 a 9223372036854775808 0)) λc=>
 (f13_l1 t0 c 9223372036854775808 0))
def f37(t0:al)(a:Int)(a2:jb):oB:=
 Option.bind (bif (!(f33 t0 a2.at_)) then some true else(Option.bind (bif (!decide (a2.guard=(-1))) then(Option.bind (f31 t0 a a2.guard 1) λe=>some (!e)) else some false) λf=>some f)) λg=>
 (bif g then some false else(bif (decide (a2.kind=1)) then some (((decide (a2.entry≥0))&&(decide (a2.entry≤7)))&&(decide (a2.time=0))) else letk (λ(h:Bool)=>
 (bif h then Option.bind (bif (decide (a2.entry=0)) then(Option.bind (f31 t0 a a2.time 1) λj=>some j) else some false) λk=>
 some k else some (((decide (a2.kind=4))&&(decide (a2.entry=0)))&&(decide (a2.time=0))))) λc=>
 (bif (decide (a2.kind=2)) then(c (decide (a2.kind=2))) else(c (decide (a2.kind=3))))))
def f14_l2(t0:al)(e:(List jb)→Int→Int→oB)(a:c4):Nat→Int→oB
 |0,_=>none
 |na+1,c=>
 (bif (decide (c<(List.length a.alts:Int))) then Option.bind (idx a.alts c) λf=>
 Option.bind (f37 t0 a.obj f) λg=>
 (bif (!g) then some false else(f14_l2 t0 e a na (IntKind.i64.wrap (c+1)))) else(e a.alts a.obj a.else_))
def f14_l1(t0:al)(e:Unit→oB):Nat→Int→oB
 |0,_=>none
 |n+1,c=>
 (bif (decide (c<(List.length t0.selects:Int))) then letk (λ(c00v134:List jb)(c01v135:Int)(c02v136:Int)=>
 (f14_l1 t0 e n (IntKind.i64.wrap (c+1)))) λf=>
 Option.bind (idx t0.selects c) λa=>
 Option.bind (bif ((decide ((List.length a.alts:Int)<1))||(decide ((List.length a.alts:Int)>16))) then some true else(Option.bind (f31 t0 a.obj 0 1) λg=>some (!g))) λh=>
 (bif (h||((!decide (a.else_=(-1)))&&(!(f33 t0 a.else_)))) then some false else(f14_l2 t0 f a 9223372036854775808 0)) else(e ()))
def f14_l5(a:lI)(c:Int)(f:Unit→oB):Nat→Int→oB
 |0,_=>none
 |nb+1,e=>
 (bif (decide (e<c)) then Option.bind (idx a e) λg=>
 Option.bind (idx a c) λh=>
 (bif (decide (g=h)) then some false else(f14_l5 a c f nb (IntKind.i64.wrap (e+1)))) else(f ()))
def f14_l4(t0:al)(e:Unit→oB)(a:lI):Nat→Int→oB
 |0,_=>none
 |na+1,c=>
 (bif (decide (c<(List.length a:Int))) then letk (λ(_:Unit)=>
 (f14_l4 t0 e a na (IntKind.i64.wrap (c+1)))) λf=>
 Option.bind (idx a c) λg=>
 Option.bind (bif (decide (g<1)) then some true else(Option.bind (idx a c) λh=>some (decide (h≥(List.length t0.tasks:Int))))) λj=>
 (bif j then some false else(f14_l5 a c f 9223372036854775808 0)) else(e ()))
def f14_l3(t0:al)(c:Unit→oB):Nat→Int→oB
 |0,_=>none
 |n+1,a=>
 (bif (decide (a<(List.length t0.lists:Int))) then letk (λ(_:Unit)=>
 (f14_l3 t0 c n (IntKind.i64.wrap (a+1)))) λf=>
 Option.bind (idx t0.lists a) λe=>
 (bif (decide ((List.length e:Int)>32)) then some false else(f14_l4 t0 f e 9223372036854775808 0)) else(c ()))
def f14(t0:al):oB:=
 (bif ((decide ((List.length t0.selects:Int)>1024))||(decide ((List.length t0.lists:Int)>4096))) then some false else letk (λ(_:Unit)=>
 letk (λ(_:Unit)=>
 some true) λa=>
 (f14_l3 t0 a 9223372036854775808 0)) λc=>
 (f14_l1 t0 c 9223372036854775808 0))
def f15_l2(t0:al)(f:Int)(g:Int→Int→Int→Bool→oB)(a:bB):Nat→Int→oB
 |0,_=>none
 |na+1,e=>
 (bif (decide (e<f)) then Option.bind (idx t0.handlers e) λc=>
 (bif ((!((decide (c.from_≥a.from_))&&(decide (c.to≤a.to))))&&(!((decide (c.to≤a.from_))||(decide (a.to≤c.from_))))) then some false else(f15_l2 t0 f g a na (IntKind.i64.wrap (e+1)))) else(g a.from_ a.to a.at_ a.clean))
def f15_l1(t0:al)(e:Unit→oB):Nat→Int→oB
 |0,_=>none
 |n+1,c=>
 (bif (decide (c<(List.length t0.handlers:Int))) then letk (λ(c00v110:Int)(c01v111:Int)(c02v112:Int)(c03v113:Bool)=>
 (f15_l1 t0 e n (IntKind.i64.wrap (c+1)))) λf=>
 Option.bind (idx t0.handlers c) λa=>
 (bif (((((decide (a.from_<0))||(decide (a.from_≥a.to)))||(decide (a.to>(List.length t0.insns:Int))))||(!(f33 t0 a.at_)))||((decide (a.at_≥a.from_))&&(decide (a.at_<a.to)))) then some false else(f15_l2 t0 c f a 9223372036854775808 0)) else(e ()))
def f15(t0:al):oB:=
 (bif (decide ((List.length t0.handlers:Int)>4096)) then some false else letk (λ(_:Unit)=>
 some true) λa=>
 (f15_l1 t0 a 9223372036854775808 0))
def f16_l2(t0:al)(g:Int)(n:Nat)(h:Int→Int→Int→Int→Int→Int→Int→Int→Int→Int→oB)(e:Loop)(c:ao):Nat→Int→oB
 |0,_=>none
 |na+1,f=>
 (bif (decide (f<g)) then Option.bind (idx t0.loops f) λj=>
 (bif (decide (j.back=e.back)) then some false else(f16_l2 t0 g n h e c na (IntKind.i64.wrap (f+1)))) else(h e.head e.back e.bound c.op c.d c.a c.b c.n c.m c.to))
def f16_l1(t0:al)(f:Unit→oB):Nat→Int→oB
 |0,_=>none
 |n+1,e=>
 (bif (decide (e<(List.length t0.loops:Int))) then letk (λ(c00v98:Int)(c01v99:Int)(c02v100:Int)(c10v101:Int)(c11v102:Int)(c12v103:Int)(c13v104:Int)(c14v105:Int)(c15v106:Int)(c16v107:Int)=>
 (f16_l1 t0 f n (IntKind.i64.wrap (e+1)))) λg=>
 Option.bind (idx t0.loops e) λa=>
 (bif (((((!(f33 t0 a.head))||(!(f33 t0 a.back)))||(decide (a.head>a.back)))||(decide (a.bound<0)))||(decide (a.bound>2147483647))) then some false else Option.bind (idx t0.insns a.back) λc=>
 (bif ((((!decide (c.op=29))&&(!decide (c.op=30)))&&(!decide (c.op=31)))||(!decide (c.to=a.head))) then some false else(f16_l2 t0 e n g a c 9223372036854775808 0))) else(f ()))
def f16(t0:al):oB:=
 (bif (decide ((List.length t0.loops:Int)>4096)) then some false else letk (λ(_:Unit)=>
 some true) λa=>
 (f16_l1 t0 a 9223372036854775808 0))
def f102:List Row:=
 [(Row.mk 1 (bA #[108,105]) [fD 68 0 15,fD 78 (-9223372036854775808) 9223372036854775807]),(Row.mk 2 (bA #[109,118]) [fD 68 0 15,fD 65 0 15]),(Row.mk 3 (bA #[108,100]) [fD 68 0 15,fD 78 0 4095,fD 77 0 65535]),(Row.mk 4 (bA #[115,116]) [fD 65 0 15,fD 78 0 4095,fD 77 0 65535]),(Row.mk 5 (bA #[108,100,120]) [fD 68 0 15,fD 65 0 15,fD 66 1 65536,fD 78 0 4095,fD 77 0 65535]),(Row.mk 6 (bA #[115,116,120]) [fD 68 0 15,fD 65 0 15,fD 66 1 65536,fD 78 0 4095,fD 77 0 65535]),(Row.mk 7 (bA #[108,100,97]) [fD 68 0 15,fD 65 0 15]),(Row.mk 8 (bA #[115,116,97]) [fD 68 0 15,fD 65 0 15]),(Row.mk 9 (bA #[97,100,100]) [fD 68 0 15,fD 65 0 15,fD 66 0 15]),(Row.mk 10 (bA #[115,117,98]) [fD 68 0 15,fD 65 0 15,fD 66 0 15]),(Row.mk 11 (bA #[109,117,108]) [fD 68 0 15,fD 65 0 15,fD 66 0 15]),(Row.mk 12 (bA #[100,105,118]) [fD 68 0 15,fD 65 0 15,fD 66 0 15]),(Row.mk 13 (bA #[114,101,109]) [fD 68 0 15,fD 65 0 15,fD 66 0 15]),(Row.mk 14 (bA #[109,111,100]) [fD 68 0 15,fD 65 0 15,fD 66 0 15]),(Row.mk 15 (bA #[101,113]) [fD 68 0 15,fD 65 0 15,fD 66 0 15]),(Row.mk 16 (bA #[110,101]) [fD 68 0 15,fD 65 0 15,fD 66 0 15]),(Row.mk 17 (bA #[108,116]) [fD 68 0 15,fD 65 0 15,fD 66 0 15]),(Row.mk 18 (bA #[108,101]) [fD 68 0 15,fD 65 0 15,fD 66 0 15]),(Row.mk 19 (bA #[103,116]) [fD 68 0 15,fD 65 0 15,fD 66 0 15]),(Row.mk 20 (bA #[103,101]) [fD 68 0 15,fD 65 0 15,fD 66 0 15]),(Row.mk 21 (bA #[97,110,100]) [fD 68 0 15,fD 65 0 15,fD 66 0 15]),(Row.mk 22 (bA #[111,114]) [fD 68 0 15,fD 65 0 15,fD 66 0 15]),(Row.mk 23 (bA #[120,111,114]) [fD 68 0 15,fD 65 0 15,fD 66 0 15]),(Row.mk 24 (bA #[110,101,103]) [fD 68 0 15,fD 65 0 15]),(Row.mk 25 (bA #[97,98,115]) [fD 68 0 15,fD 65 0 15]),(Row.mk 26 (bA #[110,111,116]) [fD 68 0 15,fD 65 0 15]),(Row.mk 27 (bA #[99,104,107]) [fD 65 0 15,fD 78 (-9223372036854775808) 9223372036854775807,fD 77 (-9223372036854775808) 9223372036854775807]),(Row.mk 28 (bA #[99,104,107,122]) [fD 65 0 15]),(Row.mk 29 (bA #[106,109,112]) [fD 84 0 65535]),(Row.mk 30 (bA #[106,122]) [fD 65 0 15,fD 84 0 65535]),(Row.mk 31 (bA #[106,110,122]) [fD 65 0 15,fD 84 0 65535]),(Row.mk 32 (bA #[106,116]) [fD 65 0 15,fD 78 (-9223372036854775808) 9223372036854775807,fD 77 1 65536,fD 84 0 65535]),(Row.mk 33 (bA #[114,97,105,115,101]) [fD 78 1 64]),(Row.mk 34 (bA #[114,97,105,115,101,114]) [fD 65 0 15]),(Row.mk 35 (bA #[99,111,110,116]) [fD 65 0 15]),(Row.mk 36 (bA #[101,120,99]) [fD 68 0 15]),(Row.mk 37 (bA #[109,97,114,107]) [fD 78 6 7,fD 77 0 65535]),(Row.mk 38 (bA #[103,101,116]) [fD 68 0 15]),(Row.mk 39 (bA #[112,117,116]) [fD 65 0 15]),(Row.mk 40 (bA #[100,101,102,101,114]) []),(Row.mk 41 (bA #[97,108,108,111,119]) []),(Row.mk 42 (bA #[99,108,111,99,107]) [fD 68 0 15]),(Row.mk 43 (bA #[99,111,117,110,116]) [fD 68 0 15,fD 78 0 7,fD 77 (-1) 31]),(Row.mk 44 (bA #[115,116,97,114,116]) [fD 78 0 65535]),(Row.mk 45 (bA #[110,101,118,101,114]) [fD 78 0 65535]),(Row.mk 46 (bA #[97,119,97,105,116]) [fD 65 0 15,fD 78 0 65535]),(Row.mk 47 (bA #[100,101,108,97,121]) [fD 65 0 15]),(Row.mk 48 (bA #[117,110,116,105,108]) [fD 65 0 15]),(Row.mk 49 (bA #[99,97,108,108]) [fD 68 0 15,fD 65 0 31,fD 66 0 7,fD 78 0 4095,fD 77 0 3]),(Row.mk 50 (bA #[115,101,108]) [fD 78 0 1023]),(Row.mk 51 (bA #[100,111,110,101]) [fD 78 0 1]),(Row.mk 52 (bA #[114,101,113]) [fD 65 0 31,fD 66 0 7,fD 78 0 1,fD 84 0 65535]),(Row.mk 53 (bA #[108,111,99,107]) [fD 78 0 31]),(Row.mk 54 (bA #[112,101,110,116]) [fD 68 0 15,fD 65 0 15,fD 66 0 3,fD 78 0 31,fD 77 0 7]),(Row.mk 55 (bA #[117,110,108,111,99,107]) [fD 78 0 31]),(Row.mk 56 (bA #[97,98,111,114,116]) [fD 78 0 65535]),(Row.mk 57 (bA #[101,110,100]) [])]
def f62_l1(o0:Int)(c:Unit→Option (Row×Bool)):Nat→Int→Option (Row×Bool)
 |0,_=>none
 |n+1,a=>
 (bif (decide (a<(List.length f102:Int))) then Option.bind (idx f102 a) λe=>
 (bif (decide (e.op=o0)) then Option.bind (idx f102 a) λf=>
 some (f,true) else(f62_l1 o0 c n (IntKind.i64.wrap (a+1)))) else(c ()))
def f62(o0:Int):Option (Row×Bool):=
 letk (λ(_:Unit)=>
 some ((Row.mk 0 ByteArray.empty []),false)) λa=>
 (f62_l1 o0 a 9223372036854775808 0)
def f63(x0:ao)(f1:Int):Int:=
 (bif (decide (f1=68)) then x0.d else(bif (decide (f1=65)) then x0.a else(bif (decide (f1=66)) then x0.b else(bif (decide (f1=78)) then x0.n else(bif (decide (f1=77)) then x0.m else x0.to)))))
def f64(x0:ao)(f1:Int)(v2:Int):ao:=
 letk (λ(c01v35:Int)(c02v36:Int)(c03v37:Int)(c04v38:Int)(c05v39:Int)(c06v40:Int)=>
 (ao.mk x0.op c01v35 c02v36 c03v37 c04v38 c05v39 c06v40)) λc=>
 (bif (decide (f1=68)) then(c v2 x0.a x0.b x0.n x0.m x0.to) else(bif (decide (f1=65)) then(c x0.d v2 x0.b x0.n x0.m x0.to) else(bif (decide (f1=66)) then(c x0.d x0.a v2 x0.n x0.m x0.to) else(bif (decide (f1=78)) then(c x0.d x0.a x0.b v2 x0.m x0.to) else(bif (decide (f1=77)) then(c x0.d x0.a x0.b x0.n v2 x0.to) else(c x0.d x0.a x0.b x0.n x0.m v2))))))
def f38_l1(x0:ao)(e:Row×Bool)(g:Int→Int→Int→Int→Int→Int→Int→oB):Nat→Int→Int→Int→Int→Int→Int→Int→Int→oB
 |0,_,_,_,_,_,_,_,_=>none
 |n+1,f,c10v99,c11v100,c12v101,c13v102,c14v103,c15v104,c16v105=>
 (bif (decide (f<(List.length e.1.fields:Int))) then Option.bind (idx e.1.fields f) λc=>
 (bif ((decide ((f63 x0 c.name)<c.lo))||(decide ((f63 x0 c.name)>c.hi))) then some false else(f38_l1 x0 e g n (IntKind.i64.wrap (f+1)) ((f64 (ao.mk c10v99 c11v100 c12v101 c13v102 c14v103 c15v104 c16v105) c.name 0).op) ((f64 (ao.mk c10v99 c11v100 c12v101 c13v102 c14v103 c15v104 c16v105) c.name 0).d) ((f64 (ao.mk c10v99 c11v100 c12v101 c13v102 c14v103 c15v104 c16v105) c.name 0).a) ((f64 (ao.mk c10v99 c11v100 c12v101 c13v102 c14v103 c15v104 c16v105) c.name 0).b) ((f64 (ao.mk c10v99 c11v100 c12v101 c13v102 c14v103 c15v104 c16v105) c.name 0).n) ((f64 (ao.mk c10v99 c11v100 c12v101 c13v102 c14v103 c15v104 c16v105) c.name 0).m) ((f64 (ao.mk c10v99 c11v100 c12v101 c13v102 c14v103 c15v104 c16v105) c.name 0).to))) else(g c10v99 c11v100 c12v101 c13v102 c14v103 c15v104 c16v105))
def f38(x0:ao):oB:=
 Option.bind (f62 x0.op) λc=>
 (bif (!c.2) then some false else letk (λ(c10v82:Int)(c11v83:Int)(c12v84:Int)(c13v85:Int)(c14v86:Int)(c15v87:Int)(c16v88:Int)=>
 some (((((decide (c10v82=0))&&((decide (c11v83=0))&&((decide (c12v84=0))&&((decide (c13v85=0))&&((decide (c14v86=0))&&((decide (c15v87=0))&&((decide (c16v88=0))&&true))))))))&&((!decide (x0.op=27))||(decide (x0.n≤x0.m))))&&(((!decide (x0.op=37))||(!decide (x0.n=6)))||(decide (x0.m=0))))) λe=>
 (f38_l1 x0 c e 9223372036854775808 0 0 x0.d x0.a x0.b x0.n x0.m x0.to))
def f39_l1(t0:al)(c:Int)(e:Int)(f:Unit→oB):Nat→Int→oB
 |0,_=>none
 |n+1,a=>
 (bif (decide (a<(IntKind.i64.wrap (c+e)))) then Option.bind (idx t0.insns a) λg=>
 (bif (!decide (g.op=29)) then some false else(f39_l1 t0 c e f n (IntKind.i64.wrap (a+1)))) else(f ()))
def f39(t0:al)(a:Int)(c:Int):oB:=
 (bif (decide ((IntKind.i64.wrap (a+c))>(List.length t0.insns:Int))) then some false else letk (λ(_:Unit)=>
 some true) λe=>
 (f39_l1 t0 a c e 9223372036854775808 a))
def f40(t0:al)(a:Int)(n2:Int):Option (bO×Bool):=
 Option.bind (bif (((decide (a<0))||(decide (a≥(List.length t0.tasks:Int))))||(decide (n2<0))) then some true else(Option.bind (idx t0.tasks a) λc=>some (decide (n2≥(List.length c.entries:Int))))) λe=>
 (bif e then some ((bO.mk [] []),false) else Option.bind (idx t0.tasks a) λf=>
 Option.bind (idx f.entries n2) λg=>
 some (g,true))
def f41(t0:al)(p1:Int)(n2:Int):oB:=
 Option.bind (bif (((decide (p1≥0))&&(decide (p1<(List.length t0.prots:Int))))&&(decide (n2≥0))) then(Option.bind (idx t0.prots p1) λa=>some (decide (n2<(List.length a.barriers:Int)))) else some false) λc=>
 some c
def f17(t0:al)(x1:ao):oB:=
 Option.bind (f38 x1) λk=>
 (bif (!k) then some false else letk (λ(p:Bool)=>
 (bif p then Option.bind (f31 t0 x1.n x1.m 1) λr=>
 some r else letk (λ(t:Bool)=>
 (bif t then Option.bind (f31 t0 x1.n x1.m x1.b) λw=>
 some w else letk (λ(x:Bool)=>
 (bif x then some (f33 t0 x1.to) else(bif (decide (x1.op=32)) then Option.bind (f39 t0 x1.to x1.m) λy=>
 some y else(bif (decide (x1.op=33)) then some (decide (x1.n≤t0.excs)) else letk (λ(A:Bool)=>
 (bif A then some (decide (x1.n<(List.length t0.lists:Int))) else(bif (decide (x1.op=50)) then some (decide (x1.n<(List.length t0.selects:Int))) else(bif (decide (x1.op=49)) then Option.bind (f40 t0 x1.a x1.b) λe=>
 Option.bind (bif e.2 then(Option.bind (f31 t0 x1.n 0 (IntKind.i64.wrap ((IntKind.i64.wrap ((List.length e.1.ins:Int)+(List.length e.1.outs:Int)))+1))) λB=>some B) else some false) λC=>
 some C else(bif (decide (x1.op=52)) then Option.bind (f40 t0 x1.a x1.b) λE=>
 some (E.2&&(f33 t0 x1.to)) else letk (λ(F:Bool)=>
 (bif F then some (decide (x1.n<(List.length t0.prots:Int))) else(bif (decide (x1.op=54)) then Option.bind (f41 t0 x1.n x1.m) λG=>
 some G else(bif (decide (x1.op=43)) then Option.bind (bif (decide (x1.m=(-1))) then some true else(Option.bind (f41 t0 x1.m x1.n) λH=>some H)) λI=>
 some I else some true)))) λg=>
 (bif (decide (x1.op=53)) then(g (decide (x1.op=53))) else(g (decide (x1.op=55))))))))) λc=>
 (bif (decide (x1.op=44)) then(c (decide (x1.op=44))) else(bif (decide (x1.op=45)) then(c (decide (x1.op=45))) else(bif (decide (x1.op=46)) then(c (decide (x1.op=46))) else(c (decide (x1.op=56)))))))))) λf=>
 (bif (decide (x1.op=29)) then(f (decide (x1.op=29))) else(bif (decide (x1.op=30)) then(f (decide (x1.op=30))) else(f (decide (x1.op=31))))))) λh=>
 (bif (decide (x1.op=5)) then(h (decide (x1.op=5))) else(h (decide (x1.op=6)))))) λj=>
 (bif (decide (x1.op=3)) then(j (decide (x1.op=3))) else(j (decide (x1.op=4)))))
def f5_l1(t0:al)(c:Unit→oB):Nat→Int→oB
 |0,_=>none
 |n+1,a=>
 (bif (decide (a<(List.length t0.insns:Int))) then Option.bind (idx t0.insns a) λe=>
 Option.bind (f17 t0 e) λf=>
 (bif (!f) then some false else(f5_l1 t0 c n (IntKind.i64.wrap (a+1)))) else(c ()))
def f5(t0:al):oB:=
 Option.bind (bif ((decide ((List.length t0.insns:Int)<1))||(decide ((List.length t0.insns:Int)>65536))) then some true else(Option.bind (f11 t0) λc=>some (!c))) λe=>
 Option.bind (bif e then some true else(Option.bind (f12 t0) λf=>some (!f))) λg=>
 Option.bind (bif g then some true else(Option.bind (f13 t0) λh=>some (!h))) λj=>
 Option.bind (bif j then some true else(Option.bind (f14 t0) λk=>some (!k))) λm=>
 Option.bind (bif m then some true else(Option.bind (f15 t0) λp=>some (!p))) λr=>
 Option.bind (bif r then some true else(Option.bind (f16 t0) λt=>some (!t))) λw=>
 (bif w then some false else letk (λ(_:Unit)=>
 Option.bind (idx t0.insns (IntKind.i64.wrap ((List.length t0.insns:Int) - 1))) λa=>
 some ((((decide (a.op=29))||(decide (a.op=33)))||(decide (a.op=34)))||(decide (a.op=57)))) λx=>
 (f5_l1 t0 x 9223372036854775808 0))
def f8(a0:aa):Bool:=
 (decide (a0.lo>a0.hi))
def f9(a0:aa)(b1:aa):Bool:=
 ((f8 a0)||((decide (a0.lo≥b1.lo))&&(decide (a0.hi≤b1.hi))))
def f27(a:Int)(c:Int):aa:=
 (aa.mk a c)
def f28(v0:Int):aa:=
 (aa.mk v0 v0)
def f101:aa:=
 (aa.mk 1 0)
def f61(a0:aa):aa:=
 (bif (f8 a0) then f101 else a0)
def f29(a0:aa)(b1:aa):aa:=
 (bif (f8 a0) then(f61 b1) else(bif (f8 b1) then a0 else(aa.mk (if b1.lo<a0.lo then b1.lo else a0.lo) (if b1.hi>a0.hi then b1.hi else a0.hi))))
def f10_l1(o0:Obj)(c:Int→Int→Option (aa)):Nat→Int→Int→Int→Option (aa)
 |0,_,_,_=>none
 |n+1,a,c10v40,c11v41=>
 (bif (decide (a<(List.length o0.set_:Int))) then Option.bind (idx o0.set_ a) λe=>
 (f10_l1 o0 c n (IntKind.i64.wrap (a+1)) ((f29 (aa.mk c10v40 c11v41) (f28 (IntKind.i64.wrap (e+1)))).lo) ((f29 (aa.mk c10v40 c11v41) (f28 (IntKind.i64.wrap (e+1)))).hi)) else(c c10v40 c11v41))
def f10(o0:Obj):Option aa:=
 (bif (!o0.ptr) then some (f27 o0.lo o0.hi) else letk (λ(c10v33:Int)(c11v34:Int)=>
 some (aa.mk c10v33 c11v34)) λa=>
 (f10_l1 o0 a 9223372036854775808 0 ((f28 0).lo) ((f28 0).hi)))
def f3_l1(t0:al)(c:(List aj)×(List (List aa))×Int)(e:Unit→oB):Nat→Int→oB
 |0,_=>none
 |n+1,a=>
 (bif (decide (a<(List.length t0.tasks:Int))) then Option.bind (idx t0.tasks a) λf=>
 Option.bind (idx c.1 f.at_) λg=>
 (bif (!g.reached) then some false else(f3_l1 t0 c e n (IntKind.i64.wrap (a+1)))) else(e ()))
def f3_l3(c:(List aj)×(List (List aa))×Int)(e:Int)(f:Unit→oB):Nat→Int→oB
 |0,_=>none
 |na+1,a=>
 (bif (decide (a<16)) then Option.bind (idx c.1 e) λg=>
 aL (bE 16 a)<|
 (bif (f8 (g.r (Int.toNat a))) then some false else(f3_l3 c e f na (IntKind.i64.wrap (a+1)))) else(f ()))
def f3_l2(c:(List aj)×(List (List aa))×Int)(f:Unit→oB):Nat→Int→oB
 |0,_=>none
 |n+1,e=>
 (bif (decide (e<(List.length c.1:Int))) then letk (λ(_:Unit)=>
 (f3_l2 c f n (IntKind.i64.wrap (e+1)))) λg=>
 Option.bind (idx c.1 e) λh=>
 Option.bind (bif (!h.reached) then(Option.bind (idx c.1 e) λa=>some (!((a.reached==false)&&((decide (((a.r 0).lo)=0))&&((decide (((a.r 0).hi)=0))&&((decide (((a.r 1).lo)=0))&&((decide (((a.r 1).hi)=0))&&((decide (((a.r 2).lo)=0))&&((decide (((a.r 2).hi)=0))&&((decide (((a.r 3).lo)=0))&&((decide (((a.r 3).hi)=0))&&((decide (((a.r 4).lo)=0))&&((decide (((a.r 4).hi)=0))&&((decide (((a.r 5).lo)=0))&&((decide (((a.r 5).hi)=0))&&((decide (((a.r 6).lo)=0))&&((decide (((a.r 6).hi)=0))&&((decide (((a.r 7).lo)=0))&&((decide (((a.r 7).hi)=0))&&((decide (((a.r 8).lo)=0))&&((decide (((a.r 8).hi)=0))&&((decide (((a.r 9).lo)=0))&&((decide (((a.r 9).hi)=0))&&((decide (((a.r 10).lo)=0))&&((decide (((a.r 10).hi)=0))&&((decide (((a.r 11).lo)=0))&&((decide (((a.r 11).hi)=0))&&((decide (((a.r 12).lo)=0))&&((decide (((a.r 12).hi)=0))&&((decide (((a.r 13).lo)=0))&&((decide (((a.r 13).hi)=0))&&((decide (((a.r 14).lo)=0))&&((decide (((a.r 14).hi)=0))&&((decide (((a.r 15).lo)=0))&&((decide (((a.r 15).hi)=0))&&true))))))))))))))))))))))))))))))))))) else some false) λj=>
 (bif j then some false else(f3_l3 c e g 9223372036854775808 0)) else(f ()))
def f3_l5(t0:al)(c:(List aj)×(List (List aa))×Int)(a:Int)(f:Unit→oB):Nat→Int→oB
 |0,_=>none
 |na+1,e=>
 Option.bind (idx c.2.1 a) λh=>
 (bif (decide (e<(List.length h:Int))) then letk (λ(j:Bool)=>
 (bif j then some false else(f3_l5 t0 c a f na (IntKind.i64.wrap (e+1))))) λg=>
 Option.bind (idx c.2.1 a) λk=>
 Option.bind (idx k e) λm=>
 (bif (f8 m) then(g true) else Option.bind (idx c.2.1 a) λp=>
 Option.bind (idx p e) λr=>
 Option.bind (idx t0.objs a) λt=>
 Option.bind (f10 t) λw=>
 (g (!(f9 r w)))) else(f ()))
def f3_l4(t0:al)(a:(List aj)×(List (List aa))×Int)(e:Unit→oB):Nat→Int→oB
 |0,_=>none
 |n+1,c=>
 (bif (decide (c<(List.length a.2.1:Int))) then letk (λ(_:Unit)=>
 (f3_l4 t0 a e n (IntKind.i64.wrap (c+1)))) λf=>
 Option.bind (idx a.2.1 c) λg=>
 Option.bind (idx t0.objs c) λh=>
 (bif (!decide ((List.length g:Int)=h.size)) then some false else(f3_l5 t0 a c f 9223372036854775808 0)) else(e ()))
noncomputable def f3(t0:al):oB:=
 Option.bind (f4 t0) λj=>
 Option.bind (bif j then some true else(Option.bind (f5 t0) λk=>some (!k))) λm=>
 (bif m then Option.bind (f6) λp=>
 some p else Option.bind (f7 t0) λa=>
 (bif (((!decide (a.2.2=0))||(!decide ((List.length a.1:Int)=(List.length t0.insns:Int))))||(!decide ((List.length a.2.1:Int)=(List.length t0.objs:Int)))) then some false else letk (λ(_:Unit)=>
 letk (λ(_:Unit)=>
 letk (λ(_:Unit)=>
 Option.bind (f6) λr=>
 some r) λe=>
 (f3_l4 t0 a e 9223372036854775808 0)) λt=>
 (f3_l2 a t 9223372036854775808 0)) λw=>
 (f3_l1 t0 a w 9223372036854775808 0)))
abbrev sN:AV:= .d (.v (.slice none 0 0))
abbrev fe(k:Int)(f o:Nat):Int×AV:=(k, .fn (.func f) [] [.pt o 0])
abbrev _root_.Go.Sk.AO.z:AO:= .dead
abbrev txA(t:al):lV:=[.l E59 t.insns, .l cq t.handlers, .l cM t.loops, .l E98 t.selects, .l E51 t.lists, .l E53 t.objs, .l E80 t.inits, .n t.excs, .l E48 t.tasks, .l E87 t.prots, .l E95 t.checks]
abbrev txV(a:lN)(b:lH)(c:lP)(d:lS)(e:lL)(f:lO)(g:lT)(h:Int)(i:lK)(j:lM)(k:lC):lV:=[.l E59 a, .l cq b, .l cM c, .l E98 d, .l E51 e, .l E53 f, .l E80 g, .n h, .l E48 i, .l E87 j, .l E95 k]
abbrev hO:lO:=[(Obj.mk 1 0 9 false []),(Obj.mk 2 (-9223372036854775808) 9223372036854775807 false [])]
abbrev a15(x1:ao):Int:=IntKind.i64.wrap (BitVec.ofInt IntKind.i64.bits x1.a&&&BitVec.ofInt IntKind.i64.bits 15).toNat
abbrev tR(t:al)(a b c d:AV):lV:=[.l E59 t.insns, .l cq t.handlers, .l cM t.loops, .l E98 t.selects, .l E51 t.lists, .l E53 t.objs, .l E80 t.inits, .n t.excs, .l E48 t.tasks, .l E87 t.prots, .l E95 t.checks,a,b,c,d]
abbrev kvT(ky:Nat→Value)(t:al)(rg:List aa)(fc:List aj)(sl:List (List aa))(pc:Int):lV:=[.kv (ky 0) (.sl (List.map E59 t.insns)), .kv (ky 1) (.sl (List.map cq t.handlers)), .kv (ky 2) (.sl (List.map cM t.loops)), .kv (ky 3) (.sl (List.map E98 t.selects)), .kv (ky 4) (.sl (List.map E51 t.lists)), .kv (ky 5) (.sl (List.map E53 t.objs)), .kv (ky 6) (.sl (List.map E80 t.inits)), .kv (ky 7) (D.i .i64 t.excs), .kv (ky 8) (.sl (List.map E48 t.tasks)), .kv (ky 9) (.sl (List.map E87 t.prots)), .kv (ky 10) (.sl (List.map E95 t.checks)), .kv (ky 11) (.sl (List.map E42 rg)), .kv (ky 12) (.sl (List.map E45 fc)), .kv (ky 13) (.sl (List.map E50 sl)), .n pc]
abbrev fN(ky:Nat→Value)(t:al)(rg:List aa)(fc:List aj)(sl:List (List aa))(pc:Int)(rr:Nat→aa):AO:= .row 68 (kvT ky t rg fc sl pc++(bg 32 (λj=> .d (aO R42 rr j))++([.mp 1, .mp 2]:lV):lV))
abbrev kP(x:Int×Int):Value:=Value.agg ⟨[Value.int .i64 x.1,Value.int .i64 x.2]⟩
abbrev kW(x:Int):Value:=Value.int .i64 x
abbrev dP(x:aa):D:= .ag (R42 x)
abbrev dW(x:Nat→aa):D:= .ag (R43 x)
abbrev aP(x:aa):AV:=AV.d (.ag (R42 x))
abbrev aW(x:Nat→aa):AV:=AV.d (.ag (R43 x))
abbrev mP(l:List ((Int×Int)×aa)):AO:=mpO (λx:Int×Int=>Value.agg ⟨[Value.int .i64 x.1,Value.int .i64 x.2]⟩) (λx:aa=>AV.d (.ag (R42 x))) l
abbrev mW(l:List (Int×(Nat→aa))):AO:=mpO (λx:Int=>Value.int .i64 x) (λx:Nat→aa=>AV.d (.ag (R43 x))) l
theorem reM{js:List Nat}{a:AO}{pl:List ((Int×Int)×aa)}{wy:List (Int×(Nat→aa))}:a::List.map (AO.ren js) [mP pl,mW wy]=a::[mP pl,mW wy]:=Re (cR (d4 _ kP dP _) (cR (d4 _ kW dW _) rfl))
theorem ltM{n:Nat}{a:AO}{pl:List ((Int×Int)×aa)}{wy:List (Int×(Nat→aa))}(h:a.lt n=true):dc n (a::[mP pl,mW wy])=true:=ay h (ay (cv _ kP dP _) (ay (cv _ kW dW _) rfl))
end Go.Proofs.YtkbpoeellidgeaaGreatDoor
