/- Part of the proof. -/
import Derived.Test.YtlkhnkpflmpjhaaGreatDoorSc
set_option linter.all false
namespace Go.Proofs.YtlkhnkpflmpjhaaGreatDoor
open Go Go.Sk
open Go.IntKind (i64)
structure aa where
 lo:Int
 hi:Int
structure am where
 reached:Bool
 r:Nat->aa
structure Field where
 name:Int
 lo:Int
 hi:Int
structure Row where
 op:Int
 name:ByteArray
 fields:List Field
structure Place where
 o:Int
 k:Int
structure aG where
 op:Int
 d:Int
 a:Int
 b:Int
 n:Int
 m:Int
 to:Int
structure bi where
 from_:Int
 to:Int
 at_:Int
 clean:Bool
structure Loop where
 head:Int
 back:Int
 bound:Int
structure dI where
 kind:Int
 entry:Int
 guard:Int
 time:Int
 at_:Int
structure bU where
 alts:List dI
 obj:Int
 else_:Int
structure Obj where
 size:Int
 lo:Int
 hi:Int
 ptr:Bool
 set_:List Int
structure dO where
 o:Int
 slot:Int
 v:Int
structure cq where
 ins:List Int
 outs:List Int
structure bK where
 prio:Int
 at_:Int
 entries:List cq
 deadline:Int
structure bj where
 kind:Int
 op:Int
 n:Int
 o:Int
 off:Int
 len:Int
 lo:Int
 hi:Int
 l:List bj
structure fp where
 ceiling:Int
 barriers:List bj
structure c4 where
 at_:Int
 kind:Int
structure ah where
 insns:List aG
 handlers:List bi
 loops:List Loop
 selects:List bU
 lists:List (List Int)
 objs:List Obj
 inits:List dO
 excs:Int
 tasks:List bK
 prots:List fp
 checks:List c4
structure cm where
 text:ah
structure Judge where
 view:cm
 entries:Int
 left:Int
structure Spot where
 o:Int
 slot:Int
structure iM where
 name:ByteArray
 fields:ByteArray
structure OutB where
 b:List Int
abbrev R45(x:aG):List D:=[.i .u8 x.op, .i .i64 x.d, .i .i64 x.a, .i .i64 x.b, .i .i64 x.n, .i .i64 x.m, .i .i64 x.to]
abbrev E45(x:aG):List D:=R45 x
theorem dl(x:aG):E45 x=R45 x:=rfl
abbrev R88(x:bi):List D:=[.i .i64 x.from_, .i .i64 x.to, .i .i64 x.at_, .b x.clean]
abbrev E88(x:bi):List D:=R88 x
theorem iP(x:bi):E88 x=R88 x:=rfl
abbrev R90(x:Loop):List D:=[.i .i64 x.head, .i .i64 x.back, .i .i64 x.bound]
abbrev E90(x:Loop):List D:=R90 x
theorem jP(x:Loop):E90 x=R90 x:=rfl
abbrev R86(x:dI):List D:=[.i .u8 x.kind, .i .i64 x.entry, .i .i64 x.guard, .i .i64 x.time, .i .i64 x.at_]
abbrev E86(x:dI):List D:=R86 x
theorem ni(x:dI):E86 x=R86 x:=rfl
abbrev R82(x:bU):List D:=[.sl (List.map E86 x.alts), .i .i64 x.obj, .i .i64 x.else_]
abbrev E82(x:bU):List D:=R82 x
theorem lk(x:bU):E82 x=R82 x:=rfl
abbrev E3(x:Int):List D:=[.i .i64 x]
theorem cy(x:Int):E3 x=[.i .i64 x]:=rfl
abbrev E22(x:List Int):List D:=[.sl (List.map E3 x)]
theorem wr(x:List Int):E22 x=[.sl (List.map E3 x)]:=rfl
abbrev R50(x:Obj):List D:=[.i .i64 x.size, .i .i64 x.lo, .i .i64 x.hi, .b x.ptr, .sl (List.map E3 x.set_)]
abbrev E50(x:Obj):List D:=R50 x
theorem dt(x:Obj):E50 x=R50 x:=rfl
abbrev R62(x:dO):List D:=[.i .i64 x.o, .i .i64 x.slot, .i .i64 x.v]
abbrev E62(x:dO):List D:=R62 x
theorem nj(x:dO):E62 x=R62 x:=rfl
abbrev R68(x:cq):List D:=[.sl (List.map E3 x.ins), .sl (List.map E3 x.outs)]
abbrev E68(x:cq):List D:=R68 x
theorem iQ(x:cq):E68 x=R68 x:=rfl
abbrev R57(x:bK):List D:=[.i .i64 x.prio, .i .i64 x.at_, .sl (List.map E68 x.entries), .i .i64 x.deadline]
abbrev E57(x:bK):List D:=R57 x
theorem eR(x:bK):E57 x=R57 x:=rfl
abbrev lI:=List Int
abbrev lL:=List (List Int)
abbrev lN:=List aG
abbrev lH:=List bi
abbrev lO:=List Obj
abbrev lD:=List D
abbrev lV:=List AV
abbrev lW:=List AO
abbrev oB:=Option Bool
abbrev lP:=List Loop
abbrev lS:=List bU
abbrev lT:=List dO
abbrev lK:=List bK
abbrev lM:=List fp
abbrev lC:=List c4
abbrev fD:=Field.mk
abbrev bA:=ByteArray.mk

mutual
def E76:bj->lD
 | .mk kind op n o off len lo hi l=> [.i .u8 kind, .i .u8 op, .i .i64 n, .i .i64 o, .i .i64 off, .i .i64 len, .i .i64 lo, .i .i64 hi, .sl (E76s l)]
def E76s:List bj->List lD
 |[]=> []
 |e::l=>E76 e::E76s l
end
abbrev R76(x:bj):lD:=[.i .u8 x.kind, .i .u8 x.op, .i .i64 x.n, .i .i64 x.o, .i .i64 x.off, .i .i64 x.len, .i .i64 x.lo, .i .i64 x.hi, .sl (List.map E76 x.l)]
theorem tv:∀l,E76s l=List.map E76 l
 |[]=>rfl
 |e::l=>by rw[E76s,tv l];rfl
theorem lm(x:bj):E76 x=R76 x:=by
 cases x;simp only[E76,tv]
abbrev R71(x:fp):lD:=[.i .i64 x.ceiling, .sl (List.map E76 x.barriers)]
abbrev E71(x:fp):lD:=R71 x
theorem pp(x:fp):E71 x=R71 x:=rfl
abbrev R79(x:c4):lD:=[.i .i64 x.at_, .i .u8 x.kind]
abbrev E79(x:c4):lD:=R79 x
theorem jQ(x:c4):E79 x=R79 x:=rfl
abbrev R38(x:ah):lD:=[.sl (List.map E45 x.insns), .sl (List.map E88 x.handlers), .sl (List.map E90 x.loops), .sl (List.map E82 x.selects), .sl (List.map E22 x.lists), .sl (List.map E50 x.objs), .sl (List.map E62 x.inits), .i .i64 x.excs, .sl (List.map E57 x.tasks), .sl (List.map E71 x.prots), .sl (List.map E79 x.checks)]
abbrev E38(x:ah):lD:=R38 x
abbrev ao(x:aa):lD:=[.i .i64 x.lo, .i .i64 x.hi]
abbrev c5(x:aa):lD:=ao x
theorem bO(x:aa):c5 x=ao x:=rfl
abbrev wn(x:Nat->aa):lD:=uI 32 (aY ao x)
abbrev cB(x:am):lD:=[.b x.reached]++(wn x.r)
abbrev gD(x:am):lD:=cB x
theorem tx(x:am):gD x=cB x:=rfl
abbrev cA(x:cm):lD:=[.sl (List.map E45 x.text.insns), .sl (List.map E88 x.text.handlers), .sl (List.map E90 x.text.loops), .sl (List.map E82 x.text.selects), .sl (List.map E22 x.text.lists), .sl (List.map E50 x.text.objs), .sl (List.map E62 x.text.inits), .i .i64 x.text.excs, .sl (List.map E57 x.text.tasks), .sl (List.map E71 x.text.prots), .sl (List.map E79 x.text.checks)]
abbrev R135(x:Field):lD:=[.i .u8 x.name, .i .i64 x.lo, .i .i64 x.hi]
abbrev wt(x:Field):lD:=R135 x
theorem aM(x:Field):wt x=R135 x:=rfl
abbrev xz(x:Row):lD:=[.i .u8 x.op, .s x.name, .sl (List.map wt x.fields)]
abbrev xA(x:Row):lD:=xz x
theorem pu(x:Row):xA x=xz x:=rfl
abbrev yX(x:iM):lD:=[.s x.name, .s x.fields]
abbrev E2(x:Int):lD:=[.i .i64 x]
theorem fO(x:Int):E2 x=[.i .i64 x]:=rfl
abbrev E4(x:Bool):lD:=[.b x]
theorem nk(x:Bool):E4 x=[.b x]:=rfl
abbrev E74(x:Int):lD:=[.i .u8 x]
abbrev ic(x:List aa):lD:=[.sl (List.map c5 x)]
theorem fA(x:List aa):ic x=[.sl (List.map c5 x)]:=rfl
abbrev E9(x:ByteArray):lD:=[.s x]
theorem xW(x:ByteArray):E9 x=[.s x]:=rfl
abbrev E5(x:Int):lD:=[.i .u8 x]
theorem wq(x:Int):E5 x=[.i .u8 x]:=rfl
abbrev pr(x:lI):lD:=[.sl (List.map E2 x)]
theorem tw(x:lI):pr x=[.sl (List.map E2 x)]:=rfl
def ke:List iM:=oP.map λp=>⟨p.1,p.2⟩
theorem o6:gpc 0=some (ke.flatMap yX):=by
 unfold ke
 rw[List.flatMap_map]
 rfl
def f197(a0:Int)(b1:Int):Int:=
 (i64.wrap (a0+b1))
def f198(a0:Int)(b1:Int):Int:=
 (i64.wrap (a0 - b1))
def f199(a0:Int)(b1:Int):Int:=
 (i64.wrap (a0*b1))
def f201(a0:Int)(b1:Int):Option Int:=
 aH (nz b1)<|
 some (i64.wrap (Int.tdiv a0 b1))
def f202(a0:Int)(b1:Int):Option Int:=
 aH (nz b1)<|
 some (Int.tmod a0 b1)
def f205(a0:Int)(b1:Int):Bool:=
 (decide (a0=b1))
def f206(a0:Int)(b1:Int):Bool:=
 (!decide (a0=b1))
def f207(a0:Int)(b1:Int):Bool:=
 (decide (a0<b1))
def f208(a0:Int)(b1:Int):Bool:=
 (decide (a0<=b1))
def f209(a0:Int)(b1:Int):Bool:=
 (decide (a0>b1))
def f210(a0:Int)(b1:Int):Bool:=
 (decide (a0>=b1))
def f211(a0:Int)(b1:Int):Int:=
 (i64.wrap (BitVec.ofInt i64.bits a0&&&BitVec.ofInt i64.bits b1).toNat)
def f212(a0:Int)(b1:Int):Int:=
 (i64.wrap (BitVec.ofInt i64.bits a0|||BitVec.ofInt i64.bits b1).toNat)
def f213(a0:Int)(b1:Int):Int:=
 (i64.wrap (BitVec.ofInt i64.bits a0^^^BitVec.ofInt i64.bits b1).toNat)
def f214(a0:Int)(p1:Int):Int:=
 (i64.wrap (0 - a0))
def f215(a0:Int)(p1:Int):Int:=
 (if(i64.wrap (0 - a0))>a0 then(i64.wrap (0 - a0)) else a0)
def f216(a0:Int)(p1:Int):Int:=
 (i64.wrap (1 - a0))
def f203(a0:Int)(b1:Int):Option Int:=
 aH (nz b1)<|
 (bif ((decide ((Int.tmod a0 b1)=0))||(decide ((i64.wrap (BitVec.ofInt i64.bits (Int.tmod a0 b1)^^^BitVec.ofInt i64.bits b1).toNat)>=0))) then some (Int.tmod a0 b1) else aH (nz b1)<|
 some (i64.wrap ((Int.tmod a0 b1)+b1)))
def f71(a0:aa):Bool:=
 (decide (a0.lo>a0.hi))
def f151:aa:=
 (aa.mk 1 0)
def f173(a:Int):Bool:=
 ((decide (a>=16))&&(decide (a<=18)))
def f152_l1(c:lI)(f:Int->Int->Option (aa)):Nat->Int->Int->Int->Option (aa)
 |0,_,_,_=>none
 |n+1,e,c10v39,c11v40=>
 (bif (decide (e<(c.length:Int))) then (idx c e).bind λa=>
 (f152_l1 c f n (i64.wrap (e+1)) (if a<c10v39 then a else c10v39) (if a>c11v40 then a else c11v40)) else(f c10v39 c11v40))
def f152(a:Int)(c:lI):Option aa:=
 letk (λ(c10v32:Int)(c11v33:Int)=>
 some (aa.mk c10v32 c11v33)) λe=>
 (f152_l1 c e (Int.toNat ((c.length:Int) - 0)+1) 0 a a)
def f120(a0:aa)(b1:aa):Option aa:=
 (bif ((f71 a0)&&(f71 b1)) then some f151 else(bif (f71 a0) then some b1 else(bif (f71 b1) then some a0 else (f152 a0.lo [a0.hi,b1.lo,b1.hi]).bind λa=>
 some a)))
def f161:aa:=
 (aa.mk (-9223372036854775808) 9223372036854775807)
def f174_l2(c:Int->Int->Option (Int×Bool))(m2:lI)(e:Int->Int->Option (aa))(f:Int):Nat->Int->Int->Int->Option (aa)
 |0,_,_,_=>none
 |na+1,a,c10v68,c11v69=>
 (bif (decide (a<(m2.length:Int))) then (idx m2 a).bind λj=>
 (c f j).bind λg=>
 (bif (!g.2) then some f161 else (f152 g.1 []).bind λk=>
 (f120 (aa.mk c10v68 c11v69) k).bind λh=>
 (f174_l2 c m2 e f na (i64.wrap (a+1)) h.lo h.hi)) else(e c10v68 c11v69))
def f174_l1(c:Int->Int->Option (Int×Bool))(l1:lI)(m2:lI)(e:Int->Int->Option (aa)):Nat->Int->Int->Int->Option (aa)
 |0,_,_,_=>none
 |n+1,a,c10v55,c11v56=>
 (bif (decide (a<(l1.length:Int))) then letk (λ(c10v60:Int)(c11v61:Int)=>
 (f174_l1 c l1 m2 e n (i64.wrap (a+1)) c10v60 c11v61)) λf=>
 (idx l1 a).bind λg=>
 (f174_l2 c m2 f g (Int.toNat ((m2.length:Int) - 0)+1) 0 c10v55 c11v56) else(e c10v55 c11v56))
def f174(a:Int->Int->Option (Int×Bool))(l1:lI)(m2:lI):Option aa:=
 letk (λ(c10v48:Int)(c11v49:Int)=>
 some (aa.mk c10v48 c11v49)) λc=>
 (f174_l1 a l1 m2 c (Int.toNat ((l1.length:Int) - 0)+1) 0 f151.lo f151.hi)
def f175(x0:Int)(y1:Int):Int×Bool:=
 ((i64.wrap (x0+y1)),(decide ((i64.wrap (BitVec.ofInt i64.bits (i64.wrap (BitVec.ofInt i64.bits x0^^^BitVec.ofInt i64.bits (i64.wrap (x0+y1))).toNat)&&&BitVec.ofInt i64.bits (i64.wrap (BitVec.ofInt i64.bits y1^^^BitVec.ofInt i64.bits (i64.wrap (x0+y1))).toNat)).toNat)>=0)))
def f176(x0:Int)(y1:Int):Int×Bool:=
 ((i64.wrap (x0 - y1)),(decide ((i64.wrap (BitVec.ofInt i64.bits (i64.wrap (BitVec.ofInt i64.bits x0^^^BitVec.ofInt i64.bits y1).toNat)&&&BitVec.ofInt i64.bits (i64.wrap (BitVec.ofInt i64.bits x0^^^BitVec.ofInt i64.bits (i64.wrap (x0 - y1))).toNat)).toNat)>=0)))
def f187(x0:Int)(y1:Int):Int×Int:=
 ((IntKind.u64.wrap ((IntKind.u64.wrap ((IntKind.u64.wrap ((Int.fdiv x0 (2^min (Int.toNat 32) IntKind.u64.bits))*(Int.fdiv y1 (2^min (Int.toNat 32) IntKind.u64.bits))))+(Int.fdiv (IntKind.u64.wrap ((IntKind.u64.wrap ((Int.fdiv x0 (2^min (Int.toNat 32) IntKind.u64.bits))*(IntKind.u64.wrap (BitVec.ofInt IntKind.u64.bits y1&&&BitVec.ofInt IntKind.u64.bits 4294967295).toNat)))+(Int.fdiv (IntKind.u64.wrap ((IntKind.u64.wrap (BitVec.ofInt IntKind.u64.bits x0&&&BitVec.ofInt IntKind.u64.bits 4294967295).toNat)*(IntKind.u64.wrap (BitVec.ofInt IntKind.u64.bits y1&&&BitVec.ofInt IntKind.u64.bits 4294967295).toNat))) (2^min (Int.toNat 32) IntKind.u64.bits)))) (2^min (Int.toNat 32) IntKind.u64.bits))))+(Int.fdiv (IntKind.u64.wrap ((IntKind.u64.wrap (BitVec.ofInt IntKind.u64.bits (IntKind.u64.wrap ((IntKind.u64.wrap ((Int.fdiv x0 (2^min (Int.toNat 32) IntKind.u64.bits))*(IntKind.u64.wrap (BitVec.ofInt IntKind.u64.bits y1&&&BitVec.ofInt IntKind.u64.bits 4294967295).toNat)))+(Int.fdiv (IntKind.u64.wrap ((IntKind.u64.wrap (BitVec.ofInt IntKind.u64.bits x0&&&BitVec.ofInt IntKind.u64.bits 4294967295).toNat)*(IntKind.u64.wrap (BitVec.ofInt IntKind.u64.bits y1&&&BitVec.ofInt IntKind.u64.bits 4294967295).toNat))) (2^min (Int.toNat 32) IntKind.u64.bits))))&&&BitVec.ofInt IntKind.u64.bits 4294967295).toNat)+(IntKind.u64.wrap ((IntKind.u64.wrap (BitVec.ofInt IntKind.u64.bits x0&&&BitVec.ofInt IntKind.u64.bits 4294967295).toNat)*(Int.fdiv y1 (2^min (Int.toNat 32) IntKind.u64.bits)))))) (2^min (Int.toNat 32) IntKind.u64.bits)))),(IntKind.u64.wrap (x0*y1)))
def f188(x0:Int):Int:=
 (bif (decide (x0<0)) then(IntKind.u64.wrap (0 - (IntKind.u64.wrap x0))) else(IntKind.u64.wrap x0))
def f177(x0:Int)(y1:Int):Int×Bool:=
 (bif (!((decide (x0<0))==(decide (y1<0)))) then((i64.wrap (0 - (i64.wrap ((f187 (f188 x0) (f188 y1)).2)))),((decide (((f187 (f188 x0) (f188 y1)).1)=0))&&(decide (((f187 (f188 x0) (f188 y1)).2)<=9223372036854775808)))) else((i64.wrap ((f187 (f188 x0) (f188 y1)).2)),((decide (((f187 (f188 x0) (f188 y1)).1)=0))&&(decide (((f187 (f188 x0) (f188 y1)).2)<9223372036854775808)))))
def f178(x0:Int)(y1:Int):Option (Int×Bool):=
 aH (nz y1)<|
 some ((i64.wrap (Int.tdiv x0 y1)),((!decide (x0=(-9223372036854775808)))||(!decide (y1=(-1)))))
def f40(a0:aa)(v1:Int):Bool:=
 ((decide (a0.lo<=v1))&&(decide (v1<=a0.hi)))
def f179_l1(b0:aa)(f:lI->Option lI):Nat->Int->lI->Option lI
 |0,_,_=>none
 |n+1,e,a=>
 (bif (decide (e<(List.length [b0.lo,(-1),1,b0.hi]:Int))) then letk (λ(h:lI)=>
 (f179_l1 b0 f n (i64.wrap (e+1)) h)) λg=>
 (idx [b0.lo,(-1),1,b0.hi] e).bind λc=>
 (bif ((!decide (c=0))&&(f40 b0 c)) then aH (de 8 a [c])<|
 (g (a++ [c])) else(g a)) else(f a))
def f179(b0:aa):Option lI:=
 letk (λ(a:lI)=>
 some a) λc=>
 (f179_l1 b0 c (Int.toNat ((List.length [b0.lo,(-1),1,b0.hi]:Int) - 0)+1) 0 [])
def f180(a0:aa)(b1:aa):aa:=
 (aa.mk (if(if(i64.wrap (0 - (i64.wrap (IntKind.u64.wrap ((if(f188 b1.hi)>(f188 b1.lo) then(f188 b1.hi) else(f188 b1.lo)) - 1)))))>a0.lo then(i64.wrap (0 - (i64.wrap (IntKind.u64.wrap ((if(f188 b1.hi)>(f188 b1.lo) then(f188 b1.hi) else(f188 b1.lo)) - 1))))) else a0.lo)<0 then(if(i64.wrap (0 - (i64.wrap (IntKind.u64.wrap ((if(f188 b1.hi)>(f188 b1.lo) then(f188 b1.hi) else(f188 b1.lo)) - 1)))))>a0.lo then(i64.wrap (0 - (i64.wrap (IntKind.u64.wrap ((if(f188 b1.hi)>(f188 b1.lo) then(f188 b1.hi) else(f188 b1.lo)) - 1))))) else a0.lo) else 0) (if(if(i64.wrap (IntKind.u64.wrap ((if(f188 b1.hi)>(f188 b1.lo) then(f188 b1.hi) else(f188 b1.lo)) - 1)))<a0.hi then(i64.wrap (IntKind.u64.wrap ((if(f188 b1.hi)>(f188 b1.lo) then(f188 b1.hi) else(f188 b1.lo)) - 1))) else a0.hi)>0 then(if(i64.wrap (IntKind.u64.wrap ((if(f188 b1.hi)>(f188 b1.lo) then(f188 b1.hi) else(f188 b1.lo)) - 1)))<a0.hi then(i64.wrap (IntKind.u64.wrap ((if(f188 b1.hi)>(f188 b1.lo) then(f188 b1.hi) else(f188 b1.lo)) - 1))) else a0.hi) else 0))
def f181(a0:aa)(b1:aa):aa:=
 letk (λ(c11v52:Int)=>
 letk (λ(c10v54:Int)=>
 (aa.mk c10v54 c11v52)) λa=>
 (bif (decide (b1.lo<0)) then(bif ((decide (a0.hi<=0))&&(decide (b1.hi<0))) then(a (if a0.lo>(i64.wrap (b1.lo+1)) then a0.lo else(i64.wrap (b1.lo+1)))) else(a (i64.wrap (b1.lo+1)))) else(a 0))) λc=>
 (bif (decide (b1.hi>0)) then(bif ((decide (a0.lo>=0))&&(decide (b1.lo>0))) then(c (if a0.hi<(i64.wrap (b1.hi - 1)) then a0.hi else(i64.wrap (b1.hi - 1)))) else(c (i64.wrap (b1.hi - 1)))) else(c 0))
def f189_l1(a:List Bool)(e:Unit->oB):Nat->Int->oB
 |0,_=>none
 |n+1,c=>
 (bif (decide (c<(a.length:Int))) then (idx a c).bind λf=>
 (bif f then some true else(f189_l1 a e n (i64.wrap (c+1)))) else(e ()))
def f189(a:List Bool):oB:=
 letk (λ(_:Unit)=>
 some false) λc=>
 (f189_l1 a c (Int.toNat ((a.length:Int) - 0)+1) 0)
def f190(a:Bool):Int:=
 (bif a then 1 else 0)
def f182(c:Int)(a1:aa)(b2:aa):Option aa:=
 letk (λ(e:Bool)(f:Bool)=>
 some (aa.mk (f190 (!f)) (f190 e))) λa=>
 (bif (decide (c=7)) then (f189 [(decide (a1.lo<b2.hi)),(decide (a1.hi>b2.lo))]).bind λg=>
 (a (decide ((if b2.lo>a1.lo then b2.lo else a1.lo)<=(if b2.hi<a1.hi then b2.hi else a1.hi))) g) else(bif (decide (c=8)) then (f189 [(decide (a1.lo<b2.hi)),(decide (a1.hi>b2.lo))]).bind λh=>
 (a h (decide ((if b2.lo>a1.lo then b2.lo else a1.lo)<=(if b2.hi<a1.hi then b2.hi else a1.hi)))) else(bif (decide (c=9)) then (f189 [(decide ((if b2.lo>a1.lo then b2.lo else a1.lo)<=(if b2.hi<a1.hi then b2.hi else a1.hi))),(decide (a1.hi>b2.lo))]).bind λj=>
 (a (decide (a1.lo<b2.hi)) j) else(bif (decide (c=10)) then (f189 [(decide (a1.lo<b2.hi)),(decide ((if b2.lo>a1.lo then b2.lo else a1.lo)<=(if b2.hi<a1.hi then b2.hi else a1.hi)))]).bind λk=>
 (a k (decide (a1.hi>b2.lo))) else(bif (decide (c=11)) then (f189 [(decide (a1.lo<b2.hi)),(decide ((if b2.lo>a1.lo then b2.lo else a1.lo)<=(if b2.hi<a1.hi then b2.hi else a1.hi)))]).bind λm=>
 (a (decide (a1.hi>b2.lo)) m) else (f189 [(decide ((if b2.lo>a1.lo then b2.lo else a1.lo)<=(if b2.hi<a1.hi then b2.hi else a1.hi))),(decide (a1.hi>b2.lo))]).bind λp=>
 (a p (decide (a1.lo<b2.hi))))))))
def f38(a0:aa)(b1:aa):Bool:=
 ((f71 a0)||((decide (a0.lo>=b1.lo))&&(decide (a0.hi<=b1.hi))))
def f192(a:Int)(a1:Int)(b2:Int):Option (Int×Bool):=
 (bif (decide (a=1)) then some ((i64.wrap (a1+b2)),true) else(bif (decide (a=2)) then some ((i64.wrap (a1 - b2)),true) else letk (λ(_:Unit)=>
 (bif decide (a=1) then letk (λ(_:Unit)=>
 some ((f197 a1 b2),true)) λg=>
 (g ()) else(bif decide (a=2) then letk (λ(_:Unit)=>
 some ((f198 a1 b2),true)) λh=>
 (h ()) else(bif decide (a=3) then letk (λ(_:Unit)=>
 some ((f199 a1 b2),true)) λj=>
 (j ()) else(bif decide (a=4) then letk (λ(k:Bool)(m:Int)=>
 some (m,k)) λc=>
 (bif (decide (b2=0)) then(c false 0) else (f201 a1 b2).bind λp=>
 (c true p)) else(bif decide (a=5) then letk (λ(r:Bool)(t:Int)=>
 some (t,r)) λe=>
 (bif (decide (b2=0)) then(e false 0) else (f202 a1 b2).bind λw=>
 (e true w)) else(bif decide (a=6) then letk (λ(x:Bool)(y:Int)=>
 some (y,x)) λf=>
 (bif (decide (b2=0)) then(f false 0) else (f203 a1 b2).bind λA=>
 (f true A)) else(bif decide (a=7) then letk (λ(_:Unit)=>
 some ((f190 (f205 a1 b2)),true)) λB=>
 (B ()) else(bif decide (a=8) then letk (λ(_:Unit)=>
 some ((f190 (f206 a1 b2)),true)) λC=>
 (C ()) else(bif decide (a=9) then letk (λ(_:Unit)=>
 some ((f190 (f207 a1 b2)),true)) λE=>
 (E ()) else(bif decide (a=10) then letk (λ(_:Unit)=>
 some ((f190 (f208 a1 b2)),true)) λF=>
 (F ()) else(bif decide (a=11) then letk (λ(_:Unit)=>
 some ((f190 (f209 a1 b2)),true)) λG=>
 (G ()) else(bif decide (a=12) then letk (λ(_:Unit)=>
 some ((f190 (f210 a1 b2)),true)) λH=>
 (H ()) else(bif decide (a=13) then letk (λ(_:Unit)=>
 some ((f211 a1 b2),true)) λI=>
 (I ()) else(bif decide (a=14) then letk (λ(_:Unit)=>
 some ((f212 a1 b2),true)) λK=>
 (K ()) else(bif decide (a=15) then letk (λ(_:Unit)=>
 some ((f213 a1 b2),true)) λL=>
 (L ()) else(bif decide (a=16) then letk (λ(_:Unit)=>
 some ((f214 a1 b2),true)) λM=>
 (M ()) else(bif decide (a=17) then letk (λ(_:Unit)=>
 some ((f215 a1 b2),true)) λN=>
 (N ()) else(bif decide (a=18) then letk (λ(_:Unit)=>
 some ((f216 a1 b2),true)) λO=>
 (O ()) else some (0,false)))))))))))))))))))) λP=>
 letk (λ(_:Unit)=>
 letk (λ(_:Unit)=>
 letk (λ(_:Unit)=>
 letk (λ(_:Unit)=>
 letk (λ(_:Unit)=>
 letk (λ(_:Unit)=>
 letk (λ(_:Unit)=>
 letk (λ(_:Unit)=>
 letk (λ(_:Unit)=>
 letk (λ(_:Unit)=>
 letk (λ(_:Unit)=>
 letk (λ(_:Unit)=>
 letk (λ(_:Unit)=>
 letk (λ(_:Unit)=>
 letk (λ(_:Unit)=>
 letk (λ(_:Unit)=>
 letk (λ(_:Unit)=>
 letk (λ(_:Unit)=>
 (P ())) λQ=>
 (Q ())) λR=>
 (R ())) λS=>
 (S ())) λT=>
 (T ())) λU=>
 (U ())) λV=>
 (V ())) λX=>
 (X ())) λY=>
 (Y ())) λZ=>
 (Z ())) λad=>
 (ad ())) λag=>
 (ag ())) λal=>
 (al ())) λa0=>
 (a0 ())) λa6=>
 (a6 ())) λa7=>
 (a7 ())) λa8=>
 (a8 ())) λa'=>
 (a' ())) λbb=>
 (bb ())))
def f191(x0:Int)(y1:Int)(c:Int):Option (Int×Bool):=
 (f192 c x0 y1).bind λa=>
 some (a.1,a.2)
def f183(a:Int)(a1:aa)(b2:aa):Option aa:=
 (bif ((!(f38 a1 (aa.mk 0 1)))||(!(f38 b2 (aa.mk 0 1)))) then some f161 else (f174 (λz0 z1=>f191 z0 z1 a) [a1.lo,a1.hi] [b2.lo,b2.hi]).bind λc=>
 some c)
def f184(a0:aa):Option aa:=
 (bif (decide (a0.lo=(-9223372036854775808))) then some f161 else(bif ((decide (a0.lo<=0))&&(decide (a0.hi>=0))) then (f152 0 [(i64.wrap (0 - a0.lo)),a0.hi]).bind λa=>
 some a else (f152 (if(i64.wrap (0 - a0.lo))>a0.lo then(i64.wrap (0 - a0.lo)) else a0.lo) [(if(i64.wrap (0 - a0.hi))>a0.hi then(i64.wrap (0 - a0.hi)) else a0.hi)]).bind λc=>
 some c))
def f157(a:Int)(a1:aa)(b2:aa):Option aa:=
 (bif ((f71 a1)||((f71 b2)&&(!(f173 a)))) then some f151 else(bif (decide (a=1)) then (f174 (λz0 z1=>some (f175 z0 z1)) [a1.lo,a1.hi] [b2.lo,b2.hi]).bind λg=>
 some g else(bif (decide (a=2)) then (f174 (λz0 z1=>some (f176 z0 z1)) [a1.lo,a1.hi] [b2.lo,b2.hi]).bind λh=>
 some h else(bif (decide (a=3)) then (f174 (λz0 z1=>some (f177 z0 z1)) [a1.lo,a1.hi] [b2.lo,b2.hi]).bind λj=>
 some j else(bif (decide (a=4)) then (f179 b2).bind λk=>
 (f174 f178 [a1.lo,a1.hi] k).bind λm=>
 some m else letk (λ(p:Bool)=>
 (bif p then(bif (((decide (b2.lo=0))&&((decide (b2.hi=0))&&true))) then some f151 else(bif (decide (a=5)) then some (f180 a1 b2) else some (f181 a1 b2))) else letk (λ(r:Bool)=>
 (bif r then (f182 a a1 b2).bind λt=>
 some t else letk (λ(w:Bool)=>
 (bif w then (f183 a a1 b2).bind λx=>
 some x else(bif (decide (a=16)) then (f174 (λz0 z1=>some (f176 z0 z1)) [0] [a1.lo,a1.hi]).bind λy=>
 some y else(bif (decide (a=18)) then (f174 (λz0 z1=>some (f176 z0 z1)) [1] [a1.lo,a1.hi]).bind λA=>
 some A else(bif (decide (a=17)) then (f184 a1).bind λB=>
 some B else some f151))))) λe=>
 (bif (decide (a=13)) then(e (decide (a=13))) else(bif (decide (a=14)) then(e (decide (a=14))) else(e (decide (a=15))))))) λc=>
 (bif (decide (a=7)) then(c (decide (a=7))) else(bif (decide (a=8)) then(c (decide (a=8))) else(bif (decide (a=9)) then(c (decide (a=9))) else(bif (decide (a=10)) then(c (decide (a=10))) else(bif (decide (a=11)) then(c (decide (a=11))) else(c (decide (a=12)))))))))) λf=>
 (bif (decide (a=5)) then(f (decide (a=5))) else(f (decide (a=6)))))))))
def f130(o0:Int):Bool:=
 ((decide (o0>=42))&&(decide (o0<58)))
def f68(v0:Int):aa:=
 (aa.mk v0 v0)
def f39(a:Int)(c:Int):aa:=
 (aa.mk a c)
def f155(v0:aa):Bool:=
 (decide (v0.lo>v0.hi))
def f101_l1(a:List aa)(e:Int->Int->Option (aa)):Nat->Int->Int->Int->Option (aa)
 |0,_,_,_=>none
 |n+1,c,c00v28,c01v29=>
 (bif (decide (c<(a.length:Int))) then (idx a c).bind λg=>
 (f120 (aa.mk c00v28 c01v29) g).bind λf=>
 (f101_l1 a e n (i64.wrap (c+1)) f.lo f.hi) else(e c00v28 c01v29))
def f101(a:aa)(c:List aa):Option aa:=
 letk (λ(c00v21:Int)(c01v22:Int)=>
 some (aa.mk c00v21 c01v22)) λe=>
 (f101_l1 c e (Int.toNat ((c.length:Int) - 0)+1) 0 a.lo a.hi)
def f69_l1(o0:Obj)(c:Int->Int->Option (aa)):Nat->Int->Int->Int->Option (aa)
 |0,_,_,_=>none
 |n+1,a,c10v39,c11v40=>
 (bif (decide (a<(o0.set_.length:Int))) then (idx o0.set_ a).bind λf=>
 (f101 (aa.mk c10v39 c11v40) [(f68 (i64.wrap (f+1)))]).bind λe=>
 (f69_l1 o0 c n (i64.wrap (a+1)) e.lo e.hi) else(c c10v39 c11v40))
def f69(o0:Obj):Option aa:=
 (bif (!o0.ptr) then some (f39 o0.lo o0.hi) else letk (λ(c10v32:Int)(c11v33:Int)=>
 some (aa.mk c10v32 c11v33)) λa=>
 (f69_l1 o0 a (Int.toNat ((o0.set_.length:Int) - 0)+1) 0 ((f68 0).lo) ((f68 0).hi)))
def f158(v0:aa):aa:=
 letk (λ(c00v20:Int)=>
 letk (λ(c01v22:Int)=>
 (aa.mk c00v20 c01v22)) λa=>
 (bif (decide (v0.hi=0)) then(a (i64.wrap (v0.hi - 1))) else(a v0.hi))) λc=>
 (bif (decide (v0.lo=0)) then(c (i64.wrap (v0.lo+1))) else(c v0.lo))
def f154(a0:aa)(b1:aa):aa:=
 (bif (!(f71 (aa.mk (if b1.lo>a0.lo then b1.lo else a0.lo) (if b1.hi<a0.hi then b1.hi else a0.hi)))) then(aa.mk (if b1.lo>a0.lo then b1.lo else a0.lo) (if b1.hi<a0.hi then b1.hi else a0.hi)) else f151)
def f133(a0:aa)(b1:aa)(a:aa):Option aa:=
 (bif ((f71 a0)||(f71 b1)) then (f120 a0 b1).bind λf=>
 some f else letk (λ(c10v60:Int)=>
 letk (λ(c11v62:Int)=>
 some (aa.mk c10v60 c11v62)) λc=>
 (bif (decide (a0.hi>=b1.hi)) then(c a0.hi) else(bif (decide (a.hi>=b1.hi)) then(c a.hi) else(c f161.hi)))) λe=>
 (bif (decide (a0.lo<=b1.lo)) then(e a0.lo) else(bif (decide (a.lo<=b1.lo)) then(e a.lo) else(e f161.lo))))
def f123_l1(wy:List (Int×(Nat->aa)))(at1:Int)(c:(Nat->aa)->Option (List (Int×(Nat->aa)))):Nat->Int->(Nat->aa)->Option (List (Int×(Nat->aa)))
 |0,_,_=>none
 |n+1,a,c30v59=>
 (bif (decide (a<16)) then aH (bS 16 a)<|
 aH (bS 16 a)<|
 (f101 (c30v59 a.toNat) [((Option.getD (bT wy at1) (λ_=>(aa.mk 0 0))) a.toNat)]).bind λe=>
 aH (bS 16 a)<|
 (f123_l1 wy at1 c n (i64.wrap (a+1)) (bn c30v59 a.toNat e)) else(c c30v59))
def f123(t:ah)(rg:List aa)(fc:List am)(sl:List (List aa))(pc:Int)(rr:Nat->aa)(pl:List ((Int×Int)×aa))(wy:List (Int×(Nat->aa)))(at1:Int)(r2:Nat->aa):Option (List (Int×(Nat->aa))):=
 (bif ((decide (at1<0))||(decide (at1>=(fc.length:Int)))) then some wy else letk (λ(c30v54:Nat->aa)=>
 some (bP wy at1 c30v54)) λa=>
 (bif (Option.isSome (bT wy at1)) then(f123_l1 wy at1 a (Int.toNat (16 - 0)+1) 0 r2) else(a r2)))
def f156(t:ah)(rg:List aa)(fc:List am)(sl:List (List aa))(pc:Int)(rr:Nat->aa)(pl:List ((Int×Int)×aa))(wy:List (Int×(Nat->aa)))(o1:Int)(k2:Int)(v3:aa):Option (List ((Int×Int)×aa)):=
 letk (λ(c30v39:Int)(c31v40:Int)=>
 some (bP pl (o1,k2) (aa.mk c30v39 c31v40))) λa=>
 (bif (Option.isSome (bT pl (o1,k2))) then (f101 v3 [(Option.getD (bT pl (o1,k2)) (aa.mk 0 0))]).bind λc=>
 (a c.lo c.hi) else(a v3.lo v3.hi))
def f102_l1(t:ah)(pc:Int)(e:Bool)(f:Int->Option (List (Int×(Nat->aa))))(g:Unit->Option (List (Int×(Nat->aa)))):Nat->Int->Option (List (Int×(Nat->aa)))
 |0,_=>none
 |n+1,a=>
 (bif (decide (a<(t.handlers.length:Int))) then (idx t.handlers a).bind λc=>
 letk (λ(_:Unit)=>
 (bif (((decide (c.from_<=pc))&&(decide (pc<c.to)))&&(c.clean||(!e))) then(f a) else(f102_l1 t pc e f g n (i64.wrap (a+1))))) λh=>
 (h ()) else(g ()))
def f102(t:ah)(rg:List aa)(fc:List am)(sl:List (List aa))(pc:Int)(rr:Nat->aa)(pl:List ((Int×Int)×aa))(wy:List (Int×(Nat->aa)))(e:Bool):Option (List (Int×(Nat->aa))):=
 letk (λ(a:Int)=>
 (bif (decide (a>=0)) then (idx t.handlers a).bind λf=>
 (f123 t rg fc sl pc rr pl wy f.at_ (λ_=>(aa.mk 0 0))).bind λg=>
 some g else some wy)) λc=>
 letk (λ(_:Unit)=>
 (c (-1))) λh=>
 (f102_l1 t pc e c h (Int.toNat ((t.handlers.length:Int) - 0)+1) 0)
def f153(t:ah)(rg:List aa)(fc:List am)(sl:List (List aa))(pc:Int)(rr:Nat->aa)(pl:List ((Int×Int)×aa))(wy:List (Int×(Nat->aa)))(d1:Int)(v2:aa):Option (List (Int×(Nat->aa))):=
 (bif (!(f155 v2)) then aH (bS 16 d1)<|
 (f123 t rg fc sl pc rr pl wy (i64.wrap (pc+1)) (bn rr d1.toNat v2)).bind λa=>
 some a else some wy)
def f159(t:ah)(rg:List aa)(fc:List am)(sl:List (List aa))(pc:Int)(rr:Nat->aa)(pl:List ((Int×Int)×aa))(wy:List (Int×(Nat->aa)))(a:Int)(d2:Int)(v3:aa):Option (List (Int×(Nat->aa))):=
 (bif (!(f155 v3)) then aH (bS 16 d2)<|
 (f123 t rg fc sl pc rr pl wy a (bn rr d2.toNat v3)).bind λc=>
 some c else some wy)
def f124_l1(sl:List (List aa))(rr:Nat->aa)(x1:aG)(e:Int->Int->Option ((Nat->aa)×(List (Int×(Nat->aa))))):Nat->Int->Int->Int->Option ((Nat->aa)×(List (Int×(Nat->aa))))
 |0,_,_,_=>none
 |n+1,c,c50v167,c51v168=>
 (bif (decide (c<(List.length (bQ sl ((f154 (rr x1.a.toNat) (f39 1 (sl.length:Int))).lo) ((f154 (rr x1.a.toNat) (f39 1 (sl.length:Int))).hi)):Int))) then (idx (bQ sl ((f154 (rr x1.a.toNat) (f39 1 (sl.length:Int))).lo) ((f154 (rr x1.a.toNat) (f39 1 (sl.length:Int))).hi)) c).bind λg=>
 (idx g 0).bind λh=>
 (f101 (aa.mk c50v167 c51v168) [h]).bind λf=>
 (f124_l1 sl rr x1 e n (i64.wrap (c+1)) f.lo f.hi) else(e c50v167 c51v168))
def f124(t:ah)(rg:List aa)(fc:List am)(sl:List (List aa))(pc:Int)(rr:Nat->aa)(pl:List ((Int×Int)×aa))(wy:List (Int×(Nat->aa)))(x1:aG):Option ((Nat->aa)×(List (Int×(Nat->aa)))):=
 aH (bS 16 x1.a)<|
 (bif (decide (x1.op=3)) then (idx sl x1.n).bind λf=>
 (idx f x1.m).bind λg=>
 (f153 t rg fc sl pc rr pl wy x1.d g).bind λh=>
 some (rr,h) else(bif (decide (x1.op=5)) then(bif (f155 (f154 (rr x1.a.toNat) (f39 0 (i64.wrap (x1.b - 1))))) then some (rr,wy) else (idx sl x1.n).bind λc=>
 aH (dR c (i64.wrap (x1.m+((f154 (rr x1.a.toNat) (f39 0 (i64.wrap (x1.b - 1)))).lo))) (i64.wrap ((i64.wrap (x1.m+((f154 (rr x1.a.toNat) (f39 0 (i64.wrap (x1.b - 1)))).hi)))+1)))<|
 aH (bS 16 x1.a)<|
 (idx (bQ c (i64.wrap (x1.m+((f154 (rr x1.a.toNat) (f39 0 (i64.wrap (x1.b - 1)))).lo))) (i64.wrap ((i64.wrap (x1.m+((f154 (rr x1.a.toNat) (f39 0 (i64.wrap (x1.b - 1)))).hi)))+1))) 0).bind λj=>
 aH (dR (bQ c (i64.wrap (x1.m+((f154 (rr x1.a.toNat) (f39 0 (i64.wrap (x1.b - 1)))).lo))) (i64.wrap ((i64.wrap (x1.m+((f154 (rr x1.a.toNat) (f39 0 (i64.wrap (x1.b - 1)))).hi)))+1))) 1 (List.length (bQ c (i64.wrap (x1.m+((f154 (rr x1.a.toNat) (f39 0 (i64.wrap (x1.b - 1)))).lo))) (i64.wrap ((i64.wrap (x1.m+((f154 (rr x1.a.toNat) (f39 0 (i64.wrap (x1.b - 1)))).hi)))+1))):Int))<|
 (f101 j (bQ (bQ c (i64.wrap (x1.m+((f154 (rr x1.a.toNat) (f39 0 (i64.wrap (x1.b - 1)))).lo))) (i64.wrap ((i64.wrap (x1.m+((f154 (rr x1.a.toNat) (f39 0 (i64.wrap (x1.b - 1)))).hi)))+1))) 1 (List.length (bQ c (i64.wrap (x1.m+((f154 (rr x1.a.toNat) (f39 0 (i64.wrap (x1.b - 1)))).lo))) (i64.wrap ((i64.wrap (x1.m+((f154 (rr x1.a.toNat) (f39 0 (i64.wrap (x1.b - 1)))).hi)))+1))):Int))).bind λk=>
 (f153 t rg fc sl pc (bn rr x1.a.toNat (f154 (rr x1.a.toNat) (f39 0 (i64.wrap (x1.b - 1))))) pl wy x1.d k).bind λp=>
 some ((bn rr x1.a.toNat (f154 (rr x1.a.toNat) (f39 0 (i64.wrap (x1.b - 1))))),p)) else(bif (decide (x1.op=7)) then(bif (f155 (f154 (rr x1.a.toNat) (f39 1 (sl.length:Int)))) then some (rr,wy) else (idx sl (i64.wrap (((f154 (rr x1.a.toNat) (f39 1 (sl.length:Int))).lo) - 1))).bind λr=>
 (idx r 0).bind λe=>
 letk (λ(c50v159:Int)(c51v160:Int)=>
 aH (bS 16 x1.a)<|
 (f153 t rg fc sl pc (bn rr x1.a.toNat (f154 (rr x1.a.toNat) (f39 1 (sl.length:Int)))) pl wy x1.d (aa.mk c50v159 c51v160)).bind λw=>
 some ((bn rr x1.a.toNat (f154 (rr x1.a.toNat) (f39 1 (sl.length:Int)))),w)) λx=>
 aH (dR sl ((f154 (rr x1.a.toNat) (f39 1 (sl.length:Int))).lo) ((f154 (rr x1.a.toNat) (f39 1 (sl.length:Int))).hi))<|
 (f124_l1 sl rr x1 x (Int.toNat ((List.length (bQ sl ((f154 (rr x1.a.toNat) (f39 1 (sl.length:Int))).lo) ((f154 (rr x1.a.toNat) (f39 1 (sl.length:Int))).hi)):Int) - 0)+1) 0 e.lo e.hi)) else some (rr,wy))))
def f125_l1(t:ah)(rg:List aa)(fc:List am)(sl:List (List aa))(pc:Int)(rr:Nat->aa)(wy:List (Int×(Nat->aa)))(x1:aG)(e:aa)(f:(List ((Int×Int)×aa))->Option ((Nat->aa)×(List ((Int×Int)×aa))×(List (Int×(Nat->aa))))):Nat->Int->(List ((Int×Int)×aa))->Option ((Nat->aa)×(List ((Int×Int)×aa))×(List (Int×(Nat->aa))))
 |0,_,_=>none
 |n+1,c,g=>
 aH (bS 16 x1.a)<|
 (bif (decide (c<=(((bn rr x1.a.toNat (f154 (rr x1.a.toNat) (f39 0 (i64.wrap (x1.b - 1))))) x1.a.toNat).hi))) then (f156 t rg fc sl pc (bn rr x1.a.toNat (f154 (rr x1.a.toNat) (f39 0 (i64.wrap (x1.b - 1))))) g wy x1.n (i64.wrap (x1.m+c)) (f154 ((bn rr x1.a.toNat (f154 (rr x1.a.toNat) (f39 0 (i64.wrap (x1.b - 1))))) x1.d.toNat) e)).bind λh=>
 (f125_l1 t rg fc sl pc rr wy x1 e f n (i64.wrap (c+1)) h) else(f g))
def f125_l2(t:ah)(rg:List aa)(fc:List am)(sl:List (List aa))(pc:Int)(rr:Nat->aa)(wy:List (Int×(Nat->aa)))(x1:aG)(g:Bool->(List ((Int×Int)×aa))->Option ((Nat->aa)×(List ((Int×Int)×aa))×(List (Int×(Nat->aa))))):Nat->Bool->Int->(List ((Int×Int)×aa))->Option ((Nat->aa)×(List ((Int×Int)×aa))×(List (Int×(Nat->aa))))
 |0,_,_,_=>none
 |n+1,h,e,f=>
 aH (bS 16 x1.a)<|
 (bif (decide (e<=(((bn rr x1.a.toNat (f154 (rr x1.a.toNat) (f39 1 (sl.length:Int)))) x1.a.toNat).hi))) then letk (λ(k:Bool)(m:List ((Int×Int)×aa))(c40v239:Int)(c41v240:Int)=>
 (f125_l2 t rg fc sl pc rr wy x1 g n k (i64.wrap (e+1)) m)) λj=>
 aH (bS 16 x1.d)<|
 (idx rg (i64.wrap (e - 1))).bind λc=>
 (bif (!(f155 (f154 ((bn rr x1.a.toNat (f154 (rr x1.a.toNat) (f39 1 (sl.length:Int)))) x1.d.toNat) c))) then (f156 t rg fc sl pc (bn rr x1.a.toNat (f154 (rr x1.a.toNat) (f39 1 (sl.length:Int)))) f wy (i64.wrap (e - 1)) 0 (f154 ((bn rr x1.a.toNat (f154 (rr x1.a.toNat) (f39 1 (sl.length:Int)))) x1.d.toNat) c)).bind λp=>
 (j true p ((f154 ((bn rr x1.a.toNat (f154 (rr x1.a.toNat) (f39 1 (sl.length:Int)))) x1.d.toNat) c).lo) ((f154 ((bn rr x1.a.toNat (f154 (rr x1.a.toNat) (f39 1 (sl.length:Int)))) x1.d.toNat) c).hi)) else(j h f ((f154 ((bn rr x1.a.toNat (f154 (rr x1.a.toNat) (f39 1 (sl.length:Int)))) x1.d.toNat) c).lo) ((f154 ((bn rr x1.a.toNat (f154 (rr x1.a.toNat) (f39 1 (sl.length:Int)))) x1.d.toNat) c).hi))) else(g h f))
def f125(t:ah)(rg:List aa)(fc:List am)(sl:List (List aa))(pc:Int)(rr:Nat->aa)(pl:List ((Int×Int)×aa))(wy:List (Int×(Nat->aa)))(x1:aG):Option ((Nat->aa)×(List ((Int×Int)×aa))×(List (Int×(Nat->aa)))):=
 aH (bS 16 x1.a)<|
 (bif (decide (x1.op=4)) then (idx rg x1.n).bind λc=>
 (bif (!(f155 (f154 (rr x1.a.toNat) c))) then (f156 t rg fc sl pc rr pl wy x1.n x1.m (f154 (rr x1.a.toNat) c)).bind λg=>
 (f153 t rg fc sl pc rr g wy x1.a (f154 (rr x1.a.toNat) c)).bind λj=>
 some (rr,g,j) else some (rr,pl,wy)) else(bif (decide (x1.op=6)) then aH (bS 16 x1.a)<|
 aH (bS 16 x1.d)<|
 (idx rg x1.n).bind λe=>
 aH (bS 16 x1.a)<|
 (bif ((f155 ((bn rr x1.a.toNat (f154 (rr x1.a.toNat) (f39 0 (i64.wrap (x1.b - 1))))) x1.a.toNat))||(f155 (f154 ((bn rr x1.a.toNat (f154 (rr x1.a.toNat) (f39 0 (i64.wrap (x1.b - 1))))) x1.d.toNat) e))) then some ((bn rr x1.a.toNat (f154 (rr x1.a.toNat) (f39 0 (i64.wrap (x1.b - 1))))),pl,wy) else letk (λ(h:List ((Int×Int)×aa))=>
 (f153 t rg fc sl pc (bn rr x1.a.toNat (f154 (rr x1.a.toNat) (f39 0 (i64.wrap (x1.b - 1))))) h wy x1.d (f154 ((bn rr x1.a.toNat (f154 (rr x1.a.toNat) (f39 0 (i64.wrap (x1.b - 1))))) x1.d.toNat) e)).bind λk=>
 some ((bn rr x1.a.toNat (f154 (rr x1.a.toNat) (f39 0 (i64.wrap (x1.b - 1))))),h,k)) λp=>
 aH (bS 16 x1.a)<|
 (f125_l1 t rg fc sl pc rr wy x1 e p 9223372036854775808 (((bn rr x1.a.toNat (f154 (rr x1.a.toNat) (f39 0 (i64.wrap (x1.b - 1))))) x1.a.toNat).lo) pl)) else(bif (decide (x1.op=8)) then aH (bS 16 x1.a)<|
 letk (λ(r:Bool)(f:List ((Int×Int)×aa))=>
 (bif r then (f123 t rg fc sl pc (bn rr x1.a.toNat (f154 (rr x1.a.toNat) (f39 1 (sl.length:Int)))) f wy (i64.wrap (pc+1)) (bn rr x1.a.toNat (f154 (rr x1.a.toNat) (f39 1 (sl.length:Int))))).bind λw=>
 some ((bn rr x1.a.toNat (f154 (rr x1.a.toNat) (f39 1 (sl.length:Int)))),f,w) else some ((bn rr x1.a.toNat (f154 (rr x1.a.toNat) (f39 1 (sl.length:Int)))),f,wy))) λx=>
 aH (bS 16 x1.a)<|
 (f125_l2 t rg fc sl pc rr wy x1 x 9223372036854775808 false (((bn rr x1.a.toNat (f154 (rr x1.a.toNat) (f39 1 (sl.length:Int)))) x1.a.toNat).lo) pl) else some (rr,pl,wy))))
def f126(t:ah)(rg:List aa)(fc:List am)(sl:List (List aa))(pc:Int)(rr:Nat->aa)(pl:List ((Int×Int)×aa))(wy:List (Int×(Nat->aa)))(x1:aG):Option (List (Int×(Nat->aa))):=
 aH (bS 16 x1.a)<|
 aH (bS 16 x1.b)<|
 (f157 (IntKind.u8.wrap (1+(IntKind.u8.wrap (x1.op - 9)))) (rr x1.a.toNat) (rr x1.b.toNat)).bind λc=>
 (f153 t rg fc sl pc rr pl wy x1.d c).bind λe=>
 some e
def f127(t:ah)(rg:List aa)(fc:List am)(sl:List (List aa))(pc:Int)(rr:Nat->aa)(pl:List ((Int×Int)×aa))(wy:List (Int×(Nat->aa)))(x1:aG):Option (List (Int×(Nat->aa))):=
 aH (bS 16 x1.a)<|
 letk (λ(f:Bool)(c40v50:Int)(c41v51:Int)=>
 letk (λ(g:List (Int×(Nat->aa)))=>
 (f153 t rg fc sl pc rr pl g x1.a (aa.mk c40v50 c41v51)).bind λh=>
 some h) λc=>
 (bif (!f) then (f102 t rg fc sl pc rr pl wy false).bind λj=>
 (c j) else(c wy))) λe=>
 (bif (decide (x1.op=27)) then(e (f38 (rr x1.a.toNat) (f39 x1.n x1.m)) ((f154 (rr x1.a.toNat) (f39 x1.n x1.m)).lo) ((f154 (rr x1.a.toNat) (f39 x1.n x1.m)).hi)) else(e (!(f40 (rr x1.a.toNat) 0)) ((f158 (rr x1.a.toNat)).lo) ((f158 (rr x1.a.toNat)).hi)))
def f128_l1(t:ah)(rg:List aa)(fc:List am)(sl:List (List aa))(pc:Int)(rr:Nat->aa)(pl:List ((Int×Int)×aa))(x1:aG)(f:Int)(g:(List (Int×(Nat->aa)))->Option (List (Int×(Nat->aa)))):Nat->Int->(List (Int×(Nat->aa)))->Option (List (Int×(Nat->aa)))
 |0,_,_=>none
 |n+1,c,e=>
 (bif (decide (c<x1.m)) then letk (λ(j:List (Int×(Nat->aa)))=>
 (f128_l1 t rg fc sl pc rr pl x1 f g n (i64.wrap (c+1)) j)) λh=>
 (bif ((decide ((i64.wrap (x1.n+c))>=x1.n))&&(f40 (f154 (rr x1.a.toNat) (f39 x1.n f)) (i64.wrap (x1.n+c)))) then (f159 t rg fc sl pc rr pl e (i64.wrap (x1.to+c)) x1.a (f68 (i64.wrap (x1.n+c)))).bind λk=>
 (h k) else(h e)) else(g e))
def f128(t:ah)(rg:List aa)(fc:List am)(sl:List (List aa))(pc:Int)(rr:Nat->aa)(pl:List ((Int×Int)×aa))(wy:List (Int×(Nat->aa)))(x1:aG):Option (List (Int×(Nat->aa))):=
 aH (bS 16 x1.a)<|
 (bif (decide (x1.op=29)) then (f123 t rg fc sl pc rr pl wy x1.to rr).bind λg=>
 some g else(bif (decide (x1.op=30)) then (f159 t rg fc sl pc rr pl wy x1.to x1.a (f154 (rr x1.a.toNat) (f68 0))).bind λh=>
 (f153 t rg fc sl pc rr pl h x1.a (f158 (rr x1.a.toNat))).bind λj=>
 some j else(bif (decide (x1.op=31)) then (f159 t rg fc sl pc rr pl wy x1.to x1.a (f158 (rr x1.a.toNat))).bind λk=>
 (f153 t rg fc sl pc rr pl k x1.a (f154 (rr x1.a.toNat) (f68 0))).bind λp=>
 some p else(bif (decide (x1.op=32)) then letk (λ(c:Int)=>
 letk (λ(e:List (Int×(Nat->aa)))=>
 (bif (!(f38 (rr x1.a.toNat) (f39 x1.n c))) then (f123 t rg fc sl pc rr pl e (i64.wrap (pc+1)) rr).bind λr=>
 some r else some e)) λw=>
 (f128_l1 t rg fc sl pc rr pl x1 c w (Int.toNat (x1.m - 0)+1) 0 wy)) λf=>
 (bif (decide ((i64.wrap ((i64.wrap (x1.n+x1.m)) - 1))<x1.n)) then(f 9223372036854775807) else(f (i64.wrap ((i64.wrap (x1.n+x1.m)) - 1)))) else some wy))))
def f129(t:ah)(rg:List aa)(fc:List am)(sl:List (List aa))(pc:Int)(rr:Nat->aa)(pl:List ((Int×Int)×aa))(wy:List (Int×(Nat->aa)))(x1:aG):Option (List (Int×(Nat->aa))):=
 aH (bS 16 x1.a)<|
 letk (λ(c:List (Int×(Nat->aa)))=>
 (bif ((decide (x1.op=33))||(!(f155 (f154 (rr x1.a.toNat) (f39 1 t.excs))))) then (f102 t rg fc sl pc rr pl c false).bind λf=>
 some f else some c)) λe=>
 (bif (decide (x1.op=35)) then (f153 t rg fc sl pc rr pl wy x1.a (f154 (rr x1.a.toNat) (f68 0))).bind λg=>
 (e g) else(e wy))
def f131(t:ah)(rg:List aa)(fc:List am)(sl:List (List aa))(pc:Int)(rr:Nat->aa)(pl:List ((Int×Int)×aa))(wy:List (Int×(Nat->aa)))(x1:aG):Option (List (Int×(Nat->aa))):=
 (bif (decide (x1.op=1)) then (f153 t rg fc sl pc rr pl wy x1.d (f68 x1.n)).bind λc=>
 some c else(bif (decide (x1.op=2)) then aH (bS 16 x1.a)<|
 (f153 t rg fc sl pc rr pl wy x1.d (rr x1.a.toNat)).bind λe=>
 some e else(bif (decide (x1.op=36)) then (f153 t rg fc sl pc rr pl wy x1.d (f39 (-2) t.excs)).bind λf=>
 some f else(bif (decide (x1.op=38)) then (f102 t rg fc sl pc rr pl wy false).bind λg=>
 (f153 t rg fc sl pc rr pl g x1.d (f39 (-9223372036854775808) 9223372036854775807)).bind λh=>
 some h else(bif (decide (x1.op=42)) then (f153 t rg fc sl pc rr pl wy x1.d (f39 0 9007199254740992)).bind λj=>
 some j else(bif (decide (x1.op=43)) then (f153 t rg fc sl pc rr pl wy x1.d (f39 0 32)).bind λk=>
 some k else (f123 t rg fc sl pc rr pl wy (i64.wrap (pc+1)) rr).bind λm=>
 some m))))))
def f160_l3(t:ah)(rg:List aa)(fc:List am)(sl:List (List aa))(pc:Int)(rr:Nat->aa)(wy:List (Int×(Nat->aa)))(a:Int)(e:(List ((Int×Int)×aa))->Option (List ((Int×Int)×aa)))(f:List aa):Nat->Int->(List ((Int×Int)×aa))->Option (List ((Int×Int)×aa))
 |0,_,_=>none
 |nb+1,c,g=>
 (bif (decide (c<(f.length:Int))) then (idx rg a).bind λh=>
 (f156 t rg fc sl pc rr g wy a c h).bind λj=>
 (f160_l3 t rg fc sl pc rr wy a e f nb (i64.wrap (c+1)) j) else(e g))
def f160_l2(t:ah)(rg:List aa)(fc:List am)(sl:List (List aa))(pc:Int)(rr:Nat->aa)(wy:List (Int×(Nat->aa)))(e:(List ((Int×Int)×aa))->Int->Int->Option (List ((Int×Int)×aa)))(a:aa):Nat->Int->(List ((Int×Int)×aa))->Option (List ((Int×Int)×aa))
 |0,_,_=>none
 |na+1,c,f=>
 (bif (decide (c<=(if(Int.fdiv a.hi (2^min (Int.toNat 32) i64.bits))<(i64.wrap ((sl.length:Int) - 1)) then(Int.fdiv a.hi (2^min (Int.toNat 32) i64.bits)) else(i64.wrap ((sl.length:Int) - 1))))) then letk (λ(h:List ((Int×Int)×aa))=>
 (f160_l2 t rg fc sl pc rr wy e a na (i64.wrap (c+1)) h)) λj=>
 (idx sl c).bind λg=>
 (f160_l3 t rg fc sl pc rr wy c j g (Int.toNat ((g.length:Int) - 0)+1) 0 f) else(e f a.lo a.hi))
def f160_l1(t:ah)(rg:List aa)(fc:List am)(sl:List (List aa))(pc:Int)(rr:Nat->aa)(wy:List (Int×(Nat->aa)))(x1:aG)(a:cq):Nat->Int->(List ((Int×Int)×aa))->Option (List ((Int×Int)×aa))
 |0,_,_=>none
 |n+1,c,f=>
 (bif (decide (c<(a.outs.length:Int))) then letk (λ(g:List ((Int×Int)×aa))(c40v98:Int)(c41v99:Int)=>
 (f160_l1 t rg fc sl pc rr wy x1 a n (i64.wrap (c+1)) g)) λh=>
 (idx sl x1.n).bind λj=>
 (idx j (i64.wrap ((a.ins.length:Int)+c))).bind λe=>
 (f160_l2 t rg fc sl pc rr wy h e 9223372036854775808 (if(Int.fdiv e.lo (2^min (Int.toNat 32) i64.bits))>0 then(Int.fdiv e.lo (2^min (Int.toNat 32) i64.bits)) else 0) f) else some f)
def f160(t:ah)(rg:List aa)(fc:List am)(sl:List (List aa))(pc:Int)(rr:Nat->aa)(pl:List ((Int×Int)×aa))(wy:List (Int×(Nat->aa)))(x1:aG):Option (List ((Int×Int)×aa)):=
 (idx t.tasks x1.a).bind λe=>
 (idx e.entries x1.b).bind λc=>
 (f160_l1 t rg fc sl pc rr wy x1 c (Int.toNat ((c.outs.length:Int) - 0)+1) 0 pl)
def f132_l1(c:(Nat->aa)->Option ((Nat->aa)×(List ((Int×Int)×aa))×(List (Int×(Nat->aa))))):Nat->Int->(Nat->aa)->Option ((Nat->aa)×(List ((Int×Int)×aa))×(List (Int×(Nat->aa))))
 |0,_,_=>none
 |n+1,a,c015v140=>
 (bif (decide (a<16)) then aH (bS 16 a)<|
 (f101 (c015v140 a.toNat) [(f68 0)]).bind λe=>
 aH (bS 16 a)<|
 (f132_l1 c n (i64.wrap (a+1)) (bn c015v140 a.toNat e)) else(c c015v140))
def f132_l2(t:ah)(rg:List aa)(fc:List am)(sl:List (List aa))(pc:Int)(pl:List ((Int×Int)×aa))(c015v135:Nat->aa)(a:bU):Nat->Int->(List (Int×(Nat->aa)))->Option ((Nat->aa)×(List ((Int×Int)×aa))×(List (Int×(Nat->aa))))
 |0,_,_=>none
 |n+1,c,e=>
 (bif (decide (c<(a.alts.length:Int))) then (idx a.alts c).bind λf=>
 (f123 t rg fc sl pc c015v135 pl e f.at_ c015v135).bind λg=>
 (f132_l2 t rg fc sl pc pl c015v135 a n (i64.wrap (c+1)) g) else some (c015v135,pl,e))
def f132(t:ah)(rg:List aa)(fc:List am)(sl:List (List aa))(pc:Int)(rr:Nat->aa)(pl:List ((Int×Int)×aa))(wy:List (Int×(Nat->aa)))(x1:aG):Option ((Nat->aa)×(List ((Int×Int)×aa))×(List (Int×(Nat->aa)))):=
 aH (bS 16 (i64.wrap (BitVec.ofInt i64.bits x1.a&&&BitVec.ofInt i64.bits 15).toNat))<|
 letk (λ(c015v135:Nat->aa)=>
 letk (λ(c:List (Int×(Nat->aa)))=>
 (bif (decide (x1.op=46)) then (f101 (rr (Int.toNat (i64.wrap (BitVec.ofInt i64.bits x1.a&&&BitVec.ofInt i64.bits 15).toNat))) [(f39 (-1) 0)]).bind λj=>
 (f153 t rg fc sl pc c015v135 pl c x1.a j).bind λk=>
 some (c015v135,pl,k) else(bif (decide (x1.op=49)) then (f160 t rg fc sl pc c015v135 pl c x1).bind λg=>
 (f153 t rg fc sl pc c015v135 g c x1.d (f39 0 1)).bind λm=>
 some (c015v135,g,m) else(bif (decide (x1.op=54)) then (f153 t rg fc sl pc c015v135 pl c x1.d (f39 0 1)).bind λp=>
 some (c015v135,pl,p) else(bif (decide (x1.op=52)) then (f123 t rg fc sl pc c015v135 pl c x1.to c015v135).bind λr=>
 some (c015v135,pl,r) else(bif (decide (x1.op=50)) then (idx t.selects x1.n).bind λf=>
 (f123 t rg fc sl pc c015v135 pl c f.else_ c015v135).bind λw=>
 (f132_l2 t rg fc sl pc pl c015v135 f (Int.toNat ((f.alts.length:Int) - 0)+1) 0 w) else (f123 t rg fc sl pc c015v135 pl c (i64.wrap (pc+1)) c015v135).bind λx=>
 some (c015v135,pl,x))))))) λh=>
 (bif (decide (x1.op=57)) then some (c015v135,pl,wy) else letk (λ(y:Bool)=>
 (bif y then (f102 t rg fc sl pc c015v135 pl wy false).bind λA=>
 (h A) else(h wy))) λe=>
 (bif (decide (x1.op=53)) then(e (decide (x1.op=53))) else(bif (decide (x1.op=49)) then(e (decide (x1.op=49))) else(bif (decide (x1.op=54)) then(e (decide (x1.op=54))) else(e (decide (x1.op=50)))))))) λB=>
 (f132_l1 B (Int.toNat (16 - 0)+1) 0 rr)
def f103(t:ah)(rg:List aa)(fc:List am)(sl:List (List aa))(pc:Int)(rr:Nat->aa)(pl:List ((Int×Int)×aa))(wy:List (Int×(Nat->aa)))(o1:Int):Option Nat:=
 (bif (((decide (o1=3))||(decide (o1=5)))||(decide (o1=7))) then some 124 else(bif (((decide (o1=4))||(decide (o1=6)))||(decide (o1=8))) then some 125 else(bif ((decide (o1>=9))&&(decide (o1<=26))) then some 126 else(bif ((decide (o1=27))||(decide (o1=28))) then some 127 else(bif ((decide (o1>=29))&&(decide (o1<=32))) then some 128 else(bif (((decide (o1=33))||(decide (o1=34)))||(decide (o1=35))) then some 129 else(bif (((!(f130 o1))||(decide (o1=42)))||(decide (o1=43))) then some 131 else some 132)))))))
def fm(n:Nat)(t:ah)(rg:List aa)(fc:List am)(sl:List (List aa))(pc:Int)(rr:Nat->aa)(pl:List ((Int×Int)×aa))(wy:List (Int×(Nat->aa)))(x:aG):Option ((Nat->aa)×(List ((Int×Int)×aa))×(List (Int×(Nat->aa)))):=
 bif Nat.beq n 124 then (f124 t rg fc sl pc rr pl wy x).bind λz=>some (z.1,pl,z.2) else
 bif Nat.beq n 125 then (f125 t rg fc sl pc rr pl wy x).bind λz=>some (z.1,z.2.1,z.2.2) else
 bif Nat.beq n 126 then (f126 t rg fc sl pc rr pl wy x).bind λz=>some (rr,pl,z) else
 bif Nat.beq n 127 then (f127 t rg fc sl pc rr pl wy x).bind λz=>some (rr,pl,z) else
 bif Nat.beq n 128 then (f128 t rg fc sl pc rr pl wy x).bind λz=>some (rr,pl,z) else
 bif Nat.beq n 129 then (f129 t rg fc sl pc rr pl wy x).bind λz=>some (rr,pl,z) else
 bif Nat.beq n 131 then (f131 t rg fc sl pc rr pl wy x).bind λz=>some (rr,pl,z) else
 bif Nat.beq n 132 then (f132 t rg fc sl pc rr pl wy x).bind λz=>some (z.1,z.2.1,z.2.2) else
 none
def f104m(sl:List (List aa))(v1:aa)(g:aa)(h:Bool)(o:Int)(k:Int):Option (Bool×(List (List aa))):=
 (idx sl o).bind λj=>
 (idx j k).bind λm=>
 (bif (f38 v1 m) then some (false,sl) else (idx sl o).bind λp=>
 (idx p k).bind λr=>
 (f101 r [v1]).bind λa=>
 letk (λ(c20v41:Int)(c21v42:Int)=>
 (idx sl o).bind λc=>
 (idx c k).bind λx=>
 some (true,(List.set sl o.toNat (List.set c k.toNat (aa.mk c20v41 c21v42))))) λe=>
 (bif h then (idx sl o).bind λt=>
 (idx t k).bind λw=>
 (f133 w a g).bind λf=>
 (e f.lo f.hi) else(e a.lo a.hi)))
def f104e(fc:List am)(v1:aa)(h:aa)(j:Bool)(a:Int)(kq:Int):Option (Bool×(List am)):=
 aH (bS 16 kq)<|
 (idx fc a).bind λk=>
 (bif (f38 v1 (k.r kq.toNat)) then some (false,fc) else aH (bS 16 kq)<|
 (idx fc a).bind λm=>
 (f101 (m.r kq.toNat) [v1]).bind λc=>
 letk (λ(c10v41:Int)(c11v42:Int)=>
 aH (bS 16 kq)<|
 (idx fc a).bind λe=>
 some (true,(List.set fc a.toNat (am.mk e.reached (bn e.r kq.toNat (aa.mk c10v41 c11v42)))))) λf=>
 (bif j then aH (bS 16 kq)<|
 (idx fc a).bind λp=>
 (f133 (p.r kq.toNat) c h).bind λg=>
 (f g.lo g.hi) else(f c.lo c.hi)))
def f70_m2(rg:List aa)(f:Bool):((Int×Int)×aa)->(Bool×(List (List aa)))->Option (Bool×(List (List aa)))
 |a,(changed204,e)=>
 (idx e a.1.1).bind λg=>
 (idx g a.1.2).bind λj=>
 (idx rg a.1.1).bind λh=>
 (f104m e a.2 h f a.1.1 a.1.2).bind λc=>
 (bif c.1 then some (true,c.2) else some (changed204,c.2))
def f70_l4(j:Bool)(k:Int)(c:Int×(Nat->aa)):Nat->Bool->Int->(List am)->Option (Bool×(List am))
 |0,_,_,_=>none
 |na+1,changed243,a,f=>
 (bif (decide (a<16)) then letk (λ(changed249:Bool)(m:List am)=>
 (f70_l4 j k c na changed249 (i64.wrap (a+1)) m)) λe=>
 aH (bS 16 a)<|
 aH (bS 16 a)<|
 (bif j then (f104e f (c.2 a.toNat) (f39 (-2147483648) 2147483647) (decide (c.1<=k)) c.1 a).bind λg=>
 (bif g.1 then(e true g.2) else(e changed243 g.2)) else (f104e f (c.2 a.toNat) (f39 (-2147483648) 2147483647) false c.1 a).bind λh=>
 (bif h.1 then(e true h.2) else(e changed243 h.2))) else some (changed243,f))
def f70_m3(e:Bool)(a:Int):(Int×(Nat->aa))->(Bool×(List am))->Option (Bool×(List am))
 |g,(changed226,j)=>
 (idx j g.1).bind λB=>
 (bif (!B.reached) then some (true,(List.set j g.1.toNat (am.mk true g.2))) else(f70_l4 e a g (Int.toNat (16 - 0)+1) changed226 0 j))
noncomputable def f70_l1(t:ah)(rg:List aa)(fc:List am)(e:Bool)(h:Bool->(List am)->(List (List aa))->Int->(Nat->aa)->Option (Bool×Int×(Nat->aa)×(List am)×(List (List aa)))):Nat->Bool->Int->(List am)->(List (List aa))->Int->(Nat->aa)->Option (Bool×Int×(Nat->aa)×(List am)×(List (List aa)))
 |0,_,_,_,_,_,_=>none
 |n+1,changed170,a,c,f,c014v174,c015v175=>
 (bif (decide (a<(fc.length:Int))) then letk (λ(changed182:Bool)(C:List am)(E:List (List aa))(c014v185:Int)(c015v186:Nat->aa)=>
 (f70_l1 t rg fc e h n changed182 (i64.wrap (a+1)) C E c014v185 c015v186)) λp=>
 (idx c a).bind λF=>
 (bif (!F.reached) then(p changed170 c f c014v174 c015v175) else (idx c a).bind λk=>
 (f102 t rg c f a k.r ([]:List ((Int×Int)×aa)) ([]:List (Int×(Nat->aa))) true).bind λw=>
 (idx t.insns a).bind λx=>
 (f103 t rg c f a k.r ([]:List ((Int×Int)×aa)) w x.op).bind λG=>
 (fm G t rg c f a k.r ([]:List ((Int×Int)×aa)) w x).bind λm=>
 letk (λ(changed197:Bool)(H:List (List aa))=>
 (gJ m.2.2 (f70_m3 e a) (λ(y:Bool×(List am))=>(p y.1 y.2 H a m.1)) (changed197,c))) λI=>
 (gJ m.2.1 (f70_m2 rg e) (λ(A:Bool×(List (List aa)))=>(I A.1 A.2)) (changed170,f))) else(h changed170 c f c014v174 c015v175))
noncomputable def f70(t:ah)(rg:List aa)(pc:Int)(rr:Nat->aa)(fc:List am)(sl:List (List aa))(e:Bool):Option (Bool×Int×(Nat->aa)×(List am)×(List (List aa))):=
 letk (λ(changed158:Bool)(K:List am)(L:List (List aa))(c014v161:Int)(c015v162:Nat->aa)=>
 some (changed158,c014v161,c015v162,K,L)) λh=>
 (f70_l1 t rg fc e h (Int.toNat ((fc.length:Int) - 0)+1) false 0 fc sl pc rr)
def f78_l1(t0:cm)(o1:Obj)(e:Unit->oB):Nat->Int->Int->oB
 |0,_,_=>none
 |n+1,f,c=>
 (bif (decide (c<(o1.set_.length:Int))) then (idx o1.set_ c).bind λa=>
 (bif ((decide (a<=f))||(decide (a>=(t0.text.objs.length:Int)))) then some true else((idx t0.text.objs a).bind λg=>some (!decide (g.size=1)))).bind λh=>
 (bif h then some true else((idx t0.text.objs a).bind λj=>some j.ptr)).bind λk=>
 (bif k then some false else(f78_l1 t0 o1 e n a (i64.wrap (c+1)))) else(e ()))
def f78(t0:cm)(o1:Obj):oB:=
 (bif (((decide (o1.size<1))||(decide (o1.size>16384)))||(decide (o1.lo>o1.hi))) then some false else(bif (!o1.ptr) then some (decide ((o1.set_.length:Int)=0)) else letk (λ(_:Unit)=>
 some ((decide (o1.lo=0))&&(decide (o1.hi=0)))) λa=>
 (f78_l1 t0 o1 a (Int.toNat ((o1.set_.length:Int) - 0)+1) (-1) 0)))
def f79(t0:cm)(o1:Int)(a:Int)(c:Int):oB:=
 (bif (((decide (o1>=0))&&(decide (o1<(t0.text.objs.length:Int))))&&(decide (a>=0))) then((idx t0.text.objs o1).bind λe=>some (decide (a<=(i64.wrap (e.size - c))))) else some false).bind λf=>
 some f
def f144_l1(s0:lI)(c:Int->oB)(e:Unit->Option (Int)):Nat->Int->Option (Int)
 |0,_=>none
 |n+1,a=>
 (bif (decide (a<(s0.length:Int))) then (idx s0 a).bind λf=>
 (c f).bind λg=>
 (bif g then some a else(f144_l1 s0 c e n (i64.wrap (a+1)))) else(e ()))
def f144(s0:lI)(a:Int->oB):Option Int:=
 letk (λ(_:Unit)=>
 some (-1)) λc=>
 (f144_l1 s0 a c (Int.toNat ((s0.length:Int) - 0)+1) 0)
def f109(s0:lI)(a:Int->oB):oB:=
 (f144 s0 a).bind λc=>
 some (decide (c>=0))
def f110(n0:Int)(a:Int):Bool:=
 (decide ((i64.wrap (n0+1))=a))
def f80(o0:Obj)(v1:Int):oB:=
 (bif o0.ptr then (bif (decide (v1=0)) then some true else((f109 o0.set_ (λz0=>some (f110 z0 v1))).bind λa=>some a)).bind λc=>
 some c else some ((decide (v1>=o0.lo))&&(decide (v1<=o0.hi))))
def f50_l1(t0:cm)(c:Int->oB):Nat->Int->Int->oB
 |0,_,_=>none
 |n+1,e,a=>
 (bif (decide (a<(t0.text.objs.length:Int))) then (idx t0.text.objs a).bind λf=>
 (f78 t0 f).bind λg=>
 (bif (!g) then some false else(f50_l1 t0 c n (i64.wrap (e+f.size)) (i64.wrap (a+1)))) else(c e))
def f50_l2(t0:cm)(f:(List ((Int×Int)×Bool))->oB):Nat->Int->(List ((Int×Int)×Bool))->oB
 |0,_,_=>none
 |n+1,c,e=>
 (bif (decide (c<(t0.text.inits.length:Int))) then (idx t0.text.inits c).bind λa=>
 (bif (Option.getD (bT e (a.o,a.slot)) false) then some true else((f79 t0 a.o a.slot 1).bind λg=>some (!g))).bind λh=>
 (bif h then some true else((idx t0.text.objs a.o).bind λj=>(f80 j a.v).bind λk=>some (!k))).bind λm=>
 (bif m then some false else(f50_l2 t0 f n (i64.wrap (c+1)) (bP e (a.o,a.slot) true))) else(f e))
def f50(t0:cm):oB:=
 (bif (((decide ((t0.text.objs.length:Int)>4096))||(decide (t0.text.excs<4)))||(decide (t0.text.excs>64))) then some false else letk (λ(a:Int)=>
 letk (λ(f:List ((Int×Int)×Bool))=>
 some (decide (a<=65536))) λc=>
 (f50_l2 t0 c (Int.toNat ((t0.text.inits.length:Int) - 0)+1) 0 ([]:List ((Int×Int)×Bool)))) λe=>
 (f50_l1 t0 e (Int.toNat ((t0.text.objs.length:Int) - 0)+1) 0 0))
def f75(t0:cm)(a1:Int):Bool:=
 ((decide (a1>=0))&&(decide (a1<(t0.text.insns.length:Int))))
def f111_l1(s0:List cq)(c:cq->oB)(e:Unit->Option (Int)):Nat->Int->Option (Int)
 |0,_=>none
 |n+1,a=>
 (bif (decide (a<(s0.length:Int))) then (idx s0 a).bind λf=>
 (c f).bind λg=>
 (bif g then some a else(f111_l1 s0 c e n (i64.wrap (a+1)))) else(e ()))
def f111(s0:List cq)(a:cq->oB):Option Int:=
 letk (λ(_:Unit)=>
 some (-1)) λc=>
 (f111_l1 s0 a c (Int.toNat ((s0.length:Int) - 0)+1) 0)
def f81(s0:List cq)(a:cq->oB):oB:=
 (f111 s0 a).bind λc=>
 some (decide (c>=0))
def f112(o0:Int)(a:cm):oB:=
 (bif ((decide (o0<0))||(decide (o0>=(a.text.objs.length:Int)))) then some true else((idx a.text.objs o0).bind λc=>some (!decide (c.size=1)))).bind λe=>
 some e
def f83(t0:cm)(l1:lI):oB:=
 (bif (decide ((l1.length:Int)<=8)) then((f109 l1 λz0=>f112 z0 t0).bind λa=>some (!a)) else some false).bind λc=>
 some c
def f82(e0:cq)(a:cm):oB:=
 (f83 a e0.ins).bind λc=>
 (bif (!c) then some true else((f83 a e0.outs).bind λe=>some (!e))).bind λf=>
 some f
def f51_l1(t0:cm)(e:Unit->oB):Nat->Int->oB
 |0,_=>none
 |n+1,c=>
 (bif (decide (c<(t0.text.tasks.length:Int))) then (idx t0.text.tasks c).bind λa=>
 (bif ((((((decide (a.prio<0))||(decide (a.prio>31)))||(!(f75 t0 a.at_)))||(decide (a.deadline<0)))||(decide (a.deadline>2147483647)))||(decide ((a.entries.length:Int)>8))) then some false else (f81 a.entries λz0=>f82 z0 t0).bind λf=>
 (bif f then some false else(f51_l1 t0 e n (i64.wrap (c+1))))) else(e ()))
def f51(t0:cm):oB:=
 (bif ((decide ((t0.text.tasks.length:Int)<1))||(decide ((t0.text.tasks.length:Int)>32))) then some false else letk (λ(_:Unit)=>
 some true) λa=>
 (f51_l1 t0 a (Int.toNat ((t0.text.tasks.length:Int) - 0)+1) 0))
def f52_l2(t0:cm)(c:lI)(g:(List (Int×Bool))->oB):Nat->Int->(List (Int×Bool))->oB
 |0,_,_=>none
 |na+1,e,f=>
 (bif (decide (e<(c.length:Int))) then (idx c e).bind λa=>
 (bif (((decide (a<1))||(decide (a>=(t0.text.tasks.length:Int))))||(Option.getD (bT f a) false)) then some false else(f52_l2 t0 c g na (i64.wrap (e+1)) (bP f a true))) else(g f))
def f52_l1(t0:cm)(e:Unit->oB):Nat->Int->oB
 |0,_=>none
 |n+1,a=>
 (bif (decide (a<(t0.text.lists.length:Int))) then letk (λ(j:List (Int×Bool))=>
 (f52_l1 t0 e n (i64.wrap (a+1)))) λf=>
 (idx t0.text.lists a).bind λc=>
 letk (λ(g:List (Int×Bool))=>
 (bif (decide ((c.length:Int)>32)) then some false else(f g))) λh=>
 (f52_l2 t0 c h (Int.toNat ((c.length:Int) - 0)+1) 0 ([]:List (Int×Bool))) else(e ()))
def f52(t0:cm):oB:=
 (bif (decide ((t0.text.lists.length:Int)>4096)) then some false else letk (λ(_:Unit)=>
 some true) λa=>
 (f52_l1 t0 a (Int.toNat ((t0.text.lists.length:Int) - 0)+1) 0))
def f84s_l1(e:lN->lH->lP->lS->lL->lO->lT->Int->lK->lM->lC->Int->Int->bj->Int->Option (Bool×lN×lH×lP×lS×lL×lO×lT×Int×lK×lM×lC×Int×Int))(e1:bj)(f:Int)(g:Int->lN->lH->lP->lS->lL->lO->lT->Int->lK->lM->lC->Int->Int->Option (Bool×lN×lH×lP×lS×lL×lO×lT×Int×lK×lM×lC×Int×Int))(h:lN->lH->lP->lS->lL->lO->lT->Int->lK->lM->lC->Int->Int->Option (Bool×lN×lH×lP×lS×lL×lO×lT×Int×lK×lM×lC×Int×Int)):Nat->Int->lN->lH->lP->lS->lL->lO->lT->Int->lK->lM->lC->Int->Int->Option (Bool×lN×lH×lP×lS×lL×lO×lT×Int×lK×lM×lC×Int×Int)
 |0,_,_,_,_,_,_,_,_,_,_,_,_,_,_=>none
 |n+1,c,c00v179,c01v180,c02v181,c03v182,c04v183,c05v184,c06v185,c07v186,c08v187,c09v188,c010v189,c011v190,c012v191=>
 (bif (decide (c<(e1.l.length:Int))) then (idx e1.l c).bind λj=>
 letk (λ(k:Bool)(c00v209:lN)(c01v210:lH)(c02v211:lP)(c03v212:lS)(c04v213:lL)(c05v214:lO)(c06v215:lT)(c07v216:Int)(c08v217:lK)(c09v218:lM)(c010v219:lC)(c011v220:Int)(c012v221:Int)=>
 (bif k then(g c c00v209 c01v210 c02v211 c03v212 c04v213 c05v214 c06v215 c07v216 c08v217 c09v218 c010v219 c011v220 c012v221) else(f84s_l1 e e1 f g h n (i64.wrap (c+1)) c00v209 c01v210 c02v211 c03v212 c04v213 c05v214 c06v215 c07v216 c08v217 c09v218 c010v219 c011v220 c012v221))) λm=>
 (e c00v179 c01v180 c02v181 c03v182 c04v183 c05v184 c06v185 c07v186 c08v187 c09v188 c010v189 c011v190 c012v191 j (i64.wrap (f+1))).bind λa=>
 (m (!a.1) a.2.1 a.2.2.1 a.2.2.2.1 a.2.2.2.2.1 a.2.2.2.2.2.1 a.2.2.2.2.2.2.1 a.2.2.2.2.2.2.2.1 a.2.2.2.2.2.2.2.2.1 a.2.2.2.2.2.2.2.2.2.1 a.2.2.2.2.2.2.2.2.2.2.1 a.2.2.2.2.2.2.2.2.2.2.2.1 a.2.2.2.2.2.2.2.2.2.2.2.2.1 a.2.2.2.2.2.2.2.2.2.2.2.2.2) else(h c00v179 c01v180 c02v181 c03v182 c04v183 c05v184 c06v185 c07v186 c08v187 c09v188 c010v189 c011v190 c012v191))
def f84s(E:lN->lH->lP->lS->lL->lO->lT->Int->lK->lM->lC->Int->Int->bj->Int->Option (Bool×lN×lH×lP×lS×lL×lO×lT×Int×lK×lM×lC×Int×Int))(g:lN)(h:lH)(j:lP)(k:lS)(m:lL)(c:lO)(p:lT)(r:Int)(t:lK)(w:lM)(x:lC)(jent:Int)(jleft:Int)(e1:bj)(y:Int):Option (Bool×lN×lH×lP×lS×lL×lO×lT×Int×lK×lM×lC×Int×Int):=
 letk (λ(F:Bool)(G:Int)(e:bj)(c21v100:Int)(c22v101:Int)(c23v102:Int)(c24v103:Int)=>
 (bif (((((((((((decide ((i64.wrap (jleft - 1))<0))||(decide (y>64)))||(!F))||(!decide ((e1.l.length:Int)=G)))||(!decide (e1.op=e.op)))||(!decide (e1.n=e.n)))||(!decide (e1.o=e.o)))||(!decide (e1.off=e.off)))||(!decide (e1.len=0)))||(!decide (e1.lo=0)))||(!decide (e1.hi=0))) then some (false,g,h,j,k,m,c,p,r,t,w,x,jent,(i64.wrap (jleft - 1))) else letk (λ(H:Bool)(c00v120:lN)(c01v121:lH)(c02v122:lP)(c03v123:lS)(c04v124:lL)(c05v125:lO)(c06v126:lT)(c07v127:Int)(c08v128:lK)(c09v129:lM)(c010v130:lC)(c011v131:Int)(c012v132:Int)=>
 some ((!H),c00v120,c01v121,c02v122,c03v123,c04v124,c05v125,c06v126,c07v127,c08v128,c09v129,c010v130,c011v131,c012v132)) λI=>
 letk (λ(K:Int)(c00v136:lN)(c01v137:lH)(c02v138:lP)(c03v139:lS)(c04v140:lL)(c05v141:lO)(c06v142:lT)(c07v143:Int)(c08v144:lK)(c09v145:lM)(c010v146:lC)(c011v147:Int)(c012v148:Int)=>
 (I (decide (K>=0)) c00v136 c01v137 c02v138 c03v139 c04v140 c05v141 c06v142 c07v143 c08v144 c09v145 c010v146 c011v147 c012v148)) λA=>
 letk (λ(c00v150:lN)(c01v151:lH)(c02v152:lP)(c03v153:lS)(c04v154:lL)(c05v155:lO)(c06v156:lT)(c07v157:Int)(c08v158:lK)(c09v159:lM)(c010v160:lC)(c011v161:Int)(c012v162:Int)=>
 (A (-1) c00v150 c01v151 c02v152 c03v153 c04v154 c05v155 c06v156 c07v157 c08v158 c09v159 c010v160 c011v161 c012v162)) λL=>
 (f84s_l1 E e1 y A L (Int.toNat ((e1.l.length:Int) - 0)+1) 0 g h j k m c p r t w x jent (i64.wrap (jleft - 1))))) λf=>
 letk (λ(M:Int)(c21v106:Int)(c22v107:Int)(c23v108:Int)(c24v109:Int)=>
 (f true M (bj.mk e1.kind c21v106 c22v107 c23v108 c24v109 0 0 0 []) c21v106 c22v107 c23v108 c24v109)) λa=>
 (bif (decide (e1.kind=1)) then(a 0 0 e1.n 0 0) else(bif (decide (e1.kind=2)) then (f79 (cm.mk (ah.mk g h j k m c p r t w x)) e1.o e1.off 1).bind λN=>
 (bif (!N) then some true else((idx c e1.o).bind λO=>some O.ptr)).bind λP=>
 (bif P then(f false 0 (bj.mk e1.kind 0 0 0 0 0 0 0 []) 0 0 0 0) else(a 0 0 0 e1.o e1.off)) else(bif (decide (e1.kind=14)) then letk (λ(Q:Bool)=>
 (f Q 0 (bj.mk e1.kind 0 e1.n 0 0 0 0 0 []) 0 e1.n 0 0)) λB=>
 (bif (decide (e1.n>=0)) then(B (decide (e1.n<jent))) else(B false)) else(bif (decide (e1.kind=4)) then(a 1 18 0 0 0) else(bif (decide (e1.kind=5)) then(a 2 (if(if 15<e1.op then 15 else e1.op)>7 then(if 15<e1.op then 15 else e1.op) else 7) 0 0 0) else letk (λ(R:Bool)=>
 (bif R then(a 2 0 0 0 0) else(f false 0 (bj.mk e1.kind 0 0 0 0 0 0 0 []) 0 0 0 0))) λC=>
 (bif (decide (e1.kind=6)) then(C (decide (e1.kind=6))) else(C (decide (e1.kind=7)))))))))
def f84:Nat->lN->lH->lP->lS->lL->lO->lT->Int->lK->lM->lC->Int->Int->bj->Int->Option (Bool×lN×lH×lP×lS×lL×lO×lT×Int×lK×lM×lC×Int×Int)
 |0=>λ_ _ _ _ _ _ _ _ _ _ _ _ _ _ _=>none
 |n+1=>f84s (f84 n)
def f53_l2(t0:cm)(e:Int->(List bj)->oB)(a:fp):Nat->Int->oB
 |0,_=>none
 |na+1,c=>
 (bif (decide (c<(a.barriers.length:Int))) then (idx a.barriers c).bind λf=>
 (f84 66 t0.text.insns t0.text.handlers t0.text.loops t0.text.selects t0.text.lists t0.text.objs t0.text.inits t0.text.excs t0.text.tasks t0.text.prots t0.text.checks (a.barriers.length:Int) 256 f 1).bind λg=>
 (bif (!g.1) then some false else(f53_l2 t0 e a na (i64.wrap (c+1)))) else(e a.ceiling a.barriers))
def f53_l1(t0:cm)(e:Unit->oB):Nat->Int->oB
 |0,_=>none
 |n+1,c=>
 (bif (decide (c<(t0.text.prots.length:Int))) then letk (λ(c00v60:Int)(c01v61:List bj)=>
 (f53_l1 t0 e n (i64.wrap (c+1)))) λf=>
 (idx t0.text.prots c).bind λa=>
 (bif (((decide (a.ceiling<0))||(decide (a.ceiling>31)))||(decide ((a.barriers.length:Int)>8))) then some false else(f53_l2 t0 f a (Int.toNat ((a.barriers.length:Int) - 0)+1) 0)) else(e ()))
def f53(t0:cm):oB:=
 letk (λ(_:Unit)=>
 some (decide ((t0.text.prots.length:Int)<=32))) λa=>
 (f53_l1 t0 a (Int.toNat ((t0.text.prots.length:Int) - 0)+1) 0)
def f117(n0:Int)(a:cm)(c:Int):oB:=
 (f79 a c n0 1).bind λe=>
 some e
def f87(t0:cm)(a:Int)(a2:dI):oB:=
 (bif (!(f75 t0 a2.at_)) then some true else((bif (!decide (a2.guard=(-1))) then((f117 a2.guard t0 a).bind λe=>some (!e)) else some false).bind λf=>some f)).bind λg=>
 (bif g then some false else(bif (decide (a2.kind=1)) then some (((decide (a2.entry>=0))&&(decide (a2.entry<8)))&&(decide (a2.time=0))) else letk (λ(h:Bool)=>
 (bif h then (bif (decide (a2.entry=0)) then((f117 a2.time t0 a).bind λj=>some j) else some false).bind λk=>
 some k else some ((decide (a2.kind=4))&&(decide ((i64.wrap (BitVec.ofInt i64.bits a2.entry|||BitVec.ofInt i64.bits a2.time).toNat)=0))))) λc=>
 (bif (decide (a2.kind=2)) then(c (decide (a2.kind=2))) else(c (decide (a2.kind=3))))))
def f54_l2(t0:cm)(a:bU)(e:Int->oB)(f:Unit->oB):Nat->Int->oB
 |0,_=>none
 |na+1,c=>
 (bif (decide (c<(a.alts.length:Int))) then (idx a.alts c).bind λg=>
 letk (λ(h:Bool)=>
 (bif h then(e c) else(f54_l2 t0 a e f na (i64.wrap (c+1))))) λj=>
 (f87 t0 a.obj g).bind λk=>
 (j (!k)) else(f ()))
def f54_l1(t0:cm)(e:Unit->oB):Nat->Int->oB
 |0,_=>none
 |n+1,c=>
 (bif (decide (c<(t0.text.selects.length:Int))) then (idx t0.text.selects c).bind λa=>
 (bif (((((decide ((a.alts.length:Int)<1))||(decide ((a.alts.length:Int)>16)))||(decide (a.obj<0)))||(decide (a.obj>=(t0.text.objs.length:Int))))||((!decide (a.else_=(-1)))&&(!(f75 t0 a.else_)))) then some false else letk (λ(g:Bool)=>
 (bif g then some false else(f54_l1 t0 e n (i64.wrap (c+1))))) λh=>
 letk (λ(j:Int)=>
 (h (decide (j>=0)))) λf=>
 letk (λ(_:Unit)=>
 (f (-1))) λk=>
 (f54_l2 t0 a f k (Int.toNat ((a.alts.length:Int) - 0)+1) 0)) else(e ()))
def f54(t0:cm):oB:=
 (bif (decide ((t0.text.selects.length:Int)>1024)) then some false else letk (λ(_:Unit)=>
 some true) λa=>
 (f54_l1 t0 a (Int.toNat ((t0.text.selects.length:Int) - 0)+1) 0))
def f88(h0:bi)(a1:Int):Bool:=
 ((decide (h0.from_<=a1))&&(decide (a1<h0.to)))
def f55_l2(t0:cm)(e:Int)(g:Int->Int->Int->Bool->oB)(a:bi):Nat->Int->oB
 |0,_=>none
 |na+1,f=>
 (bif (decide (f<(List.length (bQ t0.text.handlers 0 e):Int))) then (idx (bQ t0.text.handlers 0 e) f).bind λc=>
 (bif ((!((decide (c.from_>=a.from_))&&(decide (c.to<=a.to))))&&(decide ((if a.from_>c.from_ then a.from_ else c.from_)<(if a.to<c.to then a.to else c.to)))) then some false else(f55_l2 t0 e g a na (i64.wrap (f+1)))) else(g a.from_ a.to a.at_ a.clean))
def f55_l1(t0:cm)(e:Unit->oB):Nat->Int->oB
 |0,_=>none
 |n+1,c=>
 (bif (decide (c<(t0.text.handlers.length:Int))) then letk (λ(c00v99:Int)(c01v100:Int)(c02v101:Int)(c03v102:Bool)=>
 (f55_l1 t0 e n (i64.wrap (c+1)))) λf=>
 (idx t0.text.handlers c).bind λa=>
 (bif (((((decide (a.from_<0))||(decide (a.from_>=a.to)))||(decide (a.to>(t0.text.insns.length:Int))))||(!(f75 t0 a.at_)))||(f88 a a.at_)) then some false else aH (dR t0.text.handlers 0 c)<|
 (f55_l2 t0 c f a (Int.toNat ((List.length (bQ t0.text.handlers 0 c):Int) - 0)+1) 0)) else(e ()))
def f55(t0:cm):oB:=
 (bif (decide ((t0.text.handlers.length:Int)>4096)) then some false else letk (λ(_:Unit)=>
 some true) λa=>
 (f55_l1 t0 a (Int.toNat ((t0.text.handlers.length:Int) - 0)+1) 0))
def f89(x0:aG)(a:Int):Bool:=
 ((((decide (x0.op=29))||(decide (x0.op=30)))||(decide (x0.op=31)))&&(decide (x0.to=a)))
def f56_l1(t0:cm)(f:(List (Int×Bool))->oB):Nat->Int->(List (Int×Bool))->oB
 |0,_,_=>none
 |n+1,c,e=>
 (bif (decide (c<(t0.text.loops.length:Int))) then (idx t0.text.loops c).bind λa=>
 (bif ((((decide (a.head<0))||(decide (a.head>a.back)))||(!(f75 t0 a.back)))||(Option.getD (bT e a.back) false)) then some true else((idx t0.text.insns a.back).bind λg=>some (!(f89 g a.head)))).bind λh=>
 (bif ((h||(decide (a.bound<0)))||(decide (a.bound>2147483647))) then some false else(f56_l1 t0 f n (i64.wrap (c+1)) (bP e a.back true))) else(f e))
def f56(t0:cm):oB:=
 (bif (decide ((t0.text.loops.length:Int)>4096)) then some false else letk (λ(c:List (Int×Bool))=>
 some true) λa=>
 (f56_l1 t0 a (Int.toNat ((t0.text.loops.length:Int) - 0)+1) 0 ([]:List (Int×Bool))))
def f43(t0:cm)(a1:Int):oB:=
 (bif (f75 t0 a1) then((idx t0.text.insns a1).bind λa=>(bif (decide (a.op=27)) then some true else((idx t0.text.insns a1).bind λc=>some (decide (c.op=28)))).bind λe=>some e) else some false).bind λf=>
 some f
def f57_l1(t0:cm)(e:Unit->oB):Nat->Int->Int->oB
 |0,_,_=>none
 |n+1,f,c=>
 (bif (decide (c<(t0.text.checks.length:Int))) then (idx t0.text.checks c).bind λa=>
 (bif (decide (a.at_<=f)) then some true else((f43 t0 a.at_).bind λg=>some (!g))).bind λh=>
 (bif ((h||(decide (a.kind<1)))||(decide (a.kind>5))) then some false else(f57_l1 t0 e n a.at_ (i64.wrap (c+1)))) else(e ()))
def f57(t0:cm):oB:=
 letk (λ(_:Unit)=>
 some true) λa=>
 (f57_l1 t0 a (Int.toNat ((t0.text.checks.length:Int) - 0)+1) (-1) 0)
def f90_l1(s0:lN)(c:aG->oB)(e:Unit->Option (Int)):Nat->Int->Option (Int)
 |0,_=>none
 |n+1,a=>
 (bif (decide (a<(s0.length:Int))) then (idx s0 a).bind λf=>
 (c f).bind λg=>
 (bif g then some a else(f90_l1 s0 c e n (i64.wrap (a+1)))) else(e ()))
def f90(s0:lN)(a:aG->oB):Option Int:=
 letk (λ(_:Unit)=>
 some (-1)) λc=>
 (f90_l1 s0 a c (Int.toNat ((s0.length:Int) - 0)+1) 0)
def f58(s0:lN)(a:aG->oB):oB:=
 (f90 s0 a).bind λc=>
 some (decide (c>=0))
def f118(o0:Int):Option (iM×Bool):=
 (bif ((decide (o0<1))||(decide ((i64.wrap o0)>57))) then some ((iM.mk ByteArray.empty ByteArray.empty),false) else (idx ke (IntKind.u8.wrap (o0 - 1))).bind λa=>
 some (a,true))
def f147_l1(s0:ByteArray)(c:Int->Int->Option (List ByteArray)):Nat->Int->Int->Int->Int->Option (List ByteArray)
 |0,_,_,_,_=>none
 |n+1,e,wasSpace116,setBits117,a=>
 (bif (decide (a<(s0.size:Int))) then (ge s0 a).bind λf=>
 (idx dN f).bind λg=>
 (f147_l1 s0 c n (i64.wrap (e+(i64.wrap (BitVec.ofInt i64.bits wasSpace116&&&BitVec.ofInt i64.bits (i64.wrap (BitVec.ofInt i64.bits (-1)^^^BitVec.ofInt i64.bits (i64.wrap g)).toNat)).toNat))) (i64.wrap g) (IntKind.u8.wrap (BitVec.ofInt IntKind.u8.bits setBits117|||BitVec.ofInt IntKind.u8.bits f).toNat) (i64.wrap (a+1))) else(c e setBits117))
def f147_l2(s0:ByteArray)(c:Int->Option (List ByteArray)):Nat->Int->Option (List ByteArray)
 |0,_=>none
 |n+1,a=>
 (bif (decide (a<(s0.size:Int))) then((ge s0 a).bind λe=>(idx dN e).bind λf=>some (!decide (f=0))) else some false).bind λg=>
 (bif g then(f147_l2 s0 c n (i64.wrap (a+1))) else(c a))
def f147_l4(s0:ByteArray)(c:Int->Option (List ByteArray)):Nat->Int->Option (List ByteArray)
 |0,_=>none
 |na+1,a=>
 (bif (decide (a<(s0.size:Int))) then((ge s0 a).bind λe=>(idx dN e).bind λf=>some (!decide (f=0))) else some false).bind λg=>
 (bif g then(f147_l4 s0 c na (i64.wrap (a+1))) else(c a))
def f147_l3(s0:ByteArray)(f:Int->Int->(List ByteArray)->Option (List ByteArray)):Nat->Int->Int->Int->(List ByteArray)->Option (List ByteArray)
 |0,_,_,_,_=>none
 |n+1,a,fieldStart143,c,e=>
 (bif (decide (c<(s0.size:Int))) then letk (λ(j:Int)(fieldStart151:Int)(k:Int)(m:List ByteArray)=>
 (f147_l3 s0 f n j fieldStart151 k m)) λg=>
 (ge s0 c).bind λp=>
 (idx dN p).bind λr=>
 (bif (decide (r=0)) then(g a fieldStart143 (i64.wrap (c+1)) e) else (tJ s0 fieldStart143 c).bind λt=>
 (idx e a).bind λx=>
 letk (λ(h:Int)=>
 (g (i64.wrap (a+1)) h h (List.set e a.toNat t))) λw=>
 (f147_l4 s0 w 9223372036854775808 (i64.wrap (c+1)))) else(f a fieldStart143 e))
def f147(s0:ByteArray):Option (List ByteArray):=
 letk (λ(c:Int)(setBits109:Int)=>
 (bif (decide (setBits109>=128)) then none else aH (nC 16 c)<|
 letk (λ(e:Int)=>
 letk (λ(f:Int)(fieldStart135:Int)(a:List ByteArray)=>
 letk (λ(h:List ByteArray)=>
 some h) λg=>
 (bif (decide (fieldStart135<(s0.size:Int))) then (tJ s0 fieldStart135 (s0.size:Int)).bind λj=>
 (idx a f).bind λr=>
 (g (List.set a f.toNat j)) else(g a))) λk=>
 (f147_l3 s0 k 9223372036854775808 0 e e (List.replicate c.toNat (ByteArray.empty:ByteArray)))) λm=>
 (f147_l2 s0 m 9223372036854775808 0))) λp=>
 (f147_l1 s0 p 9223372036854775808 0 1 0 0)
def f150(a:Int):Int×Int:=
 (bif (decide (a=114)) then(0,15) else(bif (decide (a=111)) then(0,4095) else(bif (decide (a=115)) then(0,65535) else(bif (decide (a=108)) then(1,65536) else(bif (decide (a=120)) then(1,64) else(bif (decide (a=107)) then(6,7) else(bif (decide (a=101)) then(0,7) else(bif (decide (a=112)) then(0,31) else(bif (decide (a=113)) then((-1),31) else(bif (decide (a=109)) then(0,3) else(bif (decide (a=106)) then(0,1023) else(bif (decide (a=98)) then(0,1) else((-9223372036854775808),9223372036854775807)))))))))))))
def f91_l1(f:Int->Int->Int->Int->Int->Int->ByteArray->ByteArray->Int->Int->Int->Int->oB)(g:Int->Int->Int->Int->Int->Int->ByteArray->ByteArray->Int->Int->Int->Int->oB)(h:Int->Int->Int->Int->Int->Int->ByteArray->ByteArray->Int->Int->Int->Int->oB)(j:Int->Int->Int->Int->Int->Int->ByteArray->ByteArray->Int->Int->Int->Int->oB)(k:Int->Int->Int->Int->Int->Int->ByteArray->ByteArray->Int->Int->Int->Int->oB)(m:Int->Int->Int->Int->Int->Int->ByteArray->ByteArray->Int->Int->Int->Int->oB)(p:Int->Int->Int->Int->Int->Int->ByteArray->ByteArray->oB)(a:iM×Bool)(c:List ByteArray):Nat->Int->Int->Int->Int->Int->Int->Int->oB
 |0,_,_,_,_,_,_,_=>none
 |n+1,e,c21v178,c22v179,c23v180,c24v181,c25v182,c26v183=>
 (bif (decide (e<(c.length:Int))) then (idx c e).bind λr=>
 (ge r 0).bind λC=>
 (bif (decide (C=68)) then letk (λ(_:Unit)=>
 (ge r 1).bind λt=>
 letk (λ(_:Unit)=>
 (f c21v178 c22v179 c23v180 c24v181 c25v182 c26v183 a.1.name a.1.fields ((f150 t).1) ((f150 t).2) ((f150 t).1) ((f150 t).2))) λE=>
 letk (λ(_:Unit)=>
 (f91_l1 f g h j k m p a c n (i64.wrap (e+1)) 0 c22v179 c23v180 c24v181 c25v182 c26v183)) λF=>
 letk (λ(_:Unit)=>
 (bif ((decide (c21v178<((f150 t).1)))||(decide (c21v178>((f150 t).2)))) then(E ()) else letk (λ(_:Unit)=>
 (F ())) λG=>
 (G ()))) λH=>
 (H ())) λI=>
 (I ()) else(bif (decide (C=65)) then letk (λ(_:Unit)=>
 (ge r 1).bind λw=>
 letk (λ(_:Unit)=>
 (g c21v178 c22v179 c23v180 c24v181 c25v182 c26v183 a.1.name a.1.fields ((f150 w).1) ((f150 w).2) ((f150 w).1) ((f150 w).2))) λK=>
 letk (λ(_:Unit)=>
 (f91_l1 f g h j k m p a c n (i64.wrap (e+1)) c21v178 0 c23v180 c24v181 c25v182 c26v183)) λL=>
 letk (λ(_:Unit)=>
 (bif ((decide (c22v179<((f150 w).1)))||(decide (c22v179>((f150 w).2)))) then(K ()) else letk (λ(_:Unit)=>
 (L ())) λM=>
 (M ()))) λN=>
 (N ())) λO=>
 (O ()) else(bif (decide (C=66)) then letk (λ(_:Unit)=>
 (ge r 1).bind λx=>
 letk (λ(_:Unit)=>
 (h c21v178 c22v179 c23v180 c24v181 c25v182 c26v183 a.1.name a.1.fields ((f150 x).1) ((f150 x).2) ((f150 x).1) ((f150 x).2))) λP=>
 letk (λ(_:Unit)=>
 (f91_l1 f g h j k m p a c n (i64.wrap (e+1)) c21v178 c22v179 0 c24v181 c25v182 c26v183)) λQ=>
 letk (λ(_:Unit)=>
 (bif ((decide (c23v180<((f150 x).1)))||(decide (c23v180>((f150 x).2)))) then(P ()) else letk (λ(_:Unit)=>
 (Q ())) λR=>
 (R ()))) λS=>
 (S ())) λT=>
 (T ()) else(bif (decide (C=78)) then letk (λ(_:Unit)=>
 (ge r 1).bind λy=>
 letk (λ(_:Unit)=>
 (j c21v178 c22v179 c23v180 c24v181 c25v182 c26v183 a.1.name a.1.fields ((f150 y).1) ((f150 y).2) ((f150 y).1) ((f150 y).2))) λU=>
 letk (λ(_:Unit)=>
 (f91_l1 f g h j k m p a c n (i64.wrap (e+1)) c21v178 c22v179 c23v180 0 c25v182 c26v183)) λV=>
 letk (λ(_:Unit)=>
 (bif ((decide (c24v181<((f150 y).1)))||(decide (c24v181>((f150 y).2)))) then(U ()) else letk (λ(_:Unit)=>
 (V ())) λX=>
 (X ()))) λY=>
 (Y ())) λZ=>
 (Z ()) else(bif (decide (C=77)) then letk (λ(_:Unit)=>
 (ge r 1).bind λA=>
 letk (λ(_:Unit)=>
 (k c21v178 c22v179 c23v180 c24v181 c25v182 c26v183 a.1.name a.1.fields ((f150 A).1) ((f150 A).2) ((f150 A).1) ((f150 A).2))) λad=>
 letk (λ(_:Unit)=>
 (f91_l1 f g h j k m p a c n (i64.wrap (e+1)) c21v178 c22v179 c23v180 c24v181 0 c26v183)) λag=>
 letk (λ(_:Unit)=>
 (bif ((decide (c25v182<((f150 A).1)))||(decide (c25v182>((f150 A).2)))) then(ad ()) else letk (λ(_:Unit)=>
 (ag ())) λal=>
 (al ()))) λa0=>
 (a0 ())) λa1=>
 (a1 ()) else letk (λ(_:Unit)=>
 (ge r 1).bind λB=>
 letk (λ(_:Unit)=>
 (m c21v178 c22v179 c23v180 c24v181 c25v182 c26v183 a.1.name a.1.fields ((f150 B).1) ((f150 B).2) ((f150 B).1) ((f150 B).2))) λa6=>
 letk (λ(_:Unit)=>
 (f91_l1 f g h j k m p a c n (i64.wrap (e+1)) c21v178 c22v179 c23v180 c24v181 c25v182 0)) λa7=>
 letk (λ(_:Unit)=>
 (bif ((decide (c26v183<((f150 B).1)))||(decide (c26v183>((f150 B).2)))) then(a6 ()) else letk (λ(_:Unit)=>
 (a7 ())) λa8=>
 (a8 ()))) λa'=>
 (a' ())) λbb=>
 (bb ())))))) else(p c21v178 c22v179 c23v180 c24v181 c25v182 c26v183 a.1.name a.1.fields))
def f91(x0:aG):oB:=
 (f118 x0.op).bind λf=>
 (bif ((!f.2)||((decide (x0.op=27))&&(decide (x0.n>x0.m)))) then some false else(bif (((decide (x0.op=37))&&(decide ((IntKind.u8.wrap x0.n)=6)))&&(!decide (x0.m=0))) then some false else letk (λ(c21v69:Int)(c22v70:Int)(c23v71:Int)(c24v72:Int)(c25v73:Int)(c26v74:Int)(c50v75:ByteArray)(c51v76:ByteArray)=>
 some (((decide (x0.op=x0.op))&&((decide (c21v69=0))&&((decide (c22v70=0))&&((decide (c23v71=0))&&((decide (c24v72=0))&&((decide (c25v73=0))&&((decide (c26v74=0))&&true))))))))) λg=>
 letk (λ(_:Unit)=>
 letk (λ(c21v81:Int)(c22v82:Int)(c23v83:Int)(c24v84:Int)(c25v85:Int)(c26v86:Int)(c50v87:ByteArray)(c51v88:ByteArray)(c62v89:Int)(c63v90:Int)(c92v91:Int)(c93v92:Int)=>
 some false) λh=>
 letk (λ(c21v94:Int)(c22v95:Int)(c23v96:Int)(c24v97:Int)(c25v98:Int)(c26v99:Int)(c50v100:ByteArray)(c51v101:ByteArray)(c62v102:Int)(c63v103:Int)(c92v104:Int)(c93v105:Int)=>
 some false) λj=>
 letk (λ(c21v107:Int)(c22v108:Int)(c23v109:Int)(c24v110:Int)(c25v111:Int)(c26v112:Int)(c50v113:ByteArray)(c51v114:ByteArray)(c62v115:Int)(c63v116:Int)(c92v117:Int)(c93v118:Int)=>
 some false) λk=>
 letk (λ(c21v120:Int)(c22v121:Int)(c23v122:Int)(c24v123:Int)(c25v124:Int)(c26v125:Int)(c50v126:ByteArray)(c51v127:ByteArray)(c62v128:Int)(c63v129:Int)(c92v130:Int)(c93v131:Int)=>
 some false) λp=>
 letk (λ(c21v133:Int)(c22v134:Int)(c23v135:Int)(c24v136:Int)(c25v137:Int)(c26v138:Int)(c50v139:ByteArray)(c51v140:ByteArray)(c62v141:Int)(c63v142:Int)(c92v143:Int)(c93v144:Int)=>
 some false) λr=>
 letk (λ(c21v146:Int)(c22v147:Int)(c23v148:Int)(c24v149:Int)(c25v150:Int)(c26v151:Int)(c50v152:ByteArray)(c51v153:ByteArray)(c62v154:Int)(c63v155:Int)(c92v156:Int)(c93v157:Int)=>
 some false) λt=>
 letk (λ(c21v159:Int)(c22v160:Int)(c23v161:Int)(c24v162:Int)(c25v163:Int)(c26v164:Int)(c50v165:ByteArray)(c51v166:ByteArray)=>
 (g c21v159 c22v160 c23v161 c24v162 c25v163 c26v164 c50v165 c51v166)) λw=>
 (f118 x0.op).bind λc=>
 (f147 c.1.fields).bind λe=>
 (f91_l1 h j k p r t w c e (Int.toNat ((e.length:Int) - 0)+1) 0 x0.d x0.a x0.b x0.n x0.m x0.to)) λx=>
 (x ())))
def f92(y0:aG):Bool:=
 (!decide (y0.op=29))
def f93(t0:cm)(a:Int)(n2:Int):Option (Int×Bool):=
 (bif (((decide (a<0))||(decide (a>=(t0.text.tasks.length:Int))))||(decide (n2<0))) then some true else((idx t0.text.tasks a).bind λe=>some (decide (n2>=(e.entries.length:Int))))).bind λf=>
 (bif f then some (0,false) else (idx t0.text.tasks a).bind λg=>
 (idx g.entries n2).bind λc=>
 some ((i64.wrap ((i64.wrap ((c.ins.length:Int)+(c.outs.length:Int)))+1)),true))
def f94(t0:cm)(p1:Int)(n2:Int):oB:=
 (bif (((decide (p1>=0))&&(decide (p1<(t0.text.prots.length:Int))))&&(decide (n2>=0))) then((idx t0.text.prots p1).bind λa=>some (decide (n2<(a.barriers.length:Int)))) else some false).bind λc=>
 some c
def f60(t0:cm)(x1:aG):oB:=
 (f91 x1).bind λk=>
 (bif (!k) then some false else letk (λ(p:Bool)=>
 (bif p then (f79 t0 x1.n x1.m 1).bind λr=>
 some r else letk (λ(t:Bool)=>
 (bif t then (f79 t0 x1.n x1.m x1.b).bind λw=>
 some w else letk (λ(x:Bool)=>
 (bif x then some (f75 t0 x1.to) else(bif (decide (x1.op=32)) then (bif (decide ((i64.wrap (x1.to+x1.m))<=(t0.text.insns.length:Int))) then(aH (dR t0.text.insns x1.to (i64.wrap (x1.to+x1.m)))<|(f58 (bQ t0.text.insns x1.to (i64.wrap (x1.to+x1.m))) (λz0=>some (f92 z0))).bind λy=>some (!y)) else some false).bind λA=>
 some A else(bif (decide (x1.op=33)) then some (decide (x1.n<=t0.text.excs)) else letk (λ(B:Bool)=>
 (bif B then some (decide (x1.n<(t0.text.lists.length:Int))) else(bif (decide (x1.op=50)) then some (decide (x1.n<(t0.text.selects.length:Int))) else(bif (decide (x1.op=49)) then (f93 t0 x1.a x1.b).bind λf=>
 (bif f.2 then((f79 t0 x1.n 0 f.1).bind λC=>some C) else some false).bind λE=>
 some E else(bif (decide (x1.op=52)) then (f93 t0 x1.a x1.b).bind λF=>
 some (F.2&&(decide (x1.to<(t0.text.insns.length:Int)))) else letk (λ(G:Bool)=>
 (bif G then some (decide (x1.n<(t0.text.prots.length:Int))) else(bif (decide (x1.op=54)) then (f94 t0 x1.n x1.m).bind λH=>
 some H else(bif (decide (x1.op=43)) then (bif (decide (x1.m<0)) then some true else((f94 t0 x1.m x1.n).bind λI=>some I)).bind λK=>
 some K else some true)))) λg=>
 (bif (decide (x1.op=53)) then(g (decide (x1.op=53))) else(g (decide (x1.op=55))))))))) λc=>
 (bif (decide (x1.op=44)) then(c (decide (x1.op=44))) else(bif (decide (x1.op=45)) then(c (decide (x1.op=45))) else(bif (decide (x1.op=46)) then(c (decide (x1.op=46))) else(c (decide (x1.op=56)))))))))) λe=>
 (bif (decide (x1.op=29)) then(e (decide (x1.op=29))) else(bif (decide (x1.op=30)) then(e (decide (x1.op=30))) else(e (decide (x1.op=31))))))) λh=>
 (bif (decide (x1.op=5)) then(h (decide (x1.op=5))) else(h (decide (x1.op=6)))))) λj=>
 (bif (decide (x1.op=3)) then(j (decide (x1.op=3))) else(j (decide (x1.op=4)))))
def f23_l1(t0:ah)(c:Int->oB)(e:Unit->oB):Nat->Int->oB
 |0,_=>none
 |n+1,a=>
 (bif (decide (a<(t0.insns.length:Int))) then (idx t0.insns a).bind λf=>
 letk (λ(g:Bool)=>
 (bif g then(c a) else(f23_l1 t0 c e n (i64.wrap (a+1))))) λh=>
 (f60 (cm.mk t0) f).bind λj=>
 (h (!j)) else(e ()))
def f23(t0:ah):oB:=
 (bif ((decide ((t0.insns.length:Int)<1))||(decide ((t0.insns.length:Int)>65536))) then some false else (idx t0.insns (i64.wrap ((t0.insns.length:Int) - 1))).bind λa=>
 letk (λ(f:Bool)=>
 (bif f then letk (λ(_:Unit)=>
 letk (λ(g:Bool)=>
 some (!g)) λh=>
 letk (λ(j:Int)=>
 (h (decide (j>=0)))) λe=>
 letk (λ(_:Unit)=>
 (e (-1))) λk=>
 (f23_l1 t0 e k (Int.toNat ((t0.insns.length:Int) - 0)+1) 0)) λm=>
 (f50 (cm.mk t0)).bind λp=>
 (bif (!p) then some false else (f51 (cm.mk t0)).bind λr=>
 (bif (!r) then some false else (f52 (cm.mk t0)).bind λt=>
 (bif (!t) then some false else (f53 (cm.mk t0)).bind λw=>
 (bif (!w) then some false else (f54 (cm.mk t0)).bind λx=>
 (bif (!x) then some false else (f55 (cm.mk t0)).bind λy=>
 (bif (!y) then some false else (f56 (cm.mk t0)).bind λA=>
 (bif (!A) then some false else (f57 (cm.mk t0)).bind λB=>
 (bif (!B) then some false else(m ()))))))))) else some false)) λc=>
 (bif (decide (a.op=29)) then(c (decide (a.op=29))) else(bif (decide (a.op=33)) then(c (decide (a.op=33))) else(bif (decide (a.op=34)) then(c (decide (a.op=34))) else(c (decide (a.op=57)))))))
def f67_l2(c:Int)(f:lL->Option lL)(g:Obj)(h:lI):Nat->Int->lL->Option lL
 |0,_,_=>none
 |na+1,a,e=>
 (bif (decide (a<(h.length:Int))) then (idx e c).bind λj=>
 (idx j a).bind λk=>
 (f67_l2 c f g h na (i64.wrap (a+1)) (List.set e c.toNat (List.set j a.toNat g.lo))) else(f e))
def f67_l1(t0:ah)(f:lL->Option lL):Nat->Int->lL->Option lL
 |0,_,_=>none
 |n+1,a,e=>
 (bif (decide (a<(t0.objs.length:Int))) then letk (λ(j:lL)=>
 (f67_l1 t0 f n (i64.wrap (a+1)) j)) λg=>
 (idx t0.objs a).bind λc=>
 aH (nC 8 c.size)<|
 (idx e a).bind λm=>
 (f80 c 0).bind λk=>
 (bif (!k) then (idx (List.set e a.toNat (List.replicate c.size.toNat (0:Int))) a).bind λh=>
 (f67_l2 a g c h (Int.toNat ((h.length:Int) - 0)+1) 0 (List.set e a.toNat (List.replicate c.size.toNat (0:Int)))) else(g (List.set e a.toNat (List.replicate c.size.toNat (0:Int))))) else(f e))
def f67_l3(t0:ah)(f:lL->Option lL):Nat->Int->lL->Option lL
 |0,_,_=>none
 |n+1,c,e=>
 (bif (decide (c<(t0.inits.length:Int))) then (idx t0.inits c).bind λa=>
 (idx e a.o).bind λg=>
 (idx g a.slot).bind λh=>
 (f67_l3 t0 f n (i64.wrap (c+1)) (List.set e a.o.toNat (List.set g a.slot.toNat a.v))) else(f e))
def f67(t0:ah):Option lL:=
 (f23 t0).bind λa=>
 (bif (!a) then some [] else aH (nC 24 (t0.objs.length:Int))<|
 letk (λ(c:lL)=>
 letk (λ(e:lL)=>
 some e) λf=>
 (f67_l3 t0 f (Int.toNat ((t0.inits.length:Int) - 0)+1) 0 c)) λg=>
 (f67_l1 t0 g (Int.toNat ((t0.objs.length:Int) - 0)+1) 0 (List.replicate (Int.toNat (t0.objs.length:Int)) ([]:lI))))
def f37_l2(a:lI)(f:(List aa)->Option ((List am)×(List (List aa))×Int)):Nat->Int->(List aa)->Option ((List am)×(List (List aa))×Int)
 |0,_,_=>none
 |na+1,c,e=>
 (bif (decide (c<(a.length:Int))) then (idx a c).bind λg=>
 aH (de 16 e [(f68 g)])<|
 (f37_l2 a f na (i64.wrap (c+1)) (e++ [(f68 g)])) else(f e))
def f37_l1(t0:ah)(g:(List aa)->(List (List aa))->Option ((List am)×(List (List aa))×Int))(c:lL):Nat->Int->(List aa)->(List (List aa))->Option ((List am)×(List (List aa))×Int)
 |0,_,_,_=>none
 |n+1,a,e,f=>
 (bif (decide (a<(c.length:Int))) then letk (λ(m:List aa)(p:List (List aa))=>
 (f37_l1 t0 g c n (i64.wrap (a+1)) m p)) λr=>
 (idx c a).bind λh=>
 letk (λ(j:List aa)=>
 aH (de 24 f [j])<|
 (idx t0.objs a).bind λt=>
 (f69 t).bind λk=>
 aH (de 16 e [k])<|
 (r (e++ [k]) (f++ [j]))) λw=>
 (f37_l2 h w (Int.toNat ((h.length:Int) - 0)+1) 0 []) else(g e f))
def f37_l5(g:List aa)(h:(List (List aa))->lI->lI->Option ((List am)×(List (List aa))×Int))(a:cq):Nat->Int->(List (List aa))->Option ((List am)×(List (List aa))×Int)
 |0,_,_=>none
 |nb+1,c,e=>
 (bif (decide (c<(a.ins.length:Int))) then (idx a.ins c).bind λf=>
 (idx e f).bind λj=>
 (idx g f).bind λk=>
 (idx j 0).bind λm=>
 (f37_l5 g h a nb (i64.wrap (c+1)) (List.set e f.toNat (List.set j (Int.toNat 0) k))) else(h e a.ins a.outs))
def f37_l4(e:List aa)(f:List am)(g:(List am)->(List (List aa))->Int->Int->(List cq)->Int->Option ((List am)×(List (List aa))×Int))(a:bK)(h:am):Nat->Int->(List (List aa))->Option ((List am)×(List (List aa))×Int)
 |0,_,_=>none
 |na+1,c,j=>
 (bif (decide (c<(a.entries.length:Int))) then letk (λ(m:List (List aa))(c60v214:lI)(c61v215:lI)=>
 (f37_l4 e f g a h na (i64.wrap (c+1)) m)) λp=>
 (idx a.entries c).bind λk=>
 (f37_l5 e p k (Int.toNat ((k.ins.length:Int) - 0)+1) 0 j) else(g (List.set f a.at_.toNat (am.mk true h.r)) j a.prio a.at_ a.entries a.deadline))
def f37_l3(t0:ah)(c:List aa)(e:(List am)->(List (List aa))->Option ((List am)×(List (List aa))×Int)):Nat->Int->(List am)->(List (List aa))->Option ((List am)×(List (List aa))×Int)
 |0,_,_,_=>none
 |n+1,g,h,k=>
 (bif (decide (g<(t0.tasks.length:Int))) then letk (λ(r:List am)(t:List (List aa))(c50v200:Int)(c51v201:Int)(c52v202:List cq)(c53v203:Int)=>
 (f37_l3 t0 c e n (i64.wrap (g+1)) r t)) λw=>
 (idx t0.tasks g).bind λj=>
 (idx h j.at_).bind λx=>
 (f37_l4 c h w j x (Int.toNat ((j.entries.length:Int) - 0)+1) 0 k) else(e h k))
noncomputable def f37_l6(t0:ah)(c:List aa)(f:(List am)->(List (List aa))->Int->(Nat->aa)->Option ((List am)×(List (List aa))×Int)):Nat->Int->(List am)->(List (List aa))->Int->(Nat->aa)->Option ((List am)×(List (List aa))×Int)
 |0,_,_,_,_,_=>none
 |n+1,m,y,A,c114v241,c115v242=>
 (f70 t0 c c114v241 c115v242 y A (decide (m>4))).bind λa=>
 (bif a.1 then(f37_l6 t0 c f n (i64.wrap (m+1)) a.2.2.2.1 a.2.2.2.2 a.2.1 a.2.2.1) else(f a.2.2.2.1 a.2.2.2.2 a.2.1 a.2.2.1))
noncomputable def f37(t0:ah):Option ((List am)×(List (List aa))×Int):=
 (f23 t0).bind λB=>
 (bif (!B) then some ([],[],2) else aH (nC 264 (t0.insns.length:Int))<|
 letk (λ(c:List aa)(C:List (List aa))=>
 letk (λ(E:List am)(F:List (List aa))=>
 letk (λ(G:List am)(H:List (List aa))(c114v230:Int)(c115v231:Nat->aa)=>
 some (G,H,0)) λf=>
 (f37_l6 t0 c f 9223372036854775808 1 E F 0 (λ_=>((aa.mk 0 0):aa)))) λe=>
 (f37_l3 t0 c e (Int.toNat ((t0.tasks.length:Int) - 0)+1) 0 (List.replicate (Int.toNat (t0.insns.length:Int)) ((am.mk false (λ_=>(aa.mk 0 0))):am)) C)) λI=>
 (f67 t0).bind λp=>
 (f37_l1 t0 I p (Int.toNat ((p.length:Int) - 0)+1) 0 ([]:List aa) ([]:List (List aa))))
def f21_l1(t0:ah)(e:(List am)×(List (List aa))×Int)(h:lI->Option lI):Nat->Int->lI->Option lI
 |0,_,_=>none
 |n+1,f,g=>
 (bif (decide (f<(e.1.length:Int))) then letk (λ(x:lI)=>
 (f21_l1 t0 e h n (i64.wrap (f+1)) x)) λk=>
 (idx e.1 f).bind λj=>
 (idx t0.insns f).bind λc=>
 (bif ((!decide (c.op=27))&&(!decide (c.op=28))) then(k g) else letk (λ(y:Bool)=>
 (bif y then aH (de 8 g [f])<|
 (k (g++ [f])) else(k g))) λp=>
 (bif (!j.reached) then(p (!j.reached)) else letk (λ(t:Bool)=>
 (bif t then(p t) else (bif (decide (c.op=28)) then(aH (bS 16 c.a)<|some (!(f40 (j.r c.a.toNat) 0))) else some false).bind λA=>
 (p A))) λw=>
 (bif (decide (c.op=27)) then aH (bS 16 c.a)<|
 (w (f38 (j.r c.a.toNat) (f39 c.n c.m))) else(w false)))) else(h g))
noncomputable def f21(t0:ah):Option lI:=
 (f37 t0).bind λe=>
 letk (λ(B:lI)=>
 some B) λh=>
 (f21_l1 t0 e h (Int.toNat ((e.1.length:Int) - 0)+1) 0 [])
def f73(l:lI):Option lI:=aH (decide (l.length<4611686018427387904)) (some (l.mergeSort λx y=>decide (x<=y)))
def f108(x0:Int):Bool:=
 (!decide (x0=x0))
def f76(x0:Int)(y1:Int):Bool:=
 (((f108 x0)&&(!(f108 y1)))||(decide (x0<y1)))
def f77(x0:Int):Bool:=
 (!decide (x0=x0))
def f45_l1(x0:lI)(e:Int)(f:Int->Option (Int×Bool)):Nat->Int->Int->Option (Int×Bool)
 |0,_,_=>none
 |n+1,a,c=>
 (bif (decide (a<c)) then (idx x0 (i64.wrap (Int.fdiv (IntKind.u64.wrap (i64.wrap (a+c))) (2^min (Int.toNat 1) IntKind.u64.bits)))).bind λg=>
 (bif (f76 g e) then(f45_l1 x0 e f n (i64.wrap ((i64.wrap (Int.fdiv (IntKind.u64.wrap (i64.wrap (a+c))) (2^min (Int.toNat 1) IntKind.u64.bits)))+1)) c) else(f45_l1 x0 e f n a (i64.wrap (Int.fdiv (IntKind.u64.wrap (i64.wrap (a+c))) (2^min (Int.toNat 1) IntKind.u64.bits))))) else(f a))
def f45(x0:lI)(c:Int):Option (Int×Bool):=
 letk (λ(a:Int)=>
 (bif (decide (a<(x0.length:Int))) then((idx x0 a).bind λe=>(bif (decide (e=c)) then some true else((idx x0 a).bind λf=>some ((f77 f)&&(f77 c)))).bind λg=>some g) else some false).bind λh=>
 some (a,h)) λj=>
 (f45_l1 x0 c j 9223372036854775808 0 (x0.length:Int))
def f44(a0:Int)(a:lI):Option Int:=
 (f45 a a0).bind λc=>
 some (i64.wrap (a0 - c.1))
def f46(a0:Int)(a:lI):oB:=
 (f45 a a0).bind λc=>
 some c.2
def f47n(s0:lS):Option lS:=aH (de 40 [] s0) (some s0)
def f48n(s0:lK):Option lK:=aH (de 48 [] s0) (some s0)
def f49o(s0:List dI):Option (List dI):=aH (de 40 [] s0) (some s0)
def f22_l1(at1:lI)(e:lI->Option (ah×Int)):Nat->Int->lI->Option (ah×Int)
 |0,_,_=>none
 |n+1,a,c=>
 (bif (decide (a<(at1.length:Int))) then (idx at1 a).bind λf=>
 letk (λ(_:Unit)=>
 (f22_l1 at1 e n (i64.wrap (a+1)) (c++ [f]))) λg=>
 aH (de 8 c [f])<|
 (g ()) else(e c))
def f22_l2(t0:ah)(c:lI)(e:Unit->Option (ah×Int)):Nat->Int->Option (ah×Int)
 |0,_=>none
 |n+1,a=>
 (bif (decide (a<(c.length:Int))) then (idx c a).bind λf=>
 (f43 (cm.mk t0) f).bind λg=>
 (bif (!g) then some true else((bif (decide (a>0)) then((idx c (i64.wrap (a - 1))).bind λh=>some (decide (h=f))) else some false).bind λj=>some j)).bind λk=>
 (bif k then some ((ah.mk [] [] [] [] [] [] [] 0 [] [] []),2) else(f22_l2 t0 c e n (i64.wrap (a+1)))) else(e ()))
def f22_l3(t0:ah)(g:lI)(h:lN->Option (ah×Int)):Nat->Int->lN->Option (ah×Int)
 |0,_,_=>none
 |n+1,e,f=>
 (bif (decide (e<(t0.insns.length:Int))) then letk (λ(p:lN)=>
 (f22_l3 t0 g h n (i64.wrap (e+1)) p)) λj=>
 (idx t0.insns e).bind λc=>
 (f46 e g).bind λr=>
 (bif r then(j f) else letk (λ(c76v343:Int)=>
 aH (de 56 f [(aG.mk c.op c.d c.a c.b c.n c.m c76v343)])<|
 (j (f++ [(aG.mk c.op c.d c.a c.b c.n c.m c76v343)]))) λk=>
 (bif (((decide (c.op>=29))&&(decide (c.op<=32)))||(decide (c.op=52))) then (f44 c.to g).bind λt=>
 (k t) else(k c.to))) else(h f))
def f22_l4(t0:ah)(c:lI)(j:lH->Option (ah×Int)):Nat->Int->lH->Option (ah×Int)
 |0,_,_=>none
 |n+1,f,e=>
 (bif (decide (f<(t0.handlers.length:Int))) then letk (λ(p:lH)=>
 (f22_l4 t0 c j n (i64.wrap (f+1)) p)) λk=>
 (idx t0.handlers f).bind λa=>
 (f44 a.from_ c).bind λg=>
 (f44 a.to c).bind λh=>
 (f44 a.at_ c).bind λm=>
 (bif (decide (g<h)) then aH (de 32 e [(bi.mk g h m a.clean)])<|
 (k (e++ [(bi.mk g h m a.clean)])) else(k e)) else(j e))
def f22_l5(t0:ah)(c:lI)(g:lP->Option (ah×Int)):Nat->Int->lP->Option (ah×Int)
 |0,_,_=>none
 |n+1,e,f=>
 (bif (decide (e<(t0.loops.length:Int))) then (idx t0.loops e).bind λa=>
 (f44 a.head c).bind λh=>
 (f44 a.back c).bind λj=>
 aH (de 24 f [(Loop.mk h j a.bound)])<|
 (f22_l5 t0 c g n (i64.wrap (e+1)) (f++ [(Loop.mk h j a.bound)])) else(g f))
def f22_l6(t0:ah)(e:lI)(g:lC->Option (ah×Int)):Nat->Int->lC->Option (ah×Int)
 |0,_,_=>none
 |n+1,f,c=>
 (bif (decide (f<(t0.checks.length:Int))) then letk (λ(k:lC)(c100v400:Int)(c101v401:Int)=>
 (f22_l6 t0 e g n (i64.wrap (f+1)) k)) λh=>
 (idx t0.checks f).bind λa=>
 (f46 a.at_ e).bind λm=>
 (bif (!m) then (f44 a.at_ e).bind λj=>
 aH (de 16 c [(c4.mk j a.kind)])<|
 (h (c++ [(c4.mk j a.kind)]) a.at_ a.kind) else(h c a.at_ a.kind)) else(g c))
def f22_l8(f:lI)(g:List dI)(h:(List dI)->Option (ah×Int)):Nat->Int->(List dI)->Option (ah×Int)
 |0,_,_=>none
 |na+1,a,c=>
 (bif (decide (a<(g.length:Int))) then (idx c a).bind λj=>
 (f44 j.at_ f).bind λk=>
 (idx c a).bind λe=>
 (f22_l8 f g h na (i64.wrap (a+1)) (List.set c a.toNat (dI.mk e.kind e.entry e.guard e.time k))) else(h c))
def f22_l7(g:lI)(j:lS)(k:lS->Option (ah×Int)):Nat->Int->lS->Option (ah×Int)
 |0,_,_=>none
 |n+1,a,e=>
 (bif (decide (a<(j.length:Int))) then letk (λ(r:lS)=>
 (f22_l7 g j k n (i64.wrap (a+1)) r)) λm=>
 (idx e a).bind λc=>
 (f49o c.alts).bind λh=>
 letk (λ(f:List dI)=>
 (idx (List.set e a.toNat (bU.mk f c.obj c.else_)) a).bind λt=>
 (bif (decide (t.else_>=0)) then (idx (List.set e a.toNat (bU.mk f c.obj c.else_)) a).bind λw=>
 (f44 w.else_ g).bind λx=>
 (idx (List.set e a.toNat (bU.mk f c.obj c.else_)) a).bind λp=>
 (m (List.set (List.set e a.toNat (bU.mk f c.obj c.else_)) a.toNat (bU.mk p.alts p.obj x))) else(m (List.set e a.toNat (bU.mk f c.obj c.else_))))) λy=>
 (f22_l8 g h y (Int.toNat ((h.length:Int) - 0)+1) 0 h) else(k e))
def f22_l9(f:lI)(g:lK)(h:lK->Option (ah×Int)):Nat->Int->lK->Option (ah×Int)
 |0,_,_=>none
 |n+1,a,c=>
 (bif (decide (a<(g.length:Int))) then (idx c a).bind λj=>
 (f44 j.at_ f).bind λk=>
 (idx c a).bind λe=>
 (f22_l9 f g h n (i64.wrap (a+1)) (List.set c a.toNat (bK.mk e.prio k e.entries e.deadline))) else(h c))
def f22(t0:ah)(at1:lI):Option (ah×Int):=
 (f23 t0).bind λt=>
 (bif (!t) then some ((ah.mk [] [] [] [] [] [] [] 0 [] [] []),2) else letk (λ(_:Unit)=>
 letk (λ(a:lI)=>
 letk (λ(_:Unit)=>
 letk (λ(f:lN)=>
 letk (λ(g:lH)=>
 letk (λ(h:lP)=>
 letk (λ(j:lC)=>
 (f47n t0.selects).bind λc=>
 (f48n t0.tasks).bind λe=>
 letk (λ(k:lS)=>
 letk (λ(m:lK)=>
 (f23 (ah.mk f g h k t0.lists t0.objs t0.inits t0.excs m t0.prots j)).bind λw=>
 (bif (!w) then some ((ah.mk [] [] [] [] [] [] [] 0 [] [] []),230) else some ((ah.mk f g h k t0.lists t0.objs t0.inits t0.excs m t0.prots j),0))) λx=>
 (f22_l9 a e x (Int.toNat ((e.length:Int) - 0)+1) 0 e)) λy=>
 (f22_l7 a c y (Int.toNat ((c.length:Int) - 0)+1) 0 c)) λA=>
 (f22_l6 t0 a A (Int.toNat ((t0.checks.length:Int) - 0)+1) 0 [])) λB=>
 (f22_l5 t0 a B (Int.toNat ((t0.loops.length:Int) - 0)+1) 0 [])) λC=>
 (f22_l4 t0 a C (Int.toNat ((t0.handlers.length:Int) - 0)+1) 0 [])) λE=>
 (f22_l3 t0 a E (Int.toNat ((t0.insns.length:Int) - 0)+1) 0 [])) λF=>
 (f22_l2 t0 a F (Int.toNat ((a.length:Int) - 0)+1) 0)) λG=>
 letk (λ(H:lI)=>
 (f73 H).bind λI=>
 (G I)) λK=>
 letk (λ(L:lI)=>
 (K L)) λM=>
 letk (λ(N:lI)=>
 (M N)) λO=>
 letk (λ(P:lI)=>
 (O P)) λQ=>
 (f22_l1 at1 Q (Int.toNat ((at1.length:Int) - 0)+1) 0 [])) λR=>
 (R ()))
noncomputable def f11(t0:ah):Option (ah×lI×Int):=
 (f21 t0).bind λp=>
 (f22 t0 p).bind λr=>
 (bif (decide (r.2=0)) then some (r.1,p,0) else (f23 t0).bind λS=>
 (bif S then some (t0,[],0) else some ((ah.mk [] [] [] [] [] [] [] 0 [] [] []),[],2)))
def f6_l1(a:lI)(a1:Int)(f:(List (Int×Bool))->Option (Int)):Nat->Int->(List (Int×Bool))->Option (Int)
 |0,_,_=>none
 |n+1,c,e=>
 (bif (decide (c<(a.length:Int))) then letk (λ(j:List (Int×Bool))=>
 (f6_l1 a a1 f n (i64.wrap (c+1)) j)) λg=>
 (idx a c).bind λh=>
 (bif (decide (h<a1)) then(g (bP e h true)) else(g e)) else(f e))
def f6(a:lI)(a1:Int):Option Int:=
 letk (λ(c:List (Int×Bool))=>
 some (i64.wrap (a1 - (c.length:Int)))) λe=>
 (f6_l1 a a1 e (Int.toNat ((a.length:Int) - 0)+1) 0 ([]:List (Int×Bool)))
def f25_l1(t0:ah)(o1:Obj)(e:Unit->oB):Nat->Int->oB
 |0,_=>none
 |n+1,a=>
 (bif (decide (a<(o1.set_.length:Int))) then (idx o1.set_ a).bind λc=>
 (bif ((decide (c<0))||(decide (c>=(t0.objs.length:Int)))) then some true else((idx t0.objs c).bind λf=>some (!decide (f.size=1)))).bind λg=>
 (bif g then some true else((idx t0.objs c).bind λh=>some h.ptr)).bind λj=>
 (bif j then some true else((bif (decide (a>0)) then((idx o1.set_ (i64.wrap (a - 1))).bind λk=>some (decide (k>=c))) else some false).bind λm=>some m)).bind λp=>
 (bif p then some false else(f25_l1 t0 o1 e n (i64.wrap (a+1)))) else(e ()))
def f25(t0:ah)(o1:Obj):oB:=
 (bif (((((decide (o1.size<1))||(decide (o1.size>16384)))||(decide (o1.lo>o1.hi)))||((!o1.ptr)&&(decide ((o1.set_.length:Int)>0))))||(o1.ptr&&((!decide (o1.lo=0))||(!decide (o1.hi=0))))) then some false else letk (λ(_:Unit)=>
 some true) λa=>
 (f25_l1 t0 o1 a 9223372036854775808 0))
def f26(t0:ah)(o1:Int)(a:Int)(c:Int):oB:=
 (bif ((((decide (o1>=0))&&(decide (o1<(t0.objs.length:Int))))&&(decide (a>=0)))&&(decide (c>=0))) then((idx t0.objs o1).bind λe=>some (decide (a<=(i64.wrap (e.size - c))))) else some false).bind λf=>
 some f
def f27_l1(o0:Obj)(v1:Int)(c:Unit->oB):Nat->Int->oB
 |0,_=>none
 |n+1,a=>
 (bif (decide (a<(o0.set_.length:Int))) then (idx o0.set_ a).bind λe=>
 (bif (decide (v1=(i64.wrap (e+1)))) then some true else(f27_l1 o0 v1 c n (i64.wrap (a+1)))) else(c ()))
def f27(o0:Obj)(v1:Int):oB:=
 (bif (!o0.ptr) then some ((decide (v1>=o0.lo))&&(decide (v1<=o0.hi))) else letk (λ(_:Unit)=>
 some (decide (v1=0))) λa=>
 (f27_l1 o0 v1 a 9223372036854775808 0))
def f14_l1(t0:ah)(c:Int->oB):Nat->Int->Int->oB
 |0,_,_=>none
 |n+1,e,a=>
 (bif (decide (a<(t0.objs.length:Int))) then (idx t0.objs a).bind λf=>
 (f25 t0 f).bind λg=>
 (bif (!g) then some false else (idx t0.objs a).bind λh=>
 (f14_l1 t0 c n (i64.wrap (e+h.size)) (i64.wrap (a+1)))) else(c e))
def f14_l3(t0:ah)(e:Int)(f:Int->Int->Int->oB)(a:dO):Nat->Int->oB
 |0,_=>none
 |na+1,c=>
 (bif (decide (c<e)) then (idx t0.inits c).bind λg=>
 (bif (decide (g.o=a.o)) then((idx t0.inits c).bind λh=>some (decide (h.slot=a.slot))) else some false).bind λj=>
 (bif j then some false else(f14_l3 t0 e f a na (i64.wrap (c+1)))) else(f a.o a.slot a.v))
def f14_l2(t0:ah)(e:Unit->oB):Nat->Int->oB
 |0,_=>none
 |n+1,c=>
 (bif (decide (c<(t0.inits.length:Int))) then letk (λ(c00v126:Int)(c01v127:Int)(c02v128:Int)=>
 (f14_l2 t0 e n (i64.wrap (c+1)))) λf=>
 (idx t0.inits c).bind λa=>
 (f26 t0 a.o a.slot 1).bind λg=>
 (bif (!g) then some true else((idx t0.objs a.o).bind λh=>(f27 h a.v).bind λj=>some (!j))).bind λk=>
 (bif k then some false else(f14_l3 t0 c f a 9223372036854775808 0)) else(e ()))
def f14(t0:ah):oB:=
 (bif ((((decide ((t0.objs.length:Int)>4096))||(decide (t0.excs<4)))||(decide (t0.excs>64)))||(decide ((t0.inits.length:Int)>65536))) then some false else letk (λ(a:Int)=>
 letk (λ(_:Unit)=>
 some (decide (a<=65536))) λc=>
 (f14_l2 t0 c 9223372036854775808 0)) λe=>
 (f14_l1 t0 e 9223372036854775808 0 0))
def f28(t0:ah)(a1:Int):Bool:=
 ((decide (a1>=0))&&(decide (a1<(t0.insns.length:Int))))
def f29_l1(t0:ah)(l1:lI)(c:Unit->oB):Nat->Int->oB
 |0,_=>none
 |n+1,a=>
 (bif (decide (a<(l1.length:Int))) then (idx l1 a).bind λe=>
 (bif (decide (e<0)) then some true else((idx l1 a).bind λf=>some (decide (f>=(t0.objs.length:Int))))).bind λg=>
 (bif g then some true else((idx l1 a).bind λh=>(idx t0.objs h).bind λj=>some (!decide (j.size=1)))).bind λk=>
 (bif k then some false else(f29_l1 t0 l1 c n (i64.wrap (a+1)))) else(c ()))
def f29(t0:ah)(l1:lI):oB:=
 (bif (decide ((l1.length:Int)>8)) then some false else letk (λ(_:Unit)=>
 some true) λa=>
 (f29_l1 t0 l1 a 9223372036854775808 0))
def f15_l2(t0:ah)(e:Int->Int->(List cq)->Int->oB)(a:bK):Nat->Int->oB
 |0,_=>none
 |na+1,c=>
 (bif (decide (c<(a.entries.length:Int))) then (idx a.entries c).bind λf=>
 (f29 t0 f.ins).bind λg=>
 (bif (!g) then some true else((idx a.entries c).bind λh=>(f29 t0 h.outs).bind λj=>some (!j))).bind λk=>
 (bif k then some false else(f15_l2 t0 e a na (i64.wrap (c+1)))) else(e a.prio a.at_ a.entries a.deadline))
def f15_l1(t0:ah)(e:Unit->oB):Nat->Int->oB
 |0,_=>none
 |n+1,c=>
 (bif (decide (c<(t0.tasks.length:Int))) then letk (λ(c00v92:Int)(c01v93:Int)(c02v94:List cq)(c03v95:Int)=>
 (f15_l1 t0 e n (i64.wrap (c+1)))) λf=>
 (idx t0.tasks c).bind λa=>
 (bif ((((((decide (a.prio<0))||(decide (a.prio>31)))||(!(f28 t0 a.at_)))||(decide (a.deadline<0)))||(decide (a.deadline>2147483647)))||(decide ((a.entries.length:Int)>8))) then some false else(f15_l2 t0 f a 9223372036854775808 0)) else(e ()))
def f15(t0:ah):oB:=
 (bif ((decide ((t0.tasks.length:Int)<1))||(decide ((t0.tasks.length:Int)>32))) then some false else letk (λ(_:Unit)=>
 some true) λa=>
 (f15_l1 t0 a 9223372036854775808 0))
def f30s_l1(e:ah->Int->bj->Int->Int->Option (Int))(t0:ah)(f:Int)(e2:bj)(g:Int)(h:Int->Option (Int)):Nat->Int->Int->Option (Int)
 |0,_,_=>none
 |n+1,a,c=>
 (bif ((decide (c<(e2.l.length:Int)))&&(decide (a>=0))) then (idx e2.l c).bind λj=>
 (e t0 f j (i64.wrap (g+1)) a).bind λk=>
 (f30s_l1 e t0 f e2 g h n k (i64.wrap (c+1))) else(h a))
def f30s(g:ah->Int->bj->Int->Int->Option (Int))(t0:ah)(c:Int)(e2:bj)(e:Int)(n4:Int):Option Int:=
 (bif ((decide (n4=0))||(decide (e>64))) then some (-1) else letk (λ(h:Int)(j:Bool)(c01v176:Int)(c02v177:Int)(c03v178:Int)(c04v179:Int)=>
 (bif (((!j)||(!(((((((decide (e2.op=c01v176))&&(decide (e2.n=c02v177)))&&(decide (e2.o=c03v178)))&&(decide (e2.off=c04v179)))&&(decide (e2.len=0)))&&(decide (e2.lo=0)))&&(decide (e2.hi=0)))))||(!decide ((e2.l.length:Int)=h))) then some (-1) else letk (λ(k:Int)=>
 some k) λm=>
 (f30s_l1 g t0 c e2 e m 9223372036854775808 (i64.wrap (n4 - 1)) 0))) λa=>
 (bif (decide (e2.kind=1)) then(a 0 true 0 e2.n 0 0) else(bif (decide (e2.kind=2)) then (f26 t0 e2.o e2.off 1).bind λp=>
 (bif p then((idx t0.objs e2.o).bind λr=>some (!r.ptr)) else some false).bind λt=>
 (a 0 t 0 0 e2.o e2.off) else(bif (decide (e2.kind=14)) then(a 0 ((decide (e2.n>=0))&&(decide (e2.n<c))) 0 e2.n 0 0) else(bif (decide (e2.kind=4)) then(a 1 true 18 0 0 0) else(bif (decide (e2.kind=5)) then(a 2 ((decide (e2.op>=7))&&(decide (e2.op<=15))) e2.op 0 0 0) else letk (λ(w:Bool)=>
 (bif w then(a 2 true 0 0 0 0) else some (-1))) λf=>
 (bif (decide (e2.kind=6)) then(f (decide (e2.kind=6))) else(f (decide (e2.kind=7))))))))))
def f30:Nat->ah->Int->bj->Int->Int->Option (Int)
 |0=>λ_ _ _ _ _=>none
 |n+1=>f30s (f30 n)
def f31(t0:ah)(a1:Int):oB:=
 (bif (f28 t0 a1) then((idx t0.insns a1).bind λa=>(bif (decide (a.op=27)) then some true else((idx t0.insns a1).bind λc=>some (decide (c.op=28)))).bind λe=>some e) else some false).bind λf=>
 some f
def f16_l2(t0:ah)(e:Int->(List bj)->oB)(a:fp):Nat->Int->oB
 |0,_=>none
 |na+1,c=>
 (bif (decide (c<(a.barriers.length:Int))) then (idx a.barriers c).bind λf=>
 (f30 67 t0 (a.barriers.length:Int) f 1 256).bind λg=>
 (bif (decide (g<0)) then some false else(f16_l2 t0 e a na (i64.wrap (c+1)))) else(e a.ceiling a.barriers))
def f16_l1(t0:ah)(e:Unit->oB):Nat->Int->oB
 |0,_=>none
 |n+1,c=>
 (bif (decide (c<(t0.prots.length:Int))) then letk (λ(c00v105:Int)(c01v106:List bj)=>
 (f16_l1 t0 e n (i64.wrap (c+1)))) λf=>
 (idx t0.prots c).bind λa=>
 (bif (((decide (a.ceiling<0))||(decide (a.ceiling>31)))||(decide ((a.barriers.length:Int)>8))) then some false else(f16_l2 t0 f a 9223372036854775808 0)) else(e ()))
def f16_l3(t0:ah)(e:Unit->oB):Nat->Int->oB
 |0,_=>none
 |n+1,a=>
 (bif (decide (a<(t0.checks.length:Int))) then (idx t0.checks a).bind λc=>
 (f31 t0 c.at_).bind λf=>
 (bif (!f) then some true else((bif (decide (a>0)) then((idx t0.checks (i64.wrap (a - 1))).bind λg=>some (decide (g.at_>=c.at_))) else some false).bind λh=>some h)).bind λj=>
 (bif ((j||(decide (c.kind<1)))||(decide (c.kind>5))) then some false else(f16_l3 t0 e n (i64.wrap (a+1)))) else(e ()))
def f16(t0:ah):oB:=
 (bif (decide ((t0.prots.length:Int)>32)) then some false else letk (λ(_:Unit)=>
 letk (λ(_:Unit)=>
 some true) λa=>
 (f16_l3 t0 a 9223372036854775808 0)) λc=>
 (f16_l1 t0 c 9223372036854775808 0))
def f32(t0:ah)(a:Int)(a2:dI):oB:=
 (bif (!(f28 t0 a2.at_)) then some true else((bif (!decide (a2.guard=(-1))) then((f26 t0 a a2.guard 1).bind λe=>some (!e)) else some false).bind λf=>some f)).bind λg=>
 (bif g then some false else(bif (decide (a2.kind=1)) then some (((decide (a2.entry>=0))&&(decide (a2.entry<=7)))&&(decide (a2.time=0))) else letk (λ(h:Bool)=>
 (bif h then (bif (decide (a2.entry=0)) then((f26 t0 a a2.time 1).bind λj=>some j) else some false).bind λk=>
 some k else some (((decide (a2.kind=4))&&(decide (a2.entry=0)))&&(decide (a2.time=0))))) λc=>
 (bif (decide (a2.kind=2)) then(c (decide (a2.kind=2))) else(c (decide (a2.kind=3))))))
def f17_l2(t0:ah)(e:(List dI)->Int->Int->oB)(a:bU):Nat->Int->oB
 |0,_=>none
 |na+1,c=>
 (bif (decide (c<(a.alts.length:Int))) then (idx a.alts c).bind λf=>
 (f32 t0 a.obj f).bind λg=>
 (bif (!g) then some false else(f17_l2 t0 e a na (i64.wrap (c+1)))) else(e a.alts a.obj a.else_))
def f17_l1(t0:ah)(e:Unit->oB):Nat->Int->oB
 |0,_=>none
 |n+1,c=>
 (bif (decide (c<(t0.selects.length:Int))) then letk (λ(c00v134:List dI)(c01v135:Int)(c02v136:Int)=>
 (f17_l1 t0 e n (i64.wrap (c+1)))) λf=>
 (idx t0.selects c).bind λa=>
 (bif ((decide ((a.alts.length:Int)<1))||(decide ((a.alts.length:Int)>16))) then some true else((f26 t0 a.obj 0 1).bind λg=>some (!g))).bind λh=>
 (bif (h||((!decide (a.else_=(-1)))&&(!(f28 t0 a.else_)))) then some false else(f17_l2 t0 f a 9223372036854775808 0)) else(e ()))
def f17_l5(a:lI)(c:Int)(f:Unit->oB):Nat->Int->oB
 |0,_=>none
 |nb+1,e=>
 (bif (decide (e<c)) then (idx a e).bind λg=>
 (idx a c).bind λh=>
 (bif (decide (g=h)) then some false else(f17_l5 a c f nb (i64.wrap (e+1)))) else(f ()))
def f17_l4(t0:ah)(e:Unit->oB)(a:lI):Nat->Int->oB
 |0,_=>none
 |na+1,c=>
 (bif (decide (c<(a.length:Int))) then letk (λ(_:Unit)=>
 (f17_l4 t0 e a na (i64.wrap (c+1)))) λf=>
 (idx a c).bind λg=>
 (bif (decide (g<1)) then some true else((idx a c).bind λh=>some (decide (h>=(t0.tasks.length:Int))))).bind λj=>
 (bif j then some false else(f17_l5 a c f 9223372036854775808 0)) else(e ()))
def f17_l3(t0:ah)(c:Unit->oB):Nat->Int->oB
 |0,_=>none
 |n+1,a=>
 (bif (decide (a<(t0.lists.length:Int))) then letk (λ(_:Unit)=>
 (f17_l3 t0 c n (i64.wrap (a+1)))) λf=>
 (idx t0.lists a).bind λe=>
 (bif (decide ((e.length:Int)>32)) then some false else(f17_l4 t0 f e 9223372036854775808 0)) else(c ()))
def f17(t0:ah):oB:=
 (bif ((decide ((t0.selects.length:Int)>1024))||(decide ((t0.lists.length:Int)>4096))) then some false else letk (λ(_:Unit)=>
 letk (λ(_:Unit)=>
 some true) λa=>
 (f17_l3 t0 a 9223372036854775808 0)) λc=>
 (f17_l1 t0 c 9223372036854775808 0))
def f18_l2(t0:ah)(f:Int)(g:Int->Int->Int->Bool->oB)(a:bi):Nat->Int->oB
 |0,_=>none
 |na+1,e=>
 (bif (decide (e<f)) then (idx t0.handlers e).bind λc=>
 (bif ((!((decide (c.from_>=a.from_))&&(decide (c.to<=a.to))))&&(!((decide (c.to<=a.from_))||(decide (a.to<=c.from_))))) then some false else(f18_l2 t0 f g a na (i64.wrap (e+1)))) else(g a.from_ a.to a.at_ a.clean))
def f18_l1(t0:ah)(e:Unit->oB):Nat->Int->oB
 |0,_=>none
 |n+1,c=>
 (bif (decide (c<(t0.handlers.length:Int))) then letk (λ(c00v110:Int)(c01v111:Int)(c02v112:Int)(c03v113:Bool)=>
 (f18_l1 t0 e n (i64.wrap (c+1)))) λf=>
 (idx t0.handlers c).bind λa=>
 (bif (((((decide (a.from_<0))||(decide (a.from_>=a.to)))||(decide (a.to>(t0.insns.length:Int))))||(!(f28 t0 a.at_)))||((decide (a.at_>=a.from_))&&(decide (a.at_<a.to)))) then some false else(f18_l2 t0 c f a 9223372036854775808 0)) else(e ()))
def f18(t0:ah):oB:=
 (bif (decide ((t0.handlers.length:Int)>4096)) then some false else letk (λ(_:Unit)=>
 some true) λa=>
 (f18_l1 t0 a 9223372036854775808 0))
def f19_l2(t0:ah)(g:Int)(n:Nat)(h:Int->Int->Int->Int->Int->Int->Int->Int->Int->Int->oB)(e:Loop)(c:aG):Nat->Int->oB
 |0,_=>none
 |na+1,f=>
 (bif (decide (f<g)) then (idx t0.loops f).bind λj=>
 (bif (decide (j.back=e.back)) then some false else(f19_l2 t0 g n h e c na (i64.wrap (f+1)))) else(h e.head e.back e.bound c.op c.d c.a c.b c.n c.m c.to))
def f19_l1(t0:ah)(f:Unit->oB):Nat->Int->oB
 |0,_=>none
 |n+1,e=>
 (bif (decide (e<(t0.loops.length:Int))) then letk (λ(c00v98:Int)(c01v99:Int)(c02v100:Int)(c10v101:Int)(c11v102:Int)(c12v103:Int)(c13v104:Int)(c14v105:Int)(c15v106:Int)(c16v107:Int)=>
 (f19_l1 t0 f n (i64.wrap (e+1)))) λg=>
 (idx t0.loops e).bind λa=>
 (bif (((((!(f28 t0 a.head))||(!(f28 t0 a.back)))||(decide (a.head>a.back)))||(decide (a.bound<0)))||(decide (a.bound>2147483647))) then some false else (idx t0.insns a.back).bind λc=>
 (bif ((((!decide (c.op=29))&&(!decide (c.op=30)))&&(!decide (c.op=31)))||(!decide (c.to=a.head))) then some false else(f19_l2 t0 e n g a c 9223372036854775808 0))) else(f ()))
def f19(t0:ah):oB:=
 (bif (decide ((t0.loops.length:Int)>4096)) then some false else letk (λ(_:Unit)=>
 some true) λa=>
 (f19_l1 t0 a 9223372036854775808 0))
def f100:List Row:=
 [(Row.mk 1 (bA #[108,105]) [fD 68 0 15,fD 78 (-9223372036854775808) 9223372036854775807]),(Row.mk 2 (bA #[109,118]) [fD 68 0 15,fD 65 0 15]),(Row.mk 3 (bA #[108,100]) [fD 68 0 15,fD 78 0 4095,fD 77 0 65535]),(Row.mk 4 (bA #[115,116]) [fD 65 0 15,fD 78 0 4095,fD 77 0 65535]),(Row.mk 5 (bA #[108,100,120]) [fD 68 0 15,fD 65 0 15,fD 66 1 65536,fD 78 0 4095,fD 77 0 65535]),(Row.mk 6 (bA #[115,116,120]) [fD 68 0 15,fD 65 0 15,fD 66 1 65536,fD 78 0 4095,fD 77 0 65535]),(Row.mk 7 (bA #[108,100,97]) [fD 68 0 15,fD 65 0 15]),(Row.mk 8 (bA #[115,116,97]) [fD 68 0 15,fD 65 0 15]),(Row.mk 9 (bA #[97,100,100]) [fD 68 0 15,fD 65 0 15,fD 66 0 15]),(Row.mk 10 (bA #[115,117,98]) [fD 68 0 15,fD 65 0 15,fD 66 0 15]),(Row.mk 11 (bA #[109,117,108]) [fD 68 0 15,fD 65 0 15,fD 66 0 15]),(Row.mk 12 (bA #[100,105,118]) [fD 68 0 15,fD 65 0 15,fD 66 0 15]),(Row.mk 13 (bA #[114,101,109]) [fD 68 0 15,fD 65 0 15,fD 66 0 15]),(Row.mk 14 (bA #[109,111,100]) [fD 68 0 15,fD 65 0 15,fD 66 0 15]),(Row.mk 15 (bA #[101,113]) [fD 68 0 15,fD 65 0 15,fD 66 0 15]),(Row.mk 16 (bA #[110,101]) [fD 68 0 15,fD 65 0 15,fD 66 0 15]),(Row.mk 17 (bA #[108,116]) [fD 68 0 15,fD 65 0 15,fD 66 0 15]),(Row.mk 18 (bA #[108,101]) [fD 68 0 15,fD 65 0 15,fD 66 0 15]),(Row.mk 19 (bA #[103,116]) [fD 68 0 15,fD 65 0 15,fD 66 0 15]),(Row.mk 20 (bA #[103,101]) [fD 68 0 15,fD 65 0 15,fD 66 0 15]),(Row.mk 21 (bA #[97,110,100]) [fD 68 0 15,fD 65 0 15,fD 66 0 15]),(Row.mk 22 (bA #[111,114]) [fD 68 0 15,fD 65 0 15,fD 66 0 15]),(Row.mk 23 (bA #[120,111,114]) [fD 68 0 15,fD 65 0 15,fD 66 0 15]),(Row.mk 24 (bA #[110,101,103]) [fD 68 0 15,fD 65 0 15]),(Row.mk 25 (bA #[97,98,115]) [fD 68 0 15,fD 65 0 15]),(Row.mk 26 (bA #[110,111,116]) [fD 68 0 15,fD 65 0 15]),(Row.mk 27 (bA #[99,104,107]) [fD 65 0 15,fD 78 (-9223372036854775808) 9223372036854775807,fD 77 (-9223372036854775808) 9223372036854775807]),(Row.mk 28 (bA #[99,104,107,122]) [fD 65 0 15]),(Row.mk 29 (bA #[106,109,112]) [fD 84 0 65535]),(Row.mk 30 (bA #[106,122]) [fD 65 0 15,fD 84 0 65535]),(Row.mk 31 (bA #[106,110,122]) [fD 65 0 15,fD 84 0 65535]),(Row.mk 32 (bA #[106,116]) [fD 65 0 15,fD 78 (-9223372036854775808) 9223372036854775807,fD 77 1 65536,fD 84 0 65535]),(Row.mk 33 (bA #[114,97,105,115,101]) [fD 78 1 64]),(Row.mk 34 (bA #[114,97,105,115,101,114]) [fD 65 0 15]),(Row.mk 35 (bA #[99,111,110,116]) [fD 65 0 15]),(Row.mk 36 (bA #[101,120,99]) [fD 68 0 15]),(Row.mk 37 (bA #[109,97,114,107]) [fD 78 6 7,fD 77 0 65535]),(Row.mk 38 (bA #[103,101,116]) [fD 68 0 15]),(Row.mk 39 (bA #[112,117,116]) [fD 65 0 15]),(Row.mk 40 (bA #[100,101,102,101,114]) []),(Row.mk 41 (bA #[97,108,108,111,119]) []),(Row.mk 42 (bA #[99,108,111,99,107]) [fD 68 0 15]),(Row.mk 43 (bA #[99,111,117,110,116]) [fD 68 0 15,fD 78 0 7,fD 77 (-1) 31]),(Row.mk 44 (bA #[115,116,97,114,116]) [fD 78 0 65535]),(Row.mk 45 (bA #[110,101,118,101,114]) [fD 78 0 65535]),(Row.mk 46 (bA #[97,119,97,105,116]) [fD 65 0 15,fD 78 0 65535]),(Row.mk 47 (bA #[100,101,108,97,121]) [fD 65 0 15]),(Row.mk 48 (bA #[117,110,116,105,108]) [fD 65 0 15]),(Row.mk 49 (bA #[99,97,108,108]) [fD 68 0 15,fD 65 0 31,fD 66 0 7,fD 78 0 4095,fD 77 0 3]),(Row.mk 50 (bA #[115,101,108]) [fD 78 0 1023]),(Row.mk 51 (bA #[100,111,110,101]) [fD 78 0 1]),(Row.mk 52 (bA #[114,101,113]) [fD 65 0 31,fD 66 0 7,fD 78 0 1,fD 84 0 65535]),(Row.mk 53 (bA #[108,111,99,107]) [fD 78 0 31]),(Row.mk 54 (bA #[112,101,110,116]) [fD 68 0 15,fD 65 0 15,fD 66 0 3,fD 78 0 31,fD 77 0 7]),(Row.mk 55 (bA #[117,110,108,111,99,107]) [fD 78 0 31]),(Row.mk 56 (bA #[97,98,111,114,116]) [fD 78 0 65535]),(Row.mk 57 (bA #[101,110,100]) [])]
def f64_l1(o0:Int)(c:Unit->Option (Row×Bool)):Nat->Int->Option (Row×Bool)
 |0,_=>none
 |n+1,a=>
 (bif (decide (a<(f100.length:Int))) then (idx f100 a).bind λe=>
 (bif (decide (e.op=o0)) then (idx f100 a).bind λf=>
 some (f,true) else(f64_l1 o0 c n (i64.wrap (a+1)))) else(c ()))
def f64(o0:Int):Option (Row×Bool):=
 letk (λ(_:Unit)=>
 some ((Row.mk 0 ByteArray.empty []),false)) λa=>
 (f64_l1 o0 a 9223372036854775808 0)
def f65(x0:aG)(f1:Int):Int:=
 (bif (decide (f1=68)) then x0.d else(bif (decide (f1=65)) then x0.a else(bif (decide (f1=66)) then x0.b else(bif (decide (f1=78)) then x0.n else(bif (decide (f1=77)) then x0.m else x0.to)))))
def f66(x0:aG)(f1:Int)(v2:Int):aG:=
 letk (λ(c01v35:Int)(c02v36:Int)(c03v37:Int)(c04v38:Int)(c05v39:Int)(c06v40:Int)=>
 (aG.mk x0.op c01v35 c02v36 c03v37 c04v38 c05v39 c06v40)) λc=>
 (bif (decide (f1=68)) then(c v2 x0.a x0.b x0.n x0.m x0.to) else(bif (decide (f1=65)) then(c x0.d v2 x0.b x0.n x0.m x0.to) else(bif (decide (f1=66)) then(c x0.d x0.a v2 x0.n x0.m x0.to) else(bif (decide (f1=78)) then(c x0.d x0.a x0.b v2 x0.m x0.to) else(bif (decide (f1=77)) then(c x0.d x0.a x0.b x0.n v2 x0.to) else(c x0.d x0.a x0.b x0.n x0.m v2))))))
def f33_l1(x0:aG)(e:Row×Bool)(g:Int->Int->Int->Int->Int->Int->Int->oB):Nat->Int->Int->Int->Int->Int->Int->Int->Int->oB
 |0,_,_,_,_,_,_,_,_=>none
 |n+1,f,c10v99,c11v100,c12v101,c13v102,c14v103,c15v104,c16v105=>
 (bif (decide (f<(e.1.fields.length:Int))) then (idx e.1.fields f).bind λc=>
 (bif ((decide ((f65 x0 c.name)<c.lo))||(decide ((f65 x0 c.name)>c.hi))) then some false else(f33_l1 x0 e g n (i64.wrap (f+1)) ((f66 (aG.mk c10v99 c11v100 c12v101 c13v102 c14v103 c15v104 c16v105) c.name 0).op) ((f66 (aG.mk c10v99 c11v100 c12v101 c13v102 c14v103 c15v104 c16v105) c.name 0).d) ((f66 (aG.mk c10v99 c11v100 c12v101 c13v102 c14v103 c15v104 c16v105) c.name 0).a) ((f66 (aG.mk c10v99 c11v100 c12v101 c13v102 c14v103 c15v104 c16v105) c.name 0).b) ((f66 (aG.mk c10v99 c11v100 c12v101 c13v102 c14v103 c15v104 c16v105) c.name 0).n) ((f66 (aG.mk c10v99 c11v100 c12v101 c13v102 c14v103 c15v104 c16v105) c.name 0).m) ((f66 (aG.mk c10v99 c11v100 c12v101 c13v102 c14v103 c15v104 c16v105) c.name 0).to))) else(g c10v99 c11v100 c12v101 c13v102 c14v103 c15v104 c16v105))
def f33(x0:aG):oB:=
 (f64 x0.op).bind λc=>
 (bif (!c.2) then some false else letk (λ(c10v82:Int)(c11v83:Int)(c12v84:Int)(c13v85:Int)(c14v86:Int)(c15v87:Int)(c16v88:Int)=>
 some (((((decide (c10v82=0))&&((decide (c11v83=0))&&((decide (c12v84=0))&&((decide (c13v85=0))&&((decide (c14v86=0))&&((decide (c15v87=0))&&((decide (c16v88=0))&&true))))))))&&((!decide (x0.op=27))||(decide (x0.n<=x0.m))))&&(((!decide (x0.op=37))||(!decide (x0.n=6)))||(decide (x0.m=0))))) λe=>
 (f33_l1 x0 c e 9223372036854775808 0 0 x0.d x0.a x0.b x0.n x0.m x0.to))
def f34_l1(t0:ah)(c:Int)(e:Int)(f:Unit->oB):Nat->Int->oB
 |0,_=>none
 |n+1,a=>
 (bif (decide (a<(i64.wrap (c+e)))) then (idx t0.insns a).bind λg=>
 (bif (!decide (g.op=29)) then some false else(f34_l1 t0 c e f n (i64.wrap (a+1)))) else(f ()))
def f34(t0:ah)(a:Int)(c:Int):oB:=
 (bif (decide ((i64.wrap (a+c))>(t0.insns.length:Int))) then some false else letk (λ(_:Unit)=>
 some true) λe=>
 (f34_l1 t0 a c e 9223372036854775808 a))
def f35(t0:ah)(a:Int)(n2:Int):Option (cq×Bool):=
 (bif (((decide (a<0))||(decide (a>=(t0.tasks.length:Int))))||(decide (n2<0))) then some true else((idx t0.tasks a).bind λc=>some (decide (n2>=(c.entries.length:Int))))).bind λe=>
 (bif e then some ((cq.mk [] []),false) else (idx t0.tasks a).bind λf=>
 (idx f.entries n2).bind λg=>
 some (g,true))
def f36(t0:ah)(p1:Int)(n2:Int):oB:=
 (bif (((decide (p1>=0))&&(decide (p1<(t0.prots.length:Int))))&&(decide (n2>=0))) then((idx t0.prots p1).bind λa=>some (decide (n2<(a.barriers.length:Int)))) else some false).bind λc=>
 some c
def f20(t0:ah)(x1:aG):oB:=
 (f33 x1).bind λk=>
 (bif (!k) then some false else letk (λ(p:Bool)=>
 (bif p then (f26 t0 x1.n x1.m 1).bind λr=>
 some r else letk (λ(t:Bool)=>
 (bif t then (f26 t0 x1.n x1.m x1.b).bind λw=>
 some w else letk (λ(x:Bool)=>
 (bif x then some (f28 t0 x1.to) else(bif (decide (x1.op=32)) then (f34 t0 x1.to x1.m).bind λy=>
 some y else(bif (decide (x1.op=33)) then some (decide (x1.n<=t0.excs)) else letk (λ(A:Bool)=>
 (bif A then some (decide (x1.n<(t0.lists.length:Int))) else(bif (decide (x1.op=50)) then some (decide (x1.n<(t0.selects.length:Int))) else(bif (decide (x1.op=49)) then (f35 t0 x1.a x1.b).bind λe=>
 (bif e.2 then((f26 t0 x1.n 0 (i64.wrap ((i64.wrap ((e.1.ins.length:Int)+(e.1.outs.length:Int)))+1))).bind λB=>some B) else some false).bind λC=>
 some C else(bif (decide (x1.op=52)) then (f35 t0 x1.a x1.b).bind λE=>
 some (E.2&&(f28 t0 x1.to)) else letk (λ(F:Bool)=>
 (bif F then some (decide (x1.n<(t0.prots.length:Int))) else(bif (decide (x1.op=54)) then (f36 t0 x1.n x1.m).bind λG=>
 some G else(bif (decide (x1.op=43)) then (bif (decide (x1.m=(-1))) then some true else((f36 t0 x1.m x1.n).bind λH=>some H)).bind λI=>
 some I else some true)))) λg=>
 (bif (decide (x1.op=53)) then(g (decide (x1.op=53))) else(g (decide (x1.op=55))))))))) λc=>
 (bif (decide (x1.op=44)) then(c (decide (x1.op=44))) else(bif (decide (x1.op=45)) then(c (decide (x1.op=45))) else(bif (decide (x1.op=46)) then(c (decide (x1.op=46))) else(c (decide (x1.op=56)))))))))) λf=>
 (bif (decide (x1.op=29)) then(f (decide (x1.op=29))) else(bif (decide (x1.op=30)) then(f (decide (x1.op=30))) else(f (decide (x1.op=31))))))) λh=>
 (bif (decide (x1.op=5)) then(h (decide (x1.op=5))) else(h (decide (x1.op=6)))))) λj=>
 (bif (decide (x1.op=3)) then(j (decide (x1.op=3))) else(j (decide (x1.op=4)))))
def f10_l1(t0:ah)(c:Unit->oB):Nat->Int->oB
 |0,_=>none
 |n+1,a=>
 (bif (decide (a<(t0.insns.length:Int))) then (idx t0.insns a).bind λe=>
 (f20 t0 e).bind λf=>
 (bif (!f) then some false else(f10_l1 t0 c n (i64.wrap (a+1)))) else(c ()))
def f10(t0:ah):oB:=
 (bif ((decide ((t0.insns.length:Int)<1))||(decide ((t0.insns.length:Int)>65536))) then some true else((f14 t0).bind λc=>some (!c))).bind λe=>
 (bif e then some true else((f15 t0).bind λf=>some (!f))).bind λg=>
 (bif g then some true else((f16 t0).bind λh=>some (!h))).bind λj=>
 (bif j then some true else((f17 t0).bind λk=>some (!k))).bind λm=>
 (bif m then some true else((f18 t0).bind λp=>some (!p))).bind λr=>
 (bif r then some true else((f19 t0).bind λt=>some (!t))).bind λw=>
 (bif w then some false else letk (λ(_:Unit)=>
 (idx t0.insns (i64.wrap ((t0.insns.length:Int) - 1))).bind λa=>
 some ((((decide (a.op=29))||(decide (a.op=33)))||(decide (a.op=34)))||(decide (a.op=57)))) λx=>
 (f10_l1 t0 x 9223372036854775808 0))
def f8_l1(a0:lI)(b1:lI)(c:Unit->oB):Nat->Int->oB
 |0,_=>none
 |n+1,a=>
 (bif (decide (a<(a0.length:Int))) then (idx a0 a).bind λe=>
 (idx b1 a).bind λf=>
 (bif (!decide (e=f)) then some false else(f8_l1 a0 b1 c n (i64.wrap (a+1)))) else(c ()))
def f8(a0:lI)(b1:lI):oB:=
 (bif (!decide ((a0.length:Int)=(b1.length:Int))) then some false else letk (λ(_:Unit)=>
 some true) λa=>
 (f8_l1 a0 b1 a 9223372036854775808 0))
def f95_l1(e:lI->Option lI):Nat->Int->Int->lI->Option lI
 |0,_,_,_=>none
 |n+1,a,f,c=>
 (bif (decide (f<8)) then aH (de 1 c [(IntKind.u8.wrap (Int.tmod a 256))])<|
 (f95_l1 e n (IntKind.u64.wrap (Int.tdiv a 256)) (i64.wrap (f+1)) (c++ [(IntKind.u8.wrap (Int.tmod a 256))])) else(e c))
def f95(v0:Int):Option lI:=
 letk (λ(a:lI)=>
 some a) λc=>
 (f95_l1 c 9223372036854775808 (IntKind.u64.wrap v0) 0 [])
def f61(l:lI)(v1:Int):Option lI:=
 (f95 v1).bind λa=>
 aH (de 1 l a)<|
 some (l++a)
def f96_l1(l1:lI):Nat->Int->lI->Option lI
 |0,_,_=>none
 |n+1,a,c=>
 (bif (decide (a<(l1.length:Int))) then (idx l1 a).bind λe=>
 (f61 c e).bind λf=>
 (f96_l1 l1 n (i64.wrap (a+1)) f) else some c)
def f96(l:lI)(l1:lI):Option lI:=
 (f96_l1 l1 9223372036854775808 0 l)
def vl:ah->Bool
 |⟨_,[],[],[],[],[],[],4,[⟨0,0,[],0⟩],[],[]⟩=>true
 |_=>false
def f62e_l1(is:lN)(f:lI->Option lI):Nat->Int->lI->Option lI
 |0,_,_=>none
 |n+1,e,g=>
 (bif (decide (e<(is.length:Int))) then (idx is e).bind λc=>
 (f96 g [(i64.wrap c.op),c.d,c.a,c.b]).bind λh=>
 (f61 h c.n).bind λj=>
 (f61 j c.m).bind λk=>
 (f96 k [c.to]).bind λp=>
 (f62e_l1 is f n (i64.wrap (e+1)) p) else(f g))
def f62e(l:lI)(is:lN):Option lI:=
 (f96 l [(is.length:Int)]).bind λa=>
 letk (λ(c:lI)=>
 (f96 c [0]).bind λe=>
 letk (λ(_:Unit)=>
 (f96 e [0]).bind λf=>
 letk (λ(_:Unit)=>
 (f96 f [0]).bind λg=>
 letk (λ(_:Unit)=>
 (f96 g [0]).bind λh=>
 some h) λj=>
 (j ())) λk=>
 (k ())) λm=>
 (m ())) λp=>
 (f62e_l1 is p 9223372036854775808 0 a)
def f62(l:lI)(t1:ah):Option lI:=aH (vl t1)<|f62e l t1.insns
def f63e(l:lI)(is:lN):Option lI:=
 (f96 l [0]).bind λa=>
 letk (λ(_:Unit)=>
 (f96 a [0]).bind λc=>
 letk (λ(_:Unit)=>
 (f96 c [4,1]).bind λe=>
 letk (λ(f:lI)=>
 (f96 f [0]).bind λg=>
 letk (λ(_:Unit)=>
 (f96 g [0]).bind λh=>
 some h) λj=>
 (j ())) λk=>
 letk (λ(m:lI)=>
 (k m)) λp=>
 (f96 e [0,0,0]).bind λr=>
 letk (λ(_:Unit)=>
 (f61 r 0).bind λt=>
 (p t)) λw=>
 (w ())) λx=>
 (x ())) λy=>
 (y ())
def f63(l:lI)(t1:ah):Option lI:=aH (vl t1)<|f63e l t1.insns
def f24e(is:lN):Option lI:=
 (f61 [] 958023).bind λa=>
 (f62 a (ah.mk is [] [] [] [] [] [] 4 [(bK.mk 0 0 [] 0)] [] [])).bind λc=>
 (f63 c (ah.mk is [] [] [] [] [] [] 4 [(bK.mk 0 0 [] 0)] [] [])).bind λe=>
 some e
def f24(t0:ah):Option lI:=aH (vl t0)<|f24e t0.insns
def f13(a0:ah)(b1:ah):oB:=
 (f24 a0).bind λa=>
 aH (wb a)<|
 (f24 b1).bind λc=>
 aH (wb c)<|
 some (((xp a).toList==(xp c).toList))
def f12(l:lN):Option ah:=
 aH (de 56 l [(aG.mk 57 0 0 0 0 0 0)])<|
 some (ah.mk (l++ [(aG.mk 57 0 0 0 0 0 0)]) [] [] [] [] [] [] 4 [(bK.mk 0 0 [] 0)] [] [])
noncomputable def f5:oB:=
 (f12 [(aG.mk 38 1 0 0 0 0 0),(aG.mk 27 0 1 0 0 9 0),(aG.mk 27 0 1 0 0 9 0),(aG.mk 30 0 1 0 0 0 2)]).bind λf=>
 (f11 f).bind λa=>
 (f12 [(aG.mk 38 1 0 0 0 0 0),(aG.mk 27 0 1 0 0 9 0)]).bind λg=>
 (f11 g).bind λc=>
 (f11 (ah.mk [] [] [] [] [] [] [] 0 [] [] [])).bind λh=>
 letk (λ(j:Bool)=>
 (bif ((((j&&(decide (c.2.2=0)))&&(decide ((c.2.1.length:Int)=0)))&&(decide ((c.1.insns.length:Int)=3)))&&(decide (h.2.2=2))) then((f6 [3,1,5,1] 5).bind λk=>some (decide (k=3))) else some false).bind λm=>
 (bif m then((f6 [] (-7)).bind λp=>some (decide (p=(-7)))) else some false).bind λr=>
 some r) λe=>
 (bif (decide (a.2.2=0)) then (f8 a.2.1 [2]).bind λt=>
 (bif t then (f12 [(aG.mk 38 1 0 0 0 0 0),(aG.mk 27 0 1 0 0 9 0),(aG.mk 30 0 1 0 0 0 2)]).bind λw=>
 (f13 a.1 w).bind λx=>
 (e x) else(e false)) else(e false))
def f9_l1(t0:ah)(e:Int->oB):Nat->Int->Int->oB
 |0,_,_=>none
 |n+1,f,a=>
 (bif ((decide (a<(t0.objs.length:Int)))&&(decide (a<100))) then (idx t0.objs a).bind λc=>
 (f9_l1 t0 e n (i64.wrap (f+(if(if 20000<c.size then 20000 else c.size)>0 then(if 20000<c.size then 20000 else c.size) else 0))) (i64.wrap (a+1))) else(e f))
def f9(t0:ah):oB:=
 letk (λ(a:Int)=>
 some (((((((((((decide (a>200))||(decide ((t0.insns.length:Int)>60)))||(decide ((t0.handlers.length:Int)>20)))||(decide ((t0.loops.length:Int)>60)))||(decide ((t0.selects.length:Int)>20)))||(decide ((t0.lists.length:Int)>40)))||(decide ((t0.objs.length:Int)>30)))||(decide ((t0.inits.length:Int)>60)))||(decide ((t0.tasks.length:Int)>20)))||(decide ((t0.prots.length:Int)>10)))||(decide ((t0.checks.length:Int)>60)))) λc=>
 (f9_l1 t0 c 9223372036854775808 0 0)
def f4_l1(t0:ah)(c:ah×lI×Int)(j:Int->oB):Nat->Int->Int->oB
 |0,_,_=>none
 |n+1,f,g=>
 (bif (decide (g<(t0.insns.length:Int))) then letk (λ(p:Int)=>
 (f4_l1 t0 c j n p (i64.wrap (g+1)))) λk=>
 (idx t0.insns g).bind λe=>
 (bif (decide (f<(c.2.1.length:Int))) then((idx c.2.1 f).bind λr=>some (decide (r=g))) else some false).bind λt=>
 (bif t then(bif ((!decide (e.op=27))&&(!decide (e.op=28))) then some false else(k (i64.wrap (f+1)))) else (idx c.1.insns (i64.wrap (g - f))).bind λh=>
 (bif (!((decide (e.op=h.op))&&((decide (e.d=h.d))&&((decide (e.a=h.a))&&((decide (e.b=h.b))&&((decide (e.n=h.n))&&((decide (e.m=h.m))&&((decide (0=0))&&true)))))))) then some true else((f6 c.2.1 g).bind λw=>some (!decide (w=(i64.wrap (g - f)))))).bind λx=>
 (bif x then some false else(k f))) else(j f))
noncomputable def f4(t0:ah):oB:=
 (f9 t0).bind λy=>
 (bif y then some true else((f10 t0).bind λA=>some (!A))).bind λB=>
 (bif B then (f5).bind λC=>
 some C else (f11 t0).bind λc=>
 (bif (!decide (c.2.2=0)) then some true else((f10 c.1).bind λE=>some (!E))).bind λF=>
 (bif (F||(!decide ((i64.wrap ((c.1.insns.length:Int)+(c.2.1.length:Int)))=(t0.insns.length:Int)))) then some false else letk (λ(G:Int)=>
 (bif (decide (G=(c.2.1.length:Int))) then((f5).bind λH=>some H) else some false).bind λI=>
 some I) λj=>
 (f4_l1 t0 c j 9223372036854775808 0 0)))
abbrev sN:AV:= .d (.v (.slice none 0 0))
abbrev fe(k:Int)(f o:Nat):Int×AV:=(k, .fn (.func f) [] [.pt o 0])
abbrev _root_.Go.Sk.AO.z:AO:= .dead
abbrev txA(t:ah):lV:=[.l E45 t.insns, .l E88 t.handlers, .l E90 t.loops, .l E82 t.selects, .l E22 t.lists, .l E50 t.objs, .l E62 t.inits, .n t.excs, .l E57 t.tasks, .l E71 t.prots, .l E79 t.checks]
abbrev txV(a:lN)(b:lH)(c:lP)(d:lS)(e:lL)(f:lO)(g:lT)(h:Int)(i:lK)(j:lM)(k:lC):lV:=[.l E45 a, .l E88 b, .l E90 c, .l E82 d, .l E22 e, .l E50 f, .l E62 g, .n h, .l E57 i, .l E71 j, .l E79 k]
abbrev hO:lO:=[(Obj.mk 1 0 9 false []),(Obj.mk 2 (-9223372036854775808) 9223372036854775807 false [])]
abbrev a15(x1:aG):Int:=i64.wrap (BitVec.ofInt i64.bits x1.a&&&BitVec.ofInt i64.bits 15).toNat
abbrev tR(t:ah)(a b c d:AV):lV:=[.l E45 t.insns, .l E88 t.handlers, .l E90 t.loops, .l E82 t.selects, .l E22 t.lists, .l E50 t.objs, .l E62 t.inits, .n t.excs, .l E57 t.tasks, .l E71 t.prots, .l E79 t.checks,a,b,c,d]
abbrev kvT(ky:Nat->Value)(t:ah)(rg:List aa)(fc:List am)(sl:List (List aa))(pc:Int):lV:=[.kv (ky 0) (.sl (List.map E45 t.insns)), .kv (ky 1) (.sl (List.map E88 t.handlers)), .kv (ky 2) (.sl (List.map E90 t.loops)), .kv (ky 3) (.sl (List.map E82 t.selects)), .kv (ky 4) (.sl (List.map E22 t.lists)), .kv (ky 5) (.sl (List.map E50 t.objs)), .kv (ky 6) (.sl (List.map E62 t.inits)), .kv (ky 7) (D.i .i64 t.excs), .kv (ky 8) (.sl (List.map E57 t.tasks)), .kv (ky 9) (.sl (List.map E71 t.prots)), .kv (ky 10) (.sl (List.map E79 t.checks)), .kv (ky 11) (.sl (List.map c5 rg)), .kv (ky 12) (.sl (List.map gD fc)), .kv (ky 13) (.sl (List.map ic sl)), .n pc]
abbrev fN(ky:Nat->Value)(t:ah)(rg:List aa)(fc:List am)(sl:List (List aa))(pc:Int)(rr:Nat->aa):AO:= .row 143 (kvT ky t rg fc sl pc++(br 32 (λj=> .d (aY ao rr j))++([.mp 1, .mp 2]:lV):lV))
abbrev kP(x:Int×Int):Value:=Value.agg ⟨[Value.int .i64 x.1,Value.int .i64 x.2]⟩
abbrev kW(x:Int):Value:=Value.int .i64 x
abbrev dP(x:aa):D:= .ag (ao x)
abbrev dW(x:Nat->aa):D:= .ag (wn x)
abbrev aP(x:aa):AV:=AV.d (.ag (ao x))
abbrev aW(x:Nat->aa):AV:=AV.d (.ag (wn x))
abbrev mP(l:List ((Int×Int)×aa)):AO:=mpO (λx:Int×Int=>Value.agg ⟨[Value.int .i64 x.1,Value.int .i64 x.2]⟩) (λx:aa=>AV.d (.ag (ao x))) l
abbrev mW(l:List (Int×(Nat->aa))):AO:=mpO (λx:Int=>Value.int .i64 x) (λx:Nat->aa=>AV.d (.ag (wn x))) l
theorem reM{js:List Nat}{a:AO}{pl:List ((Int×Int)×aa)}{wy:List (Int×(Nat->aa))}:a::List.map (AO.ren js) [mP pl,mW wy]=a::[mP pl,mW wy]:=Re (cL (eC _ kP dP _) (cL (eC _ kW dW _) rfl))
theorem ltM{n:Nat}{a:AO}{pl:List ((Int×Int)×aa)}{wy:List (Int×(Nat->aa))}(h:a.lt n=true):dg n (a::[mP pl,mW wy])=true:=az h (az (cM _ kP dP _) (az (cM _ kW dW _) rfl))
end Go.Proofs.YtlkhnkpflmpjhaaGreatDoor
