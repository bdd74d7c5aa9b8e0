/- Part of the proof. -/
import Derived.Test.YtoigciljcejeaaaGreatDoorSc
set_option linter.all false
namespace Go.Proofs.YtoigciljcejeaaaGreatDoor
open Go Go.Sk
open Go.IntKind (i64)
structure Pr2 where
 e0:Int
 e1:Int
structure aj where
 from_:Int
 to:Int
 next:List Int
structure aM where
 op:Int
 d:Int
 a:Int
 b:Int
 n:Int
 m:Int
 to:Int
structure cX where
 from_:Int
 to:Int
 at_:Int
 clean:Bool
structure Loop where
 head:Int
 back:Int
 bound:Int
structure uI where
 kind:Int
 entry:Int
 guard:Int
 time:Int
 at_:Int
structure jv where
 alts:List uI
 obj:Int
 else_:Int
structure Obj where
 size:Int
 lo:Int
 hi:Int
 ptr:Bool
 set_:List Int
structure wn where
 o:Int
 slot:Int
 v:Int
structure qQ where
 ins:List Int
 outs:List Int
structure bp where
 prio:Int
 at_:Int
 entries:List qQ
 deadline:Int
structure qT where
 kind:Int
 op:Int
 n:Int
 o:Int
 off:Int
 len:Int
 lo:Int
 hi:Int
 l:List qT
structure bq where
 ceiling:Int
 barriers:List qT
structure qS where
 at_:Int
 kind:Int
structure bD where
 insns:List aM
 handlers:List cX
 loops:List Loop
 selects:List jv
 lists:List (List Int)
 objs:List Obj
 inits:List wn
 excs:Int
 tasks:List bp
 prots:List bq
 checks:List qS
structure de where
 text:bD
structure Judge where
 view:de
 entries:Int
 left:Int
structure Spot where
 o:Int
 slot:Int
structure Row where
 name:ByteArray
 fields:ByteArray
structure aT where
 frm:Int
 bound:Int
structure cK where
 bef:Int
 aft:Int
 bnd:Int
abbrev R40(x:aM):List D:=[.i .u8 x.op, .i .i64 x.d, .i .i64 x.a, .i .i64 x.b, .i .i64 x.n, .i .i64 x.m, .i .i64 x.to]
abbrev E40(x:aM):List D:=R40 x
theorem dP(x:aM):E40 x=R40 x:=rfl
abbrev uG(x:cX):List D:=[.i .i64 x.from_, .i .i64 x.to, .i .i64 x.at_, .b x.clean]
abbrev gK(x:cX):List D:=uG x
theorem qR(x:cX):gK x=uG x:=rfl
abbrev R44(x:Loop):List D:=[.i .i64 x.head, .i .i64 x.back, .i .i64 x.bound]
abbrev E44(x:Loop):List D:=R44 x
theorem ib(x:Loop):E44 x=R44 x:=rfl
abbrev R143(x:uI):List D:=[.i .u8 x.kind, .i .i64 x.entry, .i .i64 x.guard, .i .i64 x.time, .i .i64 x.at_]
abbrev ma(x:uI):List D:=R143 x
theorem uK(x:uI):ma x=R143 x:=rfl
abbrev R139(x:jv):List D:=[.sl (List.map ma x.alts), .i .i64 x.obj, .i .i64 x.else_]
abbrev iS(x:jv):List D:=R139 x
theorem uL(x:jv):iS x=R139 x:=rfl
abbrev E3(x:Int):List D:=[.i .i64 x]
theorem aG(x:Int):E3 x=[.i .i64 x]:=rfl
abbrev E37(x:List Int):List D:=[.sl (List.map E3 x)]
theorem nH(x:List Int):E37 x=[.sl (List.map E3 x)]:=rfl
abbrev R115(x:Obj):List D:=[.i .i64 x.size, .i .i64 x.lo, .i .i64 x.hi, .b x.ptr, .sl (List.map E3 x.set_)]
abbrev iT(x:Obj):List D:=R115 x
theorem uN(x:Obj):iT x=R115 x:=rfl
abbrev R119(x:wn):List D:=[.i .i64 x.o, .i .i64 x.slot, .i .i64 x.v]
abbrev lR(x:wn):List D:=R119 x
abbrev R126(x:qQ):List D:=[.sl (List.map E3 x.ins), .sl (List.map E3 x.outs)]
abbrev dJ(x:qQ):List D:=R126 x
theorem uM(x:qQ):dJ x=R126 x:=rfl
abbrev R56(x:bp):List D:=[.i .i64 x.prio, .i .i64 x.at_, .sl (List.map dJ x.entries), .i .i64 x.deadline]
abbrev E56(x:bp):List D:=R56 x
theorem lJ(x:bp):E56 x=R56 x:=rfl
abbrev lI:=List Int
abbrev lL:=List (List Int)
abbrev lN:=List aM
abbrev lH:=List cX
abbrev lO:=List Obj
abbrev lD:=List D
abbrev lV:=List AV
abbrev lW:=List AO
abbrev oB:=Option Bool
abbrev lP:=List Loop
abbrev lS:=List jv
abbrev lK:=List bp
abbrev lM:=List bq
abbrev lC:=List qS
abbrev fD:=Field.mk
abbrev bA:=ByteArray.mk

mutual
def fl:qT->lD
 | .mk kind op n o off len lo hi l=> [.i .u8 kind, .i .u8 op, .i .i64 n, .i .i64 o, .i .i64 off, .i .i64 len, .i .i64 lo, .i .i64 hi, .sl (E132s l)]
def E132s:List qT->List lD
 |[]=> []
 |e::l=>fl e::E132s l
end
abbrev R59(x:bq):lD:=[.i .i64 x.ceiling, .sl (List.map fl x.barriers)]
abbrev E59(x:bq):lD:=R59 x
theorem nG(x:bq):E59 x=R59 x:=rfl
abbrev R152(x:qS):lD:=[.i .i64 x.at_, .i .u8 x.kind]
abbrev lQ(x:qS):lD:=R152 x
abbrev R35(x:bD):lD:=[.sl (List.map E40 x.insns), .sl (List.map gK x.handlers), .sl (List.map E44 x.loops), .sl (List.map iS x.selects), .sl (List.map E37 x.lists), .sl (List.map iT x.objs), .sl (List.map lR x.inits), .i .i64 x.excs, .sl (List.map E56 x.tasks), .sl (List.map E59 x.prots), .sl (List.map lQ x.checks)]
abbrev R80(x:de):lD:=[.sl (List.map E40 x.text.insns), .sl (List.map gK x.text.handlers), .sl (List.map E44 x.text.loops), .sl (List.map iS x.text.selects), .sl (List.map E37 x.text.lists), .sl (List.map iT x.text.objs), .sl (List.map lR x.text.inits), .i .i64 x.text.excs, .sl (List.map E56 x.text.tasks), .sl (List.map E59 x.text.prots), .sl (List.map lQ x.text.checks)]
abbrev R89(x:aj):lD:=[.i .i64 x.from_, .i .i64 x.to, .sl (List.map E3 x.next)]
abbrev E89(x:aj):lD:=R89 x
theorem ce(x:aj):E89 x=R89 x:=rfl
abbrev R95(x:Pr2):lD:=[.i .i64 x.e0, .i .i64 x.e1]
abbrev E95(x:Pr2):lD:=R95 x
theorem nE(x:Pr2):E95 x=R95 x:=rfl
abbrev wi(x:Row):lD:=[.s x.name, .s x.fields]
abbrev E4(x:Bool):lD:=[.b x]
abbrev E66(x:List aj):lD:=[.sl (List.map E89 x)]
abbrev E2(x:Int):lD:=[.i .i64 x]
theorem eT(x:Int):E2 x=[.i .i64 x]:=rfl
abbrev R49(x:Nat->Int):lD:=pJ 58 (λj=> .i .i64 (x j))
abbrev E49(x:Nat->Int):lD:=R49 x
abbrev E9(x:ByteArray):lD:=[.s x]
theorem vd(x:ByteArray):E9 x=[.s x]:=rfl
abbrev rB(x:aT):lD:=[.i .i64 x.frm, .i .i64 x.bound]
abbrev jA(x:aT):lD:=rB x
theorem iU(x:aT):jA x=rB x:=rfl
abbrev R42(x:cK):lD:=[.i .u8 x.bef, .i .u8 x.aft, .i .u8 x.bnd]
abbrev E42(x:cK):lD:=R42 x
theorem jz(x:cK):E42 x=R42 x:=rfl
def iz:List Row:=mV.map λp=>⟨p.1,p.2⟩
theorem nf:gpc 1=some (iz.flatMap wi):=by
 unfold iz
 rw[List.flatMap_map]
 rfl
def f120(x0:Int)(y1:Int):Int×Int:=
 ((IntKind.u64.wrap ((IntKind.u64.wrap ((IntKind.u64.wrap ((Int.fdiv x0 (2^min (Int.toNat 32) IntKind.u64.bits))*(Int.fdiv y1 (2^min (Int.toNat 32) IntKind.u64.bits))))+(Int.fdiv (IntKind.u64.wrap ((IntKind.u64.wrap ((Int.fdiv x0 (2^min (Int.toNat 32) IntKind.u64.bits))*(IntKind.u64.wrap (BitVec.ofInt IntKind.u64.bits y1&&&BitVec.ofInt IntKind.u64.bits 4294967295).toNat)))+(Int.fdiv (IntKind.u64.wrap ((IntKind.u64.wrap (BitVec.ofInt IntKind.u64.bits x0&&&BitVec.ofInt IntKind.u64.bits 4294967295).toNat)*(IntKind.u64.wrap (BitVec.ofInt IntKind.u64.bits y1&&&BitVec.ofInt IntKind.u64.bits 4294967295).toNat))) (2^min (Int.toNat 32) IntKind.u64.bits)))) (2^min (Int.toNat 32) IntKind.u64.bits))))+(Int.fdiv (IntKind.u64.wrap ((IntKind.u64.wrap (BitVec.ofInt IntKind.u64.bits (IntKind.u64.wrap ((IntKind.u64.wrap ((Int.fdiv x0 (2^min (Int.toNat 32) IntKind.u64.bits))*(IntKind.u64.wrap (BitVec.ofInt IntKind.u64.bits y1&&&BitVec.ofInt IntKind.u64.bits 4294967295).toNat)))+(Int.fdiv (IntKind.u64.wrap ((IntKind.u64.wrap (BitVec.ofInt IntKind.u64.bits x0&&&BitVec.ofInt IntKind.u64.bits 4294967295).toNat)*(IntKind.u64.wrap (BitVec.ofInt IntKind.u64.bits y1&&&BitVec.ofInt IntKind.u64.bits 4294967295).toNat))) (2^min (Int.toNat 32) IntKind.u64.bits))))&&&BitVec.ofInt IntKind.u64.bits 4294967295).toNat)+(IntKind.u64.wrap ((IntKind.u64.wrap (BitVec.ofInt IntKind.u64.bits x0&&&BitVec.ofInt IntKind.u64.bits 4294967295).toNat)*(Int.fdiv y1 (2^min (Int.toNat 32) IntKind.u64.bits)))))) (2^min (Int.toNat 32) IntKind.u64.bits)))),(IntKind.u64.wrap (x0*y1)))
def f99(x0:Int)(y1:Int):Int×Int:=
 ((f120 x0 y1).1,(f120 x0 y1).2)
def f78s_l1(h:(List aj)->(List Bool)->lI->lI->Int->Option ((List aj)×(List Bool)×lI×lI))(j:(List Bool)->lI->lI->(List aj)->Option ((List aj)×(List Bool)×lI×lI))(d:aj):Nat->Int->(List Bool)->lI->lI->(List aj)->Option ((List aj)×(List Bool)×lI×lI)
 |0,_,_,_,_,_=>none
 |n+1,e,a,f,g,c10v67=>
 (bif (decide (e<(d.next.length:Int))) then al (λ(o:List Bool)(p:lI)(r:lI)(c10v82:List aj)=>
 (f78s_l1 h j d n (i64.wrap (e+1)) o p r c10v82)) λk=>
 (idx d.next e).bind λm=>
 (idx a m).bind λt=>
 (bif (!t) then (h c10v67 a f g m).bind λc=>
 (k c.2.1 c.2.2.1 c.2.2.2 c.1) else(k a f g c10v67)) else(j a f g c10v67))
def f78s(e:(List aj)->(List Bool)->lI->lI->Int->Option ((List aj)×(List Bool)×lI×lI))(bb:List aj)(seen:List Bool)(l:lI)(pl:lI)(n0:Int):Option ((List aj)×(List Bool)×lI×lI):=
 (idx seen n0).bind λh=>
 al (λ(f:List Bool)(a:lI)(c:lI)(c10v49:List aj)=>
 (idx c n0).bind λj=>
 au (aO 8 a [n0])<|
 some (c10v49,f,(a++ [n0]),(List.set c n0.toNat (a.length:Int)))) λg=>
 (idx bb n0).bind λd=>
 (f78s_l1 e g d (Int.toNat ((d.next.length:Int) - 0)+1) 0 (List.set seen n0.toNat true) l pl bb)
def f78:Nat->(List aj)->(List Bool)->lI->lI->Int->Option ((List aj)×(List Bool)×lI×lI)
 |0=>λ_ _ _ _ _=>none
 |n+1=>f78s (f78 n)
def f77o_l1(d:lI->Option lI):Nat->Int->lI->Option lI
 |0,_,_=>none
 |n+1,c,a=>
 (bif (decide (c<(a.length:Int))) then au (cm a c (a.length:Int))<|
 au (cm a 0 c)<|
 au (gA a (Int.toNat 0) (Int.toNat c - Int.toNat 0))<|
 au (gA a c.toNat (Int.toNat (a.length:Int) - Int.toNat c))<|
 (f77o_l1 d n (i64.wrap (c+((Nat.min (List.length (List.take (Int.toNat c - Int.toNat 0) (List.drop (Int.toNat 0) a))) (Int.toNat (a.length:Int) - Int.toNat c):Nat):Int))) (mz a c.toNat (Int.toNat (a.length:Int) - Int.toNat c) (List.take (Int.toNat c - Int.toNat 0) (List.drop (Int.toNat 0) a)))) else(d a))
def f77o(x0:lI)(a:Int):Option lI:=
 (bif (decide (a<0)) then none else(bif ((decide (((f99 (IntKind.u64.wrap (x0.length:Int)) (IntKind.u64.wrap a)).1)>0))||(decide (((f99 (IntKind.u64.wrap (x0.length:Int)) (IntKind.u64.wrap a)).2)>9223372036854775807))) then none else au (kM 8 (i64.wrap ((f99 (IntKind.u64.wrap (x0.length:Int)) (IntKind.u64.wrap a)).2)))<|
 al (λ(c:lI)=>
 some c) λd=>
 (f77o_l1 d 9223372036854775808 ((Nat.min x0.length (List.length (List.replicate (Int.toNat (i64.wrap ((f99 (IntKind.u64.wrap (x0.length:Int)) (IntKind.u64.wrap a)).2))) (0:Int))):Nat):Int) (mz (List.replicate (Int.toNat (i64.wrap ((f99 (IntKind.u64.wrap (x0.length:Int)) (IntKind.u64.wrap a)).2))) (0:Int)) 0 (List.length (List.replicate (Int.toNat (i64.wrap ((f99 (IntKind.u64.wrap (x0.length:Int)) (IntKind.u64.wrap a)).2))) (0:Int))) x0))))
def f38(b0:List aj):Option (lI×lI):=
 (f77o [(-1)] (b0.length:Int)).bind λc=>
 au (kM 1 (b0.length:Int))<|
 al (λ(e:lI)(g:List Bool)(f:lI)(c00v37:List aj)=>
 some (f,e)) λd=>
 (bif (decide ((b0.length:Int)>0)) then (f78 100 b0 (List.replicate (Int.toNat (b0.length:Int)) (false:Bool)) [] c 0).bind λa=>
 (d a.2.2.2 a.2.1 a.2.2.1 a.1) else(d c (List.replicate (Int.toNat (b0.length:Int)) (false:Bool)) [] b0))
def f74(l:lI):Option lI:=au (decide (l.length<4611686018427387904)) (some (l.mergeSort λx y=>decide (x<=y)))
def f75(l:lI):Option lI:=some (Lib.compact l)
def f42o(s0:lI):Option lI:=au (aO 8 [] s0) (some s0)
def f72(n0:Int)(a:List aj):Bool:=
 ((decide (n0<0))||(decide (n0>=(a.length:Int))))
def f33_l1(s0:lI)(c:Int->oB)(d:Unit->Option (Int)):Nat->Int->Option (Int)
 |0,_=>none
 |n+1,a=>
 (bif (decide (a<(s0.length:Int))) then (idx s0 a).bind λe=>
 (c e).bind λf=>
 (bif f then some a else(f33_l1 s0 c d n (i64.wrap (a+1)))) else(d ()))
def f33(s0:lI)(a:Int->oB):Option Int:=
 al (λ(_:Unit)=>
 some (-1)) λc=>
 (f33_l1 s0 a c (Int.toNat ((s0.length:Int) - 0)+1) 0)
def f13(s0:lI)(a:Int->oB):oB:=
 (f33 s0 a).bind λc=>
 some (decide (c>=0))
def f71(x0:aj)(a:List aj):oB:=
 (f13 x0.next (λz0=>some (f72 z0 a))).bind λc=>
 some c
def f95_l1(s0:List aj)(c:aj->oB)(d:Unit->Option (Int)):Nat->Int->Option (Int)
 |0,_=>none
 |n+1,a=>
 (bif (decide (a<(s0.length:Int))) then (idx s0 a).bind λe=>
 (c e).bind λf=>
 (bif f then some a else(f95_l1 s0 c d n (i64.wrap (a+1)))) else(d ()))
def f95(s0:List aj)(a:aj->oB):Option Int:=
 al (λ(_:Unit)=>
 some (-1)) λc=>
 (f95_l1 s0 a c (Int.toNat ((s0.length:Int) - 0)+1) 0)
def f70(s0:List aj)(a:aj->oB):oB:=
 (f95 s0 a).bind λc=>
 some (decide (c>=0))
def f36(b0:List aj):oB:=
 (f70 b0 λz0=>f71 z0 b0).bind λr9=>
 some (!r9)
def f76_l1(c:lI)(d1:Int)(d:Int->oB):Nat->Int->oB
 |0,_=>none
 |n+1,a=>
 (bif ((decide (a>=0))&&(!decide (a=d1))) then (idx c a).bind λe=>
 (f76_l1 c d1 d n e) else(d a))
def f76(a:lI)(d1:Int)(n2:Int):oB:=
 al (λ(c:Int)=>
 some (decide (c=d1))) λd=>
 (f76_l1 a d1 d 9223372036854775808 n2)
def f73_l2(f:lL->Option lI)(a:Int)(c:aj):Nat->Int->lL->Option lI
 |0,_,_=>none
 |na+1,d,e=>
 (bif (decide (d<(c.next.length:Int))) then (idx c.next d).bind λg=>
 (idx e g).bind λh=>
 au (aO 8 h [a])<|
 (f73_l2 f a c na (i64.wrap (d+1)) (List.set e g.toNat (h++ [a]))) else(f e))
def f73_l1(b0:List aj)(a:lI×lI)(d:lL->Option lI):Nat->Int->lL->Option lI
 |0,_,_=>none
 |n+1,c,e=>
 (bif (decide (c<(a.1.length:Int))) then al (λ(h:lL)=>
 (f73_l1 b0 a d n (i64.wrap (c+1)) h)) λj=>
 (idx a.1 c).bind λf=>
 (idx b0 f).bind λg=>
 (f73_l2 j f g (Int.toNat ((g.next.length:Int) - 0)+1) 0 e) else(d e))
def f73_l6(c:lI×lI)(d:lI)(f:Int->Option lI):Nat->Int->Int->Option lI
 |0,_,_=>none
 |nc+1,a,e=>
 (bif (!decide (a=e)) then (idx c.2 a).bind λg=>
 (idx c.2 e).bind λh=>
 (bif (decide (g<h)) then (idx d a).bind λj=>
 (f73_l6 c d f nc j e) else (idx d e).bind λk=>
 (f73_l6 c d f nc a k)) else(f a))
def f73_l5(h:lI×lI)(c:lI)(j:Int)(k:Int->Option lI)(d:lI):Nat->Int->Int->Option lI
 |0,_,_=>none
 |nb+1,a,e=>
 (bif (decide (e<(d.length:Int))) then al (λ(m:Int)=>
 (f73_l5 h c j k d nb m (i64.wrap (e+1)))) λf=>
 (idx d e).bind λg=>
 (bif (decide (j=0)) then some true else((idx c g).bind λo=>some (decide (o<0)))).bind λp=>
 (bif p then(f a) else(bif (decide (a<0)) then(f g) else al (λ(r:Int)=>
 (f r)) λt=>
 al (λ(w:Int)=>
 (t w)) λx=>
 (f73_l6 h c x 9223372036854775808 a g))) else(k a))
def f73_l4(d:lI×lI)(f:lL)(g:lI->Bool->Option lI):Nat->Int->lI->Bool->Option lI
 |0,_,_,_=>none
 |na+1,e,a,c80v180=>
 (bif (decide (e>=0)) then (idx d.1 e).bind λc=>
 al (λ(m:lI)(c80v187:Bool)=>
 (f73_l4 d f g na (i64.wrap (e - 1)) m c80v187)) λh=>
 al (λ(j:Int)=>
 (bif (!decide (c=0)) then((idx a c).bind λo=>some (!decide (o=j))) else some false).bind λp=>
 (bif p then (idx a c).bind λt=>
 (h (List.set a c.toNat j) true) else(h a c80v180))) λr=>
 (idx f c).bind λk=>
 (f73_l5 d a c r k (Int.toNat ((k.length:Int) - 0)+1) (-1) 0) else(g a c80v180))
def f73_l3(a:lI×lI)(c:lL)(d:lI->Bool->Option lI):Nat->lI->Bool->Option lI
 |0,_,_=>none
 |n+1,e,c80v163=>
 (bif c80v163 then al (λ(f:lI)(c80v167:Bool)=>
 (f73_l3 a c d n f c80v167)) λg=>
 al (λ(_:Unit)=>
 al (λ(h:lI)(c80v173:Bool)=>
 (g h c80v173)) λj=>
 (f73_l4 a c j (Int.toNat ((i64.wrap ((a.1.length:Int) - 1))+1)+1) (i64.wrap ((a.1.length:Int) - 1)) e false)) λk=>
 (k ()) else(d e c80v163))
def f73(b0:List aj):Option lI:=
 (f36 b0).bind λe=>
 (bif ((!e)||(decide ((b0.length:Int)=0))) then some [] else (f38 b0).bind λa=>
 au (kM 24 (b0.length:Int))<|
 al (λ(f:lL)=>
 (f77o [(-1)] (b0.length:Int)).bind λc=>
 (idx c 0).bind λj=>
 al (λ(d:lI)(c80v158:Bool)=>
 (idx d 0).bind λk=>
 some (List.set d (Int.toNat 0) (-1))) λg=>
 (f73_l3 a f g 9223372036854775808 (List.set c (Int.toNat 0) 0) true)) λh=>
 (f73_l1 b0 a h (Int.toNat ((a.1.length:Int) - 0)+1) 0 (List.replicate (Int.toNat (b0.length:Int)) ([]:lI))))
def f69_l1(s0:lI)(v1:Int)(c:Unit->Option (Int)):Nat->Int->Option (Int)
 |0,_=>none
 |n+1,a=>
 (bif (decide (a<(s0.length:Int))) then (idx s0 a).bind λd=>
 (bif (decide (v1=d)) then some a else(f69_l1 s0 v1 c n (i64.wrap (a+1)))) else(c ()))
def f69(s0:lI)(v1:Int):Option Int:=
 al (λ(_:Unit)=>
 some (-1)) λa=>
 (f69_l1 s0 v1 a (Int.toNat ((s0.length:Int) - 0)+1) 0)
def f35(s0:lI)(v1:Int):oB:=
 (f69 s0 v1).bind λa=>
 some (decide (a>=0))
def u6(j:Nat):Int:=nt.getD j 0
def f82(n0:Int)(v1:Int):Option Int:=
 (bif (decide (v1>0)) then(au (nz v1)<|some (decide (n0>(i64.wrap (Int.tdiv 9007199254740993 v1))))) else some false).bind λa=>
 (bif a then some 9007199254740993 else some (i64.wrap (n0*v1)))
def f46_l1(a:lI)(e:Int->Option (Int)):Nat->Int->Int->Option (Int)
 |0,_,_=>none
 |n+1,c,d=>
 (bif (decide (d<(a.length:Int))) then (idx a d).bind λf=>
 (f46_l1 a e n (if 9007199254740993<(i64.wrap (c+f)) then 9007199254740993 else(i64.wrap (c+f))) (i64.wrap (d+1))) else(e c))
def f46(c:Int)(a:lI):Option Int:=
 al (λ(d:Int)=>
 some d) λe=>
 (f46_l1 a e (Int.toNat ((a.length:Int) - 0)+1) c 0)
def f31_l1(x0:lI)(d:Int->Option (Int)):Nat->Int->Int->Option (Int)
 |0,_,_=>none
 |n+1,a,c=>
 (bif (decide (c<(x0.length:Int))) then (idx x0 c).bind λe=>
 (f31_l1 x0 d n (if e<a then e else a) (i64.wrap (c+1))) else(d a))
def f31(x0:lI):Option Int:=
 (bif (decide ((x0.length:Int)<1)) then none else (idx x0 0).bind λa=>
 al (λ(c:Int)=>
 some c) λd=>
 (f31_l1 x0 d 9223372036854775808 a 1))
def f32_l1(x0:lI)(d:Int->Option (Int)):Nat->Int->Int->Option (Int)
 |0,_,_=>none
 |n+1,a,c=>
 (bif (decide (c<(x0.length:Int))) then (idx x0 c).bind λe=>
 (f32_l1 x0 d n (if e>a then e else a) (i64.wrap (c+1))) else(d a))
def f32(x0:lI):Option Int:=
 (bif (decide ((x0.length:Int)<1)) then none else (idx x0 0).bind λa=>
 al (λ(c:Int)=>
 some c) λd=>
 (f32_l1 x0 d 9223372036854775808 a 1))
def f12(c0:Nat->Int):oB:=
 (bif (decide ((c0 0)=0)) then((f31 (List.drop 1 (List.map c0 (List.range 58)))).bind λa=>some (decide (a>=1))) else some false).bind λc=>
 (bif c then((f32 (List.map c0 (List.range 58))).bind λd=>some (decide (d<=1000))) else some false).bind λe=>
 some e
def f7:Nat->Int:=
 u6
def f52(t0:de)(a1:Int):Bool:=
 ((decide (a1>=0))&&(decide (a1<(t0.text.insns.length:Int))))
def f61(x0:aM)(a:Int):Bool:=
 ((((decide (x0.op=29))||(decide (x0.op=30)))||(decide (x0.op=31)))&&(decide (x0.to=a)))
def f26_l1(t0:de)(e:(List (Int×Bool))->oB):Nat->Int->(List (Int×Bool))->oB
 |0,_,_=>none
 |n+1,c,d=>
 (bif (decide (c<(t0.text.loops.length:Int))) then (idx t0.text.loops c).bind λa=>
 (bif ((((decide (a.head<0))||(decide (a.head>a.back)))||(!(f52 t0 a.back)))||(Option.getD (ac d a.back) false)) then some true else((idx t0.text.insns a.back).bind λf=>some (!(f61 f a.head)))).bind λg=>
 (bif ((g||(decide (a.bound<0)))||(decide (a.bound>2147483647))) then some false else(f26_l1 t0 e n (i64.wrap (c+1)) (ai d a.back true))) else(e d))
def f26(t0:de):oB:=
 (bif (decide ((t0.text.loops.length:Int)>4096)) then some false else al (λ(c:List (Int×Bool))=>
 some true) λa=>
 (f26_l1 t0 a (Int.toNat ((t0.text.loops.length:Int) - 0)+1) 0 ([]:List (Int×Bool))))
def f63_l1(s0:lN)(c:aM->oB)(d:Unit->Option (Int)):Nat->Int->Option (Int)
 |0,_=>none
 |n+1,a=>
 (bif (decide (a<(s0.length:Int))) then (idx s0 a).bind λe=>
 (c e).bind λf=>
 (bif f then some a else(f63_l1 s0 c d n (i64.wrap (a+1)))) else(d ()))
def f63(s0:lN)(a:aM->oB):Option Int:=
 al (λ(_:Unit)=>
 some (-1)) λc=>
 (f63_l1 s0 a c (Int.toNat ((s0.length:Int) - 0)+1) 0)
def f28(s0:lN)(a:aM->oB):oB:=
 (f63 s0 a).bind λc=>
 some (decide (c>=0))
def f50(t0:de)(o1:Int)(a:Int)(c:Int):oB:=
 (bif (((decide (o1>=0))&&(decide (o1<(t0.text.objs.length:Int))))&&(decide (a>=0))) then((idx t0.text.objs o1).bind λd=>some (decide (a<=(i64.wrap (d.size - c))))) else some false).bind λe=>
 some e
def f91(o0:Int):Option (Row×Bool):=
 (bif ((decide (o0<1))||(decide ((i64.wrap o0)>57))) then some ((Row.mk ByteArray.empty ByteArray.empty),false) else (idx iz (IntKind.u8.wrap (o0 - 1))).bind λa=>
 some (a,true))
def f103_l1(s0:ByteArray)(c:Int->Int->Option (List ByteArray)):Nat->Int->Int->Int->Int->Option (List ByteArray)
 |0,_,_,_,_=>none
 |n+1,d,wasSpace116,setBits117,a=>
 (bif (decide (a<(s0.size:Int))) then (iX s0 a).bind λe=>
 (idx dm e).bind λf=>
 (f103_l1 s0 c n (i64.wrap (d+(i64.wrap (BitVec.ofInt i64.bits wasSpace116&&&BitVec.ofInt i64.bits (i64.wrap (BitVec.ofInt i64.bits (-1)^^^BitVec.ofInt i64.bits (i64.wrap f)).toNat)).toNat))) (i64.wrap f) (IntKind.u8.wrap (BitVec.ofInt IntKind.u8.bits setBits117|||BitVec.ofInt IntKind.u8.bits e).toNat) (i64.wrap (a+1))) else(c d setBits117))
def f103_l2(s0:ByteArray)(c:Int->Option (List ByteArray)):Nat->Int->Option (List ByteArray)
 |0,_=>none
 |n+1,a=>
 (bif (decide (a<(s0.size:Int))) then((iX s0 a).bind λd=>(idx dm d).bind λe=>some (!decide (e=0))) else some false).bind λf=>
 (bif f then(f103_l2 s0 c n (i64.wrap (a+1))) else(c a))
def f103_l4(s0:ByteArray)(c:Int->Option (List ByteArray)):Nat->Int->Option (List ByteArray)
 |0,_=>none
 |na+1,a=>
 (bif (decide (a<(s0.size:Int))) then((iX s0 a).bind λd=>(idx dm d).bind λe=>some (!decide (e=0))) else some false).bind λf=>
 (bif f then(f103_l4 s0 c na (i64.wrap (a+1))) else(c a))
def f103_l3(s0:ByteArray)(e:Int->Int->(List ByteArray)->Option (List ByteArray)):Nat->Int->Int->Int->(List ByteArray)->Option (List ByteArray)
 |0,_,_,_,_=>none
 |n+1,a,fieldStart143,c,d=>
 (bif (decide (c<(s0.size:Int))) then al (λ(h:Int)(fieldStart151:Int)(j:Int)(k:List ByteArray)=>
 (f103_l3 s0 e n h fieldStart151 j k)) λf=>
 (iX s0 c).bind λm=>
 (idx dm m).bind λo=>
 (bif (decide (o=0)) then(f a fieldStart143 (i64.wrap (c+1)) d) else (ra s0 fieldStart143 c).bind λp=>
 (idx d a).bind λt=>
 al (λ(g:Int)=>
 (f (i64.wrap (a+1)) g g (List.set d a.toNat p))) λr=>
 (f103_l4 s0 r 9223372036854775808 (i64.wrap (c+1)))) else(e a fieldStart143 d))
def f103(s0:ByteArray):Option (List ByteArray):=
 al (λ(c:Int)(setBits109:Int)=>
 (bif (decide (setBits109>=128)) then none else au (kM 16 c)<|
 al (λ(d:Int)=>
 al (λ(e:Int)(fieldStart135:Int)(a:List ByteArray)=>
 al (λ(g:List ByteArray)=>
 some g) λf=>
 (bif (decide (fieldStart135<(s0.size:Int))) then (ra s0 fieldStart135 (s0.size:Int)).bind λh=>
 (idx a e).bind λo=>
 (f (List.set a e.toNat h)) else(f a))) λj=>
 (f103_l3 s0 j 9223372036854775808 0 d d (List.replicate c.toNat (ByteArray.empty:ByteArray)))) λk=>
 (f103_l2 s0 k 9223372036854775808 0))) λm=>
 (f103_l1 s0 m 9223372036854775808 0 1 0 0)
def f125(a:Option Int):Option Int:=
 (a).bind λc=>
 some c
def f106(a:Int):Int×Int:=
 (bif (decide (a=114)) then(0,15) else(bif (decide (a=111)) then(0,4095) else(bif (decide (a=115)) then(0,65535) else(bif (decide (a=108)) then(1,65536) else(bif (decide (a=120)) then(1,64) else(bif (decide (a=107)) then(6,7) else(bif (decide (a=101)) then(0,7) else(bif (decide (a=112)) then(0,31) else(bif (decide (a=113)) then((-1),31) else(bif (decide (a=109)) then(0,3) else(bif (decide (a=106)) then(0,1023) else(bif (decide (a=98)) then(0,1) else((-9223372036854775808),9223372036854775807)))))))))))))
def f64_l1(e:Int->Int->Int->Int->Int->Int->ByteArray->ByteArray->Int->Int->Int->Int->oB)(f:Int->Int->Int->Int->Int->Int->ByteArray->ByteArray->Int->Int->Int->Int->oB)(g:Int->Int->Int->Int->Int->Int->ByteArray->ByteArray->Int->Int->Int->Int->oB)(h:Int->Int->Int->Int->Int->Int->ByteArray->ByteArray->Int->Int->Int->Int->oB)(j:Int->Int->Int->Int->Int->Int->ByteArray->ByteArray->Int->Int->Int->Int->oB)(k:Int->Int->Int->Int->Int->Int->ByteArray->ByteArray->Int->Int->Int->Int->oB)(m:Int->Int->Int->Int->Int->Int->ByteArray->ByteArray->oB)(a:Row×Bool)(c:List ByteArray):Nat->Int->Int->Int->Int->Int->Int->Int->oB
 |0,_,_,_,_,_,_,_=>none
 |n+1,d,c21v178,c22v179,c23v180,c24v181,c25v182,c26v183=>
 (bif (decide (d<(c.length:Int))) then (idx c d).bind λo=>
 (iX o 0).bind λA=>
 (bif (decide (A=68)) then al (λ(_:Unit)=>
 (iX o 1).bind λp=>
 al (λ(_:Unit)=>
 (e c21v178 c22v179 c23v180 c24v181 c25v182 c26v183 a.1.name a.1.fields ((f106 p).1) ((f106 p).2) ((f106 p).1) ((f106 p).2))) λB=>
 al (λ(_:Unit)=>
 (f64_l1 e f g h j k m a c n (i64.wrap (d+1)) 0 c22v179 c23v180 c24v181 c25v182 c26v183)) λC=>
 al (λ(_:Unit)=>
 (bif ((decide (c21v178<((f106 p).1)))||(decide (c21v178>((f106 p).2)))) then(B ()) else al (λ(_:Unit)=>
 (C ())) λE=>
 (E ()))) λF=>
 (F ())) λG=>
 (G ()) else(bif (decide (A=65)) then al (λ(_:Unit)=>
 (iX o 1).bind λr=>
 al (λ(_:Unit)=>
 (f c21v178 c22v179 c23v180 c24v181 c25v182 c26v183 a.1.name a.1.fields ((f106 r).1) ((f106 r).2) ((f106 r).1) ((f106 r).2))) λH=>
 al (λ(_:Unit)=>
 (f64_l1 e f g h j k m a c n (i64.wrap (d+1)) c21v178 0 c23v180 c24v181 c25v182 c26v183)) λI=>
 al (λ(_:Unit)=>
 (bif ((decide (c22v179<((f106 r).1)))||(decide (c22v179>((f106 r).2)))) then(H ()) else al (λ(_:Unit)=>
 (I ())) λJ=>
 (J ()))) λK=>
 (K ())) λL=>
 (L ()) else(bif (decide (A=66)) then al (λ(_:Unit)=>
 (iX o 1).bind λt=>
 al (λ(_:Unit)=>
 (g c21v178 c22v179 c23v180 c24v181 c25v182 c26v183 a.1.name a.1.fields ((f106 t).1) ((f106 t).2) ((f106 t).1) ((f106 t).2))) λM=>
 al (λ(_:Unit)=>
 (f64_l1 e f g h j k m a c n (i64.wrap (d+1)) c21v178 c22v179 0 c24v181 c25v182 c26v183)) λN=>
 al (λ(_:Unit)=>
 (bif ((decide (c23v180<((f106 t).1)))||(decide (c23v180>((f106 t).2)))) then(M ()) else al (λ(_:Unit)=>
 (N ())) λO=>
 (O ()))) λP=>
 (P ())) λQ=>
 (Q ()) else(bif (decide (A=78)) then al (λ(_:Unit)=>
 (iX o 1).bind λw=>
 al (λ(_:Unit)=>
 (h c21v178 c22v179 c23v180 c24v181 c25v182 c26v183 a.1.name a.1.fields ((f106 w).1) ((f106 w).2) ((f106 w).1) ((f106 w).2))) λR=>
 al (λ(_:Unit)=>
 (f64_l1 e f g h j k m a c n (i64.wrap (d+1)) c21v178 c22v179 c23v180 0 c25v182 c26v183)) λS=>
 al (λ(_:Unit)=>
 (bif ((decide (c24v181<((f106 w).1)))||(decide (c24v181>((f106 w).2)))) then(R ()) else al (λ(_:Unit)=>
 (S ())) λT=>
 (T ()))) λU=>
 (U ())) λV=>
 (V ()) else(bif (decide (A=77)) then al (λ(_:Unit)=>
 (iX o 1).bind λx=>
 al (λ(_:Unit)=>
 (j c21v178 c22v179 c23v180 c24v181 c25v182 c26v183 a.1.name a.1.fields ((f106 x).1) ((f106 x).2) ((f106 x).1) ((f106 x).2))) λW=>
 al (λ(_:Unit)=>
 (f64_l1 e f g h j k m a c n (i64.wrap (d+1)) c21v178 c22v179 c23v180 c24v181 0 c26v183)) λX=>
 al (λ(_:Unit)=>
 (bif ((decide (c25v182<((f106 x).1)))||(decide (c25v182>((f106 x).2)))) then(W ()) else al (λ(_:Unit)=>
 (X ())) λY=>
 (Y ()))) λZ=>
 (Z ())) λaa=>
 (aa ()) else al (λ(_:Unit)=>
 (iX o 1).bind λy=>
 al (λ(_:Unit)=>
 (k c21v178 c22v179 c23v180 c24v181 c25v182 c26v183 a.1.name a.1.fields ((f106 y).1) ((f106 y).2) ((f106 y).1) ((f106 y).2))) λag=>
 al (λ(_:Unit)=>
 (f64_l1 e f g h j k m a c n (i64.wrap (d+1)) c21v178 c22v179 c23v180 c24v181 c25v182 0)) λar=>
 al (λ(_:Unit)=>
 (bif ((decide (c26v183<((f106 y).1)))||(decide (c26v183>((f106 y).2)))) then(ag ()) else al (λ(_:Unit)=>
 (ar ())) λa0=>
 (a0 ()))) λa1=>
 (a1 ())) λa6=>
 (a6 ())))))) else(m c21v178 c22v179 c23v180 c24v181 c25v182 c26v183 a.1.name a.1.fields))
def f64(x0:aM):oB:=
 (f91 x0.op).bind λf=>
 (bif ((!f.2)||((decide (x0.op=27))&&(decide (x0.n>x0.m)))) then some false else(bif (((decide (x0.op=37))&&(decide ((IntKind.u8.wrap x0.n)=6)))&&(!decide (x0.m=0))) then some false else al (λ(c21v69:Int)(c22v70:Int)(c23v71:Int)(c24v72:Int)(c25v73:Int)(c26v74:Int)(c50v75:ByteArray)(c51v76:ByteArray)=>
 some (((decide (x0.op=x0.op))&&((decide (c21v69=0))&&((decide (c22v70=0))&&((decide (c23v71=0))&&((decide (c24v72=0))&&((decide (c25v73=0))&&((decide (c26v74=0))&&true))))))))) λg=>
 al (λ(_:Unit)=>
 al (λ(c21v81:Int)(c22v82:Int)(c23v83:Int)(c24v84:Int)(c25v85:Int)(c26v86:Int)(c50v87:ByteArray)(c51v88:ByteArray)(c62v89:Int)(c63v90:Int)(c92v91:Int)(c93v92:Int)=>
 some false) λh=>
 al (λ(c21v94:Int)(c22v95:Int)(c23v96:Int)(c24v97:Int)(c25v98:Int)(c26v99:Int)(c50v100:ByteArray)(c51v101:ByteArray)(c62v102:Int)(c63v103:Int)(c92v104:Int)(c93v105:Int)=>
 some false) λj=>
 al (λ(c21v107:Int)(c22v108:Int)(c23v109:Int)(c24v110:Int)(c25v111:Int)(c26v112:Int)(c50v113:ByteArray)(c51v114:ByteArray)(c62v115:Int)(c63v116:Int)(c92v117:Int)(c93v118:Int)=>
 some false) λk=>
 al (λ(c21v120:Int)(c22v121:Int)(c23v122:Int)(c24v123:Int)(c25v124:Int)(c26v125:Int)(c50v126:ByteArray)(c51v127:ByteArray)(c62v128:Int)(c63v129:Int)(c92v130:Int)(c93v131:Int)=>
 some false) λo=>
 al (λ(c21v133:Int)(c22v134:Int)(c23v135:Int)(c24v136:Int)(c25v137:Int)(c26v138:Int)(c50v139:ByteArray)(c51v140:ByteArray)(c62v141:Int)(c63v142:Int)(c92v143:Int)(c93v144:Int)=>
 some false) λp=>
 al (λ(c21v146:Int)(c22v147:Int)(c23v148:Int)(c24v149:Int)(c25v150:Int)(c26v151:Int)(c50v152:ByteArray)(c51v153:ByteArray)(c62v154:Int)(c63v155:Int)(c92v156:Int)(c93v157:Int)=>
 some false) λr=>
 al (λ(c21v159:Int)(c22v160:Int)(c23v161:Int)(c24v162:Int)(c25v163:Int)(c26v164:Int)(c50v165:ByteArray)(c51v166:ByteArray)=>
 (g c21v159 c22v160 c23v161 c24v162 c25v163 c26v164 c50v165 c51v166)) λt=>
 (f91 x0.op).bind λc=>
 (f103 c.1.fields).bind λe=>
 (f64_l1 h j k o p r t c e (Int.toNat ((e.length:Int) - 0)+1) 0 x0.d x0.a x0.b x0.n x0.m x0.to)) λw=>
 (w ())))
def f65(y0:aM):Bool:=
 (!decide (y0.op=29))
def f66(t0:de)(a:Int)(n2:Int):Option (Int×Bool):=
 (bif (((decide (a<0))||(decide (a>=(t0.text.tasks.length:Int))))||(decide (n2<0))) then some true else((idx t0.text.tasks a).bind λd=>some (decide (n2>=(d.entries.length:Int))))).bind λe=>
 (bif e then some (0,false) else (idx t0.text.tasks a).bind λf=>
 (idx f.entries n2).bind λc=>
 some ((i64.wrap ((i64.wrap ((c.ins.length:Int)+(c.outs.length:Int)))+1)),true))
def f67(t0:de)(p1:Int)(n2:Int):oB:=
 (bif (((decide (p1>=0))&&(decide (p1<(t0.text.prots.length:Int))))&&(decide (n2>=0))) then((idx t0.text.prots p1).bind λa=>some (decide (n2<(a.barriers.length:Int)))) else some false).bind λc=>
 some c
def f30(t0:de)(x1:aM):oB:=
 (f64 x1).bind λj=>
 (bif (!j) then some false else al (λ(k:Bool)=>
 (bif k then (f50 t0 x1.n x1.m 1).bind λo=>
 some o else al (λ(p:Bool)=>
 (bif p then (f50 t0 x1.n x1.m x1.b).bind λr=>
 some r else al (λ(t:Bool)=>
 (bif t then some (f52 t0 x1.to) else(bif (decide (x1.op=32)) then (bif (decide ((i64.wrap (x1.to+x1.m))<=(t0.text.insns.length:Int))) then(au (cm t0.text.insns x1.to (i64.wrap (x1.to+x1.m)))<|(f28 (pK t0.text.insns x1.to (i64.wrap (x1.to+x1.m))) (λz0=>some (f65 z0))).bind λw=>some (!w)) else some false).bind λx=>
 some x else(bif (decide (x1.op=33)) then some (decide (x1.n<=t0.text.excs)) else al (λ(y:Bool)=>
 (bif y then some (decide (x1.n<(t0.text.lists.length:Int))) else(bif (decide (x1.op=50)) then some (decide (x1.n<(t0.text.selects.length:Int))) else(bif (decide (x1.op=49)) then (f66 t0 x1.a x1.b).bind λe=>
 (bif e.2 then((f50 t0 x1.n 0 e.1).bind λA=>some A) else some false).bind λB=>
 some B else(bif (decide (x1.op=52)) then (f66 t0 x1.a x1.b).bind λC=>
 some (C.2&&(decide (x1.to<(t0.text.insns.length:Int)))) else al (λ(E:Bool)=>
 (bif E then some (decide (x1.n<(t0.text.prots.length:Int))) else(bif (decide (x1.op=54)) then (f67 t0 x1.n x1.m).bind λF=>
 some F else(bif (decide (x1.op=43)) then (bif (decide (x1.m<0)) then some true else((f67 t0 x1.m x1.n).bind λG=>some G)).bind λH=>
 some H else some true)))) λf=>
 (bif (decide (x1.op=53)) then(f (decide (x1.op=53))) else(f (decide (x1.op=55))))))))) λc=>
 (bif (decide (x1.op=44)) then(c (decide (x1.op=44))) else(bif (decide (x1.op=45)) then(c (decide (x1.op=45))) else(bif (decide (x1.op=46)) then(c (decide (x1.op=46))) else(c (decide (x1.op=56)))))))))) λd=>
 (bif (decide (x1.op=29)) then(d (decide (x1.op=29))) else(bif (decide (x1.op=30)) then(d (decide (x1.op=30))) else(d (decide (x1.op=31))))))) λg=>
 (bif (decide (x1.op=5)) then(g (decide (x1.op=5))) else(g (decide (x1.op=6)))))) λh=>
 (bif (decide (x1.op=3)) then(h (decide (x1.op=3))) else(h (decide (x1.op=4)))))
abbrev lT(is:lN)(lp:lP):bD:=bD.mk is [] lp [] [] [] [] 4 [(bp.mk 0 0 [] 0)] [(bq.mk 0 [])] []
def ud:bD->Bool
 |⟨_,[],_,[],[],[],[],4,[⟨0,0,[],0⟩],[⟨0,[]⟩],[]⟩=>true
 |_=>false
def f11e_l1(is:lN)(lp:lP)(c:Int->oB)(d:Unit->oB):Nat->Int->oB
 |0,_=>none
 |n+1,a=>
 (bif (decide (a<(is.length:Int))) then (idx is a).bind λe=>
 al (λ(f:Bool)=>
 (bif f then(c a) else(f11e_l1 is lp c d n (i64.wrap (a+1))))) λg=>
 (f30 (de.mk (lT is lp)) e).bind λh=>
 (g (!h)) else(d ()))
def f11e(is:lN)(lp:lP):oB:=
 (bif ((decide ((is.length:Int)<1))||(decide ((is.length:Int)>65536))) then some false else (idx is (i64.wrap ((is.length:Int) - 1))).bind λa=>
 al (λ(f:Bool)=>
 (bif f then al (λ(_:Unit)=>
 al (λ(g:Bool)=>
 some (!g)) λh=>
 al (λ(j:Int)=>
 (h (decide (j>=0)))) λd=>
 al (λ(_:Unit)=>
 (d (-1))) λk=>
 (f11e_l1 is lp d k (Int.toNat ((is.length:Int) - 0)+1) 0)) λm=>
 al (λ(_:Unit)=>
 al (λ(o:Bool)=>
 (bif (!o) then some false else al (λ(_:Unit)=>
 al (λ(_:Unit)=>
 al (λ(_:Unit)=>
 al (λ(_:Unit)=>
 (f26 (de.mk (lT is lp))).bind λp=>
 (bif (!p) then some false else al (λ(_:Unit)=>
 (m ())) λr=>
 al (λ(_:Unit)=>
 (r ())) λt=>
 (t ()))) λw=>
 al (λ(_:Unit)=>
 (w ())) λx=>
 (x ())) λy=>
 al (λ(_:Unit)=>
 (y ())) λA=>
 (A ())) λB=>
 al (λ(_:Unit)=>
 (B ())) λC=>
 al (λ(_:Unit)=>
 (C ())) λE=>
 (E ())) λF=>
 al (λ(_:Unit)=>
 (F ())) λG=>
 (G ()))) λe=>
 al (λ(_:Unit)=>
 (e true)) λH=>
 (bif ((((!(f52 (de.mk (lT is lp)) 0))||(decide (0<0)))||(decide (0>2147483647)))||(decide (0>8))) then(e false) else al (λ(_:Unit)=>
 (H ())) λI=>
 al (λ(_:Unit)=>
 (I ())) λJ=>
 al (λ(_:Unit)=>
 (J ())) λK=>
 (K ()))) λL=>
 al (λ(_:Unit)=>
 al (λ(_:Unit)=>
 (L ())) λM=>
 (M ())) λN=>
 (N ()) else some false)) λc=>
 (bif (decide (a.op=29)) then(c (decide (a.op=29))) else(bif (decide (a.op=33)) then(c (decide (a.op=33))) else(bif (decide (a.op=34)) then(c (decide (a.op=34))) else(c (decide (a.op=57)))))))
def f11(t0:bD):oB:=au (ud t0)<|f11e t0.insns t0.loops
def f74t(l:lI):Option lI:=au (decide (1<=l.length)) (au (decide (l.length<4611686018427387904)) (some (l.take 1++(l.drop 1).mergeSort λx y=>decide (x<=y))))
def f137_l1(s0:lH)(c:cX->oB)(d:Unit->Option (Int)):Nat->Int->Option (Int)
 |0,_=>none
 |n+1,a=>
 (bif (decide (a<(s0.length:Int))) then (idx s0 a).bind λe=>
 (c e).bind λf=>
 (bif f then some a else(f137_l1 s0 c d n (i64.wrap (a+1)))) else(d ()))
def f137(s0:lH)(a:cX->oB):Option Int:=
 al (λ(_:Unit)=>
 some (-1)) λc=>
 (f137_l1 s0 a c (Int.toNat ((s0.length:Int) - 0)+1) 0)
def f138(h0:cX)(a:Int)(c:Bool):Bool:=
 (((decide (h0.from_<=a))&&(decide (a<h0.to)))&&(h0.clean||(!c)))
def f128(t0:bD)(c:Int)(d:Bool):Option (Int×Bool):=
 (f137 t0.handlers (λz0=>some (f138 z0 c d))).bind λa=>
 (bif (decide (a<0)) then some (0,false) else (idx t0.handlers a).bind λe=>
 some (e.at_,true))
def f129(o0:Int):Bool:=
 al (λ(c:Bool)=>
 (bif c then true else false)) λa=>
 (bif (decide (o0=27)) then(a (decide (o0=27))) else(bif (decide (o0=28)) then(a (decide (o0=28))) else(bif (decide (o0=33)) then(a (decide (o0=33))) else(bif (decide (o0=34)) then(a (decide (o0=34))) else(bif (decide (o0=35)) then(a (decide (o0=35))) else(bif (decide (o0=38)) then(a (decide (o0=38))) else(bif (decide (o0=49)) then(a (decide (o0=49))) else(bif (decide (o0=50)) then(a (decide (o0=50))) else(bif (decide (o0=53)) then(a (decide (o0=53))) else(a (decide (o0=54))))))))))))
def f107_l1(a:aM)(e:lI->Option lI):Nat->Int->lI->Option lI
 |0,_,_=>none
 |n+1,c,d=>
 (bif (decide (c<a.m)) then al (λ(_:Unit)=>
 (f107_l1 a e n (i64.wrap (c+1)) (d++ [(i64.wrap (a.to+c))]))) λf=>
 au (aO 8 d [(i64.wrap (a.to+c))])<|
 (f ()) else(e d))
def f107_l2(a:jv)(e:lI->Option lI):Nat->Int->lI->Option lI
 |0,_,_=>none
 |n+1,c,d=>
 (bif (decide (c<(a.alts.length:Int))) then (idx a.alts c).bind λf=>
 al (λ(_:Unit)=>
 (f107_l2 a e n (i64.wrap (c+1)) (d++ [f.at_]))) λg=>
 au (aO 8 d [f.at_])<|
 (g ()) else(e d))
def f107(t0:bD)(e:Int):Option lI:=
 (idx t0.insns e).bind λa=>
 al (λ(c:lI)=>
 al (λ(h:lI)=>
 al (λ(w:lI)=>
 (f74 w).bind λx=>
 (f75 x).bind λy=>
 some y) λk=>
 (bif (f129 a.op) then (f128 t0 e false).bind λo=>
 al (λ(_:Unit)=>
 (k (h++ [o.1]))) λA=>
 al (λ(_:Unit)=>
 (k h)) λB=>
 (bif o.2 then au (aO 8 h [o.1])<|
 (A ()) else(B ())) else(k h))) λd=>
 al (λ(C:Bool)=>
 (bif C then al (λ(_:Unit)=>
 (d (c++ [a.to]))) λE=>
 au (aO 8 c [a.to])<|
 (E ()) else(bif (decide (a.op=32)) then(f107_l1 a d (Int.toNat (a.m - 0)+1) 0 c) else(bif (decide (a.op=50)) then (idx t0.selects a.n).bind λg=>
 al (λ(p:lI)=>
 al (λ(_:Unit)=>
 (d (p++ [g.else_]))) λF=>
 al (λ(_:Unit)=>
 (d p)) λG=>
 (bif (decide (g.else_>=0)) then au (aO 8 p [g.else_])<|
 (F ()) else(G ()))) λH=>
 (f107_l2 g H (Int.toNat ((g.alts.length:Int) - 0)+1) 0 c) else(bif (decide (a.op=35)) then (f128 t0 e true).bind λr=>
 al (λ(_:Unit)=>
 (d (c++ [r.1]))) λI=>
 al (λ(_:Unit)=>
 (d c)) λJ=>
 (bif r.2 then au (aO 8 c [r.1])<|
 (I ()) else(J ())) else(d c)))))) λj=>
 (bif (decide (a.op=29)) then(j (decide (a.op=29))) else(bif (decide (a.op=30)) then(j (decide (a.op=30))) else(bif (decide (a.op=31)) then(j (decide (a.op=31))) else(j (decide (a.op=52))))))) λt=>
 al (λ(K:Bool)=>
 (bif K then(t []) else al (λ(_:Unit)=>
 (t ([]++ [(i64.wrap (e+1))]))) λL=>
 al (λ(_:Unit)=>
 (t [])) λM=>
 (bif (decide ((i64.wrap (e+1))<(t0.insns.length:Int))) then au (aO 8 [] [(i64.wrap (e+1))])<|
 (L ()) else(M ())))) λf=>
 (bif (decide (a.op=29)) then(f (decide (a.op=29))) else(bif (decide (a.op=33)) then(f (decide (a.op=33))) else(bif (decide (a.op=34)) then(f (decide (a.op=34))) else(bif (decide (a.op=50)) then(f (decide (a.op=50))) else(bif (decide (a.op=52)) then(f (decide (a.op=52))) else(f (decide (a.op=57))))))))
def f68_l2(c:List (Int×lI))(a:Int)(d:lI)(g:(List (Int×Int))->Option ((List aj)×Int)):Nat->Int->(List (Int×Int))->Option ((List aj)×Int)
 |0,_,_=>none
 |na+1,e,f=>
 (bif (decide (e<(List.length (Option.getD (ac (ai c a d) a) []):Int))) then (idx (Option.getD (ac (ai c a d) a) []) e).bind λh=>
 (f68_l2 c a d g na (i64.wrap (e+1)) (ai f h (i64.wrap ((Option.getD (ac f h) 0)+1)))) else(g f))
def f68_l1(t0:bD)(g:(List (Int×lI))->(List (Int×Int))->lI->Option ((List aj)×Int)):Nat->(List (Int×lI))->(List (Int×Int))->lI->Option ((List aj)×Int)
 |0,_,_,_=>none
 |n+1,d,f,a=>
 (bif (decide ((a.length:Int)>0)) then al (λ(j:List (Int×lI))(k:List (Int×Int))(m:lI)=>
 (f68_l1 t0 g n j k m)) λh=>
 (idx a (i64.wrap ((a.length:Int) - 1))).bind λc=>
 au (cm a 0 (i64.wrap ((a.length:Int) - 1)))<|
 (bif (Option.isSome (ac d c)) then(h d f (List.take (Int.toNat (i64.wrap ((a.length:Int) - 1))) a)) else (f107 t0 c).bind λe=>
 al (λ(o:List (Int×Int))=>
 au (aO 8 (List.take (Int.toNat (i64.wrap ((a.length:Int) - 1))) a) (Option.getD (ac (ai d c e) c) []))<|
 (h (ai d c e) o ((List.take (Int.toNat (i64.wrap ((a.length:Int) - 1))) a)++(Option.getD (ac (ai d c e) c) [])))) λp=>
 (f68_l2 d c e p (Int.toNat ((List.length (Option.getD (ac (ai d c e) c) []):Int) - 0)+1) 0 f)) else(g d f a))
def f68_m3(e:Int)(d:List (Int×lI))(f:List (Int×Int)):(Int×lI)->(lI)->Option (lI)
 |a,c=>
 (bif (!decide (a.1=e)) then al (λ(g:Bool)=>
 (bif (!g) then au (aO 8 c [a.1])<|
 some (c++ [a.1]) else some c)) λh=>
 (bif ((Option.isSome (ac d (i64.wrap (a.1 - 1))))&&(decide ((List.length (Option.getD (ac d (i64.wrap (a.1 - 1))) []):Int)=1))) then((idx (Option.getD (ac d (i64.wrap (a.1 - 1))) []) 0).bind λj=>some (decide (j=(i64.wrap ((i64.wrap (a.1 - 1))+1))))) else some false).bind λk=>
 (h ((k&&(!decide ((i64.wrap ((i64.wrap (a.1 - 1))+1))=e)))&&(decide ((Option.getD (ac f (i64.wrap ((i64.wrap (a.1 - 1))+1))) 0)=1)))) else some c)
def f68_l4(c:lI)(d:(List (Int×Int))->Option ((List aj)×Int)):Nat->Int->(List (Int×Int))->Option ((List aj)×Int)
 |0,_,_=>none
 |n+1,a,e=>
 (bif (decide (a<(c.length:Int))) then (idx c a).bind λf=>
 (f68_l4 c d n (i64.wrap (a+1)) (ai e f a)) else(d e))
def f68_l6(c:Int)(a:List (Int×lI))(d:List (Int×Int))(e:Int->Option ((List aj)×Int)):Nat->Int->Option ((List aj)×Int)
 |0,_=>none
 |na+1,c101v226=>
 al (λ(f:Bool)=>
 (bif f then(f68_l6 c a d e na (i64.wrap (c101v226+1))) else(e c101v226))) λg=>
 (bif ((Option.isSome (ac a (i64.wrap (c101v226 - 1))))&&(decide ((List.length (Option.getD (ac a (i64.wrap (c101v226 - 1))) []):Int)=1))) then((idx (Option.getD (ac a (i64.wrap (c101v226 - 1))) []) 0).bind λh=>some (decide (h=(i64.wrap ((i64.wrap (c101v226 - 1))+1))))) else some false).bind λj=>
 (g ((j&&(!decide ((i64.wrap ((i64.wrap (c101v226 - 1))+1))=c)))&&(decide ((Option.getD (ac d (i64.wrap ((i64.wrap (c101v226 - 1))+1))) 0)=1))))
def f68_l7(a:List (Int×lI))(c:List (Int×Int))(c101v223:Int)(f:lI->Option ((List aj)×Int)):Nat->Int->lI->Option ((List aj)×Int)
 |0,_,_=>none
 |na+1,d,e=>
 (bif (decide (d<(List.length (Option.getD (ac a (i64.wrap (c101v223 - 1))) []):Int))) then (idx (Option.getD (ac a (i64.wrap (c101v223 - 1))) []) d).bind λg=>
 au (aO 8 e [(Option.getD (ac c g) 0)])<|
 (f68_l7 a c c101v223 f na (i64.wrap (d+1)) (e++ [(Option.getD (ac c g) 0)])) else(f e))
def f68_l5(a:Int)(c:List (Int×lI))(e:List (Int×Int))(d:lI)(g:List (Int×Int))(h:(List aj)->Option ((List aj)×Int)):Nat->Int->(List aj)->Option ((List aj)×Int)
 |0,_,_=>none
 |n+1,k,m=>
 (bif (decide (k<(d.length:Int))) then al (λ(p:List aj)(K:List aj)(c100v218:Int)(c101v219:Int)(c102v220:lI)=>
 (f68_l5 a c e d g h n (i64.wrap (k+1)) p)) λr=>
 (idx d k).bind λf=>
 al (λ(c101v223:Int)=>
 al (λ(t:lI)=>
 (f74 t).bind λj=>
 au (aO 40 m [(aj.mk f c101v223 j)])<|
 (r (m++ [(aj.mk f c101v223 j)]) [(aj.mk f c101v223 j)] f c101v223 j)) λw=>
 (f68_l7 c g c101v223 w (Int.toNat ((List.length (Option.getD (ac c (i64.wrap (c101v223 - 1))) []):Int) - 0)+1) 0 [])) λx=>
 (f68_l6 a c e x 9223372036854775808 (i64.wrap (f+1))) else(h m))
noncomputable def f68(t0:bD)(a:Int):Option ((List aj)×Int):=
 (f11 t0).bind λy=>
 (bif (((!y)||(decide (a<0)))||(decide (a>=(t0.insns.length:Int)))) then some ([],2) else al (λ(c:List (Int×lI))(e:List (Int×Int))(L:lI)=>
 al (λ(o:lI)=>
 au (cm o 1 (o.length:Int))<|
 (f74t o).bind λd=>
 al (λ(g:List (Int×Int))=>
 al (λ(A:List aj)=>
 some (A,0)) λh=>
 (f68_l5 a c e d g h (Int.toNat ((d.length:Int) - 0)+1) 0 [])) λB=>
 (f68_l4 d B (Int.toNat ((d.length:Int) - 0)+1) 0 ([]:List (Int×Int)))) λC=>
 (cA c (f68_m3 a c e) (λ(E:lI)=>(C E)) [a])) λF=>
 al (λ(G:List (Int×lI))(H:List (Int×Int))(I:lI)=>
 (F G H I)) λJ=>
 (f68_l1 t0 J 9223372036854775808 ([]:List (Int×lI)) ([]:List (Int×Int)) [a]))
def f34_l2(c:aj)(d:(List (Int×lI))->Option (List (Int×lI))):Nat->Int->(List (Int×lI))->Option (List (Int×lI))
 |0,_,_=>none
 |na+1,a,e=>
 (bif (decide ((i64.wrap (a+1))<c.to)) then(f34_l2 c d na (i64.wrap (a+1)) (ai e a [(i64.wrap (a+1))])) else(d e))
def f34_l1(c:(List aj)×Int)(d:(List (Int×lI))->Option (List (Int×lI))):Nat->Int->(List (Int×lI))->Option (List (Int×lI))
 |0,_,_=>none
 |n+1,f,k=>
 (bif (decide (f<(c.1.length:Int))) then (idx c.1 f).bind λa=>
 al (λ(g:List (Int×lI))=>
 (bif (decide (0<(a.next.length:Int))) then (idx a.next 0).bind λm=>
 au (Option.isNone (ac g (i64.wrap (a.to - 1))))<|
 (idx c.1 m).bind λe=>
 au (aO 8 [] [e.from_])<|
 (bif (decide ((i64.wrap (0+1))<(a.next.length:Int))) then (idx a.next (i64.wrap (0+1))).bind λo=>
 (idx c.1 o).bind λh=>
 au (aO 8 ([]++ [e.from_]) [h.from_])<|
 (bif (decide ((i64.wrap ((i64.wrap (0+1))+1))<(a.next.length:Int))) then (idx a.next (i64.wrap ((i64.wrap (0+1))+1))).bind λp=>
 (idx c.1 p).bind λj=>
 au (aO 8 (([]++ [e.from_])++ [h.from_]) [j.from_])<|
 (bif (decide ((i64.wrap ((i64.wrap ((i64.wrap (0+1))+1))+1))<(a.next.length:Int))) then (idx a.next (i64.wrap ((i64.wrap ((i64.wrap (0+1))+1))+1))).bind λr=>
 (idx c.1 r).bind λt=>
 au (aO 8 ((([]++ [e.from_])++ [h.from_])++ [j.from_]) [t.from_])<|
 none else(f34_l1 c d n (i64.wrap (f+1)) (ai g (i64.wrap (a.to - 1)) ((([]++ [e.from_])++ [h.from_])++ [j.from_])))) else(f34_l1 c d n (i64.wrap (f+1)) (ai g (i64.wrap (a.to - 1)) (([]++ [e.from_])++ [h.from_])))) else(f34_l1 c d n (i64.wrap (f+1)) (ai g (i64.wrap (a.to - 1)) ([]++ [e.from_])))) else(f34_l1 c d n (i64.wrap (f+1)) g))) λw=>
 (f34_l2 a w 9223372036854775808 a.from_ k) else(d k))
noncomputable def f34(t0:bD)(x:Int):Option (List (Int×lI)):=
 (f68 t0 x).bind λc=>
 al (λ(y:List (Int×lI))=>
 some y) λd=>
 (f34_l1 c d (Int.toNat ((c.1.length:Int) - 0)+1) 0 ([]:List (Int×lI)))
def f40s_l2(ed:List (Int×(List aT)))(x0:Int)(c:Int)(d:Int->Option ((List Bool)×lI))(e:Unit->Option ((List Bool)×lI)):Nat->Int->Option ((List Bool)×lI)
 |0,_=>none
 |na+1,a=>
 (bif (decide (a<(List.length (Option.getD (ac ed c) []):Int))) then (idx (Option.getD (ac ed c) []) a).bind λf=>
 al (λ(_:Unit)=>
 (bif (decide (f.frm=x0)) then(d a) else(f40s_l2 ed x0 c d e na (i64.wrap (a+1))))) λg=>
 (g ()) else(e ()))
def f40s_l1(h:(List Bool)->lI->(List aj)->lI->(List (Int×(List aT)))->(List (Int×lI))->lI->(List (Int×Unit))->Int->Option ((List Bool)×lI))(nat:lI)(bb:List aj)(co:lI)(ed:List (Int×(List aT)))(lo:List (Int×lI))(fo:List (Int×Unit))(x0:Int)(j:(List Bool)->lI->Option ((List Bool)×lI))(e:aj):Nat->Int->(List Bool)->lI->Option ((List Bool)×lI)
 |0,_,_,_=>none
 |n+1,f,a,c=>
 (bif (decide (f<(e.next.length:Int))) then al (λ(o:List Bool)(p:lI)=>
 (f40s_l1 h nat bb co ed lo fo x0 j e n (i64.wrap (f+1)) o p)) λg=>
 (idx e.next f).bind λd=>
 (idx a d).bind λr=>
 (bif (!r) then al (λ(t:Bool)=>
 (bif (!t) then (h a nat bb co ed lo c fo d).bind λk=>
 (g k.1 k.2) else(g a c))) λw=>
 al (λ(x:Bool)=>
 (w x)) λy=>
 al (λ(A:Int)=>
 (y (decide (A>=0)))) λm=>
 al (λ(_:Unit)=>
 (m (-1))) λB=>
 (f40s_l2 ed x0 d m B (Int.toNat ((List.length (Option.getD (ac ed d) []):Int) - 0)+1) 0) else(g a c)) else(j a c))
def f40s(d:(List Bool)->lI->(List aj)->lI->(List (Int×(List aT)))->(List (Int×lI))->lI->(List (Int×Unit))->Int->Option ((List Bool)×lI))(seen:List Bool)(nat:lI)(bb:List aj)(co:lI)(ed:List (Int×(List aT)))(lo:List (Int×lI))(od:lI)(fo:List (Int×Unit))(x0:Int):Option ((List Bool)×lI):=
 (idx seen x0).bind λg=>
 al (λ(e:List Bool)(a:lI)=>
 au (aO 8 a [x0])<|
 some (e,(a++ [x0]))) λf=>
 (idx bb x0).bind λc=>
 (f40s_l1 d nat bb co ed lo fo x0 f c (Int.toNat ((c.next.length:Int) - 0)+1) 0 (List.set seen x0.toNat true) od)
def f40:Nat->(List Bool)->lI->(List aj)->lI->(List (Int×(List aT)))->(List (Int×lI))->lI->(List (Int×Unit))->Int->Option ((List Bool)×lI)
 |0=>λ_ _ _ _ _ _ _ _ _=>none
 |n+1=>f40s (f40 n)
def f19s_l1(a:lI)(d:(List (Int×Bool))->Option ((List (Int×Unit))×(List (Int×Int)))):Nat->Int->(List (Int×Bool))->Option ((List (Int×Unit))×(List (Int×Int)))
 |0,_,_=>none
 |n+1,c,e=>
 (bif (decide (c<(a.length:Int))) then (idx a c).bind λf=>
 (f19s_l1 a d n (i64.wrap (c+1)) (ai e f true)) else(d e))
def f19s_l2(vo:lI)(ed:List (Int×(List aT)))(e:Int)(f:List (Int×Bool))(g:lI->Option ((List (Int×Unit))×(List (Int×Int)))):Nat->Int->lI->Option ((List (Int×Unit))×(List (Int×Int)))
 |0,_,_=>none
 |n+1,c,d=>
 (bif (decide (c>=0)) then (idx vo c).bind λa=>
 al (λ(_:Unit)=>
 (f19s_l2 vo ed e f g n (i64.wrap (c - 1)) (d++ [a]))) λh=>
 al (λ(_:Unit)=>
 (f19s_l2 vo ed e f g n (i64.wrap (c - 1)) d)) λj=>
 (bif (((Option.getD (ac f a) false)&&(!decide (a=e)))&&(decide ((List.length (Option.getD (ac ed a) []):Int)>0))) then au (aO 8 d [a])<|
 (h ()) else(j ())) else(g d))
def f19s_l4(ed:List (Int×(List aT)))(a:Int)(d:(List (Int×Unit))×(List (Int×Int)))(e:Int->Option ((List (Int×Unit))×(List (Int×Int)))):Nat->Int->Int->Option ((List (Int×Unit))×(List (Int×Int)))
 |0,_,_=>none
 |na+1,f,c=>
 (bif (decide (c<(List.length (Option.getD (ac ed a) []):Int))) then (idx (Option.getD (ac ed a) []) c).bind λg=>
 (f82 g.bound (Option.getD (ac d.2 g.frm) 0)).bind λh=>
 (f46 f [h]).bind λj=>
 (f19s_l4 ed a d e na j (i64.wrap (c+1))) else(e f))
def f19s_m5(c:Int):(Int×Int)->((List (Int×Int)))->Option ((List (Int×Int)))
 |a,d=>
 (f46 c [a.2]).bind λe=>
 some (ai d a.1 e)
def f19s_l6(lo:List (Int×lI))(e:List (Int×Int))(a:Int)(f:List (Int×Int))(g:(List (Int×Int))->(List (Int×Bool))->Option ((List (Int×Unit))×(List (Int×Int)))):Nat->Int->(List (Int×Int))->(List (Int×Bool))->Option ((List (Int×Unit))×(List (Int×Int)))
 |0,_,_,_=>none
 |na+1,d,h,j=>
 (bif (decide (d<(List.length (Option.getD (ac lo a) []):Int))) then (idx (Option.getD (ac lo a) []) d).bind λc=>
 (f46 (Option.getD (ac e a) 0) [(Option.getD (ac f c) 0)]).bind λk=>
 (f19s_l6 lo e a f g na (i64.wrap (d+1)) (ai (bw h c (0:Int)) c k) (ai j c true)) else(g h j))
def f19s_l8(lo:List (Int×lI))(j:Int)(k:List (Int×Bool))(m:Int)(d:List (Int×Int))(e:Int)(o:(List (Int×Int))->Option ((List (Int×Unit))×(List (Int×Int))))(f:aj):Nat->Int->(List (Int×Int))->Option ((List (Int×Unit))×(List (Int×Int)))
 |0,_,_=>none
 |nb+1,g,a=>
 (bif (decide (g<(f.next.length:Int))) then al (λ(p:List (Int×Int))=>
 (f19s_l8 lo j k m d e o f nb (i64.wrap (g+1)) p)) λh=>
 (idx f.next g).bind λc=>
 (bif ((Option.getD (ac k c) false)&&(!decide (c=j))) then al (λ(r:Bool)=>
 (bif (!r) then(h (ai a c (if(Option.getD (ac d e) 0)>(Option.getD (ac a c) 0) then(Option.getD (ac d e) 0) else(Option.getD (ac a c) 0)))) else(h a))) λt=>
 (f35 (Option.getD (ac lo m) []) c).bind λw=>
 (t w) else(h a)) else(o a))
def f19s_l7(vb:List aj)(lo:List (Int×lI))(e:Int)(f:List (Int×Bool))(a:Int)(g:(List (Int×Unit))->(List (Int×Int))->(List (Int×Int))->(List (Int×Bool))->(List (Int×Int))->(List (Int×Int))->Option ((List (Int×Unit))×(List (Int×Int))))(h:List (Int×Unit))(j:List (Int×Int))(k:List (Int×Int))(c:List (Int×Int))(m:List (Int×Bool)):Nat->Int->(List (Int×Int))->Option ((List (Int×Unit))×(List (Int×Int)))
 |0,_,_=>none
 |na+1,d,o=>
 (bif (decide (d<(List.length (Option.getD (ac lo a) []):Int))) then (idx (Option.getD (ac lo a) []) d).bind λp=>
 al (λ(t:List (Int×Int))=>
 (f19s_l7 vb lo e f a g h j k c m na (i64.wrap (d+1)) t)) λw=>
 (idx vb p).bind λr=>
 (f19s_l8 lo e f a c p w r (Int.toNat ((r.next.length:Int) - 0)+1) 0 o) else(g h o c m j k))
def f19s_l9(c:Int)(d:List (Int×Bool))(e:List (Int×Int))(a:Int)(f:Int)(t:(List (Int×Int))->Option ((List (Int×Unit))×(List (Int×Int))))(g:aj):Nat->Int->(List (Int×Int))->Option ((List (Int×Unit))×(List (Int×Int)))
 |0,_,_=>none
 |na+1,A,j=>
 (bif (decide (A<(g.next.length:Int))) then al (λ(G:List (Int×Int))=>
 (f19s_l9 c d e a f t g na (i64.wrap (A+1)) G)) λB=>
 (idx g.next A).bind λk=>
 (bif ((Option.getD (ac d k) false)&&(!decide (k=c))) then al (λ(_:Unit)=>
 (B (ai j k (if(Option.getD (ac (ai (bw e a (0:Int)) a f) a) 0)>(Option.getD (ac j k) 0) then(Option.getD (ac (ai (bw e a (0:Int)) a f) a) 0) else(Option.getD (ac j k) 0))))) λH=>
 (H ()) else(B j)) else(t j))
noncomputable def f19s_l3(m:lI->(List aj)->lI->lI->(List (Int×(List aT)))->(List (Int×lI))->(List (Int×Unit))->Int->lI->Option ((List (Int×Unit))×(List (Int×Int))))(nat:lI)(vb:List aj)(vc:lI)(vo:lI)(ed:List (Int×(List aT)))(lo:List (Int×lI))(c:Int)(d:List (Int×Bool))(o:lI)(p:(List (Int×Unit))->(List (Int×Int))->(List (Int×Int))->(List (Int×Bool))->Option ((List (Int×Unit))×(List (Int×Int)))):Nat->Int->(List (Int×Unit))->(List (Int×Int))->(List (Int×Int))->(List (Int×Bool))->Option ((List (Int×Unit))×(List (Int×Int)))
 |0,_,_,_,_,_=>none
 |n+1,w,x,h,e,r=>
 (bif (decide (w>=0)) then (idx vo w).bind λa=>
 al (λ(I:List (Int×Int))(J:List (Int×Int))(K:List (Int×Bool))=>
 (f19s_l3 m nat vb vc vo ed lo c d o p n (i64.wrap (w - 1)) x I J K)) λC=>
 al (λ(L:List (Int×Unit))(M:List (Int×Int))(N:List (Int×Int))(O:List (Int×Bool))(b3:List (Int×Int))(b4:List (Int×Int))=>
 (f19s_l3 m nat vb vc vo ed lo c d o p n (i64.wrap (w - 1)) L M N O)) λP=>
 (bif ((!(Option.getD (ac d a) false))||(Option.getD (ac r a) false)) then(C h e r) else (bif (!decide (a=c)) then((f35 o a).bind λQ=>some Q) else some false).bind λR=>
 (bif R then al (λ(S:List (Int×Unit))(T:List (Int×Int))(E:List (Int×Int))=>
 al (λ(U:List (Int×Int))(V:List (Int×Bool))=>
 (f19s_l7 vb lo c d a P S T E U V (Int.toNat ((List.length (Option.getD (ac lo a) []):Int) - 0)+1) 0 h)) λW=>
 (f19s_l6 lo h a E W (Int.toNat ((List.length (Option.getD (ac lo a) []):Int) - 0)+1) 0 e r)) λX=>
 au (Option.isNone (ac x a))<|
 (m nat vb vc vo ed lo x a (Option.getD (ac lo a) [])).bind λy=>
 al (λ(Y:Int)=>
 al (λ(Z:List (Int×Int))=>
 (X (ai y.1 a ()) y.2 Z)) λaa=>
 (cA y.2 (f19s_m5 Y) (λ(ag:(List (Int×Int)))=>(aa ag)) ([]:List (Int×Int)))) λar=>
 (f19s_l4 ed a y ar (Int.toNat ((List.length (Option.getD (ac ed a) []):Int) - 0)+1) 0 0) else (idx vc a).bind λa0=>
 (f46 (Option.getD (ac h a) 0) [a0]).bind λf=>
 al (λ(a1:List (Int×Int))=>
 (C a1 (ai (bw e a (0:Int)) a f) (ai r a true))) λt=>
 (idx vb a).bind λg=>
 (f19s_l9 c d e a f t g (Int.toNat ((g.next.length:Int) - 0)+1) 0 h))) else(p x h e r))
noncomputable def f19s(m:lI->(List aj)->lI->lI->(List (Int×(List aT)))->(List (Int×lI))->(List (Int×Unit))->Int->lI->Option ((List (Int×Unit))×(List (Int×Int))))(nat:lI)(vb:List aj)(vc:lI)(vo:lI)(ed:List (Int×(List aT)))(lo:List (Int×lI))(fo:List (Int×Unit))(c:Int)(F:lI):Option ((List (Int×Unit))×(List (Int×Int))):=
 al (λ(d:List (Int×Bool))=>
 al (λ(o:lI)=>
 al (λ(a6:List (Int×Unit))(b5:List (Int×Int))(a7:List (Int×Int))(b6:List (Int×Bool))=>
 some (a6,a7)) λa8=>
 al (λ(_:Unit)=>
 al (λ(a':List (Int×Unit))(bb:List (Int×Int))(bd:List (Int×Int))(bk:List (Int×Bool))=>
 (a8 a' bb bd bk)) λp=>
 (f19s_l3 m nat vb vc vo ed lo c d o p (Int.toNat ((i64.wrap ((vo.length:Int) - 1))+1)+1) (i64.wrap ((vo.length:Int) - 1)) fo (ai ([]:List (Int×Int)) c 0) ([]:List (Int×Int)) ([]:List (Int×Bool)))) λbl=>
 (bl ())) λbo=>
 al (λ(_:Unit)=>
 al (λ(bs:lI)=>
 (bo bs)) λb0=>
 (f19s_l2 vo ed c d b0 (Int.toNat ((i64.wrap ((vo.length:Int) - 1))+1)+1) (i64.wrap ((vo.length:Int) - 1)) [])) λb1=>
 (b1 ())) λb2=>
 (f19s_l1 F b2 (Int.toNat ((F.length:Int) - 0)+1) 0 ([]:List (Int×Bool)))
noncomputable def f19:Nat->lI->(List aj)->lI->lI->(List (Int×(List aT)))->(List (Int×lI))->(List (Int×Unit))->Int->lI->Option ((List (Int×Unit))×(List (Int×Int)))
 |0=>λ_ _ _ _ _ _ _ _ _=>none
 |n+1=>f19s (f19 n)
def f37_l2(d:lI)(a:Int)(h:(List Pr2)->Option (List Pr2))(e:lI):Nat->Int->(List Pr2)->Option (List Pr2)
 |0,_,_=>none
 |na+1,f,c=>
 (bif (decide (f<(e.length:Int))) then al (λ(k:List Pr2)=>
 (f37_l2 d a h e na (i64.wrap (f+1)) k)) λj=>
 (idx e f).bind λg=>
 (bif (decide (a=0)) then some true else((idx d a).bind λm=>some (decide (m>=0)))).bind λo=>
 (bif o then((f76 d g a).bind λp=>some p) else some false).bind λr=>
 (bif r then au (aO 16 c [(Pr2.mk a g)])<|
 (j (c++ [(Pr2.mk a g)])) else(j c)) else(h c))
def f37_l1(b0:List aj)(c:lI)(d:(List Pr2)->Option (List Pr2)):Nat->Int->(List Pr2)->Option (List Pr2)
 |0,_,_=>none
 |n+1,a,e=>
 (bif (decide (a<(c.length:Int))) then al (λ(g:List Pr2)=>
 (f37_l1 b0 c d n (i64.wrap (a+1)) g)) λh=>
 (idx b0 a).bind λj=>
 (f42o j.next).bind λk=>
 (f74 k).bind λm=>
 (f75 m).bind λf=>
 (f37_l2 c a h f (Int.toNat ((f.length:Int) - 0)+1) 0 e) else(d e))
def f37(b0:List aj):Option (List Pr2):=
 (f73 b0).bind λa=>
 al (λ(c:List Pr2)=>
 some c) λd=>
 (f37_l1 b0 a d (Int.toNat ((a.length:Int) - 0)+1) 0 [])
def f15_l1(d:(List ((Int×Int)×Bool))->oB)(a:List Pr2):Nat->Int->(List ((Int×Int)×Bool))->oB
 |0,_,_=>none
 |n+1,c,e=>
 (bif (decide (c<(a.length:Int))) then (idx a c).bind λf=>
 (f15_l1 d a n (i64.wrap (c+1)) (ai e (f.e0,f.e1) true)) else(d e))
def f15_l3(e:List ((Int×Int)×Bool))(f:lI×lI)(g:Int)(h:Unit->oB)(a:Int)(c:aj):Nat->Int->oB
 |0,_=>none
 |na+1,d=>
 (bif (decide (d<(c.next.length:Int))) then (idx c.next d).bind λj=>
 (bif (decide (a>=0)) then((idx f.2 j).bind λk=>some (decide (k>=a))) else some false).bind λm=>
 (bif (m&&(!(Option.getD (ac e (g,j)) false))) then some false else(f15_l3 e f g h a c na (i64.wrap (d+1)))) else(h ()))
def f15_l2(b0:List aj)(d:List ((Int×Int)×Bool))(c:lI×lI)(e:Unit->oB):Nat->Int->oB
 |0,_=>none
 |n+1,a=>
 (bif (decide (a<(c.2.length:Int))) then al (λ(_:Unit)=>
 (f15_l2 b0 d c e n (i64.wrap (a+1)))) λg=>
 (idx c.2 a).bind λh=>
 (idx b0 a).bind λf=>
 (f15_l3 d c a g h f (Int.toNat ((f.next.length:Int) - 0)+1) 0) else(e ()))
def f15(b0:List aj):oB:=
 (f36 b0).bind λd=>
 (bif (!d) then some false else al (λ(e:List ((Int×Int)×Bool))=>
 (f38 b0).bind λa=>
 al (λ(_:Unit)=>
 some true) λf=>
 (f15_l2 b0 e a f (Int.toNat ((a.2.length:Int) - 0)+1) 0)) λg=>
 (f37 b0).bind λc=>
 (f15_l1 g c (Int.toNat ((c.length:Int) - 0)+1) 0 ([]:List ((Int×Int)×Bool))))
def f37w_l2(d:lI)(a:Int)(h:(List Pr2)->Option (List Pr2))(e:lI):Nat->Int->(List Pr2)->Option (List Pr2)
 |0,_,_=>none
 |na+1,f,c=>
 (bif (decide (f<(e.length:Int))) then al (λ(k:List Pr2)=>
 (f37w_l2 d a h e na (i64.wrap (f+1)) k)) λj=>
 (idx e f).bind λg=>
 (bif (decide (a=0)) then some true else((idx d a).bind λm=>some (decide (m>=0)))).bind λo=>
 (bif o then((f76 d g a).bind λp=>some p) else some false).bind λr=>
 (bif r then au (aO 16 c [(Pr2.mk a g)])<|
 (j (c++ [(Pr2.mk a g)])) else(j c)) else(h c))
def f37w_l1(b0:List aj)(c:lI)(d:(List Pr2)->Option (List Pr2)):Nat->Int->(List Pr2)->Option (List Pr2)
 |0,_,_=>none
 |n+1,a,e=>
 (bif (decide (a<(c.length:Int))) then al (λ(g:List Pr2)=>
 (f37w_l1 b0 c d n (i64.wrap (a+1)) g)) λh=>
 (idx b0 a).bind λj=>
 (f42o j.next).bind λk=>
 (f74 k).bind λm=>
 (f75 m).bind λf=>
 (f37w_l2 c a h f (Int.toNat ((f.length:Int) - 0)+1) 0 e) else(d e))
def f37w(b0:List aj):Option (List Pr2):=
 (f73 b0).bind λa=>
 al (λ(c:List Pr2)=>
 some c) λd=>
 (f37w_l1 b0 a d (Int.toNat ((a.length:Int) - 0)+1) 0 [])
def f39w_l2(f:lI)(a:Int)(g:lL->Option lI)(d:aj):Nat->Int->lL->Option lI
 |0,_,_=>none
 |na+1,e,c=>
 (bif (decide (e<(d.next.length:Int))) then al (λ(m:lL)=>
 (f39w_l2 f a g d na (i64.wrap (e+1)) m)) λh=>
 (idx d.next e).bind λj=>
 (bif (decide (a=0)) then some true else((idx f a).bind λo=>some (decide (o>=0)))).bind λp=>
 (bif p then (idx c j).bind λk=>
 au (aO 8 k [a])<|
 (h (List.set c j.toNat (k++ [a]))) else(h c)) else(g c))
def f39w_l1(b0:List aj)(c:lI)(d:lL->Option lI):Nat->Int->lL->Option lI
 |0,_,_=>none
 |n+1,a,e=>
 (bif (decide (a<(c.length:Int))) then al (λ(g:lL)=>
 (f39w_l1 b0 c d n (i64.wrap (a+1)) g)) λh=>
 (idx b0 a).bind λf=>
 (f39w_l2 c a h f (Int.toNat ((f.next.length:Int) - 0)+1) 0 e) else(d e))
def f39w_l3(c:Int)(h:(List (Int×Bool))->lI->Option lI)(d:List Pr2):Nat->Int->(List (Int×Bool))->lI->Option lI
 |0,_,_,_=>none
 |n+1,e,f,a=>
 (bif (decide (e<(d.length:Int))) then al (λ(k:List (Int×Bool))(m:lI)=>
 (f39w_l3 c h d n (i64.wrap (e+1)) k m)) λj=>
 (idx d e).bind λg=>
 (bif (decide (g.e1=c)) then au (aO 8 a [g.e0])<|
 (j (ai f c true) (a++ [g.e0])) else(j f a)) else(h f a))
def f39w_l4(d:lL)(e:(List (Int×Bool))->lI->Option lI):Nat->(List (Int×Bool))->lI->Option lI
 |0,_,_=>none
 |n+1,c,a=>
 (bif (decide ((a.length:Int)>0)) then (idx a (i64.wrap ((a.length:Int) - 1))).bind λf=>
 au (cm a 0 (i64.wrap ((a.length:Int) - 1)))<|
 (bif (!(Option.getD (ac c f) false)) then (idx d f).bind λg=>
 au (aO 8 (List.take (Int.toNat (i64.wrap ((a.length:Int) - 1))) a) g)<|
 (f39w_l4 d e n (ai c f true) ((List.take (Int.toNat (i64.wrap ((a.length:Int) - 1))) a)++g)) else(f39w_l4 d e n c (List.take (Int.toNat (i64.wrap ((a.length:Int) - 1))) a))) else(e c a))
def f39w_l5(b0:List aj)(d:List (Int×Bool))(e:lI->Option lI):Nat->Int->lI->Option lI
 |0,_,_=>none
 |n+1,a,c=>
 (bif (decide (a<(b0.length:Int))) then al (λ(g:lI)=>
 (f39w_l5 b0 d e n (i64.wrap (a+1)) g)) λf=>
 (bif (Option.getD (ac d a) false) then au (aO 8 c [a])<|
 (f (c++ [a])) else(f c)) else(e c))
def f39w(b0:List aj)(d:Int):Option lI:=
 au (kM 24 (b0.length:Int))<|
 (f73 b0).bind λa=>
 al (λ(e:lL)=>
 al (λ(f:List (Int×Bool))(g:lI)=>
 al (λ(h:List (Int×Bool))(r:lI)=>
 al (λ(j:lI)=>
 some j) λk=>
 (f39w_l5 b0 h k (Int.toNat ((b0.length:Int) - 0)+1) 0 [])) λm=>
 (f39w_l4 e m 9223372036854775808 f g)) λo=>
 (f37 b0).bind λc=>
 (f39w_l3 d o c (Int.toNat ((c.length:Int) - 0)+1) 0 ([]:List (Int×Bool)) [])) λp=>
 (f39w_l1 b0 a p (Int.toNat ((a.length:Int) - 0)+1) 0 (List.replicate (Int.toNat (b0.length:Int)) ([]:lI)))
def f6_l1(t0:bD)(c:lI)(d:Int->Option (Int×Int))(e:Unit->Option (Int×Int)):Nat->Int->Option (Int×Int)
 |0,_=>none
 |n+1,a=>
 (bif (decide (a<(c.length:Int))) then (idx c a).bind λf=>
 al (λ(_:Unit)=>
 (bif ((decide (f<0))||(decide (f>=(t0.insns.length:Int)))) then(d a) else(f6_l1 t0 c d e n (i64.wrap (a+1))))) λg=>
 (g ()) else(e ()))
def f6_l3(e:List (Int×lI))(f:Int)(k:lI->(List (Int×Int))->lI->Option (Int×Int)):Nat->Int->lI->(List (Int×Int))->lI->Option (Int×Int)
 |0,_,_,_,_=>none
 |na+1,g,c,d,h=>
 (bif (decide (g<(List.length (Option.getD (ac e f) []):Int))) then (idx (Option.getD (ac e f) []) g).bind λa=>
 al (λ(o:lI)(j:List (Int×Int))=>
 au (aO 8 h [(Option.getD (ac j a) 0)])<|
 (f6_l3 e f k na (i64.wrap (g+1)) o j (h++ [(Option.getD (ac j a) 0)]))) λm=>
 (bif (!(Option.isSome (ac d a))) then au (aO 8 c [a])<|
 (m (c++ [a]) (ai d a (c.length:Int))) else(m c d)) else(k c d h))
def f6_l2(j:lI)(c:List (Int×lI))(k:lI->(List (Int×Int))->(List aj)->Option (Int×Int)):Nat->Int->lI->(List (Int×Int))->(List aj)->Option (Int×Int)
 |0,_,_,_,_=>none
 |n+1,d,a,e,f=>
 (bif (decide (d<(a.length:Int))) then al (λ(o:lI)(p:List (Int×Int))(r:List aj)(c82v179:lI)=>
 (f6_l2 j c k n (i64.wrap (d+1)) o p r)) λt=>
 (idx a d).bind λg=>
 al (λ(w:lI)(x:List (Int×Int))(h:lI)=>
 au (aO 40 f [(aj.mk 0 0 h)])<|
 (t w x (f++ [(aj.mk 0 0 h)]) h)) λm=>
 (f35 j g).bind λy=>
 (bif (!y) then(f6_l3 c g m (Int.toNat ((List.length (Option.getD (ac c g) []):Int) - 0)+1) 0 a e []) else(m a e [])) else(k a e f))
def f6_l4(t0:bD)(c1:Nat->Int)(a:lI)(f:lI->Option (Int×Int)):Nat->Int->lI->Option (Int×Int)
 |0,_,_=>none
 |n+1,c,d=>
 (bif (decide (c<(a.length:Int))) then (idx a c).bind λg=>
 (idx t0.insns g).bind λe=>
 au (jE 58 e.op)<|
 au (aO 8 d [(c1 e.op.toNat)])<|
 (f6_l4 t0 c1 a f n (i64.wrap (c+1)) (d++ [(c1 e.op.toNat)])) else(f d))
def f6_l5(t0:bD)(d:(List ((Int×Int)×Int))->Option (Int×Int)):Nat->Int->(List ((Int×Int)×Int))->Option (Int×Int)
 |0,_,_=>none
 |n+1,a,e=>
 (bif (decide (a<(t0.loops.length:Int))) then (idx t0.loops a).bind λc=>
 (f6_l5 t0 d n (i64.wrap (a+1)) (ai e (c.back,c.head) c.bound)) else(d e))
def f6_l6(e:lI)(c:List ((Int×Int)×Int))(f:Int->(List (Int×(List aT)))->Option (Int×Int))(g:List Pr2):Nat->Int->(List (Int×(List aT)))->Option (Int×Int)
 |0,_,_=>none
 |n+1,h,d=>
 (bif (decide (h<(g.length:Int))) then (idx g h).bind λa=>
 (idx e a.e0).bind λj=>
 (idx e a.e1).bind λk=>
 (bif (!(Option.isSome (ac c (j,k)))) then(f 380 d) else au (Option.isNone (ac d a.e1))<|
 au (aO 16 [] [(aT.mk a.e0 (Option.getD (ac c (j,k)) 0))])<|
 (f6_l6 e c f g n (i64.wrap (h+1)) (ai d a.e1 ([]++ [(aT.mk a.e0 (Option.getD (ac c (j,k)) 0))])))) else(f 0 d))
def f6_m7(c:List aj):(Int×(List aT))->((List (Int×lI)))->Option ((List (Int×lI)))
 |a,d=>
 (f39w c a.1).bind λe=>
 some (ai d a.1 e)
def f6_m8:(Int×Int)->Int->Option (Int)
 |a,c=>
 some (if a.2>c then a.2 else c)
def f6_m9:(Int×Int)->Int->Option (Int)
 |m,o=>
 some (if m.2>o then m.2 else o)
noncomputable def f6(t0:bD)(c1:Nat->Int)(d:Int)(h:lI):Option (Int×Int):=
 (f11 t0).bind λF=>
 (bif (!F) then some true else((f12 c1).bind λG=>some (!G))).bind λH=>
 (bif H then some (0,2) else al (λ(_:Unit)=>
 (bif ((decide (d<0))||(decide (d>=(t0.insns.length:Int)))) then some (0,2) else al (λ(I:Bool)=>
 (bif I then some (0,2) else al (λ(c:lI)(bb:List (Int×Int))(bd:List (Int×lI))(a:List aj)=>
 al (λ(e:lI)=>
 (f15 a).bind λJ=>
 (bif (!J) then some (0,250) else al (λ(p:Int)(f:List (Int×(List aT)))(j:List (Int×lI))(bk:List ((Int×Int)×Int))=>
 (bif (!decide (p=0)) then some (0,p) else al (λ(bl:List Bool)(k:lI)=>
 (bif (decide ((List.length (Option.getD (ac f 0) []):Int)>0)) then al (λ(bo:List (Int×Unit))(K:List (Int×Int))(c45v299:lI)=>
 al (λ(r:Int)=>
 (bif (decide (r>9007199254740992)) then some (0,3) else some (r,0))) λL=>
 (cA K f6_m8 (λ(M:Int)=>(L M)) 0)) λN=>
 au (aO 40 a [(aj.mk 0 0 [0])])<|
 au (aO 8 e [0])<|
 (f42o k).bind λg=>
 au (aO 8 g [(a.length:Int)])<|
 (f19 100 c (a++ [(aj.mk 0 0 [0])]) (e++ [0]) (g++ [(a.length:Int)]) f j ([]:List (Int×Unit)) (a.length:Int) (g++ [(a.length:Int)])).bind λt=>
 (N t.1 t.2 (g++ [(a.length:Int)])) else (f19 100 c a e k f j ([]:List (Int×Unit)) 0 k).bind λO=>
 al (λ(w:Int)=>
 (bif (decide (w>9007199254740992)) then some (0,3) else some (w,0))) λP=>
 (cA O.2 f6_m9 (λ(Q:Int)=>(P Q)) 0))) λR=>
 au (kM 1 (a.length:Int))<|
 (f40 100 (List.replicate (Int.toNat (a.length:Int)) (false:Bool)) c a e f j ([]:lI) ([]:List (Int×Unit)) 0).bind λx=>
 (R x.1 x.2))) λS=>
 al (λ(y:List ((Int×Int)×Int))=>
 al (λ(T:Int)(A:List (Int×(List aT)))=>
 al (λ(U:List (Int×lI))=>
 (S T A U y)) λV=>
 (cA A (f6_m7 a) (λ(W:(List (Int×lI)))=>(V W)) ([]:List (Int×lI)))) λX=>
 (f37w a).bind λB=>
 (f6_l6 c y X B (Int.toNat ((B.length:Int) - 0)+1) 0 ([]:List (Int×(List aT))))) λY=>
 (f6_l5 t0 Y (Int.toNat ((t0.loops.length:Int) - 0)+1) 0 ([]:List ((Int×Int)×Int))))) λZ=>
 (f6_l4 t0 c1 c Z (Int.toNat ((c.length:Int) - 0)+1) 0 [])) λaa=>
 (f34 t0 d).bind λC=>
 al (λ(ag:lI)(ar:List (Int×Int))(a0:List aj)=>
 (aa ag ar C a0)) λa1=>
 (f6_l2 h C a1 9223372036854775808 0 [d] (ai ([]:List (Int×Int)) d 0) []))) λa6=>
 al (λ(a7:Int)=>
 (a6 (decide (a7>=0)))) λE=>
 al (λ(_:Unit)=>
 (E (-1))) λa8=>
 (f6_l1 t0 h E a8 (Int.toNat ((h.length:Int) - 0)+1) 0))) λa'=>
 (a' ()))
def f8_l1(t0:bD)(a:Int)(d:lI->Option (Int×Int)):Nat->Int->lI->Option (Int×Int)
 |0,_,_=>none
 |n+1,c,e=>
 (bif (decide (c<(t0.insns.length:Int))) then al (λ(j:lI)=>
 (f8_l1 t0 a d n (i64.wrap (c+1)) j)) λf=>
 (idx t0.insns c).bind λg=>
 (bif (decide (g.op=55)) then((idx t0.insns a).bind λk=>some (decide (g.n=k.n))) else some false).bind λm=>
 (bif m then au (aO 8 e [c])<|
 (f (e++ [c])) else(f e)) else(d e))
noncomputable def f8(t0:bD)(c1:Nat->Int)(a:Int):Option (Int×Int):=
 (f11 t0).bind λo=>
 (bif (((!o)||(decide (a<0)))||(decide (a>=(t0.insns.length:Int)))) then some true else((idx t0.insns a).bind λp=>some (!decide (p.op=53)))).bind λr=>
 (bif r then some (0,2) else al (λ(t:lI)=>
 (f6 t0 c1 a t).bind λh=>
 some (h.1,h.2)) λd=>
 (f8_l1 t0 a d (Int.toNat ((t0.insns.length:Int) - 0)+1) 0 []))
def f5(l:lN):Option bD:=
 some (bD.mk l [] [] [] [] [] [] 4 [(bp.mk 0 0 [] 0)] [(bq.mk 0 [])] [])
noncomputable def f9(t0:bD)(f:Int)(g:lI):oB:=
 (f6 t0 f7 0 g).bind λd=>
 some ((decide (d.1=f))&&(decide (d.2=0)))
noncomputable def f4:oB:=
 (f5 [(aM.mk 1 0 0 0 0 0 0),(aM.mk 27 0 0 0 0 0 0),(aM.mk 31 0 0 0 0 0 1),(aM.mk 57 0 0 0 0 0 0)]).bind λa=>
 (f6 a f7 0 []).bind λh=>
 (f5 [(aM.mk 29 0 0 0 0 0 0)]).bind λc=>
 (f5 [(aM.mk 53 0 0 0 0 0 0),(aM.mk 1 0 0 0 0 0 0),(aM.mk 55 0 0 0 0 0 0),(aM.mk 57 0 0 0 0 0 0)]).bind λj=>
 (f8 j f7 0).bind λe=>
 (f8 (bD.mk a.insns a.handlers [(Loop.mk 1 2 3)] a.selects a.lists a.objs a.inits a.excs a.tasks a.prots a.checks) f7 0).bind λk=>
 (f6 (bD.mk a.insns a.handlers [(Loop.mk 1 2 3)] a.selects a.lists a.objs a.inits a.excs a.tasks a.prots a.checks) f7 4 []).bind λm=>
 (f9 (bD.mk a.insns a.handlers [(Loop.mk 1 2 3)] a.selects a.lists a.objs a.inits a.excs a.tasks a.prots a.checks) 19 []).bind λo=>
 (bif (o&&(decide (h.2=380))) then (f5 [(aM.mk 1 0 0 0 0 0 0),(aM.mk 1 0 0 0 0 0 0),(aM.mk 57 0 0 0 0 0 0)]).bind λp=>
 (f9 p 2 [1]).bind λr=>
 (bif r then (f5 [(aM.mk 1 0 0 0 0 0 0),(aM.mk 57 0 0 0 0 0 0)]).bind λt=>
 (f9 t 11 []).bind λw=>
 (bif w then (f5 [(aM.mk 1 0 0 0 0 0 0),(aM.mk 30 0 0 0 0 0 3),(aM.mk 11 0 0 0 0 0 0),(aM.mk 57 0 0 0 0 0 0)]).bind λx=>
 (f9 x 15 []).bind λy=>
 (bif y then((f9 (bD.mk c.insns c.handlers [(Loop.mk 0 0 5)] c.selects c.lists c.objs c.inits c.excs c.tasks c.prots c.checks) 6 []).bind λA=>some A) else some false).bind λB=>
 some ((((B&&(decide (e.1=21)))&&(decide (e.2=0)))&&(decide (k.2=2)))&&(decide (m.2=2))) else some false) else some false) else some false)
def f3_l2(l0:List cK)(c:Int)(d:lN->oB):Nat->Int->lN->oB
 |0,_,_=>none
 |na+1,e,a=>
 (idx l0 c).bind λf=>
 (bif (decide (e<(i64.wrap (IntKind.u8.wrap (BitVec.ofInt IntKind.u8.bits f.bef&&&BitVec.ofInt IntKind.u8.bits 7).toNat)))) then au (aO 56 a [(aM.mk 2 0 0 0 0 0 0)])<|
 (f3_l2 l0 c d na (i64.wrap (e+1)) (a++ [(aM.mk 2 0 0 0 0 0 0)])) else(d a))
def f3_l1(l0:List cK)(f:lI->lN->oB):Nat->Int->lI->lN->oB
 |0,_,_,_=>none
 |n+1,a,d,c=>
 (bif (decide (a<(l0.length:Int))) then al (λ(h:lN)=>
 (f3_l1 l0 f n (i64.wrap (a+1)) (d++ [(c.length:Int)]) h)) λg=>
 au (aO 8 d [(c.length:Int)])<|
 al (λ(e:lN)=>
 (bif (decide ((i64.wrap (a+1))<(l0.length:Int))) then au (aO 56 e [(aM.mk 2 0 0 0 0 0 0)])<|
 (g (e++ [(aM.mk 2 0 0 0 0 0 0)])) else(g e))) λj=>
 (f3_l2 l0 a j 9223372036854775808 0 c) else(f d c))
def f3_l4(l0:List cK)(c:Int)(d:lN->oB):Nat->Int->lN->oB
 |0,_,_=>none
 |na+1,e,a=>
 (idx l0 c).bind λf=>
 (bif (decide (e<(i64.wrap (IntKind.u8.wrap (BitVec.ofInt IntKind.u8.bits f.aft&&&BitVec.ofInt IntKind.u8.bits 7).toNat)))) then au (aO 56 a [(aM.mk 2 0 0 0 0 0 0)])<|
 (f3_l4 l0 c d na (i64.wrap (e+1)) (a++ [(aM.mk 2 0 0 0 0 0 0)])) else(d a))
def f3_l3(l0:List cK)(c:lI)(d:Int->lN->lP->oB):Nat->Int->Int->lN->lP->oB
 |0,_,_,_,_=>none
 |n+1,f,a,j,g=>
 (bif (decide (a>=0)) then al (λ(y:Int)(A:lN)(B:lP)=>
 (f3_l3 l0 c d n y (i64.wrap (a - 1)) A B)) λC=>
 al (λ(e:lN)=>
 (idx c a).bind λk=>
 (idx l0 a).bind λm=>
 au (aO 24 g [(Loop.mk k (e.length:Int) (i64.wrap m.bnd))])<|
 (idx c a).bind λo=>
 au (aO 56 e [(aM.mk 31 0 0 0 0 0 o)])<|
 (idx l0 a).bind λp=>
 (idx l0 a).bind λr=>
 al (λ(E:Int)=>
 (idx l0 a).bind λF=>
 (C (i64.wrap ((i64.wrap ((i64.wrap F.bnd)+1))*E)) (e++ [(aM.mk 31 0 0 0 0 0 o)]) (g++ [(Loop.mk k (e.length:Int) (i64.wrap m.bnd))]))) λt=>
 (bif (decide ((i64.wrap (a+1))<(l0.length:Int))) then(t (i64.wrap ((i64.wrap ((i64.wrap ((i64.wrap ((i64.wrap (IntKind.u8.wrap (BitVec.ofInt IntKind.u8.bits p.bef&&&BitVec.ofInt IntKind.u8.bits 7).toNat))+(i64.wrap (IntKind.u8.wrap (BitVec.ofInt IntKind.u8.bits r.aft&&&BitVec.ofInt IntKind.u8.bits 7).toNat))))+1))+f))+1))) else(t (i64.wrap ((i64.wrap ((i64.wrap ((i64.wrap (IntKind.u8.wrap (BitVec.ofInt IntKind.u8.bits p.bef&&&BitVec.ofInt IntKind.u8.bits 7).toNat))+(i64.wrap (IntKind.u8.wrap (BitVec.ofInt IntKind.u8.bits r.aft&&&BitVec.ofInt IntKind.u8.bits 7).toNat))))+1))+f))))) λG=>
 (f3_l4 l0 a G 9223372036854775808 0 j) else(d f j g))
noncomputable def f3(l0:List cK):oB:=
 (bif (decide ((l0.length:Int)>5)) then (f4).bind λH=>
 some H else al (λ(_:Unit)=>
 al (λ(c:lI)(I:lN)=>
 al (λ(w:Int)(x:lN)(J:lP)=>
 au (aO 56 x [(aM.mk 57 0 0 0 0 0 0)])<|
 (f6 (bD.mk (x++ [(aM.mk 57 0 0 0 0 0 0)]) [] J [] [] [] [] 4 [(bp.mk 0 0 [] 0)] [(bq.mk 0 [])] []) f7 0 []).bind λh=>
 (bif (decide ((i64.wrap (w+10))>9007199254740992)) then (bif (decide (h.2=3)) then((f4).bind λK=>some K) else some false).bind λL=>
 some L else (bif ((decide (h.2=0))&&(decide (h.1=(i64.wrap (w+10))))) then((f4).bind λM=>some M) else some false).bind λN=>
 some N)) λd=>
 (f3_l3 l0 c d (Int.toNat ((i64.wrap ((l0.length:Int) - 1))+1)+1) 0 (i64.wrap ((l0.length:Int) - 1)) I [])) λO=>
 (f3_l1 l0 O 9223372036854775808 0 [] [])) λP=>
 (P ()))
abbrev sN:AV:= .d (.v (.slice none 0 0))
abbrev _root_.Go.Sk.AO.z:AO:= .dead
abbrev lA(is:lN)(lp:lP):lV:=[.l E40 is, .l gK [], .l E44 lp, .l iS [], .l E37 [], .l iT [], .l lR [], .n 4, .l E56 [(bp.mk 0 0 [] 0)], .l E59 [(bq.mk 0 [])], .l lQ []]
abbrev lF(is:lN)(lp:lP):AO:= .os 23 1 0 [[.fn (.func 20) [.ag (lA is lp)] []],[.fn (.func 21) [.ag (lA is lp)] []],[.fn (.func 22) [.ag (lA is lp)] []],[.fn (.func 23) [.ag (lA is lp)] []],[.fn (.func 24) [.ag (lA is lp)] []],[.fn (.func 25) [.ag (lA is lp)] []],[.fn (.func 26) [.ag (lA is lp)] []],[.fn (.func 27) [.ag (lA is lp)] []]]
abbrev kI(x:Int):Value:=Value.int .i64 x
abbrev kP(x:Int×Int):Value:=Value.agg ⟨[Value.int .i64 x.1,Value.int .i64 x.2]⟩
abbrev aL(x:lI):AV:=AV.d (.sl (List.map E3 x))
abbrev aI(x:Int):AV:=AV.d (D.i .i64 x)
abbrev aE(x:List aT):AV:=AV.d (.sl (List.map jA x))
abbrev aB(x:Bool):AV:=AV.d (.b x)
abbrev dL(x:lI):D:= .sl (List.map E3 x)
abbrev dE(x:List aT):D:= .sl (List.map jA x)
abbrev dI(x:Int):D:= .i .i64 x
abbrev dB(x:Bool):D:= .b x
abbrev aU(_:Unit):AV:=AV.u
abbrev mL(l:List (Int×lI)):AO:=mpO kI aL l
abbrev mI(l:List (Int×Int)):AO:=mpO kI aI l
abbrev mE(l:List (Int×List aT)):AO:=mpO kI aE l
abbrev mB(l:List (Int×Bool)):AO:=mpO kI aB l
abbrev mPI(l:List ((Int×Int)×Int)):AO:=mpO kP aI l
abbrev mPB(l:List ((Int×Int)×Bool)):AO:=mpO kP aB l
abbrev mU(l:List (Int×Unit)):AO:=mpO kI aU l
theorem Sc{P:Program}{e:En}{c:Code}{K:Ko}{env:Env}{st st':lW}(h:so st=some st')(k:WC P e c K env st'):WC P e c K env st:=m5 h▸k
abbrev nR(nat:lI)(nb:List aj)(nc no:lI):lV:=[.l E3 nat, .l E89 nb, .l E2 nc, .mp 1, .mp 2, .l E3 no, .mp 3]
end Go.Proofs.YtoigciljcejeaaaGreatDoor
