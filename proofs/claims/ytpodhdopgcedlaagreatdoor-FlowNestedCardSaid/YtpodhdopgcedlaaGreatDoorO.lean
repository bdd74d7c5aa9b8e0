/- Part of the proof. -/
import Derived.Test.YtpodhdopgcedlaaGreatDoorE
set_option linter.unusedVariables false
set_option linter.unusedSimpArgs false
set_option linter.unusedSectionVars false
set_option linter.unnecessarySimpa false
namespace Go.Proofs.YtpodhdopgcedlaaGreatDoor
open Go Go.Sk
structure Pr2 where
 e0:Int
 e1:Int
structure ab where
 from_:Int
 to:Int
 next:List Int
structure Field where
 name:Int
 lo:Int
 hi:Int
structure Row where
 op:Int
 name:ByteArray
 fields:List Field
structure eR where
 op:Int
 d:Int
 a:Int
 b:Int
 n:Int
 m:Int
 to:Int
structure dx where
 from_:Int
 to:Int
 at_:Int
 clean:Bool
structure Loop where
 head:Int
 back:Int
 bound:Int
structure rq where
 kind:Int
 entry:Int
 guard:Int
 time:Int
 at_:Int
structure jn where
 alts:List rq
 obj:Int
 else_:Int
structure Obj where
 size:Int
 lo:Int
 hi:Int
 ptr:Bool
 set_:List Int
structure tI where
 o:Int
 slot:Int
 v:Int
structure dc where
 ins:List Int
 outs:List Int
structure ou where
 prio:Int
 at_:Int
 entries:List dc
 deadline:Int
structure bN where
 kind:Int
 op:Int
 n:Int
 o:Int
 off:Int
 len:Int
 lo:Int
 hi:Int
 l:List bN
structure lR where
 ceiling:Int
 barriers:List bN
structure oC where
 at_:Int
 kind:Int
structure oe where
 insns:List eR
 handlers:List dx
 loops:List Loop
 selects:List jn
 lists:List (List Int)
 objs:List Obj
 inits:List tI
 excs:Int
 tasks:List ou
 prots:List lR
 checks:List oC
structure aM where
 text:oe
structure Judge where
 gR:aM
 entries:Int
 left:Int
structure Spot where
 o:Int
 slot:Int
structure jo where
 name:ByteArray
 fields:ByteArray
abbrev R64(x:eR):List D:=[.i .u8 x.op, .i .i64 x.d, .i .i64 x.a, .i .i64 x.b, .i .i64 x.n, .i .i64 x.m, .i .i64 x.to]
abbrev E64(x:eR):List D:=R64 x
theorem jr(x:eR):E64 x=R64 x:=rfl
abbrev xe(x:dx):List D:=[.i .i64 x.from_, .i .i64 x.to, .i .i64 x.at_, .b x.clean]
abbrev cy(x:dx):List D:=xe x
theorem qD(x:dx):cy x=xe x:=rfl
abbrev R142(x:Loop):List D:=[.i .i64 x.head, .i .i64 x.back, .i .i64 x.bound]
abbrev dy(x:Loop):List D:=R142 x
theorem vm(x:Loop):dy x=R142 x:=rfl
abbrev tE(x:rq):List D:=[.i .u8 x.kind, .i .i64 x.entry, .i .i64 x.guard, .i .i64 x.time, .i .i64 x.at_]
abbrev jt(x:rq):List D:=tE x
theorem vq(x:rq):jt x=tE x:=rfl
abbrev R101(x:jn):List D:=[.sl (List.map jt x.alts), .i .i64 x.obj, .i .i64 x.else_]
abbrev dl(x:jn):List D:=R101 x
theorem vr(x:jn):dl x=R101 x:=rfl
abbrev E3(x:Int):List D:=[.i .i64 x]
theorem aS(x:Int):E3 x=[.i .i64 x]:=rfl
abbrev E43(x:List Int):List D:=[.sl (List.map E3 x)]
theorem kP(x:List Int):E43 x=[.sl (List.map E3 x)]:=rfl
abbrev ro(x:Obj):List D:=[.i .i64 x.size, .i .i64 x.lo, .i .i64 x.hi, .b x.ptr, .sl (List.map E3 x.set_)]
abbrev cQ(x:Obj):List D:=ro x
theorem fc(x:Obj):cQ x=ro x:=rfl
abbrev R121(x:tI):List D:=[.i .i64 x.o, .i .i64 x.slot, .i .i64 x.v]
abbrev dG(x:tI):List D:=R121 x
theorem vp(x:tI):dG x=R121 x:=rfl
abbrev tD(x:dc):List D:=[.sl (List.map E3 x.ins), .sl (List.map E3 x.outs)]
abbrev oA(x:dc):List D:=tD x
theorem qG(x:dc):oA x=tD x:=rfl
abbrev R67(x:ou):List D:=[.i .i64 x.prio, .i .i64 x.at_, .sl (List.map oA x.entries), .i .i64 x.deadline]
abbrev E67(x:ou):List D:=R67 x
theorem pr(x:ou):E67 x=R67 x:=rfl
abbrev lI:=List Int
abbrev lL:=List (List Int)
abbrev lN:=List eR
abbrev lH:=List dx
abbrev lO:=List Obj
abbrev lD:=List D
abbrev lV:=List AV
abbrev lW:=List AO
abbrev oB:=Option Bool
abbrev lP:=List Loop
abbrev lS:=List jn
abbrev lT:=List tI
abbrev lK:=List ou
abbrev lM:=List lR
abbrev lC:=List oC
abbrev fD:=Field.mk
abbrev bA:=ByteArray.mk

mutual
def dP:bN→lD
 | .mk kind op n o off len lo hi l=> [.i .u8 kind, .i .u8 op, .i .i64 n, .i .i64 o, .i .i64 off, .i .i64 len, .i .i64 lo, .i .i64 hi, .sl (E134s l)]
def E134s:List bN→List lD
 |[]=> []
 |e::l=>dP e::E134s l
end
abbrev pm(x:bN):lD:=[.i .u8 x.kind, .i .u8 x.op, .i .i64 x.n, .i .i64 x.o, .i .i64 x.off, .i .i64 x.len, .i .i64 x.lo, .i .i64 x.hi, .sl (List.map dP x.l)]
theorem oz:∀l,E134s l=List.map dP l
 |[]=>rfl
 |e::l=>by rw[E134s,oz l];rfl
theorem qE(x:bN):dP x=pm x:=by
 cases x;simp only[dP,oz]
abbrev R129(x:lR):lD:=[.i .i64 x.ceiling, .sl (List.map dP x.barriers)]
abbrev cK(x:lR):lD:=R129 x
theorem qF(x:lR):cK x=R129 x:=rfl
abbrev R137(x:oC):lD:=[.i .i64 x.at_, .i .u8 x.kind]
abbrev dF(x:oC):lD:=R137 x
theorem vn(x:oC):dF x=R137 x:=rfl
abbrev R33(x:oe):lD:=[.sl (List.map E64 x.insns), .sl (List.map cy x.handlers), .sl (List.map dy x.loops), .sl (List.map dl x.selects), .sl (List.map E43 x.lists), .sl (List.map cQ x.objs), .sl (List.map dG x.inits), .i .i64 x.excs, .sl (List.map E67 x.tasks), .sl (List.map cK x.prots), .sl (List.map dF x.checks)]
abbrev R50(x:Pr2):lD:=[.i .i64 x.e0, .i .i64 x.e1]
abbrev E50(x:Pr2):lD:=R50 x
theorem kO(x:Pr2):E50 x=R50 x:=rfl
abbrev R55(x:ab):lD:=[.i .i64 x.from_, .i .i64 x.to, .sl (List.map E3 x.next)]
abbrev E55(x:ab):lD:=R55 x
theorem hY(x:ab):E55 x=R55 x:=rfl
abbrev R90(x:aM):lD:=[.sl (List.map E64 x.text.insns), .sl (List.map cy x.text.handlers), .sl (List.map dy x.text.loops), .sl (List.map dl x.text.selects), .sl (List.map E43 x.text.lists), .sl (List.map cQ x.text.objs), .sl (List.map dG x.text.inits), .i .i64 x.text.excs, .sl (List.map E67 x.text.tasks), .sl (List.map cK x.text.prots), .sl (List.map dF x.text.checks)]
abbrev xd(x:jo):lD:=[.s x.name, .s x.fields]
abbrev E4(x:Bool):lD:=[.b x]
abbrev E36(x:List ab):lD:=[.sl (List.map E55 x)]
abbrev E5(x:Int):lD:=[.i .u8 x]
theorem vL(x:Int):E5 x=[.i .u8 x]:=rfl
abbrev E2(x:Int):lD:=[.i .i64 x]
abbrev E9(x:ByteArray):lD:=[.s x]
theorem vK(x:ByteArray):E9 x=[.s x]:=rfl
def iy:List jo:=mh.map λp=>⟨p.1,p.2⟩
theorem mx:gpc 0=some (iy.flatMap xd):=by
 unfold iy
 rw[List.flatMap_map]
 rfl
def f131(x0:Int)(y1:Int):Int×Int:=
 ((IntKind.u64.wrap ((IntKind.u64.wrap ((IntKind.u64.wrap ((Int.fdiv x0 (2^min (Int.toNat 32) IntKind.u64.bits))*(Int.fdiv y1 (2^min (Int.toNat 32) IntKind.u64.bits))))+(Int.fdiv (IntKind.u64.wrap ((IntKind.u64.wrap ((Int.fdiv x0 (2^min (Int.toNat 32) IntKind.u64.bits))*(IntKind.u64.wrap (BitVec.ofInt IntKind.u64.bits y1&&&BitVec.ofInt IntKind.u64.bits 4294967295).toNat)))+(Int.fdiv (IntKind.u64.wrap ((IntKind.u64.wrap (BitVec.ofInt IntKind.u64.bits x0&&&BitVec.ofInt IntKind.u64.bits 4294967295).toNat)*(IntKind.u64.wrap (BitVec.ofInt IntKind.u64.bits y1&&&BitVec.ofInt IntKind.u64.bits 4294967295).toNat))) (2^min (Int.toNat 32) IntKind.u64.bits)))) (2^min (Int.toNat 32) IntKind.u64.bits))))+(Int.fdiv (IntKind.u64.wrap ((IntKind.u64.wrap (BitVec.ofInt IntKind.u64.bits (IntKind.u64.wrap ((IntKind.u64.wrap ((Int.fdiv x0 (2^min (Int.toNat 32) IntKind.u64.bits))*(IntKind.u64.wrap (BitVec.ofInt IntKind.u64.bits y1&&&BitVec.ofInt IntKind.u64.bits 4294967295).toNat)))+(Int.fdiv (IntKind.u64.wrap ((IntKind.u64.wrap (BitVec.ofInt IntKind.u64.bits x0&&&BitVec.ofInt IntKind.u64.bits 4294967295).toNat)*(IntKind.u64.wrap (BitVec.ofInt IntKind.u64.bits y1&&&BitVec.ofInt IntKind.u64.bits 4294967295).toNat))) (2^min (Int.toNat 32) IntKind.u64.bits))))&&&BitVec.ofInt IntKind.u64.bits 4294967295).toNat)+(IntKind.u64.wrap ((IntKind.u64.wrap (BitVec.ofInt IntKind.u64.bits x0&&&BitVec.ofInt IntKind.u64.bits 4294967295).toNat)*(Int.fdiv y1 (2^min (Int.toNat 32) IntKind.u64.bits)))))) (2^min (Int.toNat 32) IntKind.u64.bits)))),(IntKind.u64.wrap (x0*y1)))
def f82(x0:Int)(y1:Int):Int×Int:=
 ((f131 x0 y1).1,(f131 x0 y1).2)
def f81s_l1(h:(List ab)→(List Bool)→lI→lI→Int→Option ((List ab)×(List Bool)×lI×lI))(j:(List Bool)→lI→lI→(List ab)→Option ((List ab)×(List Bool)×lI×lI))(d:ab):Nat→Int→(List Bool)→lI→lI→(List ab)→Option ((List ab)×(List Bool)×lI×lI)
 |0,_,_,_,_,_=>none
 |n+1,e,a,f,g,c10v67=>
 (bif (decide (e<(List.length d.next:Int))) then ai (λ(o:List Bool)(p:lI)(t:lI)(c10v82:List ab)=>
 (f81s_l1 h j d n (IntKind.i64.wrap (e+1)) o p t c10v82)) λk=>
 Option.bind (idx d.next e) λm=>
 Option.bind (idx a m) λw=>
 (bif (!w) then Option.bind (h c10v67 a f g m) λc=>
 (k c.2.1 c.2.2.1 c.2.2.2 c.1) else(k a f g c10v67)) else(j a f g c10v67))
def f81s(e:(List ab)→(List Bool)→lI→lI→Int→Option ((List ab)×(List Bool)×lI×lI))(bb:List ab)(seen:List Bool)(l:lI)(pl:lI)(n0:Int):Option ((List ab)×(List Bool)×lI×lI):=
 Option.bind (idx seen n0) λh=>
 ai (λ(f:List Bool)(a:lI)(c:lI)(c10v49:List ab)=>
 Option.bind (idx c n0) λj=>
 aR (cw 8 a [n0])<|
 some (c10v49,f,(a++ [n0]),(List.set c (Int.toNat n0) (List.length a:Int)))) λg=>
 Option.bind (idx bb n0) λd=>
 (f81s_l1 e g d (Int.toNat ((List.length d.next:Int) - 0)+1) 0 (List.set seen (Int.toNat n0) true) l pl bb)
def f81:Nat→(List ab)→(List Bool)→lI→lI→Int→Option ((List ab)×(List Bool)×lI×lI)
 |0=>λ_ _ _ _ _=>none
 |n+1=>f81s (f81 n)
def f46o_l1(d:lI→Option lI):Nat→Int→lI→Option lI
 |0,_,_=>none
 |n+1,c,a=>
 (bif (decide (c<(List.length a:Int))) then aR (co a c (List.length a:Int))<|
 aR (co a 0 c)<|
 aR (gk a (Int.toNat 0) (Int.toNat c - Int.toNat 0))<|
 aR (gk a (Int.toNat c) (Int.toNat (List.length a:Int) - Int.toNat c))<|
 (f46o_l1 d n (IntKind.i64.wrap (c+((Nat.min (List.length (List.take (Int.toNat c - Int.toNat 0) (List.drop (Int.toNat 0) a))) (Int.toNat (List.length a:Int) - Int.toNat c):Nat):Int))) (lA a (Int.toNat c) (Int.toNat (List.length a:Int) - Int.toNat c) (List.take (Int.toNat c - Int.toNat 0) (List.drop (Int.toNat 0) a)))) else(d a))
def f46o(x0:lI)(a:Int):Option lI:=
 (bif (decide (a<0)) then none else(bif ((decide (((f82 (IntKind.u64.wrap (List.length x0:Int)) (IntKind.u64.wrap a)).1)>0))||(decide (((f82 (IntKind.u64.wrap (List.length x0:Int)) (IntKind.u64.wrap a)).2)>9223372036854775807))) then none else aR (kj 8 (IntKind.i64.wrap ((f82 (IntKind.u64.wrap (List.length x0:Int)) (IntKind.u64.wrap a)).2)))<|
 ai (λ(c:lI)=>
 some c) λd=>
 (f46o_l1 d 9223372036854775808 ((Nat.min (List.length x0) (List.length (List.replicate (Int.toNat (IntKind.i64.wrap ((f82 (IntKind.u64.wrap (List.length x0:Int)) (IntKind.u64.wrap a)).2))) (0:Int))):Nat):Int) (lA (List.replicate (Int.toNat (IntKind.i64.wrap ((f82 (IntKind.u64.wrap (List.length x0:Int)) (IntKind.u64.wrap a)).2))) (0:Int)) 0 (List.length (List.replicate (Int.toNat (IntKind.i64.wrap ((f82 (IntKind.u64.wrap (List.length x0:Int)) (IntKind.u64.wrap a)).2))) (0:Int))) x0))))
def f45(b0:List ab):Option (lI×lI):=
 Option.bind (f46o [(-1)] (List.length b0:Int)) λc=>
 aR (kj 1 (List.length b0:Int))<|
 ai (λ(e:lI)(g:List Bool)(f:lI)(c00v37:List ab)=>
 some (f,e)) λd=>
 (bif (decide ((List.length b0:Int)>0)) then Option.bind (f81 100 b0 (List.replicate (Int.toNat (List.length b0:Int)) (false:Bool)) [] c 0) λa=>
 (d a.2.2.2 a.2.1 a.2.2.1 a.1) else(d c (List.replicate (Int.toNat (List.length b0:Int)) (false:Bool)) [] b0))
def f34(l:lI):Option lI:=aR (decide (l.length<4611686018427387904)) (some (l.mergeSort λx y=>decide (x≤y)))
def f41(l:lI):Option lI:=some (Lib.compact l)
def f40o(s0:lI):Option lI:=aR (cw 8 [] s0) (some s0)
def f80(n0:Int)(a:List ab):Bool:=
 ((decide (n0<0))||(decide (n0≥(List.length a:Int))))
def f129_l1(s0:lI)(c:Int→oB)(d:Unit→Option (Int)):Nat→Int→Option (Int)
 |0,_=>none
 |n+1,a=>
 (bif (decide (a<(List.length s0:Int))) then Option.bind (idx s0 a) λe=>
 Option.bind (c e) λf=>
 (bif f then some a else(f129_l1 s0 c d n (IntKind.i64.wrap (a+1)))) else(d ()))
def f129(s0:lI)(a:Int→oB):Option Int:=
 ai (λ(_:Unit)=>
 some (-1)) λc=>
 (f129_l1 s0 a c (Int.toNat ((List.length s0:Int) - 0)+1) 0)
def f79(s0:lI)(a:Int→oB):oB:=
 Option.bind (f129 s0 a) λc=>
 some (decide (c≥0))
def f78(x0:ab)(a:List ab):oB:=
 Option.bind (f79 x0.next (λz0=>some (f80 z0 a))) λc=>
 some c
def f128_l1(s0:List ab)(c:ab→oB)(d:Unit→Option (Int)):Nat→Int→Option (Int)
 |0,_=>none
 |n+1,a=>
 (bif (decide (a<(List.length s0:Int))) then Option.bind (idx s0 a) λe=>
 Option.bind (c e) λf=>
 (bif f then some a else(f128_l1 s0 c d n (IntKind.i64.wrap (a+1)))) else(d ()))
def f128(s0:List ab)(a:ab→oB):Option Int:=
 ai (λ(_:Unit)=>
 some (-1)) λc=>
 (f128_l1 s0 a c (Int.toNat ((List.length s0:Int) - 0)+1) 0)
def f77(s0:List ab)(a:ab→oB):oB:=
 Option.bind (f128 s0 a) λc=>
 some (decide (c≥0))
def f44(b0:List ab):oB:=
 Option.bind (f77 b0 λz0=>f78 z0 b0) λr9=>
 some (!r9)
def f42_l1(c:lI)(d1:Int)(d:Int→oB):Nat→Int→oB
 |0,_=>none
 |n+1,a=>
 (bif ((decide (a≥0))&&(!decide (a=d1))) then Option.bind (idx c a) λe=>
 (f42_l1 c d1 d n e) else(d a))
def f42(a:lI)(d1:Int)(n2:Int):oB:=
 ai (λ(c:Int)=>
 some (decide (c=d1))) λd=>
 (f42_l1 a d1 d 9223372036854775808 n2)
def f19_l2(f:lL→Option lI)(a:Int)(c:ab):Nat→Int→lL→Option lI
 |0,_,_=>none
 |na+1,d,e=>
 (bif (decide (d<(List.length c.next:Int))) then Option.bind (idx c.next d) λg=>
 Option.bind (idx e g) λh=>
 aR (cw 8 h [a])<|
 (f19_l2 f a c na (IntKind.i64.wrap (d+1)) (List.set e (Int.toNat g) (h++ [a]))) else(f e))
def f19_l1(b0:List ab)(a:lI×lI)(d:lL→Option lI):Nat→Int→lL→Option lI
 |0,_,_=>none
 |n+1,c,e=>
 (bif (decide (c<(List.length a.1:Int))) then ai (λ(h:lL)=>
 (f19_l1 b0 a d n (IntKind.i64.wrap (c+1)) h)) λj=>
 Option.bind (idx a.1 c) λf=>
 Option.bind (idx b0 f) λg=>
 (f19_l2 j f g (Int.toNat ((List.length g.next:Int) - 0)+1) 0 e) else(d e))
def f19_l6(c:lI×lI)(d:lI)(f:Int→Option lI):Nat→Int→Int→Option lI
 |0,_,_=>none
 |nc+1,a,e=>
 (bif (!decide (a=e)) then Option.bind (idx c.2 a) λg=>
 Option.bind (idx c.2 e) λh=>
 (bif (decide (g<h)) then Option.bind (idx d a) λj=>
 (f19_l6 c d f nc j e) else Option.bind (idx d e) λk=>
 (f19_l6 c d f nc a k)) else(f a))
def f19_l5(h:lI×lI)(c:lI)(j:Int)(k:Int→Option lI)(d:lI):Nat→Int→Int→Option lI
 |0,_,_=>none
 |nb+1,a,e=>
 (bif (decide (e<(List.length d:Int))) then ai (λ(m:Int)=>
 (f19_l5 h c j k d nb m (IntKind.i64.wrap (e+1)))) λf=>
 Option.bind (idx d e) λg=>
 Option.bind (bif (decide (j=0)) then some true else(Option.bind (idx c g) λo=>some (decide (o<0)))) λp=>
 (bif p then(f a) else(bif (decide (a<0)) then(f g) else ai (λ(t:Int)=>
 (f t)) λw=>
 ai (λ(x:Int)=>
 (w x)) λy=>
 (f19_l6 h c y 9223372036854775808 a g))) else(k a))
def f19_l4(d:lI×lI)(f:lL)(g:lI→Bool→Option lI):Nat→Int→lI→Bool→Option lI
 |0,_,_,_=>none
 |na+1,e,a,c80v180=>
 (bif (decide (e≥0)) then Option.bind (idx d.1 e) λc=>
 ai (λ(m:lI)(c80v187:Bool)=>
 (f19_l4 d f g na (IntKind.i64.wrap (e - 1)) m c80v187)) λh=>
 ai (λ(j:Int)=>
 Option.bind (bif (!decide (c=0)) then(Option.bind (idx a c) λo=>some (!decide (o=j))) else some false) λp=>
 (bif p then Option.bind (idx a c) λw=>
 (h (List.set a (Int.toNat c) j) true) else(h a c80v180))) λt=>
 Option.bind (idx f c) λk=>
 (f19_l5 d a c t k (Int.toNat ((List.length k:Int) - 0)+1) (-1) 0) else(g a c80v180))
def f19_l3(a:lI×lI)(c:lL)(d:lI→Bool→Option lI):Nat→lI→Bool→Option lI
 |0,_,_=>none
 |n+1,e,c80v163=>
 (bif c80v163 then ai (λ(f:lI)(c80v167:Bool)=>
 (f19_l3 a c d n f c80v167)) λg=>
 ai (λ(_:Unit)=>
 ai (λ(h:lI)(c80v173:Bool)=>
 (g h c80v173)) λj=>
 (f19_l4 a c j (Int.toNat ((IntKind.i64.wrap ((List.length a.1:Int) - 1))+1)+1) (IntKind.i64.wrap ((List.length a.1:Int) - 1)) e false)) λk=>
 (k ()) else(d e c80v163))
def f19(b0:List ab):Option lI:=
 Option.bind (f44 b0) λe=>
 (bif ((!e)||(decide ((List.length b0:Int)=0))) then some [] else Option.bind (f45 b0) λa=>
 aR (kj 24 (List.length b0:Int))<|
 ai (λ(f:lL)=>
 Option.bind (f46o [(-1)] (List.length b0:Int)) λc=>
 Option.bind (idx c 0) λj=>
 ai (λ(d:lI)(c80v158:Bool)=>
 Option.bind (idx d 0) λk=>
 some (List.set d (Int.toNat 0) (-1))) λg=>
 (f19_l3 a f g 9223372036854775808 (List.set c (Int.toNat 0) 0) true)) λh=>
 (f19_l1 b0 a h (Int.toNat ((List.length a.1:Int) - 0)+1) 0 (List.replicate (Int.toNat (List.length b0:Int)) ([]:lI))))
def f17_l2(d:lI)(a:Int)(h:(List Pr2)→Option (List Pr2))(e:lI):Nat→Int→(List Pr2)→Option (List Pr2)
 |0,_,_=>none
 |na+1,f,c=>
 (bif (decide (f<(List.length e:Int))) then ai (λ(k:List Pr2)=>
 (f17_l2 d a h e na (IntKind.i64.wrap (f+1)) k)) λj=>
 Option.bind (idx e f) λg=>
 Option.bind (bif (decide (a=0)) then some true else(Option.bind (idx d a) λm=>some (decide (m≥0)))) λo=>
 Option.bind (bif o then(Option.bind (f42 d g a) λp=>some p) else some false) λt=>
 (bif t then aR (cw 16 c [(Pr2.mk a g)])<|
 (j (c++ [(Pr2.mk a g)])) else(j c)) else(h c))
def f17_l1(b0:List ab)(c:lI)(d:(List Pr2)→Option (List Pr2)):Nat→Int→(List Pr2)→Option (List Pr2)
 |0,_,_=>none
 |n+1,a,e=>
 (bif (decide (a<(List.length c:Int))) then ai (λ(g:List Pr2)=>
 (f17_l1 b0 c d n (IntKind.i64.wrap (a+1)) g)) λh=>
 Option.bind (idx b0 a) λj=>
 Option.bind (f40o j.next) λk=>
 Option.bind (f34 k) λm=>
 Option.bind (f41 m) λf=>
 (f17_l2 c a h f (Int.toNat ((List.length f:Int) - 0)+1) 0 e) else(d e))
def f17(b0:List ab):Option (List Pr2):=
 Option.bind (f19 b0) λa=>
 ai (λ(c:List Pr2)=>
 some c) λd=>
 (f17_l1 b0 a d (Int.toNat ((List.length a:Int) - 0)+1) 0 [])
def f21_l2(f:lI)(a:Int)(g:lL→Option lI)(d:ab):Nat→Int→lL→Option lI
 |0,_,_=>none
 |na+1,e,c=>
 (bif (decide (e<(List.length d.next:Int))) then ai (λ(m:lL)=>
 (f21_l2 f a g d na (IntKind.i64.wrap (e+1)) m)) λh=>
 Option.bind (idx d.next e) λj=>
 Option.bind (bif (decide (a=0)) then some true else(Option.bind (idx f a) λo=>some (decide (o≥0)))) λp=>
 (bif p then Option.bind (idx c j) λk=>
 aR (cw 8 k [a])<|
 (h (List.set c (Int.toNat j) (k++ [a]))) else(h c)) else(g c))
def f21_l1(b0:List ab)(c:lI)(d:lL→Option lI):Nat→Int→lL→Option lI
 |0,_,_=>none
 |n+1,a,e=>
 (bif (decide (a<(List.length c:Int))) then ai (λ(g:lL)=>
 (f21_l1 b0 c d n (IntKind.i64.wrap (a+1)) g)) λh=>
 Option.bind (idx b0 a) λf=>
 (f21_l2 c a h f (Int.toNat ((List.length f.next:Int) - 0)+1) 0 e) else(d e))
def f21_l3(c:Int)(h:(List (Int×Bool))→lI→Option lI)(d:List Pr2):Nat→Int→(List (Int×Bool))→lI→Option lI
 |0,_,_,_=>none
 |n+1,e,f,a=>
 (bif (decide (e<(List.length d:Int))) then ai (λ(k:List (Int×Bool))(m:lI)=>
 (f21_l3 c h d n (IntKind.i64.wrap (e+1)) k m)) λj=>
 Option.bind (idx d e) λg=>
 (bif (decide (g.e1=c)) then aR (cw 8 a [g.e0])<|
 (j (ba f c true) (a++ [g.e0])) else(j f a)) else(h f a))
def f21_l4(d:lL)(e:(List (Int×Bool))→lI→Option lI):Nat→(List (Int×Bool))→lI→Option lI
 |0,_,_=>none
 |n+1,c,a=>
 (bif (decide ((List.length a:Int)>0)) then Option.bind (idx a (IntKind.i64.wrap ((List.length a:Int) - 1))) λf=>
 aR (co a 0 (IntKind.i64.wrap ((List.length a:Int) - 1)))<|
 (bif (!(Option.getD (bd c f) false)) then Option.bind (idx d f) λg=>
 aR (cw 8 (List.take (Int.toNat (IntKind.i64.wrap ((List.length a:Int) - 1))) a) g)<|
 (f21_l4 d e n (ba c f true) ((List.take (Int.toNat (IntKind.i64.wrap ((List.length a:Int) - 1))) a)++g)) else(f21_l4 d e n c (List.take (Int.toNat (IntKind.i64.wrap ((List.length a:Int) - 1))) a))) else(e c a))
def f21_l5(b0:List ab)(d:List (Int×Bool))(e:lI→Option lI):Nat→Int→lI→Option lI
 |0,_,_=>none
 |n+1,a,c=>
 (bif (decide (a<(List.length b0:Int))) then ai (λ(g:lI)=>
 (f21_l5 b0 d e n (IntKind.i64.wrap (a+1)) g)) λf=>
 (bif (Option.getD (bd d a) false) then aR (cw 8 c [a])<|
 (f (c++ [a])) else(f c)) else(e c))
def f21(b0:List ab)(d:Int):Option lI:=
 aR (kj 24 (List.length b0:Int))<|
 Option.bind (f19 b0) λa=>
 ai (λ(e:lL)=>
 ai (λ(f:List (Int×Bool))(g:lI)=>
 ai (λ(h:List (Int×Bool))(t:lI)=>
 ai (λ(j:lI)=>
 some j) λk=>
 (f21_l5 b0 h k (Int.toNat ((List.length b0:Int) - 0)+1) 0 [])) λm=>
 (f21_l4 e m 9223372036854775808 f g)) λo=>
 Option.bind (f17 b0) λc=>
 (f21_l3 d o c (Int.toNat ((List.length c:Int) - 0)+1) 0 ([]:List (Int×Bool)) [])) λp=>
 (f21_l1 b0 a p (Int.toNat ((List.length a:Int) - 0)+1) 0 (List.replicate (Int.toNat (List.length b0:Int)) ([]:lI)))
def f23_l1(d:(List ((Int×Int)×Bool))→oB)(a:List Pr2):Nat→Int→(List ((Int×Int)×Bool))→oB
 |0,_,_=>none
 |n+1,c,e=>
 (bif (decide (c<(List.length a:Int))) then Option.bind (idx a c) λf=>
 (f23_l1 d a n (IntKind.i64.wrap (c+1)) (ba e (f.e0,f.e1) true)) else(d e))
def f23_l3(e:List ((Int×Int)×Bool))(f:lI×lI)(g:Int)(h:Unit→oB)(a:Int)(c:ab):Nat→Int→oB
 |0,_=>none
 |na+1,d=>
 (bif (decide (d<(List.length c.next:Int))) then Option.bind (idx c.next d) λj=>
 Option.bind (bif (decide (a≥0)) then(Option.bind (idx f.2 j) λk=>some (decide (k≥a))) else some false) λm=>
 (bif (m&&(!(Option.getD (bd e (g,j)) false))) then some false else(f23_l3 e f g h a c na (IntKind.i64.wrap (d+1)))) else(h ()))
def f23_l2(b0:List ab)(d:List ((Int×Int)×Bool))(c:lI×lI)(e:Unit→oB):Nat→Int→oB
 |0,_=>none
 |n+1,a=>
 (bif (decide (a<(List.length c.2:Int))) then ai (λ(_:Unit)=>
 (f23_l2 b0 d c e n (IntKind.i64.wrap (a+1)))) λg=>
 Option.bind (idx c.2 a) λh=>
 Option.bind (idx b0 a) λf=>
 (f23_l3 d c a g h f (Int.toNat ((List.length f.next:Int) - 0)+1) 0) else(e ()))
def f23(b0:List ab):oB:=
 Option.bind (f44 b0) λd=>
 (bif (!d) then some false else ai (λ(e:List ((Int×Int)×Bool))=>
 Option.bind (f45 b0) λa=>
 ai (λ(_:Unit)=>
 some true) λf=>
 (f23_l2 b0 e a f (Int.toNat ((List.length a.2:Int) - 0)+1) 0)) λg=>
 Option.bind (f17 b0) λc=>
 (f23_l1 g c (Int.toNat ((List.length c:Int) - 0)+1) 0 ([]:List ((Int×Int)×Bool))))
def f49_l3(b0:List ab)(without2:Int)(c:Int)(f:Bool→(List Bool)→Option (List Bool)):Nat→Bool→Int→(List Bool)→Option (List Bool)
 |0,_,_,_=>none
 |nb+1,g,e,a=>
 Option.bind (idx b0 c) λj=>
 Option.bind (bif (decide (e<(List.length j.next:Int))) then(Option.bind (idx a c) λk=>some k) else some false) λm=>
 (bif m then ai (λ(o:Bool)(p:List Bool)=>
 (f49_l3 b0 without2 c f nb o (IntKind.i64.wrap (e+1)) p)) λh=>
 Option.bind (idx b0 c) λt=>
 Option.bind (idx t.next e) λd=>
 Option.bind (bif (!decide (d=without2)) then(Option.bind (idx a d) λw=>some (!w)) else some false) λx=>
 (bif x then Option.bind (idx a d) λy=>
 (h true (List.set a (Int.toNat d) true)) else(h g a)) else(f g a))
def f49_l2(b0:List ab)(without2:Int)(c:Bool→(List Bool)→Option (List Bool)):Nat→Bool→Int→(List Bool)→Option (List Bool)
 |0,_,_,_=>none
 |na+1,d,a,e=>
 (bif (decide (a<(List.length b0:Int))) then ai (λ(f:Bool)(g:List Bool)=>
 (f49_l2 b0 without2 c na f (IntKind.i64.wrap (a+1)) g)) λh=>
 (f49_l3 b0 without2 a h 9223372036854775808 d 0 e) else(c d e))
def f49_l1(b0:List ab)(without2:Int)(a:(List Bool)→Option (List Bool)):Nat→Bool→(List Bool)→Option (List Bool)
 |0,_,_=>none
 |n+1,d,c=>
 (bif d then ai (λ(e:Bool)(f:List Bool)=>
 (f49_l1 b0 without2 a n e f)) λg=>
 (f49_l2 b0 without2 g 9223372036854775808 false 0 c) else(a c))
def f49(b0:List ab)(a:Int)(without2:Int):Option (List Bool):=
 aR (kj 1 (List.length b0:Int))<|
 (bif (((decide (a<0))||(decide (a≥(List.length b0:Int))))||(decide (a=without2))) then some (List.replicate (Int.toNat (List.length b0:Int)) (false:Bool)) else Option.bind (idx (List.replicate (Int.toNat (List.length b0:Int)) (false:Bool)) a) λe=>
 ai (λ(c:List Bool)=>
 some c) λd=>
 (f49_l1 b0 without2 d 9223372036854775808 true (List.set (List.replicate (Int.toNat (List.length b0:Int)) (false:Bool)) (Int.toNat a) true)))
def f43(b0:List ab)(d1:Int)(n2:Int):oB:=
 Option.bind (f49 b0 0 (-1)) λa=>
 Option.bind (idx a n2) λc=>
 Option.bind (bif c then(Option.bind (f49 b0 0 d1) λd=>Option.bind (idx d n2) λe=>some (!e)) else some false) λf=>
 some f
def f27_l1(l0:lI)(n1:Int)(c:Unit→oB):Nat→Int→oB
 |0,_=>none
 |n+1,a=>
 (bif (decide (a<(List.length l0:Int))) then Option.bind (idx l0 a) λd=>
 (bif (decide (d=n1)) then some true else(f27_l1 l0 n1 c n (IntKind.i64.wrap (a+1)))) else(c ()))
def f27(l0:lI)(n1:Int):oB:=
 ai (λ(_:Unit)=>
 some false) λa=>
 (f27_l1 l0 n1 a 9223372036854775808 0)
def f9:oB:=some true
def f7_l1(e:lI)(o:Int→(List ab)→oB):Nat→Int→Int→(List ab)→oB
 |0,_,_,_=>none
 |n+1,f,g,a=>
 (bif (decide (g<(List.length e:Int))) then ai (λ(t:Int)(w:List ab)=>
 (f7_l1 e o n t (IntKind.i64.wrap (g+1)) w)) λm=>
 Option.bind (idx e g) λc=>
 aR (nz (List.length a:Int))<|
 Option.bind (idx a (Int.tmod (IntKind.i64.wrap (IntKind.u8.wrap (Int.tdiv c 3))) (List.length a:Int))) λd=>
 Option.bind (idx e g) λp=>
 (bif (decide ((Int.tmod p 3)=0)) then Option.bind (idx a (Int.tmod (IntKind.i64.wrap (IntKind.u8.wrap (Int.tdiv c 3))) (List.length a:Int))) λh=>
 aR (cw 40 (List.set a (Int.toNat (Int.tmod (IntKind.i64.wrap (IntKind.u8.wrap (Int.tdiv c 3))) (List.length a:Int))) (ab.mk h.from_ h.to [(List.length a:Int)])) [(ab.mk 0 0 d.next)])<|
 (m f ((List.set a (Int.toNat (Int.tmod (IntKind.i64.wrap (IntKind.u8.wrap (Int.tdiv c 3))) (List.length a:Int))) (ab.mk h.from_ h.to [(List.length a:Int)]))++ [(ab.mk 0 0 d.next)])) else(bif (decide ((Int.tmod p 3)=1)) then Option.bind (idx a (Int.tmod (IntKind.i64.wrap (IntKind.u8.wrap (Int.tdiv c 3))) (List.length a:Int))) λj=>
 aR (cw 40 (List.set a (Int.toNat (Int.tmod (IntKind.i64.wrap (IntKind.u8.wrap (Int.tdiv c 3))) (List.length a:Int))) (ab.mk j.from_ j.to [(List.length a:Int),(IntKind.i64.wrap ((List.length a:Int)+1))])) [(ab.mk 0 0 [(IntKind.i64.wrap ((List.length a:Int)+1))]),(ab.mk 0 0 d.next)])<|
 (m f ((List.set a (Int.toNat (Int.tmod (IntKind.i64.wrap (IntKind.u8.wrap (Int.tdiv c 3))) (List.length a:Int))) (ab.mk j.from_ j.to [(List.length a:Int),(IntKind.i64.wrap ((List.length a:Int)+1))]))++ [(ab.mk 0 0 [(IntKind.i64.wrap ((List.length a:Int)+1))]),(ab.mk 0 0 d.next)])) else Option.bind (idx a (Int.tmod (IntKind.i64.wrap (IntKind.u8.wrap (Int.tdiv c 3))) (List.length a:Int))) λk=>
 aR (cw 8 [(IntKind.i64.wrap ((List.length a:Int)+1))] d.next)<|
 aR (cw 40 (List.set a (Int.toNat (Int.tmod (IntKind.i64.wrap (IntKind.u8.wrap (Int.tdiv c 3))) (List.length a:Int))) (ab.mk k.from_ k.to [(List.length a:Int)])) [(ab.mk 0 0 ([(IntKind.i64.wrap ((List.length a:Int)+1))]++d.next)),(ab.mk 0 0 [(List.length a:Int)])])<|
 (m (IntKind.i64.wrap (f+1)) ((List.set a (Int.toNat (Int.tmod (IntKind.i64.wrap (IntKind.u8.wrap (Int.tdiv c 3))) (List.length a:Int))) (ab.mk k.from_ k.to [(List.length a:Int)]))++ [(ab.mk 0 0 ([(IntKind.i64.wrap ((List.length a:Int)+1))]++d.next)),(ab.mk 0 0 [(List.length a:Int)])])))) else(o f a))
def f7_l2(d:List ab)(a:List Pr2)(e:Unit→oB):Nat→Int→oB
 |0,_=>none
 |n+1,c=>
 (bif (decide (c<(List.length a:Int))) then Option.bind (idx a c) λg=>
 Option.bind (f21 d g.e1) λf=>
 Option.bind (bif (decide ((List.length f:Int)<2)) then some true else(Option.bind (idx a c) λh=>Option.bind (f27 f h.e0) λj=>some (!j))) λk=>
 (bif k then some false else(f7_l2 d a e n (IntKind.i64.wrap (c+1)))) else(e ()))
def f7(c:lI):oB:=
 (bif (decide ((List.length c:Int)>40)) then Option.bind (f9) λe=>
 some e else ai (λ(f:Int)(a:List ab)=>
 Option.bind (f17 a) λd=>
 Option.bind (bif (!decide ((List.length d:Int)=f)) then some true else(Option.bind (f23 a) λg=>some (!g))) λh=>
 (bif h then some false else ai (λ(_:Unit)=>
 Option.bind (f9) λj=>
 some j) λk=>
 (f7_l2 a d k 9223372036854775808 0))) λm=>
 (f7_l1 c m 9223372036854775808 0 0 [(ab.mk 0 0 [])]))
def f95_l1(t0:aM)(o1:Obj)(d:Unit→oB):Nat→Int→Int→oB
 |0,_,_=>none
 |n+1,e,c=>
 (bif (decide (c<(List.length o1.set_:Int))) then Option.bind (idx o1.set_ c) λa=>
 Option.bind (bif ((decide (a≤e))||(decide (a≥(List.length t0.text.objs:Int)))) then some true else(Option.bind (idx t0.text.objs a) λf=>some (!decide (f.size=1)))) λg=>
 Option.bind (bif g then some true else(Option.bind (idx t0.text.objs a) λh=>some h.ptr)) λj=>
 (bif j then some false else(f95_l1 t0 o1 d n a (IntKind.i64.wrap (c+1)))) else(d ()))
def f95(t0:aM)(o1:Obj):oB:=
 (bif (((decide (o1.size<1))||(decide (o1.size>16384)))||(decide (o1.lo>o1.hi))) then some false else(bif (!o1.ptr) then some (decide ((List.length o1.set_:Int)=0)) else ai (λ(_:Unit)=>
 some ((decide (o1.lo=0))&&(decide (o1.hi=0)))) λa=>
 (f95_l1 t0 o1 a (Int.toNat ((List.length o1.set_:Int) - 0)+1) (-1) 0)))
def f96(t0:aM)(o1:Int)(a:Int)(c:Int):oB:=
 Option.bind (bif (((decide (o1≥0))&&(decide (o1<(List.length t0.text.objs:Int))))&&(decide (a≥0))) then(Option.bind (idx t0.text.objs o1) λd=>some (decide (a≤(IntKind.i64.wrap (d.size - c))))) else some false) λe=>
 some e
def f135(n0:Int)(a:Int):Bool:=
 (decide ((IntKind.i64.wrap (n0+1))=a))
def f97(o0:Obj)(v1:Int):oB:=
 (bif o0.ptr then Option.bind (bif (decide (v1=0)) then some true else(Option.bind (f79 o0.set_ (λz0=>some (f135 z0 v1))) λa=>some a)) λc=>
 some c else some ((decide (v1≥o0.lo))&&(decide (v1≤o0.hi))))
def f57_l1(t0:aM)(c:Int→oB):Nat→Int→Int→oB
 |0,_,_=>none
 |n+1,d,a=>
 (bif (decide (a<(List.length t0.text.objs:Int))) then Option.bind (idx t0.text.objs a) λe=>
 Option.bind (f95 t0 e) λf=>
 (bif (!f) then some false else(f57_l1 t0 c n (IntKind.i64.wrap (d+e.size)) (IntKind.i64.wrap (a+1)))) else(c d))
def f57_l2(t0:aM)(e:(List ((Int×Int)×Bool))→oB):Nat→Int→(List ((Int×Int)×Bool))→oB
 |0,_,_=>none
 |n+1,c,d=>
 (bif (decide (c<(List.length t0.text.inits:Int))) then Option.bind (idx t0.text.inits c) λa=>
 Option.bind (bif (Option.getD (bd d (a.o,a.slot)) false) then some true else(Option.bind (f96 t0 a.o a.slot 1) λf=>some (!f))) λg=>
 Option.bind (bif g then some true else(Option.bind (idx t0.text.objs a.o) λh=>Option.bind (f97 h a.v) λj=>some (!j))) λk=>
 (bif k then some false else(f57_l2 t0 e n (IntKind.i64.wrap (c+1)) (ba d (a.o,a.slot) true))) else(e d))
def f57(t0:aM):oB:=
 (bif (((decide ((List.length t0.text.objs:Int)>4096))||(decide (t0.text.excs<4)))||(decide (t0.text.excs>64))) then some false else ai (λ(a:Int)=>
 ai (λ(e:List ((Int×Int)×Bool))=>
 some (decide (a≤65536))) λc=>
 (f57_l2 t0 c (Int.toNat ((List.length t0.text.inits:Int) - 0)+1) 0 ([]:List ((Int×Int)×Bool)))) λd=>
 (f57_l1 t0 d (Int.toNat ((List.length t0.text.objs:Int) - 0)+1) 0 0))
def f98(t0:aM)(a1:Int):Bool:=
 ((decide (a1≥0))&&(decide (a1<(List.length t0.text.insns:Int))))
def f136_l1(s0:List dc)(c:dc→oB)(d:Unit→Option (Int)):Nat→Int→Option (Int)
 |0,_=>none
 |n+1,a=>
 (bif (decide (a<(List.length s0:Int))) then Option.bind (idx s0 a) λe=>
 Option.bind (c e) λf=>
 (bif f then some a else(f136_l1 s0 c d n (IntKind.i64.wrap (a+1)))) else(d ()))
def f136(s0:List dc)(a:dc→oB):Option Int:=
 ai (λ(_:Unit)=>
 some (-1)) λc=>
 (f136_l1 s0 a c (Int.toNat ((List.length s0:Int) - 0)+1) 0)
def f99(s0:List dc)(a:dc→oB):oB:=
 Option.bind (f136 s0 a) λc=>
 some (decide (c≥0))
def f137(o0:Int)(a:aM):oB:=
 Option.bind (bif ((decide (o0<0))||(decide (o0≥(List.length a.text.objs:Int)))) then some true else(Option.bind (idx a.text.objs o0) λc=>some (!decide (c.size=1)))) λd=>
 some d
def f101(t0:aM)(l1:lI):oB:=
 Option.bind (bif (decide ((List.length l1:Int)≤8)) then(Option.bind (f79 l1 λz0=>f137 z0 t0) λa=>some (!a)) else some false) λc=>
 some c
def f100(e0:dc)(a:aM):oB:=
 Option.bind (f101 a e0.ins) λc=>
 Option.bind (bif (!c) then some true else(Option.bind (f101 a e0.outs) λd=>some (!d))) λe=>
 some e
def f58_l1(t0:aM)(d:Unit→oB):Nat→Int→oB
 |0,_=>none
 |n+1,c=>
 (bif (decide (c<(List.length t0.text.tasks:Int))) then Option.bind (idx t0.text.tasks c) λa=>
 (bif ((((((decide (a.prio<0))||(decide (a.prio>31)))||(!(f98 t0 a.at_)))||(decide (a.deadline<0)))||(decide (a.deadline>2147483647)))||(decide ((List.length a.entries:Int)>8))) then some false else Option.bind (f99 a.entries λz0=>f100 z0 t0) λe=>
 (bif e then some false else(f58_l1 t0 d n (IntKind.i64.wrap (c+1))))) else(d ()))
def f58(t0:aM):oB:=
 (bif ((decide ((List.length t0.text.tasks:Int)<1))||(decide ((List.length t0.text.tasks:Int)>32))) then some false else ai (λ(_:Unit)=>
 some true) λa=>
 (f58_l1 t0 a (Int.toNat ((List.length t0.text.tasks:Int) - 0)+1) 0))
def f59_l2(t0:aM)(c:lI)(f:(List (Int×Bool))→oB):Nat→Int→(List (Int×Bool))→oB
 |0,_,_=>none
 |na+1,d,e=>
 (bif (decide (d<(List.length c:Int))) then Option.bind (idx c d) λa=>
 (bif (((decide (a<1))||(decide (a≥(List.length t0.text.tasks:Int))))||(Option.getD (bd e a) false)) then some false else(f59_l2 t0 c f na (IntKind.i64.wrap (d+1)) (ba e a true))) else(f e))
def f59_l1(t0:aM)(d:Unit→oB):Nat→Int→oB
 |0,_=>none
 |n+1,a=>
 (bif (decide (a<(List.length t0.text.lists:Int))) then ai (λ(h:List (Int×Bool))=>
 (f59_l1 t0 d n (IntKind.i64.wrap (a+1)))) λe=>
 Option.bind (idx t0.text.lists a) λc=>
 ai (λ(f:List (Int×Bool))=>
 (bif (decide ((List.length c:Int)>32)) then some false else(e f))) λg=>
 (f59_l2 t0 c g (Int.toNat ((List.length c:Int) - 0)+1) 0 ([]:List (Int×Bool))) else(d ()))
def f59(t0:aM):oB:=
 (bif (decide ((List.length t0.text.lists:Int)>4096)) then some false else ai (λ(_:Unit)=>
 some true) λa=>
 (f59_l1 t0 a (Int.toNat ((List.length t0.text.lists:Int) - 0)+1) 0))
def f102s_l1(d:lN→lH→lP→lS→lL→lO→lT→Int→lK→lM→lC→Int→Int→bN→Int→Option (Bool×lN×lH×lP×lS×lL×lO×lT×Int×lK×lM×lC×Int×Int))(e1:bN)(e:Int)(f:Int→lN→lH→lP→lS→lL→lO→lT→Int→lK→lM→lC→Int→Int→Option (Bool×lN×lH×lP×lS×lL×lO×lT×Int×lK×lM×lC×Int×Int))(g:lN→lH→lP→lS→lL→lO→lT→Int→lK→lM→lC→Int→Int→Option (Bool×lN×lH×lP×lS×lL×lO×lT×Int×lK×lM×lC×Int×Int)):Nat→Int→lN→lH→lP→lS→lL→lO→lT→Int→lK→lM→lC→Int→Int→Option (Bool×lN×lH×lP×lS×lL×lO×lT×Int×lK×lM×lC×Int×Int)
 |0,_,_,_,_,_,_,_,_,_,_,_,_,_,_=>none
 |n+1,c,c00v179,c01v180,c02v181,c03v182,c04v183,c05v184,c06v185,c07v186,c08v187,c09v188,c010v189,c011v190,c012v191=>
 (bif (decide (c<(List.length e1.l:Int))) then Option.bind (idx e1.l c) λh=>
 ai (λ(j:Bool)(c00v209:lN)(c01v210:lH)(c02v211:lP)(c03v212:lS)(c04v213:lL)(c05v214:lO)(c06v215:lT)(c07v216:Int)(c08v217:lK)(c09v218:lM)(c010v219:lC)(c011v220:Int)(c012v221:Int)=>
 (bif j then(f c c00v209 c01v210 c02v211 c03v212 c04v213 c05v214 c06v215 c07v216 c08v217 c09v218 c010v219 c011v220 c012v221) else(f102s_l1 d e1 e f g n (IntKind.i64.wrap (c+1)) c00v209 c01v210 c02v211 c03v212 c04v213 c05v214 c06v215 c07v216 c08v217 c09v218 c010v219 c011v220 c012v221))) λk=>
 Option.bind (d c00v179 c01v180 c02v181 c03v182 c04v183 c05v184 c06v185 c07v186 c08v187 c09v188 c010v189 c011v190 c012v191 h (IntKind.i64.wrap (e+1))) λa=>
 (k (!a.1) a.2.1 a.2.2.1 a.2.2.2.1 a.2.2.2.2.1 a.2.2.2.2.2.1 a.2.2.2.2.2.2.1 a.2.2.2.2.2.2.2.1 a.2.2.2.2.2.2.2.2.1 a.2.2.2.2.2.2.2.2.2.1 a.2.2.2.2.2.2.2.2.2.2.1 a.2.2.2.2.2.2.2.2.2.2.2.1 a.2.2.2.2.2.2.2.2.2.2.2.2.1 a.2.2.2.2.2.2.2.2.2.2.2.2.2) else(g c00v179 c01v180 c02v181 c03v182 c04v183 c05v184 c06v185 c07v186 c08v187 c09v188 c010v189 c011v190 c012v191))
def f102s(E:lN→lH→lP→lS→lL→lO→lT→Int→lK→lM→lC→Int→Int→bN→Int→Option (Bool×lN×lH×lP×lS×lL×lO×lT×Int×lK×lM×lC×Int×Int))(f:lN)(g:lH)(h:lP)(j:lS)(k:lL)(c:lO)(m:lT)(p:Int)(t:lK)(w:lM)(x:lC)(jent:Int)(jleft:Int)(e1:bN)(y:Int):Option (Bool×lN×lH×lP×lS×lL×lO×lT×Int×lK×lM×lC×Int×Int):=
 ai (λ(F:Bool)(G:Int)(d:bN)(c21v100:Int)(c22v101:Int)(c23v102:Int)(c24v103:Int)=>
 (bif (((((((((((decide ((IntKind.i64.wrap (jleft - 1))<0))||(decide (y>64)))||(!F))||(!decide ((List.length e1.l:Int)=G)))||(!decide (e1.op=d.op)))||(!decide (e1.n=d.n)))||(!decide (e1.o=d.o)))||(!decide (e1.off=d.off)))||(!decide (e1.len=0)))||(!decide (e1.lo=0)))||(!decide (e1.hi=0))) then some (false,f,g,h,j,k,c,m,p,t,w,x,jent,(IntKind.i64.wrap (jleft - 1))) else ai (λ(H:Bool)(c00v120:lN)(c01v121:lH)(c02v122:lP)(c03v123:lS)(c04v124:lL)(c05v125:lO)(c06v126:lT)(c07v127:Int)(c08v128:lK)(c09v129:lM)(c010v130:lC)(c011v131:Int)(c012v132:Int)=>
 some ((!H),c00v120,c01v121,c02v122,c03v123,c04v124,c05v125,c06v126,c07v127,c08v128,c09v129,c010v130,c011v131,c012v132)) λI=>
 ai (λ(J:Int)(c00v136:lN)(c01v137:lH)(c02v138:lP)(c03v139:lS)(c04v140:lL)(c05v141:lO)(c06v142:lT)(c07v143:Int)(c08v144:lK)(c09v145:lM)(c010v146:lC)(c011v147:Int)(c012v148:Int)=>
 (I (decide (J≥0)) c00v136 c01v137 c02v138 c03v139 c04v140 c05v141 c06v142 c07v143 c08v144 c09v145 c010v146 c011v147 c012v148)) λA=>
 ai (λ(c00v150:lN)(c01v151:lH)(c02v152:lP)(c03v153:lS)(c04v154:lL)(c05v155:lO)(c06v156:lT)(c07v157:Int)(c08v158:lK)(c09v159:lM)(c010v160:lC)(c011v161:Int)(c012v162:Int)=>
 (A (-1) c00v150 c01v151 c02v152 c03v153 c04v154 c05v155 c06v156 c07v157 c08v158 c09v159 c010v160 c011v161 c012v162)) λK=>
 (f102s_l1 E e1 y A K (Int.toNat ((List.length e1.l:Int) - 0)+1) 0 f g h j k c m p t w x jent (IntKind.i64.wrap (jleft - 1))))) λe=>
 ai (λ(L:Int)(c21v106:Int)(c22v107:Int)(c23v108:Int)(c24v109:Int)=>
 (e true L (bN.mk e1.kind c21v106 c22v107 c23v108 c24v109 0 0 0 []) c21v106 c22v107 c23v108 c24v109)) λa=>
 (bif (decide (e1.kind=1)) then(a 0 0 e1.n 0 0) else(bif (decide (e1.kind=2)) then Option.bind (f96 (aM.mk (oe.mk f g h j k c m p t w x)) e1.o e1.off 1) λM=>
 Option.bind (bif (!M) then some true else(Option.bind (idx c e1.o) λN=>some N.ptr)) λO=>
 (bif O then(e false 0 (bN.mk e1.kind 0 0 0 0 0 0 0 []) 0 0 0 0) else(a 0 0 0 e1.o e1.off)) else(bif (decide (e1.kind=14)) then ai (λ(P:Bool)=>
 (e P 0 (bN.mk e1.kind 0 e1.n 0 0 0 0 0 []) 0 e1.n 0 0)) λB=>
 (bif (decide (e1.n≥0)) then(B (decide (e1.n<jent))) else(B false)) else(bif (decide (e1.kind=4)) then(a 1 18 0 0 0) else(bif (decide (e1.kind=5)) then(a 2 (if(if 15<e1.op then 15 else e1.op)>7 then(if 15<e1.op then 15 else e1.op) else 7) 0 0 0) else ai (λ(Q:Bool)=>
 (bif Q then(a 2 0 0 0 0) else(e false 0 (bN.mk e1.kind 0 0 0 0 0 0 0 []) 0 0 0 0))) λC=>
 (bif (decide (e1.kind=6)) then(C (decide (e1.kind=6))) else(C (decide (e1.kind=7)))))))))
def f102:Nat→lN→lH→lP→lS→lL→lO→lT→Int→lK→lM→lC→Int→Int→bN→Int→Option (Bool×lN×lH×lP×lS×lL×lO×lT×Int×lK×lM×lC×Int×Int)
 |0=>λ_ _ _ _ _ _ _ _ _ _ _ _ _ _ _=>none
 |n+1=>f102s (f102 n)
def f60_l2(t0:aM)(d:Int→(List bN)→oB)(a:lR):Nat→Int→oB
 |0,_=>none
 |na+1,c=>
 (bif (decide (c<(List.length a.barriers:Int))) then Option.bind (idx a.barriers c) λe=>
 Option.bind (f102 66 t0.text.insns t0.text.handlers t0.text.loops t0.text.selects t0.text.lists t0.text.objs t0.text.inits t0.text.excs t0.text.tasks t0.text.prots t0.text.checks (List.length a.barriers:Int) 256 e 1) λf=>
 (bif (!f.1) then some false else(f60_l2 t0 d a na (IntKind.i64.wrap (c+1)))) else(d a.ceiling a.barriers))
def f60_l1(t0:aM)(d:Unit→oB):Nat→Int→oB
 |0,_=>none
 |n+1,c=>
 (bif (decide (c<(List.length t0.text.prots:Int))) then ai (λ(c00v60:Int)(c01v61:List bN)=>
 (f60_l1 t0 d n (IntKind.i64.wrap (c+1)))) λe=>
 Option.bind (idx t0.text.prots c) λa=>
 (bif (((decide (a.ceiling<0))||(decide (a.ceiling>31)))||(decide ((List.length a.barriers:Int)>8))) then some false else(f60_l2 t0 e a (Int.toNat ((List.length a.barriers:Int) - 0)+1) 0)) else(d ()))
def f60(t0:aM):oB:=
 ai (λ(_:Unit)=>
 some (decide ((List.length t0.text.prots:Int)≤32))) λa=>
 (f60_l1 t0 a (Int.toNat ((List.length t0.text.prots:Int) - 0)+1) 0)
def f142(n0:Int)(a:aM)(c:Int):oB:=
 Option.bind (f96 a c n0 1) λd=>
 some d
def f105(t0:aM)(a:Int)(a2:rq):oB:=
 Option.bind (bif (!(f98 t0 a2.at_)) then some true else(Option.bind (bif (!decide (a2.guard=(-1))) then(Option.bind (f142 a2.guard t0 a) λd=>some (!d)) else some false) λe=>some e)) λf=>
 (bif f then some false else(bif (decide (a2.kind=1)) then some (((decide (a2.entry≥0))&&(decide (a2.entry<8)))&&(decide (a2.time=0))) else ai (λ(g:Bool)=>
 (bif g then Option.bind (bif (decide (a2.entry=0)) then(Option.bind (f142 a2.time t0 a) λh=>some h) else some false) λj=>
 some j else some ((decide (a2.kind=4))&&(decide ((IntKind.i64.wrap (BitVec.ofInt IntKind.i64.bits a2.entry|||BitVec.ofInt IntKind.i64.bits a2.time).toNat)=0))))) λc=>
 (bif (decide (a2.kind=2)) then(c (decide (a2.kind=2))) else(c (decide (a2.kind=3))))))
def f61_l2(t0:aM)(a:jn)(d:Int→oB)(e:Unit→oB):Nat→Int→oB
 |0,_=>none
 |na+1,c=>
 (bif (decide (c<(List.length a.alts:Int))) then Option.bind (idx a.alts c) λf=>
 ai (λ(g:Bool)=>
 (bif g then(d c) else(f61_l2 t0 a d e na (IntKind.i64.wrap (c+1))))) λh=>
 Option.bind (f105 t0 a.obj f) λj=>
 (h (!j)) else(e ()))
def f61_l1(t0:aM)(d:Unit→oB):Nat→Int→oB
 |0,_=>none
 |n+1,c=>
 (bif (decide (c<(List.length t0.text.selects:Int))) then Option.bind (idx t0.text.selects c) λa=>
 (bif (((((decide ((List.length a.alts:Int)<1))||(decide ((List.length a.alts:Int)>16)))||(decide (a.obj<0)))||(decide (a.obj≥(List.length t0.text.objs:Int))))||((!decide (a.else_=(-1)))&&(!(f98 t0 a.else_)))) then some false else ai (λ(f:Bool)=>
 (bif f then some false else(f61_l1 t0 d n (IntKind.i64.wrap (c+1))))) λg=>
 ai (λ(h:Int)=>
 (g (decide (h≥0)))) λe=>
 ai (λ(_:Unit)=>
 (e (-1))) λj=>
 (f61_l2 t0 a e j (Int.toNat ((List.length a.alts:Int) - 0)+1) 0)) else(d ()))
def f61(t0:aM):oB:=
 (bif (decide ((List.length t0.text.selects:Int)>1024)) then some false else ai (λ(_:Unit)=>
 some true) λa=>
 (f61_l1 t0 a (Int.toNat ((List.length t0.text.selects:Int) - 0)+1) 0))
def f106(h0:dx)(a1:Int):Bool:=
 ((decide (h0.from_≤a1))&&(decide (a1<h0.to)))
def f62_l2(t0:aM)(d:Int)(f:Int→Int→Int→Bool→oB)(a:dx):Nat→Int→oB
 |0,_=>none
 |na+1,e=>
 (bif (decide (e<(List.length (dW t0.text.handlers 0 d):Int))) then Option.bind (idx (dW t0.text.handlers 0 d) e) λc=>
 (bif ((!((decide (c.from_≥a.from_))&&(decide (c.to≤a.to))))&&(decide ((if a.from_>c.from_ then a.from_ else c.from_)<(if a.to<c.to then a.to else c.to)))) then some false else(f62_l2 t0 d f a na (IntKind.i64.wrap (e+1)))) else(f a.from_ a.to a.at_ a.clean))
def f62_l1(t0:aM)(d:Unit→oB):Nat→Int→oB
 |0,_=>none
 |n+1,c=>
 (bif (decide (c<(List.length t0.text.handlers:Int))) then ai (λ(c00v99:Int)(c01v100:Int)(c02v101:Int)(c03v102:Bool)=>
 (f62_l1 t0 d n (IntKind.i64.wrap (c+1)))) λe=>
 Option.bind (idx t0.text.handlers c) λa=>
 (bif (((((decide (a.from_<0))||(decide (a.from_≥a.to)))||(decide (a.to>(List.length t0.text.insns:Int))))||(!(f98 t0 a.at_)))||(f106 a a.at_)) then some false else aR (co t0.text.handlers 0 c)<|
 (f62_l2 t0 c e a (Int.toNat ((List.length (dW t0.text.handlers 0 c):Int) - 0)+1) 0)) else(d ()))
def f62(t0:aM):oB:=
 (bif (decide ((List.length t0.text.handlers:Int)>4096)) then some false else ai (λ(_:Unit)=>
 some true) λa=>
 (f62_l1 t0 a (Int.toNat ((List.length t0.text.handlers:Int) - 0)+1) 0))
def f107(x0:eR)(a:Int):Bool:=
 ((((decide (x0.op=29))||(decide (x0.op=30)))||(decide (x0.op=31)))&&(decide (x0.to=a)))
def f63_l1(t0:aM)(e:(List (Int×Bool))→oB):Nat→Int→(List (Int×Bool))→oB
 |0,_,_=>none
 |n+1,c,d=>
 (bif (decide (c<(List.length t0.text.loops:Int))) then Option.bind (idx t0.text.loops c) λa=>
 Option.bind (bif ((((decide (a.head<0))||(decide (a.head>a.back)))||(!(f98 t0 a.back)))||(Option.getD (bd d a.back) false)) then some true else(Option.bind (idx t0.text.insns a.back) λf=>some (!(f107 f a.head)))) λg=>
 (bif ((g||(decide (a.bound<0)))||(decide (a.bound>2147483647))) then some false else(f63_l1 t0 e n (IntKind.i64.wrap (c+1)) (ba d a.back true))) else(e d))
def f63(t0:aM):oB:=
 (bif (decide ((List.length t0.text.loops:Int)>4096)) then some false else ai (λ(c:List (Int×Bool))=>
 some true) λa=>
 (f63_l1 t0 a (Int.toNat ((List.length t0.text.loops:Int) - 0)+1) 0 ([]:List (Int×Bool))))
def f108(t0:aM)(a1:Int):oB:=
 Option.bind (bif (f98 t0 a1) then(Option.bind (idx t0.text.insns a1) λa=>Option.bind (bif (decide (a.op=27)) then some true else(Option.bind (idx t0.text.insns a1) λc=>some (decide (c.op=28)))) λd=>some d) else some false) λe=>
 some e
def f64_l1(t0:aM)(d:Unit→oB):Nat→Int→Int→oB
 |0,_,_=>none
 |n+1,e,c=>
 (bif (decide (c<(List.length t0.text.checks:Int))) then Option.bind (idx t0.text.checks c) λa=>
 Option.bind (bif (decide (a.at_≤e)) then some true else(Option.bind (f108 t0 a.at_) λf=>some (!f))) λg=>
 (bif ((g||(decide (a.kind<1)))||(decide (a.kind>5))) then some false else(f64_l1 t0 d n a.at_ (IntKind.i64.wrap (c+1)))) else(d ()))
def f64(t0:aM):oB:=
 ai (λ(_:Unit)=>
 some true) λa=>
 (f64_l1 t0 a (Int.toNat ((List.length t0.text.checks:Int) - 0)+1) (-1) 0)
def f109_l1(s0:lN)(c:eR→oB)(d:Unit→Option (Int)):Nat→Int→Option (Int)
 |0,_=>none
 |n+1,a=>
 (bif (decide (a<(List.length s0:Int))) then Option.bind (idx s0 a) λe=>
 Option.bind (c e) λf=>
 (bif f then some a else(f109_l1 s0 c d n (IntKind.i64.wrap (a+1)))) else(d ()))
def f109(s0:lN)(a:eR→oB):Option Int:=
 ai (λ(_:Unit)=>
 some (-1)) λc=>
 (f109_l1 s0 a c (Int.toNat ((List.length s0:Int) - 0)+1) 0)
def f65(s0:lN)(a:eR→oB):oB:=
 Option.bind (f109 s0 a) λc=>
 some (decide (c≥0))
def f143(o0:Int):Option (jo×Bool):=
 (bif ((decide (o0<1))||(decide ((IntKind.i64.wrap o0)>57))) then some ((jo.mk ByteArray.empty ByteArray.empty),false) else Option.bind (idx iy (IntKind.u8.wrap (o0 - 1))) λa=>
 some (a,true))
def f154_l1(s0:ByteArray)(c:Int→Int→Option (List ByteArray)):Nat→Int→Int→Int→Int→Option (List ByteArray)
 |0,_,_,_,_=>none
 |n+1,d,wasSpace116,setBits117,a=>
 (bif (decide (a<(s0.size:Int))) then Option.bind (il s0 a) λe=>
 Option.bind (idx cD e) λf=>
 (f154_l1 s0 c n (IntKind.i64.wrap (d+(IntKind.i64.wrap (BitVec.ofInt IntKind.i64.bits wasSpace116&&&BitVec.ofInt IntKind.i64.bits (IntKind.i64.wrap (BitVec.ofInt IntKind.i64.bits (-1)^^^BitVec.ofInt IntKind.i64.bits (IntKind.i64.wrap f)).toNat)).toNat))) (IntKind.i64.wrap f) (IntKind.u8.wrap (BitVec.ofInt IntKind.u8.bits setBits117|||BitVec.ofInt IntKind.u8.bits e).toNat) (IntKind.i64.wrap (a+1))) else(c d setBits117))
def f154_l2(s0:ByteArray)(c:Int→Option (List ByteArray)):Nat→Int→Option (List ByteArray)
 |0,_=>none
 |n+1,a=>
 Option.bind (bif (decide (a<(s0.size:Int))) then(Option.bind (il s0 a) λd=>Option.bind (idx cD d) λe=>some (!decide (e=0))) else some false) λf=>
 (bif f then(f154_l2 s0 c n (IntKind.i64.wrap (a+1))) else(c a))
def f154_l4(s0:ByteArray)(c:Int→Option (List ByteArray)):Nat→Int→Option (List ByteArray)
 |0,_=>none
 |na+1,a=>
 Option.bind (bif (decide (a<(s0.size:Int))) then(Option.bind (il s0 a) λd=>Option.bind (idx cD d) λe=>some (!decide (e=0))) else some false) λf=>
 (bif f then(f154_l4 s0 c na (IntKind.i64.wrap (a+1))) else(c a))
def f154_l3(s0:ByteArray)(e:Int→Int→(List ByteArray)→Option (List ByteArray)):Nat→Int→Int→Int→(List ByteArray)→Option (List ByteArray)
 |0,_,_,_,_=>none
 |n+1,a,fieldStart143,c,d=>
 (bif (decide (c<(s0.size:Int))) then ai (λ(h:Int)(fieldStart151:Int)(j:Int)(k:List ByteArray)=>
 (f154_l3 s0 e n h fieldStart151 j k)) λf=>
 Option.bind (il s0 c) λm=>
 Option.bind (idx cD m) λo=>
 (bif (decide (o=0)) then(f a fieldStart143 (IntKind.i64.wrap (c+1)) d) else Option.bind (qP s0 fieldStart143 c) λp=>
 Option.bind (idx d a) λw=>
 ai (λ(g:Int)=>
 (f (IntKind.i64.wrap (a+1)) g g (List.set d (Int.toNat a) p))) λt=>
 (f154_l4 s0 t 9223372036854775808 (IntKind.i64.wrap (c+1)))) else(e a fieldStart143 d))
def f154(s0:ByteArray):Option (List ByteArray):=
 ai (λ(c:Int)(setBits109:Int)=>
 (bif (decide (setBits109≥128)) then none else aR (kj 16 c)<|
 ai (λ(d:Int)=>
 ai (λ(e:Int)(fieldStart135:Int)(a:List ByteArray)=>
 ai (λ(g:List ByteArray)=>
 some g) λf=>
 (bif (decide (fieldStart135<(s0.size:Int))) then Option.bind (qP s0 fieldStart135 (s0.size:Int)) λh=>
 Option.bind (idx a e) λo=>
 (f (List.set a (Int.toNat e) h)) else(f a))) λj=>
 (f154_l3 s0 j 9223372036854775808 0 d d (List.replicate (Int.toNat c) (ByteArray.empty:ByteArray)))) λk=>
 (f154_l2 s0 k 9223372036854775808 0))) λm=>
 (f154_l1 s0 m 9223372036854775808 0 1 0 0)
def f157(a:Int):Int×Int:=
 (bif (decide (a=114)) then(0,15) else(bif (decide (a=111)) then(0,4095) else(bif (decide (a=115)) then(0,65535) else(bif (decide (a=108)) then(1,65536) else(bif (decide (a=120)) then(1,64) else(bif (decide (a=107)) then(6,7) else(bif (decide (a=101)) then(0,7) else(bif (decide (a=112)) then(0,31) else(bif (decide (a=113)) then((-1),31) else(bif (decide (a=109)) then(0,3) else(bif (decide (a=106)) then(0,1023) else(bif (decide (a=98)) then(0,1) else((-9223372036854775808),9223372036854775807)))))))))))))
def f110_l1(e:Int→Int→Int→Int→Int→Int→ByteArray→ByteArray→Int→Int→Int→Int→oB)(f:Int→Int→Int→Int→Int→Int→ByteArray→ByteArray→Int→Int→Int→Int→oB)(g:Int→Int→Int→Int→Int→Int→ByteArray→ByteArray→Int→Int→Int→Int→oB)(h:Int→Int→Int→Int→Int→Int→ByteArray→ByteArray→Int→Int→Int→Int→oB)(j:Int→Int→Int→Int→Int→Int→ByteArray→ByteArray→Int→Int→Int→Int→oB)(k:Int→Int→Int→Int→Int→Int→ByteArray→ByteArray→Int→Int→Int→Int→oB)(m:Int→Int→Int→Int→Int→Int→ByteArray→ByteArray→oB)(a:jo×Bool)(c:List ByteArray):Nat→Int→Int→Int→Int→Int→Int→Int→oB
 |0,_,_,_,_,_,_,_=>none
 |n+1,d,c21v178,c22v179,c23v180,c24v181,c25v182,c26v183=>
 (bif (decide (d<(List.length c:Int))) then Option.bind (idx c d) λo=>
 Option.bind (il o 0) λB=>
 (bif (decide (B=68)) then ai (λ(_:Unit)=>
 Option.bind (il o 1) λp=>
 ai (λ(_:Unit)=>
 (e c21v178 c22v179 c23v180 c24v181 c25v182 c26v183 a.1.name a.1.fields ((f157 p).1) ((f157 p).2) ((f157 p).1) ((f157 p).2))) λC=>
 ai (λ(_:Unit)=>
 (f110_l1 e f g h j k m a c n (IntKind.i64.wrap (d+1)) 0 c22v179 c23v180 c24v181 c25v182 c26v183)) λE=>
 ai (λ(_:Unit)=>
 (bif ((decide (c21v178<((f157 p).1)))||(decide (c21v178>((f157 p).2)))) then(C ()) else ai (λ(_:Unit)=>
 (E ())) λF=>
 (F ()))) λG=>
 (G ())) λH=>
 (H ()) else(bif (decide (B=65)) then ai (λ(_:Unit)=>
 Option.bind (il o 1) λt=>
 ai (λ(_:Unit)=>
 (f c21v178 c22v179 c23v180 c24v181 c25v182 c26v183 a.1.name a.1.fields ((f157 t).1) ((f157 t).2) ((f157 t).1) ((f157 t).2))) λI=>
 ai (λ(_:Unit)=>
 (f110_l1 e f g h j k m a c n (IntKind.i64.wrap (d+1)) c21v178 0 c23v180 c24v181 c25v182 c26v183)) λJ=>
 ai (λ(_:Unit)=>
 (bif ((decide (c22v179<((f157 t).1)))||(decide (c22v179>((f157 t).2)))) then(I ()) else ai (λ(_:Unit)=>
 (J ())) λK=>
 (K ()))) λL=>
 (L ())) λM=>
 (M ()) else(bif (decide (B=66)) then ai (λ(_:Unit)=>
 Option.bind (il o 1) λw=>
 ai (λ(_:Unit)=>
 (g c21v178 c22v179 c23v180 c24v181 c25v182 c26v183 a.1.name a.1.fields ((f157 w).1) ((f157 w).2) ((f157 w).1) ((f157 w).2))) λN=>
 ai (λ(_:Unit)=>
 (f110_l1 e f g h j k m a c n (IntKind.i64.wrap (d+1)) c21v178 c22v179 0 c24v181 c25v182 c26v183)) λO=>
 ai (λ(_:Unit)=>
 (bif ((decide (c23v180<((f157 w).1)))||(decide (c23v180>((f157 w).2)))) then(N ()) else ai (λ(_:Unit)=>
 (O ())) λP=>
 (P ()))) λQ=>
 (Q ())) λS=>
 (S ()) else(bif (decide (B=78)) then ai (λ(_:Unit)=>
 Option.bind (il o 1) λx=>
 ai (λ(_:Unit)=>
 (h c21v178 c22v179 c23v180 c24v181 c25v182 c26v183 a.1.name a.1.fields ((f157 x).1) ((f157 x).2) ((f157 x).1) ((f157 x).2))) λT=>
 ai (λ(_:Unit)=>
 (f110_l1 e f g h j k m a c n (IntKind.i64.wrap (d+1)) c21v178 c22v179 c23v180 0 c25v182 c26v183)) λU=>
 ai (λ(_:Unit)=>
 (bif ((decide (c24v181<((f157 x).1)))||(decide (c24v181>((f157 x).2)))) then(T ()) else ai (λ(_:Unit)=>
 (U ())) λV=>
 (V ()))) λW=>
 (W ())) λX=>
 (X ()) else(bif (decide (B=77)) then ai (λ(_:Unit)=>
 Option.bind (il o 1) λy=>
 ai (λ(_:Unit)=>
 (j c21v178 c22v179 c23v180 c24v181 c25v182 c26v183 a.1.name a.1.fields ((f157 y).1) ((f157 y).2) ((f157 y).1) ((f157 y).2))) λY=>
 ai (λ(_:Unit)=>
 (f110_l1 e f g h j k m a c n (IntKind.i64.wrap (d+1)) c21v178 c22v179 c23v180 c24v181 0 c26v183)) λZ=>
 ai (λ(_:Unit)=>
 (bif ((decide (c25v182<((f157 y).1)))||(decide (c25v182>((f157 y).2)))) then(Y ()) else ai (λ(_:Unit)=>
 (Z ())) λaa=>
 (aa ()))) λad=>
 (ad ())) λag=>
 (ag ()) else ai (λ(_:Unit)=>
 Option.bind (il o 1) λA=>
 ai (λ(_:Unit)=>
 (k c21v178 c22v179 c23v180 c24v181 c25v182 c26v183 a.1.name a.1.fields ((f157 A).1) ((f157 A).2) ((f157 A).1) ((f157 A).2))) λan=>
 ai (λ(_:Unit)=>
 (f110_l1 e f g h j k m a c n (IntKind.i64.wrap (d+1)) c21v178 c22v179 c23v180 c24v181 c25v182 0)) λa0=>
 ai (λ(_:Unit)=>
 (bif ((decide (c26v183<((f157 A).1)))||(decide (c26v183>((f157 A).2)))) then(an ()) else ai (λ(_:Unit)=>
 (a0 ())) λa1=>
 (a1 ()))) λa6=>
 (a6 ())) λa7=>
 (a7 ())))))) else(m c21v178 c22v179 c23v180 c24v181 c25v182 c26v183 a.1.name a.1.fields))
def f110(x0:eR):oB:=
 Option.bind (f143 x0.op) λf=>
 (bif ((!f.2)||((decide (x0.op=27))&&(decide (x0.n>x0.m)))) then some false else(bif (((decide (x0.op=37))&&(decide ((IntKind.u8.wrap x0.n)=6)))&&(!decide (x0.m=0))) then some false else ai (λ(c21v69:Int)(c22v70:Int)(c23v71:Int)(c24v72:Int)(c25v73:Int)(c26v74:Int)(c50v75:ByteArray)(c51v76:ByteArray)=>
 some (((decide (x0.op=x0.op))&&((decide (c21v69=0))&&((decide (c22v70=0))&&((decide (c23v71=0))&&((decide (c24v72=0))&&((decide (c25v73=0))&&((decide (c26v74=0))&&true))))))))) λg=>
 ai (λ(_:Unit)=>
 ai (λ(c21v81:Int)(c22v82:Int)(c23v83:Int)(c24v84:Int)(c25v85:Int)(c26v86:Int)(c50v87:ByteArray)(c51v88:ByteArray)(c62v89:Int)(c63v90:Int)(c92v91:Int)(c93v92:Int)=>
 some false) λh=>
 ai (λ(c21v94:Int)(c22v95:Int)(c23v96:Int)(c24v97:Int)(c25v98:Int)(c26v99:Int)(c50v100:ByteArray)(c51v101:ByteArray)(c62v102:Int)(c63v103:Int)(c92v104:Int)(c93v105:Int)=>
 some false) λj=>
 ai (λ(c21v107:Int)(c22v108:Int)(c23v109:Int)(c24v110:Int)(c25v111:Int)(c26v112:Int)(c50v113:ByteArray)(c51v114:ByteArray)(c62v115:Int)(c63v116:Int)(c92v117:Int)(c93v118:Int)=>
 some false) λk=>
 ai (λ(c21v120:Int)(c22v121:Int)(c23v122:Int)(c24v123:Int)(c25v124:Int)(c26v125:Int)(c50v126:ByteArray)(c51v127:ByteArray)(c62v128:Int)(c63v129:Int)(c92v130:Int)(c93v131:Int)=>
 some false) λo=>
 ai (λ(c21v133:Int)(c22v134:Int)(c23v135:Int)(c24v136:Int)(c25v137:Int)(c26v138:Int)(c50v139:ByteArray)(c51v140:ByteArray)(c62v141:Int)(c63v142:Int)(c92v143:Int)(c93v144:Int)=>
 some false) λp=>
 ai (λ(c21v146:Int)(c22v147:Int)(c23v148:Int)(c24v149:Int)(c25v150:Int)(c26v151:Int)(c50v152:ByteArray)(c51v153:ByteArray)(c62v154:Int)(c63v155:Int)(c92v156:Int)(c93v157:Int)=>
 some false) λt=>
 ai (λ(c21v159:Int)(c22v160:Int)(c23v161:Int)(c24v162:Int)(c25v163:Int)(c26v164:Int)(c50v165:ByteArray)(c51v166:ByteArray)=>
 (g c21v159 c22v160 c23v161 c24v162 c25v163 c26v164 c50v165 c51v166)) λw=>
 Option.bind (f143 x0.op) λc=>
 Option.bind (f154 c.1.fields) λe=>
 (f110_l1 h j k o p t w c e (Int.toNat ((List.length e:Int) - 0)+1) 0 x0.d x0.a x0.b x0.n x0.m x0.to)) λx=>
 (x ())))
def f111(y0:eR):Bool:=
 (!decide (y0.op=29))
def f112(t0:aM)(a:Int)(n2:Int):Option (Int×Bool):=
 Option.bind (bif (((decide (a<0))||(decide (a≥(List.length t0.text.tasks:Int))))||(decide (n2<0))) then some true else(Option.bind (idx t0.text.tasks a) λd=>some (decide (n2≥(List.length d.entries:Int))))) λe=>
 (bif e then some (0,false) else Option.bind (idx t0.text.tasks a) λf=>
 Option.bind (idx f.entries n2) λc=>
 some ((IntKind.i64.wrap ((IntKind.i64.wrap ((List.length c.ins:Int)+(List.length c.outs:Int)))+1)),true))
def f113(t0:aM)(p1:Int)(n2:Int):oB:=
 Option.bind (bif (((decide (p1≥0))&&(decide (p1<(List.length t0.text.prots:Int))))&&(decide (n2≥0))) then(Option.bind (idx t0.text.prots p1) λa=>some (decide (n2<(List.length a.barriers:Int)))) else some false) λc=>
 some c
def f67(t0:aM)(x1:eR):oB:=
 Option.bind (f110 x1) λj=>
 (bif (!j) then some false else ai (λ(k:Bool)=>
 (bif k then Option.bind (f96 t0 x1.n x1.m 1) λo=>
 some o else ai (λ(p:Bool)=>
 (bif p then Option.bind (f96 t0 x1.n x1.m x1.b) λt=>
 some t else ai (λ(w:Bool)=>
 (bif w then some (f98 t0 x1.to) else(bif (decide (x1.op=32)) then Option.bind (bif (decide ((IntKind.i64.wrap (x1.to+x1.m))≤(List.length t0.text.insns:Int))) then(aR (co t0.text.insns x1.to (IntKind.i64.wrap (x1.to+x1.m)))<|Option.bind (f65 (dW t0.text.insns x1.to (IntKind.i64.wrap (x1.to+x1.m))) (λz0=>some (f111 z0))) λx=>some (!x)) else some false) λy=>
 some y else(bif (decide (x1.op=33)) then some (decide (x1.n≤t0.text.excs)) else ai (λ(A:Bool)=>
 (bif A then some (decide (x1.n<(List.length t0.text.lists:Int))) else(bif (decide (x1.op=50)) then some (decide (x1.n<(List.length t0.text.selects:Int))) else(bif (decide (x1.op=49)) then Option.bind (f112 t0 x1.a x1.b) λe=>
 Option.bind (bif e.2 then(Option.bind (f96 t0 x1.n 0 e.1) λB=>some B) else some false) λC=>
 some C else(bif (decide (x1.op=52)) then Option.bind (f112 t0 x1.a x1.b) λE=>
 some (E.2&&(decide (x1.to<(List.length t0.text.insns:Int)))) else ai (λ(F:Bool)=>
 (bif F then some (decide (x1.n<(List.length t0.text.prots:Int))) else(bif (decide (x1.op=54)) then Option.bind (f113 t0 x1.n x1.m) λG=>
 some G else(bif (decide (x1.op=43)) then Option.bind (bif (decide (x1.m<0)) then some true else(Option.bind (f113 t0 x1.m x1.n) λH=>some H)) λI=>
 some I else some true)))) λf=>
 (bif (decide (x1.op=53)) then(f (decide (x1.op=53))) else(f (decide (x1.op=55))))))))) λc=>
 (bif (decide (x1.op=44)) then(c (decide (x1.op=44))) else(bif (decide (x1.op=45)) then(c (decide (x1.op=45))) else(bif (decide (x1.op=46)) then(c (decide (x1.op=46))) else(c (decide (x1.op=56)))))))))) λd=>
 (bif (decide (x1.op=29)) then(d (decide (x1.op=29))) else(bif (decide (x1.op=30)) then(d (decide (x1.op=30))) else(d (decide (x1.op=31))))))) λg=>
 (bif (decide (x1.op=5)) then(g (decide (x1.op=5))) else(g (decide (x1.op=6)))))) λh=>
 (bif (decide (x1.op=3)) then(h (decide (x1.op=3))) else(h (decide (x1.op=4)))))
def f31_l1(t0:oe)(c:Int→oB)(d:Unit→oB):Nat→Int→oB
 |0,_=>none
 |n+1,a=>
 (bif (decide (a<(List.length t0.insns:Int))) then Option.bind (idx t0.insns a) λe=>
 ai (λ(f:Bool)=>
 (bif f then(c a) else(f31_l1 t0 c d n (IntKind.i64.wrap (a+1))))) λg=>
 Option.bind (f67 (aM.mk t0) e) λh=>
 (g (!h)) else(d ()))
def f31(t0:oe):oB:=
 (bif ((decide ((List.length t0.insns:Int)<1))||(decide ((List.length t0.insns:Int)>65536))) then some false else Option.bind (idx t0.insns (IntKind.i64.wrap ((List.length t0.insns:Int) - 1))) λa=>
 ai (λ(e:Bool)=>
 (bif e then ai (λ(_:Unit)=>
 ai (λ(f:Bool)=>
 some (!f)) λg=>
 ai (λ(h:Int)=>
 (g (decide (h≥0)))) λd=>
 ai (λ(_:Unit)=>
 (d (-1))) λj=>
 (f31_l1 t0 d j (Int.toNat ((List.length t0.insns:Int) - 0)+1) 0)) λk=>
 Option.bind (f57 (aM.mk t0)) λm=>
 (bif (!m) then some false else Option.bind (f58 (aM.mk t0)) λo=>
 (bif (!o) then some false else Option.bind (f59 (aM.mk t0)) λp=>
 (bif (!p) then some false else Option.bind (f60 (aM.mk t0)) λt=>
 (bif (!t) then some false else Option.bind (f61 (aM.mk t0)) λw=>
 (bif (!w) then some false else Option.bind (f62 (aM.mk t0)) λx=>
 (bif (!x) then some false else Option.bind (f63 (aM.mk t0)) λy=>
 (bif (!y) then some false else Option.bind (f64 (aM.mk t0)) λA=>
 (bif (!A) then some false else(k ()))))))))) else some false)) λc=>
 (bif (decide (a.op=29)) then(c (decide (a.op=29))) else(bif (decide (a.op=33)) then(c (decide (a.op=33))) else(bif (decide (a.op=34)) then(c (decide (a.op=34))) else(c (decide (a.op=57)))))))
abbrev sN:AV:= .d (.v (.slice none 0 0))
abbrev _root_.Go.Sk.AO.z:AO:= .dead
abbrev txA(t:oe):lV:=[.l E64 t.insns, .l cy t.handlers, .l dy t.loops, .l dl t.selects, .l E43 t.lists, .l cQ t.objs, .l dG t.inits, .n t.excs, .l E67 t.tasks, .l cK t.prots, .l dF t.checks]
abbrev txV(a:lN)(b:lH)(c:lP)(d:lS)(e:lL)(f:lO)(g:lT)(h:Int)(i:lK)(j:lM)(k:lC):lV:=[.l E64 a, .l cy b, .l dy c, .l dl d, .l E43 e, .l cQ f, .l dG g, .n h, .l E67 i, .l cK j, .l dF k]
end Go.Proofs.YtpodhdopgcedlaaGreatDoor
