/- Part of the proof. -/
import Derived.Test.YtpodhdopgcedlaaGreatDoorE
set_option linter.unusedVariables false
set_option linter.unusedSimpArgs false
set_option linter.unusedSectionVars false
set_option linter.unnecessarySimpa false
namespace Go.Proofs.YtpodhdopgcedlaaGreatDoor
open Go Go.Sk
structure Pr2 where
 e0:Int
 e1:Int
structure al where
 from_:Int
 to:Int
 next:List Int
structure Field where
 name:Int
 lo:Int
 hi:Int
structure Row where
 op:Int
 name:ByteArray
 fields:List Field
structure aR where
 op:Int
 d:Int
 a:Int
 b:Int
 n:Int
 m:Int
 to:Int
structure aQ where
 from_:Int
 to:Int
 at_:Int
 clean:Bool
structure Loop where
 head:Int
 back:Int
 bound:Int
structure jq where
 kind:Int
 entry:Int
 guard:Int
 time:Int
 at_:Int
structure cg where
 alts:List jq
 obj:Int
 else_:Int
structure Obj where
 size:Int
 lo:Int
 hi:Int
 ptr:Bool
 set_:List Int
structure ed where
 o:Int
 slot:Int
 v:Int
structure bG where
 ins:List Int
 outs:List Int
structure fh where
 prio:Int
 at_:Int
 entries:List bG
 deadline:Int
structure aL where
 kind:Int
 op:Int
 n:Int
 o:Int
 off:Int
 len:Int
 lo:Int
 hi:Int
 l:List aL
structure eR where
 ceiling:Int
 barriers:List aL
structure d6 where
 at_:Int
 kind:Int
structure ah where
 insns:List aR
 handlers:List aQ
 loops:List Loop
 selects:List cg
 lists:List (List Int)
 objs:List Obj
 inits:List ed
 excs:Int
 tasks:List fh
 prots:List eR
 checks:List d6
structure bp where
 text:ah
structure Judge where
 jb:bp
 entries:Int
 left:Int
structure Spot where
 o:Int
 slot:Int
structure ic where
 name:ByteArray
 fields:ByteArray
abbrev R64(x:aR):List D:=[.i .u8 x.op, .i .i64 x.d, .i .i64 x.a, .i .i64 x.b, .i .i64 x.n, .i .i64 x.m, .i .i64 x.to]
abbrev E64(x:aR):List D:=R64 x
theorem ef(x:aR):E64 x=R64 x:=rfl
abbrev wa(x:aQ):List D:=[.i .i64 x.from_, .i .i64 x.to, .i .i64 x.at_, .b x.clean]
abbrev cB(x:aQ):List D:=wa x
theorem iw(x:aQ):cB x=wa x:=rfl
abbrev R142(x:Loop):List D:=[.i .i64 x.head, .i .i64 x.back, .i .i64 x.bound]
abbrev dA(x:Loop):List D:=R142 x
theorem oO(x:Loop):dA x=R142 x:=rfl
abbrev rm(x:jq):List D:=[.i .u8 x.kind, .i .i64 x.entry, .i .i64 x.guard, .i .i64 x.time, .i .i64 x.at_]
abbrev d4(x:jq):List D:=rm x
theorem oQ(x:jq):d4 x=rm x:=rfl
abbrev R101(x:cg):List D:=[.sl (List.map d4 x.alts), .i .i64 x.obj, .i .i64 x.else_]
abbrev dl(x:cg):List D:=R101 x
theorem oR(x:cg):dl x=R101 x:=rfl
abbrev E3(x:Int):List D:=[.i .i64 x]
theorem aZ(x:Int):E3 x=[.i .i64 x]:=rfl
abbrev E43(x:List Int):List D:=[.sl (List.map E3 x)]
theorem kO(x:List Int):E43 x=[.sl (List.map E3 x)]:=rfl
abbrev mY(x:Obj):List D:=[.i .i64 x.size, .i .i64 x.lo, .i .i64 x.hi, .b x.ptr, .sl (List.map E3 x.set_)]
abbrev cN(x:Obj):List D:=mY x
theorem cK(x:Obj):cN x=mY x:=rfl
abbrev R121(x:ed):List D:=[.i .i64 x.o, .i .i64 x.slot, .i .i64 x.v]
abbrev dI(x:ed):List D:=R121 x
theorem lA(x:ed):dI x=R121 x:=rfl
abbrev tT(x:bG):List D:=[.sl (List.map E3 x.ins), .sl (List.map E3 x.outs)]
abbrev jt(x:bG):List D:=tT x
theorem j6(x:bG):jt x=tT x:=rfl
abbrev R67(x:fh):List D:=[.i .i64 x.prio, .i .i64 x.at_, .sl (List.map jt x.entries), .i .i64 x.deadline]
abbrev E67(x:fh):List D:=R67 x
theorem kN(x:fh):E67 x=R67 x:=rfl
abbrev lI:=List Int
abbrev lL:=List (List Int)
abbrev lN:=List aR
abbrev lH:=List aQ
abbrev lO:=List Obj
abbrev lD:=List D
abbrev lV:=List AV
abbrev lW:=List AO
abbrev oB:=Option Bool
abbrev lP:=List Loop
abbrev lS:=List cg
abbrev lT:=List ed
abbrev lK:=List fh
abbrev lM:=List eR
abbrev lC:=List d6
abbrev fD:=Field.mk
abbrev bA:=ByteArray.mk

mutual
def dh:aL→lD
 | .mk kind op n o off len lo hi l=> [.i .u8 kind, .i .u8 op, .i .i64 n, .i .i64 o, .i .i64 off, .i .i64 len, .i .i64 lo, .i .i64 hi, .sl (E134s l)]
def E134s:List aL→List lD
 |[]=> []
 |e::l=>dh e::E134s l
end
abbrev kL(x:aL):lD:=[.i .u8 x.kind, .i .u8 x.op, .i .i64 x.n, .i .i64 x.o, .i .i64 x.off, .i .i64 x.len, .i .i64 x.lo, .i .i64 x.hi, .sl (List.map dh x.l)]
theorem qo:∀l,E134s l=List.map dh l
 |[]=>rfl
 |e::l=>by rw[E134s,qo l];rfl
theorem iy(x:aL):dh x=kL x:=by
 cases x;simp only[dh,qo]
abbrev R129(x:eR):lD:=[.i .i64 x.ceiling, .sl (List.map dh x.barriers)]
abbrev cM(x:eR):lD:=R129 x
theorem lz(x:eR):cM x=R129 x:=rfl
abbrev R137(x:d6):lD:=[.i .i64 x.at_, .i .u8 x.kind]
abbrev d2(x:d6):lD:=R137 x
theorem oP(x:d6):d2 x=R137 x:=rfl
abbrev R33(x:ah):lD:=[.sl (List.map E64 x.insns), .sl (List.map cB x.handlers), .sl (List.map dA x.loops), .sl (List.map dl x.selects), .sl (List.map E43 x.lists), .sl (List.map cN x.objs), .sl (List.map dI x.inits), .i .i64 x.excs, .sl (List.map E67 x.tasks), .sl (List.map cM x.prots), .sl (List.map d2 x.checks)]
abbrev E33(x:ah):lD:=R33 x
abbrev R50(x:Pr2):lD:=[.i .i64 x.e0, .i .i64 x.e1]
abbrev E50(x:Pr2):lD:=R50 x
theorem ro(x:Pr2):E50 x=R50 x:=rfl
abbrev R55(x:al):lD:=[.i .i64 x.from_, .i .i64 x.to, .sl (List.map E3 x.next)]
abbrev E55(x:al):lD:=R55 x
theorem cJ(x:al):E55 x=R55 x:=rfl
abbrev R90(x:bp):lD:=[.sl (List.map E64 x.text.insns), .sl (List.map cB x.text.handlers), .sl (List.map dA x.text.loops), .sl (List.map dl x.text.selects), .sl (List.map E43 x.text.lists), .sl (List.map cN x.text.objs), .sl (List.map dI x.text.inits), .i .i64 x.text.excs, .sl (List.map E67 x.text.tasks), .sl (List.map cM x.text.prots), .sl (List.map d2 x.text.checks)]
abbrev R194(x:Field):lD:=[.i .u8 x.name, .i .i64 x.lo, .i .i64 x.hi]
abbrev wg(x:Field):lD:=R194 x
theorem aB(x:Field):wg x=R194 x:=rfl
abbrev xY(x:Row):lD:=[.i .u8 x.op, .s x.name, .sl (List.map wg x.fields)]
abbrev yc(x:Row):lD:=xY x
theorem oN(x:Row):yc x=xY x:=rfl
abbrev Az(x:ic):lD:=[.s x.name, .s x.fields]
abbrev E4(x:Bool):lD:=[.b x]
abbrev E36(x:List al):lD:=[.sl (List.map E55 x)]
abbrev E2(x:Int):lD:=[.i .i64 x]
abbrev E9(x:ByteArray):lD:=[.s x]
theorem yM(x:ByteArray):E9 x=[.s x]:=rfl
abbrev E62(x:Int):lD:=[.i .u8 x]
def jM:List ic:=n5.map λp=>⟨p.1,p.2⟩
theorem oh:gpc 0=some (jM.flatMap Az):=by
 unfold jM
 rw[List.flatMap_map]
 rfl
def f131(x0:Int)(y1:Int):Int×Int:=
 ((IntKind.u64.wrap ((IntKind.u64.wrap ((IntKind.u64.wrap ((Int.fdiv x0 (2^min (Int.toNat 32) IntKind.u64.bits))*(Int.fdiv y1 (2^min (Int.toNat 32) IntKind.u64.bits))))+(Int.fdiv (IntKind.u64.wrap ((IntKind.u64.wrap ((Int.fdiv x0 (2^min (Int.toNat 32) IntKind.u64.bits))*(IntKind.u64.wrap (BitVec.ofInt IntKind.u64.bits y1&&&BitVec.ofInt IntKind.u64.bits 4294967295).toNat)))+(Int.fdiv (IntKind.u64.wrap ((IntKind.u64.wrap (BitVec.ofInt IntKind.u64.bits x0&&&BitVec.ofInt IntKind.u64.bits 4294967295).toNat)*(IntKind.u64.wrap (BitVec.ofInt IntKind.u64.bits y1&&&BitVec.ofInt IntKind.u64.bits 4294967295).toNat))) (2^min (Int.toNat 32) IntKind.u64.bits)))) (2^min (Int.toNat 32) IntKind.u64.bits))))+(Int.fdiv (IntKind.u64.wrap ((IntKind.u64.wrap (BitVec.ofInt IntKind.u64.bits (IntKind.u64.wrap ((IntKind.u64.wrap ((Int.fdiv x0 (2^min (Int.toNat 32) IntKind.u64.bits))*(IntKind.u64.wrap (BitVec.ofInt IntKind.u64.bits y1&&&BitVec.ofInt IntKind.u64.bits 4294967295).toNat)))+(Int.fdiv (IntKind.u64.wrap ((IntKind.u64.wrap (BitVec.ofInt IntKind.u64.bits x0&&&BitVec.ofInt IntKind.u64.bits 4294967295).toNat)*(IntKind.u64.wrap (BitVec.ofInt IntKind.u64.bits y1&&&BitVec.ofInt IntKind.u64.bits 4294967295).toNat))) (2^min (Int.toNat 32) IntKind.u64.bits))))&&&BitVec.ofInt IntKind.u64.bits 4294967295).toNat)+(IntKind.u64.wrap ((IntKind.u64.wrap (BitVec.ofInt IntKind.u64.bits x0&&&BitVec.ofInt IntKind.u64.bits 4294967295).toNat)*(Int.fdiv y1 (2^min (Int.toNat 32) IntKind.u64.bits)))))) (2^min (Int.toNat 32) IntKind.u64.bits)))),(IntKind.u64.wrap (x0*y1)))
def f82(x0:Int)(y1:Int):Int×Int:=
 ((f131 x0 y1).1,(f131 x0 y1).2)
def f81s_l1(h:(List al)→(List Bool)→lI→lI→Int→Option ((List al)×(List Bool)×lI×lI))(j:(List Bool)→lI→lI→(List al)→Option ((List al)×(List Bool)×lI×lI))(d:al):Nat→Int→(List Bool)→lI→lI→(List al)→Option ((List al)×(List Bool)×lI×lI)
 |0,_,_,_,_,_=>none
 |n+1,e,a,f,g,c10v67=>
 (bif (decide (e<(List.length d.next:Int))) then ak (λ(p:List Bool)(r:lI)(t:lI)(c10v82:List al)=>
 (f81s_l1 h j d n (IntKind.i64.wrap (e+1)) p r t c10v82)) λk=>
 Option.bind (idx d.next e) λm=>
 Option.bind (idx a m) λw=>
 (bif (!w) then Option.bind (h c10v67 a f g m) λc=>
 (k c.2.1 c.2.2.1 c.2.2.2 c.1) else(k a f g c10v67)) else(j a f g c10v67))
def f81s(e:(List al)→(List Bool)→lI→lI→Int→Option ((List al)×(List Bool)×lI×lI))(bb:List al)(seen:List Bool)(l:lI)(pl:lI)(n0:Int):Option ((List al)×(List Bool)×lI×lI):=
 Option.bind (idx seen n0) λh=>
 ak (λ(f:List Bool)(a:lI)(c:lI)(c10v49:List al)=>
 Option.bind (idx c n0) λj=>
 aO (bw 8 a [n0])<|
 some (c10v49,f,(a++ [n0]),(List.set c (Int.toNat n0) (List.length a:Int)))) λg=>
 Option.bind (idx bb n0) λd=>
 (f81s_l1 e g d (Int.toNat ((List.length d.next:Int) - 0)+1) 0 (List.set seen (Int.toNat n0) true) l pl bb)
def f81:Nat→(List al)→(List Bool)→lI→lI→Int→Option ((List al)×(List Bool)×lI×lI)
 |0=>λ_ _ _ _ _=>none
 |n+1=>f81s (f81 n)
def f46o_l1(d:lI→Option lI):Nat→Int→lI→Option lI
 |0,_,_=>none
 |n+1,c,a=>
 (bif (decide (c<(List.length a:Int))) then aO (bT a c (List.length a:Int))<|
 aO (bT a 0 c)<|
 aO (ip a (Int.toNat 0) (Int.toNat c - Int.toNat 0))<|
 aO (ip a (Int.toNat c) (Int.toNat (List.length a:Int) - Int.toNat c))<|
 (f46o_l1 d n (IntKind.i64.wrap (c+((Nat.min (List.length (List.take (Int.toNat c - Int.toNat 0) (List.drop (Int.toNat 0) a))) (Int.toNat (List.length a:Int) - Int.toNat c):Nat):Int))) (nz a (Int.toNat c) (Int.toNat (List.length a:Int) - Int.toNat c) (List.take (Int.toNat c - Int.toNat 0) (List.drop (Int.toNat 0) a)))) else(d a))
def f46o(x0:lI)(a:Int):Option lI:=
 (bif (decide (a<0)) then none else(bif ((decide (((f82 (IntKind.u64.wrap (List.length x0:Int)) (IntKind.u64.wrap a)).1)>0))||(decide (((f82 (IntKind.u64.wrap (List.length x0:Int)) (IntKind.u64.wrap a)).2)>9223372036854775807))) then none else aO (mh 8 (IntKind.i64.wrap ((f82 (IntKind.u64.wrap (List.length x0:Int)) (IntKind.u64.wrap a)).2)))<|
 ak (λ(c:lI)=>
 some c) λd=>
 (f46o_l1 d 9223372036854775808 ((Nat.min (List.length x0) (List.length (List.replicate (Int.toNat (IntKind.i64.wrap ((f82 (IntKind.u64.wrap (List.length x0:Int)) (IntKind.u64.wrap a)).2))) (0:Int))):Nat):Int) (nz (List.replicate (Int.toNat (IntKind.i64.wrap ((f82 (IntKind.u64.wrap (List.length x0:Int)) (IntKind.u64.wrap a)).2))) (0:Int)) 0 (List.length (List.replicate (Int.toNat (IntKind.i64.wrap ((f82 (IntKind.u64.wrap (List.length x0:Int)) (IntKind.u64.wrap a)).2))) (0:Int))) x0))))
def f45(b0:List al):Option (lI×lI):=
 Option.bind (f46o [(-1)] (List.length b0:Int)) λc=>
 aO (mh 1 (List.length b0:Int))<|
 ak (λ(e:lI)(g:List Bool)(f:lI)(c00v37:List al)=>
 some (f,e)) λd=>
 (bif (decide ((List.length b0:Int)>0)) then Option.bind (f81 100 b0 (List.replicate (Int.toNat (List.length b0:Int)) (false:Bool)) [] c 0) λa=>
 (d a.2.2.2 a.2.1 a.2.2.1 a.1) else(d c (List.replicate (Int.toNat (List.length b0:Int)) (false:Bool)) [] b0))
def f34(l:lI):Option lI:=aO (decide (l.length<4611686018427387904)) (some (l.mergeSort λx y=>decide (x≤y)))
def f41(l:lI):Option lI:=some (Lib.compact l)
def f40o(s0:lI):Option lI:=aO (bw 8 [] s0) (some s0)
def f80(n0:Int)(a:List al):Bool:=
 ((decide (n0<0))||(decide (n0≥(List.length a:Int))))
def f129_l1(s0:lI)(c:Int→oB)(d:Unit→Option (Int)):Nat→Int→Option (Int)
 |0,_=>none
 |n+1,a=>
 (bif (decide (a<(List.length s0:Int))) then Option.bind (idx s0 a) λe=>
 Option.bind (c e) λf=>
 (bif f then some a else(f129_l1 s0 c d n (IntKind.i64.wrap (a+1)))) else(d ()))
def f129(s0:lI)(a:Int→oB):Option Int:=
 ak (λ(_:Unit)=>
 some (-1)) λc=>
 (f129_l1 s0 a c (Int.toNat ((List.length s0:Int) - 0)+1) 0)
def f79(s0:lI)(a:Int→oB):oB:=
 Option.bind (f129 s0 a) λc=>
 some (decide (c≥0))
def f78(x0:al)(a:List al):oB:=
 Option.bind (f79 x0.next (λz0=>some (f80 z0 a))) λc=>
 some c
def f128_l1(s0:List al)(c:al→oB)(d:Unit→Option (Int)):Nat→Int→Option (Int)
 |0,_=>none
 |n+1,a=>
 (bif (decide (a<(List.length s0:Int))) then Option.bind (idx s0 a) λe=>
 Option.bind (c e) λf=>
 (bif f then some a else(f128_l1 s0 c d n (IntKind.i64.wrap (a+1)))) else(d ()))
def f128(s0:List al)(a:al→oB):Option Int:=
 ak (λ(_:Unit)=>
 some (-1)) λc=>
 (f128_l1 s0 a c (Int.toNat ((List.length s0:Int) - 0)+1) 0)
def f77(s0:List al)(a:al→oB):oB:=
 Option.bind (f128 s0 a) λc=>
 some (decide (c≥0))
def f44(b0:List al):oB:=
 Option.bind (f77 b0 λz0=>f78 z0 b0) λr9=>
 some (!r9)
def f42_l1(c:lI)(d1:Int)(d:Int→oB):Nat→Int→oB
 |0,_=>none
 |n+1,a=>
 (bif ((decide (a≥0))&&(!decide (a=d1))) then Option.bind (idx c a) λe=>
 (f42_l1 c d1 d n e) else(d a))
def f42(a:lI)(d1:Int)(n2:Int):oB:=
 ak (λ(c:Int)=>
 some (decide (c=d1))) λd=>
 (f42_l1 a d1 d 9223372036854775808 n2)
def f19_l2(f:lL→Option lI)(a:Int)(c:al):Nat→Int→lL→Option lI
 |0,_,_=>none
 |na+1,d,e=>
 (bif (decide (d<(List.length c.next:Int))) then Option.bind (idx c.next d) λg=>
 Option.bind (idx e g) λh=>
 aO (bw 8 h [a])<|
 (f19_l2 f a c na (IntKind.i64.wrap (d+1)) (List.set e (Int.toNat g) (h++ [a]))) else(f e))
def f19_l1(b0:List al)(a:lI×lI)(d:lL→Option lI):Nat→Int→lL→Option lI
 |0,_,_=>none
 |n+1,c,e=>
 (bif (decide (c<(List.length a.1:Int))) then ak (λ(h:lL)=>
 (f19_l1 b0 a d n (IntKind.i64.wrap (c+1)) h)) λj=>
 Option.bind (idx a.1 c) λf=>
 Option.bind (idx b0 f) λg=>
 (f19_l2 j f g (Int.toNat ((List.length g.next:Int) - 0)+1) 0 e) else(d e))
def f19_l6(c:lI×lI)(d:lI)(f:Int→Option lI):Nat→Int→Int→Option lI
 |0,_,_=>none
 |nc+1,a,e=>
 (bif (!decide (a=e)) then Option.bind (idx c.2 a) λg=>
 Option.bind (idx c.2 e) λh=>
 (bif (decide (g<h)) then Option.bind (idx d a) λj=>
 (f19_l6 c d f nc j e) else Option.bind (idx d e) λk=>
 (f19_l6 c d f nc a k)) else(f a))
def f19_l5(h:lI×lI)(c:lI)(j:Int)(k:Int→Option lI)(d:lI):Nat→Int→Int→Option lI
 |0,_,_=>none
 |nb+1,a,e=>
 (bif (decide (e<(List.length d:Int))) then ak (λ(m:Int)=>
 (f19_l5 h c j k d nb m (IntKind.i64.wrap (e+1)))) λf=>
 Option.bind (idx d e) λg=>
 Option.bind (bif (decide (j=0)) then some true else(Option.bind (idx c g) λp=>some (decide (p<0)))) λr=>
 (bif r then(f a) else(bif (decide (a<0)) then(f g) else ak (λ(t:Int)=>
 (f t)) λw=>
 ak (λ(x:Int)=>
 (w x)) λy=>
 (f19_l6 h c y 9223372036854775808 a g))) else(k a))
def f19_l4(d:lI×lI)(f:lL)(g:lI→Bool→Option lI):Nat→Int→lI→Bool→Option lI
 |0,_,_,_=>none
 |na+1,e,a,c80v180=>
 (bif (decide (e≥0)) then Option.bind (idx d.1 e) λc=>
 ak (λ(m:lI)(c80v187:Bool)=>
 (f19_l4 d f g na (IntKind.i64.wrap (e - 1)) m c80v187)) λh=>
 ak (λ(j:Int)=>
 Option.bind (bif (!decide (c=0)) then(Option.bind (idx a c) λp=>some (!decide (p=j))) else some false) λr=>
 (bif r then Option.bind (idx a c) λw=>
 (h (List.set a (Int.toNat c) j) true) else(h a c80v180))) λt=>
 Option.bind (idx f c) λk=>
 (f19_l5 d a c t k (Int.toNat ((List.length k:Int) - 0)+1) (-1) 0) else(g a c80v180))
def f19_l3(a:lI×lI)(c:lL)(d:lI→Bool→Option lI):Nat→lI→Bool→Option lI
 |0,_,_=>none
 |n+1,e,c80v163=>
 (bif c80v163 then ak (λ(f:lI)(c80v167:Bool)=>
 (f19_l3 a c d n f c80v167)) λg=>
 ak (λ(_:Unit)=>
 ak (λ(h:lI)(c80v173:Bool)=>
 (g h c80v173)) λj=>
 (f19_l4 a c j (Int.toNat ((IntKind.i64.wrap ((List.length a.1:Int) - 1))+1)+1) (IntKind.i64.wrap ((List.length a.1:Int) - 1)) e false)) λk=>
 (k ()) else(d e c80v163))
def f19(b0:List al):Option lI:=
 Option.bind (f44 b0) λe=>
 (bif ((!e)||(decide ((List.length b0:Int)=0))) then some [] else Option.bind (f45 b0) λa=>
 aO (mh 24 (List.length b0:Int))<|
 ak (λ(f:lL)=>
 Option.bind (f46o [(-1)] (List.length b0:Int)) λc=>
 Option.bind (idx c 0) λj=>
 ak (λ(d:lI)(c80v158:Bool)=>
 Option.bind (idx d 0) λk=>
 some (List.set d (Int.toNat 0) (-1))) λg=>
 (f19_l3 a f g 9223372036854775808 (List.set c (Int.toNat 0) 0) true)) λh=>
 (f19_l1 b0 a h (Int.toNat ((List.length a.1:Int) - 0)+1) 0 (List.replicate (Int.toNat (List.length b0:Int)) ([]:lI))))
def f17_l2(d:lI)(a:Int)(h:(List Pr2)→Option (List Pr2))(e:lI):Nat→Int→(List Pr2)→Option (List Pr2)
 |0,_,_=>none
 |na+1,f,c=>
 (bif (decide (f<(List.length e:Int))) then ak (λ(k:List Pr2)=>
 (f17_l2 d a h e na (IntKind.i64.wrap (f+1)) k)) λj=>
 Option.bind (idx e f) λg=>
 Option.bind (bif (decide (a=0)) then some true else(Option.bind (idx d a) λm=>some (decide (m≥0)))) λp=>
 Option.bind (bif p then(Option.bind (f42 d g a) λr=>some r) else some false) λt=>
 (bif t then aO (bw 16 c [(Pr2.mk a g)])<|
 (j (c++ [(Pr2.mk a g)])) else(j c)) else(h c))
def f17_l1(b0:List al)(c:lI)(d:(List Pr2)→Option (List Pr2)):Nat→Int→(List Pr2)→Option (List Pr2)
 |0,_,_=>none
 |n+1,a,e=>
 (bif (decide (a<(List.length c:Int))) then ak (λ(g:List Pr2)=>
 (f17_l1 b0 c d n (IntKind.i64.wrap (a+1)) g)) λh=>
 Option.bind (idx b0 a) λj=>
 Option.bind (f40o j.next) λk=>
 Option.bind (f34 k) λm=>
 Option.bind (f41 m) λf=>
 (f17_l2 c a h f (Int.toNat ((List.length f:Int) - 0)+1) 0 e) else(d e))
def f17(b0:List al):Option (List Pr2):=
 Option.bind (f19 b0) λa=>
 ak (λ(c:List Pr2)=>
 some c) λd=>
 (f17_l1 b0 a d (Int.toNat ((List.length a:Int) - 0)+1) 0 [])
def f21_l2(f:lI)(a:Int)(g:lL→Option lI)(d:al):Nat→Int→lL→Option lI
 |0,_,_=>none
 |na+1,e,c=>
 (bif (decide (e<(List.length d.next:Int))) then ak (λ(m:lL)=>
 (f21_l2 f a g d na (IntKind.i64.wrap (e+1)) m)) λh=>
 Option.bind (idx d.next e) λj=>
 Option.bind (bif (decide (a=0)) then some true else(Option.bind (idx f a) λp=>some (decide (p≥0)))) λr=>
 (bif r then Option.bind (idx c j) λk=>
 aO (bw 8 k [a])<|
 (h (List.set c (Int.toNat j) (k++ [a]))) else(h c)) else(g c))
def f21_l1(b0:List al)(c:lI)(d:lL→Option lI):Nat→Int→lL→Option lI
 |0,_,_=>none
 |n+1,a,e=>
 (bif (decide (a<(List.length c:Int))) then ak (λ(g:lL)=>
 (f21_l1 b0 c d n (IntKind.i64.wrap (a+1)) g)) λh=>
 Option.bind (idx b0 a) λf=>
 (f21_l2 c a h f (Int.toNat ((List.length f.next:Int) - 0)+1) 0 e) else(d e))
def f21_l3(c:Int)(h:(List (Int×Bool))→lI→Option lI)(d:List Pr2):Nat→Int→(List (Int×Bool))→lI→Option lI
 |0,_,_,_=>none
 |n+1,e,f,a=>
 (bif (decide (e<(List.length d:Int))) then ak (λ(k:List (Int×Bool))(m:lI)=>
 (f21_l3 c h d n (IntKind.i64.wrap (e+1)) k m)) λj=>
 Option.bind (idx d e) λg=>
 (bif (decide (g.e1=c)) then aO (bw 8 a [g.e0])<|
 (j (aS f c true) (a++ [g.e0])) else(j f a)) else(h f a))
def f21_l4(d:lL)(e:(List (Int×Bool))→lI→Option lI):Nat→(List (Int×Bool))→lI→Option lI
 |0,_,_=>none
 |n+1,c,a=>
 (bif (decide ((List.length a:Int)>0)) then Option.bind (idx a (IntKind.i64.wrap ((List.length a:Int) - 1))) λf=>
 aO (bT a 0 (IntKind.i64.wrap ((List.length a:Int) - 1)))<|
 (bif (!(Option.getD (aA c f) false)) then Option.bind (idx d f) λg=>
 aO (bw 8 (List.take (Int.toNat (IntKind.i64.wrap ((List.length a:Int) - 1))) a) g)<|
 (f21_l4 d e n (aS c f true) ((List.take (Int.toNat (IntKind.i64.wrap ((List.length a:Int) - 1))) a)++g)) else(f21_l4 d e n c (List.take (Int.toNat (IntKind.i64.wrap ((List.length a:Int) - 1))) a))) else(e c a))
def f21_l5(b0:List al)(d:List (Int×Bool))(e:lI→Option lI):Nat→Int→lI→Option lI
 |0,_,_=>none
 |n+1,a,c=>
 (bif (decide (a<(List.length b0:Int))) then ak (λ(g:lI)=>
 (f21_l5 b0 d e n (IntKind.i64.wrap (a+1)) g)) λf=>
 (bif (Option.getD (aA d a) false) then aO (bw 8 c [a])<|
 (f (c++ [a])) else(f c)) else(e c))
def f21(b0:List al)(d:Int):Option lI:=
 aO (mh 24 (List.length b0:Int))<|
 Option.bind (f19 b0) λa=>
 ak (λ(e:lL)=>
 ak (λ(f:List (Int×Bool))(g:lI)=>
 ak (λ(h:List (Int×Bool))(t:lI)=>
 ak (λ(j:lI)=>
 some j) λk=>
 (f21_l5 b0 h k (Int.toNat ((List.length b0:Int) - 0)+1) 0 [])) λm=>
 (f21_l4 e m 9223372036854775808 f g)) λp=>
 Option.bind (f17 b0) λc=>
 (f21_l3 d p c (Int.toNat ((List.length c:Int) - 0)+1) 0 ([]:List (Int×Bool)) [])) λr=>
 (f21_l1 b0 a r (Int.toNat ((List.length a:Int) - 0)+1) 0 (List.replicate (Int.toNat (List.length b0:Int)) ([]:lI)))
def f23_l1(d:(List ((Int×Int)×Bool))→oB)(a:List Pr2):Nat→Int→(List ((Int×Int)×Bool))→oB
 |0,_,_=>none
 |n+1,c,e=>
 (bif (decide (c<(List.length a:Int))) then Option.bind (idx a c) λf=>
 (f23_l1 d a n (IntKind.i64.wrap (c+1)) (aS e (f.e0,f.e1) true)) else(d e))
def f23_l3(e:List ((Int×Int)×Bool))(f:lI×lI)(g:Int)(h:Unit→oB)(a:Int)(c:al):Nat→Int→oB
 |0,_=>none
 |na+1,d=>
 (bif (decide (d<(List.length c.next:Int))) then Option.bind (idx c.next d) λj=>
 Option.bind (bif (decide (a≥0)) then(Option.bind (idx f.2 j) λk=>some (decide (k≥a))) else some false) λm=>
 (bif (m&&(!(Option.getD (aA e (g,j)) false))) then some false else(f23_l3 e f g h a c na (IntKind.i64.wrap (d+1)))) else(h ()))
def f23_l2(b0:List al)(d:List ((Int×Int)×Bool))(c:lI×lI)(e:Unit→oB):Nat→Int→oB
 |0,_=>none
 |n+1,a=>
 (bif (decide (a<(List.length c.2:Int))) then ak (λ(_:Unit)=>
 (f23_l2 b0 d c e n (IntKind.i64.wrap (a+1)))) λg=>
 Option.bind (idx c.2 a) λh=>
 Option.bind (idx b0 a) λf=>
 (f23_l3 d c a g h f (Int.toNat ((List.length f.next:Int) - 0)+1) 0) else(e ()))
def f23(b0:List al):oB:=
 Option.bind (f44 b0) λd=>
 (bif (!d) then some false else ak (λ(e:List ((Int×Int)×Bool))=>
 Option.bind (f45 b0) λa=>
 ak (λ(_:Unit)=>
 some true) λf=>
 (f23_l2 b0 e a f (Int.toNat ((List.length a.2:Int) - 0)+1) 0)) λg=>
 Option.bind (f17 b0) λc=>
 (f23_l1 g c (Int.toNat ((List.length c:Int) - 0)+1) 0 ([]:List ((Int×Int)×Bool))))
def f36_l1(l0:lI)(n1:Int)(c:Unit→oB):Nat→Int→oB
 |0,_=>none
 |n+1,a=>
 (bif (decide (a<(List.length l0:Int))) then Option.bind (idx l0 a) λd=>
 (bif (decide (d=n1)) then some true else(f36_l1 l0 n1 c n (IntKind.i64.wrap (a+1)))) else(c ()))
def f36(l0:lI)(n1:Int):oB:=
 ak (λ(_:Unit)=>
 some false) λa=>
 (f36_l1 l0 n1 a 9223372036854775808 0)
def f12_l1(a0:lI)(b1:lI)(c:Unit→oB):Nat→Int→oB
 |0,_=>none
 |n+1,a=>
 (bif (decide (a<(List.length a0:Int))) then Option.bind (idx a0 a) λd=>
 Option.bind (idx b1 a) λe=>
 (bif (!decide (d=e)) then some false else(f12_l1 a0 b1 c n (IntKind.i64.wrap (a+1)))) else(c ()))
def f12(a0:lI)(b1:lI):oB:=
 (bif (!decide ((List.length a0:Int)=(List.length b1:Int))) then some false else ak (λ(_:Unit)=>
 some true) λa=>
 (f12_l1 a0 b1 a 9223372036854775808 0))
def f27_l1(l0:lI)(n1:Int)(c:Unit→oB):Nat→Int→oB
 |0,_=>none
 |n+1,a=>
 (bif (decide (a<(List.length l0:Int))) then Option.bind (idx l0 a) λd=>
 (bif (decide (d=n1)) then some true else(f27_l1 l0 n1 c n (IntKind.i64.wrap (a+1)))) else(c ()))
def f27(l0:lI)(n1:Int):oB:=
 ak (λ(_:Unit)=>
 some false) λa=>
 (f27_l1 l0 n1 a 9223372036854775808 0)
def f9:oB:=some true
def f95_l1(t0:bp)(o1:Obj)(d:Unit→oB):Nat→Int→Int→oB
 |0,_,_=>none
 |n+1,e,c=>
 (bif (decide (c<(List.length o1.set_:Int))) then Option.bind (idx o1.set_ c) λa=>
 Option.bind (bif ((decide (a≤e))||(decide (a≥(List.length t0.text.objs:Int)))) then some true else(Option.bind (idx t0.text.objs a) λf=>some (!decide (f.size=1)))) λg=>
 Option.bind (bif g then some true else(Option.bind (idx t0.text.objs a) λh=>some h.ptr)) λj=>
 (bif j then some false else(f95_l1 t0 o1 d n a (IntKind.i64.wrap (c+1)))) else(d ()))
def f95(t0:bp)(o1:Obj):oB:=
 (bif (((decide (o1.size<1))||(decide (o1.size>16384)))||(decide (o1.lo>o1.hi))) then some false else(bif (!o1.ptr) then some (decide ((List.length o1.set_:Int)=0)) else ak (λ(_:Unit)=>
 some ((decide (o1.lo=0))&&(decide (o1.hi=0)))) λa=>
 (f95_l1 t0 o1 a (Int.toNat ((List.length o1.set_:Int) - 0)+1) (-1) 0)))
def f96(t0:bp)(o1:Int)(a:Int)(c:Int):oB:=
 Option.bind (bif (((decide (o1≥0))&&(decide (o1<(List.length t0.text.objs:Int))))&&(decide (a≥0))) then(Option.bind (idx t0.text.objs o1) λd=>some (decide (a≤(IntKind.i64.wrap (d.size - c))))) else some false) λe=>
 some e
def f135(n0:Int)(a:Int):Bool:=
 (decide ((IntKind.i64.wrap (n0+1))=a))
def f97(o0:Obj)(v1:Int):oB:=
 (bif o0.ptr then Option.bind (bif (decide (v1=0)) then some true else(Option.bind (f79 o0.set_ (λz0=>some (f135 z0 v1))) λa=>some a)) λc=>
 some c else some ((decide (v1≥o0.lo))&&(decide (v1≤o0.hi))))
def f57_l1(t0:bp)(c:Int→oB):Nat→Int→Int→oB
 |0,_,_=>none
 |n+1,d,a=>
 (bif (decide (a<(List.length t0.text.objs:Int))) then Option.bind (idx t0.text.objs a) λe=>
 Option.bind (f95 t0 e) λf=>
 (bif (!f) then some false else(f57_l1 t0 c n (IntKind.i64.wrap (d+e.size)) (IntKind.i64.wrap (a+1)))) else(c d))
def f57_l2(t0:bp)(e:(List ((Int×Int)×Bool))→oB):Nat→Int→(List ((Int×Int)×Bool))→oB
 |0,_,_=>none
 |n+1,c,d=>
 (bif (decide (c<(List.length t0.text.inits:Int))) then Option.bind (idx t0.text.inits c) λa=>
 Option.bind (bif (Option.getD (aA d (a.o,a.slot)) false) then some true else(Option.bind (f96 t0 a.o a.slot 1) λf=>some (!f))) λg=>
 Option.bind (bif g then some true else(Option.bind (idx t0.text.objs a.o) λh=>Option.bind (f97 h a.v) λj=>some (!j))) λk=>
 (bif k then some false else(f57_l2 t0 e n (IntKind.i64.wrap (c+1)) (aS d (a.o,a.slot) true))) else(e d))
def f57(t0:bp):oB:=
 (bif (((decide ((List.length t0.text.objs:Int)>4096))||(decide (t0.text.excs<4)))||(decide (t0.text.excs>64))) then some false else ak (λ(a:Int)=>
 ak (λ(e:List ((Int×Int)×Bool))=>
 some (decide (a≤65536))) λc=>
 (f57_l2 t0 c (Int.toNat ((List.length t0.text.inits:Int) - 0)+1) 0 ([]:List ((Int×Int)×Bool)))) λd=>
 (f57_l1 t0 d (Int.toNat ((List.length t0.text.objs:Int) - 0)+1) 0 0))
def f98(t0:bp)(a1:Int):Bool:=
 ((decide (a1≥0))&&(decide (a1<(List.length t0.text.insns:Int))))
def f136_l1(s0:List bG)(c:bG→oB)(d:Unit→Option (Int)):Nat→Int→Option (Int)
 |0,_=>none
 |n+1,a=>
 (bif (decide (a<(List.length s0:Int))) then Option.bind (idx s0 a) λe=>
 Option.bind (c e) λf=>
 (bif f then some a else(f136_l1 s0 c d n (IntKind.i64.wrap (a+1)))) else(d ()))
def f136(s0:List bG)(a:bG→oB):Option Int:=
 ak (λ(_:Unit)=>
 some (-1)) λc=>
 (f136_l1 s0 a c (Int.toNat ((List.length s0:Int) - 0)+1) 0)
def f99(s0:List bG)(a:bG→oB):oB:=
 Option.bind (f136 s0 a) λc=>
 some (decide (c≥0))
def f137(o0:Int)(a:bp):oB:=
 Option.bind (bif ((decide (o0<0))||(decide (o0≥(List.length a.text.objs:Int)))) then some true else(Option.bind (idx a.text.objs o0) λc=>some (!decide (c.size=1)))) λd=>
 some d
def f101(t0:bp)(l1:lI):oB:=
 Option.bind (bif (decide ((List.length l1:Int)≤8)) then(Option.bind (f79 l1 λz0=>f137 z0 t0) λa=>some (!a)) else some false) λc=>
 some c
def f100(e0:bG)(a:bp):oB:=
 Option.bind (f101 a e0.ins) λc=>
 Option.bind (bif (!c) then some true else(Option.bind (f101 a e0.outs) λd=>some (!d))) λe=>
 some e
def f58_l1(t0:bp)(d:Unit→oB):Nat→Int→oB
 |0,_=>none
 |n+1,c=>
 (bif (decide (c<(List.length t0.text.tasks:Int))) then Option.bind (idx t0.text.tasks c) λa=>
 (bif ((((((decide (a.prio<0))||(decide (a.prio>31)))||(!(f98 t0 a.at_)))||(decide (a.deadline<0)))||(decide (a.deadline>2147483647)))||(decide ((List.length a.entries:Int)>8))) then some false else Option.bind (f99 a.entries λz0=>f100 z0 t0) λe=>
 (bif e then some false else(f58_l1 t0 d n (IntKind.i64.wrap (c+1))))) else(d ()))
def f58(t0:bp):oB:=
 (bif ((decide ((List.length t0.text.tasks:Int)<1))||(decide ((List.length t0.text.tasks:Int)>32))) then some false else ak (λ(_:Unit)=>
 some true) λa=>
 (f58_l1 t0 a (Int.toNat ((List.length t0.text.tasks:Int) - 0)+1) 0))
def f59_l2(t0:bp)(c:lI)(f:(List (Int×Bool))→oB):Nat→Int→(List (Int×Bool))→oB
 |0,_,_=>none
 |na+1,d,e=>
 (bif (decide (d<(List.length c:Int))) then Option.bind (idx c d) λa=>
 (bif (((decide (a<1))||(decide (a≥(List.length t0.text.tasks:Int))))||(Option.getD (aA e a) false)) then some false else(f59_l2 t0 c f na (IntKind.i64.wrap (d+1)) (aS e a true))) else(f e))
def f59_l1(t0:bp)(d:Unit→oB):Nat→Int→oB
 |0,_=>none
 |n+1,a=>
 (bif (decide (a<(List.length t0.text.lists:Int))) then ak (λ(h:List (Int×Bool))=>
 (f59_l1 t0 d n (IntKind.i64.wrap (a+1)))) λe=>
 Option.bind (idx t0.text.lists a) λc=>
 ak (λ(f:List (Int×Bool))=>
 (bif (decide ((List.length c:Int)>32)) then some false else(e f))) λg=>
 (f59_l2 t0 c g (Int.toNat ((List.length c:Int) - 0)+1) 0 ([]:List (Int×Bool))) else(d ()))
def f59(t0:bp):oB:=
 (bif (decide ((List.length t0.text.lists:Int)>4096)) then some false else ak (λ(_:Unit)=>
 some true) λa=>
 (f59_l1 t0 a (Int.toNat ((List.length t0.text.lists:Int) - 0)+1) 0))
def f102s_l1(d:lN→lH→lP→lS→lL→lO→lT→Int→lK→lM→lC→Int→Int→aL→Int→Option (Bool×lN×lH×lP×lS×lL×lO×lT×Int×lK×lM×lC×Int×Int))(e1:aL)(e:Int)(f:Int→lN→lH→lP→lS→lL→lO→lT→Int→lK→lM→lC→Int→Int→Option (Bool×lN×lH×lP×lS×lL×lO×lT×Int×lK×lM×lC×Int×Int))(g:lN→lH→lP→lS→lL→lO→lT→Int→lK→lM→lC→Int→Int→Option (Bool×lN×lH×lP×lS×lL×lO×lT×Int×lK×lM×lC×Int×Int)):Nat→Int→lN→lH→lP→lS→lL→lO→lT→Int→lK→lM→lC→Int→Int→Option (Bool×lN×lH×lP×lS×lL×lO×lT×Int×lK×lM×lC×Int×Int)
 |0,_,_,_,_,_,_,_,_,_,_,_,_,_,_=>none
 |n+1,c,c00v179,c01v180,c02v181,c03v182,c04v183,c05v184,c06v185,c07v186,c08v187,c09v188,c010v189,c011v190,c012v191=>
 (bif (decide (c<(List.length e1.l:Int))) then Option.bind (idx e1.l c) λh=>
 ak (λ(j:Bool)(c00v209:lN)(c01v210:lH)(c02v211:lP)(c03v212:lS)(c04v213:lL)(c05v214:lO)(c06v215:lT)(c07v216:Int)(c08v217:lK)(c09v218:lM)(c010v219:lC)(c011v220:Int)(c012v221:Int)=>
 (bif j then(f c c00v209 c01v210 c02v211 c03v212 c04v213 c05v214 c06v215 c07v216 c08v217 c09v218 c010v219 c011v220 c012v221) else(f102s_l1 d e1 e f g n (IntKind.i64.wrap (c+1)) c00v209 c01v210 c02v211 c03v212 c04v213 c05v214 c06v215 c07v216 c08v217 c09v218 c010v219 c011v220 c012v221))) λk=>
 Option.bind (d c00v179 c01v180 c02v181 c03v182 c04v183 c05v184 c06v185 c07v186 c08v187 c09v188 c010v189 c011v190 c012v191 h (IntKind.i64.wrap (e+1))) λa=>
 (k (!a.1) a.2.1 a.2.2.1 a.2.2.2.1 a.2.2.2.2.1 a.2.2.2.2.2.1 a.2.2.2.2.2.2.1 a.2.2.2.2.2.2.2.1 a.2.2.2.2.2.2.2.2.1 a.2.2.2.2.2.2.2.2.2.1 a.2.2.2.2.2.2.2.2.2.2.1 a.2.2.2.2.2.2.2.2.2.2.2.1 a.2.2.2.2.2.2.2.2.2.2.2.2.1 a.2.2.2.2.2.2.2.2.2.2.2.2.2) else(g c00v179 c01v180 c02v181 c03v182 c04v183 c05v184 c06v185 c07v186 c08v187 c09v188 c010v189 c011v190 c012v191))
def f102s(C:lN→lH→lP→lS→lL→lO→lT→Int→lK→lM→lC→Int→Int→aL→Int→Option (Bool×lN×lH×lP×lS×lL×lO×lT×Int×lK×lM×lC×Int×Int))(f:lN)(g:lH)(h:lP)(j:lS)(k:lL)(c:lO)(m:lT)(p:Int)(r:lK)(t:lM)(w:lC)(jent:Int)(jleft:Int)(e1:aL)(x:Int):Option (Bool×lN×lH×lP×lS×lL×lO×lT×Int×lK×lM×lC×Int×Int):=
 ak (λ(E:Bool)(F:Int)(d:aL)(c21v100:Int)(c22v101:Int)(c23v102:Int)(c24v103:Int)=>
 (bif (((((((((((decide ((IntKind.i64.wrap (jleft - 1))<0))||(decide (x>64)))||(!E))||(!decide ((List.length e1.l:Int)=F)))||(!decide (e1.op=d.op)))||(!decide (e1.n=d.n)))||(!decide (e1.o=d.o)))||(!decide (e1.off=d.off)))||(!decide (e1.len=0)))||(!decide (e1.lo=0)))||(!decide (e1.hi=0))) then some (false,f,g,h,j,k,c,m,p,r,t,w,jent,(IntKind.i64.wrap (jleft - 1))) else ak (λ(G:Bool)(c00v120:lN)(c01v121:lH)(c02v122:lP)(c03v123:lS)(c04v124:lL)(c05v125:lO)(c06v126:lT)(c07v127:Int)(c08v128:lK)(c09v129:lM)(c010v130:lC)(c011v131:Int)(c012v132:Int)=>
 some ((!G),c00v120,c01v121,c02v122,c03v123,c04v124,c05v125,c06v126,c07v127,c08v128,c09v129,c010v130,c011v131,c012v132)) λH=>
 ak (λ(I:Int)(c00v136:lN)(c01v137:lH)(c02v138:lP)(c03v139:lS)(c04v140:lL)(c05v141:lO)(c06v142:lT)(c07v143:Int)(c08v144:lK)(c09v145:lM)(c010v146:lC)(c011v147:Int)(c012v148:Int)=>
 (H (decide (I≥0)) c00v136 c01v137 c02v138 c03v139 c04v140 c05v141 c06v142 c07v143 c08v144 c09v145 c010v146 c011v147 c012v148)) λy=>
 ak (λ(c00v150:lN)(c01v151:lH)(c02v152:lP)(c03v153:lS)(c04v154:lL)(c05v155:lO)(c06v156:lT)(c07v157:Int)(c08v158:lK)(c09v159:lM)(c010v160:lC)(c011v161:Int)(c012v162:Int)=>
 (y (-1) c00v150 c01v151 c02v152 c03v153 c04v154 c05v155 c06v156 c07v157 c08v158 c09v159 c010v160 c011v161 c012v162)) λJ=>
 (f102s_l1 C e1 x y J (Int.toNat ((List.length e1.l:Int) - 0)+1) 0 f g h j k c m p r t w jent (IntKind.i64.wrap (jleft - 1))))) λe=>
 ak (λ(K:Int)(c21v106:Int)(c22v107:Int)(c23v108:Int)(c24v109:Int)=>
 (e true K (aL.mk e1.kind c21v106 c22v107 c23v108 c24v109 0 0 0 []) c21v106 c22v107 c23v108 c24v109)) λa=>
 (bif (decide (e1.kind=1)) then(a 0 0 e1.n 0 0) else(bif (decide (e1.kind=2)) then Option.bind (f96 (bp.mk (ah.mk f g h j k c m p r t w)) e1.o e1.off 1) λL=>
 Option.bind (bif (!L) then some true else(Option.bind (idx c e1.o) λM=>some M.ptr)) λN=>
 (bif N then(e false 0 (aL.mk e1.kind 0 0 0 0 0 0 0 []) 0 0 0 0) else(a 0 0 0 e1.o e1.off)) else(bif (decide (e1.kind=14)) then ak (λ(O:Bool)=>
 (e O 0 (aL.mk e1.kind 0 e1.n 0 0 0 0 0 []) 0 e1.n 0 0)) λA=>
 (bif (decide (e1.n≥0)) then(A (decide (e1.n<jent))) else(A false)) else(bif (decide (e1.kind=4)) then(a 1 18 0 0 0) else(bif (decide (e1.kind=5)) then(a 2 (if(if 15<e1.op then 15 else e1.op)>7 then(if 15<e1.op then 15 else e1.op) else 7) 0 0 0) else ak (λ(P:Bool)=>
 (bif P then(a 2 0 0 0 0) else(e false 0 (aL.mk e1.kind 0 0 0 0 0 0 0 []) 0 0 0 0))) λB=>
 (bif (decide (e1.kind=6)) then(B (decide (e1.kind=6))) else(B (decide (e1.kind=7)))))))))
def f102:Nat→lN→lH→lP→lS→lL→lO→lT→Int→lK→lM→lC→Int→Int→aL→Int→Option (Bool×lN×lH×lP×lS×lL×lO×lT×Int×lK×lM×lC×Int×Int)
 |0=>λ_ _ _ _ _ _ _ _ _ _ _ _ _ _ _=>none
 |n+1=>f102s (f102 n)
def f60_l2(t0:bp)(d:Int→(List aL)→oB)(a:eR):Nat→Int→oB
 |0,_=>none
 |na+1,c=>
 (bif (decide (c<(List.length a.barriers:Int))) then Option.bind (idx a.barriers c) λe=>
 Option.bind (f102 66 t0.text.insns t0.text.handlers t0.text.loops t0.text.selects t0.text.lists t0.text.objs t0.text.inits t0.text.excs t0.text.tasks t0.text.prots t0.text.checks (List.length a.barriers:Int) 256 e 1) λf=>
 (bif (!f.1) then some false else(f60_l2 t0 d a na (IntKind.i64.wrap (c+1)))) else(d a.ceiling a.barriers))
def f60_l1(t0:bp)(d:Unit→oB):Nat→Int→oB
 |0,_=>none
 |n+1,c=>
 (bif (decide (c<(List.length t0.text.prots:Int))) then ak (λ(c00v60:Int)(c01v61:List aL)=>
 (f60_l1 t0 d n (IntKind.i64.wrap (c+1)))) λe=>
 Option.bind (idx t0.text.prots c) λa=>
 (bif (((decide (a.ceiling<0))||(decide (a.ceiling>31)))||(decide ((List.length a.barriers:Int)>8))) then some false else(f60_l2 t0 e a (Int.toNat ((List.length a.barriers:Int) - 0)+1) 0)) else(d ()))
def f60(t0:bp):oB:=
 ak (λ(_:Unit)=>
 some (decide ((List.length t0.text.prots:Int)≤32))) λa=>
 (f60_l1 t0 a (Int.toNat ((List.length t0.text.prots:Int) - 0)+1) 0)
def f142(n0:Int)(a:bp)(c:Int):oB:=
 Option.bind (f96 a c n0 1) λd=>
 some d
def f105(t0:bp)(a:Int)(a2:jq):oB:=
 Option.bind (bif (!(f98 t0 a2.at_)) then some true else(Option.bind (bif (!decide (a2.guard=(-1))) then(Option.bind (f142 a2.guard t0 a) λd=>some (!d)) else some false) λe=>some e)) λf=>
 (bif f then some false else(bif (decide (a2.kind=1)) then some (((decide (a2.entry≥0))&&(decide (a2.entry<8)))&&(decide (a2.time=0))) else ak (λ(g:Bool)=>
 (bif g then Option.bind (bif (decide (a2.entry=0)) then(Option.bind (f142 a2.time t0 a) λh=>some h) else some false) λj=>
 some j else some ((decide (a2.kind=4))&&(decide ((IntKind.i64.wrap (BitVec.ofInt IntKind.i64.bits a2.entry|||BitVec.ofInt IntKind.i64.bits a2.time).toNat)=0))))) λc=>
 (bif (decide (a2.kind=2)) then(c (decide (a2.kind=2))) else(c (decide (a2.kind=3))))))
def f61_l2(t0:bp)(a:cg)(d:Int→oB)(e:Unit→oB):Nat→Int→oB
 |0,_=>none
 |na+1,c=>
 (bif (decide (c<(List.length a.alts:Int))) then Option.bind (idx a.alts c) λf=>
 ak (λ(g:Bool)=>
 (bif g then(d c) else(f61_l2 t0 a d e na (IntKind.i64.wrap (c+1))))) λh=>
 Option.bind (f105 t0 a.obj f) λj=>
 (h (!j)) else(e ()))
def f61_l1(t0:bp)(d:Unit→oB):Nat→Int→oB
 |0,_=>none
 |n+1,c=>
 (bif (decide (c<(List.length t0.text.selects:Int))) then Option.bind (idx t0.text.selects c) λa=>
 (bif (((((decide ((List.length a.alts:Int)<1))||(decide ((List.length a.alts:Int)>16)))||(decide (a.obj<0)))||(decide (a.obj≥(List.length t0.text.objs:Int))))||((!decide (a.else_=(-1)))&&(!(f98 t0 a.else_)))) then some false else ak (λ(f:Bool)=>
 (bif f then some false else(f61_l1 t0 d n (IntKind.i64.wrap (c+1))))) λg=>
 ak (λ(h:Int)=>
 (g (decide (h≥0)))) λe=>
 ak (λ(_:Unit)=>
 (e (-1))) λj=>
 (f61_l2 t0 a e j (Int.toNat ((List.length a.alts:Int) - 0)+1) 0)) else(d ()))
def f61(t0:bp):oB:=
 (bif (decide ((List.length t0.text.selects:Int)>1024)) then some false else ak (λ(_:Unit)=>
 some true) λa=>
 (f61_l1 t0 a (Int.toNat ((List.length t0.text.selects:Int) - 0)+1) 0))
def f106(h0:aQ)(a1:Int):Bool:=
 ((decide (h0.from_≤a1))&&(decide (a1<h0.to)))
def f62_l2(t0:bp)(d:Int)(f:Int→Int→Int→Bool→oB)(a:aQ):Nat→Int→oB
 |0,_=>none
 |na+1,e=>
 (bif (decide (e<(List.length (cR t0.text.handlers 0 d):Int))) then Option.bind (idx (cR t0.text.handlers 0 d) e) λc=>
 (bif ((!((decide (c.from_≥a.from_))&&(decide (c.to≤a.to))))&&(decide ((if a.from_>c.from_ then a.from_ else c.from_)<(if a.to<c.to then a.to else c.to)))) then some false else(f62_l2 t0 d f a na (IntKind.i64.wrap (e+1)))) else(f a.from_ a.to a.at_ a.clean))
def f62_l1(t0:bp)(d:Unit→oB):Nat→Int→oB
 |0,_=>none
 |n+1,c=>
 (bif (decide (c<(List.length t0.text.handlers:Int))) then ak (λ(c00v99:Int)(c01v100:Int)(c02v101:Int)(c03v102:Bool)=>
 (f62_l1 t0 d n (IntKind.i64.wrap (c+1)))) λe=>
 Option.bind (idx t0.text.handlers c) λa=>
 (bif (((((decide (a.from_<0))||(decide (a.from_≥a.to)))||(decide (a.to>(List.length t0.text.insns:Int))))||(!(f98 t0 a.at_)))||(f106 a a.at_)) then some false else aO (bT t0.text.handlers 0 c)<|
 (f62_l2 t0 c e a (Int.toNat ((List.length (cR t0.text.handlers 0 c):Int) - 0)+1) 0)) else(d ()))
def f62(t0:bp):oB:=
 (bif (decide ((List.length t0.text.handlers:Int)>4096)) then some false else ak (λ(_:Unit)=>
 some true) λa=>
 (f62_l1 t0 a (Int.toNat ((List.length t0.text.handlers:Int) - 0)+1) 0))
def f107(x0:aR)(a:Int):Bool:=
 ((((decide (x0.op=29))||(decide (x0.op=30)))||(decide (x0.op=31)))&&(decide (x0.to=a)))
def f63_l1(t0:bp)(e:(List (Int×Bool))→oB):Nat→Int→(List (Int×Bool))→oB
 |0,_,_=>none
 |n+1,c,d=>
 (bif (decide (c<(List.length t0.text.loops:Int))) then Option.bind (idx t0.text.loops c) λa=>
 Option.bind (bif ((((decide (a.head<0))||(decide (a.head>a.back)))||(!(f98 t0 a.back)))||(Option.getD (aA d a.back) false)) then some true else(Option.bind (idx t0.text.insns a.back) λf=>some (!(f107 f a.head)))) λg=>
 (bif ((g||(decide (a.bound<0)))||(decide (a.bound>2147483647))) then some false else(f63_l1 t0 e n (IntKind.i64.wrap (c+1)) (aS d a.back true))) else(e d))
def f63(t0:bp):oB:=
 (bif (decide ((List.length t0.text.loops:Int)>4096)) then some false else ak (λ(c:List (Int×Bool))=>
 some true) λa=>
 (f63_l1 t0 a (Int.toNat ((List.length t0.text.loops:Int) - 0)+1) 0 ([]:List (Int×Bool))))
def f108(t0:bp)(a1:Int):oB:=
 Option.bind (bif (f98 t0 a1) then(Option.bind (idx t0.text.insns a1) λa=>Option.bind (bif (decide (a.op=27)) then some true else(Option.bind (idx t0.text.insns a1) λc=>some (decide (c.op=28)))) λd=>some d) else some false) λe=>
 some e
def f64_l1(t0:bp)(d:Unit→oB):Nat→Int→Int→oB
 |0,_,_=>none
 |n+1,e,c=>
 (bif (decide (c<(List.length t0.text.checks:Int))) then Option.bind (idx t0.text.checks c) λa=>
 Option.bind (bif (decide (a.at_≤e)) then some true else(Option.bind (f108 t0 a.at_) λf=>some (!f))) λg=>
 (bif ((g||(decide (a.kind<1)))||(decide (a.kind>5))) then some false else(f64_l1 t0 d n a.at_ (IntKind.i64.wrap (c+1)))) else(d ()))
def f64(t0:bp):oB:=
 ak (λ(_:Unit)=>
 some true) λa=>
 (f64_l1 t0 a (Int.toNat ((List.length t0.text.checks:Int) - 0)+1) (-1) 0)
def f109_l1(s0:lN)(c:aR→oB)(d:Unit→Option (Int)):Nat→Int→Option (Int)
 |0,_=>none
 |n+1,a=>
 (bif (decide (a<(List.length s0:Int))) then Option.bind (idx s0 a) λe=>
 Option.bind (c e) λf=>
 (bif f then some a else(f109_l1 s0 c d n (IntKind.i64.wrap (a+1)))) else(d ()))
def f109(s0:lN)(a:aR→oB):Option Int:=
 ak (λ(_:Unit)=>
 some (-1)) λc=>
 (f109_l1 s0 a c (Int.toNat ((List.length s0:Int) - 0)+1) 0)
def f65(s0:lN)(a:aR→oB):oB:=
 Option.bind (f109 s0 a) λc=>
 some (decide (c≥0))
def f143(o0:Int):Option (ic×Bool):=
 (bif ((decide (o0<1))||(decide ((IntKind.i64.wrap o0)>57))) then some ((ic.mk ByteArray.empty ByteArray.empty),false) else Option.bind (idx jM (IntKind.u8.wrap (o0 - 1))) λa=>
 some (a,true))
def f154_l1(s0:ByteArray)(c:Int→Int→Option (List ByteArray)):Nat→Int→Int→Int→Int→Option (List ByteArray)
 |0,_,_,_,_=>none
 |n+1,d,wasSpace116,setBits117,a=>
 (bif (decide (a<(s0.size:Int))) then Option.bind (fm s0 a) λe=>
 Option.bind (idx dt e) λf=>
 (f154_l1 s0 c n (IntKind.i64.wrap (d+(IntKind.i64.wrap (BitVec.ofInt IntKind.i64.bits wasSpace116&&&BitVec.ofInt IntKind.i64.bits (IntKind.i64.wrap (BitVec.ofInt IntKind.i64.bits (-1)^^^BitVec.ofInt IntKind.i64.bits (IntKind.i64.wrap f)).toNat)).toNat))) (IntKind.i64.wrap f) (IntKind.u8.wrap (BitVec.ofInt IntKind.u8.bits setBits117|||BitVec.ofInt IntKind.u8.bits e).toNat) (IntKind.i64.wrap (a+1))) else(c d setBits117))
def f154_l2(s0:ByteArray)(c:Int→Option (List ByteArray)):Nat→Int→Option (List ByteArray)
 |0,_=>none
 |n+1,a=>
 Option.bind (bif (decide (a<(s0.size:Int))) then(Option.bind (fm s0 a) λd=>Option.bind (idx dt d) λe=>some (!decide (e=0))) else some false) λf=>
 (bif f then(f154_l2 s0 c n (IntKind.i64.wrap (a+1))) else(c a))
def f154_l4(s0:ByteArray)(c:Int→Option (List ByteArray)):Nat→Int→Option (List ByteArray)
 |0,_=>none
 |na+1,a=>
 Option.bind (bif (decide (a<(s0.size:Int))) then(Option.bind (fm s0 a) λd=>Option.bind (idx dt d) λe=>some (!decide (e=0))) else some false) λf=>
 (bif f then(f154_l4 s0 c na (IntKind.i64.wrap (a+1))) else(c a))
def f154_l3(s0:ByteArray)(e:Int→Int→(List ByteArray)→Option (List ByteArray)):Nat→Int→Int→Int→(List ByteArray)→Option (List ByteArray)
 |0,_,_,_,_=>none
 |n+1,a,fieldStart143,c,d=>
 (bif (decide (c<(s0.size:Int))) then ak (λ(h:Int)(fieldStart151:Int)(j:Int)(k:List ByteArray)=>
 (f154_l3 s0 e n h fieldStart151 j k)) λf=>
 Option.bind (fm s0 c) λm=>
 Option.bind (idx dt m) λp=>
 (bif (decide (p=0)) then(f a fieldStart143 (IntKind.i64.wrap (c+1)) d) else Option.bind (th s0 fieldStart143 c) λr=>
 Option.bind (idx d a) λw=>
 ak (λ(g:Int)=>
 (f (IntKind.i64.wrap (a+1)) g g (List.set d (Int.toNat a) r))) λt=>
 (f154_l4 s0 t 9223372036854775808 (IntKind.i64.wrap (c+1)))) else(e a fieldStart143 d))
def f154(s0:ByteArray):Option (List ByteArray):=
 ak (λ(c:Int)(setBits109:Int)=>
 (bif (decide (setBits109≥128)) then none else aO (mh 16 c)<|
 ak (λ(d:Int)=>
 ak (λ(e:Int)(fieldStart135:Int)(a:List ByteArray)=>
 ak (λ(g:List ByteArray)=>
 some g) λf=>
 (bif (decide (fieldStart135<(s0.size:Int))) then Option.bind (th s0 fieldStart135 (s0.size:Int)) λh=>
 Option.bind (idx a e) λp=>
 (f (List.set a (Int.toNat e) h)) else(f a))) λj=>
 (f154_l3 s0 j 9223372036854775808 0 d d (List.replicate (Int.toNat c) (ByteArray.empty:ByteArray)))) λk=>
 (f154_l2 s0 k 9223372036854775808 0))) λm=>
 (f154_l1 s0 m 9223372036854775808 0 1 0 0)
def f157(a:Int):Int×Int:=
 (bif (decide (a=114)) then(0,15) else(bif (decide (a=111)) then(0,4095) else(bif (decide (a=115)) then(0,65535) else(bif (decide (a=108)) then(1,65536) else(bif (decide (a=120)) then(1,64) else(bif (decide (a=107)) then(6,7) else(bif (decide (a=101)) then(0,7) else(bif (decide (a=112)) then(0,31) else(bif (decide (a=113)) then((-1),31) else(bif (decide (a=109)) then(0,3) else(bif (decide (a=106)) then(0,1023) else(bif (decide (a=98)) then(0,1) else((-9223372036854775808),9223372036854775807)))))))))))))
def f110_l1(e:Int→Int→Int→Int→Int→Int→ByteArray→ByteArray→Int→Int→Int→Int→oB)(f:Int→Int→Int→Int→Int→Int→ByteArray→ByteArray→Int→Int→Int→Int→oB)(g:Int→Int→Int→Int→Int→Int→ByteArray→ByteArray→Int→Int→Int→Int→oB)(h:Int→Int→Int→Int→Int→Int→ByteArray→ByteArray→Int→Int→Int→Int→oB)(j:Int→Int→Int→Int→Int→Int→ByteArray→ByteArray→Int→Int→Int→Int→oB)(k:Int→Int→Int→Int→Int→Int→ByteArray→ByteArray→Int→Int→Int→Int→oB)(m:Int→Int→Int→Int→Int→Int→ByteArray→ByteArray→oB)(a:ic×Bool)(c:List ByteArray):Nat→Int→Int→Int→Int→Int→Int→Int→oB
 |0,_,_,_,_,_,_,_=>none
 |n+1,d,c21v178,c22v179,c23v180,c24v181,c25v182,c26v183=>
 (bif (decide (d<(List.length c:Int))) then Option.bind (idx c d) λp=>
 Option.bind (fm p 0) λB=>
 (bif (decide (B=68)) then ak (λ(_:Unit)=>
 Option.bind (fm p 1) λr=>
 ak (λ(_:Unit)=>
 (e c21v178 c22v179 c23v180 c24v181 c25v182 c26v183 a.1.name a.1.fields ((f157 r).1) ((f157 r).2) ((f157 r).1) ((f157 r).2))) λC=>
 ak (λ(_:Unit)=>
 (f110_l1 e f g h j k m a c n (IntKind.i64.wrap (d+1)) 0 c22v179 c23v180 c24v181 c25v182 c26v183)) λE=>
 ak (λ(_:Unit)=>
 (bif ((decide (c21v178<((f157 r).1)))||(decide (c21v178>((f157 r).2)))) then(C ()) else ak (λ(_:Unit)=>
 (E ())) λF=>
 (F ()))) λG=>
 (G ())) λH=>
 (H ()) else(bif (decide (B=65)) then ak (λ(_:Unit)=>
 Option.bind (fm p 1) λt=>
 ak (λ(_:Unit)=>
 (f c21v178 c22v179 c23v180 c24v181 c25v182 c26v183 a.1.name a.1.fields ((f157 t).1) ((f157 t).2) ((f157 t).1) ((f157 t).2))) λI=>
 ak (λ(_:Unit)=>
 (f110_l1 e f g h j k m a c n (IntKind.i64.wrap (d+1)) c21v178 0 c23v180 c24v181 c25v182 c26v183)) λJ=>
 ak (λ(_:Unit)=>
 (bif ((decide (c22v179<((f157 t).1)))||(decide (c22v179>((f157 t).2)))) then(I ()) else ak (λ(_:Unit)=>
 (J ())) λK=>
 (K ()))) λL=>
 (L ())) λM=>
 (M ()) else(bif (decide (B=66)) then ak (λ(_:Unit)=>
 Option.bind (fm p 1) λw=>
 ak (λ(_:Unit)=>
 (g c21v178 c22v179 c23v180 c24v181 c25v182 c26v183 a.1.name a.1.fields ((f157 w).1) ((f157 w).2) ((f157 w).1) ((f157 w).2))) λN=>
 ak (λ(_:Unit)=>
 (f110_l1 e f g h j k m a c n (IntKind.i64.wrap (d+1)) c21v178 c22v179 0 c24v181 c25v182 c26v183)) λO=>
 ak (λ(_:Unit)=>
 (bif ((decide (c23v180<((f157 w).1)))||(decide (c23v180>((f157 w).2)))) then(N ()) else ak (λ(_:Unit)=>
 (O ())) λP=>
 (P ()))) λQ=>
 (Q ())) λR=>
 (R ()) else(bif (decide (B=78)) then ak (λ(_:Unit)=>
 Option.bind (fm p 1) λx=>
 ak (λ(_:Unit)=>
 (h c21v178 c22v179 c23v180 c24v181 c25v182 c26v183 a.1.name a.1.fields ((f157 x).1) ((f157 x).2) ((f157 x).1) ((f157 x).2))) λS=>
 ak (λ(_:Unit)=>
 (f110_l1 e f g h j k m a c n (IntKind.i64.wrap (d+1)) c21v178 c22v179 c23v180 0 c25v182 c26v183)) λT=>
 ak (λ(_:Unit)=>
 (bif ((decide (c24v181<((f157 x).1)))||(decide (c24v181>((f157 x).2)))) then(S ()) else ak (λ(_:Unit)=>
 (T ())) λU=>
 (U ()))) λV=>
 (V ())) λW=>
 (W ()) else(bif (decide (B=77)) then ak (λ(_:Unit)=>
 Option.bind (fm p 1) λy=>
 ak (λ(_:Unit)=>
 (j c21v178 c22v179 c23v180 c24v181 c25v182 c26v183 a.1.name a.1.fields ((f157 y).1) ((f157 y).2) ((f157 y).1) ((f157 y).2))) λX=>
 ak (λ(_:Unit)=>
 (f110_l1 e f g h j k m a c n (IntKind.i64.wrap (d+1)) c21v178 c22v179 c23v180 c24v181 0 c26v183)) λY=>
 ak (λ(_:Unit)=>
 (bif ((decide (c25v182<((f157 y).1)))||(decide (c25v182>((f157 y).2)))) then(X ()) else ak (λ(_:Unit)=>
 (Y ())) λZ=>
 (Z ()))) λaa=>
 (aa ())) λad=>
 (ad ()) else ak (λ(_:Unit)=>
 Option.bind (fm p 1) λA=>
 ak (λ(_:Unit)=>
 (k c21v178 c22v179 c23v180 c24v181 c25v182 c26v183 a.1.name a.1.fields ((f157 A).1) ((f157 A).2) ((f157 A).1) ((f157 A).2))) λag=>
 ak (λ(_:Unit)=>
 (f110_l1 e f g h j k m a c n (IntKind.i64.wrap (d+1)) c21v178 c22v179 c23v180 c24v181 c25v182 0)) λa0=>
 ak (λ(_:Unit)=>
 (bif ((decide (c26v183<((f157 A).1)))||(decide (c26v183>((f157 A).2)))) then(ag ()) else ak (λ(_:Unit)=>
 (a0 ())) λa1=>
 (a1 ()))) λa6=>
 (a6 ())) λa7=>
 (a7 ())))))) else(m c21v178 c22v179 c23v180 c24v181 c25v182 c26v183 a.1.name a.1.fields))
def f110(x0:aR):oB:=
 Option.bind (f143 x0.op) λf=>
 (bif ((!f.2)||((decide (x0.op=27))&&(decide (x0.n>x0.m)))) then some false else(bif (((decide (x0.op=37))&&(decide ((IntKind.u8.wrap x0.n)=6)))&&(!decide (x0.m=0))) then some false else ak (λ(c21v69:Int)(c22v70:Int)(c23v71:Int)(c24v72:Int)(c25v73:Int)(c26v74:Int)(c50v75:ByteArray)(c51v76:ByteArray)=>
 some (((decide (x0.op=x0.op))&&((decide (c21v69=0))&&((decide (c22v70=0))&&((decide (c23v71=0))&&((decide (c24v72=0))&&((decide (c25v73=0))&&((decide (c26v74=0))&&true))))))))) λg=>
 ak (λ(_:Unit)=>
 ak (λ(c21v81:Int)(c22v82:Int)(c23v83:Int)(c24v84:Int)(c25v85:Int)(c26v86:Int)(c50v87:ByteArray)(c51v88:ByteArray)(c62v89:Int)(c63v90:Int)(c92v91:Int)(c93v92:Int)=>
 some false) λh=>
 ak (λ(c21v94:Int)(c22v95:Int)(c23v96:Int)(c24v97:Int)(c25v98:Int)(c26v99:Int)(c50v100:ByteArray)(c51v101:ByteArray)(c62v102:Int)(c63v103:Int)(c92v104:Int)(c93v105:Int)=>
 some false) λj=>
 ak (λ(c21v107:Int)(c22v108:Int)(c23v109:Int)(c24v110:Int)(c25v111:Int)(c26v112:Int)(c50v113:ByteArray)(c51v114:ByteArray)(c62v115:Int)(c63v116:Int)(c92v117:Int)(c93v118:Int)=>
 some false) λk=>
 ak (λ(c21v120:Int)(c22v121:Int)(c23v122:Int)(c24v123:Int)(c25v124:Int)(c26v125:Int)(c50v126:ByteArray)(c51v127:ByteArray)(c62v128:Int)(c63v129:Int)(c92v130:Int)(c93v131:Int)=>
 some false) λp=>
 ak (λ(c21v133:Int)(c22v134:Int)(c23v135:Int)(c24v136:Int)(c25v137:Int)(c26v138:Int)(c50v139:ByteArray)(c51v140:ByteArray)(c62v141:Int)(c63v142:Int)(c92v143:Int)(c93v144:Int)=>
 some false) λr=>
 ak (λ(c21v146:Int)(c22v147:Int)(c23v148:Int)(c24v149:Int)(c25v150:Int)(c26v151:Int)(c50v152:ByteArray)(c51v153:ByteArray)(c62v154:Int)(c63v155:Int)(c92v156:Int)(c93v157:Int)=>
 some false) λt=>
 ak (λ(c21v159:Int)(c22v160:Int)(c23v161:Int)(c24v162:Int)(c25v163:Int)(c26v164:Int)(c50v165:ByteArray)(c51v166:ByteArray)=>
 (g c21v159 c22v160 c23v161 c24v162 c25v163 c26v164 c50v165 c51v166)) λw=>
 Option.bind (f143 x0.op) λc=>
 Option.bind (f154 c.1.fields) λe=>
 (f110_l1 h j k p r t w c e (Int.toNat ((List.length e:Int) - 0)+1) 0 x0.d x0.a x0.b x0.n x0.m x0.to)) λx=>
 (x ())))
def f111(y0:aR):Bool:=
 (!decide (y0.op=29))
def f112(t0:bp)(a:Int)(n2:Int):Option (Int×Bool):=
 Option.bind (bif (((decide (a<0))||(decide (a≥(List.length t0.text.tasks:Int))))||(decide (n2<0))) then some true else(Option.bind (idx t0.text.tasks a) λd=>some (decide (n2≥(List.length d.entries:Int))))) λe=>
 (bif e then some (0,false) else Option.bind (idx t0.text.tasks a) λf=>
 Option.bind (idx f.entries n2) λc=>
 some ((IntKind.i64.wrap ((IntKind.i64.wrap ((List.length c.ins:Int)+(List.length c.outs:Int)))+1)),true))
def f113(t0:bp)(p1:Int)(n2:Int):oB:=
 Option.bind (bif (((decide (p1≥0))&&(decide (p1<(List.length t0.text.prots:Int))))&&(decide (n2≥0))) then(Option.bind (idx t0.text.prots p1) λa=>some (decide (n2<(List.length a.barriers:Int)))) else some false) λc=>
 some c
def f67(t0:bp)(x1:aR):oB:=
 Option.bind (f110 x1) λj=>
 (bif (!j) then some false else ak (λ(k:Bool)=>
 (bif k then Option.bind (f96 t0 x1.n x1.m 1) λp=>
 some p else ak (λ(r:Bool)=>
 (bif r then Option.bind (f96 t0 x1.n x1.m x1.b) λt=>
 some t else ak (λ(w:Bool)=>
 (bif w then some (f98 t0 x1.to) else(bif (decide (x1.op=32)) then Option.bind (bif (decide ((IntKind.i64.wrap (x1.to+x1.m))≤(List.length t0.text.insns:Int))) then(aO (bT t0.text.insns x1.to (IntKind.i64.wrap (x1.to+x1.m)))<|Option.bind (f65 (cR t0.text.insns x1.to (IntKind.i64.wrap (x1.to+x1.m))) (λz0=>some (f111 z0))) λx=>some (!x)) else some false) λy=>
 some y else(bif (decide (x1.op=33)) then some (decide (x1.n≤t0.text.excs)) else ak (λ(A:Bool)=>
 (bif A then some (decide (x1.n<(List.length t0.text.lists:Int))) else(bif (decide (x1.op=50)) then some (decide (x1.n<(List.length t0.text.selects:Int))) else(bif (decide (x1.op=49)) then Option.bind (f112 t0 x1.a x1.b) λe=>
 Option.bind (bif e.2 then(Option.bind (f96 t0 x1.n 0 e.1) λB=>some B) else some false) λC=>
 some C else(bif (decide (x1.op=52)) then Option.bind (f112 t0 x1.a x1.b) λE=>
 some (E.2&&(decide (x1.to<(List.length t0.text.insns:Int)))) else ak (λ(F:Bool)=>
 (bif F then some (decide (x1.n<(List.length t0.text.prots:Int))) else(bif (decide (x1.op=54)) then Option.bind (f113 t0 x1.n x1.m) λG=>
 some G else(bif (decide (x1.op=43)) then Option.bind (bif (decide (x1.m<0)) then some true else(Option.bind (f113 t0 x1.m x1.n) λH=>some H)) λI=>
 some I else some true)))) λf=>
 (bif (decide (x1.op=53)) then(f (decide (x1.op=53))) else(f (decide (x1.op=55))))))))) λc=>
 (bif (decide (x1.op=44)) then(c (decide (x1.op=44))) else(bif (decide (x1.op=45)) then(c (decide (x1.op=45))) else(bif (decide (x1.op=46)) then(c (decide (x1.op=46))) else(c (decide (x1.op=56)))))))))) λd=>
 (bif (decide (x1.op=29)) then(d (decide (x1.op=29))) else(bif (decide (x1.op=30)) then(d (decide (x1.op=30))) else(d (decide (x1.op=31))))))) λg=>
 (bif (decide (x1.op=5)) then(g (decide (x1.op=5))) else(g (decide (x1.op=6)))))) λh=>
 (bif (decide (x1.op=3)) then(h (decide (x1.op=3))) else(h (decide (x1.op=4)))))
def f31_l1(t0:ah)(c:Int→oB)(d:Unit→oB):Nat→Int→oB
 |0,_=>none
 |n+1,a=>
 (bif (decide (a<(List.length t0.insns:Int))) then Option.bind (idx t0.insns a) λe=>
 ak (λ(f:Bool)=>
 (bif f then(c a) else(f31_l1 t0 c d n (IntKind.i64.wrap (a+1))))) λg=>
 Option.bind (f67 (bp.mk t0) e) λh=>
 (g (!h)) else(d ()))
def f31(t0:ah):oB:=
 (bif ((decide ((List.length t0.insns:Int)<1))||(decide ((List.length t0.insns:Int)>65536))) then some false else Option.bind (idx t0.insns (IntKind.i64.wrap ((List.length t0.insns:Int) - 1))) λa=>
 ak (λ(e:Bool)=>
 (bif e then ak (λ(_:Unit)=>
 ak (λ(f:Bool)=>
 some (!f)) λg=>
 ak (λ(h:Int)=>
 (g (decide (h≥0)))) λd=>
 ak (λ(_:Unit)=>
 (d (-1))) λj=>
 (f31_l1 t0 d j (Int.toNat ((List.length t0.insns:Int) - 0)+1) 0)) λk=>
 Option.bind (f57 (bp.mk t0)) λm=>
 (bif (!m) then some false else Option.bind (f58 (bp.mk t0)) λp=>
 (bif (!p) then some false else Option.bind (f59 (bp.mk t0)) λr=>
 (bif (!r) then some false else Option.bind (f60 (bp.mk t0)) λt=>
 (bif (!t) then some false else Option.bind (f61 (bp.mk t0)) λw=>
 (bif (!w) then some false else Option.bind (f62 (bp.mk t0)) λx=>
 (bif (!x) then some false else Option.bind (f63 (bp.mk t0)) λy=>
 (bif (!y) then some false else Option.bind (f64 (bp.mk t0)) λA=>
 (bif (!A) then some false else(k ()))))))))) else some false)) λc=>
 (bif (decide (a.op=29)) then(c (decide (a.op=29))) else(bif (decide (a.op=33)) then(c (decide (a.op=33))) else(bif (decide (a.op=34)) then(c (decide (a.op=34))) else(c (decide (a.op=57)))))))
def f34t(l:lI):Option lI:=aO (decide (1≤l.length)) (aO (decide (l.length<4611686018427387904)) (some (l.take 1++(l.drop 1).mergeSort λx y=>decide (x≤y))))
def f126_l1(s0:lH)(c:aQ→oB)(d:Unit→Option (Int)):Nat→Int→Option (Int)
 |0,_=>none
 |n+1,a=>
 (bif (decide (a<(List.length s0:Int))) then Option.bind (idx s0 a) λe=>
 Option.bind (c e) λf=>
 (bif f then some a else(f126_l1 s0 c d n (IntKind.i64.wrap (a+1)))) else(d ()))
def f126(s0:lH)(a:aQ→oB):Option Int:=
 ak (λ(_:Unit)=>
 some (-1)) λc=>
 (f126_l1 s0 a c (Int.toNat ((List.length s0:Int) - 0)+1) 0)
def f127(h0:aQ)(a:Int)(c:Bool):Bool:=
 (((decide (h0.from_≤a))&&(decide (a<h0.to)))&&(h0.clean||(!c)))
def f75(t0:ah)(at1:Int)(c:Bool):Option (Int×Bool):=
 Option.bind (f126 t0.handlers (λz0=>some (f127 z0 at1 c))) λa=>
 (bif (decide (a<0)) then some (0,false) else Option.bind (idx t0.handlers a) λd=>
 some (d.at_,true))
def f76(o0:Int):Bool:=
 ak (λ(c:Bool)=>
 (bif c then true else false)) λa=>
 (bif (decide (o0=27)) then(a (decide (o0=27))) else(bif (decide (o0=28)) then(a (decide (o0=28))) else(bif (decide (o0=33)) then(a (decide (o0=33))) else(bif (decide (o0=34)) then(a (decide (o0=34))) else(bif (decide (o0=35)) then(a (decide (o0=35))) else(bif (decide (o0=38)) then(a (decide (o0=38))) else(bif (decide (o0=49)) then(a (decide (o0=49))) else(bif (decide (o0=50)) then(a (decide (o0=50))) else(bif (decide (o0=53)) then(a (decide (o0=53))) else(a (decide (o0=54))))))))))))
def f39_l1(a:aR)(e:lI→Option lI):Nat→Int→lI→Option lI
 |0,_,_=>none
 |n+1,c,d=>
 (bif (decide (c<a.m)) then ak (λ(_:Unit)=>
 (f39_l1 a e n (IntKind.i64.wrap (c+1)) (d++ [(IntKind.i64.wrap (a.to+c))]))) λf=>
 aO (bw 8 d [(IntKind.i64.wrap (a.to+c))])<|
 (f ()) else(e d))
def f39_l2(a:cg)(e:lI→Option lI):Nat→Int→lI→Option lI
 |0,_,_=>none
 |n+1,c,d=>
 (bif (decide (c<(List.length a.alts:Int))) then Option.bind (idx a.alts c) λf=>
 ak (λ(_:Unit)=>
 (f39_l2 a e n (IntKind.i64.wrap (c+1)) (d++ [f.at_]))) λg=>
 aO (bw 8 d [f.at_])<|
 (g ()) else(e d))
def f39(t0:ah)(at1:Int):Option lI:=
 Option.bind (idx t0.insns at1) λa=>
 ak (λ(c:lI)=>
 ak (λ(g:lI)=>
 ak (λ(w:lI)=>
 Option.bind (f34 w) λx=>
 Option.bind (f41 x) λy=>
 some y) λj=>
 (bif (f76 a.op) then Option.bind (f75 t0 at1 false) λk=>
 ak (λ(_:Unit)=>
 (j (g++ [k.1]))) λA=>
 ak (λ(_:Unit)=>
 (j g)) λB=>
 (bif k.2 then aO (bw 8 g [k.1])<|
 (A ()) else(B ())) else(j g))) λd=>
 ak (λ(C:Bool)=>
 (bif C then ak (λ(_:Unit)=>
 (d (c++ [a.to]))) λE=>
 aO (bw 8 c [a.to])<|
 (E ()) else(bif (decide (a.op=32)) then(f39_l1 a d (Int.toNat (a.m - 0)+1) 0 c) else(bif (decide (a.op=50)) then Option.bind (idx t0.selects a.n) λf=>
 ak (λ(p:lI)=>
 ak (λ(_:Unit)=>
 (d (p++ [f.else_]))) λF=>
 ak (λ(_:Unit)=>
 (d p)) λG=>
 (bif (decide (f.else_≥0)) then aO (bw 8 p [f.else_])<|
 (F ()) else(G ()))) λH=>
 (f39_l2 f H (Int.toNat ((List.length f.alts:Int) - 0)+1) 0 c) else(bif (decide (a.op=35)) then Option.bind (f75 t0 at1 true) λr=>
 ak (λ(_:Unit)=>
 (d (c++ [r.1]))) λI=>
 ak (λ(_:Unit)=>
 (d c)) λJ=>
 (bif r.2 then aO (bw 8 c [r.1])<|
 (I ()) else(J ())) else(d c)))))) λh=>
 (bif (decide (a.op=29)) then(h (decide (a.op=29))) else(bif (decide (a.op=30)) then(h (decide (a.op=30))) else(bif (decide (a.op=31)) then(h (decide (a.op=31))) else(h (decide (a.op=52))))))) λt=>
 ak (λ(K:Bool)=>
 (bif K then(t []) else ak (λ(_:Unit)=>
 (t ([]++ [(IntKind.i64.wrap (at1+1))]))) λL=>
 ak (λ(_:Unit)=>
 (t [])) λM=>
 (bif (decide ((IntKind.i64.wrap (at1+1))<(List.length t0.insns:Int))) then aO (bw 8 [] [(IntKind.i64.wrap (at1+1))])<|
 (L ()) else(M ())))) λe=>
 (bif (decide (a.op=29)) then(e (decide (a.op=29))) else(bif (decide (a.op=33)) then(e (decide (a.op=33))) else(bif (decide (a.op=34)) then(e (decide (a.op=34))) else(bif (decide (a.op=50)) then(e (decide (a.op=50))) else(bif (decide (a.op=52)) then(e (decide (a.op=52))) else(e (decide (a.op=57))))))))
def f13(t0:ah)(at1:Int):Option lI:=
 Option.bind (f31 t0) λa=>
 (bif (((!a)||(decide (at1<0)))||(decide (at1≥(List.length t0.insns:Int)))) then some [] else Option.bind (f39 t0 at1) λc=>
 some c)
def f10_l2(c:List (Int×lI))(a:Int)(d:lI)(g:(List (Int×Int))→Option ((List al)×Int)):Nat→Int→(List (Int×Int))→Option ((List al)×Int)
 |0,_,_=>none
 |na+1,e,f=>
 (bif (decide (e<(List.length (Option.getD (aA (aS c a d) a) []):Int))) then Option.bind (idx (Option.getD (aA (aS c a d) a) []) e) λh=>
 (f10_l2 c a d g na (IntKind.i64.wrap (e+1)) (aS f h (IntKind.i64.wrap ((Option.getD (aA f h) 0)+1)))) else(g f))
def f10_l1(t0:ah)(g:(List (Int×lI))→(List (Int×Int))→lI→Option ((List al)×Int)):Nat→(List (Int×lI))→(List (Int×Int))→lI→Option ((List al)×Int)
 |0,_,_,_=>none
 |n+1,d,f,a=>
 (bif (decide ((List.length a:Int)>0)) then ak (λ(j:List (Int×lI))(k:List (Int×Int))(m:lI)=>
 (f10_l1 t0 g n j k m)) λh=>
 Option.bind (idx a (IntKind.i64.wrap ((List.length a:Int) - 1))) λc=>
 aO (bT a 0 (IntKind.i64.wrap ((List.length a:Int) - 1)))<|
 (bif (Option.isSome (aA d c)) then(h d f (List.take (Int.toNat (IntKind.i64.wrap ((List.length a:Int) - 1))) a)) else Option.bind (f39 t0 c) λe=>
 ak (λ(p:List (Int×Int))=>
 aO (bw 8 (List.take (Int.toNat (IntKind.i64.wrap ((List.length a:Int) - 1))) a) (Option.getD (aA (aS d c e) c) []))<|
 (h (aS d c e) p ((List.take (Int.toNat (IntKind.i64.wrap ((List.length a:Int) - 1))) a)++(Option.getD (aA (aS d c e) c) [])))) λr=>
 (f10_l2 d c e r (Int.toNat ((List.length (Option.getD (aA (aS d c e) c) []):Int) - 0)+1) 0 f)) else(g d f a))
def f10_m3(e:Int)(d:List (Int×lI))(f:List (Int×Int)):(Int×lI)→(lI)→Option (lI)
 |a,c=>
 (bif (!decide (a.1=e)) then ak (λ(g:Bool)=>
 (bif (!g) then aO (bw 8 c [a.1])<|
 some (c++ [a.1]) else some c)) λh=>
 Option.bind (bif ((Option.isSome (aA d (IntKind.i64.wrap (a.1 - 1))))&&(decide ((List.length (Option.getD (aA d (IntKind.i64.wrap (a.1 - 1))) []):Int)=1))) then(Option.bind (idx (Option.getD (aA d (IntKind.i64.wrap (a.1 - 1))) []) 0) λj=>some (decide (j=(IntKind.i64.wrap ((IntKind.i64.wrap (a.1 - 1))+1))))) else some false) λk=>
 (h ((k&&(!decide ((IntKind.i64.wrap ((IntKind.i64.wrap (a.1 - 1))+1))=e)))&&(decide ((Option.getD (aA f (IntKind.i64.wrap ((IntKind.i64.wrap (a.1 - 1))+1))) 0)=1)))) else some c)
def f10_l4(c:lI)(d:(List (Int×Int))→Option ((List al)×Int)):Nat→Int→(List (Int×Int))→Option ((List al)×Int)
 |0,_,_=>none
 |n+1,a,e=>
 (bif (decide (a<(List.length c:Int))) then Option.bind (idx c a) λf=>
 (f10_l4 c d n (IntKind.i64.wrap (a+1)) (aS e f a)) else(d e))
def f10_l6(c:Int)(a:List (Int×lI))(d:List (Int×Int))(e:Int→Option ((List al)×Int)):Nat→Int→Option ((List al)×Int)
 |0,_=>none
 |na+1,c101v226=>
 ak (λ(f:Bool)=>
 (bif f then(f10_l6 c a d e na (IntKind.i64.wrap (c101v226+1))) else(e c101v226))) λg=>
 Option.bind (bif ((Option.isSome (aA a (IntKind.i64.wrap (c101v226 - 1))))&&(decide ((List.length (Option.getD (aA a (IntKind.i64.wrap (c101v226 - 1))) []):Int)=1))) then(Option.bind (idx (Option.getD (aA a (IntKind.i64.wrap (c101v226 - 1))) []) 0) λh=>some (decide (h=(IntKind.i64.wrap ((IntKind.i64.wrap (c101v226 - 1))+1))))) else some false) λj=>
 (g ((j&&(!decide ((IntKind.i64.wrap ((IntKind.i64.wrap (c101v226 - 1))+1))=c)))&&(decide ((Option.getD (aA d (IntKind.i64.wrap ((IntKind.i64.wrap (c101v226 - 1))+1))) 0)=1))))
def f10_l7(a:List (Int×lI))(c:List (Int×Int))(c101v223:Int)(f:lI→Option ((List al)×Int)):Nat→Int→lI→Option ((List al)×Int)
 |0,_,_=>none
 |na+1,d,e=>
 (bif (decide (d<(List.length (Option.getD (aA a (IntKind.i64.wrap (c101v223 - 1))) []):Int))) then Option.bind (idx (Option.getD (aA a (IntKind.i64.wrap (c101v223 - 1))) []) d) λg=>
 aO (bw 8 e [(Option.getD (aA c g) 0)])<|
 (f10_l7 a c c101v223 f na (IntKind.i64.wrap (d+1)) (e++ [(Option.getD (aA c g) 0)])) else(f e))
def f10_l5(a:Int)(c:List (Int×lI))(e:List (Int×Int))(d:lI)(g:List (Int×Int))(h:(List al)→Option ((List al)×Int)):Nat→Int→(List al)→Option ((List al)×Int)
 |0,_,_=>none
 |n+1,k,m=>
 (bif (decide (k<(List.length d:Int))) then ak (λ(r:List al)(L:List al)(c100v218:Int)(c101v219:Int)(c102v220:lI)=>
 (f10_l5 a c e d g h n (IntKind.i64.wrap (k+1)) r)) λt=>
 Option.bind (idx d k) λf=>
 ak (λ(c101v223:Int)=>
 ak (λ(w:lI)=>
 Option.bind (f34 w) λj=>
 aO (bw 40 m [(al.mk f c101v223 j)])<|
 (t (m++ [(al.mk f c101v223 j)]) [(al.mk f c101v223 j)] f c101v223 j)) λx=>
 (f10_l7 c g c101v223 x (Int.toNat ((List.length (Option.getD (aA c (IntKind.i64.wrap (c101v223 - 1))) []):Int) - 0)+1) 0 [])) λy=>
 (f10_l6 a c e y 9223372036854775808 (IntKind.i64.wrap (f+1))) else(h m))
noncomputable def f10(t0:ah)(a:Int):Option ((List al)×Int):=
 Option.bind (f31 t0) λA=>
 (bif (((!A)||(decide (a<0)))||(decide (a≥(List.length t0.insns:Int)))) then some ([],2) else ak (λ(c:List (Int×lI))(e:List (Int×Int))(M:lI)=>
 ak (λ(p:lI)=>
 aO (bT p 1 (List.length p:Int))<|
 Option.bind (f34t p) λd=>
 ak (λ(g:List (Int×Int))=>
 ak (λ(B:List al)=>
 some (B,0)) λh=>
 (f10_l5 a c e d g h (Int.toNat ((List.length d:Int) - 0)+1) 0 [])) λC=>
 (f10_l4 d C (Int.toNat ((List.length d:Int) - 0)+1) 0 ([]:List (Int×Int)))) λE=>
 (gK c (f10_m3 a c e) (λ(F:lI)=>(E F)) [a])) λG=>
 ak (λ(H:List (Int×lI))(I:List (Int×Int))(J:lI)=>
 (G H I J)) λK=>
 (f10_l1 t0 K 9223372036854775808 ([]:List (Int×lI)) ([]:List (Int×Int)) [a]))
def f27w_l1(l:lI)(n1:Int)(c:Unit→Option (Bool×lI)):Nat→Int→Option (Bool×lI)
 |0,_=>none
 |n+1,a=>
 (bif (decide (a<(List.length l:Int))) then Option.bind (idx l a) λd=>
 (bif (decide (d=n1)) then some (true,l) else(f27w_l1 l n1 c n (IntKind.i64.wrap (a+1)))) else(c ()))
def f27w(l:lI)(n1:Int):Option (Bool×lI):=
 ak (λ(_:Unit)=>
 some (false,l)) λa=>
 (f27w_l1 l n1 a 9223372036854775808 0)
def f8(t0:ah):Bool:=
 ((((((((((decide ((List.length t0.insns:Int)>100))||(decide ((List.length t0.handlers:Int)>50)))||(decide ((List.length t0.loops:Int)>100)))||(decide ((List.length t0.selects:Int)>20)))||(decide ((List.length t0.lists:Int)>40)))||(decide ((List.length t0.objs:Int)>60)))||(decide ((List.length t0.inits:Int)>60)))||(decide ((List.length t0.tasks:Int)>40)))||(decide ((List.length t0.prots:Int)>10)))||(decide ((List.length t0.checks:Int)>100)))
def f84_l1(t0:ah)(o1:Obj)(d:Unit→oB):Nat→Int→oB
 |0,_=>none
 |n+1,a=>
 (bif (decide (a<(List.length o1.set_:Int))) then Option.bind (idx o1.set_ a) λc=>
 Option.bind (bif ((decide (c<0))||(decide (c≥(List.length t0.objs:Int)))) then some true else(Option.bind (idx t0.objs c) λe=>some (!decide (e.size=1)))) λf=>
 Option.bind (bif f then some true else(Option.bind (idx t0.objs c) λg=>some g.ptr)) λh=>
 Option.bind (bif h then some true else(Option.bind (bif (decide (a>0)) then(Option.bind (idx o1.set_ (IntKind.i64.wrap (a - 1))) λj=>some (decide (j≥c))) else some false) λk=>some k)) λm=>
 (bif m then some false else(f84_l1 t0 o1 d n (IntKind.i64.wrap (a+1)))) else(d ()))
def f84(t0:ah)(o1:Obj):oB:=
 (bif (((((decide (o1.size<1))||(decide (o1.size>16384)))||(decide (o1.lo>o1.hi)))||((!o1.ptr)&&(decide ((List.length o1.set_:Int)>0))))||(o1.ptr&&((!decide (o1.lo=0))||(!decide (o1.hi=0))))) then some false else ak (λ(_:Unit)=>
 some true) λa=>
 (f84_l1 t0 o1 a 9223372036854775808 0))
def f85(t0:ah)(o1:Int)(a:Int)(c:Int):oB:=
 Option.bind (bif ((((decide (o1≥0))&&(decide (o1<(List.length t0.objs:Int))))&&(decide (a≥0)))&&(decide (c≥0))) then(Option.bind (idx t0.objs o1) λd=>some (decide (a≤(IntKind.i64.wrap (d.size - c))))) else some false) λe=>
 some e
def f86_l1(o0:Obj)(v1:Int)(c:Unit→oB):Nat→Int→oB
 |0,_=>none
 |n+1,a=>
 (bif (decide (a<(List.length o0.set_:Int))) then Option.bind (idx o0.set_ a) λd=>
 (bif (decide (v1=(IntKind.i64.wrap (d+1)))) then some true else(f86_l1 o0 v1 c n (IntKind.i64.wrap (a+1)))) else(c ()))
def f86(o0:Obj)(v1:Int):oB:=
 (bif (!o0.ptr) then some ((decide (v1≥o0.lo))&&(decide (v1≤o0.hi))) else ak (λ(_:Unit)=>
 some (decide (v1=0))) λa=>
 (f86_l1 o0 v1 a 9223372036854775808 0))
def f50_l1(t0:ah)(c:Int→oB):Nat→Int→Int→oB
 |0,_,_=>none
 |n+1,d,a=>
 (bif (decide (a<(List.length t0.objs:Int))) then Option.bind (idx t0.objs a) λe=>
 Option.bind (f84 t0 e) λf=>
 (bif (!f) then some false else Option.bind (idx t0.objs a) λg=>
 (f50_l1 t0 c n (IntKind.i64.wrap (d+g.size)) (IntKind.i64.wrap (a+1)))) else(c d))
def f50_l3(t0:ah)(d:Int)(e:Int→Int→Int→oB)(a:ed):Nat→Int→oB
 |0,_=>none
 |na+1,c=>
 (bif (decide (c<d)) then Option.bind (idx t0.inits c) λf=>
 Option.bind (bif (decide (f.o=a.o)) then(Option.bind (idx t0.inits c) λg=>some (decide (g.slot=a.slot))) else some false) λh=>
 (bif h then some false else(f50_l3 t0 d e a na (IntKind.i64.wrap (c+1)))) else(e a.o a.slot a.v))
def f50_l2(t0:ah)(d:Unit→oB):Nat→Int→oB
 |0,_=>none
 |n+1,c=>
 (bif (decide (c<(List.length t0.inits:Int))) then ak (λ(c00v126:Int)(c01v127:Int)(c02v128:Int)=>
 (f50_l2 t0 d n (IntKind.i64.wrap (c+1)))) λe=>
 Option.bind (idx t0.inits c) λa=>
 Option.bind (f85 t0 a.o a.slot 1) λf=>
 Option.bind (bif (!f) then some true else(Option.bind (idx t0.objs a.o) λg=>Option.bind (f86 g a.v) λh=>some (!h))) λj=>
 (bif j then some false else(f50_l3 t0 c e a 9223372036854775808 0)) else(d ()))
def f50(t0:ah):oB:=
 (bif ((((decide ((List.length t0.objs:Int)>4096))||(decide (t0.excs<4)))||(decide (t0.excs>64)))||(decide ((List.length t0.inits:Int)>65536))) then some false else ak (λ(a:Int)=>
 ak (λ(_:Unit)=>
 some (decide (a≤65536))) λc=>
 (f50_l2 t0 c 9223372036854775808 0)) λd=>
 (f50_l1 t0 d 9223372036854775808 0 0))
def f26(t0:ah)(a1:Int):Bool:=
 ((decide (a1≥0))&&(decide (a1<(List.length t0.insns:Int))))
def f87_l1(t0:ah)(l1:lI)(c:Unit→oB):Nat→Int→oB
 |0,_=>none
 |n+1,a=>
 (bif (decide (a<(List.length l1:Int))) then Option.bind (idx l1 a) λd=>
 Option.bind (bif (decide (d<0)) then some true else(Option.bind (idx l1 a) λe=>some (decide (e≥(List.length t0.objs:Int))))) λf=>
 Option.bind (bif f then some true else(Option.bind (idx l1 a) λg=>Option.bind (idx t0.objs g) λh=>some (!decide (h.size=1)))) λj=>
 (bif j then some false else(f87_l1 t0 l1 c n (IntKind.i64.wrap (a+1)))) else(c ()))
def f87(t0:ah)(l1:lI):oB:=
 (bif (decide ((List.length l1:Int)>8)) then some false else ak (λ(_:Unit)=>
 some true) λa=>
 (f87_l1 t0 l1 a 9223372036854775808 0))
def f51_l2(t0:ah)(d:Int→Int→(List bG)→Int→oB)(a:fh):Nat→Int→oB
 |0,_=>none
 |na+1,c=>
 (bif (decide (c<(List.length a.entries:Int))) then Option.bind (idx a.entries c) λe=>
 Option.bind (f87 t0 e.ins) λf=>
 Option.bind (bif (!f) then some true else(Option.bind (idx a.entries c) λg=>Option.bind (f87 t0 g.outs) λh=>some (!h))) λj=>
 (bif j then some false else(f51_l2 t0 d a na (IntKind.i64.wrap (c+1)))) else(d a.prio a.at_ a.entries a.deadline))
def f51_l1(t0:ah)(d:Unit→oB):Nat→Int→oB
 |0,_=>none
 |n+1,c=>
 (bif (decide (c<(List.length t0.tasks:Int))) then ak (λ(c00v92:Int)(c01v93:Int)(c02v94:List bG)(c03v95:Int)=>
 (f51_l1 t0 d n (IntKind.i64.wrap (c+1)))) λe=>
 Option.bind (idx t0.tasks c) λa=>
 (bif ((((((decide (a.prio<0))||(decide (a.prio>31)))||(!(f26 t0 a.at_)))||(decide (a.deadline<0)))||(decide (a.deadline>2147483647)))||(decide ((List.length a.entries:Int)>8))) then some false else(f51_l2 t0 e a 9223372036854775808 0)) else(d ()))
def f51(t0:ah):oB:=
 (bif ((decide ((List.length t0.tasks:Int)<1))||(decide ((List.length t0.tasks:Int)>32))) then some false else ak (λ(_:Unit)=>
 some true) λa=>
 (f51_l1 t0 a 9223372036854775808 0))
def f88s_l1(d:ah→Int→aL→Int→Int→Option (Int))(t0:ah)(e:Int)(e2:aL)(f:Int)(g:Int→Option (Int)):Nat→Int→Int→Option (Int)
 |0,_,_=>none
 |n+1,a,c=>
 (bif ((decide (c<(List.length e2.l:Int)))&&(decide (a≥0))) then Option.bind (idx e2.l c) λh=>
 Option.bind (d t0 e h (IntKind.i64.wrap (f+1)) a) λj=>
 (f88s_l1 d t0 e e2 f g n j (IntKind.i64.wrap (c+1))) else(g a))
def f88s(f:ah→Int→aL→Int→Int→Option (Int))(t0:ah)(c:Int)(e2:aL)(d:Int)(n4:Int):Option Int:=
 (bif ((decide (n4=0))||(decide (d>64))) then some (-1) else ak (λ(g:Int)(h:Bool)(c01v176:Int)(c02v177:Int)(c03v178:Int)(c04v179:Int)=>
 (bif (((!h)||(!(((((((decide (e2.op=c01v176))&&(decide (e2.n=c02v177)))&&(decide (e2.o=c03v178)))&&(decide (e2.off=c04v179)))&&(decide (e2.len=0)))&&(decide (e2.lo=0)))&&(decide (e2.hi=0)))))||(!decide ((List.length e2.l:Int)=g))) then some (-1) else ak (λ(j:Int)=>
 some j) λk=>
 (f88s_l1 f t0 c e2 d k 9223372036854775808 (IntKind.i64.wrap (n4 - 1)) 0))) λa=>
 (bif (decide (e2.kind=1)) then(a 0 true 0 e2.n 0 0) else(bif (decide (e2.kind=2)) then Option.bind (f85 t0 e2.o e2.off 1) λm=>
 Option.bind (bif m then(Option.bind (idx t0.objs e2.o) λp=>some (!p.ptr)) else some false) λr=>
 (a 0 r 0 0 e2.o e2.off) else(bif (decide (e2.kind=14)) then(a 0 ((decide (e2.n≥0))&&(decide (e2.n<c))) 0 e2.n 0 0) else(bif (decide (e2.kind=4)) then(a 1 true 18 0 0 0) else(bif (decide (e2.kind=5)) then(a 2 ((decide (e2.op≥7))&&(decide (e2.op≤15))) e2.op 0 0 0) else ak (λ(t:Bool)=>
 (bif t then(a 2 true 0 0 0 0) else some (-1))) λe=>
 (bif (decide (e2.kind=6)) then(e (decide (e2.kind=6))) else(e (decide (e2.kind=7))))))))))
def f88:Nat→ah→Int→aL→Int→Int→Option (Int)
 |0=>λ_ _ _ _ _=>none
 |n+1=>f88s (f88 n)
def f89(t0:ah)(a1:Int):oB:=
 Option.bind (bif (f26 t0 a1) then(Option.bind (idx t0.insns a1) λa=>Option.bind (bif (decide (a.op=27)) then some true else(Option.bind (idx t0.insns a1) λc=>some (decide (c.op=28)))) λd=>some d) else some false) λe=>
 some e
def f52_l2(t0:ah)(d:Int→(List aL)→oB)(a:eR):Nat→Int→oB
 |0,_=>none
 |na+1,c=>
 (bif (decide (c<(List.length a.barriers:Int))) then Option.bind (idx a.barriers c) λe=>
 Option.bind (f88 67 t0 (List.length a.barriers:Int) e 1 256) λf=>
 (bif (decide (f<0)) then some false else(f52_l2 t0 d a na (IntKind.i64.wrap (c+1)))) else(d a.ceiling a.barriers))
def f52_l1(t0:ah)(d:Unit→oB):Nat→Int→oB
 |0,_=>none
 |n+1,c=>
 (bif (decide (c<(List.length t0.prots:Int))) then ak (λ(c00v105:Int)(c01v106:List aL)=>
 (f52_l1 t0 d n (IntKind.i64.wrap (c+1)))) λe=>
 Option.bind (idx t0.prots c) λa=>
 (bif (((decide (a.ceiling<0))||(decide (a.ceiling>31)))||(decide ((List.length a.barriers:Int)>8))) then some false else(f52_l2 t0 e a 9223372036854775808 0)) else(d ()))
def f52_l3(t0:ah)(d:Unit→oB):Nat→Int→oB
 |0,_=>none
 |n+1,a=>
 (bif (decide (a<(List.length t0.checks:Int))) then Option.bind (idx t0.checks a) λc=>
 Option.bind (f89 t0 c.at_) λe=>
 Option.bind (bif (!e) then some true else(Option.bind (bif (decide (a>0)) then(Option.bind (idx t0.checks (IntKind.i64.wrap (a - 1))) λf=>some (decide (f.at_≥c.at_))) else some false) λg=>some g)) λh=>
 (bif ((h||(decide (c.kind<1)))||(decide (c.kind>5))) then some false else(f52_l3 t0 d n (IntKind.i64.wrap (a+1)))) else(d ()))
def f52(t0:ah):oB:=
 (bif (decide ((List.length t0.prots:Int)>32)) then some false else ak (λ(_:Unit)=>
 ak (λ(_:Unit)=>
 some true) λa=>
 (f52_l3 t0 a 9223372036854775808 0)) λc=>
 (f52_l1 t0 c 9223372036854775808 0))
def f90(t0:ah)(a:Int)(a2:jq):oB:=
 Option.bind (bif (!(f26 t0 a2.at_)) then some true else(Option.bind (bif (!decide (a2.guard=(-1))) then(Option.bind (f85 t0 a a2.guard 1) λd=>some (!d)) else some false) λe=>some e)) λf=>
 (bif f then some false else(bif (decide (a2.kind=1)) then some (((decide (a2.entry≥0))&&(decide (a2.entry≤7)))&&(decide (a2.time=0))) else ak (λ(g:Bool)=>
 (bif g then Option.bind (bif (decide (a2.entry=0)) then(Option.bind (f85 t0 a a2.time 1) λh=>some h) else some false) λj=>
 some j else some (((decide (a2.kind=4))&&(decide (a2.entry=0)))&&(decide (a2.time=0))))) λc=>
 (bif (decide (a2.kind=2)) then(c (decide (a2.kind=2))) else(c (decide (a2.kind=3))))))
def f53_l2(t0:ah)(d:(List jq)→Int→Int→oB)(a:cg):Nat→Int→oB
 |0,_=>none
 |na+1,c=>
 (bif (decide (c<(List.length a.alts:Int))) then Option.bind (idx a.alts c) λe=>
 Option.bind (f90 t0 a.obj e) λf=>
 (bif (!f) then some false else(f53_l2 t0 d a na (IntKind.i64.wrap (c+1)))) else(d a.alts a.obj a.else_))
def f53_l1(t0:ah)(d:Unit→oB):Nat→Int→oB
 |0,_=>none
 |n+1,c=>
 (bif (decide (c<(List.length t0.selects:Int))) then ak (λ(c00v134:List jq)(c01v135:Int)(c02v136:Int)=>
 (f53_l1 t0 d n (IntKind.i64.wrap (c+1)))) λe=>
 Option.bind (idx t0.selects c) λa=>
 Option.bind (bif ((decide ((List.length a.alts:Int)<1))||(decide ((List.length a.alts:Int)>16))) then some true else(Option.bind (f85 t0 a.obj 0 1) λf=>some (!f))) λg=>
 (bif (g||((!decide (a.else_=(-1)))&&(!(f26 t0 a.else_)))) then some false else(f53_l2 t0 e a 9223372036854775808 0)) else(d ()))
def f53_l5(a:lI)(c:Int)(e:Unit→oB):Nat→Int→oB
 |0,_=>none
 |nb+1,d=>
 (bif (decide (d<c)) then Option.bind (idx a d) λf=>
 Option.bind (idx a c) λg=>
 (bif (decide (f=g)) then some false else(f53_l5 a c e nb (IntKind.i64.wrap (d+1)))) else(e ()))
def f53_l4(t0:ah)(d:Unit→oB)(a:lI):Nat→Int→oB
 |0,_=>none
 |na+1,c=>
 (bif (decide (c<(List.length a:Int))) then ak (λ(_:Unit)=>
 (f53_l4 t0 d a na (IntKind.i64.wrap (c+1)))) λe=>
 Option.bind (idx a c) λf=>
 Option.bind (bif (decide (f<1)) then some true else(Option.bind (idx a c) λg=>some (decide (g≥(List.length t0.tasks:Int))))) λh=>
 (bif h then some false else(f53_l5 a c e 9223372036854775808 0)) else(d ()))
def f53_l3(t0:ah)(c:Unit→oB):Nat→Int→oB
 |0,_=>none
 |n+1,a=>
 (bif (decide (a<(List.length t0.lists:Int))) then ak (λ(_:Unit)=>
 (f53_l3 t0 c n (IntKind.i64.wrap (a+1)))) λe=>
 Option.bind (idx t0.lists a) λd=>
 (bif (decide ((List.length d:Int)>32)) then some false else(f53_l4 t0 e d 9223372036854775808 0)) else(c ()))
def f53(t0:ah):oB:=
 (bif ((decide ((List.length t0.selects:Int)>1024))||(decide ((List.length t0.lists:Int)>4096))) then some false else ak (λ(_:Unit)=>
 ak (λ(_:Unit)=>
 some true) λa=>
 (f53_l3 t0 a 9223372036854775808 0)) λc=>
 (f53_l1 t0 c 9223372036854775808 0))
def f54_l2(t0:ah)(e:Int)(f:Int→Int→Int→Bool→oB)(a:aQ):Nat→Int→oB
 |0,_=>none
 |na+1,d=>
 (bif (decide (d<e)) then Option.bind (idx t0.handlers d) λc=>
 (bif ((!((decide (c.from_≥a.from_))&&(decide (c.to≤a.to))))&&(!((decide (c.to≤a.from_))||(decide (a.to≤c.from_))))) then some false else(f54_l2 t0 e f a na (IntKind.i64.wrap (d+1)))) else(f a.from_ a.to a.at_ a.clean))
def f54_l1(t0:ah)(d:Unit→oB):Nat→Int→oB
 |0,_=>none
 |n+1,c=>
 (bif (decide (c<(List.length t0.handlers:Int))) then ak (λ(c00v110:Int)(c01v111:Int)(c02v112:Int)(c03v113:Bool)=>
 (f54_l1 t0 d n (IntKind.i64.wrap (c+1)))) λe=>
 Option.bind (idx t0.handlers c) λa=>
 (bif (((((decide (a.from_<0))||(decide (a.from_≥a.to)))||(decide (a.to>(List.length t0.insns:Int))))||(!(f26 t0 a.at_)))||((decide (a.at_≥a.from_))&&(decide (a.at_<a.to)))) then some false else(f54_l2 t0 c e a 9223372036854775808 0)) else(d ()))
def f54(t0:ah):oB:=
 (bif (decide ((List.length t0.handlers:Int)>4096)) then some false else ak (λ(_:Unit)=>
 some true) λa=>
 (f54_l1 t0 a 9223372036854775808 0))
def f55_l2(t0:ah)(g:Int)(n:Nat)(h:Int→Int→Int→Int→Int→Int→Int→Int→Int→Int→oB)(e:Loop)(c:aR):Nat→Int→oB
 |0,_=>none
 |na+1,f=>
 (bif (decide (f<g)) then Option.bind (idx t0.loops f) λj=>
 (bif (decide (j.back=e.back)) then some false else(f55_l2 t0 g n h e c na (IntKind.i64.wrap (f+1)))) else(h e.head e.back e.bound c.op c.d c.a c.b c.n c.m c.to))
def f55_l1(t0:ah)(e:Unit→oB):Nat→Int→oB
 |0,_=>none
 |n+1,d=>
 (bif (decide (d<(List.length t0.loops:Int))) then ak (λ(c00v98:Int)(c01v99:Int)(c02v100:Int)(c10v101:Int)(c11v102:Int)(c12v103:Int)(c13v104:Int)(c14v105:Int)(c15v106:Int)(c16v107:Int)=>
 (f55_l1 t0 e n (IntKind.i64.wrap (d+1)))) λf=>
 Option.bind (idx t0.loops d) λa=>
 (bif (((((!(f26 t0 a.head))||(!(f26 t0 a.back)))||(decide (a.head>a.back)))||(decide (a.bound<0)))||(decide (a.bound>2147483647))) then some false else Option.bind (idx t0.insns a.back) λc=>
 (bif ((((!decide (c.op=29))&&(!decide (c.op=30)))&&(!decide (c.op=31)))||(!decide (c.to=a.head))) then some false else(f55_l2 t0 d n f a c 9223372036854775808 0))) else(e ()))
def f55(t0:ah):oB:=
 (bif (decide ((List.length t0.loops:Int)>4096)) then some false else ak (λ(_:Unit)=>
 some true) λa=>
 (f55_l1 t0 a 9223372036854775808 0))
def f151:List Row:=
 [(Row.mk 1 (bA #[108,105]) [fD 68 0 15,fD 78 (-9223372036854775808) 9223372036854775807]),(Row.mk 2 (bA #[109,118]) [fD 68 0 15,fD 65 0 15]),(Row.mk 3 (bA #[108,100]) [fD 68 0 15,fD 78 0 4095,fD 77 0 65535]),(Row.mk 4 (bA #[115,116]) [fD 65 0 15,fD 78 0 4095,fD 77 0 65535]),(Row.mk 5 (bA #[108,100,120]) [fD 68 0 15,fD 65 0 15,fD 66 1 65536,fD 78 0 4095,fD 77 0 65535]),(Row.mk 6 (bA #[115,116,120]) [fD 68 0 15,fD 65 0 15,fD 66 1 65536,fD 78 0 4095,fD 77 0 65535]),(Row.mk 7 (bA #[108,100,97]) [fD 68 0 15,fD 65 0 15]),(Row.mk 8 (bA #[115,116,97]) [fD 68 0 15,fD 65 0 15]),(Row.mk 9 (bA #[97,100,100]) [fD 68 0 15,fD 65 0 15,fD 66 0 15]),(Row.mk 10 (bA #[115,117,98]) [fD 68 0 15,fD 65 0 15,fD 66 0 15]),(Row.mk 11 (bA #[109,117,108]) [fD 68 0 15,fD 65 0 15,fD 66 0 15]),(Row.mk 12 (bA #[100,105,118]) [fD 68 0 15,fD 65 0 15,fD 66 0 15]),(Row.mk 13 (bA #[114,101,109]) [fD 68 0 15,fD 65 0 15,fD 66 0 15]),(Row.mk 14 (bA #[109,111,100]) [fD 68 0 15,fD 65 0 15,fD 66 0 15]),(Row.mk 15 (bA #[101,113]) [fD 68 0 15,fD 65 0 15,fD 66 0 15]),(Row.mk 16 (bA #[110,101]) [fD 68 0 15,fD 65 0 15,fD 66 0 15]),(Row.mk 17 (bA #[108,116]) [fD 68 0 15,fD 65 0 15,fD 66 0 15]),(Row.mk 18 (bA #[108,101]) [fD 68 0 15,fD 65 0 15,fD 66 0 15]),(Row.mk 19 (bA #[103,116]) [fD 68 0 15,fD 65 0 15,fD 66 0 15]),(Row.mk 20 (bA #[103,101]) [fD 68 0 15,fD 65 0 15,fD 66 0 15]),(Row.mk 21 (bA #[97,110,100]) [fD 68 0 15,fD 65 0 15,fD 66 0 15]),(Row.mk 22 (bA #[111,114]) [fD 68 0 15,fD 65 0 15,fD 66 0 15]),(Row.mk 23 (bA #[120,111,114]) [fD 68 0 15,fD 65 0 15,fD 66 0 15]),(Row.mk 24 (bA #[110,101,103]) [fD 68 0 15,fD 65 0 15]),(Row.mk 25 (bA #[97,98,115]) [fD 68 0 15,fD 65 0 15]),(Row.mk 26 (bA #[110,111,116]) [fD 68 0 15,fD 65 0 15]),(Row.mk 27 (bA #[99,104,107]) [fD 65 0 15,fD 78 (-9223372036854775808) 9223372036854775807,fD 77 (-9223372036854775808) 9223372036854775807]),(Row.mk 28 (bA #[99,104,107,122]) [fD 65 0 15]),(Row.mk 29 (bA #[106,109,112]) [fD 84 0 65535]),(Row.mk 30 (bA #[106,122]) [fD 65 0 15,fD 84 0 65535]),(Row.mk 31 (bA #[106,110,122]) [fD 65 0 15,fD 84 0 65535]),(Row.mk 32 (bA #[106,116]) [fD 65 0 15,fD 78 (-9223372036854775808) 9223372036854775807,fD 77 1 65536,fD 84 0 65535]),(Row.mk 33 (bA #[114,97,105,115,101]) [fD 78 1 64]),(Row.mk 34 (bA #[114,97,105,115,101,114]) [fD 65 0 15]),(Row.mk 35 (bA #[99,111,110,116]) [fD 65 0 15]),(Row.mk 36 (bA #[101,120,99]) [fD 68 0 15]),(Row.mk 37 (bA #[109,97,114,107]) [fD 78 6 7,fD 77 0 65535]),(Row.mk 38 (bA #[103,101,116]) [fD 68 0 15]),(Row.mk 39 (bA #[112,117,116]) [fD 65 0 15]),(Row.mk 40 (bA #[100,101,102,101,114]) []),(Row.mk 41 (bA #[97,108,108,111,119]) []),(Row.mk 42 (bA #[99,108,111,99,107]) [fD 68 0 15]),(Row.mk 43 (bA #[99,111,117,110,116]) [fD 68 0 15,fD 78 0 7,fD 77 (-1) 31]),(Row.mk 44 (bA #[115,116,97,114,116]) [fD 78 0 65535]),(Row.mk 45 (bA #[110,101,118,101,114]) [fD 78 0 65535]),(Row.mk 46 (bA #[97,119,97,105,116]) [fD 65 0 15,fD 78 0 65535]),(Row.mk 47 (bA #[100,101,108,97,121]) [fD 65 0 15]),(Row.mk 48 (bA #[117,110,116,105,108]) [fD 65 0 15]),(Row.mk 49 (bA #[99,97,108,108]) [fD 68 0 15,fD 65 0 31,fD 66 0 7,fD 78 0 4095,fD 77 0 3]),(Row.mk 50 (bA #[115,101,108]) [fD 78 0 1023]),(Row.mk 51 (bA #[100,111,110,101]) [fD 78 0 1]),(Row.mk 52 (bA #[114,101,113]) [fD 65 0 31,fD 66 0 7,fD 78 0 1,fD 84 0 65535]),(Row.mk 53 (bA #[108,111,99,107]) [fD 78 0 31]),(Row.mk 54 (bA #[112,101,110,116]) [fD 68 0 15,fD 65 0 15,fD 66 0 3,fD 78 0 31,fD 77 0 7]),(Row.mk 55 (bA #[117,110,108,111,99,107]) [fD 78 0 31]),(Row.mk 56 (bA #[97,98,111,114,116]) [fD 78 0 65535]),(Row.mk 57 (bA #[101,110,100]) [])]
def f132_l1(o0:Int)(c:Unit→Option (Row×Bool)):Nat→Int→Option (Row×Bool)
 |0,_=>none
 |n+1,a=>
 (bif (decide (a<(List.length f151:Int))) then Option.bind (idx f151 a) λd=>
 (bif (decide (d.op=o0)) then Option.bind (idx f151 a) λe=>
 some (e,true) else(f132_l1 o0 c n (IntKind.i64.wrap (a+1)))) else(c ()))
def f132(o0:Int):Option (Row×Bool):=
 ak (λ(_:Unit)=>
 some ((Row.mk 0 ByteArray.empty []),false)) λa=>
 (f132_l1 o0 a 9223372036854775808 0)
def f133(x0:aR)(f1:Int):Int:=
 (bif (decide (f1=68)) then x0.d else(bif (decide (f1=65)) then x0.a else(bif (decide (f1=66)) then x0.b else(bif (decide (f1=78)) then x0.n else(bif (decide (f1=77)) then x0.m else x0.to)))))
def f134(x0:aR)(f1:Int)(v2:Int):aR:=
 ak (λ(c01v35:Int)(c02v36:Int)(c03v37:Int)(c04v38:Int)(c05v39:Int)(c06v40:Int)=>
 (aR.mk x0.op c01v35 c02v36 c03v37 c04v38 c05v39 c06v40)) λc=>
 (bif (decide (f1=68)) then(c v2 x0.a x0.b x0.n x0.m x0.to) else(bif (decide (f1=65)) then(c x0.d v2 x0.b x0.n x0.m x0.to) else(bif (decide (f1=66)) then(c x0.d x0.a v2 x0.n x0.m x0.to) else(bif (decide (f1=78)) then(c x0.d x0.a x0.b v2 x0.m x0.to) else(bif (decide (f1=77)) then(c x0.d x0.a x0.b x0.n v2 x0.to) else(c x0.d x0.a x0.b x0.n x0.m v2))))))
def f91_l1(x0:aR)(e:Row×Bool)(g:Int→Int→Int→Int→Int→Int→Int→oB):Nat→Int→Int→Int→Int→Int→Int→Int→Int→oB
 |0,_,_,_,_,_,_,_,_=>none
 |n+1,f,c10v99,c11v100,c12v101,c13v102,c14v103,c15v104,c16v105=>
 (bif (decide (f<(List.length e.1.fields:Int))) then Option.bind (idx e.1.fields f) λc=>
 (bif ((decide ((f133 x0 c.name)<c.lo))||(decide ((f133 x0 c.name)>c.hi))) then some false else(f91_l1 x0 e g n (IntKind.i64.wrap (f+1)) ((f134 (aR.mk c10v99 c11v100 c12v101 c13v102 c14v103 c15v104 c16v105) c.name 0).op) ((f134 (aR.mk c10v99 c11v100 c12v101 c13v102 c14v103 c15v104 c16v105) c.name 0).d) ((f134 (aR.mk c10v99 c11v100 c12v101 c13v102 c14v103 c15v104 c16v105) c.name 0).a) ((f134 (aR.mk c10v99 c11v100 c12v101 c13v102 c14v103 c15v104 c16v105) c.name 0).b) ((f134 (aR.mk c10v99 c11v100 c12v101 c13v102 c14v103 c15v104 c16v105) c.name 0).n) ((f134 (aR.mk c10v99 c11v100 c12v101 c13v102 c14v103 c15v104 c16v105) c.name 0).m) ((f134 (aR.mk c10v99 c11v100 c12v101 c13v102 c14v103 c15v104 c16v105) c.name 0).to))) else(g c10v99 c11v100 c12v101 c13v102 c14v103 c15v104 c16v105))
def f91(x0:aR):oB:=
 Option.bind (f132 x0.op) λc=>
 (bif (!c.2) then some false else ak (λ(c10v82:Int)(c11v83:Int)(c12v84:Int)(c13v85:Int)(c14v86:Int)(c15v87:Int)(c16v88:Int)=>
 some (((((decide (c10v82=0))&&((decide (c11v83=0))&&((decide (c12v84=0))&&((decide (c13v85=0))&&((decide (c14v86=0))&&((decide (c15v87=0))&&((decide (c16v88=0))&&true))))))))&&((!decide (x0.op=27))||(decide (x0.n≤x0.m))))&&(((!decide (x0.op=37))||(!decide (x0.n=6)))||(decide (x0.m=0))))) λe=>
 (f91_l1 x0 c e 9223372036854775808 0 0 x0.d x0.a x0.b x0.n x0.m x0.to))
def f92_l1(t0:ah)(c:Int)(d:Int)(e:Unit→oB):Nat→Int→oB
 |0,_=>none
 |n+1,a=>
 (bif (decide (a<(IntKind.i64.wrap (c+d)))) then Option.bind (idx t0.insns a) λf=>
 (bif (!decide (f.op=29)) then some false else(f92_l1 t0 c d e n (IntKind.i64.wrap (a+1)))) else(e ()))
def f92(t0:ah)(a:Int)(c:Int):oB:=
 (bif (decide ((IntKind.i64.wrap (a+c))>(List.length t0.insns:Int))) then some false else ak (λ(_:Unit)=>
 some true) λd=>
 (f92_l1 t0 a c d 9223372036854775808 a))
def f93(t0:ah)(a:Int)(n2:Int):Option (bG×Bool):=
 Option.bind (bif (((decide (a<0))||(decide (a≥(List.length t0.tasks:Int))))||(decide (n2<0))) then some true else(Option.bind (idx t0.tasks a) λc=>some (decide (n2≥(List.length c.entries:Int))))) λd=>
 (bif d then some ((bG.mk [] []),false) else Option.bind (idx t0.tasks a) λe=>
 Option.bind (idx e.entries n2) λf=>
 some (f,true))
def f94(t0:ah)(p1:Int)(n2:Int):oB:=
 Option.bind (bif (((decide (p1≥0))&&(decide (p1<(List.length t0.prots:Int))))&&(decide (n2≥0))) then(Option.bind (idx t0.prots p1) λa=>some (decide (n2<(List.length a.barriers:Int)))) else some false) λc=>
 some c
def f56(t0:ah)(x1:aR):oB:=
 Option.bind (f91 x1) λj=>
 (bif (!j) then some false else ak (λ(k:Bool)=>
 (bif k then Option.bind (f85 t0 x1.n x1.m 1) λp=>
 some p else ak (λ(r:Bool)=>
 (bif r then Option.bind (f85 t0 x1.n x1.m x1.b) λt=>
 some t else ak (λ(w:Bool)=>
 (bif w then some (f26 t0 x1.to) else(bif (decide (x1.op=32)) then Option.bind (f92 t0 x1.to x1.m) λx=>
 some x else(bif (decide (x1.op=33)) then some (decide (x1.n≤t0.excs)) else ak (λ(y:Bool)=>
 (bif y then some (decide (x1.n<(List.length t0.lists:Int))) else(bif (decide (x1.op=50)) then some (decide (x1.n<(List.length t0.selects:Int))) else(bif (decide (x1.op=49)) then Option.bind (f93 t0 x1.a x1.b) λd=>
 Option.bind (bif d.2 then(Option.bind (f85 t0 x1.n 0 (IntKind.i64.wrap ((IntKind.i64.wrap ((List.length d.1.ins:Int)+(List.length d.1.outs:Int)))+1))) λA=>some A) else some false) λB=>
 some B else(bif (decide (x1.op=52)) then Option.bind (f93 t0 x1.a x1.b) λC=>
 some (C.2&&(f26 t0 x1.to)) else ak (λ(E:Bool)=>
 (bif E then some (decide (x1.n<(List.length t0.prots:Int))) else(bif (decide (x1.op=54)) then Option.bind (f94 t0 x1.n x1.m) λF=>
 some F else(bif (decide (x1.op=43)) then Option.bind (bif (decide (x1.m=(-1))) then some true else(Option.bind (f94 t0 x1.m x1.n) λG=>some G)) λH=>
 some H else some true)))) λf=>
 (bif (decide (x1.op=53)) then(f (decide (x1.op=53))) else(f (decide (x1.op=55))))))))) λc=>
 (bif (decide (x1.op=44)) then(c (decide (x1.op=44))) else(bif (decide (x1.op=45)) then(c (decide (x1.op=45))) else(bif (decide (x1.op=46)) then(c (decide (x1.op=46))) else(c (decide (x1.op=56)))))))))) λe=>
 (bif (decide (x1.op=29)) then(e (decide (x1.op=29))) else(bif (decide (x1.op=30)) then(e (decide (x1.op=30))) else(e (decide (x1.op=31))))))) λg=>
 (bif (decide (x1.op=5)) then(g (decide (x1.op=5))) else(g (decide (x1.op=6)))))) λh=>
 (bif (decide (x1.op=3)) then(h (decide (x1.op=3))) else(h (decide (x1.op=4)))))
def f25_l1(t0:ah)(c:Unit→oB):Nat→Int→oB
 |0,_=>none
 |n+1,a=>
 (bif (decide (a<(List.length t0.insns:Int))) then Option.bind (idx t0.insns a) λd=>
 Option.bind (f56 t0 d) λe=>
 (bif (!e) then some false else(f25_l1 t0 c n (IntKind.i64.wrap (a+1)))) else(c ()))
def f25(t0:ah):oB:=
 Option.bind (bif ((decide ((List.length t0.insns:Int)<1))||(decide ((List.length t0.insns:Int)>65536))) then some true else(Option.bind (f50 t0) λc=>some (!c))) λd=>
 Option.bind (bif d then some true else(Option.bind (f51 t0) λe=>some (!e))) λf=>
 Option.bind (bif f then some true else(Option.bind (f52 t0) λg=>some (!g))) λh=>
 Option.bind (bif h then some true else(Option.bind (f53 t0) λj=>some (!j))) λk=>
 Option.bind (bif k then some true else(Option.bind (f54 t0) λm=>some (!m))) λp=>
 Option.bind (bif p then some true else(Option.bind (f55 t0) λr=>some (!r))) λt=>
 (bif t then some false else ak (λ(_:Unit)=>
 Option.bind (idx t0.insns (IntKind.i64.wrap ((List.length t0.insns:Int) - 1))) λa=>
 some ((((decide (a.op=29))||(decide (a.op=33)))||(decide (a.op=34)))||(decide (a.op=57)))) λw=>
 (f25_l1 t0 w 9223372036854775808 0))
def f70_l1(l0:lI)(n1:Int)(e:Bool→lI→Option lI):Nat→Bool→Int→lI→Option lI
 |0,_,_,_=>none
 |n+1,d,a,c=>
 (bif (decide (a<(List.length l0:Int))) then ak (λ(k:Bool)(f:lI)=>
 Option.bind (idx l0 a) λg=>
 aO (bw 8 f [g])<|
 (f70_l1 l0 n1 e n k (IntKind.i64.wrap (a+1)) (f++ [g]))) λh=>
 Option.bind (bif (!d) then(Option.bind (idx l0 a) λm=>some (decide (n1≤m))) else some false) λp=>
 (bif p then ak (λ(r:lI)=>
 (h true r)) λj=>
 Option.bind (idx l0 a) λt=>
 (bif (decide (n1<t)) then aO (bw 8 c [n1])<|
 (j (c++ [n1])) else(j c)) else(h d c)) else(e d c))
def f70(l0:lI)(n1:Int):Option lI:=
 ak (λ(d:Bool)(a:lI)=>
 ak (λ(e:lI)=>
 some e) λc=>
 (bif (!d) then aO (bw 8 a [n1])<|
 (c (a++ [n1])) else(c a))) λf=>
 (f70_l1 l0 n1 f 9223372036854775808 false 0 [])
def f72_l1(o0:Int)(c:Unit→oB):Nat→Int→oB
 |0,_=>none
 |n+1,a=>
 (bif (decide (a<(List.length [27,28,33,34,35,38,49,50,53,54]:Int))) then Option.bind (idx [27,28,33,34,35,38,49,50,53,54] a) λd=>
 (bif (decide (d=o0)) then some true else(f72_l1 o0 c n (IntKind.i64.wrap (a+1)))) else(c ()))
def f72(o0:Int):oB:=
 ak (λ(_:Unit)=>
 some false) λa=>
 (f72_l1 o0 a 9223372036854775808 0)
def f125_l1(t0:ah)(c:Int)(c2:Int)(e:Unit→Option (Int)):Nat→Int→Option (Int)
 |0,_=>none
 |n+1,a=>
 (bif ((decide (a<(List.length t0.handlers:Int)))&&(!decide (c2=0))) then Option.bind (idx t0.handlers a) λd=>
 (bif (((decide (d.from_≤c))&&(decide (c<d.to)))&&((decide (c2>0))||d.clean)) then some a else(f125_l1 t0 c c2 e n (IntKind.i64.wrap (a+1)))) else(e ()))
def f125(t0:ah)(a:Int)(c2:Int):Option Int:=
 ak (λ(_:Unit)=>
 some (-1)) λc=>
 (f125_l1 t0 a c2 c 9223372036854775808 0)
def f73(t0:ah)(c:Int)(c2:Int):Option (Int×Bool):=
 Option.bind (f125 t0 c c2) λa=>
 (bif (decide (a<0)) then some (0,false) else Option.bind (idx t0.handlers a) λd=>
 some (d.at_,true))
def f38_l1(a:aR)(d:lI→Option lI):Nat→lI→Int→Option lI
 |0,_,_=>none
 |n+1,e,c=>
 (bif (decide (c<a.m)) then Option.bind (f70 e (IntKind.i64.wrap (a.to+c))) λf=>
 (f38_l1 a d n f (IntKind.i64.wrap (c+1))) else(d e))
def f38_l2(a:cg)(d:lI→Option lI):Nat→lI→Int→Option lI
 |0,_,_=>none
 |n+1,e,c=>
 (bif (decide (c<(List.length a.alts:Int))) then Option.bind (idx a.alts c) λf=>
 Option.bind (f70 e f.at_) λg=>
 (f38_l2 a d n g (IntKind.i64.wrap (c+1))) else(d e))
def f38(t0:ah)(at1:Int):Option lI:=
 Option.bind (idx t0.insns at1) λa=>
 ak (λ(d:lI)=>
 ak (λ(f:lI)=>
 ak (λ(g:lI)=>
 ak (λ(w:lI)=>
 some w) λh=>
 (bif (decide (a.op=35)) then Option.bind (f73 t0 at1 (-1)) λm=>
 (bif m.2 then Option.bind (f70 g m.1) λx=>
 (h x) else(h g)) else(h g))) λj=>
 Option.bind (f72 a.op) λy=>
 (bif y then Option.bind (f73 t0 at1 1) λp=>
 (bif p.2 then Option.bind (f70 f p.1) λA=>
 (j A) else(j f)) else(j f))) λc=>
 ak (λ(B:Bool)=>
 (bif B then Option.bind (f70 d a.to) λC=>
 (c C) else(bif (decide (a.op=32)) then(f38_l1 a c 9223372036854775808 d 0) else(bif (decide (a.op=50)) then Option.bind (idx t0.selects a.n) λk=>
 ak (λ(r:lI)=>
 (bif (!decide (k.else_=(-1))) then Option.bind (f70 r k.else_) λE=>
 (c E) else(c r))) λF=>
 (f38_l2 k F 9223372036854775808 d 0) else(c d))))) λe=>
 (bif (decide (a.op=29)) then(e (decide (a.op=29))) else(bif (decide (a.op=30)) then(e (decide (a.op=30))) else(bif (decide (a.op=31)) then(e (decide (a.op=31))) else(e (decide (a.op=52))))))) λt=>
 (bif (((((((decide ((IntKind.i64.wrap (at1+1))<(List.length t0.insns:Int)))&&(!decide (a.op=29)))&&(!decide (a.op=33)))&&(!decide (a.op=34)))&&(!decide (a.op=50)))&&(!decide (a.op=52)))&&(!decide (a.op=57))) then Option.bind (f70 [] (IntKind.i64.wrap (at1+1))) λG=>
 (t G) else(t []))
def f35_l3(d:lI→Option lI)(a:lI):Nat→lI→Int→Option lI
 |0,_,_=>none
 |nb+1,e,c=>
 (bif (decide (c<(List.length a:Int))) then Option.bind (idx a c) λf=>
 Option.bind (f70 e f) λg=>
 (f35_l3 d a nb g (IntKind.i64.wrap (c+1))) else(d e))
def f35_l2(t0:ah)(a:lI)(d:lI→Option lI):Nat→lI→Int→Option lI
 |0,_,_=>none
 |na+1,e,c=>
 (bif (decide (c<(List.length a:Int))) then ak (λ(f:lI)=>
 (f35_l2 t0 a d na f (IntKind.i64.wrap (c+1)))) λg=>
 Option.bind (idx a c) λh=>
 Option.bind (f38 t0 h) λj=>
 (f35_l3 g j 9223372036854775808 e 0) else(d e))
def f35_l1(t0:ah):Nat→lI→Option lI
 |0,_=>none
 |n+1,a=>
 ak (λ(d:lI)=>
 (f35_l1 t0 n d)) λe=>
 ak (λ(c:lI)=>
 (bif (decide ((List.length c:Int)=(List.length a:Int))) then some a else(e c))) λf=>
 (f35_l2 t0 a f 9223372036854775808 a 0)
def f35(t0:ah)(a:Int):Option lI:=
 (f35_l1 t0 9223372036854775808 [a])
def f71_l1(t0:ah)(a:lI)(e:Int)(f:lI→Option lI):Nat→Int→lI→Option lI
 |0,_,_=>none
 |n+1,c,d=>
 (bif (decide (c<(List.length a:Int))) then ak (λ(j:lI)=>
 (f71_l1 t0 a e f n (IntKind.i64.wrap (c+1)) j)) λg=>
 Option.bind (idx a c) λk=>
 Option.bind (f38 t0 k) λm=>
 Option.bind (f36 m e) λp=>
 (bif p then Option.bind (idx a c) λh=>
 aO (bw 8 d [h])<|
 (g (d++ [h])) else(g d)) else(f d))
def f71(t0:ah)(a:lI)(c:Int):Option lI:=
 ak (λ(d:lI)=>
 some d) λe=>
 (f71_l1 t0 a c e 9223372036854775808 0 [])
def f37(t0:ah)(c:lI)(d:Int)(a3:Int):oB:=
 Option.bind (f38 t0 a3) λa=>
 Option.bind (bif (decide ((List.length a:Int)=1)) then(Option.bind (idx a 0) λe=>some (decide (e=(IntKind.i64.wrap (a3+1))))) else some false) λf=>
 Option.bind (bif (f&&(!decide ((IntKind.i64.wrap (a3+1))=d))) then(Option.bind (f71 t0 c (IntKind.i64.wrap (a3+1))) λg=>some (decide ((List.length g:Int)=1))) else some false) λh=>
 some h
def f11_l1(t0:ah)(e:Int)(a:lI)(g:lI→Option ((List al)×Int)):Nat→Int→lI→Option ((List al)×Int)
 |0,_,_=>none
 |n+1,f,d=>
 (bif (decide (f<(List.length a:Int))) then ak (λ(j:lI)=>
 (f11_l1 t0 e a g n (IntKind.i64.wrap (f+1)) j)) λh=>
 Option.bind (idx a f) λc=>
 Option.bind (bif (!decide (c=e)) then(Option.bind (f36 a (IntKind.i64.wrap (c - 1))) λk=>Option.bind (bif k then(Option.bind (f37 t0 a e (IntKind.i64.wrap (c - 1))) λm=>some m) else some false) λp=>some (!p)) else some false) λr=>
 (bif r then aO (bw 8 d [c])<|
 (h (d++ [c])) else(h d)) else(g d))
def f11_l3(t0:ah)(a:Int)(c:lI)(d:Int→Option ((List al)×Int)):Nat→Int→Option ((List al)×Int)
 |0,_=>none
 |na+1,c21v165=>
 Option.bind (f37 t0 c a (IntKind.i64.wrap (c21v165 - 1))) λe=>
 (bif e then(f11_l3 t0 a c d na (IntKind.i64.wrap (c21v165+1))) else(d c21v165))
def f11_l4(d:lI)(e:lI)(f:lI→Option ((List al)×Int)):Nat→Int→lI→Option ((List al)×Int)
 |0,_,_=>none
 |na+1,a,c=>
 (bif (decide (a<(List.length d:Int))) then ak (λ(h:lI)=>
 (f11_l4 d e f na (IntKind.i64.wrap (a+1)) h)) λg=>
 Option.bind (idx d a) λj=>
 Option.bind (f36 e j) λk=>
 (bif k then aO (bw 8 c [a])<|
 (g (c++ [a])) else(g c)) else(f c))
def f11_l2(t0:ah)(g:Int)(h:lI)(a:lI)(j:(List al)→Option ((List al)×Int)):Nat→Int→(List al)→Option ((List al)×Int)
 |0,_,_=>none
 |n+1,c,f=>
 (bif (decide (c<(List.length a:Int))) then ak (λ(k:List al)(x:List al)(c20v156:Int)(c21v157:Int)(c22v158:lI)=>
 (f11_l2 t0 g h a j n (IntKind.i64.wrap (c+1)) k)) λm=>
 Option.bind (idx a c) λd=>
 Option.bind (idx a c) λp=>
 ak (λ(c21v162:Int)=>
 Option.bind (f38 t0 (IntKind.i64.wrap (c21v162 - 1))) λr=>
 ak (λ(e:lI)=>
 aO (bw 40 f [(al.mk d c21v162 e)])<|
 (m (f++ [(al.mk d c21v162 e)]) [(al.mk d c21v162 e)] d c21v162 e)) λt=>
 (f11_l4 a r t 9223372036854775808 0 [])) λw=>
 (f11_l3 t0 g h w 9223372036854775808 (IntKind.i64.wrap (p+1))) else(j f))
def f11(t0:ah)(a:Int):Option ((List al)×Int):=
 Option.bind (f25 t0) λd=>
 (bif ((!d)||(!(f26 t0 a))) then some ([],2) else Option.bind (f35 t0 a) λc=>
 ak (λ(e:lI)=>
 ak (λ(f:List al)=>
 some (f,0)) λg=>
 (f11_l2 t0 a c e g 9223372036854775808 0 [])) λh=>
 (f11_l1 t0 a c h 9223372036854775808 0 [a]))
def f14(t0:ah)(at1:Int):Option lI:=
 Option.bind (f25 t0) λa=>
 (bif ((!a)||(!(f26 t0 at1))) then some [] else Option.bind (f38 t0 at1) λc=>
 some c)
def f15_l1(a0:List al)(b1:List al)(c:Unit→oB):Nat→Int→oB
 |0,_=>none
 |n+1,a=>
 (bif (decide (a<(List.length a0:Int))) then Option.bind (idx a0 a) λd=>
 Option.bind (idx b1 a) λe=>
 Option.bind (bif (!decide (d.from_=e.from_)) then some true else(Option.bind (idx a0 a) λf=>Option.bind (idx b1 a) λg=>some (!decide (f.to=g.to)))) λh=>
 Option.bind (bif h then some true else(Option.bind (idx a0 a) λj=>Option.bind (idx b1 a) λk=>Option.bind (f12 j.next k.next) λm=>some (!m))) λp=>
 (bif p then some false else(f15_l1 a0 b1 c n (IntKind.i64.wrap (a+1)))) else(c ()))
def f15(a0:List al)(b1:List al):oB:=
 (bif (!decide ((List.length a0:Int)=(List.length b1:Int))) then some false else ak (λ(_:Unit)=>
 some true) λe=>
 (f15_l1 a0 b1 e 9223372036854775808 0))
noncomputable def f3(t0:ah)(at1:Int):oB:=
 (bif (f8 t0) then Option.bind (f9) λf=>
 some f else Option.bind (f10 t0 at1) λc=>
 Option.bind (f11 t0 at1) λd=>
 ak (λ(g:Bool)=>
 some g) λa=>
 Option.bind (f13 t0 at1) λh=>
 Option.bind (f14 t0 at1) λj=>
 Option.bind (f12 h j) λk=>
 (bif k then Option.bind (f15 c.1 d.1) λm=>
 (bif m then(bif (decide (c.2=d.2)) then Option.bind (f9) λp=>
 (a p) else(a false)) else(a false)) else(a false)))
def f5_l2(d:(List al)×Int)(e:Int)(f:lI→oB):Nat→Int→lI→oB
 |0,_,_=>none
 |na+1,a,c=>
 Option.bind (idx d.1 e) λg=>
 (bif (decide (a<g.to)) then Option.bind (idx c a) λh=>
 Option.bind (idx c a) λj=>
 (f5_l2 d e f na (IntKind.i64.wrap (a+1)) (List.set c (Int.toNat a) (IntKind.i64.wrap (h+1)))) else(f c))
def f5_l1(t0:ah)(a:(List al)×Int)(d:lI→oB):Nat→Int→lI→oB
 |0,_,_=>none
 |n+1,c,e=>
 (bif (decide (c<(List.length a.1:Int))) then ak (λ(f:lI)=>
 (f5_l1 t0 a d n (IntKind.i64.wrap (c+1)) f)) λg=>
 Option.bind (idx a.1 c) λh=>
 Option.bind (bif (decide (h.from_<0)) then some true else(Option.bind (idx a.1 c) λj=>Option.bind (idx a.1 c) λk=>some (decide (j.from_≥k.to)))) λm=>
 Option.bind (bif m then some true else(Option.bind (idx a.1 c) λp=>some (decide (p.to>(List.length t0.insns:Int))))) λr=>
 (bif r then some false else Option.bind (idx a.1 c) λt=>
 (f5_l2 a c g 9223372036854775808 t.from_ e)) else(d e))
def f5_l4(t0:ah)(e:lI→oB)(a:lI):Nat→Int→lI→oB
 |0,_,_=>none
 |na+1,c,f=>
 (bif (decide (c<(List.length a:Int))) then ak (λ(j:lI)=>
 (f5_l4 t0 e a na (IntKind.i64.wrap (c+1)) j)) λg=>
 Option.bind (idx a c) λk=>
 Option.bind (bif (decide (k<0)) then some true else(Option.bind (idx a c) λm=>some (decide (m≥(List.length t0.insns:Int))))) λp=>
 (bif p then some false else Option.bind (idx a c) λr=>
 Option.bind (f27w f r) λd=>
 (bif (!d.1) then Option.bind (idx a c) λh=>
 aO (bw 8 d.2 [h])<|
 (g (d.2++ [h])) else(g d.2))) else(e f))
def f5_l3(t0:ah)(d:lI→oB):Nat→Int→lI→oB
 |0,_,_=>none
 |n+1,c,a=>
 (bif (decide (c<(List.length a:Int))) then ak (λ(e:lI)=>
 (f5_l3 t0 d n (IntKind.i64.wrap (c+1)) e)) λf=>
 Option.bind (idx a c) λg=>
 Option.bind (f13 t0 g) λh=>
 (f5_l4 t0 f h 9223372036854775808 0 a) else(d a))
def f5_l5(t0:ah)(c:lI)(d:lI)(e:Unit→oB):Nat→Int→oB
 |0,_=>none
 |n+1,a=>
 (bif (decide (a<(List.length t0.insns:Int))) then Option.bind (f27 d a) λf=>
 Option.bind (idx c a) λg=>
 Option.bind (bif (!(f==(decide (g=1)))) then some true else(Option.bind (idx c a) λh=>some (decide (h>1)))) λj=>
 (bif j then some false else(f5_l5 t0 c d e n (IntKind.i64.wrap (a+1)))) else(e ()))
def f5_l8(t0:ah)(a:lI)(d:Int)(e:Unit→oB):Nat→Int→oB
 |0,_=>none
 |nb+1,c=>
 (bif (decide (c<(List.length a:Int))) then ak (λ(g:Bool)=>
 (bif g then some false else(f5_l8 t0 a d e nb (IntKind.i64.wrap (c+1))))) λf=>
 Option.bind (idx a c) λh=>
 (bif (!decide (h=d)) then Option.bind (idx a c) λj=>
 Option.bind (f13 t0 j) λk=>
 Option.bind (f27 k (IntKind.i64.wrap (d+1))) λm=>
 (f m) else(f false)) else(e ()))
def f5_l7(t0:ah)(c:(List al)×Int)(d:lI)(e:Int)(f:Unit→oB):Nat→Int→oB
 |0,_=>none
 |na+1,a=>
 Option.bind (idx c.1 e) λh=>
 (bif (decide ((IntKind.i64.wrap (a+1))<h.to)) then ak (λ(_:Unit)=>
 (f5_l7 t0 c d e f na (IntKind.i64.wrap (a+1)))) λj=>
 Option.bind (f13 t0 a) λg=>
 Option.bind (bif (!decide ((List.length g:Int)=1)) then some true else(Option.bind (idx g 0) λk=>some (!decide (k=(IntKind.i64.wrap (a+1)))))) λm=>
 (bif m then some false else(f5_l8 t0 d a j 9223372036854775808 0)) else(f ()))
def f5_l9(a:(List al)×Int)(d:Int)(e:Unit→oB)(f:lI):Nat→Int→oB
 |0,_=>none
 |na+1,c=>
 (bif (decide (c<(List.length a.1:Int))) then Option.bind (idx a.1 d) λg=>
 Option.bind (f27 g.next c) λh=>
 Option.bind (idx a.1 c) λj=>
 Option.bind (f27 f j.from_) λk=>
 (bif (!(h==k)) then some false else(f5_l9 a d e f na (IntKind.i64.wrap (c+1)))) else(e ()))
def f5_l6(t0:ah)(a:(List al)×Int)(d:lI)(e:Unit→oB):Nat→Int→oB
 |0,_=>none
 |n+1,c=>
 (bif (decide (c<(List.length a.1:Int))) then ak (λ(_:Unit)=>
 (f5_l6 t0 a d e n (IntKind.i64.wrap (c+1)))) λg=>
 ak (λ(_:Unit)=>
 Option.bind (idx a.1 c) λh=>
 Option.bind (f13 t0 (IntKind.i64.wrap (h.to - 1))) λj=>
 (f5_l9 a c g j 9223372036854775808 0)) λk=>
 Option.bind (idx a.1 c) λm=>
 (f5_l7 t0 a d c k 9223372036854775808 m.from_) else(e ()))
noncomputable def f5(t0:ah)(f:Int):oB:=
 Option.bind (bif (f8 t0) then some true else(Option.bind (f25 t0) λp=>some (!p))) λr=>
 (bif (r||(!(f26 t0 f))) then Option.bind (f9) λt=>
 some t else Option.bind (f10 t0 f) λa=>
 Option.bind (bif ((!decide (a.2=0))||(decide ((List.length a.1:Int)=0))) then some true else(Option.bind (idx a.1 0) λw=>some (!decide (w.from_=f)))) λx=>
 (bif x then some false else aO (mh 8 (List.length t0.insns:Int))<|
 ak (λ(y:lI)=>
 ak (λ(d:lI)=>
 ak (λ(_:Unit)=>
 ak (λ(_:Unit)=>
 Option.bind (f9) λA=>
 some A) λe=>
 (f5_l6 t0 a d e 9223372036854775808 0)) λB=>
 (f5_l5 t0 y d B 9223372036854775808 0)) λC=>
 (f5_l3 t0 C 9223372036854775808 0 [f])) λE=>
 (f5_l1 t0 a E 9223372036854775808 0 (List.replicate (Int.toNat (List.length t0.insns:Int)) (0:Int)))))
abbrev sN:AV:= .d (.v (.slice none 0 0))
abbrev _root_.Go.Sk.AO.z:AO:= .dead
abbrev txA(t:ah):lV:=[.l E64 t.insns, .l cB t.handlers, .l dA t.loops, .l dl t.selects, .l E43 t.lists, .l cN t.objs, .l dI t.inits, .n t.excs, .l E67 t.tasks, .l cM t.prots, .l d2 t.checks]
abbrev txV(a:lN)(b:lH)(c:lP)(d:lS)(e:lL)(f:lO)(g:lT)(h:Int)(i:lK)(j:lM)(k:lC):lV:=[.l E64 a, .l cB b, .l dA c, .l dl d, .l E43 e, .l cN f, .l dI g, .n h, .l E67 i, .l cM j, .l d2 k]
end Go.Proofs.YtpodhdopgcedlaaGreatDoor
