/- Part of the proof. -/
import Derived.Test.YtkbahggepncliaaGreatDoorT
set_option linter.unusedVariables false
set_option linter.unusedSimpArgs false
set_option linter.unusedSectionVars false
set_option linter.unnecessarySimpa false
namespace Go.Proofs.YtkbahggepncliaaGreatDoor
open Go Go.Sk
structure Field where
 name:Int
 lo:Int
 hi:Int
structure Row where
 op:Int
 name:ByteArray
 fields:List Field
structure bj where
 r:Nat→Int
 pc:Int
 exc:Int
 defer:Int
structure Act where
 time:Int
 task:Int
 kind:Int
 a:Int
 b:Int
 n:Int
structure ak where
 op:Int
 d:Int
 a:Int
 b:Int
 n:Int
 m:Int
 to:Int
structure an where
 from_:Int
 to:Int
 at_:Int
 clean:Bool
structure Loop where
 head:Int
 back:Int
 bound:Int
structure kL where
 kind:Int
 entry:Int
 guard:Int
 time:Int
 at_:Int
structure cY where
 alts:List kL
 obj:Int
 else_:Int
structure Obj where
 size:Int
 lo:Int
 hi:Int
 ptr:Bool
 set_:List Int
structure eO where
 o:Int
 slot:Int
 v:Int
structure bS where
 ins:List Int
 outs:List Int
structure dZ where
 prio:Int
 at_:Int
 entries:List bS
 deadline:Int
structure bv where
 kind:Int
 op:Int
 n:Int
 o:Int
 off:Int
 len:Int
 lo:Int
 hi:Int
 l:List bv
structure dH where
 ceiling:Int
 barriers:List bv
structure eZ where
 at_:Int
 kind:Int
structure ao where
 insns:List ak
 handlers:List an
 loops:List Loop
 selects:List cY
 lists:List (List Int)
 objs:List Obj
 inits:List eO
 excs:Int
 tasks:List dZ
 prots:List dH
 checks:List eZ
structure Mem where
 t:ao
 slots:List (List Int)
 in_:List Int
 out:List Int
structure State where
 m:Mem
 r:bj
 acts:List Act
 e:Int
structure Step where
 what:Int
 r:bj
 o:Int
 k:Int
 v:Int
structure nQ where
 e:Int
structure Mem90 where
 insns:List ak
 handlers:List an
 objs:List Obj
 excs:Int
 slots:List (List Int)
 in_:List Int
 out:List Int
structure Task where
 mem:Unit
 r:bj
 acts:List Act
structure bn where
 text:ao
structure Judge where
 view:bn
 entries:Int
 left:Int
structure Spot where
 o:Int
 slot:Int
structure gg where
 name:ByteArray
 fields:ByteArray
abbrev E3(x:Int):List D:=[.i .i64 x]
theorem iy(x:Int):E3 x=[.i .i64 x]:=rfl
abbrev rT(x:bS):List D:=[.sl (List.map E3 x.ins), .sl (List.map E3 x.outs)]
abbrev kM(x:bS):List D:=rT x
theorem pF(x:bS):kM x=rT x:=rfl
abbrev R27(x:dZ):List D:=[.i .i64 x.prio, .i .i64 x.at_, .sl (List.map kM x.entries), .i .i64 x.deadline]
abbrev E27(x:dZ):List D:=R27 x
theorem mt(x:dZ):E27 x=R27 x:=rfl
abbrev R45(x:ak):List D:=[.i .u8 x.op, .i .i64 x.d, .i .i64 x.a, .i .i64 x.b, .i .i64 x.n, .i .i64 x.m, .i .i64 x.to]
abbrev E45(x:ak):List D:=R45 x
theorem dE(x:ak):E45 x=R45 x:=rfl
abbrev ql(x:an):List D:=[.i .i64 x.from_, .i .i64 x.to, .i .i64 x.at_, .b x.clean]
abbrev cJ(x:an):List D:=ql x
theorem d7(x:an):cJ x=ql x:=rfl
abbrev R189(x:Loop):List D:=[.i .i64 x.head, .i .i64 x.back, .i .i64 x.bound]
abbrev iV(x:Loop):List D:=R189 x
theorem s7(x:Loop):iV x=R189 x:=rfl
abbrev rU(x:kL):List D:=[.i .u8 x.kind, .i .i64 x.entry, .i .i64 x.guard, .i .i64 x.time, .i .i64 x.at_]
abbrev eA(x:kL):List D:=rU x
theorem pG(x:kL):eA x=rU x:=rfl
abbrev R155(x:cY):List D:=[.sl (List.map eA x.alts), .i .i64 x.obj, .i .i64 x.else_]
abbrev iz(x:cY):List D:=R155 x
theorem pH(x:cY):iz x=R155 x:=rfl
abbrev E96(x:List Int):List D:=[.sl (List.map E3 x)]
theorem uD(x:List Int):E96 x=[.sl (List.map E3 x)]:=rfl
abbrev dV(x:Obj):List D:=[.i .i64 x.size, .i .i64 x.lo, .i .i64 x.hi, .b x.ptr, .sl (List.map E3 x.set_)]
abbrev cL(x:Obj):List D:=dV x
theorem cg(x:Obj):cL x=dV x:=rfl
abbrev R140(x:eO):List D:=[.i .i64 x.o, .i .i64 x.slot, .i .i64 x.v]
abbrev gV(x:eO):List D:=R140 x
theorem pI(x:eO):gV x=R140 x:=rfl
abbrev lI:=List Int
abbrev lL:=List (List Int)
abbrev lN:=List ak
abbrev lH:=List an
abbrev lO:=List Obj
abbrev lA:=List Act
abbrev lD:=List D
abbrev lV:=List AV
abbrev lW:=List AO
abbrev oB:=Option Bool
abbrev lP:=List Loop
abbrev lS:=List cY
abbrev lT:=List eO
abbrev lK:=List dZ
abbrev lM:=List dH
abbrev lC:=List eZ
abbrev fD:=Field.mk
abbrev bA:=ByteArray.mk

mutual
def dW:bv→lD
 | .mk kind op n o off len lo hi l=> [.i .u8 kind, .i .u8 op, .i .i64 n, .i .i64 o, .i .i64 off, .i .i64 len, .i .i64 lo, .i .i64 hi, .sl (E179s l)]
def E179s:List bv→List lD
 |[]=> []
 |e::l=>dW e::E179s l
end
abbrev oQ(x:bv):lD:=[.i .u8 x.kind, .i .u8 x.op, .i .i64 x.n, .i .i64 x.o, .i .i64 x.off, .i .i64 x.len, .i .i64 x.lo, .i .i64 x.hi, .sl (List.map dW x.l)]
theorem n4:∀l,E179s l=List.map dW l
 |[]=>rfl
 |e::l=>by rw[E179s,n4 l];rfl
theorem jz(x:bv):dW x=oQ x:=by
 cases x;simp only[dW,n4]
abbrev uB(x:dH):lD:=[.i .i64 x.ceiling, .sl (List.map dW x.barriers)]
abbrev fJ(x:dH):lD:=uB x
theorem mu(x:dH):fJ x=uB x:=rfl
abbrev R192(x:eZ):lD:=[.i .i64 x.at_, .i .u8 x.kind]
abbrev jt(x:eZ):lD:=R192 x
theorem s6(x:eZ):jt x=R192 x:=rfl
abbrev R38(x:ao):lD:=[.sl (List.map E45 x.insns), .sl (List.map cJ x.handlers), .sl (List.map iV x.loops), .sl (List.map iz x.selects), .sl (List.map E96 x.lists), .sl (List.map cL x.objs), .sl (List.map gV x.inits), .i .i64 x.excs, .sl (List.map E27 x.tasks), .sl (List.map fJ x.prots), .sl (List.map jt x.checks)]
abbrev E38(x:ao):lD:=R38 x
abbrev R39(x:Nat→Int):lD:=mM 16 (λj=> .i .i64 (x j))
abbrev E39(x:Nat→Int):lD:=R39 x
abbrev R41(x:bj):lD:=R39 x.r++([.i .i64 x.pc, .i .i64 x.exc, .i .i64 x.defer])
abbrev E41(x:bj):lD:=R41 x
abbrev R58(x:Act):lD:=[.i .i64 x.time, .i .i64 x.task, .i .u8 x.kind, .i .i64 x.a, .i .i64 x.b, .i .i64 x.n]
abbrev E58(x:Act):lD:=R58 x
theorem fy(x:Act):E58 x=R58 x:=rfl
abbrev E2(x:Int):lD:=[.i .i64 x]
theorem fH(x:Int):E2 x=[.i .i64 x]:=rfl
abbrev E42(x:lI):lD:=[.sl (List.map E2 x)]
theorem eP(x:lI):E42 x=[.sl (List.map E2 x)]:=rfl
abbrev R118(x:nQ):lD:=[.i .i64 x.e]
abbrev bE(x:bn):lD:=[.sl (List.map E45 x.text.insns), .sl (List.map cJ x.text.handlers), .sl (List.map iV x.text.loops), .sl (List.map iz x.text.selects), .sl (List.map E96 x.text.lists), .sl (List.map cL x.text.objs), .sl (List.map gV x.text.inits), .i .i64 x.text.excs, .sl (List.map E27 x.text.tasks), .sl (List.map fJ x.text.prots), .sl (List.map jt x.text.checks)]
abbrev uA(x:gg):lD:=[.s x.name, .s x.fields]
abbrev E9(x:ByteArray):lD:=[.s x]
theorem tG(x:ByteArray):E9 x=[.s x]:=rfl
abbrev E4(x:Bool):lD:=[.b x]
def ie:List gg:=lU.map λp=>⟨p.1,p.2⟩
theorem me:gpc 0=some (ie.flatMap uA):=by
 unfold ie
 rw[List.flatMap_map]
 rfl
def cF(e:Int):List PanicEntry:=[{ v:= .iface 118 (.agg ⟨[.int .i64 e]⟩),recovered:=false }]
def f102:Option (Rs Unit):=
 some (Rs.bad 280)
def f145_l1(s0:lI)(v1:Int)(d:Unit→Option (Int)):Nat→Int→Option (Int)
 |0,_=>none
 |n+1,a=>
 (bif (decide (a<(List.length s0:Int))) then Option.bind (idx s0 a) λe=>
 (bif (decide (v1=e)) then some a else(f145_l1 s0 v1 d n (IntKind.i64.wrap (a+1)))) else(d ()))
def f145(s0:lI)(v1:Int):Option Int:=
 letk (λ(_:Unit)=>
 some (-1)) λa=>
 (f145_l1 s0 v1 a (Int.toNat ((List.length s0:Int) - 0)+1) 0)
def f104(s0:lI)(v1:Int):oB:=
 Option.bind (f145 s0 v1) λa=>
 some (decide (a≥0))
def f63(o0:Obj)(v1:Int):oB:=
 (bif o0.ptr then Option.bind (bif (decide (v1=0)) then some true else(Option.bind (f104 o0.set_ (IntKind.i64.wrap (v1 - 1))) λa=>some (a&&(decide (v1>0))))) λd=>
 some d else some ((decide (v1≥o0.lo))&&(decide (v1≤o0.hi))))
def f67(o0:Int):Bool:=
 ((decide (o0≥42))&&(decide (o0<58)))
def f36(o0:Int):Bool:=
 (((!decide (o0=0))&&(decide (o0<58)))&&(!(f67 o0)))
def f131(tR:Nat→Int)(tP:Int)(tX:Int)(tD:Int)(mI:lN)(mH:lH)(mO:lO)(mE:Int)(mN:lI)(mS:lL)(mU:lI)(tA:lA):Option (Rs ((Nat→Int)×Int×Int×Int)):=
 (bif (decide ((IntKind.i64.wrap (tP+1))=(List.length mI:Int))) then some (Rs.bad 280) else some (Rs.ok (tR,(IntKind.i64.wrap (tP+1)),tX,tD)))
def f100_l1(s0:lH)(d:an→oB)(e:Unit→Option (Int)):Nat→Int→Option (Int)
 |0,_=>none
 |n+1,a=>
 (bif (decide (a<(List.length s0:Int))) then Option.bind (idx s0 a) λf=>
 Option.bind (d f) λg=>
 (bif g then some a else(f100_l1 s0 d e n (IntKind.i64.wrap (a+1)))) else(e ()))
def f100(s0:lH)(a:an→oB):Option Int:=
 letk (λ(_:Unit)=>
 some (-1)) λd=>
 (f100_l1 s0 a d (Int.toNat ((List.length s0:Int) - 0)+1) 0)
def f59_l1(tP:Int)(mH:lH)(c1:Int)(e:Int→Option (Rs ((Nat→Int)×Int×Int×Int)))(f:Unit→Option (Rs ((Nat→Int)×Int×Int×Int))):Nat→Int→Option (Rs ((Nat→Int)×Int×Int×Int))
 |0,_=>none
 |n+1,a=>
 (bif (decide (a<(List.length mH:Int))) then Option.bind (idx mH a) λd=>
 letk (λ(_:Unit)=>
 (bif (((decide (d.from_≤tP))&&(decide (tP<d.to)))&&(d.clean||(decide (c1>0)))) then(e a) else(f59_l1 tP mH c1 e f n (IntKind.i64.wrap (a+1))))) λg=>
 (g ()) else(f ()))
def f59(tR:Nat→Int)(tP:Int)(tX:Int)(tD:Int)(mI:lN)(mH:lH)(mO:lO)(mE:Int)(mN:lI)(mS:lL)(mU:lI)(tA:lA)(c1:Int):Option (Rs ((Nat→Int)×Int×Int×Int)):=
 letk (λ(a:Int)=>
 (bif (decide (a<0)) then some (Rs.bad 280) else Option.bind (idx mH a) λd=>
 letk (λ(e:Int)=>
 (bif (decide (e>1000000)) then some (Rs.bad 280) else some (Rs.ok ((λj=>0),d.at_,c1,e)))) λf=>
 (bif d.clean then(f (IntKind.i64.wrap (tD+1))) else(f tD)))) λg=>
 letk (λ(_:Unit)=>
 (g (-1))) λh=>
 (f59_l1 tP mH c1 g h (Int.toNat ((List.length mH:Int) - 0)+1) 0)
def f56(tR:Nat→Int)(tP:Int)(tX:Int)(tD:Int)(mI:lN)(mH:lH)(mO:lO)(mE:Int)(mN:lI)(mS:lL)(mU:lI)(tA:lA)(n1:Int):Option (Rs ((Nat→Int)×Int×Int×Int×lA)):=
 Option.bind (f59 tR tP tX tD mI mH mO mE mN mS mU tA n1) λd=>
 Rs.cs d (λe23=>some (Rs.bad e23)) (λa=>ay (cu 48 tA [(Act.mk 0 0 5 n1 0 0)])<|
 some (Rs.ok (a.1,a.2.1,a.2.2.1,a.2.2.2,(tA++ [(Act.mk 0 0 5 n1 0 0)]))))
def f81(tR:Nat→Int)(tP:Int)(tX:Int)(tD:Int)(mI:lN)(mH:lH)(mO:lO)(mE:Int)(mN:lI)(mS:lL)(mU:lI)(tA:lA)(x1:ak):Option (Rs ((Nat→Int)×Int×Int×Int)):=
 letk (λ(_:Unit)=>
 some (Rs.bad 280)) λj=>
 letk (λ(K:Obj)(t:Int)(w:Int)(L:Int)(M:Int)(N:Int)(O:Bool)(P:lI)=>
 Option.bind (idx mS t) λx=>
 Option.bind (idx x w) λy=>
 ay (bh 16 x1.d)<|
 Option.bind (f131 (c8 tR (Int.toNat x1.d) y) tP tX tD mI mH mO mE mN mS mU tA) λA=>
 Rs.cs A (λe71=>some (Rs.bad e71)) (λg=>some (Rs.ok (g.1,g.2.1,g.2.2.1,g.2.2.2)))) λB=>
 ay (bh 16 x1.a)<|
 letk (λ(e:Int)(h:Int)=>
 letk (λ(_:Unit)=>
 (j ())) λC=>
 letk (λ(_:Unit)=>
 Option.bind (idx mO e) λf=>
 (B f e h f.size f.lo f.hi f.ptr f.set_)) λE=>
 Option.bind (bif (((decide (e<0))||(decide (e≥(List.length mS:Int))))||(decide (h<0))) then some true else(Option.bind (idx mS e) λF=>some (decide (h≥(List.length F:Int))))) λG=>
 (bif G then(C ()) else Option.bind (idx mS e) λH=>
 Option.bind (idx H h) λQ=>
 (E ()))) λk=>
 letk (λ(I:Bool)=>
 (bif I then(bif ((decide ((tR (Int.toNat x1.a))<0))||(decide ((tR (Int.toNat x1.a))≥x1.b))) then(j ()) else(k x1.n (IntKind.i64.wrap (x1.m+(tR (Int.toNat x1.a)))))) else letk (λ(J:Bool)=>
 (bif J then(bif ((decide ((tR (Int.toNat x1.a))<1))||(decide ((tR (Int.toNat x1.a))>(List.length mO:Int)))) then(j ()) else(k (IntKind.i64.wrap ((tR (Int.toNat x1.a)) - 1)) 0)) else(k x1.n x1.m))) λp=>
 (bif (decide (x1.op=7)) then(p (decide (x1.op=7))) else(p (decide (x1.op=8)))))) λr=>
 (bif (decide (x1.op=5)) then(r (decide (x1.op=5))) else(r (decide (x1.op=6))))
def f82(tR:Nat→Int)(tP:Int)(tX:Int)(tD:Int)(mI:lN)(mH:lH)(mO:lO)(mE:Int)(mN:lI)(mS:lL)(mU:lI)(tA:lA)(x1:ak):Option (Rs ((Nat→Int)×Int×Int×Int×lL)):=
 ay (bh 16 x1.d)<|
 letk (λ(p:Int)=>
 letk (λ(_:Unit)=>
 some (Rs.bad 280)) λj=>
 letk (λ(B:Obj)(r:Int)(t:Int)(O:Int)(P:Int)(Q:Int)(R:Bool)(S:lI)=>
 Option.bind (f63 B p) λC=>
 (bif (!C) then some (Rs.bad 280) else Option.bind (f131 tR tP tX tD mI mH mO mE mN mS mU tA) λE=>
 Rs.cs E (λF=>some (Rs.bad F)) (λg=>Option.bind (idx mS r) λw=>
 Option.bind (idx w t) λT=>
 some (Rs.ok (g.1,g.2.1,g.2.2.1,g.2.2.2,(List.set mS (Int.toNat r) (List.set w (Int.toNat t) p))))))) λG=>
 ay (bh 16 x1.a)<|
 letk (λ(e:Int)(h:Int)=>
 letk (λ(_:Unit)=>
 (j ())) λH=>
 letk (λ(_:Unit)=>
 Option.bind (idx mO e) λf=>
 (G f e h f.size f.lo f.hi f.ptr f.set_)) λI=>
 Option.bind (bif (((decide (e<0))||(decide (e≥(List.length mS:Int))))||(decide (h<0))) then some true else(Option.bind (idx mS e) λJ=>some (decide (h≥(List.length J:Int))))) λK=>
 (bif K then(H ()) else Option.bind (idx mS e) λL=>
 Option.bind (idx L h) λU=>
 (I ()))) λk=>
 letk (λ(M:Bool)=>
 (bif M then(bif ((decide ((tR (Int.toNat x1.a))<0))||(decide ((tR (Int.toNat x1.a))≥x1.b))) then(j ()) else(k x1.n (IntKind.i64.wrap (x1.m+(tR (Int.toNat x1.a)))))) else letk (λ(N:Bool)=>
 (bif N then(bif ((decide ((tR (Int.toNat x1.a))<1))||(decide ((tR (Int.toNat x1.a))>(List.length mO:Int)))) then(j ()) else(k (IntKind.i64.wrap ((tR (Int.toNat x1.a)) - 1)) 0)) else(k x1.n x1.m))) λx=>
 (bif (decide (x1.op=7)) then(x (decide (x1.op=7))) else(x (decide (x1.op=8)))))) λy=>
 (bif (decide (x1.op=5)) then(y (decide (x1.op=5))) else(y (decide (x1.op=6))))) λA=>
 (bif (decide (x1.op=4)) then ay (bh 16 x1.a)<|
 (A (tR (Int.toNat x1.a))) else(A (tR (Int.toNat x1.d))))
def f83(tR:Nat→Int)(tP:Int)(tX:Int)(tD:Int)(mI:lN)(mH:lH)(mO:lO)(mE:Int)(mN:lI)(mS:lL)(mU:lI)(tA:lA)(x1:ak):Option (Rs ((Nat→Int)×Int×Int×Int)):=
 ay (bh 16 x1.a)<|
 (bif (((decide (x1.op=32))&&(decide ((tR (Int.toNat x1.a))≥x1.n)))&&(decide ((IntKind.u64.wrap ((IntKind.u64.wrap (tR (Int.toNat x1.a))) - (IntKind.u64.wrap x1.n)))<(IntKind.u64.wrap x1.m)))) then some (Rs.ok (tR,(IntKind.i64.wrap (x1.to+(IntKind.i64.wrap ((tR (Int.toNat x1.a)) - x1.n)))),tX,tD)) else letk (λ(f:Bool)=>
 (bif f then some (Rs.ok (tR,x1.to,tX,tD)) else Option.bind (f131 tR tP tX tD mI mH mO mE mN mS mU tA) λg=>
 Rs.cs g (λh=>some (Rs.bad h)) (λd=>some (Rs.ok (d.1,d.2.1,d.2.2.1,d.2.2.2))))) λe=>
 (bif (decide (x1.op=29)) then(e (decide (x1.op=29))) else(bif ((decide (x1.op=30))&&(decide ((tR (Int.toNat x1.a))=0))) then(e ((decide (x1.op=30))&&(decide ((tR (Int.toNat x1.a))=0)))) else(e ((decide (x1.op=31))&&(!decide ((tR (Int.toNat x1.a))=0)))))))
def f84(tR:Nat→Int)(tP:Int)(tX:Int)(tD:Int)(mI:lN)(mH:lH)(mO:lO)(mE:Int)(mN:lI)(mS:lL)(mU:lI)(tA:lA)(x1:ak):Option (Rs ((Nat→Int)×Int×Int×Int×lA)):=
 ay (bh 16 x1.a)<|
 (bif (((decide (x1.op=27))&&((decide ((tR (Int.toNat x1.a))<x1.n))||(decide ((tR (Int.toNat x1.a))>x1.m))))||((decide (x1.op=28))&&(decide ((tR (Int.toNat x1.a))=0)))) then Option.bind (f56 tR tP tX tD mI mH mO mE mN mS mU tA 1) λd=>
 Rs.cs d (λe=>some (Rs.bad e)) (λz46=>some (Rs.ok (z46.1,z46.2.1,z46.2.2.1,z46.2.2.2.1,z46.2.2.2.2))) else Option.bind (f131 tR tP tX tD mI mH mO mE mN mS mU tA) λf=>
 Rs.cs f (λg=>some (Rs.bad g)) (λz50=>some (Rs.ok (z50.1,z50.2.1,z50.2.2.1,z50.2.2.2,tA))))
def f85(tR:Nat→Int)(tP:Int)(tX:Int)(tD:Int)(mI:lN)(mH:lH)(mO:lO)(mE:Int)(mN:lI)(mS:lL)(mU:lI)(tA:lA)(x1:ak):Option (Rs ((Nat→Int)×Int×Int×Int×lA)):=
 ay (bh 16 x1.a)<|
 (bif (decide (x1.op=33)) then Option.bind (f56 tR tP tX tD mI mH mO mE mN mS mU tA x1.n) λh=>
 Rs.cs h (λe71=>some (Rs.bad e71)) (λd=>some (Rs.ok (d.1,d.2.1,d.2.2.1,d.2.2.2.1,d.2.2.2.2))) else(bif ((decide (x1.op=35))&&(decide ((tR (Int.toNat x1.a))=0))) then Option.bind (f131 tR tP tX tD mI mH mO mE mN mS mU tA) λj=>
 Rs.cs j (λk=>some (Rs.bad k)) (λf=>some (Rs.ok (f.1,f.2.1,f.2.2.1,f.2.2.2,tA))) else(bif (((decide ((tR (Int.toNat x1.a))>mE))||(decide ((tR (Int.toNat x1.a))<(-2))))||((decide (x1.op=34))&&(decide ((tR (Int.toNat x1.a))<1)))) then some (Rs.bad 280) else(bif (decide (x1.op=35)) then Option.bind (f59 tR tP tX tD mI mH mO mE mN mS mU tA (tR (Int.toNat x1.a))) λm=>
 Rs.cs m (λp=>some (Rs.bad p)) (λg=>some (Rs.ok (g.1,g.2.1,g.2.2.1,g.2.2.2,tA))) else Option.bind (f56 tR tP tX tD mI mH mO mE mN mS mU tA (tR (Int.toNat x1.a))) λr=>
 Rs.cs r (λt=>some (Rs.bad t)) (λe=>some (Rs.ok (e.1,e.2.1,e.2.2.1,e.2.2.2.1,e.2.2.2.2)))))))
def f86(tR:Nat→Int)(tP:Int)(tX:Int)(tD:Int)(mI:lN)(mH:lH)(mO:lO)(mE:Int)(mN:lI)(mS:lL)(mU:lI)(tA:lA)(x1:ak):Option (Rs ((Nat→Int)×Int×Int×Int×lI×lI×lA)):=
 (bif (decide (x1.op=37)) then Option.bind (f131 tR tP tX tD mI mH mO mE mN mS mU tA) λr=>
 Rs.cs r (λt=>some (Rs.bad t)) (λe=>letk (λ(j:Int)=>
 ay (cu 48 tA [(Act.mk 0 0 (IntKind.u8.wrap x1.n) j 0 0)])<|
 some (Rs.ok (e.1,e.2.1,e.2.2.1,e.2.2.2,mN,mU,(tA++ [(Act.mk 0 0 (IntKind.u8.wrap x1.n) j 0 0)])))) λk=>
 (bif (decide ((IntKind.u8.wrap x1.n)=6)) then(k e.2.2.1) else(k x1.m))) else(bif (decide (x1.op=39)) then ay (bh 16 x1.a)<|
 Option.bind (f131 tR tP tX tD mI mH mO mE mN mS mU tA) λw=>
 Rs.cs w (λx=>some (Rs.bad x)) (λg=>ay (cu 8 mU [(tR (Int.toNat x1.a))])<|
 ay (cu 48 tA [(Act.mk 0 0 1 (tR (Int.toNat x1.a)) 0 0)])<|
 some (Rs.ok (g.1,g.2.1,g.2.2.1,g.2.2.2,mN,(mU++ [(tR (Int.toNat x1.a))]),(tA++ [(Act.mk 0 0 1 (tR (Int.toNat x1.a)) 0 0)])))) else(bif (decide ((List.length mN:Int)=0)) then Option.bind (f56 tR tP tX tD mI mH mO mE mN mS mU tA 4) λy=>
 Rs.cs y (λA=>some (Rs.bad A)) (λf=>some (Rs.ok (f.1,f.2.1,f.2.2.1,f.2.2.2.1,mN,mU,f.2.2.2.2))) else Option.bind (f131 tR tP tX tD mI mH mO mE mN mS mU tA) λB=>
 Rs.cs B (λC=>some (Rs.bad C)) (λh=>Option.bind (idx mN 0) λE=>
 ay (bh 16 x1.d)<|
 Option.bind (idx mN 0) λp=>
 ay (cu 48 tA [(Act.mk 0 0 2 p 0 0)])<|
 ay (dp mN 1 (List.length mN:Int))<|
 some (Rs.ok ((c8 h.1 (Int.toNat x1.d) E),h.2.1,h.2.2.1,h.2.2.2,(cm mN 1 (List.length mN:Int)),mU,(tA++ [(Act.mk 0 0 2 p 0 0)])))))))
def f87(tR:Nat→Int)(tP:Int)(tX:Int)(tD:Int)(mI:lN)(mH:lH)(mO:lO)(mE:Int)(mN:lI)(mS:lL)(mU:lI)(tA:lA)(x1:ak):Option (Rs ((Nat→Int)×Int×Int×Int)):=
 letk (λ(h:Nat→Int)(g:Int)=>
 (bif ((decide (g<0))||(decide (g>1000000))) then some (Rs.bad 280) else Option.bind (f131 h tP tX g mI mH mO mE mN mS mU tA) λj=>
 Rs.cs j (λk=>some (Rs.bad k)) (λf=>some (Rs.ok (f.1,f.2.1,f.2.2.1,f.2.2.2))))) λe=>
 (bif (decide (x1.op=1)) then ay (bh 16 x1.d)<|
 (e (c8 tR (Int.toNat x1.d) x1.n) tD) else(bif (decide (x1.op=2)) then ay (bh 16 x1.a)<|
 ay (bh 16 x1.d)<|
 (e (c8 tR (Int.toNat x1.d) (tR (Int.toNat x1.a))) tD) else(bif (decide (x1.op=36)) then ay (bh 16 x1.d)<|
 (e (c8 tR (Int.toNat x1.d) tX) tD) else(bif (decide (x1.op=40)) then(e tR (IntKind.i64.wrap (tD+1))) else(bif (decide (x1.op=41)) then(e tR (IntKind.i64.wrap (tD - 1))) else(e tR tD))))))
def f181(a0:Int)(b1:Int):Int:=
 (IntKind.i64.wrap (a0+b1))
def f182(a0:Int)(b1:Int):Int:=
 (IntKind.i64.wrap (a0 - b1))
def f183(a0:Int)(b1:Int):Int:=
 (IntKind.i64.wrap (a0*b1))
def f185(a0:Int)(b1:Int):Option Int:=
 ay (nz b1)<|
 some (IntKind.i64.wrap (Int.tdiv a0 b1))
def f186(a0:Int)(b1:Int):Option Int:=
 ay (nz b1)<|
 some (Int.tmod a0 b1)
def f187(a0:Int)(b1:Int):Option Int:=
 ay (nz b1)<|
 (bif ((decide ((Int.tmod a0 b1)=0))||(decide ((IntKind.i64.wrap (BitVec.ofInt IntKind.i64.bits (Int.tmod a0 b1)^^^BitVec.ofInt IntKind.i64.bits b1).toNat)≥0))) then some (Int.tmod a0 b1) else ay (nz b1)<|
 some (IntKind.i64.wrap ((Int.tmod a0 b1)+b1)))
def f217(a:Bool):Int:=
 (bif a then 1 else 0)
def f189(a0:Int)(b1:Int):Bool:=
 (decide (a0=b1))
def f190(a0:Int)(b1:Int):Bool:=
 (!decide (a0=b1))
def f191(a0:Int)(b1:Int):Bool:=
 (decide (a0<b1))
def f192(a0:Int)(b1:Int):Bool:=
 (decide (a0≤b1))
def f193(a0:Int)(b1:Int):Bool:=
 (decide (a0>b1))
def f194(a0:Int)(b1:Int):Bool:=
 (decide (a0≥b1))
def f195(a0:Int)(b1:Int):Int:=
 (IntKind.i64.wrap (BitVec.ofInt IntKind.i64.bits a0&&&BitVec.ofInt IntKind.i64.bits b1).toNat)
def f196(a0:Int)(b1:Int):Int:=
 (IntKind.i64.wrap (BitVec.ofInt IntKind.i64.bits a0|||BitVec.ofInt IntKind.i64.bits b1).toNat)
def f197(a0:Int)(b1:Int):Int:=
 (IntKind.i64.wrap (BitVec.ofInt IntKind.i64.bits a0^^^BitVec.ofInt IntKind.i64.bits b1).toNat)
def f198(a0:Int)(p1:Int):Int:=
 (IntKind.i64.wrap (0 - a0))
def f199(a0:Int)(p1:Int):Int:=
 (if(IntKind.i64.wrap (0 - a0))>a0 then(IntKind.i64.wrap (0 - a0)) else a0)
def f200(a0:Int)(p1:Int):Int:=
 (IntKind.i64.wrap (1 - a0))
def f132(a:Int)(a1:Int)(b2:Int):Option (Int×Bool):=
 (bif (decide (a=1)) then some ((IntKind.i64.wrap (a1+b2)),true) else(bif (decide (a=2)) then some ((IntKind.i64.wrap (a1 - b2)),true) else letk (λ(_:Unit)=>
 (bif decide (a=1) then letk (λ(_:Unit)=>
 some ((f181 a1 b2),true)) λg=>
 (g ()) else(bif decide (a=2) then letk (λ(_:Unit)=>
 some ((f182 a1 b2),true)) λh=>
 (h ()) else(bif decide (a=3) then letk (λ(_:Unit)=>
 some ((f183 a1 b2),true)) λj=>
 (j ()) else(bif decide (a=4) then letk (λ(k:Bool)(m:Int)=>
 some (m,k)) λd=>
 (bif (decide (b2=0)) then(d false 0) else Option.bind (f185 a1 b2) λp=>
 (d true p)) else(bif decide (a=5) then letk (λ(r:Bool)(t:Int)=>
 some (t,r)) λe=>
 (bif (decide (b2=0)) then(e false 0) else Option.bind (f186 a1 b2) λw=>
 (e true w)) else(bif decide (a=6) then letk (λ(x:Bool)(y:Int)=>
 some (y,x)) λf=>
 (bif (decide (b2=0)) then(f false 0) else Option.bind (f187 a1 b2) λA=>
 (f true A)) else(bif decide (a=7) then letk (λ(_:Unit)=>
 some ((f217 (f189 a1 b2)),true)) λB=>
 (B ()) else(bif decide (a=8) then letk (λ(_:Unit)=>
 some ((f217 (f190 a1 b2)),true)) λC=>
 (C ()) else(bif decide (a=9) then letk (λ(_:Unit)=>
 some ((f217 (f191 a1 b2)),true)) λE=>
 (E ()) else(bif decide (a=10) then letk (λ(_:Unit)=>
 some ((f217 (f192 a1 b2)),true)) λF=>
 (F ()) else(bif decide (a=11) then letk (λ(_:Unit)=>
 some ((f217 (f193 a1 b2)),true)) λG=>
 (G ()) else(bif decide (a=12) then letk (λ(_:Unit)=>
 some ((f217 (f194 a1 b2)),true)) λH=>
 (H ()) else(bif decide (a=13) then letk (λ(_:Unit)=>
 some ((f195 a1 b2),true)) λI=>
 (I ()) else(bif decide (a=14) then letk (λ(_:Unit)=>
 some ((f196 a1 b2),true)) λJ=>
 (J ()) else(bif decide (a=15) then letk (λ(_:Unit)=>
 some ((f197 a1 b2),true)) λK=>
 (K ()) else(bif decide (a=16) then letk (λ(_:Unit)=>
 some ((f198 a1 b2),true)) λL=>
 (L ()) else(bif decide (a=17) then letk (λ(_:Unit)=>
 some ((f199 a1 b2),true)) λM=>
 (M ()) else(bif decide (a=18) then letk (λ(_:Unit)=>
 some ((f200 a1 b2),true)) λN=>
 (N ()) else some (0,false)))))))))))))))))))) λO=>
 letk (λ(_:Unit)=>
 letk (λ(_:Unit)=>
 letk (λ(_:Unit)=>
 letk (λ(_:Unit)=>
 letk (λ(_:Unit)=>
 letk (λ(_:Unit)=>
 letk (λ(_:Unit)=>
 letk (λ(_:Unit)=>
 letk (λ(_:Unit)=>
 letk (λ(_:Unit)=>
 letk (λ(_:Unit)=>
 letk (λ(_:Unit)=>
 letk (λ(_:Unit)=>
 letk (λ(_:Unit)=>
 letk (λ(_:Unit)=>
 letk (λ(_:Unit)=>
 letk (λ(_:Unit)=>
 letk (λ(_:Unit)=>
 (O ())) λP=>
 (P ())) λQ=>
 (Q ())) λR=>
 (R ())) λS=>
 (S ())) λT=>
 (T ())) λU=>
 (U ())) λV=>
 (V ())) λW=>
 (W ())) λX=>
 (X ())) λY=>
 (Y ())) λZ=>
 (Z ())) λad=>
 (ad ())) λag=>
 (ag ())) λax=>
 (ax ())) λa0=>
 (a0 ())) λa6=>
 (a6 ())) λa7=>
 (a7 ())) λa8=>
 (a8 ())))
def f88(tR:Nat→Int)(tP:Int)(tX:Int)(tD:Int)(mI:lN)(mH:lH)(mO:lO)(mE:Int)(mN:lI)(mS:lL)(mU:lI)(tA:lA)(x1:ak):Option (Rs ((Nat→Int)×Int×Int×Int)):=
 ay (bh 16 x1.a)<|
 ay (bh 16 x1.b)<|
 Option.bind (f132 (IntKind.u8.wrap (1+(IntKind.u8.wrap (x1.op - 9)))) (tR (Int.toNat x1.a)) (tR (Int.toNat x1.b))) λf=>
 (bif (!f.2) then some (Rs.bad 280) else ay (bh 16 x1.d)<|
 Option.bind (f131 (c8 tR (Int.toNat x1.d) f.1) tP tX tD mI mH mO mE mN mS mU tA) λg=>
 Rs.cs g (λh=>some (Rs.bad h)) (λe=>some (Rs.ok (e.1,e.2.1,e.2.2.1,e.2.2.2))))
def f47(mI:lN)(mH:lH)(mO:lO)(mE:Int)(mN:lI)(mS:lL)(mU:lI):oB:=
 some (decide ((List.length mI:Int)=0))
def f46(tR:Nat→Int)(tP:Int)(tX:Int)(tD:Int)(mI:lN)(mH:lH)(mO:lO)(mE:Int)(mN:lI)(mS:lL)(mU:lI)(tA:lA)(o1:Int):Option Nat:=
 letk (λ(k:Bool)=>
 (bif k then some 81 else letk (λ(m:Bool)=>
 (bif m then some 82 else letk (λ(p:Bool)=>
 (bif p then some 83 else letk (λ(r:Bool)=>
 (bif r then some 84 else letk (λ(t:Bool)=>
 (bif t then some 85 else letk (λ(w:Bool)=>
 (bif w then some 86 else letk (λ(x:Bool)=>
 (bif x then some 87 else some 88)) λa=>
 (bif (decide (o1=1)) then(a (decide (o1=1))) else(bif (decide (o1=2)) then(a (decide (o1=2))) else(bif (decide (o1=36)) then(a (decide (o1=36))) else(bif (decide (o1=40)) then(a (decide (o1=40))) else(a (decide (o1=41))))))))) λe=>
 (bif (decide (o1=37)) then(e (decide (o1=37))) else(bif (decide (o1=38)) then(e (decide (o1=38))) else(e (decide (o1=39))))))) λf=>
 (bif (decide (o1=33)) then(f (decide (o1=33))) else(bif (decide (o1=34)) then(f (decide (o1=34))) else(f (decide (o1=35))))))) λj=>
 (bif (decide (o1=27)) then(j (decide (o1=27))) else(j (decide (o1=28)))))) λd=>
 (bif (decide (o1=29)) then(d (decide (o1=29))) else(bif (decide (o1=30)) then(d (decide (o1=30))) else(bif (decide (o1=31)) then(d (decide (o1=31))) else(d (decide (o1=32)))))))) λg=>
 (bif (decide (o1=4)) then(g (decide (o1=4))) else(bif (decide (o1=6)) then(g (decide (o1=6))) else(g (decide (o1=8))))))) λh=>
 (bif (decide (o1=3)) then(h (decide (o1=3))) else(bif (decide (o1=5)) then(h (decide (o1=5))) else(h (decide (o1=7)))))
def fm(n:Nat)(tR:Nat→Int)(tP:Int)(tX:Int)(tD:Int)(mI:lN)(mH:lH)(mO:lO)(mE:Int)(mN:lI)(mS:lL)(mU:lI)(tA:lA)(x:ak):Option (Rs ((Nat→Int)×Int×Int×Int×lI×lL×lI×lA)):=
 bif Nat.beq n 81 then Option.bind (f81 tR tP tX tD mI mH mO mE mN mS mU tA x) λr=>some (Rs.cs r (λe=>Rs.bad e) λz=>Rs.ok (z.1,z.2.1,z.2.2.1,z.2.2.2,mN,mS,mU,tA)) else
 bif Nat.beq n 82 then Option.bind (f82 tR tP tX tD mI mH mO mE mN mS mU tA x) λr=>some (Rs.cs r (λe=>Rs.bad e) λz=>Rs.ok (z.1,z.2.1,z.2.2.1,z.2.2.2.1,mN,z.2.2.2.2,mU,tA)) else
 bif Nat.beq n 83 then Option.bind (f83 tR tP tX tD mI mH mO mE mN mS mU tA x) λr=>some (Rs.cs r (λe=>Rs.bad e) λz=>Rs.ok (z.1,z.2.1,z.2.2.1,z.2.2.2,mN,mS,mU,tA)) else
 bif Nat.beq n 84 then Option.bind (f84 tR tP tX tD mI mH mO mE mN mS mU tA x) λr=>some (Rs.cs r (λe=>Rs.bad e) λz=>Rs.ok (z.1,z.2.1,z.2.2.1,z.2.2.2.1,mN,mS,mU,z.2.2.2.2)) else
 bif Nat.beq n 85 then Option.bind (f85 tR tP tX tD mI mH mO mE mN mS mU tA x) λr=>some (Rs.cs r (λe=>Rs.bad e) λz=>Rs.ok (z.1,z.2.1,z.2.2.1,z.2.2.2.1,mN,mS,mU,z.2.2.2.2)) else
 bif Nat.beq n 86 then Option.bind (f86 tR tP tX tD mI mH mO mE mN mS mU tA x) λr=>some (Rs.cs r (λe=>Rs.bad e) λz=>Rs.ok (z.1,z.2.1,z.2.2.1,z.2.2.2.1,z.2.2.2.2.1,mS,z.2.2.2.2.2.1,z.2.2.2.2.2.2)) else
 bif Nat.beq n 87 then Option.bind (f87 tR tP tX tD mI mH mO mE mN mS mU tA x) λr=>some (Rs.cs r (λe=>Rs.bad e) λz=>Rs.ok (z.1,z.2.1,z.2.2.1,z.2.2.2,mN,mS,mU,tA)) else
 bif Nat.beq n 88 then Option.bind (f88 tR tP tX tD mI mH mO mE mN mS mU tA x) λr=>some (Rs.cs r (λe=>Rs.bad e) λz=>Rs.ok (z.1,z.2.1,z.2.2.1,z.2.2.2,mN,mS,mU,tA)) else
 none
def f45(tR:Nat→Int)(tP:Int)(tX:Int)(tD:Int)(mI:lN)(mH:lH)(mO:lO)(mE:Int)(mN:lI)(mS:lL)(mU:lI)(tA:lA):Option (Rs ((Nat→Int)×Int×Int×Int×lI×lL×lI×lA)):=
 Option.bind (idx mI tP) λd=>
 (bif (!(f36 d.op)) then some (Rs.bad 8) else Option.bind (f46 tR tP tX tD mI mH mO mE mN mS mU tA d.op) λe=>
 Option.bind (fm e tR tP tX tD mI mH mO mE mN mS mU tA d) λf=>
 Rs.cs f (λe36=>some (Rs.bad e36)) (λa=>some (Rs.ok (a.1,a.2.1,a.2.2.1,a.2.2.2.1,a.2.2.2.2.1,a.2.2.2.2.2.1,a.2.2.2.2.2.2.1,a.2.2.2.2.2.2.2))))
def f44_45(mI:lN)(mH:lH)(mO:lO)(mE:Int)(mN:lI)(mS:lL)(mU:lI)(r1:bj)(d:Bool):Option (bj×lA×Int×lI×lL×lI):=
 Option.bind (f47 mI mH mO mE mN mS mU) λe=>
 (bif e then some ((bj.mk (λj=>0) 0 0 0),[],1,mN,mS,mU) else(bif (((((((decide (r1.pc<0))||(decide (r1.pc≥(List.length mI:Int))))||(decide (r1.exc<(-2))))||(decide (r1.exc>mE)))||(decide (r1.defer<0)))||(decide (r1.defer>1000000)))||(!d)) then some ((bj.mk (λj=>0) 0 0 0),[],2,mN,mS,mU) else Option.bind (f45 r1.r r1.pc r1.exc r1.defer mI mH mO mE mN mS mU ([]:lA)) λf=>
 Rs.cs f (λg=>some ((bj.mk (λj=>0) 0 0 0),[],g,mN,mS,mU)) (λa=>some ((bj.mk a.1 a.2.1 a.2.2.1 a.2.2.2.1),a.2.2.2.2.2.2.2,0,a.2.2.2.2.1,a.2.2.2.2.2.1,a.2.2.2.2.2.2.1))))
def f11(mI:lN)(mH:lH)(mO:lO)(mE:Int)(mN:lI)(mS:lL)(mU:lI)(r1:bj):Option (bj×lA×Int×lI×lL×lI):=
 Option.bind (f44_45 mI mH mO mE mN mS mU r1 true) λa=>
 some (a.1,a.2.1,a.2.2.1,a.2.2.2.1,a.2.2.2.2.1,a.2.2.2.2.2)
def f42(s0:lI):Option lI:=ay (cu 8 [] s0) (some s0)
def f42m(s0:lL)(j0:Int):Option lI:=Option.bind (idx s0 j0) λM=>ay (cu 8 [] M) (some M)
def f28_l1(mS:lL)(e:lL→Option lL):Nat→Int→lL→Option lL
 |0,_,_=>none
 |n+1,a,d=>
 (bif (decide (a<(List.length mS:Int))) then Option.bind (idx mS a) λg=>
 Option.bind (f42m mS a) λf=>
 Option.bind (idx d a) λh=>
 (f28_l1 mS e n (IntKind.i64.wrap (a+1)) (List.set d (Int.toNat a) f)) else(e d))
def f28(mI:lN)(mH:lH)(mO:lO)(mE:Int)(mN:lI)(mS:lL)(mU:lI):Option lL:=
 Option.bind (f47 mI mH mO mE mN mS mU) λa=>
 (bif a then some [] else ay (nn 24 (List.length mS:Int))<|
 letk (λ(d:lL)=>
 some d) λe=>
 (f28_l1 mS e (Int.toNat ((List.length mS:Int) - 0)+1) 0 (List.replicate (Int.toNat (List.length mS:Int)) ([]:lI))))
def f158_l1(s0:lI)(d:Int→oB)(e:Unit→Option (Int)):Nat→Int→Option (Int)
 |0,_=>none
 |n+1,a=>
 (bif (decide (a<(List.length s0:Int))) then Option.bind (idx s0 a) λf=>
 Option.bind (d f) λg=>
 (bif g then some a else(f158_l1 s0 d e n (IntKind.i64.wrap (a+1)))) else(e ()))
def f158(s0:lI)(a:Int→oB):Option Int:=
 letk (λ(_:Unit)=>
 some (-1)) λd=>
 (f158_l1 s0 a d (Int.toNat ((List.length s0:Int) - 0)+1) 0)
def f128(s0:lI)(a:Int→oB):oB:=
 Option.bind (f158 s0 a) λd=>
 some (decide (d≥0))
def f129(n0:Int)(a:Int):Bool:=
 (decide ((IntKind.i64.wrap (n0+1))=a))
def f79(o0:Obj)(v1:Int):oB:=
 (bif o0.ptr then Option.bind (bif (decide (v1=0)) then some true else(Option.bind (f128 o0.set_ (λz0=>some (f129 z0 v1))) λa=>some a)) λd=>
 some d else some ((decide (v1≥o0.lo))&&(decide (v1≤o0.hi))))
def f110_l1(t0:bn)(o1:Obj)(e:Unit→oB):Nat→Int→Int→oB
 |0,_,_=>none
 |n+1,f,d=>
 (bif (decide (d<(List.length o1.set_:Int))) then Option.bind (idx o1.set_ d) λa=>
 Option.bind (bif ((decide (a≤f))||(decide (a≥(List.length t0.text.objs:Int)))) then some true else(Option.bind (idx t0.text.objs a) λg=>some (!decide (g.size=1)))) λh=>
 Option.bind (bif h then some true else(Option.bind (idx t0.text.objs a) λj=>some j.ptr)) λk=>
 (bif k then some false else(f110_l1 t0 o1 e n a (IntKind.i64.wrap (d+1)))) else(e ()))
def f110(t0:bn)(o1:Obj):oB:=
 (bif (((decide (o1.size<1))||(decide (o1.size>16384)))||(decide (o1.lo>o1.hi))) then some false else(bif (!o1.ptr) then some (decide ((List.length o1.set_:Int)=0)) else letk (λ(_:Unit)=>
 some ((decide (o1.lo=0))&&(decide (o1.hi=0)))) λa=>
 (f110_l1 t0 o1 a (Int.toNat ((List.length o1.set_:Int) - 0)+1) (-1) 0)))
def f111(t0:bn)(o1:Int)(a:Int)(d:Int):oB:=
 Option.bind (bif (((decide (o1≥0))&&(decide (o1<(List.length t0.text.objs:Int))))&&(decide (a≥0))) then(Option.bind (idx t0.text.objs o1) λe=>some (decide (a≤(IntKind.i64.wrap (e.size - d))))) else some false) λf=>
 some f
def f68_l1(t0:bn)(d:Int→oB):Nat→Int→Int→oB
 |0,_,_=>none
 |n+1,e,a=>
 (bif (decide (a<(List.length t0.text.objs:Int))) then Option.bind (idx t0.text.objs a) λf=>
 Option.bind (f110 t0 f) λg=>
 (bif (!g) then some false else(f68_l1 t0 d n (IntKind.i64.wrap (e+f.size)) (IntKind.i64.wrap (a+1)))) else(d e))
def f68_l2(t0:bn)(f:(List ((Int×Int)×Bool))→oB):Nat→Int→(List ((Int×Int)×Bool))→oB
 |0,_,_=>none
 |n+1,d,e=>
 (bif (decide (d<(List.length t0.text.inits:Int))) then Option.bind (idx t0.text.inits d) λa=>
 Option.bind (bif (Option.getD (cA e (a.o,a.slot)) false) then some true else(Option.bind (f111 t0 a.o a.slot 1) λg=>some (!g))) λh=>
 Option.bind (bif h then some true else(Option.bind (idx t0.text.objs a.o) λj=>Option.bind (f79 j a.v) λk=>some (!k))) λm=>
 (bif m then some false else(f68_l2 t0 f n (IntKind.i64.wrap (d+1)) (cq e (a.o,a.slot) true))) else(f e))
def f68(t0:bn):oB:=
 (bif (((decide ((List.length t0.text.objs:Int)>4096))||(decide (t0.text.excs<4)))||(decide (t0.text.excs>64))) then some false else letk (λ(a:Int)=>
 letk (λ(f:List ((Int×Int)×Bool))=>
 some (decide (a≤65536))) λd=>
 (f68_l2 t0 d (Int.toNat ((List.length t0.text.inits:Int) - 0)+1) 0 ([]:List ((Int×Int)×Bool)))) λe=>
 (f68_l1 t0 e (Int.toNat ((List.length t0.text.objs:Int) - 0)+1) 0 0))
def f112(t0:bn)(a1:Int):Bool:=
 ((decide (a1≥0))&&(decide (a1<(List.length t0.text.insns:Int))))
def f149_l1(s0:List bS)(d:bS→oB)(e:Unit→Option (Int)):Nat→Int→Option (Int)
 |0,_=>none
 |n+1,a=>
 (bif (decide (a<(List.length s0:Int))) then Option.bind (idx s0 a) λf=>
 Option.bind (d f) λg=>
 (bif g then some a else(f149_l1 s0 d e n (IntKind.i64.wrap (a+1)))) else(e ()))
def f149(s0:List bS)(a:bS→oB):Option Int:=
 letk (λ(_:Unit)=>
 some (-1)) λd=>
 (f149_l1 s0 a d (Int.toNat ((List.length s0:Int) - 0)+1) 0)
def f113(s0:List bS)(a:bS→oB):oB:=
 Option.bind (f149 s0 a) λd=>
 some (decide (d≥0))
def f150(o0:Int)(a:bn):oB:=
 Option.bind (bif ((decide (o0<0))||(decide (o0≥(List.length a.text.objs:Int)))) then some true else(Option.bind (idx a.text.objs o0) λd=>some (!decide (d.size=1)))) λe=>
 some e
def f115(t0:bn)(l1:lI):oB:=
 Option.bind (bif (decide ((List.length l1:Int)≤8)) then(Option.bind (f128 l1 λz0=>f150 z0 t0) λa=>some (!a)) else some false) λd=>
 some d
def f114(e0:bS)(a:bn):oB:=
 Option.bind (f115 a e0.ins) λd=>
 Option.bind (bif (!d) then some true else(Option.bind (f115 a e0.outs) λe=>some (!e))) λf=>
 some f
def f69_l1(t0:bn)(e:Unit→oB):Nat→Int→oB
 |0,_=>none
 |n+1,d=>
 (bif (decide (d<(List.length t0.text.tasks:Int))) then Option.bind (idx t0.text.tasks d) λa=>
 (bif ((((((decide (a.prio<0))||(decide (a.prio>31)))||(!(f112 t0 a.at_)))||(decide (a.deadline<0)))||(decide (a.deadline>2147483647)))||(decide ((List.length a.entries:Int)>8))) then some false else Option.bind (f113 a.entries λz0=>f114 z0 t0) λf=>
 (bif f then some false else(f69_l1 t0 e n (IntKind.i64.wrap (d+1))))) else(e ()))
def f69(t0:bn):oB:=
 (bif ((decide ((List.length t0.text.tasks:Int)<1))||(decide ((List.length t0.text.tasks:Int)>32))) then some false else letk (λ(_:Unit)=>
 some true) λa=>
 (f69_l1 t0 a (Int.toNat ((List.length t0.text.tasks:Int) - 0)+1) 0))
def f70_l2(t0:bn)(d:lI)(g:(List (Int×Bool))→oB):Nat→Int→(List (Int×Bool))→oB
 |0,_,_=>none
 |na+1,e,f=>
 (bif (decide (e<(List.length d:Int))) then Option.bind (idx d e) λa=>
 (bif (((decide (a<1))||(decide (a≥(List.length t0.text.tasks:Int))))||(Option.getD (cA f a) false)) then some false else(f70_l2 t0 d g na (IntKind.i64.wrap (e+1)) (cq f a true))) else(g f))
def f70_l1(t0:bn)(e:Unit→oB):Nat→Int→oB
 |0,_=>none
 |n+1,a=>
 (bif (decide (a<(List.length t0.text.lists:Int))) then letk (λ(j:List (Int×Bool))=>
 (f70_l1 t0 e n (IntKind.i64.wrap (a+1)))) λf=>
 Option.bind (idx t0.text.lists a) λd=>
 letk (λ(g:List (Int×Bool))=>
 (bif (decide ((List.length d:Int)>32)) then some false else(f g))) λh=>
 (f70_l2 t0 d h (Int.toNat ((List.length d:Int) - 0)+1) 0 ([]:List (Int×Bool))) else(e ()))
def f70(t0:bn):oB:=
 (bif (decide ((List.length t0.text.lists:Int)>4096)) then some false else letk (λ(_:Unit)=>
 some true) λa=>
 (f70_l1 t0 a (Int.toNat ((List.length t0.text.lists:Int) - 0)+1) 0))
def f116s_l1(e:lN→lH→lP→lS→lL→lO→lT→Int→lK→lM→lC→Int→Int→bv→Int→Option (Bool×lN×lH×lP×lS×lL×lO×lT×Int×lK×lM×lC×Int×Int))(e1:bv)(f:Int)(g:Int→lN→lH→lP→lS→lL→lO→lT→Int→lK→lM→lC→Int→Int→Option (Bool×lN×lH×lP×lS×lL×lO×lT×Int×lK×lM×lC×Int×Int))(h:lN→lH→lP→lS→lL→lO→lT→Int→lK→lM→lC→Int→Int→Option (Bool×lN×lH×lP×lS×lL×lO×lT×Int×lK×lM×lC×Int×Int)):Nat→Int→lN→lH→lP→lS→lL→lO→lT→Int→lK→lM→lC→Int→Int→Option (Bool×lN×lH×lP×lS×lL×lO×lT×Int×lK×lM×lC×Int×Int)
 |0,_,_,_,_,_,_,_,_,_,_,_,_,_,_=>none
 |n+1,d,j,k,m,p,r,t,w,x,y,A,B,C,E=>
 (bif (decide (d<(List.length e1.l:Int))) then Option.bind (idx e1.l d) λS=>
 letk (λ(T:Bool)(F:lN)(G:lH)(H:lP)(I:lS)(J:lL)(K:lO)(L:lT)(M:Int)(N:lK)(O:lM)(P:lC)(Q:Int)(R:Int)=>
 (bif T then(g d F G H I J K L M N O P Q R) else(f116s_l1 e e1 f g h n (IntKind.i64.wrap (d+1)) F G H I J K L M N O P Q R))) λU=>
 Option.bind (e j k m p r t w x y A B C E S (IntKind.i64.wrap (f+1))) λa=>
 (U (!a.1) a.2.1 a.2.2.1 a.2.2.2.1 a.2.2.2.2.1 a.2.2.2.2.2.1 a.2.2.2.2.2.2.1 a.2.2.2.2.2.2.2.1 a.2.2.2.2.2.2.2.2.1 a.2.2.2.2.2.2.2.2.2.1 a.2.2.2.2.2.2.2.2.2.2.1 a.2.2.2.2.2.2.2.2.2.2.2.1 a.2.2.2.2.2.2.2.2.2.2.2.2.1 a.2.2.2.2.2.2.2.2.2.2.2.2.2) else(h j k m p r t w x y A B C E))
def f116s(I:lN→lH→lP→lS→lL→lO→lT→Int→lK→lM→lC→Int→Int→bv→Int→Option (Bool×lN×lH×lP×lS×lL×lO×lT×Int×lK×lM×lC×Int×Int))(g:lN)(h:lH)(j:lP)(k:lS)(m:lL)(d:lO)(p:lT)(r:Int)(t:lK)(w:lM)(x:lC)(jent:Int)(jleft:Int)(e1:bv)(y:Int):Option (Bool×lN×lH×lP×lS×lL×lO×lT×Int×lK×lM×lC×Int×Int):=
 letk (λ(J:Bool)(K:Int)(e:bv)(cx:Int)(c0:Int)(c1:Int)(c2:Int)=>
 (bif (((((((((((decide ((IntKind.i64.wrap (jleft - 1))<0))||(decide (y>64)))||(!J))||(!decide ((List.length e1.l:Int)=K)))||(!decide (e1.op=e.op)))||(!decide (e1.n=e.n)))||(!decide (e1.o=e.o)))||(!decide (e1.off=e.off)))||(!decide (e1.len=0)))||(!decide (e1.lo=0)))||(!decide (e1.hi=0))) then some (false,g,h,j,k,m,d,p,r,t,w,x,jent,(IntKind.i64.wrap (jleft - 1))) else letk (λ(L:Bool)(M:lN)(N:lH)(O:lP)(P:lS)(Q:lL)(R:lO)(S:lT)(T:Int)(U:lK)(V:lM)(W:lC)(X:Int)(Y:Int)=>
 some ((!L),M,N,O,P,Q,R,S,T,U,V,W,X,Y)) λZ=>
 letk (λ(ad:Int)(ag:lN)(ax:lH)(a0:lP)(a1:lS)(a6:lL)(a7:lO)(a8:lT)(a9:Int)(a':lK)(bb:lM)(bk:lC)(bo:Int)(bs:Int)=>
 (Z (decide (ad≥0)) ag ax a0 a1 a6 a7 a8 a9 a' bb bk bo bs)) λA=>
 letk (λ(b0:lN)(b1:lH)(b2:lP)(b3:lS)(b4:lL)(b5:lO)(b6:lT)(b7:Int)(b8:lK)(b9:lM)(b':lC)(ca:Int)(cb:Int)=>
 (A (-1) b0 b1 b2 b3 b4 b5 b6 b7 b8 b9 b' ca cb)) λcc=>
 (f116s_l1 I e1 y A cc (Int.toNat ((List.length e1.l:Int) - 0)+1) 0 g h j k m d p r t w x jent (IntKind.i64.wrap (jleft - 1))))) λf=>
 letk (λ(cd:Int)(B:Int)(C:Int)(E:Int)(F:Int)=>
 (f true cd (bv.mk e1.kind B C E F 0 0 0 []) B C E F)) λa=>
 (bif (decide (e1.kind=1)) then(a 0 0 e1.n 0 0) else(bif (decide (e1.kind=2)) then Option.bind (f111 (bn.mk (ao.mk g h j k m d p r t w x)) e1.o e1.off 1) λci=>
 Option.bind (bif (!ci) then some true else(Option.bind (idx d e1.o) λcj=>some cj.ptr)) λcl=>
 (bif cl then(f false 0 (bv.mk e1.kind 0 0 0 0 0 0 0 []) 0 0 0 0) else(a 0 0 0 e1.o e1.off)) else(bif (decide (e1.kind=14)) then letk (λ(cn:Bool)=>
 (f cn 0 (bv.mk e1.kind 0 e1.n 0 0 0 0 0 []) 0 e1.n 0 0)) λG=>
 (bif (decide (e1.n≥0)) then(G (decide (e1.n<jent))) else(G false)) else(bif (decide (e1.kind=4)) then(a 1 18 0 0 0) else(bif (decide (e1.kind=5)) then(a 2 (if(if 15<e1.op then 15 else e1.op)>7 then(if 15<e1.op then 15 else e1.op) else 7) 0 0 0) else letk (λ(cp:Bool)=>
 (bif cp then(a 2 0 0 0 0) else(f false 0 (bv.mk e1.kind 0 0 0 0 0 0 0 []) 0 0 0 0))) λH=>
 (bif (decide (e1.kind=6)) then(H (decide (e1.kind=6))) else(H (decide (e1.kind=7)))))))))
def f116:Nat→lN→lH→lP→lS→lL→lO→lT→Int→lK→lM→lC→Int→Int→bv→Int→Option (Bool×lN×lH×lP×lS×lL×lO×lT×Int×lK×lM×lC×Int×Int)
 |0=>λ_ _ _ _ _ _ _ _ _ _ _ _ _ _ _=>none
 |n+1=>f116s (f116 n)
def f71_l2(t0:bn)(e:Int→(List bv)→oB)(a:dH):Nat→Int→oB
 |0,_=>none
 |na+1,d=>
 (bif (decide (d<(List.length a.barriers:Int))) then Option.bind (idx a.barriers d) λf=>
 Option.bind (f116 66 t0.text.insns t0.text.handlers t0.text.loops t0.text.selects t0.text.lists t0.text.objs t0.text.inits t0.text.excs t0.text.tasks t0.text.prots t0.text.checks (List.length a.barriers:Int) 256 f 1) λg=>
 (bif (!g.1) then some false else(f71_l2 t0 e a na (IntKind.i64.wrap (d+1)))) else(e a.ceiling a.barriers))
def f71_l1(t0:bn)(e:Unit→oB):Nat→Int→oB
 |0,_=>none
 |n+1,d=>
 (bif (decide (d<(List.length t0.text.prots:Int))) then letk (λ(g:Int)(h:List bv)=>
 (f71_l1 t0 e n (IntKind.i64.wrap (d+1)))) λf=>
 Option.bind (idx t0.text.prots d) λa=>
 (bif (((decide (a.ceiling<0))||(decide (a.ceiling>31)))||(decide ((List.length a.barriers:Int)>8))) then some false else(f71_l2 t0 f a (Int.toNat ((List.length a.barriers:Int) - 0)+1) 0)) else(e ()))
def f71(t0:bn):oB:=
 letk (λ(_:Unit)=>
 some (decide ((List.length t0.text.prots:Int)≤32))) λa=>
 (f71_l1 t0 a (Int.toNat ((List.length t0.text.prots:Int) - 0)+1) 0)
def f155(n0:Int)(a:bn)(d:Int):oB:=
 Option.bind (f111 a d n0 1) λe=>
 some e
def f119(t0:bn)(a:Int)(a2:kL):oB:=
 Option.bind (bif (!(f112 t0 a2.at_)) then some true else(Option.bind (bif (!decide (a2.guard=(-1))) then(Option.bind (f155 a2.guard t0 a) λe=>some (!e)) else some false) λf=>some f)) λg=>
 (bif g then some false else(bif (decide (a2.kind=1)) then some (((decide (a2.entry≥0))&&(decide (a2.entry<8)))&&(decide (a2.time=0))) else letk (λ(h:Bool)=>
 (bif h then Option.bind (bif (decide (a2.entry=0)) then(Option.bind (f155 a2.time t0 a) λj=>some j) else some false) λk=>
 some k else some ((decide (a2.kind=4))&&(decide ((IntKind.i64.wrap (BitVec.ofInt IntKind.i64.bits a2.entry|||BitVec.ofInt IntKind.i64.bits a2.time).toNat)=0))))) λd=>
 (bif (decide (a2.kind=2)) then(d (decide (a2.kind=2))) else(d (decide (a2.kind=3))))))
def f72_l2(t0:bn)(a:cY)(e:Int→oB)(f:Unit→oB):Nat→Int→oB
 |0,_=>none
 |na+1,d=>
 (bif (decide (d<(List.length a.alts:Int))) then Option.bind (idx a.alts d) λg=>
 letk (λ(h:Bool)=>
 (bif h then(e d) else(f72_l2 t0 a e f na (IntKind.i64.wrap (d+1))))) λj=>
 Option.bind (f119 t0 a.obj g) λk=>
 (j (!k)) else(f ()))
def f72_l1(t0:bn)(e:Unit→oB):Nat→Int→oB
 |0,_=>none
 |n+1,d=>
 (bif (decide (d<(List.length t0.text.selects:Int))) then Option.bind (idx t0.text.selects d) λa=>
 (bif (((((decide ((List.length a.alts:Int)<1))||(decide ((List.length a.alts:Int)>16)))||(decide (a.obj<0)))||(decide (a.obj≥(List.length t0.text.objs:Int))))||((!decide (a.else_=(-1)))&&(!(f112 t0 a.else_)))) then some false else letk (λ(g:Bool)=>
 (bif g then some false else(f72_l1 t0 e n (IntKind.i64.wrap (d+1))))) λh=>
 letk (λ(j:Int)=>
 (h (decide (j≥0)))) λf=>
 letk (λ(_:Unit)=>
 (f (-1))) λk=>
 (f72_l2 t0 a f k (Int.toNat ((List.length a.alts:Int) - 0)+1) 0)) else(e ()))
def f72(t0:bn):oB:=
 (bif (decide ((List.length t0.text.selects:Int)>1024)) then some false else letk (λ(_:Unit)=>
 some true) λa=>
 (f72_l1 t0 a (Int.toNat ((List.length t0.text.selects:Int) - 0)+1) 0))
def f120(h0:an)(a1:Int):Bool:=
 ((decide (h0.from_≤a1))&&(decide (a1<h0.to)))
def f73_l2(t0:bn)(e:Int)(g:Int→Int→Int→Bool→oB)(a:an):Nat→Int→oB
 |0,_=>none
 |na+1,f=>
 (bif (decide (f<(List.length (cm t0.text.handlers 0 e):Int))) then Option.bind (idx (cm t0.text.handlers 0 e) f) λd=>
 (bif ((!((decide (d.from_≥a.from_))&&(decide (d.to≤a.to))))&&(decide ((if a.from_>d.from_ then a.from_ else d.from_)<(if a.to<d.to then a.to else d.to)))) then some false else(f73_l2 t0 e g a na (IntKind.i64.wrap (f+1)))) else(g a.from_ a.to a.at_ a.clean))
def f73_l1(t0:bn)(e:Unit→oB):Nat→Int→oB
 |0,_=>none
 |n+1,d=>
 (bif (decide (d<(List.length t0.text.handlers:Int))) then letk (λ(g:Int)(h:Int)(j:Int)(k:Bool)=>
 (f73_l1 t0 e n (IntKind.i64.wrap (d+1)))) λf=>
 Option.bind (idx t0.text.handlers d) λa=>
 (bif (((((decide (a.from_<0))||(decide (a.from_≥a.to)))||(decide (a.to>(List.length t0.text.insns:Int))))||(!(f112 t0 a.at_)))||(f120 a a.at_)) then some false else ay (dp t0.text.handlers 0 d)<|
 (f73_l2 t0 d f a (Int.toNat ((List.length (cm t0.text.handlers 0 d):Int) - 0)+1) 0)) else(e ()))
def f73(t0:bn):oB:=
 (bif (decide ((List.length t0.text.handlers:Int)>4096)) then some false else letk (λ(_:Unit)=>
 some true) λa=>
 (f73_l1 t0 a (Int.toNat ((List.length t0.text.handlers:Int) - 0)+1) 0))
def f121(x0:ak)(a:Int):Bool:=
 ((((decide (x0.op=29))||(decide (x0.op=30)))||(decide (x0.op=31)))&&(decide (x0.to=a)))
def f74_l1(t0:bn)(f:(List (Int×Bool))→oB):Nat→Int→(List (Int×Bool))→oB
 |0,_,_=>none
 |n+1,d,e=>
 (bif (decide (d<(List.length t0.text.loops:Int))) then Option.bind (idx t0.text.loops d) λa=>
 Option.bind (bif ((((decide (a.head<0))||(decide (a.head>a.back)))||(!(f112 t0 a.back)))||(Option.getD (cA e a.back) false)) then some true else(Option.bind (idx t0.text.insns a.back) λg=>some (!(f121 g a.head)))) λh=>
 (bif ((h||(decide (a.bound<0)))||(decide (a.bound>2147483647))) then some false else(f74_l1 t0 f n (IntKind.i64.wrap (d+1)) (cq e a.back true))) else(f e))
def f74(t0:bn):oB:=
 (bif (decide ((List.length t0.text.loops:Int)>4096)) then some false else letk (λ(d:List (Int×Bool))=>
 some true) λa=>
 (f74_l1 t0 a (Int.toNat ((List.length t0.text.loops:Int) - 0)+1) 0 ([]:List (Int×Bool))))
def f122(t0:bn)(a1:Int):oB:=
 Option.bind (bif (f112 t0 a1) then(Option.bind (idx t0.text.insns a1) λa=>Option.bind (bif (decide (a.op=27)) then some true else(Option.bind (idx t0.text.insns a1) λd=>some (decide (d.op=28)))) λe=>some e) else some false) λf=>
 some f
def f75_l1(t0:bn)(e:Unit→oB):Nat→Int→Int→oB
 |0,_,_=>none
 |n+1,f,d=>
 (bif (decide (d<(List.length t0.text.checks:Int))) then Option.bind (idx t0.text.checks d) λa=>
 Option.bind (bif (decide (a.at_≤f)) then some true else(Option.bind (f122 t0 a.at_) λg=>some (!g))) λh=>
 (bif ((h||(decide (a.kind<1)))||(decide (a.kind>5))) then some false else(f75_l1 t0 e n a.at_ (IntKind.i64.wrap (d+1)))) else(e ()))
def f75(t0:bn):oB:=
 letk (λ(_:Unit)=>
 some true) λa=>
 (f75_l1 t0 a (Int.toNat ((List.length t0.text.checks:Int) - 0)+1) (-1) 0)
def f123_l1(s0:lN)(d:ak→oB)(e:Unit→Option (Int)):Nat→Int→Option (Int)
 |0,_=>none
 |n+1,a=>
 (bif (decide (a<(List.length s0:Int))) then Option.bind (idx s0 a) λf=>
 Option.bind (d f) λg=>
 (bif g then some a else(f123_l1 s0 d e n (IntKind.i64.wrap (a+1)))) else(e ()))
def f123(s0:lN)(a:ak→oB):Option Int:=
 letk (λ(_:Unit)=>
 some (-1)) λd=>
 (f123_l1 s0 a d (Int.toNat ((List.length s0:Int) - 0)+1) 0)
def f76(s0:lN)(a:ak→oB):oB:=
 Option.bind (f123 s0 a) λd=>
 some (decide (d≥0))
def f156(o0:Int):Option (gg×Bool):=
 (bif ((decide (o0<1))||(decide ((IntKind.i64.wrap o0)>57))) then some ((gg.mk ByteArray.empty ByteArray.empty),false) else Option.bind (idx ie (IntKind.u8.wrap (o0 - 1))) λa=>
 some (a,true))
def f176_l1(s0:ByteArray)(d:Int→Int→Option (List ByteArray)):Nat→Int→Int→Int→Int→Option (List ByteArray)
 |0,_,_,_,_=>none
 |n+1,e,wasSpace116,setBits117,a=>
 (bif (decide (a<(s0.size:Int))) then Option.bind (eH s0 a) λf=>
 Option.bind (idx da f) λg=>
 (f176_l1 s0 d n (IntKind.i64.wrap (e+(IntKind.i64.wrap (BitVec.ofInt IntKind.i64.bits wasSpace116&&&BitVec.ofInt IntKind.i64.bits (IntKind.i64.wrap (BitVec.ofInt IntKind.i64.bits (-1)^^^BitVec.ofInt IntKind.i64.bits (IntKind.i64.wrap g)).toNat)).toNat))) (IntKind.i64.wrap g) (IntKind.u8.wrap (BitVec.ofInt IntKind.u8.bits setBits117|||BitVec.ofInt IntKind.u8.bits f).toNat) (IntKind.i64.wrap (a+1))) else(d e setBits117))
def f176_l2(s0:ByteArray)(d:Int→Option (List ByteArray)):Nat→Int→Option (List ByteArray)
 |0,_=>none
 |n+1,a=>
 Option.bind (bif (decide (a<(s0.size:Int))) then(Option.bind (eH s0 a) λe=>Option.bind (idx da e) λf=>some (!decide (f=0))) else some false) λg=>
 (bif g then(f176_l2 s0 d n (IntKind.i64.wrap (a+1))) else(d a))
def f176_l4(s0:ByteArray)(d:Int→Option (List ByteArray)):Nat→Int→Option (List ByteArray)
 |0,_=>none
 |na+1,a=>
 Option.bind (bif (decide (a<(s0.size:Int))) then(Option.bind (eH s0 a) λe=>Option.bind (idx da e) λf=>some (!decide (f=0))) else some false) λg=>
 (bif g then(f176_l4 s0 d na (IntKind.i64.wrap (a+1))) else(d a))
def f176_l3(s0:ByteArray)(f:Int→Int→(List ByteArray)→Option (List ByteArray)):Nat→Int→Int→Int→(List ByteArray)→Option (List ByteArray)
 |0,_,_,_,_=>none
 |n+1,a,fieldStart143,d,e=>
 (bif (decide (d<(s0.size:Int))) then Option.bind (eH s0 d) λh=>
 Option.bind (idx da h) λj=>
 (bif (decide (j=0)) then(f176_l3 s0 f n a fieldStart143 (IntKind.i64.wrap (d+1)) e) else Option.bind (pX s0 fieldStart143 d) λk=>
 Option.bind (idx e a) λp=>
 letk (λ(g:Int)=>
 (f176_l3 s0 f n (IntKind.i64.wrap (a+1)) g g (List.set e (Int.toNat a) k))) λm=>
 (f176_l4 s0 m 9223372036854775808 (IntKind.i64.wrap (d+1)))) else(f a fieldStart143 e))
def f176(s0:ByteArray):Option (List ByteArray):=
 letk (λ(a:Int)(setBits109:Int)=>
 (bif (decide (setBits109≥128)) then none else ay (nn 16 a)<|
 letk (λ(d:Int)=>
 letk (λ(e:Int)(fieldStart135:Int)(l136:List ByteArray)=>
 letk (λ(g:List ByteArray)=>
 some g) λf=>
 (bif (decide (fieldStart135<(s0.size:Int))) then Option.bind (pX s0 fieldStart135 (s0.size:Int)) λs164=>
 Option.bind (idx l136 e) λm=>
 (f (List.set l136 (Int.toNat e) s164)) else(f l136))) λh=>
 (f176_l3 s0 h 9223372036854775808 0 d d (List.replicate (Int.toNat a) (ByteArray.empty:ByteArray)))) λj=>
 (f176_l2 s0 j 9223372036854775808 0))) λk=>
 (f176_l1 s0 k 9223372036854775808 0 1 0 0)
def f179(a:Int):Int×Int:=
 (bif (decide (a=114)) then(0,15) else(bif (decide (a=111)) then(0,4095) else(bif (decide (a=115)) then(0,65535) else(bif (decide (a=108)) then(1,65536) else(bif (decide (a=120)) then(1,64) else(bif (decide (a=107)) then(6,7) else(bif (decide (a=101)) then(0,7) else(bif (decide (a=112)) then(0,31) else(bif (decide (a=113)) then((-1),31) else(bif (decide (a=109)) then(0,3) else(bif (decide (a=106)) then(0,1023) else(bif (decide (a=98)) then(0,1) else((-9223372036854775808),9223372036854775807)))))))))))))
def f124_l1(p:Int→Int→Int→Int→Int→Int→ByteArray→ByteArray→Int→Int→Int→Int→oB)(r:Int→Int→Int→Int→Int→Int→ByteArray→ByteArray→Int→Int→Int→Int→oB)(t:Int→Int→Int→Int→Int→Int→ByteArray→ByteArray→Int→Int→Int→Int→oB)(w:Int→Int→Int→Int→Int→Int→ByteArray→ByteArray→Int→Int→Int→Int→oB)(x:Int→Int→Int→Int→Int→Int→ByteArray→ByteArray→Int→Int→Int→Int→oB)(y:Int→Int→Int→Int→Int→Int→ByteArray→ByteArray→Int→Int→Int→Int→oB)(A:Int→Int→Int→Int→Int→Int→ByteArray→ByteArray→oB)(a:gg×Bool)(k:List ByteArray):Nat→Int→Int→Int→Int→Int→Int→Int→oB
 |0,_,_,_,_,_,_,_=>none
 |n+1,m,d,e,f,g,h,j=>
 (bif (decide (m<(List.length k:Int))) then Option.bind (idx k m) λB=>
 Option.bind (eH B 0) λJ=>
 (bif (decide (J=68)) then letk (λ(_:Unit)=>
 Option.bind (eH B 1) λC=>
 letk (λ(_:Unit)=>
 (p d e f g h j a.1.name a.1.fields ((f179 C).1) ((f179 C).2) ((f179 C).1) ((f179 C).2))) λK=>
 letk (λ(_:Unit)=>
 (f124_l1 p r t w x y A a k n (IntKind.i64.wrap (m+1)) 0 e f g h j)) λL=>
 letk (λ(_:Unit)=>
 (bif ((decide (d<((f179 C).1)))||(decide (d>((f179 C).2)))) then(K ()) else letk (λ(_:Unit)=>
 (L ())) λM=>
 (M ()))) λN=>
 (N ())) λO=>
 (O ()) else(bif (decide (J=65)) then letk (λ(_:Unit)=>
 Option.bind (eH B 1) λE=>
 letk (λ(_:Unit)=>
 (r d e f g h j a.1.name a.1.fields ((f179 E).1) ((f179 E).2) ((f179 E).1) ((f179 E).2))) λP=>
 letk (λ(_:Unit)=>
 (f124_l1 p r t w x y A a k n (IntKind.i64.wrap (m+1)) d 0 f g h j)) λQ=>
 letk (λ(_:Unit)=>
 (bif ((decide (e<((f179 E).1)))||(decide (e>((f179 E).2)))) then(P ()) else letk (λ(_:Unit)=>
 (Q ())) λR=>
 (R ()))) λS=>
 (S ())) λT=>
 (T ()) else(bif (decide (J=66)) then letk (λ(_:Unit)=>
 Option.bind (eH B 1) λF=>
 letk (λ(_:Unit)=>
 (t d e f g h j a.1.name a.1.fields ((f179 F).1) ((f179 F).2) ((f179 F).1) ((f179 F).2))) λU=>
 letk (λ(_:Unit)=>
 (f124_l1 p r t w x y A a k n (IntKind.i64.wrap (m+1)) d e 0 g h j)) λV=>
 letk (λ(_:Unit)=>
 (bif ((decide (f<((f179 F).1)))||(decide (f>((f179 F).2)))) then(U ()) else letk (λ(_:Unit)=>
 (V ())) λW=>
 (W ()))) λX=>
 (X ())) λY=>
 (Y ()) else(bif (decide (J=78)) then letk (λ(_:Unit)=>
 Option.bind (eH B 1) λG=>
 letk (λ(_:Unit)=>
 (w d e f g h j a.1.name a.1.fields ((f179 G).1) ((f179 G).2) ((f179 G).1) ((f179 G).2))) λZ=>
 letk (λ(_:Unit)=>
 (f124_l1 p r t w x y A a k n (IntKind.i64.wrap (m+1)) d e f 0 h j)) λad=>
 letk (λ(_:Unit)=>
 (bif ((decide (g<((f179 G).1)))||(decide (g>((f179 G).2)))) then(Z ()) else letk (λ(_:Unit)=>
 (ad ())) λag=>
 (ag ()))) λax=>
 (ax ())) λa0=>
 (a0 ()) else(bif (decide (J=77)) then letk (λ(_:Unit)=>
 Option.bind (eH B 1) λH=>
 letk (λ(_:Unit)=>
 (x d e f g h j a.1.name a.1.fields ((f179 H).1) ((f179 H).2) ((f179 H).1) ((f179 H).2))) λa1=>
 letk (λ(_:Unit)=>
 (f124_l1 p r t w x y A a k n (IntKind.i64.wrap (m+1)) d e f g 0 j)) λa6=>
 letk (λ(_:Unit)=>
 (bif ((decide (h<((f179 H).1)))||(decide (h>((f179 H).2)))) then(a1 ()) else letk (λ(_:Unit)=>
 (a6 ())) λa7=>
 (a7 ()))) λa8=>
 (a8 ())) λa9=>
 (a9 ()) else letk (λ(_:Unit)=>
 Option.bind (eH B 1) λI=>
 letk (λ(_:Unit)=>
 (y d e f g h j a.1.name a.1.fields ((f179 I).1) ((f179 I).2) ((f179 I).1) ((f179 I).2))) λa'=>
 letk (λ(_:Unit)=>
 (f124_l1 p r t w x y A a k n (IntKind.i64.wrap (m+1)) d e f g h 0)) λbb=>
 letk (λ(_:Unit)=>
 (bif ((decide (j<((f179 I).1)))||(decide (j>((f179 I).2)))) then(a' ()) else letk (λ(_:Unit)=>
 (bb ())) λbk=>
 (bk ()))) λbo=>
 (bo ())) λbs=>
 (bs ())))))) else(A d e f g h j a.1.name a.1.fields))
def f124(x0:ak):oB:=
 Option.bind (f156 x0.op) λg=>
 (bif ((!g.2)||((decide (x0.op=27))&&(decide (x0.n>x0.m)))) then some false else(bif (((decide (x0.op=37))&&(decide ((IntKind.u8.wrap x0.n)=6)))&&(!decide (x0.m=0))) then some false else letk (λ(h:Int)(j:Int)(k:Int)(p:Int)(r:Int)(t:Int)(P:ByteArray)(Q:ByteArray)=>
 some (((decide (x0.op=x0.op))&&((decide (h=0))&&((decide (j=0))&&((decide (k=0))&&((decide (p=0))&&((decide (r=0))&&((decide (t=0))&&true))))))))) λw=>
 letk (λ(_:Unit)=>
 letk (λ(R:Int)(S:Int)(T:Int)(U:Int)(V:Int)(W:Int)(X:ByteArray)(Y:ByteArray)(Z:Int)(ad:Int)(ag:Int)(ax:Int)=>
 some false) λx=>
 letk (λ(a0:Int)(a1:Int)(a6:Int)(a7:Int)(a8:Int)(a9:Int)(a':ByteArray)(bb:ByteArray)(bk:Int)(bo:Int)(bs:Int)(b0:Int)=>
 some false) λy=>
 letk (λ(b1:Int)(b2:Int)(b3:Int)(b4:Int)(b5:Int)(b6:Int)(b7:ByteArray)(b8:ByteArray)(b9:Int)(b':Int)(ca:Int)(cb:Int)=>
 some false) λA=>
 letk (λ(cc:Int)(cd:Int)(ci:Int)(cj:Int)(cl:Int)(cn:Int)(cp:ByteArray)(cx:ByteArray)(c0:Int)(c1:Int)(c2:Int)(c3:Int)=>
 some false) λB=>
 letk (λ(c4:Int)(c5:Int)(c6:Int)(c7:Int)(c':Int)(dd:Int)(df:ByteArray)(ds:ByteArray)(dA:Int)(dS:Int)(d0:Int)(d1:Int)=>
 some false) λC=>
 letk (λ(d2:Int)(d3:Int)(d':Int)(ea:Int)(eb:Int)(ee:Int)(ei:ByteArray)(el:ByteArray)(em:Int)(en:Int)(er:Int)(es:Int)=>
 some false) λE=>
 letk (λ(F:Int)(G:Int)(H:Int)(I:Int)(J:Int)(K:Int)(L:ByteArray)(M:ByteArray)=>
 (w F G H I J K L M)) λN=>
 Option.bind (f156 x0.op) λe=>
 Option.bind (f176 e.1.fields) λf=>
 (f124_l1 x y A B C E N e f (Int.toNat ((List.length f:Int) - 0)+1) 0 x0.d x0.a x0.b x0.n x0.m x0.to)) λO=>
 (O ())))
def f125(y0:ak):Bool:=
 (!decide (y0.op=29))
def f126(t0:bn)(a:Int)(n2:Int):Option (Int×Bool):=
 Option.bind (bif (((decide (a<0))||(decide (a≥(List.length t0.text.tasks:Int))))||(decide (n2<0))) then some true else(Option.bind (idx t0.text.tasks a) λe=>some (decide (n2≥(List.length e.entries:Int))))) λf=>
 (bif f then some (0,false) else Option.bind (idx t0.text.tasks a) λg=>
 Option.bind (idx g.entries n2) λd=>
 some ((IntKind.i64.wrap ((IntKind.i64.wrap ((List.length d.ins:Int)+(List.length d.outs:Int)))+1)),true))
def f127(t0:bn)(p1:Int)(n2:Int):oB:=
 Option.bind (bif (((decide (p1≥0))&&(decide (p1<(List.length t0.text.prots:Int))))&&(decide (n2≥0))) then(Option.bind (idx t0.text.prots p1) λa=>some (decide (n2<(List.length a.barriers:Int)))) else some false) λd=>
 some d
def f78(t0:bn)(x1:ak):oB:=
 Option.bind (f124 x1) λk=>
 (bif (!k) then some false else letk (λ(p:Bool)=>
 (bif p then Option.bind (f111 t0 x1.n x1.m 1) λr=>
 some r else letk (λ(t:Bool)=>
 (bif t then Option.bind (f111 t0 x1.n x1.m x1.b) λw=>
 some w else letk (λ(x:Bool)=>
 (bif x then some (f112 t0 x1.to) else(bif (decide (x1.op=32)) then Option.bind (bif (decide ((IntKind.i64.wrap (x1.to+x1.m))≤(List.length t0.text.insns:Int))) then(ay (dp t0.text.insns x1.to (IntKind.i64.wrap (x1.to+x1.m)))<|Option.bind (f76 (cm t0.text.insns x1.to (IntKind.i64.wrap (x1.to+x1.m))) (λz0=>some (f125 z0))) λy=>some (!y)) else some false) λA=>
 some A else(bif (decide (x1.op=33)) then some (decide (x1.n≤t0.text.excs)) else letk (λ(B:Bool)=>
 (bif B then some (decide (x1.n<(List.length t0.text.lists:Int))) else(bif (decide (x1.op=50)) then some (decide (x1.n<(List.length t0.text.selects:Int))) else(bif (decide (x1.op=49)) then Option.bind (f126 t0 x1.a x1.b) λf=>
 Option.bind (bif f.2 then(Option.bind (f111 t0 x1.n 0 f.1) λC=>some C) else some false) λE=>
 some E else(bif (decide (x1.op=52)) then Option.bind (f126 t0 x1.a x1.b) λF=>
 some (F.2&&(decide (x1.to<(List.length t0.text.insns:Int)))) else letk (λ(G:Bool)=>
 (bif G then some (decide (x1.n<(List.length t0.text.prots:Int))) else(bif (decide (x1.op=54)) then Option.bind (f127 t0 x1.n x1.m) λH=>
 some H else(bif (decide (x1.op=43)) then Option.bind (bif (decide (x1.m<0)) then some true else(Option.bind (f127 t0 x1.m x1.n) λI=>some I)) λJ=>
 some J else some true)))) λg=>
 (bif (decide (x1.op=53)) then(g (decide (x1.op=53))) else(g (decide (x1.op=55))))))))) λd=>
 (bif (decide (x1.op=44)) then(d (decide (x1.op=44))) else(bif (decide (x1.op=45)) then(d (decide (x1.op=45))) else(bif (decide (x1.op=46)) then(d (decide (x1.op=46))) else(d (decide (x1.op=56)))))))))) λe=>
 (bif (decide (x1.op=29)) then(e (decide (x1.op=29))) else(bif (decide (x1.op=30)) then(e (decide (x1.op=30))) else(e (decide (x1.op=31))))))) λh=>
 (bif (decide (x1.op=5)) then(h (decide (x1.op=5))) else(h (decide (x1.op=6)))))) λj=>
 (bif (decide (x1.op=3)) then(j (decide (x1.op=3))) else(j (decide (x1.op=4)))))
def f37_l1(t0:ao)(d:Int→oB)(e:Unit→oB):Nat→Int→oB
 |0,_=>none
 |n+1,a=>
 (bif (decide (a<(List.length t0.insns:Int))) then Option.bind (idx t0.insns a) λf=>
 letk (λ(g:Bool)=>
 (bif g then(d a) else(f37_l1 t0 d e n (IntKind.i64.wrap (a+1))))) λh=>
 Option.bind (f78 (bn.mk t0) f) λj=>
 (h (!j)) else(e ()))
def f37(t0:ao):oB:=
 (bif ((decide ((List.length t0.insns:Int)<1))||(decide ((List.length t0.insns:Int)>65536))) then some false else Option.bind (idx t0.insns (IntKind.i64.wrap ((List.length t0.insns:Int) - 1))) λa=>
 letk (λ(f:Bool)=>
 (bif f then letk (λ(_:Unit)=>
 letk (λ(g:Bool)=>
 some (!g)) λh=>
 letk (λ(j:Int)=>
 (h (decide (j≥0)))) λe=>
 letk (λ(_:Unit)=>
 (e (-1))) λk=>
 (f37_l1 t0 e k (Int.toNat ((List.length t0.insns:Int) - 0)+1) 0)) λm=>
 Option.bind (f68 (bn.mk t0)) λp=>
 (bif (!p) then some false else Option.bind (f69 (bn.mk t0)) λr=>
 (bif (!r) then some false else Option.bind (f70 (bn.mk t0)) λt=>
 (bif (!t) then some false else Option.bind (f71 (bn.mk t0)) λw=>
 (bif (!w) then some false else Option.bind (f72 (bn.mk t0)) λx=>
 (bif (!x) then some false else Option.bind (f73 (bn.mk t0)) λy=>
 (bif (!y) then some false else Option.bind (f74 (bn.mk t0)) λA=>
 (bif (!A) then some false else Option.bind (f75 (bn.mk t0)) λB=>
 (bif (!B) then some false else(m ()))))))))) else some false)) λd=>
 (bif (decide (a.op=29)) then(d (decide (a.op=29))) else(bif (decide (a.op=33)) then(d (decide (a.op=33))) else(bif (decide (a.op=34)) then(d (decide (a.op=34))) else(d (decide (a.op=57)))))))
def f41_l2(d:Int)(f:lL→Option lL)(g:Obj)(h:lI):Nat→Int→lL→Option lL
 |0,_,_=>none
 |na+1,a,e=>
 (bif (decide (a<(List.length h:Int))) then Option.bind (idx e d) λj=>
 Option.bind (idx j a) λk=>
 (f41_l2 d f g h na (IntKind.i64.wrap (a+1)) (List.set e (Int.toNat d) (List.set j (Int.toNat a) g.lo))) else(f e))
def f41_l1(t0:ao)(f:lL→Option lL):Nat→Int→lL→Option lL
 |0,_,_=>none
 |n+1,a,e=>
 (bif (decide (a<(List.length t0.objs:Int))) then letk (λ(j:lL)=>
 (f41_l1 t0 f n (IntKind.i64.wrap (a+1)) j)) λg=>
 Option.bind (idx t0.objs a) λd=>
 ay (nn 8 d.size)<|
 Option.bind (idx e a) λm=>
 Option.bind (f79 d 0) λk=>
 (bif (!k) then Option.bind (idx (List.set e (Int.toNat a) (List.replicate (Int.toNat d.size) (0:Int))) a) λh=>
 (f41_l2 a g d h (Int.toNat ((List.length h:Int) - 0)+1) 0 (List.set e (Int.toNat a) (List.replicate (Int.toNat d.size) (0:Int)))) else(g (List.set e (Int.toNat a) (List.replicate (Int.toNat d.size) (0:Int))))) else(f e))
def f41_l3(t0:ao)(f:lL→Option lL):Nat→Int→lL→Option lL
 |0,_,_=>none
 |n+1,d,e=>
 (bif (decide (d<(List.length t0.inits:Int))) then Option.bind (idx t0.inits d) λa=>
 Option.bind (idx e a.o) λg=>
 Option.bind (idx g a.slot) λh=>
 (f41_l3 t0 f n (IntKind.i64.wrap (d+1)) (List.set e (Int.toNat a.o) (List.set g (Int.toNat a.slot) a.v))) else(f e))
def f41(t0:ao):Option lL:=
 Option.bind (f37 t0) λa=>
 (bif (!a) then none else ay (nn 24 (List.length t0.objs:Int))<|
 letk (λ(d:lL)=>
 letk (λ(e:lL)=>
 some e) λf=>
 (f41_l3 t0 f (Int.toNat ((List.length t0.inits:Int) - 0)+1) 0 d)) λg=>
 (f41_l1 t0 g (Int.toNat ((List.length t0.objs:Int) - 0)+1) 0 (List.replicate (Int.toNat (List.length t0.objs:Int)) ([]:lI))))
def f40n(s0:lO):Option lO:=ay (cu 56 [] s0) (some s0)
def f38(s0:lN):Option lN:=ay (cu 56 [] s0) (some s0)
def f39(s0:lH):Option lH:=ay (cu 32 [] s0) (some s0)
def f43(s0:lI):Option lI:=ay (cu 8 [] s0) (some s0)
def f10_l1(f:lO)(g:lO→Option (Int×lN×lH×lO×Int×lI×lL×lI)):Nat→Int→lO→Option (Int×lN×lH×lO×Int×lI×lL×lI)
 |0,_,_=>none
 |n+1,a,d=>
 (bif (decide (a<(List.length f:Int))) then Option.bind (idx d a) λh=>
 Option.bind (f43 h.set_) λj=>
 Option.bind (idx d a) λe=>
 (f10_l1 f g n (IntKind.i64.wrap (a+1)) (List.set d (Int.toNat a) (Obj.mk e.size e.lo e.hi e.ptr j))) else(g d))
def f10(t0:ao)(d:lI):Option (Int×lN×lH×lO×Int×lI×lL×lI):=
 Option.bind (f37 t0) λe=>
 (bif (!e) then none else Option.bind (f38 t0.insns) λf=>
 Option.bind (f39 t0.handlers) λg=>
 Option.bind (f40n t0.objs) λa=>
 Option.bind (f41 t0) λh=>
 Option.bind (f42 d) λj=>
 letk (λ(k:lO)=>
 some (0,f,g,k,t0.excs,j,h,([]:lI))) λm=>
 (f10_l1 a m (Int.toNat ((List.length a:Int) - 0)+1) 0 a))
def f10b(t0:ao)(d:lI):Option (Unit×Int):=
 Option.bind (f37 t0) λa=>
 (bif (!a) then some ((),2) else none)
def f66(x0:ak):ao:=
 (ao.mk [x0,(ak.mk 57 0 0 0 0 0 0),(ak.mk 57 0 0 0 0 0 0)] [(an.mk 0 1 2 false)] [] [] [] [(Obj.mk 1 0 9 false [])] [] 4 [(dZ.mk 0 0 [] 0)] [(dH.mk 0 [])] [])
def f35(x0:ak)(v1:Int):Option (bj×lA×Int):=
 Option.bind (f37 (f66 x0)) λf=>
 (bif f then Option.bind (f10 (f66 x0) [8]) λa=>
 (bif (!decide (a.1=0)) then some ((bj.mk (λj=>0) 0 0 0),[],a.1) else Option.bind (f11 a.2.1 a.2.2.1 a.2.2.2.1 a.2.2.2.2.1 a.2.2.2.2.2.1 a.2.2.2.2.2.2.1 a.2.2.2.2.2.2.2 (bj.mk (λj=>List.getD [0,v1,0,0,0,0,0,0,0,0,0,0,0,0,0,0] j 0) 0 0 0)) λd=>
 some (d.1,d.2.1,d.2.2.1)) else Option.bind (f10b (f66 x0) [8]) λe=>
 (bif (!decide (e.2=0)) then some ((bj.mk (λj=>0) 0 0 0),[],e.2) else none))
def f9:oB:=
 Option.bind (f35 (ak.mk 27 0 1 0 0 5 0) 6) λd=>
 Option.bind (f35 (ak.mk 4 0 1 0 0 0 0) 10) λj=>
 Option.bind (f35 (ak.mk 12 0 1 0 0 0 0) 10) λk=>
 Option.bind (f35 (ak.mk 41 0 0 0 0 0 0) 0) λm=>
 Option.bind (f35 (ak.mk 53 0 0 0 0 0 0) 0) λp=>
 Option.bind (f35 (ak.mk 38 3 0 0 0 0 0) 0) λg=>
 Option.bind (f35 (ak.mk 1 1 0 0 7 0 0) 0) λh=>
 Option.bind (bif ((((decide ((d.1.r 0)=0))&&((decide ((d.1.r 1)=0))&&((decide ((d.1.r 2)=0))&&((decide ((d.1.r 3)=0))&&((decide ((d.1.r 4)=0))&&((decide ((d.1.r 5)=0))&&((decide ((d.1.r 6)=0))&&((decide ((d.1.r 7)=0))&&((decide ((d.1.r 8)=0))&&((decide ((d.1.r 9)=0))&&((decide ((d.1.r 10)=0))&&((decide ((d.1.r 11)=0))&&((decide ((d.1.r 12)=0))&&((decide ((d.1.r 13)=0))&&((decide ((d.1.r 14)=0))&&((decide ((d.1.r 15)=0))&&((decide (d.1.pc=2))&&((decide (d.1.exc=1))&&((decide (d.1.defer=0))&&true))))))))))))))))))))&&(decide ((List.length d.2.1:Int)=1))) then(Option.bind (idx d.2.1 0) λe=>some (((decide (e.time=0))&&((decide (e.task=0))&&((decide (e.kind=5))&&((decide (e.a=1))&&((decide (e.b=0))&&((decide (e.n=0))&&true)))))))) else some false) λt=>
 Option.bind (bif ((((((((t&&(decide (d.2.2=0)))&&(decide (j.2.2=280)))&&(decide (k.2.2=280)))&&(decide (m.2.2=280)))&&(decide (p.2.2=8)))&&(decide (g.2.2=0)))&&(decide ((g.1.r (Int.toNat 3))=8)))&&(decide ((List.length g.2.1:Int)=1))) then(Option.bind (idx g.2.1 0) λf=>some (((decide (f.time=0))&&((decide (f.task=0))&&((decide (f.kind=2))&&((decide (f.a=8))&&((decide (f.b=0))&&((decide (f.n=0))&&true)))))))) else some false) λw=>
 some (((((w&&(decide (h.2.2=0)))&&(decide ((h.1.r (Int.toNat 1))=7)))&&(decide (h.1.pc=1)))&&(f36 41))&&(!(f36 42)))
def f12_l1(t0:ao)(e:Int→oB):Nat→Int→Int→oB
 |0,_,_=>none
 |n+1,f,a=>
 (bif ((decide (a<(List.length t0.objs:Int)))&&(decide (a<100))) then Option.bind (idx t0.objs a) λd=>
 (f12_l1 t0 e n (IntKind.i64.wrap (f+(if(if 20000<d.size then 20000 else d.size)>0 then(if 20000<d.size then 20000 else d.size) else 0))) (IntKind.i64.wrap (a+1))) else(e f))
def f12(t0:ao):oB:=
 letk (λ(a:Int)=>
 some (((((((((((decide (a>400))||(decide ((List.length t0.insns:Int)>100)))||(decide ((List.length t0.handlers:Int)>50)))||(decide ((List.length t0.loops:Int)>100)))||(decide ((List.length t0.selects:Int)>20)))||(decide ((List.length t0.lists:Int)>40)))||(decide ((List.length t0.objs:Int)>60)))||(decide ((List.length t0.inits:Int)>60)))||(decide ((List.length t0.tasks:Int)>40)))||(decide ((List.length t0.prots:Int)>10)))||(decide ((List.length t0.checks:Int)>100)))) λd=>
 (f12_l1 t0 d 9223372036854775808 0 0)
def f34_l1(o0:Obj)(v1:Int)(d:Unit→oB):Nat→Int→oB
 |0,_=>none
 |n+1,a=>
 (bif (decide (a<(List.length o0.set_:Int))) then Option.bind (idx o0.set_ a) λe=>
 (bif (decide (v1=(IntKind.i64.wrap (e+1)))) then some true else(f34_l1 o0 v1 d n (IntKind.i64.wrap (a+1)))) else(d ()))
def f34(o0:Obj)(v1:Int):oB:=
 (bif (!o0.ptr) then some ((decide (v1≥o0.lo))&&(decide (v1≤o0.hi))) else letk (λ(_:Unit)=>
 some (decide (v1=0))) λa=>
 (f34_l1 o0 v1 a 9223372036854775808 0))
def f30(t0:ao)(a1:Int):Bool:=
 ((decide (a1≥0))&&(decide (a1<(List.length t0.insns:Int))))
def f31(t0:ao)(r1:bj):Bool:=
 (((((f30 t0 r1.pc)&&(decide (r1.exc≥(-2))))&&(decide (r1.exc≤t0.excs)))&&(decide (r1.defer≥0)))&&(decide (r1.defer≤1000000)))
def f50(o0:Int):Bool:=
 ((decide (o0≥1))&&(decide (o0≤41)))
def f143(a0:Int)(b1:Int):Option Int:=
 ay (nz b1)<|
 letk (λ(d:Int)=>
 some d) λa=>
 (bif ((!decide ((Int.tmod a0 b1)=0))&&(!((decide ((Int.tmod a0 b1)<0))==(decide (b1<0))))) then(a (IntKind.i64.wrap ((Int.tmod a0 b1)+b1))) else(a (Int.tmod a0 b1)))
def f144(b0:Bool):Int:=
 (bif b0 then 1 else 0)
def f98(a:Int)(a1:Int)(b2:Int):Option (Int×Bool):=
 (bif (decide (a=1)) then some ((IntKind.i64.wrap (a1+b2)),true) else(bif (decide (a=2)) then some ((IntKind.i64.wrap (a1 - b2)),true) else(bif (decide (a=3)) then some ((IntKind.i64.wrap (a1*b2)),true) else letk (λ(e:Bool)=>
 (bif e then(bif (decide (b2=0)) then some (0,false) else(bif ((decide (b2=(-1)))&&(decide (a=4))) then some ((IntKind.i64.wrap (0 - a1)),true) else(bif (decide (b2=(-1))) then some (0,true) else(bif (decide (a=4)) then ay (nz b2)<|
 some ((IntKind.i64.wrap (Int.tdiv a1 b2)),true) else(bif (decide (a=5)) then ay (nz b2)<|
 some ((Int.tmod a1 b2),true) else Option.bind (f143 a1 b2) λf=>
 some (f,true)))))) else(bif (decide (a=7)) then some ((f144 (decide (a1=b2))),true) else(bif (decide (a=8)) then some ((f144 (!decide (a1=b2))),true) else(bif (decide (a=9)) then some ((f144 (decide (a1<b2))),true) else(bif (decide (a=10)) then some ((f144 (decide (a1≤b2))),true) else(bif (decide (a=11)) then some ((f144 (decide (a1>b2))),true) else(bif (decide (a=12)) then some ((f144 (decide (a1≥b2))),true) else(bif (decide (a=13)) then some ((IntKind.i64.wrap (BitVec.ofInt IntKind.i64.bits a1&&&BitVec.ofInt IntKind.i64.bits b2).toNat),true) else(bif (decide (a=14)) then some ((IntKind.i64.wrap (BitVec.ofInt IntKind.i64.bits a1|||BitVec.ofInt IntKind.i64.bits b2).toNat),true) else(bif (decide (a=15)) then some ((IntKind.i64.wrap (BitVec.ofInt IntKind.i64.bits a1^^^BitVec.ofInt IntKind.i64.bits b2).toNat),true) else(bif (decide (a=16)) then some ((IntKind.i64.wrap (0 - a1)),true) else(bif (decide (a=17)) then(bif (decide (a1<0)) then some ((IntKind.i64.wrap (0 - a1)),true) else some (a1,true)) else(bif (decide (a=18)) then some ((IntKind.i64.wrap (1 - a1)),true) else some (0,false))))))))))))))) λd=>
 (bif (decide (a=4)) then(d (decide (a=4))) else(bif (decide (a=5)) then(d (decide (a=5))) else(d (decide (a=6))))))))
def f29_l2(a0:lL)(b1:lL)(a:Int)(e:Unit→oB):Nat→Int→oB
 |0,_=>none
 |na+1,d=>
 Option.bind (idx a0 a) λf=>
 (bif (decide (d<(List.length f:Int))) then Option.bind (idx a0 a) λg=>
 Option.bind (idx g d) λh=>
 Option.bind (idx b1 a) λj=>
 Option.bind (idx j d) λk=>
 (bif (!decide (h=k)) then some false else(f29_l2 a0 b1 a e na (IntKind.i64.wrap (d+1)))) else(e ()))
def f29_l1(a0:lL)(b1:lL)(d:Unit→oB):Nat→Int→oB
 |0,_=>none
 |n+1,a=>
 (bif (decide (a<(List.length a0:Int))) then letk (λ(_:Unit)=>
 (f29_l1 a0 b1 d n (IntKind.i64.wrap (a+1)))) λe=>
 Option.bind (idx a0 a) λf=>
 Option.bind (idx b1 a) λg=>
 (bif (!decide ((List.length f:Int)=(List.length g:Int))) then some false else(f29_l2 a0 b1 a e 9223372036854775808 0)) else(d ()))
def f29(a0:lL)(b1:lL):oB:=
 (bif (!decide ((List.length a0:Int)=(List.length b1:Int))) then some false else letk (λ(_:Unit)=>
 some true) λa=>
 (f29_l1 a0 b1 a 9223372036854775808 0))
def f47z:oB:=
 some true
def f44_45z(r1:bj)(a:Bool):Option (bj×lA×Int):=
 some ((bj.mk (λj=>0) 0 0 0),[],1)
def f11z(r1:bj):Option (bj×lA×Int):=
 Option.bind (f44_45z r1 true) λa=>
 some (a.1,a.2.1,a.2.2)
def f28z:Option lL:=
 some []
def f108(l:lI):Option lI:=ay (decide (l.length<4611686018427387904)) (some (l.mergeSort λx y=>decide (x≤y)))
def f109(l:lI):Option lI:=some (Lib.compact l)
def f146(h0:an)(a:Int)(d:Bool):Bool:=
 (((decide (h0.from_≤a))&&(decide (a<h0.to)))&&(h0.clean||(!d)))
def f106(t0:ao)(at1:Int)(d:Bool):Option (Int×Bool):=
 Option.bind (f100 t0.handlers (λz0=>some (f146 z0 at1 d))) λa=>
 (bif (decide (a<0)) then some (0,false) else Option.bind (idx t0.handlers a) λe=>
 some (e.at_,true))
def f107(o0:Int):Bool:=
 letk (λ(d:Bool)=>
 (bif d then true else false)) λa=>
 (bif (decide (o0=27)) then(a (decide (o0=27))) else(bif (decide (o0=28)) then(a (decide (o0=28))) else(bif (decide (o0=33)) then(a (decide (o0=33))) else(bif (decide (o0=34)) then(a (decide (o0=34))) else(bif (decide (o0=35)) then(a (decide (o0=35))) else(bif (decide (o0=38)) then(a (decide (o0=38))) else(bif (decide (o0=49)) then(a (decide (o0=49))) else(bif (decide (o0=50)) then(a (decide (o0=50))) else(bif (decide (o0=53)) then(a (decide (o0=53))) else(a (decide (o0=54))))))))))))
def f65_l1(a:ak)(f:lI→Option lI):Nat→Int→lI→Option lI
 |0,_,_=>none
 |n+1,d,e=>
 (bif (decide (d<a.m)) then letk (λ(_:Unit)=>
 (f65_l1 a f n (IntKind.i64.wrap (d+1)) (e++ [(IntKind.i64.wrap (a.to+d))]))) λg=>
 ay (cu 8 e [(IntKind.i64.wrap (a.to+d))])<|
 (g ()) else(f e))
def f65_l2(a:cY)(f:lI→Option lI):Nat→Int→lI→Option lI
 |0,_,_=>none
 |n+1,d,e=>
 (bif (decide (d<(List.length a.alts:Int))) then Option.bind (idx a.alts d) λg=>
 letk (λ(_:Unit)=>
 (f65_l2 a f n (IntKind.i64.wrap (d+1)) (e++ [g.at_]))) λh=>
 ay (cu 8 e [g.at_])<|
 (h ()) else(f e))
def f65(t0:ao)(at1:Int):Option lI:=
 Option.bind (idx t0.insns at1) λa=>
 letk (λ(d:lI)=>
 letk (λ(h:lI)=>
 letk (λ(x:lI)=>
 Option.bind (f108 x) λy=>
 Option.bind (f109 y) λA=>
 some A) λk=>
 (bif (f107 a.op) then Option.bind (f106 t0 at1 false) λp=>
 letk (λ(_:Unit)=>
 (k (h++ [p.1]))) λB=>
 letk (λ(_:Unit)=>
 (k h)) λC=>
 (bif p.2 then ay (cu 8 h [p.1])<|
 (B ()) else(C ())) else(k h))) λe=>
 letk (λ(E:Bool)=>
 (bif E then letk (λ(_:Unit)=>
 (e (d++ [a.to]))) λF=>
 ay (cu 8 d [a.to])<|
 (F ()) else(bif (decide (a.op=32)) then(f65_l1 a e (Int.toNat (a.m - 0)+1) 0 d) else(bif (decide (a.op=50)) then Option.bind (idx t0.selects a.n) λg=>
 letk (λ(r:lI)=>
 letk (λ(_:Unit)=>
 (e (r++ [g.else_]))) λG=>
 letk (λ(_:Unit)=>
 (e r)) λH=>
 (bif (decide (g.else_≥0)) then ay (cu 8 r [g.else_])<|
 (G ()) else(H ()))) λI=>
 (f65_l2 g I (Int.toNat ((List.length g.alts:Int) - 0)+1) 0 d) else(bif (decide (a.op=35)) then Option.bind (f106 t0 at1 true) λt=>
 letk (λ(_:Unit)=>
 (e (d++ [t.1]))) λJ=>
 letk (λ(_:Unit)=>
 (e d)) λK=>
 (bif t.2 then ay (cu 8 d [t.1])<|
 (J ()) else(K ())) else(e d)))))) λj=>
 (bif (decide (a.op=29)) then(j (decide (a.op=29))) else(bif (decide (a.op=30)) then(j (decide (a.op=30))) else(bif (decide (a.op=31)) then(j (decide (a.op=31))) else(j (decide (a.op=52))))))) λw=>
 letk (λ(L:Bool)=>
 (bif L then(w []) else letk (λ(_:Unit)=>
 (w ([]++ [(IntKind.i64.wrap (at1+1))]))) λM=>
 letk (λ(_:Unit)=>
 (w [])) λN=>
 (bif (decide ((IntKind.i64.wrap (at1+1))<(List.length t0.insns:Int))) then ay (cu 8 [] [(IntKind.i64.wrap (at1+1))])<|
 (M ()) else(N ())))) λf=>
 (bif (decide (a.op=29)) then(f (decide (a.op=29))) else(bif (decide (a.op=33)) then(f (decide (a.op=33))) else(bif (decide (a.op=34)) then(f (decide (a.op=34))) else(bif (decide (a.op=50)) then(f (decide (a.op=50))) else(bif (decide (a.op=52)) then(f (decide (a.op=52))) else(f (decide (a.op=57))))))))
def f32(t0:ao)(at1:Int):Option lI:=
 Option.bind (f37 t0) λa=>
 (bif (((!a)||(decide (at1<0)))||(decide (at1≥(List.length t0.insns:Int)))) then some [] else Option.bind (f65 t0 at1) λd=>
 some d)
def f33(x0:ak)(i1:Int):Bool:=
 letk (λ(e:Bool)=>
 (bif e then false else(decide (x0.d=i1)))) λa=>
 (bif (decide (x0.op=4)) then(a (decide (x0.op=4))) else(bif (decide (x0.op=6)) then(a (decide (x0.op=6))) else(bif (decide (x0.op=8)) then(a (decide (x0.op=8))) else(bif (decide (x0.op=27)) then(a (decide (x0.op=27))) else(bif (decide (x0.op=28)) then(a (decide (x0.op=28))) else(bif (decide (x0.op=29)) then(a (decide (x0.op=29))) else(bif (decide (x0.op=30)) then(a (decide (x0.op=30))) else(bif (decide (x0.op=31)) then(a (decide (x0.op=31))) else(bif (decide (x0.op=32)) then(a (decide (x0.op=32))) else(bif (decide (x0.op=35)) then(a (decide (x0.op=35))) else(bif (decide (x0.op=37)) then(a (decide (x0.op=37))) else(bif (decide (x0.op=39)) then(a (decide (x0.op=39))) else(bif (decide (x0.op=40)) then(a (decide (x0.op=40))) else(a (decide (x0.op=41))))))))))))))))
def f8_l2(e:bj×lA×Int×lI×lL×lI)(a:lI)(f:Bool→oB):Nat→Bool→Int→oB
 |0,_,_=>none
 |na+1,g,d=>
 (bif (decide (d<(List.length a:Int))) then Option.bind (bif g then some true else(Option.bind (idx a d) λh=>some (decide (h=e.1.pc)))) λj=>
 (f8_l2 e a f na j (IntKind.i64.wrap (d+1))) else(f g))
def f8_l3(f:Nat→Int)(d:bj×lA×Int×lI×lL×lI)(g:ak)(e:Bool)(h:Unit→oB):Nat→Int→oB
 |0,_=>none
 |na+1,a=>
 (bif (decide (a<16)) then Option.bind (bif e then(ay (bh 16 a)<|some (!decide ((d.1.r (Int.toNat a))=0))) else some false) λj=>
 Option.bind (bif j then some true else(Option.bind (bif ((!e)&&(!(f33 g a))) then(ay (bh 16 a)<|ay (bh 16 a)<|some (!decide ((d.1.r (Int.toNat a))=(f (Int.toNat a))))) else some false) λk=>some k)) λm=>
 (bif m then some false else(f8_l3 f d g e h na (IntKind.i64.wrap (a+1)))) else(h ()))
def f8_l5(t0:ao)(d:lL)(a:Int)(f:Unit→oB):Nat→Int→oB
 |0,_=>none
 |nb+1,e=>
 Option.bind (idx d a) λg=>
 (bif (decide (e<(List.length g:Int))) then Option.bind (idx t0.objs a) λh=>
 Option.bind (idx d a) λj=>
 Option.bind (idx j e) λk=>
 Option.bind (f34 h k) λm=>
 (bif (!m) then some false else(f8_l5 t0 d a f nb (IntKind.i64.wrap (e+1)))) else(f ()))
def f8_l4(t0:ao)(a:lL)(e:Unit→oB):Nat→Int→oB
 |0,_=>none
 |na+1,d=>
 (bif (decide (d<(List.length a:Int))) then letk (λ(_:Unit)=>
 (f8_l4 t0 a e na (IntKind.i64.wrap (d+1)))) λf=>
 (f8_l5 t0 a d f 9223372036854775808 0) else(e ()))
def f8_l1(t0:ao)(A:Int)(f:Int×lN×lH×lO×Int×lI×lL×lI)(B:lL→lI→(Nat→Int)→Int→Int→Int→lI→oB):Nat→Int→lL→lI→(Nat→Int)→Int→Int→Int→lI→oB
 |0,_,_,_,_,_,_,_,_=>none
 |n+1,C,k,p,j,h,t,E,w=>
 (bif (decide (C<(IntKind.i64.wrap A))) then letk (λ(F:lL)(G:lI)(H:Nat→Int)(I:Int)(J:Int)(K:Int)(L:lI)(ad:Nat→Int)(ag:Int)(ax:Int)(a0:Int)(a1:Int)(a6:Int)(a7:Int)(a8:Int)(a9:Int)(a':Int)(bb:Int)=>
 (f8_l1 t0 A f B n (IntKind.i64.wrap (C+1)) F G H I J K L)) λM=>
 Option.bind (f28 f.2.1 f.2.2.1 f.2.2.2.1 f.2.2.2.2.1 w k p) λN=>
 Option.bind (f11 f.2.1 f.2.2.1 f.2.2.2.1 f.2.2.2.2.1 w k p (bj.mk j h t E)) λe=>
 Option.bind (f28 f.2.1 f.2.2.1 f.2.2.2.1 f.2.2.2.2.1 e.2.2.2.1 e.2.2.2.2.1 e.2.2.2.2.2) λx=>
 (bif (!decide (e.2.2.1=0)) then Option.bind (bif ((((decide ((e.1.r 0)=0))&&((decide ((e.1.r 1)=0))&&((decide ((e.1.r 2)=0))&&((decide ((e.1.r 3)=0))&&((decide ((e.1.r 4)=0))&&((decide ((e.1.r 5)=0))&&((decide ((e.1.r 6)=0))&&((decide ((e.1.r 7)=0))&&((decide ((e.1.r 8)=0))&&((decide ((e.1.r 9)=0))&&((decide ((e.1.r 10)=0))&&((decide ((e.1.r 11)=0))&&((decide ((e.1.r 12)=0))&&((decide ((e.1.r 13)=0))&&((decide ((e.1.r 14)=0))&&((decide ((e.1.r 15)=0))&&((decide (e.1.pc=0))&&((decide (e.1.exc=0))&&((decide (e.1.defer=0))&&true))))))))))))))))))))&&(decide ((List.length e.2.1:Int)=0))) then(Option.bind (f29 N x) λO=>some O) else some false) λP=>
 Option.bind (bif P then(Option.bind (f9) λQ=>some Q) else some false) λR=>
 some R else(bif (((!(f30 t0 h))||(!(f31 t0 e.1)))||(!decide ((List.length x:Int)=(List.length t0.objs:Int)))) then some false else Option.bind (idx t0.insns h) λg=>
 Option.bind (f32 t0 h) λS=>
 letk (λ(T:Bool)=>
 (bif (!T) then some false else Option.bind (bif (decide ((List.length e.2.1:Int)=1)) then(Option.bind (idx e.2.1 0) λU=>some (decide (U.kind=5))) else some false) λV=>
 Option.bind (bif V then some true else(Option.bind (bif (decide (g.op=35)) then(ay (bh 16 g.a)<|some (!decide ((j (Int.toNat g.a))=0))) else some false) λW=>some W)) λy=>
 letk (λ(_:Unit)=>
 (bif (((!y)&&(!decide (e.1.exc=t)))||(y&&(decide (e.1.exc=0)))) then some false else letk (λ(_:Unit)=>
 (M e.2.2.2.2.1 e.2.2.2.2.2 e.1.r e.1.pc e.1.exc e.1.defer e.2.2.2.1 e.1.r e.1.pc e.1.exc e.1.defer g.op g.d g.a g.b g.n g.m g.to)) λX=>
 (f8_l4 t0 x X 9223372036854775808 0))) λY=>
 (f8_l3 j e g y Y 9223372036854775808 0))) λZ=>
 (f8_l2 e S Z 9223372036854775808 false 0))) else(B k p j h t E w))
def f8_l7(e:bj×lA×Int)(a:lI)(f:Bool→oB):Nat→Bool→Int→oB
 |0,_,_=>none
 |na+1,g,d=>
 (bif (decide (d<(List.length a:Int))) then Option.bind (bif g then some true else(Option.bind (idx a d) λh=>some (decide (h=e.1.pc)))) λj=>
 (f8_l7 e a f na j (IntKind.i64.wrap (d+1))) else(f g))
def f8_l8(f:Nat→Int)(d:bj×lA×Int)(g:ak)(e:Bool)(h:Unit→oB):Nat→Int→oB
 |0,_=>none
 |na+1,a=>
 (bif (decide (a<16)) then Option.bind (bif e then(ay (bh 16 a)<|some (!decide ((d.1.r (Int.toNat a))=0))) else some false) λj=>
 Option.bind (bif j then some true else(Option.bind (bif ((!e)&&(!(f33 g a))) then(ay (bh 16 a)<|ay (bh 16 a)<|some (!decide ((d.1.r (Int.toNat a))=(f (Int.toNat a))))) else some false) λk=>some k)) λm=>
 (bif m then some false else(f8_l8 f d g e h na (IntKind.i64.wrap (a+1)))) else(h ()))
def f8_l10(t0:ao)(d:lL)(a:Int)(f:Unit→oB):Nat→Int→oB
 |0,_=>none
 |nb+1,e=>
 Option.bind (idx d a) λg=>
 (bif (decide (e<(List.length g:Int))) then Option.bind (idx t0.objs a) λh=>
 Option.bind (idx d a) λj=>
 Option.bind (idx j e) λk=>
 Option.bind (f34 h k) λm=>
 (bif (!m) then some false else(f8_l10 t0 d a f nb (IntKind.i64.wrap (e+1)))) else(f ()))
def f8_l9(t0:ao)(a:lL)(e:Unit→oB):Nat→Int→oB
 |0,_=>none
 |na+1,d=>
 (bif (decide (d<(List.length a:Int))) then letk (λ(_:Unit)=>
 (f8_l9 t0 a e na (IntKind.i64.wrap (d+1)))) λf=>
 (f8_l10 t0 a d f 9223372036854775808 0) else(e ()))
def f8_l6(t0:ao)(t:Int)(w:(Nat→Int)→Int→Int→Int→oB):Nat→Int→(Nat→Int)→Int→Int→Int→oB
 |0,_,_,_,_,_=>none
 |n+1,x,h,g,j,y=>
 (bif (decide (x<(IntKind.i64.wrap t))) then letk (λ(A:Nat→Int)(B:Int)(C:Int)(E:Int)(T:Nat→Int)(U:Int)(V:Int)(W:Int)(X:Int)(Y:Int)(Z:Int)(ad:Int)(ag:Int)(ax:Int)(a0:Int)=>
 (f8_l6 t0 t w n (IntKind.i64.wrap (x+1)) A B C E)) λF=>
 Option.bind (f28z) λG=>
 Option.bind (f11z (bj.mk h g j y)) λe=>
 Option.bind (f28z) λk=>
 (bif (!decide (e.2.2=0)) then Option.bind (bif ((((decide ((e.1.r 0)=0))&&((decide ((e.1.r 1)=0))&&((decide ((e.1.r 2)=0))&&((decide ((e.1.r 3)=0))&&((decide ((e.1.r 4)=0))&&((decide ((e.1.r 5)=0))&&((decide ((e.1.r 6)=0))&&((decide ((e.1.r 7)=0))&&((decide ((e.1.r 8)=0))&&((decide ((e.1.r 9)=0))&&((decide ((e.1.r 10)=0))&&((decide ((e.1.r 11)=0))&&((decide ((e.1.r 12)=0))&&((decide ((e.1.r 13)=0))&&((decide ((e.1.r 14)=0))&&((decide ((e.1.r 15)=0))&&((decide (e.1.pc=0))&&((decide (e.1.exc=0))&&((decide (e.1.defer=0))&&true))))))))))))))))))))&&(decide ((List.length e.2.1:Int)=0))) then(Option.bind (f29 G k) λH=>some H) else some false) λI=>
 Option.bind (bif I then(Option.bind (f9) λJ=>some J) else some false) λK=>
 some K else(bif (((!(f30 t0 g))||(!(f31 t0 e.1)))||(!decide ((List.length k:Int)=(List.length t0.objs:Int)))) then some false else Option.bind (idx t0.insns g) λf=>
 Option.bind (f32 t0 g) λL=>
 letk (λ(M:Bool)=>
 (bif (!M) then some false else Option.bind (bif (decide ((List.length e.2.1:Int)=1)) then(Option.bind (idx e.2.1 0) λN=>some (decide (N.kind=5))) else some false) λO=>
 Option.bind (bif O then some true else(Option.bind (bif (decide (f.op=35)) then(ay (bh 16 f.a)<|some (!decide ((h (Int.toNat f.a))=0))) else some false) λP=>some P)) λp=>
 letk (λ(_:Unit)=>
 (bif (((!p)&&(!decide (e.1.exc=j)))||(p&&(decide (e.1.exc=0)))) then some false else letk (λ(_:Unit)=>
 (F e.1.r e.1.pc e.1.exc e.1.defer e.1.r e.1.pc e.1.exc e.1.defer f.op f.d f.a f.b f.n f.m f.to)) λQ=>
 (f8_l9 t0 k Q 9223372036854775808 0))) λR=>
 (f8_l8 h e f p R 9223372036854775808 0))) λS=>
 (f8_l7 e L S 9223372036854775808 false 0))) else(w h g j y))
def f8(t0:ao)(d:lI)(r2:bj)(e:Int):oB:=
 Option.bind (f12 t0) λf=>
 (bif ((f||(decide ((List.length d:Int)>200)))||(decide (e>60))) then Option.bind (f9) λg=>
 some g else Option.bind (f37 t0) λh=>
 (bif h then Option.bind (f10 t0 d) λa=>
 (bif (!decide (a.1=0)) then Option.bind (f9) λj=>
 some j else letk (λ(y:lL)(A:lI)(B:Nat→Int)(C:Int)(E:Int)(F:Int)(G:lI)=>
 Option.bind (f9) λk=>
 some k) λm=>
 (f8_l1 t0 e a m 9223372036854775808 0 a.2.2.2.2.2.2.1 a.2.2.2.2.2.2.2 r2.r r2.pc r2.exc r2.defer a.2.2.2.2.2.1)) else Option.bind (f10b t0 d) λp=>
 (bif (!decide (p.2=0)) then Option.bind (f9) λt=>
 some t else letk (λ(H:Nat→Int)(I:Int)(J:Int)(K:Int)=>
 Option.bind (f9) λw=>
 some w) λx=>
 (f8_l6 t0 e x 9223372036854775808 0 r2.r r2.pc r2.exc r2.defer))))
abbrev sN:AV:= .d (.v (.slice none 0 0))
abbrev txA(t:ao):lV:=[.l E45 t.insns, .l cJ t.handlers, .l iV t.loops, .l iz t.selects, .l E96 t.lists, .l cL t.objs, .l gV t.inits, .n t.excs, .l E27 t.tasks, .l fJ t.prots, .l jt t.checks]
abbrev txV(a:lN)(b:lH)(c:lP)(d:lS)(e:lL)(f:lO)(g:lT)(h:Int)(i:lK)(j:lM)(k:lC):lV:=[.l E45 a, .l cJ b, .l iV c, .l iz d, .l E96 e, .l cL f, .l gV g, .n h, .l E27 i, .l fJ j, .l jt k]
abbrev txW(a:lN)(b:lH)(c:lP)(d:lS)(e:lL)(f:lO)(g:lT)(h:Int)(i:lK)(j:lM)(k:lC)(l m:Int):lV:=[.l E45 a, .l cJ b, .l iV c, .l iz d, .l E96 e, .l cL f, .l gV g, .n h, .l E27 i, .l fJ j, .l jt k, .n l, .n m]
abbrev mR(a:lN)(b:lH)(c:lO)(d:Int)(i v:Nat)(e:lI)(j w:Nat):lV:=[.l E45 a, .l cJ b, .l cL c, .n d, .os i v, .l E2 e, .os j w]
abbrev tQ(o:Nat)(R:Nat→Int)(p x d:Int)(i v:Nat):lV:=([.pt o 0]:lV)++(bf 16 (λj=> .n (R j))++([.n p, .n x, .n d, .os i v]:lV):lV)
abbrev wD(a:lN)(b:lH)(c:lO)(d:Int)(vo:Nat)(n:lI)(vu vf:Nat)(S:lL)(U:lI):lW:=[.dead, .row 90 (mR a b c d 2 vo n 4 vu), .os 42 1 vo (bg 3 vf (List.length S)), .fam 2 1 vf (bc E2 S), .os 2 1 vu (eM E2 U), .dead]
abbrev wT(R:Nat→Int)(p x y:Int)(va:Nat)(a:lN)(b:lH)(c:lO)(d:Int)(vo:Nat)(n:lI)(vu vf:Nat)(S:lL)(U:lI)(A:lA):lW:=[.row 116 (tQ 1 R p x y 5 va), .row 90 (mR a b c d 2 vo n 4 vu), .os 42 1 vo (bg 3 vf (List.length S)), .fam 2 1 vf (bc E2 S), .os 2 1 vu (eM E2 U), .os 58 6 va (eM R58 A)]
abbrev wM(a:lN)(b:lH)(c:lO)(d:Int)(vo:Nat)(n:lI)(vu vf:Nat)(S:lL)(U:lI):lW:=[.row 90 (mR a b c d 1 vo n 3 vu), .os 42 1 vo (bg 2 vf (List.length S)), .fam 2 1 vf (bc E2 S), .os 2 1 vu (eM E2 U)]
abbrev fG(F:Nat→Int)(j:Nat):Int:=List.getD [F 0,F 1,F 2,F 3,0,0,0,0,0,0,0,0,0,0,0,0] j 0
abbrev n19:lV:=[.n 0, .n 0, .n 0, .n 0, .n 0, .n 0, .n 0, .n 0, .n 0, .n 0, .n 0, .n 0, .n 0, .n 0, .n 0, .n 0, .n 0, .n 0, .n 0]
abbrev z19:List Value:=[.int .i64 0, .int .i64 0, .int .i64 0, .int .i64 0, .int .i64 0, .int .i64 0, .int .i64 0, .int .i64 0, .int .i64 0, .int .i64 0, .int .i64 0, .int .i64 0, .int .i64 0, .int .i64 0, .int .i64 0, .int .i64 0, .int .i64 0, .int .i64 0, .int .i64 0]
abbrev V41(x:bj):List Value:=[.int .i64 (x.r 0), .int .i64 (x.r 1), .int .i64 (x.r 2), .int .i64 (x.r 3), .int .i64 (x.r 4), .int .i64 (x.r 5), .int .i64 (x.r 6), .int .i64 (x.r 7), .int .i64 (x.r 8), .int .i64 (x.r 9), .int .i64 (x.r 10), .int .i64 (x.r 11), .int .i64 (x.r 12), .int .i64 (x.r 13), .int .i64 (x.r 14), .int .i64 (x.r 15), .int .i64 x.pc, .int .i64 x.exc, .int .i64 x.defer]
abbrev fe(k:Int)(f o:Nat):Int×AV:=(k, .fn (.func f) [] [.pt o 0])
abbrev rg(F:Nat→Int)(a b c:Int):lV:=bf 16 (λj=> .n (F j))++([.n a, .n b, .n c]:lV)
abbrev rG(x:bj):lV:=rg x.r x.pc x.exc x.defer
abbrev oS(v a w:Nat)(S:lL):AO:= .os 42 1 v (bg a w (List.length S))
abbrev fS(v:Nat)(S:lL):AO:= .fam 2 1 v (bc E2 S)
abbrev uS(v:Nat)(S:lI):AO:= .os 2 1 v (eM E2 S)
abbrev _root_.Go.Sk.AO.z:AO:= .dead
abbrev mO(l:List (Int×AV)):AO:=mpO (λx:Int=>Value.int .u8 x) (λx:AV=>x) l
abbrev fL:List (Int×AV):=[fe 1 214 1,fe 2 214 2,fe 3 214 3,fe 4 215 4,fe 5 215 5,fe 6 215 6,fe 7 216 7,fe 8 216 8,fe 9 216 9,fe 10 216 10,fe 11 216 11,fe 12 216 12,fe 13 214 13,fe 14 214 14,fe 15 214 15,fe 16 214 16,fe 17 214 17,fe 18 214 18]
abbrev rL:lW:=[rF 209 181,rF 209 182,rF 209 183,rF 209 185,rF 209 186,rF 209 187,rF 195 189,rF 195 190,rF 195 191,rF 195 192,rF 195 193,rF 195 194,rF 209 195,rF 209 196,rF 209 197,rF 209 198,rF 209 199,rF 209 200]
abbrev tW(j:Nat):lW:=mO fL::List.take j rL
abbrev tS(k j:Nat):lW:=mO (List.take k fL)::List.take j rL
abbrev dT(i a b n:Nat):lW:=List.replicate i .z++rF a b::List.replicate n .z
end Go.Proofs.YtkbahggepncliaaGreatDoor
