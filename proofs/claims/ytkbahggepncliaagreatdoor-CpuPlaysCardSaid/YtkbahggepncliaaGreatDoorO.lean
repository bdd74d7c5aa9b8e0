/- Part of the proof. -/
import Derived.Test.YtkbahggepncliaaGreatDoorT
set_option linter.unusedVariables false
set_option linter.unusedSimpArgs false
set_option linter.unusedSectionVars false
set_option linter.unnecessarySimpa false
namespace Go.Proofs.YtkbahggepncliaaGreatDoor
open Go Go.Sk
structure Field where
 name:Int
 lo:Int
 hi:Int
structure Row where
 op:Int
 name:ByteArray
 fields:List Field
structure aq where
 r:Nat→Int
 pc:Int
 exc:Int
 defer:Int
structure Act where
 time:Int
 task:Int
 kind:Int
 a:Int
 b:Int
 n:Int
structure aB where
 op:Int
 d:Int
 a:Int
 b:Int
 n:Int
 m:Int
 to:Int
structure aG where
 from_:Int
 to:Int
 at_:Int
 clean:Bool
structure Loop where
 head:Int
 back:Int
 bound:Int
structure ju where
 kind:Int
 entry:Int
 guard:Int
 time:Int
 at_:Int
structure dJ where
 alts:List ju
 obj:Int
 else_:Int
structure Obj where
 size:Int
 lo:Int
 hi:Int
 ptr:Bool
 set_:List Int
structure d3 where
 o:Int
 slot:Int
 v:Int
structure cr where
 ins:List Int
 outs:List Int
structure eL where
 prio:Int
 at_:Int
 entries:List cr
 deadline:Int
structure aW where
 kind:Int
 op:Int
 n:Int
 o:Int
 off:Int
 len:Int
 lo:Int
 hi:Int
 l:List aW
structure eJ where
 ceiling:Int
 barriers:List aW
structure ff where
 at_:Int
 kind:Int
structure aj where
 insns:List aB
 handlers:List aG
 loops:List Loop
 selects:List dJ
 lists:List (List Int)
 objs:List Obj
 inits:List d3
 excs:Int
 tasks:List eL
 prots:List eJ
 checks:List ff
structure Mem where
 t:aj
 slots:List (List Int)
 in_:List Int
 out:List Int
structure av where
 m:Mem
 r:aq
 acts:List Act
 e:Int
structure mA where
 what:Int
 r:aq
 o:Int
 k:Int
 v:Int
structure pB where
 e:Int
structure Mem90 where
 insns:List aB
 handlers:List aG
 objs:List Obj
 excs:Int
 slots:List (List Int)
 in_:List Int
 out:List Int
structure Task where
 mem:Unit
 r:aq
 acts:List Act
structure bN where
 text:aj
structure Judge where
 view:bN
 entries:Int
 left:Int
structure Spot where
 o:Int
 slot:Int
structure is where
 name:ByteArray
 fields:ByteArray
abbrev E3(x:Int):List D:=[.i .i64 x]
theorem fd(x:Int):E3 x=[.i .i64 x]:=rfl
abbrev se(x:cr):List D:=[.sl (List.map E3 x.ins), .sl (List.map E3 x.outs)]
abbrev jw(x:cr):List D:=se x
theorem jZ(x:cr):jw x=se x:=rfl
abbrev R27(x:eL):List D:=[.i .i64 x.prio, .i .i64 x.at_, .sl (List.map jw x.entries), .i .i64 x.deadline]
abbrev E27(x:eL):List D:=R27 x
theorem jv(x:eL):E27 x=R27 x:=rfl
abbrev R45(x:aB):List D:=[.i .u8 x.op, .i .i64 x.d, .i .i64 x.a, .i .i64 x.b, .i .i64 x.n, .i .i64 x.m, .i .i64 x.to]
abbrev E45(x:aB):List D:=R45 x
theorem dr(x:aB):E45 x=R45 x:=rfl
abbrev u5(x:aG):List D:=[.i .i64 x.from_, .i .i64 x.to, .i .i64 x.at_, .b x.clean]
abbrev bq(x:aG):List D:=u5 x
theorem eK(x:aG):bq x=u5 x:=rfl
abbrev R189(x:Loop):List D:=[.i .i64 x.head, .i .i64 x.back, .i .i64 x.bound]
abbrev bT(x:Loop):List D:=R189 x
theorem ou(x:Loop):bT x=R189 x:=rfl
abbrev qw(x:ju):List D:=[.i .u8 x.kind, .i .i64 x.entry, .i .i64 x.guard, .i .i64 x.time, .i .i64 x.at_]
abbrev gp(x:ju):List D:=qw x
theorem ri(x:ju):gp x=qw x:=rfl
abbrev R155(x:dJ):List D:=[.sl (List.map gp x.alts), .i .i64 x.obj, .i .i64 x.else_]
abbrev bS(x:dJ):List D:=R155 x
theorem rj(x:dJ):bS x=R155 x:=rfl
abbrev E96(x:List Int):List D:=[.sl (List.map E3 x)]
theorem t6(x:List Int):E96 x=[.sl (List.map E3 x)]:=rfl
abbrev dz(x:Obj):List D:=[.i .i64 x.size, .i .i64 x.lo, .i .i64 x.hi, .b x.ptr, .sl (List.map E3 x.set_)]
abbrev br(x:Obj):List D:=dz x
theorem bD(x:Obj):br x=dz x:=rfl
abbrev R140(x:d3):List D:=[.i .i64 x.o, .i .i64 x.slot, .i .i64 x.v]
abbrev bO(x:d3):List D:=R140 x
theorem eW(x:d3):bO x=R140 x:=rfl
abbrev lI:=List Int
abbrev lL:=List (List Int)
abbrev lN:=List aB
abbrev lH:=List aG
abbrev lO:=List Obj
abbrev lA:=List Act
abbrev lD:=List D
abbrev lV:=List AV
abbrev lW:=List AO
abbrev oB:=Option Bool
abbrev lP:=List Loop
abbrev lS:=List dJ
abbrev lT:=List d3
abbrev lK:=List eL
abbrev lM:=List eJ
abbrev lC:=List ff
abbrev fD:=Field.mk
abbrev bA:=ByteArray.mk

mutual
def dU:aW→lD
 | .mk kind op n o off len lo hi l=> [.i .u8 kind, .i .u8 op, .i .i64 n, .i .i64 o, .i .i64 off, .i .i64 len, .i .i64 lo, .i .i64 hi, .sl (E179s l)]
def E179s:List aW→List lD
 |[]=> []
 |e::l=>dU e::E179s l
end
abbrev kE(x:aW):lD:=[.i .u8 x.kind, .i .u8 x.op, .i .i64 x.n, .i .i64 x.o, .i .i64 x.off, .i .i64 x.len, .i .i64 x.lo, .i .i64 x.hi, .sl (List.map dU x.l)]
theorem pK:∀l,E179s l=List.map dU l
 |[]=>rfl
 |e::l=>by rw[E179s,pK l];rfl
theorem iG(x:aW):dU x=kE x:=by
 cases x;simp only[dU,pK]
abbrev wL(x:eJ):lD:=[.i .i64 x.ceiling, .sl (List.map dU x.barriers)]
abbrev bI(x:eJ):lD:=wL x
theorem j6(x:eJ):bI x=wL x:=rfl
abbrev R192(x:ff):lD:=[.i .i64 x.at_, .i .u8 x.kind]
abbrev bY(x:ff):lD:=R192 x
theorem ot(x:ff):bY x=R192 x:=rfl
abbrev R38(x:aj):lD:=[.sl (List.map E45 x.insns), .sl (List.map bq x.handlers), .sl (List.map bT x.loops), .sl (List.map bS x.selects), .sl (List.map E96 x.lists), .sl (List.map br x.objs), .sl (List.map bO x.inits), .i .i64 x.excs, .sl (List.map E27 x.tasks), .sl (List.map bI x.prots), .sl (List.map bY x.checks)]
abbrev E38(x:aj):lD:=R38 x
abbrev R39(x:Nat→Int):lD:=oJ 16 (λj=> .i .i64 (x j))
abbrev E39(x:Nat→Int):lD:=R39 x
abbrev R41(x:aq):lD:=R39 x.r++([.i .i64 x.pc, .i .i64 x.exc, .i .i64 x.defer])
abbrev E41(x:aq):lD:=R41 x
abbrev R58(x:Act):lD:=[.i .i64 x.time, .i .i64 x.task, .i .u8 x.kind, .i .i64 x.a, .i .i64 x.b, .i .i64 x.n]
abbrev E58(x:Act):lD:=R58 x
theorem d7(x:Act):E58 x=R58 x:=rfl
abbrev E2(x:Int):lD:=[.i .i64 x]
theorem dx(x:Int):E2 x=[.i .i64 x]:=rfl
abbrev E42(x:lI):lD:=[.sl (List.map E2 x)]
theorem fc(x:lI):E42 x=[.sl (List.map E2 x)]:=rfl
abbrev R64(x:Mem):lD:=[.sl (List.map E45 x.t.insns), .sl (List.map bq x.t.handlers), .sl (List.map bT x.t.loops), .sl (List.map bS x.t.selects), .sl (List.map E96 x.t.lists), .sl (List.map br x.t.objs), .sl (List.map bO x.t.inits), .i .i64 x.t.excs, .sl (List.map E27 x.t.tasks), .sl (List.map bI x.t.prots), .sl (List.map bY x.t.checks), .sl (List.map E42 x.slots), .sl (List.map E2 x.in_), .sl (List.map E2 x.out)]
abbrev R73(x:mA):lD:=[.i .u8 x.what]++(R39 x.r.r++([.i .i64 x.r.pc, .i .i64 x.r.exc, .i .i64 x.r.defer, .i .i64 x.o, .i .i64 x.k, .i .i64 x.v]))
abbrev E73(x:mA):lD:=R73 x
theorem wN(x:mA):E73 x=R73 x:=rfl
abbrev R118(x:pB):lD:=[.i .i64 x.e]
abbrev mL(x:av):lD:=[.sl (List.map E45 x.m.t.insns), .sl (List.map bq x.m.t.handlers), .sl (List.map bT x.m.t.loops), .sl (List.map bS x.m.t.selects), .sl (List.map E96 x.m.t.lists), .sl (List.map br x.m.t.objs), .sl (List.map bO x.m.t.inits), .i .i64 x.m.t.excs, .sl (List.map E27 x.m.t.tasks), .sl (List.map bI x.m.t.prots), .sl (List.map bY x.m.t.checks), .sl (List.map E42 x.m.slots), .sl (List.map E2 x.m.in_), .sl (List.map E2 x.m.out)]++(R39 x.r.r++([.i .i64 x.r.pc, .i .i64 x.r.exc, .i .i64 x.r.defer, .sl (List.map E58 x.acts), .i .i64 x.e]))
abbrev bU(x:bN):lD:=[.sl (List.map E45 x.text.insns), .sl (List.map bq x.text.handlers), .sl (List.map bT x.text.loops), .sl (List.map bS x.text.selects), .sl (List.map E96 x.text.lists), .sl (List.map br x.text.objs), .sl (List.map bO x.text.inits), .i .i64 x.text.excs, .sl (List.map E27 x.text.tasks), .sl (List.map bI x.text.prots), .sl (List.map bY x.text.checks)]
abbrev wK(x:is):lD:=[.s x.name, .s x.fields]
abbrev R245(x:Field):lD:=[.i .u8 x.name, .i .i64 x.lo, .i .i64 x.hi]
abbrev t7(x:Field):lD:=R245 x
theorem aL(x:Field):t7 x=R245 x:=rfl
abbrev u4(x:Row):lD:=[.i .u8 x.op, .s x.name, .sl (List.map t7 x.fields)]
abbrev u6(x:Row):lD:=u4 x
theorem oq(x:Row):u6 x=u4 x:=rfl
abbrev E9(x:ByteArray):lD:=[.s x]
theorem vH(x:ByteArray):E9 x=[.s x]:=rfl
abbrev E43(x:Int):lD:=[.i .u8 x]
abbrev E146(x:Int):lD:=[.i .u8 x]
def jM:List is:=nR.map λp=>⟨p.1,p.2⟩
theorem nZ:gpc 0=some (jM.flatMap wK):=by
 unfold jM
 rw[List.flatMap_map]
 rfl
def cZ(e:Int):List PanicEntry:=[{ v:= .iface 118 (.agg ⟨[.int .i64 e]⟩),recovered:=false }]
def f102:Option (Rs Unit):=
 some (Rs.bad 280)
def f145_l1(s0:lI)(v1:Int)(c:Unit→Option (Int)):Nat→Int→Option (Int)
 |0,_=>none
 |n+1,a=>
 (bif (decide (a<(List.length s0:Int))) then Option.bind (idx s0 a) λd=>
 (bif (decide (v1=d)) then some a else(f145_l1 s0 v1 c n (IntKind.i64.wrap (a+1)))) else(c ()))
def f145(s0:lI)(v1:Int):Option Int:=
 letk (λ(_:Unit)=>
 some (-1)) λa=>
 (f145_l1 s0 v1 a (Int.toNat ((List.length s0:Int) - 0)+1) 0)
def f104(s0:lI)(v1:Int):oB:=
 Option.bind (f145 s0 v1) λa=>
 some (decide (a≥0))
def f63(o0:Obj)(v1:Int):oB:=
 (bif o0.ptr then Option.bind (bif (decide (v1=0)) then some true else(Option.bind (f104 o0.set_ (IntKind.i64.wrap (v1 - 1))) λa=>some (a&&(decide (v1>0))))) λc=>
 some c else some ((decide (v1≥o0.lo))&&(decide (v1≤o0.hi))))
def f67(o0:Int):Bool:=
 ((decide (o0≥42))&&(decide (o0<58)))
def f36(o0:Int):Bool:=
 (((!decide (o0=0))&&(decide (o0<58)))&&(!(f67 o0)))
def f131(tR:Nat→Int)(tP:Int)(tX:Int)(tD:Int)(mI:lN)(mH:lH)(mO:lO)(mE:Int)(mN:lI)(mS:lL)(mU:lI)(tA:lA):Option (Rs ((Nat→Int)×Int×Int×Int)):=
 (bif (decide ((IntKind.i64.wrap (tP+1))=(List.length mI:Int))) then some (Rs.bad 280) else some (Rs.ok (tR,(IntKind.i64.wrap (tP+1)),tX,tD)))
def f59_l1(tP:Int)(mH:lH)(c1:Int)(d:Int→Option (Rs ((Nat→Int)×Int×Int×Int)))(e:Unit→Option (Rs ((Nat→Int)×Int×Int×Int))):Nat→Int→Option (Rs ((Nat→Int)×Int×Int×Int))
 |0,_=>none
 |n+1,a=>
 (bif (decide (a<(List.length mH:Int))) then Option.bind (idx mH a) λc=>
 letk (λ(_:Unit)=>
 (bif (((decide (c.from_≤tP))&&(decide (tP<c.to)))&&(c.clean||(decide (c1>0)))) then(d a) else(f59_l1 tP mH c1 d e n (IntKind.i64.wrap (a+1))))) λf=>
 (f ()) else(e ()))
def f59(tR:Nat→Int)(tP:Int)(tX:Int)(tD:Int)(mI:lN)(mH:lH)(mO:lO)(mE:Int)(mN:lI)(mS:lL)(mU:lI)(tA:lA)(c1:Int):Option (Rs ((Nat→Int)×Int×Int×Int)):=
 letk (λ(a:Int)=>
 (bif (decide (a<0)) then some (Rs.bad 280) else Option.bind (idx mH a) λc=>
 letk (λ(d:Int)=>
 (bif (decide (d>1000000)) then some (Rs.bad 280) else some (Rs.ok ((λj=>0),c.at_,c1,d)))) λe=>
 (bif c.clean then(e (IntKind.i64.wrap (tD+1))) else(e tD)))) λf=>
 letk (λ(_:Unit)=>
 (f (-1))) λg=>
 (f59_l1 tP mH c1 f g (Int.toNat ((List.length mH:Int) - 0)+1) 0)
def f56(tR:Nat→Int)(tP:Int)(tX:Int)(tD:Int)(mI:lN)(mH:lH)(mO:lO)(mE:Int)(mN:lI)(mS:lL)(mU:lI)(tA:lA)(n1:Int):Option (Rs ((Nat→Int)×Int×Int×Int×lA)):=
 Option.bind (f59 tR tP tX tD mI mH mO mE mN mS mU tA n1) λc=>
 Rs.cs c (λe23=>some (Rs.bad e23)) (λa=>aI (cq 48 tA [(Act.mk 0 0 5 n1 0 0)])<|
 some (Rs.ok (a.1,a.2.1,a.2.2.1,a.2.2.2,(tA++ [(Act.mk 0 0 5 n1 0 0)]))))
def f81(tR:Nat→Int)(tP:Int)(tX:Int)(tD:Int)(mI:lN)(mH:lH)(mO:lO)(mE:Int)(mN:lI)(mS:lL)(mU:lI)(tA:lA)(x1:aB):Option (Rs ((Nat→Int)×Int×Int×Int)):=
 letk (λ(_:Unit)=>
 some (Rs.bad 280)) λh=>
 letk (λ(J:Obj)(r:Int)(t:Int)(K:Int)(L:Int)(M:Int)(N:Bool)(O:lI)=>
 Option.bind (idx mS r) λw=>
 Option.bind (idx w t) λx=>
 aI (bK 16 x1.d)<|
 Option.bind (f131 (bW tR (Int.toNat x1.d) x) tP tX tD mI mH mO mE mN mS mU tA) λy=>
 Rs.cs y (λe71=>some (Rs.bad e71)) (λf=>some (Rs.ok (f.1,f.2.1,f.2.2.1,f.2.2.2)))) λA=>
 aI (bK 16 x1.a)<|
 letk (λ(c:Int)(g:Int)=>
 letk (λ(_:Unit)=>
 (h ())) λB=>
 letk (λ(_:Unit)=>
 Option.bind (idx mO c) λe=>
 (A e c g e.size e.lo e.hi e.ptr e.set_)) λC=>
 Option.bind (bif (((decide (c<0))||(decide (c≥(List.length mS:Int))))||(decide (g<0))) then some true else(Option.bind (idx mS c) λE=>some (decide (g≥(List.length E:Int))))) λF=>
 (bif F then(B ()) else Option.bind (idx mS c) λG=>
 Option.bind (idx G g) λP=>
 (C ()))) λj=>
 letk (λ(H:Bool)=>
 (bif H then(bif ((decide ((tR (Int.toNat x1.a))<0))||(decide ((tR (Int.toNat x1.a))≥x1.b))) then(h ()) else(j x1.n (IntKind.i64.wrap (x1.m+(tR (Int.toNat x1.a)))))) else letk (λ(I:Bool)=>
 (bif I then(bif ((decide ((tR (Int.toNat x1.a))<1))||(decide ((tR (Int.toNat x1.a))>(List.length mO:Int)))) then(h ()) else(j (IntKind.i64.wrap ((tR (Int.toNat x1.a)) - 1)) 0)) else(j x1.n x1.m))) λk=>
 (bif (decide (x1.op=7)) then(k (decide (x1.op=7))) else(k (decide (x1.op=8)))))) λp=>
 (bif (decide (x1.op=5)) then(p (decide (x1.op=5))) else(p (decide (x1.op=6))))
def f82(tR:Nat→Int)(tP:Int)(tX:Int)(tD:Int)(mI:lN)(mH:lH)(mO:lO)(mE:Int)(mN:lI)(mS:lL)(mU:lI)(tA:lA)(x1:aB):Option (Rs ((Nat→Int)×Int×Int×Int×lL)):=
 aI (bK 16 x1.d)<|
 letk (λ(k:Int)=>
 letk (λ(_:Unit)=>
 some (Rs.bad 280)) λh=>
 letk (λ(A:Obj)(p:Int)(r:Int)(N:Int)(O:Int)(P:Int)(Q:Bool)(R:lI)=>
 Option.bind (f63 A k) λB=>
 (bif (!B) then some (Rs.bad 280) else Option.bind (f131 tR tP tX tD mI mH mO mE mN mS mU tA) λC=>
 Rs.cs C (λE=>some (Rs.bad E)) (λf=>Option.bind (idx mS p) λt=>
 Option.bind (idx t r) λS=>
 some (Rs.ok (f.1,f.2.1,f.2.2.1,f.2.2.2,(List.set mS (Int.toNat p) (List.set t (Int.toNat r) k))))))) λF=>
 aI (bK 16 x1.a)<|
 letk (λ(c:Int)(g:Int)=>
 letk (λ(_:Unit)=>
 (h ())) λG=>
 letk (λ(_:Unit)=>
 Option.bind (idx mO c) λe=>
 (F e c g e.size e.lo e.hi e.ptr e.set_)) λH=>
 Option.bind (bif (((decide (c<0))||(decide (c≥(List.length mS:Int))))||(decide (g<0))) then some true else(Option.bind (idx mS c) λI=>some (decide (g≥(List.length I:Int))))) λJ=>
 (bif J then(G ()) else Option.bind (idx mS c) λK=>
 Option.bind (idx K g) λT=>
 (H ()))) λj=>
 letk (λ(L:Bool)=>
 (bif L then(bif ((decide ((tR (Int.toNat x1.a))<0))||(decide ((tR (Int.toNat x1.a))≥x1.b))) then(h ()) else(j x1.n (IntKind.i64.wrap (x1.m+(tR (Int.toNat x1.a)))))) else letk (λ(M:Bool)=>
 (bif M then(bif ((decide ((tR (Int.toNat x1.a))<1))||(decide ((tR (Int.toNat x1.a))>(List.length mO:Int)))) then(h ()) else(j (IntKind.i64.wrap ((tR (Int.toNat x1.a)) - 1)) 0)) else(j x1.n x1.m))) λw=>
 (bif (decide (x1.op=7)) then(w (decide (x1.op=7))) else(w (decide (x1.op=8)))))) λx=>
 (bif (decide (x1.op=5)) then(x (decide (x1.op=5))) else(x (decide (x1.op=6))))) λy=>
 (bif (decide (x1.op=4)) then aI (bK 16 x1.a)<|
 (y (tR (Int.toNat x1.a))) else(y (tR (Int.toNat x1.d))))
def f83(tR:Nat→Int)(tP:Int)(tX:Int)(tD:Int)(mI:lN)(mH:lH)(mO:lO)(mE:Int)(mN:lI)(mS:lL)(mU:lI)(tA:lA)(x1:aB):Option (Rs ((Nat→Int)×Int×Int×Int)):=
 aI (bK 16 x1.a)<|
 (bif (((decide (x1.op=32))&&(decide ((tR (Int.toNat x1.a))≥x1.n)))&&(decide ((IntKind.u64.wrap ((IntKind.u64.wrap (tR (Int.toNat x1.a))) - (IntKind.u64.wrap x1.n)))<(IntKind.u64.wrap x1.m)))) then some (Rs.ok (tR,(IntKind.i64.wrap (x1.to+(IntKind.i64.wrap ((tR (Int.toNat x1.a)) - x1.n)))),tX,tD)) else letk (λ(e:Bool)=>
 (bif e then some (Rs.ok (tR,x1.to,tX,tD)) else Option.bind (f131 tR tP tX tD mI mH mO mE mN mS mU tA) λf=>
 Rs.cs f (λg=>some (Rs.bad g)) (λc=>some (Rs.ok (c.1,c.2.1,c.2.2.1,c.2.2.2))))) λd=>
 (bif (decide (x1.op=29)) then(d (decide (x1.op=29))) else(bif ((decide (x1.op=30))&&(decide ((tR (Int.toNat x1.a))=0))) then(d ((decide (x1.op=30))&&(decide ((tR (Int.toNat x1.a))=0)))) else(d ((decide (x1.op=31))&&(!decide ((tR (Int.toNat x1.a))=0)))))))
def f84(tR:Nat→Int)(tP:Int)(tX:Int)(tD:Int)(mI:lN)(mH:lH)(mO:lO)(mE:Int)(mN:lI)(mS:lL)(mU:lI)(tA:lA)(x1:aB):Option (Rs ((Nat→Int)×Int×Int×Int×lA)):=
 aI (bK 16 x1.a)<|
 (bif (((decide (x1.op=27))&&((decide ((tR (Int.toNat x1.a))<x1.n))||(decide ((tR (Int.toNat x1.a))>x1.m))))||((decide (x1.op=28))&&(decide ((tR (Int.toNat x1.a))=0)))) then Option.bind (f56 tR tP tX tD mI mH mO mE mN mS mU tA 1) λc=>
 Rs.cs c (λd=>some (Rs.bad d)) (λz46=>some (Rs.ok (z46.1,z46.2.1,z46.2.2.1,z46.2.2.2.1,z46.2.2.2.2))) else Option.bind (f131 tR tP tX tD mI mH mO mE mN mS mU tA) λe=>
 Rs.cs e (λf=>some (Rs.bad f)) (λz50=>some (Rs.ok (z50.1,z50.2.1,z50.2.2.1,z50.2.2.2,tA))))
def f85(tR:Nat→Int)(tP:Int)(tX:Int)(tD:Int)(mI:lN)(mH:lH)(mO:lO)(mE:Int)(mN:lI)(mS:lL)(mU:lI)(tA:lA)(x1:aB):Option (Rs ((Nat→Int)×Int×Int×Int×lA)):=
 aI (bK 16 x1.a)<|
 (bif (decide (x1.op=33)) then Option.bind (f56 tR tP tX tD mI mH mO mE mN mS mU tA x1.n) λg=>
 Rs.cs g (λe71=>some (Rs.bad e71)) (λc=>some (Rs.ok (c.1,c.2.1,c.2.2.1,c.2.2.2.1,c.2.2.2.2))) else(bif ((decide (x1.op=35))&&(decide ((tR (Int.toNat x1.a))=0))) then Option.bind (f131 tR tP tX tD mI mH mO mE mN mS mU tA) λh=>
 Rs.cs h (λj=>some (Rs.bad j)) (λe=>some (Rs.ok (e.1,e.2.1,e.2.2.1,e.2.2.2,tA))) else(bif (((decide ((tR (Int.toNat x1.a))>mE))||(decide ((tR (Int.toNat x1.a))<(-2))))||((decide (x1.op=34))&&(decide ((tR (Int.toNat x1.a))<1)))) then some (Rs.bad 280) else(bif (decide (x1.op=35)) then Option.bind (f59 tR tP tX tD mI mH mO mE mN mS mU tA (tR (Int.toNat x1.a))) λk=>
 Rs.cs k (λm=>some (Rs.bad m)) (λf=>some (Rs.ok (f.1,f.2.1,f.2.2.1,f.2.2.2,tA))) else Option.bind (f56 tR tP tX tD mI mH mO mE mN mS mU tA (tR (Int.toNat x1.a))) λp=>
 Rs.cs p (λr=>some (Rs.bad r)) (λd=>some (Rs.ok (d.1,d.2.1,d.2.2.1,d.2.2.2.1,d.2.2.2.2)))))))
def f86(tR:Nat→Int)(tP:Int)(tX:Int)(tD:Int)(mI:lN)(mH:lH)(mO:lO)(mE:Int)(mN:lI)(mS:lL)(mU:lI)(tA:lA)(x1:aB):Option (Rs ((Nat→Int)×Int×Int×Int×lI×lI×lA)):=
 (bif (decide (x1.op=37)) then Option.bind (f131 tR tP tX tD mI mH mO mE mN mS mU tA) λp=>
 Rs.cs p (λr=>some (Rs.bad r)) (λc=>letk (λ(h:Int)=>
 aI (cq 48 tA [(Act.mk 0 0 (IntKind.u8.wrap x1.n) h 0 0)])<|
 some (Rs.ok (c.1,c.2.1,c.2.2.1,c.2.2.2,mN,mU,(tA++ [(Act.mk 0 0 (IntKind.u8.wrap x1.n) h 0 0)])))) λj=>
 (bif (decide ((IntKind.u8.wrap x1.n)=6)) then(j c.2.2.1) else(j x1.m))) else(bif (decide (x1.op=39)) then aI (bK 16 x1.a)<|
 Option.bind (f131 tR tP tX tD mI mH mO mE mN mS mU tA) λt=>
 Rs.cs t (λw=>some (Rs.bad w)) (λf=>aI (cq 8 mU [(tR (Int.toNat x1.a))])<|
 aI (cq 48 tA [(Act.mk 0 0 1 (tR (Int.toNat x1.a)) 0 0)])<|
 some (Rs.ok (f.1,f.2.1,f.2.2.1,f.2.2.2,mN,(mU++ [(tR (Int.toNat x1.a))]),(tA++ [(Act.mk 0 0 1 (tR (Int.toNat x1.a)) 0 0)])))) else(bif (decide ((List.length mN:Int)=0)) then Option.bind (f56 tR tP tX tD mI mH mO mE mN mS mU tA 4) λx=>
 Rs.cs x (λy=>some (Rs.bad y)) (λe=>some (Rs.ok (e.1,e.2.1,e.2.2.1,e.2.2.2.1,mN,mU,e.2.2.2.2))) else Option.bind (f131 tR tP tX tD mI mH mO mE mN mS mU tA) λA=>
 Rs.cs A (λB=>some (Rs.bad B)) (λg=>Option.bind (idx mN 0) λC=>
 aI (bK 16 x1.d)<|
 Option.bind (idx mN 0) λk=>
 aI (cq 48 tA [(Act.mk 0 0 2 k 0 0)])<|
 aI (dN mN 1 (List.length mN:Int))<|
 some (Rs.ok ((bW g.1 (Int.toNat x1.d) C),g.2.1,g.2.2.1,g.2.2.2,(cC mN 1 (List.length mN:Int)),mU,(tA++ [(Act.mk 0 0 2 k 0 0)])))))))
def f87(tR:Nat→Int)(tP:Int)(tX:Int)(tD:Int)(mI:lN)(mH:lH)(mO:lO)(mE:Int)(mN:lI)(mS:lL)(mU:lI)(tA:lA)(x1:aB):Option (Rs ((Nat→Int)×Int×Int×Int)):=
 letk (λ(g:Nat→Int)(f:Int)=>
 (bif ((decide (f<0))||(decide (f>1000000))) then some (Rs.bad 280) else Option.bind (f131 g tP tX f mI mH mO mE mN mS mU tA) λh=>
 Rs.cs h (λj=>some (Rs.bad j)) (λe=>some (Rs.ok (e.1,e.2.1,e.2.2.1,e.2.2.2))))) λc=>
 (bif (decide (x1.op=1)) then aI (bK 16 x1.d)<|
 (c (bW tR (Int.toNat x1.d) x1.n) tD) else(bif (decide (x1.op=2)) then aI (bK 16 x1.a)<|
 aI (bK 16 x1.d)<|
 (c (bW tR (Int.toNat x1.d) (tR (Int.toNat x1.a))) tD) else(bif (decide (x1.op=36)) then aI (bK 16 x1.d)<|
 (c (bW tR (Int.toNat x1.d) tX) tD) else(bif (decide (x1.op=40)) then(c tR (IntKind.i64.wrap (tD+1))) else(bif (decide (x1.op=41)) then(c tR (IntKind.i64.wrap (tD - 1))) else(c tR tD))))))
def f181(a0:Int)(b1:Int):Int:=
 (IntKind.i64.wrap (a0+b1))
def f182(a0:Int)(b1:Int):Int:=
 (IntKind.i64.wrap (a0 - b1))
def f183(a0:Int)(b1:Int):Int:=
 (IntKind.i64.wrap (a0*b1))
def f185(a0:Int)(b1:Int):Option Int:=
 aI (nz b1)<|
 some (IntKind.i64.wrap (Int.tdiv a0 b1))
def f186(a0:Int)(b1:Int):Option Int:=
 aI (nz b1)<|
 some (Int.tmod a0 b1)
def f187(a0:Int)(b1:Int):Option Int:=
 aI (nz b1)<|
 (bif ((decide ((Int.tmod a0 b1)=0))||(decide ((IntKind.i64.wrap (BitVec.ofInt IntKind.i64.bits (Int.tmod a0 b1)^^^BitVec.ofInt IntKind.i64.bits b1).toNat)≥0))) then some (Int.tmod a0 b1) else aI (nz b1)<|
 some (IntKind.i64.wrap ((Int.tmod a0 b1)+b1)))
def f217(a:Bool):Int:=
 (bif a then 1 else 0)
def f189(a0:Int)(b1:Int):Bool:=
 (decide (a0=b1))
def f190(a0:Int)(b1:Int):Bool:=
 (!decide (a0=b1))
def f191(a0:Int)(b1:Int):Bool:=
 (decide (a0<b1))
def f192(a0:Int)(b1:Int):Bool:=
 (decide (a0≤b1))
def f193(a0:Int)(b1:Int):Bool:=
 (decide (a0>b1))
def f194(a0:Int)(b1:Int):Bool:=
 (decide (a0≥b1))
def f195(a0:Int)(b1:Int):Int:=
 (IntKind.i64.wrap (BitVec.ofInt IntKind.i64.bits a0&&&BitVec.ofInt IntKind.i64.bits b1).toNat)
def f196(a0:Int)(b1:Int):Int:=
 (IntKind.i64.wrap (BitVec.ofInt IntKind.i64.bits a0|||BitVec.ofInt IntKind.i64.bits b1).toNat)
def f197(a0:Int)(b1:Int):Int:=
 (IntKind.i64.wrap (BitVec.ofInt IntKind.i64.bits a0^^^BitVec.ofInt IntKind.i64.bits b1).toNat)
def f198(a0:Int)(p1:Int):Int:=
 (IntKind.i64.wrap (0 - a0))
def f199(a0:Int)(p1:Int):Int:=
 (if(IntKind.i64.wrap (0 - a0))>a0 then(IntKind.i64.wrap (0 - a0)) else a0)
def f200(a0:Int)(p1:Int):Int:=
 (IntKind.i64.wrap (1 - a0))
def f132(a:Int)(a1:Int)(b2:Int):Option (Int×Bool):=
 (bif (decide (a=1)) then some ((IntKind.i64.wrap (a1+b2)),true) else(bif (decide (a=2)) then some ((IntKind.i64.wrap (a1 - b2)),true) else letk (λ(_:Unit)=>
 (bif decide (a=1) then letk (λ(_:Unit)=>
 some ((f181 a1 b2),true)) λf=>
 (f ()) else(bif decide (a=2) then letk (λ(_:Unit)=>
 some ((f182 a1 b2),true)) λg=>
 (g ()) else(bif decide (a=3) then letk (λ(_:Unit)=>
 some ((f183 a1 b2),true)) λh=>
 (h ()) else(bif decide (a=4) then letk (λ(j:Bool)(k:Int)=>
 some (k,j)) λc=>
 (bif (decide (b2=0)) then(c false 0) else Option.bind (f185 a1 b2) λm=>
 (c true m)) else(bif decide (a=5) then letk (λ(p:Bool)(r:Int)=>
 some (r,p)) λd=>
 (bif (decide (b2=0)) then(d false 0) else Option.bind (f186 a1 b2) λt=>
 (d true t)) else(bif decide (a=6) then letk (λ(w:Bool)(x:Int)=>
 some (x,w)) λe=>
 (bif (decide (b2=0)) then(e false 0) else Option.bind (f187 a1 b2) λy=>
 (e true y)) else(bif decide (a=7) then letk (λ(_:Unit)=>
 some ((f217 (f189 a1 b2)),true)) λA=>
 (A ()) else(bif decide (a=8) then letk (λ(_:Unit)=>
 some ((f217 (f190 a1 b2)),true)) λB=>
 (B ()) else(bif decide (a=9) then letk (λ(_:Unit)=>
 some ((f217 (f191 a1 b2)),true)) λC=>
 (C ()) else(bif decide (a=10) then letk (λ(_:Unit)=>
 some ((f217 (f192 a1 b2)),true)) λE=>
 (E ()) else(bif decide (a=11) then letk (λ(_:Unit)=>
 some ((f217 (f193 a1 b2)),true)) λF=>
 (F ()) else(bif decide (a=12) then letk (λ(_:Unit)=>
 some ((f217 (f194 a1 b2)),true)) λG=>
 (G ()) else(bif decide (a=13) then letk (λ(_:Unit)=>
 some ((f195 a1 b2),true)) λH=>
 (H ()) else(bif decide (a=14) then letk (λ(_:Unit)=>
 some ((f196 a1 b2),true)) λI=>
 (I ()) else(bif decide (a=15) then letk (λ(_:Unit)=>
 some ((f197 a1 b2),true)) λJ=>
 (J ()) else(bif decide (a=16) then letk (λ(_:Unit)=>
 some ((f198 a1 b2),true)) λK=>
 (K ()) else(bif decide (a=17) then letk (λ(_:Unit)=>
 some ((f199 a1 b2),true)) λL=>
 (L ()) else(bif decide (a=18) then letk (λ(_:Unit)=>
 some ((f200 a1 b2),true)) λM=>
 (M ()) else some (0,false)))))))))))))))))))) λN=>
 letk (λ(_:Unit)=>
 letk (λ(_:Unit)=>
 letk (λ(_:Unit)=>
 letk (λ(_:Unit)=>
 letk (λ(_:Unit)=>
 letk (λ(_:Unit)=>
 letk (λ(_:Unit)=>
 letk (λ(_:Unit)=>
 letk (λ(_:Unit)=>
 letk (λ(_:Unit)=>
 letk (λ(_:Unit)=>
 letk (λ(_:Unit)=>
 letk (λ(_:Unit)=>
 letk (λ(_:Unit)=>
 letk (λ(_:Unit)=>
 letk (λ(_:Unit)=>
 letk (λ(_:Unit)=>
 letk (λ(_:Unit)=>
 (N ())) λO=>
 (O ())) λP=>
 (P ())) λQ=>
 (Q ())) λR=>
 (R ())) λS=>
 (S ())) λT=>
 (T ())) λU=>
 (U ())) λV=>
 (V ())) λW=>
 (W ())) λX=>
 (X ())) λY=>
 (Y ())) λZ=>
 (Z ())) λad=>
 (ad ())) λag=>
 (ag ())) λax=>
 (ax ())) λa0=>
 (a0 ())) λa6=>
 (a6 ())) λa7=>
 (a7 ())))
def f88(tR:Nat→Int)(tP:Int)(tX:Int)(tD:Int)(mI:lN)(mH:lH)(mO:lO)(mE:Int)(mN:lI)(mS:lL)(mU:lI)(tA:lA)(x1:aB):Option (Rs ((Nat→Int)×Int×Int×Int)):=
 aI (bK 16 x1.a)<|
 aI (bK 16 x1.b)<|
 Option.bind (f132 (IntKind.u8.wrap (1+(IntKind.u8.wrap (x1.op - 9)))) (tR (Int.toNat x1.a)) (tR (Int.toNat x1.b))) λe=>
 (bif (!e.2) then some (Rs.bad 280) else aI (bK 16 x1.d)<|
 Option.bind (f131 (bW tR (Int.toNat x1.d) e.1) tP tX tD mI mH mO mE mN mS mU tA) λf=>
 Rs.cs f (λg=>some (Rs.bad g)) (λc=>some (Rs.ok (c.1,c.2.1,c.2.2.1,c.2.2.2))))
def f47(mI:lN)(mH:lH)(mO:lO)(mE:Int)(mN:lI)(mS:lL)(mU:lI):oB:=
 some (decide ((List.length mI:Int)=0))
def f46(tR:Nat→Int)(tP:Int)(tX:Int)(tD:Int)(mI:lN)(mH:lH)(mO:lO)(mE:Int)(mN:lI)(mS:lL)(mU:lI)(tA:lA)(o1:Int):Option Nat:=
 letk (λ(j:Bool)=>
 (bif j then some 81 else letk (λ(k:Bool)=>
 (bif k then some 82 else letk (λ(m:Bool)=>
 (bif m then some 83 else letk (λ(p:Bool)=>
 (bif p then some 84 else letk (λ(r:Bool)=>
 (bif r then some 85 else letk (λ(t:Bool)=>
 (bif t then some 86 else letk (λ(w:Bool)=>
 (bif w then some 87 else some 88)) λa=>
 (bif (decide (o1=1)) then(a (decide (o1=1))) else(bif (decide (o1=2)) then(a (decide (o1=2))) else(bif (decide (o1=36)) then(a (decide (o1=36))) else(bif (decide (o1=40)) then(a (decide (o1=40))) else(a (decide (o1=41))))))))) λd=>
 (bif (decide (o1=37)) then(d (decide (o1=37))) else(bif (decide (o1=38)) then(d (decide (o1=38))) else(d (decide (o1=39))))))) λe=>
 (bif (decide (o1=33)) then(e (decide (o1=33))) else(bif (decide (o1=34)) then(e (decide (o1=34))) else(e (decide (o1=35))))))) λh=>
 (bif (decide (o1=27)) then(h (decide (o1=27))) else(h (decide (o1=28)))))) λc=>
 (bif (decide (o1=29)) then(c (decide (o1=29))) else(bif (decide (o1=30)) then(c (decide (o1=30))) else(bif (decide (o1=31)) then(c (decide (o1=31))) else(c (decide (o1=32)))))))) λf=>
 (bif (decide (o1=4)) then(f (decide (o1=4))) else(bif (decide (o1=6)) then(f (decide (o1=6))) else(f (decide (o1=8))))))) λg=>
 (bif (decide (o1=3)) then(g (decide (o1=3))) else(bif (decide (o1=5)) then(g (decide (o1=5))) else(g (decide (o1=7)))))
def fm(n:Nat)(tR:Nat→Int)(tP:Int)(tX:Int)(tD:Int)(mI:lN)(mH:lH)(mO:lO)(mE:Int)(mN:lI)(mS:lL)(mU:lI)(tA:lA)(x:aB):Option (Rs ((Nat→Int)×Int×Int×Int×lI×lL×lI×lA)):=
 bif Nat.beq n 81 then Option.bind (f81 tR tP tX tD mI mH mO mE mN mS mU tA x) λr=>some (Rs.cs r (λe=>Rs.bad e) λz=>Rs.ok (z.1,z.2.1,z.2.2.1,z.2.2.2,mN,mS,mU,tA)) else
 bif Nat.beq n 82 then Option.bind (f82 tR tP tX tD mI mH mO mE mN mS mU tA x) λr=>some (Rs.cs r (λe=>Rs.bad e) λz=>Rs.ok (z.1,z.2.1,z.2.2.1,z.2.2.2.1,mN,z.2.2.2.2,mU,tA)) else
 bif Nat.beq n 83 then Option.bind (f83 tR tP tX tD mI mH mO mE mN mS mU tA x) λr=>some (Rs.cs r (λe=>Rs.bad e) λz=>Rs.ok (z.1,z.2.1,z.2.2.1,z.2.2.2,mN,mS,mU,tA)) else
 bif Nat.beq n 84 then Option.bind (f84 tR tP tX tD mI mH mO mE mN mS mU tA x) λr=>some (Rs.cs r (λe=>Rs.bad e) λz=>Rs.ok (z.1,z.2.1,z.2.2.1,z.2.2.2.1,mN,mS,mU,z.2.2.2.2)) else
 bif Nat.beq n 85 then Option.bind (f85 tR tP tX tD mI mH mO mE mN mS mU tA x) λr=>some (Rs.cs r (λe=>Rs.bad e) λz=>Rs.ok (z.1,z.2.1,z.2.2.1,z.2.2.2.1,mN,mS,mU,z.2.2.2.2)) else
 bif Nat.beq n 86 then Option.bind (f86 tR tP tX tD mI mH mO mE mN mS mU tA x) λr=>some (Rs.cs r (λe=>Rs.bad e) λz=>Rs.ok (z.1,z.2.1,z.2.2.1,z.2.2.2.1,z.2.2.2.2.1,mS,z.2.2.2.2.2.1,z.2.2.2.2.2.2)) else
 bif Nat.beq n 87 then Option.bind (f87 tR tP tX tD mI mH mO mE mN mS mU tA x) λr=>some (Rs.cs r (λe=>Rs.bad e) λz=>Rs.ok (z.1,z.2.1,z.2.2.1,z.2.2.2,mN,mS,mU,tA)) else
 bif Nat.beq n 88 then Option.bind (f88 tR tP tX tD mI mH mO mE mN mS mU tA x) λr=>some (Rs.cs r (λe=>Rs.bad e) λz=>Rs.ok (z.1,z.2.1,z.2.2.1,z.2.2.2,mN,mS,mU,tA)) else
 none
def f45(tR:Nat→Int)(tP:Int)(tX:Int)(tD:Int)(mI:lN)(mH:lH)(mO:lO)(mE:Int)(mN:lI)(mS:lL)(mU:lI)(tA:lA):Option (Rs ((Nat→Int)×Int×Int×Int×lI×lL×lI×lA)):=
 Option.bind (idx mI tP) λc=>
 (bif (!(f36 c.op)) then some (Rs.bad 8) else Option.bind (f46 tR tP tX tD mI mH mO mE mN mS mU tA c.op) λd=>
 Option.bind (fm d tR tP tX tD mI mH mO mE mN mS mU tA c) λe=>
 Rs.cs e (λe36=>some (Rs.bad e36)) (λa=>some (Rs.ok (a.1,a.2.1,a.2.2.1,a.2.2.2.1,a.2.2.2.2.1,a.2.2.2.2.2.1,a.2.2.2.2.2.2.1,a.2.2.2.2.2.2.2))))
def f55(tR:Nat→Int)(tP:Int)(tX:Int)(tD:Int)(mI:lN)(mH:lH)(mO:lO)(mE:Int)(mN:lI)(mS:lL)(mU:lI)(tA:lA)(a:Int):Option (Rs ((Nat→Int)×Int×Int×Int×lA)):=
 Option.bind (f56 tR tP tX tD mI mH mO mE mN mS mU tA a) λr8=>
 Rs.cs r8 (λc=>some (Rs.bad c)) (λz9=>some (Rs.ok (z9.1,z9.2.1,z9.2.2.1,z9.2.2.2.1,z9.2.2.2.2)))
def f58(tR:Nat→Int)(tP:Int)(tX:Int)(tD:Int)(mI:lN)(mH:lH)(mO:lO)(mE:Int)(mN:lI)(mS:lL)(mU:lI)(tA:lA)(a:Int):Option (Rs ((Nat→Int)×Int×Int×Int)):=
 Option.bind (f59 tR tP tX tD mI mH mO mE mN mS mU tA a) λr8=>
 Rs.cs r8 (λc=>some (Rs.bad c)) (λz9=>some (Rs.ok (z9.1,z9.2.1,z9.2.2.1,z9.2.2.2)))
def f44_45(mI:lN)(mH:lH)(mO:lO)(mE:Int)(mN:lI)(mS:lL)(mU:lI)(r1:aq)(c:Bool):Option (aq×lA×Int×lI×lL×lI):=
 Option.bind (f47 mI mH mO mE mN mS mU) λd=>
 (bif d then some ((aq.mk (λj=>0) 0 0 0),[],1,mN,mS,mU) else(bif (((((((decide (r1.pc<0))||(decide (r1.pc≥(List.length mI:Int))))||(decide (r1.exc<(-2))))||(decide (r1.exc>mE)))||(decide (r1.defer<0)))||(decide (r1.defer>1000000)))||(!c)) then some ((aq.mk (λj=>0) 0 0 0),[],2,mN,mS,mU) else Option.bind (f45 r1.r r1.pc r1.exc r1.defer mI mH mO mE mN mS mU ([]:lA)) λe=>
 Rs.cs e (λf=>some ((aq.mk (λj=>0) 0 0 0),[],f,mN,mS,mU)) (λa=>some ((aq.mk a.1 a.2.1 a.2.2.1 a.2.2.2.1),a.2.2.2.2.2.2.2,0,a.2.2.2.2.1,a.2.2.2.2.2.1,a.2.2.2.2.2.2.1))))
def f44_55(mI:lN)(mH:lH)(mO:lO)(mE:Int)(mN:lI)(mS:lL)(mU:lI)(r1:aq)(c:Bool)(xn:Int):Option (aq×lA×Int):=
 Option.bind (f47 mI mH mO mE mN mS mU) λd=>
 (bif d then some ((aq.mk (λj=>0) 0 0 0),[],1) else(bif (((((((decide (r1.pc<0))||(decide (r1.pc≥(List.length mI:Int))))||(decide (r1.exc<(-2))))||(decide (r1.exc>mE)))||(decide (r1.defer<0)))||(decide (r1.defer>1000000)))||(!c)) then some ((aq.mk (λj=>0) 0 0 0),[],2) else Option.bind (f55 r1.r r1.pc r1.exc r1.defer mI mH mO mE mN mS mU ([]:lA) xn) λe=>
 Rs.cs e (λf=>some ((aq.mk (λj=>0) 0 0 0),[],f)) (λa=>some ((aq.mk a.1 a.2.1 a.2.2.1 a.2.2.2.1),a.2.2.2.2,0))))
def f44_58(mI:lN)(mH:lH)(mO:lO)(mE:Int)(mN:lI)(mS:lL)(mU:lI)(r1:aq)(c:Bool)(xn:Int):Option (aq×lA×Int):=
 Option.bind (f47 mI mH mO mE mN mS mU) λd=>
 (bif d then some ((aq.mk (λj=>0) 0 0 0),[],1) else(bif (((((((decide (r1.pc<0))||(decide (r1.pc≥(List.length mI:Int))))||(decide (r1.exc<(-2))))||(decide (r1.exc>mE)))||(decide (r1.defer<0)))||(decide (r1.defer>1000000)))||(!c)) then some ((aq.mk (λj=>0) 0 0 0),[],2) else Option.bind (f58 r1.r r1.pc r1.exc r1.defer mI mH mO mE mN mS mU ([]:lA) xn) λe=>
 Rs.cs e (λf=>some ((aq.mk (λj=>0) 0 0 0),[],f)) (λa=>some ((aq.mk a.1 a.2.1 a.2.2.1 a.2.2.2),([]:lA),0))))
def f11(mI:lN)(mH:lH)(mO:lO)(mE:Int)(mN:lI)(mS:lL)(mU:lI)(r1:aq):Option (aq×lA×Int×lI×lL×lI):=
 Option.bind (f44_45 mI mH mO mE mN mS mU r1 true) λa=>
 some (a.1,a.2.1,a.2.2.1,a.2.2.2.1,a.2.2.2.2.1,a.2.2.2.2.2)
def f20(mI:lN)(mH:lH)(mO:lO)(mE:Int)(mN:lI)(mS:lL)(mU:lI)(r1:aq)(n2:Int):Option (aq×lA×Int):=
 letk (λ(f:lA)(g:Int)(h:Nat→Int)(j:Int)(k:Int)(m:Int)=>
 some ((aq.mk h j k m),f,g)) λe=>
 (bif (decide (n2≥1)) then Option.bind (f47 mI mH mO mE mN mS mU) λp=>
 (bif (!p) then Option.bind (f44_55 mI mH mO mE mN mS mU r1 (decide (n2≤mE)) n2) λa=>
 (e a.2.1 a.2.2 a.1.r a.1.pc a.1.exc a.1.defer) else Option.bind (f44_55 mI mH mO mE mN mS mU r1 false n2) λc=>
 (e c.2.1 c.2.2 c.1.r c.1.pc c.1.exc c.1.defer)) else Option.bind (f44_55 mI mH mO mE mN mS mU r1 false n2) λd=>
 (e d.2.1 d.2.2 d.1.r d.1.pc d.1.exc d.1.defer))
def f22(mI:lN)(mH:lH)(mO:lO)(mE:Int)(mN:lI)(mS:lL)(mU:lI)(r1:aq)(c2:Int):Option (aq×Int):=
 letk (λ(g:Int)(h:Nat→Int)(j:Int)(k:Int)(m:Int)=>
 some ((aq.mk h j k m),g)) λf=>
 (bif (decide (c2≥(-2))) then(bif (!decide (c2=0)) then Option.bind (f47 mI mH mO mE mN mS mU) λp=>
 (bif (!p) then Option.bind (f44_58 mI mH mO mE mN mS mU r1 (decide (c2≤mE)) c2) λa=>
 (f a.2.2 a.1.r a.1.pc a.1.exc a.1.defer) else Option.bind (f44_58 mI mH mO mE mN mS mU r1 false c2) λc=>
 (f c.2.2 c.1.r c.1.pc c.1.exc c.1.defer)) else Option.bind (f44_58 mI mH mO mE mN mS mU r1 false c2) λd=>
 (f d.2.2 d.1.r d.1.pc d.1.exc d.1.defer)) else Option.bind (f44_58 mI mH mO mE mN mS mU r1 false c2) λe=>
 (f e.2.2 e.1.r e.1.pc e.1.exc e.1.defer))
def f24(mI:lN)(mH:lH)(mO:lO)(mE:Int)(mN:lI)(mS:lL)(mU:lI)(o1:Int)(k2:Int):Option (Int×Int):=
 Option.bind (f47 mI mH mO mE mN mS mU) λa=>
 (bif a then some (0,1) else letk (λ(_:Unit)=>
 some (0,4)) λc=>
 letk (λ(_:Unit)=>
 Option.bind (idx mS o1) λd=>
 Option.bind (idx d k2) λe=>
 some (e,0)) λf=>
 Option.bind (bif (((decide (o1<0))||(decide (o1≥(List.length mS:Int))))||(decide (k2<0))) then some true else(Option.bind (idx mS o1) λg=>some (decide (k2≥(List.length g:Int))))) λh=>
 (bif h then(c ()) else Option.bind (idx mS o1) λj=>
 Option.bind (idx j k2) λk=>
 (f ())))
def f26(mI:lN)(mH:lH)(mO:lO)(mE:Int)(mN:lI)(mS:lL)(mU:lI)(o1:Int)(k2:Int)(v3:Int):Option (Int×lL):=
 Option.bind (f47 mI mH mO mE mN mS mU) λc=>
 (bif c then some (1,mS) else letk (λ(_:Unit)=>
 some (4,mS)) λd=>
 letk (λ(_:Unit)=>
 Option.bind (idx mO o1) λe=>
 Option.bind (f63 e v3) λf=>
 (bif (!f) then some (280,mS) else Option.bind (idx mS o1) λa=>
 Option.bind (idx a k2) λm=>
 some (0,(List.set mS (Int.toNat o1) (List.set a (Int.toNat k2) v3))))) λg=>
 Option.bind (bif (((decide (o1<0))||(decide (o1≥(List.length mS:Int))))||(decide (k2<0))) then some true else(Option.bind (idx mS o1) λh=>some (decide (k2≥(List.length h:Int))))) λj=>
 (bif j then(d ()) else Option.bind (idx mS o1) λk=>
 Option.bind (idx k k2) λp=>
 (g ())))
def f42(s0:lI):Option lI:=aI (cq 8 [] s0) (some s0)
def f42c(s0:lI):Option lI:=aI (cq 8 [] s0) (some s0)
def f42m(s0:lL)(j0:Int):Option lI:=Option.bind (idx s0 j0) λM=>aI (cq 8 [] M) (some M)
def f28_l1(mS:lL)(d:lL→Option lL):Nat→Int→lL→Option lL
 |0,_,_=>none
 |n+1,a,c=>
 (bif (decide (a<(List.length mS:Int))) then Option.bind (idx mS a) λf=>
 Option.bind (f42m mS a) λe=>
 Option.bind (idx c a) λg=>
 (f28_l1 mS d n (IntKind.i64.wrap (a+1)) (List.set c (Int.toNat a) e)) else(d c))
def f28(mI:lN)(mH:lH)(mO:lO)(mE:Int)(mN:lI)(mS:lL)(mU:lI):Option lL:=
 Option.bind (f47 mI mH mO mE mN mS mU) λa=>
 (bif a then some [] else aI (m9 24 (List.length mS:Int))<|
 letk (λ(c:lL)=>
 some c) λd=>
 (f28_l1 mS d (Int.toNat ((List.length mS:Int) - 0)+1) 0 (List.replicate (Int.toNat (List.length mS:Int)) ([]:lI))))
def f13(mI:lN)(mH:lH)(mO:lO)(mE:Int)(mN:lI)(mS:lL)(mU:lI):Option lI:=
 Option.bind (f47 mI mH mO mE mN mS mU) λa=>
 (bif a then some [] else Option.bind (f42 mN) λc=>
 some c)
def f15(mI:lN)(mH:lH)(mO:lO)(mE:Int)(mN:lI)(mS:lL)(mU:lI):Option lI:=
 Option.bind (f47 mI mH mO mE mN mS mU) λa=>
 (bif a then some [] else Option.bind (f42c mU) λc=>
 some c)
def f158_l1(s0:lI)(c:Int→oB)(d:Unit→Option (Int)):Nat→Int→Option (Int)
 |0,_=>none
 |n+1,a=>
 (bif (decide (a<(List.length s0:Int))) then Option.bind (idx s0 a) λe=>
 Option.bind (c e) λf=>
 (bif f then some a else(f158_l1 s0 c d n (IntKind.i64.wrap (a+1)))) else(d ()))
def f158(s0:lI)(a:Int→oB):Option Int:=
 letk (λ(_:Unit)=>
 some (-1)) λc=>
 (f158_l1 s0 a c (Int.toNat ((List.length s0:Int) - 0)+1) 0)
def f128(s0:lI)(a:Int→oB):oB:=
 Option.bind (f158 s0 a) λc=>
 some (decide (c≥0))
def f129(n0:Int)(a:Int):Bool:=
 (decide ((IntKind.i64.wrap (n0+1))=a))
def f79(o0:Obj)(v1:Int):oB:=
 (bif o0.ptr then Option.bind (bif (decide (v1=0)) then some true else(Option.bind (f128 o0.set_ (λz0=>some (f129 z0 v1))) λa=>some a)) λc=>
 some c else some ((decide (v1≥o0.lo))&&(decide (v1≤o0.hi))))
def f110_l1(t0:bN)(o1:Obj)(d:Unit→oB):Nat→Int→Int→oB
 |0,_,_=>none
 |n+1,e,c=>
 (bif (decide (c<(List.length o1.set_:Int))) then Option.bind (idx o1.set_ c) λa=>
 Option.bind (bif ((decide (a≤e))||(decide (a≥(List.length t0.text.objs:Int)))) then some true else(Option.bind (idx t0.text.objs a) λf=>some (!decide (f.size=1)))) λg=>
 Option.bind (bif g then some true else(Option.bind (idx t0.text.objs a) λh=>some h.ptr)) λj=>
 (bif j then some false else(f110_l1 t0 o1 d n a (IntKind.i64.wrap (c+1)))) else(d ()))
def f110(t0:bN)(o1:Obj):oB:=
 (bif (((decide (o1.size<1))||(decide (o1.size>16384)))||(decide (o1.lo>o1.hi))) then some false else(bif (!o1.ptr) then some (decide ((List.length o1.set_:Int)=0)) else letk (λ(_:Unit)=>
 some ((decide (o1.lo=0))&&(decide (o1.hi=0)))) λa=>
 (f110_l1 t0 o1 a (Int.toNat ((List.length o1.set_:Int) - 0)+1) (-1) 0)))
def f111(t0:bN)(o1:Int)(a:Int)(c:Int):oB:=
 Option.bind (bif (((decide (o1≥0))&&(decide (o1<(List.length t0.text.objs:Int))))&&(decide (a≥0))) then(Option.bind (idx t0.text.objs o1) λd=>some (decide (a≤(IntKind.i64.wrap (d.size - c))))) else some false) λe=>
 some e
def f68_l1(t0:bN)(c:Int→oB):Nat→Int→Int→oB
 |0,_,_=>none
 |n+1,d,a=>
 (bif (decide (a<(List.length t0.text.objs:Int))) then Option.bind (idx t0.text.objs a) λe=>
 Option.bind (f110 t0 e) λf=>
 (bif (!f) then some false else(f68_l1 t0 c n (IntKind.i64.wrap (d+e.size)) (IntKind.i64.wrap (a+1)))) else(c d))
def f68_l2(t0:bN)(e:(List ((Int×Int)×Bool))→oB):Nat→Int→(List ((Int×Int)×Bool))→oB
 |0,_,_=>none
 |n+1,c,d=>
 (bif (decide (c<(List.length t0.text.inits:Int))) then Option.bind (idx t0.text.inits c) λa=>
 Option.bind (bif (Option.getD (cM d (a.o,a.slot)) false) then some true else(Option.bind (f111 t0 a.o a.slot 1) λf=>some (!f))) λg=>
 Option.bind (bif g then some true else(Option.bind (idx t0.text.objs a.o) λh=>Option.bind (f79 h a.v) λj=>some (!j))) λk=>
 (bif k then some false else(f68_l2 t0 e n (IntKind.i64.wrap (c+1)) (co d (a.o,a.slot) true))) else(e d))
def f68(t0:bN):oB:=
 (bif (((decide ((List.length t0.text.objs:Int)>4096))||(decide (t0.text.excs<4)))||(decide (t0.text.excs>64))) then some false else letk (λ(a:Int)=>
 letk (λ(e:List ((Int×Int)×Bool))=>
 some (decide (a≤65536))) λc=>
 (f68_l2 t0 c (Int.toNat ((List.length t0.text.inits:Int) - 0)+1) 0 ([]:List ((Int×Int)×Bool)))) λd=>
 (f68_l1 t0 d (Int.toNat ((List.length t0.text.objs:Int) - 0)+1) 0 0))
def f112(t0:bN)(a1:Int):Bool:=
 ((decide (a1≥0))&&(decide (a1<(List.length t0.text.insns:Int))))
def f149_l1(s0:List cr)(c:cr→oB)(d:Unit→Option (Int)):Nat→Int→Option (Int)
 |0,_=>none
 |n+1,a=>
 (bif (decide (a<(List.length s0:Int))) then Option.bind (idx s0 a) λe=>
 Option.bind (c e) λf=>
 (bif f then some a else(f149_l1 s0 c d n (IntKind.i64.wrap (a+1)))) else(d ()))
def f149(s0:List cr)(a:cr→oB):Option Int:=
 letk (λ(_:Unit)=>
 some (-1)) λc=>
 (f149_l1 s0 a c (Int.toNat ((List.length s0:Int) - 0)+1) 0)
def f113(s0:List cr)(a:cr→oB):oB:=
 Option.bind (f149 s0 a) λc=>
 some (decide (c≥0))
def f150(o0:Int)(a:bN):oB:=
 Option.bind (bif ((decide (o0<0))||(decide (o0≥(List.length a.text.objs:Int)))) then some true else(Option.bind (idx a.text.objs o0) λc=>some (!decide (c.size=1)))) λd=>
 some d
def f115(t0:bN)(l1:lI):oB:=
 Option.bind (bif (decide ((List.length l1:Int)≤8)) then(Option.bind (f128 l1 λz0=>f150 z0 t0) λa=>some (!a)) else some false) λc=>
 some c
def f114(e0:cr)(a:bN):oB:=
 Option.bind (f115 a e0.ins) λc=>
 Option.bind (bif (!c) then some true else(Option.bind (f115 a e0.outs) λd=>some (!d))) λe=>
 some e
def f69_l1(t0:bN)(d:Unit→oB):Nat→Int→oB
 |0,_=>none
 |n+1,c=>
 (bif (decide (c<(List.length t0.text.tasks:Int))) then Option.bind (idx t0.text.tasks c) λa=>
 (bif ((((((decide (a.prio<0))||(decide (a.prio>31)))||(!(f112 t0 a.at_)))||(decide (a.deadline<0)))||(decide (a.deadline>2147483647)))||(decide ((List.length a.entries:Int)>8))) then some false else Option.bind (f113 a.entries λz0=>f114 z0 t0) λe=>
 (bif e then some false else(f69_l1 t0 d n (IntKind.i64.wrap (c+1))))) else(d ()))
def f69(t0:bN):oB:=
 (bif ((decide ((List.length t0.text.tasks:Int)<1))||(decide ((List.length t0.text.tasks:Int)>32))) then some false else letk (λ(_:Unit)=>
 some true) λa=>
 (f69_l1 t0 a (Int.toNat ((List.length t0.text.tasks:Int) - 0)+1) 0))
def f70_l2(t0:bN)(c:lI)(f:(List (Int×Bool))→oB):Nat→Int→(List (Int×Bool))→oB
 |0,_,_=>none
 |na+1,d,e=>
 (bif (decide (d<(List.length c:Int))) then Option.bind (idx c d) λa=>
 (bif (((decide (a<1))||(decide (a≥(List.length t0.text.tasks:Int))))||(Option.getD (cM e a) false)) then some false else(f70_l2 t0 c f na (IntKind.i64.wrap (d+1)) (co e a true))) else(f e))
def f70_l1(t0:bN)(d:Unit→oB):Nat→Int→oB
 |0,_=>none
 |n+1,a=>
 (bif (decide (a<(List.length t0.text.lists:Int))) then letk (λ(h:List (Int×Bool))=>
 (f70_l1 t0 d n (IntKind.i64.wrap (a+1)))) λe=>
 Option.bind (idx t0.text.lists a) λc=>
 letk (λ(f:List (Int×Bool))=>
 (bif (decide ((List.length c:Int)>32)) then some false else(e f))) λg=>
 (f70_l2 t0 c g (Int.toNat ((List.length c:Int) - 0)+1) 0 ([]:List (Int×Bool))) else(d ()))
def f70(t0:bN):oB:=
 (bif (decide ((List.length t0.text.lists:Int)>4096)) then some false else letk (λ(_:Unit)=>
 some true) λa=>
 (f70_l1 t0 a (Int.toNat ((List.length t0.text.lists:Int) - 0)+1) 0))
def f116s_l1(d:lN→lH→lP→lS→lL→lO→lT→Int→lK→lM→lC→Int→Int→aW→Int→Option (Bool×lN×lH×lP×lS×lL×lO×lT×Int×lK×lM×lC×Int×Int))(e1:aW)(e:Int)(f:Int→lN→lH→lP→lS→lL→lO→lT→Int→lK→lM→lC→Int→Int→Option (Bool×lN×lH×lP×lS×lL×lO×lT×Int×lK×lM×lC×Int×Int))(g:lN→lH→lP→lS→lL→lO→lT→Int→lK→lM→lC→Int→Int→Option (Bool×lN×lH×lP×lS×lL×lO×lT×Int×lK×lM×lC×Int×Int)):Nat→Int→lN→lH→lP→lS→lL→lO→lT→Int→lK→lM→lC→Int→Int→Option (Bool×lN×lH×lP×lS×lL×lO×lT×Int×lK×lM×lC×Int×Int)
 |0,_,_,_,_,_,_,_,_,_,_,_,_,_,_=>none
 |n+1,c,h,j,k,m,p,r,t,w,x,y,A,B,C=>
 (bif (decide (c<(List.length e1.l:Int))) then Option.bind (idx e1.l c) λR=>
 letk (λ(S:Bool)(E:lN)(F:lH)(G:lP)(H:lS)(I:lL)(J:lO)(K:lT)(L:Int)(M:lK)(N:lM)(O:lC)(P:Int)(Q:Int)=>
 (bif S then(f c E F G H I J K L M N O P Q) else(f116s_l1 d e1 e f g n (IntKind.i64.wrap (c+1)) E F G H I J K L M N O P Q))) λT=>
 Option.bind (d h j k m p r t w x y A B C R (IntKind.i64.wrap (e+1))) λa=>
 (T (!a.1) a.2.1 a.2.2.1 a.2.2.2.1 a.2.2.2.2.1 a.2.2.2.2.2.1 a.2.2.2.2.2.2.1 a.2.2.2.2.2.2.2.1 a.2.2.2.2.2.2.2.2.1 a.2.2.2.2.2.2.2.2.2.1 a.2.2.2.2.2.2.2.2.2.2.1 a.2.2.2.2.2.2.2.2.2.2.2.1 a.2.2.2.2.2.2.2.2.2.2.2.2.1 a.2.2.2.2.2.2.2.2.2.2.2.2.2) else(g h j k m p r t w x y A B C))
def f116s(H:lN→lH→lP→lS→lL→lO→lT→Int→lK→lM→lC→Int→Int→aW→Int→Option (Bool×lN×lH×lP×lS×lL×lO×lT×Int×lK×lM×lC×Int×Int))(f:lN)(g:lH)(h:lP)(j:lS)(k:lL)(c:lO)(m:lT)(p:Int)(r:lK)(t:lM)(w:lC)(jent:Int)(jleft:Int)(e1:aW)(x:Int):Option (Bool×lN×lH×lP×lS×lL×lO×lT×Int×lK×lM×lC×Int×Int):=
 letk (λ(I:Bool)(J:Int)(d:aW)(cx:Int)(c0:Int)(c1:Int)(c2:Int)=>
 (bif (((((((((((decide ((IntKind.i64.wrap (jleft - 1))<0))||(decide (x>64)))||(!I))||(!decide ((List.length e1.l:Int)=J)))||(!decide (e1.op=d.op)))||(!decide (e1.n=d.n)))||(!decide (e1.o=d.o)))||(!decide (e1.off=d.off)))||(!decide (e1.len=0)))||(!decide (e1.lo=0)))||(!decide (e1.hi=0))) then some (false,f,g,h,j,k,c,m,p,r,t,w,jent,(IntKind.i64.wrap (jleft - 1))) else letk (λ(K:Bool)(L:lN)(M:lH)(N:lP)(O:lS)(P:lL)(Q:lO)(R:lT)(S:Int)(T:lK)(U:lM)(V:lC)(W:Int)(X:Int)=>
 some ((!K),L,M,N,O,P,Q,R,S,T,U,V,W,X)) λY=>
 letk (λ(Z:Int)(ad:lN)(ag:lH)(ax:lP)(a0:lS)(a1:lL)(a6:lO)(a7:lT)(a8:Int)(a':lK)(bb:lM)(bk:lC)(bo:Int)(bs:Int)=>
 (Y (decide (Z≥0)) ad ag ax a0 a1 a6 a7 a8 a' bb bk bo bs)) λy=>
 letk (λ(b0:lN)(b1:lH)(b2:lP)(b3:lS)(b4:lL)(b5:lO)(b6:lT)(b7:Int)(b8:lK)(b9:lM)(b':lC)(ca:Int)(cb:Int)=>
 (y (-1) b0 b1 b2 b3 b4 b5 b6 b7 b8 b9 b' ca cb)) λcc=>
 (f116s_l1 H e1 x y cc (Int.toNat ((List.length e1.l:Int) - 0)+1) 0 f g h j k c m p r t w jent (IntKind.i64.wrap (jleft - 1))))) λe=>
 letk (λ(cd:Int)(A:Int)(B:Int)(C:Int)(E:Int)=>
 (e true cd (aW.mk e1.kind A B C E 0 0 0 []) A B C E)) λa=>
 (bif (decide (e1.kind=1)) then(a 0 0 e1.n 0 0) else(bif (decide (e1.kind=2)) then Option.bind (f111 (bN.mk (aj.mk f g h j k c m p r t w)) e1.o e1.off 1) λci=>
 Option.bind (bif (!ci) then some true else(Option.bind (idx c e1.o) λcj=>some cj.ptr)) λcl=>
 (bif cl then(e false 0 (aW.mk e1.kind 0 0 0 0 0 0 0 []) 0 0 0 0) else(a 0 0 0 e1.o e1.off)) else(bif (decide (e1.kind=14)) then letk (λ(cn:Bool)=>
 (e cn 0 (aW.mk e1.kind 0 e1.n 0 0 0 0 0 []) 0 e1.n 0 0)) λF=>
 (bif (decide (e1.n≥0)) then(F (decide (e1.n<jent))) else(F false)) else(bif (decide (e1.kind=4)) then(a 1 18 0 0 0) else(bif (decide (e1.kind=5)) then(a 2 (if(if 15<e1.op then 15 else e1.op)>7 then(if 15<e1.op then 15 else e1.op) else 7) 0 0 0) else letk (λ(cp:Bool)=>
 (bif cp then(a 2 0 0 0 0) else(e false 0 (aW.mk e1.kind 0 0 0 0 0 0 0 []) 0 0 0 0))) λG=>
 (bif (decide (e1.kind=6)) then(G (decide (e1.kind=6))) else(G (decide (e1.kind=7)))))))))
def f116:Nat→lN→lH→lP→lS→lL→lO→lT→Int→lK→lM→lC→Int→Int→aW→Int→Option (Bool×lN×lH×lP×lS×lL×lO×lT×Int×lK×lM×lC×Int×Int)
 |0=>λ_ _ _ _ _ _ _ _ _ _ _ _ _ _ _=>none
 |n+1=>f116s (f116 n)
def f71_l2(t0:bN)(d:Int→(List aW)→oB)(a:eJ):Nat→Int→oB
 |0,_=>none
 |na+1,c=>
 (bif (decide (c<(List.length a.barriers:Int))) then Option.bind (idx a.barriers c) λe=>
 Option.bind (f116 66 t0.text.insns t0.text.handlers t0.text.loops t0.text.selects t0.text.lists t0.text.objs t0.text.inits t0.text.excs t0.text.tasks t0.text.prots t0.text.checks (List.length a.barriers:Int) 256 e 1) λf=>
 (bif (!f.1) then some false else(f71_l2 t0 d a na (IntKind.i64.wrap (c+1)))) else(d a.ceiling a.barriers))
def f71_l1(t0:bN)(d:Unit→oB):Nat→Int→oB
 |0,_=>none
 |n+1,c=>
 (bif (decide (c<(List.length t0.text.prots:Int))) then letk (λ(f:Int)(g:List aW)=>
 (f71_l1 t0 d n (IntKind.i64.wrap (c+1)))) λe=>
 Option.bind (idx t0.text.prots c) λa=>
 (bif (((decide (a.ceiling<0))||(decide (a.ceiling>31)))||(decide ((List.length a.barriers:Int)>8))) then some false else(f71_l2 t0 e a (Int.toNat ((List.length a.barriers:Int) - 0)+1) 0)) else(d ()))
def f71(t0:bN):oB:=
 letk (λ(_:Unit)=>
 some (decide ((List.length t0.text.prots:Int)≤32))) λa=>
 (f71_l1 t0 a (Int.toNat ((List.length t0.text.prots:Int) - 0)+1) 0)
def f155(n0:Int)(a:bN)(c:Int):oB:=
 Option.bind (f111 a c n0 1) λd=>
 some d
def f119(t0:bN)(a:Int)(a2:ju):oB:=
 Option.bind (bif (!(f112 t0 a2.at_)) then some true else(Option.bind (bif (!decide (a2.guard=(-1))) then(Option.bind (f155 a2.guard t0 a) λd=>some (!d)) else some false) λe=>some e)) λf=>
 (bif f then some false else(bif (decide (a2.kind=1)) then some (((decide (a2.entry≥0))&&(decide (a2.entry<8)))&&(decide (a2.time=0))) else letk (λ(g:Bool)=>
 (bif g then Option.bind (bif (decide (a2.entry=0)) then(Option.bind (f155 a2.time t0 a) λh=>some h) else some false) λj=>
 some j else some ((decide (a2.kind=4))&&(decide ((IntKind.i64.wrap (BitVec.ofInt IntKind.i64.bits a2.entry|||BitVec.ofInt IntKind.i64.bits a2.time).toNat)=0))))) λc=>
 (bif (decide (a2.kind=2)) then(c (decide (a2.kind=2))) else(c (decide (a2.kind=3))))))
def f72_l2(t0:bN)(a:dJ)(d:Int→oB)(e:Unit→oB):Nat→Int→oB
 |0,_=>none
 |na+1,c=>
 (bif (decide (c<(List.length a.alts:Int))) then Option.bind (idx a.alts c) λf=>
 letk (λ(g:Bool)=>
 (bif g then(d c) else(f72_l2 t0 a d e na (IntKind.i64.wrap (c+1))))) λh=>
 Option.bind (f119 t0 a.obj f) λj=>
 (h (!j)) else(e ()))
def f72_l1(t0:bN)(d:Unit→oB):Nat→Int→oB
 |0,_=>none
 |n+1,c=>
 (bif (decide (c<(List.length t0.text.selects:Int))) then Option.bind (idx t0.text.selects c) λa=>
 (bif (((((decide ((List.length a.alts:Int)<1))||(decide ((List.length a.alts:Int)>16)))||(decide (a.obj<0)))||(decide (a.obj≥(List.length t0.text.objs:Int))))||((!decide (a.else_=(-1)))&&(!(f112 t0 a.else_)))) then some false else letk (λ(f:Bool)=>
 (bif f then some false else(f72_l1 t0 d n (IntKind.i64.wrap (c+1))))) λg=>
 letk (λ(h:Int)=>
 (g (decide (h≥0)))) λe=>
 letk (λ(_:Unit)=>
 (e (-1))) λj=>
 (f72_l2 t0 a e j (Int.toNat ((List.length a.alts:Int) - 0)+1) 0)) else(d ()))
def f72(t0:bN):oB:=
 (bif (decide ((List.length t0.text.selects:Int)>1024)) then some false else letk (λ(_:Unit)=>
 some true) λa=>
 (f72_l1 t0 a (Int.toNat ((List.length t0.text.selects:Int) - 0)+1) 0))
def f120(h0:aG)(a1:Int):Bool:=
 ((decide (h0.from_≤a1))&&(decide (a1<h0.to)))
def f73_l2(t0:bN)(d:Int)(f:Int→Int→Int→Bool→oB)(a:aG):Nat→Int→oB
 |0,_=>none
 |na+1,e=>
 (bif (decide (e<(List.length (cC t0.text.handlers 0 d):Int))) then Option.bind (idx (cC t0.text.handlers 0 d) e) λc=>
 (bif ((!((decide (c.from_≥a.from_))&&(decide (c.to≤a.to))))&&(decide ((if a.from_>c.from_ then a.from_ else c.from_)<(if a.to<c.to then a.to else c.to)))) then some false else(f73_l2 t0 d f a na (IntKind.i64.wrap (e+1)))) else(f a.from_ a.to a.at_ a.clean))
def f73_l1(t0:bN)(d:Unit→oB):Nat→Int→oB
 |0,_=>none
 |n+1,c=>
 (bif (decide (c<(List.length t0.text.handlers:Int))) then letk (λ(f:Int)(g:Int)(h:Int)(j:Bool)=>
 (f73_l1 t0 d n (IntKind.i64.wrap (c+1)))) λe=>
 Option.bind (idx t0.text.handlers c) λa=>
 (bif (((((decide (a.from_<0))||(decide (a.from_≥a.to)))||(decide (a.to>(List.length t0.text.insns:Int))))||(!(f112 t0 a.at_)))||(f120 a a.at_)) then some false else aI (dN t0.text.handlers 0 c)<|
 (f73_l2 t0 c e a (Int.toNat ((List.length (cC t0.text.handlers 0 c):Int) - 0)+1) 0)) else(d ()))
def f73(t0:bN):oB:=
 (bif (decide ((List.length t0.text.handlers:Int)>4096)) then some false else letk (λ(_:Unit)=>
 some true) λa=>
 (f73_l1 t0 a (Int.toNat ((List.length t0.text.handlers:Int) - 0)+1) 0))
def f121(x0:aB)(a:Int):Bool:=
 ((((decide (x0.op=29))||(decide (x0.op=30)))||(decide (x0.op=31)))&&(decide (x0.to=a)))
def f74_l1(t0:bN)(e:(List (Int×Bool))→oB):Nat→Int→(List (Int×Bool))→oB
 |0,_,_=>none
 |n+1,c,d=>
 (bif (decide (c<(List.length t0.text.loops:Int))) then Option.bind (idx t0.text.loops c) λa=>
 Option.bind (bif ((((decide (a.head<0))||(decide (a.head>a.back)))||(!(f112 t0 a.back)))||(Option.getD (cM d a.back) false)) then some true else(Option.bind (idx t0.text.insns a.back) λf=>some (!(f121 f a.head)))) λg=>
 (bif ((g||(decide (a.bound<0)))||(decide (a.bound>2147483647))) then some false else(f74_l1 t0 e n (IntKind.i64.wrap (c+1)) (co d a.back true))) else(e d))
def f74(t0:bN):oB:=
 (bif (decide ((List.length t0.text.loops:Int)>4096)) then some false else letk (λ(c:List (Int×Bool))=>
 some true) λa=>
 (f74_l1 t0 a (Int.toNat ((List.length t0.text.loops:Int) - 0)+1) 0 ([]:List (Int×Bool))))
def f122(t0:bN)(a1:Int):oB:=
 Option.bind (bif (f112 t0 a1) then(Option.bind (idx t0.text.insns a1) λa=>Option.bind (bif (decide (a.op=27)) then some true else(Option.bind (idx t0.text.insns a1) λc=>some (decide (c.op=28)))) λd=>some d) else some false) λe=>
 some e
def f75_l1(t0:bN)(d:Unit→oB):Nat→Int→Int→oB
 |0,_,_=>none
 |n+1,e,c=>
 (bif (decide (c<(List.length t0.text.checks:Int))) then Option.bind (idx t0.text.checks c) λa=>
 Option.bind (bif (decide (a.at_≤e)) then some true else(Option.bind (f122 t0 a.at_) λf=>some (!f))) λg=>
 (bif ((g||(decide (a.kind<1)))||(decide (a.kind>5))) then some false else(f75_l1 t0 d n a.at_ (IntKind.i64.wrap (c+1)))) else(d ()))
def f75(t0:bN):oB:=
 letk (λ(_:Unit)=>
 some true) λa=>
 (f75_l1 t0 a (Int.toNat ((List.length t0.text.checks:Int) - 0)+1) (-1) 0)
def f123_l1(s0:lN)(c:aB→oB)(d:Unit→Option (Int)):Nat→Int→Option (Int)
 |0,_=>none
 |n+1,a=>
 (bif (decide (a<(List.length s0:Int))) then Option.bind (idx s0 a) λe=>
 Option.bind (c e) λf=>
 (bif f then some a else(f123_l1 s0 c d n (IntKind.i64.wrap (a+1)))) else(d ()))
def f123(s0:lN)(a:aB→oB):Option Int:=
 letk (λ(_:Unit)=>
 some (-1)) λc=>
 (f123_l1 s0 a c (Int.toNat ((List.length s0:Int) - 0)+1) 0)
def f76(s0:lN)(a:aB→oB):oB:=
 Option.bind (f123 s0 a) λc=>
 some (decide (c≥0))
def f156(o0:Int):Option (is×Bool):=
 (bif ((decide (o0<1))||(decide ((IntKind.i64.wrap o0)>57))) then some ((is.mk ByteArray.empty ByteArray.empty),false) else Option.bind (idx jM (IntKind.u8.wrap (o0 - 1))) λa=>
 some (a,true))
def f176_l1(s0:ByteArray)(c:Int→Int→Option (List ByteArray)):Nat→Int→Int→Int→Int→Option (List ByteArray)
 |0,_,_,_,_=>none
 |n+1,d,wasSpace116,setBits117,a=>
 (bif (decide (a<(s0.size:Int))) then Option.bind (fY s0 a) λe=>
 Option.bind (idx dY e) λf=>
 (f176_l1 s0 c n (IntKind.i64.wrap (d+(IntKind.i64.wrap (BitVec.ofInt IntKind.i64.bits wasSpace116&&&BitVec.ofInt IntKind.i64.bits (IntKind.i64.wrap (BitVec.ofInt IntKind.i64.bits (-1)^^^BitVec.ofInt IntKind.i64.bits (IntKind.i64.wrap f)).toNat)).toNat))) (IntKind.i64.wrap f) (IntKind.u8.wrap (BitVec.ofInt IntKind.u8.bits setBits117|||BitVec.ofInt IntKind.u8.bits e).toNat) (IntKind.i64.wrap (a+1))) else(c d setBits117))
def f176_l2(s0:ByteArray)(c:Int→Option (List ByteArray)):Nat→Int→Option (List ByteArray)
 |0,_=>none
 |n+1,a=>
 Option.bind (bif (decide (a<(s0.size:Int))) then(Option.bind (fY s0 a) λd=>Option.bind (idx dY d) λe=>some (!decide (e=0))) else some false) λf=>
 (bif f then(f176_l2 s0 c n (IntKind.i64.wrap (a+1))) else(c a))
def f176_l4(s0:ByteArray)(c:Int→Option (List ByteArray)):Nat→Int→Option (List ByteArray)
 |0,_=>none
 |na+1,a=>
 Option.bind (bif (decide (a<(s0.size:Int))) then(Option.bind (fY s0 a) λd=>Option.bind (idx dY d) λe=>some (!decide (e=0))) else some false) λf=>
 (bif f then(f176_l4 s0 c na (IntKind.i64.wrap (a+1))) else(c a))
def f176_l3(s0:ByteArray)(e:Int→Int→(List ByteArray)→Option (List ByteArray)):Nat→Int→Int→Int→(List ByteArray)→Option (List ByteArray)
 |0,_,_,_,_=>none
 |n+1,a,fieldStart143,c,d=>
 (bif (decide (c<(s0.size:Int))) then Option.bind (fY s0 c) λg=>
 Option.bind (idx dY g) λh=>
 (bif (decide (h=0)) then(f176_l3 s0 e n a fieldStart143 (IntKind.i64.wrap (c+1)) d) else Option.bind (rC s0 fieldStart143 c) λj=>
 Option.bind (idx d a) λm=>
 letk (λ(f:Int)=>
 (f176_l3 s0 e n (IntKind.i64.wrap (a+1)) f f (List.set d (Int.toNat a) j))) λk=>
 (f176_l4 s0 k 9223372036854775808 (IntKind.i64.wrap (c+1)))) else(e a fieldStart143 d))
def f176(s0:ByteArray):Option (List ByteArray):=
 letk (λ(a:Int)(setBits109:Int)=>
 (bif (decide (setBits109≥128)) then none else aI (m9 16 a)<|
 letk (λ(c:Int)=>
 letk (λ(d:Int)(fieldStart135:Int)(l136:List ByteArray)=>
 letk (λ(f:List ByteArray)=>
 some f) λe=>
 (bif (decide (fieldStart135<(s0.size:Int))) then Option.bind (rC s0 fieldStart135 (s0.size:Int)) λs164=>
 Option.bind (idx l136 d) λk=>
 (e (List.set l136 (Int.toNat d) s164)) else(e l136))) λg=>
 (f176_l3 s0 g 9223372036854775808 0 c c (List.replicate (Int.toNat a) (ByteArray.empty:ByteArray)))) λh=>
 (f176_l2 s0 h 9223372036854775808 0))) λj=>
 (f176_l1 s0 j 9223372036854775808 0 1 0 0)
def f179(a:Int):Int×Int:=
 (bif (decide (a=114)) then(0,15) else(bif (decide (a=111)) then(0,4095) else(bif (decide (a=115)) then(0,65535) else(bif (decide (a=108)) then(1,65536) else(bif (decide (a=120)) then(1,64) else(bif (decide (a=107)) then(6,7) else(bif (decide (a=101)) then(0,7) else(bif (decide (a=112)) then(0,31) else(bif (decide (a=113)) then((-1),31) else(bif (decide (a=109)) then(0,3) else(bif (decide (a=106)) then(0,1023) else(bif (decide (a=98)) then(0,1) else((-9223372036854775808),9223372036854775807)))))))))))))
def f124_l1(m:Int→Int→Int→Int→Int→Int→ByteArray→ByteArray→Int→Int→Int→Int→oB)(p:Int→Int→Int→Int→Int→Int→ByteArray→ByteArray→Int→Int→Int→Int→oB)(r:Int→Int→Int→Int→Int→Int→ByteArray→ByteArray→Int→Int→Int→Int→oB)(t:Int→Int→Int→Int→Int→Int→ByteArray→ByteArray→Int→Int→Int→Int→oB)(w:Int→Int→Int→Int→Int→Int→ByteArray→ByteArray→Int→Int→Int→Int→oB)(x:Int→Int→Int→Int→Int→Int→ByteArray→ByteArray→Int→Int→Int→Int→oB)(y:Int→Int→Int→Int→Int→Int→ByteArray→ByteArray→oB)(a:is×Bool)(j:List ByteArray):Nat→Int→Int→Int→Int→Int→Int→Int→oB
 |0,_,_,_,_,_,_,_=>none
 |n+1,k,c,d,e,f,g,h=>
 (bif (decide (k<(List.length j:Int))) then Option.bind (idx j k) λA=>
 Option.bind (fY A 0) λI=>
 (bif (decide (I=68)) then letk (λ(_:Unit)=>
 Option.bind (fY A 1) λB=>
 letk (λ(_:Unit)=>
 (m c d e f g h a.1.name a.1.fields ((f179 B).1) ((f179 B).2) ((f179 B).1) ((f179 B).2))) λJ=>
 letk (λ(_:Unit)=>
 (f124_l1 m p r t w x y a j n (IntKind.i64.wrap (k+1)) 0 d e f g h)) λK=>
 letk (λ(_:Unit)=>
 (bif ((decide (c<((f179 B).1)))||(decide (c>((f179 B).2)))) then(J ()) else letk (λ(_:Unit)=>
 (K ())) λL=>
 (L ()))) λM=>
 (M ())) λN=>
 (N ()) else(bif (decide (I=65)) then letk (λ(_:Unit)=>
 Option.bind (fY A 1) λC=>
 letk (λ(_:Unit)=>
 (p c d e f g h a.1.name a.1.fields ((f179 C).1) ((f179 C).2) ((f179 C).1) ((f179 C).2))) λO=>
 letk (λ(_:Unit)=>
 (f124_l1 m p r t w x y a j n (IntKind.i64.wrap (k+1)) c 0 e f g h)) λP=>
 letk (λ(_:Unit)=>
 (bif ((decide (d<((f179 C).1)))||(decide (d>((f179 C).2)))) then(O ()) else letk (λ(_:Unit)=>
 (P ())) λQ=>
 (Q ()))) λR=>
 (R ())) λS=>
 (S ()) else(bif (decide (I=66)) then letk (λ(_:Unit)=>
 Option.bind (fY A 1) λE=>
 letk (λ(_:Unit)=>
 (r c d e f g h a.1.name a.1.fields ((f179 E).1) ((f179 E).2) ((f179 E).1) ((f179 E).2))) λT=>
 letk (λ(_:Unit)=>
 (f124_l1 m p r t w x y a j n (IntKind.i64.wrap (k+1)) c d 0 f g h)) λU=>
 letk (λ(_:Unit)=>
 (bif ((decide (e<((f179 E).1)))||(decide (e>((f179 E).2)))) then(T ()) else letk (λ(_:Unit)=>
 (U ())) λV=>
 (V ()))) λW=>
 (W ())) λX=>
 (X ()) else(bif (decide (I=78)) then letk (λ(_:Unit)=>
 Option.bind (fY A 1) λF=>
 letk (λ(_:Unit)=>
 (t c d e f g h a.1.name a.1.fields ((f179 F).1) ((f179 F).2) ((f179 F).1) ((f179 F).2))) λY=>
 letk (λ(_:Unit)=>
 (f124_l1 m p r t w x y a j n (IntKind.i64.wrap (k+1)) c d e 0 g h)) λZ=>
 letk (λ(_:Unit)=>
 (bif ((decide (f<((f179 F).1)))||(decide (f>((f179 F).2)))) then(Y ()) else letk (λ(_:Unit)=>
 (Z ())) λad=>
 (ad ()))) λag=>
 (ag ())) λax=>
 (ax ()) else(bif (decide (I=77)) then letk (λ(_:Unit)=>
 Option.bind (fY A 1) λG=>
 letk (λ(_:Unit)=>
 (w c d e f g h a.1.name a.1.fields ((f179 G).1) ((f179 G).2) ((f179 G).1) ((f179 G).2))) λa0=>
 letk (λ(_:Unit)=>
 (f124_l1 m p r t w x y a j n (IntKind.i64.wrap (k+1)) c d e f 0 h)) λa1=>
 letk (λ(_:Unit)=>
 (bif ((decide (g<((f179 G).1)))||(decide (g>((f179 G).2)))) then(a0 ()) else letk (λ(_:Unit)=>
 (a1 ())) λa6=>
 (a6 ()))) λa7=>
 (a7 ())) λa8=>
 (a8 ()) else letk (λ(_:Unit)=>
 Option.bind (fY A 1) λH=>
 letk (λ(_:Unit)=>
 (x c d e f g h a.1.name a.1.fields ((f179 H).1) ((f179 H).2) ((f179 H).1) ((f179 H).2))) λa'=>
 letk (λ(_:Unit)=>
 (f124_l1 m p r t w x y a j n (IntKind.i64.wrap (k+1)) c d e f g 0)) λbb=>
 letk (λ(_:Unit)=>
 (bif ((decide (h<((f179 H).1)))||(decide (h>((f179 H).2)))) then(a' ()) else letk (λ(_:Unit)=>
 (bb ())) λbk=>
 (bk ()))) λbo=>
 (bo ())) λbs=>
 (bs ())))))) else(y c d e f g h a.1.name a.1.fields))
def f124(x0:aB):oB:=
 Option.bind (f156 x0.op) λf=>
 (bif ((!f.2)||((decide (x0.op=27))&&(decide (x0.n>x0.m)))) then some false else(bif (((decide (x0.op=37))&&(decide ((IntKind.u8.wrap x0.n)=6)))&&(!decide (x0.m=0))) then some false else letk (λ(g:Int)(h:Int)(j:Int)(k:Int)(p:Int)(r:Int)(O:ByteArray)(P:ByteArray)=>
 some (((decide (x0.op=x0.op))&&((decide (g=0))&&((decide (h=0))&&((decide (j=0))&&((decide (k=0))&&((decide (p=0))&&((decide (r=0))&&true))))))))) λt=>
 letk (λ(_:Unit)=>
 letk (λ(Q:Int)(R:Int)(S:Int)(T:Int)(U:Int)(V:Int)(W:ByteArray)(X:ByteArray)(Y:Int)(Z:Int)(ad:Int)(ag:Int)=>
 some false) λw=>
 letk (λ(ax:Int)(a0:Int)(a1:Int)(a6:Int)(a7:Int)(a8:Int)(a':ByteArray)(bb:ByteArray)(bk:Int)(bo:Int)(bs:Int)(b0:Int)=>
 some false) λx=>
 letk (λ(b1:Int)(b2:Int)(b3:Int)(b4:Int)(b5:Int)(b6:Int)(b7:ByteArray)(b8:ByteArray)(b9:Int)(b':Int)(ca:Int)(cb:Int)=>
 some false) λy=>
 letk (λ(cc:Int)(cd:Int)(ci:Int)(cj:Int)(cl:Int)(cn:Int)(cp:ByteArray)(cx:ByteArray)(c0:Int)(c1:Int)(c2:Int)(c3:Int)=>
 some false) λA=>
 letk (λ(c4:Int)(c5:Int)(c6:Int)(c7:Int)(c8:Int)(c9:Int)(c':ByteArray)(dd:ByteArray)(df:Int)(ds:Int)(dA:Int)(dS:Int)=>
 some false) λB=>
 letk (λ(d0:Int)(d1:Int)(d2:Int)(d':Int)(ec:Int)(ee:Int)(ei:ByteArray)(el:ByteArray)(em:Int)(en:Int)(er:Int)(es:Int)=>
 some false) λC=>
 letk (λ(E:Int)(F:Int)(G:Int)(H:Int)(I:Int)(J:Int)(K:ByteArray)(L:ByteArray)=>
 (t E F G H I J K L)) λM=>
 Option.bind (f156 x0.op) λc=>
 Option.bind (f176 c.1.fields) λe=>
 (f124_l1 w x y A B C M c e (Int.toNat ((List.length e:Int) - 0)+1) 0 x0.d x0.a x0.b x0.n x0.m x0.to)) λN=>
 (N ())))
def f125(y0:aB):Bool:=
 (!decide (y0.op=29))
def f126(t0:bN)(a:Int)(n2:Int):Option (Int×Bool):=
 Option.bind (bif (((decide (a<0))||(decide (a≥(List.length t0.text.tasks:Int))))||(decide (n2<0))) then some true else(Option.bind (idx t0.text.tasks a) λd=>some (decide (n2≥(List.length d.entries:Int))))) λe=>
 (bif e then some (0,false) else Option.bind (idx t0.text.tasks a) λf=>
 Option.bind (idx f.entries n2) λc=>
 some ((IntKind.i64.wrap ((IntKind.i64.wrap ((List.length c.ins:Int)+(List.length c.outs:Int)))+1)),true))
def f127(t0:bN)(p1:Int)(n2:Int):oB:=
 Option.bind (bif (((decide (p1≥0))&&(decide (p1<(List.length t0.text.prots:Int))))&&(decide (n2≥0))) then(Option.bind (idx t0.text.prots p1) λa=>some (decide (n2<(List.length a.barriers:Int)))) else some false) λc=>
 some c
def f78(t0:bN)(x1:aB):oB:=
 Option.bind (f124 x1) λj=>
 (bif (!j) then some false else letk (λ(k:Bool)=>
 (bif k then Option.bind (f111 t0 x1.n x1.m 1) λp=>
 some p else letk (λ(r:Bool)=>
 (bif r then Option.bind (f111 t0 x1.n x1.m x1.b) λt=>
 some t else letk (λ(w:Bool)=>
 (bif w then some (f112 t0 x1.to) else(bif (decide (x1.op=32)) then Option.bind (bif (decide ((IntKind.i64.wrap (x1.to+x1.m))≤(List.length t0.text.insns:Int))) then(aI (dN t0.text.insns x1.to (IntKind.i64.wrap (x1.to+x1.m)))<|Option.bind (f76 (cC t0.text.insns x1.to (IntKind.i64.wrap (x1.to+x1.m))) (λz0=>some (f125 z0))) λx=>some (!x)) else some false) λy=>
 some y else(bif (decide (x1.op=33)) then some (decide (x1.n≤t0.text.excs)) else letk (λ(A:Bool)=>
 (bif A then some (decide (x1.n<(List.length t0.text.lists:Int))) else(bif (decide (x1.op=50)) then some (decide (x1.n<(List.length t0.text.selects:Int))) else(bif (decide (x1.op=49)) then Option.bind (f126 t0 x1.a x1.b) λe=>
 Option.bind (bif e.2 then(Option.bind (f111 t0 x1.n 0 e.1) λB=>some B) else some false) λC=>
 some C else(bif (decide (x1.op=52)) then Option.bind (f126 t0 x1.a x1.b) λE=>
 some (E.2&&(decide (x1.to<(List.length t0.text.insns:Int)))) else letk (λ(F:Bool)=>
 (bif F then some (decide (x1.n<(List.length t0.text.prots:Int))) else(bif (decide (x1.op=54)) then Option.bind (f127 t0 x1.n x1.m) λG=>
 some G else(bif (decide (x1.op=43)) then Option.bind (bif (decide (x1.m<0)) then some true else(Option.bind (f127 t0 x1.m x1.n) λH=>some H)) λI=>
 some I else some true)))) λf=>
 (bif (decide (x1.op=53)) then(f (decide (x1.op=53))) else(f (decide (x1.op=55))))))))) λc=>
 (bif (decide (x1.op=44)) then(c (decide (x1.op=44))) else(bif (decide (x1.op=45)) then(c (decide (x1.op=45))) else(bif (decide (x1.op=46)) then(c (decide (x1.op=46))) else(c (decide (x1.op=56)))))))))) λd=>
 (bif (decide (x1.op=29)) then(d (decide (x1.op=29))) else(bif (decide (x1.op=30)) then(d (decide (x1.op=30))) else(d (decide (x1.op=31))))))) λg=>
 (bif (decide (x1.op=5)) then(g (decide (x1.op=5))) else(g (decide (x1.op=6)))))) λh=>
 (bif (decide (x1.op=3)) then(h (decide (x1.op=3))) else(h (decide (x1.op=4)))))
def f37_l1(t0:aj)(c:Int→oB)(d:Unit→oB):Nat→Int→oB
 |0,_=>none
 |n+1,a=>
 (bif (decide (a<(List.length t0.insns:Int))) then Option.bind (idx t0.insns a) λe=>
 letk (λ(f:Bool)=>
 (bif f then(c a) else(f37_l1 t0 c d n (IntKind.i64.wrap (a+1))))) λg=>
 Option.bind (f78 (bN.mk t0) e) λh=>
 (g (!h)) else(d ()))
def f37(t0:aj):oB:=
 (bif ((decide ((List.length t0.insns:Int)<1))||(decide ((List.length t0.insns:Int)>65536))) then some false else Option.bind (idx t0.insns (IntKind.i64.wrap ((List.length t0.insns:Int) - 1))) λa=>
 letk (λ(e:Bool)=>
 (bif e then letk (λ(_:Unit)=>
 letk (λ(f:Bool)=>
 some (!f)) λg=>
 letk (λ(h:Int)=>
 (g (decide (h≥0)))) λd=>
 letk (λ(_:Unit)=>
 (d (-1))) λj=>
 (f37_l1 t0 d j (Int.toNat ((List.length t0.insns:Int) - 0)+1) 0)) λk=>
 Option.bind (f68 (bN.mk t0)) λm=>
 (bif (!m) then some false else Option.bind (f69 (bN.mk t0)) λp=>
 (bif (!p) then some false else Option.bind (f70 (bN.mk t0)) λr=>
 (bif (!r) then some false else Option.bind (f71 (bN.mk t0)) λt=>
 (bif (!t) then some false else Option.bind (f72 (bN.mk t0)) λw=>
 (bif (!w) then some false else Option.bind (f73 (bN.mk t0)) λx=>
 (bif (!x) then some false else Option.bind (f74 (bN.mk t0)) λy=>
 (bif (!y) then some false else Option.bind (f75 (bN.mk t0)) λA=>
 (bif (!A) then some false else(k ()))))))))) else some false)) λc=>
 (bif (decide (a.op=29)) then(c (decide (a.op=29))) else(bif (decide (a.op=33)) then(c (decide (a.op=33))) else(bif (decide (a.op=34)) then(c (decide (a.op=34))) else(c (decide (a.op=57)))))))
def f41_l2(c:Int)(e:lL→Option lL)(f:Obj)(g:lI):Nat→Int→lL→Option lL
 |0,_,_=>none
 |na+1,a,d=>
 (bif (decide (a<(List.length g:Int))) then Option.bind (idx d c) λh=>
 Option.bind (idx h a) λj=>
 (f41_l2 c e f g na (IntKind.i64.wrap (a+1)) (List.set d (Int.toNat c) (List.set h (Int.toNat a) f.lo))) else(e d))
def f41_l1(t0:aj)(e:lL→Option lL):Nat→Int→lL→Option lL
 |0,_,_=>none
 |n+1,a,d=>
 (bif (decide (a<(List.length t0.objs:Int))) then letk (λ(h:lL)=>
 (f41_l1 t0 e n (IntKind.i64.wrap (a+1)) h)) λf=>
 Option.bind (idx t0.objs a) λc=>
 aI (m9 8 c.size)<|
 Option.bind (idx d a) λk=>
 Option.bind (f79 c 0) λj=>
 (bif (!j) then Option.bind (idx (List.set d (Int.toNat a) (List.replicate (Int.toNat c.size) (0:Int))) a) λg=>
 (f41_l2 a f c g (Int.toNat ((List.length g:Int) - 0)+1) 0 (List.set d (Int.toNat a) (List.replicate (Int.toNat c.size) (0:Int)))) else(f (List.set d (Int.toNat a) (List.replicate (Int.toNat c.size) (0:Int))))) else(e d))
def f41_l3(t0:aj)(e:lL→Option lL):Nat→Int→lL→Option lL
 |0,_,_=>none
 |n+1,c,d=>
 (bif (decide (c<(List.length t0.inits:Int))) then Option.bind (idx t0.inits c) λa=>
 Option.bind (idx d a.o) λf=>
 Option.bind (idx f a.slot) λg=>
 (f41_l3 t0 e n (IntKind.i64.wrap (c+1)) (List.set d (Int.toNat a.o) (List.set f (Int.toNat a.slot) a.v))) else(e d))
def f41(t0:aj):Option lL:=
 Option.bind (f37 t0) λa=>
 (bif (!a) then none else aI (m9 24 (List.length t0.objs:Int))<|
 letk (λ(c:lL)=>
 letk (λ(d:lL)=>
 some d) λe=>
 (f41_l3 t0 e (Int.toNat ((List.length t0.inits:Int) - 0)+1) 0 c)) λf=>
 (f41_l1 t0 f (Int.toNat ((List.length t0.objs:Int) - 0)+1) 0 (List.replicate (Int.toNat (List.length t0.objs:Int)) ([]:lI))))
def f40n(s0:lO):Option lO:=aI (cq 56 [] s0) (some s0)
def f38(s0:lN):Option lN:=aI (cq 56 [] s0) (some s0)
def f39(s0:lH):Option lH:=aI (cq 32 [] s0) (some s0)
def f43(s0:lI):Option lI:=aI (cq 8 [] s0) (some s0)
def f10_l1(e:lO)(f:lO→Option (Int×lN×lH×lO×Int×lI×lL×lI)):Nat→Int→lO→Option (Int×lN×lH×lO×Int×lI×lL×lI)
 |0,_,_=>none
 |n+1,a,c=>
 (bif (decide (a<(List.length e:Int))) then Option.bind (idx c a) λg=>
 Option.bind (f43 g.set_) λh=>
 Option.bind (idx c a) λd=>
 (f10_l1 e f n (IntKind.i64.wrap (a+1)) (List.set c (Int.toNat a) (Obj.mk d.size d.lo d.hi d.ptr h))) else(f c))
def f10(t0:aj)(c:lI):Option (Int×lN×lH×lO×Int×lI×lL×lI):=
 Option.bind (f37 t0) λd=>
 (bif (!d) then none else Option.bind (f38 t0.insns) λe=>
 Option.bind (f39 t0.handlers) λf=>
 Option.bind (f40n t0.objs) λa=>
 Option.bind (f41 t0) λg=>
 Option.bind (f42 c) λh=>
 letk (λ(j:lO)=>
 some (0,e,f,j,t0.excs,h,g,([]:lI))) λk=>
 (f10_l1 a k (Int.toNat ((List.length a:Int) - 0)+1) 0 a))
def f10b(t0:aj)(c:lI):Option (Unit×Int):=
 Option.bind (f37 t0) λa=>
 (bif (!a) then some ((),2) else none)
def f66(x0:aB):aj:=
 (aj.mk [x0,(aB.mk 57 0 0 0 0 0 0),(aB.mk 57 0 0 0 0 0 0)] [(aG.mk 0 1 2 false)] [] [] [] [(Obj.mk 1 0 9 false [])] [] 4 [(eL.mk 0 0 [] 0)] [(eJ.mk 0 [])] [])
def f35(x0:aB)(v1:Int):Option (aq×lA×Int):=
 Option.bind (f37 (f66 x0)) λe=>
 (bif e then Option.bind (f10 (f66 x0) [8]) λa=>
 (bif (!decide (a.1=0)) then some ((aq.mk (λj=>0) 0 0 0),[],a.1) else Option.bind (f11 a.2.1 a.2.2.1 a.2.2.2.1 a.2.2.2.2.1 a.2.2.2.2.2.1 a.2.2.2.2.2.2.1 a.2.2.2.2.2.2.2 (aq.mk (λj=>List.getD [0,v1,0,0,0,0,0,0,0,0,0,0,0,0,0,0] j 0) 0 0 0)) λc=>
 some (c.1,c.2.1,c.2.2.1)) else Option.bind (f10b (f66 x0) [8]) λd=>
 (bif (!decide (d.2=0)) then some ((aq.mk (λj=>0) 0 0 0),[],d.2) else none))
def f9:oB:=
 Option.bind (f35 (aB.mk 27 0 1 0 0 5 0) 6) λc=>
 Option.bind (f35 (aB.mk 4 0 1 0 0 0 0) 10) λh=>
 Option.bind (f35 (aB.mk 12 0 1 0 0 0 0) 10) λj=>
 Option.bind (f35 (aB.mk 41 0 0 0 0 0 0) 0) λk=>
 Option.bind (f35 (aB.mk 53 0 0 0 0 0 0) 0) λm=>
 Option.bind (f35 (aB.mk 38 3 0 0 0 0 0) 0) λf=>
 Option.bind (f35 (aB.mk 1 1 0 0 7 0 0) 0) λg=>
 Option.bind (bif ((((decide ((c.1.r 0)=0))&&((decide ((c.1.r 1)=0))&&((decide ((c.1.r 2)=0))&&((decide ((c.1.r 3)=0))&&((decide ((c.1.r 4)=0))&&((decide ((c.1.r 5)=0))&&((decide ((c.1.r 6)=0))&&((decide ((c.1.r 7)=0))&&((decide ((c.1.r 8)=0))&&((decide ((c.1.r 9)=0))&&((decide ((c.1.r 10)=0))&&((decide ((c.1.r 11)=0))&&((decide ((c.1.r 12)=0))&&((decide ((c.1.r 13)=0))&&((decide ((c.1.r 14)=0))&&((decide ((c.1.r 15)=0))&&((decide (c.1.pc=2))&&((decide (c.1.exc=1))&&((decide (c.1.defer=0))&&true))))))))))))))))))))&&(decide ((List.length c.2.1:Int)=1))) then(Option.bind (idx c.2.1 0) λd=>some (((decide (d.time=0))&&((decide (d.task=0))&&((decide (d.kind=5))&&((decide (d.a=1))&&((decide (d.b=0))&&((decide (d.n=0))&&true)))))))) else some false) λp=>
 Option.bind (bif ((((((((p&&(decide (c.2.2=0)))&&(decide (h.2.2=280)))&&(decide (j.2.2=280)))&&(decide (k.2.2=280)))&&(decide (m.2.2=8)))&&(decide (f.2.2=0)))&&(decide ((f.1.r (Int.toNat 3))=8)))&&(decide ((List.length f.2.1:Int)=1))) then(Option.bind (idx f.2.1 0) λe=>some (((decide (e.time=0))&&((decide (e.task=0))&&((decide (e.kind=2))&&((decide (e.a=8))&&((decide (e.b=0))&&((decide (e.n=0))&&true)))))))) else some false) λt=>
 some (((((t&&(decide (g.2.2=0)))&&(decide ((g.1.r (Int.toNat 1))=7)))&&(decide (g.1.pc=1)))&&(f36 41))&&(!(f36 42)))
def f14_l1(a0:lI)(b1:lI)(c:Unit→oB):Nat→Int→oB
 |0,_=>none
 |n+1,a=>
 (bif (decide (a<(List.length a0:Int))) then Option.bind (idx a0 a) λd=>
 Option.bind (idx b1 a) λe=>
 (bif (!decide (d=e)) then some false else(f14_l1 a0 b1 c n (IntKind.i64.wrap (a+1)))) else(c ()))
def f14(a0:lI)(b1:lI):oB:=
 (bif (!decide ((List.length a0:Int)=(List.length b1:Int))) then some false else letk (λ(_:Unit)=>
 some true) λa=>
 (f14_l1 a0 b1 a 9223372036854775808 0))
def f12_l1(t0:aj)(d:Int→oB):Nat→Int→Int→oB
 |0,_,_=>none
 |n+1,e,a=>
 (bif ((decide (a<(List.length t0.objs:Int)))&&(decide (a<100))) then Option.bind (idx t0.objs a) λc=>
 (f12_l1 t0 d n (IntKind.i64.wrap (e+(if(if 20000<c.size then 20000 else c.size)>0 then(if 20000<c.size then 20000 else c.size) else 0))) (IntKind.i64.wrap (a+1))) else(d e))
def f12(t0:aj):oB:=
 letk (λ(a:Int)=>
 some (((((((((((decide (a>400))||(decide ((List.length t0.insns:Int)>100)))||(decide ((List.length t0.handlers:Int)>50)))||(decide ((List.length t0.loops:Int)>100)))||(decide ((List.length t0.selects:Int)>20)))||(decide ((List.length t0.lists:Int)>40)))||(decide ((List.length t0.objs:Int)>60)))||(decide ((List.length t0.inits:Int)>60)))||(decide ((List.length t0.tasks:Int)>40)))||(decide ((List.length t0.prots:Int)>10)))||(decide ((List.length t0.checks:Int)>100)))) λc=>
 (f12_l1 t0 c 9223372036854775808 0 0)
def f34_l1(o0:Obj)(v1:Int)(c:Unit→oB):Nat→Int→oB
 |0,_=>none
 |n+1,a=>
 (bif (decide (a<(List.length o0.set_:Int))) then Option.bind (idx o0.set_ a) λd=>
 (bif (decide (v1=(IntKind.i64.wrap (d+1)))) then some true else(f34_l1 o0 v1 c n (IntKind.i64.wrap (a+1)))) else(c ()))
def f34(o0:Obj)(v1:Int):oB:=
 (bif (!o0.ptr) then some ((decide (v1≥o0.lo))&&(decide (v1≤o0.hi))) else letk (λ(_:Unit)=>
 some (decide (v1=0))) λa=>
 (f34_l1 o0 v1 a 9223372036854775808 0))
def f133_l1(t0:aj)(o1:Obj)(d:Unit→oB):Nat→Int→oB
 |0,_=>none
 |n+1,a=>
 (bif (decide (a<(List.length o1.set_:Int))) then Option.bind (idx o1.set_ a) λc=>
 Option.bind (bif ((decide (c<0))||(decide (c≥(List.length t0.objs:Int)))) then some true else(Option.bind (idx t0.objs c) λe=>some (!decide (e.size=1)))) λf=>
 Option.bind (bif f then some true else(Option.bind (idx t0.objs c) λg=>some g.ptr)) λh=>
 Option.bind (bif h then some true else(Option.bind (bif (decide (a>0)) then(Option.bind (idx o1.set_ (IntKind.i64.wrap (a - 1))) λj=>some (decide (j≥c))) else some false) λk=>some k)) λm=>
 (bif m then some false else(f133_l1 t0 o1 d n (IntKind.i64.wrap (a+1)))) else(d ()))
def f133(t0:aj)(o1:Obj):oB:=
 (bif (((((decide (o1.size<1))||(decide (o1.size>16384)))||(decide (o1.lo>o1.hi)))||((!o1.ptr)&&(decide ((List.length o1.set_:Int)>0))))||(o1.ptr&&((!decide (o1.lo=0))||(!decide (o1.hi=0))))) then some false else letk (λ(_:Unit)=>
 some true) λa=>
 (f133_l1 t0 o1 a 9223372036854775808 0))
def f134(t0:aj)(o1:Int)(a:Int)(c:Int):oB:=
 Option.bind (bif ((((decide (o1≥0))&&(decide (o1<(List.length t0.objs:Int))))&&(decide (a≥0)))&&(decide (c≥0))) then(Option.bind (idx t0.objs o1) λd=>some (decide (a≤(IntKind.i64.wrap (d.size - c))))) else some false) λe=>
 some e
def f89_l1(t0:aj)(c:Int→oB):Nat→Int→Int→oB
 |0,_,_=>none
 |n+1,d,a=>
 (bif (decide (a<(List.length t0.objs:Int))) then Option.bind (idx t0.objs a) λe=>
 Option.bind (f133 t0 e) λf=>
 (bif (!f) then some false else Option.bind (idx t0.objs a) λg=>
 (f89_l1 t0 c n (IntKind.i64.wrap (d+g.size)) (IntKind.i64.wrap (a+1)))) else(c d))
def f89_l3(t0:aj)(d:Int)(e:Int→Int→Int→oB)(a:d3):Nat→Int→oB
 |0,_=>none
 |na+1,c=>
 (bif (decide (c<d)) then Option.bind (idx t0.inits c) λf=>
 Option.bind (bif (decide (f.o=a.o)) then(Option.bind (idx t0.inits c) λg=>some (decide (g.slot=a.slot))) else some false) λh=>
 (bif h then some false else(f89_l3 t0 d e a na (IntKind.i64.wrap (c+1)))) else(e a.o a.slot a.v))
def f89_l2(t0:aj)(d:Unit→oB):Nat→Int→oB
 |0,_=>none
 |n+1,c=>
 (bif (decide (c<(List.length t0.inits:Int))) then letk (λ(k:Int)(m:Int)(p:Int)=>
 (f89_l2 t0 d n (IntKind.i64.wrap (c+1)))) λe=>
 Option.bind (idx t0.inits c) λa=>
 Option.bind (f134 t0 a.o a.slot 1) λf=>
 Option.bind (bif (!f) then some true else(Option.bind (idx t0.objs a.o) λg=>Option.bind (f34 g a.v) λh=>some (!h))) λj=>
 (bif j then some false else(f89_l3 t0 c e a 9223372036854775808 0)) else(d ()))
def f89(t0:aj):oB:=
 (bif ((((decide ((List.length t0.objs:Int)>4096))||(decide (t0.excs<4)))||(decide (t0.excs>64)))||(decide ((List.length t0.inits:Int)>65536))) then some false else letk (λ(a:Int)=>
 letk (λ(_:Unit)=>
 some (decide (a≤65536))) λc=>
 (f89_l2 t0 c 9223372036854775808 0)) λd=>
 (f89_l1 t0 d 9223372036854775808 0 0))
def f30(t0:aj)(a1:Int):Bool:=
 ((decide (a1≥0))&&(decide (a1<(List.length t0.insns:Int))))
def f135_l1(t0:aj)(l1:lI)(c:Unit→oB):Nat→Int→oB
 |0,_=>none
 |n+1,a=>
 (bif (decide (a<(List.length l1:Int))) then Option.bind (idx l1 a) λd=>
 Option.bind (bif (decide (d<0)) then some true else(Option.bind (idx l1 a) λe=>some (decide (e≥(List.length t0.objs:Int))))) λf=>
 Option.bind (bif f then some true else(Option.bind (idx l1 a) λg=>Option.bind (idx t0.objs g) λh=>some (!decide (h.size=1)))) λj=>
 (bif j then some false else(f135_l1 t0 l1 c n (IntKind.i64.wrap (a+1)))) else(c ()))
def f135(t0:aj)(l1:lI):oB:=
 (bif (decide ((List.length l1:Int)>8)) then some false else letk (λ(_:Unit)=>
 some true) λa=>
 (f135_l1 t0 l1 a 9223372036854775808 0))
def f90_l2(t0:aj)(d:Int→Int→(List cr)→Int→oB)(a:eL):Nat→Int→oB
 |0,_=>none
 |na+1,c=>
 (bif (decide (c<(List.length a.entries:Int))) then Option.bind (idx a.entries c) λe=>
 Option.bind (f135 t0 e.ins) λf=>
 Option.bind (bif (!f) then some true else(Option.bind (idx a.entries c) λg=>Option.bind (f135 t0 g.outs) λh=>some (!h))) λj=>
 (bif j then some false else(f90_l2 t0 d a na (IntKind.i64.wrap (c+1)))) else(d a.prio a.at_ a.entries a.deadline))
def f90_l1(t0:aj)(d:Unit→oB):Nat→Int→oB
 |0,_=>none
 |n+1,c=>
 (bif (decide (c<(List.length t0.tasks:Int))) then letk (λ(f:Int)(g:Int)(h:List cr)(j:Int)=>
 (f90_l1 t0 d n (IntKind.i64.wrap (c+1)))) λe=>
 Option.bind (idx t0.tasks c) λa=>
 (bif ((((((decide (a.prio<0))||(decide (a.prio>31)))||(!(f30 t0 a.at_)))||(decide (a.deadline<0)))||(decide (a.deadline>2147483647)))||(decide ((List.length a.entries:Int)>8))) then some false else(f90_l2 t0 e a 9223372036854775808 0)) else(d ()))
def f90(t0:aj):oB:=
 (bif ((decide ((List.length t0.tasks:Int)<1))||(decide ((List.length t0.tasks:Int)>32))) then some false else letk (λ(_:Unit)=>
 some true) λa=>
 (f90_l1 t0 a 9223372036854775808 0))
def f136s_l1(d:aj→Int→aW→Int→Int→Option (Int))(t0:aj)(e:Int)(e2:aW)(f:Int)(g:Int→Option (Int)):Nat→Int→Int→Option (Int)
 |0,_,_=>none
 |n+1,a,c=>
 (bif ((decide (c<(List.length e2.l:Int)))&&(decide (a≥0))) then Option.bind (idx e2.l c) λh=>
 Option.bind (d t0 e h (IntKind.i64.wrap (f+1)) a) λj=>
 (f136s_l1 d t0 e e2 f g n j (IntKind.i64.wrap (c+1))) else(g a))
def f136s(f:aj→Int→aW→Int→Int→Option (Int))(t0:aj)(c:Int)(e2:aW)(d:Int)(n4:Int):Option Int:=
 (bif ((decide (n4=0))||(decide (d>64))) then some (-1) else letk (λ(g:Int)(h:Bool)(j:Int)(k:Int)(m:Int)(p:Int)=>
 (bif (((!h)||(!(((((((decide (e2.op=j))&&(decide (e2.n=k)))&&(decide (e2.o=m)))&&(decide (e2.off=p)))&&(decide (e2.len=0)))&&(decide (e2.lo=0)))&&(decide (e2.hi=0)))))||(!decide ((List.length e2.l:Int)=g))) then some (-1) else letk (λ(r:Int)=>
 some r) λt=>
 (f136s_l1 f t0 c e2 d t 9223372036854775808 (IntKind.i64.wrap (n4 - 1)) 0))) λa=>
 (bif (decide (e2.kind=1)) then(a 0 true 0 e2.n 0 0) else(bif (decide (e2.kind=2)) then Option.bind (f134 t0 e2.o e2.off 1) λw=>
 Option.bind (bif w then(Option.bind (idx t0.objs e2.o) λx=>some (!x.ptr)) else some false) λy=>
 (a 0 y 0 0 e2.o e2.off) else(bif (decide (e2.kind=14)) then(a 0 ((decide (e2.n≥0))&&(decide (e2.n<c))) 0 e2.n 0 0) else(bif (decide (e2.kind=4)) then(a 1 true 18 0 0 0) else(bif (decide (e2.kind=5)) then(a 2 ((decide (e2.op≥7))&&(decide (e2.op≤15))) e2.op 0 0 0) else letk (λ(A:Bool)=>
 (bif A then(a 2 true 0 0 0 0) else some (-1))) λe=>
 (bif (decide (e2.kind=6)) then(e (decide (e2.kind=6))) else(e (decide (e2.kind=7))))))))))
def f136:Nat→aj→Int→aW→Int→Int→Option (Int)
 |0=>λ_ _ _ _ _=>none
 |n+1=>f136s (f136 n)
def f137(t0:aj)(a1:Int):oB:=
 Option.bind (bif (f30 t0 a1) then(Option.bind (idx t0.insns a1) λa=>Option.bind (bif (decide (a.op=27)) then some true else(Option.bind (idx t0.insns a1) λc=>some (decide (c.op=28)))) λd=>some d) else some false) λe=>
 some e
def f91_l2(t0:aj)(d:Int→(List aW)→oB)(a:eJ):Nat→Int→oB
 |0,_=>none
 |na+1,c=>
 (bif (decide (c<(List.length a.barriers:Int))) then Option.bind (idx a.barriers c) λe=>
 Option.bind (f136 67 t0 (List.length a.barriers:Int) e 1 256) λf=>
 (bif (decide (f<0)) then some false else(f91_l2 t0 d a na (IntKind.i64.wrap (c+1)))) else(d a.ceiling a.barriers))
def f91_l1(t0:aj)(d:Unit→oB):Nat→Int→oB
 |0,_=>none
 |n+1,c=>
 (bif (decide (c<(List.length t0.prots:Int))) then letk (λ(f:Int)(g:List aW)=>
 (f91_l1 t0 d n (IntKind.i64.wrap (c+1)))) λe=>
 Option.bind (idx t0.prots c) λa=>
 (bif (((decide (a.ceiling<0))||(decide (a.ceiling>31)))||(decide ((List.length a.barriers:Int)>8))) then some false else(f91_l2 t0 e a 9223372036854775808 0)) else(d ()))
def f91_l3(t0:aj)(d:Unit→oB):Nat→Int→oB
 |0,_=>none
 |n+1,a=>
 (bif (decide (a<(List.length t0.checks:Int))) then Option.bind (idx t0.checks a) λc=>
 Option.bind (f137 t0 c.at_) λe=>
 Option.bind (bif (!e) then some true else(Option.bind (bif (decide (a>0)) then(Option.bind (idx t0.checks (IntKind.i64.wrap (a - 1))) λf=>some (decide (f.at_≥c.at_))) else some false) λg=>some g)) λh=>
 (bif ((h||(decide (c.kind<1)))||(decide (c.kind>5))) then some false else(f91_l3 t0 d n (IntKind.i64.wrap (a+1)))) else(d ()))
def f91(t0:aj):oB:=
 (bif (decide ((List.length t0.prots:Int)>32)) then some false else letk (λ(_:Unit)=>
 letk (λ(_:Unit)=>
 some true) λa=>
 (f91_l3 t0 a 9223372036854775808 0)) λc=>
 (f91_l1 t0 c 9223372036854775808 0))
def f138(t0:aj)(a:Int)(a2:ju):oB:=
 Option.bind (bif (!(f30 t0 a2.at_)) then some true else(Option.bind (bif (!decide (a2.guard=(-1))) then(Option.bind (f134 t0 a a2.guard 1) λd=>some (!d)) else some false) λe=>some e)) λf=>
 (bif f then some false else(bif (decide (a2.kind=1)) then some (((decide (a2.entry≥0))&&(decide (a2.entry≤7)))&&(decide (a2.time=0))) else letk (λ(g:Bool)=>
 (bif g then Option.bind (bif (decide (a2.entry=0)) then(Option.bind (f134 t0 a a2.time 1) λh=>some h) else some false) λj=>
 some j else some (((decide (a2.kind=4))&&(decide (a2.entry=0)))&&(decide (a2.time=0))))) λc=>
 (bif (decide (a2.kind=2)) then(c (decide (a2.kind=2))) else(c (decide (a2.kind=3))))))
def f92_l2(t0:aj)(d:(List ju)→Int→Int→oB)(a:dJ):Nat→Int→oB
 |0,_=>none
 |na+1,c=>
 (bif (decide (c<(List.length a.alts:Int))) then Option.bind (idx a.alts c) λe=>
 Option.bind (f138 t0 a.obj e) λf=>
 (bif (!f) then some false else(f92_l2 t0 d a na (IntKind.i64.wrap (c+1)))) else(d a.alts a.obj a.else_))
def f92_l1(t0:aj)(d:Unit→oB):Nat→Int→oB
 |0,_=>none
 |n+1,c=>
 (bif (decide (c<(List.length t0.selects:Int))) then letk (λ(h:List ju)(j:Int)(k:Int)=>
 (f92_l1 t0 d n (IntKind.i64.wrap (c+1)))) λe=>
 Option.bind (idx t0.selects c) λa=>
 Option.bind (bif ((decide ((List.length a.alts:Int)<1))||(decide ((List.length a.alts:Int)>16))) then some true else(Option.bind (f134 t0 a.obj 0 1) λf=>some (!f))) λg=>
 (bif (g||((!decide (a.else_=(-1)))&&(!(f30 t0 a.else_)))) then some false else(f92_l2 t0 e a 9223372036854775808 0)) else(d ()))
def f92_l5(a:lI)(c:Int)(e:Unit→oB):Nat→Int→oB
 |0,_=>none
 |nb+1,d=>
 (bif (decide (d<c)) then Option.bind (idx a d) λf=>
 Option.bind (idx a c) λg=>
 (bif (decide (f=g)) then some false else(f92_l5 a c e nb (IntKind.i64.wrap (d+1)))) else(e ()))
def f92_l4(t0:aj)(d:Unit→oB)(a:lI):Nat→Int→oB
 |0,_=>none
 |na+1,c=>
 (bif (decide (c<(List.length a:Int))) then letk (λ(_:Unit)=>
 (f92_l4 t0 d a na (IntKind.i64.wrap (c+1)))) λe=>
 Option.bind (idx a c) λf=>
 Option.bind (bif (decide (f<1)) then some true else(Option.bind (idx a c) λg=>some (decide (g≥(List.length t0.tasks:Int))))) λh=>
 (bif h then some false else(f92_l5 a c e 9223372036854775808 0)) else(d ()))
def f92_l3(t0:aj)(c:Unit→oB):Nat→Int→oB
 |0,_=>none
 |n+1,a=>
 (bif (decide (a<(List.length t0.lists:Int))) then letk (λ(_:Unit)=>
 (f92_l3 t0 c n (IntKind.i64.wrap (a+1)))) λe=>
 Option.bind (idx t0.lists a) λd=>
 (bif (decide ((List.length d:Int)>32)) then some false else(f92_l4 t0 e d 9223372036854775808 0)) else(c ()))
def f92(t0:aj):oB:=
 (bif ((decide ((List.length t0.selects:Int)>1024))||(decide ((List.length t0.lists:Int)>4096))) then some false else letk (λ(_:Unit)=>
 letk (λ(_:Unit)=>
 some true) λa=>
 (f92_l3 t0 a 9223372036854775808 0)) λc=>
 (f92_l1 t0 c 9223372036854775808 0))
def f93_l2(t0:aj)(e:Int)(f:Int→Int→Int→Bool→oB)(a:aG):Nat→Int→oB
 |0,_=>none
 |na+1,d=>
 (bif (decide (d<e)) then Option.bind (idx t0.handlers d) λc=>
 (bif ((!((decide (c.from_≥a.from_))&&(decide (c.to≤a.to))))&&(!((decide (c.to≤a.from_))||(decide (a.to≤c.from_))))) then some false else(f93_l2 t0 e f a na (IntKind.i64.wrap (d+1)))) else(f a.from_ a.to a.at_ a.clean))
def f93_l1(t0:aj)(d:Unit→oB):Nat→Int→oB
 |0,_=>none
 |n+1,c=>
 (bif (decide (c<(List.length t0.handlers:Int))) then letk (λ(f:Int)(g:Int)(h:Int)(j:Bool)=>
 (f93_l1 t0 d n (IntKind.i64.wrap (c+1)))) λe=>
 Option.bind (idx t0.handlers c) λa=>
 (bif (((((decide (a.from_<0))||(decide (a.from_≥a.to)))||(decide (a.to>(List.length t0.insns:Int))))||(!(f30 t0 a.at_)))||((decide (a.at_≥a.from_))&&(decide (a.at_<a.to)))) then some false else(f93_l2 t0 c e a 9223372036854775808 0)) else(d ()))
def f93(t0:aj):oB:=
 (bif (decide ((List.length t0.handlers:Int)>4096)) then some false else letk (λ(_:Unit)=>
 some true) λa=>
 (f93_l1 t0 a 9223372036854775808 0))
def f94_l2(t0:aj)(g:Int)(n:Nat)(h:Int→Int→Int→Int→Int→Int→Int→Int→Int→Int→oB)(e:Loop)(c:aB):Nat→Int→oB
 |0,_=>none
 |na+1,f=>
 (bif (decide (f<g)) then Option.bind (idx t0.loops f) λj=>
 (bif (decide (j.back=e.back)) then some false else(f94_l2 t0 g n h e c na (IntKind.i64.wrap (f+1)))) else(h e.head e.back e.bound c.op c.d c.a c.b c.n c.m c.to))
def f94_l1(t0:aj)(e:Unit→oB):Nat→Int→oB
 |0,_=>none
 |n+1,d=>
 (bif (decide (d<(List.length t0.loops:Int))) then letk (λ(g:Int)(h:Int)(j:Int)(k:Int)(m:Int)(p:Int)(r:Int)(t:Int)(w:Int)(x:Int)=>
 (f94_l1 t0 e n (IntKind.i64.wrap (d+1)))) λf=>
 Option.bind (idx t0.loops d) λa=>
 (bif (((((!(f30 t0 a.head))||(!(f30 t0 a.back)))||(decide (a.head>a.back)))||(decide (a.bound<0)))||(decide (a.bound>2147483647))) then some false else Option.bind (idx t0.insns a.back) λc=>
 (bif ((((!decide (c.op=29))&&(!decide (c.op=30)))&&(!decide (c.op=31)))||(!decide (c.to=a.head))) then some false else(f94_l2 t0 d n f a c 9223372036854775808 0))) else(e ()))
def f94(t0:aj):oB:=
 (bif (decide ((List.length t0.loops:Int)>4096)) then some false else letk (λ(_:Unit)=>
 some true) λa=>
 (f94_l1 t0 a 9223372036854775808 0))
def f201:List Row:=
 [(Row.mk 1 (bA #[108,105]) [fD 68 0 15,fD 78 (-9223372036854775808) 9223372036854775807]),(Row.mk 2 (bA #[109,118]) [fD 68 0 15,fD 65 0 15]),(Row.mk 3 (bA #[108,100]) [fD 68 0 15,fD 78 0 4095,fD 77 0 65535]),(Row.mk 4 (bA #[115,116]) [fD 65 0 15,fD 78 0 4095,fD 77 0 65535]),(Row.mk 5 (bA #[108,100,120]) [fD 68 0 15,fD 65 0 15,fD 66 1 65536,fD 78 0 4095,fD 77 0 65535]),(Row.mk 6 (bA #[115,116,120]) [fD 68 0 15,fD 65 0 15,fD 66 1 65536,fD 78 0 4095,fD 77 0 65535]),(Row.mk 7 (bA #[108,100,97]) [fD 68 0 15,fD 65 0 15]),(Row.mk 8 (bA #[115,116,97]) [fD 68 0 15,fD 65 0 15]),(Row.mk 9 (bA #[97,100,100]) [fD 68 0 15,fD 65 0 15,fD 66 0 15]),(Row.mk 10 (bA #[115,117,98]) [fD 68 0 15,fD 65 0 15,fD 66 0 15]),(Row.mk 11 (bA #[109,117,108]) [fD 68 0 15,fD 65 0 15,fD 66 0 15]),(Row.mk 12 (bA #[100,105,118]) [fD 68 0 15,fD 65 0 15,fD 66 0 15]),(Row.mk 13 (bA #[114,101,109]) [fD 68 0 15,fD 65 0 15,fD 66 0 15]),(Row.mk 14 (bA #[109,111,100]) [fD 68 0 15,fD 65 0 15,fD 66 0 15]),(Row.mk 15 (bA #[101,113]) [fD 68 0 15,fD 65 0 15,fD 66 0 15]),(Row.mk 16 (bA #[110,101]) [fD 68 0 15,fD 65 0 15,fD 66 0 15]),(Row.mk 17 (bA #[108,116]) [fD 68 0 15,fD 65 0 15,fD 66 0 15]),(Row.mk 18 (bA #[108,101]) [fD 68 0 15,fD 65 0 15,fD 66 0 15]),(Row.mk 19 (bA #[103,116]) [fD 68 0 15,fD 65 0 15,fD 66 0 15]),(Row.mk 20 (bA #[103,101]) [fD 68 0 15,fD 65 0 15,fD 66 0 15]),(Row.mk 21 (bA #[97,110,100]) [fD 68 0 15,fD 65 0 15,fD 66 0 15]),(Row.mk 22 (bA #[111,114]) [fD 68 0 15,fD 65 0 15,fD 66 0 15]),(Row.mk 23 (bA #[120,111,114]) [fD 68 0 15,fD 65 0 15,fD 66 0 15]),(Row.mk 24 (bA #[110,101,103]) [fD 68 0 15,fD 65 0 15]),(Row.mk 25 (bA #[97,98,115]) [fD 68 0 15,fD 65 0 15]),(Row.mk 26 (bA #[110,111,116]) [fD 68 0 15,fD 65 0 15]),(Row.mk 27 (bA #[99,104,107]) [fD 65 0 15,fD 78 (-9223372036854775808) 9223372036854775807,fD 77 (-9223372036854775808) 9223372036854775807]),(Row.mk 28 (bA #[99,104,107,122]) [fD 65 0 15]),(Row.mk 29 (bA #[106,109,112]) [fD 84 0 65535]),(Row.mk 30 (bA #[106,122]) [fD 65 0 15,fD 84 0 65535]),(Row.mk 31 (bA #[106,110,122]) [fD 65 0 15,fD 84 0 65535]),(Row.mk 32 (bA #[106,116]) [fD 65 0 15,fD 78 (-9223372036854775808) 9223372036854775807,fD 77 1 65536,fD 84 0 65535]),(Row.mk 33 (bA #[114,97,105,115,101]) [fD 78 1 64]),(Row.mk 34 (bA #[114,97,105,115,101,114]) [fD 65 0 15]),(Row.mk 35 (bA #[99,111,110,116]) [fD 65 0 15]),(Row.mk 36 (bA #[101,120,99]) [fD 68 0 15]),(Row.mk 37 (bA #[109,97,114,107]) [fD 78 6 7,fD 77 0 65535]),(Row.mk 38 (bA #[103,101,116]) [fD 68 0 15]),(Row.mk 39 (bA #[112,117,116]) [fD 65 0 15]),(Row.mk 40 (bA #[100,101,102,101,114]) []),(Row.mk 41 (bA #[97,108,108,111,119]) []),(Row.mk 42 (bA #[99,108,111,99,107]) [fD 68 0 15]),(Row.mk 43 (bA #[99,111,117,110,116]) [fD 68 0 15,fD 78 0 7,fD 77 (-1) 31]),(Row.mk 44 (bA #[115,116,97,114,116]) [fD 78 0 65535]),(Row.mk 45 (bA #[110,101,118,101,114]) [fD 78 0 65535]),(Row.mk 46 (bA #[97,119,97,105,116]) [fD 65 0 15,fD 78 0 65535]),(Row.mk 47 (bA #[100,101,108,97,121]) [fD 65 0 15]),(Row.mk 48 (bA #[117,110,116,105,108]) [fD 65 0 15]),(Row.mk 49 (bA #[99,97,108,108]) [fD 68 0 15,fD 65 0 31,fD 66 0 7,fD 78 0 4095,fD 77 0 3]),(Row.mk 50 (bA #[115,101,108]) [fD 78 0 1023]),(Row.mk 51 (bA #[100,111,110,101]) [fD 78 0 1]),(Row.mk 52 (bA #[114,101,113]) [fD 65 0 31,fD 66 0 7,fD 78 0 1,fD 84 0 65535]),(Row.mk 53 (bA #[108,111,99,107]) [fD 78 0 31]),(Row.mk 54 (bA #[112,101,110,116]) [fD 68 0 15,fD 65 0 15,fD 66 0 3,fD 78 0 31,fD 77 0 7]),(Row.mk 55 (bA #[117,110,108,111,99,107]) [fD 78 0 31]),(Row.mk 56 (bA #[97,98,111,114,116]) [fD 78 0 65535]),(Row.mk 57 (bA #[101,110,100]) [])]
def f160_l1(o0:Int)(c:Unit→Option (Row×Bool)):Nat→Int→Option (Row×Bool)
 |0,_=>none
 |n+1,a=>
 (bif (decide (a<(List.length f201:Int))) then Option.bind (idx f201 a) λd=>
 (bif (decide (d.op=o0)) then Option.bind (idx f201 a) λe=>
 some (e,true) else(f160_l1 o0 c n (IntKind.i64.wrap (a+1)))) else(c ()))
def f160(o0:Int):Option (Row×Bool):=
 letk (λ(_:Unit)=>
 some ((Row.mk 0 ByteArray.empty []),false)) λa=>
 (f160_l1 o0 a 9223372036854775808 0)
def f161(x0:aB)(f1:Int):Int:=
 (bif (decide (f1=68)) then x0.d else(bif (decide (f1=65)) then x0.a else(bif (decide (f1=66)) then x0.b else(bif (decide (f1=78)) then x0.n else(bif (decide (f1=77)) then x0.m else x0.to)))))
def f162(x0:aB)(f1:Int)(v2:Int):aB:=
 letk (λ(e:Int)(f:Int)(g:Int)(h:Int)(j:Int)(k:Int)=>
 (aB.mk x0.op e f g h j k)) λc=>
 (bif (decide (f1=68)) then(c v2 x0.a x0.b x0.n x0.m x0.to) else(bif (decide (f1=65)) then(c x0.d v2 x0.b x0.n x0.m x0.to) else(bif (decide (f1=66)) then(c x0.d x0.a v2 x0.n x0.m x0.to) else(bif (decide (f1=78)) then(c x0.d x0.a x0.b v2 x0.m x0.to) else(bif (decide (f1=77)) then(c x0.d x0.a x0.b x0.n v2 x0.to) else(c x0.d x0.a x0.b x0.n x0.m v2))))))
def f139_l1(x0:aB)(r:Row×Bool)(w:Int→Int→Int→Int→Int→Int→Int→oB):Nat→Int→Int→Int→Int→Int→Int→Int→Int→oB
 |0,_,_,_,_,_,_,_,_=>none
 |n+1,t,e,f,g,h,j,k,p=>
 (bif (decide (t<(List.length r.1.fields:Int))) then Option.bind (idx r.1.fields t) λc=>
 (bif ((decide ((f161 x0 c.name)<c.lo))||(decide ((f161 x0 c.name)>c.hi))) then some false else(f139_l1 x0 r w n (IntKind.i64.wrap (t+1)) ((f162 (aB.mk e f g h j k p) c.name 0).op) ((f162 (aB.mk e f g h j k p) c.name 0).d) ((f162 (aB.mk e f g h j k p) c.name 0).a) ((f162 (aB.mk e f g h j k p) c.name 0).b) ((f162 (aB.mk e f g h j k p) c.name 0).n) ((f162 (aB.mk e f g h j k p) c.name 0).m) ((f162 (aB.mk e f g h j k p) c.name 0).to))) else(w e f g h j k p))
def f139(x0:aB):oB:=
 Option.bind (f160 x0.op) λc=>
 (bif (!c.2) then some false else letk (λ(e:Int)(f:Int)(g:Int)(h:Int)(j:Int)(k:Int)(p:Int)=>
 some (((((decide (e=0))&&((decide (f=0))&&((decide (g=0))&&((decide (h=0))&&((decide (j=0))&&((decide (k=0))&&((decide (p=0))&&true))))))))&&((!decide (x0.op=27))||(decide (x0.n≤x0.m))))&&(((!decide (x0.op=37))||(!decide (x0.n=6)))||(decide (x0.m=0))))) λr=>
 (f139_l1 x0 c r 9223372036854775808 0 0 x0.d x0.a x0.b x0.n x0.m x0.to))
def f140_l1(t0:aj)(c:Int)(d:Int)(e:Unit→oB):Nat→Int→oB
 |0,_=>none
 |n+1,a=>
 (bif (decide (a<(IntKind.i64.wrap (c+d)))) then Option.bind (idx t0.insns a) λf=>
 (bif (!decide (f.op=29)) then some false else(f140_l1 t0 c d e n (IntKind.i64.wrap (a+1)))) else(e ()))
def f140(t0:aj)(a:Int)(c:Int):oB:=
 (bif (decide ((IntKind.i64.wrap (a+c))>(List.length t0.insns:Int))) then some false else letk (λ(_:Unit)=>
 some true) λd=>
 (f140_l1 t0 a c d 9223372036854775808 a))
def f141(t0:aj)(a:Int)(n2:Int):Option (cr×Bool):=
 Option.bind (bif (((decide (a<0))||(decide (a≥(List.length t0.tasks:Int))))||(decide (n2<0))) then some true else(Option.bind (idx t0.tasks a) λc=>some (decide (n2≥(List.length c.entries:Int))))) λd=>
 (bif d then some ((cr.mk [] []),false) else Option.bind (idx t0.tasks a) λe=>
 Option.bind (idx e.entries n2) λf=>
 some (f,true))
def f142(t0:aj)(p1:Int)(n2:Int):oB:=
 Option.bind (bif (((decide (p1≥0))&&(decide (p1<(List.length t0.prots:Int))))&&(decide (n2≥0))) then(Option.bind (idx t0.prots p1) λa=>some (decide (n2<(List.length a.barriers:Int)))) else some false) λc=>
 some c
def f95(t0:aj)(x1:aB):oB:=
 Option.bind (f139 x1) λj=>
 (bif (!j) then some false else letk (λ(k:Bool)=>
 (bif k then Option.bind (f134 t0 x1.n x1.m 1) λp=>
 some p else letk (λ(r:Bool)=>
 (bif r then Option.bind (f134 t0 x1.n x1.m x1.b) λt=>
 some t else letk (λ(w:Bool)=>
 (bif w then some (f30 t0 x1.to) else(bif (decide (x1.op=32)) then Option.bind (f140 t0 x1.to x1.m) λx=>
 some x else(bif (decide (x1.op=33)) then some (decide (x1.n≤t0.excs)) else letk (λ(y:Bool)=>
 (bif y then some (decide (x1.n<(List.length t0.lists:Int))) else(bif (decide (x1.op=50)) then some (decide (x1.n<(List.length t0.selects:Int))) else(bif (decide (x1.op=49)) then Option.bind (f141 t0 x1.a x1.b) λd=>
 Option.bind (bif d.2 then(Option.bind (f134 t0 x1.n 0 (IntKind.i64.wrap ((IntKind.i64.wrap ((List.length d.1.ins:Int)+(List.length d.1.outs:Int)))+1))) λA=>some A) else some false) λB=>
 some B else(bif (decide (x1.op=52)) then Option.bind (f141 t0 x1.a x1.b) λC=>
 some (C.2&&(f30 t0 x1.to)) else letk (λ(E:Bool)=>
 (bif E then some (decide (x1.n<(List.length t0.prots:Int))) else(bif (decide (x1.op=54)) then Option.bind (f142 t0 x1.n x1.m) λF=>
 some F else(bif (decide (x1.op=43)) then Option.bind (bif (decide (x1.m=(-1))) then some true else(Option.bind (f142 t0 x1.m x1.n) λG=>some G)) λH=>
 some H else some true)))) λf=>
 (bif (decide (x1.op=53)) then(f (decide (x1.op=53))) else(f (decide (x1.op=55))))))))) λc=>
 (bif (decide (x1.op=44)) then(c (decide (x1.op=44))) else(bif (decide (x1.op=45)) then(c (decide (x1.op=45))) else(bif (decide (x1.op=46)) then(c (decide (x1.op=46))) else(c (decide (x1.op=56)))))))))) λe=>
 (bif (decide (x1.op=29)) then(e (decide (x1.op=29))) else(bif (decide (x1.op=30)) then(e (decide (x1.op=30))) else(e (decide (x1.op=31))))))) λg=>
 (bif (decide (x1.op=5)) then(g (decide (x1.op=5))) else(g (decide (x1.op=6)))))) λh=>
 (bif (decide (x1.op=3)) then(h (decide (x1.op=3))) else(h (decide (x1.op=4)))))
def f48_l1(t0:aj)(c:Unit→oB):Nat→Int→oB
 |0,_=>none
 |n+1,a=>
 (bif (decide (a<(List.length t0.insns:Int))) then Option.bind (idx t0.insns a) λd=>
 Option.bind (f95 t0 d) λe=>
 (bif (!e) then some false else(f48_l1 t0 c n (IntKind.i64.wrap (a+1)))) else(c ()))
def f48(t0:aj):oB:=
 Option.bind (bif ((decide ((List.length t0.insns:Int)<1))||(decide ((List.length t0.insns:Int)>65536))) then some true else(Option.bind (f89 t0) λc=>some (!c))) λd=>
 Option.bind (bif d then some true else(Option.bind (f90 t0) λe=>some (!e))) λf=>
 Option.bind (bif f then some true else(Option.bind (f91 t0) λg=>some (!g))) λh=>
 Option.bind (bif h then some true else(Option.bind (f92 t0) λj=>some (!j))) λk=>
 Option.bind (bif k then some true else(Option.bind (f93 t0) λm=>some (!m))) λp=>
 Option.bind (bif p then some true else(Option.bind (f94 t0) λr=>some (!r))) λt=>
 (bif t then some false else letk (λ(_:Unit)=>
 Option.bind (idx t0.insns (IntKind.i64.wrap ((List.length t0.insns:Int) - 1))) λa=>
 some ((((decide (a.op=29))||(decide (a.op=33)))||(decide (a.op=34)))||(decide (a.op=57)))) λw=>
 (f48_l1 t0 w 9223372036854775808 0))
def f49_l2(t0:aj)(d:Int)(e:lI→Option lL):Nat→Int→lI→Option lL
 |0,_,_=>none
 |na+1,a,c=>
 Option.bind (bif (decide (a<(List.length c:Int))) then(Option.bind (idx t0.objs d) λf=>Option.bind (f34 f 0) λg=>some (!g)) else some false) λh=>
 (bif h then Option.bind (idx t0.objs d) λj=>
 Option.bind (idx c a) λk=>
 (f49_l2 t0 d e na (IntKind.i64.wrap (a+1)) (List.set c (Int.toNat a) j.lo)) else(e c))
def f49_l1(t0:aj)(c:lL→Option lL):Nat→Int→lL→Option lL
 |0,_,_=>none
 |n+1,a,l96=>
 (bif (decide (a<(List.length t0.objs:Int))) then letk (λ(f:lL)=>
 (f49_l1 t0 c n (IntKind.i64.wrap (a+1)) f)) λg=>
 Option.bind (idx t0.objs a) λd=>
 aI (m9 8 d.size)<|
 letk (λ(e:lI)=>
 aI (cq 24 l96 [e])<|
 (g (l96++ [e]))) λh=>
 (f49_l2 t0 a h 9223372036854775808 0 (List.replicate (Int.toNat d.size) (0:Int))) else(c l96))
def f49_l3(t0:aj)(d:lL→Option lL):Nat→Int→lL→Option lL
 |0,_,_=>none
 |n+1,a,c=>
 (bif (decide (a<(List.length t0.inits:Int))) then Option.bind (idx t0.inits a) λe=>
 Option.bind (idx c e.o) λf=>
 Option.bind (idx t0.inits a) λg=>
 Option.bind (idx t0.inits a) λh=>
 Option.bind (idx f g.slot) λj=>
 (f49_l3 t0 d n (IntKind.i64.wrap (a+1)) (List.set c (Int.toNat e.o) (List.set f (Int.toNat g.slot) h.v))) else(d c))
def f49(t0:aj):Option lL:=
 Option.bind (f48 t0) λa=>
 (bif (!a) then some [] else letk (λ(c:lL)=>
 letk (λ(d:lL)=>
 some d) λe=>
 (f49_l3 t0 e 9223372036854775808 0 c)) λf=>
 (f49_l1 t0 f 9223372036854775808 0 ([]:lL)))
def f16(t0:aj)(a:lI):Option (Mem×Int):=
 Option.bind (f48 t0) λc=>
 (bif (!c) then some ((Mem.mk (aj.mk [] [] [] [] [] [] [] 0 [] [] []) [] [] []),2) else Option.bind (f49 t0) λd=>
 some ((Mem.mk t0 d a []),0))
def f31(t0:aj)(r1:aq):Bool:=
 (((((f30 t0 r1.pc)&&(decide (r1.exc≥(-2))))&&(decide (r1.exc≤t0.excs)))&&(decide (r1.defer≥0)))&&(decide (r1.defer≤1000000)))
def f50(o0:Int):Bool:=
 ((decide (o0≥1))&&(decide (o0≤41)))
def f64_l1(m0:Mem)(e:lL→Option (Mem×Bool)):Nat→Int→lL→Option (Mem×Bool)
 |0,_,_=>none
 |n+1,a,c=>
 (bif (decide (a<(List.length m0.slots:Int))) then Option.bind (idx m0.slots a) λd=>
 aI (cq 8 [] d)<|
 aI (cq 24 c [([]++d)])<|
 (f64_l1 m0 e n (IntKind.i64.wrap (a+1)) (c++ [([]++d)])) else(e c))
def f64(m0:Mem)(o1:Int)(k2:Int)(v3:Int):Option (Mem×Bool):=
 Option.bind (idx m0.t.objs o1) λd=>
 Option.bind (f34 d v3) λe=>
 (bif (!e) then some (m0,false) else letk (λ(a:lL)=>
 Option.bind (idx a o1) λc=>
 Option.bind (idx c k2) λg=>
 some ((Mem.mk m0.t (List.set a (Int.toNat o1) (List.set c (Int.toNat k2) v3)) m0.in_ m0.out),true)) λf=>
 (f64_l1 m0 f 9223372036854775808 0 ([]:lL)))
def f96(m0:Mem):av:=
 (av.mk m0 (aq.mk (λj=>0) 0 0 0) [] 280)
def f97(s0:av):av:=
 letk (λ(c:Int)=>
 (av.mk s0.m (aq.mk s0.r.r (IntKind.i64.wrap (s0.r.pc+1)) s0.r.exc s0.r.defer) s0.acts c)) λa=>
 (bif (!(f30 s0.m.t (IntKind.i64.wrap (s0.r.pc+1)))) then(a 280) else(a s0.e))
def f51(s0:av)(x1:aB):Option av:=
 aI (bK 16 x1.d)<|
 aI (bK 16 x1.a)<|
 letk (λ(w:Int)=>
 letk (λ(x:Int)=>
 letk (λ(g:Int)(h:Int)=>
 (bif (((decide (x1.op=3))||(decide (x1.op=5)))||(decide (x1.op=7))) then Option.bind (idx s0.m.slots g) λy=>
 Option.bind (idx y h) λf=>
 aI (bK 16 x1.d)<|
 some (av.mk (Mem.mk (((f97 (av.mk s0.m (aq.mk (bW s0.r.r (Int.toNat x1.d) f) s0.r.pc s0.r.exc s0.r.defer) s0.acts s0.e)).m).t) (((f97 (av.mk s0.m (aq.mk (bW s0.r.r (Int.toNat x1.d) f) s0.r.pc s0.r.exc s0.r.defer) s0.acts s0.e)).m).slots) (((f97 (av.mk s0.m (aq.mk (bW s0.r.r (Int.toNat x1.d) f) s0.r.pc s0.r.exc s0.r.defer) s0.acts s0.e)).m).in_) (((f97 (av.mk s0.m (aq.mk (bW s0.r.r (Int.toNat x1.d) f) s0.r.pc s0.r.exc s0.r.defer) s0.acts s0.e)).m).out)) ((f97 (av.mk s0.m (aq.mk (bW s0.r.r (Int.toNat x1.d) f) s0.r.pc s0.r.exc s0.r.defer) s0.acts s0.e)).r) ((f97 (av.mk s0.m (aq.mk (bW s0.r.r (Int.toNat x1.d) f) s0.r.pc s0.r.exc s0.r.defer) s0.acts s0.e)).acts) ((f97 (av.mk s0.m (aq.mk (bW s0.r.r (Int.toNat x1.d) f) s0.r.pc s0.r.exc s0.r.defer) s0.acts s0.e)).e)) else Option.bind (f64 s0.m g h w) λc=>
 (bif (!c.2) then some (av.mk (Mem.mk (((f96 s0.m).m).t) (((f96 s0.m).m).slots) (((f96 s0.m).m).in_) (((f96 s0.m).m).out)) ((f96 s0.m).r) ((f96 s0.m).acts) ((f96 s0.m).e)) else some (av.mk (Mem.mk (((f97 (av.mk c.1 s0.r s0.acts s0.e)).m).t) (((f97 (av.mk c.1 s0.r s0.acts s0.e)).m).slots) (((f97 (av.mk c.1 s0.r s0.acts s0.e)).m).in_) (((f97 (av.mk c.1 s0.r s0.acts s0.e)).m).out)) ((f97 (av.mk c.1 s0.r s0.acts s0.e)).r) ((f97 (av.mk c.1 s0.r s0.acts s0.e)).acts) ((f97 (av.mk c.1 s0.r s0.acts s0.e)).e))))) λj=>
 (bif ((decide (x1.op=7))||(decide (x1.op=8))) then(bif ((decide ((s0.r.r (Int.toNat x1.a))<1))||(decide ((s0.r.r (Int.toNat x1.a))>(List.length s0.m.slots:Int)))) then some (av.mk (Mem.mk (((f96 s0.m).m).t) (((f96 s0.m).m).slots) (((f96 s0.m).m).in_) (((f96 s0.m).m).out)) ((f96 s0.m).r) ((f96 s0.m).acts) ((f96 s0.m).e)) else(j (IntKind.i64.wrap ((s0.r.r (Int.toNat x1.a)) - 1)) 0)) else(j x1.n x))) λk=>
 (bif ((decide (x1.op=5))||(decide (x1.op=6))) then(bif ((decide ((s0.r.r (Int.toNat x1.a))<0))||(decide ((s0.r.r (Int.toNat x1.a))≥x1.b))) then some (av.mk (Mem.mk (((f96 s0.m).m).t) (((f96 s0.m).m).slots) (((f96 s0.m).m).in_) (((f96 s0.m).m).out)) ((f96 s0.m).r) ((f96 s0.m).acts) ((f96 s0.m).e)) else(k (IntKind.i64.wrap (x1.m+(s0.r.r (Int.toNat x1.a)))))) else(k x1.m))) λp=>
 (bif (decide (x1.op=4)) then(p (s0.r.r (Int.toNat x1.a))) else(p (s0.r.r (Int.toNat x1.d))))
def f52_l1(s0:av)(x1:aB)(d:Unit→Option (av)):Nat→Int→Option (av)
 |0,_=>none
 |n+1,c=>
 (bif (decide (c<x1.m)) then(bif ((decide ((IntKind.i64.wrap (x1.n+c))≥x1.n))&&(decide ((s0.r.r (Int.toNat x1.a))=(IntKind.i64.wrap (x1.n+c))))) then some (av.mk s0.m (aq.mk s0.r.r (IntKind.i64.wrap (x1.to+c)) s0.r.exc s0.r.defer) s0.acts s0.e) else(f52_l1 s0 x1 d n (IntKind.i64.wrap (c+1)))) else(d ()))
def f52(s0:av)(x1:aB):Option av:=
 aI (bK 16 x1.a)<|
 letk (λ(_:Unit)=>
 some (av.mk (Mem.mk (((f97 s0).m).t) (((f97 s0).m).slots) (((f97 s0).m).in_) (((f97 s0).m).out)) ((f97 s0).r) ((f97 s0).acts) ((f97 s0).e))) λc=>
 (bif (decide (x1.op=29)) then some (av.mk s0.m (aq.mk s0.r.r x1.to s0.r.exc s0.r.defer) s0.acts s0.e) else letk (λ(f:Bool)=>
 (bif f then(bif (((decide ((s0.r.r (Int.toNat x1.a))=0))==(decide (x1.op=30)))) then some (av.mk s0.m (aq.mk s0.r.r x1.to s0.r.exc s0.r.defer) s0.acts s0.e) else(c ())) else(bif (decide (x1.op=32)) then(f52_l1 s0 x1 c 9223372036854775808 0) else(c ())))) λd=>
 (bif (decide (x1.op=30)) then(d (decide (x1.op=30))) else(d (decide (x1.op=31)))))
def f103_l1(t0:aj)(c:Int)(c2:Int)(e:Unit→Option (Int)):Nat→Int→Option (Int)
 |0,_=>none
 |n+1,a=>
 (bif ((decide (a<(List.length t0.handlers:Int)))&&(!decide (c2=0))) then Option.bind (idx t0.handlers a) λd=>
 (bif (((decide (d.from_≤c))&&(decide (c<d.to)))&&((decide (c2>0))||d.clean)) then some a else(f103_l1 t0 c c2 e n (IntKind.i64.wrap (a+1)))) else(e ()))
def f103(t0:aj)(a:Int)(c2:Int):Option Int:=
 letk (λ(_:Unit)=>
 some (-1)) λc=>
 (f103_l1 t0 a c2 c 9223372036854775808 0)
def f60(t0:aj)(r1:aq)(c2:Int):Option (aq×Int):=
 Option.bind (f103 t0 r1.pc c2) λa=>
 (bif (decide (a<0)) then some ((aq.mk (λj=>0) 0 0 0),280) else Option.bind (idx t0.handlers a) λc=>
 letk (λ(d:Int)=>
 (bif (decide (d>1000000)) then some ((aq.mk (λj=>0) 0 0 0),280) else some ((aq.mk (λj=>0) c.at_ c2 d),0))) λe=>
 (bif c.clean then(e (IntKind.i64.wrap (r1.defer+1))) else(e r1.defer)))
def f57(t0:aj)(r1:aq)(n2:Int):Option (aq×lA×Int):=
 Option.bind (f60 t0 r1 n2) λa=>
 (bif (!decide (a.2=0)) then some ((aq.mk (λj=>0) 0 0 0),[],a.2) else some (a.1,[(Act.mk 0 0 5 n2 0 0)],0))
def f53(s0:av)(x1:aB):Option av:=
 aI (bK 16 x1.a)<|
 letk (λ(k:Int)(f:lI)(g:Nat→Int)(h:lA)=>
 (bif (decide (k>0)) then Option.bind (f57 s0.m.t (aq.mk g s0.r.pc s0.r.exc s0.r.defer) k) λj=>
 some (av.mk (Mem.mk s0.m.t s0.m.slots f s0.m.out) j.1 j.2.1 j.2.2) else some (av.mk (Mem.mk (((f97 (av.mk (Mem.mk s0.m.t s0.m.slots f s0.m.out) (aq.mk g s0.r.pc s0.r.exc s0.r.defer) h s0.e)).m).t) (((f97 (av.mk (Mem.mk s0.m.t s0.m.slots f s0.m.out) (aq.mk g s0.r.pc s0.r.exc s0.r.defer) h s0.e)).m).slots) (((f97 (av.mk (Mem.mk s0.m.t s0.m.slots f s0.m.out) (aq.mk g s0.r.pc s0.r.exc s0.r.defer) h s0.e)).m).in_) (((f97 (av.mk (Mem.mk s0.m.t s0.m.slots f s0.m.out) (aq.mk g s0.r.pc s0.r.exc s0.r.defer) h s0.e)).m).out)) ((f97 (av.mk (Mem.mk s0.m.t s0.m.slots f s0.m.out) (aq.mk g s0.r.pc s0.r.exc s0.r.defer) h s0.e)).r) ((f97 (av.mk (Mem.mk s0.m.t s0.m.slots f s0.m.out) (aq.mk g s0.r.pc s0.r.exc s0.r.defer) h s0.e)).acts) ((f97 (av.mk (Mem.mk s0.m.t s0.m.slots f s0.m.out) (aq.mk g s0.r.pc s0.r.exc s0.r.defer) h s0.e)).e)))) λc=>
 (bif (decide (x1.op=27)) then(bif ((decide ((s0.r.r (Int.toNat x1.a))<x1.n))||(decide ((s0.r.r (Int.toNat x1.a))>x1.m))) then(c 1 s0.m.in_ s0.r.r s0.acts) else(c 0 s0.m.in_ s0.r.r s0.acts)) else(bif (decide (x1.op=28)) then(bif (decide ((s0.r.r (Int.toNat x1.a))=0)) then(c 1 s0.m.in_ s0.r.r s0.acts) else(c 0 s0.m.in_ s0.r.r s0.acts)) else(bif (decide (x1.op=33)) then(c x1.n s0.m.in_ s0.r.r s0.acts) else(bif (decide (x1.op=34)) then(bif ((decide ((s0.r.r (Int.toNat x1.a))<1))||(decide ((s0.r.r (Int.toNat x1.a))>s0.m.t.excs))) then some (av.mk (Mem.mk (((f96 s0.m).m).t) (((f96 s0.m).m).slots) (((f96 s0.m).m).in_) (((f96 s0.m).m).out)) ((f96 s0.m).r) ((f96 s0.m).acts) ((f96 s0.m).e)) else(c (s0.r.r (Int.toNat x1.a)) s0.m.in_ s0.r.r s0.acts)) else(bif (decide (x1.op=35)) then(bif ((decide ((s0.r.r (Int.toNat x1.a))<(-2)))||(decide ((s0.r.r (Int.toNat x1.a))>s0.m.t.excs))) then some (av.mk (Mem.mk (((f96 s0.m).m).t) (((f96 s0.m).m).slots) (((f96 s0.m).m).in_) (((f96 s0.m).m).out)) ((f96 s0.m).r) ((f96 s0.m).acts) ((f96 s0.m).e)) else(bif (!decide ((s0.r.r (Int.toNat x1.a))=0)) then Option.bind (f60 s0.m.t s0.r (s0.r.r (Int.toNat x1.a))) λp=>
 some (av.mk s0.m p.1 s0.acts p.2) else(c 0 s0.m.in_ s0.r.r s0.acts))) else(bif (decide (x1.op=38)) then(bif (decide ((List.length s0.m.in_:Int)=0)) then(c 4 s0.m.in_ s0.r.r s0.acts) else Option.bind (idx s0.m.in_ 0) λw=>
 aI (bK 16 x1.d)<|
 Option.bind (idx s0.m.in_ 0) λx=>
 aI (dN s0.m.in_ 1 (List.length s0.m.in_:Int))<|
 (c 0 (cC s0.m.in_ 1 (List.length s0.m.in_:Int)) (bW s0.r.r (Int.toNat x1.d) w) [(Act.mk 0 0 2 x 0 0)])) else(c 0 s0.m.in_ s0.r.r s0.acts)))))))
def f143(a0:Int)(b1:Int):Option Int:=
 aI (nz b1)<|
 letk (λ(c:Int)=>
 some c) λa=>
 (bif ((!decide ((Int.tmod a0 b1)=0))&&(!((decide ((Int.tmod a0 b1)<0))==(decide (b1<0))))) then(a (IntKind.i64.wrap ((Int.tmod a0 b1)+b1))) else(a (Int.tmod a0 b1)))
def f144(b0:Bool):Int:=
 (bif b0 then 1 else 0)
def f98(a:Int)(a1:Int)(b2:Int):Option (Int×Bool):=
 (bif (decide (a=1)) then some ((IntKind.i64.wrap (a1+b2)),true) else(bif (decide (a=2)) then some ((IntKind.i64.wrap (a1 - b2)),true) else(bif (decide (a=3)) then some ((IntKind.i64.wrap (a1*b2)),true) else letk (λ(d:Bool)=>
 (bif d then(bif (decide (b2=0)) then some (0,false) else(bif ((decide (b2=(-1)))&&(decide (a=4))) then some ((IntKind.i64.wrap (0 - a1)),true) else(bif (decide (b2=(-1))) then some (0,true) else(bif (decide (a=4)) then aI (nz b2)<|
 some ((IntKind.i64.wrap (Int.tdiv a1 b2)),true) else(bif (decide (a=5)) then aI (nz b2)<|
 some ((Int.tmod a1 b2),true) else Option.bind (f143 a1 b2) λe=>
 some (e,true)))))) else(bif (decide (a=7)) then some ((f144 (decide (a1=b2))),true) else(bif (decide (a=8)) then some ((f144 (!decide (a1=b2))),true) else(bif (decide (a=9)) then some ((f144 (decide (a1<b2))),true) else(bif (decide (a=10)) then some ((f144 (decide (a1≤b2))),true) else(bif (decide (a=11)) then some ((f144 (decide (a1>b2))),true) else(bif (decide (a=12)) then some ((f144 (decide (a1≥b2))),true) else(bif (decide (a=13)) then some ((IntKind.i64.wrap (BitVec.ofInt IntKind.i64.bits a1&&&BitVec.ofInt IntKind.i64.bits b2).toNat),true) else(bif (decide (a=14)) then some ((IntKind.i64.wrap (BitVec.ofInt IntKind.i64.bits a1|||BitVec.ofInt IntKind.i64.bits b2).toNat),true) else(bif (decide (a=15)) then some ((IntKind.i64.wrap (BitVec.ofInt IntKind.i64.bits a1^^^BitVec.ofInt IntKind.i64.bits b2).toNat),true) else(bif (decide (a=16)) then some ((IntKind.i64.wrap (0 - a1)),true) else(bif (decide (a=17)) then(bif (decide (a1<0)) then some ((IntKind.i64.wrap (0 - a1)),true) else some (a1,true)) else(bif (decide (a=18)) then some ((IntKind.i64.wrap (1 - a1)),true) else some (0,false))))))))))))))) λc=>
 (bif (decide (a=4)) then(c (decide (a=4))) else(bif (decide (a=5)) then(c (decide (a=5))) else(c (decide (a=6))))))))
def f99_l1(o0:Int)(c:Unit→Option (Int)):Nat→Int→Option (Int)
 |0,_=>none
 |n+1,a=>
 (bif (decide (a<(List.length [9,10,11,12,13,14,15,16,17,18,19,20,21,22,23,24,25,26]:Int))) then Option.bind (idx [9,10,11,12,13,14,15,16,17,18,19,20,21,22,23,24,25,26] a) λd=>
 (bif (decide (d=o0)) then Option.bind (idx [1,2,3,4,5,6,7,8,9,10,11,12,13,14,15,16,17,18] a) λe=>
 some e else(f99_l1 o0 c n (IntKind.i64.wrap (a+1)))) else(c ()))
def f99(o0:Int):Option Int:=
 letk (λ(_:Unit)=>
 some 0) λa=>
 (f99_l1 o0 a 9223372036854775808 0)
def f54(s0:av)(x1:aB):Option av:=
 aI (bK 16 x1.a)<|
 letk (λ(c:lI)(f:Nat→Int)(g:Int)(h:lA)=>
 some (av.mk (Mem.mk (((f97 (av.mk (Mem.mk s0.m.t s0.m.slots s0.m.in_ c) (aq.mk f s0.r.pc s0.r.exc g) h s0.e)).m).t) (((f97 (av.mk (Mem.mk s0.m.t s0.m.slots s0.m.in_ c) (aq.mk f s0.r.pc s0.r.exc g) h s0.e)).m).slots) (((f97 (av.mk (Mem.mk s0.m.t s0.m.slots s0.m.in_ c) (aq.mk f s0.r.pc s0.r.exc g) h s0.e)).m).in_) (((f97 (av.mk (Mem.mk s0.m.t s0.m.slots s0.m.in_ c) (aq.mk f s0.r.pc s0.r.exc g) h s0.e)).m).out)) ((f97 (av.mk (Mem.mk s0.m.t s0.m.slots s0.m.in_ c) (aq.mk f s0.r.pc s0.r.exc g) h s0.e)).r) ((f97 (av.mk (Mem.mk s0.m.t s0.m.slots s0.m.in_ c) (aq.mk f s0.r.pc s0.r.exc g) h s0.e)).acts) ((f97 (av.mk (Mem.mk s0.m.t s0.m.slots s0.m.in_ c) (aq.mk f s0.r.pc s0.r.exc g) h s0.e)).e))) λj=>
 (bif (decide (x1.op=1)) then aI (bK 16 x1.d)<|
 (j s0.m.out (bW s0.r.r (Int.toNat x1.d) x1.n) s0.r.defer s0.acts) else(bif (decide (x1.op=2)) then aI (bK 16 x1.d)<|
 (j s0.m.out (bW s0.r.r (Int.toNat x1.d) (s0.r.r (Int.toNat x1.a))) s0.r.defer s0.acts) else(bif (decide (x1.op=36)) then aI (bK 16 x1.d)<|
 (j s0.m.out (bW s0.r.r (Int.toNat x1.d) s0.r.exc) s0.r.defer s0.acts) else(bif (decide (x1.op=37)) then letk (λ(A:Int)=>
 (j s0.m.out s0.r.r s0.r.defer [(Act.mk 0 0 (IntKind.u8.wrap x1.n) A 0 0)])) λp=>
 (bif (decide ((IntKind.u8.wrap x1.n)=6)) then(p s0.r.exc) else(p x1.m)) else(bif (decide (x1.op=39)) then aI (cq 8 [] s0.m.out)<|
 aI (cq 8 ([]++s0.m.out) [(s0.r.r (Int.toNat x1.a))])<|
 (j (([]++s0.m.out)++ [(s0.r.r (Int.toNat x1.a))]) s0.r.r s0.r.defer [(Act.mk 0 0 1 (s0.r.r (Int.toNat x1.a)) 0 0)]) else letk (λ(B:Bool)=>
 (bif B then letk (λ(k:Int)=>
 (bif ((decide (k<0))||(decide (k>1000000))) then some (av.mk (Mem.mk (((f96 s0.m).m).t) (((f96 s0.m).m).slots) (((f96 s0.m).m).in_) (((f96 s0.m).m).out)) ((f96 s0.m).r) ((f96 s0.m).acts) ((f96 s0.m).e)) else(j s0.m.out s0.r.r k s0.acts))) λw=>
 (bif (decide (x1.op=40)) then(w (IntKind.i64.wrap (s0.r.defer+1))) else(w (IntKind.i64.wrap (s0.r.defer - 1)))) else Option.bind (f99 x1.op) λC=>
 aI (bK 16 x1.b)<|
 Option.bind (f98 C (s0.r.r (Int.toNat x1.a)) (s0.r.r (Int.toNat x1.b))) λx=>
 (bif (!x.2) then some (av.mk (Mem.mk (((f96 s0.m).m).t) (((f96 s0.m).m).slots) (((f96 s0.m).m).in_) (((f96 s0.m).m).out)) ((f96 s0.m).r) ((f96 s0.m).acts) ((f96 s0.m).e)) else aI (bK 16 x1.d)<|
 (j s0.m.out (bW s0.r.r (Int.toNat x1.d) x.1) s0.r.defer s0.acts)))) λy=>
 (bif (decide (x1.op=40)) then(y (decide (x1.op=40))) else(y (decide (x1.op=41)))))))))
def f17(m0:Mem)(r1:aq):Option (Mem×aq×lA×Int):=
 (bif (!(f31 m0.t r1)) then some (m0,(aq.mk (λj=>0) 0 0 0),[],2) else Option.bind (idx m0.t.insns r1.pc) λa=>
 (bif (!(f50 a.op)) then some (m0,(aq.mk (λj=>0) 0 0 0),[],8) else letk (λ(y:lN)(A:lH)(B:lP)(C:lS)(E:lL)(F:lO)(G:lT)(H:Int)(I:lK)(J:lM)(K:lC)(L:lL)(M:lI)(N:lI)(O:Nat→Int)(P:Int)(Q:Int)(R:Int)(S:lA)(x:Int)=>
 (bif (!decide (x=0)) then some (m0,(aq.mk (λj=>0) 0 0 0),[],x) else some ((Mem.mk (aj.mk y A B C E F G H I J K) L M N),(aq.mk O P Q R),S,0))) λp=>
 letk (λ(T:Bool)=>
 (bif T then Option.bind (f51 (av.mk m0 r1 [] 0) a) λc=>
 (p c.m.t.insns c.m.t.handlers c.m.t.loops c.m.t.selects c.m.t.lists c.m.t.objs c.m.t.inits c.m.t.excs c.m.t.tasks c.m.t.prots c.m.t.checks c.m.slots c.m.in_ c.m.out c.r.r c.r.pc c.r.exc c.r.defer c.acts c.e) else letk (λ(U:Bool)=>
 (bif U then Option.bind (f52 (av.mk m0 r1 [] 0) a) λd=>
 (p d.m.t.insns d.m.t.handlers d.m.t.loops d.m.t.selects d.m.t.lists d.m.t.objs d.m.t.inits d.m.t.excs d.m.t.tasks d.m.t.prots d.m.t.checks d.m.slots d.m.in_ d.m.out d.r.r d.r.pc d.r.exc d.r.defer d.acts d.e) else letk (λ(V:Bool)=>
 (bif V then Option.bind (f53 (av.mk m0 r1 [] 0) a) λf=>
 (p f.m.t.insns f.m.t.handlers f.m.t.loops f.m.t.selects f.m.t.lists f.m.t.objs f.m.t.inits f.m.t.excs f.m.t.tasks f.m.t.prots f.m.t.checks f.m.slots f.m.in_ f.m.out f.r.r f.r.pc f.r.exc f.r.defer f.acts f.e) else Option.bind (f54 (av.mk m0 r1 [] 0) a) λg=>
 (p g.m.t.insns g.m.t.handlers g.m.t.loops g.m.t.selects g.m.t.lists g.m.t.objs g.m.t.inits g.m.t.excs g.m.t.tasks g.m.t.prots g.m.t.checks g.m.slots g.m.in_ g.m.out g.r.r g.r.pc g.r.exc g.r.defer g.acts g.e))) λh=>
 (bif (decide (a.op=27)) then(h (decide (a.op=27))) else(bif (decide (a.op=28)) then(h (decide (a.op=28))) else(bif (decide (a.op=33)) then(h (decide (a.op=33))) else(bif (decide (a.op=34)) then(h (decide (a.op=34))) else(bif (decide (a.op=35)) then(h (decide (a.op=35))) else(h (decide (a.op=38)))))))))) λw=>
 (bif (decide (a.op=29)) then(w (decide (a.op=29))) else(bif (decide (a.op=30)) then(w (decide (a.op=30))) else(bif (decide (a.op=31)) then(w (decide (a.op=31))) else(w (decide (a.op=32)))))))) λk=>
 (bif (decide (a.op=3)) then(k (decide (a.op=3))) else(bif (decide (a.op=4)) then(k (decide (a.op=4))) else(bif (decide (a.op=5)) then(k (decide (a.op=5))) else(bif (decide (a.op=6)) then(k (decide (a.op=6))) else(bif (decide (a.op=7)) then(k (decide (a.op=7))) else(k (decide (a.op=8))))))))))
def f18_l1(a0:lA)(b1:lA)(f:Unit→oB):Nat→Int→oB
 |0,_=>none
 |n+1,e=>
 (bif (decide (e<(List.length a0:Int))) then Option.bind (idx a0 e) λc=>
 Option.bind (idx b1 e) λd=>
 (bif (!((decide (c.time=d.time))&&((decide (c.task=d.task))&&((decide (c.kind=d.kind))&&((decide (c.a=d.a))&&((decide (c.b=d.b))&&((decide (c.n=d.n))&&true))))))) then some false else(f18_l1 a0 b1 f n (IntKind.i64.wrap (e+1)))) else(f ()))
def f18(a0:lA)(b1:lA):oB:=
 (bif (!decide ((List.length a0:Int)=(List.length b1:Int))) then some false else letk (λ(_:Unit)=>
 some true) λa=>
 (f18_l1 a0 b1 a 9223372036854775808 0))
def f29_l2(a0:lL)(b1:lL)(a:Int)(d:Unit→oB):Nat→Int→oB
 |0,_=>none
 |na+1,c=>
 Option.bind (idx a0 a) λe=>
 (bif (decide (c<(List.length e:Int))) then Option.bind (idx a0 a) λf=>
 Option.bind (idx f c) λg=>
 Option.bind (idx b1 a) λh=>
 Option.bind (idx h c) λj=>
 (bif (!decide (g=j)) then some false else(f29_l2 a0 b1 a d na (IntKind.i64.wrap (c+1)))) else(d ()))
def f29_l1(a0:lL)(b1:lL)(c:Unit→oB):Nat→Int→oB
 |0,_=>none
 |n+1,a=>
 (bif (decide (a<(List.length a0:Int))) then letk (λ(_:Unit)=>
 (f29_l1 a0 b1 c n (IntKind.i64.wrap (a+1)))) λd=>
 Option.bind (idx a0 a) λe=>
 Option.bind (idx b1 a) λf=>
 (bif (!decide ((List.length e:Int)=(List.length f:Int))) then some false else(f29_l2 a0 b1 a d 9223372036854775808 0)) else(c ()))
def f29(a0:lL)(b1:lL):oB:=
 (bif (!decide ((List.length a0:Int)=(List.length b1:Int))) then some false else letk (λ(_:Unit)=>
 some true) λa=>
 (f29_l1 a0 b1 a 9223372036854775808 0))
def f19(mI:lN)(mH:lH)(mO:lO)(mE:Int)(mN:lI)(mS:lL)(mU:lI)(w1:Mem):oB:=
 letk (λ(c:Bool)=>
 some c) λa=>
 Option.bind (f28 mI mH mO mE mN mS mU) λd=>
 Option.bind (f29 d w1.slots) λe=>
 (bif e then Option.bind (f13 mI mH mO mE mN mS mU) λf=>
 Option.bind (f14 f w1.in_) λg=>
 (bif g then Option.bind (f15 mI mH mO mE mN mS mU) λh=>
 Option.bind (f14 h w1.out) λj=>
 (a j) else(a false)) else(a false))
def f42mn(s0:lL)(j0:Int):Option lI:=Option.bind (idx s0 j0) λM=>aI (cq 8 [] M) (some M)
def f10o_l1(e:lO)(f:lO→Option (Int×lN×lH×lO×Int×lI×lL×lI)):Nat→Int→lO→Option (Int×lN×lH×lO×Int×lI×lL×lI)
 |0,_,_=>none
 |n+1,a,c=>
 (bif (decide (a<(List.length e:Int))) then Option.bind (idx c a) λg=>
 Option.bind (f43 g.set_) λh=>
 Option.bind (idx c a) λd=>
 (f10o_l1 e f n (IntKind.i64.wrap (a+1)) (List.set c (Int.toNat a) (Obj.mk d.size d.lo d.hi d.ptr h))) else(f c))
def f10o(iN:lI)(t0:aj):Option (Int×lN×lH×lO×Int×lI×lL×lI):=
 Option.bind (f37 t0) λc=>
 (bif (!c) then none else Option.bind (f38 t0.insns) λd=>
 Option.bind (f39 t0.handlers) λe=>
 Option.bind (f40n t0.objs) λa=>
 Option.bind (f41 t0) λf=>
 Option.bind (f42c iN) λg=>
 letk (λ(h:lO)=>
 some (0,d,e,h,t0.excs,g,f,([]:lI))) λj=>
 (f10o_l1 a j (Int.toNat ((List.length a:Int) - 0)+1) 0 a))
def f28o_l1(mS:lL)(d:lL→Option lL):Nat→Int→lL→Option lL
 |0,_,_=>none
 |n+1,a,c=>
 (bif (decide (a<(List.length mS:Int))) then Option.bind (idx mS a) λf=>
 Option.bind (f42mn mS a) λe=>
 Option.bind (idx c a) λg=>
 (f28o_l1 mS d n (IntKind.i64.wrap (a+1)) (List.set c (Int.toNat a) e)) else(d c))
def f28o(mI:lN)(mH:lH)(mO:lO)(mE:Int)(mN:lI)(mS:lL)(mU:lI):Option lL:=
 Option.bind (f47 mI mH mO mE mN mS mU) λa=>
 (bif a then none else aI (m9 24 (List.length mS:Int))<|
 letk (λ(c:lL)=>
 some c) λd=>
 (f28o_l1 mS d (Int.toNat ((List.length mS:Int) - 0)+1) 0 (List.replicate (Int.toNat (List.length mS:Int)) ([]:lI))))
def f21(m0:Mem)(r1:aq)(n2:Int):Option (aq×lA×Int):=
 (bif (((!(f31 m0.t r1))||(decide (n2<1)))||(decide (n2>m0.t.excs))) then some ((aq.mk (λj=>0) 0 0 0),[],2) else Option.bind (f57 m0.t r1 n2) λa=>
 some (a.1,a.2.1,a.2.2))
def f23(m0:Mem)(r1:aq)(c2:Int):Option (aq×Int):=
 (bif ((((!(f31 m0.t r1))||(decide (c2=0)))||(decide (c2<(-2))))||(decide (c2>m0.t.excs))) then some ((aq.mk (λj=>0) 0 0 0),2) else Option.bind (f60 m0.t r1 c2) λa=>
 some (a.1,a.2))
def f62(m0:Mem)(o1:Int)(k2:Int):oB:=
 Option.bind (bif (((decide (o1≥0))&&(decide (o1<(List.length m0.slots:Int))))&&(decide (k2≥0))) then(Option.bind (idx m0.slots o1) λa=>some (decide (k2<(List.length a:Int)))) else some false) λc=>
 some c
def f25(m0:Mem)(o1:Int)(k2:Int):Option (Int×Int):=
 Option.bind (f62 m0 o1 k2) λa=>
 (bif (!a) then some (0,4) else Option.bind (idx m0.slots o1) λc=>
 Option.bind (idx c k2) λd=>
 some (d,0))
def f27(m0:Mem)(o1:Int)(k2:Int)(v3:Int):Option (Mem×Int):=
 Option.bind (f62 m0 o1 k2) λc=>
 (bif (!c) then some (m0,4) else Option.bind (f64 m0 o1 k2 v3) λa=>
 (bif (!a.2) then some (m0,280) else some (a.1,0)))
def f6_l1(d:lI→oB):Nat→Int→lI→oB
 |0,_,_=>none
 |n+1,a,c=>
 (bif (decide (a<(List.length c:Int))) then Option.bind (idx c a) λe=>
 Option.bind (idx c a) λf=>
 (f6_l1 d n (IntKind.i64.wrap (a+1)) (List.set c (Int.toNat a) (IntKind.i64.wrap (e+1)))) else(d c))
def f6_l2(l2:List mA)(c:Int×lN×lH×lO×Int×lI×lL×lI)(T:lL→lI→lI→lN→lH→lP→lS→lL→lO→lT→Int→lK→lM→lC→lL→lI→lI→oB):Nat→Int→Int→Int→lL→lI→lI→lN→lH→lP→lS→lL→lO→lT→Int→lK→lM→lC→lL→lI→lI→oB
 |0,_,_,_,_,_,_,_,_,_,_,_,_,_,_,_,_,_,_,_,_=>none
 |n+1,cc,cd,S,p,h,m,w,x,y,A,B,C,E,F,G,H,I,J,K,L=>
 (bif (decide (S<(List.length l2:Int))) then Option.bind (idx l2 S) λa=>
 letk (λ(U:Int)(V:Int)(Z:lA)(ad:lA)(ag:lL)(ax:lI)(a0:lI)(a1:lN)(a6:lH)(a7:lP)(a8:lS)(a':lL)(bb:lO)(bk:lT)(bo:Int)(bs:lK)(b0:lM)(b1:lC)(b2:lL)(b3:lI)(b4:lI)(e:Nat→Int)(b5:Int)(b6:Int)(b7:Int)(f:Nat→Int)(b8:Int)(b9:Int)(b':Int)=>
 Option.bind (bif (!((decide ((e 0)=(f 0)))&&((decide ((e 1)=(f 1)))&&((decide ((e 2)=(f 2)))&&((decide ((e 3)=(f 3)))&&((decide ((e 4)=(f 4)))&&((decide ((e 5)=(f 5)))&&((decide ((e 6)=(f 6)))&&((decide ((e 7)=(f 7)))&&((decide ((e 8)=(f 8)))&&((decide ((e 9)=(f 9)))&&((decide ((e 10)=(f 10)))&&((decide ((e 11)=(f 11)))&&((decide ((e 12)=(f 12)))&&((decide ((e 13)=(f 13)))&&((decide ((e 14)=(f 14)))&&((decide ((e 15)=(f 15)))&&((decide (b5=b8))&&((decide (b6=b9))&&((decide (b7=b'))&&true)))))))))))))))))))) then some true else(Option.bind (f18 Z ad) λca=>some (!ca))) λcb=>
 (bif (cb||(!decide (U=V))) then some false else(f6_l2 l2 c T n U V (IntKind.i64.wrap (S+1)) ag ax a0 a1 a6 a7 a8 a' bb bk bo bs b0 b1 b2 b3 b4))) λP=>
 (bif (decide ((Int.tmod a.what 5)=0)) then Option.bind (f11 c.2.1 c.2.2.1 c.2.2.2.1 c.2.2.2.2.1 m p h a.r) λM=>
 Option.bind (f17 (Mem.mk (aj.mk w x y A B C E F G H I) J K L) a.r) λd=>
 (P M.2.2.1 d.2.2.2 M.2.1 d.2.2.1 M.2.2.2.2.1 M.2.2.2.2.2 M.2.2.2.1 d.1.t.insns d.1.t.handlers d.1.t.loops d.1.t.selects d.1.t.lists d.1.t.objs d.1.t.inits d.1.t.excs d.1.t.tasks d.1.t.prots d.1.t.checks d.1.slots d.1.in_ d.1.out M.1.r M.1.pc M.1.exc M.1.defer d.2.1.r d.2.1.pc d.2.1.exc d.2.1.defer) else(bif (decide ((Int.tmod a.what 5)=1)) then Option.bind (f20 c.2.1 c.2.2.1 c.2.2.2.1 c.2.2.2.2.1 m p h a.r a.v) λN=>
 Option.bind (f21 (Mem.mk (aj.mk w x y A B C E F G H I) J K L) a.r a.v) λO=>
 (P N.2.2 O.2.2 N.2.1 O.2.1 p h m w x y A B C E F G H I J K L N.1.r N.1.pc N.1.exc N.1.defer O.1.r O.1.pc O.1.exc O.1.defer) else(bif (decide ((Int.tmod a.what 5)=2)) then Option.bind (f22 c.2.1 c.2.2.1 c.2.2.2.1 c.2.2.2.2.1 m p h a.r a.v) λQ=>
 Option.bind (f23 (Mem.mk (aj.mk w x y A B C E F G H I) J K L) a.r a.v) λR=>
 (P Q.2 R.2 [] [] p h m w x y A B C E F G H I J K L Q.1.r Q.1.pc Q.1.exc Q.1.defer R.1.r R.1.pc R.1.exc R.1.defer) else(bif (decide ((Int.tmod a.what 5)=3)) then Option.bind (f24 c.2.1 c.2.2.1 c.2.2.2.1 c.2.2.2.2.1 m p h a.o a.k) λW=>
 Option.bind (f25 (Mem.mk (aj.mk w x y A B C E F G H I) J K L) a.o a.k) λX=>
 (bif (!decide (W.1=X.1)) then some false else(P W.2 X.2 [] [] p h m w x y A B C E F G H I J K L (λj=>0) 0 0 0 (λj=>0) 0 0 0)) else Option.bind (f26 c.2.1 c.2.2.1 c.2.2.2.1 c.2.2.2.2.1 m p h a.o a.k a.v) λY=>
 Option.bind (f27 (Mem.mk (aj.mk w x y A B C E F G H I) J K L) a.o a.k a.v) λg=>
 (P Y.1 g.2 [] [] Y.2 h m g.1.t.insns g.1.t.handlers g.1.t.loops g.1.t.selects g.1.t.lists g.1.t.objs g.1.t.inits g.1.t.excs g.1.t.tasks g.1.t.prots g.1.t.checks g.1.slots g.1.in_ g.1.out (λj=>0) 0 0 0 (λj=>0) 0 0 0))))) else(T p h m w x y A B C E F G H I J K L))
def f6_l4(c:Int)(f:lL→oB):Nat→Int→lL→oB
 |0,_,_=>none
 |na+1,a,d=>
 Option.bind (idx d c) λg=>
 (bif (decide (a<(List.length g:Int))) then Option.bind (idx d c) λe=>
 Option.bind (idx e a) λh=>
 Option.bind (idx e a) λj=>
 (f6_l4 c f na (IntKind.i64.wrap (a+1)) (List.set d (Int.toNat c) (List.set e (Int.toNat a) (IntKind.i64.wrap (h+1))))) else(f d))
def f6_l3(d:lL→oB):Nat→Int→lL→oB
 |0,_,_=>none
 |n+1,a,c=>
 (bif (decide (a<(List.length c:Int))) then letk (λ(e:lL)=>
 (f6_l3 d n (IntKind.i64.wrap (a+1)) e)) λf=>
 (f6_l4 a f 9223372036854775808 0 c) else(d c))
def f6(t0:aj)(d:lI)(l2:List mA):oB:=
 Option.bind (f12 t0) λj=>
 (bif ((j||(decide ((List.length l2:Int)>60)))||(decide ((List.length d:Int)>200))) then Option.bind (f9) λk=>
 some k else aI (cq 8 ([]:lI) d)<|
 Option.bind (f37 t0) λm=>
 (bif m then Option.bind (f10o (([]:lI)++d) t0) λc=>
 Option.bind (f16 t0 d) λa=>
 (bif ((!decide (c.1=a.2))||(!(false==(!decide (a.2=0))))) then some false else(bif (!decide (a.2=0)) then Option.bind (f9) λp=>
 some p else letk (λ(U:lI)=>
 letk (λ(f:lL)(g:lI)(h:lI)(r:lN)(w:lH)(x:lP)(y:lS)(A:lL)(B:lO)(C:lT)(E:Int)(F:lK)(G:lM)(H:lC)(I:lL)(J:lI)(K:lI)=>
 Option.bind (f28o c.2.1 c.2.2.1 c.2.2.2.1 c.2.2.2.2.1 h f g) λL=>
 letk (λ(V:lL)=>
 Option.bind (f19 c.2.1 c.2.2.1 c.2.2.2.1 c.2.2.2.2.1 h f g (Mem.mk (aj.mk r w x y A B C E F G H) I J K)) λM=>
 Option.bind (bif M then(Option.bind (f9) λN=>some N) else some false) λO=>
 some O) λP=>
 (f6_l3 P 9223372036854775808 0 L)) λQ=>
 (f6_l2 l2 c Q 9223372036854775808 c.1 a.2 0 c.2.2.2.2.2.2.1 c.2.2.2.2.2.2.2 c.2.2.2.2.2.1 a.1.t.insns a.1.t.handlers a.1.t.loops a.1.t.selects a.1.t.lists a.1.t.objs a.1.t.inits a.1.t.excs a.1.t.tasks a.1.t.prots a.1.t.checks a.1.slots a.1.in_ a.1.out)) λR=>
 (f6_l1 R 9223372036854775808 0 (([]:lI)++d)))) else Option.bind (f10b t0 (([]:lI)++d)) λS=>
 Option.bind (f16 t0 d) λe=>
 (bif ((!decide (S.2=e.2))||(!(true==(!decide (e.2=0))))) then some false else(bif (!decide (e.2=0)) then Option.bind (f9) λT=>
 some T else none))))
abbrev sN:AV:= .d (.v (.slice none 0 0))
abbrev txA(t:aj):lV:=[.l E45 t.insns, .l bq t.handlers, .l bT t.loops, .l bS t.selects, .l E96 t.lists, .l br t.objs, .l bO t.inits, .n t.excs, .l E27 t.tasks, .l bI t.prots, .l bY t.checks]
abbrev txV(a:lN)(b:lH)(c:lP)(d:lS)(e:lL)(f:lO)(g:lT)(h:Int)(i:lK)(j:lM)(k:lC):lV:=[.l E45 a, .l bq b, .l bT c, .l bS d, .l E96 e, .l br f, .l bO g, .n h, .l E27 i, .l bI j, .l bY k]
abbrev txW(a:lN)(b:lH)(c:lP)(d:lS)(e:lL)(f:lO)(g:lT)(h:Int)(i:lK)(j:lM)(k:lC)(l m:Int):lV:=[.l E45 a, .l bq b, .l bT c, .l bS d, .l E96 e, .l br f, .l bO g, .n h, .l E27 i, .l bI j, .l bY k, .n l, .n m]
abbrev mR(a:lN)(b:lH)(c:lO)(d:Int)(i v:Nat)(e:lI)(j w:Nat):lV:=[.l E45 a, .l bq b, .l br c, .n d, .os i v, .l E2 e, .os j w]
abbrev tQ(o:Nat)(R:Nat→Int)(p x d:Int)(i v:Nat):lV:=([.pt o 0]:lV)++(aX 16 (λj=> .n (R j))++([.n p, .n x, .n d, .os i v]:lV):lV)
abbrev wD(a:lN)(b:lH)(c:lO)(d:Int)(vo:Nat)(n:lI)(vu vf:Nat)(S:lL)(U:lI):lW:=[.dead, .row 90 (mR a b c d 2 vo n 4 vu), .os 42 1 vo (bt 3 vf (List.length S)), .fam 2 1 vf (bi E2 S), .os 2 1 vu (eM E2 U), .dead]
abbrev wT(R:Nat→Int)(p x y:Int)(va:Nat)(a:lN)(b:lH)(c:lO)(d:Int)(vo:Nat)(n:lI)(vu vf:Nat)(S:lL)(U:lI)(A:lA):lW:=[.row 116 (tQ 1 R p x y 5 va), .row 90 (mR a b c d 2 vo n 4 vu), .os 42 1 vo (bt 3 vf (List.length S)), .fam 2 1 vf (bi E2 S), .os 2 1 vu (eM E2 U), .os 58 6 va (eM R58 A)]
abbrev wM(a:lN)(b:lH)(c:lO)(d:Int)(vo:Nat)(n:lI)(vu vf:Nat)(S:lL)(U:lI):lW:=[.row 90 (mR a b c d 1 vo n 3 vu), .os 42 1 vo (bt 2 vf (List.length S)), .fam 2 1 vf (bi E2 S), .os 2 1 vu (eM E2 U)]
abbrev fG(F:Nat→Int)(j:Nat):Int:=List.getD [F 0,F 1,F 2,F 3,0,0,0,0,0,0,0,0,0,0,0,0] j 0
abbrev n19:lV:=[.n 0, .n 0, .n 0, .n 0, .n 0, .n 0, .n 0, .n 0, .n 0, .n 0, .n 0, .n 0, .n 0, .n 0, .n 0, .n 0, .n 0, .n 0, .n 0]
abbrev z19:List Value:=[.int .i64 0, .int .i64 0, .int .i64 0, .int .i64 0, .int .i64 0, .int .i64 0, .int .i64 0, .int .i64 0, .int .i64 0, .int .i64 0, .int .i64 0, .int .i64 0, .int .i64 0, .int .i64 0, .int .i64 0, .int .i64 0, .int .i64 0, .int .i64 0, .int .i64 0]
abbrev V41(x:aq):List Value:=[.int .i64 (x.r 0), .int .i64 (x.r 1), .int .i64 (x.r 2), .int .i64 (x.r 3), .int .i64 (x.r 4), .int .i64 (x.r 5), .int .i64 (x.r 6), .int .i64 (x.r 7), .int .i64 (x.r 8), .int .i64 (x.r 9), .int .i64 (x.r 10), .int .i64 (x.r 11), .int .i64 (x.r 12), .int .i64 (x.r 13), .int .i64 (x.r 14), .int .i64 (x.r 15), .int .i64 x.pc, .int .i64 x.exc, .int .i64 x.defer]
abbrev fe(k:Int)(f o:Nat):Int×AV:=(k, .fn (.func f) [] [.pt o 0])
abbrev rg(F:Nat→Int)(a b c:Int):lV:=aX 16 (λj=> .n (F j))++([.n a, .n b, .n c]:lV)
abbrev rG(x:aq):lV:=rg x.r x.pc x.exc x.defer
abbrev oS(v a w:Nat)(S:lL):AO:= .os 42 1 v (bt a w (List.length S))
abbrev fS(v:Nat)(S:lL):AO:= .fam 2 1 v (bi E2 S)
abbrev uS(v:Nat)(S:lI):AO:= .os 2 1 v (eM E2 S)
abbrev _root_.Go.Sk.AO.z:AO:= .dead
abbrev mO(l:List (Int×AV)):AO:=mpO (λx:Int=>Value.int .u8 x) (λx:AV=>x) l
abbrev fL:List (Int×AV):=[fe 1 214 1,fe 2 214 2,fe 3 214 3,fe 4 215 4,fe 5 215 5,fe 6 215 6,fe 7 216 7,fe 8 216 8,fe 9 216 9,fe 10 216 10,fe 11 216 11,fe 12 216 12,fe 13 214 13,fe 14 214 14,fe 15 214 15,fe 16 214 16,fe 17 214 17,fe 18 214 18]
abbrev rL:lW:=[rF 209 181,rF 209 182,rF 209 183,rF 209 185,rF 209 186,rF 209 187,rF 195 189,rF 195 190,rF 195 191,rF 195 192,rF 195 193,rF 195 194,rF 209 195,rF 209 196,rF 209 197,rF 209 198,rF 209 199,rF 209 200]
abbrev tW(j:Nat):lW:=mO fL::List.take j rL
abbrev tS(k j:Nat):lW:=mO (List.take k fL)::List.take j rL
abbrev dT(i a b n:Nat):lW:=List.replicate i .z++rF a b::List.replicate n .z
end Go.Proofs.YtkbahggepncliaaGreatDoor
