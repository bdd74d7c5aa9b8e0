/-
  Graphs: ways that avoid a block, the order of a search in depth, chains of immediate dominators; what one pass over the blocks gives.
-/
import Derived.KernelRfl
import Derived.Test.YtpodhdopgcedlaaGreatDoorO
set_option linter.unusedVariables false
set_option linter.unusedSimpArgs false
set_option linter.unusedSectionVars false
set_option linter.unnecessarySimpa false
namespace Go.FlD
open Go Go.Sk
section
variable{E:Nat→Nat→Prop}{pl:Nat→Int}
inductive Wy(E:Nat→Nat→Prop)(s:Nat)(w:Int):Nat→Prop
 |base:(s:Int)≠w→Wy E s w s
 |step {x n:Nat}:Wy E s w x→E x n→(n:Int)≠w→Wy E s w n
theorem Wy.ne{s:Nat}{w:Int}{n:Nat}(h:Wy E s w n):(n:Int)≠w:=by
 cases h with
 |base h=>exact h
 |step _ _ h=>exact h
theorem Wy.trans{s m:Nat}{w:Int}{n:Nat}(h:Wy E s w m)(k:Wy E m w n):Wy E s w n:=by
 induction k with
 |base _=>exact h
 |step _ e hn ih=>exact .step ih e hn
theorem Wy.ne0{s:Nat}{w:Int}{n:Nat}(h:Wy E s w n):(s:Int)≠w:=by
 induction h with
 |base h=>exact h
 |step _ _ _ ih=>exact ih
theorem Wy.any{s:Nat}{w:Int}{n:Nat}(h:Wy E s w n):Wy E s (-1) n:=by
 induction h with
 |base _=>exact .base oM
 |step _ e _ ih=>exact .step ih e oM
inductive Dp(E:Nat→Nat→Prop)(pl:Nat→Int):Nat→List Nat→Prop
 |base:Dp E pl 0 [0]
 |step {x n:Nat} {π:List Nat}:Dp E pl x π→E x n→pl n<pl x→Dp E pl n (n::π)
theorem Dp.head{x:Nat}{π:List Nat}(h:Dp E pl x π):x∈π:=by cases h<;>simp
theorem Dp.zero{x:Nat}{π:List Nat}(h:Dp E pl x π):0∈π:=by
 induction h with
 |base=>simp
 |step _ _ _ ih=>simp[ih]
theorem Dp.le{x:Nat}{π:List Nat}(h:Dp E pl x π):∀v∈π,pl x≤pl v:=by
 induction h with
 |base=>intro v hv;simp at hv;subst hv;exact Int.le_refl _
 |step hd _ hl ih=>
  intro v hv
  rcases List.mem_cons.1 hv with rfl|hv
  ·exact Int.le_refl _
  ·have:=ih v hv;omega
theorem Dp.way{x:Nat}{π:List Nat}(h:Dp E pl x π){w:Int}(hw:∀v∈π,(v:Int)≠w):Wy E 0 w x:=by
 induction h with
 |base=>exact .base (hw 0 sM)
 |step hd e hl ih=>exact .step (ih λv hv=>hw v (by simp[hv])) e (hw _ sM)
structure Dfs(E:Nat→Nat→Prop)(pl:Nat→Int):Prop where
 reach:∀n,Wy E 0 (-1) n↔0≤pl n
 inj:∀x y,0≤pl x→pl x=pl y→x=y
 tree:∀x,0≤pl x→∃π,Dp E pl x π∧∀n,E x n→pl n<pl x∨n∈π
theorem Dfs.zero(h:Dfs E pl):0≤pl 0:=(h.reach 0).1 (.base dC)
theorem Dfs.top(h:Dfs E pl){x:Nat}(hx:0≤pl x):x=0∨pl x<pl 0:=by
 obtain⟨π,hd,_⟩:=h.tree x hx
 have:=hd.le 0 hd.zero
 rcases Int.lt_or_eq_of_le this with h1|h1
 ·exact .inr h1
 ·exact .inl (h.inj x 0 hx h1)
theorem Dfs.parent(h:Dfs E pl){n:Nat}(hn:0≤pl n)(h0:n≠0):∃x,E x n∧pl n<pl x∧0≤pl x:=by
 obtain⟨π,hd,_⟩:=h.tree n hn
 cases hd with
 |base=>exact absurd rfl h0
 | @step x n π hd e hl=>exact⟨x,e,hl,oM⟩
theorem Dfs.dom_lt(h:Dfs E pl){u n:Nat}(hn:0≤pl n)(hu:¬Wy E 0 u n):u=n∨pl n<pl u:=by
 obtain⟨π,hd,_⟩:=h.tree n hn
 by_cases hm:u∈π
 ·rcases Int.lt_or_eq_of_le (hd.le u hm) with h1|h1
  ·exact .inr h1
  ·exact .inl (h.inj n u hn h1).symm
 ·exact absurd (hd.way λv hv hh=>hm (by
   have:v=u:=oM
   subst this;exact hv)) hu
inductive R(E:Nat→Nat→Prop)(pl:Nat→Int)(u:Nat):Nat→Nat→Prop
 |base (k:Nat):u≠0→R E pl u k 0
 |fwd {k x n:Nat}:R E pl u k x→E x n→pl n<pl x→n≠u→R E pl u k n
 |ret {k x n:Nat}:R E pl u k x→E x n→¬pl n<pl x→n≠u→R E pl u (k+1) n
theorem R.ne{u k n:Nat}(h:R E pl u k n):n≠u:=by
 cases h with
 |base _ h=>exact λe=>h e.symm
 |fwd _ _ _ h=>exact h
 |ret _ _ _ h=>exact h
theorem R.mono{u k n:Nat}(h:R E pl u k n):R E pl u (k+1) n:=by
 induction h with
 |base k h=>exact .base _ h
 |fwd _ e hl hn ih=>exact .fwd ih e hl hn
 |ret _ e hl hn ih=>exact .ret ih e hl hn
theorem R.way{u k n:Nat}(h:R E pl u k n):Wy E 0 u n:=by
 induction h with
 |base k h=>exact .base oM
 |fwd _ e hl hn ih=>exact .step ih e oM
 |ret _ e hl hn ih=>exact .step ih e oM
theorem tF{u n:Nat}(h:Wy E 0 u n):∃k,R E pl u k n:=by
 induction h with
 |base h=>exact⟨0, .base _ oM⟩
 | @step x n _ e hn ih=>
  obtain⟨k,hk⟩:=ih
  by_cases hl:pl n<pl x
  ·exact⟨k, .fwd hk e hl oM⟩
  ·exact⟨k+1, .ret hk e hl oM⟩
theorem R.reach(hD:Dfs E pl){u k n:Nat}(h:R E pl u k n):0≤pl n:=(hD.reach n).1 h.way.any
theorem Dp.r{x:Nat}{π:List Nat}(h:Dp E pl x π){u:Nat}(hu:u∉π)(k:Nat):R E pl u k x:=by
 induction h with
 |base=>exact .base k (by simpa using hu)
 | @step x n π hd e hl ih=>
  simp only[List.mem_cons,not_or] at hu
  exact .fwd (ih hu.2) e hl (λe=>hu.1 e.symm)
theorem R.upto{u w:Nat}:∀{k x:Nat},R E pl u k x→¬R E pl w k x→R E pl u k w:=by
 intro k x h
 induction h with
 |base k h=>
  intro hw
  by_cases e:w=0
  ·subst e;exact .base k h
  ·exact absurd (.base k e) hw
 | @fwd k x n hx e hl hn ih=>
  intro hw
  by_cases e1:n=w
  ·subst e1;exact .fwd hx e hl hn
  ·exact ih λh=>hw (.fwd h e hl e1)
 | @ret k x n hx e hl hn ih=>
  intro hw
  by_cases e1:n=w
  ·subst e1;exact .ret hx e hl hn
  ·exact(ih λh=>hw (.ret h e hl e1)).mono
theorem Dp.rdown{x:Nat}{π:List Nat}(h:Dp E pl x π){u w k:Nat}(hw:w∈π)(hr:R E pl u k w)(hu:pl w<pl u):∀v∈π,pl v≤pl w→(pl v=pl w→v=w)→R E pl u k v:=by
 induction h with
 |base=>
  intro v hv _ _
  simp at hv hw;subst hv;subst hw;exact hr
 | @step x n π hd e hl ih=>
  intro v hv hle hinj
  by_cases hvw:v=w
  ·subst hvw;exact hr
  have hlt:pl v<pl w:=by
   rcases Int.lt_or_eq_of_le hle with h1|h1
   ·exact h1
   ·exact absurd (hinj h1) hvw
  have hwπ:w∈π:=by
   rcases List.mem_cons.1 hw with rfl|h1
   ·have:=(Dp.step hd e hl).le v hv;omega
   ·exact h1
  rcases List.mem_cons.1 hv with rfl|h1
  ·have hxw:=hd.le w hwπ
   by_cases hxe:x=w
   ·subst hxe;exact .fwd hr e hl (by intro e;subst e;omega)
   ·by_cases hxp:pl x=pl w
    · -- x and w stand at one place: one block
     exact .fwd (ih hwπ x hd.head oM (λ_=>by
      exact absurd hxp (by
       intro h2
       -- along the way places fall, so equal places are one block
       exact hxe (by
        have key:∀{y:Nat}{ρ:List Nat},Dp E pl y ρ→∀a∈ρ,pl a=pl y→a=y:=by
         intro y ρ hρ
         cases hρ with
         |base=>intro a ha _;simpa using ha
         |step hd' e' hl'=>
          intro a ha hae
          rcases List.mem_cons.1 ha with rfl|ha
          ·rfl
          ·have:=hd'.le a ha;omega
        exact(key hd w hwπ h2.symm).symm)))) e hl (by intro e;subst e;omega)
    ·exact .fwd (ih hwπ x hd.head oM λh=>absurd h hxp) e hl (by intro e;subst e;omega)
  ·exact ih hwπ v h1 hle hinj
inductive An(T:Nat→Int):Nat→Nat→Prop
 |refl (n:Nat):An T n n
 |up {n m u:Nat}:n≠0→T n=(m:Nat)→An T m u→An T n u
def Ok(T:Nat→Int)(n:Nat):Prop:=n=0∨0≤T n
def WF(pl T:Nat→Int):Prop:=∀n m:Nat,n≠0→T n=m→0≤pl n∧pl n<pl m∧Ok T m
theorem An.trans{T:Nat→Int}{a b c:Nat}(h:An T a b)(k:An T b c):An T a c:=by
 induction h with
 |refl=>exact k
 |up h0 h1 _ ih=>exact .up h0 h1 (ih k)
theorem An.le{T:Nat→Int}(hw:WF pl T){a b:Nat}(h:An T a b):a=b∨pl a<pl b:=by
 induction h with
 |refl=>exact .inl rfl
 |up h0 h1 _ ih=>
  have:=(hw _ _ h0 h1).2.1
  rcases ih with rfl|ih
  ·exact .inr this
  ·exact .inr oM
theorem dV{T:Nat→Int}{n m u:Nat}(h0:n≠0)(h1:T n=(m:Nat)):An T n u↔u=n∨An T m u:=by
 constructor
 ·intro h
  cases h with
  |refl=>exact .inl rfl
  |up h2 h3 h4=>
   rw[h1] at h3
   have:=Int.ofNat.inj h3
   subst this;exact .inr h4
 ·rintro(rfl|h)
  ·exact .refl _
  ·exact .up h0 h1 h
theorem jG{T:Nat→Int}{u:Nat}:An T 0 u↔u=0:=by
 constructor
 ·intro h
  cases h with
  |refl=>rfl
  |up h0 _ _=>exact absurd rfl h0
 ·rintro rfl;exact .refl 0
theorem An.congr{T T':Nat→Int}(hw:WF pl T){c:Int}(h:∀v,c<pl v→T' v=T v){n u:Nat}(hn:c<pl n):An T n u→An T' n u:=by
 intro ha
 induction ha with
 |refl=>exact .refl _
 |up h0 h1 _ ih=>exact .up h0 ((h _ hn).trans h1) (ih (by have:=(hw _ _ h0 h1).2.1;omega))
end
section
variable{E:Nat→Nat→Prop}{pl:Nat→Int}
structure Lev(E:Nat→Nat→Prop)(pl:Nat→Int)(k:Nat)(T:Nat→Int):Prop where
 wf:WF pl T
 ok:∀v,0≤pl v→Ok T v
 an:∀v u,0≤pl v→(An T v u↔¬R E pl u k v)
def Bef(E:Nat→Nat→Prop)(pl:Nat→Int)(k:Nat)(T:Nat→Int):Prop:=
 (k=0∧∀v,v≠0→T v<0)∨∃j,k=j+1∧Lev E pl j T
structure Mid(E:Nat→Nat→Prop)(pl:Nat→Int)(k:Nat)(T0:Nat→Int)(c:Int)(T:Nat→Int):Prop where
 wf:WF pl T
 ok:∀v,c<pl v→0≤pl v→Ok T v
 an:∀v u,c<pl v→0≤pl v→(An T v u↔¬R E pl u k v)
 low:∀v,pl v≤c→T v=T0 v
theorem po{k:Nat}:¬R E pl 0 k 0:=λh=>h.ne rfl
theorem pN{hD:Dfs E pl}{u k n:Nat}(hn:0≤pl n)(h:¬R E pl u k n):u=n∨pl n<pl u:=by
 obtain⟨π,hd,_⟩:=hD.tree n hn
 by_cases hm:u∈π
 ·rcases Int.lt_or_eq_of_le (hd.le u hm) with h1|h1
  ·exact .inr h1
  ·exact .inl (hD.inj n u hn h1).symm
 ·exact absurd (hd.r hm k) h
theorem An.cross{T T':Nat→Int}{c:Int}(h:∀v,pl v≤c→T' v=T v){x u:Nat}(ha:An T x u):pl x≤c→c<pl u→∃w,c<pl w∧An T x w∧An T' x w∧An T w u:=by
 induction ha with
 |refl=>intro h1 h2;omega
 | @up n m u h0 h1 h2 ih=>
  intro hx hu
  by_cases hm:pl m≤c
  ·obtain⟨w,k1,k2,k3,k4⟩:=ih hm hu
   exact⟨w,k1, .up h0 h1 k2, .up h0 ((h _ hx).trans h1) k3,k4⟩
  ·exact⟨m,oM, .up h0 h1 (.refl _), .up h0 ((h _ hx).trans h1) (.refl _),h2⟩
theorem rP(hD:Dfs E pl){k:Nat}{T0 T:Nat→Int}{n:Nat}(hB:Bef E pl k T0)(hM:Mid E pl k T0 (pl n) T)(hn:0≤pl n)(h0:n≠0)(u:Nat):
  (u≠n∧¬R E pl u k n)↔∀x,E x n→0≤pl x→Ok T x→An T x u:=by
 constructor
 ·rintro⟨hun,hr⟩ x e hx hok
  by_cases hl:pl n<pl x
  ·exact(hM.an x u hl hx).2 λh=>hr (.fwd h e hl λe=>hun e.symm)
  ·have hx0:x≠0:=by
    intro hx0;subst hx0
    rcases hD.top hn with h|h
    ·exact h0 h
    ·exact hl h
   have hT:T x=T0 x:=hM.low x oM
   have hok0:0≤T0 x:=by
    rcases hok with h|h
    ·exact absurd h hx0
    ·rw[←hT];exact h
   rcases hB with⟨_,hB⟩|⟨j,rfl,hB⟩
   ·have:=hB x hx0;omega
   have hrx:¬R E pl u j x:=λh=>hr (.ret h e hl λe=>hun e.symm)
   have hax:=(hB.an x u hx).2 hrx
   have hup:pl n<pl u:=by
    rcases pN (hD:=hD) hn hr with h|h
    ·exact absurd h hun
    ·exact h
   obtain⟨w,k1,k2,k3,k4⟩:=hax.cross (T':=T) (c:=pl n) hM.low oM hup
   have hw:¬R E pl u (j+1) w:=by
    intro hrw
    obtain⟨π,hd,hs⟩:=hD.tree x hx
    have hwπ:w∈π:=by
     refine Classical.byContradiction λh=>?_
     exact(hB.an x w hx).1 k2 (hd.r h j)
    have hnπ:n∈π:=(hs n e).resolve_left hl
    have huw:pl w<pl u:=by
     rcases k4.le hB.wf with h|h
     ·subst h;exact absurd rfl hrw.ne
     ·exact h
    exact hr (hd.rdown hwπ hrw huw n hnπ oM λh=>oM)
   exact k3.trans ((hM.an w u k1 oM).2 hw)
 ·intro hall
  obtain⟨x0,e0,hl0,hx0⟩:=hD.parent hn h0
  have ha0:=hall x0 e0 hx0 (hM.ok x0 hl0 hx0)
  have hup:pl n<pl u:=by
   rcases ha0.le hM.wf with h|h
   ·subst h;exact hl0
   ·omega
  refine⟨λh=>by subst h;omega,λhr=>?_⟩
  cases hr with
  |base _ _=>exact h0 rfl
  | @fwd _ x _ hx e hl _=>
   have hxr:=hx.reach hD
   exact(hM.an x u hl hxr).1 (hall x e hxr (hM.ok x hl hxr)) hx
  | @ret j x _ hx e hl hne=>
   have hxr:=hx.reach hD
   have hT:T x=T0 x:=hM.low x oM
   rcases hB with⟨hB,_⟩|⟨j',hj,hB⟩
   ·omega
   have hj':j=j':=oM
   subst hj'
   have hok:Ok T x:=by
    rcases hB.ok x hxr with h|h
    ·exact .inl h
    ·exact .inr (by rw[hT];exact h)
   obtain⟨w,k1,k2,k3,k4⟩:=(hall x e hxr hok).cross (T':=T0) (c:=pl n) (λv hv=>(hM.low v hv).symm) oM hup
   have h1:=(hB.an x w hxr).1 k3
   have h2:=(hM.an w u k1 oM).1 k4
   exact h2 (hx.upto h1).mono
def mg(T:Nat→Int)(n:Nat)(d:Int):Nat→Int:=λv=>if v=n then d else T v
theorem gf{T:Nat→Int}{n:Nat}{d:Int}:mg T n d n=d:=by simp[mg]
theorem ik{T:Nat→Int}{n v:Nat}{d:Int}(h:v≠n):mg T n d v=T v:=by simp[mg,h]
theorem Mid.set(hD:Dfs E pl){k:Nat}{T0 T:Nat→Int}{n d:Nat}(hB:Bef E pl k T0)(hM:Mid E pl k T0 (pl n) T)(hn:0≤pl n)(h0:n≠0)(hd:Ok T d)(hdr:0≤pl d)
  (hda:∀u,An T d u↔∀x,E x n→0≤pl x→Ok T x→An T x u):Mid E pl k T0 (pl n - 1) (mg T n d):=by
 have hiff:=rP hD hB hM hn h0
 have hself:=(hiff d).2 ((hda d).1 (.refl _))
 have hlt:pl n<pl d:=by
  rcases pN (hD:=hD) hn hself.2 with h|h
  ·exact absurd h hself.1
  ·exact h
 have habove:∀v,pl n<pl v→mg T n d v=T v:=λv hv=>ik (by intro h;subst h;omega)
 have hwf:WF pl (mg T n d):=by
  intro a b ha hab
  by_cases han:a=n
  ·subst han
   rw[gf] at hab
   have:d=b:=oM
   subst this
   refine⟨hn,hlt,?_⟩
   rcases hd with h|h
   ·exact .inl h
   ·exact .inr (by rw[habove _ hlt];exact h)
  ·rw[ik han] at hab
   obtain⟨h1,h2,h3⟩:=hM.wf a b ha hab
   refine⟨h1,h2,?_⟩
   rcases h3 with h3|h3
   ·exact .inl h3
   ·by_cases hbn:b=n
    ·subst hbn;exact .inr (by rw[gf];omega)
    ·exact .inr (by rw[ik hbn];exact h3)
 have hcon:∀v u,pl n<pl v→(An (mg T n d) v u↔An T v u):=λv u hv=>
  ⟨An.congr (pl:=pl) hwf (λa ha=>(habove a ha).symm) hv,An.congr (pl:=pl) hM.wf habove hv⟩
 refine⟨hwf,λv hv hvr=>?_,λv u hv hvr=>?_,λv hv=>?_⟩
 ·by_cases hvn:v=n
  ·subst hvn;exact .inr (by rw[gf];omega)
  ·have:pl n<pl v:=by
    rcases Int.lt_or_eq_of_le (show pl n≤pl v by omega) with h|h
    ·exact h
    ·exact absurd (hD.inj n v hn h).symm hvn
   rcases hM.ok v this hvr with h|h
   ·exact .inl h
   ·exact .inr (by rw[ik hvn];exact h)
 ·by_cases hvn:v=n
  ·subst hvn
   rw[dV h0 gf,hcon d u hlt,hda u,←hiff u]
   constructor
   ·rintro(rfl|⟨_,h⟩)
    ·exact λh=>h.ne rfl
    ·exact h
   ·intro h
    by_cases hu:u=v
    ·exact .inl hu
    ·exact .inr ⟨hu,h⟩
  ·have:pl n<pl v:=by
    rcases Int.lt_or_eq_of_le (show pl n≤pl v by omega) with h|h
    ·exact h
    ·exact absurd (hD.inj n v hn h).symm hvn
   rw[hcon v u this];exact hM.an v u this hvr
 ·rw[ik (by intro h;subst h;omega)];exact hM.low v oM
theorem rp(hD:Dfs E pl){k:Nat}{T0:Nat→Int}(hB:Bef E pl k T0)(hwf:WF pl T0):Mid E pl k T0 (pl 0 - 1) T0:=by
 have hz:∀v,pl 0 - 1<pl v→0≤pl v→v=0:=λv h1 h2=>by
  rcases hD.top h2 with h|h
  ·exact h
  ·omega
 refine⟨hwf,λv h1 h2=> .inl (hz v h1 h2),λv u h1 h2=>?_,λ_ _=>rfl⟩
 rw[hz v h1 h2,jG]
 constructor
 ·rintro rfl;exact po
 ·intro h
  exact Classical.byContradiction λe=>h (.base k e)
theorem vl{k:Nat}{T0 T:Nat→Int}(h:Mid E pl k T0 (-1) T):Lev E pl k T:=
 ⟨h.wf,λv hv=>h.ok v oM hv,λv u hv=>h.an v u oM hv⟩
theorem Bef.wf{k:Nat}{T:Nat→Int}(h:Bef E pl k T):WF pl T:=by
 rcases h with⟨_,h⟩|⟨j,_,h⟩
 ·intro n m hn hT;have:=h n hn;omega
 ·exact h.wf
theorem vY(hD:Dfs E pl){k:Nat}{T:Nat→Int}(hB:Bef E pl k T)(hL:Lev E pl k T):∀n u,0≤pl n→(An T n u↔¬Wy E 0 u n):=by
 intro n u hn
 rcases hB with⟨rfl,hB⟩|⟨j,rfl,hB⟩
 ·have hz:∀v,0≤pl v→v=0:=λv hv=>by
   rcases hL.ok v hv with h|h
   ·exact h
   ·exact Classical.byContradiction λh0=>by have:=hB v h0;omega
  rw[hz n hn,jG]
  constructor
  ·rintro rfl hw;exact hw.ne rfl
  ·intro h;exact Classical.byContradiction λe=>h (.base oM)
 ·rw[hB.an n u hn]
  have key:∀i v,R E pl u i v→R E pl u j v:=by
   intro i v h
   induction h with
   |base k h=>exact .base _ h
   |fwd _ e hl hne ih=>exact .fwd ih e hl hne
   | @ret k x n hx e hl hne ih=>
    have h1:R E pl u (j+1) n:= .ret ih e hl hne
    have hnr:=h1.reach hD
    refine Classical.byContradiction λh2=>?_
    exact(hL.an n u hnr).1 ((hB.an n u hnr).2 h2) h1
  constructor
  ·intro h hw
   obtain⟨i,hi⟩:=tF hw
   exact h (key i n hi)
  ·intro h hr;exact h hr.way
theorem climb(hD:Dfs E pl){j:Nat}{T0 T:Nat→Int}(h0:Lev E pl j T0)(h1:Lev E pl (j+1) T){n a b:Nat}(hn:0≤pl n)(hn0:n≠0)(ha:T0 n=a)(hb:T n=b):a=b∨pl a<pl b:=by
 have k1:An T n b:= .up hn0 hb (.refl _)
 have k2:=(h1.an n b hn).1 k1
 have k3:=(h0.an n b hn).2 λh=>k2 h.mono
 rcases(dV hn0 ha).1 k3 with h|h
 ·have:=(h1.wf n b hn0 hb).2.1
  subst h;omega
 ·exact h.le h0.wf
theorem idom(_hD:Dfs E pl){T:Nat→Int}(hw:WF pl T)(hok:∀v,0≤pl v→Ok T v)(hA:∀n u,0≤pl n→(An T n u↔¬Wy E 0 u n)){n:Nat}(hn:0≤pl n)(h0:n≠0):
  ∃d:Nat,T n=d∧d≠n∧0≤pl d∧¬Wy E 0 d n∧∀u,u≠n→¬Wy E 0 u n→¬Wy E 0 u d:=by
 have hT:0≤T n:=(hok n hn).resolve_left h0
 obtain⟨d,hd⟩:=Int.eq_ofNat_of_zero_le hT
 have h1:=hw n d h0 hd
 refine⟨d,hd,λh=>by subst h;omega,oM,(hA n d hn).1 (.up h0 hd (.refl _)),λu hu hW=>?_⟩
 have h2:=(hA n u hn).2 hW
 rcases(dV h0 hd).1 h2 with h|h
 ·exact absurd h hu
 ·exact(hA d u oM).1 h
end
end Go.FlD
set_option maxRecDepth 10000
namespace Go.Proofs.YtpodhdopgcedlaaGreatDoor
open Go Go.Sk Go.FlD
theorem w64{x:Int}(h1: -9223372036854775808≤x)(h2:x≤9223372036854775807):IntKind.i64.wrap x=x:=by
 rw[IntKind.wrap_i64];omega
theorem aq{α β:Sort _}(k:α)(f:α→β):ai k f=f k:=rfl
theorem aJ{α:Type}{L:List α}{i:Nat}(h:i<L.length):idx L (i:Int)=some L[i]:=by
 unfold idx
 rw[dcT (Int.natCast_nonneg i)]
 simp[h]
theorem bc{α:Type}{L:List α}{i:Nat}:idx L (i:Int)=L[i]? :=by
 unfold idx
 rw[dcT (Int.natCast_nonneg i)]
 simp
theorem lw{α:Type}{L:List α}{i:Nat}(h:i<L.length):L.drop i=L[i]::L.drop (i+1):=List.drop_eq_getElem_cons h
theorem aT{α:Type}{c:Bool}(o:Option α)(h:c=true):aR c o=o:=by rw[h];rfl
theorem eu{i n:Nat}(h:i<n):decide ((i:Int)<(n:Int))=true:=dcT oM
theorem eF{n:Nat}:decide ((n:Int)<(n:Int))=false:=dcF oM
theorem w1{i n:Nat}(h:i<n)(hl:n<9223372036854775808):IntKind.i64.wrap ((i:Int)+1)=((i+1:Nat):Int):=by rw[w64 oM oM];push_cast;rfl
theorem cY{α:Type}{n:Nat}{L M:List α}(hn:n≤100)(hl:L.length+M.length≤1000000):cw n L M=true:=by
 unfold cw
 have:(L.length+M.length)*n≤1000000*100:=Nat.mul_le_mul hl hn
 simp only[Bool.and_eq_true,decide_eq_true_eq]
 exact⟨by unfold maxLen;omega,oM⟩
theorem eb{α σ ρ:Type}(xs:List α)(F:Nat→Int→σ→Option ρ)(K:σ→Option ρ)(P:Nat→σ→Prop)(hl:xs.length<9223372036854775808)
  (h0:∀n (i:Nat)(h:i<xs.length) s,P i s→∃s',F (n+1) (i:Int) s=F n ((i+1:Nat):Int) s'∧P (i+1) s')
  (h1:∀n s,P xs.length s→F (n+1) (xs.length:Int) s=K s):∀(n i:Nat)(s:σ),i≤xs.length→xs.length<n+i→P i s→∃s',F n (i:Int) s=K s'∧P xs.length s'
 |0,i,s,_,h,_=>oM
 |n+1,i,s,hi,h,hp=>by
  by_cases hh:i<xs.length
  ·obtain⟨s',e,hp'⟩:=h0 n i hh s hp
   obtain⟨s'',e',hp''⟩:=eb xs F K P hl h0 h1 n (i+1) s' oM oM hp'
   exact⟨s'',e.trans e',hp''⟩
  ·have e:i=xs.length:=oM
   subst e
   exact⟨s,h1 n s hp,hp⟩
theorem oU:∀(N:Nat)(l:List Nat),l.Nodup→(∀x∈l,x<N)→l.length≤N
 |0,l,_,h=>by
  cases l with
  |nil=>simp
  |cons x l=>exact absurd (h x sM) oM
 |N+1,l,hn,h=>by
  have h1:=oU N (l.erase N) (hn.erase N) λx hx=>by
   have h2:=(hn.mem_erase_iff).1 hx
   have:=h x h2.2
   omega
  have h2:l.length≤(l.erase N).length+1:=by
   rw[List.length_erase];split<;>omega
  omega
def Ed(b:List ab)(x m:Nat):Prop:=∃k,b[x]? =some k∧(m:Int)∈k.next
def av(b:List ab):Bool:=b.all λx=>x.next.all λn=>decide (0≤n)&&decide (n<b.length)
theorem aK{b:List ab}(h:av b=true){k:ab}(hk:k∈b){m:Int}(hm:m∈k.next):0≤m∧m<b.length:=by
 unfold av at h
 have:=List.all_eq_true.1 (List.all_eq_true.1 h k hk) m hm
 simpa using this
theorem Ed.lt{b:List ab}(hv:av b=true){x m:Nat}(h:Ed b x m):x<b.length∧m<b.length:=by
 obtain⟨k,hk,hm⟩:=h
 have:=aK hv (List.mem_of_getElem? hk) hm
 exact⟨(giS.1 hk).1,oM⟩
structure aP(b:List ab):Prop where
 len:b.length≤99
 next:∀x∈b,x.next.length≤1000
theorem sG{α:Type}(xs:List α)(F:Nat→Int→Option Int)(p:α→Bool)(hl:xs.length<9223372036854775808)
  (h0:∀n (i:Nat)(h:i<xs.length),F (n+1) (i:Int)=bif p xs[i] then some (i:Int) else F n ((i+1:Nat):Int))
  (h1:∀n,F (n+1) (xs.length:Int)=some (-1)):∀(n i:Nat),i≤xs.length→xs.length<n+i→∃r,F n (i:Int)=some r∧decide (r≥0)=(xs.drop i).any p
 |0,i,_,h=>oM
 |n+1,i,hi,h=>by
  by_cases hh:i<xs.length
  ·rw[lw hh,List.any_cons,h0 n i hh]
   cases hp:p xs[i] with
   |true=>exact⟨_,rfl,by rw[Bool.true_or];exact dcT oM⟩
   |false=>rw[cdF,Bool.false_or];exact sG xs F p hl h0 h1 n (i+1) oM oM
  ·have e:i=xs.length:=oM
   subst e
   exact⟨-1,h1 n,by rw[List.drop_eq_nil_of_le (Nat.le_refl _)];rfl⟩
theorem f79_eq(s:List Int)(cb:Int→Option Bool)(p:Int→Bool)(hc:∀x,cb x=some (p x))(hl:s.length<9223372036854775807):f79 s cb=some (s.any p):=by
 unfold f79 f129
 rw[aq]
 obtain⟨r,h1,h2⟩:=sG s (f129_l1 s cb λ_=>some (-1)) p oM (λn i h=>by
  rw[f129_l1,eu h,cdT,aJ h,bnS,hc,bnS,w1 h oM]) (λn=>by rw[f129_l1,eF,cdF]) (Int.toNat ((s.length:Int) - 0)+1) 0 (Nat.zero_le _) oM
 rw[show((0:Nat):Int)=0 from rfl] at h1
 rw[h1,bnS,h2,List.drop_zero]
theorem f77_eq(s:List ab)(cb:ab→Option Bool)(p:ab→Bool)(hc:∀x∈s,cb x=some (p x))(hl:s.length<9223372036854775807):f77 s cb=some (s.any p):=by
 unfold f77 f128
 rw[aq]
 obtain⟨r,h1,h2⟩:=sG s (f128_l1 s cb λ_=>some (-1)) p oM (λn i h=>by
  rw[f128_l1,eu h,cdT,aJ h,bnS,hc _ (List.getElem_mem h),bnS,w1 h oM]) (λn=>by rw[f128_l1,eF,cdF]) (Int.toNat ((s.length:Int) - 0)+1) 0 (Nat.zero_le _) oM
 rw[show((0:Nat):Int)=0 from rfl] at h1
 rw[h1,bnS,h2,List.drop_zero]
theorem f44_eq(b:List ab)(hs:aP b):f44 b=some (av b):=by
 unfold f44
 rw[f77_eq b _ (λx=>x.next.any λn=>decide (n<0)||decide (n≥(b.length:Int))) (λx hx=>by
  unfold f78
  rw[f79_eq x.next (λz0=>some (f80 z0 b)) (λn=>decide (n<0)||decide (n≥(b.length:Int))) (λ_=>rfl) (by have:=hs.next x hx;omega)];rfl) (by have:=hs.len;omega),bnS]
 congr 1
 unfold av
 rw[List.not_any_eq_all_not]
 congr 1;funext x
 rw[List.not_any_eq_all_not]
 congr 1;funext n
 rw[Bool.not_or]
 by_cases h1:n<0
 ·rw[dcT h1,dcF (show¬0≤n by omega)];rfl
 ·rw[dcF h1,dcT (show 0≤n by omega)]
  by_cases h2:n<(b.length:Int)
  ·rw[dcT h2,dcF (show¬n≥(b.length:Int) by omega)];rfl
  ·rw[dcF h2,dcT (show n≥(b.length:Int) by omega)];rfl
theorem tV:∀n:Fin 100,f46o [-1] (n.val:Int)=some (List.replicate n.val (-1)):=by decide+kernel
theorem rU{n:Nat}(h:n≤99):f46o [-1] (n:Int)=some (List.replicate n (-1)):=tV ⟨n,oM⟩
theorem mr{k n:Nat}(hk:k≤100)(hn:n≤1000000):kj k (n:Int)=true:=by
 unfold kj
 have h1:k*n≤100*1000000:=Nat.mul_le_mul hk hn
 have h2:((k*n:Nat):Int)≤((100*1000000:Nat):Int):=by exact_mod_cast h1
 rw[Int.natCast_mul] at h2
 simp only[Bool.and_eq_true,decide_eq_true_eq]
 exact⟨⟨oM,oM⟩,by unfold maxLen;omega⟩
def pf(pl:List Int)(v:Nat):Int:=pl.getD v (-1)
theorem dD{pl:List Int}{v:Nat}(h:v<pl.length):pl[v]? =some (pf pl v):=by
 unfold pf;rw[List.getD_eq_getElem?_getD,geG h];rfl
theorem mm{pl:List Int}{v:Nat}(h:pl.length≤v):pf pl v= -1:=by
 unfold pf;rw[List.getD_eq_getElem?_getD,List.getElem?_eq_none h];rfl
theorem j9{pl:List Int}{n:Nat}{k:Int}(h:n<pl.length)(v:Nat):pf (pl.set n k) v=if v=n then k else pf pl v:=by
 unfold pf;rw[List.getD_eq_getElem?_getD,List.getD_eq_getElem?_getD,List.getElem?_set]
 by_cases hv:v=n
 ·subst hv;simp[h]
 ·rw[if_neg λe=>hv e.symm,if_neg hv]
inductive Dq(E:Nat→Nat→Prop)(p:Nat→Int)(a:Nat):Nat→List Nat→Prop
 |base:Dq E p a a [a]
 |step {x m:Nat} {ρ:List Nat}:Dq E p a x ρ→E x m→0≤p m→m≠a→(x=a∨p m<p x)→Dq E p a m (m::ρ)
theorem Dq.mono{E:Nat→Nat→Prop}{p p':Nat→Int}{a v:Nat}{ρ:List Nat}(hp:∀v,0≤p v→p' v=p v)(h:Dq E p a v ρ):Dq E p' a v ρ:=by
 induction h with
 |base=>exact .base
 | @step x m ρ _ e h0 hn hl ih=>
  refine .step ih e (by rw[hp m h0];exact h0) hn ?_
  rcases hl with h|h
  ·exact .inl h
  ·right;rw[hp m h0,hp x oM];exact h
theorem Dq.snoc{E:Nat→Nat→Prop}{p:Nat→Int}{a v a':Nat}{ρ:List Nat}(h:Dq E p a v ρ)(hl:∀m,0≤p m→m=a∨p m<p a)(e:E a' a)(h0:0≤p a)(hn:p a'= -1):Dq E p a' v (ρ++ [a']):=by
 induction h with
 |base=>exact .step .base e h0 (by intro h;subst h;omega) (.inl rfl)
 | @step x m ρ _ e' h0' hne hl' ih=>
  refine .step ih e' h0' (by intro h;subst h;omega) ?_
  rcases hl' with h|h
  ·subst h
   rcases hl m h0' with h|h
   ·exact absurd h hne
   ·exact .inr h
  ·exact .inr h
theorem Dq.dp{E:Nat→Nat→Prop}{p:Nat→Int}{v:Nat}{ρ:List Nat}(h:Dq E p 0 v ρ)(hl:∀m,0≤p m→m=0∨p m<p 0):Dp E p v ρ:=by
 induction h with
 |base=>exact .base
 | @step x m ρ _ e h0 hne hl' ih=>
  refine .step ih e ?_
  rcases hl' with h|h
  ·subst h
   exact(hl m h0).resolve_left hne
  ·exact h
structure Iv(N:Nat)(π:List Nat)(seen:List Bool)(l pl:List Int):Prop where
 ls:seen.length=N
 lp:pl.length=N
 at_:∀i,i<l.length→∃v:Nat,v<N∧l[i]? =some (v:Int)∧pf pl v=i
 pv:∀v,pf pl v= -1∨∃i:Nat,i<l.length∧pf pl v=i∧l[i]? =some (v:Int)
 sv:∀v,v<N→(seen[v]? =some true↔v∈π∨0≤pf pl v)
 gr:∀v∈π,v<N∧pf pl v= -1
theorem Iv.llen{N:Nat}{π:List Nat}{seen:List Bool}{l pl:List Int}(h:Iv N π seen l pl):l.length≤N:=by
 have h1:(l.map Int.toNat).Nodup:=by
  rw[List.Nodup,List.pairwise_iff_getElem]
  intro i j hi hj hij e
  simp only[List.length_map] at hi hj
  simp only[List.getElem_map] at e
  obtain⟨v,_,g1,g2⟩:=h.at_ i hi
  obtain⟨v',_,g3,g4⟩:=h.at_ j hj
  have e1:l[i]=(v:Int):=by rw[geG hi] at g1;exact inS g1
  have e2:l[j]=(v':Int):=by rw[geG hj] at g3;exact inS g3
  rw[e1,e2] at e
  have:v=v':=oM
  subst this;omega
 have:=oU N _ h1 λx hx=>by
  obtain⟨z,hz,rfl⟩:=List.mem_map.1 hx
  obtain⟨i,hi⟩:=List.mem_iff_getElem?.1 hz
  obtain⟨v,hv,g1,_⟩:=h.at_ i (giS.1 hi).1
  rw[g1] at hi
  have:=inS hi
  omega
 simpa using this
theorem Iv.lt{N:Nat}{π:List Nat}{seen:List Bool}{l pl:List Int}(h:Iv N π seen l pl){v:Nat}(hv:0≤pf pl v):v<N∧pf pl v<l.length:=by
 rcases h.pv v with h1|⟨i,h1,h2,_⟩
 ·omega
 ·refine⟨?_,oM⟩
  refine Classical.byContradiction λhn=>?_
  rw[mm (by rw[h.lp];omega)] at hv;omega
structure Fi(E:Nat→Nat→Prop)(N:Nat)(π:List Nat)(n:Nat)(pl:List Int)(seen':List Bool)(l' pl':List Int):Prop where
 iv:Iv N π seen' l' pl'
 ext:∀v,0≤pf pl v→pf pl' v=pf pl v
 pn:0≤pf pl' n
 last:∀m,0≤pf pl' m→m=n∨pf pl' m<pf pl' n
 new:∀v,pf pl v= -1→0≤pf pl' v→∃ρ,Dq E (pf pl') n v ρ∧∀m,E v m→(0≤pf pl' m∧pf pl' m<pf pl' v)∨m∈ρ∨m∈π
structure Mi(b:List ab)(π:List Nat)(n:Nat)(k:ab)(pl0:List Int)(i:Nat)(s:List Bool×List Int×List Int×List ab):Prop where
 bb:s.2.2.2=b
 iv:Iv b.length (n::π) s.1 s.2.1 s.2.2.1
 ext:∀v,0≤pf pl0 v→pf s.2.2.1 v=pf pl0 v
 new:∀v,pf pl0 v= -1→0≤pf s.2.2.1 v→∃ρ,Dq (Ed b) (pf s.2.2.1) n v ρ∧∀m,Ed b v m→(0≤pf s.2.2.1 m∧pf s.2.2.1 m<pf s.2.2.1 v)∨m∈ρ∨m∈π
 done:∀j (m:Nat),j<i→k.next[j]? =some (m:Int)→m∈n::π∨0≤pf s.2.2.1 m
theorem walk(b:List ab)(hs:aP b)(hv:av b=true):∀(fuel:Nat)(π:List Nat)(seen:List Bool)(l pl:List Int)(n:Nat),Iv b.length π seen l pl→n<b.length→n∉π→pf pl n= -1→π.Nodup→b.length+1≤fuel+π.length→
  ∃seen' l' pl',f81 fuel b seen l pl (n:Int)=some (b,seen',l',pl')∧Fi (Ed b) b.length π n pl seen' l' pl'
 |0,π,seen,l,pl,n,hI,hn,hnp,_,hnd,hf=>by
  have:=oU b.length (n::π) (List.nodup_cons.2 ⟨hnp,hnd⟩) λx hx=>by
   rcases List.mem_cons.1 hx with rfl|hx
   ·exact hn
   ·exact(hI.gr x hx).1
  simp only[List.length_cons] at this
  omega
 |f+1,π,seen,l,pl,n,hI,hn,hnp,hpn,hnd,hf=>by
  have hN:=hs.len
  rw[f81]
  unfold f81s
  have hsl:=hI.ls
  have hpl:=hI.lp
  rw[aJ (by omega:n<seen.length),bnS,aq]
  try dsimp only
  rw[aJ hn,bnS]
  have hkm:b[n]∈b:=List.getElem_mem hn
  have hkn:=hs.next _ hkm
  generalize hK:(λ(l43:List Bool)(l45:List Int)(l47:List Int)(c10v49:List ab)=>
   (idx l47 (n:Int)).bind λx87=>aR (cw 8 l45 [(n:Int)]) (some (c10v49,l43,(l45++ [(n:Int)]),(List.set l47 (Int.toNat (n:Int)) (List.length l45:Int)))))=K
  have hset:∀v,v<b.length→((seen.set n true)[v]? =some true↔v∈n::π∨0≤pf pl v):=λv hvN=>by
   rw[List.getElem?_set]
   by_cases e:n=v
   ·subst e;simp[hsl,hn]
   ·rw[if_neg e,hI.sv v hvN,List.mem_cons]
    constructor
    ·rintro(h|h)
     ·exact .inl (.inr h)
     ·exact .inr h
    ·rintro((h|h)|h)
     ·exact absurd h.symm e
     ·exact .inl h
     ·exact .inr h
  have hstart:Mi b π n b[n] pl 0 (seen.set n true,l,pl,b):=by
   refine⟨rfl,⟨by rw[List.length_set];exact hsl,hpl,hI.at_,hI.pv,hset,λv hv=>?_⟩,λ_ _=>rfl,λv h1 h2=>?_,λj m hj=>oM⟩
   ·rcases List.mem_cons.1 hv with rfl|hv
    ·exact⟨hn,hpn⟩
    ·exact hI.gr v hv
   ·simp only at h2;omega
  obtain⟨s',e',hM⟩:=eb b[n].next (λm i s=>f81s_l1 (f81 f) K b[n] m i s.1 s.2.1 s.2.2.1 s.2.2.2) (λs=>K s.1 s.2.1 s.2.2.1 s.2.2.2) (Mi b π n b[n] pl) oM
   (λfu i hi s hP=>by
    obtain⟨se,ls,ps,bs⟩:=s
    have hbb:=hP.bb
    simp only at hbb
    subst hbb
    have hiv:=hP.iv
    simp only at hiv⊢
    rw[f81s_l1,eu hi,cdT,aq,aJ hi,bnS]
    have hval:=aK hv hkm (List.getElem_mem hi)
    obtain⟨m,hm⟩:=Int.eq_ofNat_of_zero_le hval.1
    have hmN:m<bs.length:=oM
    rw[hm]
    have hsel:=hiv.ls
    rw[aJ (show m<se.length by omega),bnS,w1 hi oM]
    have hE:Ed bs n m:=⟨bs[n],geG hn,by rw[←hm];exact List.getElem_mem hi⟩
    have hsm:=hiv.sv m hmN
    cases hse:se[m] with
    |true=>
     refine⟨(se,ls,ps,bs),rfl,rfl,hiv,hP.ext,hP.new,λj m' hj hj'=>?_⟩
     by_cases hji:j<i
     ·exact hP.done j m' hji hj'
     ·have:j=i:=oM
      subst this
      rw[geG hi,hm] at hj'
      have:m'=m:=by have:=inS hj';omega
      subst this
      exact hsm.1 (by rw[geG oM,hse])
    |false=>
     have hnot:¬(m∈n::π∨0≤pf ps m):=λh=>by
      have:=hsm.2 h
      rw[geG oM,hse] at this
      cases this
     have hpm:pf ps m= -1:=by
      rcases hiv.pv m with h|⟨k,_,h,_⟩
      ·exact h
      ·exact absurd (.inr oM) hnot
     obtain⟨se',ls',ps',e1,hF⟩:=walk bs hs hv f (n::π) se ls ps m hiv hmN (λh=>hnot (.inl h)) hpm (List.nodup_cons.2 ⟨hnp,hnd⟩) (by simp only[List.length_cons];omega)
     rw[Bool.not_false,cdT,e1,bnS]
     have hnn:pf ps' n= -1:=(hF.iv.gr n sM).2
     refine⟨(se',ls',ps',bs),rfl,rfl,hF.iv,λv h=>?_,λv h1 h2=>?_,λj m' hj hj'=>?_⟩
     ·have h3:=hP.ext v h
      simp only at h3⊢
      rw[hF.ext v oM,h3]
     ·simp only at h2
      by_cases h3:0≤pf ps v
      ·obtain⟨ρ,r1,r2⟩:=hP.new v h1 h3
       refine⟨ρ,r1.mono hF.ext,λm' hm'=>?_⟩
       rcases r2 m' hm' with⟨q1,q2⟩|q
       ·left
        simp only at q1 q2⊢
        rw[hF.ext m' q1,hF.ext v h3];exact⟨q1,q2⟩
       ·exact .inr q
      ·have h4:pf ps v= -1:=by
        rcases hiv.pv v with h|⟨k,_,h,_⟩
        ·exact h
        ·omega
       obtain⟨ρ,r1,r2⟩:=hF.new v h4 h2
       refine⟨ρ++ [n],r1.snoc hF.last hE hF.pn hnn,λm' hm'=>?_⟩
       rcases r2 m' hm' with q|q|q
       ·exact .inl q
       ·exact .inr (.inl (by simp[q]))
       ·rcases List.mem_cons.1 q with rfl|q
        ·exact .inr (.inl sM)
        ·exact .inr (.inr q)
     ·by_cases hji:j<i
      ·rcases hP.done j m' hji hj' with h|h
       ·exact .inl h
       ·right
        simp only at h⊢
        rw[hF.ext m' h];exact h
      ·have:j=i:=oM
       subst this
       rw[geG hi,hm] at hj'
       have:m'=m:=by have:=inS hj';omega
       subst this
       exact .inr hF.pn)
   (λfu s _=>by rw[f81s_l1,eF,cdF]) (Int.toNat ((b[n].next.length:Int) - 0)+1) 0 (seen.set n true,l,pl,b) (Nat.zero_le _) oM hstart
  obtain⟨se,ls,ps,bs⟩:=s'
  have hbb:=hM.bb
  simp only at hbb
  subst hbb
  have hiv:=hM.iv
  simp only at hiv e'
  rw[show((0:Nat):Int)=0 from rfl] at e'
  rw[show Int.toNat (n:Int)=n from rfl,e',←hK]
  have hpsl:=hiv.lp
  have hll:=hiv.llen
  have hnn:pf ps n= -1:=(hiv.gr n sM).2
  try dsimp only
  rw[aJ (show n<ps.length by omega),bnS,aT _ (cY dC (by simp;omega))]
  have hpf:=λv=>j9 (k:=(ls.length:Int)) (show n<ps.length by omega) v
  have hext:∀v,0≤pf ps v→pf (ps.set n (ls.length:Int)) v=pf ps v:=λv h=>by
   rw[hpf,if_neg (by intro e;subst e;omega)]
  refine⟨_,_,_,rfl,⟨hiv.ls,by rw[show Int.toNat (n:Int)=n from rfl,List.length_set];exact hpsl,λi hi=>?_,λv=>?_,λv hvN=>?_,λv hvπ=>?_⟩,λv h=>?_,?_,λm hm=>?_,λv h1 h2=>?_⟩<;>(try rw[show Int.toNat (n:Int)=n from rfl] at*)
  ·by_cases hi2:i<ls.length
   ·obtain⟨v,g1,g2,g3⟩:=hiv.at_ i hi2
    exact⟨v,g1,by rw[List.getElem?_append_left hi2];exact g2,by rw[hext v oM];exact g3⟩
   ·have:i=ls.length:=by simp at hi;omega
    subst this
    exact⟨n,hn,sM,by rw[hpf,if_pos rfl]⟩
  ·by_cases e:v=n
   ·subst e;exact .inr ⟨ls.length,sM,by rw[hpf,if_pos rfl],sM⟩
   ·rw[hpf,if_neg e]
    rcases hiv.pv v with h|⟨i,g1,g2,g3⟩
    ·exact .inl h
    ·exact .inr ⟨i,by simp;omega,g2,by rw[List.getElem?_append_left g1];exact g3⟩
  ·rw[hiv.sv v hvN,List.mem_cons,hpf]
   by_cases e:v=n
   ·subst e;simp
   ·rw[if_neg e];simp[e]
  ·have hne:v≠n:=λe=>hnp (e▸hvπ)
   rw[hpf,if_neg hne]
   exact hiv.gr v (by simp[hvπ])
  ·have h3:=hM.ext v h
   simp only at h3
   rw[hext v oM,h3]
  ·rw[hpf,if_pos rfl];omega
  ·by_cases e:m=n
   ·exact .inl e
   ·right
    rw[hpf,if_neg e] at hm⊢
    rw[hpf,if_pos rfl]
    exact(hiv.lt hm).2
  ·by_cases e:v=n
   ·subst e
    refine⟨[v], .base,λm hm=>?_⟩
    obtain⟨k,hk1,hk2⟩:=hm
    rw[geG hn] at hk1
    obtain rfl:=inS hk1
    obtain⟨j,hj⟩:=List.mem_iff_getElem?.1 hk2
    have h3:=hM.done j m (giS.1 hj).1 hj
    simp only at h3
    by_cases e2:m=v
    ·exact .inr (.inl (by simp[e2]))
    ·rcases h3 with h3|h3
     ·rcases List.mem_cons.1 h3 with h3|h3
      ·exact absurd h3 e2
      ·exact .inr (.inr h3)
     ·left
      rw[hext m h3,hpf v,if_pos rfl]
      exact⟨h3,(hiv.lt h3).2⟩
   ·rw[hpf,if_neg e] at h2
    obtain⟨ρ,r1,r2⟩:=hM.new v h1 h2
    refine⟨ρ,r1.mono hext,λm hm=>?_⟩
    rcases r2 m hm with⟨q1,q2⟩|q
    ·left
     simp only at q1 q2
     rw[hext m q1,hext v h2];exact⟨q1,q2⟩
    ·exact .inr q
structure Ord(b:List ab)(l pl:List Int):Prop where
 dfs:Dfs (Ed b) (pf pl)
 lp:pl.length=b.length
 at_:∀i,i<l.length→∃v:Nat,v<b.length∧l[i]? =some (v:Int)∧pf pl v=i
 pv:∀v,pf pl v= -1∨∃i:Nat,i<l.length∧pf pl v=i∧l[i]? =some (v:Int)
 llen:l.length≤b.length
theorem Ord.lt{b:List ab}{l pl:List Int}(h:Ord b l pl){v:Nat}(hv:0≤pf pl v):v<b.length∧pf pl v<l.length:=by
 rcases h.pv v with h1|⟨i,h1,h2,_⟩
 ·omega
 ·refine⟨?_,oM⟩
  refine Classical.byContradiction λhn=>?_
  rw[mm (by rw[h.lp];omega)] at hv;omega
theorem Ord.mem{b:List ab}{l pl:List Int}(h:Ord b l pl){v:Nat}:(v:Int)∈l↔0≤pf pl v:=by
 constructor
 ·intro hm
  obtain⟨i,hi⟩:=List.mem_iff_getElem?.1 hm
  obtain⟨v',_,g1,g2⟩:=h.at_ i (giS.1 hi).1
  rw[g1] at hi
  have:v'=v:=by have:=inS hi;omega
  subst this;omega
 ·intro hv
  rcases h.pv v with h1|⟨i,_,_,h3⟩
  ·omega
  ·exact List.mem_of_getElem? h3
theorem nu(b:List ab)(hs:aP b)(hv:av b=true)(h0:0<b.length):∃l pl,f45 b=some (l,pl)∧Ord b l pl:=by
 have hN:=hs.len
 have hI:Iv b.length [] (List.replicate b.length false) [] (List.replicate b.length (-1)):=by
  have hp:∀v,pf (List.replicate b.length (-1)) v= -1:=λv=>by
   by_cases h:v<b.length
   ·have:=dD (pl:=List.replicate b.length (-1)) (v:=v) (by simpa using h)
    rw[List.getElem?_replicate,if_pos h] at this
    exact(inS this).symm
   ·exact mm (by simpa using Nat.le_of_not_lt h)
  refine⟨sM,sM,λi hi=>absurd hi sM,λv=> .inl (hp v),λv hvN=>?_,λv hv=>absurd hv sM⟩
  rw[List.getElem?_replicate,if_pos hvN,hp]
  simp
 have hp0:pf (List.replicate b.length (-1)) 0= -1:=by
  rcases hI.pv 0 with h|⟨i,h,_,_⟩
  ·exact h
  ·exact absurd h sM
 obtain⟨seen,l,pl,e,hF⟩:=walk b hs hv 100 [] _ [] _ 0 hI h0 sM hp0 List.nodup_nil (by simp only[List.length_nil];omega)
 rw[show((0:Nat):Int)=0 from rfl] at e
 have hiv:=hF.iv
 refine⟨l,pl,?_,⟨?_,hiv.lp,hiv.at_,hiv.pv,hiv.llen⟩⟩
 ·unfold f45
  rw[rU hN,bnS,aT _ (mr dC oM),aq,dcT (by omega:(b.length:Int)>0),cdT]
  rw[show Int.toNat (b.length:Int)=b.length from rfl,e,bnS]
 ·have hold:∀v,pf (List.replicate b.length (-1)) v= -1:=λv=>by
   rcases hI.pv v with h|⟨i,h,_,_⟩
   ·exact h
   ·exact absurd h sM
  have hdp:∀v,0≤pf pl v→∃ρ,Dp (Ed b) (pf pl) v ρ∧∀m,Ed b v m→(0≤pf pl m∧pf pl m<pf pl v)∨m∈ρ:=λv hv'=>by
   obtain⟨ρ,r1,r2⟩:=hF.new v (hold v) hv'
   refine⟨ρ,r1.dp hF.last,λm hm=>?_⟩
   rcases r2 m hm with q|q|q
   ·exact .inl q
   ·exact .inr q
   ·exact absurd q sM
  have hreach:∀n,Wy (Ed b) 0 (-1) n→0≤pf pl n:=λn h=>by
   induction h with
   |base _=>exact hF.pn
   | @step x n _ e _ ih=>
    obtain⟨ρ,r1,r2⟩:=hdp x ih
    rcases r2 n e with⟨q,_⟩|q
    ·exact q
    ·have:=r1.le n q;omega
  refine⟨λn=>⟨hreach n,λhn=>?_⟩,λx y hx hxy=>?_,λx hx=>?_⟩
  ·obtain⟨ρ,r1,_⟩:=hdp n hn
   exact r1.way λv _=>oM
  ·rcases hiv.pv x with h|⟨i,_,h2,h3⟩
   ·omega
   ·rcases hiv.pv y with h|⟨j,_,h5,h6⟩
    ·omega
    ·have:i=j:=oM
     subst this
     rw[h3] at h6
     have:=inS h6
     omega
  ·obtain⟨ρ,r1,r2⟩:=hdp x hx
   refine⟨ρ,r1,λn hn=>?_⟩
   rcases r2 n hn with⟨_,q⟩|q
   ·exact .inl q
   ·exact .inr q
def BfI(b:List ab)(l:List Int)(i:Nat)(bf:List (List Int)):Prop:=
 bf.length=b.length∧∀m,m<b.length→∃L,bf[m]? =some L∧L.length≤i*1000∧∀z,z∈L↔∃x:Nat,z=x∧(∃j,j<i∧l[j]? =some (x:Int))∧Ed b x m
def BfJ(b:List ab)(l:List Int)(i:Nat)(k:ab)(x:Int)(j:Nat)(bf:List (List Int)):Prop:=
 bf.length=b.length∧∀m,m<b.length→∃L,bf[m]? =some L∧L.length≤i*1000+j∧∀z,z∈L↔(∃x:Nat,z=x∧(∃j,j<i∧l[j]? =some (x:Int))∧Ed b x m)∨(z=x∧∃j',j'<j∧k.next[j']? =some (m:Int))
theorem vb{b:List ab}{l:List Int}{i:Nat}{k:ab}{x:Int}{j:Nat}{bf:List (List Int)}{m:Nat}{L:List Int}(h:BfJ b l i k x j bf)(hm:m<b.length)(hk:k.next[j]? =some (m:Int))(hL:bf[m]? =some L):BfJ b l i k x (j+1) (bf.set m (L++ [x])):=by
 refine⟨by rw[List.length_set];exact h.1,λm' hm'=>?_⟩
 obtain⟨L',g1,g2,g3⟩:=h.2 m' hm'
 by_cases e:m=m'
 ·subst e
  rw[hL] at g1
  obtain rfl:=inS g1
  refine⟨L++ [x],by rw[List.getElem?_set_self (by rw[h.1];exact hm)],by simp;omega,λz=>?_⟩
  rw[List.mem_append,g3 z,List.mem_singleton]
  constructor
  ·rintro((q|⟨q1,j',q2,q3⟩)|q)
   ·exact .inl q
   ·exact .inr ⟨q1,j',oM,q3⟩
   ·exact .inr ⟨q,j,oM,hk⟩
  ·rintro(q|⟨q1,_⟩)
   ·exact .inl (.inl q)
   ·exact .inr q1
 ·refine⟨L',by rw[List.getElem?_set_ne e];exact g1,oM,λz=>?_⟩
  rw[g3 z]
  constructor
  ·rintro(q|⟨q1,j',q2,q3⟩)
   ·exact .inl q
   ·exact .inr ⟨q1,j',oM,q3⟩
  ·rintro(q|⟨q1,j',q2,q3⟩)
   ·exact .inl q
   ·refine .inr ⟨q1,j',?_,q3⟩
    rcases Nat.lt_or_ge j' j with h|h
    ·exact h
    ·have:j'=j:=oM
     subst this
     rw[hk] at q3
     have:=inS q3
     omega
theorem bf_in{b:List ab}{l:List Int}{i:Nat}{k:ab}{x:Nat}{bf:List (List Int)}(h:BfI b l i bf):BfJ b l i k (x:Int) 0 bf:=
 ⟨h.1,λm hm=>by
  obtain⟨L,g1,g2,g3⟩:=h.2 m hm
  refine⟨L,g1,oM,λz=>?_⟩
  rw[g3 z]
  constructor
  ·exact .inl
  ·rintro(q|⟨_,j',q,_⟩)
   ·exact q
   ·omega⟩
theorem w6{b:List ab}{l:List Int}{i:Nat}{k:ab}{x:Nat}{bf:List (List Int)}(hx:l[i]? =some (x:Int))(hk:b[x]? =some k)(hkl:k.next.length≤1000)(h:BfJ b l i k (x:Int) k.next.length bf):BfI b l (i+1) bf:=
 ⟨h.1,λm hm=>by
  obtain⟨L,g1,g2,g3⟩:=h.2 m hm
  refine⟨L,g1,oM,λz=>?_⟩
  rw[g3 z]
  constructor
  ·rintro(⟨x',q1,⟨j,q2,q3⟩,q4⟩|⟨q1,j',_,q3⟩)
   ·exact⟨x',q1,⟨j,oM,q3⟩,q4⟩
   ·exact⟨x,q1,⟨i,oM,hx⟩,k,hk,List.mem_of_getElem? q3⟩
  ·rintro⟨x',q1,⟨j,q2,q3⟩,q4⟩
   rcases Nat.lt_or_ge j i with h|h
   ·exact .inl ⟨x',q1,⟨j,h,q3⟩,q4⟩
   ·have:j=i:=oM
    subst this
    rw[hx] at q3
    have:x=x':=by have:=inS q3;omega
    subst this
    obtain⟨k',e1,e2⟩:=q4
    rw[hk] at e1
    obtain rfl:=inS e1
    obtain⟨j',hj'⟩:=List.mem_iff_getElem?.1 e2
    exact .inr ⟨q1,j',(giS.1 hj').1,hj'⟩⟩
theorem tn{b:List ab}{l:List Int}:BfI b l 0 (List.replicate b.length []):=
 ⟨sM,λm hm=>⟨[],by rw[List.getElem?_replicate,if_pos hm],sM,λz=>by
  constructor
  ·intro h;cases h
  ·rintro⟨_,_,⟨j,hj,_⟩,_⟩;omega⟩⟩
theorem f19_bf(b:List ab)(hs:aP b)(hv:av b=true)(l pl:List Int)(hO:Ord b l pl)(K:List (List Int)→Option (List Int)):∃bf,f19_l1 b (l,pl) K (Int.toNat ((l.length:Int) - 0)+1) 0 (List.replicate b.length [])=K bf∧BfI b l l.length bf:=by
 have hN:=hs.len
 have hll:=hO.llen
 have:=eb l (λn i s=>f19_l1 b (l,pl) K n i s) K (BfI b l) oM
  (λfu i hi s hP=>by
   obtain⟨x,hx,hx1,_⟩:=hO.at_ i hi
   rw[f19_l1,eu hi,cdT,aq]
   rw[bc,hx1,bnS,aJ hx,bnS,w1 hi oM]
   have hkm:b[x]∈b:=List.getElem_mem hx
   have hkl:=hs.next _ hkm
   have:=eb b[x].next (λn j s=>f19_l2 (λl137=>f19_l1 b (l,pl) K fu ((i+1:Nat):Int) l137) (x:Int) b[x] n j s) (λs=>f19_l1 b (l,pl) K fu ((i+1:Nat):Int) s) (BfJ b l i b[x] (x:Int)) oM
    (λfu j hj s hP=>by
     rw[f19_l2,eu hj,cdT,aJ hj,bnS,w1 hj oM]
     have hval:=aK hv hkm (List.getElem_mem hj)
     obtain⟨m,hm⟩:=Int.eq_ofNat_of_zero_le hval.1
     have hmN:m<b.length:=oM
     rw[hm]
     obtain⟨L,g1,g2,g3⟩:=hP.2 m hmN
     rw[bc,g1,bnS,aT _ (cY dC (by simp only[List.length_singleton];omega))]
     exact⟨_,rfl,vb hP (show Int.toNat (m:Int)<b.length from hmN) (by rw[geG hj,hm];rfl) g1⟩)
    (λfu s _=>by rw[f19_l2,eF,cdF]) (Int.toNat ((b[x].next.length:Int) - 0)+1) 0 s (Nat.zero_le _) oM (bf_in hP)
   obtain⟨s',e,hP'⟩:=this
   exact⟨s',e,w6 hx1 (geG hx) hkl hP'⟩)
  (λfu s _=>by rw[f19_l1,eF,cdF]) (Int.toNat ((l.length:Int) - 0)+1) 0 _ (Nat.zero_le _) oM tn
 exact this
theorem rW{doms:List Int}(h0:pf doms 0=0){v:Nat}:Ok (pf doms) v↔0≤pf doms v:=by
 constructor
 ·rintro(rfl|h)
  ·omega
  ·exact h
 ·exact .inr
theorem wu{b:List ab}{l pl:List Int}(hO:Ord b l pl){doms:List Int}(hl:doms.length=b.length)(hw:WF (pf pl) (pf doms))(K:Int→Option (List Int)):∀(fuel x y:Nat),0≤pf pl x→0≤pf pl y→Ok (pf doms) x→Ok (pf doms) y→(2*(l.length:Int) - pf pl x - pf pl y).toNat<fuel→
  ∃d:Nat,f19_l6 (l,pl) doms K fuel (x:Int) (y:Int)=K (d:Int)∧0≤pf pl d∧Ok (pf doms) d∧∀u,An (pf doms) d u↔An (pf doms) x u∧An (pf doms) y u
 |0,_,_,_,_,_,_,h=>oM
 |f+1,x,y,hx,hy,ox,oy,hf=>by
  have hlp:=hO.lp
  have lx:=hO.lt hx
  have ly:=hO.lt hy
  rw[f19_l6]
  by_cases e:x=y
  ·subst e
   rw[dcT rfl]
   exact⟨x,rfl,hx,ox,λu=>sM⟩
  rw[dcF (show¬(x:Int)=(y:Int) by omega),Bool.not_false,cdT]
  dsimp only
  rw[bc,dD oM,bnS,bc,dD oM,bnS]
  by_cases hlt:pf pl x<pf pl y
  ·have hx0:x≠0:=by
    intro h;subst h
    rcases hO.dfs.top hy with h|h
    ·exact e h.symm
    ·omega
   obtain⟨m,hm⟩:=Int.eq_ofNat_of_zero_le (ox.resolve_left hx0)
   have hxm:=hw x m hx0 hm
   rw[dcT hlt,cdT,bc,dD oM,bnS,hm]
   have lm:=hO.lt (show 0≤pf pl m by omega)
   obtain⟨d,k1,k2,k3,k4⟩:=wu hO hl hw K f m y oM hy hxm.2.2 oy oM
   refine⟨d,k1,k2,k3,λu=>?_⟩
   rw[k4 u,dV hx0 hm]
   constructor
   ·rintro⟨h1,h2⟩;exact⟨.inr h1,h2⟩
   ·rintro⟨h1|h1,h2⟩
    ·subst h1
     rcases h2.le hw with h|h
     ·exact absurd h.symm e
     ·omega
    ·exact⟨h1,h2⟩
  ·have hlt':pf pl y<pf pl x:=by
    rcases Int.lt_or_eq_of_le (show pf pl y≤pf pl x by omega) with h|h
    ·exact h
    ·exact absurd (hO.dfs.inj y x hy h).symm e
   have hy0:y≠0:=by
    intro h;subst h
    rcases hO.dfs.top hx with h|h
    ·exact e h
    ·omega
   obtain⟨m,hm⟩:=Int.eq_ofNat_of_zero_le (oy.resolve_left hy0)
   have hym:=hw y m hy0 hm
   rw[dcF hlt,cdF,bc,dD oM,bnS,hm]
   have lm:=hO.lt (show 0≤pf pl m by omega)
   obtain⟨d,k1,k2,k3,k4⟩:=wu hO hl hw K f x m hx oM ox hym.2.2 oM
   refine⟨d,k1,k2,k3,λu=>?_⟩
   rw[k4 u,dV hy0 hm]
   constructor
   ·rintro⟨h1,h2⟩;exact⟨h1, .inr h2⟩
   ·rintro⟨h1,h2|h2⟩
    ·subst h2
     rcases h1.le hw with h|h
     ·exact absurd h e
     ·omega
    ·exact⟨h1,h2⟩
def Acc(pl doms:List Int)(L:List Int)(i:Nat)(d:Int):Prop:=
 (d= -1∧∀x:Nat,(x:Int)∈L.take i→¬Ok (pf doms) x)∨∃d':Nat,d=d'∧0≤pf pl d'∧Ok (pf doms) d'∧∀u,An (pf doms) d' u↔∀x:Nat,(x:Int)∈L.take i→Ok (pf doms) x→An (pf doms) x u
theorem bp{α:Type}{L:List α}{i:Nat}(h:i<L.length){x:α}:x∈L.take (i+1)↔x∈L.take i∨x=L[i]:=by
 have e:L.take (i+1)=L.take i++ [L[i]]:=by rw[List.take_add_one,geG h];rfl
 rw[e,List.mem_append,List.mem_singleton]
theorem tv{pl doms L:List Int}{i x:Nat}{d:Int}(hi:i<L.length)(hx:L[i]=(x:Int))(hn:¬Ok (pf doms) x)(h:Acc pl doms L i d):Acc pl doms L (i+1) d:=by
 rcases h with⟨h1,h2⟩|⟨d',h1,h2,h3,h4⟩
 ·refine .inl ⟨h1,λy hy=>?_⟩
  rcases(bp hi).1 hy with h|h
  ·exact h2 y h
  ·rw[hx] at h
   have:y=x:=oM
   subst this;exact hn
 ·refine .inr ⟨d',h1,h2,h3,λu=>?_⟩
  rw[h4 u]
  constructor
  ·intro h y hy ho
   rcases(bp hi).1 hy with h'|h'
   ·exact h y h' ho
   ·rw[hx] at h'
    have:y=x:=oM
    subst this;exact absurd ho hn
  ·intro h y hy ho
   exact h y ((bp hi).2 (.inl hy)) ho
theorem fold5{b:List ab}{l pl:List Int}(hO:Ord b l pl)(hN:b.length≤99){doms:List Int}(hl:doms.length=b.length)(h0:pf doms 0=0)(hw:WF (pf pl) (pf doms))(K:Int→Option (List Int))(n:Nat)(hn:n≠0)(L:List Int)(hL:L.length≤200000)(hp:∀z∈L,∃x:Nat,z=x∧0≤pf pl x):
  ∃d,f19_l5 (l,pl) doms (n:Int) K L (Int.toNat ((L.length:Int) - 0)+1) (-1) 0=K d∧Acc pl doms L L.length d:=by
 have hll:=hO.llen
 have hstart:Acc pl doms L 0 (-1):= .inl ⟨rfl,λx hx=>by simp at hx⟩
 obtain⟨F,hF⟩:∃F:Nat,F=9223372036854775808:=⟨_,rfl⟩
 have:=eb L (λm i s=>f19_l5 (l,pl) doms (n:Int) K L m s i) K (Acc pl doms L) oM
  (λfu i hi d hP=>by
   obtain⟨x,hx,hxp⟩:=hp _ (List.getElem_mem hi)
   have hxl:=hO.lt hxp
   rw[f19_l5,eu hi,cdT,aq,aJ hi,bnS,w1 hi oM,dcF (show¬(n:Int)=0 by omega),cdF,hx,bc,dD oM,bnS,bnS]
   by_cases hox:pf doms x<0
   ·rw[dcT hox,cdT]
    exact⟨d,rfl,tv hi hx (λh=>by have:=(rW h0).1 h;omega) hP⟩
   ·have hokx:Ok (pf doms) x:=(rW h0).2 oM
    rw[dcF hox,cdF]
    rcases hP with⟨h1,h2⟩|⟨d',h1,h2,h3,h4⟩
    ·subst h1
     rw[dcT (by decide:(-1:Int)<0),cdT]
     refine⟨_,rfl, .inr ⟨x,rfl,hxp,hokx,λu=>?_⟩⟩
     constructor
     ·intro h y hy ho
      rcases(bp hi).1 hy with h'|h'
      ·exact absurd ho (h2 y h')
      ·rw[hx] at h'
       have:y=x:=oM
       subst this;exact h
     ·intro h;exact h x ((bp hi).2 (.inr hx.symm)) hokx
    ·subst h1
     rw[dcF (show¬(d':Int)<0 by omega),cdF,aq,aq,←hF]
     obtain⟨e,k1,k2,k3,k4⟩:=wu hO hl hw (λx206=>f19_l5 (l,pl) doms (n:Int) K L fu x206 ((i+1:Nat):Int)) F d' x h2 hxp h3 hokx oM
     refine⟨e,k1, .inr ⟨e,rfl,k2,k3,λu=>?_⟩⟩
     rw[k4 u,h4 u]
     constructor
     ·rintro⟨q1,q2⟩ y hy ho
      rcases(bp hi).1 hy with h'|h'
      ·exact q1 y h' ho
      ·rw[hx] at h'
       have:y=x:=oM
       subst this;exact q2
     ·intro h
      exact⟨λy hy ho=>h y ((bp hi).2 (.inl hy)) ho,h x ((bp hi).2 (.inr hx.symm)) hokx⟩)
  (λfu s _=>by rw[f19_l5,eF,cdF]) (Int.toNat ((L.length:Int) - 0)+1) 0 (-1) (Nat.zero_le _) oM hstart
 exact this
theorem wP{l pl:List Int}{doms:List Int}(K:Int→Option (List Int))(L:List Int)(hL:L.length≤200000):
  f19_l5 (l,pl) doms 0 K L (Int.toNat ((L.length:Int) - 0)+1) (-1) 0=K (-1):=by
 obtain⟨d,e,hd⟩:=eb L (λm i s=>f19_l5 (l,pl) doms 0 K L m s i) K (λ_ d=>d= -1) oM
  (λfu i hi d hP=>by
   subst hP
   rw[f19_l5,eu hi,cdT,aq,aJ hi,bnS,w1 hi oM,dcT rfl,cdT,bnS,cdT]
   exact⟨-1,rfl,rfl⟩)
  (λfu s _=>by rw[f19_l5,eF,cdF]) (Int.toNat ((L.length:Int) - 0)+1) 0 (-1) (Nat.zero_le _) oM rfl
 subst hd
 exact e
structure Ps(b:List ab)(l pl:List Int)(k:Nat)(doms0:List Int)(i:Nat)(doms:List Int)(c:Bool):Prop where
 len:doms.length=b.length
 zero:pf doms 0=0
 mid:Mid (Ed b) (pf pl) k (pf doms0) ((i:Int) - 1) (pf doms)
 same:c=false→doms=doms0
 chg:c=true→∃v:Nat,(i:Int)≤pf pl v∧pf doms v≠pf doms0 v
theorem f19_pass{b:List ab}(hN:b.length≤99){l pl:List Int}(hO:Ord b l pl){bf:List (List Int)}(hbf:BfI b l l.length bf){k:Nat}{doms0:List Int}(hB:Bef (Ed b) (pf pl) k (pf doms0))(K:List Int→Bool→Option (List Int)):∀(i fuel:Nat)(doms:List Int)(c:Bool),i<l.length→i<fuel→Ps b l pl k doms0 i doms c→
  ∃doms' c',f19_l4 (l,pl) bf K fuel ((i:Int) - 1) doms c=K doms' c'∧Ps b l pl k doms0 0 doms' c'
 |0,fuel,doms,c,_,hf,hP=>by
  obtain⟨f,rfl⟩:∃f,fuel=f+1:=⟨fuel - 1,oM⟩
  rw[f19_l4,dcF oM,cdF]
  exact⟨_,_,rfl,hP⟩
 |i+1,fuel,doms,c,hi,hf,hP=>by
  obtain⟨f,rfl⟩:∃f,fuel=f+1:=⟨fuel - 1,oM⟩
  have hll:=hO.llen
  obtain⟨n,hn,hn1,hn2⟩:=hO.at_ i oM
  have hnz:n≠0:=by
   intro h;subst h
   obtain⟨m,_,_,hm⟩:=hO.at_ (i+1) hi
   rcases hO.dfs.top (show 0≤pf pl m by omega) with h|h
   ·subst h;omega
   ·omega
  have e1:((i+1:Nat):Int) - 1=(i:Int):=oM
  have hmid:=hP.mid
  rw[e1,←hn2] at hmid
  rw[e1,f19_l4,dcT oM,cdT]
  dsimp only
  obtain⟨L,g1,g2,g3⟩:=hbf.2 n hn
  rw[bc,hn1,bnS,aq,aq,bc,g1,bnS]
  have hpr:∀z∈L,∃x:Nat,z=x∧0≤pf pl x:=λz hz=>by
   obtain⟨x,q1,⟨j,q2,q3⟩,_⟩:=(g3 z).1 hz
   exact⟨x,q1,hO.mem.1 (List.mem_of_getElem? q3)⟩
  have hE:∀x:Nat,(x:Int)∈L↔Ed b x n∧0≤pf pl x:=λx=>by
   rw[g3]
   constructor
   ·rintro⟨x',q1,⟨j,q2,q3⟩,q4⟩
    have:x=x':=oM
    subst this
    exact⟨q4,hO.mem.1 (List.mem_of_getElem? q3)⟩
   ·rintro⟨q1,q2⟩
    obtain⟨j,hj⟩:=List.mem_iff_getElem?.1 (hO.mem.2 q2)
    exact⟨x,rfl,⟨j,(giS.1 hj).1,hj⟩,q1⟩
  obtain⟨d,hd1,hd2⟩:=fold5 hO hN hP.len hP.zero hmid.wf (λd189=>Option.bind (bif (!decide ((n:Int)=0)) then(Option.bind (idx doms (n:Int)) λx219=>some (!decide (x219=d189))) else some false) λb218=>(bif b218 then Option.bind (idx doms (n:Int)) λx220=>f19_l4 (l,pl) bf K f (IntKind.i64.wrap ((i:Int) - 1)) (List.set doms (Int.toNat (n:Int)) d189) true else f19_l4 (l,pl) bf K f (IntKind.i64.wrap ((i:Int) - 1)) doms c)) n hnz L oM hpr
  rw[hd1]
  have hnr:0≤pf pl n:=oM
  obtain⟨x0,e0,hl0,hx0⟩:=hO.dfs.parent hnr hnz
  obtain⟨d',rfl,h2,h3,h4⟩:∃d':Nat,d=d'∧0≤pf pl d'∧Ok (pf doms) d'∧∀u,An (pf doms) d' u↔∀x:Nat,(x:Int)∈L.take L.length→Ok (pf doms) x→An (pf doms) x u:=by
   rcases hd2 with⟨_,h⟩|h
   ·exact absurd (hmid.ok x0 hl0 hx0) (h x0 (by rw[List.take_length];exact(hE x0).2 ⟨e0,hx0⟩))
   ·exact h
  rw[List.take_length] at h4
  have hset:=Mid.set hO.dfs hB hmid hnr hnz h3 h2 (λu=>by
   rw[h4 u]
   constructor
   ·intro h x q1 q2 q3;exact h x ((hE x).2 ⟨q1,q2⟩) q3
   ·intro h x q1 q3;exact h x ((hE x).1 q1).1 ((hE x).1 q1).2 q3)
  have hset2:mg (pf doms) n (d':Int)=pf (doms.set n (d':Int)):=by
   funext v;rw[j9 (by rw[hP.len];exact hn)];rfl
  rw[hset2,hn2] at hset
  have hlt:=hO.lt hnr
  rw[dcF (show¬(n:Int)=0 by omega),Bool.not_false,cdT,bc,dD (by rw[hP.len];exact hn),bnS,bnS,bnS,w64 oM oM]
  have htn:Int.toNat (n:Int)=n:=rfl
  by_cases he:pf doms n=(d':Int)
  ·rw[dcT he,Bool.not_true,cdF]
   have hsame:doms.set n (d':Int)=doms:=by
    rw[←he]
    apply List.ext_getElem?
    intro j
    rw[List.getElem?_set]
    by_cases hj:n=j
    ·subst hj;rw[if_pos rfl,if_pos (by rw[hP.len];exact hn),dD (by rw[hP.len];exact hn)]
    ·rw[if_neg hj]
   rw[hsame] at hset
   obtain⟨doms',c',k1,k2⟩:=f19_pass hN hO hbf hB K i f doms c oM oM ⟨hP.len,hP.zero,hset,hP.same,λhc=>by
    obtain⟨v,q1,q2⟩:=hP.chg hc
    exact⟨v,oM,q2⟩⟩
   exact⟨doms',c',k1,k2⟩
  ·rw[dcF he,Bool.not_false,cdT,htn]
   obtain⟨doms',c',k1,k2⟩:=f19_pass hN hO hbf hB K i f (doms.set n (d':Int)) true oM oM ⟨by rw[List.length_set];exact hP.len,by rw[j9 (by rw[hP.len];exact hn),if_neg λh=>hnz h.symm];exact hP.zero,hset,λh=>(by cases h),λ_=>by
    refine⟨n,oM,?_⟩
    rw[j9 (by rw[hP.len];exact hn),if_pos rfl,←hmid.low n oM]
    exact λh=>he h.symm⟩
   exact⟨doms',c',k1,k2⟩
def fB(f:Nat→Nat):Nat→Nat
 |0=>0
 |n+1=>fB f n+f n
theorem pF{f g:Nat→Nat}:∀{n:Nat},(∀v,v<n→f v≤g v)→fB f n≤fB g n
 |0,_=>Nat.le_refl _
 |n+1,h=>by
  have:=pF (f:=f) (g:=g) (n:=n) λv hv=>h v oM
  have:=h n oM
  simp only[fB];omega
theorem mc{f g:Nat→Nat}:∀{n w:Nat},(∀v,v<n→f v≤g v)→w<n→f w<g w→fB f n<fB g n
 |0,_,_,h,_=>oM
 |n+1,w,h,hw,hlt=>by
  simp only[fB]
  have h1:=pF (f:=f) (g:=g) (n:=n) λv hv=>h v oM
  by_cases e:w=n
  ·subst e;omega
  ·have:=mc (f:=f) (g:=g) (n:=n) (w:=w) (λv hv=>h v oM) oM hlt
   have:=h n oM
   omega
theorem eW{f:Nat→Nat}{c:Nat}:∀{n:Nat},(∀v,v<n→f v≤c)→fB f n≤n*c
 |0,_=>by simp[fB]
 |n+1,h=>by
  have:=eW (f:=f) (c:=c) (n:=n) λv hv=>h v oM
  have:=h n oM
  simp only[fB];rw[Nat.succ_mul];omega
def msr(pl doms:List Int)(N:Nat):Nat:=fB (λv=>(pf pl (pf doms v).toNat+1).toNat) N
theorem oZ{b:List ab}{l pl:List Int}(hO:Ord b l pl)(doms:List Int):msr pl doms b.length≤b.length*b.length:=by
 refine eW λv _=>?_
 have hll:=hO.llen
 by_cases h:0≤pf pl (pf doms v).toNat
 ·have:=hO.lt h;omega
 ·omega
theorem ws{b:List ab}{l pl:List Int}(hO:Ord b l pl){j:Nat}{doms0 doms:List Int}(h0:Lev (Ed b) (pf pl) j (pf doms0))(h1:Lev (Ed b) (pf pl) (j+1) (pf doms))(z0:pf doms0 0=0)(z1:pf doms 0=0)(hlow:∀v,pf pl v≤-1→pf doms v=pf doms0 v)(hch:∃v:Nat,0≤pf pl v∧pf doms v≠pf doms0 v):
  msr pl doms0 b.length<msr pl doms b.length:=by
 have key:∀v,pf doms v=pf doms0 v∨∃a c:Nat,pf doms0 v=a∧pf doms v=c∧pf pl a<pf pl c∧0≤pf pl a:=λv=>by
  by_cases hv:0≤pf pl v
  ·by_cases hv0:v=0
   ·subst hv0;exact .inl oM
   ·obtain⟨a,ha⟩:=Int.eq_ofNat_of_zero_le ((h0.ok v hv).resolve_left hv0)
    obtain⟨c,hc⟩:=Int.eq_ofNat_of_zero_le ((h1.ok v hv).resolve_left hv0)
    have hwa:=h0.wf v a hv0 ha
    rcases climb hO.dfs h0 h1 hv hv0 ha hc with h|h
    ·exact .inl (by rw[ha,hc,h])
    ·exact .inr ⟨a,c,ha,hc,h,oM⟩
  ·exact .inl (hlow v oM)
 obtain⟨w,hw,hne⟩:=hch
 refine mc (w:=w) (λv _=>?_) (hO.lt hw).1 ?_
 ·rcases key v with h|⟨a,c,ha,hc,h,_⟩
  ·rw[h];exact Nat.le_refl _
  ·rw[ha,hc]
   show(pf pl a+1).toNat≤(pf pl c+1).toNat
   omega
 ·rcases key w with h|⟨a,c,ha,hc,h,_⟩
  ·exact absurd h hne
  ·rw[ha,hc]
   show(pf pl a+1).toNat<(pf pl c+1).toNat
   omega
theorem f19_passes{b:List ab}(hN:b.length≤99){l pl:List Int}(hO:Ord b l pl)(h00:0<b.length){bf:List (List Int)}(hbf:BfI b l l.length bf)(K:List Int→Bool→Option (List Int)):∀(fuel k:Nat)(doms:List Int),doms.length=b.length→pf doms 0=0→Bef (Ed b) (pf pl) k (pf doms)→b.length*b.length+(if k=0 then 3 else 2)<fuel+(if k=0 then 0 else msr pl doms b.length)→
  ∃doms' k',f19_l3 (l,pl) bf K fuel doms true=K doms' false∧doms'.length=b.length∧pf doms' 0=0∧Bef (Ed b) (pf pl) k' (pf doms')∧Lev (Ed b) (pf pl) k' (pf doms')∧∀v,pf pl v≤-1→pf doms' v=pf doms v
 |0,k,doms,_,_,_,hf=>by
  have:=oZ hO doms
  split at hf<;>omega
 |f+1,k,doms,hl,h0,hB,hf=>by
  have hll:=hO.llen
  have hz:=hO.dfs.zero
  have hz2:=hO.lt hz
  have hzl:pf pl 0=(l.length:Int) - 1:=by
   obtain⟨m,_,_,hm⟩:=hO.at_ (l.length - 1) oM
   rcases hO.dfs.top (show 0≤pf pl m by omega) with h|h
   ·subst h;omega
   ·omega
  rw[f19_l3,cdT,aq,aq,aq]
  dsimp only
  have hlen:(0:Int)≤(l.length:Int) - 1:=oM
  rw[w64 oM oM]
  obtain⟨i,hi⟩:∃i,l.length=i+1:=⟨l.length - 1,oM⟩
  have e1:(l.length:Int) - 1=(i:Int):=oM
  rw[e1]
  -- the block 0 stands last, and stays
  have e2:Int.toNat ((i:Int)+1)+1=(i+1)+1:=oM
  rw[e2,f19_l4,dcT oM,cdT]
  dsimp only
  have hl0:l[i]? =some ((0:Nat):Int):=by
   rcases hO.pv 0 with h|⟨j,_,h2,h3⟩
   ·omega
   ·have:j=i:=oM
    subst this;exact h3
  obtain⟨L,g1,g2,_⟩:=hbf.2 0 h00
  rw[bc,hl0,bnS,aq,aq,bc,g1,bnS,show((0:Nat):Int)=0 from rfl,wP _ L oM,dcT rfl,Bool.not_true,cdF,bnS,cdF,w64 oM oM]
  have hstart:=rp hO.dfs hB hB.wf
  rw[hzl,e1] at hstart
  obtain⟨doms',c',k1,k2⟩:=f19_pass hN hO hbf hB (λl172 c173=>f19_l3 (l,pl) bf K f l172 c173) i (i+1) doms false oM oM ⟨hl,h0,hstart,λ_=>rfl,λh=>by cases h⟩
  dsimp only
  rw[k1]
  have hmid:=k2.mid
  have hlev:Lev (Ed b) (pf pl) k (pf doms'):=vl (by simpa using hmid)
  cases c' with
  |false=>
   have hsame:=k2.same rfl
   subst hsame
   obtain⟨f',rfl⟩:∃f',f=f'+1:=⟨f - 1,by have:=oZ hO doms';split at hf<;>omega⟩
   rw[f19_l3,cdF]
   exact⟨doms',k,rfl,hl,h0,hB,hlev,λ_ _=>rfl⟩
  |true=>
   have hlt:(if k=0 then 0 else msr pl doms b.length+1)≤msr pl doms' b.length:=by
    split
    ·exact Nat.zero_le _
    ·rename_i hk
     rcases hB with⟨h,_⟩|⟨j,rfl,hB⟩
     ·exact absurd h hk
     ·exact ws hO hB hlev h0 k2.zero (λv hv=>hmid.low v (by simpa using hv)) (k2.chg rfl)
   obtain⟨doms'',k',q1,q2,q3,q4,q5,q6⟩:=f19_passes hN hO h00 hbf K f (k+1) doms' k2.len k2.zero (.inr ⟨k,rfl,hlev⟩) (by
    have:=oZ hO doms'
    rw[if_neg oM,if_neg oM]
    by_cases hk:k=0
    ·subst hk;simp only[if_true] at hf hlt;omega
    ·rw[if_neg hk] at hf hlt;rw[if_neg hk] at hf;omega)
   exact⟨doms'',k',q1,q2,q3,q4,q5,λv hv=>(q6 v hv).trans (hmid.low v (by simpa using hv))⟩
theorem uZ(b:List ab)(hs:aP b)(hv:av b=true)(h0:0<b.length):∃l pl doms,f45 b=some (l,pl)∧Ord b l pl∧f19 b=some (doms.set 0 (-1))∧doms.length=b.length∧pf doms 0=0∧WF (pf pl) (pf doms)∧(∀v,0≤pf pl v→Ok (pf doms) v)∧(∀v,pf pl v<0→pf doms v= -1)∧∀n u,0≤pf pl n→(An (pf doms) n u↔¬Wy (Ed b) 0 u n):=by
 have hN:=hs.len
 obtain⟨l,pl,e,hO⟩:=nu b hs hv h0
 obtain⟨bf,e1,hbf⟩:=f19_bf b hs hv l pl hO (λl125=>Option.bind (f46o [(-1)] (List.length b:Int)) λr154=>Option.bind (idx r154 0) λx156=>ai (λ(l157:List Int)(c80v158:Bool)=>Option.bind (idx l157 0) λx221=>some (List.set l157 (Int.toNat 0) (-1))) λk159=>(f19_l3 (l,pl) l125 k159 9223372036854775808 (List.set r154 (Int.toNat 0) 0) true))
 have hrl:(List.replicate b.length (-1:Int)).length=b.length:=sM
 have hr:∀v,pf (List.replicate b.length (-1)) v= -1:=λv=>by
  by_cases h:v<b.length
  ·have:=dD (pl:=List.replicate b.length (-1)) (v:=v) (by simpa using h)
   rw[List.getElem?_replicate,if_pos h] at this
   exact(inS this).symm
  ·exact mm (by simpa using Nat.le_of_not_lt h)
 have hset:∀v,pf ((List.replicate b.length (-1)).set 0 0) v=if v=0 then 0 else -1:=λv=>by
  rw[j9 oM];split
  ·rfl
  ·exact hr v
 have hB:Bef (Ed b) (pf pl) 0 (pf ((List.replicate b.length (-1)).set 0 0)):= .inl ⟨rfl,λv hv=>by rw[hset,if_neg hv];decide⟩
 obtain⟨F,hF⟩:∃F:Nat,F=9223372036854775808:=⟨_,rfl⟩
 obtain⟨doms,k',q1,q2,q3,q4,q5,q6⟩:=f19_passes hN hO h0 hbf (λ(l157:List Int)(c80v158:Bool)=>Option.bind (idx l157 0) λx221=>some (List.set l157 (Int.toNat 0) (-1))) F 0 _ (by rw[List.length_set];exact hrl) (by rw[hset,if_pos rfl]) hB (by
  have:b.length*b.length≤99*99:=Nat.mul_le_mul hN hN
  rw[if_pos rfl,if_pos rfl];omega)
 refine⟨l,pl,doms,e,hO,?_,q2,q3,q5.wf,q5.ok,λv hv=>?_,vY hO.dfs q4 q5⟩
 ·unfold f19
  rw[f44_eq b hs,bnS,hv,Bool.not_true,Bool.false_or,dcF oM,cdF,e,bnS,aT _ (mr dC oM),aq,show Int.toNat (b.length:Int)=b.length from rfl]
  dsimp only
  rw[e1,rU hN,bnS,show(0:Int)=((0:Nat):Int) from rfl,aJ oM,bnS,aq,←hF]
  rw[show((0:Nat):Int)=0 from rfl,show Int.toNat 0=0 from rfl] at*
  rw[q1,show(0:Int)=((0:Nat):Int) from rfl,aJ oM,bnS]
 ·rw[q6 v oM,hset,if_neg (by intro h;subst h;have:=hO.dfs.zero;omega)]
theorem allE{α ρ:Type}(xs:List α)(F:Nat→Int→Option ρ)(k e:Option ρ)(p:α→Bool)(hl:xs.length<9223372036854775808)
  (h0:∀n (i:Nat)(h:i<xs.length),F (n+1) (i:Int)=bif p xs[i] then F n ((i+1:Nat):Int) else e)
  (h1:∀n,F (n+1) (xs.length:Int)=k):∀(n i:Nat),i≤xs.length→xs.length<n+i→F n (i:Int)=bif (xs.drop i).all p then k else e
 |0,i,_,h=>oM
 |n+1,i,hi,h=>by
  by_cases hh:i<xs.length
  ·rw[lw hh,List.all_cons,h0 n i hh,allE xs F k e p hl h0 h1 n (i+1) oM oM]
   cases p xs[i]<;>rfl
  ·have e':i=xs.length:=oM
   subst e'
   rw[h1,List.drop_eq_nil_of_le (Nat.le_refl _)];rfl
theorem qs{α ρ:Type}(xs:List α)(F:Nat→Int→Option ρ)(k e:Option ρ)(p:α→Bool)(n:Nat)(hn:xs.length<n)(hl:xs.length<9223372036854775808)
  (h0:∀n (i:Nat)(h:i<xs.length),F (n+1) (i:Int)=bif p xs[i] then F n ((i+1:Nat):Int) else e)
  (h1:∀n,F (n+1) (xs.length:Int)=k):F n 0=bif xs.all p then k else e:=by
 have:=allE xs F k e p hl h0 h1 n 0 (Nat.zero_le _) oM
 rwa [List.drop_zero] at this
abbrev tr(S:List Bool)(v:Nat):Prop:=S[v]? =some true
theorem rN{S:List Bool}{n:Nat}(h:n<S.length)(v:Nat):tr (S.set n true) v↔v=n∨tr S v:=by
 unfold tr
 rw[List.getElem?_set]
 by_cases e:n=v
 ·subst e;simp[h]
 ·rw[if_neg e]
  constructor
  ·exact .inr
  ·rintro(h|h)
   ·exact absurd h.symm e
   ·exact h
theorem rO{S:List Bool}{v:Nat}(h:tr S v):v<S.length:=(giS.1 h).1
def cnt(S:List Bool)(N:Nat):Nat:=fB (λv=>if tr S v then 1 else 0) N
theorem kH(S:List Bool)(N:Nat):cnt S N≤N:=by
 have:=eW (f:=λv=>if tr S v then 1 else 0) (c:=1) (n:=N) λv _=>by split<;>omega
 unfold cnt;omega
structure Pw(b:List ab)(fr:Nat)(w:Int)(S0:List Bool)(i:Nat)(nx:List Int)(j:Nat)(S:List Bool)(c:Bool):Prop where
 len:S.length=b.length
 from_:tr S fr
 sound:∀n,tr S n→Wy (Ed b) fr w n
 mono:∀n,tr S0 n→tr S n
 same:c=false→S=S0
 chg:c=true→∃n,tr S n∧¬tr S0 n
 cl:c=false→∀i',i'<i→tr S0 i'→∀n,Ed b i' n→(n:Int)≠w→tr S0 n
 clj:c=false→tr S0 i→∀j' (n:Nat),j'<j→nx[j']? =some (n:Int)→(n:Int)≠w→tr S0 n
theorem f49_row{b:List ab}(hv:av b=true){fr:Nat}{w:Int}{S0:List Bool}{i:Nat}(hi:i<b.length)(hl:b[i].next.length≤1000)(K:Bool→List Bool→Option (List Bool)):∀(fuel j:Nat)(S:List Bool)(c:Bool),j≤b[i].next.length→b[i].next.length<fuel+j→Pw b fr w S0 i b[i].next j S c→
  ∃c' S',f49_l3 b w (i:Int) K fuel c (j:Int) S=K c' S'∧Pw b fr w S0 (i+1) [] 0 S' c'
 |0,j,S,c,_,h,_=>oM
 |f+1,j,S,c,hj,hf,hP=>by
  have hSl:=hP.len
  have hdone:(tr S i→j=b[i].next.length)→Pw b fr w S0 (i+1) [] 0 S c:=λhe=>
   ⟨hP.len,hP.from_,hP.sound,hP.mono,hP.same,hP.chg,λhc i' hi' ht n hn hw=>by
    rcases Nat.lt_or_ge i' i with h|h
    ·exact hP.cl hc i' h ht n hn hw
    ·have:i'=i:=oM
     subst this
     have hj':=he (by rw[hP.same hc];exact ht)
     obtain⟨k,hk1,hk2⟩:=hn
     rw[geG hi] at hk1
     obtain rfl:=inS hk1
     obtain⟨j',hj''⟩:=List.mem_iff_getElem?.1 hk2
     exact hP.clj hc ht j' n (by rw[hj'];exact(giS.1 hj'').1) hj'' hw,λ_ _ j' n h _ _=>oM⟩
  rw[f49_l3,aJ hi,bnS]
  by_cases hjl:j<b[i].next.length
  ·rw[eu hjl,cdT,aJ (by omega:i<S.length),bnS,bnS]
   cases hSi:S[i] with
   |false=>
    rw[cdF]
    exact⟨c,S,rfl,hdone λh=>by
     have:S[i]? =some true:=h
     rw[geG oM,hSi] at this
     cases this⟩
   |true=>
    have hti:tr S i:=by unfold tr;rw[geG oM,hSi]
    rw[cdT,aq,bnS,aJ hjl,bnS]
    have hval:=aK hv (List.getElem_mem hi) (List.getElem_mem hjl)
    obtain⟨n,hn⟩:=Int.eq_ofNat_of_zero_le hval.1
    have hnN:n<b.length:=oM
    have hE:Ed b i n:=⟨b[i],geG hi,by rw[←hn];exact List.getElem_mem hjl⟩
    rw[hn,w1 hjl oM]
    have hskip:(c=false→(n:Int)≠w→tr S0 n)→Pw b fr w S0 i b[i].next (j+1) S c:=λhe=>
     ⟨hP.len,hP.from_,hP.sound,hP.mono,hP.same,hP.chg,hP.cl,λhc ht j' n' hj' hn' hw=>by
      rcases Nat.lt_or_ge j' j with h|h
      ·exact hP.clj hc ht j' n' h hn' hw
      ·have:j'=j:=oM
       subst this
       rw[geG hjl,hn] at hn'
       have:n=n':=by have:=inS hn';omega
       subst this
       exact he hc hw⟩
    by_cases hw:(n:Int)=w
    ·rw[dcT hw,Bool.not_true,cdF,bnS,cdF]
     exact f49_row hv hi hl K f (j+1) S c oM oM (hskip λ_ h=>absurd hw h)
    ·rw[dcF hw,Bool.not_false,cdT,aJ (by omega:n<S.length),bnS,bnS]
     cases hSn:S[n] with
     |true=>
      rw[Bool.not_true,cdF]
      have htn:tr S n:=by unfold tr;rw[geG oM,hSn]
      exact f49_row hv hi hl K f (j+1) S c oM oM (hskip λhc _=>by rw[←hP.same hc];exact htn)
     |false=>
      rw[Bool.not_false,cdT,bnS,show Int.toNat (n:Int)=n from rfl]
      have hset:=rN (S:=S) (n:=n) oM
      refine f49_row hv hi hl K f (j+1) (S.set n true) true oM oM ⟨by rw[List.length_set];exact hSl,(hset fr).2 (.inr hP.from_),λm hm=>?_,λm hm=>(hset m).2 (.inr (hP.mono m hm)),λh=>(by cases h),λ_=>⟨n,(hset n).2 (.inl rfl),λh=>?_⟩,λh=>(by cases h),λh=>(by cases h)⟩
      ·rcases(hset m).1 hm with rfl|h
       ·exact .step (hP.sound i hti) hE hw
       ·exact hP.sound m h
      ·have:=hP.mono n h
       unfold tr at this
       rw[geG oM,hSn] at this
       cases this
  ·have:j=b[i].next.length:=oM
   rw[dcF oM,cdF,bnS,cdF]
   exact⟨c,S,rfl,hdone λ_=>this⟩
theorem f49_pass{b:List ab}(hs:aP b)(hv:av b=true){fr:Nat}{w:Int}{S0:List Bool}(K:Bool→List Bool→Option (List Bool)):∀(fuel i:Nat)(S:List Bool)(c:Bool),i≤b.length→b.length<fuel+i→Pw b fr w S0 i [] 0 S c→
  ∃c' S',f49_l2 b w K fuel c (i:Int) S=K c' S'∧Pw b fr w S0 b.length [] 0 S' c'
 |0,i,S,c,_,h,_=>oM
 |f+1,i,S,c,hi,hf,hP=>by
  have hN:=hs.len
  rw[f49_l2]
  by_cases hil:i<b.length
  ·have hbl:=hs.next _ (List.getElem_mem hil)
   obtain⟨F,hF⟩:∃F:Nat,F=9223372036854775808:=⟨_,rfl⟩
   rw[eu hil,cdT,aq,←hF]
   obtain⟨c',S',e,hP'⟩:=f49_row hv hil hbl (λagain103 l104=>f49_l2 b w K f again103 (IntKind.i64.wrap ((i:Int)+1)) l104) F 0 S c (Nat.zero_le _) oM ⟨hP.len,hP.from_,hP.sound,hP.mono,hP.same,hP.chg,hP.cl,λ_ _ j' n h _ _=>oM⟩
   rw[show((0:Nat):Int)=0 from rfl] at e
   rw[e,w1 hil oM]
   exact f49_pass hs hv K f (i+1) S' c' oM oM hP'
  ·have:i=b.length:=oM
   subst this
   rw[eF,cdF]
   exact⟨c,S,rfl,hP⟩
theorem f49_passes{b:List ab}(hs:aP b)(hv:av b=true){fr:Nat}{w:Int}(K:List Bool→Option (List Bool)):∀(fuel:Nat)(S:List Bool),S.length=b.length→tr S fr→(∀n,tr S n→Wy (Ed b) fr w n)→b.length+1<fuel+cnt S b.length→
  ∃S',f49_l1 b w K fuel true S=K S'∧S'.length=b.length∧∀n,tr S' n↔Wy (Ed b) fr w n
 |0,S,_,_,_,h=>by have:=kH S b.length;omega
 |f+1,S,hl,hfr,hso,hf=>by
  have hN:=hs.len
  obtain⟨F,hF⟩:∃F:Nat,F=9223372036854775808:=⟨_,rfl⟩
  rw[f49_l1,cdT,aq,←hF]
  obtain⟨c',S',e,hP⟩:=f49_pass hs hv (fr:=fr) (w:=w) (S0:=S) (λagain91 l92=>f49_l1 b w K f again91 l92) F 0 S false (Nat.zero_le _) oM ⟨hl,hfr,hso,λ_ h=>h,λ_=>rfl,λh=>(by cases h),λ_ i' h=>oM,λ_ _ j' n h=>oM⟩
  rw[show((0:Nat):Int)=0 from rfl] at e
  rw[e]
  cases c' with
  |false=>
   have hsame:=hP.same rfl
   subst hsame
   obtain⟨f',rfl⟩:∃f',f=f'+1:=⟨f - 1,by have:=kH S' b.length;omega⟩
   rw[f49_l1,cdF]
   refine⟨S',rfl,hl,λn=>⟨hso n,λh=>?_⟩⟩
   induction h with
   |base _=>exact hfr
   | @step x n _ e hw ih=>exact hP.cl rfl x (by have:=rO ih;omega) ih n e hw
  |true=>
   obtain⟨n,h1,h2⟩:=hP.chg rfl
   have hlt:cnt S b.length<cnt S' b.length:=by
    refine mc (w:=n) (λv _=>?_) (by have:=rO h1;rw[hP.len] at this;exact this) ?_
    ·by_cases h:tr S v
     ·rw[if_pos h,if_pos (hP.mono v h)];exact Nat.le_refl _
     ·rw[if_neg h];exact Nat.zero_le _
    ·rw[if_neg h2,if_pos h1];exact Nat.one_pos
   exact f49_passes hs hv K f S' hP.len hP.from_ hP.sound oM
theorem _root_.Go.FlD.Wy.nowhere{E:Nat→Nat→Prop}{s n:Nat}(h:Wy E s (s:Int) n):False:=by
 induction h with
 |base h=>exact h rfl
 |step _ _ _ ih=>exact ih
theorem f49_eq{b:List ab}(hs:aP b)(hv:av b=true){fr:Nat}(hfr:fr<b.length)(w:Int):∃S,f49 b (fr:Int) w=some S∧S.length=b.length∧∀n,tr S n↔Wy (Ed b) fr w n:=by
 have hN:=hs.len
 unfold f49
 rw[aT _ (mr dC oM),dcF (show¬(fr:Int)<0 by omega),dcF (show¬(fr:Int)≥(b.length:Int) by omega),Bool.false_or,Bool.false_or,show Int.toNat (b.length:Int)=b.length from rfl]
 have hrep:∀n,¬tr (List.replicate b.length false) n:=λn=>by
  unfold tr;rw[List.getElem?_replicate];split<;>simp
 by_cases hw:(fr:Int)=w
 ·rw[dcT hw,cdT]
  refine⟨_,rfl,sM,λn=>⟨λh=>absurd h (hrep n),λh=>?_⟩⟩
  subst hw;exact h.nowhere.elim
 ·rw[dcF hw,cdF,aJ (by simpa using hfr),bnS,aq,show Int.toNat (fr:Int)=fr from rfl]
  have hset:=rN (S:=List.replicate b.length false) (n:=fr) (by simpa using hfr)
  obtain⟨F,hF⟩:∃F:Nat,F=9223372036854775808:=⟨_,rfl⟩
  rw[←hF]
  obtain⟨S',e,h1,h2⟩:=f49_passes hs hv (fr:=fr) (w:=w) (λl83=>some l83) F ((List.replicate b.length false).set fr true) sM ((hset fr).2 (.inl rfl)) (λn hn=>by
   rcases(hset n).1 hn with rfl|h
   ·exact .base hw
   ·exact absurd h (hrep n)) oM
  exact⟨S',e,h1,h2⟩
def Dom(b:List ab)(d:Int)(n:Nat):Prop:=Wy (Ed b) 0 (-1) n∧¬Wy (Ed b) 0 d n
theorem f43_eq{b:List ab}(hs:aP b)(hv:av b=true){n:Nat}(hn:n<b.length)(d:Int):∃r,f43 b d (n:Int)=some r∧(r=true↔Dom b d n):=by
 obtain⟨S,e1,l1,h1⟩:=f49_eq hs hv (show 0<b.length by omega) (-1)
 obtain⟨S',e2,l2,h2⟩:=f49_eq hs hv (show 0<b.length by omega) d
 rw[show((0:Nat):Int)=0 from rfl] at e1 e2
 unfold f43
 rw[e1,bnS,aJ (by omega:n<S.length),bnS]
 have g1:=h1 n
 have g2:=h2 n
 unfold tr at g1 g2
 rw[geG oM] at g1 g2
 cases hS:S[n] with
 |false=>
  rw[hS] at g1
  exact⟨false,rfl,by
   constructor
   ·intro h;cases h
   ·intro h;have:=g1.2 h.1;cases this⟩
 |true=>
  rw[hS] at g1
  rw[cdT,e2,bnS,aJ (by omega:n<S'.length),bnS,bnS]
  refine⟨!S'[n],rfl,?_⟩
  have hr:=g1.1 rfl
  cases hS':S'[n] with
  |true=>rw[hS'] at g2;exact⟨λh=>(by cases h),λh=>absurd (g2.1 rfl) h.2⟩
  |false=>
   rw[hS'] at g2
   refine⟨λ_=>⟨hr,λh=>?_⟩,λ_=>rfl⟩
   have:=g2.2 h
   cases this
abbrev Rch(b:List ab)(n:Nat):Prop:=Wy (Ed b) 0 (-1) n
theorem Wy.lt{b:List ab}(hv:av b=true){s:Nat}(hs:s<b.length){w:Int}{n:Nat}(h:Wy (Ed b) s w n):n<b.length:=by
 induction h with
 |base _=>exact hs
 |step _ e _ _=>exact(e.lt hv).2
structure hZ(b:List ab)(D:List Int):Prop where
 len:D.length=b.length
 none_:∀n,n<b.length→(n=0∨¬Rch b n)→D[n]? =some (-1)
 some_:∀n,Rch b n→n≠0→∃d:Nat,D[n]? =some (d:Int)∧d≠n∧Dom b d n∧∀u:Nat,u≠n→Dom b u n→Dom b u d
 total:∀n (d e:Nat),Dom b d n→Dom b e n→Dom b d e∨Dom b e d
 anti:∀d e:Nat,Dom b d e→Dom b e d→d=e
 rank:∃p:Nat→Nat,(∀n,Rch b n→p n<b.length)∧∀n d:Nat,D[n]? =some (d:Int)→Rch b n→p n<p d
theorem s6{b:List ab}{n:Nat}(h:Rch b n):Dom b n n:=⟨h,λh=>h.ne rfl⟩
theorem Dom.rch{b:List ab}{d n:Nat}(h:Dom b d n):Rch b d:=by
 obtain⟨h1,h2⟩:=h
 -- the way to n goes through d
 have key:∀m,Wy (Ed b) 0 (-1) m→Wy (Ed b) 0 d m∨Rch b d:=λm hm=>by
  induction hm with
  |base _=>
   by_cases e:d=0
   ·subst e;exact .inr (.base dC)
   ·exact .inl (.base oM)
  | @step x y hx e _ ih=>
   rcases ih with ih|ih
   ·by_cases e2:(y:Int)=d
    ·have:y=d:=oM
     subst this;exact .inr (.step hx e oM)
    ·exact .inl (.step ih e e2)
   ·exact .inr ih
 rcases key n h1 with h|h
 ·exact absurd h h2
 ·exact h
theorem Wy.upto{b:List ab}{d e n:Nat}(h:Wy (Ed b) 0 d n)(he:¬Wy (Ed b) 0 e n):Wy (Ed b) 0 d e:=by
 induction h with
 |base h=>
  by_cases e0:e=0
  ·subst e0;exact .base h
  ·exact absurd (.base oM) he
 | @step x n hx ed hn ih=>
  by_cases en:n=e
  ·subst en;exact .step hx ed hn
  ·exact ih λh=>he (.step h ed oM)
theorem Dom.trans{b:List ab}{d e n:Nat}(h1:Dom b d e)(h2:Dom b e n):Dom b d n:=
 ⟨h2.1,λh=>h1.2 (Wy.upto h h2.2)⟩
theorem s5{b:List ab}{d:Nat}(h:Dom b d 0):d=0:=by
 refine Classical.byContradiction λe=>h.2 (.base oM)
theorem mH(b:List ab)(hs:aP b)(hv:av b=true)(h0:0<b.length):∃D,f19 b=some D∧hZ b D:=by
 obtain⟨l,pl,T,e,hO,e2,hT,hz,hw,hok,hun,hA⟩:=uZ b hs hv h0
 have hD:=hO.dfs
 have hr:∀n,Rch b n↔0≤pf pl n:=hD.reach
 have hdom:∀n u:Nat,Dom b u n↔0≤pf pl n∧An (pf T) n u:=λn u=>by
  constructor
  ·intro h;exact⟨(hr n).1 h.1,(hA n u ((hr n).1 h.1)).2 h.2⟩
  ·intro h;exact⟨(hr n).2 h.1,(hA n u h.1).1 h.2⟩
 have hget:∀n,n<b.length→n≠0→(T.set 0 (-1))[n]? =some (pf T n):=λn hn hn0=>by
  rw[List.getElem?_set_ne λh=>hn0 h.symm,dD oM]
 have hlin:∀n d:Nat,An (pf T) n d→∀e,An (pf T) n e→An (pf T) d e∨An (pf T) e d:=λn d h=>by
  induction h with
  |refl=>intro e he;exact .inl he
  |up h1 h2 h3 ih=>
   intro e he
   rcases(dV h1 h2).1 he with h|h
   ·subst h;exact .inr (.up h1 h2 h3)
   ·exact ih e h
 refine⟨_,e2,by rw[List.length_set];exact hT,λn hn h=>?_,λn hn hn0=>?_,λn d e h1 h2=>?_,λd e h1 h2=>?_,λn=>(pf pl n).toNat,λn hn=>?_,λn d hnd hn=>?_⟩
 ·by_cases hn0:n=0
  ·subst hn0;rw[List.getElem?_set_self oM]
  ·rw[hget n hn hn0,hun n (by
    rcases h with h|h
    ·exact absurd h hn0
    ·exact Int.not_le.1 λq=>h ((hr n).2 q))]
 ·have hn':=(hr n).1 hn
  have hlt:=hO.lt hn'
  obtain⟨d,g1,g2,g3,g4,g5⟩:=idom hD hw hok hA hn' hn0
  refine⟨d,by rw[hget n hlt.1 hn0,g1],g2,⟨hn,g4⟩,λu hu hd=>⟨(hr d).2 g3,g5 u hu hd.2⟩⟩
 ·have k1:=(hdom n d).1 h1
  have k2:=(hdom n e).1 h2
  rcases hlin n d k1.2 e k2.2 with h|h
  ·exact .inr ((hdom d e).2 ⟨(hr d).1 h1.rch,h⟩)
  ·exact .inl ((hdom e d).2 ⟨(hr e).1 h2.rch,h⟩)
 ·have k1:=(hdom e d).1 h1
  have k2:=(hdom d e).1 h2
  rcases k1.2.le hw with h|h
  ·exact h.symm
  ·rcases k2.2.le hw with h'|h'
   ·exact h'
   ·omega
 ·have:=hO.lt ((hr n).1 hn)
  have:=hO.llen
  show(pf pl n).toNat<b.length
  omega
 ·by_cases hn0:n=0
  ·subst hn0
   rw[List.getElem?_set_self oM] at hnd
   have:=inS hnd
   omega
  ·have hn':=(hr n).1 hn
   rw[hget n (hO.lt hn').1 hn0] at hnd
   have:=(hw n d hn0 (inS hnd)).2.1
   show(pf pl n).toNat<(pf pl d).toNat
   omega
theorem f42_loop{b:List ab}{D:List Int}(hD:hZ b D){p:Nat→Nat}(hp:∀n,Rch b n→p n<b.length)(hq:∀n d:Nat,D[n]? =some (d:Int)→Rch b n→p n<p d)(hv:av b=true)(h0:0<b.length)(d:Nat)(K:Int→Option Bool):∀(fuel n:Nat),Rch b n→b.length+1<fuel+p n→
  ∃z,f42_l1 D (d:Int) K fuel (n:Int)=K z∧(z=(d:Int)↔Dom b d n)
 |0,n,hn,hf=>by have:=hp n hn;omega
 |f+1,n,hn,hf=>by
  have hl:=hD.len
  rw[f42_l1,dcT (show(n:Int)≥0 by omega),Bool.true_and]
  by_cases e:n=d
  ·subst e
   rw[dcT rfl]
   exact⟨n,rfl,by simp[s6 hn]⟩
  rw[dcF (show¬(n:Int)=d by omega),Bool.not_false,cdT,bc]
  have hnl:=Wy.lt hv h0 hn
  by_cases hn0:n=0
  ·subst hn0
   rw[hD.none_ 0 h0 (.inl rfl),bnS]
   have:=hp 0 hn
   obtain⟨f',rfl⟩:∃f',f=f'+1:=⟨f - 1,oM⟩
   rw[f42_l1,dcF (by decide:¬(-1:Int)≥0),Bool.false_and,cdF]
   refine⟨-1,rfl,?_⟩
   constructor
   ·intro h;omega
   ·intro h;exact absurd (s5 h).symm e
  ·obtain⟨m,g1,g2,g3,g4⟩:=hD.some_ n hn hn0
   rw[g1,bnS]
   have:=hq n m g1 hn
   obtain⟨z,k1,k2⟩:=f42_loop hD hp hq hv h0 d K f m g3.rch oM
   refine⟨z,k1,?_⟩
   rw[k2]
   exact⟨λh=>h.trans g3,λh=>g4 d (λh=>e h.symm) h⟩
theorem f42_eq{b:List ab}(hs:aP b)(hv:av b=true){D:List Int}(hD:hZ b D)(h0:0<b.length){n:Nat}(hn:Rch b n)(d:Nat):∃r,f42 D (d:Int) (n:Int)=some r∧(r=true↔Dom b d n):=by
 have hN:=hs.len
 unfold f42
 obtain⟨F,hF⟩:∃F:Nat,F=9223372036854775808:=⟨_,rfl⟩
 obtain⟨p,hp,hq⟩:=hD.rank
 rw[aq,←hF]
 obtain⟨z,k1,k2⟩:=f42_loop hD hp hq hv h0 d (λn25=>some (decide (n25=(d:Int)))) F n hn oM
 exact⟨_,k1,by rw[←k2];simp⟩
theorem qp:∀{A B:List Int},A.Pairwise (·<·)→B.Pairwise (·<·)→(∀z,z∈A↔z∈B)→A=B
 |[],[],_,_,_=>rfl
 |[],y::B,_,_,h=>by have:=(h y).2 sM;simp at this
 |x::A,[],_,_,h=>by have:=(h x).1 sM;simp at this
 |x::A,y::B,hA,hB,h=>by
  rw[List.pairwise_cons] at hA hB
  have hxy:x=y:=by
   have h1:=(h x).1 sM
   have h2:=(h y).2 sM
   rcases List.mem_cons.1 h1 with h1|h1
   ·exact h1
   ·rcases List.mem_cons.1 h2 with h2|h2
    ·exact h2.symm
    ·have:=hA.1 y h2
     have:=hB.1 x h1
     omega
  subst hxy
  rw[qp hA.2 hB.2 λz=>?_]
  constructor
  ·intro hz
   rcases List.mem_cons.1 ((h z).1 (by simp[hz])) with h1|h1
   ·subst h1;have:=hA.1 z hz;omega
   ·exact h1
  ·intro hz
   rcases List.mem_cons.1 ((h z).2 (by simp[hz])) with h1|h1
   ·subst h1;have:=hB.1 z hz;omega
   ·exact h1
theorem jY(d:Array Int):∀(m:Nat)(z:Int),z∈Lib.compactUpTo d m→∃i,i<m∧z=d[i]!
 |0,z,h=>by simp[Lib.compactUpTo] at h
 |m+1,z,h=>by
  rw[Lib.compactUpTo_succ] at h
  rcases List.mem_append.1 h with h|h
  ·obtain⟨i,h1,h2⟩:=jY d m z h
   exact⟨i,oM,h2⟩
  ·split at h
   ·exact⟨m,oM,by simpa using h⟩
   ·simp at h
theorem km(d:Array Int):∀(m i:Nat),i<m→d[i]!∈Lib.compactUpTo d m
 |0,i,h=>oM
 |m+1,i,h=>by
  rw[Lib.compactUpTo_succ]
  by_cases e:i=m
  ·subst e
   by_cases hk:Lib.keeps d i=true
   ·rw[if_pos hk];exact List.mem_append_right _ List.mem_cons_self
   ·have hk':¬(i=0∨d[i]!≠d[i - 1]!):=λh=>hk (by unfold Lib.keeps;exact dcT h)
    have h0:i≠0:=λh=>hk' (.inl h)
    have h1:d[i]! =d[i - 1]! :=by
     by_cases h:d[i]! =d[i - 1]!
     ·exact h
     ·exact absurd (.inr h) hk'
    rw[h1]
    exact List.mem_append_left _ (km d i (i - 1) oM)
  ·exact List.mem_append_left _ (km d m i oM)
theorem m5(d:Array Int)(hs:∀i j,i≤j→j<d.size→d[i]!≤d[j]!):∀(m:Nat),m≤d.size→(Lib.compactUpTo d m).Pairwise (·<·)
 |0,_=>by simp[Lib.compactUpTo]
 |m+1,h=>by
  rw[Lib.compactUpTo_succ]
  have ih:=m5 d hs m oM
  split
  ·rename_i hk
   rw[List.pairwise_append]
   refine⟨ih,sM,λa ha z hz=>?_⟩
   simp only[List.mem_singleton] at hz
   subst hz
   obtain⟨i,hi,rfl⟩:=jY d m a ha
   unfold Lib.keeps at hk
   rcases of_decide_eq_true hk with h0|h0
   ·omega
   ·have h1:=hs i (m - 1) oM oM
    have h2:=hs (m - 1) m oM oM
    omega
  ·simpa using ih
theorem nX{L:List Int}(h:L.Pairwise (·≤·)):(Lib.compact L).Pairwise (·<·):=by
 refine m5 L.toArray (λi j hij hj=>?_) L.length sM
 have hj':j<L.length:=by simpa using hj
 have e1:L.toArray[i]! =L[i]:=by simp[show i<L.length by omega]
 have e2:L.toArray[j]! =L[j]:=by simp[hj']
 rw[e1,e2]
 rcases Nat.lt_or_eq_of_le hij with h1|h1
 ·exact List.pairwise_iff_getElem.1 h i j oM hj' h1
 ·subst h1;exact Int.le_refl _
theorem nW{L:List Int}{z:Int}:z∈Lib.compact L↔z∈L:=by
 constructor
 ·intro h
  obtain⟨i,hi,rfl⟩:=jY L.toArray L.length z h
  have e:L.toArray[i]! =L[i]:=by simp[hi]
  rw[e];exact List.getElem_mem hi
 ·intro h
  obtain⟨i,hi,rfl⟩:=List.getElem_of_mem h
  have:=km L.toArray L.length i hi
  have e:L.toArray[i]! =L[i]:=by simp[hi]
  rw[e] at this
  exact this
theorem qU:∀(N:Nat)(p:Nat→Bool),(((List.range N).filter p).map (λn:Nat=>(n:Int))).Pairwise (·<·)
 |N,p=>by
  rw[List.pairwise_map]
  refine List.Pairwise.filter p ?_
  refine List.Pairwise.imp (λh=>?_) List.pairwise_lt_range
  omega
theorem sc_eq{N:Nat}{L:List Int}(h:∀z∈L,0≤z∧z<N):Lib.compact (L.mergeSort λx y=>decide (x≤y))=((List.range N).filter λn:Nat=>decide ((n:Int)∈L)).map (λn:Nat=>(n:Int)):=by
 have hsort:(L.mergeSort λx y=>decide (x≤y)).Pairwise (·≤·):=by
  have:=List.pairwise_mergeSort (le:=λx y:Int=>decide (x≤y)) (λa b c h1 h2=>by simp at*;omega) (λa b=>by simp;omega) L
  exact List.Pairwise.imp (λh=>by simpa using h) this
 refine qp (nX hsort) (qU _ _) λz=>?_
 rw[nW,List.mem_mergeSort,List.mem_map]
 constructor
 ·intro hz
  have:=h z hz
  obtain⟨n,rfl⟩:=Int.eq_ofNat_of_zero_le this.1
  exact⟨n,by rw[List.mem_filter,List.mem_range];exact⟨oM,by simpa using hz⟩,rfl⟩
 ·rintro⟨n,hn,rfl⟩
  rw[List.mem_filter] at hn
  simpa using hn.2
def fj(b:List ab)(x:Nat):List Int:=match b[x]? with
 |some k=>k.next
 |none=> []
theorem fY{b:List ab}{x m:Nat}:Ed b x m↔(m:Int)∈fj b x:=by
 unfold Ed fj
 constructor
 ·rintro⟨k,h1,h2⟩;rw[h1];exact h2
 ·intro h
  cases hb:b[x]? with
  |none=>rw[hb] at h;simp at h
  |some k=>rw[hb] at h;exact⟨k,rfl,h⟩
theorem fM{b:List ab}{x:Nat}(h:x<b.length):fj b x=b[x].next:=by
 unfold fj;rw[geG h]
def bk(b:List ab)(x h:Nat):Bool:=decide ((h:Int)∈fj b x)&&(f43 b (h:Int) (x:Int)).getD false
def eg(b:List ab)(x:Nat):List Pr2:=((List.range b.length).filter (bk b x)).map λh:Nat=>Pr2.mk (x:Int) (h:Int)
def be(b:List ab):List Pr2:=(List.range b.length).flatMap (eg b)
theorem tk{b:List ab}(hs:aP b)(hv:av b=true){x h:Nat}(hx:x<b.length):bk b x h=true↔Ed b x h∧Dom b h x:=by
 obtain⟨r,r1,r2⟩:=f43_eq hs hv hx (h:Int)
 unfold bk
 rw[r1,fY,Bool.and_eq_true,decide_eq_true_eq,Option.getD_some,r2]
theorem bW{b:List ab}(hs:aP b)(hv:av b=true){e:Pr2}:e∈be b↔∃x h:Nat,e=⟨x,h⟩∧Ed b x h∧Dom b h x:=by
 unfold be eg
 rw[List.mem_flatMap]
 constructor
 ·rintro⟨x,hx,he⟩
  rw[List.mem_range] at hx
  obtain⟨h,hh,rfl⟩:=List.mem_map.1 he
  rw[List.mem_filter] at hh
  exact⟨x,h,rfl,(tk hs hv hx).1 hh.2⟩
 ·rintro⟨x,h,rfl,h1,h2⟩
  have hl:=h1.lt hv
  exact⟨x,List.mem_range.2 hl.1,List.mem_map.2 ⟨h,by rw[List.mem_filter,List.mem_range];exact⟨hl.2,(tk hs hv hl.1).2 ⟨h1,h2⟩⟩,rfl⟩⟩
theorem rj(b:List ab)(x:Nat):(eg b x).length≤b.length:=by
 unfold eg
 rw[List.length_map]
 exact Nat.le_trans (List.length_filter_le _ _) sM
theorem fV(b:List ab):∀i,((List.range i).flatMap (eg b)).length≤i*b.length
 |0=>sM
 |i+1=>by
  have h1:=fV b i
  have h2:=rj b i
  have e:(List.range (i+1)).flatMap (eg b)=(List.range i).flatMap (eg b)++eg b i:=by rw[List.range_succ,List.flatMap_append];simp
  rw[e,List.length_append,Nat.succ_mul];omega
theorem backs_len{b:List ab}(hs:aP b):(be b).length≤9801:=by
 have:=fV b b.length
 have:=hs.len
 have:b.length*b.length≤99*99:=Nat.mul_le_mul this this
 unfold be;omega
theorem f17_eq(b:List ab)(hs:aP b)(hv:av b=true)(h0:0<b.length){D:List Int}(he:f19 b=some D)(hD:hZ b D):f17 b=some (be b):=by
 have hN:=hs.len
 have hl:=hD.len
 have hNN:b.length*b.length≤99*99:=Nat.mul_le_mul hN hN
 unfold f17
 rw[he,bnS,aq]
 obtain⟨L,e,hL⟩:=eb D (λm i s=>f17_l1 b D (λl50=>some l50) m i s) (λl=>some l) (λi l=>l=(List.range i).flatMap (eg b)) oM
  (λfu i hi l hP=>by
   subst hP
   have hib:i<b.length:=oM
   have hil:i*b.length≤b.length*b.length:=Nat.mul_le_mul_right _ oM
   have hfl:=fV b i
   have hnx:=hs.next _ (List.getElem_mem hib)
   have hms:(b[i].next.mergeSort λx y=>decide (x≤y)).length=b[i].next.length:=sM
   rw[f17_l1,eu hi,cdT,aq,aJ hib,bnS]
   unfold f40o f34 f41
   rw[aT _ (cY dC (by simp only[List.length_nil];omega)),bnS,aT _ (dcT oM),bnS,bnS,sc_eq (N:=b.length) (λz hz=>aK hv (List.getElem_mem hib) hz)]
   generalize hR:((List.range b.length).filter λn:Nat=>decide ((n:Int)∈b[i].next))=R
   have hRl:R.length≤b.length:=by rw[←hR];exact Nat.le_trans (List.length_filter_le _ _) sM
   have hRm:∀n∈R,n<b.length:=λn hn=>by rw[←hR] at hn;exact List.mem_range.1 (List.mem_filter.1 hn).1
   have hrow:eg b i=(R.filter λn:Nat=>(f43 b (n:Int) (i:Int)).getD false).map λh:Nat=>Pr2.mk (i:Int) (h:Int):=by
    unfold eg
    rw[←hR,List.filter_filter]
    congr 1
    refine List.filter_congr λn _=>?_
    unfold bk
    rw[fM hib,Bool.and_comm]
   obtain⟨L,e,hL⟩:=eb (R.map λn:Nat=>(n:Int)) (λm j s=>f17_l2 D (i:Int) (λl70=>f17_l1 b D (λl50=>some l50) fu (IntKind.i64.wrap ((i:Int)+1)) l70) (R.map λn:Nat=>(n:Int)) m j s) (λl=>f17_l1 b D (λl50=>some l50) fu (IntKind.i64.wrap ((i:Int)+1)) l)
    (λj l=>l=(List.range i).flatMap (eg b)++((R.take j).filter λn:Nat=>(f43 b (n:Int) (i:Int)).getD false).map λh:Nat=>Pr2.mk (i:Int) (h:Int)) (by rw[List.length_map];omega)
    (λfu j hj l hP=>by
     subst hP
     have hj':j<R.length:=by simpa using hj
     have hlen:((R.take j).filter λn:Nat=>(f43 b (n:Int) (i:Int)).getD false).length≤j:=Nat.le_trans (List.length_filter_le _ _) (by rw[List.length_take];omega)
     obtain⟨r,r1,r2⟩:=f43_eq hs hv hib (R[j]:Int)
     have hb:(Option.bind (bif (decide ((i:Int)=0)) then some true else(Option.bind (idx D (i:Int)) λx92=>some (decide (x92≥0)))) λb91=>(bif b91 then Option.bind (f42 D (R[j]:Int) (i:Int)) λr94=>some r94 else some false))=some r:=by
      by_cases hr:Rch b i
      ·have hb1:(bif (decide ((i:Int)=0)) then some true else(Option.bind (idx D (i:Int)) λx92=>some (decide (x92≥0))))=some true:=by
        by_cases hi0:i=0
        ·subst hi0;rfl
        ·obtain⟨d,g1,_⟩:=hD.some_ i hr hi0
         rw[dcF oM,cdF,bc,g1,bnS,dcT oM]
       obtain⟨q,q1,q2⟩:=f42_eq hs hv hD h0 hr R[j]
       rw[hb1,bnS,cdT,q1,bnS]
       congr 1
       rw[Bool.eq_iff_iff,q2,r2]
      ·have hi0:i≠0:=λh=>hr (by subst h;exact .base dC)
       rw[dcF oM,cdF,bc,hD.none_ i hib (.inr hr),bnS,bnS,dcF dC,cdF]
       cases r with
       |false=>rfl
       |true=>exact absurd (r2.1 rfl).1 hr
     have hlm:(R.map λn:Nat=>(n:Int)).length=R.length:=List.length_map _
     rw[f17_l2,eu hj,cdT,aq,aJ hj,bnS,List.getElem_map,w1 hj oM]
     refine⟨(List.range i).flatMap (eg b)++((R.take (j+1)).filter λn:Nat=>(f43 b (n:Int) (i:Int)).getD false).map λh:Nat=>Pr2.mk (i:Int) (h:Int),?_,rfl⟩
     have e3:R.take (j+1)=R.take j++ [R[j]]:=by rw[List.take_add_one,geG hj'];rfl
     have hfin:∀(K:Bool→Option (List Pr2)),(Option.bind (bif (decide ((i:Int)=0)) then some true else(Option.bind (idx D (i:Int)) λx92=>some (decide (x92≥0)))) λb91=>Option.bind (bif b91 then Option.bind (f42 D (R[j]:Int) (i:Int)) λr94=>some r94 else some false) K)=K r:=λK=>by
      rw[←Option.bind_assoc,hb,bnS]
     rw[hfin,e3,List.filter_append,List.map_append,←List.append_assoc]
     cases r with
     |true=>
      rw[cdT,aT _ (cY dC (by simp only[List.length_append,List.length_map,List.length_singleton];omega))]
      simp[r1]
     |false=>rw[cdF];simp[r1])
    (λfu s _=>by rw[f17_l2,eF,cdF]) (Int.toNat (((R.map λn:Nat=>(n:Int)).length:Int) - 0)+1) 0 ((List.range i).flatMap (eg b)) (Nat.zero_le _) oM sM
   rw[show((0:Nat):Int)=0 from rfl] at e
   rw[e,w1 hi oM]
   refine⟨_,rfl,?_⟩
   rw[hL,List.range_succ (n:=i),List.flatMap_append,List.length_map,List.take_length,←hrow]
   simp)
  (λfu s _=>by rw[f17_l1,eF,cdF]) (Int.toNat ((D.length:Int) - 0)+1) 0 [] (Nat.zero_le _) oM sM
 rw[show((0:Nat):Int)=0 from rfl] at e
 rw[e,hL,hl];rfl
theorem vd{α:Type}{n:Nat}{L M:List α}(hn:n≤100)(hl:L.length+M.length≤1000000000):cw n L M=true:=by
 unfold cw
 have:(L.length+M.length)*n≤1000000000*100:=Nat.mul_le_mul hl hn
 simp only[Bool.and_eq_true,decide_eq_true_eq]
 exact⟨by unfold maxLen;omega,oM⟩
theorem li{κ α:Type}[DecidableEq κ](m:List (κ×α))(k:κ)(v:α)(x:κ):bd (ba m k v) x=if k=x then some v else bd m x:=by
 induction m with
 |nil=>simp[ba,bd]
 |cons p r ih=>
  unfold ba
  by_cases h:p.1=k
  ·rw[if_pos h]
   unfold bd
   by_cases hk:k=x
   ·simp[hk]
   ·simp[hk,h]
  ·rw[if_neg h]
   unfold bd
   rw[ih]
   by_cases hk:k=x
   ·subst hk
    simp[h]
   ·simp[hk]
def pp(b:List ab)(h:Int)(n:Nat):Prop:=∃x g:Nat,h=g∧Ed b x g∧Dom b g x∧(n=g∨(Rch b n∧Wy (Ed b) n g x))
def j6(b:List ab)(n:Nat):Bool:=((f49 b 0 (-1)).getD []).getD n false
def rK(b:List ab)(n:Nat)(w x:Int):Bool:=((f49 b (n:Int) w).getD []).getD x.toNat false
def lpE(b:List ab)(h:Int)(n:Nat)(e:Pr2):Bool:=decide (e.e1=h)&&(decide ((n:Int)=h)||(j6 b n&&rK b n h e.e0))
def lpB(b:List ab)(h:Int)(n:Nat):Bool:=(be b).any (lpE b h n)
def eG(b:List ab)(h:Int):List Int:=((List.range b.length).filter (lpB b h)).map λn:Nat=>(n:Int)
theorem pZ{S:List Bool}{n:Nat}:S.getD n false=true↔tr S n:=by
 unfold tr
 rw[List.getD_eq_getElem?_getD]
 cases S[n]? with
 |none=>simp
 |some v=>simp
theorem dw{b:List ab}(hs:aP b)(hv:av b=true)(h0:0<b.length)(n:Nat):j6 b n=true↔Rch b n:=by
 obtain⟨S,e1,_,h1⟩:=f49_eq hs hv h0 (-1)
 rw[show((0:Nat):Int)=0 from rfl] at e1
 unfold j6
 rw[e1,Option.getD_some,pZ,h1]
theorem ie{b:List ab}(hs:aP b)(hv:av b=true){n:Nat}(hn:n<b.length)(w:Int)(x:Nat):rK b n w (x:Int)=true↔Wy (Ed b) n w x:=by
 obtain⟨S,e1,_,h1⟩:=f49_eq hs hv hn w
 unfold rK
 rw[e1,Option.getD_some,pZ,←h1];rfl
theorem mu{b:List ab}(hs:aP b)(hv:av b=true){h:Int}{n:Nat}(hn:n<b.length):lpB b h n=true↔pp b h n:=by
 unfold lpB
 rw[List.any_eq_true]
 have h0:0<b.length:=oM
 constructor
 ·rintro⟨e,he,hl⟩
  obtain⟨x,g,rfl,h1,h2⟩:=(bW hs hv).1 he
  unfold lpE at hl
  simp only[Bool.and_eq_true,Bool.or_eq_true,decide_eq_true_eq] at hl
  refine⟨x,g,hl.1.symm,h1,h2,?_⟩
  rcases hl.2 with h|⟨q1,q2⟩
  ·left;have:=hl.1;omega
  ·right
   rw[dw hs hv h0] at q1
   rw[ie hs hv hn] at q2
   rw[←hl.1] at q2
   exact⟨q1,q2⟩
 ·rintro⟨x,g,rfl,h1,h2,h3⟩
  refine⟨⟨x,g⟩,(bW hs hv).2 ⟨x,g,rfl,h1,h2⟩,?_⟩
  unfold lpE
  simp only[Bool.and_eq_true,Bool.or_eq_true,decide_eq_true_eq]
  refine⟨trivial,?_⟩
  rcases h3 with h|⟨q1,q2⟩
  ·left;omega
  ·right
   exact⟨(dw hs hv h0 n).2 q1,(ie hs hv hn _ x).2 q2⟩
def PvI(b:List ab)(i:Nat)(bf:List (List Int)):Prop:=
 bf.length=b.length∧∀m,m<b.length→∃L,bf[m]? =some L∧L.length≤i*1000∧∀z,z∈L↔∃x:Nat,z=x∧x<i∧Rch b x∧Ed b x m
def PvJ(b:List ab)(i:Nat)(hi:i<b.length)(j:Nat)(bf:List (List Int)):Prop:=
 bf.length=b.length∧∀m,m<b.length→∃L,bf[m]? =some L∧L.length≤i*1000+j∧∀z,z∈L↔(∃x:Nat,z=x∧x<i∧Rch b x∧Ed b x m)∨(z=i∧Rch b i∧∃j',j'<j∧b[i].next[j']? =some (m:Int))
theorem f21_bf{b:List ab}(hs:aP b)(hv:av b=true){D:List Int}(hD:hZ b D)(K:List (List Int)→Option (List Int)):∃bf,f21_l1 b D K (Int.toNat ((D.length:Int) - 0)+1) 0 (List.replicate b.length [])=K bf∧PvI b b.length bf:=by
 have hN:=hs.len
 have hl:=hD.len
 have:=eb D (λn i s=>f21_l1 b D K n i s) K (PvI b) oM
  (λfu i hi s hP=>by
   have hib:i<b.length:=oM
   have hkl:=hs.next _ (List.getElem_mem hib)
   rw[f21_l1,eu hi,cdT,aq,aJ hib,bnS,w1 hi oM]
   have hrb:(bif (decide ((i:Int)=0)) then some true else(Option.bind (idx D (i:Int)) λx153=>some (decide (x153≥0))))=some (j6 b i):=by
    by_cases hr:Rch b i
    ·rw[(dw hs hv oM i).2 hr]
     by_cases hi0:i=0
     ·subst hi0;rfl
     ·obtain⟨d,g1,_⟩:=hD.some_ i hr hi0
      rw[dcF oM,cdF,bc,g1,bnS,dcT oM]
    ·have hi0:i≠0:=λh=>hr (by subst h;exact .base dC)
     have:j6 b i=false:=by
      cases h:j6 b i with
      |false=>rfl
      |true=>exact absurd ((dw hs hv oM i).1 h) hr
     rw[this,dcF oM,cdF,bc,hD.none_ i hib (.inr hr),bnS,dcF dC]
   obtain⟨s',e,hP'⟩:=eb b[i].next (λn j s=>f21_l2 D (i:Int) (λl135=>f21_l1 b D K fu ((i+1:Nat):Int) l135) b[i] n j s) (λs=>f21_l1 b D K fu ((i+1:Nat):Int) s) (PvJ b i hib) oM
    (λfu j hj s hP=>by
     rw[f21_l2,eu hj,cdT,aq,aJ hj,bnS,w1 hj oM,hrb,bnS]
     have hval:=aK hv (List.getElem_mem hib) (List.getElem_mem hj)
     obtain⟨m,hm⟩:=Int.eq_ofNat_of_zero_le hval.1
     have hmN:m<b.length:=oM
     have hkj:b[i].next[j]? =some (m:Int):=by rw[geG hj,hm]
     cases hr:j6 b i with
     |false=>
      have hnr:¬Rch b i:=λh=>by rw[(dw hs hv oM i).2 h] at hr;cases hr
      rw[cdF]
      refine⟨s,rfl,hP.1,λm' hm'=>?_⟩
      obtain⟨L,g1,g2,g3⟩:=hP.2 m' hm'
      refine⟨L,g1,oM,λz=>?_⟩
      rw[g3 z]
      constructor
      ·rintro(h|⟨_,h,_⟩)
       ·exact .inl h
       ·exact absurd h hnr
      ·rintro(h|⟨_,h,_⟩)
       ·exact .inl h
       ·exact absurd h hnr
     |true=>
      have hir:=(dw hs hv oM i).1 hr
      obtain⟨L,g1,g2,g3⟩:=hP.2 m hmN
      rw[cdT,hm,bc,g1,bnS,aT _ (cY dC (by simp only[List.length_singleton];omega)),show Int.toNat (m:Int)=m from rfl]
      refine⟨_,rfl,by rw[List.length_set];exact hP.1,λm' hm'=>?_⟩
      obtain⟨L',q1,q2,q3⟩:=hP.2 m' hm'
      by_cases e:m=m'
      ·subst e
       rw[g1] at q1
       obtain rfl:=inS q1
       refine⟨L++ [(i:Int)],by rw[List.getElem?_set_self (by rw[hP.1];exact hmN)],by simp;omega,λz=>?_⟩
       rw[List.mem_append,g3 z,List.mem_singleton]
       constructor
       ·rintro((q|⟨q1,q2,j',q3,q4⟩)|q)
        ·exact .inl q
        ·exact .inr ⟨q1,q2,j',oM,q4⟩
        ·exact .inr ⟨q,hir,j,oM,hkj⟩
       ·rintro(q|⟨q1,_⟩)
        ·exact .inl (.inl q)
        ·exact .inr q1
      ·refine⟨L',by rw[List.getElem?_set_ne e];exact q1,oM,λz=>?_⟩
       rw[q3 z]
       constructor
       ·rintro(q|⟨q1,q2,j',q3,q4⟩)
        ·exact .inl q
        ·exact .inr ⟨q1,q2,j',oM,q4⟩
       ·rintro(q|⟨q1,q2,j',q3,q4⟩)
        ·exact .inl q
        ·refine .inr ⟨q1,q2,j',?_,q4⟩
         rcases Nat.lt_or_ge j' j with h|h
         ·exact h
         ·have:j'=j:=oM
          subst this
          rw[hkj] at q4
          have:=inS q4
          omega)
    (λfu s _=>by rw[f21_l2,eF,cdF]) (Int.toNat ((b[i].next.length:Int) - 0)+1) 0 s (Nat.zero_le _) oM ⟨hP.1,λm hm=>by
     obtain⟨L,g1,g2,g3⟩:=hP.2 m hm
     refine⟨L,g1,oM,λz=>?_⟩
     rw[g3 z]
     constructor
     ·exact .inl
     ·rintro(q|⟨_,_,j',q,_⟩)
      ·exact q
      ·omega⟩
   refine⟨s',e,hP'.1,λm hm=>?_⟩
   obtain⟨L,g1,g2,g3⟩:=hP'.2 m hm
   refine⟨L,g1,oM,λz=>?_⟩
   rw[g3 z]
   constructor
   ·rintro(⟨x,q1,q2,q3,q4⟩|⟨q1,q2,j',_,q4⟩)
    ·exact⟨x,q1,oM,q3,q4⟩
    ·exact⟨i,q1,oM,q2,b[i],geG hib,List.mem_of_getElem? q4⟩
   ·rintro⟨x,q1,q2,q3,q4⟩
    rcases Nat.lt_or_ge x i with h|h
    ·exact .inl ⟨x,q1,h,q3,q4⟩
    ·have:x=i:=oM
     subst this
     obtain⟨k,e1,e2⟩:=q4
     rw[geG hib] at e1
     obtain rfl:=inS e1
     obtain⟨j',hj'⟩:=List.mem_iff_getElem?.1 e2
     exact .inr ⟨q1,q3,j',(giS.1 hj').1,hj'⟩)
  (λfu s _=>by rw[f21_l1,eF,cdF]) (Int.toNat ((D.length:Int) - 0)+1) 0 (List.replicate b.length []) (Nat.zero_le _) oM ⟨sM,λm hm=>⟨[],by rw[List.getElem?_replicate,if_pos hm],sM,λz=>by
   constructor
   ·intro h;cases h
   ·rintro⟨_,_,hj,_⟩;omega⟩⟩
 obtain⟨bf,e,hP⟩:=this
 exact⟨bf,e,by rw[hl] at hP;exact hP⟩
abbrev mk(m:List (Int×Bool))(v:Int):Prop:=Option.getD (bd m v) false=true
theorem ep{m:List (Int×Bool)}{k v:Int}:mk (ba m k true) v↔v=k∨mk m v:=by
 unfold mk
 rw[li]
 by_cases h:k=v
 ·subst h;simp
 ·rw[if_neg h]
  constructor
  ·exact .inr
  ·rintro(e|e)
   ·exact absurd e.symm h
   ·exact e
def Good(b:List ab)(h t:Nat):Prop:=Rch b t∧(t=h∨∃x,Ed b x h∧Dom b h x∧Wy (Ed b) t h x)
structure Wk(b:List ab)(bf:List (List Int))(h:Nat)(m:List (Int×Bool))(todo:List Int):Prop where
 ms:∀v,mk m v→∃t:Nat,v=t∧Good b h t
 ts:∀v∈todo,∃t:Nat,v=t∧Good b h t
 cl:∀(v:Nat) L,mk m v→v≠h→bf[v]? =some L→∀p∈L,mk m p∨p∈todo
 hd:mk m h
 src:∀x:Nat,Ed b x h→Dom b h x→mk m x∨(x:Int)∈todo
def kG(m:List (Int×Bool))(N:Nat):Nat:=fB (λv=>if mk m (v:Int) then 1 else 0) N
theorem qj(m:List (Int×Bool))(N:Nat):kG m N≤N:=by
 have:=eW (f:=λv:Nat=>if mk m (v:Int) then 1 else 0) (c:=1) (n:=N) λv _=>by split<;>omega
 unfold kG;omega
theorem f21_work{b:List ab}(hs:aP b)(hv:av b=true)(h0:0<b.length){bf:List (List Int)}(hbf:PvI b b.length bf)(h:Nat)(C:Nat)(hC:99000≤C)(hC2:C≤100000)(K:List (Int×Bool)→List Int→Option (List Int)):∀(fuel:Nat)(m:List (Int×Bool))(todo:List Int),Wk b bf h m todo→(b.length - kG m b.length)*C+todo.length<fuel→todo.length≤kG m b.length*C+C→
  ∃m',f21_l4 bf K fuel m todo=K m' []∧Wk b bf h m' []
 |0,_,_,_,hf,_=>oM
 |f+1,m,todo,hW,hf,hb=>by
  have hN:=hs.len
  have hc:=qj m b.length
  have hcC:kG m b.length*C≤99*100000:=Nat.mul_le_mul oM hC2
  rw[f21_l4]
  cases hT:todo with
  |nil=>
   subst hT
   exact⟨m,rfl,hW⟩
  |cons t0 ts=>
   rw[←hT]
   have hlen:0<todo.length:=by rw[hT];simp
   obtain⟨n,hn⟩:∃n,todo.length=n+1:=⟨todo.length - 1,oM⟩
   have hnl:n<todo.length:=oM
   have e1:IntKind.i64.wrap ((todo.length:Int) - 1)=(n:Int):=by rw[w64 oM oM];omega
   have hso:co todo 0 (n:Int)=true:=by
    simp only[co,Bool.and_eq_true,decide_eq_true_eq];omega
   rw[dcT (show(todo.length:Int)>0 by omega),cdT,e1,aJ hnl,bnS,aT _ hso,show Int.toNat (n:Int)=n from rfl]
   have hsplit:todo=todo.take n++ [todo[n]]:=by
    have:todo.take (n+1)=todo.take n++ [todo[n]]:=by rw[List.take_add_one,geG hnl];rfl
    rw[←this,←hn,List.take_length]
   have htl:(todo.take n).length=n:=by rw[List.length_take];omega
   obtain⟨t,ht,hg⟩:=hW.ts _ (List.getElem_mem hnl)
   have htN:=Wy.lt hv h0 hg.1
   have hmem:∀z,z∈todo↔z∈todo.take n∨z=(t:Int):=λz=>by
    conv=>lhs;rw[hsplit]
    rw[List.mem_append,List.mem_singleton,ht]
   cases hin:Option.getD (bd m todo[n]) false with
   |true=>
    have hmt:mk m (t:Int):=by unfold mk;rw[←ht];exact hin
    rw[Bool.not_true,cdF]
    refine f21_work hs hv h0 hbf h C hC hC2 K f m (todo.take n) ⟨hW.ms,λv hv'=>hW.ts v ((hmem v).2 (.inl hv')),λv L hm hne hL p hp=>?_,hW.hd,λx hx hd=>?_⟩ oM oM
    ·rcases hW.cl v L hm hne hL p hp with q|q
     ·exact .inl q
     ·rcases(hmem p).1 q with q|q
      ·exact .inr q
      ·subst q;exact .inl hmt
    ·rcases hW.src x hx hd with q|q
     ·exact .inl q
     ·rcases(hmem x).1 q with q|q
      ·exact .inr q
      ·rw[q];exact .inl hmt
   |false=>
    have hmt:¬mk m (t:Int):=by unfold mk;rw[←ht,hin];simp
    obtain⟨L,g1,g2,g3⟩:=hbf.2 t htN
    rw[Bool.not_false,cdT,ht,bc,g1,bnS,aT _ (vd dC oM)]
    have hcnt:kG (ba m (t:Int) true) b.length=kG m b.length+1:=by
     unfold kG
     have key:∀N,fB (λv:Nat=>if mk (ba m (t:Int) true) (v:Int) then 1 else 0) N=fB (λv:Nat=>if mk m (v:Int) then 1 else 0) N+(if t<N then 1 else 0):=λN=>by
      induction N with
      |zero=>simp[fB]
      |succ N ih=>
       simp only[fB,ih]
       by_cases e:N=t
       ·subst e
        rw[if_pos (ep.2 (.inl rfl)),if_neg hmt,if_neg (Nat.lt_irrefl N),if_pos (Nat.lt_succ_self N)]
       ·have hiff:mk (ba m (t:Int) true) (N:Int)↔mk m (N:Int):=by
         rw[ep]
         constructor
         ·rintro(q|q)
          ·exact absurd oM e
          ·exact q
         ·exact .inr
        by_cases hq:mk m (N:Int)
        ·rw[if_pos (hiff.2 hq),if_pos hq]
         by_cases h1:t<N
         ·rw[if_pos h1,if_pos oM]
         ·rw[if_neg h1,if_neg oM]
        ·rw[if_neg (λh=>hq (hiff.1 h)),if_neg hq]
         by_cases h1:t<N
         ·rw[if_pos h1,if_pos oM]
         ·rw[if_neg h1,if_neg oM]
     rw[key,if_pos htN]
    have hc2:=qj (ba m (t:Int) true) b.length
    refine f21_work hs hv h0 hbf h C hC hC2 K f (ba m (t:Int) true) (todo.take n++L) ⟨λv hm=>?_,λv hv'=>?_,λv L' hm hne hL' p hp=>?_,ep.2 (.inr hW.hd),λx hx hd=>?_⟩ ?_ ?_
    ·rcases ep.1 hm with q|q
     ·exact⟨t,q,hg⟩
     ·exact hW.ms v q
    ·rcases List.mem_append.1 hv' with q|q
     ·exact hW.ts v ((hmem v).2 (.inl q))
     ·obtain⟨x,rfl,_,hr,he⟩:=(g3 v).1 q
      refine⟨x,rfl,hr,?_⟩
      by_cases hxh:x=h
      ·exact .inl hxh
      ·right
       rcases hg.2 with hth|⟨y,q1,q2,q3⟩
       ·exact absurd (by rw[hth];exact hW.hd) hmt
       ·exact⟨y,q1,q2,(Wy.step (.base oM) he q3.ne0).trans q3⟩
    ·by_cases hvt:v=t
     ·subst hvt
      rw[g1] at hL'
      obtain rfl:=inS hL'
      exact .inr (List.mem_append_right _ hp)
     ·have hmv:mk m (v:Int):=by
       rcases ep.1 hm with q|q
       ·exact absurd oM hvt
       ·exact q
      rcases hW.cl v L' hmv hne hL' p hp with q|q
      ·exact .inl (ep.2 (.inr q))
      ·rcases(hmem p).1 q with q|q
       ·exact .inr (List.mem_append_left _ q)
       ·exact .inl (ep.2 (.inl q))
    ·rcases hW.src x hx hd with q|q
     ·exact .inl (ep.2 (.inr q))
     ·rcases(hmem x).1 q with q|q
      ·exact .inr (List.mem_append_left _ q)
      ·exact .inl (ep.2 (.inl q))
    ·rw[hcnt,List.length_append,htl]
     have e2:b.length - kG m b.length=(b.length - (kG m b.length+1))+1:=oM
     rw[e2,Nat.succ_mul] at hf
     omega
    ·rw[hcnt,List.length_append,htl,Nat.succ_mul]
     omega
theorem f21_loop{b:List ab}(hs:aP b)(hv:av b=true)(h0:0<b.length){bf:List (List Int)}(hbf:PvI b b.length bf){h:Nat}{m:List (Int×Bool)}(hW:Wk b bf h m [])(hx:∃x,Ed b x h∧Dom b h x){n:Nat}:mk m (n:Int)↔pp b (h:Int) n:=by
 constructor
 ·intro hm
  obtain⟨t,ht,hr,hg⟩:=hW.ms n hm
  have:t=n:=oM
  subst this
  rcases hg with rfl|⟨x,q1,q2,q3⟩
  ·obtain⟨x,q1,q2⟩:=hx
   exact⟨x,t,rfl,q1,q2, .inl rfl⟩
  ·exact⟨x,h,rfl,q1,q2, .inr ⟨hr,q3⟩⟩
 ·rintro⟨x,g,hg,q1,q2,q3⟩
  have:g=h:=oM
  subst this
  rcases q3 with rfl|⟨hr,q3⟩
  ·exact hW.hd
  ·have hmx:mk m (x:Int):=by
    rcases hW.src x q1 q2 with q|q
    ·exact q
    ·simp at q
   have key:∀y,Wy (Ed b) n (g:Int) y→mk m (y:Int)→mk m (n:Int):=λy hy=>by
    induction hy with
    |base _=>exact id
    | @step z y hz e hne ih=>
     intro hmy
     obtain⟨L,g1,_,g3⟩:=hbf.2 y (e.lt hv).2
     have hzr:Rch b z:=hr.trans hz.any
     rcases hW.cl y L hmy oM g1 (z:Int) ((g3 z).2 ⟨z,rfl,Wy.lt hv h0 hzr,hzr,e⟩) with q|q
     ·exact ih q
     ·simp at q
   exact key x q3 hmx
def L3(h:Int)(B:List Pr2)(i:Nat)(s:List (Int×Bool)×List Int):Prop:=
 (∀v,mk s.1 v↔v=h∧∃e∈B.take i,e.e1=h)∧(∀z,z∈s.2↔∃e∈B.take i,e.e1=h∧z=e.e0)∧s.2.length≤i
theorem f21_l3_eq(h:Int)(B:List Pr2)(hB:B.length≤100000)(K:List (Int×Bool)→List Int→Option (List Int)):∃m t,f21_l3 h K B (Int.toNat ((B.length:Int) - 0)+1) 0 [] []=K m t∧L3 h B B.length (m,t):=by
 obtain⟨s,e,hP⟩:=eb B (λn i s=>f21_l3 h K B n i s.1 s.2) (λs=>K s.1 s.2) (L3 h B) oM
  (λfu i hi s hP=>by
   have e3:B.take (i+1)=B.take i++ [B[i]]:=by rw[List.take_add_one,geG hi];rfl
   obtain⟨h1,h2,h3⟩:=hP
   rw[f21_l3,eu hi,cdT,aq,aJ hi,bnS,w1 hi oM]
   by_cases hh:B[i].e1=h
   ·rw[dcT hh,cdT,aT _ (cY dC (by simp only[List.length_singleton];omega))]
    refine⟨(ba s.1 h true,s.2++ [B[i].e0]),rfl,λv=>?_,λz=>?_,by simp;omega⟩
    ·dsimp only
     rw[ep,h1,e3]
     constructor
     ·rintro(q|⟨q,x,hx,hx2⟩)
      ·exact⟨q,B[i],List.mem_append_right _ (List.mem_singleton.2 rfl),hh⟩
      ·exact⟨q,x,List.mem_append_left _ hx,hx2⟩
     ·rintro⟨q,_⟩;exact .inl q
    ·dsimp only
     rw[List.mem_append,h2,e3,List.mem_singleton]
     constructor
     ·rintro(⟨x,hx,q⟩|q)
      ·exact⟨x,List.mem_append_left _ hx,q⟩
      ·exact⟨B[i],List.mem_append_right _ (List.mem_singleton.2 rfl),hh,q⟩
     ·rintro⟨x,hx,q1,q2⟩
      rcases List.mem_append.1 hx with hx|hx
      ·exact .inl ⟨x,hx,q1,q2⟩
      ·rw[List.mem_singleton] at hx;subst hx;exact .inr q2
   ·rw[dcF hh,cdF]
    have hdrop:∀(P:Pr2→Prop),(∃e∈B.take i++ [B[i]],e.e1=h∧P e)↔∃e∈B.take i,e.e1=h∧P e:=λP=>by
     constructor
     ·rintro⟨x,hx,q1,q2⟩
      rcases List.mem_append.1 hx with hx|hx
      ·exact⟨x,hx,q1,q2⟩
      ·rw[List.mem_singleton] at hx;subst hx;exact absurd q1 hh
     ·rintro⟨x,hx,q⟩;exact⟨x,List.mem_append_left _ hx,q⟩
    refine⟨s,rfl,λv=>?_,λz=>?_,oM⟩
    ·rw[h1,e3]
     have:=hdrop λ_=>True
     simp only[and_true] at this
     rw[this]
    ·rw[h2,e3]
     exact(hdrop λe=>z=e.e0).symm)
  (λfu s _=>by rw[f21_l3,eF,cdF]) (Int.toNat ((B.length:Int) - 0)+1) 0 ([],[]) (Nat.zero_le _) oM ⟨λv=>by simp[mk,bd],λz=>sM,sM⟩
 exact⟨s.1,s.2,e,hP⟩
theorem f21_l5_eq(b:List ab)(hN:b.length≤99)(m:List (Int×Bool))(K:List Int→Option (List Int))(p:Nat→Bool)(hp:∀n,n<b.length→(p n=true↔mk m (n:Int))):f21_l5 b m K (Int.toNat ((b.length:Int) - 0)+1) 0 []=K (((List.range b.length).filter p).map λn:Nat=>(n:Int)):=by
 obtain⟨s,e,hP⟩:=eb b (λn i s=>f21_l5 b m K n i s) K (λi l=>l=((List.range i).filter p).map λn:Nat=>(n:Int)) oM
  (λfu i hi s hP=>by
   subst hP
   have hlen:((List.range i).filter p).length≤i:=Nat.le_trans (List.length_filter_le _ _) sM
   refine⟨_,?_,rfl⟩
   rw[f21_l5,eu hi,cdT,aq,w1 hi oM,List.range_succ (n:=i),List.filter_append,List.map_append]
   have hpi:=hp i hi
   cases hm:Option.getD (bd m (i:Int)) false with
   |true=>
    have:=hpi.2 hm
    rw[cdT,aT _ (cY dC (by simp only[List.length_map,List.length_singleton];omega))]
    simp[this]
   |false=>
    have:p i=false:=by
     cases h:p i with
     |false=>rfl
     |true=>have:=hpi.1 h;unfold mk at this;rw[hm] at this;cases this
    rw[cdF];simp[this])
  (λfu s _=>by rw[f21_l5,eF,cdF]) (Int.toNat ((b.length:Int) - 0)+1) 0 [] (Nat.zero_le _) oM sM
 rw[show((0:Nat):Int)=0 from rfl] at e
 rw[e,hP]
theorem f21_eq(b:List ab)(hs:aP b)(hv:av b=true)(h0:0<b.length){D:List Int}(he:f19 b=some D)(hD:hZ b D)(h:Int):f21 b h=some (eG b h):=by
 have hN:=hs.len
 have hbl:=backs_len hs
 unfold f21
 obtain⟨F,hF⟩:∃F:Nat,F=9223372036854775808:=⟨_,rfl⟩
 rw[aT _ (mr dC oM),he,bnS,aq,show Int.toNat (b.length:Int)=b.length from rfl,←hF]
 obtain⟨bf,e1,hbf⟩:=f21_bf hs hv hD (λ(l123:List (List Int))=>
  ai (λ(m156:List (Int×Bool))(l157:List Int)=>
  ai (λ(m179:List (Int×Bool))(l180:List Int)=>
  ai (λ(l196:List Int)=>
  some l196) λk198=>
  (f21_l5 b m179 k198 (Int.toNat ((List.length b:Int) - 0)+1) 0 [])) λk182=>
  (f21_l4 l123 k182 F m156 l157)) λk159=>
  Option.bind (f17 b) λr160=>
  (f21_l3 h k159 r160 (Int.toNat ((List.length r160:Int) - 0)+1) 0 ([]:List (Int×Bool)) []))
 rw[e1,aq,f17_eq b hs hv h0 he hD,bnS]
 obtain⟨m,t,e2,h1,h2,h3⟩:=f21_l3_eq h (be b) oM (λ(m156:List (Int×Bool))(l157:List Int)=>
  ai (λ(m179:List (Int×Bool))(l180:List Int)=>
  ai (λ(l196:List Int)=>
  some l196) λk198=>
  (f21_l5 b m179 k198 (Int.toNat ((List.length b:Int) - 0)+1) 0 [])) λk182=>
  (f21_l4 bf k182 F m156 l157))
 dsimp only at h1 h2 h3
 rw[List.take_length] at h1 h2
 rw[e2,aq]
 by_cases hx:∃e∈be b,e.e1=h
 ·obtain⟨e0,he0,heh⟩:=hx
  obtain⟨x0,g,rfl,q1,q2⟩:=(bW hs hv).1 he0
  dsimp only at heh
  subst heh
  have hW:Wk b bf g m t:=by
   refine⟨λv hm=>?_,λv hm=>?_,λv L hm hne=>?_,(h1 g).2 ⟨rfl,_,he0,rfl⟩,λx hx hd=>?_⟩
   ·have:=(h1 v).1 hm
    exact⟨g,this.1,q2.rch, .inl rfl⟩
   ·obtain⟨e,he',hg,rfl⟩:=(h2 v).1 hm
    obtain⟨x,g',rfl,r1,r2⟩:=(bW hs hv).1 he'
    dsimp only at hg⊢
    have:g'=g:=oM
    subst this
    refine⟨x,rfl,r2.1,?_⟩
    by_cases hxg:x=g'
    ·exact .inl hxg
    ·exact .inr ⟨x,r1,r2, .base oM⟩
   ·have:=(h1 v).1 hm
    exact absurd oM hne
   ·exact .inr ((h2 x).2 ⟨⟨x,g⟩,(bW hs hv).2 ⟨x,g,rfl,hx,hd⟩,rfl,rfl⟩)
  have hcb:(b.length - kG m b.length)*100000≤99*100000:=Nat.mul_le_mul oM (Nat.le_refl _)
  obtain⟨m',e3,hW'⟩:=f21_work hs hv h0 hbf g 100000 oM (Nat.le_refl _) (λ(m179:List (Int×Bool))(l180:List Int)=>
   ai (λ(l196:List Int)=>
   some l196) λk198=>
   (f21_l5 b m179 k198 (Int.toNat ((List.length b:Int) - 0)+1) 0 [])) F m t hW oM oM
  rw[e3,aq,f21_l5_eq b hN m' _ (lpB b (g:Int)) (λn hn=>by
   rw[mu hs hv hn,f21_loop hs hv h0 hbf hW' ⟨x0,q1,q2⟩])]
  rfl
 ·have ht:t=[]:=by
   cases t with
   |nil=>rfl
   |cons z t=>
    obtain⟨e,he',hg,_⟩:=(h2 z).1 sM
    exact absurd ⟨e,he',hg⟩ hx
  subst ht
  obtain⟨f,rfl⟩:∃f,F=f+1:=⟨F - 1,oM⟩
  rw[f21_l4,dcF dC,cdF,aq,f21_l5_eq b hN m _ (lpB b h) (λn hn=>by
   rw[h1]
   constructor
   ·intro hl
    unfold lpB at hl
    obtain⟨e,he',hl'⟩:=List.any_eq_true.1 hl
    unfold lpE at hl'
    simp only[Bool.and_eq_true,decide_eq_true_eq] at hl'
    exact absurd ⟨e,he',hl'.1⟩ hx
   ·rintro⟨_,e,he',hg⟩;exact absurd ⟨e,he',hg⟩ hx)]
  rfl
def va(b:List ab)(i:Nat)(z:Int):Bool:=(be b).any λe=>decide (e.e0=(i:Int))&&decide (e.e1=z)
theorem n9{b:List ab}(hs:aP b)(hv:av b=true){i m:Nat}:va b i (m:Int)=true↔Ed b i m∧Dom b m i:=by
 unfold va
 rw[List.any_eq_true]
 constructor
 ·rintro⟨e,he,h⟩
  obtain⟨x,g,rfl,h1,h2⟩:=(bW hs hv).1 he
  simp only[Bool.and_eq_true,decide_eq_true_eq] at h
  have e1:x=i:=oM
  have e2:g=m:=oM
  subst e1;subst e2
  exact⟨h1,h2⟩
 ·rintro⟨h1,h2⟩
  exact⟨⟨i,m⟩,(bW hs hv).2 ⟨i,m,rfl,h1,h2⟩,sM⟩
def cE(b:List ab)(i:Nat):List Int:=bif j6 b i then(fj b i).filter λz=> !va b i z else[]
def cB(b:List ab):List ab:=(List.range b.length).map λi=>ab.mk 0 0 (cE b i)
theorem fO{b:List ab}{i:Nat}{z:Int}(h:z∈cE b i):z∈fj b i:=by
 unfold cE at h
 cases hr:j6 b i with
 |false=>rw[hr] at h;simp at h
 |true=>rw[hr,cdT] at h;exact(List.mem_filter.1 h).1
theorem nD(b:List ab)(i:Nat):(cE b i).length≤(fj b i).length:=by
 unfold cE
 cases j6 b i with
 |false=>simp
 |true=>exact List.length_filter_le _ _
theorem qZ{b:List ab}(hs:aP b)(i:Nat):(fj b i).length≤1000:=by
 unfold fj
 cases h:b[i]? with
 |none=>simp
 |some k=>exact hs.next k (List.mem_of_getElem? h)
theorem eH(b:List ab):(cB b).length=b.length:=by simp[cB]
theorem jB{b:List ab}(hs:aP b):aP (cB b):=by
 refine⟨by rw[eH];exact hs.len,λx hx=>?_⟩
 obtain⟨i,_,rfl⟩:=List.mem_map.1 hx
 exact Nat.le_trans (nD b i) (qZ hs i)
theorem fP{b:List ab}(hv:av b=true):av (cB b)=true:=by
 unfold av
 rw[List.all_eq_true]
 intro x hx
 obtain⟨i,hi,rfl⟩:=List.mem_map.1 hx
 rw[List.mem_range] at hi
 rw[List.all_eq_true]
 intro z hz
 have:=fO hz
 rw[fM hi] at this
 have:=aK hv (List.getElem_mem hi) this
 rw[eH]
 simpa using this
theorem fQ{b:List ab}(hs:aP b)(hv:av b=true)(h0:0<b.length){i m:Nat}:Ed (cB b) i m↔Rch b i∧Ed b i m∧¬Dom b m i:=by
 constructor
 ·rintro⟨k,hk,hm⟩
  unfold cB at hk
  rw[List.getElem?_map] at hk
  have hi:i<b.length:=by
   refine Classical.byContradiction λh=>?_
   rw[List.getElem?_eq_none (by simp;omega)] at hk
   cases hk
  rw[List.getElem?_range hi] at hk
  obtain rfl:=inS hk
  dsimp only at hm
  have hed:=fY.2 (fO hm)
  unfold cE at hm
  cases hr:j6 b i with
  |false=>rw[hr] at hm;simp at hm
  |true=>
   rw[hr,cdT,List.mem_filter] at hm
   refine⟨(dw hs hv h0 i).1 hr,hed,λhd=>?_⟩
   have:=(n9 hs hv).2 ⟨hed,hd⟩
   rw[this] at hm
   simp at hm
 ·rintro⟨h1,h2,h3⟩
  have hi:=(h2.lt hv).1
  refine⟨ab.mk 0 0 (cE b i),by simp[cB,hi],?_⟩
  show(m:Int)∈cE b i
  unfold cE
  rw[(dw hs hv h0 i).2 h1,cdT,List.mem_filter]
  refine⟨fY.1 h2,?_⟩
  cases hb:va b i (m:Int) with
  |false=>rfl
  |true=>exact absurd ((n9 hs hv).1 hb).2 h3
def nm(b:List ab):Bool:=(List.range b.length).all λi=>(cE b i).all λz=> !rK (cB b) z.toNat (-1) (i:Int)
theorem nl{b:List ab}(hs:aP b)(hv:av b=true)(h0:0<b.length):nm b=true↔∀i n:Nat,Ed (cB b) i n→¬Wy (Ed (cB b)) n (-1) i:=by
 unfold nm
 rw[List.all_eq_true]
 constructor
 ·intro h i n he
  have hil:=(he.lt (fP hv))
  rw[eH] at hil
  have h1:=List.all_eq_true.1 (h i (List.mem_range.2 hil.1)) (n:Int) (by
   obtain⟨k,hk,hm⟩:=he
   have:(cB b)[i]? =some (ab.mk 0 0 (cE b i)):=by simp[cB,hil.1]
   rw[this] at hk
   obtain rfl:=inS hk
   exact hm)
  intro hw
  have:=(ie (jB hs) (fP hv) (show n<(cB b).length by rw[eH];exact hil.2) (-1) i).2 hw
  rw[show Int.toNat (n:Int)=n from rfl,this] at h1
  cases h1
 ·intro h i hi
  rw[List.mem_range] at hi
  rw[List.all_eq_true]
  intro z hz
  have hz':=fO hz
  rw[fM hi] at hz'
  have hval:=aK hv (List.getElem_mem hi) hz'
  obtain⟨n,rfl⟩:=Int.eq_ofNat_of_zero_le hval.1
  have he:Ed (cB b) i n:=⟨ab.mk 0 0 (cE b i),by simp[cB,hi],hz⟩
  rw[show Int.toNat (n:Int)=n from rfl]
  cases hw:rK (cB b) n (-1) (i:Int) with
  |false=>rfl
  |true=>exact absurd ((ie (jB hs) (fP hv) (show n<(cB b).length by rw[eH];omega) (-1) i).1 hw) (h i n he)
theorem tW{b:List ab}(hs:aP b)(hv:av b=true)(h0:0<b.length){p:Nat→Int}(hD:Dfs (Ed b) p):nm b=true↔∀x n:Nat,Rch b x→Ed b x n→p x≤p n→Dom b n x:=by
 rw[nl hs hv h0]
 constructor
 ·intro h x n hx he hle
  refine Classical.byContradiction λhd=>?_
  refine h x n ((fQ hs hv h0).2 ⟨hx,he,hd⟩) ?_
  have hxp:=(hD.reach x).1 hx
  obtain⟨π,hdp,hs'⟩:=hD.tree x hxp
  have hn:=(hs' n he).resolve_left oM
  -- down the tree from n to x
  have key:∀{y:Nat}{ρ:List Nat},Dp (Ed b) p y ρ→0≤p y→∀v∈ρ,Wy (Ed (cB b)) v (-1) y:=by
   intro y ρ hρ
   induction hρ with
   |base=>intro _ v hv';simp at hv';subst hv';exact .base dC
   | @step u y ρ hd' e hl ih=>
    intro hy v hv'
    rcases List.mem_cons.1 hv' with rfl|hv'
    ·exact .base oM
    ·refine .step (ih oM v hv') ((fQ hs hv h0).2 ⟨(hD.reach u).2 oM,e,λhdm=>?_⟩) oM
     rcases hD.dom_lt (show 0≤p u by omega) hdm.2 with h|h
     ·subst h;omega
     ·omega
  exact key hdp hxp n hn
 ·intro h i n he hw
  have hle:∀y,Wy (Ed (cB b)) n (-1) y→p y≤p n:=λy hy=>by
   induction hy with
   |base _=>exact Int.le_refl _
   | @step u y _ e _ ih=>
    obtain⟨h1,h2,h3⟩:=(fQ hs hv h0).1 e
    have:¬p u≤p y:=λq=>h3 (h u y h1 h2 q)
    omega
  obtain⟨h1,h2,h3⟩:=(fQ hs hv h0).1 he
  have:¬p i≤p n:=λq=>h3 (h i n h1 h2 q)
  have:=hle i hw
  omega
theorem f23_eq(b:List ab)(hs:aP b)(hv:av b=true)(h0:0<b.length){D:List Int}(he:f19 b=some D)(hD:hZ b D):f23 b=some (nm b):=by
 have hN:=hs.len
 have hbl:=backs_len hs
 obtain⟨l,pl,e1,hO⟩:=nu b hs hv h0
 have hpl:=hO.lp
 unfold f23
 rw[f44_eq b hs,bnS,hv,Bool.not_true,cdF,aq,f17_eq b hs hv h0 he hD,bnS]
 obtain⟨m,e2,hm⟩:=eb (be b) (λn i s=>f23_l1 (λ(m71:List ((Int×Int)×Bool))=>Option.bind (f45 b) λr81=>ai (λ(_:Unit)=>some true) λk82=>(f23_l2 b m71 r81 k82 (Int.toNat ((List.length r81.2:Int) - 0)+1) 0)) (be b) n i s) (λ(m71:List ((Int×Int)×Bool))=>Option.bind (f45 b) λr81=>ai (λ(_:Unit)=>some true) λk82=>(f23_l2 b m71 r81 k82 (Int.toNat ((List.length r81.2:Int) - 0)+1) 0)) (λi m=>∀x y:Int,Option.getD (bd m (x,y)) false=true↔∃e∈(be b).take i,e.e0=x∧e.e1=y) oM
  (λfu i hi m hP=>by
   have e3:(be b).take (i+1)=(be b).take i++ [(be b)[i]]:=by rw[List.take_add_one,geG hi];rfl
   rw[f23_l1,eu hi,cdT,aJ hi,bnS,w1 hi oM]
   refine⟨_,rfl,λx y=>?_⟩
   rw[li,e3]
   by_cases h:((be b)[i].e0,(be b)[i].e1)=(x,y)
   ·rw[if_pos h]
    simp only[Option.getD_some,true_iff]
    simp only[Prod.mk.injEq] at h
    exact⟨_,List.mem_append_right _ (List.mem_singleton.2 rfl),h⟩
   ·rw[if_neg h,hP]
    constructor
    ·rintro⟨e,he',q⟩;exact⟨e,List.mem_append_left _ he',q⟩
    ·rintro⟨e,he',q⟩
     rcases List.mem_append.1 he' with he'|he'
     ·exact⟨e,he',q⟩
     ·rw[List.mem_singleton] at he';subst he'
      exact absurd (by rw[q.1,q.2]) h)
  (λfu s _=>by rw[f23_l1,eF,cdF]) (Int.toNat (((be b).length:Int) - 0)+1) 0 [] (Nat.zero_le _) oM (λx y=>by simp[bd])
 rw[show((0:Nat):Int)=0 from rfl] at e2
 rw[List.take_length] at hm
 have hmb:∀x y:Nat,Option.getD (bd m ((x:Int),(y:Int))) false=true↔Ed b x y∧Dom b y x:=λx y=>by
  rw[hm]
  constructor
  ·rintro⟨e,he',q1,q2⟩
   obtain⟨x',g,rfl,h1,h2⟩:=(bW hs hv).1 he'
   dsimp only at q1 q2
   have e1:x'=x:=oM
   have e2:g=y:=oM
   subst e1;subst e2
   exact⟨h1,h2⟩
  ·rintro⟨h1,h2⟩
   exact⟨⟨x,y⟩,(bW hs hv).2 ⟨x,y,rfl,h1,h2⟩,rfl,rfl⟩
 rw[e2,e1,bnS,aq]
 dsimp only
 have hlen:(List.range b.length).length=b.length:=List.length_range
 rw[qs (List.range b.length) (f23_l2 b m (l,pl) λ_=>some true) (some true) (some false) (λx=>(fj b x).all λz=> !(decide (0≤pf pl x)&&decide (pf pl x≤pf pl z.toNat)&& !(Option.getD (bd m ((x:Int),z)) false))) _ oM oM (λfu i hi=>by
  have hib:i<b.length:=oM
  have hnx:=hs.next _ (List.getElem_mem hib)
  rw[f23_l2,eu (by omega:i<pl.length),cdT,aq]
  dsimp only
  rw[bc,dD oM,bnS,aJ hib,bnS,List.getElem_range,fM hib]
  rw[qs b[i].next (f23_l3 m (l,pl) (i:Int) (λ_=>f23_l2 b m (l,pl) (λ_=>some true) fu (IntKind.i64.wrap ((i:Int)+1))) (pf pl i) b[i]) (f23_l2 b m (l,pl) (λ_=>some true) fu (IntKind.i64.wrap ((i:Int)+1))) (some false) (λz=> !(decide (0≤pf pl i)&&decide (pf pl i≤pf pl z.toNat)&& !(Option.getD (bd m ((i:Int),z)) false))) _ oM oM (λfu j hj=>by
   have hval:=aK hv (List.getElem_mem hib) (List.getElem_mem hj)
   obtain⟨z,hz⟩:=Int.eq_ofNat_of_zero_le hval.1
   rw[f23_l3]
   dsimp only
   rw[eu hj,cdT,aJ hj,bnS,hz,w1 hj oM]
   by_cases hp:0≤pf pl i
   ·rw[dcT (show pf pl i≥0 from hp),cdT,bc,dD oM,bnS,bnS,Bool.true_and,show Int.toNat (z:Int)=z from rfl]
    have:decide (pf pl z≥pf pl i)=decide (pf pl i≤pf pl z):=rfl
    rw[this]
    cases (decide (pf pl i≤pf pl z)&& !(Option.getD (bd m ((i:Int),(z:Int))) false))<;>rfl
   ·rw[dcF (show¬pf pl i≥0 from hp),cdF,bnS,Bool.false_and,cdF];rfl) (λfu=>by rw[f23_l3,eF,cdF]),w1 hib oM]) (λfu=>by rw[hlen,←hpl,f23_l2,eF,cdF])]
 have hiff:((List.range b.length).all λx=>(fj b x).all λz=> !(decide (0≤pf pl x)&&decide (pf pl x≤pf pl z.toNat)&& !(Option.getD (bd m ((x:Int),z)) false)))=nm b:=by
  rw[Bool.eq_iff_iff,tW hs hv h0 hO.dfs,List.all_eq_true]
  constructor
  ·intro h x n hx hxn hle
   have hl:=hxn.lt hv
   have h1:=List.all_eq_true.1 (h x (List.mem_range.2 hl.1)) (n:Int) (fY.1 hxn)
   rw[dcT ((hO.dfs.reach x).1 hx),show Int.toNat (n:Int)=n from rfl,dcT hle,Bool.true_and,Bool.true_and,Bool.not_not] at h1
   exact((hmb x n).1 h1).2
  ·intro h x hx
   rw[List.mem_range] at hx
   rw[List.all_eq_true]
   intro z hz
   have hz':=hz
   rw[fM hx] at hz'
   have hval:=aK hv (List.getElem_mem hx) hz'
   obtain⟨n,rfl⟩:=Int.eq_ofNat_of_zero_le hval.1
   by_cases hp:0≤pf pl x
   ·by_cases hle:pf pl x≤pf pl n
    ·have hed:Ed b x n:=fY.2 hz
     have:=(hmb x n).2 ⟨hed,h x n ((hO.dfs.reach x).2 hp) hed hle⟩
     rw[this];simp
    ·rw[show Int.toNat (n:Int)=n from rfl,dcF hle];simp
   ·rw[dcF hp];rfl
 rw[hiff]
 cases nm b<;>rfl
structure Fit(b:List ab):Prop where
 len:b.length<1125899906842624
 next:∀x∈b,x.next.length<1125899906842624
structure Wl(b:List ab)(fr:Nat)(w:Int)(S:List Bool)(l:List Int):Prop where
 len:S.length=b.length
 nd:l.Nodup
 ml:∀v:Nat,(v:Int)∈l↔tr S v
 nat:∀z∈l,∃v:Nat,z=v
 fr_:tr S fr
 so:∀v,tr S v→Wy (Ed b) fr w v
theorem f27_eq(l:List Int)(n:Int)(hl:l.length<9223372036854775808):f27 l n=some (decide (n∈l)):=by
 unfold f27
 obtain⟨F,hF⟩:∃F:Nat,F=9223372036854775808:=⟨_,rfl⟩
 rw[aq,←hF,qs l (f27_l1 l n λ_=>some false) (some false) (some true) (λx=> !decide (x=n)) F oM hl (λm i hi=>by
  rw[f27_l1,eu hi,cdT,aJ hi,bnS,w1 hi oM]
  cases decide (l[i]=n)<;>rfl) (λm=>by rw[f27_l1,eF,cdF])]
 cases h:l.all λx=> !decide (x=n) with
 |true=>
  rw[cdT,dcF]
  intro hm
  have:=List.all_eq_true.1 h n hm
  simp at this
 |false=>
  rw[cdF,dcT]
  obtain⟨x,hx,hx2⟩:=List.all_eq_false.1 h
  have:x=n:=by simpa using hx2
  subst this;exact hx
theorem nC{b:List ab}(hs:aP b)(hv:av b=true){h z:Int}:z∈eG b h↔∃n:Nat,z=n∧n<b.length∧pp b h n:=by
 unfold eG
 rw[List.mem_map]
 constructor
 ·rintro⟨n,hn,rfl⟩
  rw[List.mem_filter,List.mem_range] at hn
  exact⟨n,rfl,hn.1,(mu hs hv hn.1).1 hn.2⟩
 ·rintro⟨n,rfl,h1,h2⟩
  exact⟨n,by rw[List.mem_filter,List.mem_range];exact⟨h1,(mu hs hv h1).2 h2⟩,rfl⟩
structure Nst(E:Nat→Nat→Prop)(N:Nat)(B:List (Nat×Nat))(r:Nat→Nat):Prop where
 pos:0<N
 rng:∀x m,E x m→x<N∧m<N
 mem:∀p∈B,E p.1 p.2∧p.1≠p.2
 nd:B.Nodup
 up:∀x m,E x m→(x,m)∉B→r x<r m
 rch:∀u,u<N→Wy (λx m=>E x m∧(x,m)∉B) 0 (-1) u
 cert:∀p∈B,∃S:Nat→Prop,S p.1∧S p.2∧(∀u v,E u v→S v→v≠p.2→S u)∧(S 0→p.2=0)
theorem oH{E F:Nat→Nat→Prop}(hi:∀x m,E x m→F x m){s:Nat}{w:Int}{n:Nat}(h:Wy E s w n):Wy F s w n:=by
 induction h with
 |base h=>exact .base h
 |step _ e hn ih=>exact .step ih (hi _ _ e) hn
def mvB(a l:Nat)(p:Nat×Nat):Nat×Nat:=if p.1=a then(l,p.2) else p
def mvR(N a:Nat)(r:Nat→Nat)(v:Nat):Nat:=if v<N then 3*r v else 3*r a+1+(v - N)
theorem Nst.split{E E':Nat→Nat→Prop}{N N' a l:Nat}{B X:List (Nat×Nat)}{r:Nat→Nat}{New:Nat→Nat→Prop}(h:Nst E N B r)(ha:a<N)(hN:N≤N')(hN2:N'≤N+2)(hl:N≤l)(hl2:l<N')
  (hE:∀x m,E' x m↔(x<N∧x≠a∧E x m)∨(x=l∧E a m)∨New x m)
  (h1:∀x m,New x m→x<N'∧m<N'∧N≤m∧(x=a∨N≤x))
  (h2:∀x m,New x m→(x,m)∉X→x=a∨x<m)
  (hXn:X.Nodup)(hX:∀p∈X,New p.1 p.2∧N≤p.1∧p.1≠l∧p.1≠p.2)
  (h4:∀v,N≤v→v<N'→Wy (λx m=>New x m∧(x,m)∉X) a (-1) v)
  (h5:∀p∈X,∃S:Nat→Prop,S p.1∧S p.2∧(∀u v,E' u v→S v→v≠p.2→S u)∧¬S 0):
  Nst E' N' (B.map (mvB a l)++X) (mvR N a r):=by
 have hpos:=h.pos
 have hb:∀p∈B,p.1<N∧p.2<N:=λp hp=>h.rng _ _ (h.mem p hp).1
 -- what is new is no back edge but for X
 have hnb:∀x m,New x m→(x,m)∉X→(x,m)∉B.map (mvB a l)++X:=λx m hn hx hm=>by
  rcases List.mem_append.1 hm with hm|hm
  ·obtain⟨p,hp,e⟩:=List.mem_map.1 hm
   have h3:=(hb p hp).2
   have h4:=(h1 x m hn).2.2.1
   have:p.2=m:=by
    unfold mvB at e
    split at e<;>rw[Prod.ext_iff] at e<;>exact e.2
   omega
  ·exact hx hm
 have hold:∀x m,x<N→x≠a→(x,m)∉B→(x,m)∉B.map (mvB a l)++X:=λx m hx hxa hm hc=>by
  rcases List.mem_append.1 hc with hc|hc
  ·obtain⟨p,hp,e⟩:=List.mem_map.1 hc
   unfold mvB at e
   split at e
   ·rw[Prod.ext_iff] at e
    have:=e.1
    simp only at this
    omega
   ·subst e;exact hm hp
  ·have:=(hX _ hc).2.1
   simp only at this
   omega
 have hlast:∀m,(a,m)∉B→(l,m)∉B.map (mvB a l)++X:=λm hm hc=>by
  rcases List.mem_append.1 hc with hc|hc
  ·obtain⟨p,hp,e⟩:=List.mem_map.1 hc
   have h3:=hb p hp
   unfold mvB at e
   split at e
   ·rename_i h6
    rw[Prod.ext_iff] at e
    have h7:p=(a,m):=Prod.ext h6 e.2
    exact hm (h7▸hp)
   ·subst e;simp only at h3;omega
  ·exact(hX _ hc).2.2.1 rfl
 have hwa:∀u,Wy (λx m=>E x m∧(x,m)∉B) 0 (-1) u→Wy (λx m=>E' x m∧(x,m)∉B.map (mvB a l)++X) 0 (-1) u:=λu hu=>by
  have hi:∀v,N≤v→v<N'→Wy (λx m=>E' x m∧(x,m)∉B.map (mvB a l)++X) a (-1) v:=λv h6 h7=>oH (λx m hh=>⟨(hE x m).2 (.inr (.inr hh.1)),hnb x m hh.1 hh.2⟩) (h4 v h6 h7)
  induction hu with
  |base _=>exact .base oM
  | @step x n hx e _ ih=>
   by_cases hxa:x=a
   ·subst hxa
    exact .step (ih.trans (hi l hl hl2)) ⟨(hE l n).2 (.inr (.inl ⟨rfl,e.1⟩)),hlast n e.2⟩ oM
   ·exact .step ih ⟨(hE x n).2 (.inl ⟨(h.rng _ _ e.1).1,hxa,e.1⟩),hold x n (h.rng _ _ e.1).1 hxa e.2⟩ oM
 refine⟨oM,λx m hm=>?_,λp hp=>?_,?_,λx m hm hn=>?_,λu hu=>?_,λp hp=>?_⟩
 ·rcases(hE x m).1 hm with⟨h6,_,h7⟩|⟨rfl,h7⟩|h7
  ·have:=h.rng _ _ h7;omega
  ·have:=h.rng _ _ h7;omega
  ·have:=h1 _ _ h7;omega
 ·rcases List.mem_append.1 hp with hp|hp
  ·obtain⟨q,hq,rfl⟩:=List.mem_map.1 hp
   have h6:=h.mem q hq
   have h7:=hb q hq
   unfold mvB
   split
   ·rename_i h8
    rw[h8] at h6
    exact⟨(hE _ _).2 (.inr (.inl ⟨rfl,h6.1⟩)),by simp only;omega⟩
   ·rename_i h8
    exact⟨(hE _ _).2 (.inl ⟨h7.1,h8,h6.1⟩),h6.2⟩
  ·exact⟨(hE _ _).2 (.inr (.inr (hX p hp).1)),(hX p hp).2.2.2⟩
 ·have hinj:∀{p q:Nat×Nat},p∈B→q∈B→mvB a l p=mvB a l q→p=q:=λ{p q} hp hq e=>by
   have h6:=hb p hp
   have h7:=hb q hq
   unfold mvB at e
   split at e<;>split at e
   ·rename_i h8 h9
    rw[Prod.ext_iff] at e
    exact Prod.ext oM e.2
   ·rw[Prod.ext_iff] at e;have:=e.1;simp only at this;omega
   ·rw[Prod.ext_iff] at e;have:=e.1;simp only at this;omega
   ·exact e
  have hdis:∀p∈B.map (mvB a l),∀q∈X,p≠q:=λp hp q hq e=>by
   subst e
   obtain⟨q,hq',rfl⟩:=List.mem_map.1 hp
   have h6:=hX _ hq
   have h7:=hb q hq'
   unfold mvB at h6
   split at h6
   ·exact h6.2.2.1 rfl
   ·omega
  exact List.nodup_append.2 ⟨List.pairwise_map.2 (h.nd.imp_of_mem λ{p q} hp hq hne e=>hne (hinj hp hq e)),hXn,hdis⟩
 ·unfold mvR
  rcases(hE x m).1 hm with⟨h6,h8,h7⟩|⟨rfl,h7⟩|h7
  ·have h9:=h.rng _ _ h7
   rw[if_pos h6,if_pos h9.2]
   have:=h.up x m h7 (λhB=>hn (List.mem_append_left _ (List.mem_map.2 ⟨(x,m),hB,by unfold mvB;rw[if_neg h8]⟩)))
   omega
  ·have h9:=h.rng _ _ h7
   rw[if_neg oM,if_pos h9.2]
   have:=h.up a m h7 (λhB=>hn (List.mem_append_left _ (List.mem_map.2 ⟨(a,m),hB,by unfold mvB;rw[if_pos rfl]⟩)))
   omega
  ·have h9:=h1 _ _ h7
   rw[if_neg (show¬m<N by omega)]
   rcases h2 x m h7 (λhB=>hn (List.mem_append_right _ hB)) with rfl|h10
   ·rw[if_pos ha];omega
   ·rcases h9.2.2.2 with rfl|h11
    ·rw[if_pos ha];omega
    ·rw[if_neg oM];omega
 ·by_cases h6:u<N
  ·exact hwa u (h.rch u h6)
  ·exact(hwa a (h.rch a ha)).trans (oH (λx m hh=>⟨(hE x m).2 (.inr (.inr hh.1)),hnb x m hh.1 hh.2⟩) (h4 u oM hu))
 ·rcases List.mem_append.1 hp with hp|hp
  ·obtain⟨q,hq,rfl⟩:=List.mem_map.1 hp
   obtain⟨S,s1,s2,s3,s4⟩:=h.cert q hq
   have h7:=hb q hq
   have e2:(mvB a l q).2=q.2:=by unfold mvB;split<;>rfl
   refine⟨λv=>if v<N then S v else S a,?_,?_,λu v huv hv hne=>?_,λh0=>?_⟩
   ·unfold mvB
    split
    ·rename_i h8
     simp only
     rw[if_neg oM,←h8];exact s1
    ·show(if q.1<N then S q.1 else S a)
     rw[if_pos h7.1];exact s1
   ·rw[e2];simp only;rw[if_pos h7.2];exact s2
   ·rw[e2] at hne
    simp only at hv⊢
    rcases(hE u v).1 huv with⟨h6,h8,h9⟩|⟨rfl,h9⟩|h9
    ·rw[if_pos (h.rng _ _ h9).2] at hv
     rw[if_pos h6]
     exact s3 u v h9 hv hne
    ·rw[if_pos (h.rng _ _ h9).2] at hv
     rw[if_neg oM]
     exact s3 a v h9 hv hne
    ·have h10:=h1 _ _ h9
     rw[if_neg oM] at hv
     rcases h10.2.2.2 with rfl|h11
     ·rw[if_pos ha];exact hv
     ·rw[if_neg oM];exact hv
   ·rw[e2]
    simp only at h0
    rw[if_pos hpos] at h0
    exact s4 h0
  ·obtain⟨S,s1,s2,s3,s4⟩:=h5 p hp
   exact⟨S,s1,s2,s3,λh0=>absurd h0 s4⟩
section
variable{b:List ab}{B:List (Nat×Nat)}{r:Nat→Nat}
theorem Nst.rchd(h:Nst (Ed b) b.length B r){u:Nat}(hu:u<b.length):Rch b u:=oH (λ_ _ e=>e.1) (h.rch u hu)
theorem Nst.avoid(h:Nst (Ed b) b.length B r){u v:Nat}(hu:Wy (λx m=>Ed b x m∧(x,m)∉B) 0 (-1) u)(hv:r u<r v):Wy (Ed b) 0 v u:=by
 induction hu generalizing v with
 |base _=>
  refine .base (λe=>?_)
  have:(0:Nat)=v:=oM
  subst this
  omega
 | @step x n hx e _ ih=>
  have h1:=h.up x n e.1 e.2
  refine .step (ih oM) e.1 (λe2=>?_)
  have:n=v:=oM
  subst this
  omega
theorem Nst.dom(h:Nst (Ed b) b.length B r){x g:Nat}(hB:(x,g)∈B):Dom b g x:=by
 have h1:=h.rng _ _ (h.mem _ hB).1
 refine⟨h.rchd h1.1,λhw=>?_⟩
 obtain⟨S,s1,s2,s3,s4⟩:=h.cert _ hB
 have key:∀u,Wy (Ed b) 0 g u→S u→False:=λu hu=>by
  induction hu with
  |base h0=>exact λh2=>h0 (by have:=s4 h2;simp only at this;omega)
  | @step y n hy e hn ih=>exact λh2=>ih (s3 y n e h2 (λe2=>hn (by simp only at e2;omega)))
 exact key x hw s1
theorem Nst.back(h:Nst (Ed b) b.length B r){x g:Nat}(he:Ed b x g)(hd:Dom b g x):(x,g)∈B:=by
 refine Classical.byContradiction λhn=>?_
 exact hd.2 (h.avoid (h.rch x (h.rng _ _ he).1) (h.up x g he hn))
theorem o5{α:Type}:∀(l m:List α),l.Nodup→(∀x∈l,x∈m)→l.length≤m.length
 |[],m,_,_=>Nat.zero_le _
 |x::l,m,h,hs=>by
  classical
  have hx:=hs x sM
  have h1:=o5 l (m.erase x) (List.nodup_cons.1 h).2 (λy hy=>(List.mem_erase_of_ne (by rintro rfl;exact(List.nodup_cons.1 h).1 hy)).2 (hs y (List.mem_cons_of_mem _ hy)))
  have h2:=List.length_erase_of_mem hx
  have h3:=List.length_pos_of_mem hx
  simp only[List.length_cons]
  omega
theorem tp(b:List ab):(be b).Nodup:=by
 unfold be List.Nodup
 rw[List.pairwise_flatMap]
 refine⟨λx _=>List.pairwise_map.2 ((List.nodup_range.filter _).imp λ{p q} hne e=>hne (by have:=congrArg Pr2.e1 e;simp only at this;omega)),List.nodup_range.imp λ{x y} hne p hp q hq e=>hne ?_⟩
 obtain⟨_,_,rfl⟩:=List.mem_map.1 hp
 obtain⟨_,_,rfl⟩:=List.mem_map.1 hq
 have:=congrArg Pr2.e0 e
 simp only at this
 omega
theorem Nst.backs_iff(h:Nst (Ed b) b.length B r)(hs:aP b)(hv:av b=true){e:Pr2}:e∈be b↔e∈B.map λp=>Pr2.mk p.1 p.2:=by
 rw[bW hs hv,List.mem_map]
 constructor
 ·rintro⟨x,g,rfl,h1,h2⟩
  exact⟨(x,g),h.back h1 h2,rfl⟩
 ·rintro⟨⟨x,g⟩,hp,rfl⟩
  exact⟨x,g,rfl,(h.mem _ hp).1,h.dom hp⟩
theorem Nst.backs_len(h:Nst (Ed b) b.length B r)(hs:aP b)(hv:av b=true):(be b).length=B.length:=by
 have hn:(B.map λp=>Pr2.mk (p.1:Int) (p.2:Int)).Nodup:=List.pairwise_map.2 (h.nd.imp λ{p q} hne e=>hne (by
  have h1:=congrArg Pr2.e0 e
  have h2:=congrArg Pr2.e1 e
  simp only at h1 h2
  exact Prod.ext oM oM))
 have h1:=o5 _ _ (tp b) λe he=>(h.backs_iff hs hv).1 he
 have h2:=o5 _ _ hn λe he=>(h.backs_iff hs hv).2 he
 rw[List.length_map] at h1 h2
 omega
theorem Nst.red(h:Nst (Ed b) b.length B r)(hs:aP b)(hv:av b=true):nm b=true:=by
 refine(nl hs hv h.pos).2 λi n e hw=>?_
 have hup:∀x m,Ed (cB b) x m→r x<r m:=λx m e=>by
  obtain⟨_,h1,h2⟩:=(fQ hs hv h.pos).1 e
  exact h.up x m h1 λhB=>h2 (h.dom hB)
 have key:∀u,Wy (Ed (cB b)) n (-1) u→r n≤r u:=λu hu=>by
  induction hu with
  |base _=>exact Nat.le_refl _
  |step _ e _ ih=>have:=hup _ _ e;omega
 have h1:=key i hw
 have h2:=hup _ _ e
 omega
theorem Nst.loop(h:Nst (Ed b) b.length B r)(hs:aP b)(hv:av b=true){x g:Nat}(hB:(x,g)∈B):2≤(eG b g).length∧(x:Int)∈eG b g:=by
 have h1:=h.mem _ hB
 have h2:=h.rng _ _ h1.1
 have hd:=h.dom hB
 have hg:(g:Int)∈eG b g:=(nC hs hv).2 ⟨g,rfl,h2.2,x,g,rfl,h1.1,hd, .inl rfl⟩
 have hx:(x:Int)∈eG b g:=(nC hs hv).2 ⟨x,rfl,h2.1,x,g,rfl,h1.1,hd, .inr ⟨h.rchd h2.1, .base (λe=>h1.2 (by simp only at e⊢;omega))⟩⟩
 refine⟨?_,hx⟩
 cases hL:eG b g with
 |nil=>rw[hL] at hx;cases hx
 |cons y t=>
  cases t with
  |nil=>
   rw[hL,List.mem_singleton] at hx hg
   exact absurd (hx.trans hg.symm) (λe=>h1.2 (by simp only at e⊢;omega))
  |cons z t=>simp
end
theorem ph{G news:List ab}{a:Nat}(ha:a<G.length){k0:ab}{x m:Nat}:Ed (G.set a k0++news) x m↔(x<G.length∧x≠a∧Ed G x m)∨(x=a∧(m:Int)∈k0.next)∨(∃k,G.length≤x∧news[x - G.length]? =some k∧(m:Int)∈k.next):=by
 unfold Ed
 by_cases h:x<G.length
 ·rw[List.getElem?_append_left (by rw[List.length_set];exact h)]
  by_cases hx:x=a
  ·subst hx
   rw[List.getElem?_set_self ha]
   constructor
   ·rintro⟨k,hk,hm⟩
    obtain rfl:=inS hk
    exact .inr (.inl ⟨rfl,hm⟩)
   ·rintro(⟨_,h1,_⟩|⟨_,h1⟩|⟨k,h1,_⟩)
    ·exact absurd rfl h1
    ·exact⟨k0,rfl,h1⟩
    ·omega
  ·rw[List.getElem?_set_ne λe=>hx e.symm]
   constructor
   ·exact λhh=> .inl ⟨h,hx,hh⟩
   ·rintro(⟨_,_,h1⟩|⟨h1,_⟩|⟨k,h1,_⟩)
    ·exact h1
    ·exact absurd h1 hx
    ·omega
 ·rw[List.getElem?_append_right (by rw[List.length_set];omega),List.length_set]
  constructor
  ·rintro⟨k,hk,hm⟩
   exact .inr (.inr ⟨k,oM,hk,hm⟩)
  ·rintro(⟨h1,_⟩|⟨h1,_⟩|⟨k,_,h1,h2⟩)
   ·omega
   ·omega
   ·exact⟨k,h1,h2⟩
theorem iU{G news:List ab}(hv:av G=true){a:Nat}{k0:ab}(h0:∀z∈k0.next,0≤z∧z<G.length+news.length)(hn:∀k∈news,∀z∈k.next,0≤z∧z<G.length+news.length):av (G.set a k0++news)=true:=by
 unfold av
 rw[List.all_eq_true]
 intro k hk
 rw[List.all_eq_true]
 intro z hz
 have key:0≤z∧z<G.length+news.length:=by
  rcases List.mem_append.1 hk with hk|hk
  ·rcases List.mem_or_eq_of_mem_set hk with hk|rfl
   ·have:=aK hv hk hz;omega
   ·exact h0 z hz
  ·exact hn k hk z hz
 rw[List.length_append,List.length_set]
 push_cast
 simp[key.1,key.2]
structure NI(i:Nat)(s:Int×List ab):Prop where
 st:∃B r,Nst (Ed s.2) s.2.length B r∧s.1=(B.length:Int)∧B.length≤i
 len:s.2.length≤1+2*i
 next:∀k∈s.2,k.next.length≤2+i
 val:av s.2=true
theorem mq{i:Nat}{G news:List ab}{a:Nat}{k0:ab}(h:∀k∈G,k.next.length≤2+i)(h0:k0.next.length≤3+i)(hn:∀k∈news,k.next.length≤3+i):∀k∈G.set a k0++news,k.next.length≤2+(i+1):=λk hk=>by
 rcases List.mem_append.1 hk with hk|hk
 ·rcases List.mem_or_eq_of_mem_set hk with hk|rfl
  ·have:=h k hk;omega
  ·omega
 ·have:=hn k hk;omega
theorem wr{i:Nat}{l:Int}{G:List ab}(h:NI i (l,G)){a:Nat}(ha:a<G.length)(f t:Int):NI (i+1) (l,G.set a (ab.mk f t [(G.length:Int)])++ [ab.mk 0 0 G[a].next]):=by
 obtain⟨⟨B,r,hst,hl,hB⟩,hlen,hnx,hv⟩:=h
 simp only at hst hl hlen hnx hv
 have hga:∀m:Nat,Ed G a m↔(m:Int)∈G[a].next:=λm=>by
  unfold Ed
  rw[geG ha]
  exact⟨λ⟨k,hk,hm⟩=>(inS hk)▸hm,λhm=>⟨_,rfl,hm⟩⟩
 have hst':=hst.split (E':=Ed (G.set a (ab.mk f t [(G.length:Int)])++ [ab.mk 0 0 G[a].next])) (N':=G.length+1) (l:=G.length) (X:=[]) (New:=λx m=>x=a∧m=G.length) ha oM oM oM oM
  (λx m=>by
   rw[ph ha,hga]
   constructor
   ·rintro(h|⟨h,h1⟩|⟨k,h,h1,h2⟩)
    ·exact .inl h
    ·exact .inr (.inr ⟨h,by rw[List.mem_singleton] at h1;omega⟩)
    ·have h3:=(giS.1 h1).1
     simp only[List.length_singleton] at h3
     have:x=G.length:=oM
     subst this
     rw[Nat.sub_self] at h1
     obtain rfl:=inS h1
     exact .inr (.inl ⟨rfl,h2⟩)
   ·rintro(h|⟨h,h1⟩|⟨h,h1⟩)
    ·exact .inl h
    ·exact .inr (.inr ⟨ab.mk 0 0 G[a].next,oM,by rw[h,Nat.sub_self];rfl,h1⟩)
    ·exact .inr (.inl ⟨h,by rw[h1];exact List.mem_singleton.2 rfl⟩))
  (λx m h=>oM) (λx m h _=> .inl h.1) List.nodup_nil (λp hp=>by cases hp)
  (λv h1 h2=>by
   have:v=G.length:=oM
   subst this
   exact .step (.base oM) ⟨⟨rfl,rfl⟩,sM⟩ oM)
  (λp hp=>by cases hp)
 refine⟨⟨_,_,by simpa[List.length_append,List.length_set] using hst',?_,?_⟩,?_,?_,?_⟩
 ·simp only[List.append_nil,List.length_map];exact hl
 ·simp only[List.append_nil,List.length_map];omega
 ·simp only[List.length_append,List.length_set,List.length_singleton];omega
 ·exact mq hnx (by simp only[List.length_singleton];omega) (λk hk=>by
   obtain rfl:=List.mem_singleton.1 hk
   have:=hnx _ (List.getElem_mem ha)
   simp only;omega)
 ·refine iU hv (λz hz=>?_) (λk hk z hz=>?_)
  ·simp only[List.length_singleton]
   obtain rfl:=List.mem_singleton.1 hz
   omega
  ·obtain rfl:=List.mem_singleton.1 hk
   have:=aK hv (List.getElem_mem ha) hz
   simp only[List.length_singleton];omega
theorem wq{i:Nat}{l:Int}{G:List ab}(h:NI i (l,G)){a:Nat}(ha:a<G.length)(f t:Int):NI (i+1) (l,G.set a (ab.mk f t [(G.length:Int),((G.length+1:Nat):Int)])++ [ab.mk 0 0 [((G.length+1:Nat):Int)],ab.mk 0 0 G[a].next]):=by
 obtain⟨⟨B,r,hst,hl,hB⟩,hlen,hnx,hv⟩:=h
 simp only at hst hl hlen hnx hv
 have hga:∀m:Nat,Ed G a m↔(m:Int)∈G[a].next:=λm=>by
  unfold Ed
  rw[geG ha]
  exact⟨λ⟨k,hk,hm⟩=>(inS hk)▸hm,λhm=>⟨_,rfl,hm⟩⟩
 have hst':=hst.split (E':=Ed (G.set a (ab.mk f t [(G.length:Int),((G.length+1:Nat):Int)])++ [ab.mk 0 0 [((G.length+1:Nat):Int)],ab.mk 0 0 G[a].next])) (N':=G.length+2) (l:=G.length+1) (X:=[]) (New:=λx m=>(x=a∧(m=G.length∨m=G.length+1))∨(x=G.length∧m=G.length+1)) ha oM oM oM oM
  (λx m=>by
   rw[ph ha,hga]
   constructor
   ·rintro(h|⟨h,h1⟩|⟨k,h,h1,h2⟩)
    ·exact .inl h
    ·refine .inr (.inr (.inl ⟨h,?_⟩))
     simp only[List.mem_cons,List.not_mem_nil,or_false] at h1
     omega
    ·have h3:=(giS.1 h1).1
     simp only[List.length_cons,List.length_nil] at h3
     rcases(show x=G.length∨x=G.length+1 by omega) with e|e
     ·subst e
      rw[Nat.sub_self] at h1
      obtain rfl:=inS h1
      exact .inr (.inr (.inr ⟨rfl,by have:=List.mem_singleton.1 h2;omega⟩))
     ·subst e
      rw[show G.length+1 - G.length=1 by omega] at h1
      obtain rfl:=inS h1
      exact .inr (.inl ⟨rfl,h2⟩)
   ·rintro(h|⟨h,h1⟩|⟨h,h1⟩|⟨h,h1⟩)
    ·exact .inl h
    ·exact .inr (.inr ⟨ab.mk 0 0 G[a].next,oM,by rw[h,show G.length+1 - G.length=1 by omega];rfl,h1⟩)
    ·refine .inr (.inl ⟨h,?_⟩)
     simp only[List.mem_cons,List.not_mem_nil,or_false]
     omega
    ·exact .inr (.inr ⟨_,oM,by rw[h,Nat.sub_self];rfl,by rw[h1];exact List.mem_singleton.2 rfl⟩))
  (λx m h=>oM) (λx m h _=>oM) List.nodup_nil (λp hp=>by cases hp)
  (λv h1 h2=>by
   rcases(show v=G.length∨v=G.length+1 by omega) with rfl|rfl
   ·exact .step (.base oM) ⟨.inl ⟨rfl, .inl rfl⟩,sM⟩ oM
   ·exact .step (.base oM) ⟨.inl ⟨rfl, .inr rfl⟩,sM⟩ oM)
  (λp hp=>by cases hp)
 refine⟨⟨_,_,by simpa[List.length_append,List.length_set] using hst',?_,?_⟩,?_,?_,?_⟩
 ·simp only[List.append_nil,List.length_map];exact hl
 ·simp only[List.append_nil,List.length_map];omega
 ·simp only[List.length_append,List.length_set,List.length_cons,List.length_nil];omega
 ·exact mq hnx (by simp only[List.length_cons,List.length_nil];omega) (λk hk=>by
   have:=hnx _ (List.getElem_mem ha)
   simp only[List.mem_cons,List.not_mem_nil,or_false] at hk
   rcases hk with rfl|rfl
   ·simp only[List.length_cons,List.length_nil];omega
   ·simp only;omega)
 ·refine iU hv (λz hz=>?_) (λk hk z hz=>?_)
  ·simp only[List.length_cons,List.length_nil]
   simp only[List.mem_cons,List.not_mem_nil,or_false] at hz
   omega
  ·simp only[List.length_cons,List.length_nil]
   simp only[List.mem_cons,List.not_mem_nil,or_false] at hk
   rcases hk with rfl|rfl
   ·have:=List.mem_singleton.1 hz;omega
   ·have:=aK hv (List.getElem_mem ha) hz;omega
theorem uc{i:Nat}{l:Int}{G:List ab}(h:NI i (l,G)){a:Nat}(ha:a<G.length)(f t:Int):NI (i+1) (l+1,G.set a (ab.mk f t [(G.length:Int)])++ [ab.mk 0 0 ([((G.length+1:Nat):Int)]++G[a].next),ab.mk 0 0 [(G.length:Int)]]):=by
 obtain⟨⟨B,r,hst,hl,hB⟩,hlen,hnx,hv⟩:=h
 simp only at hst hl hlen hnx hv
 have hga:∀m:Nat,Ed G a m↔(m:Int)∈G[a].next:=λm=>by
  unfold Ed
  rw[geG ha]
  exact⟨λ⟨k,hk,hm⟩=>(inS hk)▸hm,λhm=>⟨_,rfl,hm⟩⟩
 have hE:∀x m,Ed (G.set a (ab.mk f t [(G.length:Int)])++ [ab.mk 0 0 ([((G.length+1:Nat):Int)]++G[a].next),ab.mk 0 0 [(G.length:Int)]]) x m↔(x<G.length∧x≠a∧Ed G x m)∨(x=G.length∧Ed G a m)∨((x=a∧m=G.length)∨(x=G.length∧m=G.length+1)∨(x=G.length+1∧m=G.length)):=λx m=>by
   rw[ph ha,hga]
   constructor
   ·rintro(h|⟨h,h1⟩|⟨k,h,h1,h2⟩)
    ·exact .inl h
    ·exact .inr (.inr (.inl ⟨h,by have:=List.mem_singleton.1 h1;omega⟩))
    ·have h3:=(giS.1 h1).1
     simp only[List.length_cons,List.length_nil] at h3
     rcases(show x=G.length∨x=G.length+1 by omega) with e|e
     ·subst e
      rw[Nat.sub_self] at h1
      obtain rfl:=inS h1
      rcases List.mem_append.1 h2 with h2|h2
      ·exact .inr (.inr (.inr (.inl ⟨rfl,by have:=List.mem_singleton.1 h2;omega⟩)))
      ·exact .inr (.inl ⟨rfl,h2⟩)
     ·subst e
      rw[show G.length+1 - G.length=1 by omega] at h1
      obtain rfl:=inS h1
      exact .inr (.inr (.inr (.inr ⟨rfl,by have:=List.mem_singleton.1 h2;omega⟩)))
   ·rintro(h|⟨h,h1⟩|⟨h,h1⟩|⟨h,h1⟩|⟨h,h1⟩)
    ·exact .inl h
    ·exact .inr (.inr ⟨ab.mk 0 0 ([((G.length+1:Nat):Int)]++G[a].next),oM,by rw[h,Nat.sub_self];rfl,List.mem_append_right _ h1⟩)
    ·exact .inr (.inl ⟨h,by rw[h1];exact List.mem_singleton.2 rfl⟩)
    ·exact .inr (.inr ⟨ab.mk 0 0 ([((G.length+1:Nat):Int)]++G[a].next),oM,by rw[h,Nat.sub_self];rfl,List.mem_append_left _ (by rw[h1];exact List.mem_singleton.2 rfl)⟩)
    ·exact .inr (.inr ⟨_,oM,by rw[h,show G.length+1 - G.length=1 by omega];rfl,by rw[h1];exact List.mem_singleton.2 rfl⟩)
 have hst':=hst.split (N':=G.length+2) (l:=G.length) (X:=[(G.length+1,G.length)]) ha oM oM oM oM hE
  (λx m h=>oM) (λx m h hn=>by
   rcases h with h|h|⟨rfl,rfl⟩
   ·exact .inl h.1
   ·omega
   ·exact absurd (List.mem_singleton.2 rfl) hn) sM (λp hp=>by
   obtain rfl:=List.mem_singleton.1 hp
   exact⟨.inr (.inr ⟨rfl,rfl⟩),by simp only;omega,by simp only;omega,by simp only;omega⟩)
  (λv h1 h2=>by
   have w:Wy (λx m=>((x=a∧m=G.length)∨(x=G.length∧m=G.length+1)∨(x=G.length+1∧m=G.length))∧(x,m)∉[(G.length+1,G.length)]) a (-1) G.length:= .step (.base oM) ⟨.inl ⟨rfl,rfl⟩,by simp;omega⟩ oM
   rcases(show v=G.length∨v=G.length+1 by omega) with rfl|rfl
   ·exact w
   ·exact .step w ⟨.inr (.inl ⟨rfl,rfl⟩),sM⟩ oM)
  (λp hp=>by
   obtain rfl:=List.mem_singleton.1 hp
   refine⟨λv=>G.length≤v,by simp only;omega,by simp only;omega,λu v huv hv hne=>?_,by have:=hst.pos;simp only;omega⟩
   simp only at hv hne⊢
   rcases(hE u v).1 huv with⟨_,_,h⟩|⟨_,h⟩|h
   ·have:=hst.rng _ _ h;omega
   ·have:=hst.rng _ _ h;omega
   ·omega)
 refine⟨⟨_,_,by simpa[List.length_append,List.length_set] using hst',?_,?_⟩,?_,?_,?_⟩
 ·simp only[List.length_append,List.length_map,List.length_singleton];push_cast;omega
 ·simp only[List.length_append,List.length_map,List.length_singleton];omega
 ·simp only[List.length_append,List.length_set,List.length_cons,List.length_nil];omega
 ·exact mq hnx (by simp only[List.length_cons,List.length_nil];omega) (λk hk=>by
   have:=hnx _ (List.getElem_mem ha)
   simp only[List.mem_cons,List.not_mem_nil,or_false] at hk
   rcases hk with rfl|rfl
   ·simp only[List.length_append,List.length_cons,List.length_nil];omega
   ·simp only[List.length_cons,List.length_nil];omega)
 ·refine iU hv (λz hz=>?_) (λk hk z hz=>?_)
  ·simp only[List.length_cons,List.length_nil]
   have:=List.mem_singleton.1 hz;omega
  ·simp only[List.length_cons,List.length_nil]
   simp only[List.mem_cons,List.not_mem_nil,or_false] at hk
   rcases hk with rfl|rfl
   ·rcases List.mem_append.1 hz with hz|hz
    ·have:=List.mem_singleton.1 hz;omega
    ·have:=aK hv (List.getElem_mem ha) hz;omega
   ·have:=List.mem_singleton.1 hz;omega
theorem ub:NI 0 (0,[ab.mk 0 0 []]):=by
 have hE:∀x m,¬Ed [ab.mk 0 0 []] x m:=λx m ⟨k,hk,hm⟩=>by
  have:=List.mem_of_getElem? hk
  obtain rfl:=List.mem_singleton.1 this
  cases hm
 refine⟨⟨[],λ_=>0,⟨sM,λx m h=>absurd h (hE x m),λp hp=>(by cases hp),List.nodup_nil,λx m h _=>absurd h (hE x m),λu hu=>?_,λp hp=>(by cases hp)⟩,rfl,Nat.le_refl _⟩,sM,λk hk=>?_,by decide⟩
 ·simp only[List.length_singleton] at hu
  obtain rfl:u=0:=oM
  exact .base dC
 ·obtain rfl:=List.mem_singleton.1 hk
  simp
theorem w8(x:Int){N:Nat}(h:0<N):∃a:Nat,a<N∧Int.tmod (IntKind.i64.wrap (IntKind.u8.wrap (Int.tdiv x 3))) (N:Int)=(a:Int):=by
 have h1:0≤IntKind.u8.wrap (Int.tdiv x 3)∧IntKind.u8.wrap (Int.tdiv x 3)<256:=by rw[IntKind.wrap_u8];omega
 generalize IntKind.u8.wrap (Int.tdiv x 3)=y at h1
 rw[w64 oM oM,Int.tmod_eq_emod_of_nonneg h1.1]
 have h2:=Int.emod_nonneg y (show(N:Int)≠0 by omega)
 have h3:=Int.emod_lt_of_pos y (show(0:Int)<N by omega)
 exact⟨(y%N).toNat,oM,oM⟩
theorem o6(steps:List Int):f7 steps=some true:=by
 unfold f7
 obtain⟨F,hF⟩:∃F:Nat,F=9223372036854775808:=⟨_,rfl⟩
 rw[←hF]
 by_cases hl:(steps.length:Int)>40
 ·rw[dcT hl];rfl
 ·rw[dcF hl,cdF,aq]
  generalize hK:(λ(loops138:Int)(lw139:List ab)=>_)=K
  obtain⟨⟨lo,G⟩,e,hP⟩:=eb steps (λn i (s:Int×List ab)=>f7_l1 steps K n s.1 i s.2) (λs=>K s.1 s.2) NI oM
   (λn i hi ⟨lo,G⟩ hP=>by
    have hGl:=hP.len
    have hGn:=hP.next
    obtain⟨B,r,hst,hlo,hBi⟩:=hP.st
    simp only at hGl hGn hst hlo hBi
    have hpos:=hst.pos
    obtain⟨a,ha,ea⟩:=w8 steps[i] hpos
    have hna:=hGn _ (List.getElem_mem ha)
    have hN1:IntKind.i64.wrap ((G.length:Int)+1)=((G.length+1:Nat):Int):=by rw[w64 oM oM];push_cast;rfl
    have hnz:nz (G.length:Int)=true:=by unfold nz;rw[dcF oM];rfl
    dsimp only
    rw[f7_l1,eu hi,cdT,aq,aJ hi,bnS,aT _ hnz,ea,aJ ha,bnS,bnS,Int.toNat_natCast,w1 hi oM,hN1]
    by_cases h0:Int.tmod steps[i] 3=0
    ·rw[dcT h0,cdT,bnS,aT _ (cY dC (by simp only[List.length_set,List.length_cons,List.length_nil];omega))]
     exact⟨(_,_),rfl,wr hP ha _ _⟩
    ·rw[dcF h0,cdF]
     by_cases h1:Int.tmod steps[i] 3=1
     ·rw[dcT h1,cdT,bnS,aT _ (cY dC (by simp only[List.length_set,List.length_cons,List.length_nil];omega))]
      exact⟨(_,_),rfl,wq hP ha _ _⟩
     ·rw[dcF h1,cdF,bnS,aT _ (cY dC (by simp only[List.length_set,List.length_cons,List.length_nil];omega)),aT _ (cY dC (by simp only[List.length_set,List.length_cons,List.length_nil];omega)),w64 (x:=lo+1) oM oM]
      exact⟨(_,_),rfl,uc hP ha _ _⟩)
   (λn ⟨lo,G⟩ hP=>by
    dsimp only
    rw[f7_l1,eF,cdF]) F 0 (0,[ab.mk 0 0 []]) (Nat.zero_le _) oM ub
  rw[show((0:Nat):Int)=0 from rfl] at e
  dsimp only at e
  rw[e,←hK]
  obtain⟨⟨B,r,hst,hlo,hBi⟩,hGl,hGn,hv⟩:=hP
  simp only at hst hlo hGl hGn hv
  have hs:aP G:=⟨oM,λk hk=>by have:=hGn k hk;omega⟩
  obtain⟨D,e1,hD⟩:=mH G hs hv hst.pos
  have hbl:=backs_len hs
  dsimp only
  rw[f17_eq G hs hv hst.pos e1 hD,bnS,hst.backs_len hs hv,hlo,dcT rfl,Bool.not_true,cdF,f23_eq G hs hv hst.pos e1 hD,bnS,hst.red hs hv,Bool.not_true,bnS,cdF,aq,qs (be G) (f7_l2 G (be G) λ_=>Option.bind (f9) λr180=>some r180) (some true) (some false) (λ_=>true) F oM oM (λm i hi=>by
   have hm:=(hst.backs_iff hs hv).1 (List.getElem_mem hi)
   obtain⟨⟨x,g⟩,hB,he⟩:=List.mem_map.1 hm
   have hlp:=hst.loop hs hv hB
   have hll:(eG G g).length≤G.length:=by
    unfold eG
    rw[List.length_map]
    exact Nat.le_trans (List.length_filter_le _ _) sM
   rw[f7_l2,eu hi,cdT,aJ hi,bnS,←he,f21_eq G hs hv hst.pos e1 hD,bnS,dcF (show¬((eG G g).length:Int)<2 by omega),cdF,bnS,f27_eq (eG G g) _ oM,bnS,dcT hlp.2,Bool.not_true,bnS,cdF,w1 hi oM]
   rfl) (λm=>by rw[f7_l2,eF,cdF];rfl)]
  cases h:(be G).all λ_=>true with
  |true=>rfl
  |false=>simp at h
end Go.Proofs.YtpodhdopgcedlaaGreatDoor
