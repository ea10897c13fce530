import PyProof.Rows.All
import Wide.All
import OpenK.AllK
import Wide.FinOn
import PySem.Challenge.RW_rh0242_01
open PySem PySem.W PySem.Calls PyProof.Rows
set_option Elab.async false
set_option maxRecDepth 100000
set_option maxHeartbeats 0
set_option linter.all false
set_option genInjectivity false
set_option genSizeOfSpec false
set_option tactic.hygienic false
set_option bootstrap.genMatcherCode false
set_option backward.match.sparseCases false
set_option genSizeOf false
set_option genCtorIdx false
namespace Mine.Internal
local macro_rules | `(tactic| refine' $e) => `(tactic| with_reducible refine $e)
local macro_rules | `(tactic| apply $e) => `(tactic| with_unfolding_all exact $e)
inductive Lx where
 |i (k:Nat)
 |n (k:Nat)
 |c (k:Nat)
 |cast (a:Lx)
 |add (a b:Lx)
 |sub (a b:Lx)
 |neg (a:Lx)
 |mul (k:Nat) (a:Lx)
 |lum (k:Nat) (a:Lx)
noncomputable def zD{α:Type}(d:α):List α→Nat→α
 |[],_=>d
 |a::r,k=>match k with
  |0=>a
  |k+1=>zD d r k
noncomputable def Lx.N(ν:List Nat):Lx→Nat
 | .n k=>zD 0 ν k
 | .c k=>k
 | .add a b=>a.N ν+b.N ν
 | .mul k a=>k*a.N ν
 | .lum k a=>a.N ν*k
 |_=>0
noncomputable def Lx.I(ρ:List Int)(ν:List Nat):Lx→Int
 | .i k=>zD 0 ρ k
 | .c k=>Int.ofNat k
 | .cast a=>((a.N ν:Nat):Int)
 | .add a b=>a.I ρ ν+b.I ρ ν
 | .sub a b=>a.I ρ ν- b.I ρ ν
 | .neg a=> -a.I ρ ν
 | .mul k a=>Int.ofNat k*a.I ρ ν
 | .lum k a=>a.I ρ ν*Int.ofNat k
 | .n _=>0
noncomputable def pk{α:Type}(b:Bool)(x y:α):α:=match b with
 |true=>x
 |false=>y
noncomputable def oE{α:Type}:Nat→Nat→(Lx→Nat→α)→α
 |0,n,k=>k (.c 0) n
 |f+1,n,k=>pk (Nat.ble 16 (n%32)) (k (.n (n%32- 16)) (n/32))
   (pk (Nat.ble 8 (n%32)) (k (.i (n%32- 8)) (n/32))
    (pk (Nat.ble 4 (n%32))
     (pk (Nat.beq 4 (n%32)) (k (.c (n/1024%32^ (n/32%32))) (n/1024/32^ (n/32%32)))
      (pk (Nat.beq 5 (n%32)) (oE f (n/32) fun a n=>k (.cast a) n)
       (pk (Nat.beq 6 (n%32)) (oE f (n/1024) fun a m=>k (.mul (n/32%32) a) m)
        (oE f (n/1024) fun a m=>k (.lum (n/32%32) a) m))))
     (pk (Nat.beq 0 (n%32)) (oE f (n/32) fun a n=>oE f n fun b n=>k (.add a b) n)
      (pk (Nat.beq 1 (n%32)) (oE f (n/32) fun a n=>oE f n fun b n=>k (.sub a b) n)
       (pk (Nat.beq 2 (n%32)) (oE f (n/32) fun a n=>k (.neg a) n)
        (k (.c (n/32%32)) (n/1024)))))))
noncomputable def fD{α:Type}(n:Nat)(k:Nat→Lx→Lx→α):α:=oE 24 (n/16) fun a m=>oE 24 m fun b _=>k (n%16) a b
noncomputable def Bo(k:Nat)(a b:Int):Prop:=match k with
 |0=>a≤b
 |1=>a<b
 |2=>a=b
 |3=> ¬a<b
 |4=> ¬a≤b
 |_=>False
noncomputable def EY(k:Nat)(a b:Nat):Prop:=match k with
 |0=>a≤b
 |1=>a<b
 |2=>a=b
 |3=> ¬a<b
 |4=> ¬a≤b
 |_=>False
noncomputable def Cm(ρ:List Int)(ν:List Nat)(k:Nat)(a b:Lx):Prop:=pk (Nat.ble 8 k) (EY (k%8) (a.N ν) (b.N ν)) (Bo (k%8) (a.I ρ ν) (b.I ρ ν))
noncomputable def Cd(ρ:List Int)(ν:List Nat)(n:Nat):Prop:=fD n (Cm ρ ν)
structure LF where
 i:List Int
 n:List Int
 c:Int
noncomputable def Bp:List Int→List Int→List Int
 |[],b=>b
 |x::a,b=>match b with
  |[]=>x::a
  |y::b=>(x+y)::Bp a b
noncomputable def jS:Nat→List Int
 |0=>[1]
 |k+1=>0::jS k
noncomputable def LF.add(a b:LF):LF:=⟨Bp a.i b.i,Bp a.n b.n,a.c+b.c⟩
noncomputable def LF.sc(k:Int)(a:LF):LF:=⟨a.i.map (k* ·),a.n.map (k* ·),k*a.c⟩
noncomputable def le:List Int→List Int→Int
 |[],_=>0
 |a::r,x=>match x with
  |[]=>0
  |b::s=>a*b+le r s
noncomputable def LF.ev(ρ:List Int)(ν:List Nat)(a:LF):Int:=le a.i ρ+le a.n (ν.map Int.ofNat)+a.c
noncomputable def pK:Lx→LF
 | .n k=>⟨[],jS k,0⟩
 | .c k=>⟨[],[],Int.ofNat k⟩
 | .add a b=>(pK a).add (pK b)
 | .mul k a=>(pK a).sc (Int.ofNat k)
 | .lum k a=>(pK a).sc (Int.ofNat k)
 |_=>⟨[],[],0⟩
noncomputable def l7:Lx→LF
 | .i k=>⟨jS k,[],0⟩
 | .c k=>⟨[],[],Int.ofNat k⟩
 | .cast a=>pK a
 | .add a b=>(l7 a).add (l7 b)
 | .sub a b=>(l7 a).add ((l7 b).sc (-1))
 | .neg a=>(l7 a).sc (-1)
 | .mul k a=>(l7 a).sc (Int.ofNat k)
 | .lum k a=>(l7 a).sc (Int.ofNat k)
 | .n _=>⟨[],[],0⟩
section
variable(ρ:List Int)(ν:List Nat)
theorem l8: ∀a b x:List Int,le (Bp a b) x=le a x+le b x
 |[],b,x=>(Int.zero_add _).symm
 |p::a,b,x=>by
  cases b with
  |nil=>exact(Int.add_zero _).symm
  |cons q b=>
   cases x with
   |nil=>rfl
   |cons y x=>
    show(p+q)*y+le (Bp a b) x=p*y+le a x+(q*y+le b x)
    rw[l8 a b x,Int.add_mul];omega
theorem oF(k:Int): ∀a x:List Int,le (a.map (k* ·)) x=k*le a x
 |[],x=>(Int.mul_zero k).symm
 |p::a,x=>by
  cases x with
  |nil=>exact(Int.mul_zero k).symm
  |cons y x=>
   show k*p*y+le (a.map (k* ·)) x=k*(p*y+le a x)
   rw[oF k a x,Int.mul_add,Int.mul_assoc]
theorem jT: ∀ (k:Nat) (x:List Int),le (jS k) x=zD 0 x k
 |0,[]=>rfl
 |0,y::x=>by show 1*y+0=y;omega
 |k+1,[]=>rfl
 |k+1,y::x=>by show 0*y+le (jS k) x=zD 0 x k;rw[jT k x];omega
theorem eB(a b:LF):(a.add b).ev ρ ν=a.ev ρ ν+b.ev ρ ν:=by
 unfold LF.ev LF.add
 rw[l8,l8]
 show _+(a.c+b.c)=_
 omega
theorem d4(k:Int)(a:LF):(a.sc k).ev ρ ν=k*a.ev ρ ν:=by
 unfold LF.ev LF.sc
 rw[oF,oF,Int.mul_add,Int.mul_add]
theorem tf: ∀ (x:List Nat) (k:Nat),zD 0 (x.map Int.ofNat) k=Int.ofNat (zD 0 x k)
 |[],_=>rfl
 |_::_,0=>rfl
 |_::r,k+1=>tf r k
theorem oG: ∀a:Lx,(pK a).ev ρ ν=Int.ofNat (a.N ν)
 | .n k=>by show 0+le (jS k) (ν.map Int.ofNat)+0=_;rw[jT,tf,Int.zero_add,Int.add_zero];rfl
 | .c k=>by show 0+0+Int.ofNat k=_;rw[Int.zero_add,Int.zero_add];rfl
 | .add a b=>by show((pK a).add (pK b)).ev ρ ν=_;rw[eB,oG a,oG b];rfl
 | .mul k a=>by show((pK a).sc _).ev ρ ν=_;rw[d4,oG a];rfl
 | .lum k a=>by show((pK a).sc _).ev ρ ν=_;rw[d4,oG a];exact Int.mul_comm _ _
 | .i _=>rfl
 | .cast _=>rfl
 | .sub _ _=>rfl
 | .neg _=>rfl
theorem l9: ∀a:Lx,(l7 a).ev ρ ν=a.I ρ ν
 | .i k=>by show le (jS k) ρ+0+0=_;rw[jT,Int.add_zero,Int.add_zero];rfl
 | .c k=>by show 0+0+Int.ofNat k=_;rw[Int.zero_add,Int.zero_add];rfl
 | .cast a=>oG ρ ν a
 | .add a b=>by show((l7 a).add (l7 b)).ev ρ ν=_;rw[eB,l9 a,l9 b];rfl
 | .sub a b=>by show((l7 a).add ((l7 b).sc (-1))).ev ρ ν=a.I ρ ν- b.I ρ ν;rw[eB,d4,l9 a,l9 b];omega
 | .neg a=>by show((l7 a).sc (-1)).ev ρ ν= -a.I ρ ν;rw[d4,l9 a];omega
 | .mul k a=>by show((l7 a).sc _).ev ρ ν=_;rw[d4,l9 a];rfl
 | .lum k a=>by show((l7 a).sc _).ev ρ ν=_;rw[d4,l9 a];exact Int.mul_comm _ _
 | .n _=>rfl
end
noncomputable def C8(d:LF):Nat→LF
 |0=>d
 |1=>d.add ⟨[],[], -1⟩
 |2=>d
 |3=>d.sc (-1)
 |4=>(d.sc (-1)).add ⟨[],[], -1⟩
 |_=>⟨[],[], -1⟩
noncomputable def Bq(d:LF)(k:Nat):List LF:=pk (Nat.beq k 2) [d,d.sc (-1)] [C8 d k]
noncomputable def C9(k:Nat)(a b:Lx):LF:=pk (Nat.ble 8 k) ((pK b).add ((pK a).sc (-1))) ((l7 b).add ((l7 a).sc (-1)))
noncomputable def ry(k:Nat)(a b:Lx):Bool×LF:=(Nat.beq (k%8) 2,C8 (C9 k a b) (k%8))
noncomputable def zE:List Nat→Nat→LF→LF
 |[],_,R=>R
 |h::hs,m,R=>zE hs (m/32) (R.add ((fD h ry).2.sc (pk (fD h ry).1 (16- Int.ofNat (m%32)) (-Int.ofNat (m%32)))))
noncomputable def EZ(D:Nat)(R:LF):Bool:=R.i.all (fun x=>decide (x=0))&&R.n.all (fun x=>decide (0≤x))&&decide (0<R.c+Int.ofNat D)
noncomputable def wD(hs:List Nat):List LF→Nat→Bool
 |[],_=>true
 |g::gs,m=>EZ (m%32) (zE hs (m/32) (g.sc (Int.ofNat (m%32))))&&wD hs gs (m/32^ (hs.length+1))
noncomputable def gY(k:Nat)(a b:Lx):List LF:=Bq (C9 k a b) (k%8)
section
variable{ρ:List Int}{ν:List Nat}
theorem Br{x y:Nat}: ∀k,EY k x y↔Bo k (x:Int) (y:Int)
 |0=>Int.ofNat_le.symm
 |1=>Int.ofNat_lt.symm
 |2=>Int.ofNat_inj.symm
 |3=>not_congr Int.ofNat_lt.symm
 |4=>not_congr Int.ofNat_le.symm
 |_+5=> .rfl
theorem zF{d:LF}{x y:Int}(e:d.ev ρ ν=y- x): ∀k,Bo k x y→0≤(C8 d k).ev ρ ν∧(Nat.beq k 2=true→(C8 d k).ev ρ ν=0)
 |0,h=>⟨by show 0≤d.ev ρ ν;rw[e];exact Int.sub_nonneg_of_le h,fun q=>nomatch q⟩
 |1,h=>⟨by show 0≤(d.add ⟨[],[], -1⟩).ev ρ ν;rw[eB,e];have:x<y:=h;show 0≤y- x+(0+0+ -1);omega,fun q=>nomatch q⟩
 |2,h=>by
  have h:x=y:=h
  have:d.ev ρ ν=0:=by rw[e,h];exact Int.sub_self y
  exact⟨Int.le_of_eq this.symm,fun _=>this⟩
 |3,h=>⟨by show 0≤(d.sc (-1)).ev ρ ν;rw[d4,e];have:=Int.not_lt.mp h;omega,fun q=>nomatch q⟩
 |4,h=>⟨by show 0≤((d.sc (-1)).add ⟨[],[], -1⟩).ev ρ ν;rw[eB,d4,e];have:=Int.not_le.mp h;show 0≤ -1*(y- x)+(0+0+ -1);omega,fun q=>nomatch q⟩
 |_+5,h=>h.elim
theorem wL{d:LF}{x y:Int}(e:d.ev ρ ν=y- x): ∀k,(∀g∈Bq d k,0≤g.ev ρ ν)→Bo k x y
 |0,h=>by have:=h _ (.head _);change 0≤d.ev ρ ν at this;exact Int.le_of_sub_nonneg (e▸this)
 |1,h=>by have:=h _ (.head _);change 0≤(d.add ⟨[],[], -1⟩).ev ρ ν at this;rw[eB,e] at this;change 0≤y- x+(0+0+ -1) at this;show x<y;omega
 |2,h=>by
  have h1:=h _ (.head _)
  have h2:=h _ (.tail _ (.head _))
  rw[e] at h1;rw[d4,e] at h2
  show x=y;omega
 |3,h=>by have:=h _ (.head _);change 0≤(d.sc (-1)).ev ρ ν at this;rw[d4,e] at this;exact Int.not_lt.mpr (by omega)
 |4,h=>by have:=h _ (.head _);change 0≤((d.sc (-1)).add ⟨[],[], -1⟩).ev ρ ν at this;rw[eB,d4,e] at this;change 0≤ -1*(y- x)+(0+0+ -1) at this;exact Int.not_le.mpr (by omega)
 |_+5,h=>by have:=h _ (.head _);change 0≤(0:Int)+0+ -1 at this;exact absurd this (by decide)
theorem th(k:Nat)(a b:Lx):Cm ρ ν k a b↔Bo (k%8) (pk (Nat.ble 8 k) (Int.ofNat (a.N ν)) (a.I ρ ν)) (pk (Nat.ble 8 k) (Int.ofNat (b.N ν)) (b.I ρ ν)):=by
 unfold Cm
 cases Nat.ble 8 k
 ·exact .rfl
 ·exact Br _
theorem tj(k:Nat)(a b:Lx):(C9 k a b).ev ρ ν=pk (Nat.ble 8 k) (Int.ofNat (b.N ν)) (b.I ρ ν)- pk (Nat.ble 8 k) (Int.ofNat (a.N ν)) (a.I ρ ν):=by
 unfold C9
 cases Nat.ble 8 k
 ·show((l7 b).add ((l7 a).sc (-1))).ev ρ ν=b.I ρ ν- a.I ρ ν
  rw[eB,d4,l9,l9];omega
 ·show((pK b).add ((pK a).sc (-1))).ev ρ ν=Int.ofNat (b.N ν)- Int.ofNat (a.N ν)
  rw[eB,d4,oG,oG];omega
theorem jU: ∀f n:Nat,∃ (a:Lx) (m:Nat),∀ {α:Type} (k:Lx→Nat→α),oE f n k=k a m
 |0,n=>⟨_,_,fun _=>rfl⟩
 |f+1,n=>by
  unfold oE
  have one: ∀ (c:Lx→Lx) (m:Nat),∃ (a:Lx) (m':Nat),∀ {α:Type} (k:Lx→Nat→α),(oE f m fun a n=>k (c a) n)=k a m':=fun c m=>by
   obtain⟨a,m',e⟩:=jU f m
   exact⟨c a,m',fun k=>e _⟩
  have two: ∀ (c:Lx→Lx→Lx) (m:Nat),∃ (a:Lx) (m':Nat),∀ {α:Type} (k:Lx→Nat→α),(oE f m fun a n=>oE f n fun b n=>k (c a b) n)=k a m':=fun c m=>by
   obtain⟨a,m1,e⟩:=jU f m
   obtain⟨b,m2,e2⟩:=jU f m1
   exact⟨c a b,m2,fun k=>(e _).trans (e2 _)⟩
  have sel: ∀ (b:Bool) (X Y:{α:Type}→(Lx→Nat→α)→α),(∃ (a:Lx) (m:Nat),∀ {α:Type} (k:Lx→Nat→α),X k=k a m)→(∃ (a:Lx) (m:Nat),∀ {α:Type} (k:Lx→Nat→α),Y k=k a m)→ ∃ (a:Lx) (m:Nat),∀ {α:Type} (k:Lx→Nat→α),pk b (X k) (Y k)=k a m:=fun b X Y h g=>by
   cases b
   ·exact g
   ·exact h
  exact sel _ _ _ ⟨_,_,fun _=>rfl⟩ (sel _ _ _ ⟨_,_,fun _=>rfl⟩ (sel _ _ _ (sel _ _ _ ⟨_,_,fun _=>rfl⟩ (sel _ _ _ (one _ _) (sel _ _ _ (one _ _) (one _ _)))) (sel _ _ _ (two _ _) (sel _ _ _ (two _ _) (sel _ _ _ (one _ _) ⟨_,_,fun _=>rfl⟩)))))
theorem pL(n:Nat): ∃ (j:Nat) (a b:Lx),∀ {α:Type} (k:Nat→Lx→Lx→α),fD n k=k j a b:=by
 obtain⟨a,m,e⟩:=jU 24 (n/16)
 obtain⟨b,m2,e2⟩:=jU 24 m
 exact⟨n%16,a,b,fun k=>(e _).trans (e2 _)⟩
theorem zG{n:Nat}(h:Cd ρ ν n):0≤(fD n ry).2.ev ρ ν∧((fD n ry).1=true→(fD n ry).2.ev ρ ν=0):=by
 obtain⟨j,a,b,e⟩:=pL n
 unfold Cd at h
 rw[e] at h⊢
 exact zF (tj j a b) _ ((th j a b).mp h)
theorem ej{n:Nat}(h: ∀g∈fD n gY,0≤g.ev ρ ν):Cd ρ ν n:=by
 obtain⟨j,a,b,e⟩:=pL n
 unfold Cd
 rw[e] at h⊢
 exact(th j a b).mpr (wL (tj j a b) _ h)
theorem pM: ∀ (hs:List Nat) (m:Nat) (R:LF),(∀h∈hs,Cd ρ ν h)→(zE hs m R).ev ρ ν≤R.ev ρ ν
 |[],_,_,_=>Int.le_refl _
 |h::hs,m,R,H=>by
  refine Int.le_trans (pM hs (m/32) _ fun q z=>H q (.tail _ z)) ?_
  obtain⟨h1,h2⟩:=zG (H h (.head _))
  rw[eB,d4]
  cases e:(fD h ry).1 with
  |true=>rw[h2 e];show _+_*0≤_;rw[Int.mul_zero,Int.add_zero];exact Int.le_refl _
  |false=>
   show R.ev ρ ν+ -Int.ofNat (m%32)*_≤_
   have:=Int.mul_nonneg (Int.natCast_nonneg (m%32)) h1
   rw[Int.neg_mul]
   change 0≤Int.ofNat (m%32)*_ at this
   omega
theorem nk: ∀ (a x:List Int),a.all (fun x=>decide (x=0))=true→le a x=0
 |[],_,_=>rfl
 |a::r,x,h=>by
  obtain⟨h1,h2⟩:=Bool.and_eq_true_iff.mp (show(decide (a=0)&&r.all _)=true from h)
  cases x with
  |nil=>rfl
  |cons y x=>show a*y+le r x=0;rw[of_decide_eq_true h1,nk r x h2,Int.zero_mul,Int.zero_add]
theorem tl: ∀ (a:List Int) (x:List Nat),a.all (fun x=>decide (0≤x))=true→0≤le a (x.map Int.ofNat)
 |[],_,_=>Int.le_refl _
 |a::r,x,h=>by
  obtain⟨h1,h2⟩:=Bool.and_eq_true_iff.mp (show(decide (0≤a)&&r.all _)=true from h)
  cases x with
  |nil=>exact Int.le_refl _
  |cons y x=>exact Int.add_nonneg (Int.mul_nonneg (of_decide_eq_true h1) (Int.natCast_nonneg y)) (tl r x h2)
theorem zH{D:Nat}{R:LF}(h:EZ D R=true): -(D:Int)<R.ev ρ ν:=by
 obtain⟨h1,h2⟩:=Bool.and_eq_true_iff.mp h
 obtain⟨h1,h3⟩:=Bool.and_eq_true_iff.mp h1
 have a:=nk R.i ρ h1
 have b:=tl R.n ν h3
 have c:=of_decide_eq_true h2
 unfold LF.ev
 rw[a]
 change 0<R.c+(D:Int) at c
 omega
theorem dQ{hs:List Nat}(H: ∀h∈hs,Cd ρ ν h): ∀ (gs:List LF) (m:Nat),wD hs gs m=true→ ∀g∈gs,0≤g.ev ρ ν
 |[],_,_,_,hg=>absurd hg List.not_mem_nil
 |g::gs,m,h,q,hq=>by
  obtain⟨h1,h2⟩:=Bool.and_eq_true_iff.mp h
  rcases List.mem_cons.mp hq with rfl|hq
  ·have k1:=zH (ρ:=ρ) (ν:=ν) h1
   have k2:=pM (ρ:=ρ) (ν:=ν) hs (m/32) (q.sc (Int.ofNat (m%32))) H
   rw[d4] at k2
   refine Int.not_lt.mp fun k3=> ?_
   have k4:Int.ofNat (m%32)*q.ev ρ ν≤Int.ofNat (m%32)*(-1):=Int.mul_le_mul_of_nonneg_left (by omega) (Int.natCast_nonneg _)
   change Int.ofNat (m%32)*q.ev ρ ν≤((m%32:Nat):Int)*(-1) at k4
   omega
  ·exact dQ H gs _ h2 q hq
end
theorem tN{a:Int}(h:0≤a):(a.toNat:Int)=a:=Int.toNat_of_nonneg h
theorem oS{m n:Nat}(h:m≤n):((n- m:Nat):Int)=n- m:=Int.ofNat_sub h
theorem mL{a b:Nat}(h:a≤b):min a b=a:=Nat.min_eq_left h
theorem gS{α:Type}{l:List α}{i:Nat}{a:α}(h:l[i]?=some a): ∃h:i<l.length,l[i]=a:=List.getElem?_eq_some_iff.mp h
theorem mR{α:Type}{a:α}{l:List α}(k:List α)(h:a∈l):a∈k++l:=List.mem_append_right k h
theorem mW{α:Type}{a:α}{l:List α}(k:List α)(h:a∈l):a∈l++k:=List.mem_append_left k h
theorem gD{α:Type}{l:List α}{i:Nat}{a:α}:l.getD i a=l[i]?.getD a:=List.getD_eq_getElem?_getD
theorem mG{α:Type}{l:List α}{i:Nat}{a:α}(h:l[i]?=some a):a∈l:=List.mem_of_getElem? h
theorem gE{α:Type}{l:List α}{i:Nat}(h:i<l.length):l[i]?=some l[i]:=List.getElem?_eq_getElem h
theorem lM{α β:Type}{l:List α}(f:α→β):(l.map f).length=l.length:=List.length_map f
theorem lT{α:Type}{i:Nat}{l:List α}:(l.take i).length=min i l.length:=List.length_take
theorem lD{α:Type}{i:Nat}{l:List α}:(l.drop i).length=l.length- i:=List.length_drop
theorem mP{α β:Type}{f:α→β}{l k:List α}:(l++k).map f=l.map f++k.map f:=List.map_append
theorem aA{α:Type}(a b c:List α):a++b++c=a++(b++c):=List.append_assoc a b c
theorem oI{α:Type}{a b:α}(h:some a=some b):a=b:=Option.some.inj h
theorem cA{α:Sort _}{β:Sort _}{a b:α}(f:α→β)(h:a=b):f a=f b:=congrArg f h
theorem nl{ρ:List Int}{ν:List Nat}: ∀h∈([]:List Nat),Cd ρ ν h:=fun _ h=>absurd h List.not_mem_nil
theorem dh{ρ:List Int}{ν:List Nat}{n:Nat}{l:List Nat}(h:Cd ρ ν n)(H: ∀h∈l,Cd ρ ν h): ∀h∈n::l,Cd ρ ν h:=List.forall_mem_cons.mpr ⟨h,H⟩
theorem aV(ρ:List Int)(ν:List Nat)(g m:Nat)(c:wD [] (fD g gY) m=true:=by kernel_rfl):Cd ρ ν g:=ej (dQ nl _ m c)
theorem af(ρ:List Int)(ν:List Nat)(g m n1:Nat)(h1:Cd ρ ν n1)(c:wD [n1] (fD g gY) m=true:=by kernel_rfl):Cd ρ ν g:=ej (dQ (dh h1 nl) _ m c)
theorem aq(ρ:List Int)(ν:List Nat)(g m n1 n2:Nat)(h1:Cd ρ ν n1)(h2:Cd ρ ν n2)(c:wD [n1,n2] (fD g gY) m=true:=by kernel_rfl):Cd ρ ν g:=ej (dQ (dh h1 (dh h2 nl)) _ m c)
theorem a0(ρ:List Int)(ν:List Nat)(g m n1 n2 n3:Nat)(h1:Cd ρ ν n1)(h2:Cd ρ ν n2)(h3:Cd ρ ν n3)(c:wD [n1,n2,n3] (fD g gY) m=true:=by kernel_rfl):Cd ρ ν g:=ej (dQ (dh h1 (dh h2 (dh h3 nl))) _ m c)
theorem eo(ρ:List Int)(ν:List Nat)(g m n1 n2 n3 n4:Nat)(h1:Cd ρ ν n1)(h2:Cd ρ ν n2)(h3:Cd ρ ν n3)(h4:Cd ρ ν n4)(c:wD [n1,n2,n3,n4] (fD g gY) m=true:=by kernel_rfl):Cd ρ ν g:=ej (dQ (dh h1 (dh h2 (dh h3 (dh h4 nl)))) _ m c)
theorem ju(ρ:List Int)(ν:List Nat)(g m n1 n2 n3 n4 n5:Nat)(h1:Cd ρ ν n1)(h2:Cd ρ ν n2)(h3:Cd ρ ν n3)(h4:Cd ρ ν n4)(h5:Cd ρ ν n5)(c:wD [n1,n2,n3,n4,n5] (fD g gY) m=true:=by kernel_rfl):Cd ρ ν g:=ej (dQ (dh h1 (dh h2 (dh h3 (dh h4 (dh h5 nl))))) _ m c)
theorem Bj(ρ:List Int)(ν:List Nat)(g m n1 n2 n3 n4 n5 n6:Nat)(h1:Cd ρ ν n1)(h2:Cd ρ ν n2)(h3:Cd ρ ν n3)(h4:Cd ρ ν n4)(h5:Cd ρ ν n5)(h6:Cd ρ ν n6)(c:wD [n1,n2,n3,n4,n5,n6] (fD g gY) m=true:=by kernel_rfl):Cd ρ ν g:=ej (dQ (dh h1 (dh h2 (dh h3 (dh h4 (dh h5 (dh h6 nl)))))) _ m c)
theorem Fv(ρ:List Int)(ν:List Nat)(g m n1 n2 n3 n4 n5 n6 n7:Nat)(h1:Cd ρ ν n1)(h2:Cd ρ ν n2)(h3:Cd ρ ν n3)(h4:Cd ρ ν n4)(h5:Cd ρ ν n5)(h6:Cd ρ ν n6)(h7:Cd ρ ν n7)(c:wD [n1,n2,n3,n4,n5,n6,n7] (fD g gY) m=true:=by kernel_rfl):Cd ρ ν g:=ej (dQ (dh h1 (dh h2 (dh h3 (dh h4 (dh h5 (dh h6 (dh h7 nl))))))) _ m c)
set_option genCtorIdx true in
inductive MV where
 |none
 |bool (b:Bool)
 |int (i:Int)
 |str (s:Str)
 |bytes (b:List UInt8)
 |tup (l:List MV)
 |loc (n:Nat)
 |glob (v:Value)
 |rol (l:List MV)
 deriving Inhabited
set_option genCtorIdx true in
inductive MObj where
 |list (l:List MV)
 |dict (l:List (Str×MV))
 |bdict (l:List (List UInt8×MV))
 |inst (C:Addr) (d:Nat)
 deriving Inhabited
noncomputable abbrev Hp:=List MObj
noncomputable abbrev aQ:=Str→Option MV
noncomputable def upd(σ:aQ)(x:Str)(v:MV):aQ:=fun y=>if y=x then some v else σ y
noncomputable def bd{α β:Type}:Option α→(α→Option β)→Option β
 | .none,_=> .none
 | .some a,k=>k a
@[simp] theorem aM{α β:Type}(a:α)(k:α→Option β):bd (.some a) k=k a:=rfl
@[simp] theorem Da{α β:Type}(k:α→Option β):bd .none k= .none:=rfl
theorem ag{α β:Type}{o:Option α}{k:α→Option β}{b:β}(h:bd o k= .some b): ∃a,o= .some a∧k a= .some b:=by
 cases o with
 |none=>cases h
 |some a=>exact⟨a,rfl,h⟩
theorem nS{α:Type}{a:α}{P:Prop}(h:(.none:Option α)= .some a):P:=nomatch h
theorem oH{α:Type}{p:Prop}{d:Decidable p}{a b:α}(h:(if p then some a else .none)= .some b):p∧a=b:=match d with
 | .isTrue q=>⟨q,oI h⟩
 | .isFalse _=>nS h
noncomputable def cN{κ:Type} [DecidableEq κ](x:κ):List (κ×MV)→Option MV
 |[]=> .none
 |(y,v)::r=>if y=x then .some v else cN x r
noncomputable def ce{κ:Type} [DecidableEq κ](x:κ)(v:MV):List (κ×MV)→List (κ×MV)
 |[]=>[(x,v)]
 |(y,u)::r=>if y=x then(y,v)::r else(y,u)::ce x v r
noncomputable def ma:Value→Option MV
 | .none=>some .none
 | .bool b=>some (.bool b)
 | .int i _=>some (.int i)
 | .str s _=>some (.str s)
 | .bytes b _=>some (.bytes b.toList)
 |_=>Option.none
noncomputable def tm(f:Value→Option MV):List Value→Option (List MV)
 |[]=>some []
 |v::r=>bd (f v) fun x=>bd (tm f r) fun l=>some (x::l)
noncomputable def pN:Value→Option MV
 | .builtin i=>some (.glob (.builtin i))
 | .type t=>some (.glob (.type t))
 |_=>Option.none
noncomputable def yP:Value→Option Addr
 | .ref a=>some a
 |_=>Option.none
theorem tn{x:Value}{i:Addr}(h:yP x=some i):x= .ref i:=by
 cases x with
 |ref=>cases h;rfl
 |_=>exact nS h
noncomputable def Du(f:Value→Option MV)(a:Addr)(o:Obj):Option MV:=match o.data with
 | .seq items _=>if o.cls= .type "tuple" ∧o.dict=Option.none∧o.slots.isEmpty=true then bd (tm f items.toList) fun l=>some (.tup l) else Option.none
 | .func _=>some (.glob (.ref a))
 | .cls _=>some (.glob (.ref a))
 |_=>Option.none
noncomputable def Bs(K:Frag):Nat→Value→Option MV
 |0,v=>ma v
 |n+1,.ref a=>bd (K.lookup a) (Du (Bs K n) a)
 |_+1,v=>ma v
noncomputable def gl(K:Frag)(x:Str):Option MV:=bd (nsIn K mainGlobals x) fun o=>match o with
 |some v=>Bs K 3 v
 |Option.none=>if x= "__name__" then Option.none else bd (bootBuiltins x) pN
noncomputable def kZ(K:Frag)(C:Addr)(x:Str):Bool:=
 plainGet K C x&&hasDictIn K C&&findIn K (.ref C) x==some Option.none&&findIn K (.ref C) "__setattr__" ==some (some (.builtin "object.__setattr__"))&&plainOver K C&&takerIn K C x==some Option.none
noncomputable def jV(K:Frag)(C:Addr)(x:Str):Option Addr:=
 if plainGet K C x=true then bd (findIn K (.ref C) x) fun o=>bd o fun v=>bd (yP v) fun f=>if isFn K (.ref f)=true then some f else Option.none
 else Option.none
noncomputable def Db:MV→Option Bool
 | .bool b=>some b
 |_=>Option.none
noncomputable def wM:MObj→Option (List MV)
 | .list l=>some l
 |_=>Option.none
noncomputable def aH(H:Hp)(n:Nat):Option (List MV):=bd H[n]? wM
noncomputable def gZ(f:MV→Option PyData):List MV→Option (List PyData)
 |[]=>some []
 |v::r=>bd (f v) fun x=>bd (gZ f r) fun l=>some (x::l)
noncomputable def jW(H:Hp):Nat→MV→Option PyData
 |0,_=>Option.none
 |n+1,v=>match v with
  | .none=>some .none
  | .bool b=>some (.bool b)
  | .int i=>some (.int i)
  | .tup l=>bd (gZ (jW H n) l) fun l=>some (.tuple l)
  | .loc k=>bd (aH H k) fun l=>bd (gZ (jW H n) l) fun l=>some (.list l)
  |_=>Option.none
noncomputable def md:List MV→Option (List Str)
 |[]=>some []
 | .str x::r=>bd (md r) fun l=>some (x::l)
 |_=>Option.none
open Classical in
noncomputable def er(H:Hp)(a b:MV):Option Bool:=bd (jW H 8 a) fun x=>bd (jW H 8 b) fun y=>if x=y then some true else Option.none
noncomputable def aF:MV→Option Int
 | .int i=>some i
 |_=>Option.none
noncomputable def tq:MV→Option Str
 | .str i=>some i
 |_=>Option.none
noncomputable def jA:MV→Option (List UInt8)
 | .bytes i=>some i
 |_=>Option.none
noncomputable def fr:MV→Option (List MV)
 | .tup i=>some i
 |_=>Option.none
noncomputable def bR:MV→Option Nat
 | .loc i=>some i
 |_=>Option.none
theorem cb{x:MV}{i:Int}:aF x=some i→x= .int i:=
 x.casesOn nS (fun _=>nS) (fun _ h=>cA _ (oI h)) (fun _=>nS) (fun _=>nS) (fun _=>nS) (fun _=>nS) (fun _=>nS) (fun _=>nS)
theorem tw{x:MV}{i:Str}:tq x=some i→x= .str i:=
 x.casesOn nS (fun _=>nS) (fun _=>nS) (fun _ h=>cA _ (oI h)) (fun _=>nS) (fun _=>nS) (fun _=>nS) (fun _=>nS) (fun _=>nS)
theorem jX{x:MV}{i:List UInt8}:jA x=some i→x= .bytes i:=
 x.casesOn nS (fun _=>nS) (fun _=>nS) (fun _=>nS) (fun _ h=>cA _ (oI h)) (fun _=>nS) (fun _=>nS) (fun _=>nS) (fun _=>nS)
theorem d5{x:MV}{i:List MV}:fr x=some i→x= .tup i:=
 x.casesOn nS (fun _=>nS) (fun _=>nS) (fun _=>nS) (fun _=>nS) (fun _ h=>cA _ (oI h)) (fun _=>nS) (fun _=>nS) (fun _=>nS)
theorem bj{x:MV}{i:Nat}:bR x=some i→x= .loc i:=
 x.casesOn nS (fun _=>nS) (fun _=>nS) (fun _=>nS) (fun _=>nS) (fun _=>nS) (fun _ h=>cA _ (oI h)) (fun _=>nS) (fun _=>nS)
theorem me{x:MV}{b:Bool}:Db x=some b→x= .bool b:=
 x.casesOn nS (fun _ h=>cA _ (oI h)) (fun _=>nS) (fun _=>nS) (fun _=>nS) (fun _=>nS) (fun _=>nS) (fun _=>nS) (fun _=>nS)
theorem bp{H:Hp}{n:Nat}{l:List MV}(h:aH H n=some l):H[n]?=some (.list l):=by
 obtain⟨o,h1,h2⟩:=ag h
 cases o<;>cases h2
 exact h1
noncomputable def wN:MObj→Option (Addr×Nat)
 | .inst C d=>some (C,d)
 |_=>Option.none
noncomputable def jB:MObj→Option (List (Str×MV))
 | .dict l=>some l
 |_=>Option.none
noncomputable def ty:MObj→Option (List (List UInt8×MV))
 | .bdict l=>some l
 |_=>Option.none
noncomputable def instAt(H:Hp)(n:Nat):Option (Addr×Nat):=bd H[n]? wN
noncomputable def bB(H:Hp)(n:Nat):Option (List (Str×MV)):=bd H[n]? jB
noncomputable def pO(H:Hp)(n:Nat):Option (List (List UInt8×MV)):=bd H[n]? ty
theorem lf{H:Hp}{n:Nat}{p:Addr×Nat}(h:instAt H n=some p):H[n]?=some (.inst p.1 p.2):=by
 obtain⟨o,h1,h2⟩:=ag h
 cases o<;>cases h2
 exact h1
theorem eM{H:Hp}{n:Nat}{l:List (Str×MV)}(h:bB H n=some l):H[n]?=some (.dict l):=by
 obtain⟨o,h1,h2⟩:=ag h
 cases o<;>cases h2
 exact h1
theorem oJ{H:Hp}{n:Nat}{l:List (List UInt8×MV)}(h:pO H n=some l):H[n]?=some (.bdict l):=by
 obtain⟨o,h1,h2⟩:=ag h
 cases o<;>cases h2
 exact h1
noncomputable def Dv(H:Hp)(x y:MV):Option Bool:=match x with
 | .int a=>bd (aF y) fun b=>some (decide (a=b))
 | .bool a=>bd (Db y) fun b=>some (decide (a=b))
 | .bytes a=>bd (jA y) fun b=>some (decide (a=b))
 | .tup l=>bd (fr y) fun r=>if r.isEmpty=true then some l.isEmpty else er H x y
 | .loc m=>bd (bR y) fun n=>bd (aH H m) fun l=>bd (aH H n) fun r=>if r.isEmpty=true then some l.isEmpty else er H x y
 |_=>Option.none
noncomputable def E1(H:Hp)(x y:MV):Option Bool:=match x with
 | .int a=>bd (aF y) fun b=>some (decide (a≠b))
 | .tup l=>bd (fr y) fun r=>if r.isEmpty=true then some (!l.isEmpty) else Option.none
 | .loc m=>bd (bR y) fun n=>bd (aH H m) fun l=>bd (aH H n) fun r=>if r.isEmpty=true then some (!l.isEmpty) else Option.none
 |_=>Option.none
noncomputable def isNone:MV→Option Bool
 | .none=>some true
 | .loc _=>some false
 | .int _=>some false
 |_=>Option.none
noncomputable def iM:MV→Option Unit
 | .none=>some ()
 |_=>Option.none
theorem rA{x:MV}{u:Unit}(h:iM x=some u):x= .none:=by cases x<;>cases h;rfl
noncomputable def pP(x:List UInt8):MObj→Option Bool
 | .dict es=>if es.isEmpty=true then some true else Option.none
 | .bdict es=>some (cN x es).isNone
 |_=>Option.none
noncomputable def eY(H:Hp)(op:CmpOp)(x y:MV):Option Bool:=match op with
 | .Lt=>bd (aF x) fun a=>bd (aF y) fun b=>some (decide (a<b))
 | .LtE=>bd (aF x) fun a=>bd (aF y) fun b=>some (decide (a≤b))
 | .Gt=>bd (aF x) fun a=>bd (aF y) fun b=>some (decide (b<a))
 | .GtE=>bd (aF x) fun a=>bd (aF y) fun b=>some (decide (b≤a))
 | .Eq=>Dv H x y
 | .NotEq=>E1 H x y
 | .Is=>bd (iM y) fun _=>isNone x
 | .IsNot=>bd (iM y) fun _=>bd (isNone x) fun b=>some (!b)
 | .In=>bd (tq x) fun z=>bd (fr y) fun l=>bd (md l) fun ss=>some (decide (z∈ss))
 | .NotIn=>bd (jA x) fun z=>bd (bR y) fun n=>bd H[n]? (pP z)
noncomputable def bF(a:Int):Prop:= -4611686018427387904<a∧a<4611686018427387904
noncomputable abbrev aN:=List (Addr×Obj)
noncomputable abbrev cO(vs:List Value)(n:Nat):Obj:={cls:= .type "tuple",data:= .seq vs.toArray n}
noncomputable def dK:Nat:=4096
mutual
inductive VR(K:Frag)(as:List Addr)(T:aN):Value→MV→Prop
 |none:VR K as T .none .none
 |bool (b:Bool):VR K as T (.bool b) (.bool b)
 |int (i:Int) (t:Tok):VR K as T (.int i t) (.int i)
 |str (x:Str) (t:Tok):VR K as T (.str x t) (.str x)
 |bytes (b:Array UInt8) (t:Tok):VR K as T (.bytes b t) (.bytes b.toList)
 |tup {a:Addr} {vs:List Value} {ms:List MV} {n:Nat}:(a,cO vs n)∈T→vs.length≤dK→VRs K as T vs ms→VR K as T (.ref a) (.tup ms)
 |ktup {a:Addr} {vs:List Value} {ms:List MV} {n:Nat}:K.lookup a=some (cO vs n)→vs.length≤dK→VRs K as T vs ms→VR K as T (.ref a) (.tup ms)
 |loc {a:Addr} {n:Nat}:as[n]?=some a→VR K as T (.ref a) (.loc n)
 |glob (v:Value):VR K as T v (.glob v)
 |rol {a:Addr} {vs:List Value} {ms:List MV} {n:Nat}:3<a→(a,listOf vs.toArray n)∈T→vs.length≤dK→VRs K as T vs ms→VR K as T (.ref a) (.rol ms)
inductive VRs(K:Frag)(as:List Addr)(T:aN):List Value→List MV→Prop
 |nil:VRs K as T [] []
 |cons {v:Value} {x:MV} {vs:List Value} {xs:List MV}:VR K as T v x→VRs K as T vs xs→VRs K as T (v::vs) (x::xs)
end
noncomputable def Fw(K:Frag)(as:List Addr)(T:aN)(v:Value):MV→Prop
 | .none=>v= .none
 | .bool b=>v= .bool b
 | .int i=> ∃t,v= .int i t
 | .str s=> ∃t,v= .str s t
 | .bytes b=> ∃ (a:Array UInt8) (t:Tok),a.toList=b∧v= .bytes a t
 | .tup ms=> ∃ (a:Addr) (vs:List Value) (n:Nat),v= .ref a∧((a,cO vs n)∈T∨K.lookup a=some (cO vs n))∧vs.length≤dK∧VRs K as T vs ms
 | .loc n=> ∃a,v= .ref a∧as[n]?=some a
 | .glob u=>v=u
 | .rol ms=> ∃ (a:Addr) (vs:List Value) (n:Nat),v= .ref a∧3<a∧(a,listOf vs.toArray n)∈T∧vs.length≤dK∧VRs K as T vs ms
section
variable{K:Frag}{as:List Addr}{T:aN}{v:Value}{x:MV}
theorem VR.inv(h:VR K as T v x):Fw K as T v x:=by
 cases h with
 |none=>exact rfl
 |bool=>exact rfl
 |int _ t=>exact⟨t,rfl⟩
 |str _ t=>exact⟨t,rfl⟩
 |bytes b t=>exact⟨b,t,rfl,rfl⟩
 |tup h l r=>exact⟨_,_,_,rfl,.inl h,l,r⟩
 |ktup h l r=>exact⟨_,_,_,rfl,.inr h,l,r⟩
 |loc h=>exact⟨_,rfl,h⟩
 |glob=>exact rfl
 |rol i h l r=>exact⟨_,_,_,rfl,i,h,l,r⟩
theorem VR.isN(h:VR K as T v .none):v= .none:=h.inv
theorem VR.isB{b:Bool}(h:VR K as T v (.bool b)):v= .bool b:=h.inv
theorem VR.isI{i:Int}(h:VR K as T v (.int i)): ∃t,v= .int i t:=h.inv
theorem VR.isS{s:Str}(h:VR K as T v (.str s)): ∃t,v= .str s t:=h.inv
theorem VR.isY{b:List UInt8}(h:VR K as T v (.bytes b)): ∃ (a:Array UInt8) (t:Tok),a.toList=b∧v= .bytes a t:=h.inv
theorem VR.isT{ms:List MV}(h:VR K as T v (.tup ms)): ∃ (a:Addr) (vs:List Value) (n:Nat),v= .ref a∧((a,cO vs n)∈T∨K.lookup a=some (cO vs n))∧vs.length≤dK∧VRs K as T vs ms:=h.inv
theorem VR.isL{n:Nat}(h:VR K as T v (.loc n)): ∃a,v= .ref a∧as[n]?=some a:=h.inv
theorem VR.isG{u:Value}(h:VR K as T v (.glob u)):v=u:=h.inv
theorem VR.lc{a:Addr}{n:Nat}(h:VR K as T (.ref a) (.loc n)):as[n]?=some a:=by
 obtain⟨_,e,q⟩:=h.isL
 cases e
 exact q
end
theorem VRs.len{K:Frag}{as:List Addr}{T:aN}{vs:List Value}{xs:List MV}(r:VRs K as T vs xs):vs.length=xs.length:=by
 induction xs generalizing vs with
 |nil=>cases r;rfl
 |cons x xs ih=>cases r with|cons _ r=>exact cA (·+1) (ih r)
theorem VRs.get{K:Frag}{as:List Addr}{T:aN}{vs:List Value}{xs:List MV}(r:VRs K as T vs xs){i:Nat}{x:MV}(e:xs[i]?=some x): ∃v,vs[i]?=some v∧VR K as T v x:=by
 induction xs generalizing vs i with
 |nil=>cases e
 |cons y xs ih=>
  cases r with
  |cons h r=>
   cases i with
   |zero=>cases e;exact⟨_,rfl,h⟩
   |succ i=>exact ih r e
theorem VRs.append{K:Frag}{as:List Addr}{T:aN}{vs:List Value}{xs:List MV}{us:List Value}{ys:List MV}(r:VRs K as T vs xs)(g:VRs K as T us ys):VRs K as T (vs++us) (xs++ys):=by
 induction xs generalizing vs with
 |nil=>cases r;exact g
 |cons y xs ih=>cases r with|cons h r=>exact .cons h (ih r)
theorem VRs.drop{K:Frag}{as:List Addr}{T:aN}{vs:List Value}{xs:List MV}(r:VRs K as T vs xs)(k:Nat):VRs K as T (vs.drop k) (xs.drop k):=by
 induction xs generalizing vs k with
 |nil=>cases r;cases k<;>exact .nil
 |cons y xs ih=>
  cases r with
  |cons h r=>
   cases k with
   |zero=>exact .cons h r
   |succ k=>exact ih r k
theorem VRs.take{K:Frag}{as:List Addr}{T:aN}{vs:List Value}{xs:List MV}(r:VRs K as T vs xs)(k:Nat):VRs K as T (vs.take k) (xs.take k):=by
 induction xs generalizing vs k with
 |nil=>cases r;cases k<;>exact .nil
 |cons y xs ih=>
  cases r with
  |cons h r=>
   cases k with
   |zero=>exact .nil
   |succ k=>exact .cons h (ih r k)
theorem VRs.set{K:Frag}{as:List Addr}{T:aN}{v:Value}{x:MV}(hx:VR K as T v x){vs:List Value}{xs:List MV}(r:VRs K as T vs xs)(k:Nat):VRs K as T (vs.set k v) (xs.set k x):=by
 induction xs generalizing vs k with
 |nil=>cases r;cases k<;>exact .nil
 |cons y xs ih=>
  cases r with
  |cons h r=>
   cases k with
   |zero=>exact .cons hx r
   |succ k=>exact .cons h (ih r k)
structure Ext(as:List Addr)(T:aN)(as':List Addr)(T':aN):Prop where
 pre: ∀ (n:Nat) (a:Addr),as[n]?=some a→as'[n]?=some a
 sub: ∀p∈T,p∈T'
theorem Ext.refl{as:List Addr}{T:aN}:Ext as T as T:=⟨fun _ _ h=>h,fun _ h=>h⟩
theorem Ext.trans{as bs cs:List Addr}{T U V:aN}(x:Ext as T bs U)(y:Ext bs U cs V):Ext as T cs V:=⟨fun n a h=>y.pre n a (x.pre n a h),fun p h=>y.sub p (x.sub p h)⟩
theorem VR.mono{K:Frag}{as bs:List Addr}{T U:aN}(e:Ext as T bs U){v:Value}{x:MV}(h:VR K as T v x):VR K bs U v x:=
 h.rec (motive_1:=fun v x _=>VR K bs U v x) (motive_2:=fun v x _=>VRs K bs U v x) .none .bool .int .str .bytes (fun h l _ r=> .tup (e.sub _ h) l r) (fun h l _ r=> .ktup h l r) (fun h=> .loc (e.pre _ _ h)) .glob (fun i h l _ r=> .rol i (e.sub _ h) l r) .nil (fun _ _ h r=> .cons h r)
theorem VRs.mono{K:Frag}{as bs:List Addr}{T U:aN}(e:Ext as T bs U){v:List Value}{x:List MV}(h:VRs K as T v x):VRs K bs U v x:=
 h.rec (motive_1:=fun v x _=>VR K bs U v x) (motive_2:=fun v x _=>VRs K bs U v x) .none .bool .int .str .bytes (fun h l _ r=> .tup (e.sub _ h) l r) (fun h l _ r=> .ktup h l r) (fun h=> .loc (e.pre _ _ h)) .glob (fun i h l _ r=> .rol i (e.sub _ h) l r) .nil (fun _ _ h r=> .cons h r)
inductive KRs{κ:Type}(mk:κ→Value→Prop)(hs:κ→Int)(K:Frag)(as:List Addr)(T:aN):List DictEntry→List (κ×MV)→Prop
 |nil:KRs mk hs K as T [] []
 |cons {x:κ} {key v:Value} {y:MV} {es:List DictEntry} {ys:List (κ×MV)}:mk x key→VR K as T v y→KRs mk hs K as T es ys→KRs mk hs K as T (⟨hs x,key,v⟩::es) ((x,y)::ys)
noncomputable def yQ(x:Str)(key:Value):Prop:= ∃t,key= .str x t
noncomputable def yR(x:List UInt8)(key:Value):Prop:= ∃t,key= .bytes x.toArray t
noncomputable abbrev pQ(P:Params):=KRs yQ (PyData.keyHash P)
noncomputable abbrev Dw(P:Params):=KRs yR (fun x=>hashW P (.bytes x))
theorem KRs.mono{κ:Type}{mk:κ→Value→Prop}{hs:κ→Int}{K:Frag}{as bs:List Addr}{T U:aN}(e:Ext as T bs U){v:List DictEntry}{x:List (κ×MV)}(h:KRs mk hs K as T v x):KRs mk hs K bs U v x:=
 h.rec .nil (fun h r _ k=> .cons h (r.mono e) k)
theorem KRs.len{κ:Type}{mk:κ→Value→Prop}{hs:κ→Int}{K:Frag}{as:List Addr}{T:aN}{es:List DictEntry}{x:List (κ×MV)}(h:KRs mk hs K as T es x):es.length=x.length:=
 h.rec rfl (fun _ _ _ k=>cA (·+1) k)
inductive OR(P:Params)(K:Frag)(as:List Addr)(T:aN):Obj→MObj→Prop
 |list {vs:List Value} {ms:List MV} (n:Nat):VRs K as T vs ms→vs.length≤dK→OR P K as T (listOf vs.toArray n) (.list ms)
 |dict {es:List DictEntry} {kvs:List (Str×MV)} (n:Nat):pQ P K as T es kvs→es.length≤500→(kvs.map (·.1)).Nodup→OR P K as T (dictOf es n) (.dict kvs)
 |bdict {es:List DictEntry} {kvs:List (List UInt8×MV)} (n:Nat):Dw P K as T es kvs→es.length≤500→(kvs.map (·.1)).Nodup→OR P K as T (dictOf es n) (.bdict kvs)
 |inst {C dx:Addr} {d:Nat}:as[d]?=some dx→OR P K as T (instObj C dx) (.inst C d)
theorem OR.mono{P:Params}{K:Frag}{as bs:List Addr}{T U:aN}(e:Ext as T bs U){o:Obj}{x:MObj}(h:OR P K as T o x):OR P K bs U o x:=by
 cases h with
 |list n h l=>exact .list n (h.mono e) l
 |dict n h l d=>exact .dict n (h.mono e) l d
 |bdict n h l d=>exact .bdict n (h.mono e) l d
 |inst h=>exact .inst (e.pre _ _ h)
noncomputable def HR(P:Params)(K:Frag)(as:List Addr)(T:aN)(led:aN)(H:Hp):Prop:=led.length=H.length∧ ∀ (n:Nat) (p:Addr×Obj) (x:MObj),led[n]?=some p→H[n]?=some x→OR P K as T p.2 x
theorem HR.mono{P:Params}{K:Frag}{as bs:List Addr}{T U:aN}(e:Ext as T bs U){led:aN}{H:Hp}(h:HR P K as T led H):HR P K bs U led H:=⟨h.1,fun n p x a b=>(h.2 n p x a b).mono e⟩
noncomputable abbrev ai(l:aN):List Addr:=l.map (·.1)
structure SR(P:Params)(K:Frag)(p:Program)(loose:List Str)(mg mb:Str→Option Value)(h₀:Heap)(L:Addr)(h:Heap)(m:Str→Option Value)(cel led T:aN)(H:Hp):Prop where
 F:Fr h₀ L h m
 X:K.In h₀
 G:TopRead p loose mg mb h₀
 N:News h₀ L h (cel++(led++T))
 nd:(ai (cel++(led++T))).Nodup
 hi: ∀p∈led,3<p.1
 R:HR P K (ai led) T led H
structure Cx where
 prog:Program
 w:World
 K:Frag
 p:Program
 loose:List Str
 mg:Str→Option Value
 mb:Str→Option Value
structure Fx where
 h₀:Heap
 L:Addr
noncomputable abbrev St(c:Cx)(f:Fx)(m:Str→Option Value)(cel:aN)(h:Heap)(led T:aN)(H:Hp):Prop:=
 SR c.w.params c.K c.p c.loose c.mg c.mb f.h₀ f.L h m cel led T H
inductive Ok(s s':Shared):Prop
 |of (h':Heap) (t':Nat) (e:s'={s with heap:=h',toks:=t'})
theorem Ok.refl(s:Shared):Ok s s:=⟨s.heap,s.toks,rfl⟩
theorem Ok.trans{a b c:Shared}(x:Ok a b)(y:Ok b c):Ok a c:=by
 obtain⟨h,t,rfl⟩:=x
 obtain⟨h',t',rfl⟩:=y
 exact⟨h',t',rfl⟩
theorem Ok.mk(s:Shared)(h:Heap)(t:Nat):Ok s {s with heap:=h,toks:=t}:=⟨h,t,rfl⟩
inductive PV(c:Cx)(f:Fx)(m:Str→Option Value)(cel led T:aN)(s:Shared)(mv:MV)(H':Hp)(v:Value)(s':Shared):Prop
 |of (led' T':aN) (X:St c f m cel s'.heap led' T' H') (e:Ext (ai led) T (ai led') T') (r:VR c.K (ai led') T' v mv) (o:Ok s s')
inductive PVs(c:Cx)(f:Fx)(m:Str→Option Value)(cel led T:aN)(s:Shared)(mv:List MV)(H':Hp)(v:List Value)(s':Shared):Prop
 |of (led' T':aN) (X:St c f m cel s'.heap led' T' H') (e:Ext (ai led) T (ai led') T') (r:VRs c.K (ai led') T' v mv) (o:Ok s s')
inductive PU{α:Type}(c:Cx)(f:Fx)(m:Str→Option Value)(cel led T:aN)(s:Shared)(H':Hp)(u:α)(s':Shared):Prop
 |of (led' T':aN) (X:St c f m cel s'.heap led' T' H') (e:Ext (ai led) T (ai led') T') (o:Ok s s')
noncomputable abbrev no:Value→Shared→Prop:=fun _ _=>False
theorem rB{α:Type}{M:Model}{A:Around}{t:Sem α}{Q:α→Shared→Prop}{E:Value→Shared→Prop}{s:Shared}(h: ∀Q':α→Shared→Prop,(∀a s,Q a s→Q' a s)→wpAny M A t Q' E s):wpAny M A t Q E s:=h Q fun _ _ h=>h
theorem Fy{M:Model}{A:Around}{t:Code}{Q:Result→Shared→Prop}{s:Shared}(h: ∀Q':Result→Shared→Prop,(∀a s,Q a s→Q' a s)→codeAny M A t Q' s):codeAny M A t Q s:=h Q fun _ _ h=>h
section
variable{c:Cx}{f:Fx}{m:Str→Option Value}{cel led T:aN}{h h':Heap}{H:Hp}{s s₁:Shared}{mv:MV}{v:Value}{H':Hp}
theorem PV.from{led₁ T₁:aN}(o:Ok s s₁)(e:Ext (ai led) T (ai led₁) T₁){s':Shared}(x:PV c f m cel led₁ T₁ s₁ mv H' v s'):PV c f m cel led T s mv H' v s':=by
 obtain⟨l,t,a,b,d,k⟩:=x
 exact⟨l,t,a,e.trans b,d,o.trans k⟩
theorem PVs.from{mvs:List MV}{vs:List Value}{led₁ T₁:aN}(o:Ok s s₁)(e:Ext (ai led) T (ai led₁) T₁){s':Shared}(x:PVs c f m cel led₁ T₁ s₁ mvs H' vs s'):PVs c f m cel led T s mvs H' vs s':=by
 obtain⟨l,t,a,b,d,k⟩:=x
 exact⟨l,t,a,e.trans b,d,o.trans k⟩
theorem PU.from{α:Type}{u:α}{led₁ T₁:aN}(o:Ok s s₁)(e:Ext (ai led) T (ai led₁) T₁){s':Shared}(x:PU c f m cel led₁ T₁ s₁ H' u s'):PU c f m cel led T s H' u s':=by
 obtain⟨l,t,a,b,k⟩:=x
 exact⟨l,t,a,e.trans b,o.trans k⟩
theorem PV.done(x:St c f m cel s₁.heap led T H)(r:VR c.K (ai led) T v mv)(o:Ok s s₁):PV c f m cel led T s mv H v s₁:=⟨led,T,x,.refl,r,o⟩
theorem SR.keepsF(x:St c f m cel h led T H){m':Str→Option Value}(F:Fr f.h₀ f.L h' m')(N:News f.h₀ f.L h' (cel++(led++T))):St c f m' cel h' led T H:=⟨F,x.X,x.G,N,x.nd,x.hi,x.R⟩
theorem SR.keeps(x:St c f m cel h led T H)(k: ∀b o,h.get? b=some o→h'.get? b=some o):St c f m cel h' led T H:=x.keepsF (x.F.keeps k) (x.N.grown k)
theorem SR.inLed(_x:St c f m cel h led T H){n:Nat}{p:Addr×Obj}(e:led[n]?=some p):p∈cel++(led++T):=
 mR _ (mW _ (mG e))
theorem SR.at_(x:St c f m cel h led T H){n:Nat}{y:MObj}(e:H[n]?=some y): ∃a o,led[n]?=some (a,o)∧(ai led)[n]?=some a∧h.get? a=some o∧OR c.w.params c.K (ai led) T o y:=by
 have hl:n<led.length:=by rw[x.R.1];exact(gS e).1
 obtain⟨⟨a,o⟩,hp⟩: ∃p,led[n]?=some p:=⟨_,gE hl⟩
 exact⟨a,o,hp,by simp[ai,hp],(x.N _ (x.inLed hp)).1,x.R.2 n _ _ hp e⟩
theorem Dc{l:aN}{n:Nat}{a:Addr}(h:(ai l)[n]?=some a): ∃o,l[n]?=some (a,o):=by
 simp only[ai,List.getElem?_map,Option.map_eq_some_iff] at h
 obtain⟨⟨b,o⟩,h1,h2⟩:=h
 simp only at h2;subst h2
 exact⟨o,h1⟩
theorem SR.ref(x:St c f m cel h led T H){n:Nat}{y:MObj}(r:VR c.K (ai led) T v (.loc n))(e:H[n]?=some y):
  ∃a o,v= .ref a∧led[n]?=some (a,o)∧(ai led)[n]?=some a∧h.get? a=some o∧OR c.w.params c.K (ai led) T o y:=by
 obtain⟨a,o,h1,h2,h3,h4⟩:=x.at_ e
 obtain⟨b,rfl,q⟩:=r.isL
 rw[h2] at q;cases q
 exact⟨_,o,rfl,h1,h2,h3,h4⟩
theorem SR.lst(x:St c f m cel h led T H){n:Nat}{ms:List MV}(r:VR c.K (ai led) T v (.loc n))(e:H[n]?=some (.list ms)):
  ∃a vs k,v= .ref a∧led[n]?=some (a,listOf vs.toArray k)∧h.get? a=some (listOf vs.toArray k)∧VRs c.K (ai led) T vs ms∧vs.length≤dK:=by
 obtain⟨a,o,rfl,h1,h2,h3,h4⟩:=x.ref r e
 cases h4 with
 |list k g l=>exact⟨a,_,k,rfl,h1,h3,g,l⟩
theorem SR.dct(x:St c f m cel h led T H){n:Nat}{kvs:List (Str×MV)}(r:VR c.K (ai led) T v (.loc n))(e:H[n]?=some (.dict kvs)):
  ∃a es k,v= .ref a∧led[n]?=some (a,dictOf es k)∧h.get? a=some (dictOf es k)∧pQ c.w.params c.K (ai led) T es kvs∧es.length≤500∧(kvs.map (·.1)).Nodup:=by
 obtain⟨a,o,rfl,h1,h2,h3,h4⟩:=x.ref r e
 cases h4 with
 |dict k g l d=>exact⟨a,_,k,rfl,h1,h3,g,l,d⟩
theorem SR.ist(x:St c f m cel h led T H){n d:Nat}{C:Addr}(r:VR c.K (ai led) T v (.loc n))(e:H[n]?=some (.inst C d)):
  ∃a dx,v= .ref a∧led[n]?=some (a,instObj C dx)∧h.get? a=some (instObj C dx)∧(ai led)[d]?=some dx:=by
 obtain⟨a,o,rfl,h1,h2,h3,h4⟩:=x.ref r e
 cases h4 with
 |inst q=>exact⟨a,_,rfl,h1,h3,q⟩
theorem SR.tup(x:St c f m cel h led T H){ms:List MV}(r:VR c.K (ai led) T v (.tup ms)):
  ∃a vs n,v= .ref a∧h.get? a=some (cO vs n)∧VRs c.K (ai led) T vs ms∧vs.length≤dK:=by
 obtain⟨b,vs,n,rfl,q,l,g⟩:=r.isT
 exact⟨b,vs,n,rfl,q.elim (fun q=>(x.N _ (mR _ (mR _ q))).1) (fun q=>(x.X.keeps x.F.keep) _ _ q),g,l⟩
theorem SR.isTup(x:St c f m cel h led T H){ms:List MV}(r:VR c.K (ai led) T v (.tup ms)):
  ∃a vs,v= .ref a∧IsTup h a vs.toArray∧VRs c.K (ai led) T vs ms∧vs.length≤dK:=by
 obtain⟨a,vs,n,h1,h2,h3,h4⟩:=x.tup r
 exact⟨a,vs,h1,⟨_,h2,rfl,n,rfl⟩,h3,h4⟩
theorem pR{a:Addr}{o o':Obj}: ∀ {l:aN} {n:Nat} (post:aN),(ai (l++post)).Nodup→l[n]?=some (a,o)→Upd a o o' (l++post) (l.set n (a,o')++post)
 |[],n,_,_,e=>by simp at e
 |q::r,0,post,nd,e=>by
  simp at e;subst e
  refine .head fun p hp=> ?_
  simp only[ai,List.cons_append,List.map_cons,List.nodup_cons] at nd
  exact fun q=>nd.1 (q▸List.mem_map_of_mem hp)
 |q::r,n+1,post,nd,e=>by
  simp only[ai,List.cons_append,List.map_cons,List.nodup_cons] at nd
  simp at e
  refine .tail (fun h=>nd.1 ?_) (pR post nd.2 e)
  exact h▸ (List.mem_map.mpr ⟨(a,o),mW _ (mG e),rfl⟩)
theorem lg{a:Addr}{o o':Obj}{l l':aN}: ∀ (pre:aN),(ai (pre++l)).Nodup→(∃q∈l,q.1=a)→Upd a o o' l l'→Upd a o o' (pre++l) (pre++l')
 |[],_,_,u=>u
 |q::r,nd,e,u=>by
  simp only[ai,List.cons_append,List.map_cons,List.nodup_cons] at nd
  refine .tail (fun h=>nd.1 ?_) (lg r nd.2 e u)
  obtain⟨z,hz,rfl⟩:=e
  exact h▸List.mem_map_of_mem (mR _ hz)
theorem SR.updL(x:St c f m cel h led T H){n:Nat}{a:Addr}{o:Obj}(o':Obj)(e:led[n]?=some (a,o)):Upd a o o' (cel++(led++T)) (cel++(led.set n (a,o')++T)):=by
 have nd:=x.nd
 refine lg cel nd ⟨(a,o),mW _ (mG e),rfl⟩ (pR T ?_ e)
 simp only[ai,mP] at nd⊢
 exact(List.nodup_append.mp nd).2.1
theorem jC{l:aN}{n:Nat}{a:Addr}{o o':Obj}(e:l[n]?=some (a,o)):ai (l.set n (a,o'))=ai l:=by
 refine List.ext_getElem? ?_
 intro i
 simp only[ai,List.getElem?_map,List.getElem?_set]
 by_cases q:n=i
 ·subst q
  obtain⟨hl,e'⟩:=gS e
  simp[hl,e']
 ·simp[q]
theorem SR.put(x:St c f m cel h led T H){n:Nat}{a:Addr}{o o':Obj}{y':MObj}(e:led[n]?=some (a,o))(F:Fr f.h₀ f.L h' m)(N:News f.h₀ f.L h' (cel++(led.set n (a,o')++T)))
  (r:OR c.w.params c.K (ai led) T o' y'):St c f m cel h' (led.set n (a,o')) T (H.set n y'):=by
 refine⟨F,x.X,x.G,N,?_,?_,?_⟩
 ·have:=x.nd
  simp only[ai,mP] at this⊢
  rw[show List.map (·.1) (led.set n (a,o'))=List.map (·.1) led from jC e]
  exact this
 ·intro p hp
  rcases List.mem_or_eq_of_mem_set hp with hp|rfl
  ·exact x.hi p hp
  ·exact x.hi (a,o) (mG e)
 ·rw[jC e]
  refine⟨by simpa using x.R.1,fun k p y hp hy=> ?_⟩
  rw[List.getElem?_set] at hp hy
  by_cases q:n=k
  ·subst q
   have hl:n<led.length:=(gS e).1
   have hH:n<H.length:=by rw[←x.R.1];exact hl
   simp[hl] at hp;simp[hH] at hy
   subst hp hy;exact r
  ·simp[q] at hp hy
   exact x.R.2 k p y hp hy
theorem eZ(l:aN)(T:aN)(p:Addr×Obj):Ext (ai l) T (ai (l++[p])) T:=⟨fun n a h=>by
 have hl:n<(ai l).length:=(gS h).1
 simp only[ai,mP,lM] at h hl⊢
 rw[List.getElem?_append_left (by simpa using hl)];exact h,fun _ h=>h⟩
theorem lh(as:List Addr)(T:aN)(p:Addr×Obj):Ext as T as (p::T):=⟨fun _ _ h=>h,fun _ h=>List.mem_cons_of_mem _ h⟩
theorem f7{l:aN}{n:Nat}{a:Addr}{o o':Obj}(e:l[n]?=some (a,o))(T:aN):Ext (ai l) T (ai (l.set n (a,o'))) T:=by rw[jC e];exact .refl
theorem SR.size(x:St c f m cel h led T H):led.length=H.length:=x.R.1
theorem SR.lt(x:St c f m cel h led T H): ∀p∈cel++(led++T),p.1<h.objs.size:=fun p hp=>Heap.lt_size (x.N p hp).1
theorem SR.new(x:St c f m cel h led T H){a:Addr}{o:Obj}{y:MObj}(ha: ∀p∈cel++(led++T),p.1≠a)(F:Fr f.h₀ f.L h' m)(N:News f.h₀ f.L h' ((a,o)::(cel++(led++T))))
  (r:OR c.w.params c.K (ai led) T o y) (hi:3<a):St c f m cel h' (led++[(a,o)]) T (H++[y]):=by
 refine⟨F,x.X,x.G,fun p hp=>N p ?_,?_,?_,?_⟩
 ·simp only[List.mem_append,List.mem_cons,List.not_mem_nil,or_false] at hp⊢
  rcases hp with h|(h|h)|h<;>simp[h]
 ·have nd:=x.nd
  have ha':a∉ai (cel++(led++T)):=fun q=>by
   obtain⟨p,hp,e⟩:=List.mem_map.mp q
   exact ha p hp e
  simp only[ai,mP,List.map_cons,List.map_nil,aA,List.cons_append,List.nil_append] at nd ha'⊢
  rw[←aA] at nd ha'⊢
  rw[List.nodup_append] at nd⊢
  rw[List.mem_append,not_or] at ha'
  refine⟨nd.1,List.nodup_cons.mpr ⟨ha'.2,nd.2.1⟩,fun u hu w hw=> ?_⟩
  rcases List.mem_cons.mp hw with rfl|hw
  ·exact fun q=>ha'.1 (q▸hu)
  ·exact nd.2.2 u hu w hw
 ·intro p hp
  rcases List.mem_append.mp hp with hp|hp
  ·exact x.hi p hp
  ·rw[List.mem_singleton] at hp;subst hp;exact hi
 ·refine⟨by simp[x.R.1],fun k p z hp hz=> ?_⟩
  rw[List.getElem?_append] at hp hz
  have hs:=x.R.1
  by_cases q:k<led.length
  ·rw[if_pos q] at hp;rw[if_pos (hs▸q)] at hz
   exact(x.R.2 k p z hp hz).mono (eZ led T (a,o))
  ·rw[if_neg q] at hp;rw[if_neg (hs▸q)] at hz
   rw[←hs] at hz
   cases q2:k- led.length with
   |zero=>rw[q2] at hp hz;simp at hp hz;subst hp hz;exact r.mono (eZ led T (a,o))
   |succ i=>rw[q2] at hp;simp at hp
theorem SR.newT(x:St c f m cel h led T H){a:Addr}{o:Obj}(ha: ∀p∈cel++(led++T),p.1≠a)(F:Fr f.h₀ f.L h' m)(N:News f.h₀ f.L h' ((a,o)::(cel++(led++T)))):St c f m cel h' led ((a,o)::T) H:=by
 refine⟨F,x.X,x.G,fun p hp=>N p ?_,?_,x.hi,x.R.mono (lh _ _ _)⟩
 ·simp only[List.mem_append,List.mem_cons] at hp⊢
  rcases hp with h|h|h|h<;>simp[h]
 ·have nd:=x.nd
  have ha':a∉ai (cel++(led++T)):=fun q=>by
   obtain⟨p,hp,e⟩:=List.mem_map.mp q
   exact ha p hp e
  simp only[ai,mP,List.map_cons] at nd ha'⊢
  rw[←aA] at nd ha'⊢
  rw[List.nodup_append] at nd⊢
  rw[List.mem_append,not_or] at ha'
  refine⟨nd.1,List.nodup_cons.mpr ⟨ha'.2,nd.2.1⟩,fun u hu w hw=> ?_⟩
  rcases List.mem_cons.mp hw with rfl|hw
  ·exact fun q=>ha'.1 (q▸hu)
  ·exact nd.2.2 u hu w hw
theorem SR.big(x:St c f m cel h led T H):3<h.objs.size:=by
 obtain⟨o,_,_,ho,_⟩:=x.G.g.keeps x.F.keep
 exact Heap.lt_size ho
theorem SR.fresh(x:St c f m cel h led T H): ∀p∈cel++(led++T),p.1≠h.objs.size:=fun p hp=>Nat.ne_of_lt (x.lt p hp)
theorem SR.len(x:St c f m cel h led T H):(ai led).length=H.length:=by rw[ai,lM,x.R.1]
theorem hJ{l:aN}{p:Addr×Obj}{H:Hp}(e:l.length=H.length):(ai (l++[p]))[H.length]?=some p.1:=by
 simp only[ai,mP]
 rw[List.getElem?_append_right (by simp[e])];simp[e]
end
noncomputable abbrev cu:=List (Str×NameKind)
noncomputable abbrev dJ:=Addr→List MV→Hp→MV→Hp→Prop
noncomputable def Bk(i:Int)(n:Nat):Prop:=0≤i∧i<(n:Int)
noncomputable instance (i:Int) (n:Nat):Decidable (Bk i n):=inferInstanceAs (Decidable (_∧_))
noncomputable instance (a:Int):Decidable (bF a):=inferInstanceAs (Decidable (_∧_))
noncomputable def mf:MV→Bool
 | .glob _=>false
 |_=>true
noncomputable def jv(K:Frag)(H:Hp)(v:MV)(x:Str):Option MV:=
 bd (bR v) fun n=>bd (instAt H n) fun p=>bd (bB H p.2) fun es=>if kZ K p.1 x=true then bd (cN x es) fun v=>if mf v=true then some v else none else none
noncomputable def k8(K:Frag)(H:Hp)(v:MV)(x:Str)(u:MV):Option Hp:=
 bd (bR v) fun n=>bd (instAt H n) fun p=>bd (bB H p.2) fun es=>if kZ K p.1 x=true∧es.length<400 then some (H.set p.2 (.dict (ce x u es))) else none
noncomputable def idx(k:Int)(n:Nat):Option Nat:=if Bk k n then some k.toNat else if k= -1∧0<n then some (n- 1) else none
noncomputable def eC(H:Hp)(v i:MV):Option MV:=match i with
 | .int k=>(match v with
  | .loc n=>bd (aH H n) fun l=>bd (idx k l.length) fun j=>l[j]?
  | .tup l=>if Bk k l.length then l[k.toNat]? else none
  |_=>none)
 | .str x=>bd (bR v) fun n=>bd (bB H n) (cN x)
 | .bytes x=>bd (bR v) fun n=>bd (pO H n) (cN x)
 |_=>none
noncomputable def iN(H:Hp)(v i u:MV):Option Hp:=bd (bR v) fun n=>match i with
 | .int k=>bd (aH H n) fun l=>bd (idx k l.length) fun j=>some (H.set n (.list (l.set j u)))
 | .str x=>bd (bB H n) fun es=>if es.length<400 then some (H.set n (.dict (ce x u es))) else none
 | .bytes x=>bd (bB H n) fun es=>if es.isEmpty=true then some (H.set n (.bdict [(x,u)])) else none
 |_=>none
noncomputable def fb(v:Option Int)(n:Nat):Nat:=match v with
 |none=>0
 |some x=>if x<0 then n- (-x).toNat else min x.toNat n
noncomputable def fF(v:Option Int)(n:Nat):Nat:=match v with
 |none=>n
 |some y=>if y<0 then n- (-y).toNat else min y.toNat n
noncomputable def aI(l:List MV)(lo hi:Option Int):List MV:=(l.drop (fb lo l.length)).take (fF hi l.length- fb lo l.length)
noncomputable def mh(l:List MV)(a b:Int)(u:List MV):Option (List MV):=
 if 0≤a∧a≤b∧b≤(l.length:Int)∧l.length+u.length≤dK then some (l.take a.toNat++u++l.drop b.toNat) else none
noncomputable def one{α:Type}:List α→Option α
 |[]=>none
 |a::r=>if r.isEmpty=true then some a else none
noncomputable def two:List MV→Option (MV×MV)
 |[]=>none
 |a::r=>bd (one r) fun b=>some (a,b)
theorem iO{α:Type}{l:List α}{a:α}(h:one l=some a):l=[a]:=by
 cases l with
 |nil=>cases h
 |cons b r=>cases r with
  |nil=>cases h;rfl
  |cons _ _=>cases h
theorem tz{l:List MV}{p:MV×MV}(h:two l=some p):l=[p.1,p.2]:=by
 cases l with
 |nil=>cases h
 |cons b r=>
  obtain⟨x,h1,h2⟩:=ag h
  cases h2
  exact cA _ (iO h1)
noncomputable def nn(H:Hp):MV→Option (List MV)
 | .loc n=>aH H n
 | .tup l=>some l
 |_=>none
noncomputable def fc(H:Hp):MV→Option (List MV)
 | .loc n=>aH H n
 | .rol l=>some l
 |_=>none
noncomputable def Bt(H:Hp)(x y:MV):Option (MV×Hp):=match x with
 | .int a=>bd (aF y) fun b=>some (.int (a+b),H)
 | .tup a=>bd (fr y) fun b=>if a.length+b.length≤dK then some (.tup (a++b),H) else none
 | .loc m=>bd (bR y) fun n=>bd (aH H m) fun a=>bd (aH H n) fun b=>if a.length+b.length≤dK then some (.loc H.length,H++[.list (a++b)]) else none
 |_=>none
noncomputable def Bu(H:Hp)(x y:MV):Option (MV×Hp):=match x with
 | .int a=>bd (aF y) fun b=>if bF a∧bF b then some (.int (a*b),H) else none
 | .loc m=>bd (aF y) fun k=>bd (aH H m) fun l=>bd (one l) fun a=>if bF k∧k≤1000 then some (.loc H.length,H++[.list (List.replicate k.toNat a)]) else none
 |_=>none
noncomputable def cB(H:Hp)(op:Operator)(x y:MV):Option (MV×Hp):=match op with
 | .Add=>Bt H x y
 | .Mult=>Bu H x y
 | .Sub=>bd (aF x) fun a=>bd (aF y) fun b=>some (.int (a- b),H)
 | .FloorDiv=>bd (aF x) fun a=>bd (aF y) fun b=>if bF a∧0<b∧bF b then some (.int (a.fdiv b),H) else none
 | .Mod=>bd (aF x) fun a=>bd (aF y) fun b=>if 0<b then some (.int (a.fmod b),H) else none
 | .Pow=>bd (aF x) fun a=>bd (aF y) fun b=>if a=10∧b=9 then some (.int 1000000000,H) else none
 |_=>none
noncomputable def aX(a:Int)(n:Nat)(c:Int):List MV:=(List.range n).map fun(k:Nat)=> .int (a+c*k)
noncomputable def mi(xs:List MV):Option (List MV):=match xs with
 |[]=>none
 |x::xs=>bd (aF x) fun a=>match xs with
  |[]=>if bF a then some (aX 0 a.toNat 1) else none
  |y::xs=>bd (aF y) fun b=>if bF a∧bF b then(match xs with
   |[]=>some (aX a (b- a).toNat 1)
   |z::xs=>bd (aF z) fun c=>match xs with
    |[]=>if c= -1 then some (aX a (a- b).toNat (-1)) else if c=8∧b≤a then some [] else none
    |_::_=>none) else none
noncomputable def ja(H:Hp)(g:Value)(vs:List MV):Option (MV×Hp):=
 if g= .builtin "min" then bd (two vs) fun p=>bd (aF p.1) fun a=>bd (aF p.2) fun b=>some (.int (min a b),H)
 else if g= .builtin "max" then bd (two vs) fun p=>bd (aF p.1) fun a=>bd (aF p.2) fun b=>some (.int (max a b),H)
 else if g= .builtin "len" then bd (one vs) fun v=>bd (nn H v) fun l=>some (.int l.length,H)
 else if g= .type "list" then bd (one vs) fun v=>bd (nn H v) fun l=>some (.loc H.length,H++[.list l])
 else if g= .type "tuple" then bd (one vs) fun v=>bd (bR v) fun n=>bd (aH H n) fun l=>some (.tup l,H)
 else if g= .type "int" then bd (one vs) fun v=>bd (aF v) fun i=>some (.int i,H)
 else none
noncomputable def np(n:Nat)(x:Str)(vs:List MV)(H:Hp):Option (MV×Hp):=
 if x= "get" then bd (two vs) fun p=>bd (bB H n) fun es=>match p.1 with
   | .str k=>some ((cN k es).getD p.2,H)
   | .int _=>if es.isEmpty=true then some (p.2,H) else none
   |_=>none
 else bd (one vs) fun v=>bd (bR v) fun m=>bd (bB H n) fun es=>bd (bB H m) fun us=>if m≠n∧es.length+us.length<400 then some (.none,H.set n (.dict (us.foldl (fun es p=>ce p.1 p.2 es) es))) else none
noncomputable def dD(K:Frag)(H0:Hp)(v:MV)(x:Str):Option (Option Addr):=bd (bR v) fun n=>bd H0[n]? fun o=>match o with
 | .inst C d=>bd (bB H0 d) fun es=>if(cN x es).isNone=true then bd (jV K C x) fun f=>some (some f) else none
 | .dict _=>if x= "get" ∨x= "update" then some none else none
 |_=>none
noncomputable def yS(O:dJ)(H:Hp)(fv:MV)(vs:List MV)(mv:MV)(H':Hp):Prop:=match fv with
 | .glob (.ref a)=>O a vs H mv H'
 | .glob v=>ja H v vs=some (mv,H')
 |_=>False
noncomputable def yT(O:dJ)(ov:MV)(x:Str)(g:Option Addr)(vs:List MV)(H:Hp)(mv:MV)(H':Hp):Prop:=match g with
 |some f=>O f (ov::vs) H mv H'
 |none=> ∃n,ov= .loc n∧np n x vs H=some (mv,H')
noncomputable def tA:Const→Option MV
 | .none=>some .none
 | .bool b=>some (.bool b)
 | .int i=>some (.int i)
 | .str s=>some (.str s)
 | .bytes b=>some (.bytes b)
 |_=>none
noncomputable def tC(K:Frag)(sc:cu)(σ:aQ)(x:Str):Option MV:=if x= "__debug__" ∨x= "__classdict__" ∨x= "__name__" then none else if sc.lookup x=some .globalImplicit then gl K x else σ x
noncomputable def jb:Expr→Option (Str×Pos)
 | .Name x p=>some (x,p)
 |_=>none
noncomputable def nq:Expr→Option (Expr×List Expr×List Keyword)
 | .Call f a k _=>some (f,a,k)
 |_=>none
noncomputable def oK:Expr→Option Const
 | .Constant k _ _=>some k
 |_=>none
noncomputable def Bv:Const→Option Str
 | .str s=>some s
 |_=>none
noncomputable def jD:Expr→Option (List Expr)
 | .Tuple ts _ _=>some ts
 |_=>none
noncomputable def wO:Expr→Option (Option Expr×Option Expr×Option Expr)
 | .Slice a b c _=>some (a,b,c)
 |_=>none
inductive Vw:Expr→Prop
 |sl (a b c p):Vw (.Slice a b c p)
 |nm (x p):Vw (.Name x p)
 |ca (f a k p):Vw (.Call f a k p)
 |co (k n p):Vw (.Constant k n p)
 |tu (t k p):Vw (.Tuple t k p)
 |ot {e} (h1:jb e=none) (h2:nq e=none) (h3:oK e=none) (h4:jD e=none) (h5:wO e=none):Vw e
theorem vw(e:Expr):Vw e:=by
 cases e<;>first|exact .ot rfl rfl rfl rfl rfl|exact .sl _ _ _ _|exact .nm _ _|exact .ca _ _ _ _|exact .co _ _ _|exact .tu _ _ _
theorem jY{e:Expr}{q:Str×Pos}(h:jb e=some q):e= .Name q.1 q.2:=by
 cases vw e with
 |nm=>cases h;rfl
 |ot h1=>exact nS (h1.symm.trans h)
 |_=>exact nS h
theorem tD{e:Expr}{q:Expr×List Expr×List Keyword}(h:nq e=some q): ∃p,e= .Call q.1 q.2.1 q.2.2 p:=by
 cases vw e with
 |ca=>cases h;exact⟨_,rfl⟩
 |ot _ h1=>exact nS (h1.symm.trans h)
 |_=>exact nS h
theorem rC{e:Expr}{k:Const}(h:oK e=some k): ∃n p,e= .Constant k n p:=by
 cases vw e with
 |co=>cases h;exact⟨_,_,rfl⟩
 |ot _ _ h1=>exact nS (h1.symm.trans h)
 |_=>exact nS h
theorem jZ{e:Expr}{ts:List Expr}(h:jD e=some ts): ∃k p,e= .Tuple ts k p:=by
 cases vw e with
 |tu=>cases h;exact⟨_,_,rfl⟩
 |ot _ _ _ h1=>exact nS (h1.symm.trans h)
 |_=>exact nS h
theorem pS{e:Expr}{q:Option Expr×Option Expr×Option Expr}(h:wO e=some q): ∃p,e= .Slice q.1 q.2.1 q.2.2 p:=by
 cases vw e with
 |sl=>cases h;exact⟨_,rfl⟩
 |ot _ _ _ _ h1=>exact nS (h1.symm.trans h)
 |_=>exact nS h
theorem wP{k:Const}{x:Str}(h:Bv k=some x):k= .str x:=by
 cases k with
 |str=>cases h;rfl
 |_=>exact nS h
noncomputable def iP(e:Expr):Bool:=((bd (nq e) fun c=>bd (jb c.1) fun _=>some (!c.2.1.isEmpty||!c.2.2.isEmpty))).getD true
noncomputable def ka(H:Hp):MV→Option (List MV×List (Nat×List MV))
 | .loc n=>bd (aH H n) fun l=>some (l,[(n,l)])
 | .tup l=>some (l,[])
 |_=>none
noncomputable def bm(l:List MV):List MV:=l.zipIdx.map fun p=> .tup [.int p.2,p.1]
noncomputable def dN(l r:List MV):List MV:=(l.zip r).map fun p=> .tup [p.1,p.2]
noncomputable def cI(e:Expr):Bool:=(bd (nq e) fun c=>bd (jb c.1) fun q=>some (c.2.2.isEmpty&& (q.1== "enumerate" ||q.1== "zip"))).getD false
noncomputable def hK(sc:cu)(σ:aQ)(x:Str)(v:MV):aQ:=fun y=>if y=x then some v else if sc.lookup y=some .free then σ y else none
noncomputable def bg(gs:List (Nat×List MV))(H:Hp):Prop:= ∀g∈gs,H[g.1]?=some (.list g.2)
noncomputable def jf(elt:MV→Hp→MV→Hp→Prop)(gs:List (Nat×List MV))(acc:Nat):List MV→List MV→Hp→Hp→Prop
 |[],_,H,H'=>H'=H
 |v::r,vs,H,H'=> ∃u H1,elt v H u H1∧(bg gs H1∧H1[acc]?=some (.list vs)∧vs.length<4000)∧jf elt gs acc r (vs++[u]) (H1.set acc (.list (vs++[u]))) H'
set_option genCtorIdx true in
inductive Fl where
 |next|brk|cont
 |ret (v:MV)
noncomputable def rD(turn:MV→aQ→Hp→Fl→aQ→Hp→Prop)(gs:List (Nat×List MV)):List MV→aQ→Hp→Fl→aQ→Hp→Prop
 |[],σ,H,fl,σ',H'=>fl= .next∧σ'=σ∧H'=H
 |v::r,σ,H,fl,σ',H'=> ∃fl1 σ1 H1,turn v σ H fl1 σ1 H1∧match fl1 with
  | .next=>bg gs H1∧rD turn gs r σ1 H1 fl σ' H'
  | .cont=>bg gs H1∧rD turn gs r σ1 H1 fl σ' H'
  | .brk=>fl= .next∧σ'=σ1∧H'=H1
  | .ret v=>fl= .ret v∧σ'=σ1∧H'=H1
noncomputable def kc(test:aQ→Hp→Bool→Hp→Prop)(body:aQ→Hp→Fl→aQ→Hp→Prop):Nat→aQ→Hp→Fl→aQ→Hp→Prop
 |0,_,_,_,_,_=>False
 |k+1,σ,H,fl,σ',H'=> ∃b H1,test σ H b H1∧match b with
  |false=>fl= .next∧σ'=σ∧H'=H1
  |true=> ∃fl1 σ1 H2,body σ H1 fl1 σ1 H2∧match fl1 with
   | .next=>kc test body k σ1 H2 fl σ' H'
   | .cont=>kc test body k σ1 H2 fl σ' H'
   | .brk=>fl= .next∧σ'=σ1∧H'=H2
   | .ret v=>fl= .ret v∧σ'=σ1∧H'=H2
noncomputable def cP:Expr→Bool
 | .Tuple ..=>true
 |_=>false
set_option backward.match.sparseCases true in
noncomputable def tE:Expr→Bool
 | .Starred ..=>true
 |_=>false
noncomputable def zI(sc:cu)(ln:Nat)(t:Expr):Bool:=(bd (jb t) fun q=>some (sc.lookup q.1==some .local&&q.2.line==ln)).getD false
theorem pT{sc:cu}{ln:Nat}{t:Expr}(h:zI sc ln t=true): ∃n p,t= .Name n p∧sc.lookup n=some .local∧p.line=ln:=by
 unfold zI at h
 cases q:jb t with
 |none=>rw[q] at h;cases h
 |some z=>
  rw[q] at h
  obtain⟨h1,h2⟩:=Bool.and_eq_true_iff.mp h
  exact⟨_,_,jY q,eq_of_beq h1,eq_of_beq h2⟩
noncomputable def bE:Expr→Option Str
 | .Name x _=>some x
 |_=>none
noncomputable def ke(sc:cu)(ts vs:List Expr):Bool:=
 (ts.length==2||ts.length==3)&&vs.length==ts.length&&!vs.any tE&&!vs.all (foldedForSure 8)&&!vs.all (constantsAlone 8)&&
 ts.all (zI sc ((ts.head?.map (·.pos.line)).getD 0))&& ((ts.filterMap bE).eraseDups.length==ts.length)
noncomputable def jE(sc:cu):Expr→Bool
 | .Name x _=>sc.lookup x==some .cell
 |_=>true
noncomputable def dS:Expr→Bool
 | .ListComp ..=>true
 | .SetComp ..=>true
 | .DictComp ..=>true
 |_=>false
noncomputable def yU(k:Option Expr):Option Str:=bd k fun e=>bd (oK e) Bv
theorem tF{k:Option Expr}{x:Str}(h:yU k=some x): ∃n p,k=some (.Constant (.str x) n p):=by
 obtain⟨e,h0,h⟩:=ag h
 obtain⟨c,h1,h⟩:=ag h
 obtain⟨n,p,h1⟩:=rC h1
 cases wP h
 exact⟨n,p,h0.trans (cA _ h1)⟩
noncomputable def mj(sc:cu)(scope:Scope)(x:Str)(iter:Expr):Bool:=
 scope.kind== .function&&scope.names.all (fun y=>y.2 != .cell)&&scope.names.all (fun y=>y.2 != .local||scope.names.lookup y.1==some .local)&&scope.names.lookup x==some .local&&
 scope.names.all (fun y=>y.2 != .free||sc.lookup y.1==some .cell)&&!cI iter
noncomputable def ml(σ:aQ)(l:cu):Bool:=l.all fun y=>y.2 != .free||(σ y.1).isSome
theorem oM{σ:aQ}{l:cu}(h:ml σ l=true)(z)(hz:z∈l)(e:z.2= .free):(σ z.1).isSome=true:=by
 have:=List.all_eq_true.mp h z hz
 rw[e] at this
 exact this
noncomputable def yV(l:List Comprehension):Option (Str×Expr):=bd (one l) fun c=>bd (jb c.target) fun q=>if c.ifs=[]∧c.is_async=0 then some (q.1,c.iter) else none
theorem wQ{c:Comprehension}{a:Expr}(h1:c.target=a)(h2:c.ifs=[])(h3:c.is_async=0):c=⟨a,c.iter,[],0⟩:=by
 cases c;cases h1;cases h2;cases h3;rfl
theorem tG{gens:List Comprehension}{p:Str×Expr}(h:yV gens=some p): ∃px,gens=[⟨.Name p.1 px,p.2,[],0⟩]:=by
 obtain⟨c,h1,h⟩:=ag h
 obtain⟨q,h2,h⟩:=ag h
 obtain⟨z,rfl⟩:=oH h
 exact⟨_,(iO h1).trans (cA (fun x=>[x]) (wQ (jY h2) z.1 z.2))⟩
noncomputable def tH(e:Expr):Option (Str×Pos×List Expr):=bd (nq e) fun c=>bd (jb c.1) fun q=>if c.2.2=[]∧(q.1= "range" ∨q.1= "enumerate" ∨q.1= "zip") then some (q.1,q.2,c.2.1) else none
theorem rE{e:Expr}{q:Str×Pos×List Expr}(h:tH e=some q): ∃p,e= .Call (.Name q.1 q.2.1) q.2.2 [] p∧(q.1= "range" ∨q.1= "enumerate" ∨q.1= "zip"):=by
 obtain⟨c,h1,h⟩:=ag h
 obtain⟨x,h2,h⟩:=ag h
 obtain⟨z,rfl⟩:=oH h
 obtain⟨p,h1⟩:=tD h1
 exact⟨p,h1.trans (by rw[jY h2,z.1]),z.2⟩
noncomputable def zJ:MV→Option Value
 | .glob v=>some v
 |_=>none
noncomputable def Bw:Value→Option String
 | .type n=>some n
 |_=>none
noncomputable def pU(x:MV):Option String:=bd (zJ x) Bw
theorem oN{x:MV}{n:String}(h:pU x=some n):x= .glob (.type n):=by
 obtain⟨v,h1,h⟩:=ag h
 cases x with
 |glob y=>
  cases h1
  cases v with
  |type=>cases h;rfl
  |_=>exact nS h
 |_=>exact nS h1
noncomputable def dO(H:Hp)(f:Str)(n:String)(vs:List MV):Option (List MV×List (Nat×List MV)):=
 if n= "range" then bd (mi vs) fun l=>some (l,[])
 else if f= "range" then none
 else if n= "enumerate" then bd (one vs) fun v=>bd (bR v) fun m=>bd (aH H m) fun l=>some (bm l,[(m,l)])
 else if n= "zip" then bd (two vs) fun p=>bd (bR p.1) fun m=>bd (bR p.2) fun k=>bd (aH H m) fun l=>bd (aH H k) fun r=>if l.length=r.length then some (dN l r,[(m,l),(k,r)]) else none
 else none
noncomputable def tI(a b d:Option Expr):Option (Expr×Expr):=bd a fun lo=>bd b fun hi=>if d=none then some (lo,hi) else none
theorem rF{a b d:Option Expr}{p:Expr×Expr}(h:tI a b d=some p):a=some p.1∧b=some p.2∧d=none:=by
 obtain⟨x,h1,h⟩:=ag h
 obtain⟨y,h2,h⟩:=ag h
 obtain⟨z,rfl⟩:=oH h
 exact⟨h1,h2,z⟩
noncomputable def wR:MV→Bool
 | .none=>true
 | .bool _=>true
 |_=>false
noncomputable def tJ(sc:cu)(t e:Expr):Bool:=if(cP t&&cP e)=true then(bd (jD t) fun ts=>bd (jD e) fun vs=>some (ke sc ts vs||ts.any (jE sc))).getD false else true
theorem li{o:Option Bool}(h:o.getD false=true):o=some true:=by
 cases o with
 |none=>cases h
 |some b=>exact cA _ h
noncomputable def Bl:List (Str×MV)→aQ
 |[]=>fun _=>none
 |(x,v)::r=>upd (Bl r) x v
noncomputable def zK(K:Frag)(fd:FuncData):Option (List MV):=if fd.defaults= .none then some [] else bd (Bs K 3 fd.defaults) fr
noncomputable def eD(K:Frag)(fd:FuncData)(args:List MV):Option aQ:=
 let ns:=fd.params.args.map (·.arg)
 if fd.params.posonlyargs.isEmpty&&fd.params.vararg.isNone&&fd.params.kwonlyargs.isEmpty&&fd.params.kwarg.isNone&&decide ns.Nodup&&decide (args.length≤ns.length) then
  bd (zK K fd) fun ds=>if ds.length≤ns.length∧ns.length- ds.length≤args.length then some (Bl (ns.zip (args++ds.drop (args.length- (ns.length- ds.length))))) else none
 else none
noncomputable def hU(K:Frag)(fd:FuncData):Bool:=
 fd.closure.isEmpty&&fd.globals==mainGlobals&&fd.builtins==builtinsNs&&!fd.scope.isGenerator&&!fd.scope.isCoroutine&&fd.scope.kind== .function&&codeIn K fd.code fd.qualname&&
 (fd.params.args.map (·.arg)).all (fun x=>fd.scope.names.lookup x==some .local||fd.scope.names.lookup x==some .cell)&&decide ((cellsFrom 0 fd.scope.names []).map (·.1)).Nodup
noncomputable def d6:Fl→MV
 | .ret v=>v
 |_=> .none
noncomputable def eN:Nat:=60
structure EO(env:Env)(L:Addr)(sc:cu):Prop where
 kind:env.scope.kind= .function
 names: ∀x k,k≠ .free→sc.lookup x=some k→env.kindOf x=some k
 glo:env.globals=mainGlobals
 bui:env.builtins=builtinsNs
 loc:env.locals=L
theorem EO.kindOf{env:Env}{L:Addr}{sc:cu}(x:EO env L sc)(n:Str){k:NameKind}(hk:k≠ .free)(h:sc.lookup n=some k):env.kindOf n=some k:=x.names n k hk h
theorem EO.block{env:Env}{L:Addr}{sc:cu}(x:EO env L sc):env.blockKind= .function:=by unfold Env.blockKind;rw[x.kind];rfl
theorem EO.plain{env:Env}{L:Addr}{sc:cu}(x:EO env L sc):(env.scope.kind== .class||(env.scope.kind== .module&&env.locals !=env.globals))=false:=by rw[x.kind];rfl
theorem EO.still{env:Env}{L:Addr}{sc:cu}(x:EO env L sc):interactive env=false:=by unfold interactive;rw[x.kind];rfl
structure AO(A:Around)(d:Nat):Prop where
 hd:A.handled=none
 dep:A.depth+2*d+2≤1000
 un:A.units+10*d+40≤9900
noncomputable def LR(K:Frag)(as:List Addr)(T:aN)(kd:Str→Option NameKind)(cl:List (Str×Addr))(m:Str→Option Value)(cel:aN)(σ:aQ):Prop:=
 ∀x v,σ x=some v→(kd x=some .local∧ ∃u,m x=some u∧VR K as T u v)∨
  ((kd x=some .cell∨kd x=some .free)∧ ∃c u o,cl.lookup x=some c∧(c,o)∈cel∧o.data= .cell (some u)∧VR K as T u v)
theorem LR.mono{K:Frag}{as bs:List Addr}{T U:aN}{kd:Str→Option NameKind}{cl:List (Str×Addr)}{m:Str→Option Value}{cel:aN}{σ:aQ}(e:Ext as T bs U)(x:LR K as T kd cl m cel σ):LR K bs U kd cl m cel σ:=fun y v h=>by
 rcases x y v h with ⟨a,u,b,r⟩|⟨a,c,u,sl,b,d,dd,r⟩
 ·exact .inl ⟨a,u,b,r.mono e⟩
 ·exact .inr ⟨a,c,u,sl,b,d,dd,r.mono e⟩
theorem LR.cel{K:Frag}{as:List Addr}{T:aN}{kd:Str→Option NameKind}{cl:List (Str×Addr)}{m:Str→Option Value}{cel cel':aN}{σ:aQ}(h: ∀p∈cel,p∈cel')(x:LR K as T kd cl m cel σ):LR K as T kd cl m cel' σ:=fun y v e=>by
 rcases x y v e with q|⟨a,c,u,sl,b,d,dd,r⟩
 ·exact .inl q
 ·exact .inr ⟨a,c,u,sl,b,h _ d,dd,r⟩
section
variable{c:Cx}{f:Fx}{m:Str→Option Value}{cel led T:aN}{H H':Hp}{s:Shared}{A:Around}{d:Nat}{env:Env}{sc:cu}{σ:aQ}{mv:MV}{pos:Pos}
theorem nr{K:Frag}{as:List Addr}{T:aN}{v:Value}{x:MV}(h:ma v=some x):VR K as T v x:=by
 cases v with
 |none=>cases h;exact .none
 |bool=>cases h;exact .bool _
 |int=>cases h;exact .int _ _
 |str=>cases h;exact .str _ _
 |bytes=>cases h;exact .bytes _ _
 |_=>exact nS h
noncomputable def cX(K:Frag):Prop:= ∀a items k,K.lookup a=some ⟨.type "tuple",none,.seq items k,#[]⟩→items.size≤dK
theorem tK{α:Type}{p:Prop}{d:Decidable p}{a:Option α}{b:α}(h:(if p then a else none)=some b):p∧a=some b:=match d with
 | .isTrue q=>⟨q,h⟩
 | .isFalse _=>nS h
theorem wS{α:Type}{p:Prop}{d:Decidable p}{a b:Option α}{r:α}(h:(if p then a else b)=some r):(p∧a=some r)∨b=some r:=match d with
 | .isTrue q=> .inl ⟨q,h⟩
 | .isFalse _=> .inr h
theorem oO{K:Frag}(hs:cX K){as:List Addr}{T:aN}: ∀ (n:Nat) {v:Value} {x:MV},Bs K n v=some x→VR K as T v x
 |0,v,x,h=>nr h
 |n+1,v,x,h=>by
  have all: ∀ (vs:List Value) (xs:List MV),tm (Bs K n) vs=some xs→VRs K as T vs xs:=by
   intro vs
   induction vs with
   |nil=>intro xs h;cases h;exact .nil
   |cons v r ih=>
    intro xs h
    obtain⟨y,h1,h2⟩:=ag h
    obtain⟨ys,h3,h4⟩:=ag h2
    cases h4
    exact .cons (oO hs n h1) (ih ys h3)
  cases v with
  |ref a=>
   obtain⟨⟨oc,od,ot,os⟩,e,h0⟩:=ag h
   cases ot with
   |seq items k=>
    obtain⟨⟨q1,q2,q3⟩,h0⟩:=tK h0
    obtain⟨l,h1,h2⟩:=ag h0
    cases h2
    cases q1
    cases q2
    cases Array.isEmpty_iff.mp q3
    exact .ktup (n:=k) e (by simpa using hs _ _ _ e) (all _ _ h1)
   |func=>cases h0;exact .glob _
   |cls=>cases h0;exact .glob _
   |_=>exact nS h0
  |_=>exact nr h
theorem oP{v:Value}{x:MV}(h:pN v=some x):x= .glob v:=by
 cases v with
 |builtin=>cases h;rfl
 |type=>cases h;rfl
 |_=>exact nS h
theorem zM(hs:cX c.K)(E:EO env f.L sc)(X:St c f m cel s.heap led T H)(Y:LR c.K (ai led) T env.kindOf env.cells m cel σ){x:Str}(h:tC c.K sc σ x=some mv):
  wpAny (model c.prog c.w) A (eval (.Name x pos) env) (PV c f m cel led T s mv H) no s:=by
 unfold tC at h
 by_cases hx:x= "__debug__" ∨x= "__classdict__" ∨x= "__name__"
 ·exact nS ((if_pos hx).symm.trans h)
 ·rw[if_neg hx] at h
  obtain⟨hx1,hx'⟩:=not_or.mp hx
  obtain⟨hx2,hx3⟩:=not_or.mp hx'
  have hd:(x==("__debug__" :Str))=false:=beq_eq_false_iff_ne.mpr hx1
  have hc:(x==("__classdict__" :Str))=false:=beq_eq_false_iff_ne.mpr hx2
  rcases wS h with ⟨q,h⟩|e
  ·obtain⟨o,e,h⟩:=ag h
   cases o with
   |some v=>exact Name_function_global E.kind (E.kindOf x (by decide) q) (loadGlobal_global (env:=env) (by rw[E.glo];exact X.G.g.keeps X.F.keep) (mg_of X.X X.G.g e) (PV.done X (oO hs 3 h) (.refl s))) hd
   |none=>
    obtain⟨v,e1,h⟩:=ag (if_neg hx3▸h)
    cases oP h
    exact Name_function_global E.kind (E.kindOf x (by decide) q) (loadGlobal_builtin (env:=env) (by rw[E.glo];exact X.G.g.keeps X.F.keep) (mg_none_of X.X X.G.g e) (by rw[E.bui];exact X.G.b.keeps X.F.keep) ((X.G.builtins x hx3).trans e1) (PV.done X (.glob _) (.refl s))) hd
  ·rcases Y _ _ e with ⟨a,u,b,r⟩|⟨a,cc,u,sl,b,dd,de,r⟩
   ·exact wpAny_Name (wpAny_loadName_local E.kind a (E.loc▸X.F.ns) b (PV.done X r (.refl s))) hd
   ·have hm:=(X.N _ (mW _ dd)).1
    rcases a with a|a
    ·exact wpAny_Name (wpAny_loadName_cell E.kind a b ⟨_,hm,de⟩ (PV.done X r (.refl s))) hd
    ·exact wpAny_Name (wpAny_loadName_free E.kind a b ⟨_,hm,de⟩ (PV.done X r (.refl s)) hc) hd
theorem Bm(X:St c f m cel s.heap led T H)(k:Nat):St c f m cel ({s with toks:=k}:Shared).heap led T H:=X
theorem pV(X:St c f m cel s.heap led T H){k:Const}{n:Nat}(h:tA k=some mv):
  wpAny (model c.prog c.w) A (eval (.Constant k n pos) env) (PV c f m cel led T s mv H) no s:=by
 cases k with
 |none=>cases h;exact Constant_none (PV.done X .none (.refl s))
 |bool=>cases h;exact Constant_bool (PV.done X (.bool _) (.refl s))
 |int=>cases h;exact wpAny_Constant_int (PV.done (s₁:={s with toks:=s.toks+1}) X (.int _ _) ⟨s.heap,s.toks+1,rfl⟩)
 |str=>cases h;exact wpAny_Constant_str (PV.done (s₁:={s with toks:=s.toks+1}) X (.str _ _) ⟨s.heap,s.toks+1,rfl⟩)
 |bytes b=>
  cases h
  rw[arm_eval_Constant]
  refine wpAny_mkTextBytes ?_
  have:=VR.bytes (K:=c.K) (as:=ai led) (T:=T) b.toArray s.toks
  rw[List.toList_toArray] at this
  exact PV.done (s₁:={s with toks:=s.toks+1}) X this ⟨s.heap,s.toks+1,rfl⟩
 |_=>exact nS h
end
section
variable{α β:Type}{r:β}{a b:Option β}{K:Frag}{as:List Addr}{T:aN}
theorem fG{o:Option α}{k:α→Option β}{P:Prop}(h:bd o k=some r)(f: ∀x,o=some x→k x=some r→P):P:=by
 obtain⟨x,h1,h2⟩:=ag h
 exact f x h1 h2
theorem tL{p:Prop} [Decidable p]{P:Prop}(h:(if p then a else b)=some r)(f:p→a=some r→P)(g:b=some r→P):P:=by
 by_cases q:p
 ·rw[if_pos q] at h;exact f q h
 ·rw[if_neg q] at h;exact g h
theorem fI{p:Prop} [Decidable p]{P:Prop}(h:(if p then a else none)=some r)(f:p→a=some r→P):P:=tL h f (fun e=>nomatch e)
@[elab_as_elim] theorem rG{v:Value}{P:Value→Prop}(g:Value)(h:(if g=v then a else b)=some r)(f:a=some r→P v)(n:b=some r→P g):P g:=tL h (fun q e=>by subst q;exact f e) n
@[elab_as_elim] theorem dm{P:β→Prop}{x:β}(r:β)(h:some x=some r)(f:P x):P r:=oI h▸f
@[elab_as_elim] theorem la{y:MV}(v:Value){k:Int→Option β}{P:Value→Prop}(h:bd (aF y) k=some r)(q:VR K as T v y)(f: ∀i t,k i=some r→P (.int i t)):P v:=by
 obtain⟨x,h1,h2⟩:=ag h
 cases cb h1
 obtain⟨t,rfl⟩:=q.isI
 exact f _ _ h2
@[elab_as_elim] theorem gF{x y:MV}(u v:Value){k:Int→Int→Option β}{P:Value→Value→Prop}(h:(bd (aF x) fun a=>bd (aF y) fun b=>k a b)=some r)(p:VR K as T u x)(q:VR K as T v y)(f: ∀i s j t,k i j=some r→P (.int i s) (.int j t)):P u v:=
 la (P:=fun u=>P u v) u h p fun i s h=>la (P:=fun v=>P (.int i s) v) v h q fun j t h=>f i s j t h
@[elab_as_elim] theorem nt(v:Value){i:Int}(q:VR K as T v (.int i)){P:Value→Prop}(f: ∀t,P (.int i t)):P v:=by obtain⟨t,rfl⟩:=q.isI;exact f t
@[elab_as_elim] theorem zN(v:Value){i:Str}(q:VR K as T v (.str i)){P:Value→Prop}(f: ∀t,P (.str i t)):P v:=by obtain⟨t,rfl⟩:=q.isS;exact f t
@[elab_as_elim] theorem oQ(vs:List Value)(q:VRs K as T vs []){P:List Value→Prop}(f:P []):P vs:=by cases q;exact f
@[elab_as_elim] theorem kh(vs:List Value){x:MV}{xs:List MV}(q:VRs K as T vs (x::xs)){P:List Value→Prop}(f: ∀v vs,VR K as T v x→VRs K as T vs xs→P (v::vs)):P vs:=by cases q;exact f _ _ ‹_› ‹_›
@[elab_as_elim] theorem tM{xs:List MV}(vs:List Value){k:MV→Option β}{P:List Value→Prop}(h:bd (one xs) k=some r)(q:VRs K as T vs xs)(f: ∀v x,VR K as T v x→k x=some r→P [v]):P vs:=by
 obtain⟨x,h1,h2⟩:=ag h
 cases iO h1
 exact kh (P:=P) _ q fun v vs h3 h4=>oQ vs h4 (P:=fun vs=>P (v::vs)) (f v x h3 h2)
@[elab_as_elim] theorem zO{xs:List MV}(vs:List Value){k:MV×MV→Option β}{P:List Value→Prop}(h:bd (two xs) k=some r)(q:VRs K as T vs xs)(f: ∀u v x y,VR K as T u x→VR K as T v y→k (x,y)=some r→P [u,v]):P vs:=by
 obtain⟨x,h1,h2⟩:=ag h
 cases tz h1
 exact kh (P:=P) _ q fun v vs h3 h4=>kh (P:=fun vs=>P (v::vs)) vs h4 fun w ws h5 h6=>oQ ws h6 (P:=fun vs=>P (v::w::vs)) (f _ _ _ _ h3 h5 h2)
end
section
variable{c:Cx}{f:Fx}{m:Str→Option Value}{cel led T:aN}{H H':Hp}{s:Shared}{A:Around}{d:Nat}{x y mv:MV}{u v:Value}
set_option tactic.hygienic true in
theorem oR(X:St c f m cel s.heap led T H): ∀ (n:Nat) {v:Value} {x:MV} {e:PyData},VR c.K (ai led) T v x→jW H n x=some e→ ∃as,Reads s.heap v e as∧e.canLay0=true∧e.depth≤n
 |0,_,_,_,_,h=>by cases h
 |n+1,v,x,e,r,h=>by
  have all: ∀ {vs:List Value} {xs:List MV} {es:List PyData},VRs c.K (ai led) T vs xs→gZ (jW H n) xs=some es→ ∃as,ReadsAll s.heap vs es as∧PyData.canLayAll0 es=true∧PyData.depthAll es≤n:=by
   intro vs xs
   induction xs generalizing vs with
   |nil=>intro es r h;cases r;cases h;exact⟨[],.nil,rfl,Nat.zero_le _⟩
   |cons y ys ih=>
    intro es r h
    cases r with
    |cons r1 r2=>
     obtain⟨d1,h1,h2⟩:=ag h
     obtain⟨ds,h3,h4⟩:=ag h2
     cases h4
     obtain⟨as,a1,a2,a3⟩:=oR X n r1 h1
     obtain⟨bs,b1,b2,b3⟩:=ih r2 h3
     exact⟨as++bs,.cons a1 b1,by simp[PyData.canLayAll0,a2,b2],by simp only[PyData.depthAll];exact Nat.max_le.mpr ⟨a3,b3⟩⟩
  cases x with
  |none=>cases r.isN;cases h;exact⟨[],.none,rfl,by simp[PyData.depth]⟩
  |bool b=>cases r.isB;cases h;exact⟨[],.bool _,rfl,by simp[PyData.depth]⟩
  |int i=>obtain⟨t,rfl⟩:=r.isI;cases h;exact⟨[],.int _ _,rfl,by simp[PyData.depth]⟩
  |str i=>cases h
  |bytes i=>cases h
  |glob i=>cases h
  |rol i=>cases h
  |tup l=>
   obtain⟨es,h1,h2⟩:=ag h
   cases h2
   obtain⟨a,vs,k,rfl,g1,g2,g3⟩:=X.tup r
   obtain⟨as,a1,a2,a3⟩:=all g2 h1
   exact⟨as,.tuple g1 rfl rfl a1,by simpa [PyData.canLay0] using a2,by simp only[PyData.depth];exact af [] [_,_] 0x8e2008e008 33 8968 a3⟩
  |loc k=>
   obtain⟨l,e1,h⟩:=ag h
   obtain⟨es,h1,h2⟩:=ag h
   cases h2
   obtain⟨a,vs,k,rfl,_,g1,g2,g3⟩:=X.lst r (bp e1)
   obtain⟨as,a1,a2,a3⟩:=all g2 h1
   exact⟨a::as,.list g1 rfl rfl a1,by simpa [PyData.canLay0] using a2,by simp only[PyData.depth];exact af [] [_,_] 0x8e2008e008 33 8968 a3⟩
theorem pW(X:St c f m cel s.heap led T H){b:Bool}:PV c f m cel led T s (.bool b) H (.bool b) s:=PV.done X (.bool b) (.refl s)
theorem Fz(X:St c f m cel s.heap led T H){b:Bool}(k:Nat):PV c f m cel led T s (.bool b) H (.bool b) {s with toks:=k}:=PV.done (s₁:={s with toks:=k}) X (.bool b) ⟨s.heap,k,rfl⟩
theorem tO{K:Frag}{as:List Addr}{T:aN}{z:Str}: ∀ {vs:List Value} {ms:List MV} {ss:List Str},VRs K as T vs ms→md ms=some ss→
  (∀y∈vs,∃a t,y= .str a t)∧(vs.any fun y=>match y with| .str a _=>a==z|_=>false)=decide (z∈ss):=by
 intro vs ms
 induction ms generalizing vs with
 |nil=>
  intro ss r h
  cases h
  exact oQ vs r (P:=fun vs=>(∀y∈vs,∃a t,y= .str a t)∧(vs.any fun y=>match y with| .str a _=>a==z|_=>false)=decide (z∈[])) ⟨(fun _ h=>nomatch h),rfl⟩
 |cons x xs ih=>
  intro ss r h
  cases x with
  |str y=>
   obtain⟨l,h1,h2⟩:=ag h
   cases h2
   cases r with
   |cons r1 r2=>
    obtain⟨g1,g2⟩:=ih r2 h1
    obtain⟨t,rfl⟩:=r1.isS
    refine⟨fun q hq=> ?_,?_⟩
    ·rcases List.mem_cons.mp hq with rfl|hq
     ·exact⟨_,_,rfl⟩
     ·exact g1 q hq
    ·rw[List.any_cons,g2,Bool.eq_iff_iff]
     simp only[Bool.or_eq_true,beq_iff_eq,decide_eq_true_eq,List.mem_cons]
     exact⟨fun h=>h.imp Eq.symm id,fun h=>h.imp Eq.symm id⟩
  |_=>exact nS h
set_option tactic.hygienic true in
theorem pX(hA:AO A d)(X:St c f m cel s.heap led T H){t:Bool}(ru:VR c.K (ai led) T u x)(rv:VR c.K (ai led) T v y)(h:er H x y=some t):
  wpAny (model c.prog c.w) A (compareOp .Eq u v) (PV c f m cel led T s (.bool t) H) no s:=by
 obtain⟨dx,e1,h⟩:=ag h
 obtain⟨dy,e2,h⟩:=ag h
 obtain⟨q,rfl⟩:=oH h
 subst q
 obtain⟨as,a1,a2,a3⟩:=oR X 8 ru e1
 obtain⟨bs,b1,b2,b3⟩:=oR X 8 rv e2
 refine SeqAt.compareEq_reads a1 b1 a2 b2 ?_ ?_
 ·have:=hA.un;unfold cLine;exact a0 [] [_,_,_,_] 0x4d583246009 558113 132904 0x26ac190281126a340008 9498 a3 this (mL (aV [] [_] 8456 1))
 ·rw[SeqAt.eqv_refl _ a2];exact pW X
theorem pY{a:Addr}(h:3<a):(a==sysModules)=false:=by
 rw[beq_eq_false_iff_ne];rintro rfl;exact absurd h (by decide)
inductive PRs{κ:Type}(K:Frag)(as:List Addr)(T:aN):List (κ×Value)→List (κ×MV)→Prop
 |nil:PRs K as T [] []
 |cons {x:κ} {v:Value} {y:MV} {ps:List (κ×Value)} {ys:List (κ×MV)}:VR K as T v y→PRs K as T ps ys→PRs K as T ((x,v)::ps) ((x,y)::ys)
theorem PRs.keys{κ:Type}{K:Frag}{as:List Addr}{T:aN}{ps:List (κ×Value)}{ys:List (κ×MV)}(h:PRs K as T ps ys):ps.map (·.1)=ys.map (·.1):=h.rec rfl (fun{x} _ _ _ _ _ _ k=>cA (x:: ·) k)
theorem PRs.len{κ:Type}{K:Frag}{as:List Addr}{T:aN}{ps:List (κ×Value)}{ys:List (κ×MV)}(h:PRs K as T ps ys):ps.length=ys.length:=h.rec rfl (fun _ _ k=>cA (·+1) k)
theorem PRs.append{κ:Type}{K:Frag}{as:List Addr}{T:aN}{qs:List (κ×Value)}{zs:List (κ×MV)}(h:PRs K as T qs zs){ps:List (κ×Value)}{ys:List (κ×MV)}(g:PRs K as T ps ys):PRs K as T (ps++qs) (ys++zs):=g.rec h (fun g _ r=> .cons g r)
theorem PRs.at_{κ:Type} [DecidableEq κ]{K:Frag}{as:List Addr}{T:aN}(x:κ){ps:List (κ×Value)}{ys:List (κ×MV)}(h:PRs K as T ps ys):
  (cN x ys=none∧valueAt ps x=none)∨ ∃v y,cN x ys=some y∧valueAt ps x=some v∧VR K as T v y:=by
 induction h with
 |nil=>exact .inl ⟨rfl,rfl⟩
 | @cons z v y ps ys h r ih=>
  unfold valueAt at*
  by_cases q:z=x
  ·exact .inr ⟨v,y,by simp[cN,q],by simp[q],h⟩
  ·simpa [cN,q] using ih
theorem lj{κ:Type} [DecidableEq κ](x:κ)(v:MV)(y:κ)(u:MV)(r:List (κ×MV)):ce x v ((y,u)::r)=if y=x then(y,v)::r else(y,u)::ce x v r:=rfl
theorem rH{κ:Type} [DecidableEq κ](x:κ)(v:MV)(l:List (κ×MV))(h:x∉l.map (·.1)):ce x v l=l++[(x,v)]:=by
 induction l with
 |nil=>rfl
 |cons p r ih=>rw[lj,if_neg (fun q:p.1=x=>h (List.mem_cons.mpr (.inl q.symm))),ih fun q=>h (.tail _ q)];rfl
theorem gM{κ:Type} [DecidableEq κ](x:κ)(v:MV)(l:List (κ×MV))(h:(l.map (·.1)).Nodup):((ce x v l).map (·.1)).Nodup∧ ∀z,z∈(ce x v l).map (·.1)↔z=x∨z∈l.map (·.1):=by
 induction l with
 |nil=>exact⟨List.nodup_cons.mpr ⟨List.not_mem_nil,.nil⟩,fun z=>List.mem_cons⟩
 |cons p r ih=>
  obtain⟨h1,h2⟩:=List.nodup_cons.mp h
  obtain⟨i1,i2⟩:=ih h2
  rw[lj]
  by_cases q:p.1=x
  ·rw[if_pos q]
   exact⟨h,fun z=>⟨.inr,fun k=>k.elim (fun e=>e▸q▸ .head _) id⟩⟩
  ·rw[if_neg q]
   refine⟨List.nodup_cons.mpr ⟨fun z=>((i2 _).mp z).elim q h1,i1⟩,fun z=>⟨fun k=> ?_,fun k=> ?_⟩⟩
   ·rcases List.mem_cons.mp k with k|k
    ·exact .inr (k▸ .head _)
    ·exact((i2 z).mp k).imp id (.tail _)
   ·rcases k with k|k
    ·exact .tail _ ((i2 z).mpr (.inl k))
    ·rcases List.mem_cons.mp k with k|k
     ·exact k▸ .head _
     ·exact .tail _ ((i2 z).mpr (.inr k))
theorem PRs.hit{κ:Type} [DecidableEq κ]{K:Frag}{as:List Addr}{T:aN}{x:κ}{v:Value}{y:MV}(hv:VR K as T v y){ps:List (κ×Value)}{ys:List (κ×MV)}(h:PRs K as T ps ys):x∈ys.map (·.1)→(ys.map (·.1)).Nodup→
  PRs K as T (ps.map fun kv=>if kv.1=x then(kv.1,v) else kv) (ce x y ys):=by
 induction h with
 |nil=>exact fun h _=>absurd h List.not_mem_nil
 | @cons z u w ps ys h r ih=>
  intro hm nd
  simp only[List.map_cons,List.nodup_cons,List.mem_cons] at nd hm
  by_cases q:z=x
  ·subst q
   have e:(ps.map fun kv=>if kv.1=z then(kv.1,v) else kv)=ps:=by
    rw[List.map_congr_left (g:=id) (fun kv hk=> ?_)]; ·simp
    have:kv.1≠z:=fun w=>nd.1 (w▸ (r.keys▸List.mem_map_of_mem hk))
    simp[this]
   simp only[List.map_cons,if_true,ce];rw[e];exact .cons hv r
  ·simp only[List.map_cons,q,if_false,ce]
   exact .cons h (ih (hm.resolve_left (fun w=>q w.symm)) nd.2)
theorem PRs.stored{κ:Type} [DecidableEq κ]{K:Frag}{as:List Addr}{T:aN}{x:κ}{v:Value}{y:MV}(hv:VR K as T v y){ps:List (κ×Value)}{ys:List (κ×MV)}(r:PRs K as T ps ys)(nd:(ys.map (·.1)).Nodup):
  PRs K as T (PySem.stored ps x v) (ce x y ys):=by
 unfold PySem.stored
 have e:(ps.any fun kv=>decide (kv.1=x))=decide (x∈ys.map (·.1)):=by
  rw[←r.keys,Bool.eq_iff_iff];simp[List.mem_map]
 by_cases q:x∈ys.map (·.1)
 ·rw[e,if_pos (by simpa using q)];exact r.hit hv q nd
 ·rw[e,if_neg (by simpa using q),rH x y ys q];exact PRs.append (.cons hv .nil) r
structure Kd{κ:Type} [DecidableEq κ](mk:κ→Value→Prop)(hs:κ→Int)(knd:KeyKind c.prog c.w κ):Prop where
 is: ∀x k,knd.is x k=true↔mk x k
 hash: ∀x,hs x=knd.hash x
theorem Kd.str:Kd (c:=c) yQ (PyData.keyHash c.w.params) (strKind c.prog c.w):=⟨fun x k=>⟨fun h=>Value.isStrOf_shape h,fun⟨t,h⟩=>h▸strKind_is _ _ _ _⟩,fun _=>rfl⟩
theorem Kd.byt:Kd (c:=c) yR (fun x=>hashW c.w.params (.bytes x)) (bytesKind c.prog c.w):=⟨fun x k=>⟨fun h=>isBytes_shape h,fun⟨t,h⟩=>h▸bytesKind_is _ _ _ _⟩,fun _=>rfl⟩
section
variable{κ:Type} [DecidableEq κ]{mk:κ→Value→Prop}{hs:κ→Int}{knd:KeyKind c.prog c.w κ}
theorem rI(q:Kd (c:=c) mk hs knd){K:Frag}{as:List Addr}{T:aN}{es:List DictEntry}{ys:List (κ×MV)}(h:KRs mk hs K as T es ys): ∃ps,Pairs knd es ps∧PRs K as T ps ys∧ ∀e∈es,∃k,knd.is k e.key=true∧e.hash=knd.hash k:=by
 induction h with
 |nil=>exact⟨[],.nil,.nil,fun _ h=>nomatch h⟩
 |cons h r k ih=>
  obtain⟨ps,a,b,d⟩:=ih
  refine⟨(_,_)::ps,.cons ((q.is _ _).mpr h) rfl a,.cons r b,fun e he=> ?_⟩
  rcases List.mem_cons.mp he with rfl|he
  ·exact⟨_,(q.is _ _).mpr h,q.hash _⟩
  ·exact d e he
theorem zP(q:Kd (c:=c) mk hs knd){K:Frag}{as:List Addr}{T:aN}{es:List DictEntry}{ps:List (κ×Value)}{ys:List (κ×MV)}(h:Pairs knd es ps)(r:PRs K as T ps ys)(hk: ∀e∈es,∃k,knd.is k e.key=true∧e.hash=knd.hash k):KRs mk hs K as T es ys:=by
 induction h generalizing ys with
 |nil=>cases r;exact .nil
 | @cons e kv es kvs h1 h2 h3 ih=>
  cases r with
  |cons r k=>
   obtain⟨k',g1,g2⟩:=hk e (.head _)
   cases knd.inj _ _ _ g1 h1
   obtain⟨eh,ek,ev⟩:=e
   simp only at h1 h2 g1 g2;subst g2 h2
   rw[←q.hash]
   exact .cons ((q.is _ _).mp h1) r (ih k fun e he=>hk e (.tail _ he))
theorem gN(q:Kd (c:=c) mk hs knd){K:Frag}{as:List Addr}{T:aN}{es:List DictEntry}{ys:List (κ×MV)}{n:Nat}(h:KRs mk hs K as T es ys)(nd:(ys.map (·.1)).Nodup): ∃ps,(dictOf es n).IsDictOf knd ps∧PRs K as T ps ys:=by
 obtain⟨ps,a,b,d⟩:=rI q h
 exact⟨ps,⟨es.toArray,n,⟨rfl,rfl,rfl⟩,rfl,fun e he=>d e (by simpa using he),by simpa using a,by rw[b.keys];exact nd⟩,b⟩
theorem oT(q:Kd (c:=c) mk hs knd){K:Frag}{as:List Addr}{T:aN}{o:Obj}{ps:List (κ×Value)}{ys:List (κ×MV)}(h:o.IsDictOf knd ps)(b:PRs K as T ps ys): ∃es n,o=dictOf es n∧KRs mk hs K as T es ys:=by
 obtain⟨es,n,⟨h1,h2,h3⟩,h4,h5,h6,h7⟩:=h
 refine⟨es.toList,n,?_,zP q h6 b fun e he=>h5 e (by simpa using he)⟩
 obtain⟨oc,od,ot,os⟩:=o
 simp only at h1 h2 h3 h4
 subst h1 h2 h3 h4;simp
end
theorem oU{α:Type} [DecidableEq α] [BEq α] [LawfulBEq α](a b:α):(a==b)=decide (a=b):=by rw[Bool.eq_iff_iff];simp
theorem zQ{α:Type} [DecidableEq α] [BEq α] [LawfulBEq α](a b:α):(a !=b)=decide (a≠b):=by rw[Bool.eq_iff_iff];simp
@[elab_as_elim] theorem yW{K:Frag}{as:List Addr}{T:aN}(v:Value){b:Bool}(q:VR K as T v (.bool b)){P:Value→Prop}(f:P (.bool b)):P v:=by cases q.isB;exact f
@[elab_as_elim] theorem mn{K:Frag}{as:List Addr}{T:aN}(v:Value){b:List UInt8}(q:VR K as T v (.bytes b)){P:Value→Prop}(f: ∀a t,a.toList=b→P (.bytes a t)):P v:=by obtain⟨a,t,rfl,rfl⟩:=q.isY;exact f _ _ rfl
@[elab_as_elim] theorem tP(v:Value)(X:St c f m cel s.heap led T H){n:Nat}{l:List MV}(r:VR c.K (ai led) T v (.loc n))(e:aH H n=some l){P:Value→Prop}(k: ∀a vs i,s.heap.get? a=some (listOf vs.toArray i)→VRs c.K (ai led) T vs l→vs.length≤dK→P (.ref a)):P v:=by
 obtain⟨a,vs,i,rfl,_,h1,h2,h3⟩:=X.lst r (bp e)
 exact k a vs i h1 h2 h3
@[elab_as_elim] theorem lk(v:Value)(X:St c f m cel s.heap led T H){n:Nat}{l:List (Str×MV)}(r:VR c.K (ai led) T v (.loc n))(e:bB H n=some l){P:Value→Prop}(k: ∀a es i,led[n]?=some (a,dictOf es i)→s.heap.get? a=some (dictOf es i)→pQ c.w.params c.K (ai led) T es l→es.length≤500→(l.map (·.1)).Nodup→P (.ref a)):P v:=by
 obtain⟨a,es,i,rfl,h1,h2,h3,h4,h5⟩:=X.dct r (eM e)
 exact k a es i h1 h2 h3 h4 h5
@[elab_as_elim] theorem FA(v:Value)(X:St c f m cel s.heap led T H){l:List MV}(r:VR c.K (ai led) T v (.tup l)){P:Value→Prop}(k: ∀a vs,IsTup s.heap a vs.toArray→VRs c.K (ai led) T vs l→vs.length≤dK→P (.ref a)):P v:=by
 obtain⟨a,vs,rfl,h1,h2,h3⟩:=X.isTup r
 exact k a vs h1 h2 h3
theorem VRs.emp{K:Frag}{as:List Addr}{T:aN}{vs:List Value}{l:List MV}(r:VRs K as T vs l):l.isEmpty=vs.isEmpty:=by cases r<;>rfl
theorem isL{h:Heap}{a:Addr}{vs:List Value}{k:Nat}(e:h.get? a=some (listOf vs.toArray k)):h.IsList a vs.toArray:=⟨_,e,rfl,k,rfl⟩
theorem ll(hA:AO A d):A.units<cLine:=by have:=hA.un;unfold cLine;exact af [] [_,_] 0x13560c909 33 0x26ac190281122a340008 this
theorem FB(hA:AO A d){h:Heap}(e:s.heap=h){a b:Addr}{vs ws:List Value}{k k':Nat}(h1:h.get? a=some (listOf vs.toArray k))(h2:h.get? b=some (listOf ws.toArray k'))(hw:ws=[]):SeqAt.RcAt A s (.ref a) (.ref b) vs.isEmpty∧SeqAt.RcNeAt A s (.ref a) (.ref b) (!vs.isEmpty):=by
 subst e hw
 cases vs with
 |nil=>exact⟨SeqAt.RcAt.lists (e:=fun _=>true) (isL (vs:=[]) h1) (isL (vs:=[]) h2) rfl (ll hA) (fun j _ hj=>by simp at hj),SeqAt.RcNeAt.lists (e:=fun _=>true) (isL (vs:=[]) h1) (isL (vs:=[]) h2) rfl (ll hA) (fun j _ hj=>by simp at hj)⟩
 |cons r1 r2=>exact⟨SeqAt.RcAt.lists_lengths (isL (vs:=_::_) h1) (isL (vs:=[]) h2) (by simp) (ll hA),SeqAt.RcNeAt.lists_lengths (isL (vs:=_::_) h1) (isL (vs:=[]) h2) (by simp) (ll hA)⟩
theorem FC(hA:AO A d){a b:Addr}{vs ws:List Value}(h1:IsTup s.heap a vs.toArray)(h2:IsTup s.heap b ws.toArray)(hw:ws=[]):SeqAt.RcAt A s (.ref a) (.ref b) vs.isEmpty∧SeqAt.RcNeAt A s (.ref a) (.ref b) (!vs.isEmpty):=by
 subst hw
 have e:((List.range (min vs.toArray.size ([]:List Value).toArray.size)).all (fun _=>true)&&vs.toArray.size==([]:List Value).toArray.size)=vs.isEmpty:=by cases vs<;>simp
 exact⟨e▸SeqAt.RcAt.tuples (e:=fun _=>true) h1 h2 (ll hA) (fun j _ hj=>by simp at hj),e▸SeqAt.RcNeAt.tuples (e:=fun _=>true) h1 h2 (ll hA) (fun j _ hj=>by simp at hj)⟩
theorem VRs.nil'{K:Frag}{as:List Addr}{T:aN}{vs:List Value}{l:List MV}(r:VRs K as T vs l)(h:l.isEmpty=true):vs=[]:=List.isEmpty_iff.mp (r.emp▸h)
@[elab_as_elim] theorem FN{β:Type}{o:β}{k:List MV→Option β}{P:MV→Prop}(y:MV)(h:bd (fr y) k=some o)(f: ∀l,k l=some o→P (.tup l)):P y:=fG h fun _ h1 h2=>d5 h1▸f _ h2
@[elab_as_elim] theorem FD{β:Type}{o:β}{k:Nat→Option β}{P:MV→Prop}(y:MV)(h:bd (bR y) k=some o)(f: ∀l,k l=some o→P (.loc l)):P y:=fG h fun _ h1 h2=>bj h1▸f _ h2
theorem E4(X:St c f m cel s.heap led T H){t b:Bool}{e:Bool}(h:some e=some t)(q:SeqAt.RcAt A s u v b)(eb:e=b):wpAny (model c.prog c.w) A (compareOp .Eq u v) (PV c f m cel led T s (.bool t) H) no s:=by
 cases h;subst eb;exact EqBoolInt.of_rc q (pW X)
theorem E5(X:St c f m cel s.heap led T H){t b:Bool}{e:Bool}(h:some e=some t)(q:SeqAt.RcNeAt A s u v b)(eb:e=b):wpAny (model c.prog c.w) A (compareOp .NotEq u v) (PV c f m cel led T s (.bool t) H) no s:=by
 cases h;subst eb;exact EqBoolInt.of_rcne q (pW X)
theorem Bx(hA:AO A d)(X:St c f m cel s.heap led T H){k n:Nat}{l r:List MV}(ru:VR c.K (ai led) T u (.loc k))(rv:VR c.K (ai led) T v (.loc n))(e1:aH H k=some l)(e2:aH H n=some r)(q:r.isEmpty=true): ∃b,SeqAt.RcAt A s u v b∧SeqAt.RcNeAt A s u v (!b)∧l.isEmpty=b:=by
 obtain⟨a,vs,_,rfl,_,h1,h2,_⟩:=X.lst ru (bp e1)
 obtain⟨b,ws,_,rfl,_,g1,g2,_⟩:=X.lst rv (bp e2)
 have z:=FB (s:=s) hA rfl h1 g1 (g2.nil' q)
 exact⟨_,z.1,z.2,h2.emp⟩
theorem By(hA:AO A d)(X:St c f m cel s.heap led T H){l r:List MV}(ru:VR c.K (ai led) T u (.tup l))(rv:VR c.K (ai led) T v (.tup r))(q:r.isEmpty=true): ∃b,SeqAt.RcAt A s u v b∧SeqAt.RcNeAt A s u v (!b)∧l.isEmpty=b:=by
 obtain⟨a,vs,rfl,h1,h2,_⟩:=X.isTup ru
 obtain⟨b,ws,rfl,g1,g2,_⟩:=X.isTup rv
 have z:=FC (s:=s) hA h1 g1 (g2.nil' q)
 exact⟨_,z.1,z.2,h2.emp⟩
theorem Bz(hA:AO A d)(X:St c f m cel s.heap led T H){t:Bool}(ru:VR c.K (ai led) T u x)(rv:VR c.K (ai led) T v y)(h:Dv H x y=some t):
  wpAny (model c.prog c.w) A (compareOp .Eq u v) (PV c f m cel led T s (.bool t) H) no s:=by
 cases x with
 |int a=>exact nt u ru fun _=>la v h rv fun _ _ h=>dm t h (eq_int (oU (α:=Int) _ _▸pW X))
 |bool a=>exact yW u ru (fG h fun b h1 h2=>yW v (me h1▸rv) (dm t h2 (eq_bool (oU (α:=Bool) _ _▸pW X))))
 |bytes a=>exact mn u ru fun _ _ e1=>fG h fun b h1 h2=>mn v (jX h1▸rv) fun _ _ e2=>dm t h2 (eq_bytes (by rw[e1,e2,oU (α:=List UInt8)];exact pW X))
 |tup l=>exact fG h fun r h1 h2=>tL h2 (fun q h=>(By hA X ru (d5 h1▸rv) q).elim fun b z=>E4 X h z.1 z.2.2) fun h=>pX hA X ru rv h
 |loc k=>exact fG h fun r h1 h2=>fG h2 fun l h3 h4=>fG h4 fun r h5 h6=>tL h6 (fun q h=>(Bx hA X ru (bj h1▸rv) h3 h5 q).elim fun b z=>E4 X h z.1 z.2.2) fun h=>pX hA X ru rv h
 |_=>cases h
theorem BA(hA:AO A d)(X:St c f m cel s.heap led T H){t:Bool}(ru:VR c.K (ai led) T u x)(rv:VR c.K (ai led) T v y)(h:E1 H x y=some t):
  wpAny (model c.prog c.w) A (compareOp .NotEq u v) (PV c f m cel led T s (.bool t) H) no s:=by
 cases x with
 |int a=>exact nt u ru fun _=>la v h rv fun _ _ h=>dm t h (ne_int (zQ (α:=Int) _ _▸pW X))
 |tup l=>exact fG h fun r h1 h2=>fI h2 fun q h=>(By hA X ru (d5 h1▸rv) q).elim fun b z=>E5 X h z.2.1 (cA not z.2.2)
 |loc k=>exact fG h fun r h1 h2=>fG h2 fun l h3 h4=>fG h4 fun r h5 h6=>fI h6 fun q h=>(Bx hA X ru (bj h1▸rv) h3 h5 q).elim fun b z=>E5 X h z.2.1 (cA not z.2.2)
 |_=>cases h
theorem yX{t:Bool}(ru:VR c.K (ai led) T u x)(h:isNone x=some t):(∀ {Q:Value→Shared→Prop} {E:Value→Shared→Prop},Q (.bool t) s→wpAny (model c.prog c.w) A (compareOp .Is u .none) Q E s)∧
  (∀ {Q:Value→Shared→Prop} {E:Value→Shared→Prop},Q (.bool (!t)) s→wpAny (model c.prog c.w) A (compareOp .IsNot u .none) Q E s):=by
 cases x with
 |none=>cases ru.isN;cases h;exact⟨fun q=>wpAny_is_self rfl q,fun q=>wpAny_isNot_self rfl q⟩
 |int=>obtain⟨_,rfl⟩:=ru.isI;cases h;exact⟨fun q=>wpAny_is_other rfl (fun h=>nomatch h) q,fun q=>wpAny_isNot_other rfl (fun h=>nomatch h) q⟩
 |loc=>obtain⟨_,rfl,_⟩:=ru.isL;cases h;exact⟨fun q=>wpAny_is_other rfl (fun h=>nomatch h) q,fun q=>wpAny_isNot_other rfl (fun h=>nomatch h) q⟩
 |_=>exact nS h
theorem tQ(X:St c f m cel s.heap led T H){t:Bool}{z:List UInt8}{n:Nat}{o:MObj}(ru:VR c.K (ai led) T u (.bytes z))(rv:VR c.K (ai led) T v (.loc n))(e:H[n]?=some o)(h:pP z o=some t):
  wpAny (model c.prog c.w) A (compareOp .NotIn u v) (PV c f m cel led T s (.bool t) H) no s:=by
 refine rB fun Q hq=>mn (P:=fun u=>wpAny (model c.prog c.w) A (compareOp .NotIn u v) Q no s) u ru fun ba tk hb=> ?_
 subst hb
 obtain⟨a,ob,rfl,h0,_,h2,h3⟩:=X.ref rv e
 have lo:=pY (X.hi _ (mG h0))
 have key: ∀es:List (List UInt8×MV),∀des k,Dw c.w.params c.K (ai led) T des es→(es.map (·.1)).Nodup→ob=dictOf des k→(cN ba.toList es).isNone=t→wpAny (model c.prog c.w) A (compareOp .NotIn (.bytes ba tk) (.ref a)) Q no s:=by
  intro es des k g2 g4 hob ht
  subst hob ht
  obtain⟨ps,D,r⟩:=gN (n:=k) (Kd.byt (c:=c)) g2 g4
  refine kdg_notin X.N (X.inLed h0) D lo (k:=ba.toList) (by simp[bytesKind,isBytes]) (!(cN ba.toList es).isNone) ?_ (by rw[Bool.not_not];exact hq _ _ (Fz X _))
  rcases r.at_ ba.toList with ⟨q1,q2⟩|⟨v,y,q1,q2,q3⟩<;>simp[q1,q2]
 clear hq
 cases h3 with
 |dict k g2 g3 g4=>
  exact fI (show(if _ then some true else none)=some t from h) fun q h=>by
   cases List.isEmpty_iff.mp q
   cases g2
   exact key [] [] k .nil List.nodup_nil rfl (oI h)
 |bdict k g2 g3 g4=>exact key _ _ k g2 g4 rfl (oI h)
 |_=>cases h
@[elab_as_elim] theorem yY{K:Frag}{as:List Addr}{T:aN}{y:MV}(v:Value){o:Unit}(q:VR K as T v y)(h:iM y=some o){P:Value→Prop}(f:P .none):P v:=by
 cases rA h
 cases q.isN
 exact f
set_option tactic.hygienic true in
theorem mo(hA:AO A d)(X:St c f m cel s.heap led T H){op:CmpOp}{t:Bool}(ru:VR c.K (ai led) T u x)(rv:VR c.K (ai led) T v y)(h:eY H op x y=some t):
  wpAny (model c.prog c.w) A (compareOp op u v) (PV c f m cel led T s (.bool t) H) no s:=by
 cases op
 case Eq=>exact Bz hA X ru rv h
 case NotEq=>exact BA hA X ru rv h
 case Lt=>exact gF u v h ru rv fun _ _ _ _ h=>dm t h (lt_int (pW X))
 case LtE=>exact gF u v h ru rv fun _ _ _ _ h=>dm t h (P.le_int (pW X))
 case Gt=>exact gF u v h ru rv fun _ _ _ _ h=>dm t h (gt_int (pW X))
 case GtE=>exact gF u v h ru rv fun _ _ _ _ h=>dm t h (P.ge_int (pW X))
 case Is=>exact fG h fun _ h1 h2=>yY v rv h1 ((yX ru h2).1 (pW X))
 case IsNot=>exact fG h fun _ h1 h2=>fG h2 fun _ h3 h4=>yY v rv h1 (dm t h4 ((yX ru h3).2 (pW X)))
 case In=>
  obtain⟨z,h1,h2⟩:=ag h
  obtain⟨l,h3,h4⟩:=ag h2
  obtain⟨ss,h5,h6⟩:=ag h4
  cases tw h1
  cases d5 h3
  cases h6
  obtain⟨tk,rfl⟩:=ru.isS
  obtain⟨b,ws,rfl,g1,g2,g3⟩:=X.isTup rv
  obtain⟨k1,k2⟩:=tO (z:=z) g2 h5
  refine SeqAt.in_tupleAt (fun y=>match y with| .str a _=>a==z|_=>false) g1 (fun y hy=> ?_) ?_
  ·obtain⟨a,t,rfl⟩:=k1 y (by simpa using hy)
   exact SeqAt.EqAt.str_str a t z tk
  ·rw[show(ws.toArray.any fun y=>match y with| .str a _=>a==z|_=>false)=(ws.any fun y=>match y with| .str a _=>a==z|_=>false) by simp,k2];exact pW X
 case NotIn=>
  obtain⟨z,h1,h2⟩:=ag h
  obtain⟨n,h3,h4⟩:=ag h2
  obtain⟨o,h5,h6⟩:=ag h4
  cases jX h1
  cases bj h3
  exact tQ X ru rv h5 h6
theorem PI(X:St c f m cel s.heap led T H)(i:Int)(t k:Nat):PV c f m cel led T s (.int i) H (.int i t) {s with toks:=k}:=PV.done (s₁:={s with toks:=k}) X (.int i t) ⟨s.heap,k,rfl⟩
theorem d7(X:St c f m cel s.heap led T H){h':Heap}{vs:List Value}{ms:List MV}{a k:Nat}{tk:Nat}(ha: ∀p∈cel++(led++T),p.1≠a)(hi:3<a)(F:Fr f.h₀ f.L h' m)(N:News f.h₀ f.L h' ((a,listOf vs.toArray k)::(cel++(led++T))))
  (r:VRs c.K (ai led) T vs ms) (l:vs.length≤dK):PV c f m cel led T s (.loc H.length) (H++[.list ms]) (.ref a) {s with heap:=h',toks:=tk}:=
 ⟨led++[(a,listOf vs.toArray k)],T,X.new ha F N (.list k r l) hi,eZ _ _ _,.loc (hJ X.size),⟨h',tk,rfl⟩⟩
theorem iQ(X:St c f m cel s.heap led T H){h':Heap}{vs:List Value}{ms:List MV}{a k:Nat}{tk:Nat}(ha: ∀p∈cel++(led++T),p.1≠a)(F:Fr f.h₀ f.L h' m)(N:News f.h₀ f.L h' ((a,cO vs k)::(cel++(led++T))))
  (r:VRs c.K (ai led) T vs ms) (l:vs.length≤dK):PV c f m cel led T s (.tup ms) H (.ref a) {s with heap:=h',toks:=tk}:=
 ⟨led,(a,cO vs k)::T,X.newT ha F N,lh _ _ _,.tup (.head _) l (r.mono (lh _ _ _)),⟨h',tk,rfl⟩⟩
theorem VRs.replicate{K:Frag}{as:List Addr}{T:aN}{v:Value}{x:MV}(h:VR K as T v x): ∀n,VRs K as T (List.replicate n v) (List.replicate n x)
 |0=> .nil
 |n+1=> .cons h (VRs.replicate h n)
theorem nu{a:Int}(h:bF a):a.natAbs<2^63:=by
 unfold bF at h
 omega
theorem pZ{n:Nat}(h:n<2^63):n.log2<63:=by
 by_cases z:n=0
 ·subst z;decide
 ·exact(Nat.log2_lt z).mpr h
theorem tR{a b:Int}(h:bF a):IntMulOk a b:=IntMulOk.of_left (by
 have:=pZ (nu h)
 unfold Builtin.Int.intBits
 split<;>omega)
theorem tS{b:Int}(h2:bF b):b.natAbs.log2<9000:=Nat.lt_trans (pZ (nu h2)) (by decide)
theorem mr{K:Frag}{as:List Addr}{T:aN}{vs ws:List Value}{l r:List MV}(a:VRs K as T vs l)(b:VRs K as T ws r){n:Nat}(q:l.length+r.length≤n):vs.length+ws.length≤n:=by rw[a.len,b.len];exact q
theorem BB{n:Nat}(h:n≤dK):n≤sizeLine:=Nat.le_trans h (by decide)
theorem Dx(X:St c f m cel s.heap led T H){l r:List MV}(ru:VR c.K (ai led) T u (.tup l))(rv:VR c.K (ai led) T v (.tup r))(q:l.length+r.length≤dK):wpAny (model c.prog c.w) A (binaryOp .Add u v) (PV c f m cel led T s (.tup (l++r)) H) no s:=by
 obtain⟨a,vs,rfl,h1,h2,h3⟩:=X.isTup ru
 obtain⟨b,ws,rfl,g1,g2,g3⟩:=X.isTup rv
 have l:=mr h2 g2 q
 refine add_tuples X.F X.N h1 g1 (fun e=> ?_) (fun _ e=> ?_) (fun _ _ h' F N=> ?_) (BB l)
 ·subst e;cases h2;exact PV.done X rv (.refl s)
 ·subst e;cases g2;rw[List.append_nil];exact PV.done X ru (.refl s)
 ·exact iQ X X.fresh F N (h2.append g2) (by simpa using l)
theorem Dy(X:St c f m cel s.heap led T H){i j:Nat}{l r:List MV}(ru:VR c.K (ai led) T u (.loc i))(rv:VR c.K (ai led) T v (.loc j))(e1:aH H i=some l)(e2:aH H j=some r)(q:l.length+r.length≤dK):wpAny (model c.prog c.w) A (binaryOp .Add u v) (PV c f m cel led T s (.loc H.length) (H++[.list (l++r)])) no s:=
 tP u X ru e1 fun _ _ _ h1 h2 _=>tP v X rv e2 fun _ _ _ g1 g2 _=>
  add_lists X.F X.N (isL h1) (isL g1) (fun _ F N=>d7 X X.fresh X.big F N (h2.append g2) (by rw[List.length_append];exact mr h2 g2 q)) (BB (mr h2 g2 q))
noncomputable abbrev PO(c:Cx)(f:Fx)(m:Str→Option Value)(cel led T:aN)(s:Shared)(r:MV×Hp):Value→Shared→Prop:=PV c f m cel led T s r.1 r.2
theorem zR(X:St c f m cel s.heap led T H)(ru:VR c.K (ai led) T u x)(rv:VR c.K (ai led) T v y){r:MV×Hp}(h:Bt H x y=some r):
  wpAny (model c.prog c.w) A (binaryOp .Add u v) (PO c f m cel led T s r) no s:=by
 cases x with
 |int a=>exact nt u ru fun _=>la v h rv fun _ _ h=>dm r h (add_int (PI X _ _ _))
 |tup l=>exact fG h fun _ h1 h=>fI h fun q h=>dm r h (Dx X ru (d5 h1▸rv) q)
 |loc k=>exact fG h fun _ h1 h=>fG h fun _ h2 h=>fG h fun _ h3 h=>fI h fun q h=>dm r h (Dy X ru (bj h1▸rv) h2 h3 q)
 |_=>cases h
theorem Dz(X:St c f m cel s.heap led T H){i:Nat}{k:Int}{l:List MV}{a:MV}(ru:VR c.K (ai led) T u (.loc i))(rv:VR c.K (ai led) T v (.int k))(e1:aH H i=some l)(e2:one l=some a)(q:bF k∧k≤1000):wpAny (model c.prog c.w) A (binaryOp .Mult u v) (PV c f m cel led T s (.loc H.length) (H++[.list (List.replicate k.toNat a)])) no s:=by
 cases iO e2
 refine tP u X ru e1 fun _ vs _ h1 h2 _=>nt v rv fun _=> ?_
 cases h2 with
 |cons r1 r2=>
  cases r2
  have q1:=q.1.1
  have q2:=q.2
  refine mul_list X.F X.N h1 (by omega) (by omega) (by simp;exact af [_] [] 0x80000014880 33 0x1f408880 q.2) (fun h' F N=> ?_)
  rw[listMul_foldl_if] at N
  refine d7 (vs:=(List.replicate _ [_]).flatten) X X.fresh X.big F N ?_ ?_
  ·rw[show ∀ (n:Nat) (v:Value),(List.replicate n [v]).flatten=List.replicate n v from fun n v=>by simp];exact VRs.replicate r1 _
  ·simp;unfold dK;exact af [_] [] 0x1000190a80 33 0x1f408880 q.2
theorem zS(X:St c f m cel s.heap led T H)(ru:VR c.K (ai led) T u x)(rv:VR c.K (ai led) T v y){r:MV×Hp}(h:Bu H x y=some r):
  wpAny (model c.prog c.w) A (binaryOp .Mult u v) (PO c f m cel led T s r) no s:=by
 cases x with
 |int a=>exact nt u ru fun _=>la v h rv fun _ _ h=>fI h fun q h=>dm r h (P.mul_int (PI X _ _ _) (tR q.1))
 |loc k=>exact fG h fun _ h1 h=>fG h fun _ h2 h=>fG h fun _ h3 h=>fI h fun q h=>dm r h (Dz X ru (cb h1▸rv) h2 h3 q)
 |_=>cases h
theorem wT(X:St c f m cel s.heap led T H){op:Operator}(ru:VR c.K (ai led) T u x)(rv:VR c.K (ai led) T v y){r:MV×Hp}(h:cB H op x y=some r):
  wpAny (model c.prog c.w) A (binaryOp op u v) (PO c f m cel led T s r) no s:=by
 cases op
 case Add=>exact zR X ru rv h
 case Mult=>exact zS X ru rv h
 case Sub=>exact gF u v h ru rv fun _ _ _ _ h=>dm r h (sub_int (PI X _ _ _))
 case FloorDiv=>exact gF u v h ru rv fun _ _ _ _ h=>fI h fun q h=>dm r h (AutoIntOpsIf.floordiv (by
   rw[if_neg (by simp;exact(Int.ne_of_lt q.2.1).symm),PyProof.noPylong_of_log2 (tS q.2.2)]
   exact PI X _ _ _))
 case Mod=>exact gF u v h ru rv fun _ _ _ _ h=>fI h fun q h=>dm r h (mod_int (Int.ne_of_gt q) (PI X _ _ _))
 case Pow=>exact gF u v h ru rv fun _ _ _ _ h=>fI h fun q h=>dm r h (by
   obtain⟨rfl,rfl⟩:=q
   exact pow_int_small (by decide) (by decide) (by decide) (PI X _ _ _))
 all_goals cases h
theorem zT(hA:AO A d)(X:St c f m cel s.heap led T H){op:Operator}(ru:VR c.K (ai led) T u x)(rv:VR c.K (ai led) T v y)(h:cB H op x y=some (mv,H')):
  wpAny (model c.prog c.w) A (binaryOp op u v) (PV c f m cel led T s mv H') no s:=wT X ru rv h
theorem kj{value slice:Expr}{o i:Value}{Q:Value→Shared→Prop}{E:Value→Shared→Prop}{T id:String}(hT:s.TypeIs o T)(hl:typeLookup (.type T) "__getitem__" =pure (some (.builtin id)))
  (hs: ∀a b p,slice≠ .Slice a b none p) (h:wpAny (model c.prog c.w) A (getItem o i) Q E s):wpAny (model c.prog c.w) A (subscriptTail value slice o i) Q E s:=by
 refine kba_turn (value':= .Name "x" default) (fun _=>rfl) (subscriptTail_builtin hT hl h ?_ fun _=>rfl)
 cases slice with
 |Slice a b st p=>
  cases st with
  |none=>exact absurd rfl (hs a b p)
  |some z=>rfl
 |_=>rfl
theorem VRs.idx{K:Frag}{as:List Addr}{T:aN}{vs:List Value}{xs:List MV}(h:VRs K as T vs xs){i:Nat}{x:MV}(e:xs[i]?=some x): ∃v,vs.toArray[i]?=some v∧VR K as T v x:=by
 obtain⟨v,a,b⟩:=h.get e
 exact⟨v,by simpa using a,b⟩
theorem tT{k:Int}{n j:Nat}(h:idx k n=some j)(hn:n≤dK):(0≤k∧k<2^63∧j=k.toNat∧j<n)∨(k= -1∧0<n∧j=n- 1):=by
 unfold dK at hn
 unfold idx at h
 split at h
 ·rename_i q
  cases h
  have q1:=q.1
  have q2:=q.2
  exact .inl ⟨q1,by omega,rfl,by exact aq [_] [_,_] 8969 17441 281217 139346 q2 (tN q1)⟩
 ·split at h
  ·rename_i q;cases h;exact .inr ⟨q.1,q.2,rfl⟩
  ·cases h
theorem nv(X:St c f m cel s.heap led T H){κ:Type} [DecidableEq κ]{mk:κ→Value→Prop}{hs':κ→Int}{knd:KeyKind c.prog c.w κ}(q:Kd (c:=c) mk hs' knd){value slice:Expr}(hs: ∀a b p,slice≠ .Slice a b none p){a:Addr}{des:List DictEntry}{k:Nat}{es:List (κ×MV)}{z:κ}
  (hg:s.heap.get? a=some (dictOf des k)) (r:KRs mk hs' c.K (ai led) T des es) (nd:(es.map (·.1)).Nodup) (hk:knd.is z v=true) (h:cN z es=some mv):
  wpAny (model c.prog c.w) A (subscriptTail value slice (.ref a) v) (PV c f m cel led T s mv H) no s:=by
 obtain⟨ps,D,r⟩:=gN (n:=k) q r nd
 have hD:s.heap.DictOf knd a ps:=Heap.dictOf_iff.mpr ⟨_,hg,D⟩
 rcases r.at_ z with ⟨q1,q2⟩|⟨w,y,q1,q2,q3⟩
 ·rw[q1] at h;cases h
 ·rw[q1] at h;cases h
  exact kj (T:= "dict") hD.typeIs slot_dict_getitem.lookup hs (wpAny_getItem_of hk hD.mapOf q2 (PV.done (s₁:={s with toks:=s.toks+1}) X q3 ⟨s.heap,s.toks+1,rfl⟩))
theorem SR.bdct(X:St c f m cel s.heap led T H){n:Nat}{es:List (List UInt8×MV)}(r:VR c.K (ai led) T u (.loc n))(e:H[n]?=some (.bdict es)):
  ∃a des k,u= .ref a∧s.heap.get? a=some (dictOf des k)∧Dw c.w.params c.K (ai led) T des es∧(es.map (·.1)).Nodup:=by
 obtain⟨a,o,rfl,h0,h1,h2,h3⟩:=X.ref r e
 cases h3 with
 |bdict k g2 g3 g4=>exact⟨a,_,k,rfl,h2,g2,g4⟩
theorem rJ(X:St c f m cel s.heap led T H){value slice:Expr}(hs: ∀a b p,slice≠ .Slice a b none p){n j:Nat}{k:Int}{l:List MV}(t:Tok)(ru:VR c.K (ai led) T u (.loc n))(e1:aH H n=some l)(e3:idx k l.length=some j)(e4:l[j]?=some mv):wpAny (model c.prog c.w) A (subscriptTail value slice u (.int k t)) (PV c f m cel led T s mv H) no s:=by
 refine rB fun Q hq=> ?_
 obtain⟨a,vs,kk,rfl,_,h1,h2,h3⟩:=X.lst ru (bp e1)
 have L:s.heap.IsList a vs.toArray:=⟨_,h1,rfl,kk,rfl⟩
 have hlen:=h2.len
 obtain⟨w,g1,g2⟩:=h2.idx e4
 have go:=hq _ _ (PV.done X g2 (.refl s))
 clear hq
 refine kj (T:= "list") ⟨_,h1,rfl⟩ list_getitem_lookup hs ?_
 rcases tT e3 (hlen▸h3) with ⟨q1,q2,q3,q4⟩|⟨q1,q2,q3⟩
 ·exact wpAny_getItem_list L q1 q2 (q3▸g1) go
 ·subst q1
  refine wpAny_getItem_list_neg L (by decide) (by simp;exact aq [] [_,_] 0x814230 1505 8970 278585 hlen q2) (by decide) (x:=w) ?_ go
  rw[←g1];congr 1;simp;exact eo [] [_,_,_,_,_] 8970 0x22f8bc2f8be21 10026 10522 0x91423102052 0x8cb3286852 hlen q3 (tN (aq [] [_,_] 0x81423100030 1505 8970 278585 hlen q2)) (oS (af [] [_] 262712 33 262201 q2))
theorem tU(X:St c f m cel s.heap led T H){value slice:Expr}(hs: ∀a b p,slice≠ .Slice a b none p){k:Int}{l:List MV}(t:Tok)(ru:VR c.K (ai led) T u (.tup l))(q:0≤k∧k<l.length)(h:l[k.toNat]?=some mv):wpAny (model c.prog c.w) A (subscriptTail value slice u (.int k t)) (PV c f m cel led T s mv H) no s:=by
 refine rB fun Q hq=> ?_
 obtain⟨a,vs,rfl,h1,h2,h3⟩:=X.isTup ru
 have hlen:=h2.len
 unfold dK at h3
 obtain⟨w,g1,g2⟩:=h2.idx h
 have hq1:=q.1
 have hq2:=q.2
 refine kj (T:= "tuple") h1.typeIs slot_tuple_getitem.lookup hs (getItem_tuple h1 (by omega) (by omega) (j:=k.toNat) ?_ g1 (hq _ _ (PV.done X g2 (.refl s))))
 clear hq
 unfold seqIndex?
 simp only[List.size_toArray]
 split<;>split<;>first|rfl|(exfalso;simp at*;omega)
theorem wU(X:St c f m cel s.heap led T H){value slice:Expr}(hs: ∀a b p,slice≠ .Slice a b none p)(ru:VR c.K (ai led) T u x)(rv:VR c.K (ai led) T v y)(h:eC H x y=some mv):
  wpAny (model c.prog c.w) A (subscriptTail value slice u v) (PV c f m cel led T s mv H) no s:=by
 cases y with
 |int k=>
  refine nt (P:=fun v=>wpAny (model c.prog c.w) A (subscriptTail value slice u v) (PV c f m cel led T s mv H) no s) v rv fun t=> ?_
  cases x with
  |loc n=>exact fG h fun l e1 e2=>fG e2 fun j e3 e4=>rJ X hs t ru e1 e3 e4
  |tup l=>
   obtain⟨q,h⟩:=tK h
   exact tU X hs t ru q h
  |_=>cases h
 |str z=>
  refine zN (P:=fun v=>wpAny (model c.prog c.w) A (subscriptTail value slice u v) (PV c f m cel led T s mv H) no s) v rv fun t=>fG h fun n e1 e2=>fG e2 fun es e3 e4=> ?_
  cases bj e1
  exact lk (P:=fun u=>wpAny (model c.prog c.w) A (subscriptTail value slice u (.str z t)) (PV c f m cel led T s mv H) no s) u X ru e3 fun a des k _ h1 h2 h3 h4=>nv X (Kd.str (c:=c)) hs h1 h2 h4 (strKind_is _ _ _ _) e4
 |bytes z=>
  obtain⟨n,e1,e2⟩:=ag h
  obtain⟨es,e3,e4⟩:=ag e2
  cases bj e1
  obtain⟨_,_,rfl,rfl⟩:=rv.isY
  obtain⟨a,des,k,rfl,h1,h2,h4⟩:=X.bdct ru (oJ e3)
  exact nv X (Kd.byt (c:=c)) hs h1 h2 h4 (by simp[bytesKind,isBytes]) e4
 |_=>cases h
theorem rK{K:Frag}{as:List Addr}{T:aN}(r:VR K as T v mv)(h:mf mv=true):handedIn v=true:=by
 cases r<;>first|rfl|cases h
theorem wV{P:Params}{K:Frag}{as:List Addr}{T:aN}{es:List DictEntry}{ys:List (Str×MV)}(h:pQ P K as T es ys):es.any (·.refKey)=false:=by
 induction h with
 |nil=>rfl
 |cons h _ _ ih=>obtain⟨t,rfl⟩:=h;rw[List.any_cons,ih];rfl
theorem tV{P:Params}{K:Frag}{as:List Addr}{T:aN}(x:Str){es:List DictEntry}{ys:List (Str×MV)}(h:pQ P K as T es ys):
  (cN x ys=none∧es.find? (·.key.isStr x)=none)∨ ∃e y,cN x ys=some y∧es.find? (·.key.isStr x)=some e∧VR K as T e.val y:=by
 induction h with
 |nil=>exact .inl ⟨rfl,rfl⟩
 | @cons z k v y es ys h r _ i=>
  obtain⟨t,rfl⟩:=h
  by_cases q:z=x
  ·exact .inr ⟨⟨PyData.keyHash P z,.str z t,v⟩,y,by simp[cN,q],by rw[List.find?_cons];simp[Value.isStr,q],r⟩
  ·have e:(Value.str z t).isStr x=false:=by simp[Value.isStr,q]
   simp only[cN,q,if_false,List.find?_cons,e,Bool.false_eq_true]
   exact i
theorem km{P:Params}{K:Frag}{as:List Addr}{T:aN}(x:Str){es:List DictEntry}{ys:List (Str×MV)}(h:pQ P K as T es ys):
  (cN x ys=none∧getL x es=some none)∨ ∃v y,cN x ys=some y∧getL x es=some (some v)∧VR K as T v y:=by
 unfold getL
 rcases tV x h with ⟨a,b⟩|⟨e,y,a,b,r⟩
 ·exact .inl ⟨a,by rw[b,wV h];rfl⟩
 ·exact .inr ⟨e.val,y,a,by rw[b],r⟩
theorem wW{P:Params}{K:Frag}{as:List Addr}{T:aN}{x:Str}{t:Tok}{v:Value}{y:MV}(hv:VR K as T v y){es:List DictEntry}{ys:List (Str×MV)}(h:pQ P K as T es ys):
  pQ P K as T (putL x (PyData.keyHash P x) (.str x t) v es) (ce x y ys):=by
 induction h with
 |nil=>exact .cons ⟨t,rfl⟩ hv .nil
 | @cons z _ _ _ _ _ h r k ih=>
  obtain⟨t',rfl⟩:=h
  by_cases q:z=x
  ·have e:(Value.str z t').isStr x=true:=by simp[Value.isStr,q]
   simp only[putL,e,if_true,ce];rw[if_pos q];exact .cons ⟨t',rfl⟩ hv k
  ·have e:(Value.str z t').isStr x=false:=by simp[Value.isStr,q]
   simp only[putL,e,Bool.false_eq_true,if_false,ce];rw[if_neg q];exact .cons ⟨t',rfl⟩ r ih
theorem SR.instAt(X:St c f m cel s.heap led T H){n dn:Nat}{C:Addr}{es:List (Str×MV)}(r:VR c.K (ai led) T u (.loc n))(e1:H[n]?=some (.inst C dn))(e2:H[dn]?=some (.dict es)):
  ∃a dx des k,u= .ref a∧InstAt s.heap a (instObj C dx) C (some (dictOf des k))∧led[dn]?=some (dx,dictOf des k)∧pQ c.w.params c.K (ai led) T des es∧des.length≤500∧(es.map (·.1)).Nodup:=by
 obtain⟨a,dx,rfl,h1,h2,h3⟩:=X.ist r e1
 obtain⟨dx',des,k,h4,h5,h6,h7,h8,h9⟩:=X.dct (v:= .ref dx) (.loc h3) e2
 cases h4
 exact⟨a,dx,des,k,rfl,InstAt.of_news X.N (X.inLed h1) (X.inLed h5),h5,h7,h8,h9⟩
theorem p6{K:Frag}{C:Addr}{z:Str}(q:kZ K C z=true):plainGet K C z=true∧hasDictIn K C=true∧findIn K (.ref C) z=some none∧findIn K (.ref C) "__setattr__" =some (some (.builtin "object.__setattr__"))∧plainOver K C=true∧takerIn K C z=some none:=by
 unfold kZ at q
 simp only[Bool.and_eq_true,beq_iff_eq] at q
 obtain⟨⟨⟨⟨⟨q1,q2⟩,q3⟩,q4⟩,q5⟩,q6⟩:=q
 exact⟨q1,q2,q3,q4,q5,q6⟩
theorem wX(X:St c f m cel s.heap led T H){z:Str}(ru:VR c.K (ai led) T u x)(h:jv c.K H x z=some mv){ex:Bool}:
  wpAny (model c.prog c.w) A (getAttr u z ex) (PV c f m cel led T s mv H) no s:=by
 obtain⟨n,e1,e2⟩:=ag h
 obtain⟨p,e3,e4⟩:=ag e2
 obtain⟨es,e5,e6⟩:=ag e4
 cases bj e1
 split at e6
 ·rename_i q
  obtain⟨w,h1,h2⟩:=ag e6
  split at h2
  ·rename_i g
   cases h2
   obtain⟨a,dx,des,k,rfl,I,h5,h6,h7,h8⟩:=X.instAt ru (lf e3) (eM e5)
   obtain⟨q1,q2,q3,_⟩:=p6 q
   rcases km z h6 with ⟨a1,a2⟩|⟨v,y,a1,a2,a3⟩
   ·rw[a1] at h1;cases h1
   ·rw[a1] at h1;cases h1
    exact get_own X.F X.X I q1 q2 q3 rfl a2 (rK a3 g) (PV.done (s₁:={s with toks:=s.toks+1}) X a3 ⟨s.heap,s.toks+1,rfl⟩)
  ·cases h2
 ·cases e6
theorem ko{κ:Type}(z:κ) [DecidableEq κ](y:MV)(l:List (κ×MV)):(ce z y l).length≤l.length+1:=by
 induction l with
 |nil=>simp[ce]
 |cons p r ih=>simp only[ce];split<;>simp<;>exact ih
theorem wY(X:St c f m cel s.heap led T H){z:Str}(ru:VR c.K (ai led) T u x)(rv:VR c.K (ai led) T v y)(h:k8 c.K H x z y=some H'):
  wpAny (model c.prog c.w) A (setAttr u z v) (PU c f m cel led T s H') no s:=by
 obtain⟨n,e1,e2⟩:=ag h
 obtain⟨p,e3,e4⟩:=ag e2
 obtain⟨es,e5,e6⟩:=ag e4
 cases bj e1
 split at e6
 ·rename_i q
  obtain⟨q,ql⟩:=q
  cases e6
  obtain⟨a,dx,des,k,rfl,I,h5,h6,h7,h8⟩:=X.instAt ru (lf e3) (eM e5)
  obtain⟨q1,q2,q3,q4,q5,q6⟩:=p6 q
  have hl:(getL z des).isSome=true:=by
   rcases km z h6 with ⟨a1,a2⟩|⟨v,y,a1,a2,a3⟩<;>rw[a2]<;>rfl
  have r':pQ c.w.params c.K (ai led) T (putL z (PyData.keyHash c.w.params z) (.str z (s.toks+1)) v des) (ce z y es):=wW rv h6
  have len:(putL z (PyData.keyHash c.w.params z) (.str z (s.toks+1)) v des).length≤401:=by
   rw[r'.len];have:=ko z y es;exact aq [] [_,_] 0xc888908 1057 0xc808919 0x11c4108 ql this
  refine set_dict X.F X.X X.N I rfl q4 q5 q6 q2 hl rfl (X.updL _ h5) (by exact af [] [_] 0x1f408908 33 0xc888908 len) (fun h' F N=> ?_)
  exact⟨_,T,X.put h5 F N (.dict _ r' (by exact af [] [_] 0xfa08908 33 0xc888908 len) (gM z y es h8).1),f7 h5 T,⟨h',_,rfl⟩⟩
 ·cases e6
theorem SR.below{h:Heap}(X:St c f m cel h led T H){n:Nat}{p:Addr×Obj}(e:led[n]?=some p){D:Addr}(l1: ∀p∈cel++(led++T),p.1<D):(∀p∈cel++(led++T),p.1≠D)∧3<D:=
 ⟨fun p hp=>Nat.ne_of_lt (l1 p hp),Nat.lt_trans (X.hi _ (mG e)) (l1 _ (X.inLed e))⟩
theorem SR.sq{h:Heap}(X:St c f m cel h led T H){l:List MV}(r:VR c.K (ai led) T v x)(e:fc H x=some l):
  ∃a vs k,v= .ref a∧h.get? a=some (listOf vs.toArray k)∧VRs c.K (ai led) T vs l∧vs.length≤dK∧ ∀D,(∀p∈cel++(led++T),p.1<D)→(∀p∈cel++(led++T),p.1≠D)∧3<D:=by
 cases x with
 |loc n=>
  obtain⟨ad,vs,k,rfl,h0,h1,h2,h3⟩:=X.lst r (bp e)
  exact⟨ad,vs,k,rfl,h1,h2,h3,fun D l1=>X.below h0 l1⟩
 |rol l'=>
  cases e
  obtain⟨_,_,_,rfl,i,h1,h2,h3⟩:=r.inv
  ·have hm:=mR cel (mR led h1)
   exact⟨_,_,_,rfl,(X.N _ hm).1,h3,h2,fun D l1=>⟨fun p hp=>Nat.ne_of_lt (l1 p hp),Nat.lt_trans i (l1 _ hm)⟩⟩
 |_=>cases e
theorem wZ(X:St c f m cel s.heap led T H){value:Expr}{lo hi:Option Expr}{p:Pos}{l:List MV}{vl vu:Value}{a b:Option Int}(ru:VR c.K (ai led) T u x)(e:fc H x=some l)(pl:IsPart vl a)(pu:IsPart vu b):
  wpAny (model c.prog c.w) A (subscriptTail value (.Slice lo hi none p) u (.ref s.heap.objs.size)) (PV c f m cel led T s (.loc H.length) (H++[.list (aI l a b)])) no {s with heap:=s.heap.push {cls:= .type "slice",data:= .fields #[vl,vu,.none]}}:=by
 obtain⟨ad,vs,k,rfl,h1,h2,h3,h0⟩:=X.sq ru e
 refine kba_turn (value':= .Name "x" default) (fun _=>rfl) ?_
 refine kms_slice_lit X.F X.N ⟨_,h1,rfl,k,rfl⟩ pl pu rfl (fun D h' F N l1=> ?_) rfl (fun _=>rfl) (Nat.le_trans (by simpa using h3) (by decide))
 obtain⟨z1,z2⟩:=h0 _ l1
 have hl:=h2.len
 refine d7 (vs:=kms_pick vs a b) (tk:=s.toks) X z1 z2 F N ?_ ?_
 ·unfold kms_pick aI
  rw[show fb a l.length=kms_lo a vs.length by rw[hl];rfl,show fF b l.length=kms_hi b vs.length by rw[hl];rfl]
  exact(h2.drop _).take _
 ·unfold kms_pick;simp;exact Nat.le_trans (Nat.min_le_right _ _) (Nat.le_trans (Nat.sub_le _ _) h3)
theorem PU.done(X:St c f m cel s.heap led T H):PU c f m cel led T s H () s:=⟨led,T,X,.refl,.refl s⟩
theorem p7(X:St c f m cel s.heap led T H){n:Nat}{a:Addr}{vs ws:List Value}{ms:List MV}{k:Nat}{g:Array Value→Array Value}(e:led[n]?=some (a,listOf vs.toArray k))(he:g vs.toArray=ws.toArray)(r:VRs c.K (ai led) T ws ms)(hl:ws.length≤dK)(tk:Nat):
  PU c f m cel led T s (H.set n (.list ms)) () {s with heap:=s.heap.update a (Obj.mapSeq g),toks:=tk}:=by
 have ho:s.heap.get? a=some (listOf vs.toArray k):=(X.N _ (X.inLed e)).1
 have hL:a≠f.L:=(X.N _ (X.inLed e)).2.1
 have h0:f.h₀.get? a=none:=(X.N _ (X.inLed e)).2.2
 have hs:Heap.SameBut a s.heap (s.heap.update a (Obj.mapSeq g)):=Heap.SameBut.update _ _ _
 have U:=X.updL (listOf ws.toArray (if ws.toArray.size==vs.toArray.size then k else k+1)) e
 obtain⟨pre,post,q1,q2,q3,q4⟩:=U.split
 have N':News f.h₀ f.L (s.heap.update a (Obj.mapSeq g)) (cel++(led.set n (a,listOf ws.toArray (if ws.toArray.size==vs.toArray.size then k else k+1))++T)):=by
  rw[q2]
  exact ki_turn g (q1▸X.N) q3 q4 he rfl
 have F':Fr f.h₀ f.L (s.heap.update a (Obj.mapSeq g)) m:=X.F.change hs hL h0
 exact⟨_,T,X.put e F' N' (.list _ r hl),f7 e T,⟨_,tk,rfl⟩⟩
theorem SR.newsAt(X:St c f m cel s.heap led T H){n:Nat}{a:Addr}{o o':Obj}{h':Heap}(e:led[n]?=some (a,o))(hs:Heap.SameBut a s.heap h')(ho:h'.get? a=some o'):
  News f.h₀ f.L h' (cel++(led.set n (a,o')++T))∧Fr f.h₀ f.L h' m:=by
 obtain⟨pre,post,q1,q2,q3,q4⟩:=(X.updL o' e).split
 have z:=X.N _ (X.inLed e)
 refine⟨?_,X.F.change hs z.2.1 z.2.2⟩
 rw[q2]
 exact news_set (q1▸X.N) q3 q4 hs ho
theorem p9(X:St c f m cel s.heap led T H){κ:Type} [DecidableEq κ]{mk:κ→Value→Prop}{hs':κ→Int}{knd:KeyKind c.prog c.w κ}(q:Kd (c:=c) mk hs' knd){n:Nat}{a:Addr}{des:List DictEntry}{k:Nat}{es:List (κ×MV)}{z:κ}{zv:Value}{o:List (κ×MV)→MObj}
  (hO: ∀des k es,KRs mk hs' c.K (ai led) T des es→des.length≤500→(es.map (·.1)).Nodup→OR c.w.params c.K (ai led) T (dictOf des k) (o es))
  (h0:led[n]?=some (a,dictOf des k)) (r:KRs mk hs' c.K (ai led) T des es) (nd:(es.map (·.1)).Nodup) (hz:es.length<400) (hk:knd.is z zv=true) (rv:VR c.K (ai led) T v y):
  wpAny (model c.prog c.w) A (setItem (.ref a) zv v) (PU c f m cel led T s (H.set n (o (ce z y es)))) no s:=by
 have h1:=(X.N _ (X.inLed h0)).1
 obtain⟨ps,D,r⟩:=gN (n:=k) q r nd
 refine wpAny_setItem_pairs hk (Heap.dictOf_iff.mpr ⟨_,h1,D⟩) (fun h' D' hs=> ?_) (by rw[r.len];unfold sizeLine;omega)
 obtain⟨o',g1,g2⟩:=Heap.dictOf_iff.mp D'
 obtain⟨es',k',rfl,g3⟩:=oT q g2 (r.stored rv nd)
 obtain⟨N',F'⟩:=X.newsAt h0 hs g1
 exact⟨_,T,X.put h0 F' N' (hO _ _ _ g3 (by rw[g3.len];have:=ko z y es;omega) (gM z y es nd).1),f7 h0 T,⟨h',_,rfl⟩⟩
theorem FE(n:Nat):(-1+(n:Int)).toNat=n- 1:=by omega
theorem xa(X:St c f m cel s.heap led T H){n j:Nat}{k:Int}{l:List MV}(t:Tok)(ru:VR c.K (ai led) T u (.loc n))(rv:VR c.K (ai led) T v y)(e3:aH H n=some l)(e5:idx k l.length=some j):wpAny (model c.prog c.w) A (setItem u (.int k t) v) (PU c f m cel led T s (H.set n (.list (l.set j y)))) no s:=by
 refine rB fun Q hq=> ?_
 obtain⟨a,vs,kk,rfl,h0,h1,h2,h3⟩:=X.lst ru (bp e3)
 have hlen:=h2.len
 have go: ∀i,i=j→Q () {s with heap:=s.heap.update a (Obj.mapSeq fun xs=>xs.set! i v)}:=fun i e=>by
  subst e
  exact hq _ _ (p7 (ws:=vs.set i v) X h0 (by simp) (VRs.set rv h2 _) (by simpa using h3) s.toks)
 clear hq
 rcases tT e5 (hlen▸h3) with ⟨q1,q2,q3,q4⟩|⟨q1,q2,q3⟩
 ·exact ki_setAt h1 q1 q2 (by rw[List.size_toArray,hlen];exact(Int.toNat_lt q1).mp (q3▸q4)) (go _ q3.symm)
 ·subst q1
  exact ki_setBack h1 (by decide) (by rw[List.size_toArray,hlen];exact Int.neg_le_neg (Int.ofNat_le.mpr q2)) (by decide) (go _ (by rw[List.size_toArray,hlen,q3];exact FE _))
theorem xb(X:St c f m cel s.heap led T H){z:MV}{zv:Value}(ru:VR c.K (ai led) T u x)(rz:VR c.K (ai led) T zv z)(rv:VR c.K (ai led) T v y)(h:iN H x z y=some H'):
  wpAny (model c.prog c.w) A (setItem u zv v) (PU c f m cel led T s H') no s:=fG h fun n e1 e2=>by
 cases bj e1
 cases z with
 |int k=>exact fG e2 fun l e3 e4=>fG e4 fun j e5 e6=>oI e6▸nt (P:=fun zv=>wpAny (model c.prog c.w) A (setItem u zv v) (PU c f m cel led T s _) no s) zv rz fun t=>xa X t ru rv e3 e5
 |str z=>
  exact fG e2 fun es e3 e4=>fI e4 fun q e4=>oI e4▸zN (P:=fun zv=>wpAny (model c.prog c.w) A (setItem u zv v) (PU c f m cel led T s _) no s) zv rz fun t=>
   lk (P:=fun u=>wpAny (model c.prog c.w) A (setItem u (.str z t) v) (PU c f m cel led T s _) no s) u X ru e3 fun a des k h0 h1 h2 h3 h4=>p9 X (Kd.str (c:=c)) (fun des k es a b e=> .dict k a b e) h0 h2 h4 q (strKind_is _ _ _ _) rv
 |bytes z=>
  refine fG e2 fun es e3 e4=>fI e4 fun q e4=>oI e4▸mn (P:=fun zv=>wpAny (model c.prog c.w) A (setItem u zv v) (PU c f m cel led T s _) no s) zv rz fun ba t hb=> ?_
  cases List.isEmpty_iff.mp q
  subst hb
  exact lk (P:=fun u=>wpAny (model c.prog c.w) A (setItem u (.bytes ba t) v) (PU c f m cel led T s _) no s) u X ru e3 fun a des k h0 h1 h2 h3 h4=>by
   cases h2
   exact p9 (z:=ba.toList) (es:=[]) X (Kd.byt (c:=c)) (fun des k es a b e=> .bdict k a b e) h0 .nil (by simp) (by decide) (by simp[bytesKind,isBytes]) rv
 |_=>cases e2
theorem gO{M:Model}{E:Value→Shared→Prop}{Q:Array Value→Shared→Prop}{b:Addr}{new:Array Value}{nb:Nat}(hb:s.heap.get? b=some (listOf new nb))(h:Q new s):wpAny M A (Builtin.List.listItems (.ref b)) Q E s:=by
 unfold Builtin.List.listItems
 exact wpAny_bind (wpAny_seqItems hb rfl (wpAny_pure h))
theorem tW{M:Model}{E:Value→Shared→Prop}{Q:Array Value→Shared→Prop}{b:Addr}{new:Array Value}{nb:Nat}{z:String}(hb:s.heap.get? b=some (listOf new nb))(h:Q new s):wpAny M A (Builtin.List.listAllItems (.ref b) z) Q E s:=by
 unfold Builtin.List.listAllItems
 refine wpAny_bind (wpAny_typeOf (T:= "list") ⟨_,hb,rfl⟩ ?_)
 rw[if_pos (by decide)]
 first
  |exact wpAny_bind (gO hb (wpAny_pure h))
  |exact gO hb h
theorem E6{a b c d n:Nat}(h:b+c≤n)(h1:a≤d):min a b+c+(b- d)≤n:=by
 rw[Nat.add_right_comm]
 refine Nat.le_trans (Nat.add_le_add_right ?_ c) h
 rcases Nat.le_total d b with q|q
 ·exact Nat.le_trans (Nat.add_le_add_right (Nat.le_trans (Nat.min_le_left a b) h1) _) (Nat.le_of_eq (Nat.add_sub_cancel' q))
 ·rw[Nat.sub_eq_zero_of_le q];exact Nat.min_le_right a b
theorem BC{a b c d n:Nat}(h:b+c≤n)(h1:a≤d):min a b- 0+c+(min b b- d)≤n+1:=by
 rw[Nat.sub_zero,Nat.min_self]
 exact Nat.le_succ_of_le (E6 h h1)
theorem rL{E:Value→Shared→Prop}{Q:Unit→Shared→Prop}{l b sl:Addr}{items new:Array Value}{n nb:Nat}{vl vu:Value}{lo hi:Int}(ho:s.heap.get? l=some (listOf items n))(hb:s.heap.get? b=some (listOf new nb))(hne:l≠b)
  (hs:s.heap.IsSliceOf sl vl vu .none) (pl:IsPart vl (some lo)) (pu:IsPart vu (some hi)) (hz:items.size+new.size≤sizeLine) (h0:0≤lo) (h1:lo≤hi) (h2:hi≤items.size)
  (hQ:Q () {s with heap:=s.heap.update l (Obj.mapSeq fun xs=>xs.extract 0 lo.toNat++new++xs.extract hi.toNat xs.size)}):
  wpAny (model c.prog c.w) A (setItem (.ref l) (.ref sl) (.ref b)) Q E s:=by
 have hl:s.heap.IsList l items:=⟨_,ho,rfl,n,rfl⟩
 obtain⟨os,hos,hcs,hds⟩:=id hs
 have hTs:s.TypeIs (.ref sl) "slice" :=⟨os,hos,hcs⟩
 unfold setItem
 try refine' wpAny_holding ?_
 first|refine wpAny_bind (wpAny_pure ?_)|skip
 refine wpAny_bind (wpAny_sequenceKey hl.typeIs (by decide) ?_)
 refine wpAny_bind (wpAny_callSpecial?_slot (name:=Str.ofString "__setitem__") hl.typeIs slot_list_setitem
  (wpAny_call_entry slot_list_setitem hl.typeIs entry_list_setitem ?_ (args_list_setitem _ _ _)))
 show wpAny _ _ (Builtin.List.listSubscript? (.ref sl)>>=_) _ _ s
 refine wpAny_bind ?_
 unfold Builtin.List.listSubscript?
 refine wpAny_bind (wpAny_specialOf hTs slice_no_index ?_)
 simp only[Option.isNone_none,if_true]
 refine wpAny_pure ?_
 show wpAny _ _ (typeOf (.ref sl)>>=_) _ _ s
 refine wpAny_bind (wpAny_typeOf hTs ?_)
 rw[if_neg (by decide)]
 rw[listSliceParts_eq]
 refine wpAny_bind (wpAny_bind (wpAny_field hos hds (x:= .none) rfl (wpAny_bind (wpAny_listPart .none ?_))))
 rw[if_neg (by decide)]
 refine wpAny_bind (wpAny_field hos hds (x:=vl) rfl (wpAny_bind (wpAny_listPart pl ?_)))
 refine wpAny_bind (wpAny_field hos hds (x:=vu) rfl (wpAny_bind (wpAny_listPart pu (wpAny_pure ?_))))
 rw[if_neg (by simp[Builtin.List.listSameRef,hne])]
 refine wpAny_bind (tW hb ?_)
 refine wpAny_bind (gO ho ?_)
 refine wpAny_bind (wpAny_of_eq (sliceIndices_raw (some lo) (some hi) none items.size (by simp)) ?_)
 have e1:sliceBounds (some lo) (some hi) none items.size=(lo,hi,1):=by
  simp only[sliceBounds,Option.getD_none,show(1:Int)>0 by decide,if_true]
  rw[if_neg (Int.not_lt.mpr h0),if_neg (Int.not_lt.mpr (Int.le_trans h0 h1)),Int.min_eq_left (Int.le_trans h1 h2),Int.min_eq_left h2,Int.max_eq_right h0,Int.max_eq_right (Int.le_trans h0 h1)]
 rw[e1]
 dsimp only
 rw[if_pos (by decide)]
 refine wpAny_bind (wpAny_rule ?_)
 rw[if_neg (fun q:Builtin.List.listTooLong (items.size+new.size)=true=>Nat.not_lt.mpr hz (of_decide_eq_true q)),Int.max_eq_right h1]
 refine wpAny_bind ?_
 show wpAny _ _ (updateSeq l _) _ _ s
 refine wpAny_updateSeq ho rfl ?_ (Nat.le_trans (Nat.le_add_right _ _) hz) ?_
 ·refine wpAny_bind (wpAny_letGo ?_)
  exact wpAny_pure ⟨.none,rfl,wpAny_pure hQ⟩
 ·rw[Array.size_append,Array.size_append,Array.size_extract,Array.size_extract];exact BC hz (Int.toNat_le_toNat h1)
theorem SR.fresh0{h:Heap}(X:St c f m cel h led T H):f.h₀.get? h.objs.size=none:=by
 cases q:f.h₀.get? h.objs.size with
 |none=>rfl
 |some o=>exact absurd (Heap.lt_size (X.F.keep _ _ q)) (Nat.lt_irrefl _)
theorem SR.freshL{h:Heap}(X:St c f m cel h led T H):h.objs.size≠f.L:=Nat.ne_of_gt (Heap.Ns.lt X.F.ns)
theorem SR.push1{h h':Heap}(X:St c f m cel h led T H)(hk: ∀b o,h.get? b=some o→h'.get? b=some o){o:Obj}(ho:h'.get? h.objs.size=some o):
  Fr f.h₀ f.L h' m∧News f.h₀ f.L h' ((h.objs.size,o)::(cel++(led++T))):=by
 refine⟨X.F.keeps hk,fun p hp=> ?_⟩
 rcases List.mem_cons.mp hp with rfl|hp
 ·exact⟨ho,X.freshL,X.fresh0⟩
 ·have:=X.N p hp
  exact⟨hk _ _ this.1,this.2⟩
section
variable{g:Value}{xs:List MV}{vs:List Value}
theorem zU(hA:AO A d)(X:St c f m cel s.heap led T H)(r:VRs c.K (ai led) T vs xs)(h:(bd (two xs) fun p=>bd (aF p.1) fun a=>bd (aF p.2) fun b=>some (MV.int (min a b),H))=some (mv,H')):wpAny (model c.prog c.w) A (call (.builtin "min") vs) (PV c f m cel led T s mv H') no s:=
 zO vs h r fun u v x y r1 r2 h=>gF u v h r1 r2 fun i _ j _ h=>by
  cases h
  exact min_two_ints hA.hd fun h' tk hk=>⟨led,T,X.keeps hk,.refl,by
    by_cases q:j<i
    ·rw[if_pos q,Int.min_eq_right (Int.le_of_lt q)];exact .int _ _
    ·rw[if_neg q,Int.min_eq_left (Int.not_lt.mp q)];exact .int _ _,⟨h',tk,rfl⟩⟩
theorem zV(hA:AO A d)(X:St c f m cel s.heap led T H)(r:VRs c.K (ai led) T vs xs)(h:(bd (two xs) fun p=>bd (aF p.1) fun a=>bd (aF p.2) fun b=>some (MV.int (max a b),H))=some (mv,H')):wpAny (model c.prog c.w) A (call (.builtin "max") vs) (PV c f m cel led T s mv H') no s:=
 zO vs h r fun u v x y r1 r2 h=>gF u v h r1 r2 fun i _ j _ h=>by
  cases h
  exact max_two_ints hA.hd fun h' tk hk=>⟨led,T,X.keeps hk,.refl,by
    by_cases q:j>i
    ·rw[if_pos q,Int.max_eq_right (Int.le_of_lt q)];exact .int _ _
    ·rw[if_neg q,Int.max_eq_left (Int.not_lt.mp q)];exact .int _ _,⟨h',tk,rfl⟩⟩
theorem BD{x:MV}{v:Value}(X:St c f m cel s.heap led T H)(r:VR c.K (ai led) T v x){β:Type}{o:β}{k:List MV→Option β}(h:bd (nn H x) k=some o){P:Value→Prop}
  (f: ∀a vs n l,k l=some o→(s.heap.get? a=some (listOf vs.toArray n)∨s.heap.get? a=some (cO vs n))→VRs c.K (ai led) T vs l→vs.length≤dK→P (.ref a)):P v:=by
 obtain⟨l,h3,h4⟩:=ag h
 cases x with
 |loc n=>
  obtain⟨a,vs,k,rfl,_,h1,h2,h3⟩:=X.lst r (bp h3)
  exact f a vs k _ h4 (.inl h1) h2 h3
 |tup l=>
  cases h3
  obtain⟨a,vs,n,rfl,h1,h2,h3⟩:=X.tup r
  exact f a vs n _ h4 (.inr h1) h2 h3
 |_=>cases h3
theorem tX{us:List Value}{k:Nat}(h3:us.length≤dK)(hk:dK≤k):us.toArray.size≤k:=Nat.le_trans h3 hk
theorem tY{us:List Value}(h3:us.length≤dK):(us.toArray.size:Int)<9223372036854775808:=Int.lt_of_le_of_lt (Int.ofNat_le.mpr h3) (by decide)
theorem zW(X:St c f m cel s.heap led T H)(r:VRs c.K (ai led) T vs xs)(h:(bd (one xs) fun v=>bd (nn H v) fun l=>some (MV.int l.length,H))=some (mv,H')):wpAny (model c.prog c.w) A (call (.builtin "len") vs) (PV c f m cel led T s mv H') no s:=
 tM vs h r fun v x r1 h=>BD (P:=fun v=>wpAny (model c.prog c.w) A (call (.builtin "len") [v]) (PV c f m cel led T s mv H') no s) X r1 h fun a vs n l h h1 h2 h3=>by
  cases h
  have e:(vs.toArray.size:Int)=(l.length:Int):=cA _ h2.len
  rcases h1 with h1|h1
  ·exact len_list ⟨_,h1,rfl,n,rfl⟩ (tY h3) (e▸PI X _ _ _)
  ·exact len_tuple ⟨_,h1,rfl,n,rfl⟩ (tY h3) (e▸PI X _ _ _)
theorem xc(X:St c f m cel s.heap led T H)(r:VRs c.K (ai led) T vs xs)(h:(bd (one xs) fun v=>bd (nn H v) fun l=>some (MV.loc H.length,H++[.list l]))=some (mv,H')):wpAny (model c.prog c.w) A (call (.type "list") vs) (PV c f m cel led T s mv H') no s:=
 tM vs h r fun v x r1 h=>BD (P:=fun v=>wpAny (model c.prog c.w) A (call (.type "list") [v]) (PV c f m cel led T s mv H') no s) X r1 h fun a vs n l h h1 h2 h3=>by
  cases h
  have go: ∀h' c',(∀b o,s.heap.get? b=some o→h'.get? b=some o)→h'.get? s.heap.objs.size=some (listOf vs.toArray c')→PV c f m cel led T s (.loc H.length) (H++[.list l]) (.ref s.heap.objs.size) {s with heap:=h'}:=fun h' c' hk ho=>by
   obtain⟨F,N⟩:=X.push1 hk ho
   exact d7 (tk:=s.toks) X X.fresh X.big F N h2 h3
  rcases h1 with h1|h1
  ·exact call_list_seq a (.inl rfl) h1 rfl rfl (fun h' c' hk ho=>go h' c' hk ho) (tX h3 (by decide))
  ·exact call_list_seq a (.inr rfl) h1 rfl rfl (fun h' c' hk ho=>go h' c' hk ho) (tX h3 (by decide))
theorem zX(X:St c f m cel s.heap led T H)(r:VRs c.K (ai led) T vs xs)(h:(bd (one xs) fun v=>bd (bR v) fun n=>bd (aH H n) fun l=>some (MV.tup l,H))=some (mv,H')):wpAny (model c.prog c.w) A (call (.type "tuple") vs) (PV c f m cel led T s mv H') no s:=
 tM vs h r fun v x r1 h=>by
  obtain⟨n,h3,h4⟩:=ag h;obtain⟨l,h5,h6⟩:=ag h4
  cases bj h3;cases h6
  obtain⟨a,vs,k,rfl,h0,h1,h2,h3⟩:=X.lst r1 (bp h5)
  refine kde_tupleOf X.F X.N ⟨_,h1,rfl,k,rfl⟩ (tX h3 (by decide)) rfl (fun D h' F N l1=> ?_)
  exact iQ (tk:=s.toks) X (X.below h0 l1).1 F N h2 h3
theorem zY(X:St c f m cel s.heap led T H)(r:VRs c.K (ai led) T vs xs)(h:(bd (one xs) fun v=>bd (aF v) fun i=>some (MV.int i,H))=some (mv,H')):wpAny (model c.prog c.w) A (call (.type "int") vs) (PV c f m cel led T s mv H') no s:=
 tM vs h r fun v x r1 h=>la v h r1 fun i t h=>by
  cases h
  exact call_int_int (PV.done X (.int _ _) (.refl s))
theorem BE(hA:AO A d)(X:St c f m cel s.heap led T H)(r:VRs c.K (ai led) T vs xs)(h:ja H g xs=some (mv,H')):
  wpAny (model c.prog c.w) A (call g vs) (PV c f m cel led T s mv H') no s:=
 rG g h (fun h=>zU hA X r h) fun h=>rG g h (fun h=>zV hA X r h) fun h=>rG g h (fun h=>zW X r h) fun h=>rG g h (fun h=>xc X r h) fun h=>rG g h (fun h=>zX X r h) fun h=>rG g h (fun h=>zY X r h) fun h=>nomatch h
end
end
structure Cn(c:Cx)(d:Nat)(sc:cu)(σ:aQ)(A:Around)(env:Env)(f:Fx)(m:Str→Option Value)(cel led T:aN)(H:Hp)(s:Shared):Prop where
 A:AO A d
 E:EO env f.L sc
 X:St c f m cel s.heap led T H
 Y:LR c.K (ai led) T env.kindOf env.cells m cel σ
noncomputable def cg(c:Cx)(d:Nat)(sc:cu)(e:Expr)(σ:aQ)(H:Hp)(mv:MV)(H':Hp):Prop:=
 ∀A env f m cel led T s,Cn c d sc σ A env f m cel led T H s→wpAny (model c.prog c.w) A (eval e env) (PV c f m cel led T s mv H') no s
noncomputable def PB(c:Cx)(f:Fx)(m:Str→Option Value)(cel led T:aN)(s:Shared)(b:Bool)(H':Hp)(v:Bool)(s':Shared):Prop:=
 v=b∧PU c f m cel led T s H' () s'
noncomputable def kq(c:Cx)(d:Nat)(sc:cu)(e:Expr)(σ:aQ)(H:Hp)(b:Bool)(H':Hp):Prop:=
 ∀A env f m cel led T s,Cn c d sc σ A env f m cel led T H s→wpAny (model c.prog c.w) A (isTrue e env (eval e env)) (PB c f m cel led T s b H') no s
noncomputable def oC(c:Cx)(d:Nat)(sc:cu)(es:List Expr)(σ:aQ)(H:Hp)(mvs:List MV)(H':Hp):Prop:=
 ∀A env f m cel led T s pos,Cn c d sc σ A env f m cel led T H s→wpAny (model c.prog c.w) A (spliced (backTo pos (starEach es env))) (PVs c f m cel led T s mvs H') no s
noncomputable def zZ(c:Cx)(d:Nat)(sc:cu)(e:Option Expr)(σ:aQ)(H:Hp)(i:Option Int)(H':Hp):Prop:=
 ∀A env f m cel led T s,Cn c d sc σ A env f m cel led T H s→wpAny (model c.prog c.w) A (evalPart e env) (fun v s'=>IsPart v i∧PU c f m cel led T s H' () s') no s
noncomputable def qa(c:Cx)(d:Nat):dJ:=fun a xs H mv H'=>keepIn c.K (.ref a)=true∧
 ∀A f m cel led T s vs,AO A d→St c f m cel s.heap led T H→VRs c.K (ai led) T vs xs→wpAny (model c.prog c.w) A (call (.ref a) vs) (PV c f m cel led T s mv H') no s
noncomputable def oV(c:Cx)(O:dJ)(d:Nat):Prop:= ∀a xs H mv H',O a xs H mv H'→qa c d a xs H mv H'
section
variable{c:Cx}{O:dJ}{d:Nat}{sc:cu}{σ:aQ}{A:Around}{env:Env}{f:Fx}{m:Str→Option Value}{cel led T led' T':aN}{H H' H1:Hp}{s s':Shared}{mv x:MV}{e:Expr}{b:Bool}
theorem Cn.to(C:Cn c d sc σ A env f m cel led T H s)(X:St c f m cel s'.heap led' T' H')(e:Ext (ai led) T (ai led') T'):Cn c d sc σ A env f m cel led' T' H' s':=⟨C.A,C.E,X,C.Y.mono e⟩
theorem bG: ∀ (e:Value) (s:Shared),no e s→no e s:=fun _ _ h=>h
theorem cg.then(h:cg c d sc e σ H x H1)(C:Cn c d sc σ A env f m cel led T H s){Q:Value→Shared→Prop}
  (k: ∀led1 T1 v s1,Cn c d sc σ A env f m cel led1 T1 H1 s1→Ext (ai led) T (ai led1) T1→VR c.K (ai led1) T1 v x→Ok s s1→Q v s1):wpAny (model c.prog c.w) A (eval e env) Q no s:=
 wpAny_mono (h A env f m cel led T s C) (fun v s1 pz=>by obtain⟨l,t,X,e,r,o⟩:=pz;exact k l t v s1 (C.to X e) e r o) bG
theorem kq.then(h:kq c d sc e σ H b H1)(C:Cn c d sc σ A env f m cel led T H s){Q:Bool→Shared→Prop}
  (k: ∀led1 T1 s1,Cn c d sc σ A env f m cel led1 T1 H1 s1→Ext (ai led) T (ai led1) T1→Ok s s1→Q b s1):wpAny (model c.prog c.w) A (isTrue e env (eval e env)) Q no s:=
 wpAny_mono (h A env f m cel led T s C) (fun v s1 pz=>by obtain⟨q,l,t,X,e,o⟩:=pz;exact q▸k l t s1 (C.to X e) e o) bG
theorem oC.then{es:List Expr}{xs:List MV}(h:oC c d sc es σ H xs H1)(C:Cn c d sc σ A env f m cel led T H s){pos:Pos}{Q:List Value→Shared→Prop}
  (k: ∀led1 T1 vs s1,Cn c d sc σ A env f m cel led1 T1 H1 s1→Ext (ai led) T (ai led1) T1→VRs c.K (ai led1) T1 vs xs→Ok s s1→Q vs s1):wpAny (model c.prog c.w) A (spliced (backTo pos (starEach es env))) Q no s:=
 wpAny_mono (h A env f m cel led T s pos C) (fun v s1 pz=>by obtain⟨l,t,X,e,r,o⟩:=pz;exact k l t v s1 (C.to X e) e r o) bG
theorem zZ.then{es:Option Expr}{i:Option Int}(h:zZ c d sc es σ H i H1)(C:Cn c d sc σ A env f m cel led T H s){Q:Value→Shared→Prop}
  (k: ∀led1 T1 v s1,Cn c d sc σ A env f m cel led1 T1 H1 s1→Ext (ai led) T (ai led1) T1→IsPart v i→Ok s s1→Q v s1):wpAny (model c.prog c.w) A (evalPart es env) Q no s:=
 wpAny_mono (h A env f m cel led T s C) (fun v s1 pz=>by obtain⟨q,l,t,X,e,o⟩:=pz;exact k l t v s1 (C.to X e) e q o) bG
theorem PV.rest{α:Type}{t:Sem α}{f:Fx}{g:α→Value}{A:Around}(e:Ext (ai led) T (ai led') T')(o:Ok s s'){m':Str→Option Value}(h:wpAny (model c.prog c.w) A t (fun v s2=>PV c f m cel led' T' s' mv H' (g v) s2) no s'):
  wpAny (model c.prog c.w) A t (fun v s2=>PV c f m cel led T s mv H' (g v) s2) no s':=wpAny_mono h (fun _ _ x=>x.from o e) bG
theorem PV.go{t:Sem Value}(e:Ext (ai led) T (ai led') T')(o:Ok s s')(h:wpAny (model c.prog c.w) A t (PV c f m cel led' T' s' mv H') no s'):
  wpAny (model c.prog c.w) A t (PV c f m cel led T s mv H') no s':=wpAny_mono h (fun _ _ x=>x.from o e) bG
theorem PV.mk0(C:Cn c d sc σ A env f m cel led' T' H' s')(e:Ext (ai led) T (ai led') T')(o:Ok s s'){v:Value}(r:VR c.K (ai led') T' v mv):PV c f m cel led T s mv H' v s':=⟨led',T',C.X,e,r,o⟩
theorem PB.mk0(C:Cn c d sc σ A env f m cel led' T' H' s')(e:Ext (ai led) T (ai led') T')(o:Ok s s'):PB c f m cel led T s b H' b s':=⟨rfl,led',T',C.X,e,o⟩
theorem PB.go{t:Sem Bool}(e:Ext (ai led) T (ai led') T')(o:Ok s s')(h:wpAny (model c.prog c.w) A t (PB c f m cel led' T' s' b H') no s'):
  wpAny (model c.prog c.w) A t (PB c f m cel led T s b H') no s':=wpAny_mono h (fun _ _ x=>⟨x.1,x.2.from o e⟩) bG
theorem PVs.go{t:Sem (List Value)}{xs:List MV}(e:Ext (ai led) T (ai led') T')(o:Ok s s')(h:wpAny (model c.prog c.w) A t (PVs c f m cel led' T' s' xs H') no s'):
  wpAny (model c.prog c.w) A t (PVs c f m cel led T s xs H') no s':=wpAny_mono h (fun _ _ x=>x.from o e) bG
end
section
variable{c:Cx}{d:Nat}{sc:cu}{σ:aQ}{H H' H1 H2 H3:Hp}{mv x y:MV}{e l r:Expr}{b:Bool}{pos:Pos}
theorem DA{op:Operator}(h1:cg c d sc l σ H x H1)(h2:cg c d sc r σ H1 y H2)(h:cB H2 op x y=some (mv,H')):cg c d sc (.BinOp l op r pos) σ H mv H':=fun A env f m cel led T s C=>
 wpAny_BinOp (h1.then C fun l1 T1 v1 s1 C1 e1 r1 o1=>h2.then C1 fun l2 T2 v2 s2 C2 e2 r2 o2=>PV.go (e1.trans e2) (o1.trans o2) (zT C2.A C2.X (r1.mono e2) r2 h))
theorem DB(h:kq c d sc e σ H b H1)(h':cg c d sc e σ H (.bool b) H1):cg c d sc (.UnaryOp .Not e pos) σ H (.bool (!b)) H1:=fun A env f m cel led T s C=>
 wpAny_UnaryOp (h'.then C fun l1 T1 v1 s1 C1 e1 r1 o1=>by cases r1.isB;exact not_of (wpAny_truthy_bool (PV.mk0 C1 e1 o1 (.bool _))))
theorem DC{i:Int}(h':cg c d sc e σ H (.int i) H1):cg c d sc (.UnaryOp .USub e pos) σ H (.int (-i)) H1:=fun A env f m cel led T s C=>
 wpAny_UnaryOp (h'.then C fun l1 T1 v1 s1 C1 e1 r1 o1=>by obtain⟨t,rfl⟩:=r1.isI;exact P.neg_int (PV.from o1 e1 (PI C1.X _ _ _)))
theorem E7{t bo el:Expr}(h:kq c d sc t σ H b H1)(h1:b=true→cg c d sc bo σ H1 mv H')(h2:b=false→cg c d sc el σ H1 mv H'):cg c d sc (.IfExp t bo el pos) σ H mv H':=fun A env f m cel led T s C=>
 wpAny_IfExp (h.then C fun l1 T1 s1 C1 e1 o1=>by
  cases b with
  |true=>exact PV.go e1 o1 ((h1 rfl) A env f m cel l1 T1 s1 C1)
  |false=>exact PV.go e1 o1 ((h2 rfl) A env f m cel l1 T1 s1 C1))
theorem E8{t bo el:Expr}{b':Bool}(h:kq c d sc t σ H b H1)(h1:b=true→kq c d sc bo σ H1 b' H')(h2:b=false→kq c d sc el σ H1 b' H'):kq c d sc (.IfExp t bo el pos) σ H b' H':=fun A env f m cel led T s C=>
 isTrue_IfExp (h.then C fun l1 T1 s1 C1 e1 o1=>by
  cases b with
  |true=>exact PB.go e1 o1 ((h1 rfl) A env f m cel l1 T1 s1 C1)
  |false=>exact PB.go e1 o1 ((h2 rfl) A env f m cel l1 T1 s1 C1))
theorem DD(h:kq c d sc e σ H b H1):kq c d sc (.UnaryOp .Not e pos) σ H (!b) H1:=fun A env f m cel led T s C=>
 isTrue_not (h.then C fun l1 T1 s1 C1 e1 o1=>PB.mk0 C1 e1 o1)
theorem Aa(h:cg c d sc e σ H (.bool b) H1)(he: ∀env whole,isTrue e env whole=(do let v←whole;standAt e.pos;holding [v] (truthy v))):kq c d sc e σ H b H1:=fun A env f m cel led T s C=>
 isTrue_plain (h.then C fun l1 T1 v s1 C1 e1 r1 o1=>by cases r1.isB;exact wpAny_truthy_bool (PB.mk0 C1 e1 o1)) (he _ _)
noncomputable def Ab(c:Cx)(d:Nat)(sc:cu)(x:MV)(ops:List CmpOp)(cs:List Expr)(σ:aQ)(H:Hp)(b:Bool)(H':Hp):Prop:=
 ∀A env f m cel led T s pos v,Cn c d sc σ A env f m cel led T H s→VR c.K (ai led) T v x→
  wpAny (model c.prog c.w) A (compareChain pos v ops (evalEach cs env)) (PV c f m cel led T s (.bool b) H') no s∧
  wpAny (model c.prog c.w) A (testChain pos v ops (evalEach cs env)) (PB c f m cel led T s b H') no s
theorem DE{op:CmpOp}(h:cg c d sc e σ H y H1)(k:eY H1 op x y=some b):Ab c d sc x [op] [e] σ H b H1:=fun A env f m cel led T s pos v C rv=>by
 refine⟨?_,?_⟩
 ·show wpAny _ _ (holding [v] (eval e env)>>=fun rv=>standAt pos>>=fun _=>operate [v,rv] (compareOp op v rv)) _ _ s
  exact wpAny_bind (wpAny_holding (h.then C fun l1 T1 v1 s1 C1 e1 r1 o1=>wpAny_bind (wpAny_standAt (wpAny_operating (PV.go e1 o1 (mo C1.A C1.X (rv.mono e1) r1 k))))))
 ·show wpAny _ _ (holding [v] (eval e env)>>=fun rv=>standAt pos>>=fun _=>operate [v,rv] (compareOp op v rv)>>=fun c=>holding [c] (truthy c)) _ _ s
  refine wpAny_bind (wpAny_holding (h.then C fun l1 T1 v1 s1 C1 e1 r1 o1=>wpAny_bind (wpAny_standAt (wpAny_bind (wpAny_operating (wpAny_mono (mo C1.A C1.X (rv.mono e1) r1 k) (fun w s2 pz=> ?_) bG))))))
  obtain⟨l2,T2,X2,e2,r2,o2⟩:=pz
  cases r2.isB
  exact wpAny_holding (wpAny_truthy_bool ⟨rfl,l2,T2,X2,e1.trans e2,o1.trans o2⟩)
theorem yZ{op:CmpOp}{ops:List CmpOp}{cs:List Expr}{t:Bool}(ho:ops≠ [])(hc:cs≠ [])(h:cg c d sc e σ H y H1)(k:eY H1 op x y=some t)(h1:t=true→Ab c d sc y ops cs σ H1 b H')(h2:t=false→b=false∧H'=H1):
  Ab c d sc x (op::ops) (e::cs) σ H b H':=fun A env f m cel led T s pos v C rv=>by
 obtain⟨op2,ops,rfl⟩:=List.exists_cons_of_ne_nil ho
 obtain⟨e2,cs,rfl⟩:=List.exists_cons_of_ne_nil hc
 refine⟨?_,?_⟩
 ·show wpAny _ _ (holding [v] (eval e env)>>=fun rv=>standAt pos>>=fun _=>holding [v,rv] (compareOp op v rv)>>=fun c=>release [v,rv] [c]>>=fun _=>holding [c,rv] (truthy c)>>=fun t=>if t then compareChain pos rv (op2::ops) (evalEach (e2::cs) env) else pure c) _ _ s
  refine wpAny_bind (wpAny_holding (h.then C fun l1 T1 v1 s1 C1 e1 r1 o1=>wpAny_bind (wpAny_standAt (wpAny_bind (wpAny_holding (wpAny_mono (mo C1.A C1.X (rv.mono e1) r1 k) (fun w s2 pz=> ?_) bG))))))
  obtain⟨l2,T2,X2,e2,r2,o2⟩:=pz
  cases r2
  refine wpAny_bind (wpAny_release (wpAny_bind (wpAny_holding (wpAny_truthy_bool ?_))))
  have C2:=C1.to X2 e2
  cases t with
  |true=>exact PV.go (e1.trans e2) (o1.trans o2) ((h1 rfl) A env f m cel l2 T2 s2 pos v1 C2 (r1.mono e2)).1
  |false=>
   obtain⟨rfl,rfl⟩:=h2 rfl
   exact wpAny_pure (PV.mk0 C2 (e1.trans e2) (o1.trans o2) (.bool _))
 ·show wpAny _ _ (holding [v] (eval e env)>>=fun rv=>standAt pos>>=fun _=>holding [v,rv] (compareOp op v rv)>>=fun c=>release [v,rv] [c]>>=fun _=>holding [c,rv] (truthy c)>>=fun t=>if t then testChain pos rv (op2::ops) (evalEach (e2::cs) env) else pure false) _ _ s
  refine wpAny_bind (wpAny_holding (h.then C fun l1 T1 v1 s1 C1 e1 r1 o1=>wpAny_bind (wpAny_standAt (wpAny_bind (wpAny_holding (wpAny_mono (mo C1.A C1.X (rv.mono e1) r1 k) (fun w s2 pz=> ?_) bG))))))
  obtain⟨l2,T2,X2,e2,r2,o2⟩:=pz
  cases r2
  refine wpAny_bind (wpAny_release (wpAny_bind (wpAny_holding (wpAny_truthy_bool ?_))))
  have C2:=C1.to X2 e2
  cases t with
  |true=>exact PB.go (e1.trans e2) (o1.trans o2) ((h1 rfl) A env f m cel l2 T2 s2 pos v1 C2 (r1.mono e2)).2
  |false=>
   obtain⟨rfl,rfl⟩:=h2 rfl
   exact wpAny_pure (PB.mk0 C2 (e1.trans e2) (o1.trans o2))
theorem DF{ops:List CmpOp}{cs:List Expr}(hm:lastMarks ops cs=false)(h:cg c d sc l σ H x H1)(k:Ab c d sc x ops cs σ H1 b H'):cg c d sc (.Compare l ops cs pos) σ H (.bool b) H':=fun A env f m cel led T s C=>by
 rw[arm_eval_Compare]
 refine wpAny_bind (h.then C fun l1 T1 v1 s1 C1 e1 r1 o1=> ?_)
 rw[markedEach_of_false _ _ _ hm]
 exact PV.go e1 o1 (k A env f m cel l1 T1 s1 pos v1 C1 r1).1
theorem DG{ops:List CmpOp}{cs:List Expr}(hm:lastMarks ops cs=false)(h:cg c d sc l σ H x H1)(k:Ab c d sc x ops cs σ H1 b H'):kq c d sc (.Compare l ops cs pos) σ H b H':=fun A env f m cel led T s C=>by
 rw[arm_isTrue_Compare]
 refine wpAny_bind (h.then C fun l1 T1 v1 s1 C1 e1 r1 o1=> ?_)
 rw[markedEach_of_false _ _ _ hm]
 exact PB.go e1 o1 (k A env f m cel l1 T1 s1 pos v1 C1 r1).2
theorem DH{op:BoolOp}(h:cg c d sc e σ H mv H1):cg c d sc (.BoolOp op [e] pos) σ H mv H1:=fun A env f m cel led T s C=>BoolOp_one (h A env f m cel led T s C)
theorem BF{es:List Expr}(hs:es≠ [])(h:cg c d sc e σ H (.bool b) H1)(h1:b=true→cg c d sc (.BoolOp .And es pos) σ H1 mv H')(h2:b=false→mv= .bool false∧H'=H1):cg c d sc (.BoolOp .And (e::es) pos) σ H mv H':=fun A env f m cel led T s C=>by
 obtain⟨e2,es,rfl⟩:=List.exists_cons_of_ne_nil hs
 refine BoolOp_and (h.then C fun l1 T1 v1 s1 C1 e1 r1 o1=> ?_)
 cases r1.isB
 refine wpAny_truthy_bool ?_
 cases b with
 |true=>exact PV.go e1 o1 (h1 rfl A env f m cel l1 T1 s1 C1)
 |false=>obtain⟨rfl,rfl⟩:=h2 rfl;exact PV.mk0 C1 e1 o1 (.bool _)
theorem E9{es:List Expr}(hs:es≠ [])(h:cg c d sc e σ H (.bool b) H1)(h1:b=false→cg c d sc (.BoolOp .Or es pos) σ H1 mv H')(h2:b=true→mv= .bool true∧H'=H1):cg c d sc (.BoolOp .Or (e::es) pos) σ H mv H':=fun A env f m cel led T s C=>by
 obtain⟨e2,es,rfl⟩:=List.exists_cons_of_ne_nil hs
 refine BoolOp_or (h.then C fun l1 T1 v1 s1 C1 e1 r1 o1=> ?_)
 cases r1.isB
 refine wpAny_truthy_bool ?_
 cases b with
 |false=>exact PV.go e1 o1 (h1 rfl A env f m cel l1 T1 s1 C1)
 |true=>obtain⟨rfl,rfl⟩:=h2 rfl;exact PV.mk0 C1 e1 o1 (.bool _)
noncomputable def y0(c:Cx)(d:Nat)(sc:cu)(op:BoolOp)(es:List Expr)(σ:aQ)(H:Hp)(b:Bool)(H':Hp):Prop:=
 ∀A env f m cel led T s,Cn c d sc σ A env f m cel led T H s→wpAny (model c.prog c.w) A (allTrue op es env) (PB c f m cel led T s b H') no s
theorem DI{op:BoolOp}(h:kq c d sc e σ H b H1):y0 c d sc op [e] σ H b H1:=fun A env f m cel led T s C=>by
 cases op with
 |And=>exact wpAny_allTrue_And_cons (h.then C fun l1 T1 s1 C1 e1 o1=>by
   cases b with
   |true=>exact wpAny_allTrue_And_nil (PB.mk0 C1 e1 o1)
   |false=>exact PB.mk0 C1 e1 o1)
 |Or=>exact wpAny_allTrue_Or_cons (h.then C fun l1 T1 s1 C1 e1 o1=>by
   cases b with
   |false=>exact wpAny_allTrue_Or_nil (PB.mk0 C1 e1 o1)
   |true=>exact PB.mk0 C1 e1 o1)
theorem BG{es:List Expr}{t:Bool}(h:kq c d sc e σ H b H1)(h1:b=true→y0 c d sc .And es σ H1 t H')(h2:b=false→t=false∧H'=H1):y0 c d sc .And (e::es) σ H t H':=fun A env f m cel led T s C=>
 wpAny_allTrue_And_cons (h.then C fun l1 T1 s1 C1 e1 o1=>by
  cases b with
  |true=>exact PB.go e1 o1 (h1 rfl A env f m cel l1 T1 s1 C1)
  |false=>obtain⟨rfl,rfl⟩:=h2 rfl;exact PB.mk0 C1 e1 o1)
theorem Fa{es:List Expr}{t:Bool}(h:kq c d sc e σ H b H1)(h1:b=false→y0 c d sc .Or es σ H1 t H')(h2:b=true→t=true∧H'=H1):y0 c d sc .Or (e::es) σ H t H':=fun A env f m cel led T s C=>
 wpAny_allTrue_Or_cons (h.then C fun l1 T1 s1 C1 e1 o1=>by
  cases b with
  |false=>exact PB.go e1 o1 (h1 rfl A env f m cel l1 T1 s1 C1)
  |true=>obtain⟨rfl,rfl⟩:=h2 rfl;exact PB.mk0 C1 e1 o1)
theorem BH{op:BoolOp}{es:List Expr}(h:y0 c d sc op es σ H b H'):kq c d sc (.BoolOp op es pos) σ H b H':=fun A env f m cel led T s C=>wpAny_isTrue_BoolOp (h A env f m cel led T s C)
theorem DJ:oC c d sc [] σ H [] H:=fun A env f m cel led T s pos C=>spliced_none ⟨led,T,C.X,.refl,.nil,.refl s⟩
theorem BI{es:List Expr}{ys:List MV}(hs: ∀a p,e≠ .Starred a p)(h:cg c d sc e σ H y H1)(k:oC c d sc es σ H1 ys H'):oC c d sc (e::es) σ H (y::ys) H':=fun A env f m cel led T s pos C=>
 spliced_more (h.then C fun l1 T1 v1 s1 C1 e1 r1 o1=>k.then C1 fun l2 T2 vs s2 C2 e2 r2 o2=>⟨l2,T2,C2.X,e1.trans e2,.cons (r1.mono e2) r2,o1.trans o2⟩) (by
  cases e with
  |Starred a p=>exact absurd rfl (hs a p)
  |_=>rfl)
theorem DK{es:List Expr}{k:Nat}{ys:List MV}(h:oC c d sc es σ H ys H')(hz:ys.length≤dK):cg c d sc (.Tuple es k pos) σ H (.tup ys) H':=fun A env f m cel led T s C=>
 wpAny_Tuple (h.then C fun l1 T1 vs s1 C1 e1 r1 o1=>by
  have hl:vs.length≤dK:=by rw[r1.len];exact hz
  obtain⟨F,N⟩:=C1.X.push1 (h':=s1.heap.push (cO vs 0)) (fun b o q=>Heap.get?_push_of_some _ q) (Heap.get?_push_size _ rfl)
  exact⟨Nat.le_trans hl (by decide),PV.from o1 e1 (iQ (tk:=s1.toks) C1.X C1.X.fresh F N r1 hl)⟩)
theorem BJ{es:List Expr}{ys:List MV}(h:oC c d sc es σ H ys H')(hz:ys.length≤dK):cg c d sc (.List es pos) σ H (.loc H'.length) (H'++[.list ys]):=fun A env f m cel led T s C=>
 wpAny_List (h.then C fun l1 T1 vs s1 C1 e1 r1 o1=>by
  have hl:vs.length≤dK:=by rw[r1.len];exact hz
  obtain⟨F,N⟩:=C1.X.push1 (h':=s1.heap.push (listOf vs.toArray 0)) (fun b o q=>Heap.get?_push_of_some _ q) (Heap.get?_push_size _ rfl)
  exact⟨Nat.le_trans hl (by decide),PV.from o1 e1 (d7 (tk:=s1.toks) C1.X C1.X.fresh C1.X.big F N r1 hl)⟩)
theorem DL(hs: ∀a b p,r≠ .Slice a b none p)(h1:cg c d sc l σ H x H1)(h2:cg c d sc r σ H1 y H2)(h:eC H2 x y=some mv):cg c d sc (.Subscript l r pos) σ H mv H2:=fun A env f m cel led T s C=>
 Subscript_ (h1.then C fun l1 T1 v1 s1 C1 e1 r1 o1=>h2.then C1 fun l2 T2 v2 s2 C2 e2 r2 o2=>PV.go (e1.trans e2) (o1.trans o2) (wU C2.X hs (r1.mono e2) r2 h))
theorem BK:zZ c d sc none σ H none H:=fun A env f m cel led T s C=>wpAny_pure ⟨.none,PU.done C.X⟩
theorem tZ{i:Int}(h:cg c d sc e σ H (.int i) H1):zZ c d sc (some e) σ H (some i) H1:=fun A env f m cel led T s C=>
 h.then C fun l1 T1 v1 s1 C1 e1 r1 o1=>by obtain⟨t,rfl⟩:=r1.isI;exact⟨.int _ _,l1,T1,C1.X,e1,o1⟩
theorem DM{lo hi:Option Expr}{a b:Option Int}{p:Pos}{ys:List MV}(h1:cg c d sc l σ H x H1)(h2:zZ c d sc lo σ H1 a H2)(h3:zZ c d sc hi σ H2 b H3)(e:fc H3 x=some ys):
  cg c d sc (.Subscript l (.Slice lo hi none p) pos) σ H (.loc H3.length) (H3++[.list (aI ys a b)]):=fun A env f m cel led T s C=>
 Subscript_ (h1.then C fun l1 T1 v1 s1 C1 e1 r1 o1=>wpAny_Slice (h2.then C1 fun l2 T2 v2 s2 C2 e2 r2 o2=>h3.then C2 fun l3 T3 v3 s3 C3 e3 r3 o3=>by
  rw[evalPart_none]
  exact wpAny_pure (wpAny_mono (wZ C3.X ((r1.mono e2).mono e3) e r2 r3) (fun _ _ x=>x.from (o1.trans (o2.trans o3)) (e1.trans (e2.trans e3))) bG)))
theorem DO{z:Str}(hb: ∀env,eval (.Attribute e z pos) env=(do
   let o←eval e env
   standAt pos.atName
   let r←holding [o] (getAttr o z true)
   letTemporaryGo e o r
   pure r)) (h:cg c d sc e σ H x H1) (k:jv c.K H1 x z=some mv):cg c d sc (.Attribute e z pos) σ H mv H1:=fun A env f m cel led T s C=>
 Attribute_any_ (h.then C fun l1 T1 v1 s1 C1 e1 r1 o1=>PV.go e1 o1 (wX C1.X r1 k)) (hb env)
end
section
variable{c:Cx}{O:dJ}{d:Nat}{sc:cu}{σ:aQ}{H H' H1 H2 H3:Hp}{mv x y:MV}{e l r:Expr}{b:Bool}{pos:Pos}
noncomputable def cx(es:List Expr):Prop:= ∀e∈es,∀a p,e≠ .Starred a p
theorem lm{env:Env}{es:List Expr}(hs: ∀a p,e≠ .Starred a p):starEach (e::es) env=(false,eval e env)::starEach es env:=by
 cases e with
 |Starred a p=>exact absurd rfl (hs a p)
 |_=>rfl
theorem hV{env:Env}{pos:Pos}{es:List Expr}(h:cx es):(backTo pos (starEach es env)).any (·.1)=false:=by
 induction es with
 |nil=>rfl
 |cons e es ih=>rw[lm (h e (.head _))];exact ih fun e he=>h e (.tail _ he)
theorem t4{env:Env}{pos:Pos}{es:List Expr}(h:cx es):(backTo pos (starEach es env)).all (fun x=>!x.1)=true:=by
 have:=hV (env:=env) (pos:=pos) h
 rw[List.any_eq_false] at this
 rw[List.all_eq_true]
 intro x hx
 simpa using this x hx
theorem mu{es:List Expr}{xs:List MV}(h0:es=[]→xs=[]∧H1=H)(hs:cx es)(h:oC c d sc es σ H xs H1){A:Around}{env:Env}{f:Fx}{m:Str→Option Value}{cel led T:aN}{s:Shared}(C:Cn c d sc σ A env f m cel led T H s){g:Value}{Q:Args→Shared→Prop}
  (k: ∀led1 T1 vs s1,Cn c d sc σ A env f m cel led1 T1 H1 s1→Ext (ai led) T (ai led1) T1→VRs c.K (ai led1) T1 vs xs→Ok s s1→Q ⟨vs,[]⟩ s1):wpAny (model c.prog c.w) A (evalArgs g true (backTo pos (starEach es env)) []) Q no s:=by
 cases es with
 |nil=>
  obtain⟨rfl,rfl⟩:=h0 rfl
  exact evalArgs_nil3 (k led T [] s C .refl .nil (.refl s))
 |cons e es=>
  have he:=lm (env:=env) (es:=es) (hs e (.head _))
  have hb:backTo pos (starEach (e::es) env)=(false,eval e env)::backTo pos (starEach es env):=by rw[he];rfl
  rw[hb]
  refine evalArgs_plain ?_
  rw[←hb]
  exact h.then C k
theorem bV{es:List Expr}{xs:List MV}(h0:es=[]→xs=[]∧H1=H)(hs:cx es)(h:oC c d sc es σ H xs H1){A:Around}{env:Env}{f:Fx}{m:Str→Option Value}{cel led T:aN}{s:Shared}(C:Cn c d sc σ A env f m cel led T H s){g:Value}{first:List Value}{Q:Value→Shared→Prop}
  (hg:(∃a,g= .ref a∧keepIn c.K g=true)∨(∃id,g= .builtin id)∨(∃t,g= .type t))
  (k: ∀led1 T1 vs s1,Cn c d sc σ A env f m cel led1 T1 H1 s1→Ext (ai led) T (ai led1) T1→VRs c.K (ai led1) T1 vs xs→Ok s s1→wpAny (model c.prog c.w) A (call g (first++vs)) Q no s1):
  wpAny (model c.prog c.w) A (callWith pos g first (backTo pos (starEach es env)) []) Q no s:=by
 rcases hg with ⟨a,rfl,hk⟩|⟨id,rfl⟩|⟨t,rfl⟩
 ·refine callWith_of (P:=fun h=>c.K.In h) (by rw[hV hs];rfl) (keeps_K hk) ?_
  exact mu h0 hs h C fun l1 T1 vs s1 C1 e1 r1 o1=>⟨C1.X.X.keeps C1.X.F.keep,k l1 T1 vs s1 C1 e1 r1 o1⟩
 ·exact callWith_builtin_kwB (hV hs) rfl (mu h0 hs h C k)
 ·exact PyProof.Rows.callWith_type (hV hs) (mu h0 hs h C k)
theorem t5{H:Hp}{g:Value}{xs:List MV}{r:MV×Hp}(h:ja H g xs=some r):(∃id,g= .builtin id)∨(∃t,g= .type t):=by
 unfold ja at h
 repeat (split at h;first|(rename_i q;exact .inl ⟨_,q⟩)|(rename_i q;exact .inr ⟨_,q⟩))
 cases h
theorem BL{z:Str}{zp:Pos}{es:List Expr}{xs:List MV}(ho:oV c O d)(hf:cg c d sc (.Name z zp) σ H x H1)(h0:es=[]→xs=[]∧H2=H1)(hs:cx es)(h:oC c d sc es σ H1 xs H2)(k:yS O H2 x xs mv H'):
  cg c d sc (.Call (.Name z zp) es [] pos) σ H mv H':=fun A env f m cel led T s C=>
 wpAny_Call_NameR (hf.then C fun l1 T1 v1 s1 C1 e1 r1 o1=>by
  cases x with
  |glob g=>
   cases r1.isG
   by_cases q: ∃a,v1= .ref a
   ·obtain⟨a,rfl⟩:=q
    obtain⟨q1,q2⟩:=ho a xs H2 mv H' k
    exact bV h0 hs h C1 (.inl ⟨a,rfl,q1⟩) fun l2 T2 vs s2 C2 e2 r2 o2=>PV.go (e1.trans e2) (o1.trans o2) (by simpa using q2 A f m cel l2 T2 s2 vs C2.A C2.X r2)
   ·have k':ja H2 v1 xs=some (mv,H'):=by
     cases v1 with
     |ref a=>exact absurd ⟨_,rfl⟩ q
     |_=>exact k
    exact bV h0 hs h C1 (.inr (t5 k')) fun l2 T2 vs s2 C2 e2 r2 o2=>PV.go (e1.trans e2) (o1.trans o2) (by simpa using BE C2.A C2.X r2 k')
  |_=>exact k.elim)
theorem qb{o:Expr}(hb:iP o=true){z:Str}{env:Env}{w:Sem Value}:attributeBase o z env w=w:=by
 cases o with
 |Call g as ks p=>
  cases g with
  |Name id p'=>
   cases as with
   |nil=>cases ks with
    |nil=>cases hb
    |cons _ _=>rfl
   |cons _ _=>rfl
  |_=>rfl
 |_=>rfl
theorem t6{o:Expr}{z:Str}{ap:Pos}{es:List Expr}{env:Env}(hb:iP o=true)(hl:(ap.endLine==pos.line)=true)(hn:es.length≤20)(hs:cx es):
  eval (.Call (.Attribute o z ap) es [] pos) env=(do
   let ov←eval o env
   standAt ap.atName
   let (f,first)←holding [ov] (getMethod ov z (do return (←importBound o env).getD true))
   callWith pos f first (backTo pos (starEach es env)) []):=by
 rw[arm_eval_Call,qb hb]
 have e1:methodCallForm (es.length+([]:List Keyword).length) (backTo pos (starEach es env)) (backToKw pos (keywordEach [] env))=true:=by
  unfold methodCallForm
  rw[t4 hs]
  rw[show backToKw pos (keywordEach [] env)=[] from rfl];simp;exact af [] [_] 493321 33 329480 hn
 have e2: ∀ov,methodCall o z ap pos env ov (es.length+([]:List Keyword).length) (backTo pos (starEach es env)) (backToKw pos (keywordEach [] env))=(do
   let (f,first)←holding [ov] (getMethod ov z (do return (←importBound o env).getD true))
   callWith pos f first (backTo pos (starEach es env)) []):=by
  intro ov
  unfold methodCall
  rw[e1]
  have e3:methodCallPos true o env ap pos=pure pos:=by unfold methodCallPos;rw[hl];rfl
  rw[e3];rfl
 simp only[e2]
theorem xd{o:Expr}(hb:iP o=true){z:Str}: ∀env,eval (.Attribute o z pos) env=(do
   let o'←eval o env
   standAt pos.atName
   let r←holding [o'] (getAttr o' z true)
   letTemporaryGo o o' r
   pure r):=fun env=>by rw[arm_eval_Attribute,qb hb]
theorem PRs.merged{κ:Type} [DecidableEq κ]{K:Frag}{as:List Addr}{T:aN}{us:List (κ×Value)}{zs:List (κ×MV)}{ps:List (κ×Value)}{ys:List (κ×MV)}(g:PRs K as T us zs)(h:PRs K as T ps ys)(nd:(ys.map (·.1)).Nodup):
  PRs K as T (us.foldl (fun acc kv=>PySem.stored acc kv.1 kv.2) ps) (zs.foldl (fun es p=>ce p.1 p.2 es) ys)∧((zs.foldl (fun es p=>ce p.1 p.2 es) ys).map (·.1)).Nodup∧(zs.foldl (fun es p=>ce p.1 p.2 es) ys).length≤ys.length+zs.length:=by
 induction g generalizing ps ys with
 |nil=>exact⟨h,nd,Nat.le_refl _⟩
 | @cons x v y us zs hv r ih=>
  obtain⟨a,b,e⟩:=ih (h.stored hv nd) (gM x y _ nd).1
  refine⟨a,b,Nat.le_trans e ?_⟩
  have:=ko x y ys
  simp only[List.length_cons];exact af [] [_,_,_] 0x11c412046008 33 0x11c8108 this
theorem t7{n:Nat}{a:Addr}{A:Around}{f:Fx}{m:Str→Option Value}{cel led T:aN}{s:Shared}(C:St c f m cel s.heap led T H){kx:Str}{t:Tok}{w:Value}{y:MV}(w2:VR c.K (ai led) T w y){ees:List DictEntry}{i:Nat}{es:List (Str×MV)}(p0:led[n]?=some (a,dictOf ees i))(p2:pQ c.w.params c.K (ai led) T ees es)(p4:(es.map (·.1)).Nodup):wpAny (model c.prog c.w) A (call (.builtin "dict.get") [.ref a,.str kx t,w]) (PV c f m cel led T s ((cN kx es).getD y) H) no s:=by
 refine rB fun Q hq=> ?_
 obtain⟨ps,D,rr⟩:=gN (n:=i) (Kd.str (c:=c)) p2 p4
 refine kdg_get2 C.N (C.inLed p0) D (pY (C.hi _ (mG p0))) (strKind_is _ _ _ _) _ rfl (hq _ _ ?_)
 clear hq
 rcases rr.at_ kx with ⟨z1,z2⟩|⟨v,y,z1,z2,z3⟩
 ·rw[z1,z2];exact PV.done (s₁:={s with toks:=s.toks+1}) C w2 ⟨s.heap,_,rfl⟩
 ·rw[z1,z2];exact PV.done (s₁:={s with toks:=s.toks+1}) C z3 ⟨s.heap,_,rfl⟩
theorem t8{n:Nat}{a:Addr}{A:Around}{f:Fx}{m:Str→Option Value}{cel led T:aN}{s:Shared}(C:St c f m cel s.heap led T H){ki:Int}{t:Tok}{w:Value}{y:MV}(w2:VR c.K (ai led) T w y){ees:List DictEntry}{i:Nat}(p0:led[n]?=some (a,dictOf ees i))(p2:pQ c.w.params c.K (ai led) T ees []):wpAny (model c.prog c.w) A (call (.builtin "dict.get") [.ref a,.int ki t,w]) (PV c f m cel led T s y H) no s:=by
 cases p2
 have D:(dictOf [] i).IsDictOf (intKind c.prog c.w) []:=⟨#[],i,⟨rfl,rfl,rfl⟩,rfl,fun e he=>absurd he (Array.not_mem_empty _),.nil,.nil⟩
 exact kdg_get2 C.N (C.inLed p0) D (pY (C.hi _ (mG p0))) (intKind_is _ _ _ _) none rfl (PV.done (s₁:={s with toks:=s.toks+1}) C w2 ⟨s.heap,_,rfl⟩)
theorem xe{n:Nat}{xs:List MV}{vs:List Value}{a:Addr}{A:Around}{f:Fx}{m:Str→Option Value}{cel led T:aN}{s:Shared}(C:St c f m cel s.heap led T H)(r1:VR c.K (ai led) T (.ref a) (.loc n))(r2:VRs c.K (ai led) T vs xs)(k:np n "get" xs H=some (mv,H')):
  wpAny (model c.prog c.w) A (call (.builtin "dict.get") (.ref a::vs)) (PV c f m cel led T s mv H') no s:=by
 have k:(bd (two xs) fun p=>bd (bB H n) fun es=>match p.1 with
   | .str k=>some ((cN k es).getD p.2,H)
   | .int _=>if es.isEmpty=true then some (p.2,H) else none
   |_=>none)=some (mv,H'):=k
 refine zO (P:=fun vs=>wpAny (model c.prog c.w) A (call (.builtin "dict.get") (.ref a::vs)) (PV c f m cel led T s mv H') no s) vs k r2 fun u w x y w1 w2 k=>fG k fun es k2 k=> ?_
 refine lk (P:=fun v=>v= .ref a→wpAny (model c.prog c.w) A (call (.builtin "dict.get") [.ref a,u,w]) (PV c f m cel led T s mv H') no s) (.ref a) C r1 k2 (fun a' ees i p0 _ p2 _ p4 e=> ?_) rfl
 cases e
 cases x with
 |str kx=>cases k;exact zN (P:=fun u=>wpAny (model c.prog c.w) A (call (.builtin "dict.get") [.ref a,u,w]) (PV c f m cel led T s _ H) no s) u w1 fun t=>t7 C w2 p0 p2 p4
 |int ki=>exact fI k fun q k=>by cases k;cases List.isEmpty_iff.mp q;exact nt (P:=fun u=>wpAny (model c.prog c.w) A (call (.builtin "dict.get") [.ref a,u,w]) (PV c f m cel led T s _ H) no s) u w1 fun t=>t8 C w2 p0 p2
 |_=>cases k
theorem SR.apart{f:Fx}{m:Str→Option Value}{cel led T:aN}{h:Heap}(C:St c f m cel h led T H){i j:Nat}{a b:Addr}{x y:Obj}(h1:led[i]?=some (a,x))(h2:led[j]?=some (b,y))(hne:j≠i):a≠b:=fun e=>by
 subst e
 have nd:=C.nd
 simp only[ai,mP] at nd
 have nd2:=(List.nodup_append.mp (List.nodup_append.mp nd).2.1).1
 exact hne ((List.getElem?_inj (l:=led.map (·.1)) (by rw[lM];exact(gS h2).1) nd2).mp (by rw[List.getElem?_map,List.getElem?_map,h1,h2];rfl))
theorem t9{n mm:Nat}{a b:Addr}{A:Around}{f:Fx}{m:Str→Option Value}{cel led T:aN}{s:Shared}(C:St c f m cel s.heap led T H){ees ees2:List DictEntry}{i i2:Nat}{es us:List (Str×MV)}(q:mm≠n∧es.length+us.length<400)(p0:led[n]?=some (a,dictOf ees i))(p1:s.heap.get? a=some (dictOf ees i))(p2:pQ c.w.params c.K (ai led) T ees es)(p4:(es.map (·.1)).Nodup)
  (g0:led[mm]?=some (b,dictOf ees2 i2)) (g1:s.heap.get? b=some (dictOf ees2 i2)) (g2:pQ c.w.params c.K (ai led) T ees2 us) (g4:(us.map (·.1)).Nodup):wpAny (model c.prog c.w) A (call (.builtin "dict.update") [.ref a,.ref b]) (PV c f m cel led T s .none (H.set n (.dict (us.foldl (fun es p=>ce p.1 p.2 es) es)))) no s:=by
 refine rB fun Q hq=> ?_
 obtain⟨ps,D,rr⟩:=gN (n:=i) (Kd.str (c:=c)) p2 p4
 obtain⟨qs,D2,rr2⟩:=gN (n:=i2) (Kd.str (c:=c)) g2 g4
 have hD:=Heap.dictOf_iff.mpr ⟨_,p1,D⟩
 have hl:ps.length+qs.length≤sizeLine:=by rw[rr.len,rr2.len];exact Nat.le_trans (Nat.le_of_lt q.2) (by decide)
 refine call_meetsIn PySem.F.slot_dict_update hD.typeIs PySem.F.entry_dict_update (PySem.F.args_dict_update_2 _ _) (meets_dict_update (strKind c.prog c.w) a b (C.apart p0 g0 q.1) (pY (C.hi _ (mG g0))))
  ⟨ps,qs,hD,Heap.dictOf_iff.mpr ⟨_,g1,D2⟩,hl,fun h' hmm _ hs'=>hq _ _ ?_⟩
 clear hq
 obtain⟨o',k1,k2⟩:=Heap.dictOf_iff.mp hmm
 obtain⟨m1,m2,m3⟩:=PRs.merged rr2 rr p4
 obtain⟨es',k',rfl,k3⟩:=oT (Kd.str (c:=c)) k2 m1
 obtain⟨N',F'⟩:=C.newsAt p0 hs' k1
 exact⟨_,T,C.put p0 F' N' (.dict _ k3 (by rw[k3.len];exact aq [] [_,_,_] 0xfa08908 1057 0x320224a209 0x944108 q.2 m3) m2),f7 p0 T,.none,⟨h',_,rfl⟩⟩
theorem xf{n:Nat}{xs:List MV}{vs:List Value}{a:Addr}{A:Around}{f:Fx}{m:Str→Option Value}{cel led T:aN}{s:Shared}(C:St c f m cel s.heap led T H)(r1:VR c.K (ai led) T (.ref a) (.loc n))(r2:VRs c.K (ai led) T vs xs)(k:np n "update" xs H=some (mv,H')):
  wpAny (model c.prog c.w) A (call (.builtin "dict.update") (.ref a::vs)) (PV c f m cel led T s mv H') no s:=by
 have k:(bd (one xs) fun v=>bd (bR v) fun m=>bd (bB H n) fun es=>bd (bB H m) fun us=>if m≠n∧es.length+us.length<400 then some (.none,H.set n (.dict (us.foldl (fun es p=>ce p.1 p.2 es) es))) else none)=some (mv,H'):=k
 refine tM (P:=fun vs=>wpAny (model c.prog c.w) A (call (.builtin "dict.update") (.ref a::vs)) (PV c f m cel led T s mv H') no s) vs k r2 fun u x w1 k=>fG k fun mm k2 k=>fG k fun es k3 k=>fG k fun us k4 k=>fI k fun q k9=> ?_
 cases bj k2
 refine lk (P:=fun v=>v= .ref a→wpAny (model c.prog c.w) A (call (.builtin "dict.update") [.ref a,u]) (PV c f m cel led T s mv H') no s) (.ref a) C r1 k3 (fun a' ees i p0 p1 p2 _ p4 e=> ?_) rfl
 cases e
 cases k9
 exact lk (P:=fun u=>wpAny (model c.prog c.w) A (call (.builtin "dict.update") [.ref a,u]) (PV c f m cel led T s .none _) no s) u C w1 k4 fun b ees2 i2 g0 g1 g2 _ g4=>t9 C q p0 p1 p2 p4 g0 g1 g2 g4
theorem rM{C0 fa:Addr}{z:Str}(h:jV c.K C0 z=some fa):plainGet c.K C0 z=true∧findIn c.K (.ref C0) z=some (some (.ref fa))∧isFn c.K (.ref fa)=true:=by
 obtain⟨pg,h⟩:=tK h
 obtain⟨o,q5,h⟩:=ag h
 obtain⟨v,q4,h⟩:=ag h
 obtain⟨f,h2,h⟩:=ag h
 obtain⟨q6,rfl⟩:=oH h
 cases q4
 cases tn h2
 exact⟨pg,q5,q6⟩
theorem BM{o:Expr}{z:Str}{ap:Pos}{es:List Expr}{xs:List MV}{g:Option Addr}(ho:oV c O d)(hb:iP o=true)(hl:(ap.endLine==pos.line)=true)(hn:es.length≤20)
  (hf:cg c d sc o σ H x H1) (h0:es=[]→xs=[]∧H2=H1) (hs:cx es) (h:oC c d sc es σ H1 xs H2) (hm:dD c.K H1 x z=some g) (k:yT O x z g xs H2 mv H'):
  cg c d sc (.Call (.Attribute o z ap) es [] pos) σ H mv H':=fun A env f m cel led T s C=>
 MethodCall_ (pl:=do return (←importBound o env).getD true) (hf.then C fun l1 T1 v1 s1 C1 e1 r1 o1=>by
  obtain⟨n,m1,hm⟩:=ag hm
  obtain⟨ob,m2,hm⟩:=ag hm
  cases bj m1
  cases ob with
  |inst C0 dn=>
   obtain⟨des,q2,hm⟩:=ag hm
   split at hm
   ·rename_i q3
    obtain⟨fa,q4,hm⟩:=ag hm
    cases hm
    obtain⟨a,dx,ees,kk,rfl,I,h5,h6,h7,h8⟩:=C1.X.instAt r1 m2 (eM q2)
    obtain⟨pg,q5,q6⟩:=rM q4
    have gl:getL z ees=some none:=by
     rcases km z h6 with ⟨a1,a2⟩|⟨v,y,a1,a2,a3⟩
     ·exact a2
     ·rw[a1] at q3;cases q3
    refine method_inst C1.X.F C1.X.X I pg q5 q6 gl ?_
    obtain⟨p1,p2⟩:=ho fa (.loc n::xs) H2 mv H' k
    exact bV h0 hs h C1 (.inl ⟨_,rfl,p1⟩) fun l2 T2 vs s2 C2 e2 r2 o2=>PV.go (e1.trans e2) (o1.trans o2) (p2 A f m cel l2 T2 s2 (.ref a::vs) C2.A C2.X (.cons (r1.mono e2) r2))
   ·cases hm
  |dict es0=>
   dsimp only at hm
   split at hm
   ·rename_i q2
    cases hm
    obtain⟨a,ees,kk,rfl,p0,p1,p2,p3,p4⟩:=C1.X.dct r1 m2
    obtain⟨ps,D,_⟩:=gN (n:=kk) (Kd.str (c:=c)) p2 p4
    obtain⟨n',z1,k⟩:=k
    cases z1
    rcases q2 with rfl|rfl
    ·refine kdg_method C1.X.N (C1.X.inLed p0) D ?_
     exact bV h0 hs h C1 (.inr (.inl ⟨_,rfl⟩)) fun l2 T2 vs s2 C2 e2 r2 o2=>PV.go (e1.trans e2) (o1.trans o2) (xe C2.X (r1.mono e2) r2 k)
    ·refine getMethod_builtin (Heap.DictOf.typeIs (Heap.dictOf_iff.mpr ⟨_,p1,D⟩)) PySem.F.plainAttrs_dict PySem.F.slot_dict_update PySem.F.type_dict_update (fun b hb=>by cases hb;exact⟨_,p1,rfl⟩) ?_
     exact bV h0 hs h C1 (.inr (.inl ⟨_,rfl⟩)) fun l2 T2 vs s2 C2 e2 r2 o2=>PV.go (e1.trans e2) (o1.trans o2) (xf C2.X (r1.mono e2) r2 k)
   ·cases hm
  |_=>cases hm) (t6 hb hl hn hs)
end
section
variable{c:Cx}{d:Nat}{sc:cu}{σ:aQ}{H H' H1 H2 H3:Hp}{mv x y:MV}{e l r:Expr}{b:Bool}{pos:Pos}
noncomputable def BN(c:Cx)(d:Nat)(sc:cu)(ks:List (Option Expr))(vs:List Expr)(σ:aQ)(H:Hp)(ps:List (Str×MV))(H':Hp):Prop:=
 ∀A env f m cel led T s pos,Cn c d sc σ A env f m cel led T H s→wpAny (model c.prog c.w) A (evalPairs (pairTrees ks vs env pos))
  (fun vs s'=> ∃led' T' kvs,St c f m cel s'.heap led' T' H'∧Ext (ai led) T (ai led') T'∧Ok s s'∧Carries (strKind c.prog c.w) vs kvs∧PRs c.K (ai led') T' kvs ps) no s
theorem PRs.mono{κ:Type}{K:Frag}{as bs:List Addr}{T U:aN}(e:Ext as T bs U){v:List (κ×Value)}{x:List (κ×MV)}(h:PRs K as T v x):PRs K bs U v x:=by
 induction h with
 |nil=>exact .nil
 |cons h k ih=>exact .cons (h.mono e) ih
theorem DP:BN c d sc [] [] σ H [] H:=fun A env f m cel led T s pos C=>evalPairs_nil ⟨led,T,[],C.X,.refl,.refl s,trivial,.nil⟩
theorem BO{z:Str}{kn:Nat}{kp:Pos}{ks:List (Option Expr)}{vs:List Expr}{ps:List (Str×MV)}(h:cg c d sc e σ H x H1)(k:BN c d sc ks vs σ H1 ps H'):BN c d sc (some (.Constant (.str z) kn kp)::ks) (e::vs) σ H ((z,x)::ps) H':=fun A env f m cel led T s pos C=>
 evalPairs_cons (wpAny_mono (pV (k:= .str z) (n:=kn) (pos:=kp) C.X rfl) (fun v s1 pz=>by
  obtain⟨l1,T1,X1,e1,r1,o1⟩:=pz
  have C1:=C.to X1 e1
  obtain⟨t,rfl⟩:=r1.isS
  exact wpAny_bind (h.then C1 fun l2 T2 v2 s2 C2 e2 r2 o2=>wpAny_bind (wpAny_standAt (wpAny_pure (wpAny_mono (k A env f m cel l2 T2 s2 pos C2) (fun w s3 z=>by
   obtain⟨l3,T3,kvs,X3,e3,o3,c3,p3⟩:=z
   exact⟨l3,T3,(z,v2)::kvs,X3,e1.trans (e2.trans e3),o1.trans (o2.trans o3),⟨strKind_is _ _ _ _,rfl,c3⟩,.cons (r2.mono e3) p3⟩) bG))))) bG)
theorem BP{ks:List (Option Expr)}{vs:List Expr}{ps:List (Str×MV)}(hall:ks.all (·.isSome)=true)(hl:ks.length=vs.length)(hlen:ks.length≤15)(h:BN c d sc ks vs σ (H++[.dict []]) ps H1)(hd:H1[H.length]?=some (.dict []))(hz:ps.length≤15)(h0:ks=[]→ps=[]∧H1=H++[.dict []]):
  cg c d sc (.Dict ks vs pos) σ H (.loc H.length) (H1.set H.length (.dict (ps.foldl (fun es p=>ce p.1 p.2 es) []))):=fun A env f m cel led T s C=>by
 have hp: ∀b o,s.heap.get? b=some o→(s.heap.push (dictOf [] 0)).get? b=some o:=fun b o q=>Heap.get?_push_of_some _ q
 have hq:(s.heap.push (dictOf [] 0)).get? s.heap.objs.size=some (dictOf [] 0):=Heap.get?_push_size _ rfl
 obtain⟨F0,N0⟩:=C.X.push1 hp hq
 have X0:St c f m cel (s.heap.push (dictOf [] 0)) (led++[(s.heap.objs.size,dictOf [] 0)]) T (H++[.dict []]):=C.X.new C.X.fresh F0 N0 (.dict 0 .nil (by simp) (by simp)) C.X.big
 have E0:Ext (ai led) T (ai (led++[(s.heap.objs.size,dictOf [] 0)])) T:=eZ _ _ _
 have L0:(ai (led++[(s.heap.objs.size,dictOf [] 0)]))[H.length]?=some s.heap.objs.size:=hJ C.X.size
 by_cases hk:ks=[]
 ·obtain⟨rfl,rfl⟩:=h0 hk
  subst hk
  have:vs=[]:=by cases vs with|nil=>rfl|cons _ _=>simp at hl
  subst this
  refine wpAny_Dict_empty ⟨_,T,?_,E0,.loc L0,⟨_,s.toks,rfl⟩⟩
  have e:(H++[MObj.dict []]).set H.length (.dict (([]:List (Str×MV)).foldl (fun es p=>ce p.1 p.2 es) []))=H++[.dict []]:=by simp
  rw[e];exact X0
 ·refine wpAny_Dict_walk (knd:=strKind c.prog c.w) hall hl hk hlen ?_
  have C0:Cn c d sc σ A env f m cel (led++[(s.heap.objs.size,dictOf [] 0)]) T (H++[.dict []]) {s with heap:=s.heap.push (dictOf [] 0)}:=C.to X0 E0
  refine wpAny_mono (h A env f m cel _ T _ pos C0) (fun ws s1 pz=> ?_) bG
  obtain⟨l1,T1,kvs,X1,e1,o1,c1,p1⟩:=pz
  have L1:VR c.K (ai l1) T1 (.ref s.heap.objs.size) (.loc H.length):= .loc (e1.pre _ _ L0)
  obtain⟨a,des,k,ea,g0,g1,g2,g3,g4⟩:=X1.dct L1 hd
  cases ea
  cases g2
  have D:(dictOf [] k).IsDictOf (strKind c.prog c.w) []:=⟨#[],k,⟨rfl,rfl,rfl⟩,rfl,fun e he=>by simp at he,.nil,.nil⟩
  refine⟨kvs,c1,Heap.dictOf_iff.mpr ⟨_,g1,D⟩,fun h' hD hs=> ?_⟩
  obtain⟨o',k1,k2⟩:=Heap.dictOf_iff.mp hD
  obtain⟨m1,m2,m3⟩:=PRs.merged p1 PRs.nil (by simp)
  obtain⟨es',k',rfl,k3⟩:=oT (Kd.str (c:=c)) k2 m1
  obtain⟨N',F'⟩:=X1.newsAt g0 hs k1
  refine⟨_,T1,X1.put g0 F' N' (.dict _ k3 (by rw[k3.len];simp only[List.length_nil] at m3;exact aq [] [_,_] 0xfa08908 1057 247576 0x1100c108 hz m3) m2),(E0.trans e1).trans (f7 g0 T1),?_,?_⟩
  ·rw[jC g0];exact L1
  ·obtain⟨h2,t2,rfl⟩:=o1
   exact⟨h',_,rfl⟩
end
set_option backward.match.sparseCases true
section
variable{c:Cx}{f:Fx}{m:Str→Option Value}{its its' cel led T:aN}{h h':Heap}{H:Hp}{s:Shared}{A:Around}{d:Nat}
theorem SR.notL(X:St c f m cel h led T H):f.L∉ai (cel++(led++T)):=fun q=>by
 obtain⟨p,hp,e⟩:=List.mem_map.mp q
 exact(X.N p hp).2.1 e
theorem SR.keepBut(X:St c f m (its++cel) h led T H)(hk: ∀b o,b∉ai its→h.get? b=some o→h'.get? b=some o):St c f m cel h' led T H:=by
 have nd:=X.nd
 rw[aA] at nd
 simp only[ai,mP] at nd
 have dis:=(List.nodup_append.mp nd).2.2
 have cL:f.L∉ai its:=fun q=>X.notL (by simp only[ai,mP] at q⊢;simp[q])
 refine⟨⟨?_,fun b o e=>hk b o (fun q=> ?_) (X.F.keep b o e),X.F.above⟩,X.X,X.G,fun p hp=> ?_,?_,X.hi,X.R⟩
 ·obtain⟨o,es,ep,h1,h2⟩:=X.F.ns
  exact⟨o,es,ep,hk _ _ cL h1,h2⟩
 ·obtain⟨p,hp,rfl⟩:=List.mem_map.mp q
  have:=(X.N p (mW _ (mW _ hp))).2.2
  rw[e] at this;cases this
 ·have z:=X.N p (by rw[aA];exact mR _ hp)
  refine⟨hk _ _ (fun q=> ?_) z.1,z.2⟩
  exact dis p.1 (by simpa [ai] using q) p.1 (by rw[←mP,←mP];exact List.mem_map_of_mem hp) rfl
 ·rw[List.nodup_append] at nd
  simpa [ai] using nd.2.1
theorem SR.reits(X:St c f m (its++cel) h led T H)(hk: ∀b o,b∉ai its→h.get? b=some o→h'.get? b=some o)(ha:ai its'=ai its)(hn: ∀p∈its',h'.get? p.1=some p.2):St c f m (its'++cel) h' led T H:=by
 have Y:=X.keepBut hk
 refine⟨Y.F,Y.X,Y.G,fun p hp=> ?_,?_,Y.hi,Y.R⟩
 ·rw[aA] at hp
  rcases List.mem_append.mp hp with hp|hp
  ·refine⟨hn p hp,?_⟩
   have:p.1∈ai its:=ha▸List.mem_map_of_mem hp
   obtain⟨q,hq,e⟩:=List.mem_map.mp this
   have z:=X.N q (mW _ (mW _ hq))
   rw[e] at z;exact z.2
  ·exact Y.N p hp
 ·have nd:=X.nd
  simp only[ai,mP] at nd ha⊢
  rw[ha];exact nd
theorem SR.addits(X:St c f m cel h led T H)(hk: ∀b o,h.get? b=some o→h'.get? b=some o)(hn: ∀p∈its,h'.get? p.1=some p.2)(hf: ∀p∈its,h.objs.size≤p.1)(nd:(ai its).Nodup):St c f m (its++cel) h' led T H:=by
 have Y:=X.keeps hk
 have none_: ∀a,h.objs.size≤a→h.get? a=none:=fun a ha=>by
  cases q:h.get? a with
  |none=>rfl
  |some o=>exact absurd (Heap.lt_size q) (Nat.not_lt.mpr ha)
 refine⟨Y.F,Y.X,Y.G,fun p hp=> ?_,?_,Y.hi,Y.R⟩
 ·rw[aA] at hp
  rcases List.mem_append.mp hp with hp|hp
  ·refine⟨hn p hp,fun q=> ?_,?_⟩
   ·have z:=Heap.Ns.lt X.F.ns
    have z2:=hf p hp
    rw[q] at z2
    exact absurd z (Nat.not_lt.mpr z2)
   ·cases q:f.h₀.get? p.1 with
    |none=>rfl
    |some o=>have z:=none_ _ (hf p hp);rw[X.F.keep _ _ q] at z;cases z
  ·exact Y.N p hp
 ·have nd':=X.nd
  rw[aA]
  simp only[ai,mP] at nd nd'⊢
  rw[List.nodup_append]
  refine⟨nd,nd',fun a ha b hb=> ?_⟩
  obtain⟨p,hp,rfl⟩:=List.mem_map.mp ha
  rw[←mP,←mP] at hb
  obtain⟨q,hq,rfl⟩:=List.mem_map.mp hb
  intro e
  have:=X.lt q hq
  have z2:=hf p hp
  rw[e] at z2
  exact absurd this (Nat.not_lt.mpr z2)
theorem SR.itget(X:St c f m (its++cel) h led T H){p:Addr×Obj}(hp:p∈its):h.get? p.1=some p.2:=(X.N p (mW _ (mW _ hp))).1
structure Stp(c:Cx)(A:Around)(it:Value)(target:Expr)(ms:List MV)(gs:List (Nat×List MV))(I:Nat→List Addr→aN→aN→Prop):Prop where
 mono: ∀j as T as' T' its,I j as T its→Ext as T as' T'→I j as' T' its
 step: ∀j f m cel led T H s its,I j (ai led) T its→St c f m (its++cel) s.heap led T H→bg gs H→
  wpAny (model c.prog c.w) A (pyNext it) (fun r s1=>match r with
   |none=>ms[j]?=none∧St c f m cel s1.heap led T H∧Ok s s1
   |some v=>wpAny (model c.prog c.w) A (letOwnedTupleGo target it v) (fun _ s2=> ∃x its' T',ms[j]?=some x∧I (j+1) (ai led) T' its'∧St c f m (its'++cel) s2.heap led T' H∧Ext (ai led) T (ai led) T'∧VR c.K (ai led) T' v x∧Ok s s2) no s1) no s
 self: ∀j f m cel led T H s its (Q E:Value→Shared→Prop),I j (ai led) T its→St c f m (its++cel) s.heap led T H→Q it s→wpAny (model c.prog c.w) A (pyIter it) Q E s
theorem Ac{target:Expr}(ht:cP target=false)(hl: ∀es p,target≠ .List es p){it v:Value}:letOwnedTupleGo target it v=pure ():=by
 cases target<;>first|rfl|(exact absurd rfl (hl _ _))|cases ht
theorem nw{M:Model}{E:Value→Shared→Prop}{Q:Unit→Shared→Prop}{I:Addr}{o:Obj}{n:String}(ho:s.heap.get? I=some o)(hc:o.cls= .type n)(hn:["enumerate","zip","dict_itemiterator","dict_reverseitemiterator","odict_iterator","itertools.zip_longest","itertools.pairwise"].contains n=false)(hQ:Q () s){r:Addr}:
  wpAny M A (do
   let o←load I
   match o.cls,o.data with
   | .type n,.fields vs=>
    if(["enumerate","zip","dict_itemiterator","dict_reverseitemiterator","odict_iterator","itertools.zip_longest","itertools.pairwise"].contains n&&vs[0]?==some (rawInt r))=true then
     rule "for.unpacks-the-owned-tuple"
     updateField I 0 .none
   |_,_=>pure ()) Q E s:=by
 refine wpAny_bind (wpAny_load ho ?_)
 rw[hc]
 cases o.data<;>first
  |exact wpAny_pure hQ
  |(dsimp only;rw[hn];exact wpAny_pure hQ)
theorem fJ{target:Expr}{M:Model}{E:Value→Shared→Prop}{Q:Unit→Shared→Prop}{I:Addr}{v:Value}{o:Obj}{n:String}(ho:s.heap.get? I=some o)(hc:o.cls= .type n)(hn:["enumerate","zip","dict_itemiterator","dict_reverseitemiterator","odict_iterator","itertools.zip_longest","itertools.pairwise"].contains n=false)(hQ:Q () s):
  wpAny M A (letOwnedTupleGo target (.ref I) v) Q E s:=by
 cases target with
 |Tuple es k p=>cases v with
  |ref r=>exact nw ho hc hn hQ
  |_=>exact wpAny_pure hQ
 |List es p=>cases v with
  |ref r=>exact nw ho hc hn hQ
  |_=>exact wpAny_pure hQ
 |_=>exact wpAny_pure hQ
theorem y5{a:Addr}{o:Obj}:(ai [(a,o)]).Nodup:=by simp[ai]
noncomputable def qc(n:Nat)(I:Addr)(j:Nat)(as:List Addr)(T its:aN):Prop:= ∃l o,as[n]?=some l∧its=[(I,o)]∧o.cls= .type "list_iterator" ∧o.data= .fields #[.ref l,.int j 0]
theorem rN(hh:A.handled=none){n:Nat}{I:Addr}{ms:List MV}{target:Expr}{j:Nat}(I0:qc n I j (ai led) T its)(X:St c f m (its++cel) s.heap led T H)(hl:H[n]?=some (.list ms)):wpAny (model c.prog c.w) A (pyNext (.ref I)) (fun r s1=>match r with
   |none=>(ms)[j]?=none∧St c f m cel s1.heap led T H∧Ok s s1
   |some v=>wpAny (model c.prog c.w) A (letOwnedTupleGo target (.ref I) v) (fun _ s2=> ∃x its' T',(ms)[j]?=some x∧qc n I (j+1) (ai led) T' its'∧St c f m (its'++cel) s2.heap led T' H∧Ext (ai led) T (ai led) T'∧VR c.K (ai led) T' v x∧Ok s s2) no s1) no s:=by
 obtain⟨l,o,h1,h2,h3,h4⟩:=I0
 refine rB fun Q hq=> ?_
 subst h2
 obtain⟨l',vs,k,e,g0,g1,g2,g3⟩:=X.lst (v:= .ref l) (.loc h1) hl
 cases e
 have hit:s.heap.IsListIter I l j:=⟨o,X.itget (.head _),h3,h4⟩
 have L:s.heap.IsList l vs.toArray:=⟨_,g1,rfl,k,rfl⟩
 cases q:ms[j]? with
 |none=>exact wpAny_pyNext_list_end hh hit L (Array.getElem?_eq_none (show vs.length≤j from g2.len▸List.getElem?_eq_none_iff.mp q)) (fun h' hs=>hq none _ ⟨q,X.keepBut fun b o hb e=>hs b o (fun z=>hb (z▸ .head _)) e,⟨h',s.toks,rfl⟩⟩)
 |some x=>
  obtain⟨v,p1,p2⟩:=g2.idx q
  refine wpAny_pyNext_list_item hit L p1 (fun h' z hs=>hq (some _) _ ?_)
  clear hq
  obtain⟨o',k1,k2,k3⟩:=z
  refine fJ (s:={s with heap:=h'}) k1 k2 (by decide) ⟨x,[(I,o')],T,q,⟨l,o',h1,rfl,k2,k3⟩,X.reits (fun b o hb e=>(hs.2 b (fun z=>hb (z▸ .head _))).trans e) rfl (List.forall_mem_singleton.mpr k1),.refl,p2,⟨h',s.toks,rfl⟩⟩
theorem ua(hh:A.handled=none){n:Nat}{I:Addr}{target:Expr}{ms:List MV}:Stp c A (.ref I) target ms [(n,ms)] (qc n I):=
 ⟨fun j as T as' T' its I e=>by obtain⟨l,o,h1,h2⟩:=I;exact⟨l,o,e.pre _ _ h1,h2⟩,fun j f m cel led T H s its I X G=>rN hh I X (G _ (.head _)),fun j f m cel led T H s its Q E I X hQ=>by
  obtain⟨l,o,h1,h2,h3,h4⟩:=I
  subst h2
  exact wpAny_pyIter_listiter ⟨o,X.itget (.head _),h3,h4⟩ hQ⟩
theorem rO{Q:Value→Shared→Prop}{n:Nat}{u:Value}{ms:List MV}(X:St c f m cel s.heap led T H)(r:VR c.K (ai led) T u (.loc n))(e:H[n]?=some (.list ms))
  (k: ∀I its s',qc n I 0 (ai led) T its→St c f m (its++cel) s'.heap led T H→Ok s s'→Q (.ref I) s'):wpAny (model c.prog c.w) A (pyIter u) Q no s:=by
 obtain⟨l,vs,kk,rfl,g0,g1,g2,g3⟩:=X.lst r e
 refine wpAny_pyIter_list ⟨_,g1,rfl,kk,rfl⟩ (k _ [(s.heap.objs.size,_)] _ ⟨l,_,?_,rfl,rfl,rfl⟩ (X.addits (fun b o q=>Heap.get?_push_of_some _ q) (fun p hp=>by cases hp with|head=>exact Heap.get?_push_size _ rfl|tail _ z=>cases z) (fun p hp=>by cases hp with|head=>exact Nat.le_refl _|tail _ z=>cases z) y5) ⟨_,s.toks,rfl⟩)
 exact r.lc
noncomputable def xg(ms:List MV)(K:Frag)(I:Addr)(j:Nat)(as:List Addr)(T its:aN):Prop:= ∃t o,VR K as T (.ref t) (.tup ms)∧its=[(I,o)]∧o.cls= .type "tuple_iterator" ∧o.data= .fields #[.ref t,.int j 0]
theorem ub(hh:A.handled=none){I:Addr}{ms:List MV}{target:Expr}{j:Nat}(I0:xg ms c.K I j (ai led) T its)(X:St c f m (its++cel) s.heap led T H):wpAny (model c.prog c.w) A (pyNext (.ref I)) (fun r s1=>match r with
   |none=>(ms)[j]?=none∧St c f m cel s1.heap led T H∧Ok s s1
   |some v=>wpAny (model c.prog c.w) A (letOwnedTupleGo target (.ref I) v) (fun _ s2=> ∃x its' T',(ms)[j]?=some x∧xg ms c.K I (j+1) (ai led) T' its'∧St c f m (its'++cel) s2.heap led T' H∧Ext (ai led) T (ai led) T'∧VR c.K (ai led) T' v x∧Ok s s2) no s1) no s:=by
 obtain⟨l,o,h1,h2,h3,h4⟩:=I0
 refine rB fun Q hq=> ?_
 subst h2
 obtain⟨l',vs,e,L,g2,g3⟩:=X.isTup h1
 cases e
 have hit:s.heap.IsTupleIter I l j:=⟨o,X.itget (.head _),h3,h4⟩
 cases q:ms[j]? with
 |none=>exact wpAny_pyNext_tuple_end hh hit L (Array.getElem?_eq_none (show vs.length≤j from g2.len▸List.getElem?_eq_none_iff.mp q)) (fun h' hs=>hq none _ ⟨q,X.keepBut fun b o hb e=>hs b o (fun z=>hb (z▸ .head _)) e,⟨h',s.toks,rfl⟩⟩)
 |some x=>
  obtain⟨v,p1,p2⟩:=g2.idx q
  refine wpAny_pyNext_tuple_item hit L p1 (fun h' z hs=>hq (some _) _ ?_)
  clear hq
  obtain⟨o',k1,k2,k3⟩:=z
  refine fJ (s:={s with heap:=h'}) k1 k2 (by decide) ⟨x,[(I,o')],T,q,⟨l,o',h1,rfl,k2,k3⟩,X.reits (fun b o hb e=>(hs.2 b (fun z=>hb (z▸ .head _))).trans e) rfl (List.forall_mem_singleton.mpr k1),.refl,p2,⟨h',s.toks,rfl⟩⟩
theorem xh(hh:A.handled=none){I:Addr}{target:Expr}{ms:List MV}:Stp c A (.ref I) target ms [] (xg ms c.K I):=
 ⟨fun j as T as' T' its I e=>by obtain⟨l,o,h1,h2⟩:=I;exact⟨l,o,h1.mono e,h2⟩,fun j f m cel led T H s its I X G=>ub hh I X,fun j f m cel led T H s its Q E I X hQ=>by
  obtain⟨l,o,h1,h2,h3,h4⟩:=I
  subst h2
  exact wpAny_pyIter_tupleiter ⟨o,X.itget (.head _),h3,h4⟩ hQ⟩
theorem uc{Q:Value→Shared→Prop}{u:Value}{ms:List MV}(X:St c f m cel s.heap led T H)(r:VR c.K (ai led) T u (.tup ms))
  (k: ∀I its s',xg ms c.K I 0 (ai led) T its→St c f m (its++cel) s'.heap led T H→Ok s s'→Q (.ref I) s'):wpAny (model c.prog c.w) A (pyIter u) Q no s:=by
 obtain⟨t,vs,e,L,g2,g3⟩:=X.isTup r
 subst e
 exact wpAny_pyIter_tuple L (k _ [(s.heap.objs.size,_)] _ ⟨t,_,r,rfl,rfl,rfl⟩ (X.addits (fun b o q=>Heap.get?_push_of_some _ q) (fun p hp=>by cases hp with|head=>exact Heap.get?_push_size _ rfl|tail _ z=>cases z) (fun p hp=>by cases hp with|head=>exact Nat.le_refl _|tail _ z=>cases z) y5) ⟨_,s.toks,rfl⟩)
end
set_option backward.match.sparseCases false
section
variable{c:Cx}{f:Fx}{m:Str→Option Value}{its its' cel led T:aN}{h h':Heap}{H:Hp}{s:Shared}{A:Around}{d:Nat}
noncomputable def BQ(a c:Int)(n:Nat)(I:Addr)(j:Nat)(_:List Addr)(_ its:aN):Prop:=
 its=[(I,{cls:= .type "range_iterator",dict:=none,data:= .fields #[rawInt (a+c*j),rawInt ((n:Int)- j),rawInt c],slots:= #[]})]∧j≤n
theorem xi(hh:A.handled=none){a cc:Int}{n:Nat}{I:Addr}{target:Expr}:Stp c A (.ref I) target (aX a n cc) [] (BQ a cc n I):=by
 refine⟨fun j as T as' T' its h _=>h,fun j f m cel led T H s its ⟨h2,hj⟩ X G=> ?_,fun j f m cel led T H s its Q E ⟨h2,hj⟩ X hQ=>wpAny_pyIter_rangeiter (X.itget (h2▸List.Mem.head _)) hQ⟩
 subst h2
 have hit:IsRangeIter s.heap I (a+cc*j) ((n:Int)- j) cc:=X.itget (.head _)
 by_cases q:j<n
 ·refine wpAny_pyNext_range_item hit (by exact af [] [_,_] 0x44b0284031 33 8473 q) (fun h' k1 hs=> ?_)
  refine fJ (s:={s with heap:=h',toks:=s.toks+1}) k1 rfl (by decide) ⟨.int (a+cc*j),[(I,_)],T,by simp[aX,q],⟨rfl,q⟩,X.reits (fun b o hb e=>(hs.2 b (fun z=>hb (by simp[ai,z]))).trans e) rfl (fun p hp=>by
   cases hp with
   |head=>
    rw[show a+cc*((j+1:Nat):Int)=a+cc*j+cc by rw[Int.natCast_add,Int.mul_add];simp[Int.add_assoc],show(n:Int)- ((j+1:Nat):Int)=(n:Int)- j- 1 by exact aV [] [_,_] 0x8e258142108e202c0a12 33]
    exact k1
   |tail _ z=>cases z),.refl,.int _ _,⟨h',s.toks+1,rfl⟩⟩
 ·refine wpAny_pyNext_range_end hh hit (by exact af [] [_,_] 0x712c0a10 33 8475 q) (fun h' hs=>⟨by simp[aX];exact af [] [_,_] 8968 33 8475 q,X.keepBut fun b o hb e=>hs b o (fun z=>hb (by simp[ai,z])) e,⟨h',s.toks,rfl⟩⟩)
theorem ud{Q:Value→Shared→Prop}{r:Addr}{a b cc:Int}{n:Nat}{t u v:Tok}(X:St c f m cel s.heap led T H)(hr:IsRange s.heap r a b cc t u v)(hs:Builtin.Range.small a b cc=true)(hn:Builtin.Range.rangeSize a b cc=n)
  (k: ∀I its s',BQ a cc n I 0 (ai led) T its→St c f m (its++cel) s'.heap led T H→Ok s s'→Q (.ref I) s'):wpAny (model c.prog c.w) A (pyIter (.ref r)) Q no s:=by
 refine wpAny_pyIter_range hr hs (k _ [(s.heap.objs.size,_)] _ ⟨?_,Nat.zero_le _⟩ (X.addits (fun b o q=>Heap.get?_push_of_some _ q) (fun p hp=>by cases hp with|head=>exact Heap.get?_push_size _ rfl|tail _ z=>cases z) (fun p hp=>by cases hp with|head=>exact Nat.le_refl _|tail _ z=>cases z) y5) ⟨_,s.toks,rfl⟩)
 rw[hn];simp
noncomputable abbrev xj(I:Addr)(j:Nat)(old:Value):Obj:={cls:= .type "enumerate",dict:=none,data:= .fields #[.none,.bool false,.ref I,rawInt j,.none,old],slots:= #[]}
noncomputable def xk(n:Nat)(e I:Addr)(j:Nat)(as:List Addr)(T its:aN):Prop:= ∃l o old,as[n]?=some l∧its=[(e,xj I j old),(I,o)]∧o.cls= .type "list_iterator" ∧o.data= .fields #[.ref l,.int j 0]
theorem qd(X:St c f m cel s.heap led T H){its its':aN}{h':Heap}(X':St c f m (its++cel) s.heap led T H)(Y:St c f m (its'++cel) h' led T H)(ha:ai its'=ai its){v1 v2:Value}{x1 x2:MV}(k:h'.get? s.heap.objs.size=some (cO [v1,v2] 0))(r1:VR c.K (ai led) T v1 x1)(r2:VR c.K (ai led) T v2 x2):
  ∃T',St c f m (its'++cel) h' led T' H∧Ext (ai led) T (ai led) T'∧VR c.K (ai led) T' (.ref s.heap.objs.size) (.tup [x1,x2]):=by
 have old_: ∀p∈(its'++cel)++(led++T),p.1≠s.heap.objs.size:=fun p hp=>by
  have:p.1∈ai ((its++cel)++(led++T)):=by
   have:=List.mem_map_of_mem (f:=(·.1)) hp
   simp only[ai,mP] at this ha⊢
   rw[←ha];exact this
  obtain⟨q,hq,eq⟩:=List.mem_map.mp this
  rw[←eq];exact X'.fresh q hq
 have N1:News f.h₀ f.L h' ((s.heap.objs.size,cO [v1,v2] 0)::((its'++cel)++(led++T))):=fun p hp=>by
  rcases List.mem_cons.mp hp with rfl|hp
  ·exact⟨k,X'.freshL,X'.fresh0⟩
  ·exact Y.N p hp
 exact⟨(s.heap.objs.size,cO [v1,v2] 0)::T,Y.newT old_ Y.F N1,lh _ _ _,.tup (.head _) (by simp[dK]) (.cons (r1.mono (lh _ _ _)) (.cons (r2.mono (lh _ _ _)) .nil))⟩
theorem ue(hh:A.handled=none){n:Nat}{e I:Addr}{es:List Expr}{kk:Nat}{pos:Pos}{ms:List MV}(hne:e≠I){j:Nat}(I0:xk n e I j (ai led) T its)(X:St c f m (its++cel) s.heap led T H)(hl:H[n]?=some (.list ms)):wpAny (model c.prog c.w) A (pyNext (.ref e)) (fun r s1=>match r with
   |none=>(bm ms)[j]?=none∧St c f m cel s1.heap led T H∧Ok s s1
   |some v=>wpAny (model c.prog c.w) A (letOwnedTupleGo (.Tuple es kk pos) (.ref e) v) (fun _ s2=> ∃x its' T',(bm ms)[j]?=some x∧xk n e I (j+1) (ai led) T' its'∧St c f m (its'++cel) s2.heap led T' H∧Ext (ai led) T (ai led) T'∧VR c.K (ai led) T' v x∧Ok s s2) no s1) no s:=by
 obtain⟨l,o,old,h1,h2,h3,h4⟩:=I0
 refine rB fun Q hq=> ?_
 subst h2
 obtain⟨l',vs,k,el,g0,g1,g2,g3⟩:=X.lst (v:= .ref l) (.loc h1) hl
 cases el
 have he:IsEnum s.heap e I j old:=X.itget (.head _)
 have hit:s.heap.IsListIter I l j:=⟨o,X.itget (.tail _ (.head _)),h3,h4⟩
 have L:s.heap.IsList l vs.toArray:=⟨_,g1,rfl,k,rfl⟩
 have he2:(bm ms)[j]?=(ms[j]?).map fun x=> .tup [.int j,x]:=by
  unfold bm
  rw[List.getElem?_map,List.getElem?_zipIdx]
  cases ms[j]? with
  |none=>rfl
  |some x=>simp
 cases q:ms[j]? with
 |none=>
  exact wpAny_pyNext_enum_end hh he hit L (Array.getElem?_eq_none (show vs.length≤j from g2.len▸List.getElem?_eq_none_iff.mp q)) (fun h' hs=>hq none _ ⟨by rw[he2,q];rfl,X.keepBut fun b o hb e=>hs b o (fun z=>hb (z▸ .tail _ (.head _))) e,⟨h',s.toks,rfl⟩⟩)
 |some x=>
  obtain⟨v,p1,p2⟩:=g2.idx q
  refine wpAny_pyNext_enum_item he hit L p1 hne (fun h' k0 z k4 _ hk=>hq (some _) _ ?_)
  clear hq
  obtain⟨o',k1,k2,k3⟩:=z
  refine rB fun Q hq=>wpAny_letOwnedTupleGo_enum k0 (fun h'' m1 hs=>hq _ _ ?_)
  clear hq
  have Y:St c f m ([(e,xj I (j+1) v),(I,o')]++cel) h'' led T H:=X.reits (fun b o hb eb=>by
    have n1:b≠e:=fun z=>hb (z▸ .head _)
    exact(hs.2 b n1).trans (hk b o n1 (fun z=>hb (z▸ .tail _ (.head _))) eb)) rfl (List.forall_mem_cons.mpr ⟨m1,List.forall_mem_singleton.mpr ((hs.2 _ (Ne.symm hne)).trans k1)⟩)
  obtain⟨T',X3,E3,r3⟩:=qd (X.keepBut fun _ _ _ e=>e) X Y rfl ((hs.2 _ (Nat.ne_of_gt (Heap.lt_size he))).trans k4) (.int _ _) p2
  exact⟨_,_,T',by rw[he2,q];rfl,⟨l,o',v,E3.pre _ _ h1,rfl,k2,k3⟩,X3,E3,r3,⟨h'',_,rfl⟩⟩
theorem xl(hh:A.handled=none){n:Nat}{e I:Addr}{es:List Expr}{kk:Nat}{pos:Pos}{ms:List MV}(hne:e≠I):Stp c A (.ref e) (.Tuple es kk pos) (bm ms) [(n,ms)] (xk n e I):=
 ⟨fun j as T as' T' its I e=>by obtain⟨l,o,old,h1,h2⟩:=I;exact⟨l,o,old,e.pre _ _ h1,h2⟩,fun j f m cel led T H s its I X G=>ue hh hne I X (G _ (.head _)),fun j f m cel led T H s its Q E I X hQ=>by
  obtain⟨l,o,old,h1,h2,h3,h4⟩:=I
  subst h2
  exact wpAny_pyIter_enum (X.itget (.head _)) hQ⟩
theorem uf{Q:Value→Shared→Prop}{n:Nat}{u:Value}{ms:List MV}(X:St c f m cel s.heap led T H)(r:VR c.K (ai led) T u (.loc n))(e:H[n]?=some (.list ms)){Q:Value→Shared→Prop}
  (k: ∀a I its s',a≠I→xk n a I 0 (ai led) T its→St c f m (its++cel) s'.heap led T H→Ok s s'→s'.heap.get? a=some (xj I 0 .none)→Q (.ref a) s'):wpAny (model c.prog c.w) A (call (.type "enumerate") [u]) Q no s:=by
 obtain⟨l,vs,kk,rfl,g0,g1,g2,g3⟩:=X.lst r e
 refine call_enumerate_list ⟨_,g1,rfl,kk,rfl⟩ (fun h' he ⟨o,i1,i2,i3⟩ _ hk=> ?_)
 refine k _ _ [(s.heap.objs.size+1,xj s.heap.objs.size 0 .none),(s.heap.objs.size,o)] _ (Nat.succ_ne_self _) ⟨l,o,.none,?_,rfl,i2,i3⟩ (X.addits hk (fun p hp=> ?_) (fun p hp=> ?_) ?_) ⟨h',s.toks,rfl⟩ he
 ·exact r.lc
 ·cases hp with
  |head=>exact he
  |tail _ z=>cases z with
   |head=>exact i1
   |tail _ z=>cases z
 ·cases hp with
  |head=>exact Nat.le_succ _
  |tail _ z=>cases z with
   |head=>exact Nat.le_refl _
   |tail _ z=>cases z
 ·simp[ai]
noncomputable abbrev BR(TI TO:Addr):Obj:={cls:= .type "zip",dict:=none,data:= .fields #[.none,.bool false,.bool false,.ref TI,.ref TO],slots:= #[]}
noncomputable abbrev Fb(a b:Value):Obj:={cls:= .type "tuple",data:= .seq #[a,b]}
noncomputable abbrev zL(z TI TO i1 i2:Addr)(a b:Value)(o1 o2:Obj):aN:=[(z,BR TI TO),(TI,Fb (.ref i1) (.ref i2)),(TO,Fb a b),(i1,o1),(i2,o2)]
inductive ZipI(n1 n2:Nat)(z TI TO i1 i2:Addr)(j:Nat)(as:List Addr)(T its:aN):Prop
 |of (l1 l2:Addr) (o1 o2:Obj) (a b:Value) (h1:as[n1]?=some l1) (h2:as[n2]?=some l2) (h3:its=zL z TI TO i1 i2 a b o1 o2) (h4:o1.cls= .type "list_iterator") (h5:o1.data= .fields #[.ref l1,.int j 0]) (h6:o2.cls= .type "list_iterator") (h7:o2.data= .fields #[.ref l2,.int j 0])
theorem Bn{α:Type}{P:α→Prop}{a b c d e:α}:(∀p∈[a,b,c,d,e],P p)↔P a∧P b∧P c∧P d∧P e:=by
 rw[List.forall_mem_cons,List.forall_mem_cons,List.forall_mem_cons,List.forall_mem_cons,List.forall_mem_cons]
 exact⟨fun h=>⟨h.1,h.2.1,h.2.2.1,h.2.2.2.1,h.2.2.2.2.1⟩,fun h=>⟨h.1,h.2.1,h.2.2.1,h.2.2.2.1,h.2.2.2.2,fun _ h=>absurd h List.not_mem_nil⟩⟩
theorem SR.itgets(X:St c f m (its++cel) h led T H): ∀p∈its,h.get? p.1=some p.2:=fun _ hp=>X.itget hp
theorem SR.itne(X:St c f m (its++cel) h led T H){p:Addr×Obj}(hp:p∈its){n:Nat}{l:Addr}(e:(ai led)[n]?=some l):l≠p.1:=by
 intro q
 have nd:=X.nd
 rw[aA] at nd
 simp only[ai,mP] at nd e
 refine(List.nodup_append.mp nd).2.2 p.1 (List.mem_map_of_mem hp) l ?_ q.symm
 exact mR _ (mW _ (mG e))
theorem ug(hh:A.handled=none){n1 n2:Nat}{z TI TO i1 i2:Addr}{es:List Expr}{kk:Nat}{pos:Pos}{ms ns:List MV}(hl:ms.length=ns.length){j:Nat}(I:ZipI n1 n2 z TI TO i1 i2 j (ai led) T its)(X:St c f m (its++cel) s.heap led T H)(G:bg [(n1,ms),(n2,ns)] H):
  wpAny (model c.prog c.w) A (pyNext (.ref z)) (fun r s1=>match r with
   |none=>(dN ms ns)[j]?=none∧St c f m cel s1.heap led T H∧Ok s s1
   |some v=>wpAny (model c.prog c.w) A (letOwnedTupleGo (.Tuple es kk pos) (.ref z) v) (fun _ s2=> ∃x its' T',(dN ms ns)[j]?=some x∧ZipI n1 n2 z TI TO i1 i2 (j+1) (ai led) T' its'∧St c f m (its'++cel) s2.heap led T' H∧Ext (ai led) T (ai led) T'∧VR c.K (ai led) T' v x∧Ok s s2) no s1) no s:=by
 refine rB fun Q' hq=> ?_
 obtain⟨l1,l2,o1,o2,a,b,h1,h2,rfl,h4,h5,h6,h7⟩:=I
 obtain⟨_,vs,k,e1,g0,g1,g2,g3⟩:=X.lst (v:= .ref l1) (.loc h1) (G _ (.head _))
 cases e1
 obtain⟨_,ws,k',e2,q0,q1,q2,q3⟩:=X.lst (v:= .ref l2) (.loc h2) (G _ (.tail _ (.head _)))
 cases e2
 obtain⟨hz,hTI,hTO,m3,m4⟩:=Bn.mp X.itgets
 have ne1: ∀p∈zL z TI TO i1 i2 a b o1 o2,l1≠p.1:=fun p hp=>X.itne hp h1
 have ne2: ∀p∈zL z TI TO i1 i2 a b o1 o2,l2≠p.1:=fun p hp=>X.itne hp h2
 obtain⟨x1,_,x2,x3,x4⟩:=Bn.mp ne1
 obtain⟨y1,_,y2,y3,y4⟩:=Bn.mp ne2
 have L1:s.heap.IsList l1 vs.toArray:=⟨_,g1,rfl,k,rfl⟩
 have L2:s.heap.IsList l2 ws.toArray:=⟨_,q1,rfl,k',rfl⟩
 have y5:[z,TI,TO,i1,i2].Nodup:=by
  have nd:=X.nd
  rw[aA] at nd
  simp only[ai,mP] at nd
  exact(List.nodup_append.mp nd).1
 simp only[List.nodup_cons,List.mem_cons,List.not_mem_nil,or_false,not_or,not_false_eq_true,List.nodup_nil,and_true] at y5
 obtain⟨⟨a1,a2,a3,a4⟩,⟨b1,b2,b3⟩,⟨c1,c2⟩,d1⟩:=y5
 have D:ZipApart z TI TO i1 i2 l1 l2:=⟨Ne.symm a1,Ne.symm a2,Ne.symm a3,Ne.symm a4,b1,b2,b3,c1,c2,d1,x1,x2,x3,x4,y1,y2,y3,y4⟩
 have nin: ∀b':Addr,b'∉ [z,TI,TO,i1,i2]→b'≠z∧b'≠TI∧b'≠TO∧b'≠i1∧b'≠i2:=fun b' hb=>by
  simpa [not_or] using hb
 cases q:ms[j]? with
 |none=>
  have hj:ms.length≤j:=List.getElem?_eq_none_iff.mp q
  refine wpAny_pyNext_zip_end hh D hz hTI hTO ⟨o1,m3,h4,h5⟩ ⟨o2,m4,h6,h7⟩ L1 L2 (.inl (Array.getElem?_eq_none (show vs.length≤j from g2.len▸hj))) (fun h' hk=>hq none _ ⟨List.getElem?_eq_none_iff.mpr ?_,X.keepBut fun b' o hb e=> ?_,⟨h',s.toks,rfl⟩⟩)
  ·rw[dN,lM,List.length_zip];exact Nat.le_trans (Nat.min_le_left _ _) hj
  ·obtain⟨w1,w2,w3,w4,w5⟩:=nin b' hb
   exact hk b' o w1 w3 w4 w5 e
 |some x=>
  have hj:j<ms.length:=(gS q).1
  obtain⟨v,p1,p2⟩:=g2.idx q
  have hy:ns[j]?=some (ns[j]'(hl▸hj)):=gE (hl▸hj)
  obtain⟨u,r1,r2⟩:=q2.idx hy
  refine wpAny_pyNext_zip_item D hz hTI hTO ⟨o1,m3,h4,h5⟩ ⟨o2,m4,h6,h7⟩ L1 L2 p1 r1 (fun h' z1 z2 t1 t2 z3 _ hk=> ?_)
  obtain⟨o1',k1,k2,k3⟩:=t1
  obtain⟨o2',t1,t2,t3⟩:=t2
  refine hq (some _) _ (rB fun Q2 hq2=>wpAny_letOwnedTupleGo_zip (s:={s with heap:=h'}) z1 (fun h'' m1 hs=>hq2 _ _ ?_))
  clear hq hq2
  have Y:St c f m (zL z TI TO i1 i2 v u o1' o2'++cel) h'' led T H:=X.reits (fun b' o hb eb=>by
    obtain⟨w1,w2,w3,w4,w5⟩:=nin b' hb
    exact(hs.2 b' w1).trans (hk b' o w1 w3 w4 w5 eb)) rfl (Bn.mpr ⟨m1,(hs.2 _ (Ne.symm a1)).trans (hk _ _ (Ne.symm a1) b1 b2 b3 hTI),(hs.2 _ (Ne.symm a2)).trans z2,(hs.2 _ (Ne.symm a3)).trans k1,(hs.2 _ (Ne.symm a4)).trans t1⟩)
  obtain⟨T',X3,E3,r3⟩:=qd (X.keepBut fun _ _ _ e=>e) X Y rfl ((hs.2 _ (Nat.ne_of_gt (Heap.lt_size hz))).trans z3) p2 r2
  refine⟨_,_,T',?_,.of l1 l2 o1' o2' v u (E3.pre _ _ h1) (E3.pre _ _ h2) rfl k2 k3 t2 t3,X3,E3,r3,⟨h'',_,rfl⟩⟩
  rw[dN,List.getElem?_map,(List.getElem?_zip_eq_some (z:=(x,ns[j]'(hl▸hj)))).mpr ⟨q,hy⟩];rfl
theorem xm(hh:A.handled=none){n1 n2:Nat}{z TI TO i1 i2:Addr}{es:List Expr}{kk:Nat}{pos:Pos}{ms ns:List MV}(hl:ms.length=ns.length):Stp c A (.ref z) (.Tuple es kk pos) (dN ms ns) [(n1,ms),(n2,ns)] (ZipI n1 n2 z TI TO i1 i2):=
 ⟨fun j as T as' T' its I e=>by obtain⟨l1,l2,o1,o2,a,b,h1,h2,h3,h4,h5,h6,h7⟩:=I;exact .of l1 l2 o1 o2 a b (e.pre _ _ h1) (e.pre _ _ h2) h3 h4 h5 h6 h7,fun j f m cel led T H s its I X G=>ug hh hl I X G,fun j f m cel led T H s its Q E I X hQ=>by
  obtain⟨l1,l2,o1,o2,a,b,h1,h2,h3,h4,h5,h6,h7⟩:=I
  subst h3;exact wpAny_pyIter_zip (X.itget (.head _)) hQ⟩
theorem DQ(N:Nat):([N+4,N+2,N+3,N,N+1]:List Nat).Nodup:=by simp
theorem uh{n1 n2:Nat}{u v:Value}{ms ns:List MV}(X:St c f m cel s.heap led T H)(r1:VR c.K (ai led) T u (.loc n1))(e1:H[n1]?=some (.list ms))(r2:VR c.K (ai led) T v (.loc n2))(e2:H[n2]?=some (.list ns)){Q:Value→Shared→Prop}
  (k: ∀z TI TO i1 i2 its s',ZipI n1 n2 z TI TO i1 i2 0 (ai led) T its→St c f m (its++cel) s'.heap led T H→Ok s s'→s'.heap.get? z=some (BR TI TO)→Q (.ref z) s'):wpAny (model c.prog c.w) A (call (.type "zip") [u,v]) Q no s:=by
 obtain⟨l1,vs,k1,rfl,g0,g1,g2,g3⟩:=X.lst r1 e1
 obtain⟨l2,ws,k2,rfl,q0,q1,q2,q3⟩:=X.lst r2 e2
 refine call_zip_2 ⟨_,g1,rfl,k1,rfl⟩ ⟨_,q1,rfl,k2,rfl⟩ (fun h' hz hTI hTO p1 p2 _ hk=> ?_)
 obtain⟨o1,i1,j1,y1⟩:=p1
 obtain⟨o2,i2,j2,y2⟩:=p2
 exact k _ _ _ _ _ (zL (s.heap.objs.size+4) (s.heap.objs.size+2) (s.heap.objs.size+3) s.heap.objs.size (s.heap.objs.size+1) .none .none o1 o2) _
  (.of l1 l2 o1 o2 .none .none (by exact r1.lc) (by exact r2.lc) rfl j1 y1 j2 y2)
  (X.addits hk (Bn.mpr ⟨hz,hTI,hTO,i1,i2⟩) (Bn.mpr ⟨Nat.le_add_right _ _,Nat.le_add_right _ _,Nat.le_add_right _ _,Nat.le_refl _,Nat.le_add_right _ _⟩) (DQ s.heap.objs.size)) ⟨h',s.toks,rfl⟩ hz
end
section
variable{c:Cx}{d:Nat}{sc:cu}{σ:aQ}{H H' H1 H2 H3:Hp}{mv x y:MV}{e l r:Expr}{b:Bool}{pos:Pos}
noncomputable def s9(c:Cx)(d:Nat)(sc:cu)(e:Expr)(σ:aQ)(H:Hp)(items:List MV)(gs:List (Nat×List MV))(H':Hp):Prop:=
 ∀A env f m cel led T s (target:Expr) (Q:Value→Shared→Prop),(cI e=true→cP target=true)→Cn c d sc σ A env f m cel led T H s→
  (∀it led1 T1 its I s1,Stp c A it target items gs I→I 0 (ai led1) T1 its→St c f m (its++cel) s1.heap led1 T1 H'→Ext (ai led) T (ai led1) T1→Ok s s1→bg gs H'→Q it s1)→
  wpAny (model c.prog c.w) A (eval e env) (fun x s1=>wpAny (model c.prog c.w) A (pyIter x) Q no s1) no s
theorem DR{items:List MV}{gs:List (Nat×List MV)}(h:cg c d sc e σ H x H1)(k:ka H1 x=some (items,gs)):s9 c d sc e σ H items gs H1:=fun A env f m cel led T s target Q ho C K=>by
 refine h.then C fun l1 T1 v1 s1 C1 e1 r1 o1=> ?_
 cases x with
 |loc n=>
  obtain⟨l,q,k⟩:=ag k
  have q:=bp q
  cases k
  exact rO C1.X r1 q fun I its s2 h1 h2 h3=>K (.ref I) l1 T1 its _ s2 (ua C1.A.hd) h1 h2 e1 (o1.trans h3) (fun g hg=>by
   cases hg with
   |head=>exact q
   |tail _ z=>cases z)
 |tup l=>
  cases k
  exact uc C1.X r1 fun I its s2 h1 h2 h3=>K (.ref I) l1 T1 its _ s2 (xh C1.A.hd) h1 h2 e1 (o1.trans h3) (fun g hg=>by cases hg)
 |_=>exact nS k
theorem qe{a b:Int}(ha:bF a)(hb:bF b)(h:b≤a):Builtin.Range.small a b 8=true∧Builtin.Range.rangeSize a b 8=0:=by
 have e:Builtin.Range.rangeSize a b 8=0:=by
  unfold Builtin.Range.rangeSize
  rw[if_pos (by decide),if_neg (by exact af [_,_] [] 4739 33 4240 h)]
 refine⟨?_,e⟩
 unfold bF at ha hb
 unfold Builtin.Range.small
 rw[e]
 simp only[Builtin.Range.rangeFitsLong,Bool.and_eq_true,Bool.or_eq_true,decide_eq_true_eq,beq_iff_eq,show(8:Int)>0 by decide,if_true]
 omega
theorem lb{a:Int}(h:bF a): -2^62≤a∧a<2^62:=by
 exact⟨Int.le_of_lt h.1,h.2⟩
theorem ui{K:Frag}{as:List Addr}{T:aN}{vs:List Value}{xs items:List MV}(r:VRs K as T vs xs)(h:mi xs=some items){P:List Value→Prop}(p1: ∀b t,bF b→aX 0 b.toNat 1=items→P [.int b t])(p2: ∀a t b u,bF a→bF b→aX a (b- a).toNat 1=items→P [.int a t,.int b u])
  (p3: ∀a t b u v,bF a→bF b→aX a (a- b).toNat (-1)=items→P [.int a t,.int b u,.int (-1) v]) (p4: ∀a t b u v,bF a→bF b→b≤a→[]=items→P [.int a t,.int b u,.int 8 v]):P vs:=by
 cases xs with
 |nil=>nomatch h
 |cons x xs=>
  refine kh vs r fun w vs r1 r=>la w h r1 fun a t h=> ?_
  cases xs with
  |nil=>exact oQ vs r (P:=fun vs=>P (.int a t::vs)) (fI h fun q h=>p1 a t q (oI h))
  |cons y xs=>
   refine kh vs r (P:=fun vs=>P (.int a t::vs)) fun w vs r1 r=>la w h r1 (P:=fun w=>P (.int a t::w::vs)) fun b u h=>fI h fun q h=> ?_
   cases xs with
   |nil=>exact oQ vs r (P:=fun vs=>P (.int a t:: .int b u::vs)) (p2 a t b u q.1 q.2 (oI h))
   |cons z xs=>
    refine kh vs r (P:=fun vs=>P (.int a t:: .int b u::vs)) fun w vs r1 r=>la w h r1 (P:=fun w=>P (.int a t:: .int b u::w::vs)) fun e v h=> ?_
    cases xs with
    |nil=>exact oQ vs r (P:=fun vs=>P (.int a t:: .int b u:: .int e v::vs)) (tL h (fun q1 h=>q1▸p3 a t b u v q.1 q.2 (oI h)) fun h=>fI h fun q1 h=>q1.1▸p4 a t b u v q.1 q.2 q1.2 (oI h))
    |cons=>nomatch h
theorem uj{A:Around}{f:Fx}{m:Str→Option Value}{cel led T:aN}{s:Shared}(hA:AO A d)(X:St c f m cel s.heap led T H){xs items:List MV}{vs:List Value}(r:VRs c.K (ai led) T vs xs)(h:mi xs=some items){target:Expr}{Q:Value→Shared→Prop}
  (K: ∀it its I s1,Stp c A it target items [] I→I 0 (ai led) T its→St c f m (its++cel) s1.heap led T H→Ok s s1→Q it s1):
  wpAny (model c.prog c.w) A (call (.type "range") vs) (fun x s1=>wpAny (model c.prog c.w) A (pyIter x) Q no s1) no s:=by
 have go: ∀ {o:Obj} {a b cc:Int} {n:Nat} {t u v:Tok} {tk:Nat},o={cls:= .type "range",data:= .fields #[.int a t,.int b u,.int cc v]}→Builtin.Range.small a b cc=true→Builtin.Range.rangeSize a b cc=n→aX a n cc=items→wpAny (model c.prog c.w) A (pyIter (.ref s.heap.objs.size)) Q no {s with heap:=s.heap.push o,toks:=tk}:=fun e hs hn hi=>by
  subst e hi
  exact ud (X.keeps (h':=s.heap.push _) fun b o q=>Heap.get?_push_of_some _ q) (Heap.get?_push_size _ rfl) hs hn fun I its s2 h1 h2 h3=>K (.ref I) its _ s2 (xi hA.hd) h1 h2 ((Ok.mk s _ _).trans h3)
 exact ui (P:=fun vs=>wpAny (model c.prog c.w) A (call (.type "range") vs) (fun x s1=>wpAny (model c.prog c.w) A (pyIter x) Q no s1) no s) r h
  (fun b t q e=>call_range_1 (go rfl (small_one (by decide) (by decide) (lb q).1 (lb q).2) (by rw[rangeSize_nat,Int.sub_zero]) e))
  (fun a t b u q1 q2 e=>call_range_2 (go rfl (small_one (lb q1).1 (lb q1).2 (lb q2).1 (lb q2).2) (rangeSize_nat _ _) e))
  (fun a t b u v q1 q2 e=>call_range_3 (by decide) (go rfl (small_down (lb q1).1 (lb q1).2 (lb q2).1 (lb q2).2) (rangeSize_downNat _ _) e) (.inl (PyProof.noPylong_of_log2 (by decide+kernel))))
  (fun a t b u v q1 q2 q3 e=>call_range_3 (by decide) (go (n:=0) rfl (qe q1 q2 q3).1 (qe q1 q2 q3).2 e) (.inl (PyProof.noPylong_of_log2 (by decide+kernel))))
theorem Ad{z:Str}{zp:Pos}{es:List Expr}{xs items:List MV}(hf:cg c d sc (.Name z zp) σ H (.glob (.type "range")) H1)(h0:es=[]→xs=[]∧H2=H1)(hs:cx es)(h:oC c d sc es σ H1 xs H2)(k:mi xs=some items):
  s9 c d sc (.Call (.Name z zp) es [] pos) σ H items [] H2:=fun A env f m cel led T s target Q ho C K=>by
 refine wpAny_Call_NameR (hf.then C fun l1 T1 v1 s1 C1 e1 r1 o1=> ?_)
 cases r1.isG
 exact bV h0 hs h C1 (.inr (.inr ⟨_,rfl⟩)) fun l2 T2 vs s2 C2 e2 r2 o2=>uj C2.A C2.X r2 k fun it its I s3 h1 h2 h3 o3=>K it l2 T2 its I s3 h1 h2 h3 (e1.trans e2) (o1.trans (o2.trans o3)) (fun g hg=>by cases hg)
theorem BS{z:Str}{zp:Pos}{es:List Expr}{n:Nat}{ms:List MV}(hz:cI (.Call (.Name z zp) es [] pos)=true)(hf:cg c d sc (.Name z zp) σ H (.glob (.type "enumerate")) H1)(h0:es=[]→[MV.loc n]=[]∧H2=H1)(hs:cx es)(h:oC c d sc es σ H1 [.loc n] H2)(k:H2[n]?=some (.list ms)):
  s9 c d sc (.Call (.Name z zp) es [] pos) σ H (bm ms) [(n,ms)] H2:=fun A env f m cel led T s target Q ho C K=>by
 refine wpAny_Call_NameR (hf.then C fun l1 T1 v1 s1 C1 e1 r1 o1=> ?_)
 cases r1.isG
 refine bV h0 hs h C1 (.inr (.inr ⟨_,rfl⟩)) fun l2 T2 vs s2 C2 e2 r2 o2=> ?_
 have ht:=ho hz
 cases r2 with|cons w1 r2=>cases r2;exact uf (Q:=fun _ _=>True) C2.X w1 k fun a I its s3 hne h1 h2 h3 h4=>wpAny_pyIter_enum (i:=(0:Nat)) h4 (by
  cases target with
  |Tuple ts kk p=>exact K (.ref a) l2 T2 its _ s3 (xl C2.A.hd hne) h1 h2 (e1.trans e2) (o1.trans (o2.trans h3)) (fun g hg=>by
    cases hg with
    |head=>exact k
    |tail _ z=>cases z)
  |_=>cases ht)
theorem DS{z:Str}{zp:Pos}{es:List Expr}{n1 n2:Nat}{ms ns:List MV}(hz:cI (.Call (.Name z zp) es [] pos)=true)(hf:cg c d sc (.Name z zp) σ H (.glob (.type "zip")) H1)(h0:es=[]→[MV.loc n1,MV.loc n2]=[]∧H2=H1)(hs:cx es)(h:oC c d sc es σ H1 [.loc n1,.loc n2] H2)(k1:H2[n1]?=some (.list ms))(k2:H2[n2]?=some (.list ns))(hl:ms.length=ns.length):
  s9 c d sc (.Call (.Name z zp) es [] pos) σ H (dN ms ns) [(n1,ms),(n2,ns)] H2:=fun A env f m cel led T s target Q ho C K=>by
 refine wpAny_Call_NameR (hf.then C fun l1 T1 v1 s1 C1 e1 r1 o1=> ?_)
 cases r1.isG
 refine bV h0 hs h C1 (.inr (.inr ⟨_,rfl⟩)) fun l2 T2 vs s2 C2 e2 r2 o2=> ?_
 have ht:=ho hz
 cases r2 with|cons w1 r2=>cases r2 with|cons w2 r2=>cases r2;exact uh C2.X w1 k1 w2 k2 fun a TI TO i1 i2 its s3 h1 h2 h3 h4=>wpAny_pyIter_zip h4 (by
  cases target with
  |Tuple ts kk p=>exact K (.ref a) l2 T2 its _ s3 (xm C2.A.hd hl) h1 h2 (e1.trans e2) (o1.trans (o2.trans h3)) (fun g hg=>by
    cases hg with
    |head=>exact k1
    |tail _ z=>cases z with
     |head=>exact k2
     |tail _ z=>cases z)
  |_=>cases ht)
end
section
variable{c:Cx}{d:Nat}{sc:cu}{σ:aQ}{A:Around}{f:Fx}{m m0 m':Str→Option Value}{kp cel cel' led led' T T':aN}{h h₁ h':Heap}{H H' H1 H2 H3:Hp}{s:Shared}{mv x y:MV}{e l r:Expr}{b:Bool}{pos:Pos}{C:Addr}
noncomputable abbrev ng(h:Heap)(cel led T:aN):Heap:=hideAll h (ai (cel++(led++T)))
theorem SR.enter(X:St c f m (kp++cel) h led T H)(hns:h₁.Ns C m0)(hk: ∀b o,h.get? b=some o→h₁.get? b=some o)(hC:h.objs.size≤C):St c ⟨ng h cel led T,C⟩ m0 cel h₁ led T H:=by
 have X1:St c f m cel h led T H:=X.keepBut (fun _ _ _ e=>e)
 have low: ∀b o,f.h₀.get? b=some o→(ng h cel led T).get? b=some o:=fun b o e=>hideAll_get _ (X1.F.keep b o e) (fun q=>by
  obtain⟨p,hp,rfl⟩:=List.mem_map.mp q
  rw[(X1.N p hp).2.2] at e;cases e)
 refine⟨⟨hns,fun b o e=>hk b o (of_hideAll _ e),Nat.le_trans (Nat.le_of_eq (hideAll_size _ _)) hC⟩,X1.X.keeps low,X1.G.keeps low,fun p hp=>⟨hk _ _ (X1.N p hp).1,fun q=> ?_,hideAll_none _ (List.mem_map_of_mem hp)⟩,X1.nd,X1.hi,X1.R⟩
 have:=Heap.lt_size (X1.N p hp).1
 rw[q] at this
 exact absurd this (Nat.not_lt.mpr hC)
theorem SR.leave(X:St c f m (kp++cel) h led T H)(Y:St c ⟨ng h cel led T,C⟩ m' cel' h' led' T' H'):St c f m (kp++cel') h' led' T' H':=by
 have X1:St c f m cel h led T H:=X.keepBut (fun _ _ _ e=>e)
 have low: ∀b o,f.h₀.get? b=some o→(ng h cel led T).get? b=some o:=fun b o e=>hideAll_get _ (X1.F.keep b o e) (fun q=>by
  obtain⟨p,hp,rfl⟩:=List.mem_map.mp q
  rw[(X1.N p hp).2.2] at e;cases e)
 obtain⟨oL,es,ep,hL,hLr⟩:=X1.F.ns
 have hLg:(ng h cel led T).get? f.L=some oL:=hideAll_get _ hL X1.notL
 have nd:=X.nd
 rw[aA] at nd
 simp only[ai,mP] at nd
 have ndk:=List.nodup_append.mp nd
 have kg: ∀p∈kp,(ng h cel led T).get? p.1=some p.2:=fun p hp=>hideAll_get _ (X.N p (mW _ (mW _ hp))).1 (fun q=>by
  refine ndk.2.2 p.1 (List.mem_map_of_mem hp) p.1 ?_ rfl
  simpa [ai] using q)
 refine⟨⟨⟨oL,es,ep,Y.F.keep _ _ hLg,hLr⟩,fun b o e=>Y.F.keep b o (low b o e),X1.F.above⟩,X1.X,X1.G,fun p hp=> ?_,?_,Y.hi,Y.R⟩
 ·rw[aA] at hp
  rcases List.mem_append.mp hp with hp|hp
  ·have z:=X.N p (mW _ (mW _ hp))
   exact⟨Y.F.keep _ _ (kg p hp),z.2⟩
  ·have z:=Y.N p hp
   refine⟨z.1,fun q=> ?_,?_⟩
   ·have w:=z.2.2
    rw[q,hLg] at w;cases w
   ·cases q:f.h₀.get? p.1 with
    |none=>rfl
    |some o=>have w:=z.2.2;rw[low _ _ q] at w;cases w
 ·rw[aA]
  simp only[ai,mP]
  refine List.nodup_append.mpr ⟨ndk.1,?_,fun a ha b hb=> ?_⟩
  ·have:=Y.nd;simpa [ai] using this
  ·obtain⟨p,hp,rfl⟩:=List.mem_map.mp ha
   rw[←mP,←mP] at hb
   obtain⟨q,hq,rfl⟩:=List.mem_map.mp hb
   intro e
   have w:=(Y.N q hq).2.2
   rw[←e,kg p hp] at w;cases w
theorem rP(X:St c f m cel s.heap led T H){n:Nat}{u v:Value}{ms:List MV}(ru:VR c.K (ai led) T u (.loc n))(e:H[n]?=some (.list ms))(rv:VR c.K (ai led) T v y)(hz:ms.length<4000){Q:Value→Shared→Prop}{E:Value→Shared→Prop}
  (k: ∀led' s',St c f m cel s'.heap led' T (H.set n (.list (ms++[y])))→Ext (ai led) T (ai led') T→Ok s s'→Q .none s'):wpAny (model c.prog c.w) A (call (.builtin "list.append") [u,v]) Q E s:=by
 obtain⟨a,vs,kk,rfl,h0,h1,h2,h3⟩:=X.lst ru e
 refine wpAny_list_append_plain ⟨kk,h1⟩ (fun h' ⟨k',h4⟩ hs=> ?_) (Nat.le_trans (by simpa using h3) (by decide))
 have hl:=h2.len
 have h4':h'.get? a=some (listOf (vs++[v]).toArray k'):=by simpa using h4
 obtain⟨N',F'⟩:=X.newsAt h0 hs h4'
 exact k _ _ (X.put h0 F' N' (.list k' (h2.append (.cons rv .nil)) (by simp[dK];exact aq [] [_,_] 0x7ff8c908 17441 0x7d00c919 8970 hz hl))) (f7 h0 T) ⟨h',s.toks,rfl⟩
end
section
variable{c:Cx}{d:Nat}{sc:cu}{σ:aQ}{A:Around}{env:Env}{f:Fx}{m m0 m':Str→Option Value}{kp cel cel' led led' T T':aN}{h h₁ h':Heap}{H H' H1 H2 H3:Hp}{s:Shared}{mv x y:MV}{e l r:Expr}{b:Bool}{pos:Pos}{C:Addr}
noncomputable def eO(env:Env)(acc:List (Str×Addr))(y:Str×NameKind):List (Str×Addr):=if y.2== .free then(y.1,(env.cells.lookup y.1).getD 0)::acc else acc
theorem xn(env:Env)(scope:Scope)(h: ∀y∈scope.names,y.2= .free→ ∃a,env.cells.lookup y.1=some a):closureFor scope env=pure (scope.names.foldl (eO env) []):=by
 unfold closureFor
 have: ∀ (names:List (Str×NameKind)) (acc:List (Str×Addr)),(∀y∈names,y.2= .free→ ∃a,env.cells.lookup y.1=some a)→
   (do
    let r←forIn names acc fun x r=>
     match x with
     |(name,kind)=>if(kind==NameKind.free)=true then do
       let a←cellOf env name
       pure (ForInStep.yield ((name,a)::r))
      else pure (ForInStep.yield r)
    pure r:Sem (List (Str×Addr)))=pure (names.foldl (eO env) acc):=by
  intro names
  induction names with
  |nil=>intro acc _;rfl
  |cons y r ih=>
   intro acc hy
   obtain⟨n,k⟩:=y
   rw[List.forIn_cons]
   by_cases q:k= .free
   ·obtain⟨a,ha⟩:=hy (n,k) (.head _) q
    subst q
    have e:cellOf env n=pure a:=by unfold cellOf;rw[ha]
    have z:=ih ((n,a)::acc) fun y hy'=>hy y (.tail _ hy')
    rw[List.foldl_cons,show eO env acc (n,.free)=(n,a)::acc by simp[eO,ha]]
    rw[←z]
    simp only[e]
    rfl
   ·have z:=ih acc fun y hy'=>hy y (.tail _ hy')
    rw[List.foldl_cons,show eO env acc (n,k)=acc by simp[eO,q]]
    rw[←z]
    simp only[show(k==NameKind.free)=false from beq_eq_false_iff_ne.mpr q]
    rfl
 exact(cA (fun(t:Sem (List (Str×Addr)))=>t>>=fun r=>pure r) (this scope.names [] h)).trans rfl
theorem lq{env:Env}{y:Str}{a:Addr}(ha:env.cells.lookup y=some a): ∀ (names:List (Str×NameKind)) (acc:List (Str×Addr)),(y,NameKind.free)∈names∨acc.lookup y=some a→(names.foldl (eO env) acc).lookup y=some a
 |[],acc,h=>by
  rcases h with h|h
  ·cases h
  ·exact h
 |(n,k)::r,acc,h=>by
  rw[List.foldl_cons]
  refine lq ha r _ ?_
  by_cases q:n=y∧k= .free
  ·obtain⟨rfl,rfl⟩:=q
   right;simp[eO,ha]
  ·rcases h with h|h
   ·rcases List.mem_cons.mp h with h|h
    ·cases h;exact absurd ⟨rfl,rfl⟩ q
    ·exact .inl h
   ·right
    unfold eO
    split
    ·rename_i hk
     have:n≠y:=fun e=>q ⟨e,by simpa using hk⟩
     rw[List.lookup_cons,show(y==n)=false from beq_eq_false_iff_ne.mpr (Ne.symm this)]
     exact h
    ·exact h
theorem SR.other(X:St c f m cel h led T H)(hk: ∀b o,b≠C→h.get? b=some o→h'.get? b=some o)(hC:C∉ai (cel++(led++T)))(hL:C≠f.L)(h0:f.h₀.get? C=none):St c f m cel h' led T H:=by
 obtain⟨o,es,ep,h1,h2⟩:=X.F.ns
 refine⟨⟨⟨o,es,ep,hk _ _ (Ne.symm hL) h1,h2⟩,fun b o e=>hk b o (fun q=>by rw[q,h0] at e;cases e) (X.F.keep b o e),X.F.above⟩,X.X,X.G,fun p hp=>⟨hk _ _ (fun q=>hC (q▸List.mem_map_of_mem hp)) (X.N p hp).1,(X.N p hp).2⟩,X.nd,X.hi,X.R⟩
theorem jh(env:Env)(x:Str): ∀names:List (Str×NameKind),
  (names.map fun(n,k)=>if(k==NameKind.free&&env.scope.kind== .function&&env.kindOf n==some .cell) then(n,NameKind.cell) else(n,k)).lookup x=(names.lookup x).map fun k=>if(k==NameKind.free&&env.scope.kind== .function&&env.kindOf x==some .cell) then NameKind.cell else k
 |[]=>rfl
 |(n,k)::r=>by
  have ih:=jh env x r
  by_cases q:x=n
  ·subst q
   simp only[List.map_cons,List.lookup_cons]
   split<;>simp_all [List.lookup_cons]
  ·have q':(x==n)=false:=beq_eq_false_iff_ne.mpr q
   simp only[List.map_cons]
   rw[List.lookup_cons,List.lookup_cons]
   have e1:(x==(if(k==NameKind.free&&env.scope.kind== .function&&env.kindOf n==some .cell)=true then(n,NameKind.cell) else(n,k)).1)=false:=by split<;>exact q'
   rw[e1,q']
   exact ih
theorem ji{x:Str}{k:NameKind}: ∀ {names:List (Str×NameKind)},names.lookup x=some k→(x,k)∈names
 |(n,j)::r,h=>by
  rw[List.lookup_cons] at h
  by_cases q:x=n
  ·subst q;simp at h;subst h;exact .head _
  ·rw[show(x==n)=false from beq_eq_false_iff_ne.mpr q] at h
   exact .tail _ (ji h)
theorem f8{scope:Scope}{cl:List (Str×Addr)}(x:Str):(compEnvC scope cl C env).kindOf x=(scope.names.lookup x).map fun k=>if(k==NameKind.free&&env.scope.kind== .function&&env.kindOf x==some .cell) then NameKind.cell else k:=jh env x scope.names
theorem qf{scope:Scope}{cl:List (Str×Addr)}(E:EO env f.L sc)(hk:scope.kind= .function):EO (compEnvC scope cl C env) C scope.names:=by
 refine⟨hk,fun x k hk' hx=> ?_,E.glo,E.bui,rfl⟩
 rw[f8,hx]
 cases k<;>first|rfl|exact absurd rfl hk'
structure CompOk(sc:cu)(σ:aQ)(scope:Scope)(x:Str):Prop where
 kind:scope.kind= .function
 cell: ∀y∈scope.names,y.2≠ .cell
 self: ∀y∈scope.names,y.2= .local→scope.names.lookup y.1=some .local
 x:scope.names.lookup x=some .local
 free: ∀y∈scope.names,y.2= .free→sc.lookup y.1=some .cell∧(σ y.1).isSome=true
theorem rQ{scope:Scope}{x:Str}(O:CompOk sc σ scope x)(Cc:Cn c d sc σ A env f m cel led T H s): ∀y∈scope.names,y.2= .free→ ∃a,env.cells.lookup y.1=some a:=fun y hy hf=>by
 obtain⟨h1,h2⟩:=O.free y hy hf
 obtain⟨v,hv⟩:=Option.isSome_iff_exists.mp h2
 rcases Cc.Y _ _ hv with ⟨a,_⟩|⟨_,a,u,o,b,_⟩
 ·rw[Cc.E.kindOf _ (by decide) h1] at a;cases a
 ·exact⟨a,b⟩
theorem xo{scope:Scope}{x:Str}(O:CompOk sc σ scope x)(Cc:Cn c d sc σ A env f m cel led T H s){as':List Addr}{T1:aN}(e:Ext (ai led) T as' T1){u:Value}{v:MV}(r:VR c.K as' T1 u v)(mm:Str→Option Value){its:aN}:
  LR c.K as' T1 (compEnvC scope (scope.names.foldl (eO env) []) C env).kindOf (scope.names.foldl (eO env) []) (fun y=>if y=x then some u else mm y) (its++cel) (hK scope.names σ x v):=fun y w h=>by
 unfold hK at h
 split at h
 ·rename_i q
  subst q
  cases h
  exact .inl ⟨by rw[f8,O.x];rfl,u,by simp,r⟩
 ·split at h
  ·rename_i q1 q2
   have hm:=ji q2
   obtain⟨h1,h2⟩:=O.free _ hm rfl
   rcases Cc.Y _ _ h with ⟨a,_⟩|⟨_,a,u',o,b,b2,b3,b4⟩
   ·rw[Cc.E.kindOf _ (by decide) h1] at a;cases a
   ·refine .inr ⟨?_,a,u',o,lq b _ _ (.inl hm),mR _ b2,b3,b4.mono e⟩
    rw[f8,q2]
    simp only[Option.map_some]
    split
    ·exact .inl rfl
    ·exact .inr rfl
  ·cases h
theorem rR{gs:List (Nat×List MV)}{H:Hp}{n:Nat}{o:MObj}(h:bg gs H)(hn: ∀g∈gs,g.1≠n):bg gs (H.set n o):=fun g hg=>by
 rw[List.getElem?_set_ne (Ne.symm (hn g hg))];exact h g hg
inductive CS(c:Cx)(f:Fx)(cel:aN)(items:List MV)(gs:List (Nat×List MV))(acc:Nat)(G:MV→Hp→MV→Hp→Prop)(I:Nat→List Addr→aN→aN→Prop)(H2:Hp)(X:List Addr→aN→Shared→Prop)(k:Nat)(s:Shared):Prop
 |of (j:Nat) (vs:List MV) (led T its:aN) (mm:Str→Option Value) (H:Hp) (e:k=items.length- j) (i:I j (ai led) T its) (S:St c f mm (its++cel) s.heap led T H) (x:X (ai led) T s) (st:bg gs H) (ha:H[acc]?=some (.list vs)) (r:jf G gs acc (items.drop j) vs H H2)
theorem oW{ev:Env}{elt iter:Expr}{x:Str}{px:Pos}{scope:Scope}{items:List MV}{gs:List (Nat×List MV)}{it:Value}{ac:Addr}{acc:Nat}{G:MV→Hp→MV→Hp→Prop}{I:Nat→List Addr→aN→aN→Prop}{R:Result→Shared→Prop}{X:List Addr→aN→Shared→Prop}
  (hx:ev.kindOf x=some .local) (hE:EO ev f.L scope.names) (hX: ∀as T s as' T' s',X as T s→Ext as T as' T'→Ok s s'→X as' T' s') (hac: ∀as T s,X as T s→as[acc]?=some ac)
  (hG: ∀led T s s' (mm:Str→Option Value) v xv its H u H',X (ai led) T s→VR c.K (ai led) T v xv→G xv H u H'→St c f (fun y=>if y=x then some v else mm y) (its++cel) s'.heap led T H→wpAny (model c.prog c.w) A (eval elt ev) (PV c f (fun y=>if y=x then some v else mm y) (its++cel) led T s' u H') no s')
  (W:Stp c A it (.Name x px) items gs I) (hg: ∀g∈gs,g.1<acc) (hR: ∀led T s mm,St c f mm cel s.heap led T H2→X (ai led) T s→R (.ok .next) s) {k:Nat} (hS:CS c f cel items gs acc G I H2 X k s):
  codeAny (model c.prog c.w) A (.compLoop (.ListComp elt [⟨.Name x px,iter,[],0⟩] scope pos) 0 it (.ref ac) ev) R s:=by
 refine codeAny_compLoop_list (CS c f cel items gs acc G I H2 X) (fun k s1 hS=> ?_) k hS
 generalize hE':(notedBy (model c.prog c.w) A ev fun e s'=>R (.error e) s')=E
 have he: ∀e s,no e s→E e s:=fun _ _ z=>z.elim
 clear hE'
 obtain⟨j,vs,led,T,its,mm,H,e,i,S,x0,st,ha,r⟩:=hS
 refine wpAny_mono (W.step j f mm cel led T H s1 its i S st) (fun q s2 hr=> ?_) he
 cases q with
 |none=>
  obtain⟨q1,q2,q3⟩:=hr
  rw[List.drop_eq_nil_of_le (List.getElem?_eq_none_iff.mp q1)] at r
  cases(show H2=_ from r)
  exact hR led T s2 mm q2 (hX _ _ _ _ _ _ x0 .refl q3)
 |some v=>
  refine wpAny_bind (m:=letOwnedTupleGo (.Name x px) it v) (f:=fun _=>assign (.Name x px) ev v) (wpAny_mono hr (fun _ s3 hr=> ?_) he)
  obtain⟨xv,its2,T2,q1,q2,q3,q4,q5,q6⟩:=hr
  obtain⟨hj,hv⟩:=gS q1
  rw[List.drop_eq_getElem_cons hj,hv] at r
  obtain⟨u,Hu,a1,⟨a3,a4,a5⟩,a2⟩:=r
  have x3:=hX _ _ _ _ _ _ x0 q4 q6
  refine wpAny_assign_Name (wpAny_storeName_local hx (hE.loc.symm▸q3.F.ns) (fun h' hn hs=> ?_) hE.plain)
  rw[hE.loc] at hn hs
  have X3:St c f (fun y=>if y=x then some v else mm y) (its2++cel) h' led T2 H:=
   ⟨q3.F.set hn hs,q3.X,q3.G,fun p hp=>⟨(hs.2 _ (fun q=>q3.notL (q▸List.mem_map_of_mem hp))).trans (q3.N p hp).1,(q3.N p hp).2⟩,q3.nd,q3.hi,q3.R⟩
  refine wpAny_mono (hG led T2 s3 _ mm v xv its2 H u Hu x3 q5 a1 X3) (fun uv s4 pz=> ?_) he
  obtain⟨l4,T4,X4,e4,r4,o4⟩:=pz
  have x4:=hX _ _ _ _ _ _ x3 e4 ((Ok.mk s3 _ _).trans o4)
  refine rP X4 (.loc (hac _ _ _ x4)) a4 r4 a5 (fun l5 s5 X5 e5 o5=>⟨_,by rw[e];exact Nat.sub_lt_sub_left hj (Nat.lt_succ_self j),.of (j+1) (vs++[u]) l5 T4 its2 _ _ rfl (W.mono _ _ _ _ _ _ q2 (e4.trans e5)) X5 (hX _ _ _ _ _ _ x4 e5 o5) (rR a3 (fun g hg'=>Nat.ne_of_lt (hg g hg'))) ?_ a2⟩)
  rw[List.getElem?_set_self (gS a4).1]
theorem rS{elt iter:Expr}{x:Str}{px:Pos}{scope:Scope}{items:List MV}{gs:List (Nat×List MV)}{it:Value}{ac:Addr}{acc:Nat}{I:Nat→List Addr→aN→aN→Prop}{R:Result→Shared→Prop}{g:Heap}{led0 T0:aN}{s0:Shared}
  (O:CompOk sc σ scope x) (Cc:Cn c d sc σ A env f m cel led T H s) (e0:Ext (ai led) T (ai led0) T0)
  (W:Stp c A it (.Name x px) items gs I) (hg: ∀g∈gs,g.1<acc) (ha:(ai led0)[acc]?=some ac)
  (hR: ∀led' T' s1 mm,St c ⟨g,C⟩ mm cel s1.heap led' T' H2→Ext (ai led0) T0 (ai led') T'→Ok s0 s1→R (.ok .next) s1)
  (k:Nat): ∀ (j:Nat) (vs:List MV) (led' T' its':aN) (mm:Str→Option Value) (Hj:Hp) (s1:Shared),k=items.length- j→I j (ai led') T' its'→St c ⟨g,C⟩ mm (its'++cel) s1.heap led' T' Hj→Ext (ai led0) T0 (ai led') T'→Ok s0 s1→bg gs Hj→
   Hj[acc]?=some (.list vs)→jf (fun v H=>cg c d scope.names elt (hK scope.names σ x v) H) gs acc (items.drop j) vs Hj H2→
   codeAny (model c.prog c.w) A (.compLoop (.ListComp elt [⟨.Name x px,iter,[],0⟩] scope pos) 0 it (.ref ac) (compEnvC scope (scope.names.foldl (eO env) []) C env)) R s1:=by
 intro j vs led' T' its' mm Hj s1 h1 h2 h3 h4 h5 h6 h7 h8
 exact oW (f:=⟨g,C⟩) (X:=fun as T s=>Ext (ai led0) T0 as T∧Ok s0 s) (by rw[f8,O.x];rfl) (qf Cc.E O.kind) (fun _ _ _ _ _ _ x e o=>⟨x.1.trans e,x.2.trans o⟩) (fun _ _ _ x=>x.1.pre _ _ ha)
  (fun led T s s' mm v xv its H u H' x r a X=>a A _ _ _ _ _ _ _ ⟨Cc.A,qf Cc.E O.kind,X,xo O Cc (e0.trans x.1) r mm⟩) W hg (fun led T s mm X x=>hR led T s mm X x.1 x.2) (.of j vs led' T' its' mm Hj h1 h2 h3 ⟨h4,h5⟩ h6 h7 h8)
theorem nx{elt iter:Expr}{x:Str}{px pos':Pos}{scope:Scope}{items:List MV}{gs:List (Nat×List MV)}{use:Option (Value→Sem Unit)}{Q:Value→Shared→Prop}
  (O:CompOk sc σ scope x) (Cc:Cn c d sc σ A env f m cel led T H s) (hset: ∀v,foldedSetIterable iter env v=pure v) (hown:cI iter=false)
  (hi:s9 c d sc iter σ H items gs H1) (hgl: ∀g∈gs,g.1<H1.length)
  (hr:jf (fun v H=>cg c d scope.names elt (hK scope.names σ x v) H) gs H1.length items [] (H1++[.list []]) H2)
  (K: ∀led' T' s' C mm v,St c f m cel s'.heap led' T' H2→Ext (ai led) T (ai led') T'→VR c.K (ai led') T' v (.loc H1.length)→Ok s s'→s'.heap.Ns C mm→C∉ai (cel++(led'++T'))→C≠f.L→f.h₀.get? C=none→compPost (model c.prog c.w) A no use Q v C (.ok .next) s'):
  wpAny (model c.prog c.w) A (comprehension (.ListComp elt [⟨.Name x px,iter,[],0⟩] scope pos) scope env pos' (newList []) false (eval iter env) use) Q no s:=by
 refine wpAny_comprehension_free rfl hset (xn env scope (rQ O Cc)) O.kind O.self ?_
 refine hi A env f m cel led T s (.Name x px) _ (fun h=>by rw[hown] at h;cases h) Cc (fun it led1 T1 its I s1 W I0 X1 e1 o1 st1=> ?_)
 refine wpAny_newList ?_ (by decide)
 refine wpAny_newFunctionEnv O.cell (by intro y hy;simp at hy) (fun h1 hns hsb=> ?_) O.kind
 have hp: ∀b o,s1.heap.get? b=some o→(s1.heap.push (listOf #[] 0)).get? b=some o:=fun b o q=>Heap.get?_push_of_some _ q
 have hq:(s1.heap.push (listOf #[] 0)).get? s1.heap.objs.size=some (listOf #[] 0):=Heap.get?_push_size _ rfl
 obtain⟨F0,N0⟩:=X1.push1 hp hq
 have X2:St c f m (its++cel) (s1.heap.push (listOf #[] 0)) (led1++[(s1.heap.objs.size,listOf #[] 0)]) T1 (H1++[.list []]):=X1.new X1.fresh F0 N0 (.list (vs:=[]) 0 .nil (by simp)) X1.big
 have E2:Ext (ai led1) T1 (ai (led1++[(s1.heap.objs.size,listOf #[] 0)])) T1:=eZ _ _ _
 have L2:(ai (led1++[(s1.heap.objs.size,listOf #[] 0)]))[H1.length]?=some s1.heap.objs.size:=hJ X1.size
 have hk: ∀b o,(s1.heap.push (listOf #[] 0)).get? b=some o→h1.get? b=some o:=fun b o q=>hsb.extBut b o (Nat.ne_of_lt (Heap.lt_size q)) (Heap.get?_push_of_some _ q)
 have Y0:=SR.enter (kp:=[]) (m0:=_) X2 hns hk (Nat.le_refl _)
 have st2:bg gs (H1++[.list []]):=fun g hg=>by rw[List.getElem?_append_left (hgl g hg)];exact st1 g hg
 have lac:(H1++[MObj.list []])[H1.length]?=some (.list []):=by simp
 have loop:codeAny (model c.prog c.w) A (.compLoop (.ListComp elt [⟨.Name x px,iter,[],0⟩] scope pos) 0 it (.ref s1.heap.objs.size) (compEnvC scope (scope.names.foldl (eO env) []) (s1.heap.push (listOf #[] 0)).objs.size env))
   (compPost (model c.prog c.w) A no use Q (.ref s1.heap.objs.size) (s1.heap.push (listOf #[] 0)).objs.size) {s1 with heap:=h1,toks:=s1.toks+([]:List (Str×Value)).length}:=by
  refine rS (g:=ng (s1.heap.push (listOf #[] 0)) (its++cel) (led1++[(s1.heap.objs.size,listOf #[] 0)]) T1) (led0:=led1++[(s1.heap.objs.size,listOf #[] 0)]) (T0:=T1) (s0:={s1 with heap:=h1,toks:=s1.toks+([]:List (Str×Value)).length}) O Cc (e1.trans E2) W (fun g hg=>hgl g hg) L2 (fun led' T' s2 mm Y e o=> ?_) (items.length- 0) 0 [] _ T1 its _ _ _ rfl (W.mono _ _ _ _ _ _ I0 E2) Y0 .refl (.refl _) st2 lac hr
  have X3:St c f m cel s2.heap led' T' H2:=by
   have:=SR.leave (kp:=[]) (cel':=cel) X2 Y
   exact this
  refine K led' T' s2 _ mm _ X3 (e1.trans (E2.trans e)) (.loc (e.pre _ _ L2)) (o1.trans ((Ok.mk s1 _ _).trans o)) Y.F.ns Y.notL ?_ ?_
  ·have:=Heap.Ns.lt X2.F.ns
   exact Nat.ne_of_gt this
  ·exact X2.fresh0
 exact codeAny_compStart_list loop (W.self 0 _ _ _ _ _ _ _ _ _ _ (W.mono _ _ _ _ _ _ I0 E2) Y0 loop)
theorem rT{elt iter:Expr}{x:Str}{px:Pos}{scope:Scope}{items:List MV}{gs:List (Nat×List MV)}
  (O:CompOk sc σ scope x) (hset: ∀env v,foldedSetIterable iter env v=pure v) (hown:cI iter=false)
  (hi:s9 c d sc iter σ H items gs H1) (hgl: ∀g∈gs,g.1<H1.length)
  (hr:jf (fun v H=>cg c d scope.names elt (hK scope.names σ x v) H) gs H1.length items [] (H1++[.list []]) H2):
  cg c d sc (.ListComp elt [⟨.Name x px,iter,[],0⟩] scope pos) σ H (.loc H1.length) H2:=fun A env f m cel led T s C=>by
 rw[arm_eval_ListComp]
 refine nx (use:=none) O C (hset env) hown hi hgl hr (fun led' T' s' C' mm v X e r o hns hC hL h0=> ?_)
 exact⟨mm,hns,fun h' hs=>⟨led',T',X.other (fun b o hb q=>(hs.2 b hb).trans q) hC hL h0,e,r,o.trans (Ok.mk s' h' s'.toks)⟩⟩
end
structure Cs(c:Cx)(d:Nat)(sc:cu)(σ:aQ)(A:Around)(env:Env)(f:Fx)(m:Str→Option Value)(its cel led T:aN)(H:Hp)(s:Shared):Prop where
 A:AO A d
 E:EO env f.L sc
 X:St c f m (its++cel) s.heap led T H
 Y:LR c.K (ai led) T env.kindOf env.cells m cel σ
 has: ∀x,env.kindOf x=some .cell→ ∃a o v,env.cells.lookup x=some a∧(a,o)∈cel∧o.data= .cell v
 inj: ∀x y a,env.cells.lookup x=some a→env.cells.lookup y=some a→x=y
inductive PA(c:Cx)(d:Nat)(sc:cu)(A:Around)(env:Env)(f:Fx)(its led T:aN)(s:Shared)(σ':aQ)(H':Hp)(s':Shared):Prop
 |of (m':Str→Option Value) (cel' led' T':aN) (K:Cs c d sc σ' A env f m' its cel' led' T' H' s') (e:Ext (ai led) T (ai led') T') (o:Ok s s')
noncomputable def xp(c:Cx)(d:Nat)(sc:cu)(t:Expr)(v:MV)(σ:aQ)(H:Hp)(σ':aQ)(H':Hp):Prop:=
 ∀A env f m its cel led T s u,Cs c d sc σ A env f m its cel led T H s→VR c.K (ai led) T u v→wpAny (model c.prog c.w) A (assign t env u) (fun _ s'=>PA c d sc A env f its led T s σ' H' s') no s
section
variable{c:Cx}{d:Nat}{sc:cu}{σ σ':aQ}{A:Around}{env:Env}{f:Fx}{m m0 m':Str→Option Value}{its kp cel cel' led led' T T':aN}{h h₁ h':Heap}{H H' H1 H2 H3:Hp}{s s':Shared}{mv x y:MV}{e l r:Expr}{b:Bool}{pos:Pos}{C:Addr}{u v:Value}
theorem Cs.cn(K:Cs c d sc σ A env f m its cel led T H s):Cn c d sc σ A env f m (its++cel) led T H s:=⟨K.A,K.E,K.X,K.Y.cel (fun p hp=>mR _ hp)⟩
theorem Cs.to(K:Cs c d sc σ A env f m its cel led T H s)(X:St c f m (its++cel) s'.heap led' T' H')(e:Ext (ai led) T (ai led') T'):Cs c d sc σ A env f m its cel led' T' H' s':=⟨K.A,K.E,X,K.Y.mono e,K.has,K.inj⟩
theorem PA.from{led1 T1:aN}{s1:Shared}(o:Ok s s1)(e:Ext (ai led) T (ai led1) T1)(p:PA c d sc A env f its led1 T1 s1 σ' H' s'):PA c d sc A env f its led T s σ' H' s':=by
 obtain⟨a,b,g,h,k,e',o'⟩:=p
 exact⟨a,b,g,h,k,e.trans e',o.trans o'⟩
theorem PA.mk(K:Cs c d sc σ' A env f m its cel led' T' H' s')(e:Ext (ai led) T (ai led') T')(o:Ok s s'):PA c d sc A env f its led T s σ' H' s':=⟨m,cel,led',T',K,e,o⟩
theorem qg{x:Str}(K:Cs c d sc σ A env f m its cel led T H s)(hx:sc.lookup x=some .local∨sc.lookup x=some .cell)(r:VR c.K (ai led) T u mv){E:Value→Shared→Prop}:
  wpAny (model c.prog c.w) A (storeName env x u) (fun _ s'=>PA c d sc A env f its led T s (upd σ x mv) H s') E s:=by
 rcases hx with hx|hx
 ·have hk:=K.E.kindOf x (by decide) hx
  refine wpAny_storeName_local hk (K.E.loc▸K.X.F.ns) (fun h' hn hs=> ?_) K.E.plain
  rw[K.E.loc] at hn hs
  have nL:=K.X.notL
  have X':St c f (fun y=>if y=x then some u else m y) (its++cel) h' led T H:=⟨K.X.F.set hn hs,K.X.X,K.X.G,fun p hp=>⟨(hs.2 _ (fun q=>nL (q▸List.mem_map_of_mem hp))).trans (K.X.N p hp).1,(K.X.N p hp).2⟩,K.X.nd,K.X.hi,K.X.R⟩
  refine PA.mk ⟨K.A,K.E,X',fun y w hw=> ?_,K.has,K.inj⟩ .refl ⟨h',s.toks+1,rfl⟩
  unfold upd at hw
  split at hw
  ·rename_i q
   subst q;cases hw
   exact .inl ⟨hk,u,by simp,r⟩
  ·rename_i q
   rcases K.Y y w hw with ⟨a,u',b,rr⟩|z
   ·exact .inl ⟨a,u',by simp[q,b],rr⟩
   ·exact .inr z
 ·have hk:=K.E.kindOf x (by decide) hx
  obtain⟨a,o,v0,h1,h2,h3⟩:=K.has x hk
  have hg:=(K.X.N (a,o) (mW _ (mR _ h2))).1
  refine wpAny_storeName_cell K.E.kind hk h1 ⟨o,hg,h3⟩ (fun h' ⟨o',k1,k2⟩ hs=> ?_)
  have mem': ∀p:Addr×Obj,p∈cel.map (fun p=>if p.1=a then(a,o') else p)↔ ∃q∈cel,(if q.1=a then(a,o') else q)=p:=fun p=>by rw[List.mem_map]
  have ha:ai (its++cel.map (fun p=>if p.1=a then(a,o') else p))=ai (its++cel):=by
   simp only[ai,mP,List.map_map]
   congr 1
   refine List.map_congr_left fun p _=> ?_
   simp only[Function.comp]
   split
   ·rename_i q;exact q.symm
   ·rfl
  have X0:St c f m ((its++cel)++[]) s.heap led T H:=by rw[List.append_nil];exact K.X
  have hk': ∀b ob,b∉ai (its++cel)→s.heap.get? b=some ob→h'.get? b=some ob:=fun b ob hb q=>(hs.2 b (fun(z:b=a)=>hb (by rw[z];exact List.mem_map_of_mem (f:=(·.1)) (mR its h2)))).trans q
  have hn': ∀p∈its++cel.map (fun p=>if p.1=a then(a,o') else p),h'.get? p.1=some p.2:=fun p hp=>by
   rcases List.mem_append.mp hp with hp|hp
   ·have z:=K.X.N p (mW _ (mW _ hp))
    refine(hs.2 _ (fun q=> ?_)).trans z.1
    have nd:=K.X.nd
    simp only[ai,mP] at nd
    have y5:=(List.nodup_append.mp nd).1
    exact(List.nodup_append.mp y5).2.2 p.1 (List.mem_map_of_mem hp) a (List.mem_map_of_mem (f:=(·.1)) h2) q
   ·obtain⟨q,hq,rfl⟩:=(mem' p).mp hp
    split
    ·exact k1
    ·rename_i hne
     exact(hs.2 _ hne).trans (K.X.N q (mW _ (mR _ hq))).1
  have X':=SR.reits (its':=its++cel.map (fun p=>if p.1=a then(a,o') else p)) (h':=h') X0 hk' ha hn'
  rw[List.append_nil] at X'
  have keep: ∀ (a':Addr) (ob:Obj),(a',ob)∈cel→a'≠a→(a',ob)∈cel.map (fun p=>if p.1=a then(a,o') else p):=fun a' ob hm hne=>(mem' _).mpr ⟨(a',ob),hm,by simp[hne]⟩
  have new:(a,o')∈cel.map (fun p=>if p.1=a then(a,o') else p):=(mem' _).mpr ⟨(a,o),h2,by simp⟩
  refine PA.mk ⟨K.A,K.E,X',fun y w hw=> ?_,fun y hy=> ?_,K.inj⟩ .refl ⟨h',s.toks,rfl⟩
  ·unfold upd at hw
   split at hw
   ·rename_i q
    subst q;cases hw
    exact .inr ⟨.inl hk,a,u,o',h1,new,k2,r⟩
   ·rename_i q
    rcases K.Y y w hw with z|⟨z1,a',u',ob,z2,z3,z4,z5⟩
    ·exact .inl z
    ·exact .inr ⟨z1,a',u',ob,z2,keep a' ob z3 (fun e=>q (K.inj y x a (e▸z2) h1)),z4,z5⟩
  ·obtain⟨a',ob,v',z1,z2,z3⟩:=K.has y hy
   by_cases q:a'=a
   ·subst q;exact⟨_,o',_,z1,new,k2⟩
   ·exact⟨a',ob,v',z1,keep a' ob z2 q,z3⟩
theorem BU{x:Str}(hx:sc.lookup x=some .local∨sc.lookup x=some .cell):xp c d sc (.Name x pos) mv σ H (upd σ x mv) H:=fun A env f m its cel led T s u K r=>wpAny_assign_Name (qg K hx r)
theorem DT{z:Str}(h:cg c d sc e σ H x H1)(k:k8 c.K H1 x z mv=some H'):xp c d sc (.Attribute e z pos) mv σ H σ H':=fun A env f m its cel led T s u K r=>by
 rw[arm_assign_Attribute]
 refine wpAny_bind (wpAny_holding (h.then K.cn fun l1 T1 v1 s1 C1 e1 r1 o1=>wpAny_bind (wpAny_standAt (wpAny_bind (wpAny_holding (wpAny_mono (wY C1.X r1 (r.mono e1) k) (fun _ s2 pz=> ?_) bG))))))
 obtain⟨l2,T2,X2,e2,o2⟩:=pz
 exact wpAny_release (PA.mk (K.to X2 (e1.trans e2)) (e1.trans e2) (o1.trans o2))
theorem DU{i:Expr}(h1:cg c d sc e σ H x H1)(h2:cg c d sc i σ H1 y H2)(k:iN H2 x y mv=some H'):xp c d sc (.Subscript e i pos) mv σ H σ H':=fun A env f m its cel led T s u K r=>by
 rw[arm_assign_Subscript]
 refine wpAny_bind (wpAny_holding (h1.then K.cn fun l1 T1 v1 s1 C1 e1 r1 o1=>wpAny_bind (wpAny_holding (h2.then C1 fun l2 T2 v2 s2 C2 e2 r2 o2=>wpAny_bind (wpAny_standAt (wpAny_bind (wpAny_holding (wpAny_mono (xb C2.X (r1.mono e2) r2 ((r.mono e1).mono e2) k) (fun _ s3 pz=> ?_) bG))))))))
 obtain⟨l3,T3,X3,e3,o3⟩:=pz
 exact wpAny_release (PA.mk (K.to X3 (e1.trans (e2.trans e3))) (e1.trans (e2.trans e3)) (o1.trans (o2.trans o3)))
end
section
variable{c:Cx}{d:Nat}{sc:cu}{σ σ' σ1:aQ}{A:Around}{env:Env}{f:Fx}{m m0 m':Str→Option Value}{its kp cel cel' led led' T T':aN}{h h₁ h':Heap}{H H' H1 H2 H3:Hp}{s s':Shared}{mv x y:MV}{e l r t:Expr}{b:Bool}{pos:Pos}{C:Addr}{u v:Value}
theorem kr(vs us:List Value)(a b:Int)(h0:0≤a)(h1:a≤b)(h2:b≤(vs.length:Int)):
  vs.toArray.extract 0 a.toNat++us.toArray++vs.toArray.extract b.toNat vs.toArray.size=(vs.take a.toNat++us++vs.drop b.toNat).toArray:=by
 refine Array.toList_inj.mp ?_
 simp[List.extract_eq_drop_take]
 exact List.take_of_length_le (by simp)
theorem DV{lo hi:Expr}{p:Pos}{n w:Nat}{a b:Int}{ms rs ms':List MV}(h1:cg c d sc e σ H (.loc n) H1)(h2:cg c d sc lo σ H1 (.int a) H2)(h3:cg c d sc hi σ H2 (.int b) H3)(e1:H3[n]?=some (.list ms))(e2:H3[w]?=some (.list rs))(hne:n≠w)(k:mh ms a b rs=some ms'):
  xp c d sc (.Subscript e (.Slice (some lo) (some hi) none p) pos) (.loc w) σ H σ (H3.set n (.list ms')):=fun A env f m its cel led T s u K r=>by
 obtain⟨⟨q3,q4,q5,q6⟩,k⟩:=oH k
 subst k
 refine rB fun Q hq=> ?_
 rw[arm_assign_Subscript]
 refine wpAny_bind (wpAny_holding (h1.then K.cn fun l1 T1 v1 s1 C1 e1' r1 o1=>wpAny_bind (wpAny_holding ?_)))
 refine wpAny_Slice ((tZ h2).then C1 fun l2 T2 v2 s2 C2 e2' r2 o2=>(tZ h3).then C2 fun l3 T3 v3 s3 C3 e3' r3 o3=> ?_)
 rw[evalPart_none]
 refine wpAny_pure (wpAny_bind (wpAny_standAt (wpAny_bind (wpAny_holding ?_))))
 have hp: ∀b o,s3.heap.get? b=some o→(s3.heap.push {cls:= .type "slice",data:= .fields #[v2,v3,.none]}).get? b=some o:=fun b o q=>Heap.get?_push_of_some _ q
 have X4:St c f m (its++cel) (s3.heap.push {cls:= .type "slice",data:= .fields #[v2,v3,.none]}) l3 T3 H3:=C3.X.keeps hp
 obtain⟨al,vs,kl,q1,g0,g1,g2,g3⟩:=SR.lst X4 ((r1.mono e2').mono e3') e1
 obtain⟨bl,us,kb,q2,j0,j1,j2,j3⟩:=SR.lst X4 (((r.mono e1').mono e2').mono e3') e2
 subst q1 q2
 have hl:=g2.len
 have hl2:=j2.len
 refine rL g1 j1 (X4.apart g0 j0 (Ne.symm hne)) (Heap.IsSliceOf.new _ _ _ _) r2 r3 (by simp only[List.size_toArray];exact Nat.le_trans (by exact a0 [] [_,_,_,_,_] 0x946008 574497 0x952608 9994 10522 q6 hl hl2) (show dK≤sizeLine by decide)) q3 q4 (by simp;exact aq [_] [_,_] 264832 15393 281216 8970 q5 hl) ?_
 obtain⟨l5,T5,X5,e5,o5⟩:=p7 (s:={s3 with heap:=s3.heap.push {cls:= .type "slice",data:= .fields #[v2,v3,.none]}}) (g:=fun xs=>xs.extract 0 a.toNat++us.toArray++xs.extract b.toNat xs.size) (ws:=vs.take a.toNat++us++vs.drop b.toNat) X4 g0 (kr vs us a b q3 q4 (by exact aq [_] [_,_] 264832 15393 281216 8970 q5 hl)) (((g2.take _).append j2).append (g2.drop _)) (by rw[List.length_append,List.length_append,lT,lD];exact E6 (by rw[hl,hl2];exact q6) (Int.toNat_le_toNat q4)) s3.toks
 exact wpAny_release (hq _ _ (PA.mk (K.to X5 (e1'.trans (e2'.trans (e3'.trans e5)))) (e1'.trans (e2'.trans (e3'.trans e5))) (o1.trans (o2.trans (o3.trans ((Ok.mk s3 _ _).trans o5))))))
noncomputable def uk(c:Cx)(d:Nat)(sc:cu)(ts:List Expr)(vs:List MV)(σ:aQ)(H:Hp)(σ':aQ)(H':Hp):Prop:=
 ∀A env f m its cel led T s us,Cs c d sc σ A env f m its cel led T H s→VRs c.K (ai led) T us vs→wpAny (model c.prog c.w) A (assignInOrder ((assignEach ts env).map (·.2)) us) (fun _ s'=>PA c d sc A env f its led T s σ' H' s') no s
theorem DW:uk c d sc [] [] σ H σ H:=fun A env f m its cel led T s us K r=>by
 cases r
 exact wpAny_pure (PA.mk K .refl (.refl s))
theorem f9{env:Env}{ts:List Expr}(hs: ∀a p,t≠ .Starred a p):assignEach (t::ts) env=(false,assign t env)::assignEach ts env:=by
 cases t with
 |Starred a p=>exact absurd rfl (hs a p)
 |_=>rfl
theorem BV{ts:List Expr}{vs:List MV}(hs: ∀a p,t≠ .Starred a p)(h:xp c d sc t mv σ H σ1 H1)(k:uk c d sc ts vs σ1 H1 σ' H'):uk c d sc (t::ts) (mv::vs) σ H σ' H':=fun A env f m its cel led T s us K r=>by
 cases r with
 |cons r1 r2=>
  rw[f9 hs]
  refine wpAny_bind (wpAny_holding (wpAny_mono (h A env f m its cel led T s _ K r1) (fun _ s1 pz=> ?_) bG))
  obtain⟨m1,cel1,l1,T1,K1,e1,o1⟩:=pz
  exact wpAny_mono (k A env f m1 its cel1 l1 T1 s1 _ K1 (r2.mono e1)) (fun _ _ p=>p.from o1 e1) bG
theorem ul{env:Env}{ts:List Expr}(h:cx ts):(assignEach ts env).length=ts.length:=by
 induction ts with
 |nil=>rfl
 |cons t ts ih=>rw[f9 (h t (.head _))];exact cA (·+1) (ih fun e he=>h e (.tail _ he))
theorem rU{env:Env}{ts:List Expr}(h:cx ts):(assignEach ts env).findIdx? (·.1)=none:=by
 induction ts with
 |nil=>rfl
 |cons t ts ih=>rw[f9 (h t (.head _)),List.findIdx?_cons,ih fun e he=>h e (.tail _ he)];rfl
theorem DX{ts:List Expr}{k:Nat}{vs:List MV}(hs:cx ts)(hl:ts.length=vs.length)(h:uk c d sc ts vs σ H σ' H'):xp c d sc (.Tuple ts k pos) (.tup vs) σ H σ' H':=fun A env f m its cel led T s u K r=>by
 obtain⟨a,us,rfl,g1,g2,g3⟩:=K.X.isTup r
 rw[arm_assign_Tuple]
 refine wpAny_bind (wpAny_standAt (wpAny_unpack_tuple K.A.hd g1 (by rw[ul hs,hl,←g2.len];simp) (rU hs) (fun h' hx=> ?_)))
 have K':Cs c d sc σ A env f m its cel led T H {s with heap:=h'}:=K.to (K.X.keeps (fun b o q=>hx b o (Nat.ne_of_lt (Heap.lt_size q)) q)) .refl
 exact wpAny_mono (h A env f m its cel led T _ us K' g2) (fun _ _ p=>p.from (Ok.mk s h' s.toks) .refl) bG
end
noncomputable def y6(K:Frag)(as:List Addr)(T:aN):Flow→Fl→Prop
 | .next,.next=>True
 | .brk,.brk=>True
 | .cont,.cont=>True
 | .ret v,.ret x=>VR K as T v x
 |_,_=>False
inductive PX(c:Cx)(d:Nat)(sc:cu)(A:Around)(env:Env)(f:Fx)(its led T:aN)(s:Shared)(fl:Fl)(σ':aQ)(H':Hp)(fw:Flow)(s':Shared):Prop
 |of (m':Str→Option Value) (cel' led' T':aN) (K:Cs c d sc σ' A env f m' its cel' led' T' H' s') (e:Ext (ai led) T (ai led') T') (o:Ok s s') (r:y6 c.K (ai led') T' fw fl)
noncomputable def rV(c:Cx)(d:Nat)(sc:cu)(st:Stmt)(σ:aQ)(H:Hp)(fl:Fl)(σ':aQ)(H':Hp):Prop:=
 ∀A env f m its cel led T s,Cs c d sc σ A env f m its cel led T H s→wpAny (model c.prog c.w) A (exec st env) (PX c d sc A env f its led T s fl σ' H') no s
noncomputable def tc(c:Cx)(d:Nat)(sc:cu)(sts:List Stmt)(σ:aQ)(H:Hp)(fl:Fl)(σ':aQ)(H':Hp):Prop:=
 ∀A env f m its cel led T s,Cs c d sc σ A env f m its cel led T H s→wpAny (model c.prog c.w) A (execs sts env) (PX c d sc A env f its led T s fl σ' H') no s
section
variable{c:Cx}{d:Nat}{sc:cu}{σ σ' σ1:aQ}{A:Around}{env:Env}{f:Fx}{m m0 m':Str→Option Value}{its kp cel cel' led led' T T':aN}{h h₁ h':Heap}{H H' H1 H2 H3:Hp}{s s':Shared}{mv x y:MV}{e l r t:Expr}{b:Bool}{pos:Pos}{C:Addr}{u v:Value}{fl:Fl}
theorem PX.from{led1 T1:aN}{s1:Shared}{fw:Flow}(o:Ok s s1)(e:Ext (ai led) T (ai led1) T1)(p:PX c d sc A env f its led1 T1 s1 fl σ' H' fw s'):PX c d sc A env f its led T s fl σ' H' fw s':=by
 obtain⟨a,b,g,h,k,e',o',r⟩:=p
 exact⟨a,b,g,h,k,e.trans e',o.trans o',r⟩
theorem PX.next(p:PA c d sc A env f its led T s σ' H' s'):PX c d sc A env f its led T s .next σ' H' .next s':=by
 obtain⟨a,b,g,h,k,e',o'⟩:=p
 exact⟨a,b,g,h,k,e',o',trivial⟩
theorem jj{value:Expr}{tg:Option Expr}{ln:Nat}{env:Env}(h:dS value=false):swapsWith value tg ln env=pure false:=by
 cases value<;>first|rfl|cases h
theorem BW(hc:dS e=false)(h:cg c d sc e σ H x H1):rV c d sc (.Expr e pos) σ H .next σ H1:=fun A env f m its cel led T s K=>
 wpAny_Expr_any (h.then K.cn fun l1 T1 v1 s1 C1 e1 r1 o1=>⟨m,cel,l1,T1,K.to C1.X e1,e1,o1,trivial⟩) K.E.still (jj hc)
theorem BX:rV c d sc (.Pass pos) σ H .next σ H:=fun A env f m its cel led T s K=>wpAny_Pass ⟨m,cel,led,T,K,.refl,.refl s,trivial⟩
theorem DZ:rV c d sc (.Return none pos) σ H (.ret .none) σ H:=fun A env f m its cel led T s K=>wpAny_Return_none ⟨m,cel,led,T,K,.refl,.refl s,.none⟩
theorem D0(h:cg c d sc e σ H x H1):rV c d sc (.Return (some e) pos) σ H (.ret x) σ H1:=fun A env f m its cel led T s K=>
 wpAny_Return_some (h.then K.cn fun l1 T1 v1 s1 C1 e1 r1 o1=>⟨m,cel,l1,T1,K.to C1.X e1,e1,o1,r1⟩)
theorem Fc{bo el:List Stmt}(h:kq c d sc t σ H b H1)(h1:b=true→tc c d sc bo σ H1 fl σ' H')(h2:b=false→tc c d sc el σ H1 fl σ' H'):rV c d sc (.If t bo el pos) σ H fl σ' H':=fun A env f m its cel led T s K=>
 wpAny_If (h.then K.cn fun l1 T1 s1 C1 e1 o1=>by
  cases b with
  |true=>exact wpAny_mono (h1 rfl A env f m its cel l1 T1 s1 (K.to C1.X e1)) (fun _ _ p=>p.from o1 e1) bG
  |false=>exact wpAny_mono (h2 rfl A env f m its cel l1 T1 s1 (K.to C1.X e1)) (fun _ _ p=>p.from o1 e1) bG)
theorem Ea:tc c d sc [] σ H .next σ H:=fun A env f m its cel led T s K=>wpAny_execs_nil ⟨m,cel,led,T,K,.refl,.refl s,trivial⟩
theorem y7{st:Stmt}{sts:List Stmt}{fl1:Fl}(h:rV c d sc st σ H fl1 σ1 H1)(k1:fl1= .next→tc c d sc sts σ1 H1 fl σ' H')(k2:fl1≠ .next→fl=fl1∧σ'=σ1∧H'=H1):tc c d sc (st::sts) σ H fl σ' H':=fun A env f m its cel led T s K=>
 wpAny_execs_cons (wpAny_mono (h A env f m its cel led T s K) (fun fw s1 p=>by
  obtain⟨m1,cel1,l1,T1,K1,e1,o1,r1⟩:=p
  by_cases q:fl1= .next
  ·subst q
   cases fw<;>first|cases r1|skip
   exact wpAny_mono (k1 rfl A env f m1 its cel1 l1 T1 s1 K1) (fun _ _ p=>p.from o1 e1) bG
  ·obtain⟨rfl,rfl,rfl⟩:=k2 q
   have z:PX c d sc A env f its led T s fl σ' H' fw s1:=⟨m1,cel1,l1,T1,K1,e1,o1,r1⟩
   cases fw with
   |next=>cases fl<;>first|exact absurd rfl q|cases r1
   |_=>exact z) bG)
theorem gP{value:Expr}{t:Expr}{ln:Nat}{env:Env}(h:dS value=false∨ ∀x p,t≠ .Name x p):swapsWithSole [t] value ln env=pure false:=by
 show swapsWith value (some t) ln env=pure false
 rcases h with h|h
 ·exact jj h
 ·cases value<;>first
   |rfl
   |(cases t<;>first|rfl|exact absurd rfl (h _ _))
theorem um(hs:swapsWithSole [t] e pos.line env=pure false)(hw:swappedStores [t] e env=pure none)(ht: ∀a p,t≠ .Starred a p)(h:cg c d sc e σ H x H1)(k:xp c d sc t x σ H1 σ' H')(K:Cs c d sc σ A env f m its cel led T H s):
  wpAny (model c.prog c.w) A (exec (.Assign [t] e pos) env) (PX c d sc A env f its led T s .next σ' H') no s:=by
 rw[arm_exec_Assign,hs]
 refine wpAny_bind (wpAny_standAt (wpAny_bind (wpAny_pure ?_)))
 rw[if_neg (by decide)]
 refine wpAny_bind (h.then K.cn fun l1 T1 v1 s1 C1 e1 r1 o1=> ?_)
 rw[hw]
 refine wpAny_bind (wpAny_pure ?_)
 have he:(assignEach [t] env).map (·.2)=[assign t env]:=by rw[f9 ht];rfl
 rw[he]
 unfold assignStores
 refine wpAny_bind ?_
 show wpAny _ _ (assign t env v1) _ _ s1
 exact(wpAny_mono (k A env f m its cel l1 T1 s1 v1 (K.to C1.X e1) r1) (fun _ s2 p=>wpAny_pure ((PX.next p).from o1 e1)) bG)
end
set_option backward.match.sparseCases true
section
variable{c:Cx}{d:Nat}{sc:cu}{σ σ' σ1:aQ}{A:Around}{env:Env}{f:Fx}{m m0 m':Str→Option Value}{its kp cel cel' led led' T T':aN}{h h₁ h':Heap}{H H' H1 H2 H3:Hp}{s s':Shared}{mv x y:MV}{e l r t:Expr}{b:Bool}{pos:Pos}{C:Addr}{u v:Value}{fl:Fl}
theorem lr{value:Expr}{env:Env}(h:(cP t&&cP value)=false)(hl: ∀es p,t≠ .List es p):swappedStores [t] value env=pure none:=by
 cases t<;>first
  |rfl
  |exact absurd rfl (hl _ _)
  |(cases value<;>first|rfl|cases h)
noncomputable def eu(env:Env)(line:Nat):Expr→Option Str
 | .Name id pos=>if env.kindOf id==some .local&&pos.line==line then some id else none
 |_=>none
theorem qh{α β:Type}{g:α→Option β}: ∀ {l:List α},(∃x∈l,g x=none)→(l.filterMap g).length<l.length
 |[],h=>by obtain⟨x,hx,_⟩:=h;cases hx
 |y::r,h=>by
  have hle:=List.length_filterMap_le g r
  rw[List.filterMap_cons]
  cases q:g y with
  |none=>exact Nat.lt_succ_of_le hle
  |some z=>
   obtain⟨x,hx,hg⟩:=h
   rcases List.mem_cons.mp hx with rfl|hx
   ·rw[q] at hg;cases hg
   ·have:=qh ⟨x,hx,hg⟩
    exact Nat.succ_lt_succ this
theorem uo{ts vs:List Expr}{k1 k2:Nat}{p1 p2:Pos}{L:Addr}(E:EO env L sc)(h:ts.any (jE sc)=true):swappedStores [.Tuple ts k1 p1] (.Tuple vs k2 p2) env=pure none:=by
 have hn:(ts.filterMap (eu env ((ts.head?.map (·.pos.line)).getD 0))).length≠ts.length:=by
  refine Nat.ne_of_lt (qh ?_)
  obtain⟨x,hx,hf⟩:=List.any_eq_true.mp h
  refine⟨x,hx,?_⟩
  unfold jE at hf
  cases x<;>first
   |rfl
   |(simp only[beq_iff_eq] at hf;unfold eu;dsimp only;rw[E.kindOf _ (by decide) hf];rfl)
 unfold swappedStores
 dsimp only
 split
 ·rfl
 ·split
  ·rfl
  ·rw[if_pos]
   rw[Bool.or_eq_true];left
   rw[bne_iff_ne]
   exact hn
theorem ny{α β:Type}{g k:α→Option β}: ∀ {l:List α},(∀x∈l,g x=k x)→l.filterMap g=l.filterMap k
 |[],_=>rfl
 |y::r,h=>by rw[List.filterMap_cons,List.filterMap_cons,h y (.head _),ny fun x hx=>h x (.tail _ hx)]
theorem ku{α β:Type}{g:α→Option β}: ∀ {l:List α},(∀x∈l,(g x).isSome=true)→(l.filterMap g).length=l.length
 |[],_=>rfl
 |y::r,h=>by
  have:=h y (.head _)
  rw[List.filterMap_cons]
  cases q:g y with
  |none=>rw[q] at this;cases this
  |some z=>simp[ku fun x hx=>h x (.tail _ hx)]
theorem rW{ts vs:List Expr}{k1 k2:Nat}{p1 p2:Pos}{L:Addr}(E:EO env L sc)(h:ke sc ts vs=true):swappedStores [.Tuple ts k1 p1] (.Tuple vs k2 p2) env=pure (some (ts.filterMap bE))∧
  (∀x∈ts,∃n p,x= .Name n p∧sc.lookup n=some .local)∧(ts.filterMap bE).eraseDups.length=(ts.filterMap bE).length:=by
 unfold ke at h
 simp only[Bool.and_eq_true,Bool.not_eq_true',beq_iff_eq] at h
 obtain⟨⟨⟨⟨⟨⟨h1,h2⟩,h3⟩,h4⟩,h5⟩,h6⟩,h7⟩:=h
 rw[List.all_eq_true] at h6
 have nm: ∀x∈ts,∃n p,x= .Name n p∧sc.lookup n=some .local∧p.line=(ts.head?.map (·.pos.line)).getD 0:=fun x hx=>pT (h6 x hx)
 have fe:ts.filterMap (eu env ((ts.head?.map (·.pos.line)).getD 0))=ts.filterMap bE:=ny fun x hx=>by
  obtain⟨n,p,rfl,z1,z2⟩:=nm x hx
  unfold eu bE
  dsimp only
  rw[E.kindOf _ (by decide) z1,if_pos]
  simp[z2]
 have fl:(ts.filterMap bE).length=ts.length:=ku fun x hx=>by
  obtain⟨n,p,rfl,z1,z2⟩:=nm x hx;rfl
 have h7':(ts.filterMap bE).eraseDups.length=ts.length:=h7
 refine⟨?_,fun x hx=>by obtain⟨n,p,a,b,_⟩:=nm x hx;exact⟨n,p,a,b⟩,by rw[h7',fl]⟩
 unfold swappedStores
 dsimp only
 split
 ·rename_i q
  exfalso
  rw[E.block] at q
  simp only[h2,Bool.or_eq_true] at q
  rcases q with (q|q)|q
  ·rw[h1] at q;cases q
  ·simp at q
  ·cases q
 ·split
  ·rename_i q
   exact absurd (show vs.any tE=true from q) (by rw[h3];decide)
  ·rw[if_neg,if_neg (by rw[h4];decide),if_neg (by rw[h5];decide)]
   ·show pure (some (ts.filterMap (eu env ((ts.head?.map (·.pos.line)).getD 0))))=_
    rw[fe]
   ·intro q
    have q':((ts.filterMap (eu env ((ts.head?.map (·.pos.line)).getD 0))).length !=ts.length||(ts.filterMap (eu env ((ts.head?.map (·.pos.line)).getD 0))).eraseDups.length !=(ts.filterMap (eu env ((ts.head?.map (·.pos.line)).getD 0))).length)=true:=q
    rw[fe,h7',fl] at q'
    simp at q'
noncomputable def updL(σ:aQ)(l:List (Str×MV)):aQ:=l.foldl (fun σ p=>upd σ p.1 p.2) σ
theorem hW(y:Str): ∀ (l:List (Str×MV)) (σ:aQ),y∉l.map (·.1)→updL σ l y=σ y
 |[],_,_=>rfl
 |(x,v)::r,σ,h=>by
  simp only[List.map_cons,List.mem_cons,not_or] at h
  show updL (upd σ x v) r y=σ y
  rw[hW y r _ h.2]
  simp[upd,h.1]
theorem mw(y:Str)(w:MV): ∀ (l:List (Str×MV)) (σ:aQ),(l.map (·.1)).Nodup→(y,w)∈l→updL σ l y=some w
 |(x,v)::r,σ,nd,h=>by
  simp only[List.map_cons,List.nodup_cons] at nd
  show updL (upd σ x v) r y=some w
  rcases List.mem_cons.mp h with h|h
  ·cases h
   rw[hW _ r _ nd.1];simp[upd]
  ·exact mw y w r _ nd.2 h
theorem rX{l:List Str}(h:l.Nodup):l.reverse.Nodup:=List.pairwise_reverse.mpr (h.imp fun h=>Ne.symm h)
theorem uq(σ:aQ)(l:List (Str×MV))(nd:(l.map (·.1)).Nodup):updL σ l.reverse=updL σ l:=by
 funext y
 by_cases h:y∈l.map (·.1)
 ·obtain⟨⟨z,w⟩,hm,e⟩:=List.mem_map.mp h
  simp only at e;subst e
  rw[mw z w l σ nd hm,mw z w l.reverse σ (by rw[List.map_reverse];exact rX nd) (List.mem_reverse.mpr hm)]
 ·rw[hW y l σ h,hW y l.reverse σ (by rw[List.map_reverse];simpa using h)]
theorem qi{E:Value→Shared→Prop}: ∀ (ps:List (Str×MV)) (us:List Value) {σ:aQ} {m:Str→Option Value} {cel led T:aN} {s:Shared},Cs c d sc σ A env f m its cel led T H s→(∀p∈ps,sc.lookup p.1=some .local∨sc.lookup p.1=some .cell)→VRs c.K (ai led) T us (ps.map (·.2))→
  wpAny (model c.prog c.w) A (assignInOrder ((ps.map (·.1)).map fun n=>bindName env n) us) (fun _ s'=>PA c d sc A env f its led T s (updL σ ps) H s') E s
 |[],us,σ,m,cel,led,T,s,K,_,r=>by
  cases r
  exact wpAny_pure (PA.mk K .refl (.refl s))
 |(x,v)::ps,us,σ,m,cel,led,T,s,K,hl,r=>by
  cases r with
  |cons r1 r2=>
   refine wpAny_bind (wpAny_holding (wpAny_bindName (wpAny_mono (qg (mv:=v) K (hl _ (.head _)) r1) (fun _ s1 pz=> ?_) (fun _ _ z=>z))))
   obtain⟨m1,cel1,l1,T1,K1,e1,o1⟩:=pz
   exact wpAny_mono (qi ps _ K1 (fun p hp=>hl p (.tail _ hp)) (r2.mono e1)) (fun _ _ p=>p.from o1 e1) (fun _ _ z=>z)
end
set_option backward.match.sparseCases false
section
variable{c:Cx}{d:Nat}{sc:cu}{σ σ' σ1:aQ}{A:Around}{env:Env}{f:Fx}{m m0 m':Str→Option Value}{its kp cel cel' led led' T T':aN}{h h₁ h':Heap}{H H' H1 H2 H3:Hp}{s s':Shared}{mv x y:MV}{e l r t:Expr}{b:Bool}{pos:Pos}{C:Addr}{u v:Value}{fl:Fl}
theorem VRs.reverse{K:Frag}{as:List Addr}{T:aN}{vs:List Value}{xs:List MV}(h:VRs K as T vs xs):VRs K as T vs.reverse xs.reverse:=by
 induction xs generalizing vs with
 |nil=>exact oQ vs h (P:=fun vs=>VRs K as T vs.reverse []) .nil
 |cons x xs ih=>exact kh vs h (P:=fun vs=>VRs K as T vs.reverse (x::xs).reverse) fun v vs h r=>by rw[List.reverse_cons,List.reverse_cons];exact(ih r).append (.cons h .nil)
theorem oX{l:List Str}(h:l.eraseDups.length=l.length):l.Nodup:=by
 have: ∀ (n:Nat) (l:List Str),l.length≤n→l.eraseDups.length≤l.length∧(l.eraseDups.length=l.length→l.Nodup):=by
  intro n
  induction n with
  |zero=>intro l hl;have:l=[]:=List.length_eq_zero_iff.mp (by exact af [] [_] 1802 1057 1800 hl);subst this;simp
  |succ n ih=>
   intro l hl
   cases l with
   |nil=>simp
   |cons a r=>
    rw[List.eraseDups_cons]
    have hf:=List.length_filter_le (fun b=>!b==a) r
    obtain⟨i1,i2⟩:=ih (r.filter fun b=>!b==a) (by simp at hl;exact aq [] [_,_,_] 8968 1057 9480 9000 hf hl)
    refine⟨by simp;exact aq [] [_,_,_] 8968 1057 9000 9480 hf i1,fun e=> ?_⟩
    simp only[List.length_cons] at e
    have e1:(r.filter fun b=>!b==a).length=r.length:=by exact a0 [] [_,_,_] 8970 0x7840180021 8968 8488 0x8e2008e40a hf i1 e
    have e2:(r.filter fun b=>!b==a)=r:=List.length_filter_eq_length_iff.mp e1|>fun h=>List.filter_eq_self.mpr h
    rw[e2] at i2 e
    refine List.nodup_cons.mpr ⟨fun ha=> ?_,i2 (by exact af [] [_,_] 8970 493089 0x8e2008e00a e)⟩
    have:=List.length_filter_eq_length_iff.mp e1 a ha
    simp at this
 exact(this _ l (Nat.le_refl _)).2 h
theorem Eb{ts es:List Expr}{k1 k2:Nat}{p1 p2:Pos}{vs:List MV}(hsw:ke sc ts es=true)(h:cg c d sc (.Tuple es k2 p2) σ H (.tup vs) H1)(hl:ts.length=vs.length):
  rV c d sc (.Assign [.Tuple ts k1 p1] (.Tuple es k2 p2) pos) σ H .next (updL σ ((ts.filterMap bE).zip vs)) H1:=fun A env f m its cel led T s K=>by
 obtain⟨w1,w2,w3⟩:=rW (k1:=k1) (k2:=k2) (p1:=p1) (p2:=p2) K.E hsw
 have nd:=oX w3
 have hn:(ts.filterMap bE).length=ts.length:=ku fun x hx=>by
  obtain⟨n,p,rfl,z⟩:=w2 x hx;rfl
 refine Assign_Tuple_swapped (names:=ts.filterMap bE) (h.then K.cn fun l1 T1 v1 s1 C1 e1 r1 o1=> ?_) (gP (.inl rfl)) w1
 obtain⟨a,us,rfl,g1,g2,g3⟩:=C1.X.isTup r1
 have hu:(ts.filterMap bE).length=us.toArray.size:=by rw[hn,hl,←g2.len];simp
 rw[hu]
 refine wpAny_unpackItems_tuple C1.A.hd g1 (fun h' hx=> ?_)
 have K':Cs c d sc σ A env f m its cel l1 T1 H1 {s1 with heap:=h'}:=K.to (C1.X.keeps (fun b o q=>hx b o (Nat.ne_of_lt (Heap.lt_size q)) q)) e1
 have zf:((ts.filterMap bE).zip vs).map (·.1)=ts.filterMap bE:=by
  rw[List.map_fst_zip];exact aq [] [_,_,_] 8968 17953 9002 9482 hl hn
 have zs:((ts.filterMap bE).zip vs).map (·.2)=vs:=by
  rw[List.map_snd_zip];exact aq [] [_,_,_] 8968 15841 8490 9498 hl hn
 have key:=qi (c:=c) (d:=d) (E:=no) ((ts.filterMap bE).zip vs).reverse us.reverse K' (fun p hp=>by
  have hm:p.1∈ts.filterMap bE:=by
   rw[←zf];exact List.mem_map_of_mem (List.mem_reverse.mp hp)
  obtain⟨x,hx,hxe⟩:=List.mem_filterMap.mp hm
  obtain⟨n,q,rfl,z⟩:=w2 x hx
  cases hxe
  exact .inl z) (by rw[List.map_reverse,zs];exact g2.reverse)
 rw[List.map_reverse,zf,uq σ _ (by rw[zf];exact nd)] at key
 refine wpAny_mono key (fun _ s2 p=>(PX.next p).from (o1.trans (Ok.mk s1 h' s1.toks)) e1) bG
theorem Ec{elt iter:Expr}{x y:Str}{px py:Pos}{scope:Scope}{cp:Pos}{items:List MV}{gs:List (Nat×List MV)}
  (O:CompOk sc σ scope x) (hset: ∀env v,foldedSetIterable iter env v=pure v) (hown:cI iter=false)
  (hi:s9 c d sc iter σ H items gs H1) (hgl: ∀g∈gs,g.1<H1.length)
  (hr:jf (fun v H=>cg c d scope.names elt (hK scope.names σ x v) H) gs H1.length items [] (H1++[.list []]) H2) (hy:sc.lookup y=some .local) (K:Cs c d sc σ A env f m its cel led T H s)
  (hsw:swapsWith (.ListComp elt [⟨.Name x px,iter,[],0⟩] scope cp) (some (.Name y py)) pos.line env=pure true):
  wpAny (model c.prog c.w) A (exec (.Assign [.Name y py] (.ListComp elt [⟨.Name x px,iter,[],0⟩] scope cp) pos) env) (PX c d sc A env f its led T s .next (upd σ y (.loc H1.length)) H2) no s:=by
 rw[exec_Assign_Name_used _ _ _ _ hsw]
 refine wpAny_bind (wpAny_standAt (wpAny_bind ?_))
 show wpAny _ A (do let _←comprehension (.ListComp elt [⟨.Name x px,iter,[],0⟩] scope cp) scope env _ (newList []) false (eval iter env) (some (assign (.Name y py) env))) _ _ s
 refine wpAny_bind (wpAny_mono (nx (use:=some (assign (.Name y py) env)) (Q:=fun _ s'=>PX c d sc A env f its led T s .next (upd σ y (.loc H1.length)) H2 .next s') O K.cn (hset env) hown hi hgl hr (fun led' T' s' C' mm v X e r o hns hC hL h0=> ?_)) (fun _ s' hq=>wpAny_pure (wpAny_pure hq)) bG)
 show wpAny _ A (assign (.Name y py) env v) _ _ _
 have hk:=K.E.kindOf y (by decide) hy
 have K':Cs c d sc σ A env f m its cel led' T' H2 s':=K.to X e
 refine wpAny_assign_Name (wpAny_storeName_local hk (K.E.loc▸X.F.ns) (fun h' hn hs=> ?_) K.E.plain)
 rw[K.E.loc] at hn hs
 refine⟨mm,hns.sameBut hs hL,fun h2 hs2=> ?_⟩
 have nL:=X.notL
 have X1:St c f (fun z=>if z=y then some v else m z) (its++cel) h' led' T' H2:=⟨X.F.set hn hs,X.X,X.G,fun p hp=>⟨(hs.2 _ (fun q=>nL (q▸List.mem_map_of_mem hp))).trans (X.N p hp).1,(X.N p hp).2⟩,X.nd,X.hi,X.R⟩
 have X2:St c f (fun z=>if z=y then some v else m z) (its++cel) h2 led' T' H2:=X1.other (fun b o hb q=>(hs2.2 b hb).trans q) hC hL h0
 refine⟨_,cel,led',T',⟨K.A,K.E,X2,fun z w hw=> ?_,K.has,K.inj⟩,e,o.trans (Ok.mk s' h2 _),trivial⟩
 unfold upd at hw
 split at hw
 ·rename_i q
  subst q;cases hw
  exact .inl ⟨hk,v,by simp,r⟩
 ·rename_i q
  rcases K'.Y z w hw with ⟨a,u',b,rr⟩|z
  ·exact .inl ⟨a,u',by simp[q,b],rr⟩
  ·exact .inr z
noncomputable def kw(c:Cx)(d:Nat)(sc:cu)(t:Expr)(bo:List Stmt)(v:MV)(σ:aQ)(H:Hp)(fl:Fl)(σ':aQ)(H':Hp):Prop:= ∃σ1 H1,xp c d sc t v σ H σ1 H1∧tc c d sc bo σ1 H1 fl σ' H'
theorem ur{bo:List Stmt}{E:Value→Shared→Prop}{Z:Flow→Shared→Prop}(K:Cs c d sc σ A env f m its cel led T H s)(q:VR c.K (ai led) T v x)(ht:kw c d sc t bo x σ H fl σ' H')(he: ∀e s,no e s→E e s)
  (k: ∀fw s6 m6 cel6 l6 T6,Cs c d sc σ' A env f m6 its cel6 l6 T6 H' s6→Ext (ai led) T (ai l6) T6→Ok s s6→y6 c.K (ai l6) T6 fw fl→Z fw s6):wpAny (model c.prog c.w) A (assign t env v) (fun _ s2=>wpAny (model c.prog c.w) A (execs bo env) Z E s2) E s:=by
 obtain⟨σ1,H1,b1,b2⟩:=ht
 exact wpAny_mono (b1 A env f m its cel led T s v K q) (fun _ s5 pz=>by obtain⟨m5,cel5,l5,T5,K5,e5,o5⟩:=pz;exact wpAny_mono (b2 A env f m5 its cel5 l5 T5 s5 K5) (fun fw s6 pz=>by obtain⟨m6,cel6,l6,T6,K6,e6,o6,r6⟩:=pz;exact k fw s6 m6 cel6 l6 T6 K6 (e5.trans e6) (o5.trans o6) r6) he) he
inductive FS(c:Cx)(d:Nat)(sc:cu)(A:Around)(env:Env)(f:Fx)(its:aN)(items:List MV)(gs:List (Nat×List MV))(G:MV→aQ→Hp→Fl→aQ→Hp→Prop)(I:Nat→List Addr→aN→aN→Prop)(fl:Fl)(σ':aQ)(H':Hp)(X:List Addr→aN→Shared→Prop)(k:Nat)(s:Shared):Prop
 |of (j:Nat) (σ:aQ) (H:Hp) (m:Str→Option Value) (cel led T its2:aN) (e:k=items.length- j) (i:I j (ai led) T its2) (K:Cs c d sc σ A env f m (its2++its) cel led T H s) (x:X (ai led) T s) (st:bg gs H) (r:rD G gs (items.drop j) σ H fl σ' H')
theorem Cs.swapI{i1:aN}(K:Cs c d sc σ A env f m (i1++its) cel led T H s):St c f m (i1++(its++cel)) s.heap led T H:=aA i1 its cel▸K.X
theorem Cs.swapO{i1:aN}(K:Cs c d sc σ A env f m its cel led T H s)(X:St c f m' (i1++(its'++cel)) s'.heap led' T' H')(e:Ext (ai led) T (ai led') T')(Y:LR c.K (ai led') T' env.kindOf env.cells m' cel σ):Cs c d sc σ A env f m' (i1++its') cel led' T' H' s':=⟨K.A,K.E,by rw[aA];exact X,Y,K.has,K.inj⟩
theorem ut{bo:List Stmt}{items:List MV}{gs:List (Nat×List MV)}{it:Value}{I:Nat→List Addr→aN→aN→Prop}{R:Result→Shared→Prop}{X:List Addr→aN→Shared→Prop}(hX: ∀as T s as' T' s',X as T s→Ext as T as' T'→Ok s s'→X as' T' s')(W:Stp c A it t items gs I)
  (hR: ∀fw s' m2 cel2 l2 T2,Cs c d sc σ' A env f m2 its cel2 l2 T2 H' s'→X (ai l2) T2 s'→y6 c.K (ai l2) T2 fw fl→R (.ok fw) s') {k:Nat} (hF:FS c d sc A env f its items gs (kw c d sc t bo) I fl σ' H' X k s):codeAny (model c.prog c.w) A (.forLoop t it bo [] env) R s:=by
 refine codeAny_forLoop_any (FS c d sc A env f its items gs (kw c d sc t bo) I fl σ' H' X) (fun k s2 hF=> ?_) k hF
 generalize hE:(notedBy (model c.prog c.w) A env fun e s'=>R (.error e) s')=E
 have he: ∀e s,no e s→E e s:=fun _ _ z=>z.elim
 clear hE
 obtain⟨j,σ,H,m,cel,led,T,its2,e,i,K,x,st,r⟩:=hF
 refine wpAny_mono (W.step j f m (its++cel) led T H s2 its2 i K.swapI st) (fun q s3 h3=> ?_) he
 cases q with
 |none=>
  obtain⟨q1,q2,q3⟩:=h3
  rw[List.drop_eq_nil_of_le (List.getElem?_eq_none_iff.mp q1)] at r
  obtain⟨rfl,rfl,rfl⟩:=r
  exact wpAny_execs_nil (hR _ _ m cel led T ⟨K.A,K.E,q2,K.Y,K.has,K.inj⟩ (hX _ _ _ _ _ _ x .refl q3) trivial)
 |some v=>
  refine wpAny_mono h3 (fun _ s4 pz=> ?_) he
  obtain⟨xv,its3,T3,q1,q2,q3,q4,q5,q6⟩:=pz
  obtain⟨hj,hv⟩:=gS q1
  rw[List.drop_eq_getElem_cons hj,hv] at r
  obtain⟨fl1,σ1,Hb,a1,a2⟩:=r
  refine ur (K.swapO q3 q4 (K.Y.mono q4)) q5 a1 he fun fw s6 m6 cel6 l6 T6 K6 e6 o6 r6=> ?_
  have x6:=hX _ _ _ _ _ _ x (q4.trans e6) (q6.trans o6)
  have go:(bg gs Hb∧rD (kw c d sc t bo) gs (items.drop (j+1)) σ1 Hb fl σ' H')→ ∃m,m<k∧FS c d sc A env f its items gs (kw c d sc t bo) I fl σ' H' X m s6:=fun a=>⟨_,by rw[e];exact Nat.sub_lt_sub_left hj (Nat.lt_succ_self j),.of (j+1) σ1 Hb m6 cel6 l6 T6 its3 rfl (W.mono _ _ _ _ _ _ q2 e6) K6 x6 a.1 a.2⟩
  have out: ∀fw,(σ'=σ1∧H'=Hb)→y6 c.K (ai l6) T6 fw fl→R (.ok fw) s6:=fun fw a r=>by
   obtain⟨rfl,rfl⟩:=a
   exact hR fw s6 m6 cel6 l6 T6 ⟨K6.A,K6.E,K6.swapI.keepBut (fun _ _ _ e=>e),K6.Y,K6.has,K6.inj⟩ x6 r
  cases fl1 with
  |next=>cases fw<;>first|exact go a2|cases r6
  |cont=>cases fw<;>first|exact go a2|cases r6
  |brk=>cases fw<;>first|exact out .next a2.2 (a2.1▸trivial)|cases r6
  |ret w=>
   cases fw<;>first|exact out (.ret _) a2.2 (a2.1▸r6)|cases r6
theorem Ed{it:Expr}{bo:List Stmt}{items:List MV}{gs:List (Nat×List MV)}(hset: ∀env v,foldedSetIterable it env v=pure v)(hown:cI it=true→cP t=true)
  (hi:s9 c d sc it σ H items gs H1) (hr:rD (kw c d sc t bo) gs items σ H1 fl σ' H'):rV c d sc (.For t it bo [] pos) σ H fl σ' H':=fun A env f m its cel led T s K=>
 wpAny_For (hi A env f m (its++cel) led T s t _ hown K.cn fun itv led1 T1 its1 I s1 W I0 X1 e1 o1 st1=>
  ut (X:=fun as T1 s1=>Ext (ai led) T as T1∧Ok s s1) (fun _ _ _ _ _ _ x e o=>⟨x.1.trans e,x.2.trans o⟩) W (fun fw s' m2 cel2 l2 T2 K x r=>⟨m2,cel2,l2,T2,K,x.1,x.2,r⟩)
   (.of 0 σ H1 m cel led1 T1 its1 rfl I0 (K.swapO X1 e1 (K.Y.mono e1)) ⟨e1,o1⟩ st1 hr)) (hset env)
inductive GS(c:Cx)(d:Nat)(sc:cu)(A:Around)(env:Env)(f:Fx)(its:aN)(G:Nat→aQ→Hp→Prop)(X:List Addr→aN→Shared→Prop)(k:Nat)(s:Shared):Prop
 |of (σ:aQ) (H:Hp) (m:Str→Option Value) (cel led T:aN) (K:Cs c d sc σ A env f m its cel led T H s) (x:X (ai led) T s) (r:G k σ H)
theorem oY{bo:List Stmt}{R:Result→Shared→Prop}{X:List Addr→aN→Shared→Prop}(hX: ∀as T s as' T' s',X as T s→Ext as T as' T'→Ok s s'→X as' T' s'){G:Nat→aQ→Hp→Prop}{F:Fl→aQ→Hp→Prop}
  (hG: ∀k σ H,G k σ H→ ∃k' b H1,k=k'+1∧kq c d sc t σ H b H1∧match b with
   |false=>F .next σ H1
   |true=> ∃fl1 σ1 H2,tc c d sc bo σ H1 fl1 σ1 H2∧match fl1 with
    | .next=>G k' σ1 H2
    | .cont=>G k' σ1 H2
    | .brk=>F .next σ1 H2
    | .ret v=>F (.ret v) σ1 H2)
  (hR: ∀fw fl s' m2 cel2 l2 T2 σ' H',F fl σ' H'→Cs c d sc σ' A env f m2 its cel2 l2 T2 H' s'→X (ai l2) T2 s'→y6 c.K (ai l2) T2 fw fl→R (.ok fw) s') {k:Nat} (hF:GS c d sc A env f its G X k s):codeAny (model c.prog c.w) A (.whileLoop t bo [] env) R s:=by
 refine codeAny_whileLoop (GS c d sc A env f its G X) (fun k s2 hF=> ?_) k hF
 generalize hE:(notedBy (model c.prog c.w) A env fun e s'=>R (.error e) s')=E
 have he: ∀e s,no e s→E e s:=fun _ _ z=>z.elim
 clear hE
 obtain⟨σ,H,m,cel,led,T,K,x,r⟩:=hF
 obtain⟨k',b,H1,rfl,a1,a2⟩:=hG k σ H r
 refine wpAny_mono (a1 A env f m (its++cel) led T s2 K.cn) (fun bv s3 pz=> ?_) he
 obtain⟨q,l3,T3,X3,e3,o3⟩:=pz
 subst q
 have K3:Cs c d sc σ A env f m its cel l3 T3 H1 s3:=K.to X3 e3
 have x3:=hX _ _ _ _ _ _ x e3 o3
 cases bv with
 |false=>exact wpAny_execs_nil (hR _ _ _ _ _ _ _ _ _ a2 K3 x3 trivial)
 |true=>
  obtain⟨fl1,σ1,H2,b1,b2⟩:=a2
  refine wpAny_mono (b1 A env f m its cel l3 T3 s3 K3) (fun fw s6 pz=> ?_) he
  obtain⟨m6,cel6,l6,T6,K6,e6,o6,r6⟩:=pz
  have x6:=hX _ _ _ _ _ _ x3 e6 o6
  have go:G k' σ1 H2→ ∃m,m<k'+1∧GS c d sc A env f its G X m s6:=fun a=>⟨k',Nat.lt_succ_self _,.of σ1 H2 m6 cel6 l6 T6 K6 x6 a⟩
  cases fl1 with
  |next=>cases fw<;>first|exact go b2|cases r6
  |cont=>cases fw<;>first|exact go b2|cases r6
  |brk=>cases fw<;>first|exact hR .next _ _ _ _ _ _ _ _ b2 K6 x6 trivial|cases r6
  |ret w=>cases fw<;>first|exact hR (.ret _) _ _ _ _ _ _ _ _ b2 K6 x6 r6|cases r6
theorem Ae{bo:List Stmt}{k:Nat}
  (hr:kc (fun σ H b H1=>kq c d sc t σ H b H1) (fun σ H fl σ' H'=>tc c d sc bo σ H fl σ' H') k σ H fl σ' H'):rV c d sc (.While t bo [] pos) σ H fl σ' H':=fun A env f m its cel led T s K=>by
 refine wpAny_While (oY (k:=k) (X:=fun as T1 s1=>Ext (ai led) T as T1∧Ok s s1) (fun _ _ _ _ _ _ x e o=>⟨x.1.trans e,x.2.trans o⟩) (G:=fun k σ H=>kc (fun σ H b H1=>kq c d sc t σ H b H1) (fun σ H fl σ' H'=>tc c d sc bo σ H fl σ' H') k σ H fl σ' H') (F:=fun fl1 σ1 H1=>fl=fl1∧σ'=σ1∧H'=H1)
  (fun k σ H h=> ?_) (fun fw fl s' m2 cel2 l2 T2 σ' H' q K x r=> ?_) (.of σ H m cel led T K ⟨.refl,.refl s⟩ hr))
 ·cases k with
  |zero=>cases h
  |succ k=>
   obtain⟨b,H1,a1,a2⟩:=h
   exact⟨k,b,H1,rfl,a1,a2⟩
 ·obtain⟨rfl,rfl,rfl⟩:=q
  exact⟨m2,cel2,l2,T2,K,x.1,x.2,r⟩
end
inductive An where
 |v (x:MV)
 |h (H:Hp)
 |p (x:MV) (H:Hp)
 |b (b:Bool)
 |l (l:List MV)
 |d (l:List (Str×MV))
 |g (g:Option Addr)
 |w (l:List MV) (gs:List (Nat×List MV))
inductive Tr where
 |ret (fl:Fl) (σ:aQ) (H:Hp)
 |fail
 |rq (m:Option An) (k:An→Tr)
 |call (a:Addr) (vs:List MV) (H:Hp) (k:MV→Hp→Tr)
 |test (b:Bool) (k:Bool→Tr)
 |side (A:Prop) (k:Tr)
 |loop (turn:MV→aQ→Hp→Tr) (gs:List (Nat×List MV)) (items:List MV) (σ:aQ) (H:Hp) (k:Fl→aQ→Hp→Tr)
 |comp (elt:MV→Hp→Tr) (gs:List (Nat×List MV)) (acc:Nat) (items vs:List MV) (H:Hp) (k:Hp→Tr)
noncomputable def ob{α:Type}(m:Option α)(k:α→Tr):Tr:=match m with
 |some a=>k a
 |none=> .fail
noncomputable def oe{α:Type}(m:Option α)(k:α→Tr)(e:Tr):Tr:=match m with
 |some a=>k a
 |none=>e
noncomputable def gd(c:Bool)(k:Tr):Tr:=match c with
 |true=>k
 |false=> .fail
noncomputable def Ee(m:Option MV)(k:MV→Tr):Tr:= .rq (bd m fun x=>some (.v x)) fun a=>match a with
 | .v x=>k x
 |_=> .fail
noncomputable def Ef(m:Option Hp)(k:Hp→Tr):Tr:= .rq (bd m fun x=>some (.h x)) fun a=>match a with
 | .h x=>k x
 |_=> .fail
noncomputable def Dd(m:Option (MV×Hp))(k:MV→Hp→Tr):Tr:= .rq (bd m fun x=>some (.p x.1 x.2)) fun a=>match a with
 | .p x H=>k x H
 |_=> .fail
noncomputable def Fd(m:Option Bool)(k:Bool→Tr):Tr:= .rq (bd m fun x=>some (.b x)) fun a=>match a with
 | .b x=>k x
 |_=> .fail
noncomputable def BY(m:Option (List MV))(k:List MV→Tr):Tr:= .rq (bd m fun x=>some (.l x)) fun a=>match a with
 | .l x=>k x
 |_=> .fail
noncomputable def Fe(m:Option (List (Str×MV)))(k:List (Str×MV)→Tr):Tr:= .rq (bd m fun x=>some (.d x)) fun a=>match a with
 | .d x=>k x
 |_=> .fail
noncomputable def Ff(m:Option (Option Addr))(k:Option Addr→Tr):Tr:= .rq (bd m fun x=>some (.g x)) fun a=>match a with
 | .g x=>k x
 |_=> .fail
noncomputable def Eg(m:Option (List MV×List (Nat×List MV)))(k:List MV→List (Nat×List MV)→Tr):Tr:= .rq (bd m fun x=>some (.w x.1 x.2)) fun a=>match a with
 | .w x gs=>k x gs
 |_=> .fail
inductive Kn where
 |val (k:MV→Hp→Tr)
 |cnd (kt kf:Hp→Tr)
noncomputable def uu(b:Bool)(kt kf:Hp→Tr)(H:Hp):Tr:=match b with
 |true=>kt H
 |false=>kf H
noncomputable def app(kn:Kn)(v:MV)(H:Hp):Tr:=match kn with
 | .val k=>k v H
 | .cnd kt kf=>ob (Db v) fun b=> .test b fun c=>uu c kt kf H
noncomputable def lit(kn:Kn)(b:Bool)(H:Hp):Tr:=match kn with
 | .val k=>k (.bool b) H
 | .cnd kt kf=>uu b kt kf H
noncomputable def y8(kn:Kn):Kn:=match kn with
 | .val k=> .val fun v H=>ob (Db v) fun b=>k (.bool (!b)) H
 | .cnd kt kf=> .cnd kf kt
noncomputable def BZ(op:Operator)(x y:MV):Option MV:=match op with
 | .Add=>bd (aF x) fun a=>bd (aF y) fun b=>some (.int (a+b))
 | .Sub=>bd (aF x) fun a=>bd (aF y) fun b=>some (.int (a- b))
 |_=>none
noncomputable def Af(H:Hp)(op:Operator)(x y:MV)(k:MV→Hp→Tr):Tr:=match BZ op x y with
 |some v=>k v H
 |none=>Dd (cB H op x y) k
noncomputable def Fg(x y:MV):Option Bool:=match x with
 | .int a=>bd (aF y) fun b=>some (decide (a=b))
 | .bytes a=>bd (jA y) fun b=>some (decide (a=b))
 | .tup l=>bd (fr y) fun r=>if r.isEmpty=true then some l.isEmpty else none
 |_=>none
noncomputable def Ag(op:CmpOp)(x y:MV):Option Bool:=match op with
 | .Lt=>bd (aF x) fun a=>bd (aF y) fun b=>some (decide (a<b))
 | .LtE=>bd (aF x) fun a=>bd (aF y) fun b=>some (decide (a≤b))
 | .Gt=>bd (aF x) fun a=>bd (aF y) fun b=>some (decide (b<a))
 | .GtE=>bd (aF x) fun a=>bd (aF y) fun b=>some (decide (b≤a))
 | .Eq=>Fg x y
 | .NotEq=>(match x with
  | .int a=>bd (aF y) fun b=>some (decide (a≠b))
  | .tup l=>bd (fr y) fun r=>if r.isEmpty=true then some (!l.isEmpty) else none
  |_=>none)
 | .Is=>bd (iM y) fun _=>isNone x
 | .IsNot=>bd (iM y) fun _=>bd (isNone x) fun b=>some (!b)
 | .In=>bd (tq x) fun z=>bd (fr y) fun l=>bd (md l) fun ss=>some (decide (z∈ss))
 |_=>none
noncomputable def xq(H:Hp)(op:CmpOp)(x y:MV)(k:Bool→Tr):Tr:=match Ag op x y with
 |some b=>k b
 |none=>Fd (eY H op x y) k
noncomputable def y9(H:Hp)(fv:MV)(vs:List MV)(k:MV→Hp→Tr):Tr:=match fv with
 | .glob v=>(match v with
  | .ref a=> .call a vs H k
  |v=>Dd (ja H v vs) k)
 |_=> .fail
noncomputable def za(ov:MV)(x:Str)(g:Option Addr)(vs:List MV)(H:Hp)(k:MV→Hp→Tr):Tr:=match g with
 |some f=> .call f (ov::vs) H k
 |none=>ob (bR ov) fun n=>Dd (np n x vs H) k
noncomputable def uw(H:Hp)(v:MV)(k:List MV→List (Nat×List MV)→Tr):Tr:=match v with
 | .tup l=>k l []
 |v=>Eg (ka H v) k
noncomputable abbrev KS:=Fl→aQ→Hp→Tr
noncomputable def ux(again:aQ→Hp→Tr)(k:KS):KS:=fun fl σ H=>match fl with
 | .next=>again σ H
 | .cont=>again σ H
 | .brk=>k .next σ H
 | .ret v=>k (.ret v) σ H
noncomputable def Eh(test:aQ→Hp→Kn→Tr)(body:aQ→Hp→KS→Tr):Nat→aQ→Hp→KS→Tr
 |0,_,_,_=> .fail
 |n+1,σ,H,k=>test σ H (.cnd (fun H1=>body σ H1 (ux (fun σ H=>Eh test body n σ H k) k)) (fun H1=>k .next σ H1))
mutual
noncomputable def fs(K:Frag)(sc:cu):Nat→Expr→aQ→Hp→Kn→Tr
 |0,_,_,_,_=> .fail
 |n+1,e,σ,H,kn=>match e with
  | .Constant c _ _=>ob (tA c) fun v=>app kn v H
  | .Name x _=>ob (tC K sc σ x) fun v=>app kn v H
  | .BoolOp op es _=>evBT K sc n op es σ H kn
  | .BinOp l op r _=>fs K sc n l σ H (.val fun a H1=>fs K sc n r σ H1 (.val fun b H2=>Af H2 op a b (app kn)))
  | .UnaryOp op x _=>(match op with
   | .Not=>fs K sc n x σ H (y8 kn)
   | .USub=>fs K sc n x σ H (.val fun a H1=>ob (aF a) fun i=>app kn (.int (-i)) H1)
   |_=> .fail)
  | .IfExp t b o _=>fs K sc n t σ H (.cnd (fun H1=>fs K sc n b σ H1 kn) (fun H1=>fs K sc n o σ H1 kn))
  | .Compare l ops cs _=>gd (!lastMarks ops cs) (fs K sc n l σ H (.val fun a H1=>evCT K sc n a ops cs σ H1 kn))
  | .Call fn args kws p=>gd (kws.isEmpty&&decide (args.length≤20)) (match fn with
   | .Attribute o x ap=>gd (iP o&&ap.endLine==p.line) (fs K sc n o σ H (.val fun ov H1=>Ff (dD K H1 ov x) fun g=>evsT K sc n args σ H1 fun vs H2=>za ov x g vs H2 (app kn)))
   | .Name fx fp=>fs K sc n (.Name fx fp) σ H (.val fun fv H1=>evsT K sc n args σ H1 fun vs H2=>y9 H2 fv vs (app kn))
   |_=> .fail)
  | .Attribute o x _=>gd (iP o) (fs K sc n o σ H (.val fun ov H1=>Ee (jv K H1 ov x) fun v=>app kn v H1))
  | .Subscript o i _=>oe (wO i) (fun b=>gd b.2.2.isNone (fs K sc n o σ H (.val fun ov H1=>evOT K sc n b.1 σ H1 fun lv H2=>evOT K sc n b.2.1 σ H2 fun hv H3=>BY (fc H3 ov) fun l=>app kn (.loc H3.length) (H3++[.list (aI l lv hv)]))))
   (fs K sc n o σ H (.val fun ov H1=>fs K sc n i σ H1 (.val fun iv H2=>Ee (eC H2 ov iv) fun v=>app kn v H2)))
  | .Tuple es _ _=>evsT K sc n es σ H fun vs H1=>gd (decide (vs.length≤dK)) (app kn (.tup vs) H1)
  | .List es _=>evsT K sc n es σ H fun vs H1=>gd (decide (vs.length≤dK)) (app kn (.loc H1.length) (H1++[.list vs]))
  | .Dict ks vs _=>gd (decide (ks.length≤15)&&decide (ks.length=vs.length)&&ks.all (·.isSome)) (evDT K sc n ks vs σ (H++[.dict []]) fun ps H1=>Fe (bB H1 H.length) fun es=>gd (es.isEmpty&&decide (ps.length≤15)) (app kn (.loc H.length) (H1.set H.length (.dict (ps.foldl (fun es p=>ce p.1 p.2 es) [])))))
  | .ListComp elt gens scope _=>ob (yV gens) fun g=>gd (mj sc scope g.1 g.2&&ml σ scope.names) (evIT K sc n g.2 σ H fun items gs H1=>
    .comp (fun v H=>fs K scope.names n elt (hK scope.names σ g.1 v) H (.val fun u H3=> .ret (.ret u) (fun _=>none) H3)) gs H1.length items [] (H1++[.list []]) fun H2=>app kn (.loc H1.length) H2)
  |_=> .fail
noncomputable def evsT(K:Frag)(sc:cu):Nat→List Expr→aQ→Hp→(List MV→Hp→Tr)→Tr
 |0,_,_,_,_=> .fail
 |_+1,[],_,H,k=>k [] H
 |n+1,e::r,σ,H,k=>fs K sc n e σ H (.val fun v H1=>evsT K sc n r σ H1 fun vs H2=>k (v::vs) H2)
noncomputable def evOT(K:Frag)(sc:cu):Nat→Option Expr→aQ→Hp→(Option Int→Hp→Tr)→Tr
 |0,_,_,_,_=> .fail
 |_+1,none,_,H,k=>k none H
 |n+1,some e,σ,H,k=>fs K sc n e σ H (.val fun v H1=>ob (aF v) fun i=>k (some i) H1)
noncomputable def evBT(K:Frag)(sc:cu):Nat→BoolOp→List Expr→aQ→Hp→Kn→Tr
 |0,_,_,_,_,_=> .fail
 |n+1,op,es,σ,H,kn=>match es with
  |[]=> .fail
  |e::r=>match r with
   |[]=>fs K sc n e σ H kn
   |e2::r=>match op with
    | .And=>fs K sc n e σ H (.cnd (fun H1=>evBT K sc n .And (e2::r) σ H1 kn) (fun H1=>lit kn false H1))
    | .Or=>fs K sc n e σ H (.cnd (fun H1=>lit kn true H1) (fun H1=>evBT K sc n .Or (e2::r) σ H1 kn))
noncomputable def evCT(K:Frag)(sc:cu):Nat→MV→List CmpOp→List Expr→aQ→Hp→Kn→Tr
 |0,_,_,_,_,_,_=> .fail
 |n+1,a,ops,cs,σ,H,kn=>match ops with
  |[]=> .fail
  |op::ops=>match cs with
   |[]=> .fail
   |e::cs=>match ops with
    |[]=>gd cs.isEmpty (fs K sc n e σ H (.val fun b H1=>xq H1 op a b fun t=>app kn (.bool t) H1))
    |op2::ops=>gd (!cs.isEmpty) (fs K sc n e σ H (.val fun b H1=>xq H1 op a b fun t=> .test t fun c=>uu c (fun H1=>evCT K sc n b (op2::ops) cs σ H1 kn) (fun H1=>lit kn false H1) H1))
noncomputable def evDT(K:Frag)(sc:cu):Nat→List (Option Expr)→List Expr→aQ→Hp→(List (Str×MV)→Hp→Tr)→Tr
 |0,_,_,_,_,_=> .fail
 |n+1,ks,vs,σ,H,k=>match ks with
  |[]=>gd vs.isEmpty (k [] H)
  |x::ks=>match vs with
   |[]=> .fail
   |e::vs=>ob (yU x) fun x=>fs K sc n e σ H (.val fun v H1=>evDT K sc n ks vs σ H1 fun r H2=>k ((x,v)::r) H2)
noncomputable def evIT(K:Frag)(sc:cu):Nat→Expr→aQ→Hp→(List MV→List (Nat×List MV)→Hp→Tr)→Tr
 |0,_,_,_,_=> .fail
 |n+1,e,σ,H,k=>oe (tH e) (fun w=>fs K sc n (.Name w.1 w.2.1) σ H (.val fun fv H1=>evsT K sc n w.2.2 σ H1 fun vs H2=>ob (pU fv) fun t=>Eg (dO H2 w.1 t vs) fun l gs=>k l gs H2))
  (fs K sc n e σ H (.val fun v H1=>uw H1 v fun l gs=>k l gs H1))
end
mutual
noncomputable def uy(K:Frag)(sc:cu):Nat→Expr→MV→aQ→Hp→(aQ→Hp→Tr)→Tr
 |0,_,_,_,_,_=> .fail
 |n+1,t,v,σ,H,k=>match t with
  | .Name x _=>gd (decide (sc.lookup x=some .local)||decide (sc.lookup x=some .cell)) (k (upd σ x v) H)
  | .Attribute o a _=>fs K sc n o σ H (.val fun ov H1=>Ef (k8 K H1 ov a v) fun H2=>k σ H2)
  | .Subscript o i _=>oe (wO i) (fun b=>ob (tI b.1 b.2.1 b.2.2) fun b=>fs K sc n o σ H (.val fun ov H1=>fs K sc n b.1 σ H1 (.val fun lv H2=>fs K sc n b.2 σ H2 (.val fun hv H3=>
     ob (bR ov) fun m=>ob (aF lv) fun a=>ob (aF hv) fun b=>ob (bR v) fun u=>BY (aH H3 m) fun l=>BY (aH H3 u) fun r=> .side (m≠u) (BY (mh l a b r) fun l'=>k σ (H3.set m (.list l')))))))
   (fs K sc n o σ H (.val fun ov H1=>fs K sc n i σ H1 (.val fun iv H2=>Ef (iN H2 ov iv v) fun H3=>k σ H3)))
  | .Tuple ts _ _=>ob (fr v) fun vs=>asgsT K sc n ts vs σ H k
  |_=> .fail
noncomputable def asgsT(K:Frag)(sc:cu):Nat→List Expr→List MV→aQ→Hp→(aQ→Hp→Tr)→Tr
 |0,_,_,_,_,_=> .fail
 |n+1,ts,vs,σ,H,k=>match ts with
  |[]=>gd vs.isEmpty (k σ H)
  |t::ts=>match vs with
   |[]=> .fail
   |v::vs=>uy K sc n t v σ H fun σ1 H1=>asgsT K sc n ts vs σ1 H1 k
end
noncomputable def Ei(k:aQ→Hp→Tr)(q:KS):KS:=fun fl σ H=>match fl with
 | .next=>k σ H
 |fl=>q fl σ H
mutual
noncomputable def Ej(K:Frag)(sc:cu):Nat→Stmt→aQ→Hp→KS→Tr
 |0,_,_,_,_=> .fail
 |n+1,st,σ,H,k=>match st with
  | .Expr e _=>gd (!dS e) (fs K sc n e σ H (.val fun v H1=>gd (wR v) (k .next σ H1)))
  | .Pass _=>k .next σ H
  | .Return v _=>(match v with
   |none=>k (.ret .none) σ H
   |some e=>fs K sc n e σ H (.val fun v H1=>k (.ret v) σ H1))
  | .Assign ts e _=>ob (one ts) fun t=>gd (tJ sc t e) (fs K sc n e σ H (.val fun v H1=>uy K sc n t v σ H1 fun σ1 H2=>k .next σ1 H2))
  | .If t b o _=>fs K sc n t σ H (.cnd (fun H1=>exsT K sc n b σ H1 k) (fun H1=>exsT K sc n o σ H1 k))
  | .For t it b o _=>gd (o.isEmpty&& (!cI it||cP t)) (evIT K sc n it σ H fun items gs H1=> .loop (fun v σ H=>uy K sc n t v σ H fun σ1 H1=>exsT K sc n b σ1 H1 .ret) gs items σ H1 k)
  | .While t b o _=>gd o.isEmpty (Eh (fun σ H kn=>fs K sc n t σ H kn) (fun σ H k=>exsT K sc n b σ H k) 4 σ H k)
  |_=> .fail
noncomputable def exsT(K:Frag)(sc:cu):Nat→List Stmt→aQ→Hp→KS→Tr
 |0,_,_,_,_=> .fail
 |n+1,sts,σ,H,k=>match sts with
  |[]=>k .next σ H
  |st::r=>Ej K sc n st σ H (Ei (fun σ1 H1=>exsT K sc n r σ1 H1 k) k)
end
noncomputable def Fh:Data→Option FuncData
 | .func fd=>some fd
 |_=>none
noncomputable def B0:FuncBody→Option (List Stmt)
 | .stmts b=>some b
 |_=>none
noncomputable def xr(K:Frag)(f:Addr):Option (FuncData×List Stmt):=bd (K.lookup f) fun o=>bd (Fh o.data) fun fd=>bd (B0 fd.body) fun b=>some (fd,b)
theorem Ah{d:Data}{f:FuncData}(h:Fh d=some f):d= .func f:=by
 cases d with
 |func=>cases h;rfl
 |_=>exact nS h
theorem xt{d:FuncBody}{b:List Stmt}(h:B0 d=some b):d= .stmts b:=by
 cases d with
 |stmts=>cases h;rfl
 |_=>exact nS h
theorem uz{K:Frag}{f:Addr}{p:FuncData×List Stmt}(h:xr K f=some p): ∃oc od osl,K.lookup f=some ⟨oc,od,.func p.1,osl⟩∧p.1.body= .stmts p.2:=by
 obtain⟨⟨oc,od,ot,osl⟩,hk,h⟩:=ag h
 obtain⟨fd,h1,h⟩:=ag h
 obtain⟨b,h2,h⟩:=ag h
 cases h
 cases Ah h1
 exact⟨oc,od,osl,hk,xt h2⟩
noncomputable def jk(K:Frag)(f:Addr)(args:List MV)(H:Hp):Tr:=ob (xr K f) fun p=>gd (hU K p.1) (ob (eD K p.1 args) fun σ=>exsT K p.1.scope.names eN p.2 σ H .ret)
noncomputable def W{α:Type}(m:Option α)(Q:α→Prop):Prop:=match m with
 |some a=>Q a
 |none=>False
noncomputable abbrev QE:=MV→Hp→Prop
noncomputable abbrev QS:=Fl→aQ→Hp→Prop
noncomputable def iR(elt:MV→Hp→QE→Prop)(gs:List (Nat×List MV))(acc:Nat):List MV→List MV→Hp→(Hp→Prop)→Prop
 |[],_,H,Q=>Q H
 |v::r,vs,H,Q=>elt v H fun u H1=>(bg gs H1∧H1[acc]?=some (.list vs)∧vs.length<4000)∧iR elt gs acc r (vs++[u]) (H1.set acc (.list (vs++[u]))) Q
noncomputable def B1(again:aQ→Hp→Prop)(Q:QS):QS:=fun fl σ H=>match fl with
 | .next=>again σ H
 | .cont=>again σ H
 | .brk=>Q .next σ H
 | .ret v=>Q (.ret v) σ H
noncomputable def lw(turn:MV→aQ→Hp→QS→Prop)(gs:List (Nat×List MV)):List MV→aQ→Hp→QS→Prop
 |[],σ,H,Q=>Q .next σ H
 |v::r,σ,H,Q=>turn v σ H (B1 (fun σ1 H1=>bg gs H1∧lw turn gs r σ1 H1 Q) Q)
noncomputable def uA(Q:QE):QS:=fun fl _ H=>match fl with
 | .ret u=>Q u H
 |_=>False
noncomputable def Wt(O:dJ):Tr→QS→Prop
 | .ret fl σ H,Q=>Q fl σ H
 | .fail,_=>False
 | .rq m k,Q=>W m fun a=>Wt O (k a) Q
 | .call a vs H k,Q=> ∃v H',O a vs H v H'∧Wt O (k v H') Q
 | .test b k,Q=>Wt O (k b) Q
 | .side A k,Q=>A∧Wt O k Q
 | .loop turn gs items σ H k,Q=>lw (fun v σ H Q=>Wt O (turn v σ H) Q) gs items σ H fun fl σ H=>Wt O (k fl σ H) Q
 | .comp elt gs acc items vs H k,Q=>iR (fun v H Q'=>Wt O (elt v H) (uA Q')) gs acc items vs H fun H=>Wt O (k H) Q
noncomputable def FQ(Q:QE):QS:=fun fl _ H=>Q (d6 fl) H
theorem W.out{α:Type}{m:Option α}{Q:α→Prop}(h:W m Q): ∃a,m=some a∧Q a:=by
 cases m with
 |none=>exact h.elim
 |some a=>exact⟨a,rfl,h⟩
theorem W.i{α:Type}{m:Option α}{Q:α→Prop}{a:α}(e:m=some a)(h:Q a):W m Q:=by subst e;exact h
theorem W.mono{α:Type}{m:Option α}{Q R:α→Prop}(h:W m Q)(k: ∀a,Q a→R a):W m R:=by
 cases m with
 |none=>exact h.elim
 |some a=>exact k a h
theorem hY{T:MV→aQ→Hp→QS→Prop}(ht: ∀v σ H (Q R:QS),(∀fl σ H,Q fl σ H→R fl σ H)→T v σ H Q→T v σ H R){gs:List (Nat×List MV)}:
  ∀ (items:List MV) (σ:aQ) (H:Hp) (Q R:QS),(∀fl σ H,Q fl σ H→R fl σ H)→lw T gs items σ H Q→lw T gs items σ H R
 |[],σ,H,Q,R,h,x=>h _ _ _ x
 |v::r,σ,H,Q,R,h,x=>ht _ _ _ _ _ (fun fl σ H q=>by
   cases fl with
   |next=>exact⟨q.1,hY ht r _ _ _ _ h q.2⟩
   |cont=>exact⟨q.1,hY ht r _ _ _ _ h q.2⟩
   |brk=>exact h _ _ _ q
   |ret v=>exact h _ _ _ q) x
theorem iS{T:MV→Hp→QE→Prop}{gs:List (Nat×List MV)}{acc:Nat}(ht: ∀v H (Q R:QE),(∀v H,Q v H→R v H)→T v H Q→T v H R):
  ∀ (items vs:List MV) (H:Hp) (Q R:Hp→Prop),(∀H,Q H→R H)→iR T gs acc items vs H Q→iR T gs acc items vs H R
 |[],vs,H,Q,R,h,x=>h _ x
 |v::r,vs,H,Q,R,h,x=>ht _ _ _ _ (fun u H q=>⟨q.1,iS ht r _ _ _ _ h q.2⟩) x
theorem iT{Q R:QE}(g: ∀v H,Q v H→R v H)(fl:Fl)(σ:aQ)(H:Hp)(q:uA Q fl σ H):uA R fl σ H:=by
 cases fl<;>first|exact g _ _ q|exact q.elim
theorem Wt.mono{O:dJ}: ∀ (t:Tr) {Q R:QS},(∀fl σ H,Q fl σ H→R fl σ H)→Wt O t Q→Wt O t R
 | .ret fl σ H,_,_,h,x=>h _ _ _ x
 | .fail,_,_,_,x=>x.elim
 | .rq m k,_,_,h,x=>W.mono x fun a q=>Wt.mono (k a) h q
 | .call a vs H k,_,_,h,⟨v,H',o,x⟩=>⟨v,H',o,Wt.mono (k v H') h x⟩
 | .test b k,_,_,h,x=>Wt.mono (k b) h x
 | .side A k,_,_,h,x=>⟨x.1,Wt.mono k h x.2⟩
 | .loop turn gs items σ H k,_,_,h,x=>hY (fun v σ H Q R g y=>Wt.mono (turn v σ H) g y) _ _ _ _ _ (fun fl σ H q=>Wt.mono (k fl σ H) h q) x
 | .comp elt gs acc items vs H k,_,_,h,x=>iS (fun v H Q R g y=>Wt.mono (elt v H) (iT g) y) _ _ _ _ _ (fun H q=>Wt.mono (k H) h q) x
noncomputable def d8:Tr→KS→Tr
 | .ret fl σ H,f=>f fl σ H
 | .fail,_=> .fail
 | .rq m k,f=> .rq m fun a=>d8 (k a) f
 | .call a vs H k,f=> .call a vs H fun v H=>d8 (k v H) f
 | .test b k,f=> .test b fun c=>d8 (k c) f
 | .side A k,f=> .side A (d8 k f)
 | .loop turn gs items σ H k,f=> .loop turn gs items σ H fun fl σ H=>d8 (k fl σ H) f
 | .comp elt gs acc items vs H k,f=> .comp elt gs acc items vs H fun H=>d8 (k H) f
theorem cC{O:dJ}: ∀ (t:Tr) {f:KS} {Q:QS},Wt O (d8 t f) Q→Wt O t fun fl σ H=>Wt O (f fl σ H) Q
 | .ret fl σ H,_,_,x=>x
 | .fail,_,_,x=>x.elim
 | .rq m k,_,_,x=>W.mono x fun a q=>cC (k a) q
 | .call a vs H k,_,_,⟨v,H',o,x⟩=>⟨v,H',o,cC (k v H') x⟩
 | .test b k,_,_,x=>cC (k b) x
 | .side A k,_,_,x=>⟨x.1,cC k x.2⟩
 | .loop turn gs items σ H k,_,_,x=>hY (fun v σ H Q R g y=>Wt.mono (turn v σ H) g y) _ _ _ _ _ (fun fl σ H q=>cC (k fl σ H) q) x
 | .comp elt gs acc items vs H k,_,_,x=>iS (fun v H Q R g y=>Wt.mono (elt v H) (iT g) y) _ _ _ _ _ (fun H q=>cC (k H) q) x
noncomputable def hd:Tr→Option (Option An)
 | .rq m _=>some m
 |_=>none
noncomputable def cont:Tr→An→Tr
 | .rq _ k,a=>k a
 |_,_=> .fail
noncomputable def hc:Tr→Option (Addr×List MV×Hp)
 | .call a vs H _=>some (a,vs,H)
 |_=>none
noncomputable def cc:Tr→MV→Hp→Tr
 | .call _ _ _ k,v,H=>k v H
 |_,_,_=> .fail
noncomputable def tv:Tr→Option Bool
 | .test b _=>some b
 |_=>none
noncomputable def tb:Tr→Bool→Tr
 | .test _ k,b=>k b
 |_,_=> .fail
noncomputable def Fi:Tr→Prop
 | .side A _=>A
 |_=>False
noncomputable def FF:Tr→Tr
 | .side _ k=>k
 |_=> .fail
noncomputable def rs:Tr→Option (Fl×aQ×Hp)
 | .ret fl σ H=>some (fl,σ,H)
 |_=>none
noncomputable def rt:Tr→Option (MV×Hp)
 | .ret fl _ H=>some (d6 fl,H)
 |_=>none
noncomputable def zb(gs:List (Nat×List MV))(H:Hp)(k:Tr):Tr:=match gs with
 |[]=>k
 |g::gs=> .side (bg (g::gs) H) k
noncomputable def Ek:Tr→Tr
 | .rq m k=>(match m with
  |some a=>k a
  |none=> .fail)
 | .test b k=>k b
 | .loop turn gs items σ H k=>(match items with
  |[]=>k .next σ H
  |v::r=>d8 (turn v σ H) (ux (fun σ1 H1=>zb gs H1 (.loop turn gs r σ1 H1 k)) k))
 | .comp elt gs acc items vs H k=>(match items with
  |[]=>k H
  |v::r=>d8 (elt v H) fun fl _ H1=>(match fl with
   | .ret u=> .side (bg gs H1∧H1[acc]?=some (.list vs)∧vs.length<4000) (.comp elt gs acc r (vs++[u]) (H1.set acc (.list (vs++[u]))) k)
   |_=> .fail))
 |t=>t
noncomputable def aL:Nat→Tr→Tr
 |0,t=>t
 |n+1,t=>aL n (Ek t)
theorem uB{O:dJ}{gs:List (Nat×List MV)}{H:Hp}{k:Tr}{Q:QS}(h:Wt O (zb gs H k) Q):bg gs H∧Wt O k Q:=by
 cases gs with
 |nil=>exact⟨(fun _ h=>nomatch h),h⟩
 |cons g gs=>exact h
theorem ga{O:dJ}{t:Tr}{Q:QS}(r:Wt O (Ek t) Q):Wt O t Q:=by
 cases t with
 |rq m k=>
  cases m with
  |none=>exact r.elim
  |some a=>exact r
 |loop turn gs items σ H k=>
  cases items with
  |nil=>exact r
  |cons v l=>
   have r:Wt O (d8 (turn v σ H) _) Q:=r
   exact Wt.mono (turn v σ H) (fun fl σ H q=>by cases fl<;>first|exact q|exact uB q) (cC (turn v σ H) r)
 |comp elt gs acc items vs H k=>
  cases items with
  |nil=>exact r
  |cons v l=>
   have r:Wt O (d8 (elt v H) _) Q:=r
   exact Wt.mono (elt v H) (fun fl σ H q=>by cases fl<;>first|exact q|exact q.elim) (cC (elt v H) r)
 |_=>exact r
theorem cY{O:dJ}: ∀ (n:Nat) {t:Tr} {Q:QS},Wt O (aL n t) Q→Wt O t Q
 |0,_,_,r=>r
 |n+1,_,_,r=>ga (cY n r)
section
variable{O:dJ}{t:Tr}{Q:QS}
theorem jl{m:Option An}{a:An}(n:Nat)(hr:hd (aL n t)=some m)(e:m=some a)(r:Wt O (cont (aL n t) a) Q):Wt O t Q:=by
 refine cY n ?_
 generalize aL n t=t at*
 cases t<;>cases hr
 exact W.i e r
theorem aK(n:Nat){m:Option MV}{a:MV}(e:m=some a)(r:Wt O (cont (aL n t) (.v a)) Q)(hr:hd (aL n t)=some (bd m fun x=>some (.v x)):=by kernel_rfl):Wt O t Q:=jl n hr (by rw[e];rfl) r
theorem El(n:Nat){m:Option Hp}{a:Hp}(e:m=some a)(r:Wt O (cont (aL n t) (.h a)) Q)(hr:hd (aL n t)=some (bd m fun x=>some (.h x)):=by kernel_rfl):Wt O t Q:=jl n hr (by rw[e];rfl) r
theorem aY(n:Nat){m:Option (MV×Hp)}{a:MV}{H:Hp}(e:m=some (a,H))(r:Wt O (cont (aL n t) (.p a H)) Q)(hr:hd (aL n t)=some (bd m fun x=>some (.p x.1 x.2)):=by kernel_rfl):Wt O t Q:=jl n hr (by rw[e];rfl) r
theorem mx(n:Nat){m:Option Bool}{a:Bool}(e:m=some a)(r:Wt O (cont (aL n t) (.b a)) Q)(hr:hd (aL n t)=some (bd m fun x=>some (.b x)):=by kernel_rfl):Wt O t Q:=jl n hr (by rw[e];rfl) r
theorem bf(n:Nat){m:Option (List MV)}{a:List MV}(e:m=some a)(r:Wt O (cont (aL n t) (.l a)) Q)(hr:hd (aL n t)=some (bd m fun x=>some (.l x)):=by kernel_rfl):Wt O t Q:=jl n hr (by rw[e];rfl) r
theorem Em(n:Nat){m:Option (List (Str×MV))}{a:List (Str×MV)}(e:m=some a)(r:Wt O (cont (aL n t) (.d a)) Q)(hr:hd (aL n t)=some (bd m fun x=>some (.d x)):=by kernel_rfl):Wt O t Q:=jl n hr (by rw[e];rfl) r
theorem b8(n:Nat){m:Option (Option Addr)}{a:Option Addr}(e:m=some a)(r:Wt O (cont (aL n t) (.g a)) Q)(hr:hd (aL n t)=some (bd m fun x=>some (.g x)):=by kernel_rfl):Wt O t Q:=jl n hr (by rw[e];rfl) r
theorem cZ(n:Nat){m:Option (List MV×List (Nat×List MV))}{a:List MV}{gs:List (Nat×List MV)}(e:m=some (a,gs))(r:Wt O (cont (aL n t) (.w a gs)) Q)(hr:hd (aL n t)=some (bd m fun x=>some (.w x.1 x.2)):=by kernel_rfl):Wt O t Q:=jl n hr (by rw[e];rfl) r
theorem dj(n:Nat){m:Option Hp}{R:Hp→Prop}(e: ∃a,m=some a∧R a)(r: ∀a,R a→Wt O (cont (aL n t) (.h a)) Q)(hr:hd (aL n t)=some (bd m fun x=>some (.h x)):=by kernel_rfl):Wt O t Q:=by
 obtain⟨a,e,h⟩:=e
 exact El n e (r a h) hr
noncomputable def Ca(O:dJ)(a:Addr)(vs:List MV)(H:Hp)(R:QE):Prop:= ∃v H',O a vs H v H'∧R v H'
theorem Ca.mono{a:Addr}{vs:List MV}{H:Hp}{R S:QE}(h:Ca O a vs H R)(k: ∀v H,R v H→S v H):Ca O a vs H S:=by
 obtain⟨v,H',e,r⟩:=h
 exact⟨v,H',e,k _ _ r⟩
theorem gv(n:Nat){a:Addr}{vs:List MV}{H:Hp}{R:QE}(e:Ca O a vs H R)(r: ∀v H,R v H→Wt O (cc (aL n t) v H) Q)(hr:hc (aL n t)=some (a,vs,H):=by kernel_rfl):Wt O t Q:=by
 refine cY n ?_
 generalize aL n t=t at*
 obtain⟨v,H',e,h⟩:=e
 cases t<;>cases hr
 exact⟨v,H',e,r v H' h⟩
theorem aj(n:Nat){a:Addr}{vs:List MV}{H:Hp}{u:MV}(e:Ca O a vs H fun v H'=>v=u∧H'=H)(r:Wt O (cc (aL n t) u H) Q)(hr:hc (aL n t)=some (a,vs,H):=by kernel_rfl):Wt O t Q:=
 gv n e (fun v H' h=>by obtain⟨rfl,rfl⟩:=h;exact r) hr
theorem cD(n:Nat){a:Addr}{vs:List MV}{H:Hp}{u:MV}{R:Hp→Prop}(e:Ca O a vs H fun v H'=>v=u∧R H')(r: ∀H,R H→Wt O (cc (aL n t) u H) Q)(hr:hc (aL n t)=some (a,vs,H):=by kernel_rfl):Wt O t Q:=
 gv n e (fun v H' h=>by obtain⟨rfl,h⟩:=h;exact r H' h) hr
theorem uC(n:Nat){a:Addr}{vs:List MV}{H:Hp}{R:Nat→Hp→Prop}(e:Ca O a vs H fun v H'=> ∃p,v= .loc p∧R p H')(r: ∀p H,R p H→Wt O (cc (aL n t) (.loc p) H) Q)(hr:hc (aL n t)=some (a,vs,H):=by kernel_rfl):Wt O t Q:=
 gv n e (fun v H' h=>by obtain⟨m,rfl,h⟩:=h;exact r m H' h) hr
theorem ax{R:QE}(n:Nat)(v:MV)(H:Hp)(h:R v H)(hr:rt (aL n t)=some (v,H):=by kernel_rfl):Wt O t (FQ R):=by
 refine cY n ?_
 generalize aL n t=t at*
 cases t<;>cases hr
 exact h
theorem B2(n:Nat){u:MV}{R:Hp→Prop}(H:Hp)(h:R H)(hr:rt (aL n t)=some (u,H):=by kernel_rfl):Wt O t (FQ fun v H'=>v=u∧R H'):=ax n u H ⟨rfl,h⟩ hr
theorem rY(n:Nat){u:MV}{H:Hp}(hr:rt (aL n t)=some (u,H):=by kernel_rfl):Wt O t (FQ fun v H'=>v=u∧H'=H):=ax n u H ⟨rfl,rfl⟩ hr
theorem aD(n:Nat){c b:Bool}(e:c=b)(r:Wt O (tb (aL n t) b) Q)(hr:tv (aL n t)=some c:=by kernel_rfl):Wt O t Q:=by
 refine cY n ?_
 generalize aL n t=t at*
 subst e
 cases t<;>cases hr
 exact r
theorem ak(n:Nat){A:Prop} [Decidable A](h:A)(r:Wt O (tb (aL n t) true) Q)(hr:tv (aL n t)=some (decide A):=by kernel_rfl):Wt O t Q:=aD n (decide_eq_true h) r hr
theorem am(n:Nat){A:Prop} [Decidable A](h: ¬A)(r:Wt O (tb (aL n t) false) Q)(hr:tv (aL n t)=some (decide A):=by kernel_rfl):Wt O t Q:=aD n (decide_eq_false h) r hr
theorem hZ(n:Nat){A:Prop}(h:A)(r:Wt O (FF (aL n t)) Q)(hr:Fi (aL n t)=A:=by kernel_rfl):Wt O t Q:=by
 refine cY n ?_
 generalize aL n t=t at*
 have h:Fi t:=by rw[hr];exact h
 cases t with
 |side B k=>exact⟨h,r⟩
 |_=>exact h.elim
theorem my(n:Nat)(fl:Fl)(σ:aQ)(H:Hp)(h:Q fl σ H)(hr:rs (aL n t)=some (fl,σ,H):=by kernel_rfl):Wt O t Q:=by
 refine cY n ?_
 generalize aL n t=t at*
 cases t<;>cases hr
 exact h
theorem FG(n:Nat){t':Tr}(r:Wt O t' Q)(hr:aL n t=t':=by kernel_rfl):Wt O t Q:=cY n (hr▸r)
end
theorem bt(H:Hp):bg [] H:=fun _ h=>nomatch h
theorem bN{n:Nat}{l:List MV}{H:Hp}(h:H[n]?=some (.list l)):bg [(n,l)] H:=fun g hg=>by
 rcases List.mem_singleton.mp hg with rfl
 exact h
noncomputable def wE:Tr→MV→aQ→Hp→Tr
 | .loop turn _ _ _ _ _=>turn
 |_=>fun _ _ _=> .fail
noncomputable def wG:Tr→KS
 | .loop _ _ _ _ _ k=>k
 |_=>fun _ _ _=> .fail
noncomputable def fC:Tr→aQ
 | .loop _ _ _ σ _ _=>σ
 |_=>fun _=>none
noncomputable def wH:Tr→Option (List (Nat×List MV)×List MV×Hp)
 | .loop _ gs items _ H _=>some (gs,items,H)
 |_=>none
noncomputable def bq(σ:aQ)(x:Str)(o:Option MV):aQ:=fun y=>if y=x then o else σ y
theorem ky(σ:aQ)(x:Str)(v:MV):upd σ x v=bq σ x (some v):=rfl
theorem iU(σ:aQ)(x:Str)(a b:Option MV):bq (bq σ x a) x b=bq σ x b:=by
 funext y;unfold bq;split<;>rfl
theorem gf(σ:aQ)(x:Str):bq σ x (σ x)=σ:=by
 funext y;unfold bq;split
 ·rename_i h;rw[h]
 ·rfl
theorem rZ(σ:aQ){x y:Str}(h:x≠y)(a b:Option MV):bq (bq σ x a) y b=bq (bq σ y b) x a:=by
 funext z;unfold bq
 by_cases h1:z=y
 ·by_cases h2:z=x
  ·exact absurd (h2.symm.trans h1) h
  ·simp[h1,Ne.symm h]
 ·simp[h1]
section
variable{O:dJ}{t:Tr}{Q:QS}
set_option tactic.hygienic true in
theorem jF(n:Nat){gs:List (Nat×List MV)}{items:List MV}{H:Hp}(I:Nat→aQ→Hp→Prop)(h0:I 0 (fC (aL n t)) H)
  (turn: ∀j v σ H,items[j]?=some v→I j σ H→Wt O (wE (aL n t) v σ H) fun fl σ' H'=>fl= .next∧bg gs H'∧I (j+1) σ' H')
  (done: ∀σ H,I items.length σ H→Wt O (wG (aL n t) .next σ H) Q) (hr:wH (aL n t)=some (gs,items,H):=by kernel_rfl):Wt O t Q:=by
 refine cY n ?_
 generalize aL n t=t at*
 cases t<;>cases hr
 rename_i T σ k
 have go: ∀ (r:List MV) (j:Nat) (σ:aQ) (H:Hp),items.drop j=r→j≤items.length→I j σ H→lw (fun v σ H Q=>Wt O (T v σ H) Q) gs r σ H fun fl σ H=>Wt O (k fl σ H) Q:=by
  intro r
  induction r with
  |nil=>
   intro j σ H e hl h
   have hj:items.length≤j:=by
    rcases Nat.lt_or_ge j items.length with q|q
    ·rw[List.drop_eq_getElem_cons q] at e;cases e
    ·exact q
   exact done σ H (Nat.le_antisymm hl hj▸h)
  |cons v r ih=>
   intro j σ H e hl h
   have hv:items[j]?=some v:=by
    have:=cA (fun l=>l[0]?) e
    simpa using this
   refine Wt.mono _ (fun fl σ' H' q=> ?_) (turn j v σ H hv h)
   obtain⟨rfl,q1,q2⟩:=q
   refine⟨q1,ih (j+1) σ' H' ?_ ?_ q2⟩
   ·have:=cA List.tail e
    simpa using this
   ·exact(gS hv).1
 exact go items 0 σ H rfl (Nat.zero_le _) h0
end
noncomputable def oZ:Expr→Bool
 | .Starred ..=>true
 | .Set ..=>true
 | .Slice ..=>true
 |_=>false
theorem uD{e:Expr}(h:oZ e=false): ∀a p,e≠ .Starred a p:=fun a p q=>by subst q;cases h
theorem De{e:Expr}(h:oZ e=false): ∀a k p,e≠ .Set a k p:=fun a k p q=>by subst q;cases h
theorem xu{e:Expr}(h:oZ e=false): ∀a b p,e≠ .Slice a b none p:=fun a b p q=>by subst q;cases h
noncomputable def CP(c:Cx)(d:Nat)(sc:cu)(e:Expr)(σ:aQ)(H:Hp)(mv:MV)(H':Hp):Prop:=
 ∃elt x px iter scope p,e= .ListComp elt [⟨.Name x px,iter,[],0⟩] scope p∧ ∃items gs Ha,CompOk sc σ scope x∧cI iter=false∧s9 c d sc iter σ H items gs Ha∧(∀g∈gs,g.1<Ha.length)∧(∀env v,foldedSetIterable iter env v=pure v)∧mv= .loc Ha.length∧
  jf (fun v H=>cg c d scope.names elt (hK scope.names σ x v) H) gs Ha.length items [] (Ha++[.list []]) H'
structure EvR(c:Cx)(d:Nat)(sc:cu)(e:Expr)(σ:aQ)(H:Hp)(mv:MV)(H':Hp):Prop where
 g:cg c d sc e σ H mv H'
 t: ∀b,mv= .bool b→kq c d sc e σ H b H'
 o:oZ e=false
 cp:dS e=true→CP c d sc e σ H mv H'
 tp:cP e=true→ ∃vs,mv= .tup vs
inductive R1{α:Type}(P Q:α→Prop):Prop
 |of (x:α) (p:P x) (q:Q x)
inductive R2{α β:Type}(P Q:α→β→Prop):Prop
 |of (x:α) (y:β) (p:P x y) (q:Q x y)
inductive R3{α β γ:Type}(P Q:α→β→γ→Prop):Prop
 |of (x:α) (y:β) (z:γ) (p:P x y z) (q:Q x y z)
theorem g2{α β:Type}{P Q:α→β→Prop}(h: ∀G:Prop,(∀x y,P x y→Q x y→G)→G):R2 P Q:=h _ .of
theorem g3{α β γ:Type}{P Q:α→β→γ→Prop}(h: ∀G:Prop,(∀x y z,P x y z→Q x y z→G)→G):R3 P Q:=h _ .of
section
variable{c:Cx}{O:dJ}{d n:Nat}{sc:cu}{σ σ' σ1:aQ}{H H' H1 H2 H3:Hp}{Q:QS}{kn:Kn}
theorem qj{m:Option (MV)}{k:(MV)→Tr}(h:Wt O (Ee m k) Q):R1 (fun x=>m=some x) (fun x=>Wt O (k x) Q):=by
 cases m with
 |none=>exact h.elim
 |some a=>exact⟨a,rfl,h⟩
theorem qk{m:Option (Hp)}{k:(Hp)→Tr}(h:Wt O (Ef m k) Q):R1 (fun x=>m=some x) (fun x=>Wt O (k x) Q):=by
 cases m with
 |none=>exact h.elim
 |some a=>exact⟨a,rfl,h⟩
theorem mz{m:Option (MV×Hp)}{k:MV→Hp→Tr}(h:Wt O (Dd m k) Q):R2 (fun v H=>m=some (v,H)) (fun v H=>Wt O (k v H) Q):=by
 cases m with
 |none=>exact h.elim
 |some a=>exact⟨a.1,a.2,rfl,h⟩
theorem xw{m:Option (Bool)}{k:(Bool)→Tr}(h:Wt O (Fd m k) Q):R1 (fun x=>m=some x) (fun x=>Wt O (k x) Q):=by
 cases m with
 |none=>exact h.elim
 |some a=>exact⟨a,rfl,h⟩
theorem jG{m:Option (List MV)}{k:(List MV)→Tr}(h:Wt O (BY m k) Q):R1 (fun x=>m=some x) (fun x=>Wt O (k x) Q):=by
 cases m with
 |none=>exact h.elim
 |some a=>exact⟨a,rfl,h⟩
theorem xx{m:Option (List (Str×MV))}{k:(List (Str×MV))→Tr}(h:Wt O (Fe m k) Q):R1 (fun x=>m=some x) (fun x=>Wt O (k x) Q):=by
 cases m with
 |none=>exact h.elim
 |some a=>exact⟨a,rfl,h⟩
theorem xy{m:Option (Option Addr)}{k:Option Addr→Tr}(h:Wt O (Ff m k) Q):R1 (fun x=>m=some x) (fun x=>Wt O (k x) Q):=by
 cases m with
 |none=>exact h.elim
 |some a=>exact⟨a,rfl,h⟩
theorem qm{m:Option (List MV×List (Nat×List MV))}{k:List MV→List (Nat×List MV)→Tr}(h:Wt O (Eg m k) Q):R2 (fun x gs=>m=some (x,gs)) (fun x gs=>Wt O (k x gs) Q):=by
 cases m with
 |none=>exact h.elim
 |some a=>exact⟨a.1,a.2,rfl,h⟩
theorem bJ{α:Type}{m:Option α}{k:α→Tr}(h:Wt O (ob m k) Q):R1 (fun x=>m=some x) (fun x=>Wt O (k x) Q):=by
 cases m with
 |none=>exact h.elim
 |some a=>exact⟨a,rfl,h⟩
theorem o7{α:Type}{m:Option α}{k:α→Tr}{e:Tr}(h:Wt O (oe m k e) Q):(∃a,m=some a∧Wt O (k a) Q)∨Wt O e Q:=by
 cases m with
 |none=>exact .inr h
 |some a=>exact .inl ⟨a,rfl,h⟩
theorem bO{b:Bool}{k:Tr}(h:Wt O (gd b k) Q):b=true∧Wt O k Q:=by cases b with|true=>exact⟨rfl,h⟩|false=>exact h.elim
theorem ia{v:MV}{kt kf:Hp→Tr}(h:Wt O (app (.cnd kt kf) v H) Q):R1 (fun b=>v= .bool b) (fun b=>Wt O (uu b kt kf H) Q):=by
 obtain⟨b,e,w1⟩:=bJ h
 exact⟨b,me e,w1⟩
theorem mA{b:Bool}(h:Wt O (lit kn b H) Q):Wt O (app kn (.bool b) H) Q:=by
 cases kn with
 |val k=>exact h
 |cnd kt kf=>cases b<;>exact h
theorem r0{v:MV}(h:Wt O (app (y8 kn) v H) Q):R1 (fun b=>v= .bool b) (fun b=>Wt O (app kn (.bool (!b)) H) Q):=by
 cases kn with
 |val k=>obtain⟨b,e,h⟩:=bJ h;exact⟨b,me e,h⟩
 |cnd kt kf=>obtain⟨b,e,h⟩:=bJ h;exact⟨b,me e,by cases b<;>exact h⟩
theorem xz{op:Operator}{x y:MV}{k:MV→Hp→Tr}(h:Wt O (Af H op x y k) Q):R2 (fun v H'=>cB H op x y=some (v,H')) (fun v H'=>Wt O (k v H') Q):=by
 unfold Af at h
 cases e:BZ op x y with
 |none=>rw[e] at h;exact mz h
 |some v=>
  rw[e] at h
  refine⟨v,H,?_,h⟩
  cases op with
  |Add=>
   obtain⟨a,e1,e⟩:=ag e
   obtain⟨b,e2,e⟩:=ag e
   cases e
   rw[cb e1,cb e2];rfl
  |Sub=>
   obtain⟨a,e1,e⟩:=ag e
   obtain⟨b,e2,e⟩:=ag e
   cases e
   rw[cb e1,cb e2];rfl
  |_=>exact nS e
theorem Ai{x y:MV}{b:Bool}(e:Fg x y=some b):Dv H x y=some b:=by
 cases x with
 |int a=>exact e
 |bytes a=>exact e
 |tup l=>
  obtain⟨r,e1,e⟩:=ag e
  show bd (fr y) _=_
  rw[e1,aM]
  obtain⟨q,e⟩:=tK e
  rw[if_pos q];exact e
 |_=>cases e
theorem xA{op:CmpOp}{x y:MV}{b:Bool}(e:Ag op x y=some b):eY H op x y=some b:=by
 cases op with
 |Eq=>exact Ai e
 |NotEq=>
  cases x with
  |int a=>exact e
  |tup l=>exact e
  |_=>cases e
 |NotIn=>cases e
 |_=>exact e
theorem qn{op:CmpOp}{x y:MV}{k:Bool→Tr}(h:Wt O (xq H op x y k) Q):R1 (fun b=>eY H op x y=some b) (fun b=>Wt O (k b) Q):=by
 unfold xq at h
 cases e:Ag op x y with
 |none=>rw[e] at h;exact xw h
 |some b=>rw[e] at h;exact⟨b,xA e,h⟩
theorem uE{fv:MV}{vs:List MV}{k:MV→Hp→Tr}(h:Wt O (y9 H fv vs k) Q):R2 (yS O H fv vs) (fun v H'=>Wt O (k v H') Q):=by
 cases fv with
 |glob v=>cases v<;>first|exact mz h|(obtain⟨v,H',o,w⟩:=h;exact⟨v,H',o,w⟩)
 |_=>exact h.elim
theorem uF{ov:MV}{x:Str}{g:Option Addr}{vs:List MV}{k:MV→Hp→Tr}(h:Wt O (za ov x g vs H k) Q):R2 (yT O ov x g vs H) (fun v H'=>Wt O (k v H') Q):=by
 cases g with
 |some f=>obtain⟨v,H',o,w⟩:=h;exact⟨v,H',o,w⟩
 |none=>
  obtain⟨p,e,w2⟩:=bJ h
  obtain⟨v,H',e2,w3⟩:=mz w2
  exact⟨v,H',⟨p,bj e,e2⟩,w3⟩
theorem r5{v:MV}{k:List MV→List (Nat×List MV)→Tr}(h:Wt O (uw H v k) Q):R2 (fun l gs=>ka H v=some (l,gs)) (fun l gs=>Wt O (k l gs) Q):=by
 cases v with
 |tup l=>exact⟨_,_,rfl,h⟩
 |_=>exact qm h
theorem uG{wt:MV→Hp→QE→Prop}{R:MV→Hp→MV→Hp→Prop}(he: ∀v H Q,wt v H Q→R2 (R v H) Q){gs:List (Nat×List MV)}{acc:Nat}:
  ∀ (items vs:List MV) (H:Hp) (Q:Hp→Prop),iR wt gs acc items vs H Q→R1 (jf R gs acc items vs H) Q
 |[],vs,H,Q,h=>⟨H,rfl,h⟩
 |v::r,vs,H,Q,h=>by
  obtain⟨u,H1,r1,a,w4⟩:=he _ _ _ h
  obtain⟨H2,r2,w5⟩:=uG he _ _ _ _ w4
  exact⟨H2,⟨u,H1,r1,a,r2⟩,w5⟩
theorem uH{wt:MV→aQ→Hp→QS→Prop}{R:MV→aQ→Hp→Fl→aQ→Hp→Prop}(he: ∀v σ H Q,wt v σ H Q→R3 (R v σ H) Q){gs:List (Nat×List MV)}:
  ∀ (items:List MV) (σ:aQ) (H:Hp) (Q:QS),lw wt gs items σ H Q→R3 (rD R gs items σ H) Q
 |[],σ,H,Q,h=>⟨_,σ,H,⟨rfl,rfl,rfl⟩,h⟩
 |v::r,σ,H,Q,h=>by
  obtain⟨fl,σ1,H1,r1,w6⟩:=he _ _ _ _ h
  cases fl with
  |next=>
   obtain⟨fl,σ2,H2,r2,q⟩:=uH he r _ _ _ w6.2
   exact⟨fl,σ2,H2,⟨.next,σ1,H1,r1,w6.1,r2⟩,q⟩
  |cont=>
   obtain⟨fl,σ2,H2,r2,q⟩:=uH he r _ _ _ w6.2
   exact⟨fl,σ2,H2,⟨.cont,σ1,H1,r1,w6.1,r2⟩,q⟩
  |brk=>exact⟨.next,σ1,H1,⟨.brk,σ1,H1,r1,rfl,rfl,rfl⟩,w6⟩
  |ret v=>exact⟨.ret v,σ1,H1,⟨.ret v,σ1,H1,r1,rfl,rfl,rfl⟩,w6⟩
theorem mB{tt:aQ→Hp→Kn→Tr}{tb:aQ→Hp→KS→Tr}{R:aQ→Hp→Bool→Hp→Prop}{B:aQ→Hp→Fl→aQ→Hp→Prop}
  (h1: ∀σ H kt kf Q,Wt O (tt σ H (.cnd kt kf)) Q→ ∃b H',R σ H b H'∧Wt O (uu b kt kf H') Q) (h2: ∀σ H k Q,Wt O (tb σ H k) Q→R3 (B σ H) (fun fl σ' H'=>Wt O (k fl σ' H') Q)):
  ∀ (n:Nat) (σ:aQ) (H:Hp) (k:KS) (Q:QS),Wt O (Eh tt tb n σ H k) Q→R3 (kc R B n σ H) (fun fl σ' H'=>Wt O (k fl σ' H') Q)
 |0,_,_,_,_,h=>h.elim
 |n+1,σ,H,k,Q,h=>by
  obtain⟨b,H1,r1,w7⟩:=h1 _ _ _ _ _ h
  cases b with
  |false=>exact⟨.next,σ,H1,⟨false,H1,r1,rfl,rfl,rfl⟩,w7⟩
  |true=>
   obtain⟨fl,σ1,H2,r2,w8⟩:=h2 _ _ _ _ w7
   cases fl with
   |next=>
    obtain⟨fl,σ',H',r3,q⟩:=mB h1 h2 n _ _ _ _ w8
    exact⟨fl,σ',H',⟨true,H1,r1,.next,σ1,H2,r2,r3⟩,q⟩
   |cont=>
    obtain⟨fl,σ',H',r3,q⟩:=mB h1 h2 n _ _ _ _ w8
    exact⟨fl,σ',H',⟨true,H1,r1,.cont,σ1,H2,r2,r3⟩,q⟩
   |brk=>exact⟨.next,σ1,H2,⟨true,H1,r1,.brk,σ1,H2,r2,rfl,rfl,rfl⟩,w8⟩
   |ret v=>exact⟨.ret v,σ1,H2,⟨true,H1,r1,.ret v,σ1,H2,r2,rfl,rfl,rfl⟩,w8⟩
theorem d9{e:Expr}{mv:MV}(h:cg c d sc e σ H mv H')(he: ∀env whole,isTrue e env whole=(do let v←whole;standAt e.pos;holding [v] (truthy v)))(ho:(oZ e||dS e||cP e)=false):EvR c d sc e σ H mv H':=by
 simp only[Bool.or_eq_false_iff] at ho
 exact⟨h,fun b hb=>by subst hb;exact Aa h he,ho.1.1,fun q=>absurd q (by rw[ho.1.2];decide),fun q=>absurd q (by rw[ho.2];decide)⟩
theorem nz{e:Expr}{mv:MV}(h:cg c d sc e σ H mv H')(ht: ∀b,mv= .bool b→kq c d sc e σ H b H')(ho:(oZ e||dS e||cP e)=false):EvR c d sc e σ H mv H':=by
 simp only[Bool.or_eq_false_iff] at ho
 exact⟨h,ht,ho.1.1,fun q=>absurd q (by rw[ho.1.2];decide),fun q=>absurd q (by rw[ho.2];decide)⟩
structure TS(c:Cx)(O:dJ)(d:Nat)(n:Nat):Prop where
 e: ∀ {sc e σ H kn Q},Wt O (fs c.K sc n e σ H kn) Q→R2 (EvR c d sc e σ H) (fun mv H'=>Wt O (app kn mv H') Q)
 es: ∀ {sc es σ H k Q},Wt O (evsT c.K sc n es σ H k) Q→R2 (fun xs H'=>oC c d sc es σ H xs H'∧cx es∧(es=[]→xs=[]∧H'=H)) (fun xs H'=>Wt O (k xs H') Q)
 o: ∀ {sc e σ H k Q},Wt O (evOT c.K sc n e σ H k) Q→R2 (zZ c d sc e σ H) (fun i H'=>Wt O (k i H') Q)
 b: ∀ {sc op es σ H kn Q},Wt O (evBT c.K sc n op es σ H kn) Q→R2 (fun mv H'=>(∀pos,cg c d sc (.BoolOp op es pos) σ H mv H')∧(∀b,mv= .bool b→y0 c d sc op es σ H b H')) (fun mv H'=>Wt O (app kn mv H') Q)
 ch: ∀ {sc a ops cs σ H kn Q},Wt O (evCT c.K sc n a ops cs σ H kn) Q→R2 (Ab c d sc a ops cs σ H) (fun b H'=>Wt O (app kn (.bool b) H') Q)
 di: ∀ {sc ks vs σ H k Q},Wt O (evDT c.K sc n ks vs σ H k) Q→R2 (fun ps H'=>BN c d sc ks vs σ H ps H'∧(ks=[]→ps=[]∧H'=H)) (fun ps H'=>Wt O (k ps H') Q)
 i: ∀ {sc e σ H k Q},Wt O (evIT c.K sc n e σ H k) Q→R3 (fun items gs H'=>s9 c d sc e σ H items gs H'∧(∀g∈gs,g.1<H'.length)∧(∀env v,foldedSetIterable e env v=pure v)) (fun items gs H'=>Wt O (k items gs H') Q)
theorem Aj{scope:Scope}{x:Str}{iter:Expr}(h:(mj sc scope x iter&&ml σ scope.names)=true):CompOk sc σ scope x∧cI iter=false:=by
 unfold mj at h
 simp only[Bool.and_eq_true,beq_iff_eq,List.all_eq_true,Bool.or_eq_true,bne_iff_ne,Bool.not_eq_true'] at h
 obtain⟨⟨⟨⟨⟨⟨h1,h2⟩,h3⟩,h4⟩,h5⟩,h6⟩,h7⟩:=h
 exact⟨⟨h1,h2,fun y hy e=>(h3 y hy).resolve_left (fun q=>q e),h4,fun y hy e=>⟨(h5 y hy).resolve_left (fun q=>q e),oM h7 y hy e⟩⟩,h6⟩
theorem uI{e:Expr}(h:oZ e=false)(env:Env)(v:Value):foldedSetIterable e env v=pure v:=by
 cases e<;>first|rfl|cases h
theorem En(hs:cX c.K)(ho:oV c O d)(x:TS c O d n){e:Expr}(h:Wt O (fs c.K sc (n+1) e σ H kn) Q):R2 (EvR c d sc e σ H) (fun mv H'=>Wt O (app kn mv H') Q):=by
 refine g2 fun _ kk=> ?_
 cases e with
 |Constant k=>
  obtain⟨v,a1,w9⟩:=bJ h
  exact kk v H (d9 (fun A env f m cel led T s C=>pV C.X a1) (fun _ _=>rfl) rfl) w9
 |Name y=>
  obtain⟨v,a1,w10⟩:=bJ h
  exact kk v H (d9 (fun A env f m cel led T s C=>zM hs C.E C.X C.Y a1) (fun _ _=>rfl) rfl) w10
 |BoolOp op es=>
  obtain⟨mv,H',⟨a1,a2⟩,w11⟩:=x.b h
  exact kk mv H' (nz (a1 _) (fun b hb=>BH (a2 b hb)) rfl) w11
 |BinOp l op r=>
  obtain⟨a,H1,r1,w12⟩:=x.e h
  obtain⟨b,H2,r2,w13⟩:=x.e w12
  obtain⟨v,H3,e3,w14⟩:=xz w13
  exact kk v H3 (d9 (DA r1.g r2.g e3) (fun _ _=>rfl) rfl) w14
 |UnaryOp op y=>
  cases op with
  |Not=>
   obtain⟨a,H1,r1,hh⟩:=x.e h
   clear h
   obtain⟨b,eb,w15⟩:=r0 hh
   clear hh
   subst eb
   exact kk _ H1 (nz (DB (r1.t b rfl) r1.g) (fun b' hb'=>by cases hb';exact DD (r1.t b rfl)) rfl) w15
  |USub=>
   obtain⟨a,H1,r1,w16⟩:=x.e h
   obtain⟨b,e1,w17⟩:=bJ w16
   cases cb e1
   exact kk _ H1 (d9 (DC r1.g) (fun _ _=>rfl) rfl) w17
  |_=>exact h.elim
 |IfExp t b o=>
  obtain⟨a,H1,r1,w18⟩:=x.e h
  obtain⟨v,ev,w19⟩:=ia w18
  subst ev
  cases v with
  |true=>
   obtain⟨mv,H2,r2,w20⟩:=x.e w19
   exact kk mv H2 (nz (E7 (r1.t _ rfl) (fun _=>r2.g) (fun q=>nomatch q)) (fun b' hb'=>E8 (r1.t _ rfl) (fun _=>r2.t b' hb') (fun q=>nomatch q)) rfl) w20
  |false=>
   obtain⟨mv,H2,r2,w21⟩:=x.e w19
   exact kk mv H2 (nz (E7 (r1.t _ rfl) (fun q=>nomatch q) (fun _=>r2.g)) (fun b' hb'=>E8 (r1.t _ rfl) (fun q=>nomatch q) (fun _=>r2.t b' hb')) rfl) w21
 |Compare l ops cs=>
  obtain⟨h1,w22⟩:=bO h
  obtain⟨a,H1,r1,w23⟩:=x.e w22
  obtain⟨b,H2,r2,w24⟩:=x.ch w23
  exact kk _ H2 (nz (DF (by simpa using h1) r1.g r2) (fun b' hb'=>by cases hb';exact DG (by simpa using h1) r1.g r2) rfl) w24
 |Call fn args kws p=>
  obtain⟨h1,hh⟩:=bO h
  clear h
  simp only[Bool.and_eq_true,List.isEmpty_iff,decide_eq_true_eq] at h1
  obtain⟨hk,h2⟩:=h1
  subst hk
  cases fn with
  |Attribute o y ap=>
   obtain⟨h1,w25⟩:=bO hh
   simp only[Bool.and_eq_true] at h1
   obtain⟨ov,H1,r1,w26⟩:=x.e w25
   obtain⟨g,e2,w27⟩:=xy w26
   obtain⟨vs,H2,⟨f1,f2,f3⟩,w28⟩:=x.es w27
   obtain⟨v,H3,e4,w29⟩:=uF w28
   exact kk v H3 (d9 (BM ho h1.1 h1.2 h2 r1.g f3 f2 f1 e2 e4) (fun _ _=>rfl) rfl) w29
  |Name fx fp=>
   obtain⟨ov,H1,r1,w30⟩:=x.e hh
   obtain⟨vs,H2,⟨f1,f2,f3⟩,w31⟩:=x.es w30
   obtain⟨v,H3,e4,w32⟩:=uE w31
   exact kk v H3 (d9 (BL ho r1.g f3 f2 f1 e4) (fun _ _=>rfl) rfl) w32
  |_=>exact hh.elim
 |Attribute o y=>
  obtain⟨h1,w33⟩:=bO h
  obtain⟨ov,H1,r1,w34⟩:=x.e w33
  obtain⟨v,e2,w35⟩:=qj w34
  exact kk v H1 (d9 (DO (xd h1) r1.g e2) (fun _ _=>rfl) rfl) w35
 |Subscript o i=>
  rcases o7 h with ⟨b,q,hh⟩|hh
  ·clear h
   obtain⟨p,rfl⟩:=pS q
   obtain⟨lo,hi,st⟩:=b
   obtain⟨h1,w36⟩:=bO hh
   cases Option.isNone_iff_eq_none.mp h1
   obtain⟨ov,H1,r1,w37⟩:=x.e w36
   obtain⟨lv,H2,r2,w38⟩:=x.o w37
   obtain⟨hv,H3,r3,w39⟩:=x.o w38
   obtain⟨l,e5,w41⟩:=jG w39
   exact kk _ _ (d9 (DM r1.g r2 r3 e5) (fun _ _=>rfl) rfl) w41
  ·clear h
   obtain⟨ov,H1,r1,w42⟩:=x.e hh
   obtain⟨iv,H2,r2,w43⟩:=x.e w42
   obtain⟨v,e3,w44⟩:=qj w43
   exact kk v H2 (d9 (DL (xu r2.o) r1.g r2.g e3) (fun _ _=>rfl) rfl) w44
 |Tuple es=>
  obtain⟨vs,H1,⟨f1,_⟩,w45⟩:=x.es h
  obtain⟨h1,w46⟩:=bO w45
  exact kk _ H1 ⟨DK f1 (of_decide_eq_true h1),fun b hb=>(by cases hb),rfl,fun q=>(by cases q),fun _=>⟨vs,rfl⟩⟩ w46
 |List es=>
  obtain⟨vs,H1,⟨f1,_⟩,w47⟩:=x.es h
  obtain⟨h1,w48⟩:=bO w47
  exact kk _ _ (d9 (BJ f1 (of_decide_eq_true h1)) (fun _ _=>rfl) rfl) w48
 |Dict ks vs=>
  obtain⟨h1,w49⟩:=bO h
  simp only[Bool.and_eq_true,decide_eq_true_eq] at h1
  obtain⟨ps,H1,⟨d1,d2⟩,w50⟩:=x.di w49
  obtain⟨es,e2,w51⟩:=xx w50
  obtain⟨h3,w52⟩:=bO w51
  simp only[Bool.and_eq_true,decide_eq_true_eq,List.isEmpty_iff] at h3
  obtain⟨hk,h4⟩:=h3
  subst hk
  exact kk _ _ (d9 (BP h1.2 h1.1.2 h1.1.1 d1 (eM e2) h4 d2) (fun _ _=>rfl) rfl) w52
 |ListComp elt gens scope=>
  obtain⟨g,e1,w53⟩:=bJ h
  obtain⟨h1,w54⟩:=bO w53
  obtain⟨px,rfl⟩:=tG e1
  obtain⟨C,hown⟩:=Aj h1
  obtain⟨items,gs,H1,⟨i1,i2,i3⟩,w55⟩:=x.i w54
  obtain⟨H2,r2,w56⟩:=uG (R:=fun v H=>cg c d scope.names elt (hK scope.names σ g.1 v) H) (fun v H Q q=>by
   obtain⟨u,H',r1,q2⟩:=x.e q
   exact⟨u,H',r1.g,q2⟩) _ _ _ _ w55
  exact kk _ H2 ⟨rT C i3 hown i1 i2 r2,fun b hb=>(by cases hb),rfl,fun _=>⟨_,_,_,_,_,_,rfl,items,gs,H1,C,hown,i1,i2,i3,rfl,r2⟩,fun q=>(by cases q)⟩ w56
 |_=>exact h.elim
theorem Eo(x:TS c O d n){op:BoolOp}{es:List Expr}(h:Wt O (evBT c.K sc (n+1) op es σ H kn) Q):R2 (fun mv H'=>(∀pos,cg c d sc (.BoolOp op es pos) σ H mv H')∧(∀b,mv= .bool b→y0 c d sc op es σ H b H')) (fun mv H'=>Wt O (app kn mv H') Q):=by
 refine g2 fun _ kk=> ?_
 cases es with
 |nil=>exact h.elim
 |cons e r=>
  cases r with
  |nil=>
   obtain⟨mv,H1,r1,w57⟩:=x.e h
   exact kk mv H1 ⟨fun pos=>DH r1.g,fun b hb=>DI (r1.t b hb)⟩ w57
  |cons e2 r=>
   cases op with
   |And=>
    obtain⟨a,H1,r1,w58⟩:=x.e h
    obtain⟨v,ev,w59⟩:=ia w58
    subst ev
    cases v with
    |true=>
     obtain⟨mv,H2,⟨a1,a2⟩,w60⟩:=x.b w59
     exact kk mv H2 ⟨fun pos=>BF (by simp) r1.g (fun _=>a1 pos) (fun q=>nomatch q),fun b hb=>BG (r1.t _ rfl) (fun _=>a2 b hb) (fun q=>nomatch q)⟩ w60
    |false=>exact kk _ H1 ⟨fun pos=>BF (by simp) r1.g (fun q=>nomatch q) (fun _=>⟨rfl,rfl⟩),fun b hb=>BG (r1.t _ rfl) (fun q=>nomatch q) (fun _=>⟨by cases hb;rfl,rfl⟩)⟩ (mA w59)
   |Or=>
    obtain⟨a,H1,r1,w61⟩:=x.e h
    obtain⟨v,ev,w62⟩:=ia w61
    subst ev
    cases v with
    |false=>
     obtain⟨mv,H2,⟨a1,a2⟩,w63⟩:=x.b w62
     exact kk mv H2 ⟨fun pos=>E9 (by simp) r1.g (fun _=>a1 pos) (fun q=>nomatch q),fun b hb=>Fa (r1.t _ rfl) (fun _=>a2 b hb) (fun q=>nomatch q)⟩ w63
    |true=>exact kk _ H1 ⟨fun pos=>E9 (by simp) r1.g (fun q=>nomatch q) (fun _=>⟨rfl,rfl⟩),fun b hb=>Fa (r1.t _ rfl) (fun q=>nomatch q) (fun _=>⟨by cases hb;rfl,rfl⟩)⟩ (mA w62)
theorem Ep(x:TS c O d n){a:MV}{ops:List CmpOp}{cs:List Expr}(h:Wt O (evCT c.K sc (n+1) a ops cs σ H kn) Q):R2 (Ab c d sc a ops cs σ H) (fun b H'=>Wt O (app kn (.bool b) H') Q):=by
 refine g2 fun _ kk=> ?_
 cases ops with
 |nil=>exact h.elim
 |cons op ops=>
  cases cs with
  |nil=>exact h.elim
  |cons e cs=>
   cases ops with
   |nil=>
    obtain⟨h1,w64⟩:=bO h
    cases List.isEmpty_iff.mp h1
    obtain⟨b,H1,r1,w65⟩:=x.e w64
    obtain⟨t,e2,w66⟩:=qn w65
    exact kk t H1 (DE r1.g e2) w66
   |cons op2 ops=>
    obtain⟨h1,w67⟩:=bO h
    have hc:cs≠ []:=fun q=>by subst q;cases h1
    obtain⟨b,H1,r1,w68⟩:=x.e w67
    obtain⟨t,e2,w69⟩:=qn w68
    cases t with
    |true=>
     obtain⟨b',H2,r2,w70⟩:=x.ch w69
     exact kk b' H2 (yZ (by simp) hc r1.g e2 (fun _=>r2) (fun q=>nomatch q)) w70
    |false=>exact kk false H1 (yZ (by simp) hc r1.g e2 (fun q=>nomatch q) (fun _=>⟨rfl,rfl⟩)) (mA w69)
theorem own{z:Str}{zp p:Pos}{args:List Expr}(h:z= "range" ∨z= "enumerate" ∨z= "zip")(hn: ¬z= "range"):cI (.Call (.Name z zp) args [] p)=true:=by
 rcases h with h|h|h
 ·exact absurd h hn
 ·subst h;rfl
 ·subst h;rfl
theorem qo{l:List MV}{m:Nat}(h:aH H m=some l):m<H.length:=(gS (bp h)).1
theorem B3{z:Str}{zp p:Pos}{args:List Expr}{y:String}{vs l:List MV}{gs:List (Nat×List MV)}(hz:z= "range" ∨z= "enumerate" ∨z= "zip")(r:cg c d sc (.Name z zp) σ H (.glob (.type y)) H1)(f1:oC c d sc args σ H1 vs H2)(f2:cx args)(f3:args=[]→vs=[]∧H2=H1)(e4:dO H2 z y vs=some (l,gs)):
  s9 c d sc (.Call (.Name z zp) args [] p) σ H l gs H2∧ ∀g∈gs,g.1<H2.length:=by
 rcases wS e4 with ⟨q1,j1⟩|j1
 ·subst q1
  obtain⟨l',e5,j2⟩:=ag j1
  cases j2
  exact⟨Ad r f3 f2 f1 e5,fun g hg=>nomatch hg⟩
 ·by_cases hne:z= "range"
  ·exact nS ((if_pos hne).symm.trans j1)
  ·rcases wS ((if_neg hne).symm.trans j1) with ⟨q1,j2⟩|j2
   ·clear j1 e4
    subst q1
    obtain⟨v,e5,j3⟩:=ag j2
    obtain⟨m,e6,j4⟩:=ag j3
    obtain⟨l',e7,j5⟩:=ag j4
    clear j2 j3 j4
    cases iO e5
    cases bj e6
    cases j5
    exact⟨BS (own hz hne) r f3 f2 f1 (bp e7),fun g hg=>by rw[List.mem_singleton] at hg;subst hg;exact qo e7⟩
   ·obtain⟨q1,j3⟩:=tK j2
    clear j1 j2 e4
    subst q1
    obtain⟨⟨p1,p2⟩,e5,j4⟩:=ag j3
    obtain⟨m,e6,j5⟩:=ag j4
    obtain⟨k',e7,j6⟩:=ag j5
    obtain⟨l',e8,j7⟩:=ag j6
    obtain⟨l2,e9,j8⟩:=ag j7
    obtain⟨hl,j9⟩:=oH j8
    clear j3 j4 j5 j6 j7 j8
    cases tz e5
    cases bj e6
    cases bj e7
    cases j9
    exact⟨DS (own hz hne) r f3 f2 f1 (bp e8) (bp e9) hl,fun g hg=>by
     rcases List.mem_cons.mp hg with rfl|hg
     ·exact qo e8
     ·rw[List.mem_singleton] at hg;subst hg;exact qo e9⟩
theorem Er(x:TS c O d n){e:Expr}{k:List MV→List (Nat×List MV)→Hp→Tr}(h:Wt O (evIT c.K sc (n+1) e σ H k) Q):R3 (fun items gs H'=>s9 c d sc e σ H items gs H'∧(∀g∈gs,g.1<H'.length)∧(∀env v,foldedSetIterable e env v=pure v)) (fun items gs H'=>Wt O (k items gs H') Q):=by
 refine g3 fun _ kk=> ?_
 rcases o7 h with ⟨w,q,hh⟩|hh
 ·clear h
  obtain⟨p,rfl,hz⟩:=rE q
  obtain⟨fv,H1,r1,w71⟩:=x.e hh
  obtain⟨vs,H2,⟨f1,f2,f3⟩,w72⟩:=x.es w71
  obtain⟨t,e3,w73⟩:=bJ w72
  obtain⟨l,gs,e4,w74⟩:=qm w73
  cases oN e3
  obtain⟨k1,k2⟩:=B3 hz r1.g f1 f2 f3 e4
  exact kk l gs H2 ⟨k1,k2,fun _ _=>rfl⟩ w74
 ·clear h
  obtain⟨v,H1,r1,w75⟩:=x.e hh
  obtain⟨l,gs,e2,w76⟩:=r5 (k:=fun l gs=>k l gs H1) w75
  refine kk l gs H1 ⟨DR r1.g e2,fun g hg=> ?_,uI r1.o⟩ w76
  clear w75 w76 hh kk
  cases v with
  |loc n=>
   obtain⟨l',e3,e2⟩:=ag e2
   cases e2
   rw[List.mem_singleton] at hg;subst hg;exact qo e3
  |tup=>cases e2;cases hg
  |_=>exact nS e2
theorem ts(hs:cX c.K)(ho:oV c O d): ∀n,TS c O d n
 |0=>⟨False.elim,False.elim,False.elim,False.elim,False.elim,False.elim,False.elim⟩
 |n+1=>by
  have x:=ts hs ho n
  refine⟨En hs ho x,?_,?_,Eo x,Ep x,?_,Er x⟩
  ·intro sc es σ H k Q h
   cases es with
   |nil=>exact⟨[],H,⟨DJ,(fun e he=>nomatch he),fun _=>⟨rfl,rfl⟩⟩,h⟩
   |cons e r=>
    obtain⟨v,H1,r1,w77⟩:=x.e h
    obtain⟨vs,H2,⟨f1,f2,f3⟩,w78⟩:=x.es w77
    refine⟨_,H2,⟨BI (uD r1.o) r1.g f1,fun z hz=> ?_,fun q=>nomatch q⟩,w78⟩
    rcases List.mem_cons.mp hz with rfl|hz
    ·exact uD r1.o
    ·exact f2 z hz
  ·intro sc e σ H k Q h
   cases e with
   |none=>exact⟨none,H,BK,h⟩
   |some e=>
    obtain⟨v,H1,r1,w79⟩:=x.e h
    obtain⟨i,e2,w80⟩:=bJ w79
    cases cb e2
    exact⟨some i,H1,tZ r1.g,w80⟩
  ·intro sc ks vs σ H k Q h
   cases ks with
   |nil=>
    obtain⟨h1,w81⟩:=bO h
    cases List.isEmpty_iff.mp h1
    exact⟨[],H,⟨DP,fun _=>⟨rfl,rfl⟩⟩,w81⟩
   |cons k0 ks=>
    cases vs with
    |nil=>exact h.elim
    |cons e vs=>
     obtain⟨x0,e1,w82⟩:=bJ h
     obtain⟨_,_,rfl⟩:=tF e1
     obtain⟨v,H1,r1,w83⟩:=x.e w82
     obtain⟨r,H2,⟨d1,d2⟩,w84⟩:=x.di w83
     exact⟨_,H2,⟨BO r1.g d1,fun q=>nomatch q⟩,w84⟩
end
section
variable{c:Cx}{O:dJ}{d n:Nat}{sc:cu}{σ σ' σ1:aQ}{H H' H1 H2 H3:Hp}{Q:QS}
noncomputable def Ak:Expr→Bool
 | .Starred ..=>true
 | .List ..=>true
 |_=>false
theorem ib{e:Expr}(h:Ak e=false): ∀a p,e≠ .Starred a p:=fun a p q=>by subst q;cases h
theorem qp{e:Expr}(h:Ak e=false): ∀es p,e≠ .List es p:=fun a p q=>by subst q;cases h
noncomputable def NA(sc:cu)(ts:List Expr)(vs:List MV)(σ:aQ)(H:Hp)(σ':aQ)(H':Hp):Prop:=
 (∀x∈ts,∃n p,x= .Name n p)→H'=H∧σ'=updL σ ((ts.filterMap bE).zip vs)
structure AsR(c:Cx)(d:Nat)(sc:cu)(t:Expr)(v:MV)(σ:aQ)(H:Hp)(σ':aQ)(H':Hp):Prop where
 a:xp c d sc t v σ H σ' H'
 o:Ak t=false
 nm: ∀y p,t= .Name y p→(sc.lookup y=some .local∨sc.lookup y=some .cell)∧σ'=upd σ y v∧H'=H
 tp: ∀ts k p,t= .Tuple ts k p→ ∃vs,v= .tup vs∧ts.length=vs.length∧NA sc ts vs σ H σ' H'
structure TA'(c:Cx)(O:dJ)(d n:Nat):Prop where
 a: ∀ {sc t v σ H k Q},Wt O (uy c.K sc n t v σ H k) Q→R2 (AsR c d sc t v σ H) (fun σ' H'=>Wt O (k σ' H') Q)
 as: ∀ {sc ts vs σ H k Q},Wt O (asgsT c.K sc n ts vs σ H k) Q→R2 (fun σ' H'=>uk c d sc ts vs σ H σ' H'∧cx ts∧ts.length=vs.length∧NA sc ts vs σ H σ' H') (fun σ' H'=>Wt O (k σ' H') Q)
theorem Es(x:TS c O d n)(y:TA' c O d n){t:Expr}{v:MV}{k:aQ→Hp→Tr}(h:Wt O (uy c.K sc (n+1) t v σ H k) Q):R2 (AsR c d sc t v σ H) (fun σ' H'=>Wt O (k σ' H') Q):=by
 cases t with
 |Name z p=>
  obtain⟨h1,w1⟩:=bO h
  have h2:sc.lookup z=some .local∨sc.lookup z=some .cell:=by simpa using h1
  exact⟨_,H,⟨BU h2,rfl,fun y p e=>by cases e;exact⟨h2,rfl,rfl⟩,fun _ _ _ e=>nomatch e⟩,w1⟩
 |Attribute o a p=>
  obtain⟨ov,H1,r1,w1⟩:=x.e h
  obtain⟨H2,e2,w2⟩:=qk w1
  exact⟨_,H2,⟨DT r1.g e2,rfl,fun _ _ e=>(nomatch e),fun _ _ _ e=>nomatch e⟩,w2⟩
 |Subscript o i p=>
  rcases o7 h with ⟨b0,q,hh⟩|w0
  ·obtain⟨p,rfl⟩:=pS q
   obtain⟨lo,hi,st⟩:=b0
   obtain⟨b,e0,w0⟩:=bJ hh
   obtain⟨e01,e02,e03⟩:=rF e0
   subst e01 e02 e03
   obtain⟨ov,H1,r1,w1⟩:=x.e w0
   obtain⟨lv,H2,r2,w2⟩:=x.e w1
   obtain⟨hv,H3,r3,w3⟩:=x.e w2
   obtain⟨m,e4,w4⟩:=bJ w3
   obtain⟨a,e5,w5⟩:=bJ w4
   obtain⟨b',e6,w6⟩:=bJ w5
   obtain⟨u,e7,w7⟩:=bJ w6
   obtain⟨l,e8,w8⟩:=jG w7
   obtain⟨r,e9,hne,w10⟩:=jG w8
   obtain⟨l',e11,w11⟩:=jG w10
   clear w0 w1 w2 w3 w4 w5 w6 w7 w8 w10 h hh
   cases bj e4
   cases cb e5
   cases cb e6
   cases bj e7
   exact⟨_,_,⟨DV r1.g r2.g r3.g (bp e8) (bp e9) hne e11,rfl,fun _ _ e=>(nomatch e),fun _ _ _ e=>nomatch e⟩,w11⟩
  ·clear h
   obtain⟨ov,H1,r1,w1⟩:=x.e w0
   obtain⟨iv,H2,r2,w2⟩:=x.e w1
   obtain⟨H3,e3,w3⟩:=qk w2
   exact⟨_,H3,⟨DU r1.g r2.g e3,rfl,fun _ _ e=>(nomatch e),fun _ _ _ e=>nomatch e⟩,w3⟩
 |Tuple ts p=>
  obtain⟨vs,e1,w1⟩:=bJ h
  obtain⟨σ',H',⟨f1,f2,f3,f4⟩,w2⟩:=y.as w1
  clear h w1
  cases d5 e1
  exact⟨σ',H',⟨DX f2 f3 f1,rfl,fun _ _ e=>(nomatch e),fun _ _ _ e=>by cases e;exact⟨vs,rfl,f3,f4⟩⟩,w2⟩
 |_=>exact h.elim
theorem ta(x: ∀n,TS c O d n): ∀n,TA' c O d n
 |0=>⟨False.elim,False.elim⟩
 |n+1=>by
  have y:=ta x n
  refine⟨Es (x n) y,?_⟩
  intro sc ts vs σ H k Q h
  cases ts with
  |nil=>
   obtain⟨h1,w1⟩:=bO h
   cases List.isEmpty_iff.mp h1
   exact⟨σ,H,⟨DW,(fun e he=>nomatch he),rfl,fun _=>⟨rfl,rfl⟩⟩,w1⟩
  |cons t ts=>
   cases vs with
   |nil=>exact h.elim
   |cons v vs=>
    obtain⟨s1,Ha,r1,w1⟩:=y.a h
    obtain⟨s2,Hb,⟨f1,f2,f3,f4⟩,w2⟩:=y.as w1
    refine⟨s2,Hb,⟨BV (ib r1.o) r1.a f1,fun z hz=> ?_,by simp[f3],fun hn=> ?_⟩,w2⟩
    ·rcases List.mem_cons.mp hz with rfl|hz
     ·exact ib r1.o
     ·exact f2 z hz
    ·obtain⟨q1,q2⟩:=f4 fun z hz=>hn z (.tail _ hz)
     obtain⟨z,p,rfl⟩:=hn t (.head _)
     obtain⟨_,q3,q4⟩:=r1.nm z p rfl
     subst q3 q4
     exact⟨q1,q2⟩
theorem kz{elt:Expr}{gens:List Comprehension}{scope:Scope}{cp:Pos}{y:Str}{py:Pos}{ln:Nat}{env:Env}:
  swapsWith (.ListComp elt gens scope cp) (some (.Name y py)) ln env=pure (env.blockKind== .function&&env.kindOf y==some .local&&py.line==(Expr.ListComp elt gens scope cp).pos.line&&!(scope.names.any fun(n,k)=>n==y&& (k== .local||k== .cell))):=rfl
theorem r7{t e:Expr}{pos:Pos}{v:MV}(hte:(cP t&&cP e)=false)(re:EvR c d sc e σ H v H1)(rt:AsR c d sc t v σ H1 σ' H'):rV c d sc (.Assign [t] e pos) σ H .next σ' H':=by
 intro A env f m its cel led T s K
 by_cases hc:dS e=true∧ ∃y py,t= .Name y py
 ·obtain⟨hc,y,py,rfl⟩:=hc
  obtain⟨hy0,rfl,rfl⟩:=rt.nm y py rfl
  obtain⟨elt,x,px,iter,scope,cp,rfl,items,gs,Ha,C,hown,i1,i2,i3,rfl,i4⟩:=re.cp hc
  by_cases hb:(env.blockKind== .function&&env.kindOf y==some .local&&py.line==(Expr.ListComp elt [⟨.Name x px,iter,[],0⟩] scope cp).pos.line&&!(scope.names.any fun(n,k)=>n==y&& (k== .local||k== .cell)))=true
  ·have hsw:swapsWith (.ListComp elt [⟨.Name x px,iter,[],0⟩] scope cp) (some (.Name y py)) pos.line env=pure true:=by rw[kz,hb]
   have hk:env.kindOf y=some .local:=by
    simp only[Bool.and_eq_true,beq_iff_eq] at hb
    exact hb.1.1.2
   have hy:sc.lookup y=some .local:=by
    rcases hy0 with q|q
    ·exact q
    ·rw[K.E.kindOf _ (by decide) q] at hk;cases hk
   exact Ec C i3 hown i1 i2 i4 hy K hsw
  ·refine um ?_ (by rw[lr hte (qp rt.o)]) (ib rt.o) re.g rt.a K
   have e0: ∀v,swapsWithSole [Expr.Name y py] v pos.line env=swapsWith v (some (.Name y py)) pos.line env:=fun _=>rfl
   rw[e0,kz]
   rw[Bool.not_eq_true] at hb
   rw[hb]
 ·refine um (gP ?_) (by rw[lr hte (qp rt.o)]) (ib rt.o) re.g rt.a K
  by_cases h1:dS e=true
  ·exact .inr fun y py q=>hc ⟨h1,y,py,q⟩
  ·exact .inl (by simpa using h1)
theorem uJ{t e:Expr}{pos:Pos}{v:MV}(hp:tJ sc t e=true)(re:EvR c d sc e σ H v H1)(rt:AsR c d sc t v σ H1 σ' H'):rV c d sc (.Assign [t] e pos) σ H .next σ' H':=by
 by_cases hte:(cP t&&cP e)=true
 ·obtain⟨ts,q1,hp⟩:=ag (li ((if_pos hte).symm.trans hp))
  obtain⟨es,q2,hq⟩:=ag hp
  obtain⟨k1,p1,rfl⟩:=jZ q1
  obtain⟨k2,p2,rfl⟩:=jZ q2
  by_cases q:ts.any (jE sc)=true
  ·exact fun A env f m its cel led T s K=>um (gP (.inl rfl)) (uo K.E q) (ib rt.o) re.g rt.a K
  ·have hs:=(Bool.or_eq_true_iff.mp (oI hq)).resolve_right q
   obtain⟨vs,rfl,hl,hn⟩:=rt.tp _ _ _ rfl
   obtain⟨y1,y2⟩:=hn fun x hx=>by
    unfold ke at hs
    simp only[Bool.and_eq_true,List.all_eq_true] at hs
    obtain⟨n,p,h,_⟩:=pT (hs.1.2 x hx)
    exact⟨n,p,h⟩
   subst y1 y2
   exact Eb hs re.g hl
 ·exact r7 (by simpa using hte) re rt
structure TX(c:Cx)(O:dJ)(d n:Nat):Prop where
 s: ∀ {sc st σ H k Q},Wt O (Ej c.K sc n st σ H k) Q→R3 (rV c d sc st σ H) (fun fl σ' H'=>Wt O (k fl σ' H') Q)
 ss: ∀ {sc sts σ H k Q},Wt O (exsT c.K sc n sts σ H k) Q→R3 (tc c d sc sts σ H) (fun fl σ' H'=>Wt O (k fl σ' H') Q)
theorem Et(x: ∀n,TS c O d n)(z:TX c O d n){st:Stmt}{k:KS}(h:Wt O (Ej c.K sc (n+1) st σ H k) Q):R3 (rV c d sc st σ H) (fun fl σ' H'=>Wt O (k fl σ' H') Q):=by
 cases st with
 |Expr e p=>
  obtain⟨h1,w1⟩:=bO h
  obtain⟨v,H1,r1,w2⟩:=(x n).e w1
  exact⟨_,_,_,BW (by simpa using h1) r1.g,(bO w2).2⟩
 |Pass p=>exact⟨_,_,_,BX,h⟩
 |Return v p=>
  cases v with
  |none=>exact⟨_,_,_,DZ,h⟩
  |some e=>
   obtain⟨v,H1,r1,w1⟩:=(x n).e h
   exact⟨_,_,_,D0 r1.g,w1⟩
 |Assign ts e p=>
  obtain⟨t,e1,w1⟩:=bJ h
  cases iO e1
  obtain⟨h2,w2⟩:=bO w1
  obtain⟨v,H1,r1,w3⟩:=(x n).e w2
  obtain⟨s1,H2,r2,w4⟩:=(ta x n).a w3
  exact⟨_,_,_,uJ h2 r1 r2,w4⟩
 |If t b o p=>
  obtain⟨v,H1,r1,w1⟩:=(x n).e h
  obtain⟨c',ec,w2⟩:=ia w1
  subst ec
  cases c' with
  |true=>
   obtain⟨fl,s1,H2,r2,w3⟩:=z.ss w2
   exact⟨_,_,_,Fc (r1.t _ rfl) (fun _=>r2) (fun q=>nomatch q),w3⟩
  |false=>
   obtain⟨fl,s1,H2,r2,w3⟩:=z.ss w2
   exact⟨_,_,_,Fc (r1.t _ rfl) (fun q=>nomatch q) (fun _=>r2),w3⟩
 |For t it b o p=>
  obtain⟨h1,w1⟩:=bO h
  simp only[Bool.and_eq_true,List.isEmpty_iff,Bool.or_eq_true,Bool.not_eq_true'] at h1
  obtain⟨h0,h1⟩:=h1
  subst h0
  obtain⟨items,gs,H1,⟨i1,i2,i3⟩,w2⟩:=(x n).i w1
  obtain⟨fl,σ',H',r2,w3⟩:=uH (R:=kw c d sc t b) (fun v σ H Q q=>by
   obtain⟨s1,Ha,r1,q1⟩:=(ta x n).a q
   obtain⟨fl,s2,Hb,r2,q2⟩:=z.ss q1
   exact⟨fl,s2,Hb,⟨s1,Ha,r1.a,r2⟩,q2⟩) _ _ _ _ w2
  exact⟨fl,σ',H',Ed i3 (fun q=>h1.resolve_left (fun q'=>by rw[q] at q';cases q')) i1 r2,w3⟩
 |While t b o p=>
  obtain⟨h1,w1⟩:=bO h
  cases List.isEmpty_iff.mp h1
  obtain⟨fl,σ',H',r2,w2⟩:=mB (R:=fun σ H b H1=>kq c d sc t σ H b H1) (B:=fun σ H fl σ' H'=>tc c d sc b σ H fl σ' H') (fun σ H kt kf Q q=>by
   obtain⟨v,H1,r1,q1⟩:=(x n).e q
   obtain⟨c',ec,q2⟩:=ia q1
   exact⟨c',H1,r1.t _ ec,q2⟩) (fun σ H k Q q=>z.ss q) _ _ _ _ _ w1
  exact⟨fl,σ',H',Ae r2,w2⟩
 |_=>exact h.elim
theorem tx(x: ∀n,TS c O d n): ∀n,TX c O d n
 |0=>⟨False.elim,False.elim⟩
 |n+1=>by
  have z:=tx x n
  refine⟨Et x z,?_⟩
  intro sc sts σ H k Q h
  cases sts with
  |nil=>exact⟨_,_,_,Ea,h⟩
  |cons st r=>
   obtain⟨fl,s1,H1,r1,w1⟩:=z.s h
   cases fl with
   |next=>
    obtain⟨fl,s2,H2,r2,w2⟩:=z.ss w1
    exact⟨_,_,_,y7 r1 (fun _=>r2) (fun q=>absurd rfl q),w2⟩
   |_=>exact⟨_,_,_,y7 r1 (fun q=>nomatch q) (fun _=>⟨rfl,rfl,rfl⟩),w1⟩
end
section
noncomputable def fK(slots:List (Str×Value))(p:Str×Value):List (Str×Value):=if(slots.lookup p.1).isNone then slots++[p] else slots
noncomputable def mC(ns:List Str)(vs ds:List Value):List (Str×Value):=
 let slots:=((ns.drop (ns.length- ds.length)).zip ds).foldl fK (ns.zip vs)
 ns.filterMap fun n=>(slots.lookup n).map (n,·)
theorem uK{fd:FuncData}{vs:List Value}{ns:List Str}(hns:fd.params.args.map (·.arg)=ns)(h1:fd.params.posonlyargs=[])(h2:fd.params.vararg=none)(h3:fd.params.kwonlyargs=[])(h4:fd.params.kwarg=none)
  {ds:List Value} (hl:vs.length≤ns.length) (hd:ds.length≤ns.length) (hm:((ns.take (ns.length- ds.length)).filter fun n=>((ns.zip vs).lookup n).isNone)=[]):
  ∃k:Option (Array Value)→Sem (List (Str×Value)),bindArgs fd ⟨vs,[]⟩=seqItems? fd.defaults>>=k∧ ∀r,(r.getD #[]).toList=ds→k r=pure (mC ns vs ds):=by
 refine⟨_,rfl,fun r hr=> ?_⟩
 simp only[hns,h1,h2,h3,h4,hr,List.map_nil,List.nil_append,List.append_nil,List.forIn_nil]
 have e1:ds.drop (ds.length- ns.length)=ds:=by rw[Nat.sub_eq_zero_of_le hd];rfl
 rw[if_neg (by simp;exact hl),e1,hm]
 rw[if_neg (by decide)]
 have e2: ∀ (l:List (Str×Value)) (init:List (Str×Value)),(forIn l init fun x s=>if(List.lookup x.fst s).isNone=true then pure (ForInStep.yield (s++[(x.fst,x.snd)])) else pure (ForInStep.yield s):Sem (List (Str×Value)))=pure (l.foldl fK init):=by
  intro l
  induction l with
  |nil=>intro init;rfl
  |cons x l ih=>
   intro init
   rw[List.forIn_cons,List.foldl_cons]
   unfold fK
   split
   ·exact ih _
   ·exact ih _
 rw[e2]
 rfl
theorem gQ{α:Type}(n:Str): ∀ (a b:List (Str×α)),(a++b).lookup n=(a.lookup n).or (b.lookup n)
 |[],b=>rfl
 |(x,v)::a,b=>by
  rw[List.cons_append,List.lookup_cons,List.lookup_cons]
  by_cases q:n=x
  ·subst q;simp
  ·rw[show(n==x)=false from beq_eq_false_iff_ne.mpr q]
   exact gQ n a b
theorem jn(n:Str): ∀ (L init:List (Str×Value)),(L.foldl fK init).lookup n=(init.lookup n).or (L.lookup n)
 |[],init=>by simp
 |(x,v)::L,init=>by
  rw[List.foldl_cons,jn n L,List.lookup_cons]
  unfold fK
  by_cases q:n=x
  ·subst q
   simp only[beq_self_eq_true]
   cases h:init.lookup n with
   |none=>simp[gQ,h]
   |some w=>simp[h]
  ·rw[show(n==x)=false from beq_eq_false_iff_ne.mpr q]
   split
   ·rw[gQ]
    simp[List.lookup_cons,show(n==x)=false from beq_eq_false_iff_ne.mpr q]
   ·rfl
theorem ff{α:Type}{n:Str}: ∀ {ns:List Str} {vs:List α} {i:Nat},ns.Nodup→ns[i]?=some n→(ns.zip vs).lookup n=vs[i]?
 |[],_,_,_,h=>by simp at h
 |x::ns,[],i,_,_=>by simp
 |x::ns,v::vs,0,_,h=>by simp at h;subst h;simp
 |x::ns,v::vs,i+1,nd,h=>by
  rw[List.nodup_cons] at nd
  simp at h
  have:n≠x:=fun e=>nd.1 (e▸mG h)
  rw[List.zip_cons_cons,List.lookup_cons,show(n==x)=false from beq_eq_false_iff_ne.mpr this]
  simpa using ff nd.2 h
theorem gG{α:Type}{f:Str→Option (Str×α)}: ∀ {ns:List Str} {ws:List α},ns.length=ws.length→(∀ (i:Nat) (n:Str),ns[i]?=some n→f n=(ws[i]?).map (n,·))→ns.filterMap f=ns.zip ws
 |[],[],_,_=>rfl
 |x::ns,w::ws,hl,h=>by
  have h0:=h 0 x (by simp)
  rw[List.filterMap_cons,h0]
  simp only[List.getElem?_cons_zero,Option.map_some,List.zip_cons_cons,List.cons.injEq,true_and]
  exact gG (by simpa using hl) fun i n hn=>by simpa using h (i+1) n (by simpa using hn)
theorem uL{ns:List Str}{vs ds:List Value}(nd:ns.Nodup)(hl:vs.length≤ns.length)(hd:ds.length≤ns.length)(hg:ns.length- ds.length≤vs.length):
  mC ns vs ds=ns.zip (vs++ds.drop (vs.length- (ns.length- ds.length))):=by
 unfold mC
 refine gG (by simp;exact a0 [] [_,_,_,_,_,_] 0x94410a 0x8c5e17be21 0x50b1286652 0x54b0286852 0x4cb5286452 (oS hg) (oS hd) (oS (a0 [] [_,_,_,_,_] 8968 508961 10024 0x50b2286052 0x44b3286852 hl (oS hg) (oS hd)))) fun i n hn=> ?_
 rw[jn,ff nd hn]
 congr 1
 have hi:i<ns.length:=(gS hn).1
 by_cases q:i<vs.length
 ·rw[List.getElem?_append_left q,gE q];simp
 ·rw[List.getElem?_eq_none (Nat.not_lt.mp q),List.getElem?_append_right (Nat.not_lt.mp q),List.getElem?_drop]
  have e:(ns.drop (ns.length- ds.length))[i- (ns.length- ds.length)]?=some n:=by
   rw[List.getElem?_drop,←hn];congr 1;exact af [] [_,_,_] 0x94600a 493089 0x40b2286252 (oS (aq [] [_,_,_] 8968 1057 9480 9499 hg q))
  rw[ff (nd.sublist (List.drop_sublist _ _)) e]
  simp only[Option.none_or]
  congr 1;exact a0 [] [_,_,_,_,_,_] 0x94410a 0x8c5e17be21 0x50b3286052 0x50b5286252 0x54b3286452 (oS (aq [] [_,_,_] 8968 1057 9480 9499 hg q)) (oS hg) (oS (af [] [_,_] 8968 33 8475 q))
theorem xB{ns:List Str}{vs:List Value}{k:Nat}(nd:ns.Nodup)(hg:k≤vs.length):((ns.take k).filter fun n=>((ns.zip vs).lookup n).isNone)=[]:=by
 rw[List.filter_eq_nil_iff]
 intro n hn
 obtain⟨i,hi,e⟩:=List.getElem_of_mem hn
 rw[lT] at hi
 have e1:ns[i]?=some n:=by
  rw[←e,List.getElem_take]
  exact gE _
 rw[ff nd e1,gE (by exact a0 [] [_,_,_,_] 8969 33825 9000 9993 9528 hg hi (Nat.min_le_left _ _))]
 simp
end
section
variable{c:Cx}{d:Nat}{sc:cu}{σ σ' σ1:aQ}{A:Around}{env:Env}{f:Fx}{m m0 m':Str→Option Value}{its kp cel cel' led led' T T':aN}{h h₁ h':Heap}{H H' H1 H2 H3:Hp}{s s':Shared}{mv x y:MV}{e l r t:Expr}{b:Bool}{pos:Pos}{C:Addr}{u v:Value}{fl:Fl}
noncomputable def xC(c:Cx)(f:Fx)(m:Str→Option Value)(cel led T:aN)(s:Shared)(mv:MV)(H':Hp)(r:Result)(s':Shared):Prop:=match r with
 | .ok (.ret v)=>PV c f m cel led T s mv H' v s'
 |_=>False
theorem SR.addOld(X:St c f m cel h led T H)(hn: ∀p∈its,h.get? p.1=some p.2)(h1: ∀p∈its,p.1∉ai (cel++(led++T)))(h2: ∀p∈its,p.1≠f.L)(h3: ∀p∈its,f.h₀.get? p.1=none)(nd:(ai its).Nodup):St c f m (its++cel) h led T H:=by
 refine⟨X.F,X.X,X.G,fun p hp=> ?_,?_,X.hi,X.R⟩
 ·rw[aA] at hp
  rcases List.mem_append.mp hp with hp|hp
  ·exact⟨hn p hp,h2 p hp,h3 p hp⟩
  ·exact X.N p hp
 ·rw[aA]
  have nd':=X.nd
  simp only[ai,mP] at nd nd' h1⊢
  refine List.nodup_append.mpr ⟨nd,nd',fun a ha b hb=> ?_⟩
  obtain⟨p,hp,rfl⟩:=List.mem_map.mp ha
  intro e
  exact h1 p hp (e▸hb)
theorem lx{kd:Str→Option NameKind}(x:Str): ∀ (l:List (Str×Value)) (m:Str→Option Value),(l.map (·.1)).Nodup→bindL kd l m x=if kd x=some .local then((l.lookup x).or (m x)) else m x
 |[],m,_=>by simp[bindL]
 |(n,v)::r,m,nd=>by
  simp only[List.map_cons,List.nodup_cons] at nd
  rw[bindL,lx x r _ nd.2]
  by_cases hx:kd x=some .local
  ·simp only[hx,if_true]
   by_cases q:x=n
   ·subst q
    have:r.lookup x=none:=List.lookup_eq_none_iff.mpr fun p hp=>by
     rw[bne_iff_ne];exact fun e=>nd.1 (e▸List.mem_map_of_mem hp)
    simp[this,hx]
   ·rw[List.lookup_cons,show(x==n)=false from beq_eq_false_iff_ne.mpr q]
    split<;>simp[q]
  ·simp only[hx,if_false]
   split
   ·rename_i hn
    have:x≠n:=fun e=>hx (e▸hn)
    simp[this]
   ·rfl
theorem ly{kd:Str→Option NameKind}(x:Str): ∀ (l:List (Str×Value)) (m:Str→Option Value),(l.map (·.1)).Nodup→bindC kd l m x=if kd x=some .local then m x else((l.lookup x).or (m x))
 |[],m,_=>by simp[bindC]
 |(n,v)::r,m,nd=>by
  simp only[List.map_cons,List.nodup_cons] at nd
  rw[bindC,ly x r _ nd.2]
  by_cases hx:kd x=some .local
  ·simp only[hx,if_true]
   split
   ·rfl
   ·rename_i hn
    have:x≠n:=fun e=>hn (e▸hx)
    simp[this]
  ·simp only[hx,if_false]
   by_cases q:x=n
   ·subst q
    have:r.lookup x=none:=List.lookup_eq_none_iff.mpr fun p hp=>by
     rw[bne_iff_ne];exact fun e=>nd.1 (e▸List.mem_map_of_mem hp)
    simp[this,hx]
   ·rw[List.lookup_cons,show(x==n)=false from beq_eq_false_iff_ne.mpr q]
    split<;>simp[q]
theorem qq(x:Str)(v:MV): ∀ (l:List (Str×MV)),Bl l x=some v→l.lookup x=some v
 |[],h=>by cases h
 |(n,w)::r,h=>by
  unfold Bl upd at h
  by_cases q:x=n
  ·subst q;simp at h⊢;exact h
  ·rw[if_neg q] at h
   rw[List.lookup_cons,show(x==n)=false from beq_eq_false_iff_ne.mpr q]
   exact qq x v r h
theorem qr{K:Frag}{as:List Addr}{T:aN}{x:Str}{v:MV}: ∀ {ns:List Str} {vs:List Value} {xs:List MV},VRs K as T vs xs→(ns.zip xs).lookup x=some v→ ∃w,(ns.zip vs).lookup x=some w∧VR K as T w v∧x∈ns
 |[],_,_,_,h=>by simp at h
 |n::ns,_,_,.nil,h=>by simp at h
 |n::ns,_,_,.cons (v:=w) r1 r2,h=>by
  rw[List.zip_cons_cons,List.lookup_cons] at h
  by_cases q:x=n
  ·subst q
   simp at h;subst h
   exact⟨w,by simp,r1,.head _⟩
  ·rw[show(x==n)=false from beq_eq_false_iff_ne.mpr q] at h
   obtain⟨w',a,b,e⟩:=qr r2 h
   exact⟨w',by rw[List.zip_cons_cons,List.lookup_cons,show(x==n)=false from beq_eq_false_iff_ne.mpr q];exact a,b,.tail _ e⟩
theorem lz{cm:Str→Option Value}{x:Str}{a:Addr}{cs:List (Str×Addr)}{cells:aN}(k:CellsAre cm cs cells)(h:cs.lookup x=some a): ∃o,(a,o)∈cells∧o.data= .cell (cm x):=by
 induction k with
 |nil=>cases h
 | @cons n _ _ _ _ h1 h2 ih=>
  rw[List.lookup_cons] at h
  by_cases q:x=n
  ·subst q;simp at h;subst h
   exact⟨_,.head _,h1⟩
  ·rw[show(x==n)=false from beq_eq_false_iff_ne.mpr q] at h
   obtain⟨o',a1,a2⟩:=ih h
   exact⟨o',.tail _ a1,a2⟩
theorem r8{cm:Str→Option Value}{cs:List (Str×Addr)}{cells:aN}(h:CellsAre cm cs cells):ai cells=cs.map (·.2):=by
 induction h with
 |nil=>rfl
 |cons h1 h2 ih=>exact cA _ ih
theorem AO.deeper(hA:AO A (d+1))(env:Env):AO (A.deeper env) d:=⟨hA.hd,by have:=hA.dep;show A.depth+1+2*d+2≤1000;exact af [] [_,_] 0x7d022087111823800008 33 0x7d02208611c402340008 this,by have:=hA.un;show A.units+3+10*d+40≤9900;exact af [] [_,_] 0x13560c814089151863800008 33 0x13560c81408811c40a340008 this⟩
theorem Eu{as:List Addr}(x:c.K.In h){ms:List MV}(r:VR c.K as [] v (.tup ms)): ∃a vs n,v= .ref a∧h.get? a=some (cO vs n)∧VRs c.K as [] vs ms∧vs.length≤dK:=by
 obtain⟨a,vs,n,rfl,q,l,g⟩:=r.isT
 exact⟨a,vs,n,rfl,q.elim (fun q=>nomatch q) (fun q=>x _ _ q),g,l⟩
theorem uM(hs:cX c.K)(X:c.K.In s.heap){fd:FuncData}{xs:List MV}{vs:List Value}(r:VRs c.K (ai led) T vs xs)(h:eD c.K fd xs=some σ):
  ∃ns ws ys,ns=fd.params.args.map (·.arg)∧ns.Nodup∧ns.length=ws.length∧VRs c.K (ai led) T ws ys∧σ=Bl (ns.zip ys)∧BindsTo s fd ⟨vs,[]⟩ (ns.zip ws):=by
 unfold eD at h
 dsimp only at h
 split at h
 ·rename_i q
  simp only[Bool.and_eq_true,List.isEmpty_iff,Option.isNone_iff_eq_none,decide_eq_true_eq] at q
  obtain⟨⟨⟨⟨⟨q1,q2⟩,q3⟩,q4⟩,q5⟩,q6⟩:=q
  obtain⟨ds,a1,a2⟩:=ag h
  split at a2
  ·rename_i w
   obtain⟨w1,w2⟩:=w
   cases a2
   have hl:=r.len
   have dflt: ∃dv:List Value,VRs c.K (ai led) T dv ds∧ ∃o:Option (Array Value),(o.getD #[]).toList=dv∧ ∀ (M:Model) (A:Around) (E:Value→Shared→Prop) (Q:Option (Array Value)→Shared→Prop),Q o s→wpAny M A (seqItems? fd.defaults) Q E s:=by
    rcases wS a1 with ⟨z,a1⟩|a1
    ·cases a1
     exact⟨[],.nil,none,rfl,fun M A E Q hQ=>by rw[z];exact wpAny_pure hQ⟩
    ·obtain⟨v,z,a1⟩:=ag a1
     cases d5 a1
     obtain⟨a,dv,n,e1,e2,e3,e4⟩:=Eu X (as:=ai led) (oO hs 3 z)
     have e3:=e3.mono (U:=T) (bs:=ai led) ⟨fun _ _ h=>h,fun _ h=>absurd h List.not_mem_nil⟩
     exact⟨dv,e3,some dv.toArray,by simp,fun M A E Q hQ=>by rw[e1];exact wpAny_seqItems e2 rfl hQ⟩
   obtain⟨dv,d1,o,d2,d3⟩:=dflt
   have hd:=d1.len
   have hvl:vs.length≤(fd.params.args.map (·.arg)).length:=by exact aq [] [_,_,_] 8968 17441 9000 9482 q6 hl
   have hdl:dv.length≤(fd.params.args.map (·.arg)).length:=by exact aq [] [_,_,_] 8968 17441 9000 9482 w1 hd
   have hg:(fd.params.args.map (·.arg)).length- dv.length≤vs.length:=by exact ju [] [_,_,_,_,_,_,_] 8968 0x1f17bc21 10024 10010 11082 0x50b6286052 0x54b6286452 w2 hl hd (oS hdl) (oS w1)
   obtain⟨k,k1,k2⟩:=uK (fd:=fd) (vs:=vs) (ds:=dv) rfl q1 q2 q3 q4 hvl hdl (xB q5 hg)
   refine⟨_,vs++dv.drop (vs.length- ((fd.params.args.map (·.arg)).length- dv.length)),_,rfl,q5,?_,r.append (d1.drop _),?_,fun M A E Q hQ=> ?_⟩
   ·simp only[List.length_append,lD,lM] at*
    exact a0 [] [_,_,_,_,_,_] 0x94410a 0x8c5e17be21 0x50b1286652 0x54b0286852 0x4cb5286452 (oS hg) (oS hdl) (oS (eo [] [_,_,_,_,_,_] 8968 0xf88621 10026 10552 0x54b2286052 0x44b4286a52 hl q6 (oS hg) (oS hdl)))
   ·rw[hl,hd]
   ·rw[k1]
    refine wpAny_bind (d3 M A E _ ?_)
    rw[k2 o d2,uL q5 hvl hdl hg]
    exact wpAny_pure hQ
  ·cases a2
 ·cases h
theorem Al{l:List (Str×Addr)}:l.Pairwise (fun p q=>p.2≠q.2)→ ∀ {p q:Str×Addr},p∈l→q∈l→p.2=q.2→p=q:=by
 induction l with
 |nil=>intro _ p q hp;cases hp
 |cons a r ih=>
  intro h p q hp hq e
  rw[List.pairwise_cons] at h
  rcases List.mem_cons.mp hp with e1|hp'
  ·rcases List.mem_cons.mp hq with e2|hq'
   ·rw[e1,e2]
   ·exact absurd e (e1▸h.1 q hq')
  ·rcases List.mem_cons.mp hq with e2|hq'
   ·exact absurd e.symm (e2▸h.1 p hp')
   ·exact ih h.2 hp' hq' e
theorem fL{x:Str}{a:Addr}: ∀ {l:List (Str×Addr)},l.lookup x=some a→(x,a)∈l
 |(n,j)::r,h=>by
  rw[List.lookup_cons] at h
  by_cases q:x=n
  ·subst q;simp at h;subst h;exact .head _
  ·rw[show(x==n)=false from beq_eq_false_iff_ne.mpr q] at h
   exact .tail _ (fL h)
theorem qt(hs:cX c.K){fa:Addr}{oc:Value}{od:Option Addr}{fd:FuncData}{osl:Array (Option Value)}{body:List Stmt}{xs:List MV}{vs:List Value}{R:Fl→aN→aN→Hp→Prop}
  (hA:AO A (d+1)) (XK:c.K.In s.heap) (XG:TopRead c.p c.loose c.mg c.mb s.heap) (r:VRs c.K (ai led) T vs xs) (hk:c.K.lookup fa=some ⟨oc,od,.func fd,osl⟩) (hb:fd.body= .stmts body) (hc:hU c.K fd=true)
  (h1:eD c.K fd xs=some σ)
  (st: ∀ (h₁:Heap) m,h₁.Ns s.heap.objs.size m→(∀b o,s.heap.get? b=some o→h₁.get? b=some o)→St c ⟨ng s.heap [] led T,s.heap.objs.size⟩ m [] h₁ led T H)
  (hN: ∀z∈led++T,s.heap.get? z.1=some z.2)
  (h2: ∀A env f m cel s,Cs c d fd.scope.names σ A env f m [] cel led T H s→wpAny (model c.prog c.w) A (execs body env) (fun fw s2=> ∃fl m2 cel2 l2 T2 σ' H',R fl l2 T2 H'∧Cs c d fd.scope.names σ' A env f m2 [] cel2 l2 T2 H' s2∧Ok s s2∧y6 c.K (ai l2) T2 fw fl) no s):
  codeAny (model c.prog c.w) A (.call (.ref fa) ⟨vs,[]⟩) (fun r s2=> ∃fl m2 l2 T2 H' v,R fl l2 T2 H'∧r= .ok (.ret v)∧St c ⟨ng s.heap [] led T,s.heap.objs.size⟩ m2 [] s2.heap l2 T2 H'∧VR c.K (ai l2) T2 v (d6 fl)∧Ok s s2) s:=by
 refine Fy fun Q hq=> ?_
 unfold hU at hc
 simp only[Bool.and_eq_true,List.isEmpty_iff,beq_iff_eq,Bool.not_eq_true',List.all_eq_true,Bool.or_eq_true,decide_eq_true_eq] at hc
 obtain⟨⟨⟨⟨⟨⟨⟨⟨c1,c2⟩,c3⟩,c4⟩,c5⟩,c6⟩,c7⟩,c8⟩,c9⟩:=hc
 obtain⟨ns,ws,ys,rfl,b2,b3,b4,b5,b6⟩:=uM hs XK r h1
 subst b5
 have hget:s.heap.get? fa=some ⟨oc,od,.func fd,osl⟩:=XK _ _ hk
 refine codeAny_call_function (by have:=hA.dep;unfold recursionLimit;exact af [] [_,_] 0x1f408909 33 0x7d02208611c402340008 this) hget rfl c5 c4 hb (codeRec_of XK c7) (b6 _ _ _ _ ?_)
 rw[c1,c2,c3]
 refine wpAny_newFunctionEnv_cells c6 ?_ fun env he s' x=> ?_
 ·refine kindsX (binds:=(fd.params.args.map (·.arg)).zip ws) ?_ _
  rw[List.all_eq_true]
  intro p hp
  have:=c8 p.1 (List.of_mem_zip hp).1
  simpa using this
 have hkd: ∀x,env.kindOf x=fd.scope.names.lookup x:=by subst he;intro x;rfl
 have hL:env.locals=s.heap.objs.size:=by rw[he];rfl
 have hC:env.cells=cellsFrom (s.heap.objs.size+1) fd.scope.names []:=by rw[he];rfl
 have hE:EO env s.heap.objs.size fd.scope.names:=by subst he;exact⟨c6,fun _ _ _ q=>q,rfl,rfl,rfl⟩
 rw[hL,hC] at x
 clear he
 refine⟨XG.nolimit.keeps x.toInCall.keep,codeAny_func ?_⟩
 obtain⟨h₁,tk,rfl⟩:=x.toInCall.same
 have hk₁:=x.toInCall.keep
 have hap:=x.apart
 have nd0:=cellsFrom_names fd.scope.names 0 (s.heap.objs.size+1) [] [] rfl▸c9
 obtain⟨cells,NC,Y⟩:=Cl.news (h₀:=s.heap) (Nat.le_refl _) fun n c hm=>⟨x.cell n c (lookup_of_mem_nodup nd0 hm),x.above n c hm⟩
 have Y0:=st _ _ x.toInCall.ns hk₁
 have Y1:=SR.addOld (its:=cells) Y0 (fun p hp=>(NC p hp).1) (fun p hp q=>by
   obtain⟨z,hz,e⟩:=List.mem_map.mp q
   have w:=hN z (by simpa using hz)
   have w2:=(NC p hp).2.2
   rw[←e,w] at w2;cases w2) (fun p hp=>(NC p hp).2.1) (fun p hp=>by
   cases q:(ng s.heap [] led T).get? p.1 with
   |none=>rfl
   |some o=>have:=of_hideAll _ q;rw[(NC p hp).2.2] at this;cases this) (by
   rw[r8 Y]
   exact List.pairwise_map.mpr x.apart)
 rw[List.append_nil] at Y1
 have zf:((fd.params.args.map (·.arg)).zip ws).map (·.1)=fd.params.args.map (·.arg):=by rw[List.map_fst_zip];exact af [] [_,_] 8968 545 8970 b3
 have ndz:(((fd.params.args.map (·.arg)).zip ws).map (·.1)).Nodup:=by rw[zf];exact b2
 have hcs: ∀x,fd.scope.names.lookup x=some .cell→ ∃a,(cellsFrom (s.heap.objs.size+1) fd.scope.names []).lookup x=some a:=fun x hx=>Option.isSome_iff_exists.mp (cellsFrom_some _ _ _ (.inl hx))
 have K1:Cs c d fd.scope.names (Bl ((fd.params.args.map (·.arg)).zip ys)) (A.deeper env) env
   ⟨ng s.heap [] led T,s.heap.objs.size⟩ (bindL env.kindOf ((fd.params.args.map (·.arg)).zip ws) fun _=>none) [] cells led T H {s with heap:=h₁,toks:=tk}:=by
  refine⟨hA.deeper _,hE,Y1,fun x v hx=> ?_,fun x hx=> ?_,fun x y a h1 h2=> ?_⟩
  ·obtain⟨w,q1,q2,q3⟩:=qr b4 (qq x v _ hx)
   rcases c8 x q3 with q4|q4
   ·refine .inl ⟨(hkd x).trans q4,w,?_,q2⟩
    rw[lx x _ _ ndz]
    rw[if_pos ((hkd x).trans q4),q1];rfl
   ·obtain⟨a,ha⟩:=hcs x q4
    obtain⟨o,o1,o2⟩:=lz Y ha
    refine .inr ⟨.inl ((hkd x).trans q4),a,w,o,hC▸ha,o1,?_,q2⟩
    rw[o2,ly x _ _ ndz,if_neg (fun q=>by rw[hkd,q4] at q;cases q),q1];rfl
  ·obtain⟨a,ha⟩:=hcs x ((hkd x).symm.trans hx)
   obtain⟨o,o1,o2⟩:=lz Y ha
   exact⟨a,o,_,hC▸ha,o1,o2⟩
  ·rw[hC] at h1 h2
   have:=Al hap (fL h1) (fL h2) rfl
   exact cA Prod.fst this
 refine wpAny_mono (h2 _ _ _ _ _ _ K1) (fun fw s2 pz=> ?_) (fun _ _ z=>z.elim)
 obtain⟨fl,m2,cel2,l2,T2,σ',H',hR,K2,o2,r2⟩:=pz
 have X2:St c ⟨ng s.heap [] led T,s.heap.objs.size⟩ m2 [] s2.heap l2 T2 H':=by
  have:=K2.X
  rw[List.nil_append] at this
  refine SR.keepBut (its:=cel2) (cel:=[]) ?_ (fun _ _ _ e=>e)
  rw[List.append_nil];exact this
 have O2:Ok s s2:=(Ok.mk s h₁ tk).trans o2
 cases fw<;>cases fl<;>first
  |(cases r2;done)
  |exact hq _ _ ⟨_,m2,l2,T2,H',_,hR,rfl,X2,.none,O2⟩
  |exact hq _ _ ⟨_,m2,l2,T2,H',_,hR,rfl,X2,r2,O2⟩
theorem uN(hs:cX c.K){fa:Addr}{oc:Value}{od:Option Addr}{fd:FuncData}{osl:Array (Option Value)}{body:List Stmt}{xs:List MV}{vs:List Value}{R:Fl→aN→aN→Hp→Prop}
  (hA:AO A (d+1)) (X:St c f m cel s.heap led T H) (r:VRs c.K (ai led) T vs xs) (hk:c.K.lookup fa=some ⟨oc,od,.func fd,osl⟩) (hb:fd.body= .stmts body) (hc:hU c.K fd=true)
  (h1:eD c.K fd xs=some σ)
  (h2: ∀A env f m cel s,Cs c d fd.scope.names σ A env f m [] cel led T H s→wpAny (model c.prog c.w) A (execs body env) (fun fw s2=> ∃fl m2 cel2 l2 T2 σ' H',R fl l2 T2 H'∧Cs c d fd.scope.names σ' A env f m2 [] cel2 l2 T2 H' s2∧Ok s s2∧y6 c.K (ai l2) T2 fw fl) no s):
  codeAny (model c.prog c.w) A (.call (.ref fa) ⟨vs,[]⟩) (fun r s2=> ∃fl l2 T2 H' v,R fl l2 T2 H'∧r= .ok (.ret v)∧St c f m cel s2.heap l2 T2 H'∧VR c.K (ai l2) T2 v (d6 fl)∧Ok s s2) s:=by
 have X0:St c f m (cel++[]) s.heap led T H:=by rw[List.append_nil];exact X
 refine codeAny_mono (qt hs hA (X.X.keeps X.F.keep) (X.G.keeps X.F.keep) r hk hb hc h1 (fun h₁ m n k=>SR.enter (kp:=cel) (cel:=[]) X0 n k (Nat.le_refl _)) (fun z hz=>(X.N z (mR _ hz)).1) h2) fun r s2 z=> ?_
 obtain⟨fl,m2,l2,T2,H',v,hR,hr,X2,r2,O2⟩:=z
 refine⟨fl,l2,T2,H',v,hR,hr,?_,r2,O2⟩
 have:=SR.leave (kp:=cel) (cel:=[]) X0 X2
 rw[List.append_nil] at this;exact this
theorem xD(hs:cX c.K){fa:Addr}{oc:Value}{od:Option Addr}{fd:FuncData}{osl:Array (Option Value)}{body:List Stmt}{xs:List MV}{vs:List Value}
  (hA:AO A (d+1)) (X:St c f m cel s.heap led T H) (r:VRs c.K (ai led) T vs xs) (hk:c.K.lookup fa=some ⟨oc,od,.func fd,osl⟩) (hb:fd.body= .stmts body) (hc:hU c.K fd=true)
  (h1:eD c.K fd xs=some σ) (h2:tc c d fd.scope.names body σ H fl σ' H'):
  codeAny (model c.prog c.w) A (.call (.ref fa) ⟨vs,[]⟩) (xC c f m cel led T s (d6 fl) H') s:=by
 refine codeAny_mono (uN (R:=fun fl1 l2 T2 H1=>fl1=fl∧Ext (ai led) T (ai l2) T2∧H1=H') hs hA X r hk hb hc h1 (fun A env f m cel s K=> ?_)) (fun r s2 z=> ?_)
 ·refine wpAny_mono (h2 A env f m [] cel led T s K) (fun fw s2 pz=> ?_) bG
  obtain⟨m2,cel2,l2,T2,K2,e2,o2,r2⟩:=pz
  exact⟨fl,m2,cel2,l2,T2,σ',H',⟨rfl,e2,rfl⟩,K2,o2,r2⟩
 ·obtain⟨fl1,l2,T2,H1,v,⟨q1,q2,q3⟩,q4,q5,q6,q7⟩:=z
  subst q1 q3 q4
  exact⟨l2,T2,q5,q2,q6,q7⟩
end
section
variable{c:Cx}{d:Nat}{A:Around}{f:Fx}{m:Str→Option Value}{cel led T:aN}{H H':Hp}{s s':Shared}{mv:MV}
noncomputable def nA(c:Cx)(d:Nat):dJ:=fun a xs H mv H'=>(∃oc od fd osl,c.K.lookup a=some ⟨oc,od,.func fd,osl⟩)∧
 ∀A f m cel led T s vs,AO A d→St c f m cel s.heap led T H→VRs c.K (ai led) T vs xs→codeAny (model c.prog c.w) A (.call (.ref a) ⟨vs,[]⟩) (xC c f m cel led T s mv H') s
theorem AO.make(hA:AO A (d+1))(C:Addr)(vals:List Value):AO (A.under (.builtin "type.__call__" ⟨.ref C::vals,[]⟩)) d:=
 ⟨hA.hd,by have:=hA.dep;rw[depth_under_make];exact af [] [_,_] 0x7d022087111823800008 33 0x7d02208611c402340008 this,by have:=hA.un;rw[units_under_make];exact af [] [_,_] 0x13560c814089151823800008 33 0x13560c81408811c40a340008 this⟩
theorem xE(hs:cX c.K){O:dJ}(ho:oV c O d){a:Addr}{xs:List MV}{R:QE}(h:Wt O (jk c.K a xs H) (FQ R)): ∃v H',nA c (d+1) a xs H v H'∧R v H':=by
 obtain⟨p,e,h⟩:=bJ h
 obtain⟨oc,od,osl,hk,hb⟩:=uz e
 obtain⟨h1,h2⟩:=bO h
 obtain⟨σ,e3,h3⟩:=bJ h2
 obtain⟨fl,σ',H',r4,h4⟩:=(tx (ts hs ho) _).ss h3
 exact⟨d6 fl,H',⟨⟨_,_,_,_,hk⟩,fun A f m cel led T s vs hA X r=>xD hs hA X r hk hb h1 e3 r4⟩,h4⟩
theorem nA.call{a:Addr}{xs:List MV}(h:nA c d a xs H mv H'):qa c d a xs H mv H':=by
 obtain⟨oc,od,fd,osl,hk⟩:=h.1
 refine⟨by unfold keepIn;dsimp only;rw[hk],fun A f m cel led T s vs hA X r=> ?_⟩
 refine wpAny_call (codeAny_mono (h.2 A f m cel led T s vs hA X r) fun r s' hr=> ?_)
 unfold xC at hr
 split at hr
 ·exact hr
 ·exact hr.elim
theorem made{a fi:Addr}{xs:List MV}(hm:makesIn c.K a=true)(hi:findIn c.K (.ref a) "__init__" =some (some (.ref fi)))(hf:isFn c.K (.ref fi)=true)(hne:H≠ [])(h:nA c d fi (.loc (H.length+1)::xs) (H++[.dict [],.inst a H.length]) .none H'):qa c (d+1) a xs H (.loc (H.length+1)) H':=by
 have hk: ∃oc od cd osl,c.K.lookup a=some ⟨oc,od,.cls cd,osl⟩:=by
  unfold makesIn at hm
  split at hm
  ·rename_i hk;exact⟨_,_,_,_,hk⟩
  ·cases hm
 obtain⟨oc,od,cd,osl,hk⟩:=hk
 have hcall:specialIn c.K (.ref a) "__call__" =some (some (.builtin "type.__call__")):=by
  have hm':=hm
  unfold makesIn at hm'
  rw[hk] at hm'
  simp only[Bool.and_eq_true,beq_iff_eq] at hm'
  exact hm'.1.2
 refine⟨by unfold keepIn;dsimp only;rw[hk];dsimp only;rw[hcall];rfl,fun A f m cel led T s vs hA X r=> ?_⟩
 refine call_cls X.F X.X X.N hm hi hf (fun x dx h' F N lt1 lt2=> ?_)
 have hd3:3<dx:=by
  have hlen:0<led.length:=by rw[X.size];exact List.length_pos_iff.mpr hne
  have hp:led[0]∈led:=List.getElem_mem _
  exact Nat.lt_trans (X.hi _ hp) (lt1 _ (mR _ (mW _ hp)))
 have X1:St c f m cel h' (led++[(dx,dictOf [] 0)]) T (H++[.dict []]):=X.new (fun p hp=>Nat.ne_of_lt (lt1 p hp)) F (fun p hp=>N p (.tail _ hp)) (.dict 0 .nil (by simp) (by simp)) hd3
 have X2:St c f m cel h' ((led++[(dx,dictOf [] 0)])++[(x,instObj a dx)]) T ((H++[.dict []])++[.inst a H.length]):=by
  refine X1.new (fun p hp=> ?_) F (fun p hp=> ?_) (.inst (hJ X.size)) (Nat.lt_trans hd3 lt2)
  ·rcases List.mem_append.mp hp with hp|hp
   ·exact Nat.ne_of_lt (Nat.lt_trans (lt1 p (mW _ hp)) lt2)
   ·rcases List.mem_append.mp hp with hp|hp
    ·rcases List.mem_append.mp hp with hp|hp
     ·exact Nat.ne_of_lt (Nat.lt_trans (lt1 p (mR _ (mW _ hp))) lt2)
     ·rw[List.mem_singleton] at hp;subst hp;exact Nat.ne_of_lt lt2
    ·exact Nat.ne_of_lt (Nat.lt_trans (lt1 p (mR _ (mR _ hp))) lt2)
  ·rcases List.mem_cons.mp hp with rfl|hp
   ·exact N _ (.head _)
   ·refine N p (.tail _ ?_)
    have goal:p∈(dx,dictOf [] 0)::(cel++(led++T)):= ?_
    ·exact goal
    simp only[List.mem_append,List.mem_cons,List.not_mem_nil,or_false] at hp⊢
    rcases hp with hp|(hp|hp)|hp
    ·exact Or.inr (Or.inl hp)
    ·exact .inr (Or.inr (Or.inl hp))
    ·exact Or.inl hp
    ·exact Or.inr (Or.inr (Or.inr hp))
 have E2:Ext (ai led) T (ai ((led++[(dx,dictOf [] 0)])++[(x,instObj a dx)])) T:=(eZ _ _ _).trans (eZ _ _ _)
 have L2:(ai ((led++[(dx,dictOf [] 0)])++[(x,instObj a dx)]))[H.length+1]?=some x:=by
  have:=hJ (p:=(x,instObj a dx)) X1.size
  simpa using this
 have hH:H++[MObj.dict [],MObj.inst a H.length]=(H++[.dict []])++[.inst a H.length]:=by simp
 refine codeAny_mono ((hH▸h).2 _ f m cel _ T {s with heap:=h'} (.ref x::vs) (hA.make a vs) X2 (.cons (.loc L2) (r.mono E2))) fun r s' hr=> ?_
 unfold xC at hr
 split at hr
 ·obtain⟨l3,T3,X3,e3,r3,o3⟩:=hr
  cases r3
  exact⟨rfl,l3,T3,X3,E2.trans e3,.loc (e3.pre _ _ L2),(Ok.mk s h' s.toks).trans o3⟩
 ·exact hr.elim
end
noncomputable abbrev As:=List (Nat×MObj)
inductive Sat(H:Hp):As→Prop
 |nil:Sat H []
 |cons {p:Nat} {o:MObj} {A:As}:H[p]?=some o→(∀q∈A,q.1≠p)→Sat H A→Sat H ((p,o)::A)
section
variable{H:Hp}{A B F:As}{p:Nat}{o o':MObj}
theorem Sat.mem{A:As}(h:Sat H A)(q)(hq:q∈A):H[q.1]?=some q.2:=by
 induction h with
 |nil=>exact nomatch hq
 |cons h _ r ih=>
  rcases List.mem_cons.mp hq with rfl|hq
  ·exact h
  ·exact ih hq
theorem Sat.at(h:Sat H A)(i:Nat)(e:A[i]?=some (p,o)):H[p]?=some o:=h.mem _ (mG e)
theorem Sat.keep{A:As}(h:Sat H A)(k: ∀q∈A,q.1≠p):Sat (H.set p o') A:=by
 induction h with
 |nil=>exact .nil
 |cons h g r ih=>exact .cons (by rw[List.getElem?_set_ne (Ne.symm (k _ (.head _)))];exact h) g (ih fun q hq=>k q (.tail _ hq))
theorem nC{q:Nat×MObj}: ∀ {A:As} {i:Nat},A[i]?=some (p,o)→q∈A.set i (p,o')→ ∃z∈A,z.1=q.1
 |[],i,e,_=>by simp at e
 |a::A,0,e,h=>by
  simp at e;subst e
  rcases List.mem_cons.mp h with rfl|h
  ·exact⟨_,.head _,rfl⟩
  ·exact⟨_,.tail _ h,rfl⟩
 |a::A,i+1,e,h=>by
  rcases List.mem_cons.mp h with rfl|h
  ·exact⟨_,.head _,rfl⟩
  ·obtain⟨z,hz,e⟩:=nC (A:=A) (i:=i) (by simpa using e) h
   exact⟨z,.tail _ hz,e⟩
theorem Sat.upd(h:Sat H A)(i:Nat)(e:A[i]?=some (p,o))(e2:A.set i (p,o')=B):Sat (H.set p o') B:=by
 subst e2
 induction h generalizing i with
 |nil=>simp at e
 | @cons p' o1 A h g r ih=>
  cases i with
  |zero=>
   simp at e
   obtain⟨rfl,rfl⟩:=e
   refine .cons ?_ g (r.keep g)
   rw[List.getElem?_set_self (gS h).1]
  |succ i=>
   have e':A[i]?=some (p,o):=by simpa using e
   refine .cons ?_ (fun q hq=> ?_) (ih i e')
   ·rw[List.getElem?_set_ne (g _ (mG e'))];exact h
   ·obtain⟨z,hz,ez⟩:=nC e' hq
    exact ez▸g z hz
theorem Sat.new(h:Sat H A):Sat (H++[o]) ((H.length,o)::A):=by
 have lt: ∀q∈A,q.1<H.length:=fun q hq=>(gS (h.mem q hq)).1
 refine .cons (by simp) (fun q hq=>Nat.ne_of_lt (lt q hq)) ?_
 clear lt
 induction h with
 |nil=>exact .nil
 |cons h g r ih=>exact .cons (by rw[List.getElem?_append_left (gS h).1];exact h) g ih
theorem Sat.new'(h:Sat H A)(e:o=o'):Sat (H++[o]) ((H.length,o')::A):=by subst e;exact h.new
theorem Sat.ne{q:Nat}(h:Sat H ((p,o)::A))(m:(q,o')∈A):q≠p:=by cases h with|cons _ g _=>exact g _ m
theorem Sat.tail(h:Sat H ((p,o)::A)):Sat H A:=by cases h with|cons _ _ r=>exact r
theorem Sat.perm(x:A.Perm B):Sat H A→Sat H B:=by
 induction x with
 |nil=>exact id
 |cons a x ih=>
  intro h
  cases h with
  |cons h g r=>exact .cons h (fun q hq=>g q (x.mem_iff.mpr hq)) (ih r)
 |swap a b l=>
  intro h
  cases h with
  |cons h g r=>cases r with
   |cons h' g' r=>exact .cons h' (fun q hq=>by
     rcases List.mem_cons.mp hq with rfl|hq
     ·exact fun e=>g _ (.head _) e.symm
     ·exact g' q hq) (.cons h (fun q hq=>g q (.tail _ hq)) r)
 |trans _ _ i j=>exact fun h=>j (i h)
theorem Sat.left(h:Sat H (A++B)):Sat H A:=by
 induction A with
 |nil=>exact .nil
 |cons a A ih=>cases h with|cons h g r=>exact .cons h (fun q hq=>g q (mW _ hq)) (ih r)
theorem Sat.right(h:Sat H (A++B)):Sat H B:=by
 induction A with
 |nil=>exact h
 |cons a A ih=>cases h with|cons h g r=>exact ih r
theorem Sat.comm(h:Sat H (A++B)):Sat H (B++A):=h.perm List.perm_append_comm
theorem Sat.mid{C:As}(h:Sat H (A++(B++C))):Sat H (B++(A++C)):=h.perm (by
 rw[←aA,←aA]
 exact(List.perm_append_comm).append_right C)
end
section
variable{K:Frag}{H:Hp}{n d:Nat}{C f:Addr}{es es':List (Str×MV)}{x:Str}{v u:MV}
theorem ie(h1:H[n]?=some (.inst C d))(h2:H[d]?=some (.dict es))(h3:kZ K C x=true)(h4:cN x es=some v)(h5:mf v=true):jv K H (.loc n) x=some v:=by
 unfold jv instAt bB
 rw[show bR (.loc n)=some n from rfl,aM,h1]
 show bd (bd H[d]? jB) _=_
 rw[h2]
 show(if kZ K C x=true then bd (cN x es) _ else _)=_
 rw[if_pos h3,h4,aM,if_pos h5]
theorem qu(h1:H[n]?=some (.inst C d))(h2:H[d]?=some (.dict es))(h3:kZ K C x=true)(h4:es.length<400)(h5:ce x u es=es'):k8 K H (.loc n) x u=some (H.set d (.dict es')):=by
 subst h5
 unfold k8 instAt bB
 rw[show bR (.loc n)=some n from rfl,aM,h1]
 show bd (bd H[d]? jB) _=_
 rw[h2]
 show(if kZ K C x=true∧es.length<400 then _ else _)=_
 rw[if_pos ⟨h3,h4⟩]
theorem uO(h1:H[n]?=some (.inst C d))(h2:H[d]?=some (.dict es))(h3:(cN x es).isNone=true)(h4:jV K C x=some f):dD K H (.loc n) x=some (some f):=by
 unfold dD
 rw[show bR (.loc n)=some n from rfl,aM,h1,aM]
 unfold bB
 dsimp only
 rw[h2]
 show(if(cN x es).isNone=true then _ else _)=_
 rw[if_pos h3,h4];rfl
theorem Df(h1:H[n]?=some (.dict es))(h2:cN x es=some v):eC H (.loc n) (.str x)=some v:=by
 show bd (bd H[n]? jB) (cN x)=_
 rw[h1]
 exact h2
theorem Dg(h1:H[n]?=some (.dict es))(h4:es.length<400)(h2:ce x u es=es'):iN H (.loc n) (.str x) u=some (H.set n (.dict es')):=by
 subst h2
 unfold iN bB
 rw[show bR (.loc n)=some n from rfl,aM]
 dsimp only
 rw[h1]
 show(if es.length<400 then _ else _)=_
 rw[if_pos h4]
theorem ao{l:List MV}(h:H[n]?=some (.list l)):aH H n=some l:=by unfold aH;rw[h];rfl
theorem ew{l:List MV}{k:Int}{j:Nat}(h:H[n]?=some (.list l))(h2:idx k l.length=some j)(h3:l[j]?=some v):eC H (.loc n) (.int k)=some v:=by
 show bd (aH H n) _=_
 rw[ao h,aM,h2,aM,h3]
theorem qw{l:List MV}{k:Int}{j:Nat}(h:H[n]?=some (.list l))(h2:idx k l.length=some j):iN H (.loc n) (.int k) u=some (H.set n (.list (l.set j u))):=by
 unfold iN
 rw[show bR (.loc n)=some n from rfl,aM]
 dsimp only
 rw[ao h,aM,h2,aM]
theorem ey(H:Hp)(a b:Int)(h:a≤b):ja H (.builtin "min") [.int a,.int b]=some (.int a,H):=by
 rw[show ja H (.builtin "min") [.int a,.int b]=some (.int (min a b),H) from rfl,Int.min_eq_left h]
theorem xF(H:Hp)(a b:Int)(h:b≤a):ja H (.builtin "min") [.int a,.int b]=some (.int b,H):=by
 rw[show ja H (.builtin "min") [.int a,.int b]=some (.int (min a b),H) from rfl,Int.min_eq_right h]
theorem Dh(H:Hp)(a b:Int)(h:b≤a):ja H (.builtin "max") [.int a,.int b]=some (.int a,H):=by
 rw[show ja H (.builtin "max") [.int a,.int b]=some (.int (max a b),H) from rfl,Int.max_eq_left h]
theorem fg(H:Hp)(a b:Int)(h:a≤b):ja H (.builtin "max") [.int a,.int b]=some (.int b,H):=by
 rw[show ja H (.builtin "max") [.int a,.int b]=some (.int (max a b),H) from rfl,Int.max_eq_right h]
theorem Fj(H:Hp)(a b:Int):ja H (.builtin "min") [.int a,.int b]=some (.int (min a b),H):=rfl
theorem Fk(H:Hp)(a b:Int):ja H (.builtin "max") [.int a,.int b]=some (.int (max a b),H):=rfl
theorem o8{l:List MV}(h:H[n]?=some (.list l)):ja H (.builtin "len") [.loc n]=some (.int l.length,H):=by
 rw[show ja H (.builtin "len") [.loc n]=bd (aH H n) fun l=>some (.int l.length,H) from rfl,ao h,aM]
theorem jH{l:List MV}(h:H[n]?=some (.list l)):ja H (.type "list") [.loc n]=some (.loc H.length,H++[.list l]):=by
 rw[show ja H (.type "list") [.loc n]=bd (aH H n) fun l=>some (.loc H.length,H++[.list l]) from rfl,ao h,aM]
theorem B4{l:List MV}:ja H (.type "list") [.tup l]=some (.loc H.length,H++[.list l]):=rfl
theorem uP{l:List MV}(h:H[n]?=some (.list l)):ja H (.type "tuple") [.loc n]=some (.tup l,H):=by
 rw[show ja H (.type "tuple") [.loc n]=bd (aH H n) fun l=>some (.tup l,H) from rfl,ao h,aM]
theorem fM{l:List MV}(h:H[n]?=some (.list l)):ka H (.loc n)=some (l,[(n,l)]):=by
 rw[show ka H (.loc n)=bd (aH H n) fun l=>some (l,[(n,l)]) from rfl,ao h,aM]
theorem gg{l:List MV}(h:H[n]?=some (.list l)):dO H "enumerate" "enumerate" [.loc n]=some (bm l,[(n,l)]):=by
 rw[show dO H "enumerate" "enumerate" [.loc n]=bd (aH H n) fun l=>some (bm l,[(n,l)]) from rfl,ao h,aM]
theorem uQ{m:Nat}{l r:List MV}(h:H[n]?=some (.list l))(h2:H[m]?=some (.list r))(h3:l.length=r.length):dO H "zip" "zip" [.loc n,.loc m]=some (dN l r,[(n,l),(m,r)]):=by
 rw[show dO H "zip" "zip" [.loc n,.loc m]=bd (aH H n) fun l=>bd (aH H m) fun r=>if l.length=r.length then some (dN l r,[(n,l),(m,r)]) else none from rfl,ao h,aM,ao h2,aM,if_pos h3]
theorem uR{a b:Int}(h1:bF a)(h2:bF b):dO H "range" "range" [.int a,.int b]=some (aX a (b- a).toNat 1,[]):=by
 rw[show dO H "range" "range" [.int a,.int b]=bd (if bF a∧bF b then some (aX a (b- a).toNat 1) else none) fun l=>some (l,[]) from rfl,if_pos ⟨h1,h2⟩,aM]
theorem r9{b:Int}(h2:bF b):dO H "range" "range" [.int b]=some (aX 0 b.toNat 1,[]):=by
 rw[show dO H "range" "range" [.int b]=bd (if bF b then some (aX 0 b.toNat 1) else none) fun l=>some (l,[]) from rfl,if_pos h2,aM]
theorem xG{a b:Int}(h1:bF a)(h2:bF b):dO H "range" "range" [.int a,.int b,.int (-1)]=some (aX a (a- b).toNat (-1),[]):=by
 rw[show dO H "range" "range" [.int a,.int b,.int (-1)]=bd (if bF a∧bF b then some (aX a (a- b).toNat (-1)) else none) fun l=>some (l,[]) from rfl,if_pos ⟨h1,h2⟩,aM]
theorem B5{a b:Int}(h:0<b):cB H .Mod (.int a) (.int b)=some (.int (a.fmod b),H):=by
 rw[show cB H .Mod (.int a) (.int b)=if 0<b then some (.int (a.fmod b),H) else none from rfl,if_pos h]
theorem B6{a b:Int}(h1:bF a)(h:0<b)(h2:bF b):cB H .FloorDiv (.int a) (.int b)=some (.int (a.fdiv b),H):=by
 rw[show cB H .FloorDiv (.int a) (.int b)=if bF a∧0<b∧bF b then some (.int (a.fdiv b),H) else none from rfl,if_pos ⟨h1,h,h2⟩]
theorem B7{a b:Int}(h1:bF a)(h2:bF b):cB H .Mult (.int a) (.int b)=some (.int (a*b),H):=by
 rw[show cB H .Mult (.int a) (.int b)=if bF a∧bF b then some (.int (a*b),H) else none from rfl,if_pos ⟨h1,h2⟩]
theorem B8{k:Int}{a:MV}(h:H[n]?=some (.list [a]))(h1:bF k)(h2:k≤1000):cB H .Mult (.loc n) (.int k)=some (.loc H.length,H++[.list (List.replicate k.toNat a)]):=by
 rw[show cB H .Mult (.loc n) (.int k)=bd (aH H n) fun l=>bd (one l) fun a=>if bF k∧k≤1000 then some (.loc H.length,H++[.list (List.replicate k.toNat a)]) else none from rfl,ao h,aM,show one [a]=some a from rfl,aM,if_pos ⟨h1,h2⟩]
theorem zd{m:Nat}{l r:List MV}(h:H[n]?=some (.list l))(h2:H[m]?=some (.list r))(h3:l.length+r.length≤dK):cB H .Add (.loc n) (.loc m)=some (.loc H.length,H++[.list (l++r)]):=by
 rw[show cB H .Add (.loc n) (.loc m)=bd (aH H n) fun l=>bd (aH H m) fun r=>if l.length+r.length≤dK then some (.loc H.length,H++[.list (l++r)]) else none from rfl,ao h,aM,ao h2,aM,if_pos h3]
theorem Ev{l r:List MV}(h3:l.length+r.length≤dK):cB H .Add (.tup l) (.tup r)=some (.tup (l++r),H):=by
 rw[show cB H .Add (.tup l) (.tup r)=if l.length+r.length≤dK then some (.tup (l++r),H) else none from rfl,if_pos h3]
theorem Fm{l:List MV}:eY H .Eq (.tup l) (.tup [])=some l.isEmpty:=rfl
theorem Fn{l:List MV}:eY H .NotEq (.tup l) (.tup [])=some (!l.isEmpty):=rfl
theorem uS{m:Nat}{l:List MV}(h:H[n]?=some (.list l))(h2:H[m]?=some (.list [])):eY H .NotEq (.loc n) (.loc m)=some (!l.isEmpty):=by
 rw[show eY H .NotEq (.loc n) (.loc m)=bd (aH H n) fun l=>bd (aH H m) fun r=>if r.isEmpty=true then some (!l.isEmpty) else none from rfl,ao h,aM,ao h2,aM];rfl
theorem B9{m:Nat}{l:List MV}(h:H[n]?=some (.list l))(h2:H[m]?=some (.list [])):eY H .Eq (.loc n) (.loc m)=some l.isEmpty:=by
 rw[show eY H .Eq (.loc n) (.loc m)=bd (aH H n) fun l=>bd (aH H m) fun r=>if r.isEmpty=true then some l.isEmpty else er H (.loc n) (.loc m) from rfl,ao h,aM,ao h2,aM];rfl
end
noncomputable abbrev pw:Program:=PySem.Challenge.pw_rh0242_01
noncomputable def uT:Stmt→List Stmt
 | .FunctionDef (body:=b) ..=>b
 | .ClassDef (body:=b) ..=>b
 |_=>[]
noncomputable def Cb:Stmt→Arguments
 | .FunctionDef (args:=a) ..=>a
 |_=>default
noncomputable def Ce:Stmt→Scope
 | .FunctionDef (scope:=a) ..=>a
 |_=>default
noncomputable def bY(i:Nat):Stmt:=(pw.main.body[i]?).getD default
noncomputable def be(i j:Nat):Stmt:=((uT (bY i))[j]?).getD default
noncomputable def en(P:Params)(x:Str)(t:Nat)(v:Value):DictEntry:=⟨PyData.keyHash P x,.str x t,v⟩
noncomputable def lA(st:Stmt)(n q:Str)(dV kV doc pm:Value)(an:Option Addr)(cd ct:Value):Obj:=
 {cls:= .type "function",data:= .func (fnOf n q (Cb st) (uT st) (Ce st) dV kV doc pm an cd ct)}
noncomputable def xH(a t t2:Nat)(line argc flags:Int)(n q:Str):Obj:=
 {cls:= .type "code",data:= .fields #[.str n t,.str q (t+1),.str "/claim/cut.py" (t+2),.int line 0,.int argc 0,.int 0 0,.int 0 0,.int flags 0,.ref (a- 5),.bool true,.int 181 0,.ref (a- 4),.none,.ref (a- 3),.ref (a- 2),.ref (a- 1),.int t2 0,.int line 0,.str "/claim/cut.py" (t2+1)]}
noncomputable abbrev eR(P:Params)(x:Str)(t r:Nat):DictEntry:=en P x t (.ref r)
noncomputable def jw(l:List Value)(n:Nat):Obj:={cls:= .type "tuple",data:= .seq l.toArray n}
noncomputable def uU(P:Params):Obj:={cls:= .type "dict",data:= .dict #[en P "__name__" 165 (.str "law_rh0242_01" 1896),en P "__doc__" 166 .none,en P "__package__" 167 .none,en P "__loader__" 168 (.builtin "__main__.__loader__#opaque"),en P "__spec__" 169 .none,eR P "__annotations__" 170 6,eR P "__builtins__" 171 4,en P "__file__" 173 (.str "/claim/cut.py" 172),en P "__cached__" 174 .none,eR P "_wall" 193 21,en P "NO_COLOUR" 198 (.int (-1) 197),eR P "PLAIN" 201 22,en P "BACK" 203 (.int (2) 202),en P "BLANK" 205 (.int (32) 204),eR P "TermError" 234 40,eR P "BadSize" 250 53,eR P "clamp" 259 62,eR P "erased_pen" 266 69,eR P "blank_cell" 273 76,eR P "is_blank" 280 83,eR P "is_plain_blank" 287 90,en P "WIDTH_JOINER" 291 (.int (8205) 290),en P "WIDTH_PICTURE" 293 (.int (65039) 292),en P "WIDTH_KEYCAP" 295 (.int (8419) 294),en P "FIRST_MODIFIER" 298 (.int (127995) 296),en P "LAST_MODIFIER" 299 (.int (127999) 297),en P "FIRST_REGION" 302 (.int (127462) 300),en P "LAST_REGION" 303 (.int (127487) 301),eR P "WIDTH_KEYS" 316 99,eR P "width_in_ranges" 327 106,eR P "width_check_ranges" 338 113,eR P "WidthTable" 388 144,eR P "is_region" 395 155,eR P "is_modifier" 402 162,eR P "width_bare" 409 169,eR P "joins" 415 174,eR P "cluster_width" 421 179,en P "ASCII_SET" 425 (.bytes #[66] 424),en P "SUPPLEMENT_SET" 427 (.bytes #[37,53] 426),en P "LATIN_SET" 429 (.bytes #[45,65] 428),en P "LEFT_FIRST" 431 (.int (32) 430),en P "LEFT_LAST" 433 (.int (127) 432),en P "RIGHT_FIRST" 435 (.int (160) 434),en P "RIGHT_LAST" 437 (.int (255) 436),en P "HIGH_BIT" 439 (.int (128) 438),eR P "charset_pairs" 447 186,eR P "charset_drawing" 454 193,eR P "charset_supplement" 463 200,eR P "charset_national" 470 207,eR P "charset_table" 477 214,eR P "Charsets" 590 303,eR P "charset_on_right" 599 314,en P "TAB_WIDTH" 603 (.int (8) 602),eR P "Cursor" 667 359,eR P "Margins" 830 492,eR P "Tabs" 949 591,eR P "LINE_SIZES" 956 596,eR P "line_blanks" 964 603,eR P "right_half" 971 610,eR P "line_part" 979 617,eR P "line_slice" 989 624,eR P "line_codes" 999 631,eR P "Line" 1177 756,eR P "Grid" 1406 905,eR P "grid_cut" 1413 916,eR P "grid_mended" 1421 923,eR P "WIDE_SIZES" 1427 924,eR P "Screen" 1779 1196,eR P "edit_is_within" 1788 1207,eR P "shift_left" 1797 1214,eR P "shift_right" 1806 1221,eR P "back_index" 1814 1228,eR P "forward_index" 1822 1235,eR P "MOUSE_MODES" 1829 1236,eR P "MOUSE_ENCODINGS" 1834 1237,eR P "FIRST_ON" 1840 1238,eR P "modes_group" 1847 1245,eR P "Modes" 1895 1276,eR P "_law_take" 1906 1287,eR P "_law_bare" 1913 1294,eR P "_law_cut" 1921 1301,eR P "_law_first" 1928 1308,eR P "_law_last" 1935 1315,eR P "_law_scrolled" 1941 1320,eR P "_law_shifted" 1955 1327,eR P "_law_feed" 1965 1334,eR P "_law_wrapped" 1973 1341,eR P "_law_written" 1987 1348,eR P "_law_marked" 2000 1355,eR P "_law_back" 2009 1362,eR P "_law_sideways" 2019 1369,eR P "_law_margins" 2033 1376,eR P "_law_signs" 2045 1383,eR P "_law_again" 2056 1390,eR P "_law_turned" 2068 1397,eR P "_law_deed" 2080 1404,eR P "_law_is_so" 2086 1409,eR P "law" 2092 1414] 98}
noncomputable abbrev kO(n:Nat)(o:Obj)(r:Frag):Frag:=(n,o)::r
noncomputable abbrev xI(es:Array DictEntry)(n:Nat):Obj:={cls:= .type "dict",data:= .dict es n}
noncomputable abbrev xJ(n ns:Nat)(q:String)(t t2:Nat):Obj:={cls:= .type "type",data:= .cls {name:=q,bases:=[(.type "object")],mro:=[(.ref n),(.type "object")],ns:=ns,qualname:=q,hasDict:=true,slotNames:=[],subclasses:=[],abstract:=false,collection:=none,hasDel:=false},slots:= #[none,none,(some (.str q t)),(some (.str q t2)),(some (.builtin "object.__new__")),(some (.bool true))]}
noncomputable abbrev Ew:Value:=(.str "termcore.base" 194)
noncomputable abbrev Di:Value:=(.str "termcore.cellwidths" 288)
noncomputable abbrev Cf:Value:=(.str "termcore.charsets" 422)
noncomputable abbrev wI:Value:=(.str "termcore.cursor" 600)
noncomputable abbrev wJ:Value:=(.str "termcore.lines" 950)
noncomputable abbrev sa:Value:=(.str "termcore.grid" 1178)
noncomputable abbrev jI:Value:=(.str "termcore.screen" 1422)
noncomputable abbrev Cg:Value:=(.str "termcore.editing" 1780)
noncomputable abbrev Dj:Value:=(.str "termcore.modes" 1823)
noncomputable abbrev nD:Value:=(.str "law_rh0242_01" 1896)
noncomputable abbrev fB(n t t2:Nat)(line argc fl:Int)(st:Stmt)(x q:Str)(m dv:Value)(r:Frag):Frag:=(n,xH n t t2 line argc fl x q)::(n+1,lA st x q dv .none .none m none (.ref n) .none)::r
noncomputable abbrev fA(n t t2:Nat)(line argc fl:Int)(st:Stmt)(x q:Str)(m:Value)(r:Frag):Frag:=fB n t t2 line argc fl st x q m .none r
noncomputable def KK(P:Params):Frag:=
 kO 3 (uU P)<|
 kO 22 (jw [(.int (0) 199),(.int (-1) 197),(.int (-1) 197),(.int (-1) 197),(.int (0) 200)] 0)<|
 fA 61 251 257 15 3 3 (bY 8) "clamp" "clamp" Ew<|
 fA 68 260 264 17 1 3 (bY 9) "erased_pen" "erased_pen" Ew<|
 fA 75 267 271 19 1 3 (bY 10) "blank_cell" "blank_cell" Ew<|
 kO 99 (jw [(.int (35) 304),(.int (42) 305),(.int (48) 306),(.int (49) 307),(.int (50) 308),(.int (51) 309),(.int (52) 310),(.int (53) 311),(.int (54) 312),(.int (55) 313),(.int (56) 314),(.int (57) 315)] 0)<|
 fA 105 317 325 32 2 3 (bY 20) "width_in_ranges" "width_in_ranges" Di<|
 fA 112 328 336 41 1 3 (bY 21) "width_check_ranges" "width_check_ranges" Di<|
 fA 126 351 359 49 4 3 (be 22 0) "__init__" "WidthTable.__init__" Di<|
 fA 133 362 367 56 2 3 (be 22 1) "width_of" "WidthTable.width_of" Di<|
 kO 143 (xI #[en P "__module__" 346 (.str "termcore.cellwidths" 288),en P "__firstlineno__" 350 (.int (47) 349),eR P "__init__" 361 127,eR P "width_of" 369 134,eR P "is_picture" 377 141,eR P "__static_attributes__" 381 142,eR P "__dict__" 383 145,eR P "__weakref__" 385 146,en P "__doc__" 386 .none] 4)<|
 kO 144 (xJ 144 143 "WidthTable" 339 347)<|
 fA 213 471 475 138 1 3 (bY 41) "charset_table" "charset_table" Cf<|
 kO 222 (jw [.none] 0)<|
 fB 228 490 495 150 2 3 (be 42 0) "__init__" "Charsets.__init__" Cf (.ref 222)<|
 fA 235 498 503 154 2 3 (be 42 1) "table" "Charsets.table" Cf<|
 fA 242 506 510 159 1 3 (be 42 2) "reset" "Charsets.reset" Cf<|
 kO 286 (jw [(.bool false)] 0)<|
 fB 292 560 568 183 3 3 (be 42 9) "mapped" "Charsets.mapped" Cf (.ref 286)<|
 kO 302 (xI #[en P "__module__" 485 (.str "termcore.charsets" 422),en P "__firstlineno__" 489 (.int (148) 488),eR P "__init__" 497 229,eR P "table" 505 236,eR P "reset" 512 243,eR P "copy" 519 250,eR P "designate" 528 257,eR P "shift_in" 535 264,eR P "shift_out" 542 271,eR P "lock" 551 278,eR P "single" 559 285,eR P "mapped" 570 293,eR P "is_plain" 577 300,eR P "__static_attributes__" 583 301,eR P "__dict__" 585 304,eR P "__weakref__" 587 305,en P "__doc__" 588 .none] 4)<|
 kO 303 (xJ 303 302 "Charsets" 478 486)<|
 fA 327 616 620 203 1 3 (be 46 0) "__init__" "Cursor.__init__" wI<|
 kO 358 (xI #[en P "__module__" 611 (.str "termcore.cursor" 600),en P "__firstlineno__" 615 (.int (201) 614),eR P "__init__" 622 328,eR P "copy" 629 335,eR P "go" 638 342,eR P "place" 645 349,eR P "equals" 653 356,eR P "__static_attributes__" 660 357,eR P "__dict__" 662 360,eR P "__weakref__" 664 361,en P "__doc__" 665 .none] 4)<|
 kO 359 (xJ 359 358 "Cursor" 604 612)<|
 fA 376 680 686 226 3 3 (be 47 0) "__init__" "Margins.__init__" wI<|
 fA 383 689 696 234 3 3 (be 47 1) "set_rows" "Margins.set_rows" wI<|
 fA 390 699 706 241 3 3 (be 47 2) "set_columns" "Margins.set_columns" wI<|
 fA 418 732 736 257 1 3 (be 47 6) "area" "Margins.area" wI<|
 fA 425 739 745 260 3 3 (be 47 7) "holds" "Margins.holds" wI<|
 fA 432 748 753 263 2 3 (be 47 8) "holds_row" "Margins.holds_row" wI<|
 fA 439 756 761 266 2 3 (be 47 9) "holds_column" "Margins.holds_column" wI<|
 kO 491 (xI #[en P "__module__" 675 (.str "termcore.cursor" 600),en P "__firstlineno__" 679 (.int (224) 678),eR P "__init__" 688 377,eR P "set_rows" 698 384,eR P "set_columns" 708 391,eR P "clear_rows" 715 398,eR P "clear_columns" 722 405,eR P "resize" 731 412,eR P "area" 738 419,eR P "holds" 747 426,eR P "holds_row" 755 433,eR P "holds_column" 763 440,eR P "is_whole_width" 770 447,eR P "is_whole" 777 454,eR P "first_row" 785 461,eR P "last_row" 793 468,eR P "first_column" 801 475,eR P "last_column" 809 482,eR P "copy" 816 489,eR P "__static_attributes__" 823 490,eR P "__dict__" 825 493,eR P "__weakref__" 827 494,en P "__doc__" 828 .none] 4)<|
 kO 492 (xJ 492 491 "Margins" 668 676)<|
 fA 509 843 848 291 2 3 (be 48 0) "__init__" "Tabs.__init__" wI<|
 fA 516 851 857 296 2 3 (be 48 1) "put_eighths" "Tabs.put_eighths" wI<|
 kO 590 (xI #[en P "__module__" 838 (.str "termcore.cursor" 600),en P "__firstlineno__" 842 (.int (289) 841),eR P "__init__" 850 510,eR P "put_eighths" 859 517,eR P "set" 867 524,eR P "clear" 875 531,eR P "clear_all" 882 538,eR P "reset" 889 545,eR P "told" 896 552,eR P "put" 905 559,eR P "next_from" 914 566,eR P "back_from" 924 574,eR P "resize" 932 581,eR P "copy" 939 588,eR P "__static_attributes__" 942 589,eR P "__dict__" 944 592,eR P "__weakref__" 946 593,en P "__doc__" 947 .none] 4)<|
 kO 591 (xJ 591 590 "Tabs" 831 839)<|
 kO 596 (jw [(.str "single" 952),(.str "wide" 953),(.str "top" 954),(.str "bottom" 955)] 0)<|
 fA 602 957 962 336 2 3 (bY 51) "line_blanks" "line_blanks" wJ<|
 fA 609 965 969 338 1 3 (bY 52) "right_half" "right_half" wJ<|
 fA 616 972 977 340 2 3 (bY 53) "line_part" "line_part" wJ<|
 fA 644 1012 1018 362 3 3 (be 56 0) "__init__" "Line.__init__" wJ<|
 fA 666 1036 1041 374 2 3 (be 56 3) "part" "Line.part" wJ<|
 fA 673 1044 1050 377 3 3 (be 56 4) "put" "Line.put" wJ<|
 kO 682 (jw [(.bool false)] 0)<|
 fB 688 1063 1073 396 5 3 (be 56 6) "erase" "Line.erase" wJ (.ref 682)<|
 fA 695 1076 1090 409 6 3 (be 56 7) "shift" "Line.shift" wJ<|
 fA 702 1093 1101 424 5 3 (be 56 8) "insert" "Line.insert" wJ<|
 fA 709 1104 1112 427 5 3 (be 56 9) "delete" "Line.delete" wJ<|
 kO 755 (xI #[en P "__module__" 1007 (.str "termcore.lines" 950),en P "__firstlineno__" 1011 (.int (360) 1010),eR P "__init__" 1020 645,eR P "columns" 1028 653,eR P "shown" 1035 660,eR P "part" 1043 667,eR P "put" 1052 674,eR P "put_cells" 1062 681,eR P "erase" 1075 689,eR P "shift" 1092 696,eR P "insert" 1103 703,eR P "delete" 1114 710,eR P "fill" 1124 717,eR P "copy" 1131 724,eR P "codes" 1141 732,eR P "used" 1149 739,eR P "resized" 1158 746,eR P "equals" 1166 753,eR P "__static_attributes__" 1170 754,eR P "__dict__" 1172 757,eR P "__weakref__" 1174 758,en P "__doc__" 1175 .none] 4)<|
 kO 756 (xJ 756 755 "Line" 1000 1008)<|
 kO 771 ({cls:= .type "code",data:= .fields #[(.str "__init__" 1192),(.str "Grid.__init__" 1193),(.str "/claim/cut.py" 1194),(.int (453) 0),(.int (3) 0),(.int (0) 0),(.int (0) 0),(.int (3) 0),(.ref 768),(.bool true),(.int (181) 0),(.ref 769),.none,.none,.none,(.ref 770),(.int (1195) 0),(.int (453) 0),(.str "/claim/cut.py" 1196)]})<|
 kO 772 (lA (be 58 0) "__init__" "Grid.__init__" .none .none .none (.str "termcore.grid" 1178) none (.ref 771) .none)<|
 fA 778 1198 1203 460 2 3 (be 58 1) "line" "Grid.line" sa<|
 fA 792 1213 1218 466 2 3 (be 58 3) "is_wide" "Grid.is_wide" sa<|
 kO 797 ({cls:= .type "code",data:= .fields #[(.str "fresh" 1221),(.str "Grid.fresh" 1222),(.str "/claim/cut.py" 1223),(.int (469) 0),(.int (3) 0),(.int (0) 0),(.int (0) 0),(.int (3) 0),(.ref 794),(.bool true),(.int (181) 0),(.ref 795),.none,.none,.none,(.ref 796),(.int (1224) 0),(.int (469) 0),(.str "/claim/cut.py" 1225)]})<|
 kO 798 (lA (be 58 4) "fresh" "Grid.fresh" .none .none .none (.str "termcore.grid" 1178) none (.ref 797) .none)<|
 fA 804 1227 1232 472 2 3 (be 58 5) "part_above" "Grid.part_above" sa<|
 fA 811 1235 1249 476 4 3 (be 58 6) "scroll_up" "Grid.scroll_up" sa<|
 fA 818 1252 1265 496 4 3 (be 58 7) "scroll_down" "Grid.scroll_down" sa<|
 fA 825 1268 1274 510 2 3 (be 58 8) "unwrap" "Grid.unwrap" sa<|
 fA 832 1277 1290 517 5 3 (be 58 9) "insert_columns" "Grid.insert_columns" sa<|
 fA 839 1293 1306 524 5 3 (be 58 10) "delete_columns" "Grid.delete_columns" sa<|
 fA 846 1309 1316 531 4 3 (be 58 11) "cells_of" "Grid.cells_of" sa<|
 fA 853 1319 1330 534 4 3 (be 58 12) "put_cells" "Grid.put_cells" sa<|
 kO 855 (jw [(.bool false)] 0)<|
 fB 861 1333 1345 545 4 3 (be 58 13) "erase_area" "Grid.erase_area" sa (.ref 855)<|
 kO 904 (xI #[en P "__module__" 1187 (.str "termcore.grid" 1178),en P "__firstlineno__" 1191 (.int (451) 1190),eR P "__init__" 1197 772,eR P "line" 1205 779,eR P "whole_area" 1212 786,eR P "is_wide" 1220 793,eR P "fresh" 1226 798,eR P "part_above" 1234 805,eR P "scroll_up" 1251 812,eR P "scroll_down" 1267 819,eR P "unwrap" 1276 826,eR P "insert_columns" 1292 833,eR P "delete_columns" 1308 840,eR P "cells_of" 1318 847,eR P "put_cells" 1332 854,eR P "erase_area" 1347 862,eR P "fill_area" 1356 869,eR P "copy_area" 1366 876,eR P "cells_in" 1374 883,eR P "copy" 1381 890,eR P "equals" 1389 897,eR P "text" 1395 902,eR P "__static_attributes__" 1399 903,eR P "__dict__" 1401 906,eR P "__weakref__" 1403 907,en P "__doc__" 1404 .none] 4)<|
 kO 905 (xJ 905 904 "Grid" 1180 1188)<|
 fA 915 1407 1411 569 1 3 (bY 59) "grid_cut" "grid_cut" sa<|
 fA 922 1414 1419 571 1 3 (bY 60) "grid_mended" "grid_mended" sa<|
 kO 924 (jw [(.str "wide" 1424),(.str "top" 1425),(.str "bottom" 1426)] 0)<|
 kO 932 (jw [.none] 0)<|
 fB 938 1440 1449 582 6 3 (be 63 0) "__init__" "Screen.__init__" jI (.ref 932)<|
 fA 945 1452 1456 597 1 3 (be 63 1) "line" "Screen.line" jI<|
 fA 952 1459 1464 600 2 3 (be 63 2) "width_of_line" "Screen.width_of_line" jI<|
 fA 959 1467 1472 603 1 3 (be 63 3) "right_bound" "Screen.right_bound" jI<|
 fA 966 1475 1479 607 1 3 (be 63 4) "left_bound" "Screen.left_bound" jI<|
 fA 973 1482 1486 610 1 3 (be 63 5) "is_between_sides" "Screen.is_between_sides" jI<|
 fA 987 1496 1502 616 3 3 (be 63 7) "place" "Screen.place" jI<|
 fA 994 1505 1512 621 2 3 (be 63 8) "put_code" "Screen.put_code" jI<|
 fA 1001 1515 1521 629 1 3 (be 63 9) "place_ahead" "Screen.place_ahead" jI<|
 fA 1015 1533 1544 643 2 3 (be 63 11) "join" "Screen.join" jI<|
 fA 1022 1547 1552 658 1 3 (be 63 12) "is_narrow" "Screen.is_narrow" jI<|
 fA 1029 1555 1563 662 3 3 (be 63 13) "put_sign" "Screen.put_sign" jI<|
 fA 1036 1566 1573 690 3 3 (be 63 14) "advance" "Screen.advance" jI<|
 fA 1043 1576 1584 699 1 3 (be 63 15) "wrap" "Screen.wrap" jI<|
 fA 1050 1587 1595 710 2 3 (be 63 16) "repeat" "Screen.repeat" jI<|
 fA 1057 1598 1605 719 2 3 (be 63 17) "scroll_up" "Screen.scroll_up" jI<|
 fA 1064 1608 1614 725 2 3 (be 63 18) "scroll_down" "Screen.scroll_down" jI<|
 fA 1071 1617 1621 731 1 3 (be 63 19) "index" "Screen.index" jI<|
 fA 1078 1624 1628 740 1 3 (be 63 20) "reverse_index" "Screen.reverse_index" jI<|
 fA 1085 1631 1635 749 1 3 (be 63 21) "keep_within_line" "Screen.keep_within_line" jI<|
 fA 1106 1652 1661 758 1 3 (be 63 24) "backspace" "Screen.backspace" jI<|
 fA 1143 1696 1700 786 1 3 (be 63 29) "home" "Screen.home" jI<|
 fA 1150 1703 1710 792 3 3 (be 63 30) "set_margins" "Screen.set_margins" jI<|
 fA 1157 1713 1720 798 3 3 (be 63 31) "set_side_margins" "Screen.set_side_margins" jI<|
 kO 1195 (xI #[en P "__module__" 1435 (.str "termcore.screen" 1422),en P "__firstlineno__" 1439 (.int (580) 1438),eR P "__init__" 1451 939,eR P "line" 1458 946,eR P "width_of_line" 1466 953,eR P "right_bound" 1474 960,eR P "left_bound" 1481 967,eR P "is_between_sides" 1488 974,eR P "is_whole" 1495 981,eR P "place" 1504 988,eR P "put_code" 1514 995,eR P "place_ahead" 1523 1002,eR P "is_joined" 1532 1009,eR P "join" 1546 1016,eR P "is_narrow" 1554 1023,eR P "put_sign" 1565 1030,eR P "advance" 1575 1037,eR P "wrap" 1586 1044,eR P "repeat" 1597 1051,eR P "scroll_up" 1607 1058,eR P "scroll_down" 1616 1065,eR P "index" 1623 1072,eR P "reverse_index" 1630 1079,eR P "keep_within_line" 1637 1086,eR P "carriage_return" 1644 1093,eR P "next_line" 1651 1100,eR P "backspace" 1663 1107,eR P "tab" 1672 1115,eR P "back_tab" 1681 1123,eR P "save_cursor" 1688 1130,eR P "restore_cursor" 1695 1137,eR P "home" 1702 1144,eR P "set_margins" 1712 1151,eR P "set_side_margins" 1722 1158,eR P "line_size" 1730 1165,eR P "align" 1737 1172,eR P "soft_reset" 1744 1179,eR P "full_reset" 1751 1186,eR P "blank" 1758 1193,eR P "__static_attributes__" 1772 1194,eR P "__dict__" 1774 1197,eR P "__weakref__" 1776 1198,en P "__doc__" 1777 .none] 4)<|
 kO 1196 (xJ 1196 1195 "Screen" 1428 1436)<|
 fA 1206 1782 1786 819 1 3 (bY 65) "edit_is_within" "edit_is_within" Cg<|
 fA 1213 1789 1795 821 2 3 (bY 66) "shift_left" "shift_left" Cg<|
 fA 1220 1798 1804 826 2 3 (bY 67) "shift_right" "shift_right" Cg<|
 fA 1227 1807 1812 831 1 3 (bY 68) "back_index" "back_index" Cg<|
 fA 1234 1815 1820 838 1 3 (bY 69) "forward_index" "forward_index" Cg<|
 kO 1236 (jw [(.str "mouse_x10" 1825),(.str "mouse_click" 1826),(.str "mouse_drag" 1827),(.str "mouse_all" 1828)] 0)<|
 kO 1237 (jw [(.str "mouse_utf8" 1830),(.str "mouse_sgr" 1831),(.str "mouse_urxvt" 1832),(.str "mouse_pixels" 1833)] 0)<|
 kO 1238 (jw [(.str "send_receive" 1835),(.str "autowrap" 1836),(.str "autorepeat" 1837),(.str "show_cursor" 1838),(.str "num_lock" 1839)] 0)<|
 fA 1244 1841 1845 849 1 3 (bY 74) "modes_group" "modes_group" Dj<|
 fA 1258 1860 1865 855 1 3 (be 75 0) "__init__" "Modes.__init__" Dj<|
 fA 1265 1868 1873 861 2 3 (be 75 1) "is_on" "Modes.is_on" Dj<|
 fA 1272 1876 1883 864 3 3 (be 75 2) "set" "Modes.set" Dj<|
 kO 1275 (xI #[en P "__module__" 1855 (.str "termcore.modes" 1823),en P "__firstlineno__" 1859 (.int (853) 1858),eR P "__init__" 1867 1259,eR P "is_on" 1875 1266,eR P "set" 1885 1273,eR P "__static_attributes__" 1888 1274,eR P "__dict__" 1890 1277,eR P "__weakref__" 1892 1278,en P "__doc__" 1893 .none] 4)<|
 kO 1276 (xJ 1276 1275 "Modes" 1848 1856)<|
 fA 1286 1898 1904 870 2 3 (bY 77) "_law_take" "_law_take" nD<|
 fA 1293 1907 1911 874 1 3 (bY 78) "_law_bare" "_law_bare" nD<|
 fA 1300 1914 1919 876 2 3 (bY 79) "_law_cut" "_law_cut" nD<|
 fA 1307 1922 1926 879 1 3 (bY 80) "_law_first" "_law_first" nD<|
 fA 1314 1929 1933 881 1 3 (bY 81) "_law_last" "_law_last" nD<|
 kO 1319 ({cls:= .type "code",data:= .fields #[(.str "_law_scrolled" 1936),(.str "_law_scrolled" 1937),(.str "/claim/cut.py" 1938),(.int (883) 0),(.int (2) 0),(.int (0) 0),(.int (0) 0),(.int (3) 0),(.ref 1316),(.bool true),(.int (181) 0),(.ref 1317),.none,.none,.none,(.ref 1318),(.int (1939) 0),(.int (883) 0),(.str "/claim/cut.py" 1940)]})<|
 kO 1320 (lA (bY 82) "_law_scrolled" "_law_scrolled" .none .none .none (.str "law_rh0242_01" 1896) none (.ref 1319) .none)<|
 fA 1326 1942 1953 894 2 3 (bY 83) "_law_shifted" "_law_shifted" nD<|
 fA 1333 1956 1963 901 2 3 (bY 84) "_law_feed" "_law_feed" nD<|
 fA 1340 1966 1971 909 1 3 (bY 85) "_law_wrapped" "_law_wrapped" nD<|
 fA 1347 1974 1985 913 3 3 (bY 86) "_law_written" "_law_written" nD<|
 fA 1354 1988 1998 933 1 3 (bY 87) "_law_marked" "_law_marked" nD<|
 fA 1361 2001 2007 942 1 3 (bY 88) "_law_back" "_law_back" nD<|
 fA 1368 2010 2017 953 3 3 (bY 89) "_law_sideways" "_law_sideways" nD<|
 fA 1375 2020 2031 964 3 3 (bY 90) "_law_margins" "_law_margins" nD<|
 fA 1382 2034 2043 979 4 3 (bY 91) "_law_signs" "_law_signs" nD<|
 fA 1389 2046 2054 985 3 3 (bY 92) "_law_again" "_law_again" nD<|
 fA 1396 2057 2066 991 3 3 (bY 93) "_law_turned" "_law_turned" nD<|
 fA 1403 2069 2078 996 3 3 (bY 94) "_law_deed" "_law_deed" nD<|
 kO 1408 ({cls:= .type "code",data:= .fields #[(.str "_law_is_so" 2081),(.str "_law_is_so" 2082),(.str "/claim/cut.py" 2083),(.int (1032) 0),(.int (2) 0),(.int (0) 0),(.int (0) 0),(.int (3) 0),(.ref 1405),(.bool true),(.int (181) 0),(.ref 1406),.none,.none,.none,(.ref 1407),(.int (2084) 0),(.int (1032) 0),(.str "/claim/cut.py" 2085)]})<|
 kO 1409 (lA (bY 95) "_law_is_so" "_law_is_so" .none .none .none (.str "law_rh0242_01" 1896) none (.ref 1408) .none)<|
 kO 1413 ({cls:= .type "code",data:= .fields #[(.str "law" 2087),(.str "law" 2088),(.str "/claim/cut.py" 2089),(.int (1036) 0),(.int (1) 0),(.int (0) 0),(.int (0) 0),(.int (3) 0),(.ref 1410),(.bool true),(.int (181) 0),(.ref 1411),.none,.none,.none,(.ref 1412),(.int (2090) 0),(.int (1036) 0),(.str "/claim/cut.py" 2091)]})<|
 kO 1414 (lA (bY 96) "law" "law" .none .none .none (.str "law_rh0242_01" 1896) none (.ref 1413) .none)<|[]
noncomputable def FO:List Addr:=[3,22,61,62,68,69,75,76,99,105,106,112,113,126,127,133,134,143,144,213,214,222,228,229,235,236,242,243,286,292,293,302,303,327,328,358,359,376,377,383,384,390,391,418,419,425,426,432,433,439,440,491,492,509,510,516,517,590,591,596,602,603,609,610,616,617,644,645,666,667,673,674,682,688,689,695,696,702,703,709,710,755,756,771,772,778,779,792,793,797,798,804,805,811,812,818,819,825,826,832,833,839,840,846,847,853,854,855,861,862,904,905,915,916,922,923,924,932,938,939,945,946,952,953,959,960,966,967,973,974,987,988,994,995,1001,1002,1015,1016,1022,1023,1029,1030,1036,1037,1043,1044,1050,1051,1057,1058,1064,1065,1071,1072,1078,1079,1085,1086,1106,1107,1143,1144,1150,1151,1157,1158,1195,1196,1206,1207,1213,1214,1220,1221,1227,1228,1234,1235,1236,1237,1238,1244,1245,1258,1259,1265,1266,1272,1273,1275,1276,1286,1287,1293,1294,1300,1301,1307,1308,1314,1315,1319,1320,1326,1327,1333,1334,1340,1341,1347,1348,1354,1355,1361,1362,1368,1369,1375,1376,1382,1383,1389,1390,1396,1397,1403,1404,1408,1409,1413,1414]
mutual
noncomputable def o9(ρ:Nat→Nat):MV→MV
 | .loc n=> .loc (ρ n)
 | .tup l=> .tup (renVs ρ l)
 | .rol l=> .rol (renVs ρ l)
 |v=>v
noncomputable def renVs(ρ:Nat→Nat):List MV→List MV
 |[]=>[]
 |v::r=>o9 ρ v::renVs ρ r
end
noncomputable def uV{κ:Type}(ρ:Nat→Nat):List (κ×MV)→List (κ×MV)
 |[]=>[]
 |(k,v)::r=>(k,o9 ρ v)::uV ρ r
noncomputable def sb(ρ:Nat→Nat):MObj→MObj
 | .list l=> .list (renVs ρ l)
 | .dict l=> .dict (uV ρ l)
 | .bdict l=> .bdict (uV ρ l)
 | .inst C d=> .inst C (ρ d)
section
variable{P:Params}{K:Frag}{as bs:List Addr}{T:aN}{ρ:Nat→Nat}
theorem VR.ren(e: ∀ (n:Nat) (a:Addr),as[n]?=some a→bs[ρ n]?=some a){v:Value}{x:MV}(h:VR K as T v x):VR K bs T v (o9 ρ x):=h.rec (motive_1:=fun v x _=>VR K bs T v (o9 ρ x)) (motive_2:=fun v x _=>VRs K bs T v (renVs ρ x)) .none .bool .int .str .bytes (fun h l _ r=> .tup h l r) (fun h l _ r=> .ktup h l r) (fun h=> .loc (e _ _ h)) .glob (fun i h l _ r=> .rol i h l r) .nil (fun _ _ h r=> .cons h r)
theorem VRs.ren(e: ∀ (n:Nat) (a:Addr),as[n]?=some a→bs[ρ n]?=some a){v:List Value}{x:List MV}(h:VRs K as T v x):VRs K bs T v (renVs ρ x):=h.rec (motive_1:=fun v x _=>VR K bs T v (o9 ρ x)) (motive_2:=fun v x _=>VRs K bs T v (renVs ρ x)) .none .bool .int .str .bytes (fun h l _ r=> .tup h l r) (fun h l _ r=> .ktup h l r) (fun h=> .loc (e _ _ h)) .glob (fun i h l _ r=> .rol i h l r) .nil (fun _ _ h r=> .cons h r)
theorem KRs.ren{κ:Type}{mk:κ→Value→Prop}{hs:κ→Int}(e: ∀ (n:Nat) (a:Addr),as[n]?=some a→bs[ρ n]?=some a){v:List DictEntry}{x:List (κ×MV)}(h:KRs mk hs K as T v x):KRs mk hs K bs T v (uV ρ x):=h.rec .nil (fun h r _ k=> .cons h (r.ren e) k)
theorem iV{κ:Type}: ∀l:List (κ×MV),(uV ρ l).map (·.1)=l.map (·.1)
 |[]=>rfl
 |(k,v)::r=>cA (k:: ·) (iV r)
theorem OR.ren(e: ∀ (n:Nat) (a:Addr),as[n]?=some a→bs[ρ n]?=some a){o:Obj}{x:MObj}(h:OR P K as T o x):OR P K bs T o (sb ρ x):=by
 cases h with
 |list n h l=>exact .list n (h.ren e) l
 |dict n h l d=>exact .dict n (h.ren e) l (by rw[iV];exact d)
 |bdict n h l d=>exact .bdict n (h.ren e) l (by rw[iV];exact d)
 |inst h=>exact .inst (e _ _ h)
end
noncomputable def uW(ps:List Nat)(n:Nat):List Nat:=ps++(List.range n).filter fun i=>decide (i∉ps)
theorem xK{ps:List Nat}{n:Nat}(h: ∀p∈ps,p<n)(i:Nat):i∈uW ps n↔i<n:=by
 unfold uW
 rw[List.mem_append,List.mem_filter,List.mem_range]
 constructor
 ·rintro (q|q)
  ·exact h i q
  ·exact q.1
 ·intro q
  by_cases z:i∈ps
  ·exact .inl z
  ·exact .inr ⟨q,by simpa using z⟩
theorem sd{ps:List Nat}{n:Nat}(h:ps.Nodup):(uW ps n).Nodup:=by
 unfold uW
 refine List.nodup_append.mpr ⟨h,List.Pairwise.filter _ List.nodup_range,fun a ha b hb=> ?_⟩
 rintro rfl
 have:=(List.mem_filter.mp hb).2
 simp[ha] at this
section
variable{c:Cx}{f:Fx}{m:Str→Option Value}{cel led T:aN}{h:Heap}{H:Hp}
theorem Ch(X:St c f m cel h led T H){ix:List Nat}(nd:ix.Nodup)(hps: ∀p∈ix,p<H.length): ∃rest led' G,St c f m cel h led' T (ix.map (fun p=>sb (ix++rest).idxOf (H.getD p (.list [])))++G)∧(∀n a,(ai led)[n]?=some a→(ai led')[(ix++rest).idxOf n]?=some a):=by
 refine⟨(List.range H.length).filter fun i=>decide (i∉ix),?_⟩
 have om:=xK hps
 have on:=sd (n:=H.length) nd
 unfold uW at om on
 generalize (List.range H.length).filter (fun i=>decide (i∉ix))=rest at om on
 refine⟨(ix++rest).map fun i=>led.getD i default,rest.map fun i=>sb (ix++rest).idxOf (H.getD i (.list [])),?_⟩
 rw[←mP]
 generalize ix++rest=ord at om on
 have perm:ord.Perm (List.range H.length):=(List.perm_ext_iff_of_nodup on List.nodup_range).mpr fun a=>(om a).trans List.mem_range.symm
 have sz:=X.size
 have at_: ∀i,i<H.length→ord[ord.idxOf i]?=some i:=fun i hi=>by
  have hm:=(om i).mpr hi
  rw[gE (List.idxOf_lt_length_iff.mpr hm)]
  simp
 have lp:(ord.map fun i=>led.getD i default).Perm led:=by
  refine(perm.map _).trans ?_
  rw[←sz]
  refine List.Perm.of_eq (List.ext_getElem? fun i=> ?_)
  rw[List.getElem?_map]
  by_cases hi:i<led.length
  ·simp[hi,gE hi]
  ·simp[hi,List.getElem?_eq_none (Nat.le_of_not_lt hi)]
 have ren: ∀n a,(ai led)[n]?=some a→(ai (ord.map fun i=>led.getD i default))[ord.idxOf n]?=some a:=fun n a ha=>by
  have hn:n<led.length:=by have:=(gS ha).1;simpa [ai] using this
  simp only[ai,List.getElem?_map,at_ n (sz▸hn)] at ha⊢
  simp[hn] at ha⊢
  exact ha
 have q2: ∀p∈cel++((ord.map fun i=>led.getD i default)++T),p∈cel++(led++T):=by
  intro p hp
  simp only[List.mem_append] at hp⊢
  rcases hp with hp|hp|hp
  ·exact .inl hp
  ·exact .inr (.inl (lp.mem_iff.mp hp))
  ·exact .inr (.inr hp)
 have q3:(ai (cel++((ord.map fun i=>led.getD i default)++T))).Nodup:=by
  have:=X.nd
  simp only[ai,mP] at this⊢
  exact((List.Perm.append_left _ (List.Perm.append_right _ (lp.map _))).nodup_iff).mpr this
 have q4: ∀ (n:Nat) (p:Addr×Obj) (x:MObj),(ord.map fun i=>led.getD i default)[n]?=some p→(ord.map fun i=>sb ord.idxOf (H.getD i (.list [])))[n]?=some x→OR c.w.params c.K (ai (ord.map fun i=>led.getD i default)) T p.2 x:=by
  intro n p x hp hx
  simp only[List.getElem?_map,Option.map_eq_some_iff] at hp hx
  obtain⟨i,hi,rfl⟩:=hp
  obtain⟨j,hj,rfl⟩:=hx
  rw[hi] at hj;cases hj
  have hm:i<H.length:=(om i).mp (mG hi)
  have hl:i<led.length:=sz▸hm
  have:=X.R.2 i _ _ (gE hl) (gE hm)
  simp only[gD,gE hl,gE hm,Option.getD_some]
  exact this.ren ren
 exact⟨⟨X.F,X.X,X.G,fun p hp=>X.N p (q2 p hp),q3,fun p hp=>X.hi p (lp.mem_iff.mp hp),by simp,q4⟩,ren⟩
end
section
variable{c:Cx}{O:dJ}{d:Nat}{sc:cu}{A:Around}{env:Env}{f:Fx}{m:Str→Option Value}{cel led T:aN}{s:Shared}{σ:aQ}{H:Hp}
theorem nE(x: ∀n,TS c O d n){P:aQ→Hp→Prop}{post:List Stmt}{Q:Flow→Shared→Prop}: ∀ (pre:List Stmt) (N:Nat) {σ:aQ} {H:Hp} {m:Str→Option Value} {cel led T:aN} {s:Shared},Wt O (exsT c.K sc N pre σ H .ret) (fun fl σ1 H1=>fl= .next∧P σ1 H1)→
  Cs c d sc σ A env f m [] cel led T H s→(∀σ1 H1 m1 cel1 led1 T1 s1,P σ1 H1→Cs c d sc σ1 A env f m1 [] cel1 led1 T1 H1 s1→(∀p∈T,p∈T1)→Ok s s1→wpAny (model c.prog c.w) A (execs post env) Q no s1)→
  wpAny (model c.prog c.w) A (execs (pre++post) env) Q no s:=by
 intro pre
 induction pre with
 |nil=>
  intro N
  cases N with
  |zero=>exact fun h _ _=>h.elim
  |succ N=>exact fun h K k=>k _ _ _ _ _ _ _ h.2 K (fun _ h=>h) (.refl _)
 |cons st r ih=>
  intro N
  cases N with
  |zero=>exact fun h _ _=>h.elim
  |succ N=>
   intro σ H m cel led T s h K k
   obtain⟨fl,s1,H1,r1,w1⟩:=(tx x N).s h
   cases fl with
   |next=>
    refine wpAny_execs_cons (wpAny_mono (r1 A env f _ [] _ _ _ s K) (fun fw s1 p=> ?_) bG)
    obtain⟨m1,cel1,l1,T1,K1,e1,o1,r1⟩:=p
    cases fw<;>first|cases r1|skip
    exact ih N w1 K1 (fun σ2 H2 m2 cel2 led2 T2 s2 p2 K2 e2 o2=>k σ2 H2 m2 cel2 led2 T2 s2 p2 K2 (fun p hp=>e2 p (e1.sub p hp)) (o1.trans o2))
   |_=>exact nomatch (show _=Fl.next from w1.1)
theorem LR.ren{K:Frag}{as bs:List Addr}{T:aN}{ρ:Nat→Nat}{kd:Str→Option NameKind}{cl:List (Str×Addr)}{σ1 σ2:aQ}(e: ∀ (n:Nat) (a:Addr),as[n]?=some a→bs[ρ n]?=some a)(hσ: ∀x v,σ2 x=some v→ ∃u,σ1 x=some u∧o9 ρ u=v)(Y:LR K as T kd cl m cel σ1):LR K bs T kd cl m cel σ2:=fun y v h=>by
 obtain⟨u,h1,rfl⟩:=hσ y v h
 rcases Y y u h1 with ⟨a,w,b,r⟩|⟨a,k,w,o,b,d,dd,r⟩
 ·exact .inl ⟨a,w,b,r.ren e⟩
 ·exact .inr ⟨a,k,w,o,b,d,dd,r.ren e⟩
noncomputable def Ex(σ1:aQ)(H1:Hp)(σ2:aQ)(B:Hp):Prop:= ∃ix:List Nat,ix.Nodup∧(∀p∈ix,p<H1.length)∧ ∀rest,ix.map (fun p=>sb (ix++rest).idxOf (H1.getD p (.list [])))=B∧ ∀x v,σ2 x=some v→ ∃u,σ1 x=some u∧o9 (ix++rest).idxOf u=v
end
noncomputable def mD(o:Obj):Bool:=match o.data with
 | .seq items _=>decide (items.size≤dK)
 |_=>true
theorem uX{K:Frag}(h:(K.all fun p=>mD p.2)=true):cX K:=fun a items k e=>by
 have: ∀ (l:List (Addr×Obj)),(l.all fun p=>mD p.2)=true→ ∀o,l.lookup a=some o→mD o=true:=by
  intro l
  induction l with
  |nil=>intro _ o h;cases h
  |cons q r ih=>
   intro h o ho
   simp only[List.all_cons,Bool.and_eq_true] at h
   obtain⟨b,ob⟩:=q
   rw[List.lookup_cons] at ho
   split at ho
   ·cases ho;exact h.1
   ·exact ih h.2 o ho
 have:=this K h _ e
 simpa [mD] using this
theorem qx(P:Params):cX (KK P):=uX (by kernel_rfl)
structure Cw where
 c:Cx
 ok:c.K=KK c.w.params
noncomputable abbrev Cw.K(x:Cw):Frag:=KK x.c.w.params
@[irreducible] noncomputable def CO(x:Cw)(d:Nat):dJ:=qa x.c d
@[irreducible] noncomputable def CD(x:Cw)(d:Nat):dJ:=nA x.c d
theorem CO.is(x:Cw)(d:Nat):oV x.c (CO x d) d:=fun a xs H mv H' h=>by unfold CO at h;exact h
theorem Am{x:Cw}{d:Nat}{f:Addr}{args:List MV}{H:Hp}{R:QE}(h:Wt (CO x d) (jk x.K f args H) (FQ R)):Ca (CD x (d+1)) f args H R:=by
 have hs:cX x.c.K:=x.ok▸qx _
 obtain⟨v,H',r,q⟩:=xE hs (CO.is x d) (x.ok▸h:Wt (CO x d) (jk x.c.K f args H) (FQ R))
 exact⟨v,H',by unfold CD;exact r,q⟩
theorem use{x:Cw}{d:Nat}{f:Addr}{args:List MV}{H:Hp}{R:QE}(h:Wt (CO x d) (jk x.K f args H) (FQ R)):Ca (CO x (d+1)) f args H R:=by
 obtain⟨v,H',r,q⟩:=Am h
 exact⟨v,H',by unfold CD at r;unfold CO;exact r.call,q⟩
theorem mk{x:Cw}{d:Nat}{f fi:Addr}{args:List MV}{H:Hp}{R:Hp→Prop}(hm:makesIn x.K f=true)(hi:findIn x.K (.ref f) "__init__" =some (some (.ref fi)))(hf:isFn x.K (.ref fi)=true)(hne:H≠ [])
  (h:Ca (CD x d) fi (.loc (H.length+1)::args) (H++[.dict [],.inst f H.length]) fun v H'=>v= .none∧R H'):Ca (CO x (d+1)) f args H fun v H'=>v= .loc (H.length+1)∧R H':=by
 obtain⟨v,H',r,rfl,q⟩:=h
 refine⟨_,H',?_,rfl,q⟩
 unfold CD at r
 unfold CO
 exact made (x.ok▸hm) (x.ok▸hi) (x.ok▸hf) hne r
theorem AO.less{A:Around}{d:Nat}(h:AO A (d+1)):AO A d:=⟨h.hd,by have:=h.dep;exact af [] [_,_] 0xfa04410e22340008 33 0x7d02208611c402340008 this,by have:=h.un;exact af [] [_,_] 0x26ac190281122a340008 33 0x13560c81408811c40a340008 this⟩
theorem CO.up{x:Cw}{d:Nat}{a:Addr}{vs:List MV}{H:Hp}{R:QE}(h:Ca (CO x d) a vs H R):Ca (CO x (d+1)) a vs H R:=by
 obtain⟨v,H',r,q⟩:=h
 refine⟨v,H',?_,q⟩
 unfold CO at r⊢
 exact⟨r.1,fun A f m cel led T s vs hA=>r.2 A f m cel led T s vs hA.less⟩
theorem CO.ups{x:Cw}{d:Nat}{a:Addr}{vs:List MV}{H:Hp}{R:QE}(k:Nat)(h:Ca (CO x d) a vs H R):Ca (CO x (d+k)) a vs H R:=by
 induction k with
 |zero=>exact h
 |succ k ih=>exact CO.up ih
theorem nF{a c:Int}{n j:Nat}{v:MV}(h:(aX a n c)[j]?=some v):j<n∧v= .int (a+c*j):=by
 unfold aX at h
 rw[List.getElem?_map] at h
 have hj:j<n:=by
  rcases Nat.lt_or_ge j n with q|q
  ·exact q
  ·rw[List.getElem?_eq_none (by simpa using q)] at h;cases h
 rw[List.getElem?_range hj] at h
 cases h
 exact⟨hj,rfl⟩
theorem lB(a c:Int)(n:Nat):(aX a n c).length=n:=by simp[aX]
theorem uY(σ:aQ)(x:Str)(o:Option MV)(v:MV): ∃o',upd (bq σ x o) x v=bq σ x o':=⟨some v,by rw[ky,iU]⟩
theorem dA{a:Int}(h: -1000000000000≤a∧a≤1000000000000):bF a:=⟨by exact af [_] [] 0x8200000000000000034821 33 0x4746a52880020820 h.1,by exact af [_] [] 0x200000000000000034881 33 0x746a52880020880 h.2⟩
theorem fh(H:Hp)(a b:Int)(h:(-1000000000000≤a∧a≤1000000000000)∧(-1000000000000≤b∧b≤1000000000000)):dO H "range" "range" [.int a,.int b]=some (aX a (b- a).toNat 1,[]):=uR (dA h.1) (dA h.2)
theorem dE(H:Hp)(b:Int)(h: -1000000000000≤b∧b≤1000000000000):dO H "range" "range" [.int b]=some (aX 0 b.toNat 1,[]):=r9 (dA h)
theorem Ao(H:Hp)(a b:Int)(h:(-1000000000000≤a∧a≤1000000000000)∧(-1000000000000≤b∧b≤1000000000000)):dO H "range" "range" [.int a,.int b,.int (-1)]=some (aX a (a- b).toNat (-1),[]):=xG (dA h.1) (dA h.2)
section
variable{O:dJ}{t:Tr}{Q:QS}
theorem nG(n:Nat)(a c:Int)(m:Nat)(H:Hp)(X:Str)(I:Nat→Hp→Prop)(h0:I 0 H)
  (turn: ∀ (j:Nat) (o:Option MV) (H:Hp),j<m→I j H→Wt O (wE (aL n t) (.int (a+c*j)) (bq (fC (aL n t)) X o) H) fun fl σ' H'=>fl= .next∧(∃o',σ'=bq (fC (aL n t)) X o')∧I (j+1) H')
  (done: ∀ (o:Option MV) (H:Hp),I m H→Wt O (wG (aL n t) .next (bq (fC (aL n t)) X o) H) Q) (hr:wH (aL n t)=some ([],aX a m c,H):=by kernel_rfl):Wt O t Q:=by
 refine jF n (fun j σ H=>(∃o,σ=bq (fC (aL n t)) X o)∧I j H) ⟨⟨_,(gf _ X).symm⟩,h0⟩ (fun j v σ H hv hI=> ?_) (fun σ H hI=> ?_) hr
 ·obtain⟨hj,rfl⟩:=nF hv
  obtain⟨⟨o,rfl⟩,hI⟩:=hI
  exact Wt.mono _ (fun fl σ' H' q=>⟨q.1,bt _,q.2⟩) (turn j o H hj hI)
 ·rw[lB] at hI
  obtain⟨⟨o,rfl⟩,hI⟩:=hI
  exact done o H hI
theorem lE(n:Nat)(a:Int)(m:Nat)(H:Hp)(X:Str)(I:Nat→Hp→Prop)(h0:I 0 H)
  (turn: ∀ (j:Nat) (o:Option MV) (H:Hp),j<m→I j H→Wt O (wE (aL n t) (.int (a+j)) (bq (fC (aL n t)) X o) H) fun fl σ' H'=>fl= .next∧(∃o',σ'=bq (fC (aL n t)) X o')∧I (j+1) H')
  (done: ∀ (o:Option MV) (H:Hp),I m H→Wt O (wG (aL n t) .next (bq (fC (aL n t)) X o) H) Q) (hr:wH (aL n t)=some ([],aX a m 1,H):=by kernel_rfl):Wt O t Q:=
 nG n a 1 m H X I h0 (fun j o H hj hI=>by rw[Int.one_mul];exact turn j o H hj hI) done hr
theorem ld(n:Nat){σ:aQ}{X:Str}{I:Hp→Prop}(o:Option MV)(v:MV)(H:Hp)(h:I H)(hr:rs (aL n t)=some (.next,upd (bq σ X o) X v,H):=by kernel_rfl):Wt O t fun fl σ' H'=>fl= .next∧(∃o',σ'=bq σ X o')∧I H':=
 my n .next _ H ⟨rfl,uY σ X o v,h⟩ hr
theorem Ci(σ:aQ){x y:Str}(h:x≠y)(o1 o2:Option MV)(v1 v2:MV): ∃a b,upd (upd (bq (bq σ x o1) y o2) x v1) y v2=bq (bq σ x a) y b:=
 ⟨some v1,some v2,by rw[ky,ky,rZ (bq σ x o1) (Ne.symm h),iU,iU]⟩
theorem gR(n:Nat)(gs:List (Nat×List MV))(items:List MV)(H:Hp)(X Y:Str)(hXY:X≠Y)(I:Nat→Hp→Prop)(h0:I 0 H)
  (turn: ∀ (j:Nat) (v:MV) (o1 o2:Option MV) (H:Hp),items[j]?=some v→I j H→Wt O (wE (aL n t) v (bq (bq (fC (aL n t)) X o1) Y o2) H) fun fl σ' H'=>fl= .next∧(∃a b,σ'=bq (bq (fC (aL n t)) X a) Y b)∧bg gs H'∧I (j+1) H')
  (done: ∀ (o1 o2:Option MV) (H:Hp),I items.length H→Wt O (wG (aL n t) .next (bq (bq (fC (aL n t)) X o1) Y o2) H) Q) (hr:wH (aL n t)=some (gs,items,H):=by kernel_rfl):Wt O t Q:=by
 have e0:fC (aL n t)=bq (bq (fC (aL n t)) X (fC (aL n t) X)) Y (fC (aL n t) Y):=by rw[gf,gf]
 refine jF n (fun j σ H=>(∃a b,σ=bq (bq (fC (aL n t)) X a) Y b)∧I j H) ⟨⟨_,_,e0⟩,h0⟩ (fun j v σ H hv hI=> ?_) (fun σ H hI=> ?_) hr
 ·obtain⟨⟨a,b,rfl⟩,hI⟩:=hI
  exact Wt.mono _ (fun fl σ' H' q=>⟨q.1,q.2.2.1,q.2.1,q.2.2.2⟩) (turn j v a b H hv hI)
 ·obtain⟨⟨a,b,rfl⟩,hI⟩:=hI
  exact done a b H hI
theorem jo(n:Nat){σ:aQ}{X Y:Str}{gs:List (Nat×List MV)}{I:Hp→Prop}(hXY:X≠Y)(o1 o2:Option MV)(v1 v2:MV)(H:Hp)(hs:bg gs H)(h:I H)(hr:rs (aL n t)=some (.next,upd (upd (bq (bq σ X o1) Y o2) X v1) Y v2,H):=by kernel_rfl):Wt O t fun fl σ' H'=>fl= .next∧(∃a b,σ'=bq (bq σ X a) Y b)∧bg gs H'∧I H':=
 my n .next _ H ⟨rfl,Ci σ hXY o1 o2 v1 v2,hs,h⟩ hr
theorem bc(A:Prop)(y:A→Wt O t Q)(n: ¬A→Wt O t Q):Wt O t Q:=(Classical.em A).elim y n
theorem fz(b:Bool)(y:b=true→Wt O t Q)(n:b=false→Wt O t Q):Wt O t Q:=(Bool.eq_false_or_eq_true b).elim y n
end
structure Cell where
 codes:List Int
 w:Int
 back:Int
noncomputable def bare(b:Int):Cell:=⟨[],1,b⟩
noncomputable def aP(b:Int):Cell:=⟨[],0,b⟩
noncomputable instance:Inhabited Cell:=⟨bare 0⟩
noncomputable abbrev ar:=List Cell
noncomputable def ah(cs:ar)(k:Int):Cell:=cs.getD k.toNat default
inductive RowOK:ar→Prop
 |nil:RowOK []
 |one {c:Cell} {r:ar}:c.w=1→RowOK r→RowOK (c::r)
 |two {c:Cell} {r:ar}:c.w=2→RowOK r→RowOK (c::aP c.back::r)
theorem RowOK.append{a b:ar}(h:RowOK a)(g:RowOK b):RowOK (a++b):=by
 induction h with
 |nil=>exact g
 |one e _ ih=>exact .one e ih
 |two e _ ih=>exact .two e ih
theorem RowOK.bares(n:Nat)(b:Int):RowOK (List.replicate n (bare b)):=by
 induction n with
 |zero=>exact .nil
 |succ n ih=>exact .one rfl ih
noncomputable def uZ(cs:ar)(k:Nat):Prop:=k<cs.length→(cs.getD k default).w≠0
theorem RowOK.split{l:ar}(h:RowOK l): ∀ {k:Nat},uZ l k→RowOK (l.take k)∧RowOK (l.drop k):=by
 induction h with
 |nil=>intro k _;simp;exact .nil
 | @one c r e h ih=>
  intro k hk
  cases k with
  |zero=>exact⟨.nil,.one e h⟩
  |succ k=>
   have:=ih (k:=k) fun q=>by have:=hk (by simpa using q);simpa using this
   exact⟨.one e this.1,this.2⟩
 | @two c r e h ih=>
  intro k hk
  match k,hk with
  |0,hk=>exact⟨.nil,.two e h⟩
  |1,hk=>exact absurd rfl (hk (by simp))
  |k+2,hk=>
   have:=ih (k:=k) fun q=>by have:=hk (by simpa using q);simpa using this
   exact⟨.two e this.1,this.2⟩
theorem RowOK.half{l:ar}(h:RowOK l): ∀ {k:Nat},k<l.length→(l.getD k default).w=0→
  ∃l1 x l2,l=l1++x::aP x.back::l2∧l1.length+1=k∧RowOK l1∧RowOK l2∧x.w=2:=by
 induction h with
 |nil=>intro k hk;simp at hk
 | @one c r e h ih=>
  intro k hk hz
  cases k with
  |zero=>simp[e] at hz
  |succ k=>
   obtain⟨l1,x,l2,h1,h2,h3,h4,h5⟩:=ih (k:=k) (by simpa using hk) (by simpa using hz)
   exact⟨c::l1,x,l2,by rw[h1];rfl,by simp[h2],.one e h3,h4,h5⟩
 | @two c r e h ih=>
  intro k hk hz
  match k,hk,hz with
  |0,hk,hz=>simp[e] at hz
  |1,hk,hz=>exact⟨[],c,r,rfl,rfl,.nil,h,e⟩
  |k+2,hk,hz=>
   obtain⟨l1,x,l2,h1,h2,h3,h4,h5⟩:=ih (k:=k) (by simpa using hk) (by simpa using hz)
   exact⟨c::aP c.back::l1,x,l2,by rw[h1];rfl,by simp[h2],.two e h3,h4,h5⟩
noncomputable def a9(cs:ar)(k:Int):ar:=
 if 0<k∧k<cs.length∧(ah cs k).w=0 then(cs.set (k- 1).toNat (bare (ah cs k).back)).set k.toNat (bare (ah cs k).back) else cs
noncomputable def c0(cs:ar)(k:Int):Prop:=0<k→k<cs.length→(ah cs k).w≠0
theorem c0.n{cs:ar}{k:Int}(h:c0 cs k)(hk:0<k):uZ cs k.toNat:=fun q=>h hk (by exact aq [_] [_,_] 264833 15393 8473 139858 q (tN (af [_] [] 131120 33 131121 hk)))
@[simp] theorem cJ(cs:ar)(k:Int):(a9 cs k).length=cs.length:=by unfold a9;split<;>simp
theorem eP{cs:ar}{k:Int}(h:c0 cs k):a9 cs k=cs:=by
 unfold a9
 rw[if_neg]
 intro⟨a,b,c⟩
 exact h a b c
theorem Ap{cs:ar}{k j:Int}(hj:0≤j):(ah (a9 cs k) j)=ah cs j∨(ah (a9 cs k) j).w=1:=by
 unfold a9
 split
 ·rename_i h
  unfold ah
  simp only[gD,List.getElem?_set]
  by_cases h1:k.toNat=j.toNat
  ·right
   simp only[h1,if_true,List.length_set]
   have:j.toNat<cs.length:=by exact a0 [_] [_,_,_] 8969 572449 281217 8490 140370 h.2.1 h1 (tN (af [_] [] 131120 33 131121 h.1))
   simp[this,bare]
  ·by_cases h2:(k- 1).toNat=j.toNat
   ·right
    simp only[h1,h2,if_false,if_true]
    have:j.toNat<cs.length:=by exact a0 [_] [_,_,_] 8969 572449 281217 8490 0x23406452 h.2.1 h2 (tN (af [_] [] 0x23404030 33 131121 h.1))
    simp[this,bare]
   ·left
    simp only[h1,h2,if_false]
 ·exact .inl rfl
theorem cj{cs:ar}{k j:Int}(h:c0 cs j):c0 (a9 cs k) j:=fun a b=>by
 rcases Ap (cs:=cs) (k:=k) (j:=j) (by exact af [_] [] 131120 33 131121 a) with e|e
 ·rw[e];exact h a (by simpa using b)
 ·rw[e];decide
theorem dX(cs:ar)(k:Int):c0 (a9 cs k) k:=fun a b=>by
 have b':k<cs.length:=by simpa using b
 by_cases hz:(ah cs k).w=0
 ·unfold a9
  rw[if_pos ⟨a,b',hz⟩]
  unfold ah
  have:k.toNat<cs.length:=by exact aq [_] [_,_] 8969 17441 281217 139346 b' (tN (af [_] [] 131120 33 131121 a))
  simp[gD,this,bare]
 ·unfold a9
  rw[if_neg (fun q=>hz q.2.2)]
  exact hz
theorem kD{cs:ar}(h:RowOK cs){k:Int}(a:0<k)(b:k<cs.length)(z:(ah cs k).w=0):(ah cs (k- 1)).back=(ah cs k).back∧
  ∃l1 x l2,cs=l1++x::aP x.back::l2∧(l1.length:Int)+1=k∧RowOK l1∧RowOK l2∧a9 cs k=l1++bare x.back::bare x.back::l2:=by
 obtain⟨l1,x,l2,h1,h2,h3,h4,h5⟩:=h.half (k:=k.toNat) (by exact aq [_] [_,_] 8969 17441 281217 139346 b (tN (af [_] [] 131120 33 131121 a))) z
 have e1:(k- 1).toNat=l1.length:=by exact a0 [_] [_,_,_] 8970 0x8be217c5e1 0x1208e20a 0x23406052 140370 h2 (tN (af [_] [] 0x23404030 33 131121 a)) (tN (af [_] [] 131120 33 131121 a))
 have e2:k.toNat=l1.length+1:=by exact af [] [_,_] 0x11c410a 558561 0x1008e20a h2
 have c1:ah cs k=aP x.back:=by unfold ah;rw[e2,h1];simp[gD]
 have c2:ah cs (k- 1)=x:=by unfold ah;rw[e1,h1];simp[gD]
 refine⟨by rw[c1,c2];rfl,l1,x,l2,h1,by exact aq [_] [_,_] 0x1011c0a02 0x1ef0c621 0x1108e00a 139858 h2 (tN (af [_] [] 131120 33 131121 a)),h3,h4,?_⟩
 unfold a9
 rw[if_pos ⟨a,b,z⟩,c1,e1,e2,h1]
 simp[List.set_append,aP]
theorem bZ{cs:ar}(h:RowOK cs)(k:Int):RowOK (a9 cs k):=by
 by_cases q:0<k∧k<cs.length∧(ah cs k).w=0
 ·obtain⟨_,l1,x,l2,_,_,h3,h4,e⟩:=kD h q.1 q.2.1 q.2.2
  rw[e]
  exact h3.append (.one rfl (.one rfl h4))
 ·unfold a9;rw[if_neg q];exact h
theorem ii{cs:ar}(h:RowOK cs){k:Int}(hk:0≤k)(c:c0 cs k):RowOK (cs.take k.toNat)∧RowOK (cs.drop k.toNat):=by
 by_cases q:0<k
 ·exact h.split (c.n q)
 ·have:k.toNat=0:=by exact aq [_] [_] 1802 0x2000c421 131123 139346 q (tN hk)
  rw[this];exact⟨.nil,h⟩
theorem mE{cs:ar}(h:RowOK cs){j k:Int}(hj:0≤j)(hk:j≤k)(c1:c0 cs j)(c2:c0 cs k):RowOK ((cs.drop j.toNat).take (k- j).toNat):=by
 have e:(cs.drop j.toNat).take (k- j).toNat=(cs.take k.toNat).drop j.toNat:=by
  rw[List.drop_take];congr 1;exact eo [_,_] [_,_,_,_] 8970 0x22f8bc2f8be21 0x9406052 140370 157266 0x4cb2286252 (tN (af [_,_] [] 0x9404030 33 4240 hk)) (tN (aq [_,_] [] 131120 1057 147504 4240 hj hk)) (tN hj) (oS (a0 [_,_] [_,_] 8968 572449 4736 156242 139346 hk (tN (aq [_,_] [] 131120 1057 147504 4240 hj hk)) (tN hj)))
 rw[e]
 have h1:=(ii h (k:=k) (by exact aq [_,_] [] 131120 1057 147504 4240 hj hk) c2).1
 refine(ii h1 hj ?_).2
 intro a b
 have hb:j<k∧j<cs.length:=by simp at b;exact⟨(a0 [_,_] [_,_] 4737 50209 264833 156242 8968 b (tN (aq [_,_] [] 131120 1057 4240 147505 hk a)) (Nat.min_le_left _ _)),(aq [_] [_,_] 264833 1057 281217 8472 b (Nat.min_le_right _ _))⟩
 have:=c1 a hb.2
 unfold ah at this⊢
 rw[gD,List.getElem?_take_of_lt (by exact a0 [_,_] [_,_] 8969 508961 4737 139346 156242 hb.1 (tN hj) (tN (aq [_,_] [] 131120 1057 147505 4241 a hb.1)))]
 simpa [gD] using this
noncomputable def cQ(b:Int):MV:= .tup [.int 0,.int (-1),.int b,.int (-1),.int 0]
noncomputable def Cell.mv(c:Cell):MV:= .tup [.tup (c.codes.map .int),.int c.w,cQ c.back,.bool false]
noncomputable abbrev au(cs:ar):MObj:= .list (cs.map Cell.mv)
section
variable(P:Cw)(d:Nat)(H:Hp){A F:As}{n c:Nat}{cs:ar}(x:Cell){k b:Int}
theorem FH:eC H x.mv (.int 1)=some (.int x.w):=rfl
theorem Dk:eC H x.mv (.int 2)=some (cQ x.back):=rfl
theorem Ey:eC H x.mv (.int 0)=some (.tup (x.codes.map .int)):=rfl
theorem Dl(b:Int):eC H (cQ b) (.int 2)=some (.int b):=rfl
variable{H}{x}
theorem nH{j:Nat}(h:j<cs.length):(cs.map Cell.mv)[j]?=some (cs.getD j default).mv:=by simp[h]
theorem fN{m:Nat}(h:0≤k∧k<m):idx k m=some k.toNat:=if_pos h
theorem gT(k:Int)(h:H[n]?=some (au cs))(hk:0≤k∧k<cs.length):eC H (.loc n) (.int k)=some (ah cs k).mv:=
 ew h (fN (by simpa using hk)) (nH (by exact aq [_] [_,_] 8969 17441 281217 139346 hk.2 (tN hk.1)))
theorem setC(k:Int)(x:Cell)(h:H[n]?=some (au cs))(hk:0≤k∧k<cs.length):iN H (.loc n) (.int k) x.mv=some (H.set n (au (cs.set k.toNat x))):=by
 rw[qw h (fN (by simpa using hk)),au,List.map_set]
theorem u0{A:As}(k:Int)(x:Cell)(h:Sat H ((n,au cs)::A))(hk:0≤k∧k<cs.length): ∃H',iN H (.loc n) (.int k) x.mv=some H'∧Sat H' ((n,au (cs.set k.toNat x))::A):=
 ⟨_,setC k x (h.at 0 rfl) hk,h.upd 0 rfl rfl⟩
theorem ij(h:H[n]?=some (au cs)):ja H (.builtin "len") [.loc n]=some (.int cs.length,H):=by rw[o8 h,lM]
variable(H)(x)
theorem u1(b:Int):Ca (CO P (d+1)) 69 [cQ b] H fun v H'=>v=cQ b∧H'=H:=use (rY 1)
theorem gh(b:Int):Ca (CO P (d+2)) 76 [cQ b] H fun v H'=>v=(bare b).mv∧H'=H:=use (aj 0 (u1 P d H b) (rY 0))
theorem Aq:Ca (CO P (d+1)) 610 [x.mv] H fun v H'=>v=(aP x.back).mv∧H'=H:=use (rY 2)
theorem iW:Ca (CO P (d+3)) 916 [x.mv] H fun v H'=>v=(bare x.back).mv∧H'=H:=use (aj 1 (gh P d H x.back) (rY 0))
theorem xL(a b c:Int):Ca (CO P (d+1)) 62 [.int a,.int b,.int c] H fun v H'=>v= .int (max b (min a c))∧H'=H:=use (rY 2)
variable{H}{x}
theorem Sat.hd{o:MObj}(h:Sat H ((n,o)::A)):H[n]?=some o:=by cases h with|cons h _ _=>exact h
theorem Sat.hset{o o':MObj}(h:Sat H ((n,o)::A)):Sat (H.set n o') ((n,o')::A):=h.upd 0 rfl rfl
theorem u2{j:Int}(h:j.toNat≠k.toNat):ah (cs.set j.toNat x) k=ah cs k:=by
 unfold ah;simp only[gD,List.getElem?_set_ne h]
end
local macro_rules | `(tactic| got_up) => `(tactic| first | assumption | omega | (simp; omega) | (refine ⟨?_, ?_⟩ <;> first | omega | (simp; omega)))
theorem eE{cs:ar}{k:Int}(h: ¬(0<k∧k<cs.length∧(ah cs k).w=0)):a9 cs k=cs:=if_neg h
section
variable(P:Cw){d:Nat}{H:Hp}{A F:As}{n c:Nat}{cs:ar}{x:Cell}{k b:Int}
theorem xM(d:Nat)(k:Int)(ok:RowOK cs)(h:Sat H ((n,au cs)::F)):Ca (CO P (d+3)) 617 [.loc n,.int k] H (fun v H'=>v= .none∧Sat H' ((n,au (a9 cs k))::F)):=by
 refine' use ?_
 refine' bc (0<k) (fun c1=> ?_) (fun c1=> ?_)
 ·refine' ak 0 c1 ?_
  refine' aY 0 (ij (Sat.hd h)) ?_
  refine' bc (k< ↑(List.length cs)) (fun c2=> ?_) (fun c2=> ?_)
  ·refine' ak 0 c2 ?_
   refine' aK 0 (gT k (Sat.hd h) (by apply⟨(af [_] [] 131120 33 131121 c1),c2⟩)) ?_
   refine' bc ((ah cs k).w=0) (fun c3=> ?_) (fun c3=> ?_)
   ·refine' ak 1 c3 ?_
    refine' aK 0 (gT (k- 1) (Sat.hd h) (by apply⟨(af [_] [] 0x23404030 33 131121 c1),(af [_] [_] 0x20508d011 33 264833 c2)⟩)) ?_
    refine' aj 1 (gh P d H ((ah cs (k- 1)).back)) ?_
    refine' dj 0 (u0 (k- 1) (bare (ah cs (k- 1)).back) h (by apply⟨(af [_] [] 0x23404030 33 131121 c1),(af [_] [_] 0x20508d011 33 264833 c2)⟩)) fun H5 h4=> ?_
    refine' aK 0 (gT k (Sat.hd h4) (by got_up)) ?_
    refine' aj 1 (gh P d H5 ((ah (List.set cs (k- 1).toNat (bare (ah cs (k- 1)).back)) k).back)) ?_
    refine' dj 0 (u0 k (bare (ah (List.set cs (k- 1).toNat (bare (ah cs (k- 1)).back)) k).back) h4 (by got_up)) fun H7 h6=> ?_
    have e:=(kD ok c1 c2 c3).1
    have e2:a9 cs k=((cs.set (k- 1).toNat (bare (ah cs (k- 1)).back)).set k.toNat (bare (ah (cs.set (k- 1).toNat (bare (ah cs (k- 1)).back)) k).back)):=by
     unfold a9;rw[if_pos ⟨c1,c2,c3⟩,u2 (by apply Nat.ne_of_lt (aq [_] [_,_] 8969 15905 0x23406052 139858 (tN (af [_] [] 0x23404030 33 131121 c1)) (tN (af [_] [] 131120 33 131121 c1)))),e]
    refine' ax 0 .none H7 ⟨rfl,e2▸h6⟩
   ·refine' am 1 c3 ?_
    refine' ax 0 .none H ⟨rfl,?_⟩
    rw[eE (fun q=>c3 q.2.2)];exact h
  ·refine' am 0 c2 ?_
   refine' ax 0 .none H ⟨rfl,?_⟩
   rw[eE (fun q=>c2 q.2.1)];exact h
 ·refine' am 0 c1 ?_
  refine' ax 0 .none H ⟨rfl,?_⟩
  rw[eE (fun q=>c1 q.1)];exact h
end
structure Ln where
 i:Nat
 d:Nat
 c:Nat
 wr:Bool
noncomputable abbrev td(l:Ln):List (Str×MV):=[("cells",.loc l.c),("is_wrapped",.bool l.wr),("size",.str "single")]
noncomputable abbrev aG(l:Ln)(cs:ar):As:=[(l.i,.inst 756 l.d),(l.d,.dict (td l)),(l.c,au cs)]
section
variable(P:Cw){d:Nat}{H:Hp}{A F:As}{n c:Nat}{l:Ln}{cs:ar}{x:Cell}{k b:Int}
theorem LS.cells(h:Sat H (aG l cs++F)):jv P.K H (.loc l.i) "cells" =some (.loc l.c):=ie (h.at 0 rfl) (h.at 1 rfl) (by kernel_rfl) (by kernel_rfl) rfl
theorem LS.size(h:Sat H (aG l cs++F)):jv P.K H (.loc l.i) "size" =some (.str "single"):=ie (h.at 0 rfl) (h.at 1 rfl) (by kernel_rfl) (by kernel_rfl) rfl
theorem LS.setWr(b:Bool)(h:Sat H (aG l cs++F)): ∃H',k8 P.K H (.loc l.i) "is_wrapped" (.bool b)=some H'∧Sat H' (aG {l with wr:=b} cs++F):=
 ⟨_,qu (es':=td {l with wr:=b}) (h.at 0 rfl) (h.at 1 rfl) (by kernel_rfl) (Nat.lt_of_lt_of_le (show 3<400 by decide) (Nat.le_refl _)) (by kernel_rfl),h.upd 1 rfl rfl⟩
theorem LS.row(h:Sat H (aG l cs++F)):H[l.c]?=some (au cs):=h.at 2 rfl
theorem LS.setRow(cs':ar)(h:Sat H (aG l cs++F)):Sat (H.set l.c (au cs')) (aG l cs'++F):=h.upd 2 rfl rfl
theorem LS.setC(k:Int)(x:Cell)(h:Sat H (aG l cs++F))(hk:0≤k∧k<cs.length): ∃H',iN H (.loc l.c) (.int k) x.mv=some H'∧Sat H' (aG l (cs.set k.toNat x)++F):=
 ⟨_,Mine.Internal.setC k x (LS.row h) hk,LS.setRow _ h⟩
theorem LS.m(f:Addr)(x:Str)(h:Sat H (aG l cs++F))(h1:(cN x (td l)).isNone=true)(h2:jV P.K 756 x=some f):dD P.K H (.loc l.i) x=some (some f):=uO (h.at 0 rfl) (h.at 1 rfl) h1 h2
theorem LS.m_part(h:Sat H (aG l cs++F)):dD P.K H (.loc l.i) "part" =some (some 667):=LS.m P _ _ h (by kernel_rfl) (by kernel_rfl)
theorem LS.m_put(h:Sat H (aG l cs++F)):dD P.K H (.loc l.i) "put" =some (some 674):=LS.m P _ _ h (by kernel_rfl) (by kernel_rfl)
theorem LS.m_erase(h:Sat H (aG l cs++F)):dD P.K H (.loc l.i) "erase" =some (some 689):=LS.m P _ _ h (by kernel_rfl) (by kernel_rfl)
theorem LS.m_shift(h:Sat H (aG l cs++F)):dD P.K H (.loc l.i) "shift" =some (some 696):=LS.m P _ _ h (by kernel_rfl) (by kernel_rfl)
theorem LS.m_insert(h:Sat H (aG l cs++F)):dD P.K H (.loc l.i) "insert" =some (some 703):=LS.m P _ _ h (by kernel_rfl) (by kernel_rfl)
theorem LS.m_delete(h:Sat H (aG l cs++F)):dD P.K H (.loc l.i) "delete" =some (some 710):=LS.m P _ _ h (by kernel_rfl) (by kernel_rfl)
theorem LS.focus(h:Sat H (aG l cs++F)):Sat H ((l.c,au cs)::([(l.i,.inst 756 l.d),(l.d,.dict (td l))]++F)):=Sat.mid (A:=[(l.i,.inst 756 l.d),(l.d,.dict (td l))]) (B:=[(l.c,au cs)]) h
theorem LS.back(h:Sat H ((l.c,au cs)::([(l.i,.inst 756 l.d),(l.d,.dict (td l))]++F))):Sat H (aG l cs++F):=Sat.mid (B:=[(l.i,.inst 756 l.d),(l.d,.dict (td l))]) (A:=[(l.c,au cs)]) h
noncomputable abbrev LQ(l:Ln)(cs:ar)(F:As):QE:=fun v H'=>v= .none∧Sat H' (aG l cs++F)
theorem aZ(d:Nat)(k:Int)(ok:RowOK cs)(h:Sat H (aG l cs++F)):Ca (CO P (d+4)) 667 [.loc l.i,.int k] H (LQ l (a9 cs k) F):=by
 refine' use ?_
 refine' aK 0 (LS.cells P h) ?_
 refine' cD 0 (xM P d k ok (LS.focus h)) fun H1 h1=> ?_
 refine' ax 1 .none H1 ⟨rfl,LS.back h1⟩
end
noncomputable def put(cs:ar)(k:Int)(x:Cell):ar:=
 let c2:=a9 (a9 cs k) (k+x.w)
 if x.w=2 then(c2.set k.toNat x).set (k+1).toNat (aP x.back) else c2.set k.toNat x
section
variable(P:Cw){d:Nat}{H:Hp}{A F:As}{n c:Nat}{l:Ln}{cs:ar}{x:Cell}{k b:Int}
theorem nI(d:Nat)(k:Int)(x:Cell)(ok:RowOK cs)(h:Sat H (aG l cs++F))(h0:0≤k)(h1:k<cs.length)(hw:x.w≠0)(h2: ¬(x.w=2∧k+1=cs.length)):
  Ca (CO P (d+5)) 674 [.loc l.i,.int k,x.mv] H (LQ l (put cs k x) F):=by
 refine' use ?_
 refine' ak 0 (A:=0≤k) h0 ?_
 refine' aK 0 (LS.cells P h) ?_
 refine' aY 0 (ij (LS.row h)) ?_
 refine' ak 0 (A:=k< ↑(List.length cs)) h1 ?_
 refine' am 1 (A:=x.w=0) hw ?_
 refine' bc (x.w=2) (fun c1=> ?_) (fun c1=> ?_)
 ·refine' ak 1 c1 ?_
  refine' aK 0 (LS.cells P h) ?_
  refine' aY 0 (ij (LS.row h)) ?_
  refine' am 0 (A:=k+1= ↑(List.length cs)) (mt (And.intro c1) h2) ?_
  refine' b8 0 (LS.m_part P h) ?_
  refine' cD 0 (aZ P d k ok h) fun Z3 z2=> ?_
  refine' b8 0 (LS.m_part P z2) ?_
  refine' cD 1 (aZ P d (k+x.w) (bZ ok k) z2) fun Z5 z4=> ?_
  refine' aK 0 (LS.cells P z4) ?_
  refine' dj 0 (LS.setC k x z4 (by got_up)) fun Z7 z6=> ?_
  refine' ak 1 (A:=x.w=2) c1 ?_
  refine' aj 0 (Aq P (d+3) Z7 x) ?_
  refine' aK 0 (LS.cells P z6) ?_
  refine' dj 0 (LS.setC (k+1) (aP x.back) z6 (by got_up)) fun Z9 z8=> ?_
  refine' ax 0 .none Z9 ⟨rfl,?_⟩
  unfold put;rw[if_pos c1];exact z8
 ·refine' am 1 c1 ?_
  refine' b8 0 (LS.m_part P h) ?_
  refine' cD 0 (aZ P d k ok h) fun Z11 z10=> ?_
  refine' b8 0 (LS.m_part P z10) ?_
  refine' cD 1 (aZ P d (k+x.w) (bZ ok k) z10) fun Z13 z12=> ?_
  refine' aK 0 (LS.cells P z12) ?_
  refine' dj 0 (LS.setC k x z12 (by got_up)) fun Z15 z14=> ?_
  refine' am 1 (A:=x.w=2) c1 ?_
  refine' ax 0 .none Z15 ⟨rfl,?_⟩
  unfold put;rw[if_neg c1];exact z14
theorem bz{n:Nat}{l:List MV}(h:H[n]?=some (.list l)):fc H (.loc n)=some l:=ao h
theorem cT(d:Nat)(H:Hp)(a b c:Int)(h:b≤a∧a≤c):Ca (CO P (d+1)) 62 [.int a,.int b,.int c] H fun v H'=>v= .int a∧H'=H:=by
 have:=xL P d H a b c
 rwa [Int.min_eq_left h.2,Int.max_eq_right h.1] at this
theorem xN(k b:Int)(h:H[n]?=some (.list [(bare b).mv]))(h1:0≤k∧k≤1000):cB H .Mult (.loc n) (.int k)=some (.loc H.length,H++[au (List.replicate k.toNat (bare b))]):=by
 rw[B8 h (dA (by apply⟨(af [_] [] 0x4746a52880020820 33 131120 h1.1),(af [_] [] 0x746a52880020880 33 0x1f408880 h1.2)⟩)) h1.2,au,List.map_replicate]
theorem iX(d:Nat)(m b:Int)(h:Sat H A)(hm:0≤m∧m≤1000):Ca (CO P (d+3)) 603 [.int m,cQ b] H (fun v H'=> ∃n,v= .loc n∧Sat H' ((n,au (List.replicate m.toNat (bare b)))::A)):=by
 have e:Ca (CO P (d+3)) 603 [.int m,cQ b] H (fun v H'=> ∃n,v= .loc n∧Sat H' ((n,au (List.replicate m.toNat (bare b)))::A)):=by
  refine' use ?_
  refine' aj 0 (gh P (d+0) H b) ?_
  have h1:=h.new (o:= .list [(bare b).mv])
  refine' aY 0 (fg (H++[.list [(bare b).mv]]) 0 m hm.1) ?_
  refine' aY 0 (xN m b h1.hd (by apply hm)) ?_
  exact ax 0 _ _ ⟨_,rfl,(h1.new.perm (List.Perm.swap _ _ _)).tail⟩
 exact e
theorem jJ{l:List MV}{a b:Int}(h:0≤a∧a≤b∧b≤l.length):aI l (some a) (some b)=(l.drop a.toNat).take (b- a).toNat:=by
 unfold aI fb fF
 dsimp only
 rw[if_neg (by apply aq [_,_] [] 1667 1057 147504 4240 h.1 h.2.1),if_neg (by apply af [_] [] 1667 33 131120 h.1),show min a.toNat l.length=a.toNat by apply mL (a0 [_,_] [_,_] 8968 558113 4736 281232 139346 h.2.1 h.2.2 (tN h.1)),show min b.toNat l.length=b.toNat by apply mL (aq [_] [_,_] 8968 17441 281216 139346 h.2.2 (tN (aq [_,_] [] 131120 1057 147504 4240 h.1 h.2.1))),show b.toNat- a.toNat=(b- a).toNat by apply eo [_,_] [_,_,_,_] 8970 0x1f18bc317be21 140370 157266 0x9406252 0x4cb2286052 (tN (aq [_,_] [] 131120 1057 147504 4240 h.1 h.2.1)) (tN h.1) (tN (af [_,_] [] 0x9404030 33 4240 h.2.1)) (oS (a0 [_,_] [_,_] 8968 572449 4736 156242 139346 h.2.1 (tN (aq [_,_] [] 131120 1057 147504 4240 h.1 h.2.1)) (tN h.1)))]
theorem lG{a b:Int}(h:0≤a∧a≤b∧b≤cs.length):aI (cs.map Cell.mv) (some a) (some b)=((cs.drop a.toNat).take (b- a).toNat).map Cell.mv:=by
 rw[jJ (by simpa using h),List.map_take,List.map_drop]
theorem cq(a b:Int)(us:ar)(cs:ar)(h:0≤a∧a≤b∧b≤cs.length)(h2:cs.length+us.length≤4000):mh (cs.map Cell.mv) a b (us.map Cell.mv)=some ((cs.take a.toNat++us++cs.drop b.toNat).map Cell.mv):=by
 unfold mh
 rw[if_pos ⟨h.1,h.2.1,by simpa using h.2.2,by simp;exact Nat.le_trans h2 (by decide)⟩]
 simp
theorem Cj{m:Nat}(us vs:ar)(h:H[n]?=some (au us))(h2:H[m]?=some (au vs))(h3:us.length+vs.length≤4000):cB H .Add (.loc n) (.loc m)=some (.loc H.length,H++[au (us++vs)]):=by
 rw[zd h h2 (by simp;exact Nat.le_trans h3 (by decide)),au,mP]
noncomputable def bK(c U:ar)(k right:Int):ar:=c.take k.toNat++U++c.drop (right+1).toNat
theorem ik{c U:ar}{k right:Int}(h:0≤k∧k≤right+1∧right<c.length)(lU:(U.length:Int)=right+1- k):(bK c U k right).length=c.length:=by
 unfold bK;simp;apply ju [_,_] [_,_,_,_,_,_] 0x27288200a 0x7be2f786317c621 0x48468006252 157778 0x23402a52 10506 0x54b3286452 lU (tN h.1) (tN (aq [_,_] [] 0x23400030 1057 147504 0x11a0090 h.1 h.2.1)) (mL (a0 [_,_] [_,_] 8968 558113 0x11a4080 281233 139346 h.2.1 h.2.2 (tN h.1))) (oS (aq [_] [_,_] 8968 17441 281217 0x23402052 h.2.2 (tN (aq [_,_] [] 0x23400030 1057 147504 0x11a0090 h.1 h.2.1))))
noncomputable def cy(c:ar)(k many right b:Int):ar:=List.replicate many.toNat (bare b)++(c.drop k.toNat).take (right+1- many- k).toNat
noncomputable def ins(cs:ar)(k many right b:Int):ar:=
 let c:=a9 (a9 (a9 cs k) (right+1)) (right+1- many)
 bK c (cy c k many right b) k right
theorem fP{c:ar}{k many right b:Int}(h:0≤k∧k≤right∧right<c.length)(h1:0<many∧many≤right- k+1):((cy c k many right b).length:Int)=right+1- k:=by
 unfold cy;simp;apply a0 [_,_,_,_] [_,_] 0x1411a401815002 0x7bde18c621 5762 0x14b08d20086252 8970 (Int.max_eq_left (af [_] [] 131120 33 131121 h1.1)) (tN (af [_,_,_] [] 0x14908d00084030 33 0x46a404090 h1.2)) (mL (ju [_,_,_] [_,_,_,_] 8968 0x1f188421 297601 147505 0x14908d00086052 173650 0x4cb2286252 h.2.2 h1.1 (tN (af [_,_,_] [] 0x14908d00084030 33 0x46a404090 h1.2)) (tN h.1) (oS (a0 [_,_] [_,_] 8968 558113 4736 281233 139346 h.2.1 h.2.2 (tN h.1)))))
noncomputable def eQ(c:ar)(k right b:Int):ar:=(c.drop (k+1).toNat).take (right+1- (k+1)).toNat++[bare b]
noncomputable def nh(cs:ar)(k right b:Int):ar:=
 let c:=a9 (a9 (a9 cs k) (right+1)) (k+1)
 bK c (eQ c k right b) k right
theorem kE{c:ar}{k right b:Int}(h:0≤k∧k≤right∧right<c.length):((eQ c k right b).length:Int)=right+1- k:=by
 unfold eQ;simp;apply aq [_,_] [_,_] 0x2423400211c0a02 0x1ef0c621 0x46900468006252 8970 (tN (af [_,_] [] 0x46900468004030 33 4240 h.2.1)) (mL (eo [_,_] [_,_,_,_] 8968 0xf8c421 297601 0x46900468006052 0x23482652 0x4cb2286252 h.2.2 (tN (af [_,_] [] 0x46900468004030 33 4240 h.2.1)) (tN (af [_] [] 0x23400030 33 131120 h.1)) (oS (a0 [_,_] [_,_] 8968 558113 4736 281233 0x23402052 h.2.1 h.2.2 (tN (af [_] [] 0x23400030 33 131120 h.1))))))
theorem nJ(cs:ar)(a b c:Int):(a9 (a9 (a9 cs a) b) c).length=cs.length:=by rw[cJ,cJ,cJ]
theorem Ez(cs:ar)(k r m:Int):a9 (a9 (a9 (a9 cs k) r) k) m=a9 (a9 (a9 cs k) r) m:=by rw[eP (cj (dX cs k):c0 (a9 (a9 cs k) r) k)]
noncomputable abbrev SQ(l:Ln)(cs:ar)(F:As):QE:=fun v H'=>v= .none∧ ∃wr,Sat H' (aG {l with wr:=wr} cs++F)
theorem se(d:Nat)(k many right b:Int)(ok:RowOK cs)(h:Sat H (aG l cs++F))(hl:cs.length≤1000)(h0:0≤k∧k≤right∧right<cs.length)(h1:0<many∧many≤right- k+1):
  Ca (CO P (d+6)) 703 [.loc l.i,.int k,.int many,.int right,cQ b] H (SQ l (ins cs k many right b) F):=by
 refine' use ?_
 refine' b8 0 (LS.m_shift P h) ?_
 have goal:Ca (CO P (d+5)) 696 [.loc l.i,.int k,.int many,.int right,cQ b,.bool false] H (SQ l (ins cs k many right b) F):=by
  refine' use ?_
  refine' aK 0 (LS.cells P h) ?_
  refine' aY 0 (ij (LS.row h)) ?_
  refine' aY 0 (ey H right (↑(List.length cs)- 1) (by apply af [_] [_] 0x23814280 33 264833 h0.2.2)) ?_
  refine' ak 0 (A:=0≤k) (by apply h0.1) ?_
  refine' ak 0 (A:=k≤right) (by apply h0.2.1) ?_
  refine' aj 0 (cT P (d+3) H many (0) (right- k+1) (by apply⟨(af [_] [] 131120 33 131121 h1.1),h1.2⟩)) ?_
  refine' am 0 (A:=many=0) (by apply Ne.symm (Int.ne_of_lt h1.1)) ?_
  refine' b8 2 (LS.m_part P h) ?_
  refine' cD 0 (aZ P d k ok h) fun Z2 z1=> ?_
  refine' b8 1 (LS.m_part P z1) ?_
  refine' cD 0 (aZ P d (right+1) (bZ ok k) z1) fun Z4 z3=> ?_
  refine' b8 1 (LS.m_part P z3) ?_
  refine' cD 0 (aZ P d k (bZ (bZ ok k) (right+1)) z3) fun Z6 z5=> ?_
  refine' b8 1 (LS.m_part P z5) ?_
  refine' cD 0 (aZ P d (right+1- many) (bZ (bZ (bZ ok k) (right+1)) k) z5) fun Z8 z7=> ?_
  rw[Ez] at z7
  have lC:=nJ cs k (right+1) (right+1- many)
  unfold ins
  dsimp only
  generalize a9 (a9 (a9 cs k) (right+1)) (right+1- many)=C at z7 lC⊢
  have h0':0≤k∧k≤right∧right<C.length:=by apply⟨h0.1,⟨h0.2.1,(aq [_] [_,_] 264833 15393 281217 8970 h0.2.2 lC)⟩⟩
  have lU:=fP (c:=C) (b:=b) h0' h1
  have lS:=ik ⟨h0'.1,by apply af [_,_] [] 0x11a4080 33 4736 h0.2.1,h0'.2.2⟩ lU
  refine' aK 1 (LS.cells P z7) ?_
  refine' bf 0 (bz (LS.row z7)) ?_
  have h5:=z7.new' (cA MObj.list (lG (cs:=C) (a:=k) (b:=right+1- many) ⟨h0'.1,by apply af [_,_,_] [] 0x2823480280 33 0x4684840a0 h1.2,by apply a0 [_,_] [_,_] 0x815211a0010 492577 281217 147505 8970 h0.2.2 h1.1 lC⟩))
  refine' uC 0 (iX P (d+1) many b h5 (by apply⟨(af [_] [] 131120 33 131121 h1.1),(eo [_,_,_] [_] 0x1f408880 0x108421 0x1f408908 147504 264865 0x469504080 hl h0.1 h0.2.2 h1.2)⟩)) fun n H6 h6=> ?_
  refine' aY 1 (Cj (List.replicate many.toNat (bare b)) _ h6.hd h6.tail.hd (by have:=lU;unfold cy at this;rw[List.length_append] at this;apply eo [_,_] [_,_,_] 0x1f403246008 0x1108421 0x1f408928 131120 297617 0x1011a4018c0052 hl h0.1 h0.2.2 this):_=some (.loc H6.length,H6++[au (cy C k many right b)])) ?_
  have h7:=h6.new (o:=au (cy C k many right b))
  have h8:=h7.tail.tail.tail
  refine' aK 0 (LS.cells P h8) ?_
  refine' bf 0 (ao (LS.row h8)) ?_
  refine' bf 0 (ao h7.hd) ?_
  refine' hZ 0 (h7.ne (q:=l.c) (o':=au C) (List.Mem.tail _ (List.Mem.tail _ (List.Mem.tail _ (List.Mem.tail _ (List.Mem.head _)))))) ?_
  refine' bf 0 (cq k (right+1) (cy C k many right b) C (by apply⟨h0.1,⟨(af [_,_] [] 0x11a4080 33 4736 h0.2.1),(aq [_] [_,_] 0x20508d000 15393 281217 8970 h0.2.2 lC)⟩⟩) (by apply ju [_,_] [_,_,_] 0x1f403246008 0x23108441 0x1f408928 131120 297617 9482 0x40469006252 hl h0.1 h0.2.2 lC lU)) ?_
  have h9:=LS.setRow (bK C (cy C k many right b) k right) h8
  generalize bK C (cy C k many right b) k right=V at h9 lS⊢
  refine' aK 0 (LS.cells P h9) ?_
  refine' aY 0 (ij (LS.row h9)) ?_
  by_cases hr:right=(V.length:Int)- 1
  ·refine' ak 0 hr ?_
   refine' dj 0 (LS.setWr P false h9) fun H10 h10=> ?_
   refine' ax 0 .none H10 ⟨rfl,⟨false,h10⟩⟩
  ·refine' am 0 hr ?_
   exact ax 0 .none _ ⟨rfl,⟨l.wr,h9⟩⟩
 refine' gv 0 goal fun u H1 h1=> ?_
 obtain⟨rfl,h1⟩:=h1
 refine' ax 0 .none H1 ⟨rfl,h1⟩
theorem sf(d:Nat)(k right b:Int)(ok:RowOK cs)(h:Sat H (aG l cs++F))(hl:cs.length≤1000)(h0:0≤k∧k≤right∧right<cs.length):
  Ca (CO P (d+6)) 710 [.loc l.i,.int k,.int 1,.int right,cQ b] H (SQ l (nh cs k right b) F):=by
 refine' use ?_
 refine' b8 0 (LS.m_shift P h) ?_
 have goal:Ca (CO P (d+5)) 696 [.loc l.i,.int k,.int 1,.int right,cQ b,.bool true] H (SQ l (nh cs k right b) F):=by
  refine' use ?_
  refine' aK 0 (LS.cells P h) ?_
  refine' aY 0 (ij (LS.row h)) ?_
  refine' aY 0 (ey H right (↑(List.length cs)- 1) (by apply af [_] [_] 0x23814280 33 264833 h0.2.2)) ?_
  refine' ak 0 (A:=0≤k) (by apply h0.1) ?_
  refine' ak 0 (A:=k≤right) (by apply h0.2.1) ?_
  refine' aj 0 (cT P (d+3) H (1) (0) (right- k+1) (by apply⟨(aV [] [] 573488 1),(af [_,_] [] 0x8d28080230 33 4240 h0.2.1)⟩)) ?_
  refine' b8 3 (LS.m_part P h) ?_
  refine' cD 0 (aZ P d k ok h) fun Z2 z1=> ?_
  refine' b8 1 (LS.m_part P z1) ?_
  refine' cD 0 (aZ P d (right+1) (bZ ok k) z1) fun Z4 z3=> ?_
  refine' b8 1 (LS.m_part P z3) ?_
  refine' cD 0 (aZ P d (k+1) (bZ (bZ ok k) (right+1)) z3) fun Z6 z5=> ?_
  refine' b8 1 (LS.m_part P z5) ?_
  refine' cD 0 (aZ P d (right+1) (bZ (bZ (bZ ok k) (right+1)) (k+1)) z5) fun Z8 z7=> ?_
  rw[eP (cj (dX (a9 cs k) (right+1)):c0 (a9 (a9 (a9 cs k) (right+1)) (k+1)) (right+1))] at z7
  have lC:=nJ cs k (right+1) (k+1)
  unfold nh
  dsimp only
  generalize a9 (a9 (a9 cs k) (right+1)) (k+1)=C at z7 lC⊢
  have h0':0≤k∧k≤right∧right<C.length:=by apply⟨h0.1,⟨h0.2.1,(aq [_] [_,_] 264833 15393 281217 8970 h0.2.2 lC)⟩⟩
  have lU:=kE (c:=C) (b:=b) h0'
  have lS:=ik ⟨h0'.1,by apply af [_,_] [] 0x11a4080 33 4736 h0.2.1,h0'.2.2⟩ lU
  refine' aK 1 (LS.cells P z7) ?_
  refine' bf 0 (bz (LS.row z7)) ?_
  have h5:=z7.new' (cA MObj.list (lG (cs:=C) (a:=k+1) (b:=right+1) ⟨by apply af [_] [] 0x23400030 33 131120 h0.1,by apply af [_,_] [] 0x8d2008d000 33 4736 h0.2.1,by apply aq [_] [_,_] 0x20508d000 15393 281217 8970 h0.2.2 lC⟩))
  refine' uC 0 (iX P (d+1) 1 b h5 (by apply⟨(aV [] [] 573488 1),(aV [] [] 0x3e8110230 1)⟩)) fun n H6 h6=> ?_
  refine' aY 1 (Cj _ (List.replicate (1:Int).toNat (bare b)) h6.tail.hd h6.hd (by have:=lU;unfold eQ at this;rw[List.length_append] at this;simp only[List.length_replicate,List.length_cons,List.length_nil] at this⊢;apply ju [_,_] [_,_,_] 0x1f403246008 0x23108421 0x1f408928 131120 297617 0x1011a40108c03040052 582226 hl h0.1 h0.2.2 this (tN (aV [] [] 573488 1))):_=some (.loc H6.length,H6++[au (eQ C k right b)])) ?_
  have h7:=h6.new (o:=au (eQ C k right b))
  have h8:=h7.tail.tail.tail
  refine' aK 0 (LS.cells P h8) ?_
  refine' bf 0 (ao (LS.row h8)) ?_
  refine' bf 0 (ao h7.hd) ?_
  refine' hZ 0 (h7.ne (q:=l.c) (o':=au C) (List.Mem.tail _ (List.Mem.tail _ (List.Mem.tail _ (List.Mem.tail _ (List.Mem.head _)))))) ?_
  refine' bf 0 (cq k (right+1) (eQ C k right b) C (by apply⟨h0.1,⟨(af [_,_] [] 0x11a4080 33 4736 h0.2.1),(aq [_] [_,_] 0x20508d000 15393 281217 8970 h0.2.2 lC)⟩⟩) (by apply ju [_,_] [_,_,_] 0x1f403246008 0x23108441 0x1f408928 131120 297617 9482 0x40469006252 hl h0.1 h0.2.2 lC lU)) ?_
  have h9:=LS.setRow (bK C (eQ C k right b) k right) h8
  generalize bK C (eQ C k right b) k right=V at h9 lS⊢
  refine' aK 0 (LS.cells P h9) ?_
  refine' aY 0 (ij (LS.row h9)) ?_
  by_cases hr:right=(V.length:Int)- 1
  ·refine' ak 0 hr ?_
   refine' dj 0 (LS.setWr P false h9) fun H10 h10=> ?_
   refine' ax 0 .none H10 ⟨rfl,⟨false,h10⟩⟩
  ·refine' am 0 hr ?_
   exact ax 0 .none _ ⟨rfl,⟨l.wr,h9⟩⟩
 refine' gv 0 goal fun u H1 h1=> ?_
 obtain⟨rfl,h1⟩:=h1
 refine' ax 0 .none H1 ⟨rfl,h1⟩
noncomputable def pa(cs:ar)(left right b:Int):ar:=
 let c:=a9 (a9 cs left) (right+1)
 bK c (List.replicate (right+1- left).toNat (bare b)) left right
noncomputable def gH(c:ar)(left:Int)(j:Nat)(b:Int):ar:=match j with
 |0=>c
 |j+1=>(gH c left j b).set (left+j).toNat (bare b)
theorem zg(c:ar)(left b:Int):c=gH c left 0 b:=rfl
theorem kF(c:ar)(left:Int): ∀ (j:Nat) (b:Int),(gH c left j b).length=c.length
 |0,_=>rfl
 |j+1,b=>by rw[gH,List.length_set,kF c left j b]
theorem qy(c:ar)(left b:Int): ∀j:Nat,0≤left→left.toNat+j≤c.length→gH c left j b=c.take left.toNat++(List.replicate j (bare b)++c.drop (left.toNat+j))
 |0,_,_=>by simp[gH]
 |j+1,h,hl=>by
  rw[gH,qy c left b j h (by apply af [] [_,_,_] 0x946008 33 0x4823882008 hl),show(left+(j:Int)).toNat=left.toNat+j by apply aq [_] [_,_,_] 0x94410a 0x22f0be21 0x245402052 139858 (tN (af [_] [_] 0x205400030 33 131120 h)) (tN h)]
  rw[List.set_append_right _ _ (by simp;apply af [] [_,_,_] 0x944108 545 8970 (mL (af [] [_,_,_] 8968 33 0x4423902008 hl))),List.set_append_right _ _ (by simp;apply aq [] [_,_,_,_] 8968 15905 10026 0x122c260286252 (mL (af [] [_,_,_] 8968 33 0x4423902008 hl)) (oS (af [] [_,_,_] 0x944108 545 8970 (mL (af [] [_,_,_] 8968 33 0x4423902008 hl)))))]
  rw[List.drop_eq_getElem_cons (by apply af [] [_,_,_] 0x946009 33 0x4823882008 hl:left.toNat+j<c.length)]
  simp only[lT,List.length_replicate]
  rw[show left.toNat+j- min left.toNat c.length- j=0 by apply a0 [] [_,_,_,_,_] 1802 0x842018c5e1 9498 0x112d240286652 0x50b3286052 (mL (af [] [_,_,_] 8968 33 0x4423902008 hl)) (oS (af [] [_,_,_] 0x944108 545 8970 (mL (af [] [_,_,_] 8968 33 0x4423902008 hl)))) (oS (aq [] [_,_,_,_] 8968 15905 10026 0x122c260286252 (mL (af [] [_,_,_] 8968 33 0x4423902008 hl)) (oS (af [] [_,_,_] 0x944108 545 8970 (mL (af [] [_,_,_] 8968 33 0x4423902008 hl)))))),List.set_cons_zero,List.replicate_succ']
  simp[Nat.add_assoc]
theorem nK{c:ar}{left right b:Int}(h:0≤left∧left≤right∧right<c.length):gH c left (right+1- left).toNat b=bK c (List.replicate (right+1- left).toNat (bare b)) left right:=by
 rw[qy _ _ _ _ h.1 (by apply a0 [_,_] [_,_,_] 0x946008 574497 297601 155730 0x48468006252 h.2.2 (tN h.1) (tN (af [_,_] [] 0x48468004030 33 4240 h.2.1))),show left.toNat+(right+1- left).toNat=(right+1).toNat by apply a0 [_,_] [_,_,_] 0x94600a 0x8bde17c621 139346 0x40469006252 0x23482452 (tN h.1) (tN (af [_,_] [] 0x48468004030 33 4240 h.2.1)) (tN (aq [_,_] [] 0x23400030 1057 147504 4240 h.1 h.2.1))]
 unfold bK
 rw[aA]
theorem u3(d:Nat)(left right b:Int)(ok:RowOK cs)(h:Sat H (aG l cs++F))(hl:cs.length≤1000)(h0:0≤left∧left≤right∧right<cs.length):
  Ca (CO P (d+5)) 689 [.loc l.i,.int left,.int right,cQ b,.bool false] H (SQ l (pa cs left right b) F):=by
 refine' use ?_
 refine' aY 0 (fg H (0) left (by apply h0.1)) ?_
 refine' aK 0 (LS.cells P h) ?_
 refine' aY 0 (ij (LS.row h)) ?_
 refine' aY 0 (ey H right (↑(List.length cs)- 1) (by apply af [_] [_] 0x23814280 33 264833 h0.2.2)) ?_
 refine' am 0 (A:=right<left) (by apply af [_,_] [] 4739 33 4240 h0.2.1) ?_
 refine' aK 1 (LS.cells P h) ?_
 refine' aY 0 (ij (LS.row h)) ?_
 refine' ak 0 (A:=left< ↑(List.length cs)) (by apply aq [_,_] [_] 264833 1057 4736 264849 h0.2.1 h0.2.2) ?_
 refine' b8 1 (LS.m_part P h) ?_
 refine' cD 0 (aZ P d left ok h) fun Z10 z9=> ?_
 refine' aK 1 (LS.cells P z9) ?_
 refine' aY 0 (ij (LS.row z9)) ?_
 refine' bc (right+1< ↑(List.length (a9 cs left))) (fun c11=> ?_) (fun c11=> ?_)
 ·refine' ak 0 c11 ?_
  refine' b8 1 (LS.m_part P z9) ?_
  refine' cD 0 (aZ P d (right+1) (bZ ok left) z9) fun Z13 z12=> ?_
  have lC:(a9 (a9 cs left) (right+1)).length=cs.length:=by rw[cJ,cJ]
  unfold pa
  dsimp only
  generalize a9 (a9 cs left) (right+1)=C at z12 lC⊢
  refine' cZ 1 (fh Z13 left (right+1) (by apply⟨⟨(af [_] [] 0x4746a52880020820 33 131120 h0.1),(a0 [_,_] [_] 0x746a52880020880 33825 0x1f408908 4736 264849 hl h0.2.1 h0.2.2)⟩,⟨(aq [_,_] [] 0x4680746a52880020820 1057 147504 4240 h0.1 h0.2.1),(aq [_] [_] 0x3a3529440010408d000 1057 0x1f408908 264833 hl h0.2.2)⟩⟩)) ?_
  refine' lE 0 left (right+1- left).toNat Z13 "column" (fun j H=>Sat H (aG l (gH C left j b)++F)) (zg C left b▸z12) (fun j o Z hj hz=> ?_) (fun o Z hz=> ?_)
  ·have lF:=kF C left j b
   refine' aj 1 (gh P (d+2) Z b) ?_
   refine' aK 0 (LS.cells P hz) ?_
   refine' dj 0 (LS.setC (left+ ↑j) (bare b) hz (by apply⟨(af [_] [_] 0x205400030 33 131120 h0.1),(ju [_,_] [_,_,_,_,_] 0x225815001 0x22f0bc21 297617 9530 10505 10010 0x40469006852 h0.2.2 lC hj lF (tN (af [_,_] [] 0x48468004030 33 4240 h0.2.1)))⟩)) fun Z2 z1=> ?_
   refine' ld 0 o (MV.int (left+ ↑j)) Z2 ?_
   exact z1
  ·rw[nK (by apply⟨h0.1,⟨h0.2.1,(aq [_] [_,_] 264833 15393 281217 8970 h0.2.2 lC)⟩⟩)] at hz
   have lV:(bK C (List.replicate (right+1- left).toNat (bare b)) left right).length=C.length:=ik ⟨h0.1,by apply af [_,_] [] 0x11a4080 33 4736 h0.2.1,by apply aq [_] [_,_] 264833 15393 281217 8970 h0.2.2 lC⟩ (by simp;apply Int.max_eq_left (af [_,_] [] 0x48468004030 33 4240 h0.2.1))
   generalize bK C (List.replicate (right+1- left).toNat (bare b)) left right=V at hz lV⊢
   refine' aK 0 (LS.cells P hz) ?_
   refine' aY 0 (ij (LS.row hz)) ?_
   refine' bc (right= ↑(List.length V)- 1) (fun c3=> ?_) (fun c3=> ?_)
   ·refine' ak 0 c3 ?_
    refine' dj 0 (LS.setWr P false hz) fun Z5 z4=> ?_
    refine' ax 0 .none Z5 ⟨rfl,⟨false,z4⟩⟩
   ·refine' am 0 c3 ?_
    refine' ax 0 .none Z ⟨rfl,⟨l.wr,hz⟩⟩
 ·refine' am 0 c11 ?_
  have e2:a9 (a9 cs left) (right+1)=a9 cs left:=eE fun q=>c11 q.2.1
  have lC:(a9 (a9 cs left) (right+1)).length=cs.length:=by rw[cJ,cJ]
  unfold pa
  dsimp only
  rw[←e2] at z9
  generalize a9 (a9 cs left) (right+1)=C at z9 lC⊢
  refine' cZ 1 (fh Z10 left (right+1) (by apply⟨⟨(af [_] [] 0x4746a52880020820 33 131120 h0.1),(a0 [_,_] [_] 0x746a52880020880 33825 0x1f408908 4736 264849 hl h0.2.1 h0.2.2)⟩,⟨(aq [_,_] [] 0x4680746a52880020820 1057 147504 4240 h0.1 h0.2.1),(aq [_] [_] 0x3a3529440010408d000 1057 0x1f408908 264833 hl h0.2.2)⟩⟩)) ?_
  refine' lE 0 left (right+1- left).toNat Z10 "column" (fun j H=>Sat H (aG l (gH C left j b)++F)) (zg C left b▸z9) (fun j o Z hj hz=> ?_) (fun o Z hz=> ?_)
  ·have lF:=kF C left j b
   refine' aj 1 (gh P (d+2) Z b) ?_
   refine' aK 0 (LS.cells P hz) ?_
   refine' dj 0 (LS.setC (left+ ↑j) (bare b) hz (by apply⟨(af [_] [_] 0x205400030 33 131120 h0.1),(ju [_,_] [_,_,_,_,_] 0x225815001 0x22f0bc21 297617 9530 10505 10010 0x40469006852 h0.2.2 lC hj lF (tN (af [_,_] [] 0x48468004030 33 4240 h0.2.1)))⟩)) fun Z7 z6=> ?_
   refine' ld 0 o (MV.int (left+ ↑j)) Z7 ?_
   exact z6
  ·rw[nK (by apply⟨h0.1,⟨h0.2.1,(aq [_] [_,_] 264833 15393 281217 8970 h0.2.2 lC)⟩⟩)] at hz
   have lV:(bK C (List.replicate (right+1- left).toNat (bare b)) left right).length=C.length:=ik ⟨h0.1,by apply af [_,_] [] 0x11a4080 33 4736 h0.2.1,by apply aq [_] [_,_] 264833 15393 281217 8970 h0.2.2 lC⟩ (by simp;apply Int.max_eq_left (af [_,_] [] 0x48468004030 33 4240 h0.2.1))
   generalize bK C (List.replicate (right+1- left).toNat (bare b)) left right=V at hz lV⊢
   refine' aK 0 (LS.cells P hz) ?_
   refine' aY 0 (ij (LS.row hz)) ?_
   refine' bc (right= ↑(List.length V)- 1) (fun c8=> ?_) (fun c8=> ?_)
   ·refine' ak 0 c8 ?_
    refine' dj 0 (LS.setWr P false hz) fun Z10 z9=> ?_
    refine' ax 0 .none Z10 ⟨rfl,⟨false,z9⟩⟩
   ·refine' am 0 c8 ?_
    refine' ax 0 .none Z ⟨rfl,⟨l.wr,hz⟩⟩
end
structure Vt where
 R:Int
 C:Int
 row:Int
 col:Int
 waits:Bool
 back:Int
 top:Int
 bottom:Int
 left:Int
 right:Int
 aw:Bool
 ins:Bool
 near:Bool
 far:Bool
 grid:List ar
 last:List Int
structure Sn where
 s:Vt
 w:Vt
 signs:Int
 deck:List Int
 place:Int
structure Dn where
 pLines:Nat
 lns:List Ln
 pLast:Nat
 mt:Option Nat
 lrows:List Nat
noncomputable def Ck(D:Dn):MObj:=match D.mt with
 |none=> .dict []
 |some t=> .bdict [([66],.loc (t+28))]
noncomputable def hp(S:Sn)(D:Dn)(G:Hp):Hp:=[
 .inst 1196 1,
 .dict [("rows",.int S.s.R),("columns",.int S.s.C),("modes",.loc 8),("widths",.loc 10),("history",.none),("grid",.loc 6),("cursor",.loc 2),("margins",.loc 4),("tabs",.loc 24),("charsets",.loc 12),("saved",.none),("last",.loc (D.pLast+28)),("has_right",.bool false)],
 .inst 359 3,
 .dict [("row",.int S.s.row),("column",.int S.s.col),("is_waiting",.bool S.s.waits),("pen",cQ S.s.back),("is_origin",.bool false),("is_guarding",.bool false)],
 .inst 492 5,
 .dict [("rows",.int S.s.R),("columns",.int S.s.C),("top",.int S.s.top),("bottom",.int S.s.bottom),("left",.int S.s.left),("right",.int S.s.right)],
 .inst 905 7,
 .dict [("rows",.int S.s.R),("columns",.int S.s.C),("lines",.loc (D.pLines+28))],
 .inst 1276 9,
 .dict [("states",.loc 14),("kept",.loc 23)],
 .inst 144 11,
 .dict [("wide",.loc 17),("marks",.loc 18),("joiners",.loc 27)],
 .inst 303 13,
 .dict [("made",.loc 22),("names",.loc 19),("left",.int 0),("right",.int 2),("shift",.none)],
 .dict [("send_receive",.bool true),("autowrap",.bool S.s.aw),("autorepeat",.bool true),("show_cursor",.bool true),("num_lock",.bool true),("side_margins",.bool true),("insert",.bool S.s.ins),("reverse_wrap",.bool S.s.near),("reverse_wrap_far",.bool S.s.far)],
 .dict [("columns",.int S.w.C),("top",.int S.w.top),("bottom",.int S.w.bottom),("left",.int S.w.left),("right",.int S.w.right),("row",.int S.w.row),("column",.int S.w.col),("waits",.bool S.w.waits),("back",.int S.w.back),("last",.tup (S.w.last.map .int)),("signs",.int S.signs),("wraps",.bool S.w.aw),("inserts",.bool S.w.ins),("near",.bool S.w.near),("far",.bool S.w.far),("rows",.loc 21)],
 .dict [("cells",.loc 20),("place",.int S.place)],
 .list [.tup [.int 19968,.int 20223]],
 .list [.tup [.int 768,.int 879]],
 .list [.bytes [66],.bytes [66],.bytes [37,53],.bytes [37,53]],
 .list (S.deck.map .int),
 .list (D.lrows.map fun n=> .loc (n+28)),
 Ck D,
 .dict [],
 .inst 591 25,
 .dict [("columns",.int S.s.C),("stops",.loc 26)],
 .dict [],
 .list []]++G
noncomputable abbrev Ln.up(l:Ln):Ln:=⟨l.i+28,l.d+28,l.c+28,l.wr⟩
noncomputable def io(l:Ln)(cs:ar):As:=[(l.i,.inst 756 (l.d+28)),(l.d,.dict (td l.up)),(l.c,au cs)]
noncomputable def dl:List Ln→List ar→As
 |l::ls,cs::g=>io l cs++dl ls g
 |_,_=>[]
noncomputable def cE:List Nat→List ar→As
 |n::ns,cs::g=>(n,au cs)::cE ns g
 |_,_=>[]
noncomputable def Fo:Option Nat→As
 |none=>[]
 |some t=>[(t,.dict [])]
noncomputable def dT(D:Dn)(gs:List ar)(last:List Int)(gw:List ar):As:=
 (D.pLines,.list (D.lns.map fun l=> .loc (l.i+28)))::(D.pLast,.list (last.map .int))::(Fo D.mt++(dl D.lns gs++cE D.lrows gw))
structure DY(G:Hp)(D:Dn)(gs:List ar)(last:List Int)(gw:List ar)(F:As):Prop where
 sat:Sat G (dT D gs last gw++F)
 l1:D.lns.length=gs.length
 l2:D.lrows.length=gw.length
noncomputable abbrev aE(G:Hp)(D:Dn)(S:Sn)(F:As):Prop:=DY G D S.s.grid S.s.last S.w.grid F
noncomputable def Sx(u:MV)(S':Sn)(F:As):QE:=fun v H'=>v=u∧ ∃D' G',H'=hp S' D' G'∧aE G' D' S' F
theorem Sx.mk{u:MV}{S S':Sn}{D:Dn}{G:Hp}{F:As}(h:aE G D S F)(e:S=S'):Sx u S' F u (hp S D G):=⟨rfl,D,G,e▸rfl,e▸h⟩
section
variable{O:dJ}{t:Tr}{Q:QS}
theorem aU(n:Nat){a:Addr}{vs:List MV}{H:Hp}{u:MV}{S':Sn}{F:As}(e:Ca O a vs H (Sx u S' F))(r: ∀D' G',aE G' D' S' F→Wt O (cc (aL n t) u (hp S' D' G')) Q)(hr:hc (aL n t)=some (a,vs,H):=by kernel_rfl):Wt O t Q:=
 gv n e (fun v H' h=>by
  obtain⟨rfl,D',G',rfl,h⟩:=h
  exact r D' G' h) hr
end
noncomputable def ni(A:As):As:=A.map fun q=>(q.1+28,q.2)
noncomputable def ei(S:Sn)(D:Dn):As:=(List.range 28).zip ((hp S D []).take 28)
section
variable{S S':Sn}{D D':Dn}{G G' H':Hp}{A B F:As}{n:Nat}{o:MObj}
theorem kG:(hp S D G).length=G.length+28:=rfl
theorem cU(n:Nat):(hp S D G)[n+28]?=G[n]?:=rfl
theorem qz: ∀ (L pre G:Hp),Sat (pre++(L++G)) ((List.range' pre.length L.length).zip L)
 |[],_,_=> .nil
 |o::L,pre,G=>by
  have h:=qz L (pre++[o]) G
  rw[aA,List.length_append] at h
  refine .cons (by simp) (fun q hq e=> ?_) h
  have:=(List.mem_range'_1.mp (List.of_mem_zip (show(q.1,q.2)∈_ from hq)).1).1
  rw[e] at this
  exact Nat.lt_irrefl _ this
theorem Sat.lift(h:Sat G A):Sat (hp S D G) (ni A++ei S D):=by
 have hf:Sat (hp S D G) (ei S D):=qz ((hp S D []).take 28) [] G
 have hk: ∀q∈ei S D,q.1<28:=fun q hq=>by
  have:=(List.of_mem_zip (show(q.1,q.2)∈_ from hq)).1
  exact List.mem_range.mp this
 induction h with
 |nil=>exact hf
 | @cons p o A h g r ih=>
  refine Sat.cons (by rw[cU];exact h) (fun q hq=> ?_) ih
  rcases List.mem_append.mp hq with hq|hq
  ·obtain⟨z,hz,rfl⟩:=List.mem_map.mp hq
   exact fun e=>g z hz (by simpa using e)
  ·exact Nat.ne_of_lt (Nat.lt_of_lt_of_le (hk q hq) (Nat.le_add_left _ _))
theorem sh(h:Sat H' (ei S D)):H'=hp S D (H'.drop 28):=by
 have hm:=h.mem
 have e: ∀i,i<28→H'[i]?=(hp S D [])[i]?:=fun i hi=>by
  have hl:i<(hp S D []).length:=by rw[kG];simpa using hi
  have hx:(ei S D)[i]?=some (i,(hp S D [])[i]):=by
   unfold ei
   rw[List.getElem?_zip_eq_some]
   exact⟨List.getElem?_range hi,by rw[List.getElem?_take_of_lt hi];exact gE hl⟩
  rw[hm _ (mG hx),gE hl]
 refine List.ext_getElem? fun i=> ?_
 rcases Nat.lt_or_ge i 28 with hi|hi
 ·rw[e i hi]
  have:hp S D (H'.drop 28)=hp S D []++H'.drop 28:=by unfold hp;simp
  rw[this,List.getElem?_append_left (by rw[kG];simpa using hi)]
 ·obtain⟨j,rfl⟩:=Nat.exists_eq_add_of_le' hi
  rw[cU,List.getElem?_drop,Nat.add_comm]
theorem Sat.lower(h:Sat H' (ni A++ei S D)):H'=hp S D (H'.drop 28)∧Sat (H'.drop 28) A:=by
 have e:=sh h.right
 refine⟨e,?_⟩
 have hl:=h.left
 clear h
 generalize H'.drop 28=G at e
 subst e
 induction A with
 |nil=>exact .nil
 |cons q A ih=>
  obtain⟨p,o⟩:=q
  cases hl with
  |cons h g r=>
   refine .cons (by rw[cU] at h;exact h) (fun q hq e=> ?_) (ih r)
   exact g (q.1+28,q.2) (List.mem_map.mpr ⟨q,hq,rfl⟩) (by simpa using e)
theorem gU:ni (A++B)=ni A++ni B:=mP
theorem Dm(h:A.Perm B):(ni A).Perm (ni B):=h.map _
theorem jK(A X Y:As):(A++(X++Y)).Perm (X++(A++Y)):=by
 rw[←aA,←aA];exact List.perm_append_comm.append_right _
theorem u4: ∀ {ls:List Ln} {gs:List ar} {r:Nat} {l:Ln} {cs:ar},ls[r]?=some l→gs[r]?=some cs→ ∃rest:As,(dl ls gs).Perm (io l cs++rest)∧ ∀l' cs',(dl (ls.set r l') (gs.set r cs')).Perm (io l' cs'++rest)
 |[],_,_,_,_,h,_=>by simp at h
 |_::_,[],_,_,_,_,h=>by simp at h
 |a::ls,g::gs,0,l,cs,h1,h2=>by
  simp at h1 h2;subst h1 h2
  exact⟨dl ls gs,.refl _,fun _ _=> .refl _⟩
 |a::ls,g::gs,r+1,l,cs,h1,h2=>by
  obtain⟨rest,p1,p2⟩:=u4 (ls:=ls) (gs:=gs) (r:=r) (by simpa using h1) (by simpa using h2)
  refine⟨io a g++rest,?_,fun l' cs'=> ?_⟩
  ·exact(List.Perm.append_left _ p1).trans (by rw[←aA,←aA];exact List.perm_append_comm.append_right _)
  ·exact(List.Perm.append_left _ (p2 l' cs')).trans (by rw[←aA,←aA];exact List.perm_append_comm.append_right _)
theorem qA: ∀ {ls:List Nat} {gs:List ar} {r:Nat} {l:Nat} {cs:ar},ls[r]?=some l→gs[r]?=some cs→ ∃rest:As,(cE ls gs).Perm ((l,au cs)::rest)∧ ∀cs',(cE ls (gs.set r cs')).Perm ((l,au cs')::rest)
 |[],_,_,_,_,h,_=>by simp at h
 |_::_,[],_,_,_,_,h=>by simp at h
 |a::ls,g::gs,0,l,cs,h1,h2=>by
  simp at h1 h2;subst h1 h2
  exact⟨cE ls gs,.refl _,fun _=> .refl _⟩
 |a::ls,g::gs,r+1,l,cs,h1,h2=>by
  obtain⟨rest,p1,p2⟩:=qA (ls:=ls) (gs:=gs) (r:=r) (by simpa using h1) (by simpa using h2)
  exact⟨(a,au g)::rest,(p1.cons _).trans (.swap _ _ _),fun cs'=>((p2 cs').cons _).trans (.swap _ _ _)⟩
variable{gs gw:List ar}{last:List Int}
theorem DY.line3(h:DY G D gs last gw F){r:Nat}{l:Ln}{cs:ar}(h1:D.lns[r]?=some l)(h2:gs[r]?=some cs): ∃rest:As,(dT D gs last gw++F).Perm (io l cs++rest)∧
  (∀wr cs',(dT {D with lns:=D.lns.set r {l with wr:=wr}} (gs.set r cs') last gw++F).Perm (io {l with wr:=wr} cs'++rest))∧(D.pLines,.list (D.lns.map fun l=> .loc (l.i+28)))∈rest:=by
 obtain⟨rest,p1,p2⟩:=u4 h1 h2
 have key: ∀ (X:As) (Y:As) (a b:Nat×MObj) (M R:As),X.Perm (Y++rest)→(a::b::(M++(X++R))++F).Perm (Y++(rest++(a::b::(M++R)++F))):=by
  intro X Y a b M R p
  have q:(a::b::(M++(X++R))++F).Perm (X++(a::b::(M++R)++F)):=by
   have e1:(a::b::(M++(X++R))++F)=([a,b]++M)++(X++(R++F)):=by simp
   have e2:(X++(a::b::(M++R)++F))=X++(([a,b]++M)++(R++F)):=by simp
   rw[e1,e2]
   exact jK _ _ _
  refine q.trans ((p.append_right _).trans ?_)
  rw[aA]
 refine⟨rest++_,key _ _ _ _ _ _ p1,fun wr cs'=> ?_,mR _ (.head _)⟩
 have e:(D.lns.set r {l with wr:=wr}).map (fun l=>MV.loc (l.i+28))=D.lns.map fun l=>MV.loc (l.i+28):=by
  refine List.ext_getElem? fun i=> ?_
  rw[List.getElem?_map,List.getElem?_map,List.getElem?_set]
  split
  ·rename_i q;subst q
   split
   ·rw[h1];rfl
   ·rename_i q;exact absurd (gS h1).1 q
  ·rfl
 unfold dT
 dsimp only
 rw[e]
 exact key _ _ _ _ _ _ (p2 _ cs')
theorem DY.line(h:DY G D gs last gw F){r:Nat}{l:Ln}{cs:ar}(h1:D.lns[r]?=some l)(h2:gs[r]?=some cs): ∃rest:As,(dT D gs last gw++F).Perm (io l cs++rest)∧
  ∀wr cs',(dT {D with lns:=D.lns.set r {l with wr:=wr}} (gs.set r cs') last gw++F).Perm (io {l with wr:=wr} cs'++rest):=by
 obtain⟨rest,a,b,_⟩:=DY.line3 h h1 h2
 exact⟨rest,a,b⟩
theorem DY.row(h:DY G D gs last gw F){r:Nat}{l:Nat}{cs:ar}(h1:D.lrows[r]?=some l)(h2:gw[r]?=some cs): ∃rest:As,(dT D gs last gw++F).Perm ((l,au cs)::rest)∧
  ∀cs',(dT D gs last (gw.set r cs')++F).Perm ((l,au cs')::rest):=by
 obtain⟨rest,p1,p2⟩:=qA h1 h2
 have key: ∀ (X:As) (y:Nat×MObj) (a b:Nat×MObj) (M R:As),X.Perm (y::rest)→(a::b::(M++(R++X))++F).Perm (y::(rest++(a::b::(M++R)++F))):=by
  intro X y a b M R p
  have q:(a::b::(M++(R++X))++F).Perm (X++(a::b::(M++R)++F)):=by
   have e1:(a::b::(M++(R++X))++F)=([a,b]++(M++R))++(X++F):=by simp
   have e2:(X++(a::b::(M++R)++F))=X++(([a,b]++(M++R))++F):=by simp
   rw[e1,e2]
   exact jK _ _ _
  exact q.trans (p.append_right _)
 exact⟨rest++_,key _ _ _ _ _ _ p1,fun cs'=>key _ _ _ _ _ _ (p2 cs')⟩
theorem Ar{c:Cw}{d:Nat}{f:Addr}{args:List MV}{r:Nat}{l:Ln}{cs cs':ar}(hG:aE G D S F)(h1:D.lns[r]?=some l)(h2:S.s.grid[r]?=some cs)
  (sp: ∀ (H:Hp) (l:Ln) (F:As),Sat H (aG l cs++F)→Ca (CO c d) f (.loc l.i::args) H (SQ l cs' F)):
  Ca (CO c d) f (.loc (l.i+28)::args) (hp S D G) fun v H'=>v= .none∧ ∃wr G',H'=hp {S with s:={S.s with grid:=S.s.grid.set r cs'}} {D with lns:=D.lns.set r {l with wr:=wr}} G'∧DY G' {D with lns:=D.lns.set r {l with wr:=wr}} (S.s.grid.set r cs') S.s.last S.w.grid F:=by
 obtain⟨rest,p1,p2⟩:=DY.line hG h1 h2
 have h3:=(hG.sat.perm p1).lift (S:=S) (D:=D)
 rw[gU,aA] at h3
 refine(sp (hp S D G) l.up _ h3).mono fun v H' ⟨e,wr,h4⟩=>⟨e,wr,H'.drop 28,?_⟩
 have h5:Sat H' (ni (io {l with wr:=wr} cs'++rest)++ei S D):=by rw[gU,aA];exact h4
 obtain⟨e2,h6⟩:=h5.lower
 exact⟨e2,h6.perm (p2 wr cs').symm,by rw[List.length_set,List.length_set];exact hG.l1,hG.l2⟩
end
structure GI(R C:Int)(g:List ar):Prop where
 len:(g.length:Int)=R
 row: ∀cs∈g,(cs.length:Int)=C∧RowOK cs
noncomputable def At(l:List Int):Prop:=l=[]∨ ∃a r,l=a::r∧((97≤a∧a≤122)∨(19968≤a∧a≤19993))
structure Inv(v:Vt):Prop where
 dim:(3≤v.R∧v.R≤4)∧5≤v.C∧v.C≤8
 mar:(0≤v.top∧v.top<v.bottom∧v.bottom<v.R)∧0≤v.left∧v.left<v.right∧v.right<v.C
 cur:(0≤v.row∧v.row<v.R)∧0≤v.col∧v.col<v.C
 gi:GI v.R v.C v.grid
noncomputable def bA(D:Dn)(r:Int):Ln:=D.lns.getD r.toNat ⟨0,0,0,false⟩
noncomputable def ab(g:List ar)(r:Int):ar:=g.getD r.toNat []
section
variable{S:Sn}{D:Dn}{G:Hp}{F:As}{R C r:Int}{g:List ar}
theorem GI.at(I:GI R C g)(h:0≤r∧r<R):g[r.toNat]?=some (ab g r):=by
 have:=I.len
 unfold ab
 rw[gD,gE (by exact a0 [_,_] [_,_] 8969 572449 4737 156242 139346 h.2 this (tN h.1))];rfl
theorem GI.rlen(I:GI R C g)(h:0≤r∧r<R):((ab g r).length:Int)=C:=(I.row _ (mG (I.at h))).1
theorem GI.rok(I:GI R C g)(h:0≤r∧r<R):RowOK (ab g r):=(I.row _ (mG (I.at h))).2
theorem GI.set(I:GI R C g)(r:Nat){cs:ar}(h:(cs.length:Int)=C∧RowOK cs):GI R C (g.set r cs):=⟨by rw[List.length_set];exact I.len,fun x hx=>by
 rcases List.mem_or_eq_of_mem_set hx with q|rfl
 ·exact I.row x q
 ·exact h⟩
theorem gI(hG:aE G D S F)(I:GI R C S.s.grid)(h:0≤r∧r<R):D.lns[r.toNat]?=some (bA D r):=by
 have h8:=I.len
 have h9:=hG.l1
 unfold bA
 rw[gD,gE (by omega)];rfl
theorem jL(hG:aE G D S F):G[D.pLines]?=some (.list (D.lns.map fun l=> .loc (l.i+28))):=hG.sat.at 0 rfl
theorem u6(hG:aE G D S F):G[D.pLast]?=some (.list (S.s.last.map .int)):=hG.sat.at 1 rfl
theorem fj(r:Int)(hG:aE G D S F)(I:GI R C S.s.grid)(h:0≤r∧r<R):eC (hp S D G) (.loc (D.pLines+28)) (.int r)=some (.loc ((bA D r).i+28)):=by
 have h1:=I.len
 have h2:=hG.l1
 refine ew (l:=D.lns.map fun l=> .loc (l.i+28)) (j:=r.toNat) ((cU (S:=S) (D:=D) D.pLines).trans (jL hG)) (fN ⟨h.1,by rw[lM];exact a0 [_,_] [_,_] 264833 506913 4737 156242 8970 h.2 h1 h2⟩) ?_
 rw[List.getElem?_map,gI hG I h];rfl
theorem ip(hG:aE G D S F)(I:GI R C S.s.grid)(h:0≤r∧r<R): ∃rest,Sat (hp S D G) (aG (bA D r).up (ab S.s.grid r)++rest):=by
 obtain⟨rest,p1,_⟩:=DY.line hG (gI hG I h) (I.at h)
 have h3:=(hG.sat.perm p1).lift (S:=S) (D:=D)
 rw[gU,aA] at h3
 exact⟨_,h3⟩
theorem ed(c:Cw)(r:Int)(hG:aE G D S F)(I:GI R C S.s.grid)(h:0≤r∧r<R):jv c.K (hp S D G) (.loc ((bA D r).i+28)) "cells" =some (.loc ((bA D r).c+28)):=by
 obtain⟨rest,q⟩:=ip hG I h;exact LS.cells c q
theorem xO(c:Cw)(r:Int)(hG:aE G D S F)(I:GI R C S.s.grid)(h:0≤r∧r<R):jv c.K (hp S D G) (.loc ((bA D r).i+28)) "size" =some (.str "single"):=by
 obtain⟨rest,q⟩:=ip hG I h;exact LS.size c q
theorem jM(c:Cw)(r:Int)(x:Str)(f:Addr)(h1:jV c.K 756 x=some f∧(x≠ "cells" ∧x≠ "is_wrapped" ∧x≠ "size"))(hG:aE G D S F)(I:GI R C S.s.grid)(h:0≤r∧r<R):dD c.K (hp S D G) (.loc ((bA D r).i+28)) x=some (some f):=by
 obtain⟨rest,q⟩:=ip hG I h
 refine LS.m c f x q ?_ h1.1
 simp[cN,Ne.symm h1.2.1,Ne.symm h1.2.2.1,Ne.symm h1.2.2.2]
theorem da(c:Cw)(r:Int)(hG:aE G D S F)(I:GI R C S.s.grid)(h:0≤r∧r<R):dD c.K (hp S D G) (.loc ((bA D r).i+28)) "put" =some (some 674):=jM c r _ _ ⟨by kernel_rfl,by decide⟩ hG I h
theorem eS(c:Cw)(r:Int)(hG:aE G D S F)(I:GI R C S.s.grid)(h:0≤r∧r<R):dD c.K (hp S D G) (.loc ((bA D r).i+28)) "insert" =some (some 703):=jM c r _ _ ⟨by kernel_rfl,by decide⟩ hG I h
theorem si(c:Cw)(r:Int)(hG:aE G D S F)(I:GI R C S.s.grid)(h:0≤r∧r<R):dD c.K (hp S D G) (.loc ((bA D r).i+28)) "delete" =some (some 710):=jM c r _ _ ⟨by kernel_rfl,by decide⟩ hG I h
theorem u7(c:Cw)(r:Int)(hG:aE G D S F)(I:GI R C S.s.grid)(h:0≤r∧r<R):dD c.K (hp S D G) (.loc ((bA D r).i+28)) "erase" =some (some 689):=jM c r _ _ ⟨by kernel_rfl,by decide⟩ hG I h
theorem pb(r:Int)(hG:aE G D S F)(I:GI R C S.s.grid)(h:0≤r∧r<R):(hp S D G)[(bA D r).c+28]?=some (au (ab S.s.grid r)):=by
 obtain⟨rest,q⟩:=ip hG I h;exact LS.row (l:=(bA D r).up) q
theorem zh(c:Cw)(r:Int)(b:Bool)(hG:aE G D S F)(I:GI R C S.s.grid)(h:0≤r∧r<R): ∃H',k8 c.K (hp S D G) (.loc ((bA D r).i+28)) "is_wrapped" (.bool b)=some H'∧ ∃G',H'=hp S {D with lns:=D.lns.set r.toNat {bA D r with wr:=b}} G'∧aE G' {D with lns:=D.lns.set r.toNat {bA D r with wr:=b}} S F:=by
 obtain⟨rest,p1,p2⟩:=DY.line hG (gI hG I h) (I.at h)
 have h3:=(hG.sat.perm p1).lift (S:=S) (D:=D)
 rw[gU,aA] at h3
 obtain⟨H',e,q⟩:=LS.setWr (l:=(bA D r).up) (cs:=ab S.s.grid r) c b h3
 refine⟨H',e,H'.drop 28,?_⟩
 have h5:Sat H' (ni (io {bA D r with wr:=b} (ab S.s.grid r)++rest)++ei S D):=by rw[gU,aA];exact q
 obtain⟨e2,h6⟩:=h5.lower
 have e3:S.s.grid.set r.toNat (ab S.s.grid r)=S.s.grid:=by
  refine List.ext_getElem? fun i=> ?_
  rw[List.getElem?_set]
  split
  ·rename_i q;subst q
   split
   ·exact(I.at h).symm
   ·rename_i q;rw[List.getElem?_eq_none (Nat.le_of_not_lt q)]
  ·rfl
 have:=h6.perm (p2 b (ab S.s.grid r)).symm
 rw[e3] at this
 exact⟨e2,this,by rw[List.length_set];exact hG.l1,hG.l2⟩
end
noncomputable def aR(v:Vt):Int:=if v.left≤v.col then v.left else 0
noncomputable def aa(v:Vt):Int:=if v.col≤v.right then v.right else v.C- 1
section
variable(P:Cw)(d:Nat)(S:Sn)(D:Dn)(G:Hp){F:As}
noncomputable abbrev bU(u:MV)(H:Hp):QE:=fun v H'=>v=u∧H'=H
theorem bh:Ca (CO P (d+1)) 1266 [.loc 8,.str "autowrap"] (hp S D G) (bU (.bool S.s.aw) (hp S D G)):=by
 refine' use ?_
 refine' ax 3 (MV.bool S.s.aw) (hp S D G) (⟨rfl,rfl⟩)
theorem bW:Ca (CO P (d+1)) 1266 [.loc 8,.str "insert"] (hp S D G) (bU (.bool S.s.ins) (hp S D G)):=by
 refine' use ?_
 refine' ax 3 (MV.bool S.s.ins) (hp S D G) (⟨rfl,rfl⟩)
theorem sj:Ca (CO P (d+1)) 1266 [.loc 8,.str "reverse_wrap"] (hp S D G) (bU (.bool S.s.near) (hp S D G)):=by
 refine' use ?_
 refine' ax 3 (MV.bool S.s.near) (hp S D G) (⟨rfl,rfl⟩)
theorem u8:Ca (CO P (d+1)) 1266 [.loc 8,.str "reverse_wrap_far"] (hp S D G) (bU (.bool S.s.far) (hp S D G)):=by
 refine' use ?_
 refine' ax 3 (MV.bool S.s.far) (hp S D G) (⟨rfl,rfl⟩)
theorem eF:Ca (CO P (d+1)) 1266 [.loc 8,.str "clusters"] (hp S D G) (bU (.bool false) (hp S D G)):=by
 refine' use ?_
 refine' ax 3 (MV.bool false) (hp S D G) (⟨rfl,rfl⟩)
theorem kH:Ca (CO P (d+1)) 1266 [.loc 8,.str "side_margins"] (hp S D G) (bU (.bool true) (hp S D G)):=by
 refine' use ?_
 refine' ax 3 (MV.bool true) (hp S D G) (⟨rfl,rfl⟩)
variable{S}{D}{G}
theorem qB(r:Int)(hG:aE G D S F)(I:GI S.s.R S.s.C S.s.grid)(h:0≤r∧r<S.s.R):Ca (CO P (d+1)) 779 [.loc 6,.int r] (hp S D G) (bU (.loc ((bA D r).i+28)) (hp S D G)):=by
 refine' use ?_
 refine' aK 1 (fj r hG I h) ?_
 refine' ax 0 (MV.loc ((bA D r).i+28)) (hp S D G) (⟨rfl,rfl⟩)
theorem br(hG:aE G D S F)(I:GI S.s.R S.s.C S.s.grid)(h:0≤S.s.row∧S.s.row<S.s.R):Ca (CO P (d+2)) 946 [.loc 0] (hp S D G) (bU (.loc ((bA D S.s.row).i+28)) (hp S D G)):=by
 refine' use ?_
 refine' aj 4 (qB P d (S.s.row) hG I h) ?_
 refine' ax 0 (MV.loc ((bA D S.s.row).i+28)) (hp S D G) (⟨rfl,rfl⟩)
theorem iq(r:Int)(hG:aE G D S F)(I:GI S.s.R S.s.C S.s.grid)(h:0≤r∧r<S.s.R):Ca (CO P (d+2)) 953 [.loc 0,.int r] (hp S D G) (bU (.int S.s.C) (hp S D G)):=by
 refine' use ?_
 refine' aj 2 (qB P d r hG I h) ?_
 refine' aK 0 (xO P r hG I h) ?_
 refine' ax 2 (MV.int S.s.C) (hp S D G) (⟨rfl,rfl⟩)
theorem bb(hG:aE G D S F)(I:GI S.s.R S.s.C S.s.grid)(h:0≤S.s.row∧S.s.row<S.s.R)(h2:0<S.s.C∧S.s.right<S.s.C):Ca (CO P (d+3)) 960 [.loc 0] (hp S D G) (bU (.int (aa S.s)) (hp S D G)):=by
 refine' use ?_
 refine' aj 3 (iq P d (S.s.row) hG I h) ?_
 refine' aY 0 (fg (hp S D G) (0) (S.s.C- 1) (by apply af [_] [] 0x23404030 33 131121 h2.1)) ?_
 refine' bc (S.s.col≤S.s.right) (fun c1=> ?_) (fun c1=> ?_)
 ·refine' ak 4 c1 ?_
  refine' aY 2 (xF (hp S D G) (S.s.C- 1) (S.s.right) (by apply af [_,_] [] 0x11a4280 33 4737 h2.2)) ?_
  refine' ax 0 (MV.int S.s.right) (hp S D G) (⟨cA MV.int (by unfold aa;rw[if_pos c1]),rfl⟩)
 ·refine' am 4 c1 ?_
  refine' ax 0 (MV.int (S.s.C- 1)) (hp S D G) (⟨cA MV.int (by unfold aa;rw[if_neg c1]),rfl⟩)
variable(S)(D)(G)
theorem cr:Ca (CO P (d+1)) 967 [.loc 0] (hp S D G) (bU (.int (aR S.s)) (hp S D G)):=by
 refine' use ?_
 refine' bc (S.s.left≤S.s.col) (fun c2=> ?_) (fun c2=> ?_)
 ·refine' ak 4 c2 ?_
  refine' ax 2 (MV.int S.s.left) (hp S D G) (⟨cA MV.int (by unfold aR;rw[if_pos c2]),rfl⟩)
 ·refine' am 4 c2 ?_
  refine' ax 0 (MV.int 0) (hp S D G) (⟨cA MV.int (by unfold aR;rw[if_neg c2]),rfl⟩)
theorem lH:Ca (CO P (d+1)) 974 [.loc 0] (hp S D G) (bU (.bool (decide (S.s.left≤S.s.col∧S.s.col≤S.s.right))) (hp S D G)):=by
 refine' use ?_
 refine' bc (S.s.left≤S.s.col) (fun c3=> ?_) (fun c3=> ?_)
 ·refine' ak 4 c3 ?_
  refine' ax 2 (MV.bool (decide (S.s.col≤S.s.right))) (hp S D G) (⟨cA MV.bool (by simp[c3]),rfl⟩)
 ·refine' am 4 c3 ?_
  refine' ax 0 (MV.bool false) (hp S D G) (⟨cA MV.bool (by simp[c3]),rfl⟩)
theorem iY:Ca (CO P (d+1)) 419 [.loc 4] (hp S D G) (bU (.tup [.int S.s.top,.int S.s.left,.int S.s.bottom,.int S.s.right]) (hp S D G)):=by
 refine' use ?_
 refine' ax 4 (MV.tup [MV.int S.s.top,MV.int S.s.left,MV.int S.s.bottom,MV.int S.s.right]) (hp S D G) (⟨rfl,rfl⟩)
theorem Au(r:Int):Ca (CO P (d+1)) 433 [.loc 4,.int r] (hp S D G) (bU (.bool (decide (S.s.top≤r∧r≤S.s.bottom))) (hp S D G)):=by
 refine' use ?_
 refine' bc (S.s.top≤r) (fun c4=> ?_) (fun c4=> ?_)
 ·refine' ak 1 c4 ?_
  refine' ax 1 (MV.bool (decide (r≤S.s.bottom))) (hp S D G) (⟨cA MV.bool (by simp[c4]),rfl⟩)
 ·refine' am 1 c4 ?_
  refine' ax 0 (MV.bool false) (hp S D G) (⟨cA MV.bool (by simp[c4]),rfl⟩)
theorem Av(r:Int):Ca (CO P (d+1)) 440 [.loc 4,.int r] (hp S D G) (bU (.bool (decide (S.s.left≤r∧r≤S.s.right))) (hp S D G)):=by
 refine' use ?_
 refine' bc (S.s.left≤r) (fun c5=> ?_) (fun c5=> ?_)
 ·refine' ak 1 c5 ?_
  refine' ax 1 (MV.bool (decide (r≤S.s.right))) (hp S D G) (⟨cA MV.bool (by simp[c5]),rfl⟩)
 ·refine' am 1 c5 ?_
  refine' ax 0 (MV.bool false) (hp S D G) (⟨cA MV.bool (by simp[c5]),rfl⟩)
theorem xP(r c:Int):Ca (CO P (d+2)) 426 [.loc 4,.int r,.int c] (hp S D G) (bU (.bool (decide ((S.s.top≤r∧r≤S.s.bottom)∧S.s.left≤c∧c≤S.s.right))) (hp S D G)):=by
 refine' use ?_
 refine' aj 1 (Au P d S D G r) ?_
 refine' bc (S.s.top≤r∧r≤S.s.bottom) (fun c6=> ?_) (fun c6=> ?_)
 ·refine' ak 0 c6 ?_
  refine' aj 1 (Av P d S D G c) ?_
  refine' ax 0 (MV.bool (decide (S.s.left≤c∧c≤S.s.right))) (hp S D G) (⟨cA MV.bool (by simp[c6]),rfl⟩)
 ·refine' am 0 c6 ?_
  refine' ax 0 (MV.bool false) (hp S D G) (⟨cA MV.bool (by simp[c6]),rfl⟩)
end
noncomputable def a6(g:List ar)(f:Nat→ar→ar)(p q:Nat):List ar:=g.mapIdx fun i cs=>if p≤i∧i<q then f i cs else cs
section
variable{g:List ar}{f:Nat→ar→ar}{p q:Nat}
theorem bP(g:List ar)(f:Nat→ar→ar)(p q i:Nat):(a6 g f p q)[i]?=(g[i]?).map fun cs=>if p≤i∧i<q then f i cs else cs:=by
 unfold a6;rw[List.getElem?_mapIdx]
theorem kI(g:List ar)(f:Nat→ar→ar)(p q:Nat):(a6 g f p q).length=g.length:=by unfold a6;rw[List.length_mapIdx]
theorem b9(g:List ar)(f:Nat→ar→ar)(p:Nat):a6 g f p p=g:=by
 refine List.ext_getElem? fun i=> ?_
 rw[bP]
 cases g[i]? with
 |none=>rfl
 |some cs=>simp only[Option.map_some];rw[if_neg fun q=>Nat.not_lt.mpr q.1 q.2]
theorem qC{cs:ar}(h:p≤q)(e:g[q]?=some cs):(a6 g f p q).set q (f q cs)=a6 g f p (q+1):=by
 refine List.ext_getElem? fun i=> ?_
 rw[List.getElem?_set,bP,bP,kI]
 by_cases hi:q=i
 ·subst hi
  rw[if_pos rfl,if_pos (gS e).1,e]
  simp only[Option.map_some];rw[if_pos (by exact⟨h,(aV [] [_] 0x11c0109 1)⟩)]
 ·rw[if_neg hi]
  cases g[i]? with
  |none=>rfl
  |some c=>simp only[Option.map_some];congr 2;exact propext ⟨fun z=>⟨z.1,Nat.lt_succ_of_lt z.2⟩,fun z=>⟨z.1,Nat.lt_of_le_of_ne (Nat.le_of_lt_succ z.2) (Ne.symm hi)⟩⟩
theorem lI{cs:ar}(h:p<q)(e:g[p]?=some cs):(a6 g f (p+1) q).set p (f p cs)=a6 g f p q:=by
 refine List.ext_getElem? fun i=> ?_
 rw[List.getElem?_set,bP,bP,kI]
 by_cases hi:p=i
 ·subst hi
  rw[if_pos rfl,if_pos (gS e).1,e]
  simp only[Option.map_some];rw[if_pos (by exact⟨(aV [] [_] 8456 1),h⟩)]
 ·rw[if_neg hi]
  cases g[i]? with
  |none=>rfl
  |some c=>simp only[Option.map_some];congr 2;exact propext ⟨fun z=>⟨Nat.le_of_succ_le z.1,z.2⟩,fun z=>⟨Nat.lt_of_le_of_ne z.1 hi,z.2⟩⟩
theorem eT(g:List ar)(f:Nat→ar→ar)(p q:Nat)(r:Int)(h: ¬(p≤r.toNat∧r.toNat<q)):ab (a6 g f p q) r=ab g r:=by
 unfold ab
 rw[gD,bP,gD]
 cases g[r.toNat]? with
 |none=>rfl
 |some c=>simp only[Option.map_some];rw[if_neg h]
theorem dU{R C:Int}(I:GI R C g)(h: ∀i cs,p≤i→i<q→g[i]?=some cs→((f i cs).length:Int)=C∧RowOK (f i cs)):GI R C (a6 g f p q):=by
 refine⟨by rw[kI];exact I.len,fun x hx=> ?_⟩
 obtain⟨i,hi⟩:=List.mem_iff_getElem?.mp hx
 rw[bP] at hi
 cases e:g[i]? with
 |none=>rw[e] at hi;cases hi
 |some cs=>
  rw[e] at hi
  simp only[Option.map_some,Option.some.injEq] at hi
  subst hi
  split
  ·rename_i q;exact h i cs q.1 q.2 e
  ·exact I.row _ (mG e)
theorem Aw{f':Nat→ar→ar}(h: ∀i cs,p≤i→i<q→g[i]?=some cs→f i cs=f' i cs):a6 g f p q=a6 g f' p q:=by
 refine List.ext_getElem? fun i=> ?_
 rw[bP,bP]
 cases e:g[i]? with
 |none=>rfl
 |some cs=>
  simp only[Option.map_some]
  split
  ·rename_i q;rw[h i cs q.1 q.2 e]
  ·rfl
end
noncomputable def dL(cs:ar)(left right:Int):ar:=a9 (a9 cs left) (right+1)
noncomputable def aC(c:ar)(left right:Int):ar:=(c.drop left.toNat).take (right+1- left).toNat
@[simp] theorem Do(cs:ar)(left right:Int):(dL cs left right).length=cs.length:=by unfold dL;rw[cJ,cJ]
noncomputable def cF(g:List ar)(top bottom left right b:Int)(up:Bool)(i:Nat):ar:=
 if up then(if(i:Int)<bottom then aC (dL (ab g (i+1)) left right) left right else List.replicate (right+1- left).toNat (bare b))
 else(if top<(i:Int) then aC (dL (ab g (i- 1)) left right) left right else List.replicate (right+1- left).toNat (bare b))
noncomputable def ay(g:List ar)(top bottom left right b:Int)(up:Bool):List ar:=a6 g (fun i cs=>bK (dL cs left right) (cF g top bottom left right b up i) left right) top.toNat (bottom+1).toNat
theorem fQ{c:ar}{left right:Int}(h:0≤left∧left≤right∧right<c.length):((aC c left right).length:Int)=right+1- left:=by
 unfold aC
 rw[lT,lD];apply aq [_,_] [_,_] 0x48468006052 0x1ef0c621 0x48468006252 8970 (tN (af [_,_] [] 0x48468004030 33 4240 h.2.1)) (mL (eo [_,_] [_,_,_,_] 8968 0xf8c421 297601 0x48468006052 157266 0x4cb2286252 h.2.2 (tN (af [_,_] [] 0x48468004030 33 4240 h.2.1)) (tN h.1) (oS (a0 [_,_] [_,_] 8968 558113 4736 281233 139346 h.2.1 h.2.2 (tN h.1)))))
theorem Ax{c U:ar}{left right:Int}(h:0≤left∧left≤right∧right<c.length)(ok:RowOK c)(c1:c0 c left)(c2:c0 c (right+1))(u:RowOK U):RowOK (bK c U left right):=
 ((ii ok h.1 c1).1.append u).append (ii ok (by exact aq [_,_] [] 0x23400030 1057 147504 4240 h.1 h.2.1) c2).2
theorem eG(cs:ar)(left right:Int):c0 (dL cs left right) left:=cj (dX cs left)
theorem eH(cs:ar)(left right:Int):c0 (dL cs left right) (right+1):=dX _ _
theorem EA{cs:ar}(h:RowOK cs)(left right:Int):RowOK (dL cs left right):=bZ (bZ h _) _
theorem sk{c:ar}{left right:Int}(h:0≤left∧left≤right)(ok:RowOK c)(c1:c0 c left)(c2:c0 c (right+1)):RowOK (aC c left right):=mE ok h.1 (by exact af [_,_] [] 0x11a4080 33 4736 h.2) c1 c2
noncomputable def dr(C:Int)(cs:ar):Prop:=(cs.length:Int)=C∧RowOK cs
theorem gJ{C:Int}{cs:ar}(h:dr C cs)(k:Int):dr C (a9 cs k):=⟨by rw[cJ];exact h.1,bZ h.2 k⟩
theorem jp{C:Int}{c U:ar}{left right:Int}(h:dr C c)(b:0≤left∧left≤right∧right<C)(c1:c0 c left)(c2:c0 c (right+1))(u:RowOK U)(lu:(U.length:Int)=right+1- left):dr C (bK c U left right):=by
 have b':0≤left∧left≤right∧right<c.length:=by rw[h.1];exact b
 exact⟨by rw[ik ⟨b'.1,by exact af [_,_] [] 0x11a4080 33 4736 b.2.1,b'.2.2⟩ lu];exact h.1,Ax b' h.2 c1 c2 u⟩
theorem fR{C:Int}{cs:ar}{k many right b:Int}(h:dr C cs)(h0:0≤k∧k≤right∧right<C)(h1:0<many∧many≤right- k+1):dr C (ins cs k many right b):=by
 have hc:=gJ (gJ (gJ h k) (right+1)) (right+1- many)
 have b':0≤k∧k≤right∧right<(a9 (a9 (a9 cs k) (right+1)) (right+1- many)).length:=by rw[hc.1];exact h0
 refine jp hc h0 (cj (eG cs k right)) (cj (eH cs k right)) ?_ (fP b' h1)
 exact(RowOK.bares _ _).append (mE hc.2 h0.1 (by exact af [_,_,_] [] 0x2823480280 33 0x4684840a0 h1.2) (cj (eG cs k right)) (dX _ _))
theorem qD{C:Int}{cs:ar}{k right b:Int}(h:dr C cs)(h0:0≤k∧k≤right∧right<C):dr C (nh cs k right b):=by
 have hc:=gJ (gJ (gJ h k) (right+1)) (k+1)
 have b':0≤k∧k≤right∧right<(a9 (a9 (a9 cs k) (right+1)) (k+1)).length:=by rw[hc.1];exact h0
 refine jp hc h0 (cj (eG cs k right)) (cj (eH cs k right)) ?_ (kE b')
 exact(mE hc.2 (by exact af [_] [] 0x23400030 33 131120 h0.1) (by exact af [_,_] [] 0x8d2008d000 33 4736 h0.2.1) (dX _ _) (cj (eH cs k right))).append (RowOK.bares 1 b)
theorem ft{C:Int}{cs:ar}(h:dr C cs)(left right:Int):dr C (dL cs left right):=gJ (gJ h _) _
theorem Co{C:Int}{cs:ar}{left right b:Int}(h:dr C cs)(h0:0≤left∧left≤right∧right<C):dr C (pa cs left right b):=
 jp (ft h left right) h0 (eG _ _ _) (eH _ _ _) (RowOK.bares _ _) (by rw[List.length_replicate];exact tN (af [_,_] [] 0x48468004030 33 4240 h0.2.1))
theorem GI.C{R C r:Int}{g:List ar}(I:GI R C g)(h:0≤r∧r<R):dr C (ab g r):=⟨I.rlen h,I.rok h⟩
theorem kJ{R C top bottom left right b:Int}{g:List ar}{i:Nat}{up:Bool}(I:GI R C g)(hm:(0≤top∧bottom<R)∧0≤left∧left≤right∧right<C)(hi:top≤i∧i≤bottom):RowOK (cF g top bottom left right b up i)∧((cF g top bottom left right b up i).length:Int)=right+1- left:=by
 have hb:RowOK (List.replicate (right+1- left).toNat (bare b))∧((List.replicate (right+1- left).toNat (bare b)).length:Int)=right+1- left:=⟨RowOK.bares _ _,by rw[List.length_replicate];exact tN (af [_,_] [] 0x48468004030 33 4240 hm.2.2.1)⟩
 have hp: ∀r:Int,0≤r∧r<R→RowOK (aC (dL (ab g r) left right) left right)∧((aC (dL (ab g r) left right) left right).length:Int)=right+1- left:=fun r hr=>by
  have hc:=ft (I.C hr) left right
  exact⟨sk ⟨hm.2.1,hm.2.2.1⟩ hc.2 (eG _ _ _) (eH _ _ _),fQ (by rw[hc.1];exact hm.2)⟩
 unfold cF
 cases up with
 |true=>
  simp only[if_true]
  split
  ·exact hp _ (by omega)
  ·exact hb
 |false=>
  simp only[Bool.false_eq_true,if_false]
  split
  ·exact hp _ (by omega)
  ·exact hb
theorem bX{R C top bottom left right b:Int}{g:List ar}{up:Bool}(I:GI R C g)(hm:(0≤top∧bottom<R)∧0≤left∧left≤right∧right<C):GI R C (ay g top bottom left right b up):=
 dU I fun i cs h1 h2 e=>by
  have hc:=ft ((I.row _ (mG e):dr C cs)) left right
  obtain⟨q1,q2⟩:=kJ (b:=b) (up:=up) I hm (i:=i) (by omega)
  exact jp hc hm.2 (eG _ _ _) (eH _ _ _) q1 q2
noncomputable def jx(D:Dn):List Nat:=D.lns.map Ln.i
noncomputable abbrev setRow(S:Sn)(r:Int)(cs:ar):Sn:={S with s:={S.s with grid:=S.s.grid.set r.toNat cs}}
noncomputable abbrev bu(S:Sn)(g:List ar):Sn:={S with s:={S.s with grid:=g}}
noncomputable abbrev setWr(D:Dn)(r:Int)(b:Bool):Dn:={D with lns:=D.lns.set r.toNat {bA D r with wr:=b}}
noncomputable def jq(u:MV)(S':Sn)(F:As)(D:Dn):QE:=fun v H'=>v=u∧ ∃D' G',H'=hp S' D' G'∧aE G' D' S' F∧jx D'=jx D
noncomputable def HX(S':Sn)(D':Dn)(F:As)(H:Hp):Prop:= ∃G',H=hp S' D' G'∧aE G' D' S' F
section
variable{O:dJ}{t:Tr}{Q:QS}
theorem bn(n:Nat){a:Addr}{vs:List MV}{H:Hp}{u:MV}{S':Sn}{F:As}{D:Dn}(e:Ca O a vs H (jq u S' F D))(r: ∀D' G',aE G' D' S' F→jx D'=jx D→Wt O (cc (aL n t) u (hp S' D' G')) Q)(hr:hc (aL n t)=some (a,vs,H):=by kernel_rfl):Wt O t Q:=
 gv n e (fun v H' h=>by
  obtain⟨rfl,D',G',rfl,h,k⟩:=h
  exact r D' G' h k) hr
theorem gK(n:Nat){m:Option Hp}{S':Sn}{D':Dn}{F:As}(e: ∃a,m=some a∧HX S' D' F a)(r: ∀G',aE G' D' S' F→Wt O (cont (aL n t) (.h (hp S' D' G'))) Q)(hr:hd (aL n t)=some (bd m fun x=>some (.h x)):=by kernel_rfl):Wt O t Q:=
 dj n e (fun a h=>by
  obtain⟨G',rfl,h⟩:=h
  exact r G' h) hr
end
section
variable{S S':Sn}{D D':Dn}{G:Hp}{F:As}{r:Int}
theorem jq.mk{u:MV}(h:aE G D' S F)(k:jx D'=jx D)(e:S=S'):jq u S' F D u (hp S D' G):=⟨rfl,D',G,e▸rfl,e▸h,k⟩
theorem jq.sx{u:MV}{v:MV}{H:Hp}(h:jq u S' F D v H):Sx u S' F v H:=by obtain⟨a,D',G',b,c,_⟩:=h;exact⟨a,D',G',b,c⟩
theorem cz(D:Dn)(r:Int)(b:Bool):jx (setWr D r b)=jx D:=by
 unfold jx setWr bA
 refine List.ext_getElem? fun i=> ?_
 simp only[List.getElem?_map,List.getElem?_set]
 split
 ·rename_i q;subst q
  split
  ·rename_i q;simp[gD,gE q]
  ·rename_i q;rw[List.getElem?_eq_none (Nat.le_of_not_lt q)]
 ·rfl
theorem lJ(c:Cw)(r:Int)(b:Bool)(hG:aE G D S F)(I:GI S.s.R S.s.C S.s.grid)(h:0≤r∧r<S.s.R): ∃a,k8 c.K (hp S D G) (.loc ((bA D r).i+28)) "is_wrapped" (.bool b)=some a∧HX S (setWr D r b) F a:=by
 obtain⟨H',e,G',e2,q⟩:=zh c r b hG I h
 exact⟨H',e,G',e2,q⟩
theorem xQ{c:Cw}{d:Nat}{f:Addr}{args:List MV}{cs':ar}(hG:aE G D S F)(I:GI S.s.R S.s.C S.s.grid)(h:0≤r∧r<S.s.R)
  (sp: ∀ (H:Hp) (l:Ln) (F:As),Sat H (aG l (ab S.s.grid r)++F)→Ca (CO c d) f (.loc l.i::args) H (SQ l cs' F)):
  Ca (CO c d) f (.loc ((bA D r).i+28)::args) (hp S D G) (jq .none (setRow S r cs') F D):=
 (Ar hG (gI hG I h) (I.at h) sp).mono fun v H' pz=>by obtain⟨e,wr,G',e2,q⟩:=pz;exact⟨e,_,G',e2,q,cz D r wr⟩
variable(c:Cw)(d:Nat)
theorem fS(r k many right b:Int)(hG:aE G D S F)(I:GI S.s.R S.s.C S.s.grid)(h:0≤r∧r<S.s.R)(hC:S.s.C≤8)(h0:0≤k∧k≤right∧right<S.s.C)(h1:0<many∧many≤right- k+1):
  Ca (CO c (d+6)) 703 [.loc ((bA D r).i+28),.int k,.int many,.int right,cQ b] (hp S D G) (jq .none (setRow S r (ins (ab S.s.grid r) k many right b)) F D):=
 xQ hG I h fun H l F q=>se c d k many right b (I.rok h) q (by have:=I.rlen h;exact aq [_] [_] 0x1f408908 17441 132736 139346 hC this) (by rw[I.rlen h];exact h0) h1
theorem u9(r k right b:Int)(hG:aE G D S F)(I:GI S.s.R S.s.C S.s.grid)(h:0≤r∧r<S.s.R)(hC:S.s.C≤8)(h0:0≤k∧k≤right∧right<S.s.C):
  Ca (CO c (d+6)) 710 [.loc ((bA D r).i+28),.int k,.int 1,.int right,cQ b] (hp S D G) (jq .none (setRow S r (nh (ab S.s.grid r) k right b)) F D):=
 xQ hG I h fun H l F q=>sf c d k right b (I.rok h) q (by have:=I.rlen h;exact aq [_] [_] 0x1f408908 17441 132736 139346 hC this) (by rw[I.rlen h];exact h0)
theorem xR(r left right b:Int)(hG:aE G D S F)(I:GI S.s.R S.s.C S.s.grid)(h:0≤r∧r<S.s.R)(hC:S.s.C≤8)(h0:0≤left∧left≤right∧right<S.s.C):
  Ca (CO c (d+5)) 689 [.loc ((bA D r).i+28),.int left,.int right,cQ b,.bool false] (hp S D G) (jq .none (setRow S r (pa (ab S.s.grid r) left right b)) F D):=
 xQ hG I h fun H l F q=>u3 c d left right b (I.rok h) q (by have:=I.rlen h;exact aq [_] [_] 0x1f408908 17441 132736 139346 hC this) (by rw[I.rlen h];exact h0)
theorem Cp(r k:Int)(x:Cell)(hG:aE G D S F)(I:GI S.s.R S.s.C S.s.grid)(h:0≤r∧r<S.s.R)(h0:0≤k∧k<S.s.C)(hw:x.w≠0)(h2: ¬(x.w=2∧k+1=S.s.C)):
  Ca (CO c (d+5)) 674 [.loc ((bA D r).i+28),.int k,x.mv] (hp S D G) (jq .none (setRow S r (put (ab S.s.grid r) k x)) F D):=
 xQ hG I h fun H l F q=>(nI c d k x (I.rok h) q h0.1 (by rw[I.rlen h];exact h0.2) hw (by rw[I.rlen h];exact h2)).mono fun v H' ⟨e,q⟩=>⟨e,l.wr,q⟩
end
local macro_rules | `(tactic| got_up) => `(tactic| first | assumption | omega | (dsimp only; omega) | (simp; omega) | (refine ⟨?_, ?_⟩ <;> first | omega | (simp; omega)))
theorem EB{D D':Dn}{r:Int}{b:Bool}{x:List Nat}(h:jx D=x):jx (setWr D r b)=x:=(cz D r b).trans h
noncomputable abbrev HS(S:Sn)(F:As)(D:Dn)(H:Hp):Prop:= ∃D' G',H=hp S D' G'∧aE G' D' S F∧jx D'=jx D
section
variable(P:Cw)(d:Nat)(S:Sn)(D:Dn)(G:Hp){F:As}
theorem fT(t l b r:Int):Ca (CO P (d+1)) 793 [.loc 6,.tup [.int t,.int l,.int b,.int r]] (hp S D G) (bU (.bool (decide (l=0∧r=S.s.C- 1))) (hp S D G)):=by
 refine' use ?_
 refine' bc (l=0) (fun c1=> ?_) (fun c1=> ?_)
 ·refine' ak 1 c1 ?_
  refine' ax 2 (MV.bool (decide (r=S.s.C- 1))) (hp S D G) (⟨cA MV.bool (by simp[c1]),rfl⟩)
 ·refine' am 1 c1 ?_
  refine' ax 0 (MV.bool false) (hp S D G) (⟨cA MV.bool (by simp[c1]),rfl⟩)
variable{S}{D}{G}
theorem fk(r:Int)(hG:aE G D S F)(I:GI S.s.R S.s.C S.s.grid)(h:0≤r∧r≤S.s.R):Ca (CO P (d+1)) 805 [.loc 6,.int r] (hp S D G) (jq .none S F D):=by
 refine' use ?_
 refine' bc (0<r) (fun c2=> ?_) (fun c2=> ?_)
 ·refine' ak 0 c2 ?_
  refine' aK 1 (fj (r- 1) hG I (by apply⟨(af [_] [] 0x23404030 33 131121 c2),(af [_,_] [] 0x908d011 33 4736 h.2)⟩)) ?_
  refine' gK 0 (lJ P (r- 1) false hG I (by apply⟨(af [_] [] 0x23404030 33 131121 c2),(af [_,_] [] 0x908d011 33 4736 h.2)⟩)) fun G4 g3=> ?_
  refine' ax 0 .none (hp S (setWr D (r- 1) false) G4) (jq.mk ‹_› (by first|rfl|(simp only[cz, *])) rfl)
 ·refine' am 0 c2 ?_
  refine' ax 0 .none (hp S D G) (jq.mk ‹_› (by first|rfl|(simp only[cz, *])) rfl)
theorem iu(t l b r:Int)(hG:aE G D S F)(I:GI S.s.R S.s.C S.s.grid)(h:0≤t∧t≤b∧b<S.s.R)(hR:S.s.R≤4):Ca (CO P (d+2)) 826 [.loc 6,.tup [.int t,.int l,.int b,.int r]] (hp S D G) (jq .none S F D):=by
 refine' use ?_
 refine' cZ 2 (fh (hp S D G) t (b+1) (by apply⟨⟨(af [_] [] 0x4746a52880020820 33 131120 h.1),(a0 [_,_,_] [] 0x746a52880020880 33825 4736 5265 67232 h.2.1 h.2.2 hR)⟩,⟨(aq [_,_] [] 0x4680746a52880020820 1057 147504 4240 h.1 h.2.1),(aq [_,_] [] 0x3a3529440010408d000 1057 4737 67216 h.2.2 hR)⟩⟩)) ?_
 refine' lE 0 t (b+1- t).toNat (hp S D G) "row" (fun j H=>HS S F D H) ⟨D,G,rfl,hG,rfl⟩ (fun j o Z hj hz=> ?_) (fun o Z hz=> ?_)
 ·obtain⟨D1,G1,rfl,g1,k1⟩:=hz
  refine' bc (r=S.s.C- 1) (fun c5=> ?_) (fun c5=> ?_)
  ·refine' ak 2 c5 ?_
   refine' aK 1 (fj (t+ ↑j) g1 I (by apply⟨(af [_] [_] 0x205400030 33 131120 h.1),(a0 [_,_,_] [_,_] 0x9815001 558113 4769 8969 0x4046a006252 h.2.2 hj (tN (af [_,_] [] 0x48468004030 33 4240 h.2.1)))⟩)) ?_
   refine' gK 0 (lJ P (t+ ↑j) false g1 I (by apply⟨(af [_] [_] 0x205400030 33 131120 h.1),(a0 [_,_,_] [_,_] 0x9815001 558113 4769 8969 0x4046a006252 h.2.2 hj (tN (af [_,_] [] 0x48468004030 33 4240 h.2.1)))⟩)) fun G7 g6=> ?_
   refine' bc (l=0) (fun c8=> ?_) (fun c8=> ?_)
   ·refine' ak 1 c8 ?_
    refine' bn 1 (fk P d (t+ ↑j) g6 I (by apply⟨(af [_] [_] 0x205400030 33 131120 h.1),(a0 [_,_,_] [_,_] 0x9815000 558113 4769 8969 0x4046a006252 h.2.2 hj (tN (af [_,_] [] 0x48468004030 33 4240 h.2.1)))⟩)) fun D11 G12 g9 k10=> ?_
    refine' ld 0 o (MV.int (t+ ↑j)) (hp S D11 G12) (⟨_,_,rfl,‹_›,by simp only[cz, *]⟩)
   ·refine' am 1 c8 ?_
    refine' ld 0 o (MV.int (t+ ↑j)) (hp S (setWr D1 (t+ ↑j) false) G7) (⟨_,_,rfl,‹_›,by simp only[cz, *]⟩)
  ·refine' am 2 c5 ?_
   refine' bc (l=0) (fun c13=> ?_) (fun c13=> ?_)
   ·refine' ak 1 c13 ?_
    refine' bn 1 (fk P d (t+ ↑j) g1 I (by apply⟨(af [_] [_] 0x205400030 33 131120 h.1),(a0 [_,_,_] [_,_] 0x9815000 558113 4769 8969 0x4046a006252 h.2.2 hj (tN (af [_,_] [] 0x48468004030 33 4240 h.2.1)))⟩)) fun D16 G17 g14 k15=> ?_
    refine' ld 0 o (MV.int (t+ ↑j)) (hp S D16 G17) (⟨_,_,rfl,‹_›,by simp only[cz, *]⟩)
   ·refine' am 1 c13 ?_
    refine' ld 0 o (MV.int (t+ ↑j)) (hp S D1 G1) (⟨_,_,rfl,‹_›,by simp only[cz, *]⟩)
 ·obtain⟨D1,G1,rfl,g1,k1⟩:=hz
  refine' ax 0 .none (hp S D1 G1) (jq.mk ‹_› (by first|rfl|(simp only[cz, *])) rfl)
theorem iw{g:List ar}{f:Nat→ar→ar}{R C t:Int}{j:Nat}(I:GI R C g)(h:0≤t∧t+j<R):(a6 g f t.toNat (t+j).toNat).set (t+j).toNat (f (t+j).toNat (ab g (t+j)))=a6 g f t.toNat (t+ ↑(j+1)).toNat:=by
 have:=qC (f:=f) (p:=t.toNat) (q:=(t+j).toNat) (by apply aq [_] [_,_,_] 8968 15905 139346 0x245402252 (tN h.1) (tN (af [_] [_] 0x205400030 33 131120 h.1))) (I.at (r:=t+j) (by apply⟨(af [_] [_] 0x205400030 33 131120 h.1),h.2⟩))
 rwa [show(t+j).toNat+1=(t+ ↑(j+1)).toNat by apply aq [_] [_,_,_] 0x1108e00a 0x22f0be21 0x245402052 0x11c805402252 (tN (af [_] [_] 0x205400030 33 131120 h.1)) (tN (af [_] [_,_] 0x11c005400030 545 0x205402252 (tN (af [_] [_] 0x205400030 33 131120 h.1))))] at this
theorem iy(g:List ar)(f:Nat→ar→ar){t:Int}{j:Nat}(h:0≤t):ab (a6 g f t.toNat (t+j).toNat) (t+j)=ab g (t+j):=eT _ _ _ _ _ (mt And.right (by apply aV [] [_] 8459 1))
theorem qE(g:List ar)(f:Nat→ar→ar){t b:Int}(h:0≤t∧t≤b):a6 g f t.toNat (t+ ↑(b+1- t).toNat).toNat=a6 g f t.toNat (b+1).toNat:=by rw[show t+ ↑(b+1- t).toNat=b+1 by apply af [_,_] [_] 0x8d20815002 493089 0x40469006052 (tN (af [_,_] [] 0x48468004030 33 4240 h.2))]
theorem iZ{S:Sn}{f:Nat→ar→ar}{R C t:Int}{j:Nat}(I:GI R C S.s.grid)(h:0≤t∧t+j<R):setRow (bu S (a6 S.s.grid f t.toNat (t+j).toNat)) (t+j) (f (t+j).toNat (ab (bu S (a6 S.s.grid f t.toNat (t+j).toNat)).s.grid (t+j)))=bu S (a6 S.s.grid f t.toNat (t+ ↑(j+1)).toNat):=by
 unfold setRow bu
 dsimp only
 rw[iy _ _ h.1,iw I h]
theorem HS.mk{S S':Sn}{D D':Dn}{G:Hp}{F:As}(e:S'=S)(h:aE G D' S' F)(k:jx D'=jx D):HS S F D (hp S' D' G):=⟨D',G,e▸rfl,e▸h,k⟩
theorem sm(t l b r bk:Int)(hG:aE G D S F)(I:GI S.s.R S.s.C S.s.grid)(h:0≤t∧t≤b∧b<S.s.R)(hR:S.s.R≤4∧S.s.C≤8)(h0:0≤l∧l<r∧r<S.s.C):
  Ca (CO P (d+7)) 833 [.loc 6,.tup [.int t,.int l,.int b,.int r],.int l,.int 1,cQ bk] (hp S D G) (jq .none (bu S (a6 S.s.grid (fun _ cs=>ins cs l 1 r bk) t.toNat (b+1).toNat)) F D):=by
 refine' use ?_
 refine' ak 1 (A:=l≤l) (by apply aV [_] [] 4224 1) ?_
 refine' ak 0 (A:=l≤r) (by apply af [_,_] [] 4736 33 4737 h0.2.1) ?_
 refine' cZ 0 (fh (hp S D G) t (b+1) (by apply⟨⟨(af [_] [] 0x4746a52880020820 33 131120 h.1),(a0 [_,_,_] [] 0x746a52880020880 33825 4736 5265 67232 h.2.1 h.2.2 hR.1)⟩,⟨(aq [_,_] [] 0x4680746a52880020820 1057 147504 4240 h.1 h.2.1),(aq [_,_] [] 0x3a3529440010408d000 1057 4737 67216 h.2.2 hR.1)⟩⟩)) ?_
 refine' lE 0 t (b+1- t).toNat (hp S D G) "row" (fun j H=>HS (bu S (a6 S.s.grid (fun _ cs=>ins cs l 1 r bk) t.toNat (t+ ↑j).toNat)) F D H) ⟨D,G,by rw[show t+ ↑(0:Nat)=t by apply aV [_] [] 0x100195002 33,b9],by rw[show t+ ↑(0:Nat)=t by apply aV [_] [] 0x100195002 33,b9];exact hG,rfl⟩ (fun j o Z hj hz=> ?_) (fun o Z hz=> ?_)
 ·obtain⟨D1,G1,rfl,g1,k1⟩:=hz
  have I1:GI S.s.R S.s.C (a6 S.s.grid (fun _ cs=>ins cs l 1 r bk) t.toNat (t+ ↑j).toNat):=dU I fun i cs h1 h2 e=>fR (I.row _ (mG e)) (by apply⟨h0.1,⟨(af [_,_] [] 4736 33 4737 h0.2.1),h0.2.2⟩⟩) (by apply⟨(aV [] [] 573489 1),(af [_,_] [] 0x8d28080230 33 4241 h0.2.1)⟩)
  refine' aK 1 (fj (t+ ↑j) g1 I1 (by apply⟨(af [_] [_] 0x205400030 33 131120 h.1),(a0 [_,_,_] [_,_] 0x9815001 558113 4769 8969 0x4046a006252 h.2.2 hj (tN (af [_,_] [] 0x48468004030 33 4240 h.2.1)))⟩)) ?_
  refine' b8 0 (eS P (t+ ↑j) g1 I1 (by apply⟨(af [_] [_] 0x205400030 33 131120 h.1),(a0 [_,_,_] [_,_] 0x9815001 558113 4769 8969 0x4046a006252 h.2.2 hj (tN (af [_,_] [] 0x48468004030 33 4240 h.2.1)))⟩)) ?_
  refine' bn 0 (fS P d (t+ ↑j) l (1) r bk g1 I1 (by apply⟨(af [_] [_] 0x205400030 33 131120 h.1),(a0 [_,_,_] [_,_] 0x9815001 558113 4769 8969 0x4046a006252 h.2.2 hj (tN (af [_,_] [] 0x48468004030 33 4240 h.2.1)))⟩) (by apply hR.2) (by apply⟨h0.1,⟨(af [_,_] [] 4736 33 4737 h0.2.1),h0.2.2⟩⟩) (by apply⟨(aV [] [] 573489 1),(af [_,_] [] 0x8d28080230 33 4241 h0.2.1)⟩)) fun D20 G21 g18 k19=> ?_
  refine' ld 0 o (MV.int (t+ ↑j)) (hp (setRow (bu S (a6 S.s.grid (fun x cs=>ins cs l 1 r bk) t.toNat (t+ ↑j).toNat)) (t+ ↑j) (ins (ab (bu S (a6 S.s.grid (fun x cs=>ins cs l 1 r bk) t.toNat (t+ ↑j).toNat)).s.grid (t+ ↑j)) l 1 r bk)) D20 G21) (HS.mk (iZ I (by apply⟨h.1,(a0 [_,_,_] [_,_] 0x9815001 558113 4769 8969 0x4046a006252 h.2.2 hj (tN (af [_,_] [] 0x48468004030 33 4240 h.2.1)))⟩)) ‹_› (by simp only[cz, *]))
 ·rw[qE _ _ ⟨h.1,h.2.1⟩] at hz
  have I1:GI S.s.R S.s.C (a6 S.s.grid (fun _ cs=>ins cs l 1 r bk) t.toNat (b+1).toNat):=dU I fun i cs h1 h2 e=>fR (I.row _ (mG e)) (by apply⟨h0.1,⟨(af [_,_] [] 4736 33 4737 h0.2.1),h0.2.2⟩⟩) (by apply⟨(aV [] [] 573489 1),(af [_,_] [] 0x8d28080230 33 4241 h0.2.1)⟩)
  obtain⟨D1,G1,rfl,g1,k1⟩:=hz
  refine' bn 1 (iu P (d+4) t l b r g1 I1 h (by apply hR.1)) fun D24 G25 g22 k23=> ?_
  refine' ax 0 .none (hp (bu S (a6 S.s.grid (fun x cs=>ins cs l 1 r bk) t.toNat (b+1).toNat)) D24 G25) (jq.mk ‹_› (by first|rfl|(simp only[cz, *])) rfl)
theorem sn(t l b r bk:Int)(hG:aE G D S F)(I:GI S.s.R S.s.C S.s.grid)(h:0≤t∧t≤b∧b<S.s.R)(hR:S.s.R≤4∧S.s.C≤8)(h0:0≤l∧l<r∧r<S.s.C):
  Ca (CO P (d+7)) 840 [.loc 6,.tup [.int t,.int l,.int b,.int r],.int l,.int 1,cQ bk] (hp S D G) (jq .none (bu S (a6 S.s.grid (fun _ cs=>nh cs l r bk) t.toNat (b+1).toNat)) F D):=by
 refine' use ?_
 refine' ak 1 (A:=l≤l) (by apply aV [_] [] 4224 1) ?_
 refine' ak 0 (A:=l≤r) (by apply af [_,_] [] 4736 33 4737 h0.2.1) ?_
 refine' cZ 0 (fh (hp S D G) t (b+1) (by apply⟨⟨(af [_] [] 0x4746a52880020820 33 131120 h.1),(a0 [_,_,_] [] 0x746a52880020880 33825 4736 5265 67232 h.2.1 h.2.2 hR.1)⟩,⟨(aq [_,_] [] 0x4680746a52880020820 1057 147504 4240 h.1 h.2.1),(aq [_,_] [] 0x3a3529440010408d000 1057 4737 67216 h.2.2 hR.1)⟩⟩)) ?_
 refine' lE 0 t (b+1- t).toNat (hp S D G) "row" (fun j H=>HS (bu S (a6 S.s.grid (fun _ cs=>nh cs l r bk) t.toNat (t+ ↑j).toNat)) F D H) ⟨D,G,by rw[show t+ ↑(0:Nat)=t by apply aV [_] [] 0x100195002 33,b9],by rw[show t+ ↑(0:Nat)=t by apply aV [_] [] 0x100195002 33,b9];exact hG,rfl⟩ (fun j o Z hj hz=> ?_) (fun o Z hz=> ?_)
 ·obtain⟨D1,G1,rfl,g1,k1⟩:=hz
  have I1:GI S.s.R S.s.C (a6 S.s.grid (fun _ cs=>nh cs l r bk) t.toNat (t+ ↑j).toNat):=dU I fun i cs h1 h2 e=>qD (I.row _ (mG e)) (by apply⟨h0.1,⟨(af [_,_] [] 4736 33 4737 h0.2.1),h0.2.2⟩⟩)
  refine' aK 1 (fj (t+ ↑j) g1 I1 (by apply⟨(af [_] [_] 0x205400030 33 131120 h.1),(a0 [_,_,_] [_,_] 0x9815001 558113 4769 8969 0x4046a006252 h.2.2 hj (tN (af [_,_] [] 0x48468004030 33 4240 h.2.1)))⟩)) ?_
  refine' b8 0 (si P (t+ ↑j) g1 I1 (by apply⟨(af [_] [_] 0x205400030 33 131120 h.1),(a0 [_,_,_] [_,_] 0x9815001 558113 4769 8969 0x4046a006252 h.2.2 hj (tN (af [_,_] [] 0x48468004030 33 4240 h.2.1)))⟩)) ?_
  refine' bn 0 (u9 P d (t+ ↑j) l r bk g1 I1 (by apply⟨(af [_] [_] 0x205400030 33 131120 h.1),(a0 [_,_,_] [_,_] 0x9815001 558113 4769 8969 0x4046a006252 h.2.2 hj (tN (af [_,_] [] 0x48468004030 33 4240 h.2.1)))⟩) (by apply hR.2) (by apply⟨h0.1,⟨(af [_,_] [] 4736 33 4737 h0.2.1),h0.2.2⟩⟩)) fun D28 G29 g26 k27=> ?_
  refine' ld 0 o (MV.int (t+ ↑j)) (hp (setRow (bu S (a6 S.s.grid (fun x cs=>nh cs l r bk) t.toNat (t+ ↑j).toNat)) (t+ ↑j) (nh (ab (bu S (a6 S.s.grid (fun x cs=>nh cs l r bk) t.toNat (t+ ↑j).toNat)).s.grid (t+ ↑j)) l r bk)) D28 G29) (HS.mk (iZ I (by apply⟨h.1,(a0 [_,_,_] [_,_] 0x9815001 558113 4769 8969 0x4046a006252 h.2.2 hj (tN (af [_,_] [] 0x48468004030 33 4240 h.2.1)))⟩)) ‹_› (by simp only[cz, *]))
 ·rw[qE _ _ ⟨h.1,h.2.1⟩] at hz
  have I1:GI S.s.R S.s.C (a6 S.s.grid (fun _ cs=>nh cs l r bk) t.toNat (b+1).toNat):=dU I fun i cs h1 h2 e=>qD (I.row _ (mG e)) (by apply⟨h0.1,⟨(af [_,_] [] 4736 33 4737 h0.2.1),h0.2.2⟩⟩)
  obtain⟨D1,G1,rfl,g1,k1⟩:=hz
  refine' bn 1 (iu P (d+4) t l b r g1 I1 h (by apply hR.1)) fun D32 G33 g30 k31=> ?_
  refine' ax 0 .none (hp (bu S (a6 S.s.grid (fun x cs=>nh cs l r bk) t.toNat (b+1).toNat)) D32 G33) (jq.mk ‹_› (by first|rfl|(simp only[cz, *])) rfl)
theorem Cq(H:Hp)(t b:Int)(h:t=b∧0≤b∧b<1000):dO H "range" "range" [.int t,.int (b+1)]=some ([.int t],[]):=by
 obtain⟨rfl,h⟩:=h
 rw[fh H t (t+1) (by apply⟨⟨(af [_] [] 0x4746a52880020820 33 131120 h.1),(af [_] [] 0x746a52880020880 33 0x1f408881 h.2)⟩,⟨(af [_] [] 0x4680746a52880020820 33 131120 h.1),(af [_] [] 0x3a3529440010408d000 33 0x1f408881 h.2)⟩⟩),show t+1- t=1 by apply aV [_] [] 0x8d011a0012 33]
 exact cA some (cA (·,[]) (by simp[aX]))
theorem nM(t l b r bk:Int)(hG:aE G D S F)(I:GI S.s.R S.s.C S.s.grid)(ht:t=b)(h:0≤b∧b<S.s.R)(hR:S.s.R≤4∧S.s.C≤8)(h0:0≤l∧l<r∧r<S.s.C):
  Ca (CO P (d+6)) 862 [.loc 6,.tup [.int t,.int l,.int b,.int r],cQ bk] (hp S D G) (jq .none (setRow S t (pa (ab S.s.grid t) l r bk)) F D):=by
 refine' use ?_
 refine' cZ 0 (Cq (hp S D G) t b (by apply⟨ht,⟨h.1,(aq [_,_] [] 0x1f408881 1057 4737 67216 h.2 hR.1)⟩⟩)) ?_
 have Ie:GI S.s.R S.s.C (setRow S t (pa (ab S.s.grid t) l r bk)).s.grid:=I.set _ (Co (I.C (by apply⟨(aq [_,_] [] 131120 1505 4738 147504 ht h.1),(aq [_,_,_] [] 4737 1569 5250 4769 ht h.2)⟩)) (by apply⟨h0.1,⟨(af [_,_] [] 4736 33 4737 h0.2.1),h0.2.2⟩⟩))
 refine' aK 2 (fj t hG I (by apply⟨(aq [_,_] [] 131120 1505 4738 147504 ht h.1),(aq [_,_,_] [] 4737 1569 5250 4769 ht h.2)⟩)) ?_
 refine' b8 0 (u7 P t hG I (by apply⟨(aq [_,_] [] 131120 1505 4738 147504 ht h.1),(aq [_,_,_] [] 4737 1569 5250 4769 ht h.2)⟩)) ?_
 refine' bn 0 (xR P d t l r bk hG I (by apply⟨(aq [_,_] [] 131120 1505 4738 147504 ht h.1),(aq [_,_,_] [] 4737 1569 5250 4769 ht h.2)⟩) (by apply hR.2) (by apply⟨h0.1,⟨(af [_,_] [] 4736 33 4737 h0.2.1),h0.2.2⟩⟩)) fun D36 G37 g34 k35=> ?_
 refine' aj 1 (fT P (d+4) (setRow S t (pa (ab S.s.grid t) l r bk)) D36 G37 t l b r) ?_
 refine' bc (l=0∧r=(setRow S t (pa (ab S.s.grid t) l r bk)).s.C- 1) (fun c38=> ?_) (fun c38=> ?_)
 ·refine' ak 0 c38 ?_
  refine' bn 2 (fk P (d+4) t g34 Ie (by apply⟨(aq [_,_] [] 131120 1505 4738 147504 ht h.1),(aq [_,_,_] [] 4736 1569 5250 4769 ht h.2)⟩)) fun D41 G42 g39 k40=> ?_
  refine' ax 1 .none (hp (setRow S t (pa (ab S.s.grid t) l r bk)) D41 G42) (jq.mk ‹_› (by first|rfl|(simp only[cz, *])) rfl)
 ·refine' am 0 c38 ?_
  refine' ax 1 .none (hp (setRow S t (pa (ab S.s.grid t) l r bk)) D36 G37) (jq.mk ‹_› (by first|rfl|(simp only[cz, *])) rfl)
end
noncomputable def eU(cs:ar):ar:=if(ah cs 0).w=0 then cs.set 0 (bare (ah cs 0).back) else cs
noncomputable def kK(cs:ar):ar:=if(cs.getD (cs.length- 1) default).w=2 then cs.set (cs.length- 1) (bare (cs.getD (cs.length- 1) default).back) else cs
section
variable(P:Cw){d:Nat}{H:Hp}{A F:As}{n c:Nat}{l:Ln}{cs us:ar}{x:Cell}{k b:Int}
theorem qF(h:H[n]?=some (au cs))(hk:0<cs.length):eC H (.loc n) (.int (-1))=some (cs.getD (cs.length- 1) default).mv:=by
 refine ew h (j:=cs.length- 1) ?_ (nH (by apply af [] [_,_] 8969 545 0x8cb1286052 (oS (af [] [_] 262712 33 262201 hk))))
 unfold idx
 rw[if_neg (fun q:Bk _ _=>absurd q.1 (by decide)),if_pos ⟨rfl,by simpa using hk⟩,lM]
theorem zi(x:Cell)(h:Sat H ((n,au cs)::A))(hk:0<cs.length): ∃H',iN H (.loc n) (.int (-1)) x.mv=some H'∧Sat H' ((n,au (cs.set (cs.length- 1) x))::A):=by
 refine⟨_,qw (h.at 0 rfl) (j:=cs.length- 1) ?_,h.upd 0 rfl (by rw[List.set_cons_zero,au,List.map_set])⟩
 unfold idx
 rw[if_neg (fun q:Bk _ _=>absurd q.1 (by decide)),if_pos ⟨rfl,by simpa using hk⟩,lM]
theorem Dp{m:Nat}(h:H[n]?=some (au cs))(h2:H[m]?=some (.list []))(hl:0<cs.length):eY H .NotEq (.loc n) (.loc m)=some true:=by
 rw[uS h h2]
 cases cs with
 |nil=>exact absurd hl (by simp)
 |cons a r=>rfl
theorem so(d:Nat)(n:Nat)(h:Sat H ((n,au cs)::A))(hl:0<cs.length):Ca (CO P (d+4)) 923 [.loc n] H (fun v H'=> ∃p,v= .loc p∧Sat H' ((p,au (kK (eU cs)))::A)):=by
 refine' use ?_
 refine' aY 0 (jH h.hd) ?_
 have h1:=h.new (o:=au cs)
 have h2:Sat (H++[au cs]) ((H.length,au cs)::A):=(h1.perm (List.Perm.swap _ _ _)).tail
 have h3:=h2.new (o:= .list [])
 refine' mx 0 (Dp h3.tail.hd h3.hd hl) ?_
 have h4:=h3.tail
 refine' aK 1 (gT (0) (Sat.hd h4) (by apply⟨(aV [] [] 49200 1),(af [] [_] 0x814031 33 262201 hl)⟩)) ?_
 refine' bc ((ah cs 0).w=0) (fun c1=> ?_) (fun c1=> ?_)
 ·refine' ak 1 c1 ?_
  refine' aK 0 (gT (0) (Sat.hd h4) (by apply⟨(aV [] [] 49200 1),(af [] [_] 0x814031 33 262201 hl)⟩)) ?_
  refine' aj 0 (iW P d (H++[MObj.list (List.map Cell.mv cs)]++[MObj.list []]) (ah cs 0)) ?_
  refine' dj 0 (u0 (0) (bare (ah cs 0).back) h4 (by apply⟨(aV [] [] 49200 1),(af [] [_] 0x814031 33 262201 hl)⟩)) fun Z3 z2=> ?_
  have e0:eU cs=cs.set (0:Int).toNat (bare (ah cs 0).back):=if_pos c1
  rw[←e0] at z2
  have l0:0<(eU cs).length:=by rw[e0,List.length_set];exact hl
  have h5:=z2.new (o:= .list [])
  refine' mx 0 (Dp h5.tail.hd h5.hd l0) ?_
  have h6:=h5.tail
  refine' aK 1 (qF (Sat.hd h6) l0) ?_
  refine' bc ((List.getD (eU cs) (List.length (eU cs)- 1) default).w=2) (fun c1=> ?_) (fun c1=> ?_)
  ·refine' ak 1 c1 ?_
   refine' aK 0 (qF (Sat.hd h6) l0) ?_
   refine' aj 0 (iW P d (Z3++[MObj.list []]) (List.getD (eU cs) (List.length (eU cs)- 1) default)) ?_
   refine' dj 0 (zi (bare (List.getD (eU cs) (List.length (eU cs)- 1) default).back) h6 l0) fun Z3 z2=> ?_
   refine' ax 0 (MV.loc (List.length H)) Z3 (⟨_,rfl,by unfold kK;rw[if_pos c1];assumption⟩)
  ·refine' am 1 c1 ?_
   refine' ax 0 (MV.loc (List.length H)) (Z3++[MObj.list []]) (⟨_,rfl,by unfold kK;rw[if_neg c1];assumption⟩)
 ·refine' am 1 c1 ?_
  have e0:eU cs=cs:=if_neg c1
  rw[e0]
  have h5:=h4.new (o:= .list [])
  refine' mx 0 (Dp h5.tail.hd h5.hd hl) ?_
  have h6:=h5.tail
  refine' aK 1 (qF (Sat.hd h6) hl) ?_
  refine' bc ((List.getD cs (List.length cs- 1) default).w=2) (fun c4=> ?_) (fun c4=> ?_)
  ·refine' ak 1 c4 ?_
   refine' aK 0 (qF (Sat.hd h6) hl) ?_
   refine' aj 0 (iW P d (H++[MObj.list (List.map Cell.mv cs)]++[MObj.list []]++[MObj.list []]) (List.getD cs (List.length cs- 1) default)) ?_
   refine' dj 0 (zi (bare (List.getD cs (List.length cs- 1) default).back) h6 hl) fun Z6 z5=> ?_
   refine' ax 0 (MV.loc (List.length H)) Z6 (⟨_,rfl,by unfold kK;rw[if_pos c4];assumption⟩)
  ·refine' am 1 c4 ?_
   refine' ax 0 (MV.loc (List.length H)) (H++[MObj.list (List.map Cell.mv cs)]++[MObj.list []]++[MObj.list []]) (⟨_,rfl,by unfold kK;rw[if_neg c4];assumption⟩)
noncomputable def bH(cs:ar)(k:Int):ar:=if(ah cs k).w=0 then cs.set (k- 1).toNat (bare (ah cs (k- 1)).back) else cs
noncomputable def bI(cs:ar)(e:Int):ar:=if e<cs.length∧(ah cs e).w=0 then cs.set e.toNat (bare (ah cs e).back) else cs
noncomputable def dp(c us:ar)(k:Int)(j:Nat):ar:=match j with
 |0=>c
 |j+1=>(dp c us k j).set (k+j).toNat (us.getD j default)
theorem ee(c us:ar)(k:Int): ∀j,(dp c us k j).length=c.length
 |0=>rfl
 |j+1=>by rw[dp,List.length_set,ee c us k j]
theorem cV(cs:ar)(k:Int):(bH cs k).length=cs.length:=by unfold bH;split<;>simp
theorem du(cs:ar)(k:Int):(bI cs k).length=cs.length:=by unfold bI;split<;>simp
theorem iA(ok:RowOK cs){k:Int}(h:0≤k∧k<cs.length)(z:(ah cs k).w=0):0<k:=by
 obtain⟨l1,x,l2,h1,h2,_⟩:=ok.half (k:=k.toNat) (by apply aq [_] [_,_] 8969 17441 281217 139346 h.2 (tN h.1)) z
 apply aq [_] [_,_] 131121 17953 0x1108e00a 139858 h2 (tN h.1)
theorem gj(us:ar){j:Nat}{v:MV}(h:(bm (us.map Cell.mv))[j]?=some v):j<us.length∧v= .tup [.int j,(us.getD j default).mv]:=by
 unfold bm at h
 rw[List.getElem?_map,List.getElem?_zipIdx,List.getElem?_map] at h
 cases e:us[j]? with
 |none=>rw[e] at h;cases h
 |some x=>
  rw[e] at h
  have hj:=(gS e).1
  refine⟨hj,?_⟩
  rw[gD,e]
  simp at h
  rw[←h];simp
noncomputable abbrev Ay(R C:Int)(q:Nat):List (Str×MV):=[("rows",.int R),("columns",.int C),("lines",.loc q)]
theorem sr{R C:Int}{q:Nat}{o:MObj}(h:Sat H (aG l cs++((n,o)::A)))(m6:(6,.inst 905 7)∈A)(m7:(7,.dict (Ay R C q))∈A):jv P.K H (.loc 6) "lines" =some (.loc q):=
 ie (h.mem _ (mR _ (.tail _ m6))) (h.mem _ (mR _ (.tail _ m7))) (by kernel_rfl) (by kernel_rfl) (by kernel_rfl)
theorem nN{R C:Int}{q:Nat}{o:MObj}(h:Sat H (aG l cs++((n,o)::A)))(m6:(6,.inst 905 7)∈A)(m7:(7,.dict (Ay R C q))∈A):jv P.K H (.loc 6) "columns" =some (.int C):=
 ie (h.mem _ (mR _ (.tail _ m6))) (h.mem _ (mR _ (.tail _ m7))) (by kernel_rfl) (by kernel_rfl) (by kernel_rfl)
theorem xS{row:Int}{q:Nat}{ls:List MV}{o:MObj}(h:Sat H (aG l cs++((n,o)::A)))(mq:(q,.list ls)∈A)(hr:(0≤row∧row<ls.length)∧ls[row.toNat]?=some (.loc l.i)):eC H (.loc q) (.int row)=some (.loc l.i):=
 ew (h.mem _ (mR _ (.tail _ mq))) (fN hr.1) hr.2
theorem db(h:Sat H (aG l cs++((n,au us)::A))):H[n]?=some (au us):=h.at 3 rfl
theorem lK(c us:ar)(k:Int):c=dp c us k 0:=rfl
theorem dY{B:As}{C:ar}{j:Nat}(h:Sat H (aG l ((dp C us k j).set (k+j).toNat (us.getD j default))++B)):Sat H (aG l (dp C us k (j+1))++B):=h
theorem nO(d:Nat)(row k R:Int){q:Nat}{ls:List MV}(h:Sat H (aG l cs++((n,au us)::A)))(m6:(6,.inst 905 7)∈A)(m7:(7,.dict (Ay R cs.length q))∈A)(mq:(q,.list ls)∈A)
  (hr:(0≤row∧row<ls.length)∧ls[row.toNat]?=some (.loc l.i)) (ok:RowOK cs) (hk:0≤k∧0<us.length∧k+us.length≤cs.length):
  Ca (CO P (d+4)) 854 [.loc 6,.int row,.int k,.loc n] H (fun v H'=>v= .none∧Sat H' (aG l (dp (bI (bH cs k) (k+us.length)) us k us.length)++((n,au us)::A))):=by
 refine' use ?_
 refine' aK 0 (sr P h m6 m7) ?_
 refine' aK 0 (xS h mq hr) ?_
 refine' aY 0 (ij (db h)) ?_
 have h1:=h.new (o:= .list [])
 refine' mx 0 (Dp (db h1.tail) h1.hd (by apply hk.2.1)) ?_
 have h2:=h1.tail
 refine' aK 1 (LS.cells P h2) ?_
 refine' aK 0 (gT k (LS.row h2) (by apply⟨hk.1,(aq [_] [_,_] 264833 1057 278585 0x205895000 hk.2.1 hk.2.2)⟩)) ?_
 refine' bc ((ah cs k).w=0) (fun c1=> ?_) (fun c1=> ?_)
 ·refine' ak 1 c1 ?_
  refine' aK 0 (LS.cells P h2) ?_
  have hk0:=iA ok ⟨hk.1,by apply aq [_] [_,_] 264833 1057 278585 0x205895000 hk.2.1 hk.2.2⟩ c1
  have e0:bH cs k=cs.set (k- 1).toNat (bare (ah cs (k- 1)).back):=if_pos c1
  refine' aK 0 (gT (k- 1) (LS.row h2) (by apply⟨(af [_] [] 0x23404030 33 131121 hk0),(af [_] [_,_] 0x20508d011 33 0x205895000 hk.2.2)⟩)) ?_
  refine' aj 0 (iW P d (H++[MObj.list []]) (ah cs (k- 1))) ?_
  refine' aK 0 (LS.cells P h2) ?_
  refine' dj 0 (LS.setC (k- 1) (bare (ah cs (k- 1)).back) h2 (by apply⟨(af [_] [] 0x23404030 33 131121 hk0),(af [_] [_,_] 0x20508d011 33 0x205895000 hk.2.2)⟩)) fun Z2 z1=> ?_
  refine' aK 0 (nN P z1 m6 m7) ?_
  refine' bc (k+ ↑(List.length us)< ↑(List.length cs)) (fun c3=> ?_) (fun c3=> ?_)
  ·refine' ak 0 c3 ?_
   refine' aK 0 (LS.cells P z1) ?_
   refine' aK 0 (gT (k+ ↑(List.length us)) (LS.row z1) (by got_up)) ?_
   refine' bc ((ah (List.set cs (k- 1).toNat (bare (ah cs (k- 1)).back)) (k+ ↑(List.length us))).w=0) (fun c4=> ?_) (fun c4=> ?_)
   ·refine' ak 1 c4 ?_
    refine' aK 0 (LS.cells P z1) ?_
    refine' aK 0 (gT (k+ ↑(List.length us)) (LS.row z1) (by got_up)) ?_
    refine' aj 0 (iW P d Z2 (ah (List.set cs (k- 1).toNat (bare (ah cs (k- 1)).back)) (k+ ↑(List.length us)))) ?_
    refine' aK 0 (LS.cells P z1) ?_
    refine' dj 0 (LS.setC (k+ ↑(List.length us)) (bare (ah (List.set cs (k- 1).toNat (bare (ah cs (k- 1)).back)) (k+ ↑(List.length us))).back) z1 (by got_up)) fun Z6 z5=> ?_
    refine' cZ 0 (gg (db z5)) ?_
    have z':Sat Z6 (aG l (bI (bH cs k) (k+ ↑us.length))++((n,au us)::A)):=by rw[e0];unfold bI;rw[if_pos ⟨by rw[List.length_set];exact c3,c4⟩];exact z5
    clear e0
    have lC:(bI (bH cs k) (k+ ↑us.length)).length=cs.length:=by rw[du,cV]
    generalize bI (bH cs k) (k+ ↑us.length)=C at z' lC⊢
    refine' gR 0 [(n,us.map Cell.mv)] (bm (us.map Cell.mv)) Z6 "step" "cell" (by decide) (fun j H=>Sat H (aG l (dp C us k j)++((n,au us)::A))) (lK C us k▸z') (fun j v o1 o2 Z' hv hz=> ?_) (fun o1 o2 Z' hz=> ?_)
    ·obtain⟨hj,rfl⟩:=gj us hv
     have lO:=ee C us k j
     refine' aK 0 (LS.cells P hz) ?_
     refine' dj 0 (LS.setC (k+ ↑j) (List.getD us j default) hz (by apply⟨(af [_] [_] 0x205400030 33 131121 hk0),(eo [_] [_,_,_,_,_] 0x225815001 0xf0bc21 0x265915001 10058 9481 10522 c3 lC hj lO)⟩)) fun Z3 z2=> ?_
     refine' jo 0 (by decide) o1 o2 (MV.int ↑j) ((List.getD us j default).mv) Z3 (bN (db ‹Sat _ _›)) (dY ‹_›)
    ·rw[show(bm (us.map Cell.mv)).length=us.length by simp[bm]] at hz
     refine' ax 0 .none Z' (⟨rfl,‹_›⟩)
   ·refine' am 1 c4 ?_
    refine' cZ 0 (gg (db z1)) ?_
    have z':Sat Z2 (aG l (bI (bH cs k) (k+ ↑us.length))++((n,au us)::A)):=by rw[e0];unfold bI;rw[if_neg (fun q=>c4 q.2)];exact z1
    clear e0
    have lC:(bI (bH cs k) (k+ ↑us.length)).length=cs.length:=by rw[du,cV]
    generalize bI (bH cs k) (k+ ↑us.length)=C at z' lC⊢
    refine' gR 0 [(n,us.map Cell.mv)] (bm (us.map Cell.mv)) Z2 "step" "cell" (by decide) (fun j H=>Sat H (aG l (dp C us k j)++((n,au us)::A))) (lK C us k▸z') (fun j v o1 o2 Z' hv hz=> ?_) (fun o1 o2 Z' hz=> ?_)
    ·obtain⟨hj,rfl⟩:=gj us hv
     have lO:=ee C us k j
     refine' aK 0 (LS.cells P hz) ?_
     refine' dj 0 (LS.setC (k+ ↑j) (List.getD us j default) hz (by apply⟨(af [_] [_] 0x205400030 33 131121 hk0),(eo [_] [_,_,_,_,_] 0x225815001 0xf0bc21 0x265915001 10058 9481 10522 c3 lC hj lO)⟩)) fun Z5 z4=> ?_
     refine' jo 0 (by decide) o1 o2 (MV.int ↑j) ((List.getD us j default).mv) Z5 (bN (db ‹Sat _ _›)) (dY ‹_›)
    ·rw[show(bm (us.map Cell.mv)).length=us.length by simp[bm]] at hz
     refine' ax 0 .none Z' (⟨rfl,‹_›⟩)
  ·refine' am 0 c3 ?_
   refine' cZ 0 (gg (db z1)) ?_
   have z':Sat Z2 (aG l (bI (bH cs k) (k+ ↑us.length))++((n,au us)::A)):=by rw[e0];unfold bI;rw[if_neg (fun q=>c3 (by simpa using q.1))];exact z1
   clear e0
   have lC:(bI (bH cs k) (k+ ↑us.length)).length=cs.length:=by rw[du,cV]
   generalize bI (bH cs k) (k+ ↑us.length)=C at z' lC⊢
   refine' gR 0 [(n,us.map Cell.mv)] (bm (us.map Cell.mv)) Z2 "step" "cell" (by decide) (fun j H=>Sat H (aG l (dp C us k j)++((n,au us)::A))) (lK C us k▸z') (fun j v o1 o2 Z' hv hz=> ?_) (fun o1 o2 Z' hz=> ?_)
   ·obtain⟨hj,rfl⟩:=gj us hv
    have lO:=ee C us k j
    refine' aK 0 (LS.cells P hz) ?_
    refine' dj 0 (LS.setC (k+ ↑j) (List.getD us j default) hz (by apply⟨(af [_] [_] 0x205400030 33 131121 hk0),(eo [_] [_,_,_,_,_] 0x225815001 0xf0bc21 0x265915000 10058 9481 10522 hk.2.2 lC hj lO)⟩)) fun Z7 z6=> ?_
    refine' jo 0 (by decide) o1 o2 (MV.int ↑j) ((List.getD us j default).mv) Z7 (bN (db ‹Sat _ _›)) (dY ‹_›)
   ·rw[show(bm (us.map Cell.mv)).length=us.length by simp[bm]] at hz
    refine' ax 0 .none Z' (⟨rfl,‹_›⟩)
 ·refine' am 1 c1 ?_
  have e0:bH cs k=cs:=if_neg c1
  refine' aK 0 (nN P h2 m6 m7) ?_
  refine' bc (k+ ↑(List.length us)< ↑(List.length cs)) (fun c7=> ?_) (fun c7=> ?_)
  ·refine' ak 0 c7 ?_
   refine' aK 0 (LS.cells P h2) ?_
   refine' aK 0 (gT (k+ ↑(List.length us)) (LS.row h2) (by apply⟨(af [_] [_] 0x205400030 33 131120 hk.1),c7⟩)) ?_
   refine' bc ((ah cs (k+ ↑(List.length us))).w=0) (fun c8=> ?_) (fun c8=> ?_)
   ·refine' ak 1 c8 ?_
    refine' aK 0 (LS.cells P h2) ?_
    refine' aK 0 (gT (k+ ↑(List.length us)) (LS.row h2) (by apply⟨(af [_] [_] 0x205400030 33 131120 hk.1),c7⟩)) ?_
    refine' aj 0 (iW P d (H++[MObj.list []]) (ah cs (k+ ↑(List.length us)))) ?_
    refine' aK 0 (LS.cells P h2) ?_
    refine' dj 0 (LS.setC (k+ ↑(List.length us)) (bare (ah cs (k+ ↑(List.length us))).back) h2 (by apply⟨(af [_] [_] 0x205400030 33 131120 hk.1),c7⟩)) fun Z10 z9=> ?_
    refine' cZ 0 (gg (db z9)) ?_
    have z':Sat Z10 (aG l (bI (bH cs k) (k+ ↑us.length))++((n,au us)::A)):=by rw[e0];unfold bI;rw[if_pos ⟨c7,c8⟩];exact z9
    clear e0
    have lC:(bI (bH cs k) (k+ ↑us.length)).length=cs.length:=by rw[du,cV]
    generalize bI (bH cs k) (k+ ↑us.length)=C at z' lC⊢
    refine' gR 0 [(n,us.map Cell.mv)] (bm (us.map Cell.mv)) Z10 "step" "cell" (by decide) (fun j H=>Sat H (aG l (dp C us k j)++((n,au us)::A))) (lK C us k▸z') (fun j v o1 o2 Z' hv hz=> ?_) (fun o1 o2 Z' hz=> ?_)
    ·obtain⟨hj,rfl⟩:=gj us hv
     have lO:=ee C us k j
     refine' aK 0 (LS.cells P hz) ?_
     refine' dj 0 (LS.setC (k+ ↑j) (List.getD us j default) hz (by apply⟨(af [_] [_] 0x205400030 33 131120 hk.1),(eo [_] [_,_,_,_,_] 0x225815001 0xf0bc21 0x265915001 10058 9481 10522 c7 lC hj lO)⟩)) fun Z9 z8=> ?_
     refine' jo 0 (by decide) o1 o2 (MV.int ↑j) ((List.getD us j default).mv) Z9 (bN (db ‹Sat _ _›)) (dY ‹_›)
    ·rw[show(bm (us.map Cell.mv)).length=us.length by simp[bm]] at hz
     refine' ax 0 .none Z' (⟨rfl,‹_›⟩)
   ·refine' am 1 c8 ?_
    refine' cZ 0 (gg (db h2)) ?_
    have z':Sat (H++[.list []]) (aG l (bI (bH cs k) (k+ ↑us.length))++((n,au us)::A)):=by rw[e0];unfold bI;rw[if_neg (fun q=>c8 q.2)];exact h2
    clear e0
    have lC:(bI (bH cs k) (k+ ↑us.length)).length=cs.length:=by rw[du,cV]
    generalize bI (bH cs k) (k+ ↑us.length)=C at z' lC⊢
    refine' gR 0 [(n,us.map Cell.mv)] (bm (us.map Cell.mv)) (H++[.list []]) "step" "cell" (by decide) (fun j H=>Sat H (aG l (dp C us k j)++((n,au us)::A))) (lK C us k▸z') (fun j v o1 o2 Z' hv hz=> ?_) (fun o1 o2 Z' hz=> ?_)
    ·obtain⟨hj,rfl⟩:=gj us hv
     have lO:=ee C us k j
     refine' aK 0 (LS.cells P hz) ?_
     refine' dj 0 (LS.setC (k+ ↑j) (List.getD us j default) hz (by apply⟨(af [_] [_] 0x205400030 33 131120 hk.1),(eo [_] [_,_,_,_,_] 0x225815001 0xf0bc21 0x265915001 10058 9481 10522 c7 lC hj lO)⟩)) fun Z11 z10=> ?_
     refine' jo 0 (by decide) o1 o2 (MV.int ↑j) ((List.getD us j default).mv) Z11 (bN (db ‹Sat _ _›)) (dY ‹_›)
    ·rw[show(bm (us.map Cell.mv)).length=us.length by simp[bm]] at hz
     refine' ax 0 .none Z' (⟨rfl,‹_›⟩)
  ·refine' am 0 c7 ?_
   refine' cZ 0 (gg (db h2)) ?_
   have z':Sat (H++[.list []]) (aG l (bI (bH cs k) (k+ ↑us.length))++((n,au us)::A)):=by rw[e0];unfold bI;rw[if_neg (fun q=>c7 q.1)];exact h2
   clear e0
   have lC:(bI (bH cs k) (k+ ↑us.length)).length=cs.length:=by rw[du,cV]
   generalize bI (bH cs k) (k+ ↑us.length)=C at z' lC⊢
   refine' gR 0 [(n,us.map Cell.mv)] (bm (us.map Cell.mv)) (H++[.list []]) "step" "cell" (by decide) (fun j H=>Sat H (aG l (dp C us k j)++((n,au us)::A))) (lK C us k▸z') (fun j v o1 o2 Z' hv hz=> ?_) (fun o1 o2 Z' hz=> ?_)
   ·obtain⟨hj,rfl⟩:=gj us hv
    have lO:=ee C us k j
    refine' aK 0 (LS.cells P hz) ?_
    refine' dj 0 (LS.setC (k+ ↑j) (List.getD us j default) hz (by apply⟨(af [_] [_] 0x205400030 33 131120 hk.1),(eo [_] [_,_,_,_,_] 0x225815001 0xf0bc21 0x265915000 10058 9481 10522 hk.2.2 lC hj lO)⟩)) fun Z13 z12=> ?_
    refine' jo 0 (by decide) o1 o2 (MV.int ↑j) ((List.getD us j default).mv) Z13 (bN (db ‹Sat _ _›)) (dY ‹_›)
   ·rw[show(bm (us.map Cell.mv)).length=us.length by simp[bm]] at hz
    refine' ax 0 .none Z' (⟨rfl,‹_›⟩)
end
theorem zj{cs:ar}{k:Int}(h:0≤k∧k<cs.length):cs[k.toNat]?=some (ah cs k):=by
 unfold ah;rw[gD,gE (by exact aq [_] [_,_] 8969 17441 281217 139346 h.2 (tN h.1))];rfl
theorem su{cs cs':ar}{k:Int}(h:cs[k.toNat]?=cs'[k.toNat]?):ah cs k=ah cs' k:=by
 unfold ah;rw[gD,gD,h]
theorem RowOK.wide{l:ar}(h:RowOK l): ∀ {k:Nat},(l.getD k default).w=2→l[k+1]?=some (aP (l.getD k default).back):=by
 induction h with
 |nil=>intro k hk;rw[List.getD_nil] at hk;exact absurd hk (by decide)
 | @one c r e h ih=>
  intro k hk
  cases k with
  |zero=>simp[e] at hk
  |succ k=>exact ih (by simpa using hk)
 | @two c r e h ih=>
  intro k hk
  match k,hk with
  |0,hk=>rfl
  |1,hk=>exact absurd hk (by simp[aP])
  |k+2,hk=>exact ih (by simpa using hk)
theorem va{cs:ar}(ok:RowOK cs){k:Int}(h:0≤k∧k<cs.length):(a9 cs k).take k.toNat=(bH cs k).take k.toNat:=by
 unfold a9 bH
 by_cases z:(ah cs k).w=0
 ·have hk:=iA ok h z
  rw[if_pos ⟨hk,h.2,z⟩,if_pos z,(kD ok hk h.2 z).1,List.take_set,List.set_eq_of_length_le (by rw[lT];exact Nat.min_le_left _ _)]
 ·rw[if_neg (fun q=>z q.2.2),if_neg z]
theorem vb{cs:ar}{k:Int}{e:Nat}(h:k.toNat<e):(a9 cs k).drop e=cs.drop e:=by
 unfold a9
 split
 ·rw[List.drop_set_of_lt (by exact h),List.drop_set_of_lt (Nat.lt_of_le_of_lt (Int.toNat_le_toNat (Int.sub_le_self _ (by decide))) h)]
 ·rfl
theorem nP{cs:ar}{k:Int}{n:Nat}(h:n≤(k- 1).toNat):(a9 cs k).take n=cs.take n:=by
 unfold a9
 split
 ·rw[List.take_set,List.set_eq_of_length_le (by rw[lT];exact Nat.le_trans (Nat.min_le_left _ _) (Nat.le_trans h (Int.toNat_le_toNat (Int.sub_le_self _ (by decide))))),List.take_set,List.set_eq_of_length_le (by rw[lT];exact aq [] [_,_,_] 8968 1057 9000 9480 h (Nat.min_le_left _ _))]
 ·rfl
theorem pc{cs:ar}{k:Int}{e:Nat}(h:k.toNat<e):(bH cs k).drop e=cs.drop e:=by
 unfold bH
 split
 ·rw[List.drop_set_of_lt (Nat.lt_of_le_of_lt (Int.toNat_le_toNat (Int.sub_le_self _ (by decide))) h)]
 ·rfl
theorem xT{cs cs':ar}{e:Nat}(h:cs.drop e=cs'.drop e):cs[e]?=cs'[e]?:=by
 have:=cA (fun l=>l[0]?) h
 simpa using this
theorem qG(c us:ar)(k:Int): ∀j:Nat,0≤k→j≤us.length→k.toNat+us.length≤c.length→dp c us k j=c.take k.toNat++(us.take j++c.drop (k.toNat+j))
 |0,_,_,_=>by simp[dp]
 |j+1,h,hj,hl=>by
  rw[dp,qG c us k j h (by exact af [] [_,_] 8968 33 0x1108e008 hj) hl,show(k+(j:Int)).toNat=k.toNat+j by exact aq [_] [_,_,_] 0x94410a 0x22f0be21 0x245402052 139858 (tN (af [_] [_] 0x205400030 33 131120 h)) (tN h)]
  have l1:(c.take k.toNat).length=k.toNat:=by rw[lT];exact mL (af [] [_,_,_] 8968 33 0x8ca008 hl)
  have l2:(us.take j).length=j:=by rw[lT];exact mL (af [] [_,_] 8968 33 0x1108e008 hj)
  rw[List.set_append_right _ _ (by exact af [] [_,_,_] 0x944108 545 8970 l1),List.set_append_right _ _ (by exact a0 [] [_,_,_,_,_] 8968 509473 10026 10506 0x122d260286252 l1 l2 (oS (af [] [_,_,_] 0x944108 545 8970 l1))),l1,l2,List.drop_eq_getElem_cons (by exact aq [] [_,_,_,_] 0x946009 1057 0x1308e208 0x94e008 hj hl:k.toNat+j<c.length)]
  rw[show k.toNat+j- k.toNat- j=0 by exact aq [] [_,_,_,_] 1802 0x2100c621 0x122ce40286252 0x4cb1286052 (oS (aV [] [_,_] 0x8c0108 1)) (oS (af [] [_,_,_] 8968 481 0x122c240286252 (oS (aV [] [_,_] 0x8c0108 1)))),List.set_cons_zero,gD,gE (by exact af [] [_,_] 8969 33 0x1108e008 hj:j<us.length)]
  rw[List.take_succ_eq_append_getElem (by exact af [] [_,_] 8969 33 0x1108e008 hj:j<us.length),aA (us.take j)]
  rfl
theorem vc{c us:ar}{k r:Int}(h:0≤k∧k+us.length=r+1∧r<c.length):dp c us k us.length=bK c us k r:=by
 rw[qG c us k _ h.1 (Nat.le_refl _) (by exact a0 [_,_] [_,_,_] 0x946008 558625 0x8d20895002 297617 139346 h.2.1 h.2.2 (tN h.1)),List.take_length,show k.toNat+us.length=(r+1).toNat by exact a0 [_,_] [_,_,_] 0x94600a 0x8bde17c621 0x8d20895002 139346 0x23482452 h.2.1 (tN h.1) (tN (aq [_,_] [_] 0x23400030 17441 147504 0x8d00815202 h.1 h.2.1))]
 unfold bK
 rw[aA]
theorem sv{c c' us:ar}{k r:Int}(h1:c.take k.toNat=c'.take k.toNat)(h2:c.drop (r+1).toNat=c'.drop (r+1).toNat):bK c us k r=bK c' us k r:=by unfold bK;rw[h1,h2]
theorem mF{cs us:ar}{k r:Int}(ok:RowOK cs)(h:0≤k∧k≤r∧r<cs.length)(hu:k+us.length=r+1):dp (bI (bH cs k) (k+us.length)) us k us.length=bK (dL cs k r) us k r:=by
 rw[vc ⟨h.1,hu,by rw[du,cV];exact h.2.2⟩,hu]
 have d0:(bH cs k).drop (r+1).toNat=(a9 cs k).drop (r+1).toNat:=by rw[pc (by exact a0 [_,_] [_,_] 8969 508961 4736 139346 0x23482252 h.2.1 (tN h.1) (tN (aq [_,_] [] 0x23400030 1057 147504 4240 h.1 h.2.1))),vb (by exact a0 [_,_] [_,_] 8969 508961 4736 139346 0x23482252 h.2.1 (tN h.1) (tN (aq [_,_] [] 0x23400030 1057 147504 4240 h.1 h.2.1)))]
 refine sv ?_ ?_
 ·rw[show(dL cs k r).take k.toNat=(a9 cs k).take k.toNat from ?_,va ok ⟨h.1,by exact aq [_,_] [_] 264833 1057 4736 264849 h.2.1 h.2.2⟩]
  ·unfold bI
   split
   ·rw[List.take_set,List.set_eq_of_length_le (by rw[lT];exact eo [_,_] [_,_,_] 8968 0x17c421 4736 140370 0x23482252 9480 h.2.1 (tN h.1) (tN (aq [_,_] [] 0x23400030 1057 147504 4240 h.1 h.2.1)) (Nat.min_le_left _ _))]
   ·rfl
  ·exact nP (by exact a0 [_,_] [_,_] 8968 508961 4736 139346 0x118469006252 h.2.1 (tN h.1) (tN (aq [_,_] [] 0x118468004030 1057 147504 4240 h.1 h.2.1)))
 ·have ec:ah (bH cs k) (r+1)=ah (a9 cs k) (r+1):=su (xT d0)
  unfold dL bI
  rw[show a9 (a9 cs k) (r+1)=if 0<r+1∧r+1<(a9 cs k).length∧(ah (a9 cs k) (r+1)).w=0 then((a9 cs k).set (r+1- 1).toNat (bare (ah (a9 cs k) (r+1)).back)).set (r+1).toNat (bare (ah (a9 cs k) (r+1)).back) else a9 cs k from rfl]
  rw[ec,cV,cJ]
  by_cases z:r+1<cs.length∧(ah (a9 cs k) (r+1)).w=0
  ·rw[if_pos z,if_pos ⟨by exact aq [_,_] [] 0x23400031 1057 147504 4240 h.1 h.2.1,z⟩]
   have hs: ∀ (c:ar) (x:Cell),(c.set (r+1).toNat x).drop (r+1).toNat=(c.drop (r+1).toNat).set 0 x:=fun c x=>by
    rw[List.drop_set,if_neg (by exact aV [] [_] 8459 1),Nat.sub_self]
   rw[hs,hs,d0,List.drop_set_of_lt (by exact aq [_] [_,_] 8969 15905 0x118468006052 0x23402252 (tN (aq [_,_] [] 0x118468004030 1057 147504 4240 h.1 h.2.1)) (tN (aq [_,_] [] 0x23400030 1057 147504 4240 h.1 h.2.1)))]
  ·rw[if_neg z,if_neg (fun q=>z q.2),d0]
theorem qH(c:ar)(left right:Int){i:Nat}(h:i<(right+1- left).toNat):(aC c left right)[i]?=c[left.toNat+i]?:=by
 unfold aC
 rw[List.getElem?_take_of_lt h,List.getElem?_drop]
theorem kL(c:ar)(left right:Int)(i:Nat)(x:Cell)(h:left.toNat≤i):aC (c.set i x) left right=(aC c left right).set (i- left.toNat) x:=by
 unfold aC
 rw[List.drop_set,if_neg (by exact af [] [_,_] 8971 33 8472 h),List.take_set]
theorem vd(c:ar)(left right:Int)(i:Nat)(x:Cell)(h:i<left.toNat):aC (c.set i x) left right=aC c left right:=by
 unfold aC
 rw[List.drop_set_of_lt h]
theorem sw(c:ar)(left right:Int)(i:Nat)(x:Cell)(h:(right+1).toNat≤i∧left≤right∧0≤left):aC (c.set i x) left right=aC c left right:=by
 rw[kL c left right i x (by exact eo [_,_] [_,_,_] 8968 0xf88421 9000 4736 139346 0x23482452 h.1 h.2.1 (tN h.2.2) (tN (aq [_,_] [] 0x23400030 1057 4240 147504 h.2.1 h.2.2))),List.set_eq_of_length_le]
 unfold aC
 rw[lT];apply Bj [_,_] [_,_,_,_,_,_] 8968 0x5ef8c421 10024 0x48468006852 158290 0x23402452 0x54b3286252 10504 h.1 (tN (af [_,_] [] 0x48468004030 33 4240 h.2.1)) (tN h.2.2) (tN (aq [_,_] [] 0x23400030 1057 4240 147504 h.2.1 h.2.2)) (oS (eo [_,_] [_,_,_] 8968 0xf88421 9000 4736 139346 0x23482452 h.1 h.2.1 (tN h.2.2) (tN (aq [_,_] [] 0x23400030 1057 4240 147504 h.2.1 h.2.2)))) (Nat.min_le_left _ _)
theorem sy{cs:ar}{left right:Int}(ok:RowOK cs)(h:0≤left∧left≤right∧right<cs.length):kK (eU (aC cs left right))=aC (dL cs left right) left right:=by
 have e0:eU (aC cs left right)=aC (a9 cs left) left right:=by
  have ec:ah (aC cs left right) 0=ah cs left:=by
   unfold ah
   rw[gD,gD,show(0:Int).toNat=0 from rfl,qH _ _ _ (by exact aq [_,_] [_] 262201 15393 4736 0x40469006052 h.2.1 (tN (af [_,_] [] 0x48468004030 33 4240 h.2.1))),Nat.add_zero]
  unfold eU a9
  rw[ec]
  by_cases z:(ah cs left).w=0
  ·rw[if_pos z,if_pos ⟨iA ok ⟨h.1,by exact aq [_,_] [_] 264833 1057 4736 264849 h.2.1 h.2.2⟩ z,by exact aq [_,_] [_] 264833 1057 4736 264849 h.2.1 h.2.2,z⟩,kL _ _ _ _ _ (Nat.le_refl _),Nat.sub_self,vd _ _ _ _ _ (by have:=iA ok ⟨h.1,by exact aq [_,_] [_] 264833 1057 4736 264849 h.2.1 h.2.2⟩ z;exact aq [_] [_,_] 8969 15905 0x23406052 139858 (tN (af [_] [] 0x23404030 33 131121 this)) (tN h.1))]
  ·rw[if_neg z,if_neg (fun q=>z q.2.2)]
 rw[e0]
 have ok1:=bZ ok left
 have l1:(a9 cs left).length=cs.length:=cJ _ _
 unfold dL
 generalize a9 cs left=c at ok1 l1⊢
 have lp:(aC c left right).length=(right+1- left).toNat:=by unfold aC;rw[lT,lD];exact mL (ju [_,_] [_,_,_,_,_] 8968 0x1f18bc21 297601 9530 0x48468006052 157778 0x50b3286252 h.2.2 l1 (tN (af [_,_] [] 0x48468004030 33 4240 h.2.1)) (tN h.1) (oS (eo [_,_] [_,_,_] 8968 0x1178421 4736 297617 9498 139346 h.2.1 h.2.2 l1 (tN h.1))))
 have el:(aC c left right).getD ((aC c left right).length- 1) default=c.getD right.toNat default:=by
  rw[lp,gD,gD,qH _ _ _ (by exact af [] [_,_] 8969 545 0x8cb1286052 (oS (aq [_,_] [_] 262712 15393 4736 0x40469006052 h.2.1 (tN (af [_,_] [] 0x48468004030 33 4240 h.2.1))))),show left.toNat+((right+1- left).toNat- 1)=right.toNat by exact eo [_,_] [_,_,_,_] 0x94600a 0x1f17bc317c621 139346 0x40469006652 156754 0x8cb3286252 (tN h.1) (tN (af [_,_] [] 0x48468004030 33 4240 h.2.1)) (tN (aq [_,_] [] 131120 1057 147504 4240 h.1 h.2.1)) (oS (aq [_,_] [_] 262712 15393 4736 0x40469006052 h.2.1 (tN (af [_,_] [] 0x48468004030 33 4240 h.2.1))))]
 unfold kK
 rw[el,lp]
 by_cases z:(c.getD right.toNat default).w=2
 ·rw[if_pos z]
  have hw:=ok1.wide z
  have hl:=(gS hw).1
  have ec:ah c (right+1)=aP (c.getD right.toNat default).back:=by
   unfold ah
   rw[show(right+1).toNat=right.toNat+1 by exact aq [_] [_,_] 0x11c410a 0x22f0be21 0x23402052 139858 (tN (aq [_,_] [] 0x23400030 1057 147504 4240 h.1 h.2.1)) (tN (aq [_,_] [] 131120 1057 147504 4240 h.1 h.2.1)),gD,hw];rfl
  unfold a9
  rw[if_pos ⟨by exact aq [_,_] [] 0x23400031 1057 147504 4240 h.1 h.2.1,by exact aq [_] [_,_] 0x20508d001 15393 0x1008e209 139858 hl (tN (aq [_,_] [] 131120 1057 147504 4240 h.1 h.2.1)),by rw[ec];rfl⟩,ec,sw _ _ _ _ _ ⟨Nat.le_refl _,h.2.1,h.1⟩,kL _ _ _ _ _ (by exact a0 [_,_] [_,_] 8968 508961 4736 139346 0x118469006252 h.2.1 (tN h.1) (tN (aq [_,_] [] 0x118468004030 1057 147504 4240 h.1 h.2.1))),show(right+1- 1).toNat- left.toNat=(right+1- left).toNat- 1 by apply ju [_,_] [_,_,_,_,_] 8970 0x8be31785f17be21 0x118468006452 157266 0x48468006852 0x4cb2286052 0x8cb4286252 (tN (aq [_,_] [] 0x118468004030 1057 147504 4240 h.1 h.2.1)) (tN h.1) (tN (af [_,_] [] 0x48468004030 33 4240 h.2.1)) (oS (a0 [_,_] [_,_] 8968 572449 4736 0x118469006252 139346 h.2.1 (tN (aq [_,_] [] 0x118468004030 1057 147504 4240 h.1 h.2.1)) (tN h.1))) (oS (aq [_,_] [_] 262712 15393 4736 0x40469006052 h.2.1 (tN (af [_,_] [] 0x48468004030 33 4240 h.2.1))))]
  rfl
 ·rw[if_neg z,eE]
  rintro ⟨q1,q2,q3⟩
  obtain⟨l1',x,l2,h1,h2,h3,h4,h5⟩:=ok1.half (k:=(right+1).toNat) (by exact aq [_] [_,_] 8969 17441 0x22508d001 0x23402052 q2 (tN (aq [_,_] [] 0x23400030 1057 147504 4240 h.1 h.2.1))) q3
  refine z ?_
  have:right.toNat=l1'.length:=by exact a0 [_] [_,_,_] 8970 0x8be217c5e1 0x1208e20a 139346 0x23402452 h2 (tN (aq [_,_] [] 131120 1057 147504 4240 h.1 h.2.1)) (tN (aq [_,_] [] 0x23400030 1057 147504 4240 h.1 h.2.1))
  rw[this,h1]
  simp[gD,h5]
noncomputable def zk(o:MObj)(S:Sn)(D:Dn)(F:As):QE:=fun v H'=> ∃p G',v= .loc (p+28)∧H'=hp S D G'∧aE G' D S ((p,o)::F)
theorem zk.mk{o:MObj}{S:Sn}{D:Dn}{F:As}{G:Hp}{p:Nat}(h:aE G D S ((p,o)::F)):zk o S D F (.loc (p+28)) (hp S D G):=⟨p,G,rfl,rfl,h⟩
section
variable{O:dJ}{t:Tr}{Q:QS}
theorem qI(n:Nat){a:Addr}{vs:List MV}{H:Hp}{o:MObj}{S:Sn}{D:Dn}{F:As}(e:Ca O a vs H (zk o S D F))(r: ∀p G',aE G' D S ((p,o)::F)→Wt O (cc (aL n t) (.loc (p+28)) (hp S D G')) Q)(hr:hc (aL n t)=some (a,vs,H):=by kernel_rfl):Wt O t Q:=
 gv n e (fun v H' h=>by
  obtain⟨p,G',rfl,rfl,h⟩:=h
  exact r p G' h) hr
end
section
variable{S S':Sn}{D D':Dn}{G G' H H':Hp}{A B F:As}{n:Nat}{o o':MObj}{gs gw:List ar}{last:List Int}
theorem DY.new(h:DY G D gs last gw F)(o:MObj):DY (G++[o]) D gs last gw ((G.length,o)::F):=
 ⟨(h.sat.new (o:=o)).perm List.perm_middle.symm,h.l1,h.l2⟩
theorem DY.drop(h:DY G D gs last gw ((n,o)::F)):DY G D gs last gw F:=⟨(h.sat.perm List.perm_middle).tail,h.l1,h.l2⟩
theorem DY.own(h:DY G D gs last gw ((n,o)::F)):G[n]?=some o:=(h.sat.perm List.perm_middle).hd
theorem DY.own2{n2:Nat}{o2:MObj}(h:DY G D gs last gw ((n2,o2)::(n,o)::F)):G[n]?=some o:=h.drop.own
theorem qJ{i:Nat}(h:i<28)(S:Sn)(D:Dn): ∃o,(i,o)∈ei S D:=by
 have hl:i<(hp S D []).length:=by rw[kG];exact h
 refine⟨(hp S D [])[i],mG (i:=i) ?_⟩
 unfold ei
 rw[List.getElem?_zip_eq_some]
 exact⟨List.getElem?_range h,by rw[List.getElem?_take_of_lt h];exact gE hl⟩
theorem DY.lift1(h:aE G D S ((n,o)::F)):Sat (hp S D G) ((n+28,o)::(ni (dT D S.s.grid S.s.last S.w.grid++F)++ei S D)):=
 (h.sat.perm List.perm_middle).lift (S:=S) (D:=D)
theorem DY.low1{p:Nat}(l1:D.lns.length=S.s.grid.length)(l2:D.lrows.length=S.w.grid.length)(h:Sat H ((p,o)::(ni (dT D S.s.grid S.s.last S.w.grid++F)++ei S D))): ∃q,p=q+28∧H=hp S D (H.drop 28)∧aE (H.drop 28) D S ((q,o)::F):=by
 have hp28:28≤p:=by
  rcases Nat.lt_or_ge p 28 with q|q
  ·obtain⟨o2,ho⟩:=qJ q S D
   cases h with
   |cons _ g _=>exact absurd rfl (g _ (mR _ ho))
  ·exact q
 obtain⟨q,rfl⟩:=Nat.exists_eq_add_of_le' hp28
 obtain⟨e,hs⟩:=Sat.lower (A:=(q,o)::(dT D S.s.grid S.s.last S.w.grid++F)) h
 exact⟨q,rfl,e,hs.perm List.perm_middle.symm,l1,l2⟩
theorem Cr{c:Cw}{d:Nat}{f:Addr}{args:List MV}(hG:aE G D S ((n,o)::F))(sp: ∀ (H:Hp) (A:As),Sat H ((n+28,o)::A)→Ca (CO c d) f args H fun v H'=> ∃p,v= .loc p∧Sat H' ((p,o')::A)):
  Ca (CO c d) f args (hp S D G) (zk o' S D F):=
 (sp _ _ hG.lift1).mono fun v H' ⟨p,e,h⟩=>by
  obtain⟨q,rfl,e2,h2⟩:=DY.low1 hG.l1 hG.l2 h
  exact⟨q,_,e,e2,h2⟩
theorem kM(c:Cw)(d:Nat){us:ar}(row k r:Int)(hG:aE G D S ((n,au us)::F))(I:GI S.s.R S.s.C S.s.grid)(h:0≤row∧row<S.s.R)(h0:0≤k∧k≤r∧r<S.s.C)(hu:k+us.length=r+1):
  Ca (CO c (d+4)) 854 [.loc 6,.int row,.int k,.loc (n+28)] (hp S D G) (jq .none (setRow S row (bK (dL (ab S.s.grid row) k r) us k r)) ((n,au us)::F) D):=by
 obtain⟨rest,p1,p2,hm⟩:=DY.line3 (hG.drop) (gI hG.drop I h) (I.at h)
 have hs:=hG.sat.perm (List.perm_middle.trans (p1.cons (n,au us)))
 have hs2:Sat (hp S D G) (aG (bA D row).up (ab S.s.grid row)++((n+28,au us)::(ni rest++ei S D))):=by
  have:=(hs.perm (List.perm_middle (l₁:=io (bA D row) (ab S.s.grid row)) (l₂:=rest) (a:=(n,au us))).symm).lift (S:=S) (D:=D)
  rw[gU,aA] at this
  exact this
 have hC:=I.rlen h
 have e:=mF (us:=us) (I.rok h) (k:=k) (r:=r) (by rw[hC];exact h0) hu
 have fm: ∀i o,(ei S D)[i]?=some (i,o)→(i,o)∈ni rest++ei S D:=fun i o q=>mR _ (mG q)
 have key:=nO c d row k S.s.R (q:=D.pLines+28) (ls:=D.lns.map fun l=> .loc (l.i+28)) hs2 (fm 6 _ rfl) (fm 7 _ (by rw[show((ab S.s.grid row).length:Int)=S.s.C from hC];rfl))
  (mW _ (List.mem_map.mpr ⟨_,hm,rfl⟩)) ⟨⟨h.1,by have h8:=I.len;have h9:=hG.l1;rw[lM];apply a0 [_,_] [_,_] 264833 506913 4737 156242 8970 h.2 h8 h9⟩,by rw[List.getElem?_map,gI hG.drop I h];rfl⟩ (I.rok h) ⟨h0.1,by exact aq [_,_] [_] 262201 15393 4736 0x8d20815002 h0.2.1 hu,by exact a0 [_,_,_] [_,_] 0x225815000 508961 5265 0x8d20815002 172626 h0.2.2 hu hC⟩
 rw[e] at key
 refine key.mono fun v H' ⟨e1,q⟩=>⟨e1,{D with lns:=D.lns.set row.toNat (bA D row)},H'.drop 28,?_⟩
 have q2:Sat H' (ni (io (bA D row) (bK (dL (ab S.s.grid row) k r) us k r)++((n,au us)::rest))++ei S D):=by rw[gU,aA];exact q
 obtain⟨e2,h6⟩:=q2.lower
 have p3:=p2 (bA D row).wr (bK (dL (ab S.s.grid row) k r) us k r)
 refine⟨e2,⟨?_,by rw[List.length_set,List.length_set];exact hG.l1,hG.l2⟩,cz D row (bA D row).wr⟩
 exact h6.perm (List.perm_middle.trans ((p3.symm.cons _).trans List.perm_middle.symm))
end
local macro_rules | `(tactic| got_up) => `(tactic| first | assumption | omega | kernel_rfl | (dsimp only; omega) | (simp; omega) | (refine ⟨?_, ?_⟩ <;> first | omega | (simp; omega)))
section
variable(P:Cw){d:Nat}{H:Hp}{A F:As}{n c:Nat}{l:Ln}{cs us:ar}{x:Cell}{k b:Int}
theorem kN{i dd:Nat}{C:Addr}{es:List (Str×MV)}(x:Str)(u:MV)(h:Sat H ((i,.inst C dd)::(dd,.dict es)::A))(h1:kZ P.K C x=true)(h2:es.length.blt 400=true): ∃H',k8 P.K H (.loc i) x u=some H'∧Sat H' ((i,.inst C dd)::(dd,.dict (ce x u es))::A):=
 ⟨_,qu (h.at 0 rfl) (h.at 1 rfl) h1 (Nat.blt_eq.mp h2) rfl,h.upd 1 rfl rfl⟩
theorem Ct{i dd:Nat}{C:Addr}{es:List (Str×MV)}{v:MV}(x:Str)(h:Sat H ((i,.inst C dd)::(dd,.dict es)::A))(h1:kZ P.K C x=true)(h2:cN x es=some v∧mf v=true):jv P.K H (.loc i) x=some v:=
 ie (h.at 0 rfl) (h.at 1 rfl) h1 h2.1 h2.2
theorem Sat.made{C:Addr}(h:Sat H A):Sat (H++[.dict [],.inst C H.length]) ((H.length+1,.inst C H.length)::(H.length,.dict [])::A):=by
 have h1:=h.new (o:= .dict [])
 have h2:=h1.new (o:= .inst C H.length)
 rw[aA] at h2
 simpa using h2
theorem mH(d:Nat)(C b:Int){i dd:Nat}(h:Sat H ((i,.inst 756 dd)::(dd,.dict [])::A))(hC:0≤C∧C≤1000):Ca (CD P (d+4)) 645 [.loc i,.int C,cQ b] H (fun v H'=>v= .none∧ ∃c,Sat H' (aG ⟨i,dd,c,false⟩ (List.replicate C.toNat (bare b))++A)):=by
 refine' Am ?_
 refine' uC 0 (iX P d C b h hC) fun q H1 h1=> ?_
 have h2:Sat H1 ((i,.inst 756 dd)::(dd,.dict [])::(q,au (List.replicate C.toNat (bare b)))::A):=h1.perm ((List.Perm.swap _ _ _).trans ((List.Perm.swap _ _ _).cons _))
 refine' dj 0 (kN P (Str.ofString "cells") (MV.loc q) h2 (by got_up) (by got_up)) fun Z2 z1=> ?_
 refine' dj 0 (kN P (Str.ofString "is_wrapped") (MV.bool false) z1 (by got_up) (by got_up)) fun Z4 z3=> ?_
 refine' dj 1 (kN P (Str.ofString "size") (MV.str (Str.ofString "single")) z3 (by got_up) (by got_up)) fun Z6 z5=> ?_
 have e:ce (Str.ofString "size") (MV.str (Str.ofString "single")) (ce (Str.ofString "is_wrapped") (MV.bool false) (ce (Str.ofString "cells") (MV.loc q) []))=td ⟨i,dd,q,false⟩:=by kernel_rfl
 rw[e] at z5
 refine' ax 0 .none Z6 ⟨rfl,q,?_⟩
 exact z5
theorem xU(d:Nat)(C b:Int)(hH:H≠ [])(h:Sat H A)(hC:0≤C∧C≤1000):Ca (CO P (d+5)) 756 [.int C,cQ b] H (fun v H'=> ∃i,v= .loc i∧ ∃dd c,Sat H' (aG ⟨i,dd,c,false⟩ (List.replicate C.toNat (bare b))++A)):=by
 refine(mk (fi:=645) (by kernel_rfl) (by kernel_rfl) (by kernel_rfl) hH (mH P d C b h.made hC)).mono fun v H' ⟨e,c,q⟩=>⟨_,e,_,c,q⟩
end
section
variable(P:Cw){d:Nat}{S:Sn}{D:Dn}{G:Hp}{F:As}
theorem ve(r:Int)(hG:aE G D S F)(I:GI S.s.R S.s.C S.s.grid)(h:0≤r∧r<S.s.R):fc (hp S D G) (.loc ((bA D r).c+28))=some ((ab S.s.grid r).map Cell.mv):=bz (pb r hG I h)
theorem DY.new'{o o':MObj}{gs gw:List ar}{last:List Int}(h:DY G D gs last gw F)(e:o=o'):DY (G++[o]) D gs last gw ((G.length,o')::F):=e▸h.new o
theorem lL(d:Nat)(row left right:Int)(hG:aE G D S F)(I:GI S.s.R S.s.C S.s.grid)(h:0≤row∧row<S.s.R)(h0:0≤left∧left≤right∧right<S.s.C):
  Ca (CO P (d+5)) 847 [.loc 6,.int row,.int left,.int right] (hp S D G) (zk (au (aC (dL (ab S.s.grid row) left right) left right)) S D F):=by
 refine' use ?_
 refine' aK 1 (fj row hG I h) ?_
 refine' aK 0 (ed P row hG I h) ?_
 refine' bf 0 (ve row hG I h) ?_
 have hC:=I.rlen h
 have g1:=DY.new' hG (cA MObj.list (lG (cs:=ab S.s.grid row) (a:=left) (b:=right+1) ⟨h0.1,by exact af [_,_] [] 0x11a4080 33 4736 h0.2.1,by exact aq [_,_] [_] 0x20508d000 15393 4737 155730 h0.2.2 hC⟩))
 have key:=Cr g1 (fun H A q=>so P d _ q (by rw[lT,lD];apply a0 [_,_] [_,_] 262201 506913 4736 0x40469006252 8970 h0.2.1 (tN (af [_,_] [] 0x48468004030 33 4240 h0.2.1)) (mL (ju [_,_,_] [_,_,_,_] 8968 0x1f18bc21 4737 156754 0x50468006052 173650 0x4cb2286252 h0.2.2 hC (tN (af [_,_] [] 0x48468004030 33 4240 h0.2.1)) (tN h0.1) (oS (eo [_,_,_] [_,_] 8968 0x1178421 4736 5265 172626 139346 h0.2.1 h0.2.2 hC (tN h0.1)))))))
 rw[show((ab S.s.grid row).drop left.toNat).take (right+1- left).toNat=aC (ab S.s.grid row) left right from rfl,sy (I.rok h) (by rw[hC];exact h0)] at key
 refine' qI 0 key fun p G2 g2=> ?_
 refine' ax 0 (.loc (p+28)) (hp S D G2) (zk.mk g2)
end
noncomputable def Az(S':Sn)(F:As)(m:Nat):QE:=fun v H'=> ∃p,v= .loc p∧ ∃D' G',H'=hp S' D' G'∧aE G' D' S' F∧m∈jx D'
theorem Az.mk{S S':Sn}{D:Dn}{G:Hp}{F:As}{m p:Nat}(h:aE G D S F)(e:S=S')(k:m∈jx D):Az S' F m (.loc p) (hp S D G):=⟨p,rfl,D,G,e▸rfl,e▸h,k⟩
section
variable(P:Cw){d:Nat}{S:Sn}{D:Dn}{G:Hp}{F:As}
noncomputable def cG(g:List ar)(t b l r bk:Int)(up:Bool)(i:Nat)(cs:ar):ar:=bK (dL cs l r) (cF g t b l r bk up i) l r
theorem xV{g:List ar}{t b l r bk:Int}{x:Int}(h:0≤x∧x<b)(cs:ar):bK (dL cs l r) (aC (dL (ab g (x+1)) l r) l r) l r=cG g t b l r bk true x.toNat cs:=by
 unfold cG cF
 rw[if_pos rfl,if_pos (by apply aq [_,_] [_] 139345 17441 4241 155730 h.2 (tN h.1)),show((x.toNat:Nat):Int)=x by apply tN h.1]
theorem xW{g:List ar}{t b l r bk:Int}{x:Int}(h:0≤x∧t<x)(cs:ar):bK (dL cs l r) (aC (dL (ab g (x- 1)) l r) l r) l r=cG g t b l r bk false x.toNat cs:=by
 unfold cG cF
 rw[if_neg (by decide),if_pos (by apply aq [_,_] [_] 264833 15393 4737 155730 h.2 (tN h.1)),show((x.toNat:Nat):Int)=x by apply tN h.1]
theorem AA{g:List ar}{t b l r bk:Int}{x:Int}(h:0≤x∧x=b)(cs:ar):pa cs l r bk=cG g t b l r bk true x.toNat cs:=by
 unfold cG cF
 rw[if_pos rfl,if_neg (by apply aq [_,_] [_] 139347 15841 4242 155730 h.2 (tN h.1))];rfl
theorem AB{g:List ar}{t b l r bk:Int}{x:Int}(h:0≤x∧x=t)(cs:ar):pa cs l r bk=cG g t b l r bk false x.toNat cs:=by
 unfold cG cF
 rw[if_neg (by decide),if_neg (by apply aq [_,_] [_] 264835 17953 4242 155730 h.2 (tN h.1))];rfl
theorem vg{R C:Int}{g:List ar}{t b l r bk:Int}{up:Bool}(I:GI R C g)(hm:(0≤t∧b<R)∧0≤l∧l≤r∧r<C){i:Nat}{cs:ar}(e:g[i]?=some cs)(hi:t≤i∧i≤b):dr C (cG g t b l r bk up i cs):=by
 have hc:=ft ((I.row _ (mG e):dr C cs)) l r
 obtain⟨q1,q2⟩:=kJ (b:=bk) (up:=up) I hm hi
 exact jp hc hm.2 (eG _ _ _) (eH _ _ _) q1 q2
theorem xX(d:Nat)(t l b r bk:Int)(hG:aE G D S F)(I:GI S.s.R S.s.C S.s.grid)(h:0≤t∧t<b∧b<S.s.R)(hR:S.s.R≤4∧S.s.C≤8)(h0:0≤l∧l<r∧r<S.s.C)(hn: ¬(l=0∧r=S.s.C- 1)):
  Ca (CO P (d+8)) 812 [.loc 6,.tup [.int t,.int l,.int b,.int r],.int 1,cQ bk] (hp S D G) (Az (bu S (ay S.s.grid t b l r bk true)) F (bA D b).i):=by
 refine' use ?_
 refine' aj 0 (cT P (d+6) (hp S D G) (1) (0) (b- t+1) (by apply⟨(aV [] [] 573488 1),(af [_,_] [] 0x8d28080230 33 4241 h.2.1)⟩)) ?_
 refine' aj 2 (fT P (d+6) S D G t l b r) ?_
 refine' am 0 (A:=l=0∧r=S.s.C- 1) hn ?_
 refine' cZ 0 (fh (hp S D G) t (b+1- 1) (by apply⟨⟨(af [_] [] 0x4746a52880020820 33 131120 h.1),(a0 [_,_,_] [] 0x746a52880020880 33825 4737 5265 67232 h.2.1 h.2.2 hR.1)⟩,⟨(aq [_,_] [] 0x2308d000f46a52880020820 1057 147504 4241 h.1 h.2.1),(aq [_,_] [] 0x1d1a94a20008204611a0010 1057 4737 67216 h.2.2 hR.1)⟩⟩)) ?_
 have hb:(bA D b).i∈jx D:=List.mem_map.mpr ⟨_,mG (gI hG I (r:=b) (by apply⟨(aq [_,_] [] 131120 1057 147504 4241 h.1 h.2.1),h.2.2⟩)),rfl⟩
 have hI: ∀q:Int,t≤q→q≤b+1→GI S.s.R S.s.C (a6 S.s.grid (cG S.s.grid t b l r bk true) t.toNat q.toNat):=fun q h1 h2=>dU I fun i cs h3 h4 e=>vg I (by apply⟨⟨h.1,h.2.2⟩,⟨h0.1,⟨(af [_,_] [] 4736 33 4737 h0.2.1),h0.2.2⟩⟩⟩) e (by apply⟨(aq [_] [_,_] 264832 15393 8472 139858 h3 (tN h.1)),(a0 [_,_] [_,_] 139344 558113 0x11a0090 8969 156242 h2 h4 (tN (aq [_,_] [] 131120 1057 147504 4240 h.1 h1)))⟩)
 refine' lE 0 t (b+1- 1- t).toNat (hp S D G) "row" (fun j H=>HS (bu S (a6 S.s.grid (cG S.s.grid t b l r bk true) t.toNat (t+ ↑j).toNat)) F D H) ⟨D,G,by rw[show t+ ↑(0:Nat)=t by apply aV [_] [] 0x100195002 33,b9],by rw[show t+ ↑(0:Nat)=t by apply aV [_] [] 0x100195002 33,b9];exact hG,rfl⟩ (fun j o Z hj hz=> ?_) (fun o Z hz=> ?_)
 ·obtain⟨D1,G1,rfl,g1,k1⟩:=hz
  have I1:=hI (t+ ↑j) (by apply aV [_] [_] 0x102a0080 1) (by apply aq [_,_] [_,_] 0x8d20815000 17441 8969 0x202308d20086252 hj (tN (af [_,_] [] 0x242308d00084030 33 4241 h.2.1)))
  have hlen:l+((aC (dL (ab (bu S (a6 S.s.grid (cG S.s.grid t b l r bk true) t.toNat (t+ ↑j).toNat)).s.grid (t+ ↑j+1)) l r) l r).length:Int)=r+1:=by
   have:=fQ (c:=dL (ab (bu S (a6 S.s.grid (cG S.s.grid t b l r bk true) t.toNat (t+ ↑j).toNat)).s.grid (t+ ↑j+1)) l r) (left:=l) (right:=r) (by rw[(ft (I1.C (r:=t+ ↑j+1) (by apply⟨(af [_] [_] 0x11c0a8000030 33 131120 h.1),(a0 [_,_,_] [_,_] 0x484702a0001 558113 4769 8969 0x202308d40086252 h.2.2 hj (tN (af [_,_] [] 0x242308d00084030 33 4241 h.2.1)))⟩)) l r).1];apply⟨h0.1,⟨(af [_,_] [] 4736 33 4737 h0.2.1),h0.2.2⟩⟩)
   apply af [_,_] [_] 0x8d20815002 493089 0x40469006052 this
  have es:setRow (bu S (a6 S.s.grid (cG S.s.grid t b l r bk true) t.toNat (t+ ↑j).toNat)) (t+ ↑j) (bK (dL (ab (a6 S.s.grid (cG S.s.grid t b l r bk true) t.toNat (t+ ↑j).toNat) (t+ ↑j)) l r) (aC (dL (ab (a6 S.s.grid (cG S.s.grid t b l r bk true) t.toNat (t+ ↑j).toNat) (t+ ↑j+1)) l r) l r) l r)=bu S (a6 S.s.grid (cG S.s.grid t b l r bk true) t.toNat (t+ ↑(j+1)).toNat):=by
   rw[eT _ _ _ _ (t+ ↑j+1) (mt And.right (by apply aq [_] [_,_,_] 8971 17889 0x11c8a8002052 0x245402252 (tN (af [_] [_] 0x11c0a8000030 33 131120 h.1)) (tN (af [_] [_] 0x205400030 33 131120 h.1)))),xV (t:=t) (b:=b) (bk:=bk) (by apply⟨(af [_] [_] 0x205400030 33 131120 h.1),(aq [_,_] [_,_] 0x9815001 17441 8969 0x202308d20086252 hj (tN (af [_,_] [] 0x242308d00084030 33 4241 h.2.1)))⟩),iZ I (by apply⟨h.1,(a0 [_,_,_] [_,_] 0x9815001 558113 4769 8969 0x202308d40086252 h.2.2 hj (tN (af [_,_] [] 0x242308d00084030 33 4241 h.2.1)))⟩)]
  refine' qI 2 (lL P (d+2) (t+ ↑j+1) l r g1 I1 (by apply⟨(af [_] [_] 0x11c0a8000030 33 131120 h.1),(a0 [_,_,_] [_,_] 0x484702a0001 558113 4769 8969 0x202308d40086252 h.2.2 hj (tN (af [_,_] [] 0x242308d00084030 33 4241 h.2.1)))⟩) (by apply⟨h0.1,⟨(af [_,_] [] 4736 33 4737 h0.2.1),h0.2.2⟩⟩)) fun p3 G4 g2=> ?_
  refine' bn 0 (kM P (d+3) (t+ ↑j) l r g2 I1 (by apply⟨(af [_] [_] 0x205400030 33 131120 h.1),(a0 [_,_,_] [_,_] 0x9815001 558113 4769 8969 0x202308d40086252 h.2.2 hj (tN (af [_,_] [] 0x242308d00084030 33 4241 h.2.1)))⟩) (by apply⟨h0.1,⟨(af [_,_] [] 4736 33 4737 h0.2.1),h0.2.2⟩⟩) hlen) fun D5 G5 g5 k5=> ?_
  refine' ld 0 o (MV.int (t+ ↑j)) (hp _ D5 G5) (HS.mk es g5.drop (k5.trans k1))
 ·rw[show t+ ↑(b+1- 1- t).toNat=b by apply af [_,_] [_] 0x9815002 493089 0x202308d20086052 (tN (af [_,_] [] 0x242308d00084030 33 4241 h.2.1))] at hz
  obtain⟨D1,G1,rfl,g1,k1⟩:=hz
  have I1:=hI b (by apply af [_,_] [] 4736 33 4737 h.2.1) (by apply aV [_] [] 0x11a0080 1)
  have I2:GI S.s.R S.s.C (ay S.s.grid t b l r bk true):=bX I (by apply⟨⟨h.1,h.2.2⟩,⟨h0.1,⟨(af [_,_] [] 4736 33 4737 h0.2.1),h0.2.2⟩⟩⟩)
  have es:setRow (bu S (a6 S.s.grid (cG S.s.grid t b l r bk true) t.toNat b.toNat)) (b+1- 1) (pa (ab (a6 S.s.grid (cG S.s.grid t b l r bk true) t.toNat b.toNat) (b+1- 1)) l r bk)=bu S (ay S.s.grid t b l r bk true):=by
   rw[show b+1- 1=b by apply aV [_] [] 0x404611a0012 33,eT _ _ _ _ b (mt And.right (by apply aV [] [_] 8459 1)),AA (g:=S.s.grid) (t:=t) (b:=b) ⟨by apply aq [_,_] [] 131120 1057 147504 4241 h.1 h.2.1,rfl⟩]
   exact cA (bu S) ((qC (f:=cG S.s.grid t b l r bk true) (p:=t.toNat) (q:=b.toNat) (by apply a0 [_,_] [_,_] 8968 508961 4737 139346 156242 h.2.1 (tN h.1) (tN (aq [_,_] [] 131120 1057 147504 4241 h.1 h.2.1))) (I.at (r:=b) (by apply⟨(aq [_,_] [] 131120 1057 147504 4241 h.1 h.2.1),h.2.2⟩))).trans (by rw[show b.toNat+1=(b+1).toNat by apply aq [_] [_,_] 0x1108e00a 0x22f0be21 139346 0x23402252 (tN (aq [_,_] [] 131120 1057 147504 4241 h.1 h.2.1)) (tN (aq [_,_] [] 0x23400030 1057 147504 4241 h.1 h.2.1))];rfl))
  refine' bn 1 (nM P (d+1) (b+1- 1) l b r bk g1 I1 (by apply aV [_] [] 0x404611a0012 33) (by apply⟨(aq [_,_] [] 131120 1057 147504 4241 h.1 h.2.1),h.2.2⟩) (by got_up) (by got_up)) fun D5 G5 g5 k5=> ?_
  rw[es] at g5⊢
  refine' bn 1 (iu P (d+5) t l b r g5 I2 (by apply⟨h.1,⟨(af [_,_] [] 4736 33 4737 h.2.1),h.2.2⟩⟩) (by apply hR.1)) fun D4 G6 g2 k3=> ?_
  refine' ax 0 (MV.loc (List.length (hp (bu S (ay S.s.grid t b l r bk true)) D4 G6))) (hp (bu S (ay S.s.grid t b l r bk true)) D4 (G6++[MObj.list []])) (Az.mk (g2.new (.list [])).drop rfl ((k3.trans (k5.trans k1)).symm▸hb))
theorem xY{O:dJ}{tr:Tr}{Q:QS}(n:Nat)(a:Int)(m:Nat)(H:Hp)(X:Str)(I:Nat→Hp→Prop)(h0:I 0 H)
  (turn: ∀ (j:Nat) (o:Option MV) (H:Hp),j<m→I j H→Wt O (wE (aL n tr) (.int (a- j)) (bq (fC (aL n tr)) X o) H) fun fl σ' H'=>fl= .next∧(∃o',σ'=bq (fC (aL n tr)) X o')∧I (j+1) H')
  (done: ∀ (o:Option MV) (H:Hp),I m H→Wt O (wG (aL n tr) .next (bq (fC (aL n tr)) X o) H) Q) (hr:wH (aL n tr)=some ([],aX a m (-1),H):=by kernel_rfl):Wt O tr Q:=
 nG n a (-1) m H X I h0 (fun j o H hj hI=>by rw[show a+ -1*(j:Int)=a- j by rw[Int.neg_one_mul,←Int.sub_eq_add_neg]];exact turn j o H hj hI) done hr
theorem xZ(d:Nat)(t l b r bk:Int)(hG:aE G D S F)(I:GI S.s.R S.s.C S.s.grid)(h:0≤t∧t<b∧b<S.s.R)(hR:S.s.R≤4∧S.s.C≤8)(h0:0≤l∧l<r∧r<S.s.C)(hn: ¬(l=0∧r=S.s.C- 1)):
  Ca (CO P (d+8)) 819 [.loc 6,.tup [.int t,.int l,.int b,.int r],.int 1,cQ bk] (hp S D G) (jq .none (bu S (ay S.s.grid t b l r bk false)) F D):=by
 refine' use ?_
 refine' aj 0 (cT P (d+6) (hp S D G) (1) (0) (b- t+1) (by apply⟨(aV [] [] 573488 1),(af [_,_] [] 0x8d28080230 33 4241 h.2.1)⟩)) ?_
 refine' aj 2 (fT P (d+6) S D G t l b r) ?_
 refine' am 0 (A:=l=0∧r=S.s.C- 1) hn ?_
 refine' cZ 1 (Ao (hp S D G) b (t+1- 1) (by apply⟨⟨(aq [_,_] [] 0x4746a52880020820 1057 147504 4241 h.1 h.2.1),(aq [_,_] [] 0x746a52880020880 1057 4737 67216 h.2.2 hR.1)⟩,⟨(af [_] [] 0x2308d000f46a52880020820 33 131120 h.1),(a0 [_,_,_] [] 0x1d1a94a20008204611a0010 33825 4737 5265 67232 h.2.1 h.2.2 hR.1)⟩⟩)) ?_
 have hI: ∀q:Int,t≤q→q≤b+1→GI S.s.R S.s.C (a6 S.s.grid (cG S.s.grid t b l r bk false) q.toNat (b+1).toNat):=fun q h1 h2=>dU I fun i cs h3 h4 e=>vg I (by apply⟨⟨h.1,h.2.2⟩,⟨h0.1,⟨(af [_,_] [] 4736 33 4737 h0.2.1),h0.2.2⟩⟩⟩) e (by apply⟨(a0 [_,_] [_,_] 264832 492577 4736 8472 156242 h1 h3 (tN (aq [_,_] [] 131120 1057 147504 4240 h.1 h1))),(aq [_] [_,_] 139344 17441 8969 0x23402252 h4 (tN (aq [_,_] [] 0x23400030 1057 147504 4241 h.1 h.2.1)))⟩)
 refine' xY 0 b (b- (t+1- 1)).toNat (hp S D G) "row" (fun j H=>HS (bu S (a6 S.s.grid (cG S.s.grid t b l r bk false) (b+1- ↑j).toNat (b+1).toNat)) F D H) ⟨D,G,by rw[show b+1- ↑(0:Nat)=b+1 by apply aV [_] [] 0x8d0000ca11a0012 33,b9],by rw[show b+1- ↑(0:Nat)=b+1 by apply aV [_] [] 0x8d0000ca11a0012 33,b9];exact hG,rfl⟩ (fun j o Z hj hz=> ?_) (fun o Z hz=> ?_)
 ·obtain⟨D1,G1,rfl,g1,k1⟩:=hz
  have I1:=hI (b+1- ↑j) (by apply aq [_,_] [_,_] 0x81423480280 17441 8969 0x4611a001486252 hj (tN (af [_,_] [] 0x4611a401404030 33 4241 h.2.1))) (by apply aV [_] [_] 0x468040a11a0010 1)
  have hlen:l+((aC (dL (ab (bu S (a6 S.s.grid (cG S.s.grid t b l r bk false) (b+1- ↑j).toNat (b+1).toNat)).s.grid (b- ↑j- 1)) l r) l r).length:Int)=r+1:=by
   have:=fQ (c:=dL (ab (bu S (a6 S.s.grid (cG S.s.grid t b l r bk false) (b+1- ↑j).toNat (b+1).toNat)).s.grid (b- ↑j- 1)) l r) (left:=l) (right:=r) (by rw[(ft (I1.C (r:=b- ↑j- 1) (by apply⟨(a0 [_,_] [_,_] 0x11c0a8084030 558113 147504 8969 0x4611a401406252 h.1 hj (tN (af [_,_] [] 0x4611a401404030 33 4241 h.2.1))),(af [_,_] [_] 0x484702a0211 33 4737 h.2.2)⟩)) l r).1];apply⟨h0.1,⟨(af [_,_] [] 4736 33 4737 h0.2.1),h0.2.2⟩⟩)
   apply af [_,_] [_] 0x8d20815002 493089 0x40469006052 this
  have es:setRow (bu S (a6 S.s.grid (cG S.s.grid t b l r bk false) (b+1- ↑j).toNat (b+1).toNat)) (b- ↑j) (bK (dL (ab (a6 S.s.grid (cG S.s.grid t b l r bk false) (b+1- ↑j).toNat (b+1).toNat) (b- ↑j)) l r) (aC (dL (ab (a6 S.s.grid (cG S.s.grid t b l r bk false) (b+1- ↑j).toNat (b+1).toNat) (b- ↑j- 1)) l r) l r) l r)=bu S (a6 S.s.grid (cG S.s.grid t b l r bk false) (b+1- ↑(j+1)).toNat (b+1).toNat):=by
   rw[eT _ _ _ _ (b- ↑j- 1) (mt And.left (by apply aq [_] [_,_,_] 8972 17889 0x1228468006052 0x11c8a8086252 (tN (a0 [_,_] [_,_] 0x1028468004030 558113 147504 8969 0x4611a401406252 h.1 hj (tN (af [_,_] [] 0x4611a401404030 33 4241 h.2.1)))) (tN (a0 [_,_] [_,_] 0x11c0a8084030 558113 147504 8969 0x4611a401406252 h.1 hj (tN (af [_,_] [] 0x4611a401404030 33 4241 h.2.1)))))),eT _ _ _ _ (b- ↑j) (mt And.left (by apply aq [_] [_,_,_] 8972 17889 0x1228468006052 0x245406252 (tN (a0 [_,_] [_,_] 0x1028468004030 558113 147504 8969 0x4611a401406252 h.1 hj (tN (af [_,_] [] 0x4611a401404030 33 4241 h.2.1)))) (tN (a0 [_,_] [_,_] 0x205404030 558113 147504 8969 0x4611a401406252 h.1 hj (tN (af [_,_] [] 0x4611a401404030 33 4241 h.2.1)))))),xW (t:=t) (b:=b) (bk:=bk) (by apply⟨(a0 [_,_] [_,_] 0x205404030 558113 147504 8969 0x4611a401406252 h.1 hj (tN (af [_,_] [] 0x4611a401404030 33 4241 h.2.1))),(aq [_,_] [_,_] 0x102a4281 17441 8969 0x4611a001486252 hj (tN (af [_,_] [] 0x4611a401404030 33 4241 h.2.1)))⟩)]
   refine cA (bu S) ?_
   have:=lI (f:=cG S.s.grid t b l r bk false) (p:=(b- ↑j).toNat) (q:=(b+1).toNat) (by apply aq [_] [_,_,_] 8969 17889 0x23402252 0x245406052 (tN (aq [_,_] [] 0x23400030 1057 147504 4241 h.1 h.2.1)) (tN (a0 [_,_] [_,_] 0x205404030 558113 147504 8969 0x4611a401406252 h.1 hj (tN (af [_,_] [] 0x4611a401404030 33 4241 h.2.1))))) (I.at (r:=b- ↑j) (by apply⟨(a0 [_,_] [_,_] 0x205404030 558113 147504 8969 0x4611a401406252 h.1 hj (tN (af [_,_] [] 0x4611a401404030 33 4241 h.2.1))),(af [_,_] [_] 0x9815011 33 4737 h.2.2)⟩))
   rw[show(b- (j:Int)).toNat+1=(b+1- ↑j).toNat by apply aq [_] [_,_,_] 0x1108e00a 0x22f0be21 0x245406052 0x1228468006252 (tN (a0 [_,_] [_,_] 0x205404030 558113 147504 8969 0x4611a401406252 h.1 hj (tN (af [_,_] [] 0x4611a401404030 33 4241 h.2.1)))) (tN (a0 [_,_] [_,_] 0x1028468004030 558113 147504 8969 0x4611a401406252 h.1 hj (tN (af [_,_] [] 0x4611a401404030 33 4241 h.2.1))))] at this
   rw[this,show(b+1- ((j+1:Nat):Int)).toNat=(b- ↑j).toNat by apply aq [_] [_,_,_] 8970 0x22f0be21 0x8e4028468006052 0x245406252 (tN (a0 [_,_] [_,_] 0x8e0028468004030 558113 147504 8969 0x4611a401406252 h.1 hj (tN (af [_,_] [] 0x4611a401404030 33 4241 h.2.1)))) (tN (a0 [_,_] [_,_] 0x205404030 558113 147504 8969 0x4611a401406252 h.1 hj (tN (af [_,_] [] 0x4611a401404030 33 4241 h.2.1))))]
  refine' qI 2 (lL P (d+2) (b- ↑j- 1) l r g1 I1 (by apply⟨(a0 [_,_] [_,_] 0x11c0a8084030 558113 147504 8969 0x4611a401406252 h.1 hj (tN (af [_,_] [] 0x4611a401404030 33 4241 h.2.1))),(af [_,_] [_] 0x484702a0211 33 4737 h.2.2)⟩) (by apply⟨h0.1,⟨(af [_,_] [] 4736 33 4737 h0.2.1),h0.2.2⟩⟩)) fun p3 G4 g2=> ?_
  refine' bn 0 (kM P (d+3) (b- ↑j) l r g2 I1 (by apply⟨(a0 [_,_] [_,_] 0x205404030 558113 147504 8969 0x4611a401406252 h.1 hj (tN (af [_,_] [] 0x4611a401404030 33 4241 h.2.1))),(af [_,_] [_] 0x9815011 33 4737 h.2.2)⟩) (by apply⟨h0.1,⟨(af [_,_] [] 4736 33 4737 h0.2.1),h0.2.2⟩⟩) hlen) fun D5 G5 g5 k5=> ?_
  refine' ld 0 o (MV.int (b- ↑j)) (hp _ D5 G5) (HS.mk es g5.drop (k5.trans k1))
 ·rw[show b+1- ↑(b- (t+1- 1)).toNat=t+1 by apply af [_,_] [_] 0x469040a11a0012 558561 0x4611a401406052 (tN (af [_,_] [] 0x4611a401404030 33 4241 h.2.1))] at hz
  obtain⟨D1,G1,rfl,g1,k1⟩:=hz
  have I1:=hI (t+1) (by apply aV [_] [] 0x11a0080 1) (by apply af [_,_] [] 0x8d2008d000 33 4737 h.2.1)
  have I2:GI S.s.R S.s.C (ay S.s.grid t b l r bk false):=bX I (by apply⟨⟨h.1,h.2.2⟩,⟨h0.1,⟨(af [_,_] [] 4736 33 4737 h0.2.1),h0.2.2⟩⟩⟩)
  have es:setRow (bu S (a6 S.s.grid (cG S.s.grid t b l r bk false) (t+1).toNat (b+1).toNat)) t (pa (ab (a6 S.s.grid (cG S.s.grid t b l r bk false) (t+1).toNat (b+1).toNat) t) l r bk)=bu S (ay S.s.grid t b l r bk false):=by
   rw[eT _ _ _ _ t (mt And.left (by apply aq [_] [_,_] 8972 17889 0x23402052 139858 (tN (af [_] [] 0x23400030 33 131120 h.1)) (tN h.1))),AB (g:=S.s.grid) (t:=t) (b:=b) ⟨by apply h.1,rfl⟩]
   refine cA (bu S) ?_
   have:=lI (f:=cG S.s.grid t b l r bk false) (p:=t.toNat) (q:=(b+1).toNat) (by apply a0 [_,_] [_,_] 8969 508961 4737 139346 0x23482252 h.2.1 (tN h.1) (tN (aq [_,_] [] 0x23400030 1057 147504 4241 h.1 h.2.1))) (I.at (r:=t) (by apply⟨h.1,(aq [_,_,_] [] 4737 1057 5249 4769 h.2.1 h.2.2)⟩))
   rw[show t.toNat+1=(t+1).toNat by apply aq [_] [_,_] 0x1108e00a 0x22f0be21 139346 0x23402252 (tN h.1) (tN (af [_] [] 0x23400030 33 131120 h.1))] at this
   exact this
  refine' bn 1 (nM P (d+1) t l (t+1- 1) r bk g1 I1 (by apply aV [_] [] 0x8c23400282 33) (by apply⟨(af [_] [] 0x118468004030 33 131120 h.1),(aq [_,_,_] [] 0x484611a0011 1057 5249 4769 h.2.1 h.2.2)⟩) (by got_up) (by got_up)) fun D5 G5 g5 k5=> ?_
  rw[es] at g5⊢
  refine' bn 1 (iu P (d+5) t l b r g5 I2 (by apply⟨h.1,⟨(af [_,_] [] 4736 33 4737 h.2.1),h.2.2⟩⟩) (by apply hR.1)) fun D4 G6 g2 k3=> ?_
  refine' ax 0 .none (hp (bu S (ay S.s.grid t b l r bk false)) D4 G6) (jq.mk g2 (k3.trans (k5.trans k1)) rfl)
theorem mI{p:Nat}{o:MObj}{H:Hp}{B:As}(h:Sat H ((p,o)::(B++ei S D))):28≤p:=by
 rcases Nat.lt_or_ge p 28 with q|q
 ·obtain⟨o2,ho⟩:=qJ q S D
  cases h with
  |cons _ g _=>exact absurd rfl (g _ (mR _ ho))
 ·exact q
theorem x5(d:Nat)(b:Int)(hG:aE G D S F)(hC:0≤S.s.C∧S.s.C≤8):Ca (CO P (d+5)) 756 [.int S.s.C,cQ b] (hp S D G) (fun v H'=> ∃l G',v= .loc (l.i+28)∧H'=hp S D G'∧aE G' D S (io l (List.replicate S.s.C.toNat (bare b))++F)):=by
 refine(xU P d S.s.C b (fun h=>by have:=cA List.length h;rw[kG] at this;cases this) (hG.sat.lift (S:=S) (D:=D)) (by exact⟨hC.1,(af [_] [] 0x1f408880 33 132736 hC.2)⟩)).mono fun v H' pz=> ?_
 obtain⟨i,e,dd,c,q⟩:=pz
 have q1:Sat H' ((i,.inst 756 dd)::(((dd,.dict (td ⟨i,dd,c,false⟩))::(c,au (List.replicate S.s.C.toNat (bare b)))::ni (dT D S.s.grid S.s.last S.w.grid++F))++ei S D)):=q
 have q2:Sat H' ((dd,.dict (td ⟨i,dd,c,false⟩))::(((c,au (List.replicate S.s.C.toNat (bare b)))::ni (dT D S.s.grid S.s.last S.w.grid++F))++ei S D)):=q1.tail
 have q3:Sat H' ((c,au (List.replicate S.s.C.toNat (bare b)))::(ni (dT D S.s.grid S.s.last S.w.grid++F)++ei S D)):=q2.tail
 obtain⟨i,rfl⟩:=Nat.exists_eq_add_of_le' (mI q1)
 obtain⟨dd,rfl⟩:=Nat.exists_eq_add_of_le' (mI q2)
 obtain⟨c,rfl⟩:=Nat.exists_eq_add_of_le' (mI q3)
 have q4:Sat H' (ni (io ⟨i,dd,c,false⟩ (List.replicate S.s.C.toNat (bare b))++(dT D S.s.grid S.s.last S.w.grid++F))++ei S D):=q
 obtain⟨e2,q5⟩:=q4.lower
 refine⟨⟨i,dd,c,false⟩,H'.drop 28,e,e2,q5.perm ?_,hG.l1,hG.l2⟩
 exact jK _ _ _
theorem qK(d:Nat)(bk:Int)(hG:aE G D S F)(hC:0≤S.s.C∧S.s.C≤8):Ca (CO P (d+6)) 798 [.loc 6,.int 1,cQ bk] (hp S D G) (fun v H'=> ∃p l G',v= .loc (p+28)∧H'=hp S D G'∧aE G' D S ((p,.list [.loc (l.i+28)])::(io l (List.replicate S.s.C.toNat (bare bk))++F))):=by
 refine' use ?_
 have g1:=DY.new hG (.list [])
 refine' gv 3 (x5 P d bk g1 hC) fun v H' hx=> ?_
 obtain⟨l,G2,rfl,rfl,g2⟩:=hx
 have g3:Sat G2 ((G.length,.list [])::(dT D S.s.grid S.s.last S.w.grid++(io l (List.replicate S.s.C.toNat (bare bk))++F))):=g2.sat.perm ((List.Perm.append_left _ List.perm_middle).trans List.perm_middle)
 refine' hZ 0 (A:=bg [] (hp S D G2)∧(hp S D G2)[G.length+28]?=some (.list [])∧([]:List MV).length<4000) ⟨bt _,(cU (S:=S) (D:=D) G.length).trans g3.hd,by decide⟩ ?_
 have g4:Sat (G2.set G.length (.list [.loc (l.i+28)])) ((G.length,.list [.loc (l.i+28)])::(dT D S.s.grid S.s.last S.w.grid++(io l (List.replicate S.s.C.toNat (bare bk))++F))):=g3.hset
 refine ax 1 (.loc (G.length+28)) (hp S D (G2.set G.length (.list [.loc (l.i+28)]))) ⟨G.length,l,_,rfl,rfl,⟨g4.perm List.perm_middle.symm,hG.l1,hG.l2⟩⟩
end
noncomputable abbrev aW(l:List Ln):List MV:=l.map fun l=> .loc (l.i+28)
section
variable{S:Sn}{D:Dn}{G:Hp}{F:As}
theorem ef(hG:aE G D S F):fc (hp S D G) (.loc (D.pLines+28))=some (aW D.lns):=bz ((cU (S:=S) (D:=D) D.pLines).trans (jL hG))
theorem x7(L1 g L2 n L3 M R F:As)(a b q:Nat×MObj):(a::b::(M++((L1++(g++(L2++L3)))++R))++(q::(n++F))).Perm ((q::b::(M++((L1++(L2++(n++L3)))++R))++F)++(a::g)):=by
 classical
 exact List.perm_iff_count.mpr fun x=>by simp only[List.count_append,List.count_cons,List.cons_append];exact aV [] [_,_,_,_,_,_,_,_,_,_,_] 0x319d4817ad2c098220040000001ace2f6002b4982408801000000a 33
theorem sA(L1 g L2 n L3 M R F:As)(a b q:Nat×MObj):(a::b::(M++((L1++(L2++(g++L3)))++R))++(q::(n++F))).Perm ((q::b::(M++((L1++(n++(L2++L3)))++R))++F)++(a::g)):=by
 classical
 exact List.perm_iff_count.mpr fun x=>by simp only[List.count_append,List.count_cons,List.cons_append];exact aV [] [_,_,_,_,_,_,_,_,_,_,_] 0x319d4c17ad240b0220040000001ace2f6002b4982408801000000a 33
theorem bS: ∀ {a:List Ln} {g:List ar} (a':List Ln) (g':List ar),a.length=g.length→dl (a++a') (g++g')=dl a g++dl a' g'
 |[],[],_,_,_=>rfl
 |[],_::_,_,_,h=>by cases h
 |_::_,[],_,_,h=>by cases h
 |l::a,c::g,a',g',h=>by
  show io l c++dl (a++a') (g++g')=(io l c++dl a g)++dl a' g'
  rw[bS a' g' (by simpa using h),aA]
theorem x8{α:Type}(l:List α)(t b:Nat)(h:t<b∧b<l.length): ∃x y:α,l=l.take t++([x]++((l.drop (t+1)).take (b- t)++l.drop (b+1)))∧l=l.take t++((l.drop t).take (b- t)++([y]++l.drop (b+1))):=by
 refine⟨l[t],l[b],?_,?_⟩
 ·have e1:(l.drop (t+1)).take (b- t)++l.drop (b+1)=l.drop (t+1):=by
   rw[show l.drop (b+1)=(l.drop (t+1)).drop (b- t) by rw[List.drop_drop];congr 1;exact af [] [_,_,_] 0x2411c40008e00a 558561 0x44b0286452 (oS (af [] [_,_] 8968 33 8969 h.1)),List.take_append_drop]
  rw[e1,List.singleton_append,←List.drop_eq_getElem_cons (by exact aq [] [_,_,_] 8969 1057 9481 9001 h.1 h.2),List.take_append_drop]
 ·have e1:[l[b]]++l.drop (b+1)=(l.drop t).drop (b- t):=by
   rw[List.singleton_append,←List.drop_eq_getElem_cons (by exact h.2),List.drop_drop];congr 1;exact af [] [_,_,_] 0x94410a 558561 0x44b0286452 (oS (af [] [_,_] 8968 33 8969 h.1))
  rw[e1,List.take_append_drop,List.take_append_drop]
noncomputable abbrev qL{α:Type}(l:List α)(t b:Nat)(n:α):List α:=l.take t++((l.drop (t+1)).take (b- t)++([n]++l.drop (b+1)))
noncomputable abbrev sB{α:Type}(l:List α)(t b:Nat)(n:α):List α:=l.take t++([n]++((l.drop t).take (b- t)++l.drop (b+1)))
theorem iB(l:Ln)(c:ar):dl [l] [c]=io l c:=by
 show io l c++[]=_
 rw[List.append_nil]
theorem sC{q:Nat}{l:Ln}{row:ar}{t b:Nat}(hG:aE G D S ((q,.list (aW (qL D.lns t b l)))::(io l row++F)))(h:t<b∧b<D.lns.length):aE G {D with pLines:=q,lns:=qL D.lns t b l} (bu S (qL S.s.grid t b row)) F:=by
 have hl:=hG.l1
 obtain⟨x,_,e1,_⟩:=x8 D.lns t b h
 obtain⟨y,_,e2,_⟩:=x8 S.s.grid t b (by exact⟨h.1,(aq [] [_,_,_] 8969 17441 9481 9002 h.2 hl)⟩)
 have k1:(D.lns.take t).length=(S.s.grid.take t).length:=by rw[lT,lT,hl]
 have k2:((D.lns.drop (t+1)).take (b- t)).length=((S.s.grid.drop (t+1)).take (b- t)).length:=by rw[lT,lT,lD,lD,hl]
 have e3:dl D.lns S.s.grid=dl (D.lns.take t) (S.s.grid.take t)++(io x y++(dl ((D.lns.drop (t+1)).take (b- t)) ((S.s.grid.drop (t+1)).take (b- t))++dl (D.lns.drop (b+1)) (S.s.grid.drop (b+1)))):=by
  conv=>lhs;rw[e1,e2]
  rw[bS _ _ k1,bS (a:=[x]) (g:=[y]) _ _ rfl,bS _ _ k2,iB]
 have e4:dl (qL D.lns t b l) (qL S.s.grid t b row)=dl (D.lns.take t) (S.s.grid.take t)++(dl ((D.lns.drop (t+1)).take (b- t)) ((S.s.grid.drop (t+1)).take (b- t))++(io l row++dl (D.lns.drop (b+1)) (S.s.grid.drop (b+1)))):=by
  unfold qL
  rw[bS _ _ k1,bS _ _ k2,bS (a:=[l]) (g:=[row]) _ _ rfl,iB]
 refine⟨?_,?_,hG.l2⟩
 ·have:=hG.sat
  unfold dT at this⊢
  rw[e3] at this
  dsimp only
  rw[e4]
  exact(this.perm (x7 _ _ _ _ _ _ _ _ _ _ _)).left
 ·have:=hG.l1
  simp only[qL,List.length_append,lT,lD,List.length_cons,List.length_nil,hl]
theorem sD{q:Nat}{l:Ln}{row:ar}{t b:Nat}(hG:aE G D S ((q,.list (aW (sB D.lns t b l)))::(io l row++F)))(h:t<b∧b<D.lns.length):aE G {D with pLines:=q,lns:=sB D.lns t b l} (bu S (sB S.s.grid t b row)) F:=by
 have hl:=hG.l1
 obtain⟨_,x,_,e1⟩:=x8 D.lns t b h
 obtain⟨_,y,_,e2⟩:=x8 S.s.grid t b (by exact⟨h.1,(aq [] [_,_,_] 8969 17441 9481 9002 h.2 hl)⟩)
 have k1:(D.lns.take t).length=(S.s.grid.take t).length:=by rw[lT,lT,hl]
 have k2:((D.lns.drop t).take (b- t)).length=((S.s.grid.drop t).take (b- t)).length:=by rw[lT,lT,lD,lD,hl]
 have e3:dl D.lns S.s.grid=dl (D.lns.take t) (S.s.grid.take t)++(dl ((D.lns.drop t).take (b- t)) ((S.s.grid.drop t).take (b- t))++(io x y++dl (D.lns.drop (b+1)) (S.s.grid.drop (b+1)))):=by
  conv=>lhs;rw[e1,e2]
  rw[bS _ _ k1,bS _ _ k2,bS (a:=[x]) (g:=[y]) _ _ rfl,iB]
 have e4:dl (sB D.lns t b l) (sB S.s.grid t b row)=dl (D.lns.take t) (S.s.grid.take t)++(io l row++(dl ((D.lns.drop t).take (b- t)) ((S.s.grid.drop t).take (b- t))++dl (D.lns.drop (b+1)) (S.s.grid.drop (b+1)))):=by
  unfold sB
  rw[bS _ _ k1,bS (a:=[l]) (g:=[row]) _ _ rfl,bS _ _ k2,iB]
 refine⟨?_,?_,hG.l2⟩
 ·have:=hG.sat
  unfold dT at this⊢
  rw[e3] at this
  dsimp only
  rw[e4]
  exact(this.perm (sA _ _ _ _ _ _ _ _ _ _ _)).left
 ·have:=hG.l1
  simp only[sB,List.length_append,lT,lD,List.length_cons,List.length_nil,hl]
theorem dZ{C:Int}{cs:ar}(h:(cs.length:Int)=C):dL cs 0 (C- 1)=cs:=by
 unfold dL
 rw[show a9 cs 0=cs from eE (fun q=>by omega),eE (fun q=>by omega)]
theorem kP{C:Int}{cs:ar}(h:(cs.length:Int)=C):aC cs 0 (C- 1)=cs:=by
 unfold aC
 rw[show(0:Int).toNat=0 from rfl,List.drop_zero,List.take_of_length_le (by exact aq [_] [_,_] 8968 15905 139346 0xc2308d01006252 h (tN (af [_] [_] 0xc2308d01004030 545 139346 h)))]
theorem gk{C:Int}{cs us:ar}(h:(cs.length:Int)=C):bK cs us 0 (C- 1)=us:=by
 unfold bK
 rw[show(0:Int).toNat=0 from rfl,List.take_zero,List.drop_of_length_le (by exact aq [_] [_,_] 8968 15905 139346 0x118468082252 h (tN (af [_] [_] 0x118468080030 545 139346 h)))]
 simp
theorem dF{g:List ar}{i:Nat}(h:i<g.length):g[i]?=some (ab g i):=by
 unfold ab
 rw[gD,Int.toNat_natCast,gE h];rfl
theorem AC{α:Type}(l:List α){t b:Nat}(n:α)(i:Nat)(h:t<b∧b<l.length):(qL l t b n)[i]?=if i<t then l[i]? else if i<b then l[i+1]? else if i=b then some n else l[i]?:=by
 have l1:(l.take t).length=t:=List.length_take_of_le (Nat.le_of_lt (Nat.lt_trans h.1 h.2))
 have l2:((l.drop (t+1)).take (b- t)).length=b- t:=List.length_take_of_le (by rw[lD,Nat.add_comm t 1,←Nat.sub_sub];exact Nat.sub_le_sub_right (Nat.le_sub_one_of_lt h.2) t)
 have tb:=Nat.le_of_lt h.1
 unfold qL
 by_cases h1:i<t
 ·rw[if_pos h1,List.getElem?_append_left (l1.symm▸h1),List.getElem?_take_of_lt h1]
 ·have ti:=Nat.not_lt.mp h1
  rw[if_neg h1,List.getElem?_append_right (l1.symm▸ti),l1]
  by_cases h2:i<b
  ·have h4:=Nat.sub_lt_sub_right ti h2
   rw[if_pos h2,List.getElem?_append_left (l2.symm▸h4),List.getElem?_take_of_lt h4,List.getElem?_drop,Nat.add_right_comm,Nat.add_sub_cancel' ti]
  ·have bi:=Nat.not_lt.mp h2
   rw[if_neg h2,List.getElem?_append_right (l2.symm▸Nat.sub_le_sub_right bi t),l2]
   by_cases h3:i=b
   ·subst h3;rw[if_pos rfl,Nat.sub_self];rfl
   ·have bi:=Nat.lt_of_le_of_ne bi (Ne.symm h3)
    rw[if_neg h3,Nat.sub_sub_sub_cancel_right tb,List.getElem?_append_right (Nat.sub_pos_of_lt bi),show[n].length=1 from rfl,List.getElem?_drop,Nat.sub_sub,Nat.add_sub_cancel' bi]
theorem AD{α:Type}(l:List α){t b:Nat}(n:α)(i:Nat)(h:t<b∧b<l.length):(sB l t b n)[i]?=if i<t then l[i]? else if i=t then some n else if i≤b then l[i- 1]? else l[i]?:=by
 have l1:(l.take t).length=t:=List.length_take_of_le (Nat.le_of_lt (Nat.lt_trans h.1 h.2))
 have l2:((l.drop t).take (b- t)).length=b- t:=List.length_take_of_le (by rw[lD];exact Nat.sub_le_sub_right (Nat.le_of_lt h.2) t)
 have tb:=Nat.le_of_lt h.1
 unfold sB
 by_cases h1:i<t
 ·rw[if_pos h1,List.getElem?_append_left (l1.symm▸h1),List.getElem?_take_of_lt h1]
 ·have ti:=Nat.not_lt.mp h1
  rw[if_neg h1,List.getElem?_append_right (l1.symm▸ti),l1]
  by_cases h3:i=t
  ·subst h3;rw[if_pos rfl,Nat.sub_self];rfl
  ·have ti:=Nat.lt_of_le_of_ne ti (Ne.symm h3)
   have h5:=Nat.sub_pos_of_lt ti
   rw[if_neg h3,List.getElem?_append_right h5,show[n].length=1 from rfl]
   by_cases h2:i≤b
   ·have h4:=Nat.lt_of_lt_of_le (Nat.sub_lt h5 Nat.one_pos) (Nat.sub_le_sub_right h2 t)
    rw[if_pos h2,List.getElem?_append_left (l2.symm▸h4),List.getElem?_take_of_lt h4,List.getElem?_drop,Nat.sub_right_comm,Nat.add_sub_cancel' (Nat.le_sub_one_of_lt ti)]
   ·have bi:=Nat.not_le.mp h2
    rw[if_neg h2,List.getElem?_append_right (l2.symm▸Nat.le_sub_one_of_lt (Nat.sub_lt_sub_right tb bi)),l2,List.getElem?_drop,Nat.sub_right_comm (i- t) 1,Nat.sub_sub_sub_cancel_right tb,Nat.sub_sub,Nat.add_sub_cancel' bi]
theorem whole(C:Int):(C- 1+1- 0).toNat=C.toNat:=cA Int.toNat (by rw[Int.sub_add_cancel,Int.sub_zero])
theorem nQ{R C t b bk:Int}{g:List ar}(I:GI R C g)(h:0≤t∧t<b∧b<R):ay g t b 0 (C- 1) bk true=qL g t.toNat b.toNat (List.replicate C.toNat (bare bk)):=by
 have hl:=I.len
 obtain⟨t,rfl⟩:=Int.eq_ofNat_of_zero_le h.1
 obtain⟨b,rfl⟩:=Int.eq_ofNat_of_zero_le (Int.le_of_lt (Int.lt_of_le_of_lt h.1 h.2.1))
 have ht:t<b:=Int.ofNat_lt.mp h.2.1
 have hb:b<g.length:=Int.ofNat_lt.mp (hl.symm▸h.2.2)
 refine List.ext_getElem? fun i=> ?_
 unfold ay
 rw[bP,Int.toNat_natCast,Int.toNat_natCast,show((b:Int)+1).toNat=b+1 from rfl,AC g _ i ⟨ht,hb⟩]
 rcases Nat.lt_or_ge i g.length with hi|hi
 ·have hc:=(I.row _ (mG (dF hi))).1
  rw[dF hi,Option.map_some]
  by_cases h1:i<t
  ·rw[if_pos h1,if_neg (fun q=>Nat.not_le.mpr h1 q.1)]
  ·rw[if_neg h1]
   have h1:=Nat.not_lt.mp h1
   by_cases h2:i<b
   ·have hi2:i+1<g.length:=Nat.lt_of_le_of_lt h2 hb
    have hc2:=(I.row _ (mG (dF hi2))).1
    rw[if_pos h2,if_pos ⟨h1,Nat.lt_succ_of_lt h2⟩,dZ hc,gk hc,dF hi2]
    unfold cF
    rw[if_pos rfl,if_pos (Int.ofNat_lt.mpr h2),show((i:Int)+1)=((i+1:Nat):Int) from rfl,dZ hc2,kP hc2]
   ·rw[if_neg h2]
    by_cases h3:i=b
    ·rw[if_pos h3,if_pos ⟨h1,h3▸Nat.lt_succ_self b⟩,dZ hc,gk hc]
     unfold cF
     rw[if_pos rfl,if_neg (fun q=>h2 (Int.ofNat_lt.mp q)),whole]
    ·rw[if_neg h3,if_neg (fun q=>h3 (Nat.le_antisymm (Nat.lt_succ_iff.mp q.2) (Nat.not_lt.mp h2)))]
 ·have h2:=Nat.lt_of_lt_of_le hb hi
  rw[List.getElem?_eq_none hi,if_neg (Nat.not_lt.mpr (Nat.le_of_lt (Nat.lt_trans ht h2))),if_neg (Nat.not_lt.mpr (Nat.le_of_lt h2)),if_neg (Ne.symm (Nat.ne_of_lt h2))];rfl
theorem nR{R C t b bk:Int}{g:List ar}(I:GI R C g)(h:0≤t∧t<b∧b<R):ay g t b 0 (C- 1) bk false=sB g t.toNat b.toNat (List.replicate C.toNat (bare bk)):=by
 have hl:=I.len
 obtain⟨t,rfl⟩:=Int.eq_ofNat_of_zero_le h.1
 obtain⟨b,rfl⟩:=Int.eq_ofNat_of_zero_le (Int.le_of_lt (Int.lt_of_le_of_lt h.1 h.2.1))
 have ht:t<b:=Int.ofNat_lt.mp h.2.1
 have hb:b<g.length:=Int.ofNat_lt.mp (hl.symm▸h.2.2)
 refine List.ext_getElem? fun i=> ?_
 unfold ay
 rw[bP,Int.toNat_natCast,Int.toNat_natCast,show((b:Int)+1).toNat=b+1 from rfl,AD g _ i ⟨ht,hb⟩]
 rcases Nat.lt_or_ge i g.length with hi|hi
 ·have hc:=(I.row _ (mG (dF hi))).1
  rw[dF hi,Option.map_some]
  by_cases h1:i<t
  ·rw[if_pos h1,if_neg (fun q=>Nat.not_le.mpr h1 q.1)]
  ·rw[if_neg h1]
   have h1:=Nat.not_lt.mp h1
   by_cases h3:i=t
   ·rw[if_pos h3,if_pos ⟨h1,h3▸Nat.lt_succ_of_lt ht⟩,dZ hc,gk hc]
    unfold cF
    rw[if_neg Bool.false_ne_true,if_neg (fun q:(t:Int)<i=>Nat.lt_irrefl t (Nat.lt_of_lt_of_le (Int.ofNat_lt.mp q) (Nat.le_of_eq h3))),whole]
   ·rw[if_neg h3]
    have h4:t<i:=Nat.lt_of_le_of_ne h1 (Ne.symm h3)
    by_cases h2:i≤b
    ·have hi2:i- 1<g.length:=Nat.lt_of_le_of_lt (Nat.sub_le i 1) hi
     have hc2:=(I.row _ (mG (dF hi2))).1
     rw[if_pos h2,if_pos ⟨h1,Nat.lt_succ_of_le h2⟩,dZ hc,gk hc,dF hi2]
     unfold cF
     rw[if_neg Bool.false_ne_true,if_pos (Int.ofNat_lt.mpr h4),show((i:Int)- 1)=((i- 1:Nat):Int) from(oS (Nat.succ_le_of_lt (Nat.zero_lt_of_lt h4))).symm,dZ hc2,kP hc2]
    ·rw[if_neg h2,if_neg (fun q=>h2 (Nat.lt_succ_iff.mp q.2))]
 ·have h2:=Nat.lt_of_lt_of_le hb hi
  rw[List.getElem?_eq_none hi,if_neg (Nat.not_lt.mpr (Nat.le_of_lt (Nat.lt_trans ht h2))),if_neg (Ne.symm (Nat.ne_of_lt (Nat.lt_trans ht h2))),if_neg (Nat.not_le.mpr h2)];rfl
end
section
variable(P:Cw){d:Nat}{S:Sn}{D:Dn}{G:Hp}{F:As}
theorem qM{l:List MV}{b:Int}(h:0≤b∧b≤l.length):aI l none (some b)=l.take b.toNat:=by
 unfold aI fb fF
 dsimp only
 rw[if_neg (by apply af [_] [] 1667 33 131120 h.1),show min b.toNat l.length=b.toNat by apply mL (aq [_] [_,_] 8968 17441 281216 139346 h.2 (tN h.1)),Nat.sub_zero,List.drop_zero]
theorem iC{l:List MV}{a:Int}(h:0≤a∧a≤l.length):aI l (some a) none=l.drop a.toNat:=by
 unfold aI fb fF
 dsimp only
 rw[if_neg (by apply af [_] [] 1667 33 131120 h.1),show min a.toNat l.length=a.toNat by apply mL (aq [_] [_,_] 8968 17441 281216 139346 h.2 (tN h.1)),List.take_of_length_le (by rw[lD];apply aV [] [_] 8456 1)]
theorem Cu{H:Hp}{n m:Nat}{l:List MV}(h:H[n]?=some (.list l))(h2:H[m]?=some (.list []))(hl:0<l.length):eY H .Eq (.loc n) (.loc m)=some false:=by
 rw[B9 h h2]
 cases l with
 |nil=>exact absurd hl (by simp)
 |cons a r=>rfl
theorem dM{n m:Nat}{l r:List MV}(h:G[n]?=some (.list l))(h2:G[m]?=some (.list r))(h3:l.length+r.length≤4000):cB (hp S D G) .Add (.loc (n+28)) (.loc (m+28))=some (.loc (G.length+28),hp S D (G++[.list (l++r)])):=
 zd (H:=hp S D G) ((cU (S:=S) (D:=D) n).trans h) ((cU (S:=S) (D:=D) m).trans h2) (Nat.le_trans h3 (by decide))
theorem nT{O:dJ}{t:Tr}{Q:QS}(n:Nat){a:Addr}{vs:List MV}{H:Hp}{row:ar}(e:Ca O a vs H fun v H'=> ∃p l G',v= .loc (p+28)∧H'=hp S D G'∧aE G' D S ((p,.list [.loc (l.i+28)])::(io l row++F)))(r: ∀p l G',aE G' D S ((p,.list [.loc (l.i+28)])::(io l row++F))→Wt O (cc (aL n t) (.loc (p+28)) (hp S D G')) Q)(hr:hc (aL n t)=some (a,vs,H):=by kernel_rfl):Wt O t Q:=
 gv n e (fun v H' h=>by
  obtain⟨p,l,G',rfl,rfl,h⟩:=h
  exact r p l G' h) hr
theorem DY.mid{X:As}{n:Nat}{o:MObj}{gs gw:List ar}{last:List Int}(h:DY G D gs last gw (X++((n,o)::F))):DY G D gs last gw ((n,o)::(X++F)):=⟨h.sat.perm (List.Perm.append_left _ List.perm_middle),h.l1,h.l2⟩
theorem DY.swap{n m:Nat}{o o':MObj}{gs gw:List ar}{last:List Int}(h:DY G D gs last gw ((n,o)::(m,o')::F)):DY G D gs last gw ((m,o')::(n,o)::F):=⟨h.sat.perm (List.Perm.append_left _ (List.Perm.swap _ _ _)),h.l1,h.l2⟩
theorem DY.swap3{X:As}{n m:Nat}{o o':MObj}{gs gw:List ar}{last:List Int}(h:DY G D gs last gw ((n,o)::(X++((m,o')::F)))):DY G D gs last gw ((m,o')::(n,o)::(X++F)):=⟨h.sat.perm (List.Perm.append_left _ ((List.perm_middle.cons _).trans (List.Perm.swap _ _ _))),h.l1,h.l2⟩
theorem Fp{l:List MV}(h:l.length≤4)(n:Nat):(l.take n).length≤4:=Nat.le_trans (List.length_take_le' n l) h
theorem Dq{l:List MV}(h:l.length≤4)(n:Nat):(l.drop n).length≤4:=by rw[lD];exact Nat.le_trans (Nat.sub_le _ _) h
theorem vh(d:Nat)(t l b r bk:Int)(hG:aE G D S F)(I:GI S.s.R S.s.C S.s.grid)(h:0≤t∧t<b∧b<S.s.R)(hR:S.s.R≤4∧1≤S.s.C∧S.s.C≤8)(hn:l=0∧r=S.s.C- 1):
  Ca (CO P (d+8)) 812 [.loc 6,.tup [.int t,.int l,.int b,.int r],.int 1,cQ bk] (hp S D G) (Az (bu S (ay S.s.grid t b l r bk true)) F (bA D b).i):=by
 have hl1:=hG.l1
 have hl2:=I.len
 have hll:((aW D.lns).length:Int)=S.s.R:=by rw[lM,hl1];exact hl2
 have hn4:(aW D.lns).length≤4:=Int.ofNat_le.mp (hll▸hR.1)
 obtain⟨rfl,rfl⟩:=hn
 have I2:GI S.s.R S.s.C (ay S.s.grid t b 0 (S.s.C- 1) bk true):=bX I (by apply⟨⟨h.1,h.2.2⟩,⟨(aV [] [] 49200 1),⟨(af [_] [] 0x23404030 33 131632 hR.2.1),(aV [_] [] 0x808d011 1)⟩⟩⟩)
 rw[nQ I h] at I2⊢
 refine' use ?_
 refine' aj 0 (cT P (d+6) (hp S D G) (1) (0) (b- t+1) (by apply⟨(aV [] [] 573488 1),(af [_,_] [] 0x8d28080230 33 4241 h.2.1)⟩)) ?_
 refine' aj 2 (fT P (d+6) S D G t 0 b (S.s.C- 1)) ?_
 refine' ak 0 (A:=(0:Int)=0∧S.s.C- 1=S.s.C- 1) ⟨rfl,rfl⟩ ?_
 refine' bf 1 (ef hG) ?_
 have g1:=(hG.new (.list (aI (aW D.lns) (some t) (some (t+1))))).drop
 refine' bf 1 (ef g1) ?_
 have g2:=g1.new' (cA MObj.list (jJ (l:=aW D.lns) (a:=t+1) (b:=b+1) (by apply⟨(af [_] [] 0x23400030 33 131120 h.1),⟨(af [_,_] [] 0x8d2008d000 33 4737 h.2.1),(aq [_,_] [_] 0x20508d000 15393 4737 155730 h.2.2 hll)⟩⟩)))
 have g3:=g2.new (.list [])
 refine' mx 0 (Cu (H:=hp S D _) ((cU (S:=S) (D:=D) _).trans g3.own2) ((cU (S:=S) (D:=D) _).trans g3.own) (by rw[lT,lD];apply a0 [_,_] [_,_] 262201 506913 4737 0x46800469006252 8970 h.2.1 (tN (af [_,_] [] 0x46900468004030 33 4241 h.2.1)) (mL (ju [_,_,_] [_,_,_,_] 8968 0x1f18bc21 4737 156754 0x46a00468006052 0x23502652 0x4cb2286252 h.2.2 hll (tN (af [_,_] [] 0x46900468004030 33 4241 h.2.1)) (tN (af [_] [] 0x23400030 33 131120 h.1)) (oS (eo [_,_,_] [_,_] 8968 0x1178421 4737 5265 172626 0x23402052 h.2.1 h.2.2 hll (tN (af [_] [] 0x23400030 33 131120 h.1)))))))) ?_
 have g4:=g3.drop
 refine' bf 2 (ef g4) ?_
 have g5:=g4.new' (cA MObj.list (qM (l:=aW D.lns) (b:=t) (by apply⟨h.1,(a0 [_,_,_] [_] 264832 492577 4737 5265 172114 h.2.1 h.2.2 hll)⟩)))
 refine' aY 0 (dM (S:=S) (D:=D) g5.own g5.own2 (by rw[lT,lT,lD];apply Bj [_,_,_] [_,_,_,_] 0x1f403246008 0x463188421 4737 67216 173138 0x46a00468006652 9482 10010 h.2.2 hR.1 (tN h.1) (tN (af [_,_] [] 0x46900468004030 33 4241 h.2.1)) (mL (eo [_,_,_] [_,_] 8968 0x1178421 4737 5265 172626 139346 h.2.1 h.2.2 hll (tN h.1))) (mL (ju [_,_,_] [_,_,_,_] 8968 0x1f18bc21 4737 156754 0x46a00468006052 0x23502652 0x4cb2286252 h.2.2 hll (tN (af [_,_] [] 0x46900468004030 33 4241 h.2.1)) (tN (af [_] [] 0x23400030 33 131120 h.1)) (oS (eo [_,_,_] [_,_] 8968 0x1178421 4737 5265 172626 0x23402052 h.2.1 h.2.2 hll (tN (af [_] [] 0x23400030 33 131120 h.1)))))))) ?_
 have g6:=((g5.new (.list ((aW D.lns).take t.toNat++((aW D.lns).drop (t+1).toNat).take (b+1- (t+1)).toNat))).swap.drop).swap.drop
 refine' nT 1 (qK P (d+1) bk g6 ⟨by apply af [_] [] 131120 33 131632 hR.2.1,hR.2.2⟩) fun p l G7 g7=> ?_
 have g8:=g7.swap3
 refine' aY 0 (dM (S:=S) (D:=D) g8.own g8.own2 (by simp only[List.length_append,lT,lD,List.length_cons,List.length_nil];apply Bj [_,_,_] [_,_,_,_] 0x7d00c81180608c0008 0x463188421 4737 67216 173138 0x46a00468006652 9482 10010 h.2.2 hR.1 (tN h.1) (tN (af [_,_] [] 0x46900468004030 33 4241 h.2.1)) (mL (eo [_,_,_] [_,_] 8968 0x1178421 4737 5265 172626 139346 h.2.1 h.2.2 hll (tN h.1))) (mL (ju [_,_,_] [_,_,_,_] 8968 0x1f18bc21 4737 156754 0x46a00468006052 0x23502652 0x4cb2286252 h.2.2 hll (tN (af [_,_] [] 0x46900468004030 33 4241 h.2.1)) (tN (af [_] [] 0x23400030 33 131120 h.1)) (oS (eo [_,_,_] [_,_] 8968 0x1178421 4737 5265 172626 0x23402052 h.2.1 h.2.2 hll (tN (af [_] [] 0x23400030 33 131120 h.1)))))))) ?_
 have g9:=((g8.new (.list (((aW D.lns).take t.toNat++((aW D.lns).drop (t+1).toNat).take (b+1- (t+1)).toNat)++[.loc (l.i+28)]))).swap.drop).swap.drop
 refine' bf 1 (ef g9) ?_
 have g10:=g9.new' (cA MObj.list (iC (l:=aW D.lns) (a:=b+1) (by apply⟨(aq [_,_] [] 0x23400030 1057 147504 4241 h.1 h.2.1),(aq [_,_] [_] 0x20508d000 15393 4737 155730 h.2.2 hll)⟩)))
 refine' aY 0 (dM (S:=S) (D:=D) g10.own2 g10.own (by simp only[List.length_append];exact Nat.le_trans (Nat.add_le_add (Nat.add_le_add (Nat.add_le_add (Fp hn4 _) (Nat.le_trans (List.length_take_le' _ _) (Dq hn4 _))) (Nat.le_refl 1)) (Dq hn4 _)) (by decide))) ?_
 have g11:=((g10.new (.list ((((aW D.lns).take t.toNat++((aW D.lns).drop (t+1).toNat).take (b+1- (t+1)).toNat)++[.loc (l.i+28)])++(aW D.lns).drop (b+1).toNat))).swap.drop).swap.drop
 have e11:((((aW D.lns).take t.toNat++((aW D.lns).drop (t+1).toNat).take (b+1- (t+1)).toNat)++[.loc (l.i+28)])++(aW D.lns).drop (b+1).toNat)=aW (qL D.lns t.toNat b.toNat l):=by
  unfold aW qL
  rw[show(t+1).toNat=t.toNat+1 by apply aq [_] [_,_] 0x11c410a 0x22f0be21 0x23402052 139858 (tN (af [_] [] 0x23400030 33 131120 h.1)) (tN h.1),show(b+1).toNat=b.toNat+1 by apply aq [_] [_,_] 0x11c410a 0x22f0be21 0x23402052 139858 (tN (aq [_,_] [] 0x23400030 1057 147504 4241 h.1 h.2.1)) (tN (aq [_,_] [] 131120 1057 147504 4241 h.1 h.2.1)),show(b+1- (t+1)).toNat=b.toNat- t.toNat by apply eo [_,_] [_,_,_,_] 8970 0x22f8bc2f8be21 0x46900468006052 140370 157266 0x4cb2286252 (tN (af [_,_] [] 0x46900468004030 33 4241 h.2.1)) (tN (aq [_,_] [] 131120 1057 147504 4241 h.1 h.2.1)) (tN h.1) (oS (a0 [_,_] [_,_] 8968 572449 4737 156242 139346 h.2.1 (tN (aq [_,_] [] 131120 1057 147504 4241 h.1 h.2.1)) (tN h.1)))]
  simp
 rw[e11] at g11⊢
 have g12:=sC g11 (by apply⟨(a0 [_,_] [_,_] 8969 508961 4737 139346 156242 h.2.1 (tN h.1) (tN (aq [_,_] [] 131120 1057 147504 4241 h.1 h.2.1))),(eo [_,_] [_,_,_] 8969 0x117bc21 4737 9498 156754 139346 h.2.2 hl1 hl2 (tN (aq [_,_] [] 131120 1057 147504 4241 h.1 h.2.1)))⟩)
 have hb: ∀q,(bA D b).i∈jx {D with pLines:=q,lns:=qL D.lns t.toNat b.toNat l}:=by
  intro q
  refine List.mem_map.mpr ⟨bA D b,mR _ (mW _ (mG (i:=b.toNat- t.toNat- 1) ?_)),rfl⟩
  rw[List.getElem?_take_of_lt (by apply af [] [_,_] 8969 545 0x8cb1286052 (oS (eo [_,_] [_,_,_] 262712 0xf8bc21 4737 156242 140370 0x48b1286052 h.2.1 (tN (aq [_,_] [] 131120 1057 147504 4241 h.1 h.2.1)) (tN h.1) (oS (a0 [_,_] [_,_] 8968 572449 4737 156242 139346 h.2.1 (tN (aq [_,_] [] 131120 1057 147504 4241 h.1 h.2.1)) (tN h.1)))))),List.getElem?_drop,show t.toNat+1+(b.toNat- t.toNat- 1)=b.toNat by apply aq [] [_,_,_,_] 0x4a211c000a 0x1ef0c621 0x40b2286652 0x8cb3286252 (oS (a0 [_,_] [_,_] 8968 508961 4737 139346 156242 h.2.1 (tN h.1) (tN (aq [_,_] [] 131120 1057 147504 4241 h.1 h.2.1)))) (oS (eo [_,_] [_,_,_] 262712 0xf7c421 4737 139858 156754 0x44b2286052 h.2.1 (tN h.1) (tN (aq [_,_] [] 131120 1057 147504 4241 h.1 h.2.1)) (oS (a0 [_,_] [_,_] 8968 508961 4737 139346 156242 h.2.1 (tN h.1) (tN (aq [_,_] [] 131120 1057 147504 4241 h.1 h.2.1))))))]
  exact gI hG I (by apply⟨(aq [_,_] [] 131120 1057 147504 4241 h.1 h.2.1),h.2.2⟩)
 refine' bn 2 (fk P (d+6) t g12 I2 (by apply⟨h.1,(aq [_,_,_] [] 4736 1057 5249 4769 h.2.1 h.2.2)⟩)) fun D13 G13 g13 k13=> ?_
 refine' bn 1 (fk P (d+6) (b+1- 1) g13 I2 (by apply⟨(aq [_,_] [] 0x118468004030 1057 147504 4241 h.1 h.2.1),(af [_,_] [] 0x484611a0010 33 4737 h.2.2)⟩)) fun D16 G17 g14 k15=> ?_
 refine' ax 0 (MV.loc (List.length (hp S D G))) (hp (bu S (qL S.s.grid t.toNat b.toNat (List.replicate S.s.C.toNat (bare bk)))) D16 G17) (Az.mk g14 rfl ((k15.trans k13).symm▸hb _))
theorem vi(d:Nat)(t l b r bk:Int)(hG:aE G D S F)(I:GI S.s.R S.s.C S.s.grid)(h:0≤t∧t<b∧b<S.s.R)(hR:S.s.R≤4∧1≤S.s.C∧S.s.C≤8)(hn:l=0∧r=S.s.C- 1):
  Ca (CO P (d+8)) 819 [.loc 6,.tup [.int t,.int l,.int b,.int r],.int 1,cQ bk] (hp S D G) (Sx .none (bu S (ay S.s.grid t b l r bk false)) F):=by
 have hl1:=hG.l1
 have hl2:=I.len
 have hll:((aW D.lns).length:Int)=S.s.R:=by rw[lM,hl1];exact hl2
 have hn4:(aW D.lns).length≤4:=Int.ofNat_le.mp (hll▸hR.1)
 obtain⟨rfl,rfl⟩:=hn
 have I2:GI S.s.R S.s.C (ay S.s.grid t b 0 (S.s.C- 1) bk false):=bX I (by apply⟨⟨h.1,h.2.2⟩,⟨(aV [] [] 49200 1),⟨(af [_] [] 0x23404030 33 131632 hR.2.1),(aV [_] [] 0x808d011 1)⟩⟩⟩)
 rw[nR I h] at I2⊢
 refine' use ?_
 refine' aj 0 (cT P (d+6) (hp S D G) (1) (0) (b- t+1) (by apply⟨(aV [] [] 573488 1),(af [_,_] [] 0x8d28080230 33 4241 h.2.1)⟩)) ?_
 refine' aj 2 (fT P (d+6) S D G t 0 b (S.s.C- 1)) ?_
 refine' ak 0 (A:=(0:Int)=0∧S.s.C- 1=S.s.C- 1) ⟨rfl,rfl⟩ ?_
 refine' bf 1 (ef hG) ?_
 have g2:=hG.new' (cA MObj.list (jJ (l:=aW D.lns) (a:=t) (b:=b+1- 1) (by apply⟨h.1,⟨(af [_,_] [] 0x8c23480280 33 4737 h.2.1),(aq [_,_] [_] 0x10284611a0010 15393 4737 155730 h.2.2 hll)⟩⟩)))
 refine' bf 1 (ef g2) ?_
 have g5:=g2.new' (cA MObj.list (qM (l:=aW D.lns) (b:=t) (by apply⟨h.1,(a0 [_,_,_] [_] 264832 492577 4737 5265 172114 h.2.1 h.2.2 hll)⟩)))
 refine' nT 1 (qK P (d+1) bk g5 ⟨by apply af [_] [] 131120 33 131632 hR.2.1,hR.2.2⟩) fun p l G7 g7=> ?_
 have g8:=g7.swap3
 refine' aY 0 (dM (S:=S) (D:=D) g8.own g8.own2 (by simp only[List.length_append,lT,lD,List.length_cons,List.length_nil];apply ju [_,_,_] [_,_] 0x1f40320460182008 0x23108421 4737 5265 67232 139858 8970 h.2.1 h.2.2 hR.1 (tN h.1) (mL (eo [_,_,_] [_,_] 8968 0x1178421 4737 5265 172626 139346 h.2.1 h.2.2 hll (tN h.1))))) ?_
 have g9:=(((g8.new (.list ((aW D.lns).take t.toNat++[.loc (l.i+28)]))).swap.drop).swap.drop).swap3
 refine' aY 0 (dM (S:=S) (D:=D) g9.own2 g9.own (by simp only[List.length_append,lT,lD,List.length_cons,List.length_nil];apply Bj [_,_,_] [_,_,_,_] 0x7d00c9108c03040008 0x463188421 4737 67216 173138 0x282308d00086652 9482 10010 h.2.2 hR.1 (tN h.1) (tN (af [_,_] [] 0x242308d00084030 33 4241 h.2.1)) (mL (eo [_,_,_] [_,_] 8968 0x1178421 4737 5265 172626 139346 h.2.1 h.2.2 hll (tN h.1))) (mL (ju [_,_,_] [_,_,_,_] 8968 0x1f18bc21 4737 156754 173650 0x282308d00086052 0x4cb2286252 h.2.2 hll (tN h.1) (tN (af [_,_] [] 0x242308d00084030 33 4241 h.2.1)) (oS (eo [_,_,_] [_,_] 8968 0x1178421 4737 5265 172626 139346 h.2.1 h.2.2 hll (tN h.1))))))) ?_
 have g10:=((g9.new (.list (((aW D.lns).take t.toNat++[.loc (l.i+28)])++((aW D.lns).drop t.toNat).take (b+1- 1- t).toNat))).swap.drop).swap.drop
 refine' bf 1 (ef g10) ?_
 have g11:=g10.new' (cA MObj.list (iC (l:=aW D.lns) (a:=b+1) (by apply⟨(aq [_,_] [] 0x23400030 1057 147504 4241 h.1 h.2.1),(aq [_,_] [_] 0x20508d000 15393 4737 155730 h.2.2 hll)⟩)))
 refine' aY 0 (dM (S:=S) (D:=D) g11.own2 g11.own (by simp only[List.length_append];exact Nat.le_trans (Nat.add_le_add (Nat.add_le_add (Nat.add_le_add (Fp hn4 _) (Nat.le_refl 1)) (Nat.le_trans (List.length_take_le' _ _) (Dq hn4 _))) (Dq hn4 _)) (by decide))) ?_
 have g12:=((g11.new (.list ((((aW D.lns).take t.toNat++[.loc (l.i+28)])++((aW D.lns).drop t.toNat).take (b+1- 1- t).toNat)++(aW D.lns).drop (b+1).toNat))).swap.drop).swap.drop
 have e11:((((aW D.lns).take t.toNat++[.loc (l.i+28)])++((aW D.lns).drop t.toNat).take (b+1- 1- t).toNat)++(aW D.lns).drop (b+1).toNat)=aW (sB D.lns t.toNat b.toNat l):=by
  unfold aW sB
  rw[show(b+1).toNat=b.toNat+1 by apply aq [_] [_,_] 0x11c410a 0x22f0be21 0x23402052 139858 (tN (aq [_,_] [] 0x23400030 1057 147504 4241 h.1 h.2.1)) (tN (aq [_,_] [] 131120 1057 147504 4241 h.1 h.2.1)),show(b+1- 1- t).toNat=b.toNat- t.toNat by apply eo [_,_] [_,_,_,_] 8970 0x22f8bc2f8be21 0x242308d00086052 140370 157266 0x4cb2286252 (tN (af [_,_] [] 0x242308d00084030 33 4241 h.2.1)) (tN (aq [_,_] [] 131120 1057 147504 4241 h.1 h.2.1)) (tN h.1) (oS (a0 [_,_] [_,_] 8968 572449 4737 156242 139346 h.2.1 (tN (aq [_,_] [] 131120 1057 147504 4241 h.1 h.2.1)) (tN h.1)))]
  simp
 rw[e11] at g12⊢
 have g13:=sD g12 (by apply⟨(a0 [_,_] [_,_] 8969 508961 4737 139346 156242 h.2.1 (tN h.1) (tN (aq [_,_] [] 131120 1057 147504 4241 h.1 h.2.1))),(eo [_,_] [_,_,_] 8969 0x117bc21 4737 9498 156754 139346 h.2.2 hl1 hl2 (tN (aq [_,_] [] 131120 1057 147504 4241 h.1 h.2.1)))⟩)
 refine' bn 2 (fk P (d+6) t g13 I2 (by apply⟨h.1,(aq [_,_,_] [] 4736 1057 5249 4769 h.2.1 h.2.2)⟩)) fun D13 G13 g14 k13=> ?_
 refine' bn 1 (fk P (d+6) (b+1) g14 I2 (by apply⟨(aq [_,_] [] 0x23400030 1057 147504 4241 h.1 h.2.1),(af [_,_] [] 0x908d000 33 4737 h.2.2)⟩)) fun D20 G21 g18 k19=> ?_
 refine' ax 0 .none (hp (bu S (sB S.s.grid t.toNat b.toNat (List.replicate S.s.C.toNat (bare bk)))) D20 G21) (Sx.mk ‹_› rfl)
end
noncomputable def feedD(v:Vt):Vt:=
 if v.row=v.bottom then(if v.left≤v.col∧v.col≤v.right then{v with waits:=false,grid:=ay v.grid v.top v.bottom v.left v.right v.back true} else{v with waits:=false})
 else if v.row<v.R- 1 then{v with waits:=false,row:=v.row+1} else{v with waits:=false}
noncomputable def feedU(v:Vt):Vt:=
 if v.row=v.top then(if v.left≤v.col∧v.col≤v.right then{v with waits:=false,grid:=ay v.grid v.top v.bottom v.left v.right v.back false} else{v with waits:=false})
 else if 0<v.row then{v with waits:=false,row:=v.row- 1} else{v with waits:=false}
noncomputable def ae(v:Vt):Vt:={feedD v with col:=aR v}
noncomputable def eI(v:Vt)(c w:Int):Vt:=if aa v<c+w then{v with col:=aa v,waits:=true} else{v with col:=c+w,waits:=false}
noncomputable def cv(v:Vt):Vt:=
 if((v.near=true∨v.far=true)∧v.aw=true)∧v.waits=true then{v with waits:=false}
 else if aR v<v.col then{v with waits:=false,col:=v.col- 1}
 else if(v.near=true∨v.far=true)∧v.aw=true then
  (if v.row≠v.top∧0<v.row then{v with waits:=false,row:=v.row- 1,col:=v.right}
   else if v.row=v.top∧v.far=true then{v with waits:=false,row:=v.bottom,col:=v.right}
   else{v with waits:=false})
 else{v with waits:=false}
section
variable{v:Vt}
theorem Inv.setCol(I:Inv v){c:Int}{b:Bool}(h:0≤c∧c<v.C):Inv {v with col:=c,waits:=b}:=⟨I.dim,I.mar,⟨I.cur.1,h⟩,I.gi⟩
theorem Inv.setGrid(I:Inv v){g:List ar}(h:GI v.R v.C g):Inv {v with grid:=g}:=⟨I.dim,I.mar,I.cur,h⟩
theorem dG(I:Inv v):0≤aR v∧aR v<v.C∧aR v≤v.col:=by
 have m:=I.mar.2;have c:=I.cur.2
 unfold aR
 by_cases q:v.left≤v.col
 ·rw[if_pos q];exact⟨m.1,Int.lt_trans m.2.1 m.2.2,q⟩
 ·rw[if_neg q];exact⟨Int.le_refl _,Int.lt_of_le_of_lt c.1 c.2,c.1⟩
theorem iD(I:Inv v):aR v<v.right:=by
 have m:=I.mar.2
 unfold aR
 by_cases q:v.left≤v.col
 ·rw[if_pos q];exact m.2.1
 ·rw[if_neg q];exact Int.lt_of_le_of_lt m.1 m.2.1
theorem aO(I:Inv v):0≤aa v∧aa v<v.C∧v.col≤aa v∧aR v<aa v:=by
 have m:=I.mar.2;have c:=I.cur.2
 have h:=iD I
 unfold aa
 by_cases q:v.col≤v.right
 ·rw[if_pos q];exact⟨Int.le_of_lt (Int.lt_of_le_of_lt m.1 m.2.1),m.2.2,q,h⟩
 ·rw[if_neg q];exact⟨Int.le_sub_one_of_lt (Int.lt_of_le_of_lt c.1 c.2),Int.sub_lt_self _ (by decide),Int.le_sub_one_of_lt c.2,Int.lt_of_lt_of_le h (Int.le_sub_one_of_lt m.2.2)⟩
set_option tactic.hygienic true in
theorem i0(I:Inv v):Inv (feedD v):=by
 have h1:=I.mar;have h2:=I.cur
 have gs:GI v.R v.C (ay v.grid v.top v.bottom v.left v.right v.back true):=bX I.gi (by exact⟨⟨h1.1.1,h1.1.2.2⟩,⟨h1.2.1,⟨(af [_,_] [] 4736 33 4737 h1.2.2.1),h1.2.2.2⟩⟩⟩)
 unfold feedD
 split
 ·split
  ·exact⟨I.dim,I.mar,I.cur,gs⟩
  ·exact⟨I.dim,I.mar,I.cur,I.gi⟩
 ·split
  ·refine⟨I.dim,I.mar,?_,I.gi⟩
   refine⟨⟨Int.le_add_one h2.1.1,?_⟩,h2.2⟩
   rename_i q
   exact Int.add_lt_of_lt_sub_right q
  ·exact⟨I.dim,I.mar,I.cur,I.gi⟩
theorem vj(v:Vt): ∃r g,feedD v={v with waits:=false,row:=r,grid:=g}:=by
 unfold feedD
 split
 ·split<;>exact⟨_,_,rfl⟩
 ·split<;>exact⟨_,_,rfl⟩
theorem cR(v:Vt):(feedD v).R=v.R∧(feedD v).C=v.C∧(feedD v).left=v.left∧(feedD v).right=v.right∧(feedD v).col=v.col∧(feedD v).aw=v.aw∧(feedD v).ins=v.ins∧(feedD v).back=v.back∧(feedD v).last=v.last∧(feedD v).waits=false∧(feedD v).top=v.top∧(feedD v).bottom=v.bottom:=by
 obtain⟨r,g,e⟩:=vj v
 rw[e]
 exact⟨rfl,rfl,rfl,rfl,rfl,rfl,rfl,rfl,rfl,rfl,rfl,rfl⟩
set_option tactic.hygienic true in
theorem sE(I:Inv v):Inv (feedU v):=by
 have h1:=I.mar;have h2:=I.cur
 have gs:GI v.R v.C (ay v.grid v.top v.bottom v.left v.right v.back false):=bX I.gi (by exact⟨⟨h1.1.1,h1.1.2.2⟩,⟨h1.2.1,⟨(af [_,_] [] 4736 33 4737 h1.2.2.1),h1.2.2.2⟩⟩⟩)
 unfold feedU
 split
 ·split
  ·exact⟨I.dim,I.mar,I.cur,gs⟩
  ·exact⟨I.dim,I.mar,I.cur,I.gi⟩
 ·split
  ·refine⟨I.dim,I.mar,?_,I.gi⟩
   rename_i q
   exact⟨⟨Int.le_sub_one_of_lt q,Int.lt_trans (Int.sub_lt_self _ (by decide)) h2.1.2⟩,h2.2⟩
  ·exact⟨I.dim,I.mar,I.cur,I.gi⟩
theorem vk(v:Vt): ∃r g,feedU v={v with waits:=false,row:=r,grid:=g}:=by
 unfold feedU
 split
 ·split<;>exact⟨_,_,rfl⟩
 ·split<;>exact⟨_,_,rfl⟩
theorem pd(v:Vt):(feedU v).R=v.R∧(feedU v).C=v.C∧(feedU v).left=v.left∧(feedU v).right=v.right∧(feedU v).col=v.col∧(feedU v).aw=v.aw∧(feedU v).ins=v.ins∧(feedU v).back=v.back∧(feedU v).last=v.last∧(feedU v).waits=false∧(feedU v).top=v.top∧(feedU v).bottom=v.bottom:=by
 obtain⟨r,g,e⟩:=vk v
 rw[e]
 exact⟨rfl,rfl,rfl,rfl,rfl,rfl,rfl,rfl,rfl,rfl,rfl,rfl⟩
theorem dH(I:Inv v):Inv (ae v):=by
 have h:=i0 I
 have h2:=dG I
 have h3:=cR v
 exact⟨h.dim,h.mar,⟨h.cur.1,h2.1,by show aR v<(feedD v).C;rw[h3.2.1];exact h2.2.1⟩,h.gi⟩
end
noncomputable def vm(u:MV)(S':Sn)(F:As)(m:Nat):QE:=fun v H'=>v=u∧ ∃D' G',H'=hp S' D' G'∧aE G' D' S' F∧m∈jx D'
noncomputable def HY(S':Sn)(F:As)(H:Hp):Prop:= ∃D' G',H=hp S' D' G'∧aE G' D' S' F
section
variable{S S':Sn}{D:Dn}{G:Hp}{F:As}{m:Nat}{u v:MV}{H:Hp}
theorem vm.mk(h:aE G D S F)(e:S=S')(k:m∈jx D):vm u S' F m u (hp S D G):=⟨rfl,D,G,e▸rfl,e▸h,k⟩
theorem vn(c:Cw)(b:Bool)(hG:aE G D S F)(I:GI S.s.R S.s.C S.s.grid)(k:m∈jx D): ∃a,k8 c.K (hp S D G) (.loc (m+28)) "is_wrapped" (.bool b)=some a∧HY S F a:=by
 obtain⟨l,hl,rfl⟩:=List.mem_map.mp k
 obtain⟨i,hi⟩:=List.mem_iff_getElem?.mp hl
 have h1:=hG.l1
 have h2:=I.len
 have h3:=(gS hi).1
 obtain⟨H',e,G',e2,q⟩:=zh c (i:Int) b hG I (by exact⟨(aV [] [_] 0x814030 1),(a0 [_] [_,_,_] 139345 50721 9498 140370 8969 h1 h2 h3)⟩)
 have e3:bA D (i:Int)=l:=by
  unfold bA
  rw[gD,Int.toNat_natCast,hi];rfl
 rw[e3] at e
 exact⟨H',e,_,G',e2,q⟩
theorem mJ(hG:aE G D S F)(I:GI S.s.R S.s.C S.s.grid){r:Int}(h:0≤r∧r<S.s.R):(bA D r).i∈jx D:=List.mem_map.mpr ⟨_,mG (gI hG I h),rfl⟩
theorem a8{q:Nat}{l:List Int}(h:aE G D S ((q,.list (l.map .int))::F)):aE G {D with pLast:=q} {S with s:={S.s with last:=l}} F:=by
 refine⟨?_,h.l1,h.l2⟩
 have:=h.sat.perm List.perm_middle
 unfold dT at this⊢
 exact(this.perm ((List.Perm.swap _ _ _).trans (((List.Perm.swap _ _ _).cons _).trans (List.Perm.swap _ _ _)))).tail
end
section
variable{O:dJ}{t:Tr}{Q:QS}
theorem vo(n:Nat){a:Addr}{vs:List MV}{H:Hp}{u:MV}{S':Sn}{F:As}{m:Nat}(e:Ca O a vs H (vm u S' F m))(r: ∀D' G',aE G' D' S' F→m∈jx D'→Wt O (cc (aL n t) u (hp S' D' G')) Q)(hr:hc (aL n t)=some (a,vs,H):=by kernel_rfl):Wt O t Q:=
 gv n e (fun v H' h=>by
  obtain⟨rfl,D',G',rfl,h,k⟩:=h
  exact r D' G' h k) hr
theorem zm(n:Nat){a:Addr}{vs:List MV}{H:Hp}{S':Sn}{F:As}{m:Nat}(e:Ca O a vs H (Az S' F m))(r: ∀p D' G',aE G' D' S' F→m∈jx D'→Wt O (cc (aL n t) (.loc p) (hp S' D' G')) Q)(hr:hc (aL n t)=some (a,vs,H):=by kernel_rfl):Wt O t Q:=
 gv n e (fun v H' h=>by
  obtain⟨p,rfl,D',G',rfl,h,k⟩:=h
  exact r p D' G' h k) hr
theorem zn(n:Nat){m:Option Hp}{S':Sn}{F:As}(e: ∃a,m=some a∧HY S' F a)(r: ∀D' G',aE G' D' S' F→Wt O (cont (aL n t) (.h (hp S' D' G'))) Q)(hr:hd (aL n t)=some (bd m fun x=>some (.h x)):=by kernel_rfl):Wt O t Q:=
 dj n e (fun a h=>by
  obtain⟨D',G',rfl,h⟩:=h
  exact r D' G' h) hr
end
section
variable(P:Cw){d:Nat}{S:Sn}{D:Dn}{G:Hp}{F:As}
theorem x9(d:Nat)(hG:aE G D S F)(I:Inv S.s):Ca (CO P (d+9)) 1058 [.loc 0,.int 1] (hp S D G) (vm .none (bu S (ay S.s.grid S.s.top S.s.bottom S.s.left S.s.right S.s.back true)) F (bA D S.s.bottom).i):=by
 have ig:=I.gi
 have id:=I.dim
 have im:=I.mar
 have ic:=I.cur
 by_cases hn:S.s.left=0∧S.s.right=S.s.C- 1
 ·refine' use ?_
  refine' aj 4 (iY P (d+7) S D G) ?_
  refine' zm 2 (vh P d (S.s.top) (S.s.left) (S.s.bottom) (S.s.right) (S.s.back) hG ig (by apply⟨im.1.1,⟨im.1.2.1,im.1.2.2⟩⟩) (by apply⟨id.1.2,⟨(af [_] [] 131632 33 133680 id.2.1),id.2.2⟩⟩) hn) fun p3 D4 G5 g1 k2=> ?_
  refine' ax 2 .none (hp (bu S (ay S.s.grid S.s.top S.s.bottom S.s.left S.s.right S.s.back true)) D4 G5) (vm.mk ‹_› rfl ‹_›)
 ·refine' use ?_
  refine' aj 4 (iY P (d+7) S D G) ?_
  refine' zm 2 (xX P d (S.s.top) (S.s.left) (S.s.bottom) (S.s.right) (S.s.back) hG ig (by apply⟨im.1.1,⟨im.1.2.1,im.1.2.2⟩⟩) (by apply⟨id.1.2,id.2.2⟩) (by apply⟨im.2.1,⟨im.2.2.1,im.2.2.2⟩⟩) hn) fun p8 D9 G10 g6 k7=> ?_
  refine' ax 2 .none (hp (bu S (ay S.s.grid S.s.top S.s.bottom S.s.left S.s.right S.s.back true)) D9 G10) (vm.mk ‹_› rfl ‹_›)
theorem ya(d:Nat)(hG:aE G D S F)(I:Inv S.s):Ca (CO P (d+9)) 1065 [.loc 0,.int 1] (hp S D G) (Sx .none (bu S (ay S.s.grid S.s.top S.s.bottom S.s.left S.s.right S.s.back false)) F):=by
 have ig:=I.gi
 have id:=I.dim
 have im:=I.mar
 have ic:=I.cur
 by_cases hn:S.s.left=0∧S.s.right=S.s.C- 1
 ·refine' use ?_
  refine' aj 4 (iY P (d+7) S D G) ?_
  refine' aU 2 (vi P d (S.s.top) (S.s.left) (S.s.bottom) (S.s.right) (S.s.back) hG ig (by apply⟨im.1.1,⟨im.1.2.1,im.1.2.2⟩⟩) (by apply⟨id.1.2,⟨(af [_] [] 131632 33 133680 id.2.1),id.2.2⟩⟩) hn) fun D12 G13 g11=> ?_
  refine' bc ((bu S (ay S.s.grid S.s.top S.s.bottom S.s.left S.s.right S.s.back false)).s.top=0) (fun c14=> ?_) (fun c14=> ?_)
  ·refine' ak 3 c14 ?_
   refine' ak 2 (A:=(bu S (ay S.s.grid S.s.top S.s.bottom S.s.left S.s.right S.s.back false)).s.left=0) (by(dsimp only;apply hn.1)) ?_
   refine' ax 2 .none (hp (bu S (ay S.s.grid S.s.top S.s.bottom S.s.left S.s.right S.s.back false)) D12 G13) (Sx.mk ‹_› rfl)
  ·refine' am 3 c14 ?_
   refine' ax 1 .none (hp (bu S (ay S.s.grid S.s.top S.s.bottom S.s.left S.s.right S.s.back false)) D12 G13) (Sx.mk ‹_› rfl)
 ·refine' use ?_
  refine' aj 4 (iY P (d+7) S D G) ?_
  refine' bn 2 (xZ P d (S.s.top) (S.s.left) (S.s.bottom) (S.s.right) (S.s.back) hG ig (by apply⟨im.1.1,⟨im.1.2.1,im.1.2.2⟩⟩) (by apply⟨id.1.2,id.2.2⟩) (by apply⟨im.2.1,⟨im.2.2.1,im.2.2.2⟩⟩) hn) fun D17 G18 g15 k16=> ?_
  refine' bc ((bu S (ay S.s.grid S.s.top S.s.bottom S.s.left S.s.right S.s.back false)).s.top=0) (fun c19=> ?_) (fun c19=> ?_)
  ·refine' ak 3 c19 ?_
   refine' bc ((bu S (ay S.s.grid S.s.top S.s.bottom S.s.left S.s.right S.s.back false)).s.left=0) (fun c20=> ?_) (fun c20=> ?_)
   ·refine' ak 2 c20 ?_
    refine' ax 2 .none (hp (bu S (ay S.s.grid S.s.top S.s.bottom S.s.left S.s.right S.s.back false)) D17 G18) (Sx.mk ‹_› rfl)
   ·refine' am 2 c20 ?_
    refine' ax 0 .none (hp (bu S (ay S.s.grid S.s.top S.s.bottom S.s.left S.s.right S.s.back false)) D17 G18) (Sx.mk ‹_› rfl)
  ·refine' am 3 c19 ?_
   refine' ax 1 .none (hp (bu S (ay S.s.grid S.s.top S.s.bottom S.s.left S.s.right S.s.back false)) D17 G18) (Sx.mk ‹_› rfl)
theorem fo(d:Nat)(hG:aE G D S F)(I:GI S.s.R S.s.C S.s.grid)(h:0≤S.s.row∧S.s.row<S.s.R)(h2:0≤S.s.col∧S.s.col<S.s.C):Ca (CO P (d+3)) 1086 [.loc 0] (hp S D G) (bU .none (hp S D G)):=by
 refine' use ?_
 refine' aj 5 (iq P d (S.s.row) hG I h) ?_
 refine' aY 0 (fg (hp S D G) (0) (S.s.C- 1) (by apply aq [_,_] [] 0x23404030 1057 147504 4241 h2.1 h2.2)) ?_
 refine' aY 0 (ey (hp S D G) (S.s.col) (S.s.C- 1) (by apply af [_,_] [] 0x11a4280 33 4737 h2.2)) ?_
 refine' ax 2 .none (hp S D G) (⟨rfl,rfl⟩)
noncomputable abbrev aB(S:Sn)(v:Vt):Sn:={S with s:=v}
theorem qN(d:Nat)(hG:aE G D S F)(I:Inv S.s):Ca (CO P (d+10)) 1072 [.loc 0] (hp S D G) (vm .none (aB S (feedD S.s)) F (bA D S.s.row).i):=by
 have ig:=I.gi
 have id:=I.dim
 have im:=I.mar
 have ic:=I.cur
 have I1:Inv {S.s with waits:=false}:=⟨id,im,ic,ig⟩
 have ig2:GI S.s.R S.s.C (ay S.s.grid S.s.top S.s.bottom S.s.left S.s.right S.s.back true):=bX ig (by apply⟨⟨im.1.1,im.1.2.2⟩,⟨im.2.1,⟨(af [_,_] [] 4736 33 4737 im.2.2.1),im.2.2.2⟩⟩⟩)
 refine' use ?_
 refine' bc (S.s.row=S.s.bottom) (fun c1=> ?_) (fun c1=> ?_)
 ·refine' ak 6 c1 ?_
  refine' aj 1 (lH P (d+8) ({S with s:={S.s with waits:=false}}:Sn) D G) ?_
  refine' bc (S.s.left≤S.s.col∧S.s.col≤S.s.right) (fun c2=> ?_) (fun c2=> ?_)
  ·refine' ak 0 c2 ?_
   refine' vo 1 (x9 P (S:=({S with s:={S.s with waits:=false}}:Sn)) d hG I1) fun D5 G6 g3 k4=> ?_
   refine' aj 1 (fo P (S:=({S with s:={S.s with waits:=false,grid:=ay S.s.grid S.s.top S.s.bottom S.s.left S.s.right S.s.back true}}:Sn)) (d+6) g3 ig2 (by apply ic.1) (by apply ic.2)) ?_
   refine' ax 0 .none (hp ({S with s:={S.s with waits:=false,grid:=ay S.s.grid S.s.top S.s.bottom S.s.left S.s.right S.s.back true}}:Sn) D5 G6) (vm.mk ‹_› (by unfold feedD;dsimp only at*;rw[if_pos c1,if_pos c2]) (by first|exact mJ hG ig ic.1|(rw[‹S.s.row=S.s.bottom›];assumption)))
  ·refine' am 0 c2 ?_
   refine' aj 1 (fo P (S:=({S with s:={S.s with waits:=false}}:Sn)) (d+6) hG ig (by apply ic.1) (by apply ic.2)) ?_
   refine' ax 0 .none (hp ({S with s:={S.s with waits:=false}}:Sn) D G) (vm.mk ‹_› (by unfold feedD;dsimp only at*;rw[if_pos c1,if_neg c2]) (by first|exact mJ hG ig ic.1|(rw[‹S.s.row=S.s.bottom›];assumption)))
 ·refine' am 6 c1 ?_
  refine' bc (S.s.row<S.s.R- 1) (fun c7=> ?_) (fun c7=> ?_)
  ·refine' ak 3 c7 ?_
   refine' aj 5 (fo P (S:=({S with s:={S.s with row:=S.s.row+1,waits:=false}}:Sn)) (d+6) hG ig (by apply⟨(af [_] [] 0x23400030 33 131120 ic.1.1),(af [_,_] [] 0x908d001 33 0x11a4281 c7)⟩) (by apply ic.2)) ?_
   refine' ax 0 .none (hp ({S with s:={S.s with row:=S.s.row+1,waits:=false}}:Sn) D G) (vm.mk ‹_› (by unfold feedD;dsimp only at*;rw[if_neg c1,if_pos c7]) (by first|exact mJ hG ig ic.1|(rw[‹S.s.row=S.s.bottom›];assumption)))
  ·refine' am 3 c7 ?_
   refine' aj 1 (fo P (S:=({S with s:={S.s with waits:=false}}:Sn)) (d+6) hG ig (by apply ic.1) (by apply ic.2)) ?_
   refine' ax 0 .none (hp ({S with s:={S.s with waits:=false}}:Sn) D G) (vm.mk ‹_› (by unfold feedD;dsimp only at*;rw[if_neg c1,if_neg c7]) (by first|exact mJ hG ig ic.1|(rw[‹S.s.row=S.s.bottom›];assumption)))
theorem vp(d:Nat)(hG:aE G D S F)(I:Inv S.s):Ca (CO P (d+10)) 1079 [.loc 0] (hp S D G) (Sx .none (aB S (feedU S.s)) F):=by
 have ig:=I.gi
 have id:=I.dim
 have im:=I.mar
 have ic:=I.cur
 have I1:Inv {S.s with waits:=false}:=⟨id,im,ic,ig⟩
 have ig2:GI S.s.R S.s.C (ay S.s.grid S.s.top S.s.bottom S.s.left S.s.right S.s.back false):=bX ig (by apply⟨⟨im.1.1,im.1.2.2⟩,⟨im.2.1,⟨(af [_,_] [] 4736 33 4737 im.2.2.1),im.2.2.2⟩⟩⟩)
 refine' use ?_
 refine' bc (S.s.row=S.s.top) (fun c8=> ?_) (fun c8=> ?_)
 ·refine' ak 6 c8 ?_
  refine' aj 1 (lH P (d+8) ({S with s:={S.s with waits:=false}}:Sn) D G) ?_
  refine' bc (S.s.left≤S.s.col∧S.s.col≤S.s.right) (fun c9=> ?_) (fun c9=> ?_)
  ·refine' ak 0 c9 ?_
   refine' aU 1 (ya P (S:=({S with s:={S.s with waits:=false}}:Sn)) d hG I1) fun D11 G12 g10=> ?_
   refine' aj 1 (fo P (S:=({S with s:={S.s with waits:=false,grid:=ay S.s.grid S.s.top S.s.bottom S.s.left S.s.right S.s.back false}}:Sn)) (d+6) g10 ig2 (by apply ic.1) (by apply ic.2)) ?_
   refine' ax 0 .none (hp ({S with s:={S.s with waits:=false,grid:=ay S.s.grid S.s.top S.s.bottom S.s.left S.s.right S.s.back false}}:Sn) D11 G12) (Sx.mk ‹_› (by unfold feedU;dsimp only at*;rw[if_pos c8,if_pos c9]))
  ·refine' am 0 c9 ?_
   refine' aj 1 (fo P (S:=({S with s:={S.s with waits:=false}}:Sn)) (d+6) hG ig (by apply ic.1) (by apply ic.2)) ?_
   refine' ax 0 .none (hp ({S with s:={S.s with waits:=false}}:Sn) D G) (Sx.mk ‹_› (by unfold feedU;dsimp only at*;rw[if_pos c8,if_neg c9]))
 ·refine' am 6 c8 ?_
  refine' bc (0<S.s.row) (fun c13=> ?_) (fun c13=> ?_)
  ·refine' ak 2 c13 ?_
   refine' aj 5 (fo P (S:=({S with s:={S.s with row:=S.s.row- 1,waits:=false}}:Sn)) (d+6) hG ig (by apply⟨(af [_] [] 0x23404030 33 131121 c13),(af [_,_] [] 0x908d011 33 4737 ic.1.2)⟩) (by apply ic.2)) ?_
   refine' ax 0 .none (hp ({S with s:={S.s with row:=S.s.row- 1,waits:=false}}:Sn) D G) (Sx.mk ‹_› (by unfold feedU;dsimp only at*;rw[if_neg c8,if_pos c13]))
  ·refine' am 2 c13 ?_
   refine' aj 1 (fo P (S:=({S with s:={S.s with waits:=false}}:Sn)) (d+6) hG ig (by apply ic.1) (by apply ic.2)) ?_
   refine' ax 0 .none (hp ({S with s:={S.s with waits:=false}}:Sn) D G) (Sx.mk ‹_› (by unfold feedU;dsimp only at*;rw[if_neg c8,if_neg c13]))
theorem fu(d:Nat)(c w:Int)(hG:aE G D S F)(I:Inv S.s):Ca (CO P (d+4)) 1037 [.loc 0,.int c,.int w] (hp S D G) (Sx .none (aB S (eI S.s c w)) F):=by
 have ig:=I.gi
 have id:=I.dim
 have im:=I.mar
 have ic:=I.cur
 refine' use ?_
 refine' aj 1 (bb P d hG ig (by apply ic.1) (by apply⟨(af [_] [] 131121 33 133680 id.2.1),im.2.2.2⟩)) ?_
 refine' bc (aa S.s<c+w) (fun c14=> ?_) (fun c14=> ?_)
 ·refine' ak 0 c14 ?_
  refine' ax 4 .none (hp ({S with s:={S.s with col:=aa S.s,waits:=true}}:Sn) D G) (Sx.mk ‹_› (by unfold eI;dsimp only at*;rw[if_pos c14]))
 ·refine' am 0 c14 ?_
  refine' ax 4 .none (hp ({S with s:={S.s with col:=c+w,waits:=false}}:Sn) D G) (Sx.mk ‹_› (by unfold eI;dsimp only at*;rw[if_neg c14]))
theorem vq(d:Nat)(hG:aE G D S F)(I:Inv S.s):Ca (CO P (d+2)) 1023 [.loc 0] (hp S D G) (bU (.bool false) (hp S D G)):=by
 have ig:=I.gi
 have id:=I.dim
 have im:=I.mar
 have ic:=I.cur
 have il:=dG I
 have ir:=aO I
 have il:=iD I
 have iz:aR S.s=S.s.left∨aR S.s=0:=by unfold aR;split<;>simp
 refine' use ?_
 refine' bc (S.s.col≤S.s.right) (fun c1=> ?_) (fun c1=> ?_)
 ·refine' ak 4 c1 ?_
  refine' aj 3 (cr P d S D G) ?_
  refine' ax 0 (MV.bool (decide (S.s.right- aR S.s<1))) (hp S D G) (⟨cA MV.bool (decide_eq_false (by omega)),rfl⟩)
 ·refine' am 4 c1 ?_
  refine' aj 2 (cr P d S D G) ?_
  refine' ax 0 (MV.bool (decide (S.s.C- 1- aR S.s<1))) (hp S D G) (⟨cA MV.bool (decide_eq_false (by apply aq [_,_,_] [] 0x8d211a0213 1057 4257 5265 ir.2.1 ir.2.2.2)),rfl⟩)
theorem qO(d:Nat)(r c:Int)(hG:aE G D S F)(I:GI S.s.R S.s.C S.s.grid)(h:0≤r∧r<S.s.R)(h2:0≤c∧c<S.s.C):Ca (CO P (d+4)) 988 [.loc 0,.int r,.int c] (hp S D G) (Sx .none (aB S {S.s with row:=r,col:=c,waits:=false}) F):=by
 refine' use ?_
 refine' aj 1 (cT P (d+2) (hp S D G) r (0) (S.s.R- 1) (by apply⟨h.1,(af [_,_] [] 0x11a4280 33 4737 h.2)⟩)) ?_
 refine' aj 5 (iq P (d+1) (S:=({S with s:={S.s with row:=r}}:Sn)) r hG I h) ?_
 refine' aY 0 (fg (hp ({S with s:={S.s with row:=r}}:Sn) D G) (0) (S.s.C- 1) (by apply aq [_,_] [] 0x23404030 1057 147504 4241 h2.1 h2.2)) ?_
 refine' aj 0 (cT P (d+2) (hp ({S with s:={S.s with row:=r}}:Sn) D G) c (0) (S.s.C- 1) (by apply⟨h2.1,(af [_,_] [] 0x11a4280 33 4737 h2.2)⟩)) ?_
 refine' ax 4 .none (hp ({S with s:={S.s with row:=r,col:=c,waits:=false}}:Sn) D G) (Sx.mk ‹_› rfl)
theorem vr(d:Nat)(hG:aE G D S F)(I:GI S.s.R S.s.C S.s.grid)(h:0<S.s.R)(h2:0<S.s.C):Ca (CO P (d+5)) 1144 [.loc 0] (hp S D G) (Sx .none (aB S {S.s with row:=0,col:=0,waits:=false}) F):=by
 refine' use ?_
 refine' aU 4 (qO P d (0) (0) hG I (by apply⟨(aV [] [] 49200 1),h⟩) (by apply⟨(aV [] [] 49200 1),h2⟩)) fun D3 G4 g2=> ?_
 refine' ax 0 .none (hp ({S with s:={S.s with row:=0,col:=0,waits:=false}}:Sn) D3 G4) (Sx.mk ‹_› rfl)
theorem mK(d:Nat)(hG:aE G D S F)(I:Inv S.s):Ca (CO P (d+11)) 1044 [.loc 0] (hp S D G) (Sx .none (aB S (ae S.s)) F):=by
 have ig:=I.gi
 have id:=I.dim
 have im:=I.mar
 have ic:=I.cur
 have il:=dG I
 have J:=i0 I
 have jg:=J.gi
 have jd:=J.dim
 have jm:=J.mar
 have jc:=J.cur
 have je:=cR S.s
 refine' use ?_
 refine' aj 1 (br P (d+8) hG ig (by apply ic.1)) ?_
 refine' aj 3 (cr P (d+9) S D G) ?_
 refine' vo 1 (qN P d hG I) fun D7 G8 g5 k6=> ?_
 refine' aj 3 (fo P (S:=({S with s:={feedD S.s with col:=aR S.s}}:Sn)) (d+7) g5 jg (by apply jc.1) (by apply⟨il.1,(aq [_,_,_] [] 4737 15393 5249 5266 il.2.1 je.2.1)⟩)) ?_
 refine' bc ((feedD S.s).left=0) (fun c9=> ?_) (fun c9=> ?_)
 ·refine' ak 2 c9 ?_
  refine' bc ((feedD S.s).right=(feedD S.s).C- 1) (fun c10=> ?_) (fun c10=> ?_)
  ·refine' ak 3 c10 ?_
   refine' bc ((feedD S.s).row≠S.s.row) (fun c11=> ?_) (fun c11=> ?_)
   ·refine' ak 2 c11 ?_
    refine' zn 0 (vn (S:=({S with s:={feedD S.s with col:=aR S.s}}:Sn)) P true g5 jg k6) fun D13 G14 g12=> ?_
    refine' ax 0 .none (hp ({S with s:={feedD S.s with col:=aR S.s}}:Sn) D13 G14) (Sx.mk ‹_› rfl)
   ·refine' am 2 c11 ?_
    refine' bc (S.s.row=(feedD S.s).bottom) (fun c15=> ?_) (fun c15=> ?_)
    ·refine' ak 2 c15 ?_
     refine' zn 0 (vn (S:=({S with s:={feedD S.s with col:=aR S.s}}:Sn)) P true g5 jg k6) fun D17 G18 g16=> ?_
     refine' ax 0 .none (hp ({S with s:={feedD S.s with col:=aR S.s}}:Sn) D17 G18) (Sx.mk ‹_› rfl)
    ·refine' am 2 c15 ?_
     refine' ax 0 .none (hp ({S with s:={feedD S.s with col:=aR S.s}}:Sn) D7 G8) (Sx.mk ‹_› rfl)
  ·refine' am 3 c10 ?_
   refine' ax 0 .none (hp ({S with s:={feedD S.s with col:=aR S.s}}:Sn) D7 G8) (Sx.mk ‹_› rfl)
 ·refine' am 2 c9 ?_
  refine' ax 1 .none (hp ({S with s:={feedD S.s with col:=aR S.s}}:Sn) D7 G8) (Sx.mk ‹_› rfl)
theorem vt(d:Nat)(t b:Int)(hG:aE G D S F)(h:0≤t∧t<b∧b<S.s.R):Ca (CO P (d+1)) 384 [.loc 4,.int t,.int b] (hp S D G) (Sx (.bool true) (aB S {S.s with top:=t,bottom:=b}) F):=by
 have h1:0≤t:=h.1
 have h2:t<b:=h.2.1
 have h3:b<S.s.R:=h.2.2
 refine' use ?_
 refine' ak 0 (A:=0≤t) h1 ?_
 refine' ak 0 (A:=t<b) h2 ?_
 refine' ak 1 (A:=b<S.s.R) h3 ?_
 refine' ax 3 (MV.bool true) (hp ({S with s:={S.s with top:=t,bottom:=b}}:Sn) D G) (Sx.mk ‹_› rfl)
theorem vv(d:Nat)(t b:Int)(hG:aE G D S F)(h:0≤t∧t<b∧b<S.s.C):Ca (CO P (d+1)) 391 [.loc 4,.int t,.int b] (hp S D G) (Sx (.bool true) (aB S {S.s with left:=t,right:=b}) F):=by
 have h1:0≤t:=h.1
 have h2:t<b:=h.2.1
 have h3:b<S.s.C:=h.2.2
 refine' use ?_
 refine' ak 0 (A:=0≤t) h1 ?_
 refine' ak 0 (A:=t<b) h2 ?_
 refine' ak 1 (A:=b<S.s.C) h3 ?_
 refine' ax 3 (MV.bool true) (hp ({S with s:={S.s with left:=t,right:=b}}:Sn) D G) (Sx.mk ‹_› rfl)
theorem vx(d:Nat)(S:Sn)(D:Dn)(G:Hp)(t b:Int)(h:0≤t∧b≤t)(hR:2≤S.s.R):Ca (CO P (d+1)) 384 [.loc 4,.int t,.int b] (hp S D G) (bU (.bool false) (hp S D G)):=by
 have h1:0≤t:=h.1
 have h2: ¬t<b:=by apply af [_,_] [] 4739 33 4240 h.2
 refine' use ?_
 refine' ak 0 (A:=0≤t) h1 ?_
 refine' am 0 (A:=t<b) h2 ?_
 refine' bc (t=0) (fun c1=> ?_) (fun c1=> ?_)
 ·refine' ak 0 c1 ?_
  refine' am 1 (A:=b=S.s.R- 1) (by apply Int.ne_of_lt (a0 [_,_,_] [] 0x11a4281 558113 5248 148528 1698 h.2 hR c1)) ?_
  refine' ax 0 (MV.bool (decide (b=S.s.R- 1))) (hp S D G) (⟨cA MV.bool (by first|rfl|exact decide_eq_false (by apply Int.ne_of_lt (a0 [_,_,_] [] 0x11a4281 558113 5248 148528 1698 h.2 hR c1))),rfl⟩)
 ·refine' am 0 c1 ?_
  refine' ax 1 (MV.bool false) (hp S D G) (⟨cA MV.bool (by first|rfl|exact decide_eq_false (by omega)),rfl⟩)
theorem vy(d:Nat)(S:Sn)(D:Dn)(G:Hp)(t b:Int)(h:0≤t∧b≤t)(hR:2≤S.s.C):Ca (CO P (d+1)) 391 [.loc 4,.int t,.int b] (hp S D G) (bU (.bool false) (hp S D G)):=by
 have h1:0≤t:=h.1
 have h2: ¬t<b:=by apply af [_,_] [] 4739 33 4240 h.2
 refine' use ?_
 refine' ak 0 (A:=0≤t) h1 ?_
 refine' am 0 (A:=t<b) h2 ?_
 refine' bc (t=0) (fun c2=> ?_) (fun c2=> ?_)
 ·refine' ak 0 c2 ?_
  refine' am 1 (A:=b=S.s.C- 1) (by apply Int.ne_of_lt (a0 [_,_,_] [] 0x11a4281 558113 5248 148528 1698 h.2 hR c2)) ?_
  refine' ax 0 (MV.bool (decide (b=S.s.C- 1))) (hp S D G) (⟨cA MV.bool (by first|rfl|exact decide_eq_false (by apply Int.ne_of_lt (a0 [_,_,_] [] 0x11a4281 558113 5248 148528 1698 h.2 hR c2))),rfl⟩)
 ·refine' am 0 c2 ?_
  refine' ax 1 (MV.bool false) (hp S D G) (⟨cA MV.bool (by first|rfl|exact decide_eq_false (by omega)),rfl⟩)
theorem vz(d:Nat)(t b:Int)(hG:aE G D S F)(I:GI S.s.R S.s.C S.s.grid)(h:0≤t∧t<b∧b<S.s.R)(hC:0<S.s.C):Ca (CO P (d+6)) 1151 [.loc 0,.int t,.int b] (hp S D G) (Sx (.bool true) (aB S {S.s with top:=t,bottom:=b,row:=0,col:=0,waits:=false}) F):=by
 refine' use ?_
 refine' aU 2 (vt P (d+4) t b hG h) fun D2 G3 g1=> ?_
 refine' aU 2 (vr P (S:=({S with s:={S.s with top:=t,bottom:=b}}:Sn)) d g1 I (by apply a0 [_,_,_] [] 131121 33825 147504 5265 4257 h.1 h.2.1 h.2.2) hC) fun D5 G6 g4=> ?_
 refine' ax 0 (MV.bool true) (hp ({S with s:={S.s with row:=0,col:=0,waits:=false,top:=t,bottom:=b}}:Sn) D5 G6) (Sx.mk ‹_› rfl)
theorem vA(d:Nat)(t b:Int)(hG:aE G D S F)(I:GI S.s.R S.s.C S.s.grid)(h:0≤t∧t<b∧b<S.s.C)(hR:0<S.s.R):Ca (CO P (d+6)) 1158 [.loc 0,.int t,.int b] (hp S D G) (Sx (.bool true) (aB S {S.s with left:=t,right:=b,row:=0,col:=0,waits:=false}) F):=by
 refine' use ?_
 refine' aj 2 (kH P (d+4) S D G) ?_
 refine' aU 3 (vv P (d+4) t b hG h) fun D8 G9 g7=> ?_
 refine' aU 2 (vr P (S:=({S with s:={S.s with left:=t,right:=b}}:Sn)) d g7 I hR (by apply a0 [_,_,_] [] 131121 33825 147504 5265 4257 h.1 h.2.1 h.2.2)) fun D11 G12 g10=> ?_
 refine' ax 0 (MV.bool true) (hp ({S with s:={S.s with row:=0,col:=0,waits:=false,left:=t,right:=b}}:Sn) D11 G12) (Sx.mk ‹_› rfl)
theorem vB(d:Nat)(S:Sn)(D:Dn)(G:Hp)(t b:Int)(h:0≤t∧b≤t)(hR:2≤S.s.R):Ca (CO P (d+6)) 1151 [.loc 0,.int t,.int b] (hp S D G) (bU (.bool false) (hp S D G)):=by
 refine' use ?_
 refine' aj 2 (vx P (d+4) S D G t b h hR) ?_
 refine' ax 1 (MV.bool false) (hp S D G) (⟨rfl,rfl⟩)
theorem vC(d:Nat)(S:Sn)(D:Dn)(G:Hp)(t b:Int)(h:0≤t∧b≤t)(hR:2≤S.s.C):Ca (CO P (d+6)) 1158 [.loc 0,.int t,.int b] (hp S D G) (bU (.bool false) (hp S D G)):=by
 refine' use ?_
 refine' aj 2 (kH P (d+4) S D G) ?_
 refine' aj 3 (vy P (d+4) S D G t b h hR) ?_
 refine' ax 1 (MV.bool false) (hp S D G) (⟨rfl,rfl⟩)
end
section
variable{v:Vt}
theorem jN(h:(v.near=true∨v.far=true)∧v.aw=true)(hw:v.waits=true):cv v={v with waits:=false}:=by unfold cv;rw[if_pos ⟨h,hw⟩]
theorem dB(h: ¬(((v.near=true∨v.far=true)∧v.aw=true)∧v.waits=true))(hl:aR v<v.col):cv v={v with col:=v.col- 1,waits:=false}:=by unfold cv;rw[if_neg h,if_pos hl]
theorem gm(h: ¬((v.near=true∨v.far=true)∧v.aw=true))(hl: ¬aR v<v.col):cv v={v with waits:=false}:=by unfold cv;rw[if_neg (fun q=>h q.1),if_neg hl,if_neg h]
theorem nU(I:Inv v)(hl: ¬aR v<v.col):aa v=v.right:=by
 have m:=I.mar.2
 exact if_pos (Int.le_trans (Int.not_lt.mp hl) (Int.le_of_lt (iD I)))
theorem nB{b:Bool}(h:b=false): ¬b=true:=fun q=>Bool.false_ne_true (h.symm.trans q)
theorem kQ(h:(v.near=true∨v.far=true)∧v.aw=true)(hw: ¬v.waits=true)(hl: ¬aR v<v.col)(hr:v.row≠v.top∧0<v.row):cv v={v with row:=v.row- 1,col:=v.right,waits:=false}:=by
 unfold cv;rw[if_neg (fun q=>hw q.2),if_neg hl,if_pos h,if_pos hr]
theorem kR(h:(v.near=true∨v.far=true)∧v.aw=true)(hw: ¬v.waits=true)(hl: ¬aR v<v.col)(hr:v.row=v.top)(hf:v.far=true):cv v={v with row:=v.bottom,col:=v.right,waits:=false}:=by
 unfold cv;rw[if_neg (fun q=>hw q.2),if_neg hl,if_pos h,if_neg (fun q=>q.1 hr),if_pos ⟨hr,hf⟩]
theorem jO(I:Inv v)(h:(v.near=true∨v.far=true)∧v.aw=true)(hw: ¬v.waits=true)(hl: ¬aR v<v.col)(hr:v.row≠v.top∧0<v.row):cv v={v with row:=v.row- 1,col:=aa v,waits:=false}:=by
 rw[nU I hl,kQ h hw hl hr]
theorem yb(I:Inv v)(h:(v.near=true∨v.far=true)∧v.aw=true)(hw: ¬v.waits=true)(hl: ¬aR v<v.col)(hr:v.row=v.top)(hf:v.far=true):cv v={v with row:=v.bottom,col:=aa v,waits:=false}:=by
 rw[nU I hl,kR h hw hl hr hf]
theorem iE(h:(v.near=true∨v.far=true)∧v.aw=true)(hw: ¬v.waits=true)(hl: ¬aR v<v.col)(hr: ¬(v.row≠v.top∧0<v.row))(hf: ¬(v.row=v.top∧v.far=true)):cv v={v with waits:=false}:=by
 unfold cv;rw[if_neg (fun q=>hw q.2),if_neg hl,if_pos h,if_neg hr,if_neg hf]
end
section
variable(P:Cw){d:Nat}{S:Sn}{D:Dn}{G:Hp}{F:As}
theorem pe(d:Nat)(hG:aE G D S F)(I:Inv S.s)(hf: ¬(S.s.far=true∧S.s.row=0∧0<S.s.top)):Ca (CO P (d+4)) 1107 [.loc 0] (hp S D G) (Sx .none (aB S (cv S.s)) F):=by
 have ig:=I.gi
 have id:=I.dim
 have im:=I.mar
 have ic:=I.cur
 refine' use ?_
 refine' aj 2 (u8 P (d+2) S D G) ?_
 refine' fz (S.s.far) (fun c1=> ?_) (fun c1=> ?_)
 ·refine' aD 0 c1 ?_
  refine' aj 2 (bh P (d+2) S D G) ?_
  refine' fz (S.s.aw) (fun c2=> ?_) (fun c2=> ?_)
  ·refine' aD 4 c2 ?_
   refine' fz (S.s.waits) (fun c3=> ?_) (fun c3=> ?_)
   ·refine' aD 0 c3 ?_
    refine' ax 0 (MV.none) (hp ({S with s:={S.s with waits:=false}}:Sn) D G) (Sx.mk ‹_› (cA (aB S) (jN ⟨.inr c1,c2⟩ c3)).symm)
   ·refine' aD 0 c3 ?_
    refine' aj 3 (cr P (d+2) ({S with s:={S.s with waits:=false}}:Sn) D G) ?_
    refine' bc (aR S.s<S.s.col) (fun c4=> ?_) (fun c4=> ?_)
    ·refine' ak 0 c4 ?_
     refine' ax 4 .none (hp ({S with s:={S.s with col:=S.s.col- 1,waits:=false}}:Sn) D G) (Sx.mk ‹_› (cA (aB S) (dB (mt And.right (nB c3)) c4)).symm)
    ·refine' am 0 c4 ?_
     refine' aD 0 c2 ?_
     refine' bc (S.s.top≤S.s.row) (fun c5=> ?_) (fun c5=> ?_)
     ·refine' ak 4 c5 ?_
      refine' bc (S.s.top<S.s.row) (fun c6=> ?_) (fun c6=> ?_)
      ·refine' ak 4 c6 ?_
       refine' ak 2 (A:=S.s.top=S.s.top) (by apply aV [_] [] 4226 33) ?_
       refine' ak 4 (A:=S.s.top<S.s.row) c6 ?_
       refine' aj 5 (bb P d (S:=({S with s:={S.s with row:=S.s.row- 1,waits:=false}}:Sn)) hG ig (by apply⟨(aq [_,_] [] 0x23404030 1057 147504 4241 im.1.1 c6),(af [_,_] [] 0x908d011 33 4737 ic.1.2)⟩) (by apply⟨(af [_] [] 131121 33 133680 id.2.1),im.2.2.2⟩)) ?_
       refine' ax 2 .none (hp ({S with s:={S.s with row:=S.s.row- 1,col:=aa S.s,waits:=false}}:Sn) D G) (Sx.mk ‹_› (cA (aB S) (jO I ⟨.inr c1,c2⟩ (nB c3) c4 ⟨by apply Ne.symm (Int.ne_of_lt c6),by apply aq [_,_] [] 131121 1057 147504 4241 im.1.1 c6⟩)).symm)
      ·refine' am 4 c6 ?_
       refine' aD 0 c1 ?_
       refine' ak 2 (A:=S.s.top=S.s.top) (by apply aV [_] [] 4226 33) ?_
       refine' am 4 (A:=S.s.top<S.s.row) c6 ?_
       refine' aj 3 (bb P d (S:=({S with s:={S.s with row:=S.s.bottom,waits:=false}}:Sn)) hG ig (by apply⟨(aq [_,_] [] 131120 1057 147504 4241 im.1.1 im.1.2.1),im.1.2.2⟩) (by apply⟨(af [_] [] 131121 33 133680 id.2.1),im.2.2.2⟩)) ?_
       refine' ax 2 .none (hp ({S with s:={S.s with row:=S.s.bottom,col:=aa S.s,waits:=false}}:Sn) D G) (Sx.mk ‹_› (cA (aB S) (yb I ⟨.inr c1,c2⟩ (nB c3) c4 (by apply aq [_,_] [] 4738 0x108401 4240 4243 c5 c6) c1)).symm)
     ·refine' am 4 c5 ?_
      refine' bc (0<S.s.row) (fun c7=> ?_) (fun c7=> ?_)
      ·refine' ak 2 c7 ?_
       refine' am 2 (A:=0=S.s.top) (by apply Int.ne_of_lt (aq [_,_] [] 131121 1057 4740 147505 c5 c7)) ?_
       refine' ak 3 (A:=0<S.s.row) c7 ?_
       refine' aj 5 (bb P d (S:=({S with s:={S.s with row:=S.s.row- 1,waits:=false}}:Sn)) hG ig (by apply⟨(af [_] [] 0x23404030 33 131121 c7),(a0 [_,_,_,_] [] 0x908d011 33825 5793 4785 4260 im.1.2.1 im.1.2.2 c5)⟩) (by apply⟨(af [_] [] 131121 33 133680 id.2.1),im.2.2.2⟩)) ?_
       refine' ax 2 .none (hp ({S with s:={S.s with row:=S.s.row- 1,col:=aa S.s,waits:=false}}:Sn) D G) (Sx.mk ‹_› (cA (aB S) (jO I ⟨.inr c1,c2⟩ (nB c3) c4 ⟨by apply Int.ne_of_lt (af [_,_] [] 4737 33 4244 c5),by apply c7⟩)).symm)
      ·refine' am 2 c7 ?_
       refine' aD 0 c1 ?_
       refine' am 2 (A:=0=S.s.top) (by apply Int.ne_of_lt (aq [_,_] [] 131121 1057 147504 4740 ic.1.1 c5)) ?_
       refine' am 3 (A:=0<S.s.row) c7 ?_
       refine' aj 3 (bb P d (S:=({S with s:={S.s with row:=S.s.R- 1,waits:=false}}:Sn)) hG ig (by apply⟨(af [_] [] 0x23404030 33 132656 id.1.1),(aV [_] [] 0x808d011 1)⟩) (by apply⟨(af [_] [] 131121 33 133680 id.2.1),im.2.2.2⟩)) ?_
       refine' ax 2 .none (hp ({S with s:={S.s with row:=S.s.R- 1,col:=aa S.s,waits:=false}}:Sn) D G) (absurd ⟨c1,by apply aq [_] [] 1666 0x108401 131120 131123 ic.1.1 c7,by apply aq [_,_] [] 131121 1057 147504 4740 ic.1.1 c5⟩ hf)
  ·refine' aD 4 c2 ?_
   refine' aj 3 (cr P (d+2) ({S with s:={S.s with waits:=false}}:Sn) D G) ?_
   refine' bc (aR S.s<S.s.col) (fun c8=> ?_) (fun c8=> ?_)
   ·refine' ak 0 c8 ?_
    refine' ax 4 .none (hp ({S with s:={S.s with col:=S.s.col- 1,waits:=false}}:Sn) D G) (Sx.mk ‹_› (cA (aB S) (dB (mt (fun q=>q.1.2) (nB c2)) c8)).symm)
   ·refine' am 0 c8 ?_
    refine' aD 0 c2 ?_
    refine' ax 0 .none (hp ({S with s:={S.s with waits:=false}}:Sn) D G) (Sx.mk ‹_› (cA (aB S) (gm (mt And.right (nB c2)) c8)).symm)
 ·refine' aD 0 c1 ?_
  refine' aj 2 (sj P (d+2) S D G) ?_
  refine' fz (S.s.near) (fun c9=> ?_) (fun c9=> ?_)
  ·refine' aD 0 c9 ?_
   refine' aj 2 (bh P (d+2) S D G) ?_
   refine' fz (S.s.aw) (fun c10=> ?_) (fun c10=> ?_)
   ·refine' aD 4 c10 ?_
    refine' fz (S.s.waits) (fun c11=> ?_) (fun c11=> ?_)
    ·refine' aD 0 c11 ?_
     refine' ax 0 (MV.none) (hp ({S with s:={S.s with waits:=false}}:Sn) D G) (Sx.mk ‹_› (cA (aB S) (jN ⟨.inl c9,c10⟩ c11)).symm)
    ·refine' aD 0 c11 ?_
     refine' aj 3 (cr P (d+2) ({S with s:={S.s with waits:=false}}:Sn) D G) ?_
     refine' bc (aR S.s<S.s.col) (fun c12=> ?_) (fun c12=> ?_)
     ·refine' ak 0 c12 ?_
      refine' ax 4 .none (hp ({S with s:={S.s with col:=S.s.col- 1,waits:=false}}:Sn) D G) (Sx.mk ‹_› (cA (aB S) (dB (mt And.right (nB c11)) c12)).symm)
     ·refine' am 0 c12 ?_
      refine' aD 0 c10 ?_
      refine' bc (S.s.top≤S.s.row) (fun c13=> ?_) (fun c13=> ?_)
      ·refine' ak 4 c13 ?_
       refine' bc (S.s.top<S.s.row) (fun c14=> ?_) (fun c14=> ?_)
       ·refine' ak 4 c14 ?_
        refine' ak 2 (A:=S.s.top=S.s.top) (by apply aV [_] [] 4226 33) ?_
        refine' ak 4 (A:=S.s.top<S.s.row) c14 ?_
        refine' aj 5 (bb P d (S:=({S with s:={S.s with row:=S.s.row- 1,waits:=false}}:Sn)) hG ig (by apply⟨(aq [_,_] [] 0x23404030 1057 147504 4241 im.1.1 c14),(af [_,_] [] 0x908d011 33 4737 ic.1.2)⟩) (by apply⟨(af [_] [] 131121 33 133680 id.2.1),im.2.2.2⟩)) ?_
        refine' ax 2 .none (hp ({S with s:={S.s with row:=S.s.row- 1,col:=aa S.s,waits:=false}}:Sn) D G) (Sx.mk ‹_› (cA (aB S) (jO I ⟨.inl c9,c10⟩ (nB c11) c12 ⟨by apply Ne.symm (Int.ne_of_lt c14),by apply aq [_,_] [] 131121 1057 147504 4241 im.1.1 c14⟩)).symm)
       ·refine' am 4 c14 ?_
        refine' aD 0 c1 ?_
        refine' ax 0 .none (hp ({S with s:={S.s with waits:=false}}:Sn) D G) (Sx.mk ‹_› (cA (aB S) (iE ⟨.inl c9,c10⟩ (nB c11) c12 (mt And.left (not_not_intro (by apply aq [_,_] [] 4738 0x108401 4240 4243 c13 c14))) (mt And.right (nB c1)))).symm)
      ·refine' am 4 c13 ?_
       refine' bc (0<S.s.row) (fun c15=> ?_) (fun c15=> ?_)
       ·refine' ak 2 c15 ?_
        refine' am 2 (A:=0=S.s.top) (by apply Int.ne_of_lt (aq [_,_] [] 131121 1057 4740 147505 c13 c15)) ?_
        refine' ak 3 (A:=0<S.s.row) c15 ?_
        refine' aj 5 (bb P d (S:=({S with s:={S.s with row:=S.s.row- 1,waits:=false}}:Sn)) hG ig (by apply⟨(af [_] [] 0x23404030 33 131121 c15),(a0 [_,_,_,_] [] 0x908d011 33825 5793 4785 4260 im.1.2.1 im.1.2.2 c13)⟩) (by apply⟨(af [_] [] 131121 33 133680 id.2.1),im.2.2.2⟩)) ?_
        refine' ax 2 .none (hp ({S with s:={S.s with row:=S.s.row- 1,col:=aa S.s,waits:=false}}:Sn) D G) (Sx.mk ‹_› (cA (aB S) (jO I ⟨.inl c9,c10⟩ (nB c11) c12 ⟨by apply Int.ne_of_lt (af [_,_] [] 4737 33 4244 c13),by apply c15⟩)).symm)
       ·refine' am 2 c15 ?_
        refine' aD 0 c1 ?_
        refine' ax 0 .none (hp ({S with s:={S.s with waits:=false}}:Sn) D G) (Sx.mk ‹_› (cA (aB S) (iE ⟨.inl c9,c10⟩ (nB c11) c12 (mt And.right c15) (mt And.right (nB c1)))).symm)
   ·refine' aD 4 c10 ?_
    refine' aj 3 (cr P (d+2) ({S with s:={S.s with waits:=false}}:Sn) D G) ?_
    refine' bc (aR S.s<S.s.col) (fun c16=> ?_) (fun c16=> ?_)
    ·refine' ak 0 c16 ?_
     refine' ax 4 .none (hp ({S with s:={S.s with col:=S.s.col- 1,waits:=false}}:Sn) D G) (Sx.mk ‹_› (cA (aB S) (dB (mt (fun q=>q.1.2) (nB c10)) c16)).symm)
    ·refine' am 0 c16 ?_
     refine' aD 0 c10 ?_
     refine' ax 0 .none (hp ({S with s:={S.s with waits:=false}}:Sn) D G) (Sx.mk ‹_› (cA (aB S) (gm (mt And.right (nB c10)) c16)).symm)
  ·refine' aD 0 c9 ?_
   refine' aj 8 (cr P (d+2) ({S with s:={S.s with waits:=false}}:Sn) D G) ?_
   refine' bc (aR S.s<S.s.col) (fun c17=> ?_) (fun c17=> ?_)
   ·refine' ak 0 c17 ?_
    refine' ax 4 .none (hp ({S with s:={S.s with col:=S.s.col- 1,waits:=false}}:Sn) D G) (Sx.mk ‹_› (cA (aB S) (dB (mt (fun q=>q.1.1) (not_or.mpr ⟨nB c9,nB c1⟩)) c17)).symm)
   ·refine' am 0 c17 ?_
    refine' ax 1 .none (hp ({S with s:={S.s with waits:=false}}:Sn) D G) (Sx.mk ‹_› (cA (aB S) (gm (mt And.left (not_or.mpr ⟨nB c9,nB c1⟩)) c17)).symm)
end
noncomputable def bL(v:Vt)(on:Bool):Vt:={v with waits:=false,grid:=a6 v.grid (fun _ cs=>if on then ins cs v.left 1 v.right v.back else nh cs v.left v.right v.back) v.top.toNat (v.bottom+1).toNat}
noncomputable def aS(v:Vt)(fwd:Bool):Vt:=
 if v.col=(if fwd then v.right else v.left)∧(v.top≤v.row∧v.row≤v.bottom) then bL v !fwd
 else{v with col:=if fwd then min (v.C- 1) (v.col+1) else max 0 (v.col- 1),waits:=false}
section
variable(P:Cw){d:Nat}{S:Sn}{D:Dn}{G:Hp}{F:As}
theorem iF(d:Nat)(S:Sn)(D:Dn)(G:Hp):Ca (CO P (d+3)) 1207 [.loc 0] (hp S D G) (bU (.bool (decide ((S.s.top≤S.s.row∧S.s.row≤S.s.bottom)∧S.s.left≤S.s.col∧S.s.col≤S.s.right))) (hp S D G)):=by
 refine' use ?_
 refine' aj 6 (xP P d S D G (S.s.row) (S.s.col)) ?_
 refine' ax 0 (MV.bool (decide ((S.s.top≤S.s.row∧S.s.row≤S.s.bottom)∧S.s.left≤S.s.col∧S.s.col≤S.s.right))) (hp S D G) (⟨rfl,rfl⟩)
theorem Cv(d:Nat)(hG:aE G D S F)(I:Inv S.s)(h:(S.s.top≤S.s.row∧S.s.row≤S.s.bottom)∧S.s.left≤S.s.col∧S.s.col≤S.s.right):Ca (CO P (d+8)) 1214 [.loc 0,.int 1] (hp S D G) (Sx .none (aB S (bL S.s false)) F):=by
 have ig:=I.gi
 have id:=I.dim
 have im:=I.mar
 have ic:=I.cur
 refine' use ?_
 refine' aj 2 (iF P (d+4) ({S with s:={S.s with waits:=false}}:Sn) D G) ?_
 refine' ak 0 (A:=(S.s.top≤S.s.row∧S.s.row≤S.s.bottom)∧S.s.left≤S.s.col∧S.s.col≤S.s.right) h ?_
 refine' aj 6 (iY P (d+6) ({S with s:={S.s with waits:=false}}:Sn) D G) ?_
 refine' aY 0 (ey (hp ({S with s:={S.s with waits:=false}}:Sn) D G) (1) (1) (by apply aV [] [] 574000 1)) ?_
 refine' bn 2 (sn P d (S:=({S with s:={S.s with waits:=false}}:Sn)) (S.s.top) (S.s.left) (S.s.bottom) (S.s.right) (S.s.back) hG ig (by apply⟨im.1.1,⟨(af [_,_] [] 4736 33 4737 im.1.2.1),im.1.2.2⟩⟩) (by apply⟨id.1.2,id.2.2⟩) (by apply⟨im.2.1,⟨im.2.2.1,im.2.2.2⟩⟩)) fun D3 G4 g1 k2=> ?_
 refine' ax 0 .none (hp ({S with s:={S.s with waits:=false,grid:=a6 S.s.grid (fun x cs=>nh cs S.s.left S.s.right S.s.back) S.s.top.toNat (S.s.bottom+1).toNat}}:Sn) D3 G4) (Sx.mk ‹_› rfl)
theorem Cy(d:Nat)(hG:aE G D S F)(I:Inv S.s)(h:(S.s.top≤S.s.row∧S.s.row≤S.s.bottom)∧S.s.left≤S.s.col∧S.s.col≤S.s.right):Ca (CO P (d+8)) 1221 [.loc 0,.int 1] (hp S D G) (Sx .none (aB S (bL S.s true)) F):=by
 have ig:=I.gi
 have id:=I.dim
 have im:=I.mar
 have ic:=I.cur
 refine' use ?_
 refine' aj 2 (iF P (d+4) ({S with s:={S.s with waits:=false}}:Sn) D G) ?_
 refine' ak 0 (A:=(S.s.top≤S.s.row∧S.s.row≤S.s.bottom)∧S.s.left≤S.s.col∧S.s.col≤S.s.right) h ?_
 refine' aj 6 (iY P (d+6) ({S with s:={S.s with waits:=false}}:Sn) D G) ?_
 refine' aY 0 (ey (hp ({S with s:={S.s with waits:=false}}:Sn) D G) (1) (1) (by apply aV [] [] 574000 1)) ?_
 refine' bn 2 (sm P d (S:=({S with s:={S.s with waits:=false}}:Sn)) (S.s.top) (S.s.left) (S.s.bottom) (S.s.right) (S.s.back) hG ig (by apply⟨im.1.1,⟨(af [_,_] [] 4736 33 4737 im.1.2.1),im.1.2.2⟩⟩) (by apply⟨id.1.2,id.2.2⟩) (by apply⟨im.2.1,⟨im.2.2.1,im.2.2.2⟩⟩)) fun D7 G8 g5 k6=> ?_
 refine' ax 0 .none (hp ({S with s:={S.s with waits:=false,grid:=a6 S.s.grid (fun x cs=>ins cs S.s.left 1 S.s.right S.s.back) S.s.top.toNat (S.s.bottom+1).toNat}}:Sn) D7 G8) (Sx.mk ‹_› rfl)
end
section
theorem mM{v:Vt}(h:v.col=v.left∧(v.top≤v.row∧v.row≤v.bottom)):aS v false=bL v true:=by unfold aS;exact if_pos h
theorem mN{v:Vt}(h: ¬(v.col=v.left∧(v.top≤v.row∧v.row≤v.bottom))):aS v false={v with col:=max 0 (v.col- 1),waits:=false}:=by unfold aS;exact if_neg h
theorem mO{v:Vt}(h:v.col=v.right∧(v.top≤v.row∧v.row≤v.bottom)):aS v true=bL v false:=by unfold aS;exact if_pos h
theorem mQ{v:Vt}(h: ¬(v.col=v.right∧(v.top≤v.row∧v.row≤v.bottom))):aS v true={v with col:=min (v.C- 1) (v.col+1),waits:=false}:=by unfold aS;exact if_neg h
variable(P:Cw){d:Nat}{S:Sn}{D:Dn}{G:Hp}{F:As}
theorem AE(d:Nat)(hG:aE G D S F)(I:Inv S.s):Ca (CO P (d+9)) 1228 [.loc 0] (hp S D G) (Sx .none (aB S (aS S.s false)) F):=by
 have ig:=I.gi
 have id:=I.dim
 have im:=I.mar
 have ic:=I.cur
 refine' use ?_
 refine' bc (S.s.col=S.s.left) (fun c1=> ?_) (fun c1=> ?_)
 ·refine' ak 4 c1 ?_
  refine' aj 0 (iF P (d+5) S D G) ?_
  refine' bc ((S.s.top≤S.s.row∧S.s.row≤S.s.bottom)∧S.s.left≤S.s.col∧S.s.col≤S.s.right) (fun c2=> ?_) (fun c2=> ?_)
  ·refine' ak 0 c2 ?_
   refine' aU 0 (Cy P d hG I c2) fun D4 G5 g3=> ?_
   refine' ax 0 .none (hp ({S with s:=bL S.s true}:Sn) D4 G5) (Sx.mk ‹_› (cA (aB S) (mM (by apply⟨c1,⟨c2.1.1,c2.1.2⟩⟩)).symm))
  ·refine' am 0 c2 ?_
   refine' ax 5 .none (hp ({S with s:={S.s with col:=max 0 (S.s.col- 1),waits:=false}}:Sn) D G) (Sx.mk ‹_› (cA (aB S) (mN (mt (fun q=>⟨q.2,Int.le_of_eq q.1.symm,Int.le_trans (Int.le_of_eq q.1) (Int.le_of_lt im.2.2.1)⟩) c2)).symm))
 ·refine' am 4 c1 ?_
  refine' ax 5 .none (hp ({S with s:={S.s with col:=max 0 (S.s.col- 1),waits:=false}}:Sn) D G) (Sx.mk ‹_› (cA (aB S) (mN (mt And.left c1)).symm))
theorem AF(d:Nat)(hG:aE G D S F)(I:Inv S.s):Ca (CO P (d+9)) 1235 [.loc 0] (hp S D G) (Sx .none (aB S (aS S.s true)) F):=by
 have ig:=I.gi
 have id:=I.dim
 have im:=I.mar
 have ic:=I.cur
 refine' use ?_
 refine' bc (S.s.col=S.s.right) (fun c6=> ?_) (fun c6=> ?_)
 ·refine' ak 4 c6 ?_
  refine' aj 0 (iF P (d+5) S D G) ?_
  refine' bc ((S.s.top≤S.s.row∧S.s.row≤S.s.bottom)∧S.s.left≤S.s.col∧S.s.col≤S.s.right) (fun c7=> ?_) (fun c7=> ?_)
  ·refine' ak 0 c7 ?_
   refine' aU 0 (Cv P d hG I c7) fun D9 G10 g8=> ?_
   refine' ax 0 .none (hp ({S with s:=bL S.s false}:Sn) D9 G10) (Sx.mk ‹_› (cA (aB S) (mO (by apply⟨c6,⟨c7.1.1,c7.1.2⟩⟩)).symm))
  ·refine' am 0 c7 ?_
   refine' aj 5 (iq P (d+6) (S:=({S with s:={S.s with waits:=false}}:Sn)) (S.s.row) hG ig (by apply ic.1)) ?_
   refine' aY 0 (fg (hp ({S with s:={S.s with waits:=false}}:Sn) D G) (0) (S.s.C- 1) (by apply af [_] [] 0x23404030 33 133680 id.2.1)) ?_
   refine' ax 3 .none (hp ({S with s:={S.s with col:=min (S.s.C- 1) (S.s.col+1),waits:=false}}:Sn) D G) (Sx.mk ‹_› (cA (aB S) (mQ (mt (fun q=>⟨q.2,Int.le_trans (Int.le_of_lt im.2.2.1) (Int.le_of_eq q.1.symm),Int.le_of_eq q.1⟩) c7)).symm))
 ·refine' am 4 c6 ?_
  refine' aj 5 (iq P (d+6) (S:=({S with s:={S.s with waits:=false}}:Sn)) (S.s.row) hG ig (by apply ic.1)) ?_
  refine' aY 0 (fg (hp ({S with s:={S.s with waits:=false}}:Sn) D G) (0) (S.s.C- 1) (by apply af [_] [] 0x23404030 33 133680 id.2.1)) ?_
  refine' ax 3 .none (hp ({S with s:={S.s with col:=min (S.s.C- 1) (S.s.col+1),waits:=false}}:Sn) D G) (Sx.mk ‹_› (cA (aB S) (mQ (mt And.left c6)).symm))
end
noncomputable def gV(c:Int):Int:=if 768≤c∧c≤879 then 0 else if 19968≤c∧c≤20223 then 2 else 1
theorem Cz{G:Hp}{p1 p3 t:Nat}{p2:List Ln}{p5:List Nat}{S:Sn}{F:As}(h:aE G ⟨p1,p2,p3,none,p5⟩ S ((t,.dict [])::F)):aE G ⟨p1,p2,p3,some t,p5⟩ S F:=by
 refine⟨?_,h.l1,h.l2⟩
 have:=h.sat.perm List.perm_middle
 exact this.perm ((List.Perm.swap _ _ _).trans ((List.Perm.swap _ _ _).cons _))
section
variable(P:Cw){d:Nat}{S:Sn}{D:Dn}{G:Hp}{F:As}
theorem vD(S:Sn)(D:Dn)(G:Hp):bB (hp S D (G++[.dict []])) (List.length (hp S D G))=some []:=by
 have h:(hp S D (G++[.dict []]))[(hp S D G).length]?=some (.dict []):=(cU G.length).trans (by simp)
 unfold bB
 rw[h];rfl
theorem AG(d:Nat)(hG:aE G D S F):Ca (CO P (d+1)) 214 [.bytes [66]] (hp S D G) (zk (.dict []) S D F):=by
 refine' use ?_
 refine' Em 1 (vD S D G) ?_
 have e:List.set (hp S D (G++[.dict []])) (List.length (hp S D G)) (.dict [])=hp S D (G++[.dict []]):=by
  have h:(hp S D (G++[.dict []]))[(hp S D G).length]?=some (.dict []):=(cU G.length).trans (by simp)
  refine List.ext_getElem? fun i=> ?_
  rw[List.getElem?_set]
  split
  ·rename_i q;subst q
   rw[if_pos (gS h).1,h]
  ·rfl
 exact ax 0 (MV.loc (List.length (hp S D G))) (List.set (hp S D (G++[.dict []])) (List.length (hp S D G)) (.dict [])) (by rw[e];exact zk.mk (hG.new _))
theorem sF(d:Nat){p1 p3:Nat}{p2:List Ln}{p5:List Nat}(hG:aE G ⟨p1,p2,p3,none,p5⟩ S F):Ca (CO P (d+2)) 236 [.loc 12,.bytes [66]] (hp S ⟨p1,p2,p3,none,p5⟩ G) (fun v H'=> ∃D' G' t,v= .loc (t+28)∧D'.mt=some t∧H'=hp S D' G'∧aE G' D' S F):=by
 refine' use ?_
 refine' qI 3 (AG P d hG) fun p4 G5 g1=> ?_
 refine' ax 4 (MV.loc (p4+28)) (hp S {pLines:=p1,lns:=p2,pLast:=p3,mt:=some p4,lrows:=p5} G5) ⟨_,_,_,rfl,rfl,rfl,Cz g1⟩
theorem sG(d:Nat){p1 p3 t:Nat}{p2:List Ln}{p5:List Nat}(hG:aE G ⟨p1,p2,p3,some t,p5⟩ S F):Ca (CO P (d+2)) 236 [.loc 12,.bytes [66]] (hp S ⟨p1,p2,p3,some t,p5⟩ G) (fun v H'=> ∃D' G' t,v= .loc (t+28)∧D'.mt=some t∧H'=hp S D' G'∧aE G' D' S F):=by
 refine' use ?_
 refine' ax 5 (MV.loc (t+28)) (hp S {pLines:=p1,lns:=p2,pLast:=p3,mt:=some t,lrows:=p5} G) (⟨_,_,_,rfl,rfl,rfl,hG⟩)
theorem yc(d:Nat)(hG:aE G D S F):Ca (CO P (d+2)) 236 [.loc 12,.bytes [66]] (hp S D G) (fun v H'=> ∃D' G' t,v= .loc (t+28)∧D'.mt=some t∧H'=hp S D' G'∧aE G' D' S F):=by
 obtain⟨p1,p2,p3,mt,p5⟩:=D
 cases mt with
 |none=>exact sF P d hG
 |some t=>exact sG P d hG
theorem pf(d:Nat)(S:Sn)(D:Dn)(G:Hp)(c:Int):Ca (CO P (d+1)) 106 [.loc 18,.int c] (hp S D G) (bU (.bool (decide (768≤c∧c≤879))) (hp S D G)):=by
 refine' use ?_
 refine' bc (879<c) (fun c6=> ?_) (fun c6=> ?_)
 ·refine' ak 5 c6 ?_
  refine' ax 3 (MV.bool false) (hp S D G) (⟨cA MV.bool (decide_eq_false (mt And.right (Int.not_le.mpr c6))).symm,rfl⟩)
 ·refine' am 5 c6 ?_
  refine' ax 5 (MV.bool (decide (768≤c))) (hp S D G) (⟨cA MV.bool (decide_eq_decide.mpr ⟨fun q=>⟨q,Int.not_lt.mp c6⟩,And.left⟩),rfl⟩)
theorem ph(d:Nat)(S:Sn)(D:Dn)(G:Hp)(c:Int):Ca (CO P (d+1)) 106 [.loc 17,.int c] (hp S D G) (bU (.bool (decide (19968≤c∧c≤20223))) (hp S D G)):=by
 refine' use ?_
 refine' bc (20223<c) (fun c7=> ?_) (fun c7=> ?_)
 ·refine' ak 5 c7 ?_
  refine' ax 3 (MV.bool false) (hp S D G) (⟨cA MV.bool (decide_eq_false (mt And.right (Int.not_le.mpr c7))).symm,rfl⟩)
 ·refine' am 5 c7 ?_
  refine' ax 5 (MV.bool (decide (19968≤c))) (hp S D G) (⟨cA MV.bool (decide_eq_decide.mpr ⟨fun q=>⟨q,Int.not_lt.mp c7⟩,And.left⟩),rfl⟩)
theorem jP(d:Nat)(S:Sn)(D:Dn)(G:Hp)(c:Int):Ca (CO P (d+2)) 134 [.loc 10,.int c] (hp S D G) (bU (.int (gV c)) (hp S D G)):=by
 refine' use ?_
 refine' aj 1 (pf P d S D G c) ?_
 refine' bc (768≤c∧c≤879) (fun c8=> ?_) (fun c8=> ?_)
 ·refine' ak 0 c8 ?_
  refine' ax 0 (MV.int 0) (hp S D G) (⟨cA MV.int (by unfold gV;rw[if_pos c8]),rfl⟩)
 ·refine' am 0 c8 ?_
  refine' aj 1 (ph P d S D G c) ?_
  refine' bc (19968≤c∧c≤20223) (fun c9=> ?_) (fun c9=> ?_)
  ·refine' ak 0 c9 ?_
   refine' ax 0 (MV.int 2) (hp S D G) (⟨cA MV.int (by unfold gV;rw[if_neg c8,if_pos c9]),rfl⟩)
  ·refine' am 0 c9 ?_
   refine' ax 0 (MV.int 1) (hp S D G) (⟨cA MV.int (by unfold gV;rw[if_neg c8,if_neg c9]),rfl⟩)
theorem CA(S:Sn){D:Dn}{G:Hp}{F:As}{t:Nat}(hG:aE G D S F)(hm:D.mt=some t):(hp S D G)[t+28]?=some (.dict []):=by
 rw[cU]
 have:=hG.sat.mem (t,.dict []) (mW _ (by unfold dT Fo;rw[hm];simp))
 exact this
theorem CB(S:Sn){D:Dn}{G:Hp}{F:As}{t:Nat}(hG:aE G D S F)(hm:D.mt=some t):bB (hp S D G) (t+28)=some []:=by
 unfold bB
 rw[CA S hG hm];rfl
theorem AH(c:Cw)(S:Sn){D:Dn}{G:Hp}{F:As}{t:Nat}(hG:aE G D S F)(hm:D.mt=some t):dD c.K (hp S D G) (.loc (t+28)) "get" =some none:=by
 show(bd (hp S D G)[t+28]? _)=_
 rw[CA S hG hm];rfl
theorem CC(S:Sn){D:Dn}{G:Hp}{F:As}{t:Nat}(c:Int)(hG:aE G D S F)(hm:D.mt=some t):np (t+28) "get" [.int c,.int c] (hp S D G)=some (.int c,hp S D G):=by
 show bd (bB (hp S D G) (t+28)) _=_
 rw[CB S hG hm];rfl
theorem kS(d:Nat)(c:Int)(hG:aE G D S F):Ca (CO P (d+3)) 293 [.loc 12,.int c,.bool false] (hp S D G) (Sx (.int c) S F):=by
 refine' use ?_
 refine' bc (32≤c) (fun h1=> ?_) (fun h1=> ?_)
 ·refine' bc (c≤127) (fun h2=> ?_) (fun h2=> ?_)
  ·refine' ak 5 (A:=32≤c) h1 ?_
   refine' ak 0 (A:=c≤127) h2 ?_
   refine' gv 3 (yc P d hG) fun v H' hx=> ?_
   obtain⟨D',G',t,rfl,hm,rfl,g⟩:=hx
   refine' b8 0 (AH P S g hm) ?_
   refine' aY 0 (CC S c g hm) ?_
   refine' ax 0 (MV.int c) (hp S D' G') (Sx.mk ‹_› rfl)
  ·refine' ak 5 (A:=32≤c) h1 ?_
   refine' am 0 (A:=c≤127) h2 ?_
   refine' ax 1 (MV.int c) (hp S D G) (Sx.mk ‹_› rfl)
 ·refine' am 5 (A:=32≤c) h1 ?_
  refine' ax 1 (MV.int c) (hp S D G) (Sx.mk ‹_› rfl)
end
noncomputable def dc(v:Vt):Int:=if v.waits=true then v.col else v.col- 1
noncomputable def cellOf(v:Vt)(k:Int):Cell:=ah (ab v.grid v.row) k
noncomputable def az(v:Vt):Int:=if 0≤dc v∧(cellOf v (dc v)).w=0 then dc v- 1 else dc v
noncomputable def cK(v:Vt):Prop:=0≤az v∧(cellOf v (az v)).codes≠ []
open Classical in
noncomputable def gW(v:Vt):MV:=if cK v then .int (az v) else .none
section
variable{v:Vt}{a k:Int}
theorem wK(h:v.waits=true):dc v=v.col:=if_pos h
theorem te(h:v.waits=false):dc v=v.col- 1:=if_neg (by rw[h];exact Bool.false_ne_true)
theorem cM(e:dc v=a)(h:0≤a)(hw:(cellOf v a).w=0):az v=a- 1:=by subst e;exact if_pos ⟨h,hw⟩
theorem eA(e:dc v=a)(hw: ¬(cellOf v a).w=0):az v=a:=by subst e;exact if_neg fun q=>hw q.2
theorem vE(e:dc v=a)(h:a<0):az v=a:=by subst e;exact if_neg fun q=>absurd q.1 (Int.not_le.mpr h)
theorem yd(e:az v=k)(h:0≤k)(hc:(!(List.map MV.int (cellOf v k).codes).isEmpty)=true):gW v= .int k:=by
 subst e
 refine if_pos ⟨h,fun q=> ?_⟩
 rw[q] at hc;exact Bool.false_ne_true hc
theorem pi(e:az v=k)(h: ¬0≤k∨(!(List.map MV.int (cellOf v k).codes).isEmpty)=false):gW v= .none:=by
 subst e
 refine if_neg fun q=> ?_
 rcases h with h|h
 ·exact h q.1
 ·cases hx:(cellOf v (az v)).codes with
  |nil=>exact q.2 hx
  |cons x y=>rw[hx] at h;exact Bool.false_ne_true h.symm
end
section
variable(P:Cw){d:Nat}{S:Sn}{D:Dn}{G:Hp}{F:As}
theorem iG(k:Int)(hG:aE G D S F)(I:GI S.s.R S.s.C S.s.grid)(h:0≤S.s.row∧S.s.row<S.s.R)(h2:0≤k∧k<S.s.C):eC (hp S D G) (.loc ((bA D S.s.row).c+28)) (.int k)=some (cellOf S.s k).mv:=
 gT k (pb S.s.row hG I h) (by rw[I.rlen h];exact h2)
theorem CE(H:Hp)(l:List Int):eY H .NotEq (.tup (l.map .int)) (.tup [])=some (!l.isEmpty):=by cases l<;>rfl
theorem sH(d:Nat)(hG:aE G D S F)(I:Inv S.s)(hw:S.s.waits=true):Ca (CO P (d+3)) 1002 [.loc 0] (hp S D G) (bU (gW S.s) (hp S D G)):=by
 have ig:=I.gi
 have id:=I.dim
 have im:=I.mar
 have ic:=I.cur
 refine' use ?_
 refine' aD 2 hw ?_
 refine' am 2 (A:=S.s.col<0) (by apply af [_] [] 1667 33 131120 ic.2.1) ?_
 refine' aj 1 (br P d hG ig (by apply ic.1)) ?_
 refine' aK 0 (ed P (S.s.row) hG ig (by apply ic.1)) ?_
 refine' aK 0 (iG (S.s.col) hG ig (by apply ic.1) (by apply ic.2)) ?_
 refine' bc ((cellOf S.s S.s.col).w=0) (fun c1=> ?_) (fun c1=> ?_)
 ·refine' ak 1 c1 ?_
  refine' bc (0≤S.s.col- 1) (fun c2=> ?_) (fun c2=> ?_)
  ·refine' ak 0 c2 ?_
   refine' aj 1 (br P d hG ig (by apply ic.1)) ?_
   refine' aK 0 (ed P (S.s.row) hG ig (by apply ic.1)) ?_
   refine' aK 0 (iG (S.s.col- 1) hG ig (by apply ic.1) (by apply⟨c2,(af [_,_] [] 0x908d011 33 4737 ic.2.2)⟩)) ?_
   refine' ak 0 (A:=0≤S.s.col- 1) c2 ?_
   refine' fz (!(List.map MV.int (cellOf S.s (S.s.col- 1)).codes).isEmpty) (fun c3=> ?_) (fun c3=> ?_)
   ·refine' aD 1 c3 ?_
    refine' ax 0 (MV.int (S.s.col- 1)) (hp S D G) ⟨(yd (cM (wK hw) (by apply ic.2.1) c1) c2 c3).symm,rfl⟩
   ·refine' aD 1 c3 ?_
    refine' ax 0 (MV.none) (hp S D G) ⟨(pi (cM (wK hw) (by apply ic.2.1) c1) (Or.inr c3)).symm,rfl⟩
  ·refine' am 0 c2 ?_
   refine' am 0 (A:=0≤S.s.col- 1) c2 ?_
   refine' ax 0 (MV.none) (hp S D G) ⟨(pi (cM (wK hw) (by apply ic.2.1) c1) (Or.inl c2)).symm,rfl⟩
 ·refine' am 1 c1 ?_
  refine' ak 0 (A:=0≤S.s.col) (by apply ic.2.1) ?_
  refine' fz (!(List.map MV.int (cellOf S.s S.s.col).codes).isEmpty) (fun c4=> ?_) (fun c4=> ?_)
  ·refine' aD 1 c4 ?_
   refine' ax 0 (MV.int S.s.col) (hp S D G) ⟨(yd (eA (wK hw) c1) (by apply ic.2.1) c4).symm,rfl⟩
  ·refine' aD 1 c4 ?_
   refine' ax 0 (MV.none) (hp S D G) ⟨(pi (eA (wK hw) c1) (Or.inr c4)).symm,rfl⟩
theorem sL(d:Nat)(hG:aE G D S F)(I:Inv S.s)(hw:S.s.waits=false):Ca (CO P (d+3)) 1002 [.loc 0] (hp S D G) (bU (gW S.s) (hp S D G)):=by
 have ig:=I.gi
 have id:=I.dim
 have im:=I.mar
 have ic:=I.cur
 refine' use ?_
 refine' aD 2 hw ?_
 refine' bc (S.s.col- 1<0) (fun c5=> ?_) (fun c5=> ?_)
 ·refine' ak 2 c5 ?_
  refine' ax 0 (MV.none) (hp S D G) ⟨(pi (vE (te hw) c5) (Or.inl (by apply af [_] [] 0x23404034 33 0x308d011 c5))).symm,rfl⟩
 ·refine' am 2 c5 ?_
  refine' aj 1 (br P d hG ig (by apply ic.1)) ?_
  refine' aK 0 (ed P (S.s.row) hG ig (by apply ic.1)) ?_
  refine' aK 0 (iG (S.s.col- 1) hG ig (by apply ic.1) (by apply⟨(af [_] [] 0x23404030 33 0x308d013 c5),(af [_,_] [] 0x908d011 33 4737 ic.2.2)⟩)) ?_
  refine' bc ((cellOf S.s (S.s.col- 1)).w=0) (fun c6=> ?_) (fun c6=> ?_)
  ·refine' ak 1 c6 ?_
   refine' bc (0≤S.s.col- 1- 1) (fun c7=> ?_) (fun c7=> ?_)
   ·refine' ak 0 c7 ?_
    refine' aj 1 (br P d hG ig (by apply ic.1)) ?_
    refine' aK 0 (ed P (S.s.row) hG ig (by apply ic.1)) ?_
    refine' aK 0 (iG (S.s.col- 1- 1) hG ig (by apply ic.1) (by apply⟨c7,(af [_,_] [] 0x484611a0211 33 4737 ic.2.2)⟩)) ?_
    refine' ak 0 (A:=0≤S.s.col- 1- 1) c7 ?_
    refine' fz (!(List.map MV.int (cellOf S.s (S.s.col- 1- 1)).codes).isEmpty) (fun c8=> ?_) (fun c8=> ?_)
    ·refine' aD 1 c8 ?_
     refine' ax 0 (MV.int (S.s.col- 1- 1)) (hp S D G) ⟨(yd (cM (te hw) (by apply af [_] [] 0x23404030 33 0x118468084030 c7) c6) c7 c8).symm,rfl⟩
    ·refine' aD 1 c8 ?_
     refine' ax 0 (MV.none) (hp S D G) ⟨(pi (cM (te hw) (by apply af [_] [] 0x23404030 33 0x118468084030 c7) c6) (Or.inr c8)).symm,rfl⟩
   ·refine' am 0 c7 ?_
    refine' am 0 (A:=0≤S.s.col- 1- 1) c7 ?_
    refine' ax 0 (MV.none) (hp S D G) ⟨(pi (cM (te hw) (by apply af [_] [] 0x23404030 33 0x308d013 c5) c6) (Or.inl c7)).symm,rfl⟩
  ·refine' am 1 c6 ?_
   refine' ak 0 (A:=0≤S.s.col- 1) (by apply af [_] [] 0x23404030 33 0x308d013 c5) ?_
   refine' fz (!(List.map MV.int (cellOf S.s (S.s.col- 1)).codes).isEmpty) (fun c9=> ?_) (fun c9=> ?_)
   ·refine' aD 1 c9 ?_
    refine' ax 0 (MV.int (S.s.col- 1)) (hp S D G) ⟨(yd (eA (te hw) c6) (by apply af [_] [] 0x23404030 33 0x308d013 c5) c9).symm,rfl⟩
   ·refine' aD 1 c9 ?_
    refine' ax 0 (MV.none) (hp S D G) ⟨(pi (eA (te hw) c6) (Or.inr c9)).symm,rfl⟩
theorem qP(d:Nat)(hG:aE G D S F)(I:Inv S.s):Ca (CO P (d+3)) 1002 [.loc 0] (hp S D G) (bU (gW S.s) (hp S D G)):=by
 cases hw:S.s.waits with
 |true=>exact sH P d hG I hw
 |false=>exact sL P d hG I hw
theorem iH(H:Hp)(l:List Int)(c:Int)(h:l.length<3000):cB H .Add (.tup (l.map .int)) (.tup [.int c])=some (.tup ((l++[c]).map .int),H):=by
 show(if(l.map MV.int).length+1≤dK then some (MV.tup (l.map MV.int++[.int c]),H) else none)=_
 rw[if_pos (Nat.le_trans (by rw[lM];apply af [] [_] 0x2ee06408e008 33 0x5dc0c909 h) (show 3000≤dK by decide)),mP];rfl
theorem CF(H:Hp)(l:List MV):ja H (.type "list") [.tup l]=some (.loc H.length,H++[.list l]):=rfl
theorem df(c:Cw)(d:Nat)(r k:Int)(l:List Int)(w b:Int)(hG:aE G D S F)(I:GI S.s.R S.s.C S.s.grid)(h:0≤r∧r<S.s.R)(h0:0≤k∧k<S.s.C)(hw:w≠0)(h2: ¬(w=2∧k+1=S.s.C)):
  Ca (CO c (d+5)) 674 [.loc ((bA D r).i+28),.int k,.tup [.tup (l.map .int),.int w,cQ b,.bool false]] (hp S D G) (jq .none (setRow S r (put (ab S.s.grid r) k ⟨l,w,b⟩)) F D):=
 Cp c d r k ⟨l,w,b⟩ hG I h h0 hw h2
noncomputable def kT(v:Vt)(c:Int):Vt:={v with grid:=v.grid.set v.row.toNat (put (ab v.grid v.row) (az v) ⟨(cellOf v (az v)).codes++[c],(cellOf v (az v)).w,(cellOf v (az v)).back⟩),last:=(cellOf v (az v)).codes++[c]}
theorem FI{v:Vt}(h:cK v):gW v= .int (az v):=if_pos h
theorem vF(d:Nat)(c:Int)(hG:aE G D S F)(I:Inv S.s)(h:cK S.s)(hk:0≤az S.s∧az S.s<S.s.C)(hl:(cellOf S.s (az S.s)).codes.length<3000)(hw:(cellOf S.s (az S.s)).w≠0)(hw2: ¬((cellOf S.s (az S.s)).w=2∧az S.s+1=S.s.C)):Ca (CO P (d+7)) 1016 [.loc 0,.int c] (hp S D G) (Sx (.bool true) (aB S (kT S.s c)) F):=by
 have ig:=I.gi
 have id:=I.dim
 have im:=I.mar
 have ic:=I.cur
 have e:=qP P (d+3) hG I
 rw[FI h] at e
 refine' use ?_
 refine' aj 1 e ?_
 refine' aj 2 (br P (d+4) hG ig (by apply ic.1)) ?_
 refine' aK 0 (ed P (S.s.row) hG ig (by apply ic.1)) ?_
 refine' aK 0 (iG (az S.s) hG ig (by apply ic.1) hk) ?_
 refine' aY 0 (iH (hp S D G) ((cellOf S.s (az S.s)).codes) c hl) ?_
 refine' aj 2 (eF P (d+5) S D G) ?_
 refine' bc ((cellOf S.s (az S.s)).w=2) (fun c1=> ?_) (fun c1=> ?_)
 ·refine' ak 1 c1 ?_
  refine' am 0 (A:=(cellOf S.s (az S.s)).w=1) (by apply Ne.symm (Int.ne_of_lt (af [_] [] 131633 481 34434 c1))) ?_
  refine' aj 1 (br P (d+4) hG ig (by apply ic.1)) ?_
  refine' b8 0 (da P (S.s.row) hG ig (by apply ic.1)) ?_
  refine' bn 0 (df P (d+1) (S.s.row) (az S.s) ((cellOf S.s (az S.s)).codes++[c]) ((cellOf S.s (az S.s)).w) ((cellOf S.s (az S.s)).back) hG ig (by apply ic.1) hk hw hw2) fun D4 G5 g2 k3=> ?_
  refine' ax 2 (.bool true) (hp (aB S (kT S.s c)) {D4 with pLast:=G5.length} (G5++[.list (((cellOf S.s (az S.s)).codes++[c]).map .int)])) ?_
  exact⟨rfl,_,_,rfl,a8 (DY.new g2 _)⟩
 ·refine' am 1 c1 ?_
  refine' aj 1 (br P (d+4) hG ig (by apply ic.1)) ?_
  refine' b8 0 (da P (S.s.row) hG ig (by apply ic.1)) ?_
  refine' bn 0 (df P (d+1) (S.s.row) (az S.s) ((cellOf S.s (az S.s)).codes++[c]) ((cellOf S.s (az S.s)).w) ((cellOf S.s (az S.s)).back) hG ig (by apply ic.1) hk hw hw2) fun D8 G9 g6 k7=> ?_
  refine' ax 2 (.bool true) (hp (aB S (kT S.s c)) {D8 with pLast:=G9.length} (G9++[.list (((cellOf S.s (az S.s)).codes++[c]).map .int)])) ?_
  exact⟨rfl,_,_,rfl,a8 (DY.new g6 _)⟩
theorem vG(d:Nat)(c:Int)(hG:aE G D S F)(I:Inv S.s)(h: ¬cK S.s):Ca (CO P (d+7)) 1016 [.loc 0,.int c] (hp S D G) (bU (.bool false) (hp S D G)):=by
 have e:=qP P (d+3) hG I
 rw[show gW S.s= .none from if_neg h] at e
 refine' use ?_
 refine' aj 1 e ?_
 refine' ax 1 (.bool false) (hp S D G) ⟨rfl,rfl⟩
end
theorem mS{cs:ar}{k:Int}{x:Cell}(h:0≤k∧k<cs.length)(hw:x.w=1):put cs k x=bK (dL cs k k) [x] k k:=by
 unfold put bK dL
 rw[hw]
 have hl:(a9 (a9 cs k) (k+1)).length=cs.length:=by simp
 simp only[show ¬((1:Int)=2) by decide,if_false]
 rw[List.set_eq_take_append_cons_drop,if_pos (by exact a0 [_] [_,_,_] 8969 572449 297601 9498 139346 h.2 hl (tN h.1)),show(k+1).toNat=k.toNat+1 by exact aq [_] [_,_] 0x11c410a 0x22f0be21 0x23402052 139858 (tN (af [_] [] 0x23400030 33 131120 h.1)) (tN h.1)]
 simp
theorem mT{cs:ar}{k:Int}{x:Cell}(h:0≤k∧k+1<cs.length)(hw:x.w=2):put cs k x=bK (dL cs k (k+1)) [x,aP x.back] k (k+1):=by
 unfold put bK dL
 rw[hw,show k+1+1=k+2 by exact aV [_] [] 0x868004611a0002 33]
 have hl:(a9 (a9 cs k) (k+2)).length=cs.length:=by simp
 simp only[if_true]
 generalize hc:a9 (a9 cs k) (k+2)=c at*
 refine List.ext_getElem? fun i=> ?_
 rw[List.getElem?_set,List.getElem?_set,List.length_set,aA,List.getElem?_append,lT]
 by_cases h1:i<k.toNat
 ·rw[if_neg (by exact Ne.symm (Nat.ne_of_lt (a0 [_] [_,_,_] 8969 572449 9481 0x23402252 140370 h1 (tN (af [_] [] 0x23400030 33 131120 h.1)) (tN h.1)))),if_neg (by exact Ne.symm (Nat.ne_of_lt h1)),if_pos (by exact aq [] [_,_,_] 8969 15393 9481 9498 h1 (mL (a0 [_] [_,_,_] 8968 572449 0x24508d001 9498 139346 h.2 hl (tN h.1)))),List.getElem?_take_of_lt h1]
 ·rw[if_neg (show ¬i<min k.toNat c.length by exact aq [] [_,_,_] 8971 17441 9483 9498 h1 (mL (a0 [_] [_,_,_] 8968 572449 0x24508d001 9498 139346 h.2 hl (tN h.1))))]
  by_cases h2:i=k.toNat
  ·subst h2
   rw[if_neg (by exact Ne.symm (Nat.ne_of_lt (aq [_] [_,_] 8969 17889 0x23402252 139346 (tN (af [_] [] 0x23400030 33 131120 h.1)) (tN h.1)))),if_pos rfl,if_pos (by exact a0 [_] [_,_,_] 8969 572449 0x24508d001 9498 139346 h.2 hl (tN h.1)),show k.toNat- min k.toNat c.length=0 by exact aq [] [_,_,_] 1802 0x2100c5e1 9498 0x44b2286052 (mL (a0 [_] [_,_,_] 8968 572449 0x24508d001 9498 139346 h.2 hl (tN h.1))) (oS (af [] [_,_] 8968 545 8970 (mL (a0 [_] [_,_,_] 8968 572449 0x24508d001 9498 139346 h.2 hl (tN h.1)))))];rfl
  ·by_cases h3:i=k.toNat+1
   ·subst h3
    rw[if_pos (by exact aq [_] [_,_] 0x11c410a 0x22f0be21 0x23402052 139858 (tN (af [_] [] 0x23400030 33 131120 h.1)) (tN h.1)),if_pos (by exact a0 [_] [_,_,_] 8969 572449 0x24508d001 9498 0x23402052 h.2 hl (tN (af [_] [] 0x23400030 33 131120 h.1))),show k.toNat+1- min k.toNat c.length=1 by exact aq [] [_,_,_] 18186 0x1f10c5e1 9498 0x22508e40286052 (mL (a0 [_] [_,_,_] 8968 572449 0x24508d001 9498 139346 h.2 hl (tN h.1))) (oS (af [] [_,_] 0x11c4108 545 8970 (mL (a0 [_] [_,_,_] 8968 572449 0x24508d001 9498 139346 h.2 hl (tN h.1)))))];rfl
   ·rw[if_neg (by exact Nat.ne_of_lt (a0 [_] [_,_,_] 8969 48673 0x23402052 140370 0x1108e409 (tN (af [_] [] 0x23400030 33 131120 h.1)) (tN h.1) (Nat.lt_of_le_of_ne (af [] [_,_] 0x1108e008 33 8969 (Nat.lt_of_le_of_ne (af [] [_,_] 8968 33 8475 h1) (Ne.symm h2))) (Ne.symm h3)))),if_neg (by exact Nat.ne_of_lt (Nat.lt_of_le_of_ne (af [] [_,_] 8968 33 8475 h1) (Ne.symm h2))),List.getElem?_append_right (by simp;apply a0 [] [_,_,_,_] 263224 508961 0x1208e209 9018 0x4cb2286052 (Nat.lt_of_le_of_ne (af [] [_,_] 0x1108e008 33 8969 (Nat.lt_of_le_of_ne (af [] [_,_] 8968 33 8475 h1) (Ne.symm h2))) (Ne.symm h3)) (mL (a0 [_] [_,_,_] 8968 572449 0x24508d001 9498 139346 h.2 hl (tN h.1))) (oS (aq [] [_,_,_] 8968 17441 0x1108e409 9482 (Nat.lt_of_le_of_ne (af [] [_,_] 0x1108e008 33 8969 (Nat.lt_of_le_of_ne (af [] [_,_] 8968 33 8475 h1) (Ne.symm h2))) (Ne.symm h3)) (mL (a0 [_] [_,_,_] 8968 572449 0x24508d001 9498 139346 h.2 hl (tN h.1)))))),List.getElem?_drop]
    congr 1
    simp;apply ju [_] [_,_,_,_,_,_] 0x94410a 0x8c5ef885ef8c5e1 0x43402252 140882 10058 0x50b0286a52 0x10cb5286452 (tN (af [_] [] 0x43400030 33 131120 h.1)) (tN h.1) (mL (a0 [_] [_,_,_] 8968 572449 0x24508d001 9498 139346 h.2 hl (tN h.1))) (oS (aq [] [_,_,_] 8968 17441 0x1108e409 9482 (Nat.lt_of_le_of_ne (af [] [_,_] 0x1108e008 33 8969 (Nat.lt_of_le_of_ne (af [] [_,_] 8968 33 8475 h1) (Ne.symm h2))) (Ne.symm h3)) (mL (a0 [_] [_,_,_] 8968 572449 0x24508d001 9498 139346 h.2 hl (tN h.1))))) (oS (a0 [] [_,_,_,_] 263224 508961 0x1208e209 9018 0x4cb2286052 (Nat.lt_of_le_of_ne (af [] [_,_] 0x1108e008 33 8969 (Nat.lt_of_le_of_ne (af [] [_,_] 8968 33 8475 h1) (Ne.symm h2))) (Ne.symm h3)) (mL (a0 [_] [_,_,_] 8968 572449 0x24508d001 9498 139346 h.2 hl (tN h.1))) (oS (aq [] [_,_,_] 8968 17441 0x1108e409 9482 (Nat.lt_of_le_of_ne (af [] [_,_] 0x1108e008 33 8969 (Nat.lt_of_le_of_ne (af [] [_,_] 8968 33 8475 h1) (Ne.symm h2))) (Ne.symm h3)) (mL (a0 [_] [_,_,_] 8968 572449 0x24508d001 9498 139346 h.2 hl (tN h.1)))))))
theorem gL{C:Int}{cs:ar}{k:Int}{x:Cell}(h:dr C cs)(h0:0≤k∧k<C)(hw:x.w=1∨(x.w=2∧k+1<C)):dr C (put cs k x):=by
 rcases hw with hw|⟨hw,h2⟩
 ·rw[mS (by rw[h.1];exact h0) hw]
  exact jp (ft h k k) (by exact⟨h0.1,⟨(aV [_] [] 4224 1),h0.2⟩⟩) (eG _ _ _) (eH _ _ _) (.one hw .nil) (by simp;exact aV [_] [] 0x40468004232 33)
 ·rw[mT (by rw[h.1];exact⟨h0.1,h2⟩) hw]
  exact jp (ft h k (k+1)) (by exact⟨h0.1,⟨(aV [_] [] 0x11a0080 1),h2⟩⟩) (eG _ _ _) (eH _ _ _) (.two hw .nil) (by simp;exact aV [_] [] 0x202308d00004432 33)
theorem GI.setC{R C:Int}{g:List ar}{r:Int}{cs:ar}(I:GI R C g)(h:dr C cs):GI R C (g.set r.toNat cs):=I.set _ h
theorem GI.rowC{R C:Int}{g:List ar}{r:Int}(I:GI R C g)(h:0≤r∧r<R):dr C (ab g r):=⟨I.rlen h,I.rok h⟩
theorem gn{R C:Int}{g:List ar}{r:Int}(cs:ar)(I:GI R C g)(h:0≤r∧r<R):ab (g.set r.toNat cs) r=cs:=by
 have:=I.len
 unfold ab
 rw[gD,List.getElem?_set_self (by exact a0 [_,_] [_,_] 8969 572449 4737 156242 139346 h.2 this (tN h.1))];rfl
noncomputable def bx(v:Vt)(w:Int):ar:=if v.ins=true then ins (ab v.grid v.row) v.col w (aa v) v.back else ab v.grid v.row
noncomputable def bM(v:Vt)(l:List Int)(w:Int):Vt:={eI {v with grid:=v.grid.set v.row.toNat (put (bx v w) v.col ⟨l,w,v.back⟩)} v.col w with last:=l}
noncomputable def aT(v:Vt)(l:List Int)(w:Int):Vt:=
 let v1:=if v.waits=true∧v.aw=true then ae v else v
 if w=2∧aa v1≤v1.col then
  if v1.aw=true then bM (ae v1) l w
  else if v1.col=v1.right+1 then v1
  else bM {v1 with col:=aa v1- 1} l w
 else bM v1 l w
section
variable{v:Vt}{l:List Int}{w:Int}
theorem qQ(hi:v.ins=false):bM v l w={eI {v with grid:=v.grid.set v.row.toNat (put (ab v.grid v.row) v.col ⟨l,w,v.back⟩)} v.col w with last:=l}:=by
 unfold bM bx;rw[if_neg (by rw[hi];exact Bool.false_ne_true)]
theorem qR(I:Inv v)(hi:v.ins=true):bM v l w={eI {v with grid:=(v.grid.set v.row.toNat (ins (ab v.grid v.row) v.col w (aa v) v.back)).set v.row.toNat (put (ab (v.grid.set v.row.toNat (ins (ab v.grid v.row) v.col w (aa v) v.back)) v.row) v.col ⟨l,w,v.back⟩)} v.col w with last:=l}:=by
 unfold bM bx;rw[if_pos hi,gn _ I.gi I.cur.1,List.set_set]
end
section
variable(P:Cw){d:Nat}{S:Sn}{D:Dn}{G:Hp}{F:As}
theorem ye(d:Nat)(l:List Int)(hG:aE G D S F)(I:Inv S.s)(hi:S.s.ins=false):Wt (CO P (d+11)) (tb (aL 3 (jk P.K 1030 [.loc 0,.tup (l.map .int),.int 1] (hp S D G))) false) (FQ (Sx .none (aB S (bM S.s l 1)) F)):=by
 have ig:=I.gi
 have id:=I.dim
 have im:=I.mar
 have ic:=I.cur
 have ir:=aO I
 have rc:=ig.rowC (r:=S.s.row) ic.1
 have jg:=ig.setC (r:=S.s.row) (gL (x:=⟨l,1,S.s.back⟩) rc ic.2 (Or.inl rfl))
 have J:Inv {S.s with grid:=S.s.grid.set S.s.row.toNat (put (ab S.s.grid S.s.row) S.s.col ⟨l,1,S.s.back⟩)}:=I.setGrid jg
 rw[qQ hi]
 refine' aj 1 (bb P (d+8) hG ig (by apply ic.1) (by apply⟨(af [_] [] 131121 33 133680 id.2.1),im.2.2.2⟩)) ?_
 refine' aj 5 (bW P (d+10) S D G) ?_
 refine' aD 0 hi ?_
 refine' aj 1 (br P (d+9) hG ig (by apply ic.1)) ?_
 refine' b8 0 (da P (S.s.row) hG ig (by apply ic.1)) ?_
 refine' bn 4 (df P (d+6) (S.s.row) (S.s.col) l (1) (S.s.back) hG ig (by apply ic.1) (by apply ic.2) (by apply Ne.symm (Int.ne_of_lt (aV [] [] 573489 1))) (by got_up)) fun D3 G4 g1 k2=> ?_
 refine' aU 1 (fu P (S:=({S with s:={S.s with grid:=S.s.grid.set S.s.row.toNat (put (ab S.s.grid S.s.row) S.s.col {codes:=l,w:=1,back:=S.s.back})}}:Sn)) (d+7) (S.s.col) (1) g1 J) fun D6 G7 g5=> ?_
 refine' ax 2 .none (hp (aB S {eI {S.s with grid:=S.s.grid.set S.s.row.toNat (put (ab S.s.grid S.s.row) S.s.col ⟨l,1,S.s.back⟩)} S.s.col 1 with last:=l}) {D6 with pLast:=G7.length} (G7++[.list (l.map .int)])) ?_
 exact⟨rfl,_,_,rfl,a8 (DY.new g5 _)⟩
theorem vH(d:Nat)(l:List Int)(hG:aE G D S F)(I:Inv S.s)(hi:S.s.ins=true):Wt (CO P (d+11)) (tb (aL 3 (jk P.K 1030 [.loc 0,.tup (l.map .int),.int 1] (hp S D G))) false) (FQ (Sx .none (aB S (bM S.s l 1)) F)):=by
 have ig:=I.gi
 have id:=I.dim
 have im:=I.mar
 have ic:=I.cur
 have ir:=aO I
 have rc:=ig.rowC (r:=S.s.row) ic.1
 have rc2:=fR (many:=1) (b:=S.s.back) rc (show 0≤S.s.col∧S.s.col≤aa S.s∧aa S.s<S.s.C by apply⟨ic.2.1,⟨ir.2.2.1,ir.2.1⟩⟩) (by apply⟨(aV [] [] 573489 1),(af [_,_] [] 0x8d28080230 33 4240 ir.2.2.1)⟩)
 have kg:=ig.setC (r:=S.s.row) rc2
 have rc3:=kg.rowC (r:=S.s.row) ic.1
 have jg:=kg.setC (r:=S.s.row) (gL (x:=⟨l,1,S.s.back⟩) rc3 ic.2 (Or.inl rfl))
 have J:Inv {S.s with grid:=(S.s.grid.set S.s.row.toNat (ins (ab S.s.grid S.s.row) S.s.col 1 (aa S.s) S.s.back)).set S.s.row.toNat (put (ab (S.s.grid.set S.s.row.toNat (ins (ab S.s.grid S.s.row) S.s.col 1 (aa S.s) S.s.back)) S.s.row) S.s.col ⟨l,1,S.s.back⟩)}:=I.setGrid jg
 rw[qR I hi]
 refine' aj 1 (bb P (d+8) hG ig (by apply ic.1) (by apply⟨(af [_] [] 131121 33 133680 id.2.1),im.2.2.2⟩)) ?_
 refine' aj 5 (bW P (d+10) S D G) ?_
 refine' aD 0 hi ?_
 refine' aj 1 (br P (d+9) hG ig (by apply ic.1)) ?_
 refine' b8 0 (eS P (S.s.row) hG ig (by apply ic.1)) ?_
 refine' bn 2 (fS P (d+5) (S.s.row) (S.s.col) (1) (aa S.s) (S.s.back) hG ig (by apply ic.1) (by apply id.2.2) (by apply⟨ic.2.1,⟨ir.2.2.1,ir.2.1⟩⟩) (by apply⟨(aV [] [] 573489 1),(af [_,_] [] 0x8d28080230 33 4240 ir.2.2.1)⟩)) fun D10 G11 g8 k9=> ?_
 refine' aj 3 (iq P (d+9) (S:=({S with s:={S.s with grid:=S.s.grid.set S.s.row.toNat (ins (ab S.s.grid S.s.row) S.s.col 1 (aa S.s) S.s.back)}}:Sn)) (S.s.row) g8 kg (by apply ic.1)) ?_
 refine' bc (aa S.s=(setRow S S.s.row (ins (ab S.s.grid S.s.row) S.s.col 1 (aa S.s) S.s.back)).s.C- 1) (fun c12=> ?_) (fun c12=> ?_)
 ·refine' ak 0 c12 ?_
  refine' aj 1 (br P (d+9) (S:=({S with s:={S.s with grid:=S.s.grid.set S.s.row.toNat (ins (ab S.s.grid S.s.row) S.s.col 1 (aa S.s) S.s.back)}}:Sn)) g8 kg (by apply ic.1)) ?_
  refine' gK 0 (lJ (S:=({S with s:={S.s with grid:=S.s.grid.set S.s.row.toNat (ins (ab S.s.grid S.s.row) S.s.col 1 (aa S.s) S.s.back)}}:Sn)) P (S.s.row) false g8 kg (by apply ic.1)) fun G14 g13=> ?_
  refine' aj 1 (br P (d+9) (S:=({S with s:={S.s with grid:=S.s.grid.set S.s.row.toNat (ins (ab S.s.grid S.s.row) S.s.col 1 (aa S.s) S.s.back)}}:Sn)) g13 kg (by apply ic.1)) ?_
  refine' b8 0 (da (S:=({S with s:={S.s with grid:=S.s.grid.set S.s.row.toNat (ins (ab S.s.grid S.s.row) S.s.col 1 (aa S.s) S.s.back)}}:Sn)) P (S.s.row) g13 kg (by apply ic.1)) ?_
  refine' bn 4 (df (S:=({S with s:={S.s with grid:=S.s.grid.set S.s.row.toNat (ins (ab S.s.grid S.s.row) S.s.col 1 (aa S.s) S.s.back)}}:Sn)) P (d+6) (S.s.row) (S.s.col) l (1) (S.s.back) g13 kg (by apply ic.1) (by apply ic.2) (by apply Ne.symm (Int.ne_of_lt (aV [] [] 573489 1))) (by got_up)) fun D17 G18 g15 k16=> ?_
  refine' aU 1 (fu P (S:=({S with s:={S.s with grid:=(S.s.grid.set S.s.row.toNat (ins (ab S.s.grid S.s.row) S.s.col 1 (aa S.s) S.s.back)).set S.s.row.toNat (put (ab (S.s.grid.set S.s.row.toNat (ins (ab S.s.grid S.s.row) S.s.col 1 (aa S.s) S.s.back)) S.s.row) S.s.col {codes:=l,w:=1,back:=S.s.back})}}:Sn)) (d+7) (S.s.col) (1) g15 J) fun D20 G21 g19=> ?_
  refine' ax 2 .none (hp (aB S {eI {S.s with grid:=(S.s.grid.set S.s.row.toNat (ins (ab S.s.grid S.s.row) S.s.col 1 (aa S.s) S.s.back)).set S.s.row.toNat (put (ab (S.s.grid.set S.s.row.toNat (ins (ab S.s.grid S.s.row) S.s.col 1 (aa S.s) S.s.back)) S.s.row) S.s.col ⟨l,1,S.s.back⟩)} S.s.col 1 with last:=l}) {D20 with pLast:=G21.length} (G21++[.list (l.map .int)])) ?_
  exact⟨rfl,_,_,rfl,a8 (DY.new g19 _)⟩
 ·refine' am 0 c12 ?_
  refine' aj 1 (br P (d+9) (S:=({S with s:={S.s with grid:=S.s.grid.set S.s.row.toNat (ins (ab S.s.grid S.s.row) S.s.col 1 (aa S.s) S.s.back)}}:Sn)) g8 kg (by apply ic.1)) ?_
  refine' b8 0 (da (S:=({S with s:={S.s with grid:=S.s.grid.set S.s.row.toNat (ins (ab S.s.grid S.s.row) S.s.col 1 (aa S.s) S.s.back)}}:Sn)) P (S.s.row) g8 kg (by apply ic.1)) ?_
  refine' bn 4 (df (S:=({S with s:={S.s with grid:=S.s.grid.set S.s.row.toNat (ins (ab S.s.grid S.s.row) S.s.col 1 (aa S.s) S.s.back)}}:Sn)) P (d+6) (S.s.row) (S.s.col) l (1) (S.s.back) g8 kg (by apply ic.1) (by apply ic.2) (by apply Ne.symm (Int.ne_of_lt (aV [] [] 573489 1))) (by got_up)) fun D24 G25 g22 k23=> ?_
  refine' aU 1 (fu P (S:=({S with s:={S.s with grid:=(S.s.grid.set S.s.row.toNat (ins (ab S.s.grid S.s.row) S.s.col 1 (aa S.s) S.s.back)).set S.s.row.toNat (put (ab (S.s.grid.set S.s.row.toNat (ins (ab S.s.grid S.s.row) S.s.col 1 (aa S.s) S.s.back)) S.s.row) S.s.col {codes:=l,w:=1,back:=S.s.back})}}:Sn)) (d+7) (S.s.col) (1) g22 J) fun D27 G28 g26=> ?_
  refine' ax 2 .none (hp (aB S {eI {S.s with grid:=(S.s.grid.set S.s.row.toNat (ins (ab S.s.grid S.s.row) S.s.col 1 (aa S.s) S.s.back)).set S.s.row.toNat (put (ab (S.s.grid.set S.s.row.toNat (ins (ab S.s.grid S.s.row) S.s.col 1 (aa S.s) S.s.back)) S.s.row) S.s.col ⟨l,1,S.s.back⟩)} S.s.col 1 with last:=l}) {D27 with pLast:=G28.length} (G28++[.list (l.map .int)])) ?_
  exact⟨rfl,_,_,rfl,a8 (DY.new g26 _)⟩
theorem qS(d:Nat)(l:List Int)(hG:aE G D S F)(I:Inv S.s)(hi:S.s.ins=false)(hc:S.s.col<aa S.s):Wt (CO P (d+11)) (tb (aL 3 (cc (aL 2 (jk P.K 1030 [.loc 0,.tup (l.map .int),.int 2] (hp S D G))) (.bool false) (hp S D G))) false) (FQ (Sx .none (aB S (bM S.s l 2)) F)):=by
 have ig:=I.gi
 have id:=I.dim
 have im:=I.mar
 have ic:=I.cur
 have ir:=aO I
 have rc:=ig.rowC (r:=S.s.row) ic.1
 have jg:=ig.setC (r:=S.s.row) (gL (x:=⟨l,2,S.s.back⟩) rc ic.2 (Or.inr ⟨rfl,by apply aq [_,_,_] [] 0x908d001 1057 5249 4769 hc ir.2.1⟩))
 have J:Inv {S.s with grid:=S.s.grid.set S.s.row.toNat (put (ab S.s.grid S.s.row) S.s.col ⟨l,2,S.s.back⟩)}:=I.setGrid jg
 rw[qQ hi]
 refine' aj 1 (bb P (d+8) hG ig (by apply ic.1) (by apply⟨(af [_] [] 131121 33 133680 id.2.1),im.2.2.2⟩)) ?_
 refine' am 3 (A:=aa S.s≤S.s.col) (by apply af [_,_] [] 4740 33 4241 hc) ?_
 refine' aj 4 (bW P (d+10) S D G) ?_
 refine' aD 0 hi ?_
 refine' aj 1 (br P (d+9) hG ig (by apply ic.1)) ?_
 refine' b8 0 (da P (S.s.row) hG ig (by apply ic.1)) ?_
 refine' bn 4 (df P (d+6) (S.s.row) (S.s.col) l (2) (S.s.back) hG ig (by apply ic.1) (by apply ic.2) (by apply Ne.symm (Int.ne_of_lt (aV [] [] 0x10c031 1))) (by got_up)) fun D31 G32 g29 k30=> ?_
 refine' aU 1 (fu P (S:=({S with s:={S.s with grid:=S.s.grid.set S.s.row.toNat (put (ab S.s.grid S.s.row) S.s.col {codes:=l,w:=2,back:=S.s.back})}}:Sn)) (d+7) (S.s.col) (2) g29 J) fun D34 G35 g33=> ?_
 refine' ax 2 .none (hp (aB S {eI {S.s with grid:=S.s.grid.set S.s.row.toNat (put (ab S.s.grid S.s.row) S.s.col ⟨l,2,S.s.back⟩)} S.s.col 2 with last:=l}) {D34 with pLast:=G35.length} (G35++[.list (l.map .int)])) ?_
 exact⟨rfl,_,_,rfl,a8 (DY.new g33 _)⟩
theorem nV(d:Nat)(l:List Int)(hG:aE G D S F)(I:Inv S.s)(hi:S.s.ins=true)(hc:S.s.col<aa S.s):Wt (CO P (d+11)) (tb (aL 3 (cc (aL 2 (jk P.K 1030 [.loc 0,.tup (l.map .int),.int 2] (hp S D G))) (.bool false) (hp S D G))) false) (FQ (Sx .none (aB S (bM S.s l 2)) F)):=by
 have ig:=I.gi
 have id:=I.dim
 have im:=I.mar
 have ic:=I.cur
 have ir:=aO I
 have rc:=ig.rowC (r:=S.s.row) ic.1
 have rc2:=fR (many:=2) (b:=S.s.back) rc (show 0≤S.s.col∧S.s.col≤aa S.s∧aa S.s<S.s.C by apply⟨ic.2.1,⟨ir.2.2.1,ir.2.1⟩⟩) (by apply⟨(aV [] [] 0x10c031 1),(af [_,_] [] 0x8d28080430 33 4241 hc)⟩)
 have kg:=ig.setC (r:=S.s.row) rc2
 have rc3:=kg.rowC (r:=S.s.row) ic.1
 have jg:=kg.setC (r:=S.s.row) (gL (x:=⟨l,2,S.s.back⟩) rc3 ic.2 (Or.inr ⟨rfl,by apply aq [_,_,_] [] 0x908d001 1057 5249 4769 hc ir.2.1⟩))
 have J:Inv {S.s with grid:=(S.s.grid.set S.s.row.toNat (ins (ab S.s.grid S.s.row) S.s.col 2 (aa S.s) S.s.back)).set S.s.row.toNat (put (ab (S.s.grid.set S.s.row.toNat (ins (ab S.s.grid S.s.row) S.s.col 2 (aa S.s) S.s.back)) S.s.row) S.s.col ⟨l,2,S.s.back⟩)}:=I.setGrid jg
 rw[qR I hi]
 refine' aj 1 (bb P (d+8) hG ig (by apply ic.1) (by apply⟨(af [_] [] 131121 33 133680 id.2.1),im.2.2.2⟩)) ?_
 refine' am 3 (A:=aa S.s≤S.s.col) (by apply af [_,_] [] 4740 33 4241 hc) ?_
 refine' aj 4 (bW P (d+10) S D G) ?_
 refine' aD 0 hi ?_
 refine' aj 1 (br P (d+9) hG ig (by apply ic.1)) ?_
 refine' b8 0 (eS P (S.s.row) hG ig (by apply ic.1)) ?_
 refine' bn 2 (fS P (d+5) (S.s.row) (S.s.col) (2) (aa S.s) (S.s.back) hG ig (by apply ic.1) (by apply id.2.2) (by apply⟨ic.2.1,⟨ir.2.2.1,ir.2.1⟩⟩) (by apply⟨(aV [] [] 0x10c031 1),(af [_,_] [] 0x8d28080430 33 4241 hc)⟩)) fun D38 G39 g36 k37=> ?_
 refine' aj 3 (iq P (d+9) (S:=({S with s:={S.s with grid:=S.s.grid.set S.s.row.toNat (ins (ab S.s.grid S.s.row) S.s.col 2 (aa S.s) S.s.back)}}:Sn)) (S.s.row) g36 kg (by apply ic.1)) ?_
 refine' bc (aa S.s=(setRow S S.s.row (ins (ab S.s.grid S.s.row) S.s.col 2 (aa S.s) S.s.back)).s.C- 1) (fun c40=> ?_) (fun c40=> ?_)
 ·refine' ak 0 c40 ?_
  refine' aj 1 (br P (d+9) (S:=({S with s:={S.s with grid:=S.s.grid.set S.s.row.toNat (ins (ab S.s.grid S.s.row) S.s.col 2 (aa S.s) S.s.back)}}:Sn)) g36 kg (by apply ic.1)) ?_
  refine' gK 0 (lJ (S:=({S with s:={S.s with grid:=S.s.grid.set S.s.row.toNat (ins (ab S.s.grid S.s.row) S.s.col 2 (aa S.s) S.s.back)}}:Sn)) P (S.s.row) false g36 kg (by apply ic.1)) fun G42 g41=> ?_
  refine' aj 1 (br P (d+9) (S:=({S with s:={S.s with grid:=S.s.grid.set S.s.row.toNat (ins (ab S.s.grid S.s.row) S.s.col 2 (aa S.s) S.s.back)}}:Sn)) g41 kg (by apply ic.1)) ?_
  refine' b8 0 (da (S:=({S with s:={S.s with grid:=S.s.grid.set S.s.row.toNat (ins (ab S.s.grid S.s.row) S.s.col 2 (aa S.s) S.s.back)}}:Sn)) P (S.s.row) g41 kg (by apply ic.1)) ?_
  refine' bn 4 (df (S:=({S with s:={S.s with grid:=S.s.grid.set S.s.row.toNat (ins (ab S.s.grid S.s.row) S.s.col 2 (aa S.s) S.s.back)}}:Sn)) P (d+6) (S.s.row) (S.s.col) l (2) (S.s.back) g41 kg (by apply ic.1) (by apply ic.2) (by apply Ne.symm (Int.ne_of_lt (aV [] [] 0x10c031 1))) (by got_up)) fun D45 G46 g43 k44=> ?_
  refine' aU 1 (fu P (S:=({S with s:={S.s with grid:=(S.s.grid.set S.s.row.toNat (ins (ab S.s.grid S.s.row) S.s.col 2 (aa S.s) S.s.back)).set S.s.row.toNat (put (ab (S.s.grid.set S.s.row.toNat (ins (ab S.s.grid S.s.row) S.s.col 2 (aa S.s) S.s.back)) S.s.row) S.s.col {codes:=l,w:=2,back:=S.s.back})}}:Sn)) (d+7) (S.s.col) (2) g43 J) fun D48 G49 g47=> ?_
  refine' ax 2 .none (hp (aB S {eI {S.s with grid:=(S.s.grid.set S.s.row.toNat (ins (ab S.s.grid S.s.row) S.s.col 2 (aa S.s) S.s.back)).set S.s.row.toNat (put (ab (S.s.grid.set S.s.row.toNat (ins (ab S.s.grid S.s.row) S.s.col 2 (aa S.s) S.s.back)) S.s.row) S.s.col ⟨l,2,S.s.back⟩)} S.s.col 2 with last:=l}) {D48 with pLast:=G49.length} (G49++[.list (l.map .int)])) ?_
  exact⟨rfl,_,_,rfl,a8 (DY.new g47 _)⟩
 ·refine' am 0 c40 ?_
  refine' aj 1 (br P (d+9) (S:=({S with s:={S.s with grid:=S.s.grid.set S.s.row.toNat (ins (ab S.s.grid S.s.row) S.s.col 2 (aa S.s) S.s.back)}}:Sn)) g36 kg (by apply ic.1)) ?_
  refine' b8 0 (da (S:=({S with s:={S.s with grid:=S.s.grid.set S.s.row.toNat (ins (ab S.s.grid S.s.row) S.s.col 2 (aa S.s) S.s.back)}}:Sn)) P (S.s.row) g36 kg (by apply ic.1)) ?_
  refine' bn 4 (df (S:=({S with s:={S.s with grid:=S.s.grid.set S.s.row.toNat (ins (ab S.s.grid S.s.row) S.s.col 2 (aa S.s) S.s.back)}}:Sn)) P (d+6) (S.s.row) (S.s.col) l (2) (S.s.back) g36 kg (by apply ic.1) (by apply ic.2) (by apply Ne.symm (Int.ne_of_lt (aV [] [] 0x10c031 1))) (by got_up)) fun D52 G53 g50 k51=> ?_
  refine' aU 1 (fu P (S:=({S with s:={S.s with grid:=(S.s.grid.set S.s.row.toNat (ins (ab S.s.grid S.s.row) S.s.col 2 (aa S.s) S.s.back)).set S.s.row.toNat (put (ab (S.s.grid.set S.s.row.toNat (ins (ab S.s.grid S.s.row) S.s.col 2 (aa S.s) S.s.back)) S.s.row) S.s.col {codes:=l,w:=2,back:=S.s.back})}}:Sn)) (d+7) (S.s.col) (2) g50 J) fun D55 G56 g54=> ?_
  refine' ax 2 .none (hp (aB S {eI {S.s with grid:=(S.s.grid.set S.s.row.toNat (ins (ab S.s.grid S.s.row) S.s.col 2 (aa S.s) S.s.back)).set S.s.row.toNat (put (ab (S.s.grid.set S.s.row.toNat (ins (ab S.s.grid S.s.row) S.s.col 2 (aa S.s) S.s.back)) S.s.row) S.s.col ⟨l,2,S.s.back⟩)} S.s.col 2 with last:=l}) {D55 with pLast:=G56.length} (G56++[.list (l.map .int)])) ?_
  exact⟨rfl,_,_,rfl,a8 (DY.new g54 _)⟩
theorem eV(n:Nat){O:dJ}{t t2:Tr}{Q:QS}(h:Wt O t2 Q)(e:aL n t=t2:=by kernel_rfl):Wt O t Q:=cY n (e▸h)
theorem mU(d:Nat)(l:List Int)(hG:aE G D S F)(I:Inv S.s):Wt (CO P (d+11)) (tb (aL 3 (jk P.K 1030 [.loc 0,.tup (l.map .int),.int 1] (hp S D G))) false) (FQ (Sx .none (aB S (bM S.s l 1)) F)):=by
 cases hi:S.s.ins with
 |true=>exact vH P d l hG I hi
 |false=>exact ye P d l hG I hi
theorem qT{v:Vt}{l:List Int}(h:v.waits=true∧v.aw=true):aT v l 1=bM (ae v) l 1:=by
 unfold aT;simp only[if_pos h];rw[if_neg (fun q=>absurd q.1 (by decide))]
theorem jQ{v:Vt}{l:List Int}(h: ¬(v.waits=true∧v.aw=true)):aT v l 1=bM v l 1:=by
 unfold aT;simp only[if_neg h];rw[if_neg (fun q=>absurd q.1 (by decide))]
theorem yf(d:Nat)(l:List Int)(hG:aE G D S F)(I:Inv S.s):Ca (CO P (d+12)) 1030 [.loc 0,.tup (l.map .int),.int 1] (hp S D G) (Sx .none (aB S (aT S.s l 1)) F):=by
 refine' use ?_
 refine' fz (S.s.waits) (fun hw=> ?_) (fun hw=> ?_)
 ·refine' aD 3 hw ?_
  refine' aj 2 (bh P (d+10) S D G) ?_
  refine' fz (S.s.aw) (fun ha=> ?_) (fun ha=> ?_)
  ·rw[qT ⟨hw,ha⟩]
   refine' aD 0 ha ?_
   refine' aU 1 (mK P d hG I) fun D2 G3 g1=> ?_
   refine' eV 0 (mU P d l (S:=aB S (ae S.s)) g1 (dH I))
  ·rw[jQ fun q=>by rw[ha] at q;exact Bool.false_ne_true q.2]
   refine' aD 0 ha ?_
   refine' eV 0 (mU P d l hG I)
 ·rw[jQ fun q=>by rw[hw] at q;exact Bool.false_ne_true q.1]
  refine' aD 3 hw ?_
  refine' mU P d l hG I
end
section
variable{v:Vt}
theorem dw(I:Inv v):(ae v).col<aa (ae v):=by
 have g:=cR v
 have h:=iD I
 unfold aa
 rw[show(ae v).col=aR v from rfl,show(ae v).right=v.right from g.2.2.2.1,if_pos (Int.le_of_lt h)]
 exact h
theorem nW(v:Vt):(ae v).ins=v.ins:=(cR v).2.2.2.2.2.2.1
end
section
variable(P:Cw){d:Nat}{S:Sn}{D:Dn}{G:Hp}{F:As}
theorem yg(d:Nat)(l:List Int)(hG:aE G D S F)(I:Inv S.s)(hi:S.s.ins=false)(ha:S.s.aw=true)(hc:aa S.s≤S.s.col):Wt (CO P (d+11)) (tb (aL 3 (cc (aL 2 (jk P.K 1030 [.loc 0,.tup (l.map .int),.int 2] (hp S D G))) (.bool false) (hp S D G))) false) (FQ (Sx .none (aB S (bM (ae S.s) l 2)) F)):=by
 have ig:=I.gi
 have id:=I.dim
 have im:=I.mar
 have ic:=I.cur
 have ir:=aO I
 have K:=dH I
 have hi1:(ae S.s).ins=false:=(nW S.s).trans hi
 have hr1:=dw I
 have wg:=K.gi
 have wd:=K.dim
 have wm:=K.mar
 have wc:=K.cur
 have wr:=aO K
 have rc:=wg.rowC (r:=(ae S.s).row) wc.1
 have jg:=wg.setC (r:=(ae S.s).row) (gL (x:=⟨l,2,(ae S.s).back⟩) rc wc.2 (Or.inr ⟨rfl,by apply aq [_,_,_] [] 0x908d001 1057 5249 4769 hr1 wr.2.1⟩))
 have J:Inv {ae S.s with grid:=(ae S.s).grid.set (ae S.s).row.toNat (put (ab (ae S.s).grid (ae S.s).row) (ae S.s).col ⟨l,2,(ae S.s).back⟩)}:=K.setGrid jg
 rw[qQ hi1]
 refine' aj 1 (bb P (d+8) hG ig (by apply ic.1) (by apply⟨(af [_] [] 131121 33 133680 id.2.1),im.2.2.2⟩)) ?_
 refine' ak 3 (A:=aa S.s≤S.s.col) hc ?_
 refine' aj 1 (cr P (d+10) S D G) ?_
 refine' am 0 (A:=aa S.s- aR S.s<1) (by apply af [_,_] [] 0x11a5013 33 4241 ir.2.2.2) ?_
 refine' aj 4 (bh P (d+10) S D G) ?_
 refine' aD 0 ha ?_
 refine' aU 1 (mK P d hG I) fun D2 G3 g1=> ?_
 refine' aj 1 (bb P (d+8) (S:=({S with s:=ae S.s}:Sn)) g1 wg (by apply wc.1) (by apply⟨(af [_] [] 131121 33 133680 wd.2.1),wm.2.2.2⟩)) ?_
 refine' am 2 (A:=aa (aB S (ae S.s)).s≤(aB S (ae S.s)).s.col) (by(dsimp only;apply af [_,_] [] 4740 33 4241 hr1)) ?_
 refine' aj 4 (bW P (d+10) ({S with s:=ae S.s}:Sn) D2 G3) ?_
 refine' aD 0 hi1 ?_
 refine' aj 1 (br P (d+9) (S:=({S with s:=ae S.s}:Sn)) g1 wg (by apply wc.1)) ?_
 refine' b8 0 (da (S:=({S with s:=ae S.s}:Sn)) P ((ae S.s).row) g1 wg (by apply wc.1)) ?_
 refine' bn 4 (df (S:=({S with s:=ae S.s}:Sn)) P (d+6) ((ae S.s).row) ((ae S.s).col) l (2) ((ae S.s).back) g1 wg (by apply wc.1) (by apply wc.2) (by apply Ne.symm (Int.ne_of_lt (aV [] [] 0x10c031 1))) (by got_up)) fun D6 G7 g4 k5=> ?_
 refine' aU 1 (fu P (S:=({S with s:={ae S.s with grid:=(ae S.s).grid.set (ae S.s).row.toNat (put (ab (ae S.s).grid (ae S.s).row) (ae S.s).col {codes:=l,w:=2,back:=(ae S.s).back})}}:Sn)) (d+7) ((ae S.s).col) (2) g4 J) fun D9 G10 g8=> ?_
 refine' ax 2 .none (hp (aB S {eI {ae S.s with grid:=(ae S.s).grid.set (ae S.s).row.toNat (put (ab (ae S.s).grid (ae S.s).row) (ae S.s).col ⟨l,2,(ae S.s).back⟩)} (ae S.s).col 2 with last:=l}) {D9 with pLast:=G10.length} (G10++[.list (l.map .int)])) ?_
 exact⟨rfl,_,_,rfl,a8 (DY.new g8 _)⟩
theorem yh(d:Nat)(l:List Int)(hG:aE G D S F)(I:Inv S.s)(hi:S.s.ins=true)(ha:S.s.aw=true)(hc:aa S.s≤S.s.col):Wt (CO P (d+11)) (tb (aL 3 (cc (aL 2 (jk P.K 1030 [.loc 0,.tup (l.map .int),.int 2] (hp S D G))) (.bool false) (hp S D G))) false) (FQ (Sx .none (aB S (bM (ae S.s) l 2)) F)):=by
 have ig:=I.gi
 have id:=I.dim
 have im:=I.mar
 have ic:=I.cur
 have ir:=aO I
 have K:=dH I
 have hi1:(ae S.s).ins=true:=(nW S.s).trans hi
 have hr1:=dw I
 have wg:=K.gi
 have wd:=K.dim
 have wm:=K.mar
 have wc:=K.cur
 have wr:=aO K
 have rc:=wg.rowC (r:=(ae S.s).row) wc.1
 have rc2:=fR (many:=2) (b:=(ae S.s).back) rc (show 0≤(ae S.s).col∧(ae S.s).col≤aa (ae S.s)∧aa (ae S.s)<(ae S.s).C by apply⟨wc.2.1,⟨wr.2.2.1,wr.2.1⟩⟩) (by apply⟨(aV [] [] 0x10c031 1),(af [_,_] [] 0x8d28080430 33 4241 hr1)⟩)
 have kg:=wg.setC (r:=(ae S.s).row) rc2
 have rc3:=kg.rowC (r:=(ae S.s).row) wc.1
 have jg:=kg.setC (r:=(ae S.s).row) (gL (x:=⟨l,2,(ae S.s).back⟩) rc3 wc.2 (Or.inr ⟨rfl,by apply aq [_,_,_] [] 0x908d001 1057 5249 4769 hr1 wr.2.1⟩))
 have J:Inv {ae S.s with grid:=((ae S.s).grid.set (ae S.s).row.toNat (ins (ab (ae S.s).grid (ae S.s).row) (ae S.s).col 2 (aa (ae S.s)) (ae S.s).back)).set (ae S.s).row.toNat (put (ab ((ae S.s).grid.set (ae S.s).row.toNat (ins (ab (ae S.s).grid (ae S.s).row) (ae S.s).col 2 (aa (ae S.s)) (ae S.s).back)) (ae S.s).row) (ae S.s).col ⟨l,2,(ae S.s).back⟩)}:=K.setGrid jg
 rw[qR K hi1]
 refine' aj 1 (bb P (d+8) hG ig (by apply ic.1) (by apply⟨(af [_] [] 131121 33 133680 id.2.1),im.2.2.2⟩)) ?_
 refine' ak 3 (A:=aa S.s≤S.s.col) hc ?_
 refine' aj 1 (cr P (d+10) S D G) ?_
 refine' am 0 (A:=aa S.s- aR S.s<1) (by apply af [_,_] [] 0x11a5013 33 4241 ir.2.2.2) ?_
 refine' aj 4 (bh P (d+10) S D G) ?_
 refine' aD 0 ha ?_
 refine' aU 1 (mK P d hG I) fun D12 G13 g11=> ?_
 refine' aj 1 (bb P (d+8) (S:=({S with s:=ae S.s}:Sn)) g11 wg (by apply wc.1) (by apply⟨(af [_] [] 131121 33 133680 wd.2.1),wm.2.2.2⟩)) ?_
 refine' am 2 (A:=aa (aB S (ae S.s)).s≤(aB S (ae S.s)).s.col) (by(dsimp only;apply af [_,_] [] 4740 33 4241 hr1)) ?_
 refine' aj 4 (bW P (d+10) ({S with s:=ae S.s}:Sn) D12 G13) ?_
 refine' aD 0 hi1 ?_
 refine' aj 1 (br P (d+9) (S:=({S with s:=ae S.s}:Sn)) g11 wg (by apply wc.1)) ?_
 refine' b8 0 (eS (S:=({S with s:=ae S.s}:Sn)) P ((ae S.s).row) g11 wg (by apply wc.1)) ?_
 refine' bn 2 (fS (S:=({S with s:=ae S.s}:Sn)) P (d+5) ((ae S.s).row) ((ae S.s).col) (2) (aa (ae S.s)) ((ae S.s).back) g11 wg (by apply wc.1) (by apply wd.2.2) (by apply⟨wc.2.1,⟨wr.2.2.1,wr.2.1⟩⟩) (by apply⟨(aV [] [] 0x10c031 1),(af [_,_] [] 0x8d28080430 33 4241 hr1)⟩)) fun D16 G17 g14 k15=> ?_
 refine' aj 3 (iq P (d+9) (S:=({S with s:={ae S.s with grid:=(ae S.s).grid.set (ae S.s).row.toNat (ins (ab (ae S.s).grid (ae S.s).row) (ae S.s).col 2 (aa (ae S.s)) (ae S.s).back)}}:Sn)) ((ae S.s).row) g14 kg (by apply wc.1)) ?_
 refine' bc (aa (aB S (ae S.s)).s=(setRow (aB S (ae S.s)) (aB S (ae S.s)).s.row (ins (ab (aB S (ae S.s)).s.grid (aB S (ae S.s)).s.row) (aB S (ae S.s)).s.col 2 (aa (aB S (ae S.s)).s) (aB S (ae S.s)).s.back)).s.C- 1) (fun c18=> ?_) (fun c18=> ?_)
 ·refine' ak 0 c18 ?_
  refine' aj 1 (br P (d+9) (S:=({S with s:={ae S.s with grid:=(ae S.s).grid.set (ae S.s).row.toNat (ins (ab (ae S.s).grid (ae S.s).row) (ae S.s).col 2 (aa (ae S.s)) (ae S.s).back)}}:Sn)) g14 kg (by apply wc.1)) ?_
  refine' gK 0 (lJ (S:=({S with s:={ae S.s with grid:=(ae S.s).grid.set (ae S.s).row.toNat (ins (ab (ae S.s).grid (ae S.s).row) (ae S.s).col 2 (aa (ae S.s)) (ae S.s).back)}}:Sn)) P ((ae S.s).row) false g14 kg (by apply wc.1)) fun G20 g19=> ?_
  refine' aj 1 (br P (d+9) (S:=({S with s:={ae S.s with grid:=(ae S.s).grid.set (ae S.s).row.toNat (ins (ab (ae S.s).grid (ae S.s).row) (ae S.s).col 2 (aa (ae S.s)) (ae S.s).back)}}:Sn)) g19 kg (by apply wc.1)) ?_
  refine' b8 0 (da (S:=({S with s:={ae S.s with grid:=(ae S.s).grid.set (ae S.s).row.toNat (ins (ab (ae S.s).grid (ae S.s).row) (ae S.s).col 2 (aa (ae S.s)) (ae S.s).back)}}:Sn)) P ((ae S.s).row) g19 kg (by apply wc.1)) ?_
  refine' bn 4 (df (S:=({S with s:={ae S.s with grid:=(ae S.s).grid.set (ae S.s).row.toNat (ins (ab (ae S.s).grid (ae S.s).row) (ae S.s).col 2 (aa (ae S.s)) (ae S.s).back)}}:Sn)) P (d+6) ((ae S.s).row) ((ae S.s).col) l (2) ((ae S.s).back) g19 kg (by apply wc.1) (by apply wc.2) (by apply Ne.symm (Int.ne_of_lt (aV [] [] 0x10c031 1))) (by got_up)) fun D23 G24 g21 k22=> ?_
  refine' aU 1 (fu P (S:=({S with s:={ae S.s with grid:=((ae S.s).grid.set (ae S.s).row.toNat (ins (ab (ae S.s).grid (ae S.s).row) (ae S.s).col 2 (aa (ae S.s)) (ae S.s).back)).set (ae S.s).row.toNat (put (ab ((ae S.s).grid.set (ae S.s).row.toNat (ins (ab (ae S.s).grid (ae S.s).row) (ae S.s).col 2 (aa (ae S.s)) (ae S.s).back)) (ae S.s).row) (ae S.s).col {codes:=l,w:=2,back:=(ae S.s).back})}}:Sn)) (d+7) ((ae S.s).col) (2) g21 J) fun D26 G27 g25=> ?_
  refine' ax 2 .none (hp (aB S {eI {ae S.s with grid:=((ae S.s).grid.set (ae S.s).row.toNat (ins (ab (ae S.s).grid (ae S.s).row) (ae S.s).col 2 (aa (ae S.s)) (ae S.s).back)).set (ae S.s).row.toNat (put (ab ((ae S.s).grid.set (ae S.s).row.toNat (ins (ab (ae S.s).grid (ae S.s).row) (ae S.s).col 2 (aa (ae S.s)) (ae S.s).back)) (ae S.s).row) (ae S.s).col ⟨l,2,(ae S.s).back⟩)} (ae S.s).col 2 with last:=l}) {D26 with pLast:=G27.length} (G27++[.list (l.map .int)])) ?_
  exact⟨rfl,_,_,rfl,a8 (DY.new g25 _)⟩
 ·refine' am 0 c18 ?_
  refine' aj 1 (br P (d+9) (S:=({S with s:={ae S.s with grid:=(ae S.s).grid.set (ae S.s).row.toNat (ins (ab (ae S.s).grid (ae S.s).row) (ae S.s).col 2 (aa (ae S.s)) (ae S.s).back)}}:Sn)) g14 kg (by apply wc.1)) ?_
  refine' b8 0 (da (S:=({S with s:={ae S.s with grid:=(ae S.s).grid.set (ae S.s).row.toNat (ins (ab (ae S.s).grid (ae S.s).row) (ae S.s).col 2 (aa (ae S.s)) (ae S.s).back)}}:Sn)) P ((ae S.s).row) g14 kg (by apply wc.1)) ?_
  refine' bn 4 (df (S:=({S with s:={ae S.s with grid:=(ae S.s).grid.set (ae S.s).row.toNat (ins (ab (ae S.s).grid (ae S.s).row) (ae S.s).col 2 (aa (ae S.s)) (ae S.s).back)}}:Sn)) P (d+6) ((ae S.s).row) ((ae S.s).col) l (2) ((ae S.s).back) g14 kg (by apply wc.1) (by apply wc.2) (by apply Ne.symm (Int.ne_of_lt (aV [] [] 0x10c031 1))) (by got_up)) fun D30 G31 g28 k29=> ?_
  refine' aU 1 (fu P (S:=({S with s:={ae S.s with grid:=((ae S.s).grid.set (ae S.s).row.toNat (ins (ab (ae S.s).grid (ae S.s).row) (ae S.s).col 2 (aa (ae S.s)) (ae S.s).back)).set (ae S.s).row.toNat (put (ab ((ae S.s).grid.set (ae S.s).row.toNat (ins (ab (ae S.s).grid (ae S.s).row) (ae S.s).col 2 (aa (ae S.s)) (ae S.s).back)) (ae S.s).row) (ae S.s).col {codes:=l,w:=2,back:=(ae S.s).back})}}:Sn)) (d+7) ((ae S.s).col) (2) g28 J) fun D33 G34 g32=> ?_
  refine' ax 2 .none (hp (aB S {eI {ae S.s with grid:=((ae S.s).grid.set (ae S.s).row.toNat (ins (ab (ae S.s).grid (ae S.s).row) (ae S.s).col 2 (aa (ae S.s)) (ae S.s).back)).set (ae S.s).row.toNat (put (ab ((ae S.s).grid.set (ae S.s).row.toNat (ins (ab (ae S.s).grid (ae S.s).row) (ae S.s).col 2 (aa (ae S.s)) (ae S.s).back)) (ae S.s).row) (ae S.s).col ⟨l,2,(ae S.s).back⟩)} (ae S.s).col 2 with last:=l}) {D33 with pLast:=G34.length} (G34++[.list (l.map .int)])) ?_
  exact⟨rfl,_,_,rfl,a8 (DY.new g32 _)⟩
end
noncomputable def fU(v:Vt):Vt:={v with col:=aa v- 1}
section
variable{v:Vt}
theorem fq(I:Inv v)(hc:aa v≤v.col)(h: ¬v.col=v.right+1):(fU v).col<aa (fU v):=by
 have m:=I.mar.2
 have c:=I.cur.2
 show aa v- 1<(if aa v- 1≤v.right then v.right else v.C- 1)
 by_cases q:v.col≤v.right
 ·rw[show aa v=v.right from if_pos q,if_pos (Int.sub_le_self _ (by decide))];exact Int.sub_lt_self _ (by decide)
 ·rw[show aa v=v.C- 1 from if_neg q] at hc⊢
  rw[if_neg (by omega)];exact Int.sub_lt_self _ (by decide)
theorem pj(I:Inv v)(hc:aa v≤v.col)(h:v.col=v.right+1):aa (fU v)≤(fU v).col:=by
 have c:=I.cur.2
 show(if aa v- 1≤v.right then v.right else v.C- 1)≤aa v- 1
 have q: ¬v.col≤v.right:=fun q=>Int.not_le.mpr (Int.lt_add_one_of_le (Int.le_refl _)) (h▸q)
 rw[show aa v=v.C- 1 from if_neg q] at hc⊢
 rw[if_pos (by omega)];omega
theorem gp(I:Inv v):Inv (fU v):=by
 have hl:=dG I
 have hr:=aO I
 exact I.setCol (b:=v.waits) (by apply⟨(aq [_,_] [] 0x23404030 1057 147504 4241 hl.1 hr.2.2.2),(af [_,_] [] 0x908d011 33 4737 hr.2.1)⟩)
end
noncomputable abbrev bQ(v:Vt):Vt:=⟨v.R,v.C,v.row,aa v- 1,v.waits,v.back,v.top,v.bottom,v.left,v.right,v.aw,v.ins,v.near,v.far,v.grid,v.last⟩
section
variable(P:Cw){d:Nat}{S:Sn}{D:Dn}{G:Hp}{F:As}
theorem AI(d:Nat)(l:List Int)(hG:aE G D S F)(I:Inv S.s)(ha:S.s.aw=false)(hc:aa S.s≤S.s.col)(hs:S.s.col=S.s.right+1):Wt (CO P (d+11)) (tb (aL 3 (cc (aL 2 (jk P.K 1030 [.loc 0,.tup (l.map .int),.int 2] (hp S D G))) (.bool false) (hp S D G))) false) (FQ (Sx .none S F)):=by
 have ig:=I.gi
 have id:=I.dim
 have im:=I.mar
 have ic:=I.cur
 have il:=dG I
 have ir:=aO I
 have hk:aa (bQ S.s)≤aa S.s- 1:=pj I hc hs
 refine' aj 1 (bb P (d+8) hG ig (by apply ic.1) (by apply⟨(af [_] [] 131121 33 133680 id.2.1),im.2.2.2⟩)) ?_
 refine' ak 3 (A:=aa S.s≤S.s.col) hc ?_
 refine' aj 1 (cr P (d+10) S D G) ?_
 refine' am 0 (A:=aa S.s- aR S.s<1) (by apply af [_,_] [] 0x11a5013 33 4241 ir.2.2.2) ?_
 refine' aj 4 (bh P (d+10) S D G) ?_
 refine' aD 0 ha ?_
 refine' aj 3 (bb P (d+8) (S:=({S with s:={S.s with col:=aa S.s- 1}}:Sn)) hG ig (by apply ic.1) (by apply⟨(af [_] [] 131121 33 133680 id.2.1),im.2.2.2⟩)) ?_
 refine' ak 2 (A:=aa (bQ S.s)≤aa S.s- 1) hk ?_
 refine' aj 2 (bh P (d+10) ({S with s:={S.s with col:=aa S.s- 1}}:Sn) D G) ?_
 refine' aD 0 ha ?_
 refine' ax 2 (MV.none) (hp S D G) (Sx.mk ‹_› rfl)
theorem yi(d:Nat)(l:List Int)(hG:aE G D S F)(I:Inv S.s)(hi:S.s.ins=false)(ha:S.s.aw=false)(hc:aa S.s≤S.s.col)(hs: ¬S.s.col=S.s.right+1):Wt (CO P (d+11)) (tb (aL 3 (cc (aL 2 (jk P.K 1030 [.loc 0,.tup (l.map .int),.int 2] (hp S D G))) (.bool false) (hp S D G))) false) (FQ (Sx .none (aB S (bM (bQ S.s) l 2)) F)):=by
 have ig:=I.gi
 have id:=I.dim
 have im:=I.mar
 have ic:=I.cur
 have il:=dG I
 have ir:=aO I
 have K:Inv (bQ S.s):=gp I
 have hr1:aa S.s- 1<aa (bQ S.s):=fq I hc hs
 have wr:0≤aa (bQ S.s)∧aa (bQ S.s)<S.s.C:=⟨(aO K).1,(aO K).2.1⟩
 have rc:=ig.rowC (r:=S.s.row) ic.1
 have jg:=ig.setC (r:=S.s.row) (gL (k:=aa S.s- 1) (x:=⟨l,2,S.s.back⟩) rc (by apply⟨(aq [_,_] [] 0x23404030 1057 147504 4241 il.1 ir.2.2.2),(aq [_,_,_] [] 0x908d011 1057 5248 4769 hc ic.2.2)⟩) (Or.inr ⟨rfl,by apply aq [_,_,_] [] 0x484611a0201 1057 5248 4769 hc ic.2.2⟩))
 have J:Inv {S.s with col:=aa S.s- 1,grid:=S.s.grid.set S.s.row.toNat (put (ab S.s.grid S.s.row) (aa S.s- 1) ⟨l,2,S.s.back⟩)}:=K.setGrid jg
 rw[qQ (v:=(bQ S.s)) hi]
 refine' aj 1 (bb P (d+8) hG ig (by apply ic.1) (by apply⟨(af [_] [] 131121 33 133680 id.2.1),im.2.2.2⟩)) ?_
 refine' ak 3 (A:=aa S.s≤S.s.col) hc ?_
 refine' aj 1 (cr P (d+10) S D G) ?_
 refine' am 0 (A:=aa S.s- aR S.s<1) (by apply af [_,_] [] 0x11a5013 33 4241 ir.2.2.2) ?_
 refine' aj 4 (bh P (d+10) S D G) ?_
 refine' aD 0 ha ?_
 refine' aj 3 (bb P (d+8) (S:=({S with s:={S.s with col:=aa S.s- 1}}:Sn)) hG ig (by apply ic.1) (by apply⟨(af [_] [] 131121 33 133680 id.2.1),im.2.2.2⟩)) ?_
 refine' am 2 (A:=aa (bQ S.s)≤aa S.s- 1) (by apply af [_,_] [] 0x11a4284 33 0x808d211 hr1) ?_
 refine' aj 4 (bW P (d+10) ({S with s:={S.s with col:=aa S.s- 1}}:Sn) D G) ?_
 refine' aD 0 hi ?_
 refine' aj 1 (br P (d+9) (S:=({S with s:={S.s with col:=aa S.s- 1}}:Sn)) hG ig (by apply ic.1)) ?_
 refine' b8 0 (da (S:=({S with s:={S.s with col:=aa S.s- 1}}:Sn)) P (S.s.row) hG ig (by apply ic.1)) ?_
 refine' bn 4 (df (S:=({S with s:={S.s with col:=aa S.s- 1}}:Sn)) P (d+6) (S.s.row) (aa S.s- 1) l (2) (S.s.back) hG ig (by apply ic.1) (by apply⟨(aq [_,_] [] 0x23404030 1057 147504 4241 il.1 ir.2.2.2),(aq [_,_,_] [] 0x908d011 1057 5248 4769 hc ic.2.2)⟩) (by apply Ne.symm (Int.ne_of_lt (aV [] [] 0x10c031 1))) (by got_up)) fun D3 G4 g1 k2=> ?_
 refine' aU 1 (fu P (S:=({S with s:={S.s with col:=aa S.s- 1,grid:=S.s.grid.set S.s.row.toNat (put (ab S.s.grid S.s.row) (aa S.s- 1) {codes:=l,w:=2,back:=S.s.back})}}:Sn)) (d+7) (aa S.s- 1) (2) g1 J) fun D6 G7 g5=> ?_
 refine' ax 2 .none (hp (aB S {eI {(bQ S.s) with grid:=((bQ S.s)).grid.set ((bQ S.s)).row.toNat (put (ab ((bQ S.s)).grid ((bQ S.s)).row) ((bQ S.s)).col ⟨l,2,((bQ S.s)).back⟩)} ((bQ S.s)).col 2 with last:=l}) {D6 with pLast:=G7.length} (G7++[.list (l.map .int)])) ?_
 exact⟨rfl,_,_,rfl,a8 (DY.new g5 _)⟩
theorem yj(d:Nat)(l:List Int)(hG:aE G D S F)(I:Inv S.s)(hi:S.s.ins=true)(ha:S.s.aw=false)(hc:aa S.s≤S.s.col)(hs: ¬S.s.col=S.s.right+1):Wt (CO P (d+11)) (tb (aL 3 (cc (aL 2 (jk P.K 1030 [.loc 0,.tup (l.map .int),.int 2] (hp S D G))) (.bool false) (hp S D G))) false) (FQ (Sx .none (aB S (bM (bQ S.s) l 2)) F)):=by
 have ig:=I.gi
 have id:=I.dim
 have im:=I.mar
 have ic:=I.cur
 have il:=dG I
 have ir:=aO I
 have K:Inv (bQ S.s):=gp I
 have hr1:aa S.s- 1<aa (bQ S.s):=fq I hc hs
 have wr:0≤aa (bQ S.s)∧aa (bQ S.s)<S.s.C:=⟨(aO K).1,(aO K).2.1⟩
 have rc:=ig.rowC (r:=S.s.row) ic.1
 have rc2:=fR (many:=2) (b:=S.s.back) rc (show 0≤aa S.s- 1∧aa S.s- 1≤aa (bQ S.s)∧aa (bQ S.s)<S.s.C by apply⟨(aq [_,_] [] 0x23404030 1057 147504 4241 il.1 ir.2.2.2),⟨(af [_,_] [] 0x908d010 33 0x908d011 hr1),wr.2⟩⟩) (by apply⟨(aV [] [] 0x10c031 1),(af [_,_] [] 0x4611a428080430 33 0x808d211 hr1)⟩)
 have kg:=ig.setC (r:=S.s.row) rc2
 have rc3:=kg.rowC (r:=S.s.row) ic.1
 have jg:=kg.setC (r:=S.s.row) (gL (k:=aa S.s- 1) (x:=⟨l,2,S.s.back⟩) rc3 (by apply⟨(aq [_,_] [] 0x23404030 1057 147504 4241 il.1 ir.2.2.2),(aq [_,_,_] [] 0x908d011 1057 5248 4769 hc ic.2.2)⟩) (Or.inr ⟨rfl,by apply aq [_,_,_] [] 0x484611a0201 1057 5248 4769 hc ic.2.2⟩))
 have J:Inv {S.s with col:=aa S.s- 1,grid:=(S.s.grid.set S.s.row.toNat (ins (ab S.s.grid S.s.row) (aa S.s- 1) 2 (aa (bQ S.s)) S.s.back)).set S.s.row.toNat (put (ab (S.s.grid.set S.s.row.toNat (ins (ab S.s.grid S.s.row) (aa S.s- 1) 2 (aa (bQ S.s)) S.s.back)) S.s.row) (aa S.s- 1) ⟨l,2,S.s.back⟩)}:=K.setGrid jg
 rw[qR K hi]
 refine' aj 1 (bb P (d+8) hG ig (by apply ic.1) (by apply⟨(af [_] [] 131121 33 133680 id.2.1),im.2.2.2⟩)) ?_
 refine' ak 3 (A:=aa S.s≤S.s.col) hc ?_
 refine' aj 1 (cr P (d+10) S D G) ?_
 refine' am 0 (A:=aa S.s- aR S.s<1) (by apply af [_,_] [] 0x11a5013 33 4241 ir.2.2.2) ?_
 refine' aj 4 (bh P (d+10) S D G) ?_
 refine' aD 0 ha ?_
 refine' aj 3 (bb P (d+8) (S:=({S with s:={S.s with col:=aa S.s- 1}}:Sn)) hG ig (by apply ic.1) (by apply⟨(af [_] [] 131121 33 133680 id.2.1),im.2.2.2⟩)) ?_
 refine' am 2 (A:=aa (bQ S.s)≤aa S.s- 1) (by apply af [_,_] [] 0x11a4284 33 0x808d211 hr1) ?_
 refine' aj 4 (bW P (d+10) ({S with s:={S.s with col:=aa S.s- 1}}:Sn) D G) ?_
 refine' aD 0 hi ?_
 refine' aj 1 (br P (d+9) (S:=({S with s:={S.s with col:=aa S.s- 1}}:Sn)) hG ig (by apply ic.1)) ?_
 refine' b8 0 (eS (S:=({S with s:={S.s with col:=aa S.s- 1}}:Sn)) P (S.s.row) hG ig (by apply ic.1)) ?_
 refine' bn 2 (fS (S:=({S with s:={S.s with col:=aa S.s- 1}}:Sn)) P (d+5) (S.s.row) (aa S.s- 1) (2) (aa (bQ S.s)) (S.s.back) hG ig (by apply ic.1) (by apply id.2.2) (by apply⟨(aq [_,_] [] 0x23404030 1057 147504 4241 il.1 ir.2.2.2),⟨(af [_,_] [] 0x908d010 33 0x908d011 hr1),wr.2⟩⟩) (by apply⟨(aV [] [] 0x10c031 1),(af [_,_] [] 0x4611a428080430 33 0x808d211 hr1)⟩)) fun D10 G11 g8 k9=> ?_
 refine' aj 3 (iq P (d+9) (S:=({S with s:={S.s with col:=aa S.s- 1,grid:=S.s.grid.set S.s.row.toNat (ins (ab S.s.grid S.s.row) (aa S.s- 1) 2 (aa (bQ S.s)) S.s.back)}}:Sn)) (S.s.row) g8 kg (by apply ic.1)) ?_
 refine' bc (aa (bQ S.s)=(setRow {s:=(bQ S.s),w:=S.w,signs:=S.signs,deck:=S.deck,place:=S.place} S.s.row (ins (ab S.s.grid S.s.row) (aa S.s- 1) 2 (aa (bQ S.s)) S.s.back)).s.C- 1) (fun c12=> ?_) (fun c12=> ?_)
 ·refine' ak 0 c12 ?_
  refine' aj 1 (br P (d+9) (S:=({S with s:={S.s with col:=aa S.s- 1,grid:=S.s.grid.set S.s.row.toNat (ins (ab S.s.grid S.s.row) (aa S.s- 1) 2 (aa (bQ S.s)) S.s.back)}}:Sn)) g8 kg (by apply ic.1)) ?_
  refine' gK 0 (lJ (S:=({S with s:={S.s with col:=aa S.s- 1,grid:=S.s.grid.set S.s.row.toNat (ins (ab S.s.grid S.s.row) (aa S.s- 1) 2 (aa (bQ S.s)) S.s.back)}}:Sn)) P (S.s.row) false g8 kg (by apply ic.1)) fun G14 g13=> ?_
  refine' aj 1 (br P (d+9) (S:=({S with s:={S.s with col:=aa S.s- 1,grid:=S.s.grid.set S.s.row.toNat (ins (ab S.s.grid S.s.row) (aa S.s- 1) 2 (aa (bQ S.s)) S.s.back)}}:Sn)) g13 kg (by apply ic.1)) ?_
  refine' b8 0 (da (S:=({S with s:={S.s with col:=aa S.s- 1,grid:=S.s.grid.set S.s.row.toNat (ins (ab S.s.grid S.s.row) (aa S.s- 1) 2 (aa (bQ S.s)) S.s.back)}}:Sn)) P (S.s.row) g13 kg (by apply ic.1)) ?_
  refine' bn 4 (df (S:=({S with s:={S.s with col:=aa S.s- 1,grid:=S.s.grid.set S.s.row.toNat (ins (ab S.s.grid S.s.row) (aa S.s- 1) 2 (aa (bQ S.s)) S.s.back)}}:Sn)) P (d+6) (S.s.row) (aa S.s- 1) l (2) (S.s.back) g13 kg (by apply ic.1) (by apply⟨(aq [_,_] [] 0x23404030 1057 147504 4241 il.1 ir.2.2.2),(aq [_,_,_] [] 0x908d011 1057 5248 4769 hc ic.2.2)⟩) (by apply Ne.symm (Int.ne_of_lt (aV [] [] 0x10c031 1))) (by got_up)) fun D17 G18 g15 k16=> ?_
  refine' aU 1 (fu P (S:=({S with s:={S.s with col:=aa S.s- 1,grid:=(S.s.grid.set S.s.row.toNat (ins (ab S.s.grid S.s.row) (aa S.s- 1) 2 (aa (bQ S.s)) S.s.back)).set S.s.row.toNat (put (ab (S.s.grid.set S.s.row.toNat (ins (ab S.s.grid S.s.row) (aa S.s- 1) 2 (aa (bQ S.s)) S.s.back)) S.s.row) (aa S.s- 1) {codes:=l,w:=2,back:=S.s.back})}}:Sn)) (d+7) (aa S.s- 1) (2) g15 J) fun D20 G21 g19=> ?_
  refine' ax 2 .none (hp (aB S {eI {(bQ S.s) with grid:=(((bQ S.s)).grid.set ((bQ S.s)).row.toNat (ins (ab ((bQ S.s)).grid ((bQ S.s)).row) ((bQ S.s)).col 2 (aa ((bQ S.s))) ((bQ S.s)).back)).set ((bQ S.s)).row.toNat (put (ab (((bQ S.s)).grid.set ((bQ S.s)).row.toNat (ins (ab ((bQ S.s)).grid ((bQ S.s)).row) ((bQ S.s)).col 2 (aa ((bQ S.s))) ((bQ S.s)).back)) ((bQ S.s)).row) ((bQ S.s)).col ⟨l,2,((bQ S.s)).back⟩)} ((bQ S.s)).col 2 with last:=l}) {D20 with pLast:=G21.length} (G21++[.list (l.map .int)])) ?_
  exact⟨rfl,_,_,rfl,a8 (DY.new g19 _)⟩
 ·refine' am 0 c12 ?_
  refine' aj 1 (br P (d+9) (S:=({S with s:={S.s with col:=aa S.s- 1,grid:=S.s.grid.set S.s.row.toNat (ins (ab S.s.grid S.s.row) (aa S.s- 1) 2 (aa (bQ S.s)) S.s.back)}}:Sn)) g8 kg (by apply ic.1)) ?_
  refine' b8 0 (da (S:=({S with s:={S.s with col:=aa S.s- 1,grid:=S.s.grid.set S.s.row.toNat (ins (ab S.s.grid S.s.row) (aa S.s- 1) 2 (aa (bQ S.s)) S.s.back)}}:Sn)) P (S.s.row) g8 kg (by apply ic.1)) ?_
  refine' bn 4 (df (S:=({S with s:={S.s with col:=aa S.s- 1,grid:=S.s.grid.set S.s.row.toNat (ins (ab S.s.grid S.s.row) (aa S.s- 1) 2 (aa (bQ S.s)) S.s.back)}}:Sn)) P (d+6) (S.s.row) (aa S.s- 1) l (2) (S.s.back) g8 kg (by got_up) (by got_up) (by got_up) (by got_up)) fun D24 G25 g22 k23=> ?_
  refine' aU 1 (fu P (S:=({S with s:={S.s with col:=aa S.s- 1,grid:=(S.s.grid.set S.s.row.toNat (ins (ab S.s.grid S.s.row) (aa S.s- 1) 2 (aa (bQ S.s)) S.s.back)).set S.s.row.toNat (put (ab (S.s.grid.set S.s.row.toNat (ins (ab S.s.grid S.s.row) (aa S.s- 1) 2 (aa (bQ S.s)) S.s.back)) S.s.row) (aa S.s- 1) {codes:=l,w:=2,back:=S.s.back})}}:Sn)) (d+7) (aa S.s- 1) (2) g22 J) fun D27 G28 g26=> ?_
  refine' ax 2 .none (hp (aB S {eI {(bQ S.s) with grid:=(((bQ S.s)).grid.set ((bQ S.s)).row.toNat (ins (ab ((bQ S.s)).grid ((bQ S.s)).row) ((bQ S.s)).col 2 (aa ((bQ S.s))) ((bQ S.s)).back)).set ((bQ S.s)).row.toNat (put (ab (((bQ S.s)).grid.set ((bQ S.s)).row.toNat (ins (ab ((bQ S.s)).grid ((bQ S.s)).row) ((bQ S.s)).col 2 (aa ((bQ S.s))) ((bQ S.s)).back)) ((bQ S.s)).row) ((bQ S.s)).col ⟨l,2,((bQ S.s)).back⟩)} ((bQ S.s)).col 2 with last:=l}) {D27 with pLast:=G28.length} (G28++[.list (l.map .int)])) ?_
  exact⟨rfl,_,_,rfl,a8 (DY.new g26 _)⟩
end
section
variable{v:Vt}{l:List Int}
theorem qU(I:Inv v)(h:v.waits=true∧v.aw=true):aT v l 2=bM (ae v) l 2:=by
 have:=dw I
 unfold aT;simp only[if_pos h];rw[if_neg (fun q=>absurd q.2 (by exact af [_,_] [] 4740 33 4241 this))]
theorem mV(h: ¬(v.waits=true∧v.aw=true))(hc:v.col<aa v):aT v l 2=bM v l 2:=by
 unfold aT;simp only[if_neg h];rw[if_neg (fun q=>absurd q.2 (by exact af [_,_] [] 4740 33 4241 hc))]
theorem qV(h: ¬(v.waits=true∧v.aw=true))(hc:aa v≤v.col)(ha:v.aw=true):aT v l 2=bM (ae v) l 2:=by
 unfold aT;simp only[if_neg h];rw[if_pos ⟨trivial,hc⟩,if_pos ha]
theorem qW(h: ¬(v.waits=true∧v.aw=true))(hc:aa v≤v.col)(ha:v.aw=false)(hs:v.col=v.right+1):aT v l 2=v:=by
 unfold aT;simp only[if_neg h];rw[if_pos ⟨trivial,hc⟩,if_neg (by rw[ha];exact Bool.false_ne_true),if_pos hs]
theorem qX(h: ¬(v.waits=true∧v.aw=true))(hc:aa v≤v.col)(ha:v.aw=false)(hs: ¬v.col=v.right+1):aT v l 2=bM {v with col:=aa v- 1} l 2:=by
 unfold aT;simp only[if_neg h];rw[if_pos ⟨trivial,hc⟩,if_neg (by rw[ha];exact Bool.false_ne_true),if_neg hs]
end
section
variable(P:Cw){d:Nat}{S:Sn}{D:Dn}{G:Hp}{F:As}
noncomputable abbrev zo(P:Cw)(S:Sn)(D:Dn)(G:Hp)(l:List Int):Tr:=tb (aL 3 (cc (aL 2 (jk P.K 1030 [.loc 0,.tup (l.map .int),.int 2] (hp S D G))) (.bool false) (hp S D G))) false
theorem qY(d:Nat)(l:List Int)(hG:aE G D S F)(I:Inv S.s)(hn: ¬(S.s.waits=true∧S.s.aw=true)):Wt (CO P (d+11)) (zo P S D G l) (FQ (Sx .none (aB S (aT S.s l 2)) F)):=by
 rcases Int.lt_or_le S.s.col (aa S.s) with hc|hc
 ·rw[mV hn hc]
  cases hi:S.s.ins with
  |true=>exact nV P d l hG I hi hc
  |false=>exact qS P d l hG I hi hc
 ·cases ha:S.s.aw with
  |true=>
   rw[qV hn hc ha]
   cases hi:S.s.ins with
   |true=>exact yh P d l hG I hi ha hc
   |false=>exact yg P d l hG I hi ha hc
  |false=>
   rcases Int.decEq S.s.col (S.s.right+1) with hs|hs
   ·rw[qX hn hc ha hs]
    rcases Bool.eq_false_or_eq_true S.s.ins with hi|hi
    ·exact yj P d l hG I hi ha hc hs
    ·exact yi P d l hG I hi ha hc hs
   ·rw[qW hn hc ha hs]
    exact AI P d l hG I ha hc hs
theorem yk(d:Nat)(l:List Int)(hG:aE G D S F)(I:Inv S.s)(hc:S.s.col<aa S.s):Wt (CO P (d+11)) (zo P S D G l) (FQ (Sx .none (aB S (bM S.s l 2)) F)):=by
 cases hi:S.s.ins with
 |true=>exact nV P d l hG I hi hc
 |false=>exact qS P d l hG I hi hc
theorem yl(d:Nat)(l:List Int)(hG:aE G D S F)(I:Inv S.s):Ca (CO P (d+12)) 1030 [.loc 0,.tup (l.map .int),.int 2] (hp S D G) (Sx .none (aB S (aT S.s l 2)) F):=by
 refine' use ?_
 refine' aj 2 (vq P (d+9) hG I) ?_
 refine' fz (S.s.waits) (fun hw=> ?_) (fun hw=> ?_)
 ·refine' aD 3 hw ?_
  refine' aj 2 (bh P (d+10) S D G) ?_
  refine' fz (S.s.aw) (fun ha=> ?_) (fun ha=> ?_)
  ·rw[qU I ⟨hw,ha⟩]
   refine' aD 0 ha ?_
   refine' aU 1 (mK P d hG I) fun D2 G3 g1=> ?_
   refine' eV 0 (yk P d l (S:=aB S (ae S.s)) g1 (dH I) (dw I))
  ·have hn: ¬(S.s.waits=true∧S.s.aw=true):=fun q=>by rw[ha] at q;exact Bool.false_ne_true q.2
   refine' aD 0 ha ?_
   refine' eV 0 (qY P d l hG I hn)
 ·have hn: ¬(S.s.waits=true∧S.s.aw=true):=fun q=>by rw[hw] at q;exact Bool.false_ne_true q.1
  refine' aD 3 hw ?_
  refine' qY P d l hG I hn
theorem pn(d:Nat)(l:List Int)(w:Int)(hw:w=1∨w=2)(hG:aE G D S F)(I:Inv S.s):Ca (CO P (d+12)) 1030 [.loc 0,.tup (l.map .int),.int w] (hp S D G) (Sx .none (aB S (aT S.s l w)) F):=by
 rcases hw with rfl|rfl
 ·exact yf P d l hG I
 ·exact yl P d l hG I
theorem ym{c:Int}(h: ¬gV c=0):gV c=1∨gV c=2:=by
 unfold gV at h⊢
 split at h
 ·exact absurd rfl h
 ·split
  ·contradiction
  ·split<;>simp
theorem vI(d:Nat)(c:Int)(hG:aE G D S F)(I:Inv S.s)(h: ¬gV c=0):Ca (CO P (d+13)) 995 [.loc 0,.int c] (hp S D G) (Sx .none (aB S (aT S.s [c] (gV c))) F):=by
 have e:=fun D2 G3 (g:aE G3 D2 S F)=>pn P d [c] (gV c) (ym h) g I
 refine' use ?_
 refine' aU 3 (kS P (d+9) c hG) fun D2 G3 g1=> ?_
 refine' aj 2 (jP P (d+10) S D2 G3 c) ?_
 refine' am 0 (A:=gV c=0) h ?_
 refine' aj 2 (eF P (d+11) S D2 G3) ?_
 refine' aU 2 (e D2 G3 g1) fun D4 G4 g4=> ?_
 refine' ax 0 .none (hp (aB S (aT S.s [c] (gV c))) D4 G4) (Sx.mk ‹_› rfl)
theorem vJ(d:Nat)(c:Int)(hG:aE G D S F)(I:Inv S.s)(h0:gV c=0)(h:cK S.s)(hk:0≤az S.s∧az S.s<S.s.C)(hl:(cellOf S.s (az S.s)).codes.length<3000)(hw:(cellOf S.s (az S.s)).w≠0)(hw2: ¬((cellOf S.s (az S.s)).w=2∧az S.s+1=S.s.C)):Ca (CO P (d+8)) 995 [.loc 0,.int c] (hp S D G) (Sx .none (aB S (kT S.s c)) F):=by
 have e:=fun D2 G3 (g:aE G3 D2 S F)=>vF P d c g I h hk hl hw hw2
 refine' use ?_
 refine' aU 3 (kS P (d+4) c hG) fun D2 G3 g1=> ?_
 refine' aj 2 (jP P (d+5) S D2 G3 c) ?_
 refine' ak 0 (A:=gV c=0) h0 ?_
 refine' aU 1 (e D2 G3 g1) fun D4 G4 g4=> ?_
 refine' ax 0 .none (hp (aB S (kT S.s c)) D4 G4) (Sx.mk ‹_› rfl)
theorem vK(d:Nat)(c:Int)(hG:aE G D S F)(I:Inv S.s)(h0:gV c=0)(h: ¬cK S.s):Ca (CO P (d+8)) 995 [.loc 0,.int c] (hp S D G) (Sx .none S F):=by
 have e:=fun D2 G3 (g:aE G3 D2 S F)=>vG P d c g I h
 refine' use ?_
 refine' aU 3 (kS P (d+4) c hG) fun D2 G3 g1=> ?_
 refine' aj 2 (jP P (d+5) S D2 G3 c) ?_
 refine' ak 0 (A:=gV c=0) h0 ?_
 refine' aj 1 (e D2 G3 g1) ?_
 refine' ax 0 .none (hp S D2 G3) (Sx.mk g1 rfl)
theorem i5(d:Nat)(S:Sn)(D:Dn)(G:Hp):Ca (CO P (d+1)) 1245 [.str "autowrap"] (hp S D G) (bU (.tup []) (hp S D G)):=by
 refine' use ?_
 refine' ax 2 (MV.tup []) (hp S D G) (⟨rfl,rfl⟩)
theorem kU(d:Nat)(S:Sn)(D:Dn)(G:Hp):Ca (CO P (d+1)) 1245 [.str "insert"] (hp S D G) (bU (.tup []) (hp S D G)):=by
 refine' use ?_
 refine' ax 2 (MV.tup []) (hp S D G) (⟨rfl,rfl⟩)
theorem fV(d:Nat)(S:Sn)(D:Dn)(G:Hp):Ca (CO P (d+1)) 1245 [.str "reverse_wrap"] (hp S D G) (bU (.tup []) (hp S D G)):=by
 refine' use ?_
 refine' ax 2 (MV.tup []) (hp S D G) (⟨rfl,rfl⟩)
theorem eJ(d:Nat)(S:Sn)(D:Dn)(G:Hp):Ca (CO P (d+1)) 1245 [.str "reverse_wrap_far"] (hp S D G) (bU (.tup []) (hp S D G)):=by
 refine' use ?_
 refine' ax 2 (MV.tup []) (hp S D G) (⟨rfl,rfl⟩)
theorem vL(d:Nat)(b:Bool)(hG:aE G D S F):Ca (CO P (d+2)) 1273 [.loc 8,.str "autowrap",.bool b] (hp S D G) (Sx .none (aB S {S.s with aw:=b}) F):=by
 refine' use ?_
 refine' fz (b) (fun c1=> ?_) (fun c1=> ?_)
 ·refine' aD 0 c1 ?_
  refine' aj 0 (i5 P d S D G) ?_
  refine' ax 3 .none (hp ({S with s:={S.s with aw:=b}}:Sn) D G) (Sx.mk ‹_› rfl)
 ·refine' aD 0 c1 ?_
  refine' ax 2 .none (hp ({S with s:={S.s with aw:=b}}:Sn) D G) (Sx.mk ‹_› rfl)
theorem sM(d:Nat)(b:Bool)(hG:aE G D S F):Ca (CO P (d+2)) 1273 [.loc 8,.str "insert",.bool b] (hp S D G) (Sx .none (aB S {S.s with ins:=b}) F):=by
 refine' use ?_
 refine' fz (b) (fun c2=> ?_) (fun c2=> ?_)
 ·refine' aD 0 c2 ?_
  refine' aj 0 (kU P d S D G) ?_
  refine' ax 3 .none (hp ({S with s:={S.s with ins:=b}}:Sn) D G) (Sx.mk ‹_› rfl)
 ·refine' aD 0 c2 ?_
  refine' ax 2 .none (hp ({S with s:={S.s with ins:=b}}:Sn) D G) (Sx.mk ‹_› rfl)
theorem po(d:Nat)(b:Bool)(hG:aE G D S F):Ca (CO P (d+2)) 1273 [.loc 8,.str "reverse_wrap",.bool b] (hp S D G) (Sx .none (aB S {S.s with near:=b}) F):=by
 refine' use ?_
 refine' fz (b) (fun c3=> ?_) (fun c3=> ?_)
 ·refine' aD 0 c3 ?_
  refine' aj 0 (fV P d S D G) ?_
  refine' ax 3 .none (hp ({S with s:={S.s with near:=b}}:Sn) D G) (Sx.mk ‹_› rfl)
 ·refine' aD 0 c3 ?_
  refine' ax 2 .none (hp ({S with s:={S.s with near:=b}}:Sn) D G) (Sx.mk ‹_› rfl)
theorem sN(d:Nat)(b:Bool)(hG:aE G D S F):Ca (CO P (d+2)) 1273 [.loc 8,.str "reverse_wrap_far",.bool b] (hp S D G) (Sx .none (aB S {S.s with far:=b}) F):=by
 refine' use ?_
 refine' fz (b) (fun c4=> ?_) (fun c4=> ?_)
 ·refine' aD 0 c4 ?_
  refine' aj 0 (eJ P d S D G) ?_
  refine' ax 3 .none (hp ({S with s:={S.s with far:=b}}:Sn) D G) (Sx.mk ‹_› rfl)
 ·refine' aD 0 c4 ?_
  refine' ax 2 .none (hp ({S with s:={S.s with far:=b}}:Sn) D G) (Sx.mk ‹_› rfl)
theorem qZ(d:Nat)(S:Sn)(D:Dn)(G:Hp):Ca (CO P (d+1)) 1308 [.loc 15] (hp S D G) (bU (.int (aR S.w)) (hp S D G)):=by
 refine' use ?_
 refine' bc (S.w.left≤S.w.col) (fun c1=> ?_) (fun c1=> ?_)
 ·refine' ak 2 c1 ?_
  refine' ax 1 (MV.int S.w.left) (hp S D G) (⟨cA MV.int (by unfold aR;rw[if_pos c1]),rfl⟩)
 ·refine' am 2 c1 ?_
  refine' ax 0 (MV.int 0) (hp S D G) (⟨cA MV.int (by unfold aR;rw[if_neg c1]),rfl⟩)
theorem AJ(d:Nat)(S:Sn)(D:Dn)(G:Hp):Ca (CO P (d+1)) 1315 [.loc 15] (hp S D G) (bU (.int (if S.w.col≤S.w.right then S.w.right else S.w.C- 1)) (hp S D G)):=by
 refine' use ?_
 refine' bc (S.w.col≤S.w.right) (fun c2=> ?_) (fun c2=> ?_)
 ·refine' ak 2 c2 ?_
  refine' ax 1 (MV.int S.w.right) (hp S D G) (⟨cA MV.int (by rw[if_pos c2]),rfl⟩)
 ·refine' am 2 c2 ?_
  refine' ax 1 (MV.int (S.w.C- 1)) (hp S D G) (⟨cA MV.int (by rw[if_neg c2]),rfl⟩)
theorem EC(d:Nat)(S:Sn)(D:Dn)(G:Hp)(b:Int):Ca (CO P (d+1)) 1294 [.int b] (hp S D G) (bU (bare b).mv (hp S D G)):=by
 refine' use ?_
 refine' ax 0 (MV.tup [MV.tup [],MV.int 1,MV.tup [MV.int 0,MV.int (-1),MV.int b,MV.int (-1),MV.int 0],MV.bool false]) (hp S D G) (⟨rfl,rfl⟩)
end
noncomputable abbrev aJ(S:Sn)(v:Vt):Sn:={S with w:=v}
noncomputable abbrev dq(S:Sn)(r:Int)(cs:ar):Sn:={S with w:={S.w with grid:=S.w.grid.set r.toNat cs}}
noncomputable def b7(u:MV)(S':Sn)(D:Dn)(F:As):QE:=fun v H'=>v=u∧ ∃G',H'=hp S' D G'∧aE G' D S' F
noncomputable def bD(D:Dn)(r:Int):Nat:=D.lrows.getD r.toNat 0
section
variable{O:dJ}{t:Tr}{Q:QS}{S S':Sn}{D:Dn}{G:Hp}{F:As}{R C r:Int}{u:MV}
theorem b7.mk(h:aE G D S F)(e:S=S'):b7 u S' D F u (hp S D G):=⟨rfl,G,e▸rfl,e▸h⟩
theorem b7.sx{v:MV}{H:Hp}(h:b7 u S' D F v H):Sx u S' F v H:=by obtain⟨a,G',b,c⟩:=h;exact⟨a,D,G',b,c⟩
theorem a7(n:Nat){a:Addr}{vs:List MV}{H:Hp}(e:Ca O a vs H (b7 u S' D F))(r: ∀G',aE G' D S' F→Wt O (cc (aL n t) u (hp S' D G')) Q)(hr:hc (aL n t)=some (a,vs,H):=by kernel_rfl):Wt O t Q:=
 gv n e (fun v H' h=>by
  obtain⟨rfl,G',rfl,h⟩:=h
  exact r G' h) hr
theorem lN(hG:aE G D S F)(I:GI R C S.w.grid)(h:0≤r∧r<R):D.lrows[r.toNat]?=some (bD D r):=by
 have h8:=I.len
 have h9:=hG.l2
 unfold bD
 rw[gD,gE (by omega)];rfl
theorem dI(hG:aE G D S F)(I:GI R C S.w.grid)(h:0≤r∧r<R):(hp S D G)[bD D r+28]?=some (au (ab S.w.grid r)):=by
 obtain⟨rest,p1,_⟩:=DY.row hG (lN hG I h) (I.at h)
 exact(hG.sat.perm p1).hd
theorem fW(cs:ar)(hG:aE G D S F)(I:GI R C S.w.grid)(h:0≤r∧r<R):aE (G.set (bD D r) (au cs)) D (dq S r cs) F:=by
 obtain⟨rest,p1,p2⟩:=DY.row hG (lN hG I h) (I.at h)
 exact⟨(hG.sat.perm p1).hset.perm (p2 cs).symm,hG.l1,by rw[List.length_set];exact hG.l2⟩
theorem CG{c:Cw}{d:Nat}{f:Addr}{args:List MV}{cs':ar}(hG:aE G D S F)(I:GI R C S.w.grid)(h:0≤r∧r<R)
  (sp: ∀ (H:Hp) (F:As),Sat H ((bD D r+28,au (ab S.w.grid r))::F)→Ca (CO c d) f args H fun v H'=>v= .none∧Sat H' ((bD D r+28,au cs')::F)):
  Ca (CO c d) f args (hp S D G) (b7 .none (dq S r cs') D F):=by
 obtain⟨rest,p1,p2⟩:=DY.row hG (lN hG I h) (I.at h)
 refine(sp (hp S D G) _ (hG.sat.perm p1).lift).mono fun v H' ⟨e,q⟩=>⟨e,H'.drop 28,?_⟩
 obtain⟨e2,h6⟩:=Sat.lower (S:=S) (D:=D) (A:=(bD D r,au cs')::rest) q
 exact⟨e2,h6.perm (p2 cs').symm,hG.l1,by rw[List.length_set];exact hG.l2⟩
end
section
variable(P:Cw){d:Nat}{H:Hp}{A F:As}{n c:Nat}{cs us:ar}{k b:Int}
theorem gq(d:Nat)(H:Hp)(b:Int):Ca (CO P (d+1)) 1294 [.int b] H fun v H'=>v=(bare b).mv∧H'=H:=use (rY 0)
theorem yn{cs:ar}{k:Int}(h:0<k∧k<cs.length)(x:Cell):cs.take (k- 1).toNat++[x,x]++cs.drop (k+1).toNat=(cs.set (k- 1).toNat x).set k.toNat x:=by
 obtain⟨j,rfl⟩: ∃j:Nat,k=j+1:=⟨(k- 1).toNat,by apply af [_] [_] 0x23814082 558561 0x23406052 (tN (af [_] [] 0x23404030 33 131121 h.1))⟩
 rw[show((j:Int)+1- 1).toNat=j by apply af [] [_,_] 8970 493089 0x2308e25006052 (tN (aV [] [_] 0x2308e05004030 1)),show((j:Int)+1).toNat=j+1 by apply af [] [_,_] 0x11c410a 493089 0x471282052 (tN (aV [] [_] 0x470280030 1)),show((j:Int)+1+1).toNat=j+2 by apply af [] [_,_] 0x21c410a 493089 0x2308e25002052 (tN (aV [] [_] 0x2308e05000030 1))]
 refine List.ext_getElem? fun i=> ?_
 have hl:j+1<cs.length:=by apply af [] [_,_] 0x1108e009 33 0x44a11c0a01 h.2
 simp only[List.getElem?_append,List.getElem?_set,List.getElem?_take,List.getElem?_drop,lT,List.length_append,List.length_cons,List.length_nil,List.length_set]
 rcases Nat.lt_trichotomy i j with q|q|q
 ·rw[if_pos (by apply aq [] [_,_,_] 0x46118060044109 15393 9481 9498 q (mL (af [] [_,_] 8968 33 0x44a11c0a01 h.2))),if_pos (by apply aq [] [_,_,_] 8969 15393 9481 9498 q (mL (af [] [_,_] 8968 33 0x44a11c0a01 h.2))),if_pos (by apply q),if_neg (by apply Ne.symm (Nat.ne_of_lt (af [] [_,_] 0x11c4109 33 8969 q))),if_neg (by apply Ne.symm (Nat.ne_of_lt q))]
 ·subst q
  rw[if_pos (by apply af [] [_,_] 0x46118060044109 481 8474 (mL (af [] [_,_] 8968 33 0x44a11c0a01 h.2))),if_neg (by apply af [] [_,_] 8971 545 8474 (mL (af [] [_,_] 8968 33 0x44a11c0a01 h.2))),if_neg (by apply Ne.symm (Nat.ne_of_lt (aV [] [_] 0x11c0109 1))),if_pos rfl,if_pos (by apply af [] [_,_] 8969 33 0x44a11c0a01 h.2),show i- min i cs.length=0 by apply aq [] [_,_,_] 1802 0x2100c5e1 9498 0x44b2286052 (mL (af [] [_,_] 8968 33 0x44a11c0a01 h.2)) (oS (af [] [_,_] 8968 545 8970 (mL (af [] [_,_] 8968 33 0x44a11c0a01 h.2))))];rfl
 ·by_cases e:i=j+1
  ·subst e
   rw[if_pos (by apply af [] [_,_] 0x2308c030022008e009 481 8474 (mL (af [] [_,_] 8968 33 0x44a11c0a01 h.2))),if_neg (by apply af [] [_,_] 0x1108e00b 545 8474 (mL (af [] [_,_] 8968 33 0x44a11c0a01 h.2))),if_pos rfl,if_pos (by apply hl),show j+1- min j cs.length=1 by apply aq [] [_,_,_] 18186 0x1f10c5e1 9498 0x22508e40286052 (mL (af [] [_,_] 8968 33 0x44a11c0a01 h.2)) (oS (af [] [_,_] 0x11c4108 545 8970 (mL (af [] [_,_] 8968 33 0x44a11c0a01 h.2))))];rfl
  ·rw[if_neg (by apply aq [] [_,_,_] 0x4611806004410b 1569 9498 0x1008e409 (mL (af [] [_,_] 8968 33 0x44a11c0a01 h.2)) (Nat.lt_of_le_of_ne (af [] [_,_] 0x1108e008 33 8969 q) (Ne.symm e))),if_neg (by apply Nat.ne_of_lt (Nat.lt_of_le_of_ne (af [] [_,_] 0x1108e008 33 8969 q) (Ne.symm e))),if_neg (by apply Nat.ne_of_lt q),show j+2+(i- (min j cs.length+(0+1+1)))=i by apply aq [] [_,_,_,_] 0x4a221c000a 0x1f10c5e1 8506 0x8c2300c00980b2286252 (mL (af [] [_,_] 8968 33 0x44a11c0a01 h.2)) (oS (aq [] [_,_,_] 0x442308c03002008 1569 9482 0x1108e409 (mL (af [] [_,_] 8968 33 0x44a11c0a01 h.2)) (Nat.lt_of_le_of_ne (af [] [_,_] 0x1108e008 33 8969 q) (Ne.symm e))))]
theorem yo(d:Nat)(k:Int)(h:Sat H ((n,au cs)::F))(hl:cs.length≤1000):Ca (CO P (d+2)) 1301 [.loc n,.int k] H (fun v H'=>v= .none∧Sat H' ((n,au (a9 cs k))::F)):=by
 refine' use ?_
 refine' bc (0<k) (fun c1=> ?_) (fun c1=> ?_)
 ·refine' ak 0 c1 ?_
  refine' aY 0 (ij (Sat.hd h)) ?_
  refine' bc (k< ↑(List.length cs)) (fun c2=> ?_) (fun c2=> ?_)
  ·refine' ak 0 c2 ?_
   refine' aK 0 (gT k (Sat.hd h) (by apply⟨(af [_] [] 131120 33 131121 c1),c2⟩)) ?_
   refine' bc ((ah cs k).w=0) (fun c3=> ?_) (fun c3=> ?_)
   ·refine' ak 1 c3 ?_
    refine' aK 0 (gT k (Sat.hd h) (by apply⟨(af [_] [] 131120 33 131121 c1),c2⟩)) ?_
    refine' aj 2 (gq P d H ((ah cs k).back)) ?_
    have h1:=(h.new (o:=au [bare (ah cs k).back])).tail.new (o:=au (List.replicate 2 (bare (ah cs k).back)))
    have hn:=(gS h.hd).1
    have e0:(H++[au [bare (ah cs k).back]])[H.length]?=some (.list [(bare (ah cs k).back).mv]):=by rw[List.getElem?_append_right (Nat.le_refl _),Nat.sub_self];rfl
    have e1:a9 cs k=cs.take (k- 1).toNat++List.replicate 2 (bare (ah cs k).back)++cs.drop (k+1).toNat:=(if_pos ⟨c1,c2,c3⟩).trans (yn ⟨c1,c2⟩ _).symm
    refine' aY 0 (xN (H:=H++[au [bare (ah cs k).back]]) (n:=H.length) 2 (ah cs k).back e0 (by apply⟨(aV [] [] 0x10c030 1),(aV [] [] 0x3e8110430 1)⟩)) ?_
    refine' bf 0 (ao h1.tail.hd) ?_
    refine' bf 0 (ao h1.hd) ?_
    refine' hZ 0 (A:=n≠ (H++[au [bare (ah cs k).back]]).length) (by rw[List.length_append];apply Nat.ne_of_lt (af [] [_,_,_] 0x944109 33 8969 hn)) ?_
    refine' bf 0 (cq (k- 1) (k+1) (List.replicate 2 (bare (ah cs k).back)) cs (by apply⟨(af [_] [] 0x23404030 33 131121 c1),⟨(aV [_] [] 0x8d0008d010 1),(af [_] [_] 0x20508d000 33 264833 c2)⟩⟩) (by simp;apply af [] [_] 0x7cf0c908 33 0x1f408908 hl)) ?_
    refine' ax 0 .none (List.set (H++[au [bare (ah cs k).back]]++[au (List.replicate 2 (bare (ah cs k).back))]) n (au (List.take (k- 1).toNat cs++List.replicate 2 (bare (ah cs k).back)++List.drop (k+1).toNat cs))) ⟨rfl,by rw[e1];exact h1.tail.hset⟩
   ·refine' am 1 c3 ?_
    refine' ax 0 .none H ⟨rfl,by rw[eE (mt (fun q=>q.2.2) c3)];exact h⟩
  ·refine' am 0 c2 ?_
   refine' ax 0 .none H ⟨rfl,by rw[eE (mt (fun q=>q.2.1) c2)];exact h⟩
 ·refine' am 0 c1 ?_
  refine' ax 0 .none H ⟨rfl,by rw[eE (mt And.left c1)];exact h⟩
end
section
variable(P:Cw){d:Nat}{S:Sn}{D:Dn}{G:Hp}{F:As}{R C r:Int}
theorem cw(d:Nat)(k:Int)(hG:aE G D S F)(I:GI R C S.w.grid)(h:0≤r∧r<R)(hC:C≤8):Ca (CO P (d+2)) 1301 [.loc (bD D r+28),.int k] (hp S D G) (b7 .none (dq S r (a9 (ab S.w.grid r) k)) D F):=
 CG hG I h fun H F q=>yo P d k q (by have:=I.rlen h;apply aq [_] [_] 0x1f408908 17441 132736 139346 hC this)
end
section
variable(P:Cw){d:Nat}{S:Sn}{D:Dn}{G:Hp}{F:As}
theorem q8(H:Hp)(a b:Int)(h:0<b):cB H .Mod (.int a) (.int b)=some (.int (a.fmod b),H):=B5 h
theorem q9(H:Hp)(a b:Int)(h:(-1000000000000≤a∧a≤1000000000000)∧0<b∧b≤1000000000000):cB H .FloorDiv (.int a) (.int b)=some (.int (a.fdiv b),H):=B6 (dA h.1) h.2.1 (dA (by apply⟨(af [_] [] 0x4746a52880020820 33 131121 h.2.1),h.2.2⟩))
theorem ra(H:Hp)(a b:Int)(h:(-1000000000000≤a∧a≤1000000000000)∧ -1000000000000≤b∧b≤1000000000000):cB H .Mult (.int a) (.int b)=some (.int (a*b),H):=B7 (dA h.1) (dA h.2)
noncomputable def iI(S:Sn)(b:Int):Int:=(if S.place<S.deck.length then S.deck.getD S.place.toNat 0 else S.place*5+S.place.fdiv 3).fmod b
noncomputable abbrev eW(S:Sn):Sn:={S with place:=S.place+1}
theorem mX{b:Int}(S:Sn)(h:0<b):0≤iI S b∧iI S b<b:=⟨Int.fmod_nonneg_of_pos _ h,Int.fmod_lt_of_pos _ h⟩
theorem yp(S:Sn)(D:Dn)(G:Hp)(k:Int)(h:0≤k∧k<S.deck.length):eC (hp S D G) (.loc 20) (.int k)=some (.int (S.deck.getD k.toNat 0)):=
 ew (l:=S.deck.map .int) (j:=k.toNat) rfl (fN (by rw[lM];exact h)) (by
  have:k.toNat<S.deck.length:=by apply aq [_] [_,_] 8969 17441 281217 139346 h.2 (tN h.1)
  simp[this])
theorem pp(d:Nat)(b:Int)(hG:aE G D S F)(hb:0<b)(h:0≤S.place∧S.place≤1000):Ca (CO P (d+1)) 1287 [.loc 16,.int b] (hp S D G) (b7 (.int (iI S b)) (eW S) D F):=by
 have hl:((S.deck.map MV.int).length:Int)=S.deck.length:=by rw[lM]
 refine' use ?_
 refine' bc (S.place< ↑(List.map MV.int S.deck).length) (fun c1=> ?_) (fun c1=> ?_)
 ·have e:iI S b=(S.deck.getD S.place.toNat 0).fmod b:=by unfold iI;rw[if_pos (hl▸c1)]
  refine' ak 4 c1 ?_
  refine' aK 1 (yp ({S with place:=S.place+1}:Sn) D G (S.place) ⟨h.1,hl▸c1⟩) ?_
  refine' aY 0 (q8 (hp (eW S) D G) (S.deck.getD S.place.toNat 0) b hb) ?_
  exact ax 0 (MV.int ((S.deck.getD S.place.toNat 0).fmod b)) (hp (eW S) D G) ⟨by rw[e],G,rfl,hG⟩
 ·have e:iI S b=(S.place*5+S.place.fdiv 3).fmod b:=by unfold iI;rw[if_neg (hl▸c1)]
  refine' am 4 c1 ?_
  refine' aY 0 (ra (hp (eW S) D G) S.place 5 (by apply⟨⟨(af [_] [] 0x4746a52880020820 33 131120 h.1),(af [_] [] 0x746a52880020880 33 0x1f408880 h.2)⟩,⟨(aV [] [] 0x51f46a52880020820 1),(aV [] [] 0xe8d4a51000410a30 1)⟩⟩)) ?_
  refine' aY 0 (q9 (hp (eW S) D G) S.place 3 (by apply⟨⟨(af [_] [] 0x4746a52880020820 33 131120 h.1),(af [_] [] 0x746a52880020880 33 0x1f408880 h.2)⟩,⟨(aV [] [] 0x18c031 1),(aV [] [] 0xe8d4a51000410630 1)⟩⟩)) ?_
  refine' aY 0 (q8 (hp (eW S) D G) (S.place*5+S.place.fdiv 3) b hb) ?_
  exact ax 0 (MV.int ((S.place*5+S.place.fdiv 3).fmod b)) (hp (eW S) D G) ⟨by rw[e],G,rfl,hG⟩
end
noncomputable def ED:Tr→Option (List (Nat×List MV)×Nat×List MV×Hp)
 | .comp _ gs acc items vs H _=>match vs with
  |[]=>some (gs,acc,items,H)
  |_=>none
 |_=>none
noncomputable def EE:Tr→MV→Hp→Tr
 | .comp elt _ _ _ _ _ _=>elt
 |_=>fun _ _=> .fail
noncomputable def EF:Tr→Hp→Tr
 | .comp _ _ _ _ _ _ k=>k
 |_=>fun _=> .fail
section
variable{O:dJ}{t:Tr}{Q:QS}
set_option tactic.hygienic true in
theorem rb(n:Nat){gs:List (Nat×List MV)}{acc:Nat}{items:List MV}{H:Hp}(I:Nat→List MV→Hp→Prop)(h0:I 0 [] H)
  (turn: ∀j v us H,items[j]?=some v→I j us H→Wt O (EE (aL n t) v H) (uA fun u H1=>(bg gs H1∧H1[acc]?=some (.list us)∧us.length<4000)∧I (j+1) (us++[u]) (H1.set acc (.list (us++[u])))))
  (done: ∀us H,I items.length us H→Wt O (EF (aL n t) H) Q) (hr:ED (aL n t)=some (gs,acc,items,H):=by kernel_rfl):Wt O t Q:=by
 refine cY n ?_
 generalize aL n t=t at*
 cases t<;>try cases hr
 rename_i elt gs' acc' items' vs H' k
 cases vs<;>cases hr
 have go: ∀ (r:List MV) (j:Nat) (us:List MV) (H:Hp),items.drop j=r→j≤items.length→I j us H→iR (fun v H Q'=>Wt O (elt v H) (uA Q')) gs acc r us H fun H=>Wt O (k H) Q:=by
  intro r
  induction r with
  |nil=>
   intro j us H e hl h
   have hj:items.length≤j:=by
    rcases Nat.lt_or_ge j items.length with q|q
    ·rw[List.drop_eq_getElem_cons q] at e;cases e
    ·exact q
   exact done us H (Nat.le_antisymm hl hj▸h)
  |cons v r ih=>
   intro j us H e hl h
   have hv:items[j]?=some v:=by
    have:=cA (fun l=>l[0]?) e
    simpa using this
   refine Wt.mono _ (iT fun u H1 q=>⟨q.1,ih (j+1) _ _ ?_ ?_ q.2⟩) (turn j v us H hv h)
   ·have:=cA List.tail e
    simpa using this
   ·exact(gS hv).1
 exact go items 0 [] H rfl (Nat.zero_le _) h0
end
section
variable{R C t l r:Int}{g:List ar}{j:Nat}
theorem i6{f:Nat→ar→ar}(I:GI R C g)(p q:Nat)(h: ∀i cs,dr C cs→dr C (f i cs)):GI R C (a6 g f p q):=dU I fun i cs _ _ e=>h i cs (I.row cs (mG e))
theorem CH{cs:ar}(I:GI R C g)(h:0≤r∧r<R):ab (g.set r.toNat cs) r=cs:=gn cs I h
end
section
variable{S:Sn}{D:Dn}{G:Hp}{F:As}{R C:Int}
noncomputable def av(D:Dn)(t b:Int):List MV:=aI (D.lrows.map fun n=> .loc (n+28)) (some t) (some (b+1))
theorem i7{t b:Int}(hG:aE G D S F)(I:GI R C S.w.grid)(h:0≤t∧t≤b∧b<R):(av D t b).length=(b+1- t).toNat∧ ∀ (j:Nat) v,(av D t b)[j]?=some v→(j:Int)<b+1- t∧v= .loc (bD D (t+j)+28):=by
 unfold av
 have h1:=hG.l2
 have h2:=I.len
 have hp:=jJ (l:=D.lrows.map fun n=>MV.loc (n+28)) (a:=t) (b:=b+1) (by rw[lM];exact⟨h.1,⟨(af [_,_] [] 0x11a4080 33 4736 h.2.1),(a0 [_,_] [_,_] 0x20508d000 506913 4737 8970 156242 h.2.2 h1 h2)⟩⟩)
 rw[hp]
 have hl:(((D.lrows.map fun n=>MV.loc (n+28)).drop t.toNat).take (b+1- t).toNat).length=(b+1- t).toNat:=by
  rw[lT,lD,lM];exact mL (Bj [_,_,_] [_,_,_,_,_] 8968 0x3e317bc21 4737 10026 157266 0x50468006052 174162 0x50b2286252 h.2.2 h1 h2 (tN (af [_,_] [] 0x48468004030 33 4240 h.2.1)) (tN h.1) (oS (ju [_,_,_] [_,_,_] 8968 0x22f78421 4736 5265 9498 173138 139346 h.2.1 h.2.2 h1 h2 (tN h.1))))
 refine⟨hl,fun j v e=> ?_⟩
 have hj:=(gS e).1
 rw[hl] at hj
 refine⟨by exact aq [_,_] [_,_] 0x48468006051 17441 8969 0x48468006252 hj (tN (af [_,_] [] 0x48468004030 33 4240 h.2.1)),?_⟩
 rw[List.getElem?_take_of_lt hj,List.getElem?_drop,List.getElem?_map] at e
 have:=lN hG I (r:=t+j) (by exact⟨(af [_] [_] 0x205400030 33 131120 h.1),(a0 [_,_,_] [_,_] 0x9815001 558113 4769 8969 0x4046a006252 h.2.2 hj (tN (af [_,_] [] 0x48468004030 33 4240 h.2.1)))⟩)
 rw[show(t+(j:Int)).toNat=t.toNat+j by exact aq [_] [_,_,_] 0x94410a 0x22f0be21 0x245402052 139858 (tN (af [_] [_] 0x205400030 33 131120 h.1)) (tN h.1)] at this
 rw[this] at e
 exact(oI e).symm
theorem HX.mk{S':Sn}(h:aE G D S F)(e:S=S'):HX S' D F (hp S D G):=⟨G,e▸rfl,e▸h⟩
theorem bw{p:Nat}{o:MObj}(hG:aE G D S ((p,o)::F)):(hp S D G)[p+28]?=some o:=(cU p).trans hG.own
noncomputable abbrev cH(S:Sn)(g:List ar):Sn:={S with w:={S.w with grid:=g}}
theorem fX: ∀ {ns:List Nat} {xs:List ar} {i:Nat} {n:Nat} {cs:ar},ns[i]?=some n→xs[i]?=some cs→(n,au cs)∈cE ns xs
 |[],_,_,_,_,h,_=>by simp at h
 |_::_,[],_,_,_,_,h=>by simp at h
 |a::ns,x::xs,0,n,cs,h1,h2=>by
  simp at h1 h2;subst h1 h2
  exact .head _
 |a::ns,x::xs,i+1,n,cs,h1,h2=> .tail _ (fX (ns:=ns) (xs:=xs) (i:=i) (by simpa using h1) (by simpa using h2))
theorem lP: ∀ {ns:List Nat} {xs:List ar} {n:Nat} {cs:ar},ns.length=xs.length→cE (ns++[n]) (xs++[cs])=cE ns xs++[(n,au cs)]
 |[],[],_,_,_=>rfl
 |a::ns,x::xs,n,cs,h=>cA ((a,au x):: ·) (lP (by simpa using h))
theorem DY.fperm{F':As}{gs gw:List ar}{last:List Int}(h:DY G D gs last gw F)(e:F.Perm F'):DY G D gs last gw F':=⟨h.sat.perm (e.append_left _),h.l1,h.l2⟩
theorem DY.oset{n:Nat}{o o':MObj}{gs gw:List ar}{last:List Int}(h:DY G D gs last gw ((n,o)::F)):DY (G.set n o') D gs last gw ((n,o')::F):=⟨((h.sat.perm List.perm_middle).hset).perm List.perm_middle.symm,h.l1,h.l2⟩
theorem dg{p:Nat}{o:MObj}(hG:aE G D S F)(h:(p,o)∈F):(hp S D G)[p+28]?=some o:=(cU p).trans (hG.sat.mem _ (mR _ h))
theorem pq{n q:Nat}{us:List MV}{ps:List Nat}{xs:List ar}{x:ar}(hG:aE G D S ((q,.list us)::(cE ps xs++F)))(hl:ps.length=xs.length):aE ((G++[au x]).set q (.list (us++[.loc n]))) D S ((q,.list (us++[.loc n]))::(cE (ps++[G.length]) (xs++[x])++F)):=by
 rw[lP hl]
 refine(DY.oset ((hG.new (au x)).fperm (.swap _ _ _))).fperm (.cons _ ?_)
 rw[aA]
 exact List.perm_middle.symm
noncomputable def cf(S:Sn)(j:Nat):List ar:=(List.range j).map fun i:Nat=>aC (ab S.w.grid (S.w.top+i)) S.w.left S.w.right
theorem pt(S:Sn)(j:Nat):cf S (j+1)=cf S j++[aC (ab S.w.grid (S.w.top+j)) S.w.left S.w.right]:=by
 unfold cf
 rw[List.range_succ,mP];rfl
theorem gr(S:Sn)(j:Nat):(cf S j).length=j:=by unfold cf;simp
end
section
variable{O:dJ}{t:Tr}{Q:QS}
theorem AK{ι:Type}(n:Nat)(gs:List (Nat×List MV))(items:List MV)(H:Hp)(X:Str)(D:Dn)(F:As)(B:Nat→Sn)(m:Nat)(hm:items.length=m)(vf:Nat→ι→MV)(pr:Nat→ι→Prop)(hv: ∀ (j:Nat) v,items[j]?=some v→ ∃x,pr j x∧v=vf j x)(h0:HX (B 0) D F H)
  (turn: ∀ (j:Nat) (x:ι) (o:Option MV) (G:Hp),pr j x→aE G D (B j) F→Wt O (wE (aL n t) (vf j x) (bq (fC (aL n t)) X o) (hp (B j) D G)) fun fl σ' H'=>fl= .next∧(∃a,σ'=bq (fC (aL n t)) X a)∧bg gs H'∧HX (B (j+1)) D F H')
  (done: ∀ (o:Option MV) (G:Hp),aE G D (B m) F→Wt O (wG (aL n t) .next (bq (fC (aL n t)) X o) (hp (B m) D G)) Q) (hr:wH (aL n t)=some (gs,items,H):=by kernel_rfl):Wt O t Q:=by
 subst hm
 refine jF n (fun j σ H=>(∃a,σ=bq (fC (aL n t)) X a)∧HX (B j) D F H) ⟨⟨_,(gf _ X).symm⟩,h0⟩ (fun j v σ H h1 hI=> ?_) (fun σ H hI=> ?_) hr
 ·obtain⟨⟨a,rfl⟩,G,rfl,g⟩:=hI
  obtain⟨x,hx,rfl⟩:=hv j v h1
  exact Wt.mono _ (fun fl σ' H' q=>⟨q.1,q.2.2.1,q.2.1,q.2.2.2⟩) (turn j x a G hx g)
 ·obtain⟨⟨a,rfl⟩,G,rfl,g⟩:=hI
  exact done a G g
theorem rd{ι:Type}(n:Nat)(gs:List (Nat×List MV))(items:List MV)(H:Hp)(X Y:Str)(hXY:X≠Y)(D:Dn)(F:As)(B:Nat→Sn)(m:Nat)(hm:items.length=m)(vf:Nat→ι→MV)(pr:Nat→ι→Prop)(hv: ∀ (j:Nat) v,items[j]?=some v→ ∃x,pr j x∧v=vf j x)(h0:HX (B 0) D F H)
  (turn: ∀ (j:Nat) (x:ι) (o1 o2:Option MV) (G:Hp),pr j x→aE G D (B j) F→Wt O (wE (aL n t) (vf j x) (bq (bq (fC (aL n t)) X o1) Y o2) (hp (B j) D G)) fun fl σ' H'=>fl= .next∧(∃a b,σ'=bq (bq (fC (aL n t)) X a) Y b)∧bg gs H'∧HX (B (j+1)) D F H')
  (done: ∀ (o1 o2:Option MV) (G:Hp),aE G D (B m) F→Wt O (wG (aL n t) .next (bq (bq (fC (aL n t)) X o1) Y o2) (hp (B m) D G)) Q) (hr:wH (aL n t)=some (gs,items,H):=by kernel_rfl):Wt O t Q:=by
 subst hm
 refine gR n gs items H X Y hXY (fun j H=>HX (B j) D F H) h0 (fun j v o1 o2 H h1 hI=> ?_) (fun o1 o2 H hI=> ?_) hr
 ·obtain⟨G,rfl,g⟩:=hI
  obtain⟨x,hx,rfl⟩:=hv j v h1
  exact turn j x o1 o2 G hx g
 ·obtain⟨G,rfl,g⟩:=hI
  exact done o1 o2 G g
theorem Wt.ex{α:Type}{p:α→Prop}(h: ∃x,p x)(k: ∀x,p x→Wt O t Q):Wt O t Q:=h.elim k
theorem CI(n:Nat){σ:aQ}{X:Str}{gs:List (Nat×List MV)}{I:Hp→Prop}(o:Option MV)(v:MV)(H:Hp)(hs:bg gs H)(h:I H)(hr:rs (aL n t)=some (.next,upd (bq σ X o) X v,H):=by kernel_rfl):Wt O t fun fl σ' H'=>fl= .next∧(∃a,σ'=bq σ X a)∧bg gs H'∧I H':=
 my n .next _ H ⟨rfl,uY σ X o v,hs,h⟩ hr
theorem nX{ι:Type}(n:Nat)(gs:List (Nat×List MV))(acc:Nat)(items:List MV)(S:Sn)(D:Dn)(G:Hp)(F:As)(xs:Nat→List ar)(m:Nat)(hm:items.length=m)(hsz:m<4000)(hx0:xs 0=[])(hxl: ∀j,(xs j).length=j)(vf:Nat→ι→MV)(pr:Nat→ι→Prop)(hv: ∀ (j:Nat) v,items[j]?=some v→ ∃x,pr j x∧v=vf j x)(h0:aE G D S F)(hacc:acc=G.length)(hg: ∀ (G':Hp) (A:As),aE G' D S (A++F)→bg gs (hp S D G'))
  (turn: ∀ (j:Nat) (x:ι) (G:Hp) (F:As),pr j x→aE G D S F→ ∃r,xs (j+1)=xs j++[r]∧Wt O (EE (aL n t) (vf j x) (hp S D G)) fun fl _ H'=>fl= .ret (.loc (G.length+28))∧H'=hp S D (G++[au r]))
  (done: ∀ (ps:List Nat) (G':Hp),ps.length=m→aE G' D S ((acc,.list (ps.map fun n=> .loc (n+28)))::(cE ps (xs m)++F))→Wt O (EF (aL n t) (hp S D G')) Q) (hr:ED (aL n t)=some (gs,acc+28,items,hp S D (G++[.list []])):=by kernel_rfl):Wt O t Q:=by
 subst hm hacc
 refine rb n (fun j us H=> ∃G' ps,ps.length=j∧us=ps.map (fun n=>MV.loc (n+28))∧H=hp S D G'∧j≤items.length∧aE G' D S ((G.length,.list us)::(cE ps (xs j)++F))) ⟨_,[],rfl,rfl,rfl,Nat.zero_le _,by rw[hx0];exact h0.new _⟩ (fun j v us H h1 hI=> ?_) (fun us H hI=> ?_) hr
 ·obtain⟨G4,ps,hp1,rfl,rfl,hj,g4⟩:=hI
  obtain⟨x,hx,rfl⟩:=hv j v h1
  obtain⟨r,e,w⟩:=turn j x G4 _ hx g4
  have hj':=(gS h1).1
  refine Wt.mono _ (fun fl σ' H' q=> ?_) w
  obtain⟨rfl,rfl⟩:=q
  have g6:=g4.new (au r)
  have g5:=pq (n:=G4.length+28) (x:=r) g4 (by rw[hp1,hxl])
  exact⟨⟨hg _ (_::(_::cE ps (xs j))) g6,dg g6 (.tail _ (.head _)),by rw[lM];exact a0 [] [_,_,_] 0x7d00c909 50209 0x7d00c919 9482 9001 hsz hp1 hj'⟩,_,ps++[G4.length],by rw[List.length_append,hp1];rfl,by rw[mP];rfl,rfl,hj',by rw[e];exact g5⟩
 ·obtain⟨G4,ps,hp1,rfl,rfl,_,g4⟩:=hI
  exact done ps G4 hp1 g4
end
noncomputable abbrev Fq(l r:Int):Nat→ar→ar:=fun _ cs=>dL cs l r
noncomputable abbrev eg(S:Sn)(j:Nat):Sn:=cH S (a6 S.w.grid (Fq S.w.left S.w.right) S.w.top.toNat (S.w.top+ ↑j).toNat)
theorem vM{S:Sn}{R C:Int}{j:Nat}(I:GI R C S.w.grid)(h:0≤S.w.top∧S.w.top+j<R):dq (dq (eg S j) (S.w.top+j) (a9 (ab (eg S j).w.grid (S.w.top+j)) S.w.left)) (S.w.top+j) (a9 (ab (dq (eg S j) (S.w.top+j) (a9 (ab (eg S j).w.grid (S.w.top+j)) S.w.left)).w.grid (S.w.top+j)) (S.w.right+1))=eg S (j+1):=by
 have I1:GI R C (eg S j).w.grid:=i6 I _ _ fun _ cs h=>ft h _ _
 show cH S (((eg S j).w.grid.set _ _).set _ (a9 (ab ((eg S j).w.grid.set _ _) _) _))=cH S _
 rw[gn _ I1 ⟨by exact af [_] [_] 0x205400030 33 131120 h.1,h.2⟩,List.set_set,iy _ _ h.1]
 exact cA (cH S) (iw (f:=Fq S.w.left S.w.right) I h)
section
variable{α β:Type}{l:List α}{r:List β}{a x:α}{b y:β}{j m:Nat}
noncomputable def fY(up:Bool)(l:List α)(a:α):List α:=match up with
 |true=>l.drop 1++[a]
 |false=>a::l.take (l.length- 1)
theorem pv(up:Bool)(h:l.length=m)(h1:0<m):(fY up l a).length=m:=by
 cases up<;>simp[fY]<;>exact aq [] [_,_,_] 0x1108e00a 0x1ef0c621 9002 0x8cb2286052 h (oS (aq [] [_,_] 262712 1505 8970 278585 h h1))
theorem vN(h:l.length=m)(h1:(fY true l a)[j]?=some x):(j+1<m∧l[j+1]?=some x)∨(m≤j+1∧x=a):=by
 rcases Nat.lt_or_ge (j+1) m with q|q
 ·refine .inl ⟨q,?_⟩
  rwa [fY,List.getElem?_append_left (by rw[lD];exact a0 [] [_,_,_,_] 8969 493025 10026 0x1308e009 0x8cb2286252 h q (oS (aq [] [_,_,_] 262712 1505 8970 0x1108e409 h q))),List.getElem?_drop,Nat.add_comm] at h1
 ·refine .inr ⟨q,?_⟩
  rw[fY,List.getElem?_append_right (by rw[lD];exact Nat.sub_le_of_le_add (h▸q))] at h1
  exact List.mem_singleton.mp (mG h1)
theorem vO(h:l.length=m)(h1:(fY false l a)[j]?=some x):(0<j∧l[j- 1]?=some x)∨(j=0∧x=a):=by
 cases j with
 |zero=>exact .inr ⟨rfl,(oI h1).symm⟩
 |succ j=>
  refine .inl ⟨Nat.succ_pos _,?_⟩
  rw[fY,List.getElem?_cons_succ] at h1
  have:=(gS h1).1
  rwa [List.getElem?_take_of_lt (by rw[lT] at this;exact aq [] [_,_,_] 8969 1057 9481 9000 this (Nat.min_le_left _ _))] at h1
theorem AL{up:Bool}(h:l.length=m)(h':r.length=m)(h1:(fY up l a)[j]?=some x)(h2:(fY up r b)[j]?=some y):(x=a∧y=b)∨ ∃i:Nat,l[i]?=some x∧r[i]?=some y:=by
 cases up with
 |true=>
  rcases vN h h1 with q|q<;>rcases vN h' h2 with z|z
  ·exact .inr ⟨_,q.2,z.2⟩
  ·exact absurd q.1 (Nat.not_lt_of_le z.1)
  ·exact absurd z.1 (Nat.not_lt_of_le q.1)
  ·exact .inl ⟨q.2,z.2⟩
 |false=>
  rcases vO h h1 with q|q<;>rcases vO h' h2 with z|z
  ·exact .inr ⟨_,q.2,z.2⟩
  ·exact absurd q.1 (z.1▸Nat.lt_irrefl _)
  ·exact absurd z.1 (q.1▸Nat.lt_irrefl _)
  ·exact .inl ⟨q.2,z.2⟩
theorem AM{l r:List MV}{v:MV}(h:(dN l r)[j]?=some v): ∃a b,l[j]?=some a∧r[j]?=some b∧v= .tup [a,b]:=by
 unfold dN at h
 rw[List.getElem?_map,Option.map_eq_some_iff] at h
 obtain⟨p,h1,rfl⟩:=h
 have:=List.getElem?_zip_eq_some.mp (show(l.zip r)[j]?=some (p.1,p.2) from h1)
 exact⟨_,_,this.1,this.2,rfl⟩
theorem rf{l r:List MV}(h:l.length=m)(h':r.length=m):(dN l r).length=m:=by
 unfold dN;simp[h,h']
end
theorem Sat.apart{H:Hp}{p q:Nat}{o o':MObj}: ∀ {A B:As},Sat H (A++B)→(p,o)∈A→(q,o')∈B→p≠q
 |a::A,B,.cons h g r,m,k=>by
  rcases List.mem_cons.mp m with e|m
  ·cases e
   exact Ne.symm (g _ (mR _ k))
  ·exact Sat.apart r m k
section
variable{S:Sn}{D:Dn}{G:Hp}{F:As}{R C r:Int}
theorem eK{q:Nat}{o:MObj}(hG:aE G D S F)(I:GI R C S.w.grid)(h:0≤r∧r<R)(m:(q,o)∈F):bD D r≠q:=
 Sat.apart hG.sat (.tail _ (.tail _ (mR _ (mR _ (fX (lN hG I h) (I.at h)))))) m
theorem DY.drops{A:As}{gs gw:List ar}{last:List Int}(h:DY G D gs last gw (A++F)):DY G D gs last gw F:=⟨(h.sat.perm (jK _ _ _)).right,h.l1,h.l2⟩
theorem vP(g:List ar)(f f':Nat→ar→ar)(p q:Nat):a6 (a6 g f p q) f' p q=a6 g (fun i cs=>f' i (f i cs)) p q:=by
 refine List.ext_getElem? fun i=> ?_
 rw[bP,bP,bP,Option.map_map]
 congr 1
 funext cs
 by_cases h:p≤i∧i<q
 ·simp[h]
 ·simp[h]
theorem AN(hG:aE G D S F)(k b:Int)(h:0≤k∧k≤1000):cB (hp S D (G++[.list [(bare b).mv]])) .Mult (.loc (G.length+28)) (.int k)=some (.loc (G.length+29),hp S D (G++[.list [(bare b).mv]]++[au (List.replicate k.toNat (bare b))])):=by
 have e:=xN (H:=hp S D (G++[.list [(bare b).mv]])) (n:=G.length+28) k b (bw (hG.new _)) h
 rw[e,kG,List.length_append]
 rfl
noncomputable abbrev jy(S:Sn)(up:Bool)(m j:Nat):Sn:=cH S (a6 (eg S m).w.grid (fun i cs=>bK cs (cF S.w.grid S.w.top S.w.bottom S.w.left S.w.right S.w.back up i) S.w.left S.w.right) S.w.top.toNat (S.w.top+ ↑j).toNat)
theorem nY{up:Bool}{m j:Nat}{x:ar}(I:GI R C (eg S m).w.grid)(h:0≤S.w.top∧S.w.top+j<R)(e:x=cF S.w.grid S.w.top S.w.bottom S.w.left S.w.right S.w.back up (S.w.top+j).toNat):dq (jy S up m j) (S.w.top+j) (bK (ab (jy S up m j).w.grid (S.w.top+j)) x S.w.left S.w.right)=jy S up m (j+1):=by
 show cH S ((jy S up m j).w.grid.set _ _)=cH S _
 rw[show ab (jy S up m j).w.grid (S.w.top+j)=_ from iy _ _ h.1]
 subst e
 exact cA (cH S) (iw (f:=fun i cs=>bK cs (cF S.w.grid S.w.top S.w.bottom S.w.left S.w.right S.w.back up i) S.w.left S.w.right) I h)
theorem rg{up:Bool}{m:Nat}(h:0≤S.w.top∧S.w.top+m=S.w.bottom+1):jy S up m m=cH S (ay S.w.grid S.w.top S.w.bottom S.w.left S.w.right S.w.back up):=by
 refine cA (cH S) ?_
 show a6 (a6 _ _ _ _) _ _ _=_
 rw[vP,h.2];rfl
theorem yq{up:Bool}{m j:Nat}{x:ar}(I:GI R C S.w.grid)(h:(0≤S.w.top∧S.w.bottom<R)∧S.w.top+m=S.w.bottom+1)(hj:j<m)(e:(fY up (cf (eg S m) m) (List.replicate (S.w.right+1- S.w.left).toNat (bare S.w.back)))[j]?=some x):x=cF S.w.grid S.w.top S.w.bottom S.w.left S.w.right S.w.back up (S.w.top+j).toNat:=by
 have key: ∀i:Nat,i<m→(cf (eg S m) m)[i]?=some (aC (dL (ab S.w.grid (S.w.top+i)) S.w.left S.w.right) S.w.left S.w.right):=fun i hi=>by
  unfold cf
  rw[List.getElem?_map,List.getElem?_range hi]
  have e2:=I.at (r:=S.w.top+i) (by exact⟨(af [_] [_] 0x205400030 33 131120 h.1.1),(a0 [_,_,_] [_,_] 0x9815001 50209 4769 0x8d40895002 8969 h.1.2 h.2 hi)⟩)
  have:ab (eg S m).w.grid (S.w.top+i)=dL (ab S.w.grid (S.w.top+i)) S.w.left S.w.right:=by
   show(a6 _ _ _ _).getD _ _=_
   rw[gD,bP,e2,Option.map_some,if_pos (by apply⟨(aq [_] [_,_,_] 8968 15905 139346 0x245402252 (tN h.1.1) (tN (af [_] [_] 0x205400030 33 131120 h.1.1))),(a0 [_] [_,_,_,_] 8969 508961 10025 0x245402052 0x265402252 hi (tN (af [_] [_] 0x205400030 33 131120 h.1.1)) (tN (aq [_] [_,_,_] 0x205400030 17441 8473 0x225402452 hi (tN (af [_] [_] 0x205400030 33 131120 h.1.1)))))⟩)];rfl
  rw[←this];rfl
 have l1:=gr (eg S m) m
 have et:((S.w.top+(j:Int)).toNat:Int)=S.w.top+j:=by exact tN (af [_] [_] 0x205400030 33 131120 h.1.1)
 cases up with
 |true=>
  unfold cF
  rw[if_pos rfl]
  rcases vN l1 e with q|q
  ·rw[key _ q.1] at q
   rw[if_pos (by exact a0 [_,_] [_,_,_] 139345 50721 0x8d00895202 0x245482052 0x1108e409 h.2 et q.1),et,Int.add_assoc]
   exact(oI q.2).symm
  ·rw[if_neg (by exact a0 [_,_] [_,_,_] 139347 48609 0x8d00895202 0x245482052 0x11c8118 h.2 et q.1)];exact q.2
 |false=>
  unfold cF
  rw[if_neg Bool.false_ne_true]
  rcases vO l1 e with q|q
  ·rw[key _ (by exact aq [] [_,_,_] 8969 17441 9001 0x8cb2286052 hj (oS (af [] [_] 262712 33 262201 q.1)))] at q
   rw[if_pos (by exact aq [_] [_,_] 264833 1505 0x225402052 278585 et q.1),et,show S.w.top+(j:Int)- 1=S.w.top+((j- 1:Nat):Int) by exact af [_] [_,_] 0x44a8004702a0012 558561 0x8cb0286252 (oS (af [] [_] 262712 33 262201 q.1))]
   exact(oI q.2).symm
  ·rw[if_neg (by exact aq [_] [_,_] 264835 17953 0x225402052 1818 et q.1)];exact q.2
theorem vQ{up:Bool}{m j:Nat}(I:GI R C S.w.grid)(h:(0≤S.w.top∧S.w.bottom<R)∧0≤S.w.left∧S.w.left≤S.w.right∧S.w.right<C)(hm:S.w.top+m=S.w.bottom+1)(hj:j≤m):GI R C (jy S up m j).w.grid:=
 dU (i6 I _ _ fun _ cs h=>ft h _ _) fun i cs h1 h2 e=>by
  rw[bP,Option.map_eq_some_iff] at e
  obtain⟨cs0,e0,e⟩:=e
  rw[if_pos (by exact⟨h1,(eo [_] [_,_,_,_,_] 8969 0x1178421 10024 10505 0x265402252 0x245402852 hj h2 (tN (af [_] [_] 0x205400030 33 131120 h.1.1)) (tN (af [_] [_] 0x205400030 33 131120 h.1.1)))⟩)] at e
  subst e
  obtain⟨q1,q2⟩:=kJ (b:=S.w.back) (up:=up) I h (i:=i) (by exact⟨(aq [_] [_,_] 264832 15393 8472 139858 h1 (tN h.1.1)),(eo [_,_] [_,_,_,_] 139344 0x1108621 0x8d00895202 9000 9993 0x245482652 hm hj h2 (tN (af [_] [_] 0x205400030 33 131120 h.1.1)))⟩)
  exact jp (ft (I.row _ (mG e0)) _ _) h.2 (eG _ _ _) (eH _ _ _) q1 q2
theorem vR(up:Bool){ps:List Nat}{m:Nat}(n:Nat)(h:ps.length=m)(h1:0<m):(match up with
  |true=>aI (ps.map fun n=>MV.loc (n+28)) (some 1) none++[.loc (n+28)]
  |false=>[.loc (n+28)]++aI (ps.map fun n=>MV.loc (n+28)) none (some (-1)))=(fY up ps n).map fun n=>MV.loc (n+28):=by
 cases up with
 |true=>
  dsimp only
  rw[iC (by rw[lM];exact⟨(aV [] [] 573488 1),(aq [] [_,_] 0x814230 1505 8970 278585 h h1)⟩),fY,mP,List.map_drop];rfl
 |false=>
  dsimp only
  unfold aI fb fF
  rw[fY,List.map_cons,List.map_take]
  simp[h]
theorem zq(S:Sn)(up:Bool)(m:Nat):eg S m=jy S up m 0:=by
 unfold jy cH
 rw[show S.w.top+ ↑(0:Nat)=S.w.top by exact aV [_] [] 0x100195002 33,b9]
theorem mY(b:Int)(x:ar)(hG:aE G D S F):aE (G++[.list [(bare b).mv]]++[au x]) D S ((G.length+1,au x)::F):=by
 have:=(hG.new (.list [(bare b).mv])).drop.new (au x)
 rwa [List.length_append] at this
theorem lQ(p q:Nat)(l r:List MV)(F:As)(h:(p,.list l)∈F)(h':(q,.list r)∈F): ∀g∈[(p+28,l),(q+28,r)],∃q,g.1=q+28∧(q,MObj.list g.2)∈F:=fun g hg=>by
 rcases List.mem_cons.mp hg with rfl|hg
 ·exact⟨p,rfl,h⟩
 ·rcases List.mem_singleton.mp hg with rfl
  exact⟨q,rfl,h'⟩
theorem nZ{gs:List (Nat×List MV)}(hG:aE G D S F)(h: ∀g∈gs,∃q,g.1=q+28∧(q,MObj.list g.2)∈F):bg gs (hp S D G):=fun g hg=>by
 obtain⟨q,e,k⟩:=h g hg
 rw[e]
 exact dg hG k
theorem rh{up:Bool}{m n:Nat}{L:List MV}{g:List ar}{ps:List Nat}(I:GI R C S.w.grid)(h:0≤S.w.top)(hm:S.w.top+m=S.w.bottom+1)(hb:S.w.bottom<R)(hL: ∀ (j:Nat) v,L[j]?=some v→(j:Int)<S.w.bottom+1- S.w.top∧v= .loc (bD D (S.w.top+j)+28))(hp:ps.length=m)
  (m1: ∀ {x:Nat×MObj},x=(n,au (List.replicate (S.w.right+1- S.w.left).toNat (bare S.w.back)))→x∈F) (m2: ∀x∈cE ps (cf (eg S m) m),x∈F):
  ∀ (j:Nat) v,(dN L ((fY up ps n).map fun n=>MV.loc (n+28)))[j]?=some v→ ∃x:Nat×ar,(j<m∧(x.1,au x.2)∈F∧x.2=cF S.w.grid S.w.top S.w.bottom S.w.left S.w.right S.w.back up (S.w.top+j).toNat)∧v= .tup [.loc (bD D (S.w.top+j)+28),.loc (x.1+28)]:=fun j v e=>by
 obtain⟨a,b,h1,h2,rfl⟩:=AM e
 obtain⟨hj,rfl⟩:=hL j a h1
 rw[List.getElem?_map,Option.map_eq_some_iff] at h2
 obtain⟨q,h2,rfl⟩:=h2
 obtain⟨x,hx⟩: ∃x,(fY up (cf (eg S m) m) (List.replicate (S.w.right+1- S.w.left).toNat (bare S.w.back)))[j]?=some x:=⟨_,gE (by rw[pv _ (gr _ _) (by exact aq [_,_] [_,_] 262201 1505 0x8d20815002 0x40469006251 hm hj)];exact aq [_,_] [_,_] 8969 1505 0x8d20895002 0x40469006051 hm hj)⟩
 refine⟨(q,x),⟨by exact aq [_,_] [_,_] 8969 1505 0x8d20895002 0x40469006051 hm hj,?_,yq I ⟨⟨h,hb⟩,hm⟩ (by exact aq [_,_] [_,_] 8969 1505 0x8d20895002 0x40469006051 hm hj) hx⟩,rfl⟩
 rcases AL hp (gr _ _) h2 hx with ⟨rfl,rfl⟩|⟨i,y1,y2⟩
 ·exact m1 rfl
 ·exact m2 _ (fX y1 y2)
end
local macro_rules | `(tactic| got_up) => `(tactic| with_reducible assumption)
noncomputable abbrev n8(v:Vt):ar:=List.replicate (v.right+1- v.left).toNat (bare v.back)
noncomputable abbrev gB(G:Hp)(v:Vt):Hp:=G++[MObj.list [(bare v.back).mv]]++[au (n8 v)]
noncomputable abbrev jr(G:Hp)(v:Vt):Hp:=gB G v++[MObj.list [MV.loc (G.length+29)]]
section
variable(P:Cw){d:Nat}{S:Sn}{D:Dn}{G:Hp}{F:As}{R C:Int}
theorem kW(d:Nat)(up:Bool)(hG:aE G D S F)(I:GI R C S.w.grid)(hR:R≤4∧C≤8)(h:0≤S.w.top∧S.w.top<S.w.bottom∧S.w.bottom<R)(hc:0≤S.w.left∧S.w.left<S.w.right∧S.w.right<C):
  Ca (CO P (d+3)) 1320 [MV.loc 15,.bool up] (hp S D G) (b7 .none (cH S (ay S.w.grid S.w.top S.w.bottom S.w.left S.w.right S.w.back up)) D F):=by
 have hwi:=i7 hG I (t:=S.w.top) (b:=S.w.bottom) (by apply⟨h.1,⟨(af [_,_] [] 4736 33 4737 h.2.1),h.2.2⟩⟩)
 have g1:=hG.new (MObj.list (av D S.w.top S.w.bottom))
 obtain⟨m,hm⟩: ∃m,(av D S.w.top S.w.bottom).length=m:=⟨_,rfl⟩
 have hm2:S.w.top+m=S.w.bottom+1:=by rw[←hm,hwi.1];apply af [_,_] [_] 0x8d20815002 493089 0x40469006052 (tN (af [_,_] [] 0x48468004030 33 4241 h.2.1))
 have hv: ∀ (j:Nat) v,(av D S.w.top S.w.bottom)[j]?=some v→ ∃_:Unit,j<m∧v= .loc (bD D (S.w.top+j)+28):=fun j v e=>⟨(),hm▸ (gS e).1,(hwi.2 j v e).2⟩
 have I1: ∀j,GI R C (eg S j).w.grid:=fun j=>i6 I _ _ fun _ cs h=>ft h _ _
 have hr: ∀j:Nat,j<m→0≤S.w.top+j∧S.w.top+j<R:=fun j hj=>by apply⟨(af [_] [_] 0x205400030 33 131120 h.1),(a0 [_,_,_] [_,_] 0x9815001 50209 4769 0x8d40895002 8969 h.2.2 hm2 hj)⟩
 have h00:S=eg S 0:=by unfold eg cH;rw[show S.w.top+ ↑(0:Nat)=S.w.top by apply aV [_] [] 0x100195002 33,b9]
 have hst: ∀ (B:Sn) (G:Hp) {F':As} {p:Nat},aE G D B ((p,MObj.list (av D S.w.top S.w.bottom))::F')→bg [(p+28,(av D S.w.top S.w.bottom))] (hp B D G):=fun B G _ _ g=>bN (bw g)
 have hcl:(G++[MObj.list (av D S.w.top S.w.bottom)]).length=G.length+1:=by rw[List.length_append];rfl
 refine' use ?_
 refine' cZ 6 (a:=(av D S.w.top S.w.bottom)) (gs:=[(G.length+28,(av D S.w.top S.w.bottom))]) (fM (H:=hp S D (G++[MObj.list (av D S.w.top S.w.bottom)])) (n:=G.length+28) (bw g1)) ?_
 refine' AK 0 [(G.length+28,(av D S.w.top S.w.bottom))] (av D S.w.top S.w.bottom) (hp S D (G++[MObj.list (av D S.w.top S.w.bottom)])) "cells" D ((G.length,MObj.list (av D S.w.top S.w.bottom))::F) (eg S) m hm (fun j (_:Unit)=> .loc (bD D (S.w.top+j)+28)) (fun j _=>j<m) hv (HX.mk g1 h00) (fun j x o G2 hj g2=> ?_) (fun o G2 g2=> ?_)
 ·refine' a7 0 (cw P d S.w.left g2 (I1 j) (hr j hj) hR.2) fun G4 g3=> ?_
  refine' a7 0 (cw P d (S.w.right+1) g3 ((I1 j).setC (gJ ((I1 j).rowC (hr j hj)) _)) (hr j hj) hR.2) fun G6 g5=> ?_
  refine' CI 0 o (MV.loc (bD D (S.w.top+ ↑j)+28)) (hp (dq (dq (eg S j) (S.w.top+j) (a9 (ab (eg S j).w.grid (S.w.top+j)) S.w.left)) (S.w.top+j) (a9 (ab (dq (eg S j) (S.w.top+j) (a9 (ab (eg S j).w.grid (S.w.top+j)) S.w.left)).w.grid (S.w.top+j)) (S.w.right+1))) D G6) (hst _ _ g5) (HX.mk g5 (vM I ⟨h.1,(hr j hj).2⟩))
 ·refine' cZ 0 (a:=(av D S.w.top S.w.bottom)) (gs:=[(G.length+28,(av D S.w.top S.w.bottom))]) (fM (H:=hp (eg S m) D G2) (n:=G.length+28) (bw g2)) ?_
  refine' nX 0 [(G.length+28,(av D S.w.top S.w.bottom))] G2.length (av D S.w.top S.w.bottom) (eg S m) D G2 ((G.length,MObj.list (av D S.w.top S.w.bottom))::F) (cf (eg S m)) m hm (by apply eo [_,_,_] [_] 0x7d00c909 0x1108421 67200 147504 4257 0x8d40815202 hR.1 h.1 h.2.2 hm2) rfl (gr _) (fun j (_:Unit)=> .loc (bD D (S.w.top+j)+28)) (fun j _=>j<m) hv g2 rfl (fun G' A g=>bN (dg g (mR _ List.mem_cons_self))) (fun j x G4 F4 hj g4=>⟨aC (ab (eg S m).w.grid (S.w.top+j)) S.w.left S.w.right,pt _ _,?_⟩) (fun ps G4 hp1 g4=> ?_)
  ·have e:aI ((ab (eg S m).w.grid (S.w.top+j)).map Cell.mv) (some S.w.left) (some (S.w.right+1))=(aC (ab (eg S m).w.grid (S.w.top+j)) S.w.left S.w.right).map Cell.mv:=lG (by have:=(I1 m).rlen (hr j hj);apply⟨hc.1,⟨(af [_,_] [] 0x11a4080 33 4737 hc.2.1),(aq [_,_] [_] 0x20508d000 15393 4737 155730 hc.2.2 this)⟩⟩)
   refine' bf 0 (bz (dI g4 (I1 m) (hr j hj))) ?_
   refine' my 0 (.ret (.loc (G4.length+28))) (fun _=>none) (hp (eg S m) D (G4++[MObj.list (aI ((ab (eg S m).w.grid (S.w.top+j)).map Cell.mv) (some S.w.left) (some (S.w.right+1)))])) ⟨rfl,by rw[e]⟩
  ·obtain⟨q0,hq0⟩: ∃q0,q0=G2.length:=⟨_,rfl⟩
   have g6:=mY S.w.back (n8 S.w) g4
   have g7:=g6.new (MObj.list [MV.loc (G4.length+29)])
   have z0:=dg g7 (p:=G2.length) (o:=MObj.list (ps.map fun n=>MV.loc (n+28))) (.tail _ (.tail _ (.head _)))
   refine' aj 1 (gq P (d+1) (hp (eg S m) D G4) S.w.back) ?_
   refine' aY 0 (AN g4 (S.w.right+1- S.w.left) S.w.back (by apply⟨(af [_,_] [] 0x48468004030 33 4241 hc.2.1),(a0 [_,_,_] [] 0x3e8111211a0010 33825 132768 147504 5249 hR.2 hc.1 hc.2.2)⟩)) ?_
   refine' fz up (fun c1=> ?_) (fun c1=> ?_)
   ·refine' aD 0 c1 ?_
    have g8:=g7.new (MObj.list (aI (ps.map fun n=>MV.loc (n+28)) (some 1) none))
    have g9:=g8.new (MObj.list ((fY true ps (G4.length+1)).map fun n=>MV.loc (n+28)))
    have hq:((fY true ps (G4.length+1)).map fun n=>MV.loc (n+28)).length=m:=by rw[lM];exact pv _ hp1 (by apply aq [_,_] [_] 262201 15393 4737 0x8d20815002 h.2.1 hm2)
    have hcat:=(show(aI (ps.map fun n=>MV.loc (n+28)) (some 1) none).length+[MV.loc (G4.length+29)].length≤4000 from by rw[iC (by rw[lM];apply⟨(aV [] [] 573488 1),(a0 [_,_] [_,_] 0x814230 506913 4737 0x8d20895002 8970 h.2.1 hm2 hp1)⟩),lD,lM];dsimp only[List.length];apply Bj [_,_,_] [_,_,_,_] 0x1f40320460182008 0x463108421 67200 147504 4257 0x8d40895202 9002 0x4cb2286052 hR.1 h.1 h.2.2 hm2 hp1 (oS (eo [_,_] [_,_,_] 8968 0x117bc21 4737 0x8d20915002 9498 581714 h.2.1 hm2 hp1 (tN (aV [] [] 573488 1)))))
    have zc:=(show cB (hp (eg S m) D ((jr G4 S.w)++[MObj.list (aI (ps.map fun n=>MV.loc (n+28)) (some 1) none)])) .Add (.loc ((jr G4 S.w).length+28)) (.loc ((gB G4 S.w).length+28))=some (.loc (((jr G4 S.w)++[MObj.list (aI (ps.map fun n=>MV.loc (n+28)) (some 1) none)]).length+28),hp (eg S m) D (((jr G4 S.w)++[MObj.list (aI (ps.map fun n=>MV.loc (n+28)) (some 1) none)])++[MObj.list ((fY true ps (G4.length+1)).map fun n=>MV.loc (n+28))])) from by rw[←vR true (G4.length+1) hp1 (by apply aq [_,_] [_] 262201 15393 4737 0x8d20815002 h.2.1 hm2)];exact dM g8.own g8.drop.own hcat)
    have z1:=dg g9 (mR [_,_,_,_,_] (mR _ (.head _)))
    have hv9:=rh (up:=true) (F:=((((jr G4 S.w)++[MObj.list (aI (ps.map fun n=>MV.loc (n+28)) (some 1) none)]).length,MObj.list ((fY true ps (G4.length+1)).map fun n=>MV.loc (n+28)))::((jr G4 S.w).length,MObj.list (aI (ps.map fun n=>MV.loc (n+28)) (some 1) none))::((gB G4 S.w).length,MObj.list [MV.loc (G4.length+29)])::(G4.length+1,au (n8 S.w))::((G2.length,MObj.list (ps.map fun n=>MV.loc (n+28)))::(cE ps (cf (eg S m) m)++((G.length,MObj.list (av D S.w.top S.w.bottom))::F))))) (g:=S.w.grid) I h.1 hm2 (by apply h.2.2) hwi.2 hp1 (fun e=>e▸ .tail _ (.tail _ (.tail _ (.head _)))) fun x hx=> .tail _ (.tail _ (.tail _ (.tail _ (.tail _ (mW _ hx)))))
    have hg9:=lQ G.length (((jr G4 S.w)++[MObj.list (aI (ps.map fun n=>MV.loc (n+28)) (some 1) none)]).length) (av D S.w.top S.w.bottom) ((fY true ps (G4.length+1)).map fun n=>MV.loc (n+28)) ((((jr G4 S.w)++[MObj.list (aI (ps.map fun n=>MV.loc (n+28)) (some 1) none)]).length,MObj.list ((fY true ps (G4.length+1)).map fun n=>MV.loc (n+28)))::((jr G4 S.w).length,MObj.list (aI (ps.map fun n=>MV.loc (n+28)) (some 1) none))::((gB G4 S.w).length,MObj.list [MV.loc (G4.length+29)])::(G4.length+1,au (n8 S.w))::((G2.length,MObj.list (ps.map fun n=>MV.loc (n+28)))::(cE ps (cf (eg S m) m)++((G.length,MObj.list (av D S.w.top S.w.bottom))::F)))) (mR [_,_,_,_,_] (mR _ (.head _))) (.head _)
    refine' bf 0 (bz z0) ?_
    refine' aY 0 zc ?_
    refine' cZ 0 (uQ z1 (bw g9) (hm.trans hq.symm)) ?_
    refine' rd 0 [(G.length+28,(av D S.w.top S.w.bottom)),(((jr G4 S.w)++[MObj.list (aI (ps.map fun n=>MV.loc (n+28)) (some 1) none)]).length+28,(fY true ps (G4.length+1)).map fun n=>MV.loc (n+28))] (dN (av D S.w.top S.w.bottom) ((fY true ps (G4.length+1)).map fun n=>MV.loc (n+28))) (hp (eg S m) D (((jr G4 S.w)++[MObj.list (aI (ps.map fun n=>MV.loc (n+28)) (some 1) none)])++[MObj.list ((fY true ps (G4.length+1)).map fun n=>MV.loc (n+28))])) "cells" "part" (by decide) D ((((jr G4 S.w)++[MObj.list (aI (ps.map fun n=>MV.loc (n+28)) (some 1) none)]).length,MObj.list ((fY true ps (G4.length+1)).map fun n=>MV.loc (n+28)))::((jr G4 S.w).length,MObj.list (aI (ps.map fun n=>MV.loc (n+28)) (some 1) none))::((gB G4 S.w).length,MObj.list [MV.loc (G4.length+29)])::(G4.length+1,au (n8 S.w))::((G2.length,MObj.list (ps.map fun n=>MV.loc (n+28)))::(cE ps (cf (eg S m) m)++((G.length,MObj.list (av D S.w.top S.w.bottom))::F)))) (jy S true m) m (rf hm hq) (fun j (x:Nat×ar)=> .tup [MV.loc (bD D (S.w.top+j)+28),.loc (x.1+28)]) _ hv9 (HX.mk g9 (zq S true m)) (fun j x o1 o2 G10 hx g10=> ?_) (fun o1 o2 G10 g10=> ?_)
    ·have I2:GI R C (jy S true m j).w.grid:=vQ I (by apply⟨⟨h.1,h.2.2⟩,⟨hc.1,⟨(af [_,_] [] 4736 33 4737 hc.2.1),hc.2.2⟩⟩⟩) hm2 (Nat.le_of_lt hx.1)
     have hne:bD D (S.w.top+j)+28≠x.1+28:=fun e=>eK g10 I2 (hr j hx.1) hx.2.1 (Nat.add_right_cancel e)
     have hxl:=kJ (up:=true) (b:=S.w.back) I (top:=S.w.top) (bottom:=S.w.bottom) (left:=S.w.left) (right:=S.w.right) (i:=(S.w.top+j).toNat) (by apply⟨⟨h.1,h.2.2⟩,⟨hc.1,⟨(af [_,_] [] 4736 33 4737 hc.2.1),hc.2.2⟩⟩⟩) (by have:=hx.1;apply⟨(af [_] [_,_] 264832 481 0x225402052 (tN (af [_] [_] 0x205400030 33 131120 h.1))),(a0 [_,_] [_,_,_] 139344 558625 0x8d00895202 9001 0x245482052 hm2 hx.1 (tN (af [_] [_] 0x205400030 33 131120 h.1)))⟩)
     rw[←hx.2.2] at hxl
     have g11:=fW (bK (ab (jy S true m j).w.grid (S.w.top+j)) x.2 S.w.left S.w.right) g10 I2 (hr j hx.1)
     have hsp:=cq S.w.left (S.w.right+1) x.2 (ab (jy S true m j).w.grid (S.w.top+j)) (by have:=I2.rlen (hr j hx.1);apply⟨hc.1,⟨(af [_,_] [] 0x11a4080 33 4737 hc.2.1),(aq [_,_] [_] 0x20508d000 15393 4737 155730 hc.2.2 this)⟩⟩) (by have:=I2.rlen (hr j hx.1);apply ju [_,_,_] [_,_] 0x1f403246008 0x23108441 132736 147504 4257 0x4846a006252 139346 hR.2 hc.1 hc.2.2 hxl.2 this)
     refine' bf 0 (ao (dI g10 I2 (hr j hx.1))) ?_
     refine' bf 0 (ao (dg g10 hx.2.1)) ?_
     refine' hZ 0 hne ?_
     refine' bf 0 hsp ?_
     refine' jo 0 (by decide) o1 o2 (MV.loc (bD D (S.w.top+ ↑j)+28)) (.loc (x.1+28)) (hp (dq (jy S true m j) (S.w.top+j) (bK (ab (jy S true m j).w.grid (S.w.top+j)) x.2 S.w.left S.w.right)) D (G10.set (bD D (S.w.top+j)) (au (bK (ab (jy S true m j).w.grid (S.w.top+j)) x.2 S.w.left S.w.right)))) (nZ g11 hg9) (HX.mk g11 (nY (I1 m) ⟨h.1,(hr j hx.1).2⟩ hx.2.2))
    ·refine' ax 0 .none (hp (jy S true m m) D G10) (b7.mk (DY.drops (A:=[_,_,_,_,_]) g10).drops.drop (by rw[c1];exact rg ⟨h.1,hm2⟩))
   ·refine' aD 0 c1 ?_
    have g8:=g7.new (MObj.list (aI (ps.map fun n=>MV.loc (n+28)) none (some (-1))))
    have g9:=g8.new (MObj.list ((fY false ps (G4.length+1)).map fun n=>MV.loc (n+28)))
    have hq:((fY false ps (G4.length+1)).map fun n=>MV.loc (n+28)).length=m:=by rw[lM];exact pv _ hp1 (by apply aq [_,_] [_] 262201 15393 4737 0x8d20815002 h.2.1 hm2)
    have hcat:=(show[MV.loc (G4.length+29)].length+(aI (ps.map fun n=>MV.loc (n+28)) none (some (-1))).length≤4000 from by unfold aI;rw[lT,lD,lM];dsimp only[List.length];apply Fv [_,_,_] [_,_,_,_] 0x1f4032402300c008 0x863108421 67200 147504 4257 0x8d40895202 9002 9992 9528 hR.1 h.1 h.2.2 hm2 hp1 (Nat.min_le_right _ _) (Nat.sub_le _ _))
    have zc:=(show cB (hp (eg S m) D ((jr G4 S.w)++[MObj.list (aI (ps.map fun n=>MV.loc (n+28)) none (some (-1)))])) .Add (.loc ((gB G4 S.w).length+28)) (.loc ((jr G4 S.w).length+28))=some (.loc (((jr G4 S.w)++[MObj.list (aI (ps.map fun n=>MV.loc (n+28)) none (some (-1)))]).length+28),hp (eg S m) D (((jr G4 S.w)++[MObj.list (aI (ps.map fun n=>MV.loc (n+28)) none (some (-1)))])++[MObj.list ((fY false ps (G4.length+1)).map fun n=>MV.loc (n+28))])) from by rw[←vR false (G4.length+1) hp1 (by apply aq [_,_] [_] 262201 15393 4737 0x8d20815002 h.2.1 hm2)];exact dM g8.drop.own g8.own hcat)
    have z1:=dg g9 (mR [_,_,_,_,_] (mR _ (.head _)))
    have hv9:=rh (up:=false) (F:=((((jr G4 S.w)++[MObj.list (aI (ps.map fun n=>MV.loc (n+28)) none (some (-1)))]).length,MObj.list ((fY false ps (G4.length+1)).map fun n=>MV.loc (n+28)))::((jr G4 S.w).length,MObj.list (aI (ps.map fun n=>MV.loc (n+28)) none (some (-1))))::((gB G4 S.w).length,MObj.list [MV.loc (G4.length+29)])::(G4.length+1,au (n8 S.w))::((G2.length,MObj.list (ps.map fun n=>MV.loc (n+28)))::(cE ps (cf (eg S m) m)++((G.length,MObj.list (av D S.w.top S.w.bottom))::F))))) (g:=S.w.grid) I h.1 hm2 (by apply h.2.2) hwi.2 hp1 (fun e=>e▸ .tail _ (.tail _ (.tail _ (.head _)))) fun x hx=> .tail _ (.tail _ (.tail _ (.tail _ (.tail _ (mW _ hx)))))
    have hg9:=lQ G.length (((jr G4 S.w)++[MObj.list (aI (ps.map fun n=>MV.loc (n+28)) none (some (-1)))]).length) (av D S.w.top S.w.bottom) ((fY false ps (G4.length+1)).map fun n=>MV.loc (n+28)) ((((jr G4 S.w)++[MObj.list (aI (ps.map fun n=>MV.loc (n+28)) none (some (-1)))]).length,MObj.list ((fY false ps (G4.length+1)).map fun n=>MV.loc (n+28)))::((jr G4 S.w).length,MObj.list (aI (ps.map fun n=>MV.loc (n+28)) none (some (-1))))::((gB G4 S.w).length,MObj.list [MV.loc (G4.length+29)])::(G4.length+1,au (n8 S.w))::((G2.length,MObj.list (ps.map fun n=>MV.loc (n+28)))::(cE ps (cf (eg S m) m)++((G.length,MObj.list (av D S.w.top S.w.bottom))::F)))) (mR [_,_,_,_,_] (mR _ (.head _))) (.head _)
    refine' bf 0 (bz z0) ?_
    refine' aY 0 zc ?_
    refine' cZ 0 (uQ z1 (bw g9) (hm.trans hq.symm)) ?_
    refine' rd 0 [(G.length+28,(av D S.w.top S.w.bottom)),(((jr G4 S.w)++[MObj.list (aI (ps.map fun n=>MV.loc (n+28)) none (some (-1)))]).length+28,(fY false ps (G4.length+1)).map fun n=>MV.loc (n+28))] (dN (av D S.w.top S.w.bottom) ((fY false ps (G4.length+1)).map fun n=>MV.loc (n+28))) (hp (eg S m) D (((jr G4 S.w)++[MObj.list (aI (ps.map fun n=>MV.loc (n+28)) none (some (-1)))])++[MObj.list ((fY false ps (G4.length+1)).map fun n=>MV.loc (n+28))])) "cells" "part" (by decide) D ((((jr G4 S.w)++[MObj.list (aI (ps.map fun n=>MV.loc (n+28)) none (some (-1)))]).length,MObj.list ((fY false ps (G4.length+1)).map fun n=>MV.loc (n+28)))::((jr G4 S.w).length,MObj.list (aI (ps.map fun n=>MV.loc (n+28)) none (some (-1))))::((gB G4 S.w).length,MObj.list [MV.loc (G4.length+29)])::(G4.length+1,au (n8 S.w))::((G2.length,MObj.list (ps.map fun n=>MV.loc (n+28)))::(cE ps (cf (eg S m) m)++((G.length,MObj.list (av D S.w.top S.w.bottom))::F)))) (jy S false m) m (rf hm hq) (fun j (x:Nat×ar)=> .tup [MV.loc (bD D (S.w.top+j)+28),.loc (x.1+28)]) _ hv9 (HX.mk g9 (zq S false m)) (fun j x o1 o2 G10 hx g10=> ?_) (fun o1 o2 G10 g10=> ?_)
    ·have I2:GI R C (jy S false m j).w.grid:=vQ I (by apply⟨⟨h.1,h.2.2⟩,⟨hc.1,⟨(af [_,_] [] 4736 33 4737 hc.2.1),hc.2.2⟩⟩⟩) hm2 (Nat.le_of_lt hx.1)
     have hne:bD D (S.w.top+j)+28≠x.1+28:=fun e=>eK g10 I2 (hr j hx.1) hx.2.1 (Nat.add_right_cancel e)
     have hxl:=kJ (up:=false) (b:=S.w.back) I (top:=S.w.top) (bottom:=S.w.bottom) (left:=S.w.left) (right:=S.w.right) (i:=(S.w.top+j).toNat) (by apply⟨⟨h.1,h.2.2⟩,⟨hc.1,⟨(af [_,_] [] 4736 33 4737 hc.2.1),hc.2.2⟩⟩⟩) (by have:=hx.1;apply⟨(af [_] [_,_] 264832 481 0x225402052 (tN (af [_] [_] 0x205400030 33 131120 h.1))),(a0 [_,_] [_,_,_] 139344 558625 0x8d00895202 9001 0x245482052 hm2 hx.1 (tN (af [_] [_] 0x205400030 33 131120 h.1)))⟩)
     rw[←hx.2.2] at hxl
     have g11:=fW (bK (ab (jy S false m j).w.grid (S.w.top+j)) x.2 S.w.left S.w.right) g10 I2 (hr j hx.1)
     have hsp:=cq S.w.left (S.w.right+1) x.2 (ab (jy S false m j).w.grid (S.w.top+j)) (by have:=I2.rlen (hr j hx.1);apply⟨hc.1,⟨(af [_,_] [] 0x11a4080 33 4737 hc.2.1),(aq [_,_] [_] 0x20508d000 15393 4737 155730 hc.2.2 this)⟩⟩) (by have:=I2.rlen (hr j hx.1);apply ju [_,_,_] [_,_] 0x1f403246008 0x23108441 132736 147504 4257 0x4846a006252 139346 hR.2 hc.1 hc.2.2 hxl.2 this)
     refine' bf 0 (ao (dI g10 I2 (hr j hx.1))) ?_
     refine' bf 0 (ao (dg g10 hx.2.1)) ?_
     refine' hZ 0 hne ?_
     refine' bf 0 hsp ?_
     refine' jo 0 (by decide) o1 o2 (MV.loc (bD D (S.w.top+ ↑j)+28)) (.loc (x.1+28)) (hp (dq (jy S false m j) (S.w.top+j) (bK (ab (jy S false m j).w.grid (S.w.top+j)) x.2 S.w.left S.w.right)) D (G10.set (bD D (S.w.top+j)) (au (bK (ab (jy S false m j).w.grid (S.w.top+j)) x.2 S.w.left S.w.right)))) (nZ g11 hg9) (HX.mk g11 (nY (I1 m) ⟨h.1,(hr j hx.1).2⟩ hx.2.2))
    ·refine' ax 0 .none (hp (jy S false m m) D G10) (b7.mk (DY.drops (A:=[_,_,_,_,_]) g10).drops.drop (by rw[c1];exact rg ⟨h.1,hm2⟩))
end
section
variable(P:Cw){d:Nat}{S:Sn}{D:Dn}{G:Hp}{F:As}
theorem EG(hG:aE G D S F)(I:GI S.w.R S.w.C S.w.grid):ja (hp S D G) (.builtin "len") [.loc 21]=some (.int S.w.R,hp S D G):=by
 rw[o8 (l:=D.lrows.map fun n=> .loc (n+28)) rfl,lM,hG.l2,I.len]
theorem ri(d:Nat)(hG:aE G D S F)(I:Inv S.w):Ca (CO P (d+4)) 1334 [.loc 15,.bool true] (hp S D G) (b7 .none (aJ S (feedD S.w)) D F):=by
 have ig:=I.gi
 have id:=I.dim
 have im:=I.mar
 have ic:=I.cur
 have hl:((D.lrows.map fun n=>MV.loc (n+28)).length:Int)=S.w.R:=by rw[lM,hG.l2,ig.len]
 refine' use ?_
 refine' bc (S.w.row=S.w.bottom) (fun c1=> ?_) (fun c1=> ?_)
 ·refine' ak 5 c1 ?_
  refine' bc (S.w.left≤S.w.col) (fun c2=> ?_) (fun c2=> ?_)
  ·refine' ak 2 c2 ?_
   refine' bc (S.w.col≤S.w.right) (fun c3=> ?_) (fun c3=> ?_)
   ·refine' ak 1 c3 ?_
    refine' a7 0 (kW P d true hG ig (by apply⟨id.1.2,id.2.2⟩) (by apply⟨im.1.1,⟨im.1.2.1,im.1.2.2⟩⟩) (by apply⟨im.2.1,⟨im.2.2.1,im.2.2.2⟩⟩)) fun G5 g4=> ?_
    refine' ax 1 .none (hp ({S with w:={S.w with waits:=false,grid:=(cH S (ay S.w.grid S.w.top S.w.bottom S.w.left S.w.right S.w.back true)).w.grid}}:Sn) D G5) (b7.mk ‹_› (cA (aJ S) (by unfold feedD;rw[if_pos c1,if_pos ⟨c2,c3⟩])))
   ·refine' am 1 c3 ?_
    refine' ax 1 .none (hp ({S with w:={S.w with waits:=false}}:Sn) D G) (b7.mk ‹_› (cA (aJ S) (by unfold feedD;rw[if_pos c1,if_neg (mt And.right c3)])))
  ·refine' am 2 c2 ?_
   refine' ax 1 .none (hp ({S with w:={S.w with waits:=false}}:Sn) D G) (b7.mk ‹_› (cA (aJ S) (by unfold feedD;rw[if_pos c1,if_neg (mt And.left c2)])))
 ·refine' am 5 c1 ?_
  refine' bc (S.w.row≠ ↑(List.map (fun n=>MV.loc (n+28)) D.lrows).length- 1) (fun c6=> ?_) (fun c6=> ?_)
  ·refine' ak 1 c6 ?_
   refine' ax 4 .none (hp ({S with w:={S.w with row:=S.w.row+1,waits:=false}}:Sn) D G) (b7.mk ‹_› (cA (aJ S) (by unfold feedD;rw[if_neg c1,if_pos (Int.lt_iff_le_and_ne.mpr ⟨Int.le_sub_one_of_lt ic.1.2,hl▸c6⟩)])))
  ·refine' am 1 c6 ?_
   refine' ax 1 .none (hp ({S with w:={S.w with waits:=false}}:Sn) D G) (b7.mk ‹_› (cA (aJ S) (by unfold feedD;rw[if_neg c1,if_neg (mt (fun q:S.w.row<S.w.R- 1=>Int.ne_of_lt q) (hl▸c6))])))
theorem yr(d:Nat)(hG:aE G D S F)(I:Inv S.w):Ca (CO P (d+4)) 1334 [.loc 15,.bool false] (hp S D G) (b7 .none (aJ S (feedU S.w)) D F):=by
 have ig:=I.gi
 have id:=I.dim
 have im:=I.mar
 have ic:=I.cur
 have hl:((D.lrows.map fun n=>MV.loc (n+28)).length:Int)=S.w.R:=by rw[lM,hG.l2,ig.len]
 refine' use ?_
 refine' bc (S.w.row=S.w.top) (fun c7=> ?_) (fun c7=> ?_)
 ·refine' ak 3 c7 ?_
  refine' bc (S.w.left≤S.w.col) (fun c8=> ?_) (fun c8=> ?_)
  ·refine' ak 2 c8 ?_
   refine' bc (S.w.col≤S.w.right) (fun c9=> ?_) (fun c9=> ?_)
   ·refine' ak 1 c9 ?_
    refine' a7 0 (kW P d false hG ig (by apply⟨id.1.2,id.2.2⟩) (by apply⟨im.1.1,⟨im.1.2.1,im.1.2.2⟩⟩) (by apply⟨im.2.1,⟨im.2.2.1,im.2.2.2⟩⟩)) fun G11 g10=> ?_
    refine' ax 1 .none (hp ({S with w:={S.w with waits:=false,grid:=(cH S (ay S.w.grid S.w.top S.w.bottom S.w.left S.w.right S.w.back false)).w.grid}}:Sn) D G11) (b7.mk ‹_› (cA (aJ S) (by unfold feedU;rw[if_pos c7,if_pos ⟨c8,c9⟩])))
   ·refine' am 1 c9 ?_
    refine' ax 1 .none (hp ({S with w:={S.w with waits:=false}}:Sn) D G) (b7.mk ‹_› (cA (aJ S) (by unfold feedU;rw[if_pos c7,if_neg (mt And.right c9)])))
  ·refine' am 2 c8 ?_
   refine' ax 1 .none (hp ({S with w:={S.w with waits:=false}}:Sn) D G) (b7.mk ‹_› (cA (aJ S) (by unfold feedU;rw[if_pos c7,if_neg (mt And.left c8)])))
 ·refine' am 3 c7 ?_
  refine' bc (S.w.row≠0) (fun c12=> ?_) (fun c12=> ?_)
  ·refine' ak 1 c12 ?_
   refine' ax 4 .none (hp ({S with w:={S.w with row:=S.w.row+ -1,waits:=false}}:Sn) D G) (b7.mk ‹_› (cA (aJ S) (by unfold feedU;rw[if_neg c7,if_pos (Int.lt_iff_le_and_ne.mpr ⟨ic.1.1,Ne.symm c12⟩),Int.sub_eq_add_neg])))
  ·refine' am 1 c12 ?_
   refine' ax 1 .none (hp ({S with w:={S.w with waits:=false}}:Sn) D G) (b7.mk ‹_› (cA (aJ S) (by unfold feedU;rw[if_neg c7,if_neg (mt (fun q:0<S.w.row=>Ne.symm (Int.ne_of_lt q)) c12)])))
theorem f0(d:Nat)(S:Sn)(D:Dn)(G:Hp):Ca (CO P (d+1)) 1308 [.loc 15] (hp ({S with w:={S.w with waits:=false}}:Sn) D G) (bU (.int (aR S.w)) (hp ({S with w:={S.w with waits:=false}}:Sn) D G)):=qZ P d _ D G
theorem i8(d:Nat)(hG:aE G D S F)(I:Inv S.w):Ca (CO P (d+5)) 1341 [.loc 15] (hp S D G) (b7 .none (aJ S (ae S.w)) D F):=by
 refine' use ?_
 refine' aj 0 (qZ P (d+3) S D G) ?_
 refine' a7 0 (ri P d hG I) fun G2 g1=> ?_
 refine' ax 1 .none (hp ({S with w:={(aJ S (feedD S.w)).w with col:=aR S.w}}:Sn) D G2) (b7.mk ‹_› rfl)
theorem pA(d:Nat)(hG:aE G D S F):Ca (CO P (d+2)) 1362 [.loc 15] (hp S D G) (b7 .none (aJ S (cv S.w)) D F):=by
 refine' use ?_
 refine' fz (S.w.near) (fun c1=> ?_) (fun c1=> ?_)
 ·refine' aD 1 c1 ?_
  refine' fz (S.w.aw) (fun c2=> ?_) (fun c2=> ?_)
  ·refine' aD 3 c2 ?_
   refine' fz (S.w.waits) (fun c3=> ?_) (fun c3=> ?_)
   ·refine' aD 0 c3 ?_
    refine' ax 0 (MV.none) (hp ({S with w:={S.w with waits:=false}}:Sn) D G) (b7.mk ‹_› (cA (aJ S) (jN ⟨.inl c1,c2⟩ c3).symm))
   ·refine' aD 0 c3 ?_
    refine' aj 1 (f0 P d S D G) ?_
    refine' bc (aR S.w<S.w.col) (fun c4=> ?_) (fun c4=> ?_)
    ·refine' ak 0 c4 ?_
     refine' ax 2 .none (hp ({S with w:={S.w with col:=S.w.col- 1,waits:=false}}:Sn) D G) (b7.mk ‹_› (cA (aJ S) (dB (mt And.right (nB c3)) c4).symm))
    ·refine' am 0 c4 ?_
     refine' aD 0 c2 ?_
     refine' bc (S.w.row≠S.w.top) (fun c5=> ?_) (fun c5=> ?_)
     ·refine' ak 2 c5 ?_
      refine' bc (0<S.w.row) (fun c6=> ?_) (fun c6=> ?_)
      ·refine' ak 1 c6 ?_
       refine' ax 4 .none (hp ({S with w:={S.w with row:=S.w.row- 1,col:=S.w.right,waits:=false}}:Sn) D G) (b7.mk ‹_› (cA (aJ S) (kQ ⟨.inl c1,c2⟩ (nB c3) c4 ⟨c5,c6⟩).symm))
      ·refine' am 1 c6 ?_
       refine' aD 0 c2 ?_
       refine' am 2 (A:=S.w.row=S.w.top) c5 ?_
       refine' ax 0 .none (hp ({S with w:={S.w with waits:=false}}:Sn) D G) (b7.mk ‹_› (cA (aJ S) (iE ⟨.inl c1,c2⟩ (nB c3) c4 (mt And.right c6) (mt And.left c5)).symm))
     ·refine' am 2 c5 ?_
      refine' aD 0 c2 ?_
      refine' ak 2 (A:=S.w.row=S.w.top) (by omega) ?_
      refine' fz (S.w.far) (fun c7=> ?_) (fun c7=> ?_)
      ·refine' aD 1 c7 ?_
       refine' ax 4 .none (hp ({S with w:={S.w with row:=S.w.bottom,col:=S.w.right,waits:=false}}:Sn) D G) (b7.mk ‹_› (cA (aJ S) (kR ⟨.inl c1,c2⟩ (nB c3) c4 (Decidable.not_not.mp c5) c7).symm))
      ·refine' aD 1 c7 ?_
       refine' ax 0 .none (hp ({S with w:={S.w with waits:=false}}:Sn) D G) (b7.mk ‹_› (cA (aJ S) (iE ⟨.inl c1,c2⟩ (nB c3) c4 (mt And.left c5) (mt And.right (nB c7))).symm))
  ·refine' aD 3 c2 ?_
   refine' aj 1 (f0 P d S D G) ?_
   refine' bc (aR S.w<S.w.col) (fun c8=> ?_) (fun c8=> ?_)
   ·refine' ak 0 c8 ?_
    refine' ax 2 .none (hp ({S with w:={S.w with col:=S.w.col- 1,waits:=false}}:Sn) D G) (b7.mk ‹_› (cA (aJ S) (dB (mt (fun q=>q.1.2) (nB c2)) c8).symm))
   ·refine' am 0 c8 ?_
    refine' aD 0 c2 ?_
    refine' aD 0 c2 ?_
    refine' ax 0 .none (hp ({S with w:={S.w with waits:=false}}:Sn) D G) (b7.mk ‹_› (cA (aJ S) (gm (mt And.right (nB c2)) c8).symm))
 ·refine' aD 1 c1 ?_
  refine' fz (S.w.far) (fun c9=> ?_) (fun c9=> ?_)
  ·refine' aD 1 c9 ?_
   refine' fz (S.w.aw) (fun c10=> ?_) (fun c10=> ?_)
   ·refine' aD 3 c10 ?_
    refine' fz (S.w.waits) (fun c11=> ?_) (fun c11=> ?_)
    ·refine' aD 0 c11 ?_
     refine' ax 0 (MV.none) (hp ({S with w:={S.w with waits:=false}}:Sn) D G) (b7.mk ‹_› (cA (aJ S) (jN ⟨.inr c9,c10⟩ c11).symm))
    ·refine' aD 0 c11 ?_
     refine' aj 1 (f0 P d S D G) ?_
     refine' bc (aR S.w<S.w.col) (fun c12=> ?_) (fun c12=> ?_)
     ·refine' ak 0 c12 ?_
      refine' ax 2 .none (hp ({S with w:={S.w with col:=S.w.col- 1,waits:=false}}:Sn) D G) (b7.mk ‹_› (cA (aJ S) (dB (mt And.right (nB c11)) c12).symm))
     ·refine' am 0 c12 ?_
      refine' aD 0 c10 ?_
      refine' bc (S.w.row≠S.w.top) (fun c13=> ?_) (fun c13=> ?_)
      ·refine' ak 2 c13 ?_
       refine' bc (0<S.w.row) (fun c14=> ?_) (fun c14=> ?_)
       ·refine' ak 1 c14 ?_
        refine' ax 4 .none (hp ({S with w:={S.w with row:=S.w.row- 1,col:=S.w.right,waits:=false}}:Sn) D G) (b7.mk ‹_› (cA (aJ S) (kQ ⟨.inr c9,c10⟩ (nB c11) c12 ⟨c13,c14⟩).symm))
       ·refine' am 1 c14 ?_
        refine' aD 0 c10 ?_
        refine' am 2 (A:=S.w.row=S.w.top) c13 ?_
        refine' ax 0 .none (hp ({S with w:={S.w with waits:=false}}:Sn) D G) (b7.mk ‹_› (cA (aJ S) (iE ⟨.inr c9,c10⟩ (nB c11) c12 (mt And.right c14) (mt And.left c13)).symm))
      ·refine' am 2 c13 ?_
       refine' aD 0 c10 ?_
       refine' ak 2 (A:=S.w.row=S.w.top) (by omega) ?_
       refine' aD 1 c9 ?_
       refine' ax 4 .none (hp ({S with w:={S.w with row:=S.w.bottom,col:=S.w.right,waits:=false}}:Sn) D G) (b7.mk ‹_› (cA (aJ S) (kR ⟨.inr c9,c10⟩ (nB c11) c12 (Decidable.not_not.mp c13) c9).symm))
   ·refine' aD 3 c10 ?_
    refine' aj 1 (f0 P d S D G) ?_
    refine' bc (aR S.w<S.w.col) (fun c15=> ?_) (fun c15=> ?_)
    ·refine' ak 0 c15 ?_
     refine' ax 2 .none (hp ({S with w:={S.w with col:=S.w.col- 1,waits:=false}}:Sn) D G) (b7.mk ‹_› (cA (aJ S) (dB (mt (fun q=>q.1.2) (nB c10)) c15).symm))
    ·refine' am 0 c15 ?_
     refine' aD 0 c10 ?_
     refine' aD 0 c10 ?_
     refine' ax 0 .none (hp ({S with w:={S.w with waits:=false}}:Sn) D G) (b7.mk ‹_› (cA (aJ S) (gm (mt And.right (nB c10)) c15).symm))
  ·refine' aD 1 c9 ?_
   refine' aj 4 (f0 P d S D G) ?_
   refine' bc (aR S.w<S.w.col) (fun c16=> ?_) (fun c16=> ?_)
   ·refine' ak 0 c16 ?_
    refine' ax 2 .none (hp ({S with w:={S.w with col:=S.w.col- 1,waits:=false}}:Sn) D G) (b7.mk ‹_› (cA (aJ S) (dB (mt (fun q=>q.1.1) (not_or.mpr ⟨nB c1,nB c9⟩)) c16).symm))
   ·refine' am 0 c16 ?_
    refine' ax 2 .none (hp ({S with w:={S.w with waits:=false}}:Sn) D G) (b7.mk ‹_› (cA (aJ S) (gm (mt And.left (not_or.mpr ⟨nB c1,nB c9⟩)) c16).symm))
end
noncomputable def dW:List Str→aQ→aQ→aQ
 |[],_,σ=>σ
 |x::ns,ρ,σ=>fun y=>if y=x then ρ y else dW ns ρ σ y
noncomputable def n9:aQ→List (Str×MV)→aQ
 |σ,[]=>σ
 |σ,p::r=>n9 (upd σ p.1 p.2) r
theorem oa(σ:aQ): ∀ns,dW ns σ σ=σ
 |[]=>rfl
 |x::ns=>by
  funext y
  unfold dW
  rw[oa σ ns]
  split<;>rfl
theorem yt(ρ σ:aQ)(v:MV){x:Str}: ∀ {ns:List Str},x∈ns→upd (dW ns ρ σ) x v=dW ns (upd ρ x v) σ:=fun{ns} h=>by
 funext y
 have key: ∀ (ns:List Str) (ρ':aQ),dW ns ρ' σ y=if y∈ns then ρ' y else σ y:=by
  intro ns ρ'
  induction ns with
  |nil=>simp[dW]
  |cons a ns ih=>
   unfold dW
   rw[ih]
   by_cases e:y=a
   ·simp[e]
   ·simp[e]
 rw[key,show upd (dW ns ρ σ) x v y=if y=x then some v else dW ns ρ σ y from rfl,key]
 by_cases e:y=x
 ·subst e
  rw[if_pos rfl,if_pos h];exact(if_pos rfl).symm
 ·rw[if_neg e]
  split
  ·exact(if_neg e).symm
  ·rfl
theorem og{ns:List Str}(σ:aQ): ∀ (l:List (Str×MV)) (ρ:aQ),(∀p∈l,p.1∈ns)→n9 (dW ns ρ σ) l=dW ns (n9 ρ l) σ
 |[],_,_=>rfl
 |p::r,ρ,h=>by
  rw[n9,yt ρ σ p.2 (h p (.head _))]
  exact og σ r _ fun q hq=>h q (.tail _ hq)
theorem vS{ns:List Str}{l:List (Str×MV)}(h:(l.map (·.1)).all (fun x=>decide (x∈ns))=true): ∀p∈l,p.1∈ns:=fun p hp=>by
 have:=List.all_eq_true.mp h p.1 (List.mem_map_of_mem hp)
 exact of_decide_eq_true this
section
variable{O:dJ}{t:Tr}{Q:QS}
theorem vT{ι:Type}(n:Nat)(ns:List Str)(gs:List (Nat×List MV))(items:List MV)(H:Hp)(J:Nat→Hp→Prop)(m:Nat)(hm:items.length=m)(vf:Nat→ι→MV)(pr:Nat→ι→Prop)(hv: ∀ (j:Nat) v,items[j]?=some v→ ∃x,pr j x∧v=vf j x)(h0:J 0 H)
  (turn: ∀ (j:Nat) (x:ι) (ρ:aQ) (H:Hp),pr j x→J j H→Wt O (wE (aL n t) (vf j x) (dW ns ρ (fC (aL n t))) H) fun fl σ' H'=>fl= .next∧(∃ρ,σ'=dW ns ρ (fC (aL n t)))∧bg gs H'∧J (j+1) H')
  (done: ∀ (ρ:aQ) (H:Hp),J m H→Wt O (wG (aL n t) .next (dW ns ρ (fC (aL n t))) H) Q) (hr:wH (aL n t)=some (gs,items,H):=by kernel_rfl):Wt O t Q:=by
 subst hm
 refine jF n (fun j σ H=>(∃ρ,σ=dW ns ρ (fC (aL n t)))∧J j H) ⟨⟨_,(oa _ ns).symm⟩,h0⟩ (fun j v σ H h1 hI=> ?_) (fun σ H hI=> ?_) hr
 ·obtain⟨⟨ρ,rfl⟩,hI⟩:=hI
  obtain⟨x,hx,rfl⟩:=hv j v h1
  exact Wt.mono _ (fun fl σ' H' q=>⟨q.1,q.2.2.1,q.2.1,q.2.2.2⟩) (turn j x ρ H hx hI)
 ·obtain⟨⟨ρ,rfl⟩,hI⟩:=hI
  exact done ρ H hI
theorem rj{ι:Type}(n:Nat)(ns:List Str)(gs:List (Nat×List MV))(items:List MV)(H:Hp)(D:Dn)(F:As)(B:Nat→Sn)(m:Nat)(hm:items.length=m)(vf:Nat→ι→MV)(pr:Nat→ι→Prop)(hv: ∀ (j:Nat) v,items[j]?=some v→ ∃x,pr j x∧v=vf j x)(h0:HX (B 0) D F H)
  (turn: ∀ (j:Nat) (x:ι) (ρ:aQ) (G:Hp),pr j x→aE G D (B j) F→Wt O (wE (aL n t) (vf j x) (dW ns ρ (fC (aL n t))) (hp (B j) D G)) fun fl σ' H'=>fl= .next∧(∃ρ,σ'=dW ns ρ (fC (aL n t)))∧bg gs H'∧HX (B (j+1)) D F H')
  (done: ∀ (ρ:aQ) (G:Hp),aE G D (B m) F→Wt O (wG (aL n t) .next (dW ns ρ (fC (aL n t))) (hp (B m) D G)) Q) (hr:wH (aL n t)=some (gs,items,H):=by kernel_rfl):Wt O t Q:=
 vT n ns gs items H (fun j H=>HX (B j) D F H) m hm vf pr hv h0 (fun j x ρ H hx ⟨G,e,g⟩=>by subst e;exact turn j x ρ G hx g) (fun ρ H ⟨G,e,g⟩=>by subst e;exact done ρ G g) hr
theorem gX(n:Nat){σ:aQ}{ns:List Str}{gs:List (Nat×List MV)}{I:Hp→Prop}(ρ:aQ)(l:List (Str×MV))(H:Hp)(hs:bg gs H)(h:I H)(hn:(l.map (·.1)).all (fun x=>decide (x∈ns))=true:=by kernel_rfl)(hr:rs (aL n t)=some (.next,n9 (dW ns ρ σ) l,H):=by kernel_rfl):Wt O t fun fl σ' H'=>fl= .next∧(∃ρ,σ'=dW ns ρ σ)∧bg gs H'∧I H':=
 my n .next _ H ⟨rfl,⟨_,og σ l ρ (vS hn)⟩,hs,h⟩ hr
end
noncomputable abbrev cS(S:Sn)(r k:Int):Sn:=dq S r (a9 (ab S.w.grid r) k)
noncomputable abbrev CJ(S:Sn)(on:Bool):Nat→ar→ar:=fun _ cs=>if on then ins cs S.w.left 1 S.w.right S.w.back else nh cs S.w.left S.w.right S.w.back
noncomputable abbrev nj(S:Sn)(on:Bool)(j:Nat):Sn:=cH S (a6 S.w.grid (CJ S on) S.w.top.toNat (S.w.top+ ↑j).toNat)
section
variable{S:Sn}{D:Dn}{G:Hp}{F:As}{R C r:Int}
theorem cW{k:Int}(I:GI R C S.w.grid)(h:0≤r∧r<R):GI R C (cS S r k).w.grid:=I.setC (gJ (I.rowC h) _)
theorem bT{k:Int}(I:GI R C S.w.grid)(h:0≤r∧r<R):ab (cS S r k).w.grid r=a9 (ab S.w.grid r) k:=gn _ I h
noncomputable abbrev ci(S:Sn)(on:Bool)(j:Nat)(k:Int):Sn:=cS (cS (cS (nj S on j) (S.w.top+j) S.w.left) (S.w.top+j) (S.w.right+1)) (S.w.top+j) k
theorem oh{on:Bool}{j:Nat}{a b c:Int}{x:ar}(I:GI R C S.w.grid)(h:0≤S.w.top∧S.w.top+j<R)(e:x=CJ S on 0 (ab S.w.grid (S.w.top+j))):dq (cS (cS (cS (nj S on j) (S.w.top+j) a) (S.w.top+j) b) (S.w.top+j) c) (S.w.top+j) x=nj S on (j+1):=by
 show cH S (((((nj S on j).w.grid.set _ _).set _ _).set _ _).set _ _)=cH S _
 rw[List.set_set,List.set_set,List.set_set,e]
 exact cA (cH S) (iw (f:=CJ S on) I h)
theorem zr{c:ar}{l r b:Int}(h:0≤l∧l≤r∧r<c.length):[(bare b).mv]++aI ((aC c l r).map Cell.mv) none (some (-1))=(cy c l 1 r b).map Cell.mv:=by
 have hl:=fQ h
 have e:aI ((aC c l r).map Cell.mv) none (some (-1))=((aC c l r).take ((aC c l r).length- 1)).map Cell.mv:=by
  unfold aI fb fF
  rw[List.map_take];simp
 rw[e]
 unfold cy
 rw[mP]
 refine cA _ (cA _ ?_)
 conv=>lhs;arg 2;unfold aC
 rw[List.take_take]
 congr 1
 apply eo [_,_] [_,_,_,_] 8970 0x1f17bc317c621 0x48468006452 0x8cb2286652 0x242308d00086252 9994 hl (oS (aq [_,_] [_] 262712 15393 4736 0x40469006052 h.2.1 hl)) (tN (af [_,_] [] 0x242308d00084030 33 4240 h.2.1)) (mL (a0 [_,_] [_,_,_] 8968 509473 0x48468006452 0x8cb2286052 0x48468006252 hl (oS (aq [_,_] [_] 262712 15393 4736 0x40469006052 h.2.1 hl)) (tN (af [_,_] [] 0x48468004030 33 4240 h.2.1))))
theorem vU{c:ar}{l r b:Int}(h:0≤l∧l≤r∧r<c.length):aI ((aC c l r).map Cell.mv) (some 1) none++[(bare b).mv]=(eQ c l r b).map Cell.mv:=by
 have hl:=fQ h
 rw[iC (by rw[lM];exact⟨(aV [] [] 573488 1),(aq [_,_] [_] 0x814230 15393 4736 0x40469006052 h.2.1 hl)⟩)]
 unfold eQ
 rw[mP,←List.map_drop]
 refine cA (·++_) (cA _ ?_)
 unfold aC
 rw[show(1:Int).toNat=1 from rfl,List.drop_take,List.drop_drop]
 congr 1
 ·exact a0 [_,_] [_,_,_] 8970 0x7c5e18be21 0x48468006452 0x46900468006252 0x8cb2286052 (tN (af [_,_] [] 0x48468004030 33 4240 h.2.1)) (tN (af [_,_] [] 0x46900468004030 33 4240 h.2.1)) (oS (aq [_,_] [_] 262712 15393 4736 0x40469006052 h.2.1 (tN (af [_,_] [] 0x48468004030 33 4240 h.2.1))))
 ·congr 1;exact aq [_] [_,_] 0x1108e00a 0x22f0be21 139346 0x23402252 (tN h.1) (tN (af [_] [] 0x23400030 33 131120 h.1))
theorem rk{c:ar}{l r:Int}(h:0≤l∧l≤r∧r<c.length):aI (c.map Cell.mv) (some l) (some (r+1))=(aC c l r).map Cell.mv:=lG (by exact⟨h.1,⟨(af [_,_] [] 0x11a4080 33 4736 h.2.1),(af [_] [_] 0x20508d000 33 264833 h.2.2)⟩⟩)
end
section
variable(P:Cw){d:Nat}{S:Sn}{D:Dn}{G:Hp}{F:As}
theorem yu(d:Nat)(hG:aE G D S F)(I:Inv S.w):Ca (CO P (d+3)) 1327 [.loc 15,.bool true] (hp S D G) (b7 .none (aJ S {S.w with grid:=(bL S.w true).grid}) D F):=by
 have ig:=I.gi
 have im:=I.mar
 have id:=I.dim
 have hwi:=i7 hG ig (t:=S.w.top) (b:=S.w.bottom) (by exact⟨im.1.1,⟨(af [_,_] [] 4736 33 4737 im.1.2.1),im.1.2.2⟩⟩)
 have g1:aE (G++[MObj.list [(bare S.w.back).mv]]++[MObj.list (av D S.w.top S.w.bottom)]) D S (((G++[MObj.list [(bare S.w.back).mv]]).length,MObj.list (av D S.w.top S.w.bottom))::(G.length,MObj.list [(bare S.w.back).mv])::F):=by
  exact(hG.new (MObj.list [(bare S.w.back).mv])).new (MObj.list (av D S.w.top S.w.bottom))
 obtain⟨m,hm⟩: ∃m,(av D S.w.top S.w.bottom).length=m:=⟨_,rfl⟩
 have hm2:S.w.top+m=S.w.bottom+1:=by rw[←hm,hwi.1];exact af [_,_] [_] 0x8d20815002 493089 0x40469006052 (tN (af [_,_] [] 0x48468004030 33 4241 im.1.2.1))
 have hv: ∀ (j:Nat) v,(av D S.w.top S.w.bottom)[j]?=some v→ ∃_:Unit,j<m∧v= .loc (bD D (S.w.top+j)+28):=fun j v e=>⟨(),hm▸ (gS e).1,(hwi.2 j v e).2⟩
 have I1: ∀j,GI S.w.R S.w.C (nj S true j).w.grid:=fun j=>i6 ig _ _ fun _ cs h=>fR h (by exact⟨im.2.1,⟨(af [_,_] [] 4736 33 4737 im.2.2.1),im.2.2.2⟩⟩) (by exact⟨(aV [] [] 573489 1),(af [_,_] [] 0x8d28080230 33 4241 im.2.2.1)⟩)
 have hr: ∀j:Nat,j<m→0≤S.w.top+j∧S.w.top+j<S.w.R:=fun j hj=>by exact⟨(af [_] [_] 0x205400030 33 131120 im.1.1),(a0 [_,_,_] [_,_] 0x9815001 50209 4769 0x8d40895002 8969 im.1.2.2 hm2 hj)⟩
 have h00:S=nj S true 0:=by unfold nj cH;rw[show S.w.top+ ↑(0:Nat)=S.w.top by exact aV [_] [] 0x100195002 33,b9]
 have hend:nj S true m=aJ S {S.w with grid:=(bL S.w true).grid}:=by unfold nj;rw[hm2];rfl
 refine' use ?_
 refine' aj 3 (gq P (d+1) (hp S D G) S.w.back) ?_
 refine' cZ 4 (a:=(av D S.w.top S.w.bottom)) (gs:=[((G++[MObj.list [(bare S.w.back).mv]]).length+28,(av D S.w.top S.w.bottom))]) (fM (H:=hp S D (G++[MObj.list [(bare S.w.back).mv]]++[MObj.list (av D S.w.top S.w.bottom)])) (n:=(G++[MObj.list [(bare S.w.back).mv]]).length+28) (bw g1)) ?_
 refine' rj 0 ["cells","border","part"] [((G++[MObj.list [(bare S.w.back).mv]]).length+28,(av D S.w.top S.w.bottom))] (av D S.w.top S.w.bottom) (hp S D (G++[MObj.list [(bare S.w.back).mv]]++[MObj.list (av D S.w.top S.w.bottom)])) D (((G++[MObj.list [(bare S.w.back).mv]]).length,MObj.list (av D S.w.top S.w.bottom))::(G.length,MObj.list [(bare S.w.back).mv])::F) (nj S true) m hm (fun j (_:Unit)=> .loc (bD D (S.w.top+j)+28)) (fun j _=>j<m) hv (HX.mk g1 h00) (fun j x ρ G0 hj g0=> ?_) (fun ρ G0 g0=> ?_)
 ·have hrj:=hr j hj
  have J1:=cW (k:=S.w.left) (I1 j) hrj
  have J2:=cW (k:=S.w.right+1) J1 hrj
  have J3:=cW (k:=S.w.right) J2 hrj
  have hc:(ab (ci S true j S.w.right).w.grid (S.w.top+j))=a9 (a9 (a9 (ab S.w.grid (S.w.top+j)) S.w.left) (S.w.right+1)) S.w.right:=by
   rw[bT J2 hrj,bT J1 hrj,bT (I1 j) hrj]
   exact cA (fun x=>a9 (a9 (a9 x _) _) _) (iy _ _ im.1.1)
  have hl:(((ab (ci S true j S.w.right).w.grid (S.w.top+j)).length:Nat):Int)=S.w.C:=J3.rlen hrj
  have hb:0≤S.w.left∧S.w.left≤S.w.right∧S.w.right<(ab (ci S true j S.w.right).w.grid (S.w.top+j)).length:=by exact⟨im.2.1,⟨(af [_,_] [] 4736 33 4737 im.2.2.1),(aq [_,_] [_] 264833 15393 4737 155730 im.2.2.2 hl)⟩⟩
  have hu:=fP (many:=1) (c:=(ab (ci S true j S.w.right).w.grid (S.w.top+j))) (b:=S.w.back) hb (by exact⟨(aV [] [] 573489 1),(af [_,_] [] 0x8d28080230 33 4241 im.2.2.1)⟩)
  have hpk:=rk hb
  have hsp:=cq S.w.left (S.w.right+1) (cy (ab (ci S true j S.w.right).w.grid (S.w.top+j)) S.w.left 1 S.w.right S.w.back) (ab (ci S true j S.w.right).w.grid (S.w.top+j)) (by exact⟨im.2.1,⟨(af [_,_] [] 0x11a4080 33 4737 im.2.2.1),(aq [_,_] [_] 0x20508d000 15393 4737 155730 im.2.2.2 hl)⟩⟩) (by exact ju [_,_,_] [_,_] 0x1f403246008 0x23110421 131120 5265 132768 172114 0x40469006252 im.2.1 im.2.2.2 id.2.2 hl hu)
  refine' a7 2 (cw P d S.w.left g0 (I1 j) hrj id.2.2) fun G1 g1=> ?_
  refine' a7 1 (cw P d (S.w.right+1) g1 J1 hrj id.2.2) fun G2 g2=> ?_
  refine' a7 1 (cw P d S.w.right g2 J2 hrj id.2.2) fun G3 g3=> ?_
  have g4:=g3.new (MObj.list (aI ((ab (ci S true j S.w.right).w.grid (S.w.top+j)).map Cell.mv) (some S.w.left) (some (S.w.right+1))))
  have z4:=(bw g4).trans (cA (fun l=>some (MObj.list l)) hpk)
  have g5:=g4.new (MObj.list (aI ((aC (ab (ci S true j S.w.right).w.grid (S.w.top+j)) S.w.left S.w.right).map Cell.mv) none (some (-1))))
  have hcat:=show cB (hp (ci S true j S.w.right) D ((G3++[MObj.list (aI ((ab (ci S true j S.w.right).w.grid (S.w.top+j)).map Cell.mv) (some S.w.left) (some (S.w.right+1)))])++[MObj.list (aI ((aC (ab (ci S true j S.w.right).w.grid (S.w.top+j)) S.w.left S.w.right).map Cell.mv) none (some (-1)))])) .Add (.loc (G.length+28)) (.loc ((G3++[MObj.list (aI ((ab (ci S true j S.w.right).w.grid (S.w.top+j)).map Cell.mv) (some S.w.left) (some (S.w.right+1)))]).length+28))=some (.loc (((G3++[MObj.list (aI ((ab (ci S true j S.w.right).w.grid (S.w.top+j)).map Cell.mv) (some S.w.left) (some (S.w.right+1)))])++[MObj.list (aI ((aC (ab (ci S true j S.w.right).w.grid (S.w.top+j)) S.w.left S.w.right).map Cell.mv) none (some (-1)))]).length+28),hp (ci S true j S.w.right) D (((G3++[MObj.list (aI ((ab (ci S true j S.w.right).w.grid (S.w.top+j)).map Cell.mv) (some S.w.left) (some (S.w.right+1)))])++[MObj.list (aI ((aC (ab (ci S true j S.w.right).w.grid (S.w.top+j)) S.w.left S.w.right).map Cell.mv) none (some (-1)))])++[au (cy (ab (ci S true j S.w.right).w.grid (S.w.top+j)) S.w.left 1 S.w.right S.w.back)])) from(dM (g5.drop.drop.own2) g5.own (by rw[←List.length_append,zr hb,lM];exact eo [_,_,_] [_] 0x7d00c908 0x1108421 131120 5265 132768 0x40469006052 im.2.1 im.2.2.2 id.2.2 hu)).trans (by rw[zr hb])
  have g6:=g5.new (au (cy (ab (ci S true j S.w.right).w.grid (S.w.top+j)) S.w.left 1 S.w.right S.w.back))
  have hne:bD D (S.w.top+j)+28≠ ((G3++[MObj.list (aI ((ab (ci S true j S.w.right).w.grid (S.w.top+j)).map Cell.mv) (some S.w.left) (some (S.w.right+1)))])++[MObj.list (aI ((aC (ab (ci S true j S.w.right).w.grid (S.w.top+j)) S.w.left S.w.right).map Cell.mv) none (some (-1)))]).length+28:=fun e=>eK g6 J3 hrj (.head _) (Nat.add_right_cancel e)
  have z6:=bw g6
  have g7:=fW (bK (ab (ci S true j S.w.right).w.grid (S.w.top+j)) (cy (ab (ci S true j S.w.right).w.grid (S.w.top+j)) S.w.left 1 S.w.right S.w.back) S.w.left S.w.right) g6.drop.drop.drop J3 hrj
  have hx:bK (ab (ci S true j S.w.right).w.grid (S.w.top+j)) (cy (ab (ci S true j S.w.right).w.grid (S.w.top+j)) S.w.left 1 S.w.right S.w.back) S.w.left S.w.right=CJ S true 0 (ab S.w.grid (S.w.top+j)):=by
   show bK (ab (ci S true j S.w.right).w.grid (S.w.top+j)) (cy (ab (ci S true j S.w.right).w.grid (S.w.top+j)) S.w.left 1 S.w.right S.w.back) S.w.left S.w.right=ins _ _ _ _ _
   rw[hc];unfold ins;rw[show S.w.right+1- 1=S.w.right by exact aV [_] [] 0x404611a0012 33]
  refine' bf 1 (bz (dI g3 J3 hrj)) ?_
  refine' bf 1 (bz z4) ?_
  refine' aY 0 hcat ?_
  refine' bf 0 (ao (dI g6 J3 hrj)) ?_
  refine' bf 0 (ao z6) ?_
  refine' hZ 0 hne ?_
  refine' bf 0 hsp ?_
  refine' gX 0 ρ [("cells",.loc (bD D (S.w.top+j)+28)),("border",.int S.w.left),("border",.int (S.w.right+1)),("border",.int S.w.right),("part",.loc (G3.length+28))] (hp (dq (ci S true j S.w.right) (S.w.top+j) (bK (ab (ci S true j S.w.right).w.grid (S.w.top+j)) (cy (ab (ci S true j S.w.right).w.grid (S.w.top+j)) S.w.left 1 S.w.right S.w.back) S.w.left S.w.right)) D ((((G3++[MObj.list (aI ((ab (ci S true j S.w.right).w.grid (S.w.top+j)).map Cell.mv) (some S.w.left) (some (S.w.right+1)))])++[MObj.list (aI ((aC (ab (ci S true j S.w.right).w.grid (S.w.top+j)) S.w.left S.w.right).map Cell.mv) none (some (-1)))])++[au (cy (ab (ci S true j S.w.right).w.grid (S.w.top+j)) S.w.left 1 S.w.right S.w.back)]).set (bD D (S.w.top+j)) (au (bK (ab (ci S true j S.w.right).w.grid (S.w.top+j)) (cy (ab (ci S true j S.w.right).w.grid (S.w.top+j)) S.w.left 1 S.w.right S.w.back) S.w.left S.w.right)))) (bN (bw g7)) (HX.mk g7 (oh ig ⟨im.1.1,hrj.2⟩ hx))
 ·refine' ax 0 .none (hp (nj S true m) D G0) (b7.mk g0.drop.drop hend)
theorem vV(d:Nat)(hG:aE G D S F)(I:Inv S.w):Ca (CO P (d+3)) 1327 [.loc 15,.bool false] (hp S D G) (b7 .none (aJ S {S.w with grid:=(bL S.w false).grid}) D F):=by
 have ig:=I.gi
 have im:=I.mar
 have id:=I.dim
 have hwi:=i7 hG ig (t:=S.w.top) (b:=S.w.bottom) (by exact⟨im.1.1,⟨(af [_,_] [] 4736 33 4737 im.1.2.1),im.1.2.2⟩⟩)
 have g1:aE (G++[MObj.list [(bare S.w.back).mv]]++[MObj.list (av D S.w.top S.w.bottom)]) D S (((G++[MObj.list [(bare S.w.back).mv]]).length,MObj.list (av D S.w.top S.w.bottom))::(G.length,MObj.list [(bare S.w.back).mv])::F):=by
  exact(hG.new (MObj.list [(bare S.w.back).mv])).new (MObj.list (av D S.w.top S.w.bottom))
 obtain⟨m,hm⟩: ∃m,(av D S.w.top S.w.bottom).length=m:=⟨_,rfl⟩
 have hm2:S.w.top+m=S.w.bottom+1:=by rw[←hm,hwi.1];exact af [_,_] [_] 0x8d20815002 493089 0x40469006052 (tN (af [_,_] [] 0x48468004030 33 4241 im.1.2.1))
 have hv: ∀ (j:Nat) v,(av D S.w.top S.w.bottom)[j]?=some v→ ∃_:Unit,j<m∧v= .loc (bD D (S.w.top+j)+28):=fun j v e=>⟨(),hm▸ (gS e).1,(hwi.2 j v e).2⟩
 have I1: ∀j,GI S.w.R S.w.C (nj S false j).w.grid:=fun j=>i6 ig _ _ fun _ cs h=>qD h (by exact⟨im.2.1,⟨(af [_,_] [] 4736 33 4737 im.2.2.1),im.2.2.2⟩⟩)
 have hr: ∀j:Nat,j<m→0≤S.w.top+j∧S.w.top+j<S.w.R:=fun j hj=>by exact⟨(af [_] [_] 0x205400030 33 131120 im.1.1),(a0 [_,_,_] [_,_] 0x9815001 50209 4769 0x8d40895002 8969 im.1.2.2 hm2 hj)⟩
 have h00:S=nj S false 0:=by unfold nj cH;rw[show S.w.top+ ↑(0:Nat)=S.w.top by exact aV [_] [] 0x100195002 33,b9]
 have hend:nj S false m=aJ S {S.w with grid:=(bL S.w false).grid}:=by unfold nj;rw[hm2];rfl
 refine' use ?_
 refine' aj 3 (gq P (d+1) (hp S D G) S.w.back) ?_
 refine' cZ 4 (a:=(av D S.w.top S.w.bottom)) (gs:=[((G++[MObj.list [(bare S.w.back).mv]]).length+28,(av D S.w.top S.w.bottom))]) (fM (H:=hp S D (G++[MObj.list [(bare S.w.back).mv]]++[MObj.list (av D S.w.top S.w.bottom)])) (n:=(G++[MObj.list [(bare S.w.back).mv]]).length+28) (bw g1)) ?_
 refine' rj 0 ["cells","border","part"] [((G++[MObj.list [(bare S.w.back).mv]]).length+28,(av D S.w.top S.w.bottom))] (av D S.w.top S.w.bottom) (hp S D (G++[MObj.list [(bare S.w.back).mv]]++[MObj.list (av D S.w.top S.w.bottom)])) D (((G++[MObj.list [(bare S.w.back).mv]]).length,MObj.list (av D S.w.top S.w.bottom))::(G.length,MObj.list [(bare S.w.back).mv])::F) (nj S false) m hm (fun j (_:Unit)=> .loc (bD D (S.w.top+j)+28)) (fun j _=>j<m) hv (HX.mk g1 h00) (fun j x ρ G0 hj g0=> ?_) (fun ρ G0 g0=> ?_)
 ·have hrj:=hr j hj
  have J1:=cW (k:=S.w.left) (I1 j) hrj
  have J2:=cW (k:=S.w.right+1) J1 hrj
  have J3:=cW (k:=(S.w.left+1)) J2 hrj
  have hc:(ab (ci S false j (S.w.left+1)).w.grid (S.w.top+j))=a9 (a9 (a9 (ab S.w.grid (S.w.top+j)) S.w.left) (S.w.right+1)) (S.w.left+1):=by
   rw[bT J2 hrj,bT J1 hrj,bT (I1 j) hrj]
   exact cA (fun x=>a9 (a9 (a9 x _) _) _) (iy _ _ im.1.1)
  have hl:(((ab (ci S false j (S.w.left+1)).w.grid (S.w.top+j)).length:Nat):Int)=S.w.C:=J3.rlen hrj
  have hb:0≤S.w.left∧S.w.left≤S.w.right∧S.w.right<(ab (ci S false j (S.w.left+1)).w.grid (S.w.top+j)).length:=by exact⟨im.2.1,⟨(af [_,_] [] 4736 33 4737 im.2.2.1),(aq [_,_] [_] 264833 15393 4737 155730 im.2.2.2 hl)⟩⟩
  have hu:=kE (c:=(ab (ci S false j (S.w.left+1)).w.grid (S.w.top+j))) (b:=S.w.back) hb
  have hpk:=rk hb
  have hsp:=cq S.w.left (S.w.right+1) (eQ (ab (ci S false j (S.w.left+1)).w.grid (S.w.top+j)) S.w.left S.w.right S.w.back) (ab (ci S false j (S.w.left+1)).w.grid (S.w.top+j)) (by exact⟨im.2.1,⟨(af [_,_] [] 0x11a4080 33 4737 im.2.2.1),(aq [_,_] [_] 0x20508d000 15393 4737 155730 im.2.2.2 hl)⟩⟩) (by exact ju [_,_,_] [_,_] 0x1f403246008 0x23110421 131120 5265 132768 172114 0x40469006252 im.2.1 im.2.2.2 id.2.2 hl hu)
  refine' a7 2 (cw P d S.w.left g0 (I1 j) hrj id.2.2) fun G1 g1=> ?_
  refine' a7 1 (cw P d (S.w.right+1) g1 J1 hrj id.2.2) fun G2 g2=> ?_
  refine' a7 1 (cw P d (S.w.left+1) g2 J2 hrj id.2.2) fun G3 g3=> ?_
  have g4:=g3.new (MObj.list (aI ((ab (ci S false j (S.w.left+1)).w.grid (S.w.top+j)).map Cell.mv) (some S.w.left) (some (S.w.right+1))))
  have z4:=(bw g4).trans (cA (fun l=>some (MObj.list l)) hpk)
  have g5:=g4.new (MObj.list (aI ((aC (ab (ci S false j (S.w.left+1)).w.grid (S.w.top+j)) S.w.left S.w.right).map Cell.mv) (some 1) none))
  have hcat:=show cB (hp (ci S false j (S.w.left+1)) D ((G3++[MObj.list (aI ((ab (ci S false j (S.w.left+1)).w.grid (S.w.top+j)).map Cell.mv) (some S.w.left) (some (S.w.right+1)))])++[MObj.list (aI ((aC (ab (ci S false j (S.w.left+1)).w.grid (S.w.top+j)) S.w.left S.w.right).map Cell.mv) (some 1) none)])) .Add (.loc ((G3++[MObj.list (aI ((ab (ci S false j (S.w.left+1)).w.grid (S.w.top+j)).map Cell.mv) (some S.w.left) (some (S.w.right+1)))]).length+28)) (.loc (G.length+28))=some (.loc (((G3++[MObj.list (aI ((ab (ci S false j (S.w.left+1)).w.grid (S.w.top+j)).map Cell.mv) (some S.w.left) (some (S.w.right+1)))])++[MObj.list (aI ((aC (ab (ci S false j (S.w.left+1)).w.grid (S.w.top+j)) S.w.left S.w.right).map Cell.mv) (some 1) none)]).length+28),hp (ci S false j (S.w.left+1)) D (((G3++[MObj.list (aI ((ab (ci S false j (S.w.left+1)).w.grid (S.w.top+j)).map Cell.mv) (some S.w.left) (some (S.w.right+1)))])++[MObj.list (aI ((aC (ab (ci S false j (S.w.left+1)).w.grid (S.w.top+j)) S.w.left S.w.right).map Cell.mv) (some 1) none)])++[au (eQ (ab (ci S false j (S.w.left+1)).w.grid (S.w.top+j)) S.w.left S.w.right S.w.back)])) from(dM g5.own (g5.drop.drop.own2) (by rw[←List.length_append,vU hb,lM];exact eo [_,_,_] [_] 0x7d00c908 0x1108421 131120 5265 132768 0x40469006052 im.2.1 im.2.2.2 id.2.2 hu)).trans (by rw[vU hb])
  have g6:=g5.new (au (eQ (ab (ci S false j (S.w.left+1)).w.grid (S.w.top+j)) S.w.left S.w.right S.w.back))
  have hne:bD D (S.w.top+j)+28≠ ((G3++[MObj.list (aI ((ab (ci S false j (S.w.left+1)).w.grid (S.w.top+j)).map Cell.mv) (some S.w.left) (some (S.w.right+1)))])++[MObj.list (aI ((aC (ab (ci S false j (S.w.left+1)).w.grid (S.w.top+j)) S.w.left S.w.right).map Cell.mv) (some 1) none)]).length+28:=fun e=>eK g6 J3 hrj (.head _) (Nat.add_right_cancel e)
  have z6:=bw g6
  have g7:=fW (bK (ab (ci S false j (S.w.left+1)).w.grid (S.w.top+j)) (eQ (ab (ci S false j (S.w.left+1)).w.grid (S.w.top+j)) S.w.left S.w.right S.w.back) S.w.left S.w.right) g6.drop.drop.drop J3 hrj
  have hx:bK (ab (ci S false j (S.w.left+1)).w.grid (S.w.top+j)) (eQ (ab (ci S false j (S.w.left+1)).w.grid (S.w.top+j)) S.w.left S.w.right S.w.back) S.w.left S.w.right=CJ S false 0 (ab S.w.grid (S.w.top+j)):=by
   show bK (ab (ci S false j (S.w.left+1)).w.grid (S.w.top+j)) (eQ (ab (ci S false j (S.w.left+1)).w.grid (S.w.top+j)) S.w.left S.w.right S.w.back) S.w.left S.w.right=nh _ _ _ _
   rw[hc];rfl
  refine' bf 1 (bz (dI g3 J3 hrj)) ?_
  refine' bf 1 (bz z4) ?_
  refine' aY 0 hcat ?_
  refine' bf 0 (ao (dI g6 J3 hrj)) ?_
  refine' bf 0 (ao z6) ?_
  refine' hZ 0 hne ?_
  refine' bf 0 hsp ?_
  refine' gX 0 ρ [("cells",.loc (bD D (S.w.top+j)+28)),("border",.int S.w.left),("border",.int (S.w.right+1)),("border",.int (S.w.left+1)),("part",.loc (G3.length+28))] (hp (dq (ci S false j (S.w.left+1)) (S.w.top+j) (bK (ab (ci S false j (S.w.left+1)).w.grid (S.w.top+j)) (eQ (ab (ci S false j (S.w.left+1)).w.grid (S.w.top+j)) S.w.left S.w.right S.w.back) S.w.left S.w.right)) D ((((G3++[MObj.list (aI ((ab (ci S false j (S.w.left+1)).w.grid (S.w.top+j)).map Cell.mv) (some S.w.left) (some (S.w.right+1)))])++[MObj.list (aI ((aC (ab (ci S false j (S.w.left+1)).w.grid (S.w.top+j)) S.w.left S.w.right).map Cell.mv) (some 1) none)])++[au (eQ (ab (ci S false j (S.w.left+1)).w.grid (S.w.top+j)) S.w.left S.w.right S.w.back)]).set (bD D (S.w.top+j)) (au (bK (ab (ci S false j (S.w.left+1)).w.grid (S.w.top+j)) (eQ (ab (ci S false j (S.w.left+1)).w.grid (S.w.top+j)) S.w.left S.w.right S.w.back) S.w.left S.w.right)))) (bN (bw g7)) (HX.mk g7 (oh ig ⟨im.1.1,hrj.2⟩ hx))
 ·refine' ax 0 .none (hp (nj S false m) D G0) (b7.mk g0.drop.drop hend)
noncomputable abbrev jz(S:Sn)(v w:Vt):Sn:={S with s:=v,w:=w}
theorem sO(d:Nat)(hG:aE G D S F)(I:Inv S.w)(J:Inv S.s):Ca (CO P (d+14)) 1369 [.loc 0,.loc 15,.bool true] (hp S D G) (Sx .none (jz S (aS S.s true) (aS S.w true)) F):=by
 refine' use ?_
 refine' aU 3 (AF P (d+4) hG J) fun D2 G3 g1=> ?_
 refine' bc ((aB S (aS S.s true)).w.col=S.w.right) (fun c4=> ?_) (fun c4=> ?_)
 ·refine' ak 1 c4 ?_
  refine' bc ((aB S (aS S.s true)).w.top≤(aB S (aS S.s true)).w.row) (fun c5=> ?_) (fun c5=> ?_)
  ·refine' ak 2 c5 ?_
   refine' bc ((aB S (aS S.s true)).w.row≤(aB S (aS S.s true)).w.bottom) (fun c6=> ?_) (fun c6=> ?_)
   ·refine' ak 1 c6 ?_
    refine' a7 0 (vV P (S:=({S with s:=aS S.s true}:Sn)) (d+10) g1 I) fun G8 g7=> ?_
    have e:bL S.w false=aS S.w true:=(mO (v:=S.w) ⟨c4,c5,c6⟩).symm
    exact ax 1 .none (hp (jz S (aS S.s true) (bL S.w false)) D2 G8) (Sx.mk ‹_› (cA (jz S (aS S.s true)) e))
   ·refine' am 1 c6 ?_
    refine' ax 6 .none (hp ({S with s:=aS S.s true,w:={S.w with col:=min (S.w.C- 1) (S.w.col+1),waits:=false}}:Sn) D2 G3) (Sx.mk ‹_› (cA (jz S (aS S.s true)) (by simp[aS,bL,c4,c5,c6])))
  ·refine' am 2 c5 ?_
   refine' ax 6 .none (hp ({S with s:=aS S.s true,w:={S.w with col:=min (S.w.C- 1) (S.w.col+1),waits:=false}}:Sn) D2 G3) (Sx.mk ‹_› (cA (jz S (aS S.s true)) (by simp[aS,bL,c4,c5])))
 ·refine' am 1 c4 ?_
  refine' ax 6 .none (hp ({S with s:=aS S.s true,w:={S.w with col:=min (S.w.C- 1) (S.w.col+1),waits:=false}}:Sn) D2 G3) (Sx.mk ‹_› (cA (jz S (aS S.s true)) (by simp[aS,bL,c4])))
theorem pB(d:Nat)(hG:aE G D S F)(I:Inv S.w)(J:Inv S.s):Ca (CO P (d+14)) 1369 [.loc 0,.loc 15,.bool false] (hp S D G) (Sx .none (jz S (aS S.s false) (aS S.w false)) F):=by
 refine' use ?_
 refine' aU 3 (AE P (d+4) hG J) fun D10 G11 g9=> ?_
 refine' bc ((aB S (aS S.s false)).w.col=S.w.left) (fun c12=> ?_) (fun c12=> ?_)
 ·refine' ak 1 c12 ?_
  refine' bc ((aB S (aS S.s false)).w.top≤(aB S (aS S.s false)).w.row) (fun c13=> ?_) (fun c13=> ?_)
  ·refine' ak 2 c13 ?_
   refine' bc ((aB S (aS S.s false)).w.row≤(aB S (aS S.s false)).w.bottom) (fun c14=> ?_) (fun c14=> ?_)
   ·refine' ak 1 c14 ?_
    refine' a7 0 (yu P (S:=({S with s:=aS S.s false}:Sn)) (d+10) g9 I) fun G16 g15=> ?_
    have e:bL S.w true=aS S.w false:=(mM (v:=S.w) ⟨c12,c13,c14⟩).symm
    exact ax 1 .none (hp (jz S (aS S.s false) (bL S.w true)) D10 G16) (Sx.mk ‹_› (cA (jz S (aS S.s false)) e))
   ·refine' am 1 c14 ?_
    refine' ax 5 .none (hp ({S with s:=aS S.s false,w:={S.w with col:=max 0 (S.w.col- 1),waits:=false}}:Sn) D10 G11) (Sx.mk ‹_› (cA (jz S (aS S.s false)) (by simp[aS,bL,c12,c13,c14])))
  ·refine' am 2 c13 ?_
   refine' ax 5 .none (hp ({S with s:=aS S.s false,w:={S.w with col:=max 0 (S.w.col- 1),waits:=false}}:Sn) D10 G11) (Sx.mk ‹_› (cA (jz S (aS S.s false)) (by simp[aS,bL,c12,c13])))
 ·refine' am 1 c12 ?_
  refine' ax 5 .none (hp ({S with s:=aS S.s false,w:={S.w with col:=max 0 (S.w.col- 1),waits:=false}}:Sn) D10 G11) (Sx.mk ‹_› (cA (jz S (aS S.s false)) (by simp[aS,bL,c12])))
end
open Classical in
noncomputable def iJ(v:Vt):Vt:=if cK v then{v with grid:=v.grid.set v.row.toNat ((ab v.grid v.row).set (az v).toNat ⟨(cellOf v (az v)).codes++[769],(cellOf v (az v)).w,(cellOf v (az v)).back⟩),last:=(cellOf v (az v)).codes++[769]} else v
section
variable{v:Vt}{k:Int}
theorem yv(e:az v=k)(h:0≤k)(hc:(!(List.map MV.int (cellOf v k).codes).isEmpty)=true):iJ v={v with grid:=v.grid.set v.row.toNat ((ab v.grid v.row).set k.toNat ⟨(cellOf v k).codes++[769],(cellOf v k).w,(cellOf v k).back⟩),last:=(cellOf v k).codes++[769]}:=by
 subst e
 refine if_pos ⟨h,fun q=> ?_⟩
 rw[q] at hc;exact Bool.false_ne_true hc
theorem pC(e:az v=k)(h: ¬0≤k∨(!(List.map MV.int (cellOf v k).codes).isEmpty)=false):iJ v=v:=by
 subst e
 refine if_neg fun q=> ?_
 rcases h with h|h
 ·exact h q.1
 ·cases hx:(cellOf v (az v)).codes with
  |nil=>exact q.2 hx
  |cons x y=>rw[hx] at h;exact Bool.false_ne_true h.symm
end
section
variable(P:Cw){d:Nat}{S:Sn}{D:Dn}{G:Hp}{F:As}
theorem iK(r:Int)(hG:aE G D S F)(I:GI S.w.R S.w.C S.w.grid)(h:0≤r∧r<S.w.R):eC (hp S D G) (.loc 21) (.int r)=some (.loc (bD D r+28)):=by
 have h1:=hG.l2
 have h2:=I.len
 refine ew (l:=D.lrows.map fun n=> .loc (n+28)) (j:=r.toNat) rfl (fN ⟨h.1,by rw[lM];apply a0 [_,_] [_,_] 264833 506913 4737 8970 156242 h.2 h1 h2⟩) ?_
 rw[List.getElem?_map,lN hG I h];rfl
theorem eL(k:Int)(hG:aE G D S F)(I:Inv S.w)(h2:0≤k∧k<S.w.C):eC (hp S D G) (.loc (bD D S.w.row+28)) (.int k)=some (cellOf S.w k).mv:=
 gT k (dI hG I.gi I.cur.1) (by rw[I.gi.rlen I.cur.1];exact h2)
theorem AP(r k:Int)(cs:ar)(x:Cell)(e:ab S.w.grid r=cs)(hG:aE G D S F)(I:GI S.w.R S.w.C S.w.grid)(h:0≤r∧r<S.w.R)(h2:0≤k∧k<S.w.C): ∃H',iN (hp S D G) (.loc (bD D r+28)) (.int k) x.mv=some H'∧HX (dq S r (cs.set k.toNat x)) D F H':=by
 subst e
 exact⟨_,setC k x (dI hG I h) (by rw[I.rlen h];exact h2),_,rfl,fW _ hG I h⟩
theorem iL(k w b:Int)(l:List Int)(hG:aE G D S F)(I:Inv S.w)(h2:0≤k∧k<S.w.C): ∃H',iN (hp (aJ S {S.w with last:=l}) D G) (.loc (bD D S.w.row+28)) (.int k) (.tup [.tup (l.map .int),.int w,cQ b,.bool false])=some H'∧HX (aJ S {S.w with grid:=S.w.grid.set S.w.row.toNat ((ab S.w.grid S.w.row).set k.toNat ⟨l,w,b⟩),last:=l}) D F H':=
 AP (S:=aJ S {S.w with last:=l}) S.w.row k (ab S.w.grid S.w.row) ⟨l,w,b⟩ rfl hG I.gi I.cur.1 h2
theorem vW(d:Nat)(hG:aE G D S F)(I:Inv S.w)(hl: ∀k,(cellOf S.w k).codes.length<3000):Ca (CO P (d+3)) 1355 [.loc 15] (hp S D G) (b7 .none (aJ S (iJ S.w)) D F):=by
 have ig:=I.gi
 have id:=I.dim
 have im:=I.mar
 have ic:=I.cur
 refine' use ?_
 refine' aK 2 (iK (S.w.row) hG ig (by apply ic.1)) ?_
 refine' fz (S.w.waits) (fun c1=> ?_) (fun c1=> ?_)
 ·refine' aD 1 c1 ?_
  refine' ak 1 (A:=0≤S.w.col) (by apply ic.2.1) ?_
  refine' aK 0 (eL (S.w.col) hG I (by apply ic.2)) ?_
  refine' bc ((cellOf S.w S.w.col).w=0) (fun c2=> ?_) (fun c2=> ?_)
  ·refine' ak 1 c2 ?_
   refine' bc (0≤S.w.col- 1) (fun c3=> ?_) (fun c3=> ?_)
   ·refine' ak 0 c3 ?_
    refine' aK 0 (eL (S.w.col- 1) hG I (by apply⟨c3,(af [_,_] [] 0x908d011 33 4737 ic.2.2)⟩)) ?_
    refine' fz (!(List.map MV.int (cellOf S.w (S.w.col- 1)).codes).isEmpty) (fun c4=> ?_) (fun c4=> ?_)
    ·refine' aD 1 c4 ?_
     refine' aK 0 (eL (S.w.col- 1) hG I (by apply⟨c3,(af [_,_] [] 0x908d011 33 4737 ic.2.2)⟩)) ?_
     refine' aY 0 (iH (hp S D G) ((cellOf S.w (S.w.col- 1)).codes) 769 (hl _)) ?_
     refine' gK 2 (iL (S.w.col- 1) (cellOf S.w (S.w.col- 1)).w (cellOf S.w (S.w.col- 1)).back ((cellOf S.w (S.w.col- 1)).codes++[769]) hG I (by apply⟨c3,(af [_,_] [] 0x908d011 33 4737 ic.2.2)⟩)) fun G3 g3=> ?_
     refine' ax 0 .none (hp (aJ S {S.w with grid:=S.w.grid.set S.w.row.toNat ((ab S.w.grid S.w.row).set (S.w.col- 1).toNat ⟨(cellOf S.w (S.w.col- 1)).codes++[769],(cellOf S.w (S.w.col- 1)).w,(cellOf S.w (S.w.col- 1)).back⟩),last:=(cellOf S.w (S.w.col- 1)).codes++[769]}) D G3) (b7.mk g3 (cA (aJ S) (yv (cM (wK c1) (by apply ic.2.1) c2) (by apply c3) c4).symm))
    ·refine' aD 1 c4 ?_
     refine' ax 0 .none (hp S D G) (b7.mk ‹_› (cA (aJ S) (pC (cM (wK c1) (by apply ic.2.1) c2) (by first|exact .inl (by omega)|exact .inr (by assumption))).symm))
   ·refine' am 0 c3 ?_
    refine' ax 0 .none (hp S D G) (b7.mk ‹_› (cA (aJ S) (pC (cM (wK c1) (by apply ic.2.1) c2) (by first|exact .inl (by apply c3)|exact .inr (by assumption))).symm))
  ·refine' am 1 c2 ?_
   refine' ak 0 (A:=0≤S.w.col) (by apply ic.2.1) ?_
   refine' aK 0 (eL (S.w.col) hG I (by apply ic.2)) ?_
   refine' fz (!(List.map MV.int (cellOf S.w S.w.col).codes).isEmpty) (fun c5=> ?_) (fun c5=> ?_)
   ·refine' aD 1 c5 ?_
    refine' aK 0 (eL (S.w.col) hG I (by apply ic.2)) ?_
    refine' aY 0 (iH (hp S D G) ((cellOf S.w S.w.col).codes) 769 (hl _)) ?_
    refine' gK 2 (iL (S.w.col) (cellOf S.w (S.w.col)).w (cellOf S.w (S.w.col)).back ((cellOf S.w (S.w.col)).codes++[769]) hG I (by apply ic.2)) fun G3 g3=> ?_
    refine' ax 0 .none (hp (aJ S {S.w with grid:=S.w.grid.set S.w.row.toNat ((ab S.w.grid S.w.row).set (S.w.col).toNat ⟨(cellOf S.w (S.w.col)).codes++[769],(cellOf S.w (S.w.col)).w,(cellOf S.w (S.w.col)).back⟩),last:=(cellOf S.w (S.w.col)).codes++[769]}) D G3) (b7.mk g3 (cA (aJ S) (yv (eA (wK c1) c2) (by apply ic.2.1) c5).symm))
   ·refine' aD 1 c5 ?_
    refine' ax 0 .none (hp S D G) (b7.mk ‹_› (cA (aJ S) (pC (eA (wK c1) c2) (by first|exact .inl (by omega)|exact .inr (by assumption))).symm))
 ·refine' aD 1 c1 ?_
  refine' bc (0≤S.w.col- 1) (fun c6=> ?_) (fun c6=> ?_)
  ·refine' ak 1 c6 ?_
   refine' aK 0 (eL (S.w.col- 1) hG I (by apply⟨c6,(af [_,_] [] 0x908d011 33 4737 ic.2.2)⟩)) ?_
   refine' bc ((cellOf S.w (S.w.col- 1)).w=0) (fun c7=> ?_) (fun c7=> ?_)
   ·refine' ak 1 c7 ?_
    refine' bc (0≤S.w.col- 1- 1) (fun c8=> ?_) (fun c8=> ?_)
    ·refine' ak 0 c8 ?_
     refine' aK 0 (eL (S.w.col- 1- 1) hG I (by apply⟨c8,(af [_,_] [] 0x484611a0211 33 4737 ic.2.2)⟩)) ?_
     refine' fz (!(List.map MV.int (cellOf S.w (S.w.col- 1- 1)).codes).isEmpty) (fun c9=> ?_) (fun c9=> ?_)
     ·refine' aD 1 c9 ?_
      refine' aK 0 (eL (S.w.col- 1- 1) hG I (by apply⟨c8,(af [_,_] [] 0x484611a0211 33 4737 ic.2.2)⟩)) ?_
      refine' aY 0 (iH (hp S D G) ((cellOf S.w (S.w.col- 1- 1)).codes) 769 (hl _)) ?_
      refine' gK 2 (iL (S.w.col- 1- 1) (cellOf S.w (S.w.col- 1- 1)).w (cellOf S.w (S.w.col- 1- 1)).back ((cellOf S.w (S.w.col- 1- 1)).codes++[769]) hG I (by apply⟨c8,(af [_,_] [] 0x484611a0211 33 4737 ic.2.2)⟩)) fun G3 g3=> ?_
      refine' ax 0 .none (hp (aJ S {S.w with grid:=S.w.grid.set S.w.row.toNat ((ab S.w.grid S.w.row).set (S.w.col- 1- 1).toNat ⟨(cellOf S.w (S.w.col- 1- 1)).codes++[769],(cellOf S.w (S.w.col- 1- 1)).w,(cellOf S.w (S.w.col- 1- 1)).back⟩),last:=(cellOf S.w (S.w.col- 1- 1)).codes++[769]}) D G3) (b7.mk g3 (cA (aJ S) (yv (cM (te c1) (by apply c6) c7) (by apply c8) c9).symm))
     ·refine' aD 1 c9 ?_
      refine' ax 0 .none (hp S D G) (b7.mk ‹_› (cA (aJ S) (pC (cM (te c1) (by apply c6) c7) (by first|exact .inl (by omega)|exact .inr (by assumption))).symm))
    ·refine' am 0 c8 ?_
     refine' ax 0 .none (hp S D G) (b7.mk ‹_› (cA (aJ S) (pC (cM (te c1) (by apply c6) c7) (by first|exact .inl (by apply c8)|exact .inr (by assumption))).symm))
   ·refine' am 1 c7 ?_
    refine' ak 0 (A:=0≤S.w.col- 1) c6 ?_
    refine' aK 0 (eL (S.w.col- 1) hG I (by apply⟨c6,(af [_,_] [] 0x908d011 33 4737 ic.2.2)⟩)) ?_
    refine' fz (!(List.map MV.int (cellOf S.w (S.w.col- 1)).codes).isEmpty) (fun c10=> ?_) (fun c10=> ?_)
    ·refine' aD 1 c10 ?_
     refine' aK 0 (eL (S.w.col- 1) hG I (by apply⟨c6,(af [_,_] [] 0x908d011 33 4737 ic.2.2)⟩)) ?_
     refine' aY 0 (iH (hp S D G) ((cellOf S.w (S.w.col- 1)).codes) 769 (hl _)) ?_
     refine' gK 2 (iL (S.w.col- 1) (cellOf S.w (S.w.col- 1)).w (cellOf S.w (S.w.col- 1)).back ((cellOf S.w (S.w.col- 1)).codes++[769]) hG I (by apply⟨c6,(af [_,_] [] 0x908d011 33 4737 ic.2.2)⟩)) fun G3 g3=> ?_
     refine' ax 0 .none (hp (aJ S {S.w with grid:=S.w.grid.set S.w.row.toNat ((ab S.w.grid S.w.row).set (S.w.col- 1).toNat ⟨(cellOf S.w (S.w.col- 1)).codes++[769],(cellOf S.w (S.w.col- 1)).w,(cellOf S.w (S.w.col- 1)).back⟩),last:=(cellOf S.w (S.w.col- 1)).codes++[769]}) D G3) (b7.mk g3 (cA (aJ S) (yv (eA (te c1) c7) (by apply c6) c10).symm))
    ·refine' aD 1 c10 ?_
     refine' ax 0 .none (hp S D G) (b7.mk ‹_› (cA (aJ S) (pC (eA (te c1) c7) (by first|exact .inl (by omega)|exact .inr (by assumption))).symm))
  ·refine' am 1 c6 ?_
   refine' am 0 (A:=0≤S.w.col- 1) c6 ?_
   refine' ax 0 .none (hp S D G) (b7.mk ‹_› (cA (aJ S) (pC (vE (te c1) (by apply af [_] [] 0x308d011 33 0x23404034 c6)) (by first|exact .inl (by apply c6)|exact .inr (by assumption))).symm))
end
noncomputable abbrev wF(S:Sn)(g:List ar)(l:List Int)(w:Int):Sn:=aJ S {S.w with grid:=g,waits:=decide (aa S.w<S.w.col+w),col:=min (S.w.col+w) (aa S.w),last:=l}
theorem mZ{S:Sn}{g:List ar}{l:List Int}{w:Int}(e:g=S.w.grid.set S.w.row.toNat (put (bx S.w w) S.w.col ⟨l,w,S.w.back⟩)):wF S g l w=aJ S (bM S.w l w):=by
 subst e
 refine cA (aJ S) ?_
 unfold bM
 by_cases h:aa S.w<S.w.col+w
 ·have e: ∀g,eI {S.w with grid:=g} S.w.col w={S.w with grid:=g,col:=aa S.w,waits:=true}:=fun g=>if_pos h
  rw[e,decide_eq_true h,Int.min_eq_right (Int.le_of_lt h)]
 ·have e: ∀g,eI {S.w with grid:=g} S.w.col w={S.w with grid:=g,col:=S.w.col+w,waits:=false}:=fun g=>if_neg h
  rw[e,decide_eq_false h,Int.min_eq_left (Int.not_lt.mp h)]
theorem vX{c:ar}{k many right b:Int}(h:0≤k∧k≤right∧right<c.length)(h1:0<many∧many≤right- k+1):List.replicate many.toNat (bare b).mv++aI (c.map Cell.mv) (some k) (some (right+1- many))=(cy c k many right b).map Cell.mv:=by
 rw[lG (by exact⟨h.1,⟨(af [_,_,_] [] 0x2823480280 33 0x4684840a0 h1.2),(aq [_,_] [_] 0x815211a0010 1057 264833 147505 h.2.2 h1.1)⟩⟩)]
 unfold cy
 rw[mP,List.map_replicate]
noncomputable abbrev sI(S:Sn)(k:Int):Sn:=cS (cS (cS S S.w.row S.w.col) S.w.row (aa S.w+1)) S.w.row (aa S.w+1- k)
noncomputable abbrev sJ(S:Sn)(k:Int):Sn:=dq (sI S k) S.w.row (bK (ab (sI S k).w.grid S.w.row) (cy (ab (sI S k).w.grid S.w.row) S.w.col k (aa S.w) S.w.back) S.w.col (aa S.w))
noncomputable abbrev sK(S:Sn)(k:Int):Sn:=cS (cS (sJ S k) S.w.row S.w.col) S.w.row (S.w.col+k)
section
variable(P:Cw){d:Nat}{S:Sn}{D:Dn}{G:Hp}{F:As}
theorem gt(d:Nat)(S:Sn)(D:Dn)(G:Hp):Ca (CO P (d+1)) 1315 [.loc 15] (hp S D G) (bU (.int (aa S.w)) (hp S D G)):=AJ P d S D G
theorem yw(d:Nat)(l:List Int)(hG:aE G D S F)(I:Inv S.w)(hin:S.w.ins=false)(hroom:S.w.col+1≤(aa S.w)+1):Wt (CO P (d+6)) (tb (aL 1 (jk P.K 1348 [.loc 15,.tup (l.map .int),.int 1] (hp S D G))) false) (FQ (b7 .none (aJ S (bM S.w l 1)) D F)):=by
 have ig:=I.gi
 have id:=I.dim
 have hr:=I.cur.1
 have hc:=I.cur.2
 have hL:=aO I
 refine' aK 3 (iK S.w.row hG ig hr) ?_
 refine' aj 1 (gt P (d+5) S D G) ?_
 refine' aD 1 hin ?_
 have g0:=hG
 have K0:=ig
 have hr0:ab S.w.grid S.w.row=bx S.w 1:=by
  unfold bx
  rw[if_neg (by rw[hin];exact Bool.false_ne_true)]
 have hC:dr S.w.C (bx S.w 1):=hr0▸ig.rowC hr
 have K1:=cW (k:=S.w.col) K0 hr
 have K2:=cW (k:=S.w.col+1) K1 hr
 have hl5:(((ab (cS (cS S S.w.row S.w.col) S.w.row (S.w.col+1)).w.grid S.w.row).length:Nat):Int)=S.w.C:=K2.rlen hr
 have hx5:(ab (cS (cS S S.w.row S.w.col) S.w.row (S.w.col+1)).w.grid S.w.row)=dL (bx S.w 1) S.w.col (S.w.col+1- 1):=by
  rw[bT K1 hr,bT K0 hr,hr0]
  unfold dL
  rw[show S.w.col+1- 1+1=S.w.col+1 by exact aV [_] [] 0x234002308c23400202 33]
 have hpk:(aI (List.map Cell.mv [⟨l,1,S.w.back⟩,aP S.w.back]) none (some 1))=([⟨l,1,S.w.back⟩]:ar).map Cell.mv:=rfl
 have hsp5:=(cq S.w.col (S.w.col+1) ([⟨l,1,S.w.back⟩]:ar) (ab (cS (cS S S.w.row S.w.col) S.w.row (S.w.col+1)).w.grid S.w.row) (by exact⟨hc.1,⟨(aV [_] [] 0x11a0080 1),(aq [_,_] [_] 0x20508d000 15393 4737 155730 hc.2 hl5)⟩⟩) (Nat.le_trans (Nat.add_le_add_right (show(ab (cS (cS S S.w.row S.w.col) S.w.row (S.w.col+1)).w.grid S.w.row).length≤8 by exact aq [_] [_] 132872 17441 132736 139346 id.2.2 hl5) _) (show 8+1≤4000 by decide))).trans (show some (((ab (cS (cS S S.w.row S.w.col) S.w.row (S.w.col+1)).w.grid S.w.row).take S.w.col.toNat++([⟨l,1,S.w.back⟩]:ar)++(ab (cS (cS S S.w.row S.w.col) S.w.row (S.w.col+1)).w.grid S.w.row).drop (S.w.col+1).toNat).map Cell.mv)=some ((bK (ab (cS (cS S S.w.row S.w.col) S.w.row (S.w.col+1)).w.grid S.w.row) ([⟨l,1,S.w.back⟩]:ar) S.w.col (S.w.col+1- 1)).map Cell.mv) by unfold bK;rw[show S.w.col+1- 1+1=S.w.col+1 by exact aV [_] [] 0x234002308c23400202 33])
 have hput:(bK (ab (cS (cS S S.w.row S.w.col) S.w.row (S.w.col+1)).w.grid S.w.row) ([⟨l,1,S.w.back⟩]:ar) S.w.col (S.w.col+1- 1))=put (bx S.w 1) S.w.col ⟨l,1,S.w.back⟩:=by
  rw[hx5,mS (by rw[hC.1];exact⟨hc.1,hc.2⟩) rfl];rw[show S.w.col+1- 1=S.w.col by exact aV [_] [] 0x404611a0012 33]
 refine' a7 0 (cw P (d+4) S.w.col g0 K0 hr id.2.2) fun G4 g4=> ?_
 refine' a7 0 (cw P (d+4) (S.w.col+1) g4 K1 hr id.2.2) fun G5 g5=> ?_
 have gx:=g5.new (MObj.list (List.map Cell.mv [⟨l,1,S.w.back⟩,aP S.w.back]))
 have zx:=bw gx
 have gy:=gx.new (MObj.list (aI (List.map Cell.mv [⟨l,1,S.w.back⟩,aP S.w.back]) none (some 1)))
 have hne5:bD D S.w.row+28≠ (G5++[MObj.list (List.map Cell.mv [⟨l,1,S.w.back⟩,aP S.w.back])]).length+28:=fun e=>eK gy K2 hr (.head _) (Nat.add_right_cancel e)
 have zy:=bw gy
 have gz:=fW (bK (ab (cS (cS S S.w.row S.w.col) S.w.row (S.w.col+1)).w.grid S.w.row) ([⟨l,1,S.w.back⟩]:ar) S.w.col (S.w.col+1- 1)) gy.drop.drop K2 hr
 have hg:(cS (cS S S.w.row S.w.col) S.w.row (S.w.col+1)).w.grid.set S.w.row.toNat (bK (ab (cS (cS S S.w.row S.w.col) S.w.row (S.w.col+1)).w.grid S.w.row) ([⟨l,1,S.w.back⟩]:ar) S.w.col (S.w.col+1- 1))=S.w.grid.set S.w.row.toNat (put (bx S.w 1) S.w.col ⟨l,1,S.w.back⟩):=by
  rw[hput]
  show((S.w.grid.set _ _).set _ _).set _ _=_
  rw[List.set_set,List.set_set]
 refine' bf 1 (bz zx) ?_
 refine' bf 0 (ao (dI gy K2 hr)) ?_
 refine' bf 0 (ao zy) ?_
 refine' hZ 0 hne5 ?_
 refine' bf 0 hsp5 ?_
 refine' ax 4 .none (hp (wF S ((cS (cS S S.w.row S.w.col) S.w.row (S.w.col+1)).w.grid.set S.w.row.toNat (bK (ab (cS (cS S S.w.row S.w.col) S.w.row (S.w.col+1)).w.grid S.w.row) ([⟨l,1,S.w.back⟩]:ar) S.w.col (S.w.col+1- 1))) l 1) D (((G5++[MObj.list (List.map Cell.mv [⟨l,1,S.w.back⟩,aP S.w.back])])++[MObj.list (aI (List.map Cell.mv [⟨l,1,S.w.back⟩,aP S.w.back]) none (some 1))]).set (bD D S.w.row) (au (bK (ab (cS (cS S S.w.row S.w.col) S.w.row (S.w.col+1)).w.grid S.w.row) ([⟨l,1,S.w.back⟩]:ar) S.w.col (S.w.col+1- 1))))) (b7.mk gz (mZ hg))
theorem vY(d:Nat)(l:List Int)(hG:aE G D S F)(I:Inv S.w)(hin:S.w.ins=true)(hroom:S.w.col+1≤(aa S.w)+1):Wt (CO P (d+6)) (tb (aL 1 (jk P.K 1348 [.loc 15,.tup (l.map .int),.int 1] (hp S D G))) false) (FQ (b7 .none (aJ S (bM S.w l 1)) D F)):=by
 have ig:=I.gi
 have id:=I.dim
 have hr:=I.cur.1
 have hc:=I.cur.2
 have hL:=aO I
 refine' aK 3 (iK S.w.row hG ig hr) ?_
 refine' aj 1 (gt P (d+5) S D G) ?_
 refine' aD 1 hin ?_
 have J1:=cW (k:=S.w.col) ig hr
 have J2:=cW (k:=(aa S.w)+1) J1 hr
 have J3:=cW (k:=(aa S.w)+1- 1) J2 hr
 have hl:(((ab (sI S 1).w.grid S.w.row).length:Nat):Int)=S.w.C:=J3.rlen hr
 have hb:0≤S.w.col∧S.w.col≤(aa S.w)∧(aa S.w)<(ab (sI S 1).w.grid S.w.row).length:=by exact⟨hc.1,⟨hL.2.2.1,(aq [_,_] [_] 264833 15393 4737 155730 hL.2.1 hl)⟩⟩
 have hu:=fP (c:=(ab (sI S 1).w.grid S.w.row)) (many:=1) (b:=S.w.back) hb (by exact⟨(aV [] [] 573489 1),(af [_,_] [] 0x8d28080230 33 0x8d0008d200 hroom)⟩)
 have hie:=vX (c:=(ab (sI S 1).w.grid S.w.row)) (many:=1) (b:=S.w.back) hb (by exact⟨(aV [] [] 573489 1),(af [_,_] [] 0x8d28080230 33 0x8d0008d200 hroom)⟩)
 have hsp:=cq S.w.col ((aa S.w)+1) (cy (ab (sI S 1).w.grid S.w.row) S.w.col 1 (aa S.w) S.w.back) (ab (sI S 1).w.grid S.w.row) (by exact⟨hc.1,⟨(af [_,_] [] 0x11a4080 33 0x8d2008d000 hroom),(aq [_,_] [_] 0x20508d000 15393 4737 155730 hL.2.1 hl)⟩⟩) (by exact ju [_,_,_] [_,_] 0x1f403246008 0x23108441 132736 147504 4257 139346 0x4846a006252 id.2.2 hc.1 hL.2.1 hl hu)
 have hrow:(bK (ab (sI S 1).w.grid S.w.row) (cy (ab (sI S 1).w.grid S.w.row) S.w.col 1 (aa S.w) S.w.back) S.w.col (aa S.w))=bx S.w 1:=by
  unfold bx
  rw[if_pos hin,bT J2 hr,bT J1 hr,bT ig hr];rfl
 have hC:dr S.w.C (bx S.w 1):=by
  unfold bx
  rw[if_pos hin];exact fR (ig.rowC hr) (by exact⟨hc.1,⟨hL.2.2.1,hL.2.1⟩⟩) (by exact⟨(aV [] [] 573489 1),(af [_,_] [] 0x8d28080230 33 0x8d0008d200 hroom)⟩)
 refine' a7 1 (cw P (d+4) S.w.col hG ig hr id.2.2) fun G1 g1=> ?_
 refine' a7 1 (cw P (d+4) ((aa S.w)+1) g1 J1 hr id.2.2) fun G2 g2=> ?_
 refine' a7 1 (cw P (d+4) ((aa S.w)+1- 1) g2 J2 hr id.2.2) fun G3 g3=> ?_
 have gb:=g3.new (MObj.list [(bare S.w.back).mv])
 have gc:aE ((G3++[MObj.list [(bare S.w.back).mv]])++[au (List.replicate 1 (bare S.w.back))]) D (sI S 1) ((G3.length+1,au (List.replicate 1 (bare S.w.back)))::F):=mY S.w.back (List.replicate 1 (bare S.w.back)) g3
 have gd:=gc.new (MObj.list (aI ((ab (sI S 1).w.grid S.w.row).map Cell.mv) (some S.w.col) (some ((aa S.w)+1- 1))))
 have hcat:=show cB (hp (sI S 1) D (((G3++[MObj.list [(bare S.w.back).mv]])++[au (List.replicate 1 (bare S.w.back))])++[MObj.list (aI ((ab (sI S 1).w.grid S.w.row).map Cell.mv) (some S.w.col) (some ((aa S.w)+1- 1)))])) .Add (.loc (G3.length+29)) (.loc (((G3++[MObj.list [(bare S.w.back).mv]])++[au (List.replicate 1 (bare S.w.back))]).length+28))=some (.loc ((((G3++[MObj.list [(bare S.w.back).mv]])++[au (List.replicate 1 (bare S.w.back))])++[MObj.list (aI ((ab (sI S 1).w.grid S.w.row).map Cell.mv) (some S.w.col) (some ((aa S.w)+1- 1)))]).length+28),hp (sI S 1) D ((((G3++[MObj.list [(bare S.w.back).mv]])++[au (List.replicate 1 (bare S.w.back))])++[MObj.list (aI ((ab (sI S 1).w.grid S.w.row).map Cell.mv) (some S.w.col) (some ((aa S.w)+1- 1)))])++[au (cy (ab (sI S 1).w.grid S.w.row) S.w.col 1 (aa S.w) S.w.back)])) from(dM (l:=(List.replicate 1 (bare S.w.back)).map Cell.mv) (n:=G3.length+1) gd.own2 gd.own (by rw[←List.length_append,List.map_replicate,show List.replicate 1 (bare S.w.back).mv=List.replicate (Int.toNat 1) (bare S.w.back).mv from rfl,hie,lM];exact eo [_,_,_] [_] 0x7d00c908 0x1108421 132736 147504 4257 0x4846a006052 id.2.2 hc.1 hL.2.1 hu)).trans (by rw[List.map_replicate,show List.replicate 1 (bare S.w.back).mv=List.replicate (Int.toNat 1) (bare S.w.back).mv from rfl,hie])
 have ge:=gd.new (au (cy (ab (sI S 1).w.grid S.w.row) S.w.col 1 (aa S.w) S.w.back))
 have hne:bD D S.w.row+28≠ (((G3++[MObj.list [(bare S.w.back).mv]])++[au (List.replicate 1 (bare S.w.back))])++[MObj.list (aI ((ab (sI S 1).w.grid S.w.row).map Cell.mv) (some S.w.col) (some ((aa S.w)+1- 1)))]).length+28:=fun e=>eK ge J3 hr (.head _) (Nat.add_right_cancel e)
 have ze:=bw ge
 have g0:=fW (bK (ab (sI S 1).w.grid S.w.row) (cy (ab (sI S 1).w.grid S.w.row) S.w.col 1 (aa S.w) S.w.back) S.w.col (aa S.w)) ge.drop.drop.drop J3 hr
 refine' aj 2 (gq P (d+5) (hp (sI S 1) D G3) S.w.back) ?_
 refine' aY 0 (AN g3 1 S.w.back (by decide)) ?_
 refine' bf 0 (bz (dI gc J3 hr)) ?_
 refine' aY 0 hcat ?_
 refine' bf 0 (ao (dI ge J3 hr)) ?_
 refine' bf 0 (ao ze) ?_
 refine' hZ 0 hne ?_
 refine' bf 0 hsp ?_
 have K0:GI S.w.R S.w.C (sJ S 1).w.grid:=J3.setC (hrow▸hC)
 have hr0:ab (sJ S 1).w.grid S.w.row=bx S.w 1:=(gn _ J3 hr).trans hrow
 have K1:=cW (k:=S.w.col) K0 hr
 have K2:=cW (k:=S.w.col+1) K1 hr
 have hl5:(((ab (sK S 1).w.grid S.w.row).length:Nat):Int)=S.w.C:=K2.rlen hr
 have hx5:(ab (sK S 1).w.grid S.w.row)=dL (bx S.w 1) S.w.col (S.w.col+1- 1):=by
  rw[bT K1 hr,bT K0 hr,hr0]
  unfold dL
  rw[show S.w.col+1- 1+1=S.w.col+1 by exact aV [_] [] 0x234002308c23400202 33]
 have hpk:(aI (List.map Cell.mv [⟨l,1,S.w.back⟩,aP S.w.back]) none (some 1))=([⟨l,1,S.w.back⟩]:ar).map Cell.mv:=rfl
 have hsp5:=(cq S.w.col (S.w.col+1) ([⟨l,1,S.w.back⟩]:ar) (ab (sK S 1).w.grid S.w.row) (by exact⟨hc.1,⟨(aV [_] [] 0x11a0080 1),(aq [_,_] [_] 0x20508d000 15393 4737 155730 hc.2 hl5)⟩⟩) (Nat.le_trans (Nat.add_le_add_right (show(ab (sK S 1).w.grid S.w.row).length≤8 by exact aq [_] [_] 132872 17441 132736 139346 id.2.2 hl5) _) (show 8+1≤4000 by decide))).trans (show some (((ab (sK S 1).w.grid S.w.row).take S.w.col.toNat++([⟨l,1,S.w.back⟩]:ar)++(ab (sK S 1).w.grid S.w.row).drop (S.w.col+1).toNat).map Cell.mv)=some ((bK (ab (sK S 1).w.grid S.w.row) ([⟨l,1,S.w.back⟩]:ar) S.w.col (S.w.col+1- 1)).map Cell.mv) by unfold bK;rw[show S.w.col+1- 1+1=S.w.col+1 by exact aV [_] [] 0x234002308c23400202 33])
 have hput:(bK (ab (sK S 1).w.grid S.w.row) ([⟨l,1,S.w.back⟩]:ar) S.w.col (S.w.col+1- 1))=put (bx S.w 1) S.w.col ⟨l,1,S.w.back⟩:=by
  rw[hx5,mS (by rw[hC.1];exact⟨hc.1,hc.2⟩) rfl];rw[show S.w.col+1- 1=S.w.col by exact aV [_] [] 0x404611a0012 33]
 refine' a7 0 (cw P (d+4) S.w.col g0 K0 hr id.2.2) fun G4 g4=> ?_
 refine' a7 0 (cw P (d+4) (S.w.col+1) g4 K1 hr id.2.2) fun G5 g5=> ?_
 have gx:=g5.new (MObj.list (List.map Cell.mv [⟨l,1,S.w.back⟩,aP S.w.back]))
 have zx:=bw gx
 have gy:=gx.new (MObj.list (aI (List.map Cell.mv [⟨l,1,S.w.back⟩,aP S.w.back]) none (some 1)))
 have hne5:bD D S.w.row+28≠ (G5++[MObj.list (List.map Cell.mv [⟨l,1,S.w.back⟩,aP S.w.back])]).length+28:=fun e=>eK gy K2 hr (.head _) (Nat.add_right_cancel e)
 have zy:=bw gy
 have gz:=fW (bK (ab (sK S 1).w.grid S.w.row) ([⟨l,1,S.w.back⟩]:ar) S.w.col (S.w.col+1- 1)) gy.drop.drop K2 hr
 have hg:(sK S 1).w.grid.set S.w.row.toNat (bK (ab (sK S 1).w.grid S.w.row) ([⟨l,1,S.w.back⟩]:ar) S.w.col (S.w.col+1- 1))=S.w.grid.set S.w.row.toNat (put (bx S.w 1) S.w.col ⟨l,1,S.w.back⟩):=by
  rw[hput]
  show((((((S.w.grid.set _ _).set _ _).set _ _).set _ _).set _ _).set _ _).set _ _=_
  rw[List.set_set,List.set_set,List.set_set,List.set_set,List.set_set,List.set_set]
 refine' bf 1 (bz zx) ?_
 refine' bf 0 (ao (dI gy K2 hr)) ?_
 refine' bf 0 (ao zy) ?_
 refine' hZ 0 hne5 ?_
 refine' bf 0 hsp5 ?_
 refine' ax 4 .none (hp (wF S ((sK S 1).w.grid.set S.w.row.toNat (bK (ab (sK S 1).w.grid S.w.row) ([⟨l,1,S.w.back⟩]:ar) S.w.col (S.w.col+1- 1))) l 1) D (((G5++[MObj.list (List.map Cell.mv [⟨l,1,S.w.back⟩,aP S.w.back])])++[MObj.list (aI (List.map Cell.mv [⟨l,1,S.w.back⟩,aP S.w.back]) none (some 1))]).set (bD D S.w.row) (au (bK (ab (sK S 1).w.grid S.w.row) ([⟨l,1,S.w.back⟩]:ar) S.w.col (S.w.col+1- 1))))) (b7.mk gz (mZ hg))
theorem yx(d:Nat)(l:List Int)(hG:aE G D S F)(I:Inv S.w)(hin:S.w.ins=false)(hroom:S.w.col+2≤(aa S.w)+1):Wt (CO P (d+6)) (tb (aL 0 (cc (aL 2 (tb (aL 1 (jk P.K 1348 [.loc 15,.tup (l.map .int),.int 2] (hp S D G))) false)) (.int (aa S.w)) (hp S D G))) false) (FQ (b7 .none (aJ S (bM S.w l 2)) D F)):=by
 have ig:=I.gi
 have id:=I.dim
 have hr:=I.cur.1
 have hc:=I.cur.2
 have hL:=aO I
 refine' aK 2 (iK S.w.row hG ig hr) ?_
 refine' aj 1 (gt P (d+5) S D G) ?_
 refine' aD 1 hin ?_
 have g0:=hG
 have K0:=ig
 have hr0:ab S.w.grid S.w.row=bx S.w 2:=by
  unfold bx
  rw[if_neg (by rw[hin];exact Bool.false_ne_true)]
 have hC:dr S.w.C (bx S.w 2):=hr0▸ig.rowC hr
 have K1:=cW (k:=S.w.col) K0 hr
 have K2:=cW (k:=S.w.col+2) K1 hr
 have hl5:(((ab (cS (cS S S.w.row S.w.col) S.w.row (S.w.col+2)).w.grid S.w.row).length:Nat):Int)=S.w.C:=K2.rlen hr
 have hx5:(ab (cS (cS S S.w.row S.w.col) S.w.row (S.w.col+2)).w.grid S.w.row)=dL (bx S.w 2) S.w.col (S.w.col+2- 1):=by
  rw[bT K1 hr,bT K0 hr,hr0]
  unfold dL
  rw[show S.w.col+2- 1+1=S.w.col+2 by exact aV [_] [] 0x434002308c43400202 33]
 have hpk:(aI (List.map Cell.mv [⟨l,2,S.w.back⟩,aP S.w.back]) none (some 2))=([⟨l,2,S.w.back⟩,aP S.w.back]:ar).map Cell.mv:=rfl
 have hsp5:=(cq S.w.col (S.w.col+2) ([⟨l,2,S.w.back⟩,aP S.w.back]:ar) (ab (cS (cS S S.w.row S.w.col) S.w.row (S.w.col+2)).w.grid S.w.row) (by exact⟨hc.1,⟨(aV [_] [] 0x21a0080 1),(a0 [_,_,_] [_] 0x20510d000 492577 0x8d2010d000 5265 172114 hroom hL.2.1 hl5)⟩⟩) (Nat.le_trans (Nat.add_le_add_right (show(ab (cS (cS S S.w.row S.w.col) S.w.row (S.w.col+2)).w.grid S.w.row).length≤8 by exact aq [_] [_] 132872 17441 132736 139346 id.2.2 hl5) _) (show 8+2≤4000 by decide))).trans (show some (((ab (cS (cS S S.w.row S.w.col) S.w.row (S.w.col+2)).w.grid S.w.row).take S.w.col.toNat++([⟨l,2,S.w.back⟩,aP S.w.back]:ar)++(ab (cS (cS S S.w.row S.w.col) S.w.row (S.w.col+2)).w.grid S.w.row).drop (S.w.col+2).toNat).map Cell.mv)=some ((bK (ab (cS (cS S S.w.row S.w.col) S.w.row (S.w.col+2)).w.grid S.w.row) ([⟨l,2,S.w.back⟩,aP S.w.back]:ar) S.w.col (S.w.col+2- 1)).map Cell.mv) by unfold bK;rw[show S.w.col+2- 1+1=S.w.col+2 by exact aV [_] [] 0x434002308c43400202 33])
 have hput:(bK (ab (cS (cS S S.w.row S.w.col) S.w.row (S.w.col+2)).w.grid S.w.row) ([⟨l,2,S.w.back⟩,aP S.w.back]:ar) S.w.col (S.w.col+2- 1))=put (bx S.w 2) S.w.col ⟨l,2,S.w.back⟩:=by
  rw[hx5,mT (by rw[hC.1];exact⟨hc.1,(aq [_,_,_] [] 0x908d001 1057 0x8d4010d000 4769 hroom hL.2.1)⟩) rfl];rw[show S.w.col+2- 1=S.w.col+1 by exact aV [_] [] 0x468004621a0012 33]
 refine' a7 0 (cw P (d+4) S.w.col g0 K0 hr id.2.2) fun G4 g4=> ?_
 refine' a7 0 (cw P (d+4) (S.w.col+2) g4 K1 hr id.2.2) fun G5 g5=> ?_
 have gx:=g5.new (MObj.list (List.map Cell.mv [⟨l,2,S.w.back⟩,aP S.w.back]))
 have zx:=bw gx
 have gy:=gx.new (MObj.list (aI (List.map Cell.mv [⟨l,2,S.w.back⟩,aP S.w.back]) none (some 2)))
 have hne5:bD D S.w.row+28≠ (G5++[MObj.list (List.map Cell.mv [⟨l,2,S.w.back⟩,aP S.w.back])]).length+28:=fun e=>eK gy K2 hr (.head _) (Nat.add_right_cancel e)
 have zy:=bw gy
 have gz:=fW (bK (ab (cS (cS S S.w.row S.w.col) S.w.row (S.w.col+2)).w.grid S.w.row) ([⟨l,2,S.w.back⟩,aP S.w.back]:ar) S.w.col (S.w.col+2- 1)) gy.drop.drop K2 hr
 have hg:(cS (cS S S.w.row S.w.col) S.w.row (S.w.col+2)).w.grid.set S.w.row.toNat (bK (ab (cS (cS S S.w.row S.w.col) S.w.row (S.w.col+2)).w.grid S.w.row) ([⟨l,2,S.w.back⟩,aP S.w.back]:ar) S.w.col (S.w.col+2- 1))=S.w.grid.set S.w.row.toNat (put (bx S.w 2) S.w.col ⟨l,2,S.w.back⟩):=by
  rw[hput]
  show((S.w.grid.set _ _).set _ _).set _ _=_
  rw[List.set_set,List.set_set]
 refine' bf 1 (bz zx) ?_
 refine' bf 0 (ao (dI gy K2 hr)) ?_
 refine' bf 0 (ao zy) ?_
 refine' hZ 0 hne5 ?_
 refine' bf 0 hsp5 ?_
 refine' ax 4 .none (hp (wF S ((cS (cS S S.w.row S.w.col) S.w.row (S.w.col+2)).w.grid.set S.w.row.toNat (bK (ab (cS (cS S S.w.row S.w.col) S.w.row (S.w.col+2)).w.grid S.w.row) ([⟨l,2,S.w.back⟩,aP S.w.back]:ar) S.w.col (S.w.col+2- 1))) l 2) D (((G5++[MObj.list (List.map Cell.mv [⟨l,2,S.w.back⟩,aP S.w.back])])++[MObj.list (aI (List.map Cell.mv [⟨l,2,S.w.back⟩,aP S.w.back]) none (some 2))]).set (bD D S.w.row) (au (bK (ab (cS (cS S S.w.row S.w.col) S.w.row (S.w.col+2)).w.grid S.w.row) ([⟨l,2,S.w.back⟩,aP S.w.back]:ar) S.w.col (S.w.col+2- 1))))) (b7.mk gz (mZ hg))
theorem vZ(d:Nat)(l:List Int)(hG:aE G D S F)(I:Inv S.w)(hin:S.w.ins=true)(hroom:S.w.col+2≤(aa S.w)+1):Wt (CO P (d+6)) (tb (aL 0 (cc (aL 2 (tb (aL 1 (jk P.K 1348 [.loc 15,.tup (l.map .int),.int 2] (hp S D G))) false)) (.int (aa S.w)) (hp S D G))) false) (FQ (b7 .none (aJ S (bM S.w l 2)) D F)):=by
 have ig:=I.gi
 have id:=I.dim
 have hr:=I.cur.1
 have hc:=I.cur.2
 have hL:=aO I
 refine' aK 2 (iK S.w.row hG ig hr) ?_
 refine' aj 1 (gt P (d+5) S D G) ?_
 refine' aD 1 hin ?_
 have J1:=cW (k:=S.w.col) ig hr
 have J2:=cW (k:=(aa S.w)+1) J1 hr
 have J3:=cW (k:=(aa S.w)+1- 2) J2 hr
 have hl:(((ab (sI S 2).w.grid S.w.row).length:Nat):Int)=S.w.C:=J3.rlen hr
 have hb:0≤S.w.col∧S.w.col≤(aa S.w)∧(aa S.w)<(ab (sI S 2).w.grid S.w.row).length:=by exact⟨hc.1,⟨hL.2.2.1,(aq [_,_] [_] 264833 15393 4737 155730 hL.2.1 hl)⟩⟩
 have hu:=fP (c:=(ab (sI S 2).w.grid S.w.row)) (many:=2) (b:=S.w.back) hb (by exact⟨(aV [] [] 0x10c031 1),(af [_,_] [] 0x8d28080430 33 0x8d0010d200 hroom)⟩)
 have hie:=vX (c:=(ab (sI S 2).w.grid S.w.row)) (many:=2) (b:=S.w.back) hb (by exact⟨(aV [] [] 0x10c031 1),(af [_,_] [] 0x8d28080430 33 0x8d0010d200 hroom)⟩)
 have hsp:=cq S.w.col ((aa S.w)+1) (cy (ab (sI S 2).w.grid S.w.row) S.w.col 2 (aa S.w) S.w.back) (ab (sI S 2).w.grid S.w.row) (by exact⟨hc.1,⟨(af [_,_] [] 0x11a4080 33 0x8d2010d000 hroom),(aq [_,_] [_] 0x20508d000 15393 4737 155730 hL.2.1 hl)⟩⟩) (by exact ju [_,_,_] [_,_] 0x1f403246008 0x23108441 132736 147504 4257 139346 0x4846a006252 id.2.2 hc.1 hL.2.1 hl hu)
 have hrow:(bK (ab (sI S 2).w.grid S.w.row) (cy (ab (sI S 2).w.grid S.w.row) S.w.col 2 (aa S.w) S.w.back) S.w.col (aa S.w))=bx S.w 2:=by
  unfold bx
  rw[if_pos hin,bT J2 hr,bT J1 hr,bT ig hr];rfl
 have hC:dr S.w.C (bx S.w 2):=by
  unfold bx
  rw[if_pos hin];exact fR (ig.rowC hr) (by exact⟨hc.1,⟨hL.2.2.1,hL.2.1⟩⟩) (by exact⟨(aV [] [] 0x10c031 1),(af [_,_] [] 0x8d28080430 33 0x8d0010d200 hroom)⟩)
 refine' a7 1 (cw P (d+4) S.w.col hG ig hr id.2.2) fun G1 g1=> ?_
 refine' a7 1 (cw P (d+4) ((aa S.w)+1) g1 J1 hr id.2.2) fun G2 g2=> ?_
 refine' a7 1 (cw P (d+4) ((aa S.w)+1- 2) g2 J2 hr id.2.2) fun G3 g3=> ?_
 have gb:=g3.new (MObj.list [(bare S.w.back).mv])
 have gc:aE ((G3++[MObj.list [(bare S.w.back).mv]])++[au (List.replicate 2 (bare S.w.back))]) D (sI S 2) ((G3.length+1,au (List.replicate 2 (bare S.w.back)))::F):=mY S.w.back (List.replicate 2 (bare S.w.back)) g3
 have gd:=gc.new (MObj.list (aI ((ab (sI S 2).w.grid S.w.row).map Cell.mv) (some S.w.col) (some ((aa S.w)+1- 2))))
 have hcat:=show cB (hp (sI S 2) D (((G3++[MObj.list [(bare S.w.back).mv]])++[au (List.replicate 2 (bare S.w.back))])++[MObj.list (aI ((ab (sI S 2).w.grid S.w.row).map Cell.mv) (some S.w.col) (some ((aa S.w)+1- 2)))])) .Add (.loc (G3.length+29)) (.loc (((G3++[MObj.list [(bare S.w.back).mv]])++[au (List.replicate 2 (bare S.w.back))]).length+28))=some (.loc ((((G3++[MObj.list [(bare S.w.back).mv]])++[au (List.replicate 2 (bare S.w.back))])++[MObj.list (aI ((ab (sI S 2).w.grid S.w.row).map Cell.mv) (some S.w.col) (some ((aa S.w)+1- 2)))]).length+28),hp (sI S 2) D ((((G3++[MObj.list [(bare S.w.back).mv]])++[au (List.replicate 2 (bare S.w.back))])++[MObj.list (aI ((ab (sI S 2).w.grid S.w.row).map Cell.mv) (some S.w.col) (some ((aa S.w)+1- 2)))])++[au (cy (ab (sI S 2).w.grid S.w.row) S.w.col 2 (aa S.w) S.w.back)])) from(dM (l:=(List.replicate 2 (bare S.w.back)).map Cell.mv) (n:=G3.length+1) gd.own2 gd.own (by rw[←List.length_append,List.map_replicate,show List.replicate 2 (bare S.w.back).mv=List.replicate (Int.toNat 2) (bare S.w.back).mv from rfl,hie,lM];exact eo [_,_,_] [_] 0x7d00c908 0x1108421 132736 147504 4257 0x4846a006052 id.2.2 hc.1 hL.2.1 hu)).trans (by rw[List.map_replicate,show List.replicate 2 (bare S.w.back).mv=List.replicate (Int.toNat 2) (bare S.w.back).mv from rfl,hie])
 have ge:=gd.new (au (cy (ab (sI S 2).w.grid S.w.row) S.w.col 2 (aa S.w) S.w.back))
 have hne:bD D S.w.row+28≠ (((G3++[MObj.list [(bare S.w.back).mv]])++[au (List.replicate 2 (bare S.w.back))])++[MObj.list (aI ((ab (sI S 2).w.grid S.w.row).map Cell.mv) (some S.w.col) (some ((aa S.w)+1- 2)))]).length+28:=fun e=>eK ge J3 hr (.head _) (Nat.add_right_cancel e)
 have ze:=bw ge
 have g0:=fW (bK (ab (sI S 2).w.grid S.w.row) (cy (ab (sI S 2).w.grid S.w.row) S.w.col 2 (aa S.w) S.w.back) S.w.col (aa S.w)) ge.drop.drop.drop J3 hr
 refine' aj 2 (gq P (d+5) (hp (sI S 2) D G3) S.w.back) ?_
 refine' aY 0 (AN g3 2 S.w.back (by decide)) ?_
 refine' bf 0 (bz (dI gc J3 hr)) ?_
 refine' aY 0 hcat ?_
 refine' bf 0 (ao (dI ge J3 hr)) ?_
 refine' bf 0 (ao ze) ?_
 refine' hZ 0 hne ?_
 refine' bf 0 hsp ?_
 have K0:GI S.w.R S.w.C (sJ S 2).w.grid:=J3.setC (hrow▸hC)
 have hr0:ab (sJ S 2).w.grid S.w.row=bx S.w 2:=(gn _ J3 hr).trans hrow
 have K1:=cW (k:=S.w.col) K0 hr
 have K2:=cW (k:=S.w.col+2) K1 hr
 have hl5:(((ab (sK S 2).w.grid S.w.row).length:Nat):Int)=S.w.C:=K2.rlen hr
 have hx5:(ab (sK S 2).w.grid S.w.row)=dL (bx S.w 2) S.w.col (S.w.col+2- 1):=by
  rw[bT K1 hr,bT K0 hr,hr0]
  unfold dL
  rw[show S.w.col+2- 1+1=S.w.col+2 by exact aV [_] [] 0x434002308c43400202 33]
 have hpk:(aI (List.map Cell.mv [⟨l,2,S.w.back⟩,aP S.w.back]) none (some 2))=([⟨l,2,S.w.back⟩,aP S.w.back]:ar).map Cell.mv:=rfl
 have hsp5:=(cq S.w.col (S.w.col+2) ([⟨l,2,S.w.back⟩,aP S.w.back]:ar) (ab (sK S 2).w.grid S.w.row) (by exact⟨hc.1,⟨(aV [_] [] 0x21a0080 1),(a0 [_,_,_] [_] 0x20510d000 492577 0x8d2010d000 5265 172114 hroom hL.2.1 hl5)⟩⟩) (Nat.le_trans (Nat.add_le_add_right (show(ab (sK S 2).w.grid S.w.row).length≤8 by exact aq [_] [_] 132872 17441 132736 139346 id.2.2 hl5) _) (show 8+2≤4000 by decide))).trans (show some (((ab (sK S 2).w.grid S.w.row).take S.w.col.toNat++([⟨l,2,S.w.back⟩,aP S.w.back]:ar)++(ab (sK S 2).w.grid S.w.row).drop (S.w.col+2).toNat).map Cell.mv)=some ((bK (ab (sK S 2).w.grid S.w.row) ([⟨l,2,S.w.back⟩,aP S.w.back]:ar) S.w.col (S.w.col+2- 1)).map Cell.mv) by unfold bK;rw[show S.w.col+2- 1+1=S.w.col+2 by exact aV [_] [] 0x434002308c43400202 33])
 have hput:(bK (ab (sK S 2).w.grid S.w.row) ([⟨l,2,S.w.back⟩,aP S.w.back]:ar) S.w.col (S.w.col+2- 1))=put (bx S.w 2) S.w.col ⟨l,2,S.w.back⟩:=by
  rw[hx5,mT (by rw[hC.1];exact⟨hc.1,(aq [_,_,_] [] 0x908d001 1057 0x8d4010d000 4769 hroom hL.2.1)⟩) rfl];rw[show S.w.col+2- 1=S.w.col+1 by exact aV [_] [] 0x468004621a0012 33]
 refine' a7 0 (cw P (d+4) S.w.col g0 K0 hr id.2.2) fun G4 g4=> ?_
 refine' a7 0 (cw P (d+4) (S.w.col+2) g4 K1 hr id.2.2) fun G5 g5=> ?_
 have gx:=g5.new (MObj.list (List.map Cell.mv [⟨l,2,S.w.back⟩,aP S.w.back]))
 have zx:=bw gx
 have gy:=gx.new (MObj.list (aI (List.map Cell.mv [⟨l,2,S.w.back⟩,aP S.w.back]) none (some 2)))
 have hne5:bD D S.w.row+28≠ (G5++[MObj.list (List.map Cell.mv [⟨l,2,S.w.back⟩,aP S.w.back])]).length+28:=fun e=>eK gy K2 hr (.head _) (Nat.add_right_cancel e)
 have zy:=bw gy
 have gz:=fW (bK (ab (sK S 2).w.grid S.w.row) ([⟨l,2,S.w.back⟩,aP S.w.back]:ar) S.w.col (S.w.col+2- 1)) gy.drop.drop K2 hr
 have hg:(sK S 2).w.grid.set S.w.row.toNat (bK (ab (sK S 2).w.grid S.w.row) ([⟨l,2,S.w.back⟩,aP S.w.back]:ar) S.w.col (S.w.col+2- 1))=S.w.grid.set S.w.row.toNat (put (bx S.w 2) S.w.col ⟨l,2,S.w.back⟩):=by
  rw[hput]
  show((((((S.w.grid.set _ _).set _ _).set _ _).set _ _).set _ _).set _ _).set _ _=_
  rw[List.set_set,List.set_set,List.set_set,List.set_set,List.set_set,List.set_set]
 refine' bf 1 (bz zx) ?_
 refine' bf 0 (ao (dI gy K2 hr)) ?_
 refine' bf 0 (ao zy) ?_
 refine' hZ 0 hne5 ?_
 refine' bf 0 hsp5 ?_
 refine' ax 4 .none (hp (wF S ((sK S 2).w.grid.set S.w.row.toNat (bK (ab (sK S 2).w.grid S.w.row) ([⟨l,2,S.w.back⟩,aP S.w.back]:ar) S.w.col (S.w.col+2- 1))) l 2) D (((G5++[MObj.list (List.map Cell.mv [⟨l,2,S.w.back⟩,aP S.w.back])])++[MObj.list (aI (List.map Cell.mv [⟨l,2,S.w.back⟩,aP S.w.back]) none (some 2))]).set (bD D S.w.row) (au (bK (ab (sK S 2).w.grid S.w.row) ([⟨l,2,S.w.back⟩,aP S.w.back]:ar) S.w.col (S.w.col+2- 1))))) (b7.mk gz (mZ hg))
noncomputable abbrev CL(P:Cw)(S:Sn)(D:Dn)(G:Hp)(l:List Int):Tr:=tb (aL 1 (jk P.K 1348 [.loc 15,.tup (l.map .int),.int 2] (hp S D G))) false
noncomputable abbrev EH(P:Cw)(S:Sn)(D:Dn)(G:Hp)(l:List Int):Tr:=tb (aL 0 (cc (aL 2 (CL P S D G l)) (.int (aa S.w)) (hp S D G))) false
theorem AQ(d:Nat)(l:List Int)(hG:aE G D S F)(I:Inv S.w):Wt (CO P (d+6)) (tb (aL 1 (jk P.K 1348 [.loc 15,.tup (l.map .int),.int 1] (hp S D G))) false) (FQ (b7 .none (aJ S (bM S.w l 1)) D F)):=by
 have h:=aO I
 rcases Bool.eq_false_or_eq_true S.w.ins with hi|hi
 ·exact vY P d l hG I hi (by exact af [_,_] [] 0x8d2008d000 33 4736 h.2.2.1)
 ·exact yw P d l hG I hi (by exact af [_,_] [] 0x8d2008d000 33 4736 h.2.2.1)
theorem AR(d:Nat)(l:List Int)(hG:aE G D S F)(I:Inv S.w)(hc:S.w.col<aa S.w):Wt (CO P (d+6)) (EH P S D G l) (FQ (b7 .none (aJ S (bM S.w l 2)) D F)):=by
 rcases Bool.eq_false_or_eq_true S.w.ins with hi|hi
 ·exact vZ P d l hG I hi (by exact af [_,_] [] 0x8d2010d000 33 4737 hc)
 ·exact yx P d l hG I hi (by exact af [_,_] [] 0x8d2010d000 33 4737 hc)
theorem m8(d:Nat)(l:List Int)(hG:aE G D S F)(I:Inv S.w)(hn: ¬(S.w.waits=true∧S.w.aw=true)):Wt (CO P (d+6)) (CL P S D G l) (FQ (b7 .none (aJ S (aT S.w l 2)) D F)):=by
 refine' aj 2 (gt P (d+5) S D G) ?_
 refine' bc (aa S.w≤S.w.col) (fun hc=> ?_) (fun hc=> ?_)
 ·refine' ak 0 hc ?_
  refine' fz S.w.aw (fun ha=> ?_) (fun ha=> ?_)
  ·have e2:aJ (aJ S (ae S.w)) (bM (aJ S (ae S.w)).w l 2)=aJ S (aT S.w l 2):=by rw[qV hn hc ha]
   refine' aD 1 ha ?_
   refine' a7 0 (i8 P (d+1) hG I) fun G1 g1=> ?_
   have e:=AR P d l (S:=aJ S (ae S.w)) g1 (dH I) (dw I)
   rw[e2] at e
   refine' eV 0 e
  ·refine' aD 1 ha ?_
   refine' bc (S.w.col=S.w.right+1) (fun hs=> ?_) (fun hs=> ?_)
   ·have e:S=aJ S (aT S.w l 2):=by rw[qW hn hc ha hs]
    refine' ak 2 hs ?_
    refine' ax 0 .none (hp S D G) (b7.mk hG e)
   ·have e:=AR P d l (S:=aJ S (fU S.w)) (D:=D) (F:=F) (G:=G) hG (gp I) (fq I hc hs)
    have e2:aJ S (bM (fU S.w) l 2)=aJ S (aT S.w l 2):=by rw[qX hn hc ha hs];rfl
    rw[show aJ (aJ S (fU S.w)) (bM (aJ S (fU S.w)).w l 2)=aJ S (bM (fU S.w) l 2) from rfl,e2] at e
    refine' am 2 hs ?_
    refine' aj 0 (gt P (d+5) S D G) ?_
    refine' eV 1 e
 ·have e:=AR P d l hG I (Int.not_le.mp hc)
  rw[←mV hn (Int.not_le.mp hc)] at e
  refine' am 0 hc ?_
  refine' eV 0 e
theorem CM(d:Nat)(l:List Int)(hG:aE G D S F)(I:Inv S.w):Ca (CO P (d+7)) 1348 [.loc 15,.tup (l.map .int),.int 1] (hp S D G) (b7 .none (aJ S (aT S.w l 1)) D F):=by
 refine' use ?_
 refine' fz S.w.waits (fun hw=> ?_) (fun hw=> ?_)
 ·refine' aD 1 hw ?_
  refine' fz S.w.aw (fun ha=> ?_) (fun ha=> ?_)
  ·have e2:aJ (aJ S (ae S.w)) (bM (aJ S (ae S.w)).w l 1)=aJ S (aT S.w l 1):=by rw[qT ⟨hw,ha⟩]
   refine' aD 1 ha ?_
   refine' a7 0 (i8 P (d+1) hG I) fun G1 g1=> ?_
   have e:=AQ P d l (S:=aJ S (ae S.w)) g1 (dH I)
   rw[e2] at e
   refine' eV 0 e
  ·have e:=AQ P d l hG I
   rw[←jQ (fun q=>by rw[ha] at q;exact Bool.false_ne_true q.2)] at e
   refine' aD 1 ha ?_
   refine' eV 0 e
 ·have e:=AQ P d l hG I
  rw[←jQ (fun q=>by rw[hw] at q;exact Bool.false_ne_true q.1)] at e
  refine' aD 1 hw ?_
  refine' eV 0 e
theorem CN(d:Nat)(l:List Int)(hG:aE G D S F)(I:Inv S.w):Ca (CO P (d+7)) 1348 [.loc 15,.tup (l.map .int),.int 2] (hp S D G) (b7 .none (aJ S (aT S.w l 2)) D F):=by
 refine' use ?_
 refine' fz S.w.waits (fun hw=> ?_) (fun hw=> ?_)
 ·refine' aD 1 hw ?_
  refine' fz S.w.aw (fun ha=> ?_) (fun ha=> ?_)
  ·have hn: ¬((aJ S (ae S.w)).w.waits=true∧(aJ S (ae S.w)).w.aw=true):=fun q=>by
    rw[show(aJ S (ae S.w)).w.waits=false from(cR S.w).2.2.2.2.2.2.2.2.2.1] at q
    exact Bool.false_ne_true q.1
   have e2:aJ (aJ S (ae S.w)) (aT (aJ S (ae S.w)).w l 2)=aJ S (aT S.w l 2):=by rw[qU I ⟨hw,ha⟩,mV hn (dw I)]
   refine' aD 1 ha ?_
   refine' a7 0 (i8 P (d+1) hG I) fun G1 g1=> ?_
   have e:=m8 P d l (S:=aJ S (ae S.w)) g1 (dH I) hn
   rw[e2] at e
   refine' eV 0 e
  ·have e:=m8 P d l hG I (fun q=>by rw[ha] at q;exact Bool.false_ne_true q.2)
   refine' aD 1 ha ?_
   refine' eV 0 e
 ·have e:=m8 P d l hG I (fun q=>by rw[hw] at q;exact Bool.false_ne_true q.1)
  refine' aD 1 hw ?_
  refine' eV 0 e
theorem gu(d:Nat)(l:List Int)(w:Int)(hw:w=1∨w=2)(hG:aE G D S F)(I:Inv S.w):Ca (CO P (d+7)) 1348 [.loc 15,.tup (l.map .int),.int w] (hp S D G) (b7 .none (aJ S (aT S.w l w)) D F):=by
 rcases hw with rfl|rfl
 ·exact CM P d l hG I
 ·exact CN P d l hG I
end
section
variable{p:Cell→Prop}{cs c U:ar}{g:List ar}{k r l b:Int}{v:Vt}
noncomputable def dz(p:Cell→Prop)(cs:ar):Prop:= ∀c∈cs,p c
noncomputable def eX(p:Cell→Prop)(g:List ar):Prop:= ∀cs∈g,dz p cs
theorem oi{i:Nat}{x:Cell}(h:dz p cs)(hx:p x):dz p (cs.set i x):=fun y hy=>by
 rcases List.mem_or_eq_of_mem_set hy with q|rfl
 ·exact h y q
 ·exact hx
theorem v4{i:Nat}(h:eX p g)(hx:dz p cs):eX p (g.set i cs):=fun y hy=>by
 rcases List.mem_or_eq_of_mem_set hy with q|rfl
 ·exact h y q
 ·exact hx
theorem oj(h:eX p g)(r:Int):dz p (ab g r):=fun y hy=>by
 unfold ab at hy
 rw[gD] at hy
 cases e:g[r.toNat]? with
 |none=>rw[e] at hy;cases hy
 |some cs=>rw[e] at hy;exact h cs (mG e) y hy
theorem rl{n:Nat}(hb: ∀b,p (bare b)):dz p (List.replicate n (bare b)):=fun y hy=>by
 rw[List.eq_of_mem_replicate hy];exact hb b
theorem fy(hb: ∀b,p (bare b))(h:dz p cs)(k:Int):dz p (a9 cs k):=by
 unfold a9
 split
 ·exact oi (oi h (hb _)) (hb _)
 ·exact h
theorem m9(h:dz p cs)(n:Nat):dz p (cs.take n):=fun y hy=>h y (List.mem_of_mem_take hy)
theorem na(h:dz p cs)(n:Nat):dz p (cs.drop n):=fun y hy=>h y (List.mem_of_mem_drop hy)
theorem rm(h:dz p cs)(h':dz p c):dz p (cs++c):=fun y hy=>(List.mem_append.mp hy).elim (h y) (h' y)
theorem v5(h:dz p c)(u:dz p U)(k r:Int):dz p (bK c U k r):=rm (rm (m9 h _) u) (na h _)
theorem zt(hb: ∀b,p (bare b))(h:dz p cs){m:Int}:dz p (ins cs k m r b):=
 have h3:=fy hb (fy hb (fy hb h k) (r+1)) (r+1- m)
 v5 h3 (rm (rl hb) (m9 (na h3 _) _)) k r
theorem CQ(hb: ∀b,p (bare b))(h:dz p cs):dz p (nh cs k r b):=
 have h3:=fy hb (fy hb (fy hb h k) (r+1)) (k+1)
 v5 h3 (rm (m9 (na h3 _) _) (rl (n:=1) hb)) k r
theorem zu(hb: ∀b,p (bare b))(hh: ∀b,p (aP b))(h:dz p cs){x:Cell}(hx:p x):dz p (put cs k x):=by
 unfold put
 have h2:=fy hb (fy hb h k) (k+x.w)
 dsimp only
 split
 ·exact oi (oi h2 hx) (hh _)
 ·exact oi h2 hx
theorem v6{f:Nat→ar→ar}{a z:Nat}(h:eX p g)(hf: ∀i cs,dz p cs→dz p (f i cs)):eX p (a6 g f a z):=fun y hy=>by
 unfold a6 at hy
 obtain⟨i,hi,rfl⟩:=List.mem_mapIdx.mp hy
 split
 ·exact hf _ _ (h _ (List.getElem_mem hi))
 ·exact h _ (List.getElem_mem hi)
theorem zw(hb: ∀b,p (bare b))(h:eX p g){t z:Int}{up:Bool}:eX p (ay g t z l r b up):=by
 have hp: ∀i:Int,dz p (aC (dL (ab g i) l r) l r):=fun i=>m9 (na (fy hb (fy hb (oj h i) _) _) _) _
 refine v6 h fun i cs hc=>v5 (fy hb (fy hb hc _) _) ?_ _ _
 unfold cF
 split
 ·split
  ·exact hp _
  ·exact rl hb
 ·split
  ·exact hp _
  ·exact rl hb
theorem yy(hb: ∀b,p (bare b))(h:eX p v.grid):eX p (feedD v).grid:=by
 unfold feedD
 split
 ·split
  ·exact zw hb h
  ·exact h
 ·split<;>exact h
theorem yz(hb: ∀b,p (bare b))(h:eX p v.grid):eX p (feedU v).grid:=by
 unfold feedU
 split
 ·split
  ·exact zw hb h
  ·exact h
 ·split<;>exact h
end
noncomputable def CK(N:Nat)(l:List Int):Prop:=At l∧l.length≤N
structure Good(R C:Int)(N:Nat)(v:Vt):Prop where
 inv:Inv v
 dR:v.R=R
 dC:v.C=C
 cells:eX (fun c=>CK N c.codes) v.grid
 last:CK N v.last
section
variable{R C:Int}{N:Nat}{v:Vt}{l:List Int}{w:Int}
theorem CK.nil(N:Nat):CK N []:=⟨.inl rfl,Nat.zero_le _⟩
theorem CK.up{l:List Int}(h:CK N l):CK (N+1) l:=⟨h.1,Nat.le_succ_of_le h.2⟩
theorem Good.up(h:Good R C N v):Good R C (N+1) v:=⟨h.inv,h.dR,h.dC,fun cs q c k=>(h.cells cs q c k).up,h.last.up⟩
theorem Good.feedD(h:Good R C N v):Good R C N (feedD v):=by
 have q:=cR v
 exact⟨i0 h.inv,q.1.trans h.dR,q.2.1.trans h.dC,yy (fun _=>CK.nil N) h.cells,q.2.2.2.2.2.2.2.2.1▸h.last⟩
theorem Good.feedU(h:Good R C N v):Good R C N (feedU v):=by
 have q:=pd v
 exact⟨sE h.inv,q.1.trans h.dR,q.2.1.trans h.dC,yz (fun _=>CK.nil N) h.cells,q.2.2.2.2.2.2.2.2.1▸h.last⟩
theorem Good.wrap(h:Good R C N v):Good R C N (ae v):=⟨dH h.inv,h.feedD.dR,h.feedD.dC,h.feedD.cells,h.feedD.last⟩
theorem AS(I:Inv v)(hw:0<w)(hr:v.col+w≤aa v+1):dr v.C (bx v w):=by
 have h:=aO I
 have hc:=I.cur.2
 unfold bx
 split
 ·exact fR (I.gi.rowC I.cur.1) (by exact⟨hc.1,⟨h.2.2.1,h.2.1⟩⟩) (by exact⟨hw,(af [_,_,_] [] 0x46a484080 33 0x469021400 hr)⟩)
 ·exact I.gi.rowC I.cur.1
theorem Good.plc(h:Good R C N v)(hl:CK N l)(hw:w=1∨w=2)(hr:v.col+w≤aa v+1):Good R C N (bM v l w):=by
 have hR:=aO h.inv
 have hc:=h.inv.cur.2
 have hC:=gL (x:=⟨l,w,v.back⟩) (AS h.inv (hw.elim (fun e=>e▸by decide) (fun e=>e▸by decide)) hr) hc (hw.imp id fun e=>⟨e,by subst e;show v.col+1<v.C;have:=hR.2.1;omega⟩)
 have hg:=h.inv.gi.setC hC (r:=v.row)
 have hP:eX (fun c=>CK N c.codes) (v.grid.set v.row.toNat (put (bx v w) v.col ⟨l,w,v.back⟩)):=v4 h.cells (zu (fun _=>CK.nil N) (fun _=>CK.nil N) (by
  unfold bx
  split
  ·exact zt (fun _=>CK.nil N) (oj h.cells _)
  ·exact oj h.cells _) hl)
 unfold bM eI
 split
 ·exact⟨⟨h.inv.dim,h.inv.mar,⟨h.inv.cur.1,hR.1,hR.2.1⟩,hg⟩,h.dR,h.dC,hP,hl⟩
 ·rename_i q
  exact⟨⟨h.inv.dim,h.inv.mar,⟨h.inv.cur.1,⟨Int.add_nonneg hc.1 (hw.elim (fun e=>e▸by decide) (fun e=>e▸by decide)),Int.lt_of_le_of_lt (Int.not_lt.mp q) hR.2.1⟩⟩,hg⟩,h.dR,h.dC,hP,hl⟩
theorem Good.sign(h:Good R C N v)(hl:CK N l)(hw:w=1∨w=2):Good R C N (aT v l w):=by
 have key: ∀u:Vt,Good R C N u→Good R C N (if w=2∧aa u≤u.col then(if u.aw=true then bM (ae u) l w else if u.col=u.right+1 then u else bM {u with col:=aa u- 1} l w) else bM u l w):=fun u hu=>by
  split
  ·rename_i q
   split
   ·have:=dw hu.inv
    exact hu.wrap.plc hl hw (by exact aq [_,_,_] [] 0x46a025000 1569 34450 5249 q.1 this)
   ·split
    ·exact hu
    ·rename_i q2
     have:=fq hu.inv q.2 q2
     have hb:Good R C N (fU u):=⟨gp hu.inv,hu.dR,hu.dC,hu.cells,hu.last⟩
     exact hb.plc hl hw (by exact aq [_,_,_] [] 0x46a025000 1569 34450 5249 q.1 this)
  ·rename_i q
   have:=aO hu.inv
   refine hu.plc hl hw ?_
   rcases hw with e|e
   ·subst e;exact Int.add_le_add_right this.2.2.1 1
   ·subst e;have q:=Int.not_le.mp fun z=>q ⟨rfl,z⟩;omega
 unfold aT
 dsimp only
 split
 ·exact key _ h.wrap
 ·exact key _ h
theorem v7(v:Vt)(I:Inv v): ∃r c,cv v={v with row:=r,col:=c,waits:=false}∧(0≤r∧r<v.R)∧0≤c∧c<v.C:=by
 have h:=I.cur
 have m:=I.mar
 have hl:=dG I
 unfold cv
 split
 ·exact⟨v.row,v.col,rfl,h⟩
 ·split
  ·exact⟨v.row,v.col- 1,rfl,h.1,Int.le_sub_one_of_lt (Int.lt_of_le_of_lt hl.1 ‹_›),Int.lt_trans (Int.sub_lt_self _ (by decide)) h.2.2⟩
  ·split
   ·split
    ·exact⟨v.row- 1,v.right,rfl,⟨Int.le_sub_one_of_lt (‹v.row≠v.top∧0<v.row›).2,Int.lt_trans (Int.sub_lt_self _ (by decide)) h.1.2⟩,by exact⟨(aq [_,_] [] 131120 1057 147504 4241 m.2.1 m.2.2.1),m.2.2.2⟩⟩
    ·split
     ·exact⟨v.bottom,v.right,rfl,by exact⟨(aq [_,_] [] 131120 1057 147504 4241 m.1.1 m.1.2.1),m.1.2.2⟩,by exact⟨(aq [_,_] [] 131120 1057 147504 4241 m.2.1 m.2.2.1),m.2.2.2⟩⟩
     ·exact⟨v.row,v.col,rfl,h⟩
   ·exact⟨v.row,v.col,rfl,h⟩
theorem Good.cur(h:Good R C N v){r c:Int}{b:Bool}(q:(0≤r∧r<v.R)∧0≤c∧c<v.C):Good R C N {v with row:=r,col:=c,waits:=b}:=⟨⟨h.inv.dim,h.inv.mar,q,h.inv.gi⟩,h.dR,h.dC,h.cells,h.last⟩
theorem Good.back(h:Good R C N v):Good R C N (cv v):=by
 obtain⟨r,c,e,q⟩:=v7 v h.inv
 rw[e];exact h.cur q
theorem Good.shift(h:Good R C N v)(f:Bool):Good R C N (bL v f):=by
 have m:=h.inv.mar
 refine⟨⟨h.inv.dim,m,h.inv.cur,i6 h.inv.gi _ _ fun i cs q=> ?_⟩,h.dR,h.dC,v6 h.cells fun i cs q=> ?_,h.last⟩
 ·cases f
  ·exact qD q (by exact⟨m.2.1,⟨(af [_,_] [] 4736 33 4737 m.2.2.1),m.2.2.2⟩⟩)
  ·exact fR q (by exact⟨m.2.1,⟨(af [_,_] [] 4736 33 4737 m.2.2.1),m.2.2.2⟩⟩) (by exact⟨(aV [] [] 573489 1),(af [_,_] [] 0x8d28080230 33 4241 m.2.2.1)⟩)
 ·cases f
  ·exact CQ (fun _=>CK.nil N) q
  ·exact zt (fun _=>CK.nil N) q
theorem Good.side(h:Good R C N v)(f:Bool):Good R C N (aS v f):=by
 have c:=h.inv.cur
 have hd:=h.inv.dim
 cases f
 ·by_cases q:v.col=v.left∧(v.top≤v.row∧v.row≤v.bottom)
  ·rw[mM q];exact h.shift true
  ·rw[mN q];exact h.cur ⟨c.1,by omega⟩
 ·by_cases q:v.col=v.right∧(v.top≤v.row∧v.row≤v.bottom)
  ·rw[mO q];exact h.shift false
  ·rw[mQ q];exact h.cur ⟨c.1,by omega⟩
end
theorem RowOK.head{cs:ar}(h:RowOK cs)(hl:0<cs.length):(cs.getD 0 default).w≠0:=by
 cases h with
 |nil=>exact absurd hl (Nat.lt_irrefl _)
 |one e _=>show _≠_;simp only[List.getD_cons_zero];rw[e];decide
 |two e _=>show _≠_;simp only[List.getD_cons_zero];rw[e];decide
theorem RowOK.kinds{cs:ar}(h:RowOK cs): ∀k,k<cs.length→((cs.getD k default).w=0∧(cs.getD k default).codes=[])∨((cs.getD k default).w=1∧(k+1<cs.length→(cs.getD (k+1) default).w≠0))∨
  ((cs.getD k default).w=2∧k+1<cs.length∧cs.getD (k+1) default=aP (cs.getD k default).back∧(k+2<cs.length→(cs.getD (k+2) default).w≠0)):=by
 induction h with
 |nil=>intro k hk;exact absurd hk (Nat.not_lt_zero _)
 | @one c r e h ih=>
  intro k hk
  cases k with
  |zero=>exact .inr (.inl ⟨e,fun q=>h.head (Nat.lt_of_succ_lt_succ q)⟩)
  |succ k=>
   rcases ih k (Nat.lt_of_succ_lt_succ hk) with q|q|q
   ·exact .inl q
   ·exact .inr (.inl ⟨q.1,fun z=>q.2 (Nat.lt_of_succ_lt_succ z)⟩)
   ·exact .inr (.inr ⟨q.1,Nat.succ_lt_succ q.2.1,q.2.2.1,fun z=>q.2.2.2 (Nat.lt_of_succ_lt_succ z)⟩)
 | @two c r e h ih=>
  intro k hk
  match k,hk with
  |0,hk=>exact .inr (.inr ⟨e,Nat.succ_lt_succ (Nat.succ_pos _),rfl,fun q=>h.head (Nat.lt_of_succ_lt_succ (Nat.lt_of_succ_lt_succ q))⟩)
  |1,hk=>exact .inl ⟨rfl,rfl⟩
  |k+2,hk=>
   rcases ih k (Nat.lt_of_succ_lt_succ (Nat.lt_of_succ_lt_succ hk)) with q|q|q
   ·exact .inl q
   ·exact .inr (.inl ⟨q.1,fun z=>q.2 (Nat.lt_of_succ_lt_succ (Nat.lt_of_succ_lt_succ z))⟩)
   ·exact .inr (.inr ⟨q.1,Nat.succ_lt_succ (Nat.succ_lt_succ q.2.1),q.2.2.1,fun z=>q.2.2.2 (Nat.lt_of_succ_lt_succ (Nat.lt_of_succ_lt_succ z))⟩)
theorem v8{cs:ar}{k:Int}{l:List Int}(ok:RowOK cs)(h:0≤k∧k<cs.length)(hw:(ah cs k).w≠0):put cs k ⟨l,(ah cs k).w,(ah cs k).back⟩=cs.set k.toNat ⟨l,(ah cs k).w,(ah cs k).back⟩:=by
 obtain⟨j,rfl⟩: ∃j:Nat,k=j:=⟨k.toNat,by exact af [_] [_] 264834 558561 139346 (tN h.1)⟩
 have hj:j<cs.length:=by exact af [] [_,_] 8969 33 0x896051 h.2
 have e1:a9 cs j=cs:=eP fun _ _=>hw
 have hc: ∀m:Nat,ah cs m=cs.getD m default:=fun m=>rfl
 unfold put
 dsimp only
 rw[e1]
 rcases ok.kinds j hj with q|q|q
 ·exact absurd q.1 hw
 ·have e2:a9 cs (j+(ah cs j).w)=cs:=eP fun _ z=>by
   rw[show(ah cs j).w=1 from q.1] at z⊢
   exact q.2 (by exact af [] [_,_] 0x1108e009 33 0x44a11c0a01 z)
  rw[e2,if_neg (by rw[show(ah cs j).w=1 from q.1];decide)]
 ·have e2:a9 cs (j+(ah cs j).w)=cs:=eP fun _ z=>by
   rw[show(ah cs j).w=2 from q.1] at z⊢
   exact q.2.2.2 (by exact af [] [_,_] 0x1110e009 33 0x44a21c0a01 z)
  rw[e2,if_pos (show(ah cs j).w=2 from q.1),show((j:Int)+1).toNat=j+1 by exact af [] [_,_] 0x11c410a 493089 0x471282052 (tN (aV [] [_] 0x470280030 1)),show((j:Int)).toNat=j from rfl]
  refine List.ext_getElem? fun i=> ?_
  rw[List.getElem?_set]
  split
  ·rename_i e;subst e
   rw[List.length_set,if_pos q.2.1,List.getElem?_set_ne (by exact Nat.ne_of_lt (aV [] [_] 0x11c0109 1)),gE q.2.1]
   have:=q.2.2.1
   rw[gD,gE q.2.1] at this
   exact cA some this.symm
  ·rfl
section
variable{R C:Int}{N:Nat}{v:Vt}
theorem kX(I:Inv v)(h:cK v):(0≤az v∧az v<v.C)∧(cellOf v (az v)).w≠0∧ ¬((cellOf v (az v)).w=2∧az v+1=v.C):=by
 have hc:=I.cur.2
 have h0:dc v≤v.col:=by
  unfold dc
  by_cases q:v.waits=true
  ·rw[if_pos q];exact Int.le_refl _
  ·rw[if_neg q];exact Int.sub_le_self _ (by decide)
 have h1:az v≤dc v:=by
  unfold az
  by_cases q:0≤dc v∧(cellOf v (dc v)).w=0
  ·rw[if_pos q];exact Int.sub_le_self _ (by decide)
  ·rw[if_neg q];exact Int.le_refl _
 have hl:=I.gi.rlen I.cur.1
 have hk:=h.1
 have hj:(az v).toNat<(ab v.grid v.row).length:=by exact ju [_,_,_,_] [_,_] 8969 0x22f08421 4737 4256 5296 156242 188498 hc.2 h0 h1 hl (tN hk)
 refine⟨⟨hk,by exact a0 [_,_,_,_] [] 4737 33825 4769 5296 5760 hc.2 h0 h1⟩,?_⟩
 rcases(I.gi.rok I.cur.1).kinds _ hj with q|q|q
 ·exact absurd q.2 h.2
 ·have e:(cellOf v (az v)).w=1:=q.1
  rw[e];exact⟨by decide,fun z=>absurd z.1 (by decide)⟩
 ·have e:(cellOf v (az v)).w=2:=q.1
  rw[e];exact⟨by decide,fun z=>by have:=q.2.1;omega⟩
theorem lR(I:Inv v)(h:cK v):iJ v=kT v 769:=by
 have a:=kX I h
 unfold iJ kT
 have e:=v8 (l:=(cellOf v (az v)).codes++[769]) (I.gi.rok I.cur.1) (k:=az v) (by rw[I.gi.rlen I.cur.1];exact a.1) a.2.1
 rw[if_pos h]
 exact cA (fun x=>({v with grid:=v.grid.set v.row.toNat x,last:=(cellOf v (az v)).codes++[769]}:Vt)) e.symm
theorem ol(h: ¬cK v):iJ v=v:=if_neg h
theorem Good.ck(h:Good R C N v)(k:Int):CK N (cellOf v k).codes:=by
 unfold cellOf ah
 rw[gD]
 cases e:(ab v.grid v.row)[k.toNat]? with
 |none=>exact CK.nil N
 |some c=>exact oj h.cells _ c (mG e)
theorem CK.snoc{l:List Int}(h:CK N l)(hn:l≠ [])(c:Int):CK (N+1) (l++[c]):=by
 refine⟨?_,by rw[List.length_append];exact Nat.succ_le_succ h.2⟩
 rcases h.1 with q|⟨a,r,rfl,q⟩
 ·exact absurd q hn
 ·exact .inr ⟨a,r++[c],rfl,q⟩
theorem Good.mark(h:Good R C N v):Good R C (N+1) (iJ v):=by
 by_cases q:cK v
 ·rw[lR h.inv q]
  have a:=kX h.inv q
  have hx:=(h.ck (az v)).snoc q.2 769
  have hg:=gL (x:=⟨(cellOf v (az v)).codes++[769],(cellOf v (az v)).w,(cellOf v (az v)).back⟩) (h.inv.gi.rowC h.inv.cur.1) a.1 (by
   have hl:=h.inv.gi.rlen h.inv.cur.1
   rcases(h.inv.gi.rok h.inv.cur.1).kinds (az v).toNat (by exact a0 [_,_] [_,_] 8969 572449 4737 156242 139346 a.1.2 hl (tN a.1.1)) with z|z|z
   ·exact absurd z.1 a.2.1
   ·exact .inl z.1
   ·exact .inr ⟨z.1,by have:=z.2.1;exact a0 [_,_] [_,_] 0x908d001 493089 155730 0x1008e209 139858 hl z.2.1 (tN a.1.1)⟩)
  exact⟨⟨h.inv.dim,h.inv.mar,h.inv.cur,h.inv.gi.setC hg⟩,h.dR,h.dC,v4 h.up.cells (zu (fun _=>CK.nil _) (fun _=>CK.nil _) (oj h.up.cells _) hx),hx⟩
 ·rw[ol q];exact h.up
end
section
variable{O:dJ}{t:Tr}{Q:QS}
theorem f5(n:Nat)(ns:List Str)(a:Int)(m:Nat)(H:Hp)(J:Nat→Hp→Prop)(h0:J 0 H)
  (turn: ∀ (j:Nat) (ρ:aQ) (H:Hp),j<m→J j H→Wt O (wE (aL n t) (.int (a+j)) (dW ns ρ (fC (aL n t))) H) fun fl σ' H'=>fl= .next∧(∃ρ,σ'=dW ns ρ (fC (aL n t)))∧bg [] H'∧J (j+1) H')
  (done: ∀ (ρ:aQ) (H:Hp),J m H→Wt O (wG (aL n t) .next (dW ns ρ (fC (aL n t))) H) Q) (hr:wH (aL n t)=some ([],aX a m 1,H):=by kernel_rfl):Wt O t Q:=
 vT n ns [] (aX a m 1) H J m (lB a 1 m) (fun j (_:Unit)=> .int (a+j)) (fun j _=>j<m) (fun j v h=>by
  obtain⟨q,e⟩:=nF h
  exact⟨(),q,by rw[e,Int.one_mul]⟩) h0 (fun j _ ρ H hj hI=>turn j ρ H hj hI) done hr
theorem Wt.hy{S':Sn}{F:As}{Z:Hp}{T:Hp→Tr}(h:HY S' F Z)(k: ∀D G,aE G D S' F→Wt O (T (hp S' D G)) Q):Wt O (T Z) Q:=by
 obtain⟨D,G,rfl,g⟩:=h
 exact k D G g
end
noncomputable def rept(v:Vt)(l:List Int)(w:Int):Nat→Vt
 |0=>v
 |n+1=>aT (rept v l w n) l w
theorem sP(v:Vt)(l:List Int)(w:Int)(h:v.last=l):(aT v l w).last=l:=by
 have hw: ∀u:Vt,(ae u).last=u.last:=fun u=>(cR u).2.2.2.2.2.2.2.2.1
 have hp: ∀u:Vt,(bM u l w).last=l:=fun u=>rfl
 have key: ∀u:Vt,u.last=l→(if w=2∧aa u≤u.col then(if u.aw=true then bM (ae u) l w else if u.col=u.right+1 then u else bM {u with col:=aa u- 1} l w) else bM u l w).last=l:=fun u hu=>by
  split
  ·split
   ·exact hp _
   ·split
    ·exact hu
    ·exact hp _
  ·exact hp _
 unfold aT
 dsimp only
 split
 ·exact key _ ((hw v).trans h)
 ·exact key _ h
theorem lW(v:Vt)(l:List Int)(w:Int)(h:v.last=l): ∀n,(rept v l w n).last=l
 |0=>h
 |n+1=>sP _ l w (lW v l w h n)
theorem Good.rept{R C:Int}{N:Nat}{v:Vt}{l:List Int}{w:Int}(h:Good R C N v)(hl:CK N l)(hw:w=1∨w=2): ∀n,Good R C N (rept v l w n)
 |0=>h
 |n+1=>(Good.rept h hl hw n).sign hl hw
noncomputable def w2(a:Int):Int:=if gV a=2 then 2 else 1
theorem v9(a:Int):w2 a=1∨w2 a=2:=by unfold w2;split<;>simp
section
variable(P:Cw){d:Nat}{S:Sn}{D:Dn}{G:Hp}{F:As}{R C:Int}{N:Nat}
theorem HY.mk{S':Sn}(h:aE G D S' F):HY S' F (hp S' D G):=⟨D,G,rfl,h⟩
theorem yA(d:Nat)(many:Int)(a:Int)(r:List Int)(hG:aE G D S F)(I:Good R C N S.s)(hl:S.s.last=a::r)(hm:0<many∧many≤10):Ca (CO P (d+13)) 1051 [.loc 0,.int many] (hp S D G) (Sx .none (aB S (rept S.s S.s.last (w2 a) many.toNat)) F):=by
 have id:=I.inv.dim
 have zl:(hp S D G)[D.pLast+28]?=some (.list (S.s.last.map .int)):=(cU D.pLast).trans (u6 hG)
 have g1:=hG.new (.list (S.s.last.map .int))
 have hRC:S.s.R*S.s.C≤1000∧15≤S.s.R*S.s.C:=by
  have h1:S.s.R*S.s.C≤4*8:=Int.mul_le_mul id.1.2 id.2.2 (by apply af [_] [] 131120 33 133680 id.2.1) (by decide)
  have h2:3*5≤S.s.R*S.s.C:=Int.mul_le_mul id.1.1 id.2.1 (by decide) (by apply af [_] [] 131120 33 132656 id.1.1)
  apply⟨(af [_] [] 0x1f408880 33 0x8190c80 h1),(af [_] [] 138800 33 0x828c660 h2)⟩
 have hmin:min many (S.s.R*S.s.C)=many:=Int.min_eq_left (by apply aq [_,_] [] 4736 1057 165504 155184 hm.2 hRC.2)
 have hw:=v9 a
 have hla:S.s.last.map MV.int= .int a::r.map .int:=by rw[hl];rfl
 have h00:HY (aB S (rept S.s S.s.last (w2 a) 0)) ((G.length,.list (S.s.last.map .int))::F) (hp S D (G++[.list (S.s.last.map .int)])):=HY.mk g1
 refine' use ?_
 refine' aY 1 (jH zl) ?_
 refine' aY 2 (ra (hp S D (G++[MObj.list (List.map MV.int S.s.last)])) (S.s.R) (S.s.C) (by apply⟨⟨(af [_] [] 0x4746a52880020820 33 132656 id.1.1),(af [_] [] 0x746a52880020880 33 67200 id.1.2)⟩,⟨(af [_] [] 0x4746a52880020820 33 133680 id.2.1),(af [_] [] 0x746a52880020880 33 132736 id.2.2)⟩⟩)) ?_
 refine' aY 0 (ey (hp S D (G++[MObj.list (List.map MV.int S.s.last)])) many (S.s.R*S.s.C) (by apply aq [_,_] [] 4736 1057 165504 155184 hm.2 hRC.2)) ?_
 refine' cZ 0 (dE (hp S D (G++[MObj.list (List.map MV.int S.s.last)])) many (by apply⟨(af [_] [] 0x4746a52880020820 33 131121 hm.1),(af [_] [] 0x746a52880020880 33 165504 hm.2)⟩)) ?_
 refine' f5 0 ["turn","width"] 0 many.toNat (hp S D (G++[MObj.list (List.map MV.int S.s.last)])) (fun j H=>HY (aB S (rept S.s S.s.last (w2 a) j)) ((G.length,.list (S.s.last.map .int))::F) H) h00 (fun j ρ Z hj hz=>Wt.hy hz fun D2 G2 g2=> ?_) (fun ρ Z hz=>Wt.hy hz fun D2 G2 g2=> ?_)
 ·have J:=(I.rept I.last hw j).inv
  have g3:=g2.new (.list [])
  have z1:=dg g3 (p:=G.length) (o:= .list (S.s.last.map .int)) (.tail _ (.head _))
  have hne:(!(S.s.last.map MV.int).isEmpty)=true:=by rw[hla];rfl
  have z0:=ew (k:=0) (j:=0) (v:= .int a) z1 (fN (by rw[hla];simp)) (by rw[hla];rfl)
  refine' mx 0 (uS z1 (bw g3)) ?_
  refine' aD 0 hne ?_
  have z3:=o8 z1
  have hn0: ¬(((S.s.last.map MV.int).length:Nat):Int)=0:=by rw[hla,List.length_cons];apply Ne.symm (Int.ne_of_lt (aV [] [_] 0x470014031 1))
  refine' aY 0 z3 ?_
  refine' am 0 hn0 ?_
  refine' aK 2 z0 ?_
  refine' aj 0 (jP P (d+10) (aB S (rept S.s S.s.last (w2 a) j)) D2 (G2++[.list []]) a) ?_
  refine' aj 2 (eF P (d+11) (aB S (rept S.s S.s.last (w2 a) j)) D2 (G2++[.list []])) ?_
  refine' aY 2 (uP z1) ?_
  refine' bc (gV a=2) (fun c2=> ?_) (fun c2=> ?_)
  ·have es:=pn P d S.s.last 2 (.inr rfl) g3 J
   have e2:aB (aB S (rept S.s S.s.last (w2 a) j)) (aT (aB S (rept S.s S.s.last (w2 a) j)).s S.s.last 2)=aB S (rept S.s S.s.last (w2 a) (j+1)):=by
    show _=aB S (aT _ _ (w2 a))
    rw[show w2 a=2 from if_pos c2]
   refine' ak 0 c2 ?_
   refine' aU 0 es fun D4 G4 g4=> ?_
   have hy:HY (aB S (rept S.s S.s.last (w2 a) (j+1))) ((G.length,.list (S.s.last.map .int))::F) (hp (aB (aB S (rept S.s S.s.last (w2 a) j)) (aT (aB S (rept S.s S.s.last (w2 a) j)).s S.s.last 2)) D4 G4):=⟨D4,G4,by rw[e2],by rw[←e2];exact g4.drop⟩
   refine' gX 0 ρ [("turn",.int (0+j)),("width",.int (gV a))] (hp (aB (aB S (rept S.s S.s.last (w2 a) j)) (aT (aB S (rept S.s S.s.last (w2 a) j)).s S.s.last 2)) D4 G4) (bt _) hy
  ·have es:=pn P d S.s.last 1 (.inl rfl) g3 J
   have e2:aB (aB S (rept S.s S.s.last (w2 a) j)) (aT (aB S (rept S.s S.s.last (w2 a) j)).s S.s.last 1)=aB S (rept S.s S.s.last (w2 a) (j+1)):=by
    show _=aB S (aT _ _ (w2 a))
    rw[show w2 a=1 from if_neg c2]
   refine' am 0 c2 ?_
   refine' aU 0 es fun D4 G4 g4=> ?_
   have hy:HY (aB S (rept S.s S.s.last (w2 a) (j+1))) ((G.length,.list (S.s.last.map .int))::F) (hp (aB (aB S (rept S.s S.s.last (w2 a) j)) (aT (aB S (rept S.s S.s.last (w2 a) j)).s S.s.last 1)) D4 G4):=⟨D4,G4,by rw[e2],by rw[←e2];exact g4.drop⟩
   refine' gX 0 ρ [("turn",.int (0+j)),("width",.int (gV a))] (hp (aB (aB S (rept S.s S.s.last (w2 a) j)) (aT (aB S (rept S.s S.s.last (w2 a) j)).s S.s.last 1)) D4 G4) (bt _) hy
 ·refine' ax 0 .none (hp (aB S (rept S.s S.s.last (w2 a) many.toNat)) D2 G2) (Sx.mk g2.drop rfl)
theorem yB(d:Nat)(many:Int)(hG:aE G D S F)(I:Good R C N S.s)(hl:S.s.last=[])(hm:0<many∧many≤10):Ca (CO P (d+13)) 1051 [.loc 0,.int many] (hp S D G) (Sx .none S F):=by
 have id:=I.inv.dim
 have zl:(hp S D G)[D.pLast+28]?=some (.list (S.s.last.map .int)):=(cU D.pLast).trans (u6 hG)
 have g1:=hG.new (.list (S.s.last.map .int))
 have hRC:S.s.R*S.s.C≤1000∧15≤S.s.R*S.s.C:=by
  have h1:S.s.R*S.s.C≤4*8:=Int.mul_le_mul id.1.2 id.2.2 (by apply af [_] [] 131120 33 133680 id.2.1) (by decide)
  have h2:3*5≤S.s.R*S.s.C:=Int.mul_le_mul id.1.1 id.2.1 (by decide) (by apply af [_] [] 131120 33 132656 id.1.1)
  apply⟨(af [_] [] 0x1f408880 33 0x8190c80 h1),(af [_] [] 138800 33 0x828c660 h2)⟩
 have hmin:min many (S.s.R*S.s.C)=many:=Int.min_eq_left (by apply aq [_,_] [] 4736 1057 165504 155184 hm.2 hRC.2)
 have hla:S.s.last.map MV.int=[]:=by rw[hl];rfl
 have h00:HY S ((G.length,.list (S.s.last.map .int))::F) (hp S D (G++[.list (S.s.last.map .int)])):=HY.mk g1
 refine' use ?_
 refine' aY 1 (jH zl) ?_
 refine' aY 2 (ra (hp S D (G++[MObj.list (List.map MV.int S.s.last)])) (S.s.R) (S.s.C) (by apply⟨⟨(af [_] [] 0x4746a52880020820 33 132656 id.1.1),(af [_] [] 0x746a52880020880 33 67200 id.1.2)⟩,⟨(af [_] [] 0x4746a52880020820 33 133680 id.2.1),(af [_] [] 0x746a52880020880 33 132736 id.2.2)⟩⟩)) ?_
 refine' aY 0 (ey (hp S D (G++[MObj.list (List.map MV.int S.s.last)])) many (S.s.R*S.s.C) (by apply aq [_,_] [] 4736 1057 165504 155184 hm.2 hRC.2)) ?_
 refine' cZ 0 (dE (hp S D (G++[MObj.list (List.map MV.int S.s.last)])) many (by apply⟨(af [_] [] 0x4746a52880020820 33 131121 hm.1),(af [_] [] 0x746a52880020880 33 165504 hm.2)⟩)) ?_
 refine' f5 0 ["turn","width"] 0 many.toNat (hp S D (G++[MObj.list (List.map MV.int S.s.last)])) (fun j H=>HY S ((G.length,.list (S.s.last.map .int))::F) H) h00 (fun j ρ Z hj hz=>Wt.hy hz fun D2 G2 g2=> ?_) (fun ρ Z hz=>Wt.hy hz fun D2 G2 g2=> ?_)
 ·have g3:=g2.new (.list [])
  have z1:=dg g3 (p:=G.length) (o:= .list (S.s.last.map .int)) (.tail _ (.head _))
  have hne:(!(S.s.last.map MV.int).isEmpty)=false:=by rw[hla];rfl
  refine' mx 0 (uS z1 (bw g3)) ?_
  refine' aD 0 hne ?_
  refine' gX 0 ρ [("turn",.int (0+j))] (hp S D2 (G2++[.list []])) (bt _) (HY.mk g3.drop)
 ·refine' ax 0 .none (hp S D2 G2) (Sx.mk g2.drop rfl)
end
noncomputable abbrev bC(v:Vt)(sg:Int)(dk:List Int)(pl:Int):Sn:=⟨v,v,sg,dk,pl⟩
noncomputable def HC(R C:Int)(N:Nat)(dk:List Int)(pm:Int)(F:As)(H:Hp):Prop:= ∃v sg pl D G,H=hp (bC v sg dk pl) D G∧aE G D (bC v sg dk pl) F∧Good R C N v∧0≤pl∧pl≤pm
noncomputable def oD(u:MV)(R C:Int)(N:Nat)(dk:List Int)(pm:Int)(F:As):QE:=fun x H'=>x=u∧HC R C N dk pm F H'
section
variable{O:dJ}{t:Tr}{Q:QS}{R C:Int}{N:Nat}{dk:List Int}{pm:Int}{F:As}
theorem HC.mk{v:Vt}{sg pl:Int}{D:Dn}{G:Hp}(g:aE G D (bC v sg dk pl) F)(I:Good R C N v)(h:0≤pl∧pl≤pm):HC R C N dk pm F (hp (bC v sg dk pl) D G):=⟨v,sg,pl,D,G,rfl,g,I,h⟩
theorem Wt.hc{Z:Hp}{T:Hp→Tr}(h:HC R C N dk pm F Z)(k: ∀v sg pl D G,aE G D (bC v sg dk pl) F→Good R C N v→0≤pl∧pl≤pm→Wt O (T (hp (bC v sg dk pl) D G)) Q):Wt O (T Z) Q:=by
 obtain⟨v,sg,pl,D,G,rfl,g,I,h⟩:=h
 exact k v sg pl D G g I h
theorem js(n:Nat){a:Addr}{vs:List MV}{H:Hp}{u:MV}(e:Ca O a vs H (oD u R C N dk pm F))(r: ∀Z,HC R C N dk pm F Z→Wt O (cc (aL n t) u Z) Q)(hr:hc (aL n t)=some (a,vs,H):=by kernel_rfl):Wt O t Q:=
 gv n e (fun v H' h=>by
  obtain⟨rfl,h⟩:=h
  exact r H' h) hr
theorem sQ(x:Int):gV (19968+x.fmod 26)=2∧CK 1 [19968+x.fmod 26]:=by
 have h1:=Int.fmod_nonneg_of_pos x (show(0:Int)<26 by decide)
 have h2:=Int.fmod_lt_of_pos x (show(0:Int)<26 by decide)
 refine⟨?_,.inr ⟨_,[],rfl,.inr ⟨by omega,by omega⟩⟩,Nat.le_refl _⟩
 unfold gV
 rw[if_neg (mt And.right (by omega)),if_pos (by apply⟨(af [_] [] 0x44e0019013800640 33 131120 h1),(af [_] [] 0x9dfe32227000c800 33 427649 h2)⟩)]
theorem sR(x:Int):gV (97+x.fmod 26)=1∧CK 1 [97+x.fmod 26]:=by
 have h1:=Int.fmod_nonneg_of_pos x (show(0:Int)<26 by decide)
 have h2:=Int.fmod_lt_of_pos x (show(0:Int)<26 by decide)
 refine⟨?_,.inr ⟨_,[],rfl,.inl ⟨by omega,by omega⟩⟩,Nat.le_refl _⟩
 unfold gV
 rw[if_neg (mt And.left (by omega)),if_neg (mt And.left (by omega))]
theorem CK.ups{M:Nat}{l:List Int}(h:CK M l)(k:M≤N):CK N l:=⟨h.1,Nat.le_trans h.2 k⟩
end
section
variable(P:Cw){d:Nat}{v:Vt}{sg pl pm R C:Int}{N:Nat}{dk:List Int}{D:Dn}{G:Hp}{F:As}
theorem lX(d:Nat)(many:Int)(hm:0≤many∧many≤100)(hN:1≤N)(h0:0≤pl∧pl≤pm)(hG:aE G D (bC v sg dk pl) F)(I:Good R C N v):Ca (CO P (d+14)) 1383 [.loc 0,.loc 15,.int many,.bool true] (hp (bC v sg dk pl) D G) (oD .none R C N dk pm F):=by
 have hd: ∀Z,HC R C N dk pm F Z→oD .none R C N dk pm F .none Z:=fun Z h=>⟨rfl,h⟩
 refine' use ?_
 refine' cZ 0 (dE (hp (bC v sg dk pl) D G) many (by apply⟨(af [_] [] 0x4746a52880020820 33 131120 hm.1),(af [_] [] 0x746a52880020880 33 0x3208880 hm.2)⟩)) ?_
 refine' f5 0 ["turn","code"] 0 many.toNat (hp (bC v sg dk pl) D G) (fun _ H=>HC R C N dk pm F H) (HC.mk hG I h0) (fun j ρ Z hj hz=>Wt.hc hz fun v sg pl D G g1 I h0=> ?_) (fun ρ Z hz=> ?_)
 ·have hc:=sQ (sg+1)
  have e1:=vI P d (19968+(sg+1).fmod 26) (S:=bC v (sg+1) dk pl) g1 I.inv (by rw[hc.1];decide)
  rw[hc.1] at e1
  refine' aU 6 e1 fun D2 G2 g2=> ?_
  refine' a7 1 (gu P (d+6) [19968+(sg+1).fmod 26] 2 (by decide) g2 I.inv) fun G3 g3=> ?_
  refine' gX 1 ρ [("turn",.int (0+j)),("code",.int (19968+(sg+1).fmod 26))] (hp (bC (aT v [19968+(sg+1).fmod 26] 2) (sg+1) dk pl) D2 G3) (bt _) (HC.mk g3 (I.sign (hc.2.ups hN) (by decide)) h0)
 ·refine' ax 0 .none Z (hd Z hz)
theorem lY(d:Nat)(many:Int)(hm:0≤many∧many≤100)(hN:1≤N)(h0:0≤pl∧pl≤pm)(hG:aE G D (bC v sg dk pl) F)(I:Good R C N v):Ca (CO P (d+14)) 1383 [.loc 0,.loc 15,.int many,.bool false] (hp (bC v sg dk pl) D G) (oD .none R C N dk pm F):=by
 have hd: ∀Z,HC R C N dk pm F Z→oD .none R C N dk pm F .none Z:=fun Z h=>⟨rfl,h⟩
 refine' use ?_
 refine' cZ 0 (dE (hp (bC v sg dk pl) D G) many (by apply⟨(af [_] [] 0x4746a52880020820 33 131120 hm.1),(af [_] [] 0x746a52880020880 33 0x3208880 hm.2)⟩)) ?_
 refine' f5 0 ["turn","code"] 0 many.toNat (hp (bC v sg dk pl) D G) (fun _ H=>HC R C N dk pm F H) (HC.mk hG I h0) (fun j ρ Z hj hz=>Wt.hc hz fun v sg pl D G g1 I h0=> ?_) (fun ρ Z hz=> ?_)
 ·have hc:=sR (sg+1)
  have e1:=vI P d (97+(sg+1).fmod 26) (S:=bC v (sg+1) dk pl) g1 I.inv (by rw[hc.1];decide)
  rw[hc.1] at e1
  refine' aU 6 e1 fun D2 G2 g2=> ?_
  refine' a7 1 (gu P (d+6) [97+(sg+1).fmod 26] 1 (by decide) g2 I.inv) fun G3 g3=> ?_
  refine' gX 1 ρ [("turn",.int (0+j)),("code",.int (97+(sg+1).fmod 26))] (hp (bC (aT v [97+(sg+1).fmod 26] 1) (sg+1) dk pl) D2 G3) (bt _) (HC.mk g3 (I.sign (hc.2.ups hN) (by decide)) h0)
 ·refine' ax 0 .none Z (hd Z hz)
theorem Wt.hx{O:dJ}{Q:QS}{S':Sn}{Z:Hp}{T:Hp→Tr}(h:HX S' D F Z)(k: ∀G,aE G D S' F→Wt O (T (hp S' D G)) Q):Wt O (T Z) Q:=by
 obtain⟨G,rfl,g⟩:=h
 exact k G g
theorem yC(H:Hp){l:List Int}{a:Int}{r:List Int}(h:l=a::r):eC H (.tup (l.map .int)) (.int 0)=some (.int a):=by
 subst h
 unfold eC
 dsimp only
 rw[if_pos (by unfold Bk;simp)];rfl
theorem sS(d:Nat)(a:Int)(r:List Int)(hp0:0≤pl∧pl≤1000)(h0:pl+1≤pm)(hG:aE G D (bC v sg dk pl) F)(I:Good R C N v)(hl:v.last=a::r):Ca (CO P (d+14)) 1390 [.loc 16,.loc 0,.loc 15] (hp (bC v sg dk pl) D G) (oD .none R C N dk pm F):=by
 have ht:=mX (b:=4) (bC v sg dk pl) (by decide)
 obtain⟨tk,htk⟩: ∃x,x=iI (bC v sg dk pl) 4:=⟨_,rfl⟩
 have e0:=pp P (d+12) 4 hG (by decide) hp0
 rw[←htk] at e0 ht
 have hd: ∀Z,HC R C N dk pm F Z→oD .none R C N dk pm F .none Z:=fun Z h=>⟨rfl,h⟩
 have hN:((a::r).map MV.int)= .int a::r.map .int:=rfl
 refine' use ?_
 refine' a7 0 e0 fun G1 g1=> ?_
 refine' aU 1 (yA P d (1+tk) a r g1 I hl (by apply⟨(af [_] [] 0x101180031 33 131120 ht.1),(af [_] [] 0x143404600 33 67201 ht.2)⟩)) fun D2 G2 g2=> ?_
 refine' cZ 0 (dE (hp (aB (eW (bC v sg dk pl)) (rept v v.last (w2 a) (1+tk).toNat)) D2 G2) (1+tk) (by apply⟨(af [_] [] 0x20230746a52880020820 33 131120 ht.1),(af [_] [] 0x3a35294400104404600 33 67201 ht.2)⟩)) ?_
 refine' f5 0 ["turn"] 0 (1+tk).toNat (hp (aB (eW (bC v sg dk pl)) (rept v v.last (w2 a) (1+tk).toNat)) D2 G2) (fun j H=>HX ⟨rept v v.last (w2 a) (1+tk).toNat,rept v v.last (w2 a) j,sg,dk,pl+1⟩ D2 F H) (HX.mk g2 rfl) (fun j ρ Z hj hz=>Wt.hx hz fun G3 g3=> ?_) (fun ρ Z hz=>Wt.hx hz fun G3 g3=> ?_)
 ·have hj1:=lW v v.last (w2 a) rfl j
  have hne:(!(List.map MV.int (rept v v.last (w2 a) j).last).isEmpty)=true:=by rw[hj1,hl];rfl
  have z0:eC (hp ⟨rept v v.last (w2 a) (1+tk).toNat,rept v v.last (w2 a) j,sg,dk,pl+1⟩ D2 G3) (.tup ((rept v v.last (w2 a) j).last.map .int)) (.int 0)=some (.int a):=yC _ (hj1.trans hl)
  have J:=(I.rept I.last (v9 a) j).inv
  have hok:(97≤a∧a≤122)∨(19968≤a∧a≤19993):=by
   rcases I.last.1 with q|⟨b,s,q,h⟩
   ·rw[hl] at q;cases q
   ·rw[hl] at q;cases q;exact h
  refine' aD 1 hne ?_
  refine' aK 2 z0 ?_
  refine' bc (19968≤a) (fun c1=> ?_) (fun c1=> ?_)
  ·have hw:w2 a=2:=if_pos (show gV a=2 from by unfold gV;rw[if_neg (mt And.right (by omega)),if_pos ⟨c1,hok.elim (fun q=>by omega) (fun q=>by omega)⟩])
   have e1:=gu P (d+6) (rept v v.last (w2 a) j).last 2 (by decide) g3 J
   have e2:aJ (⟨rept v v.last (w2 a) (1+tk).toNat,rept v v.last (w2 a) j,sg,dk,pl+1⟩:Sn) (aT (rept v v.last (w2 a) j) (rept v v.last (w2 a) j).last 2)=⟨rept v v.last (w2 a) (1+tk).toNat,rept v v.last (w2 a) (j+1),sg,dk,pl+1⟩:=by
    rw[hj1]
    show Sn.mk _ (aT _ _ 2) _ _ _=Sn.mk _ (aT _ _ (w2 a)) _ _ _
    rw[hw]
   refine' ak 0 c1 ?_
   refine' a7 1 e1 fun G4 g4=> ?_
   refine' gX 0 ρ [("turn",.int (0+j))] (hp (aJ (⟨rept v v.last (w2 a) (1+tk).toNat,rept v v.last (w2 a) j,sg,dk,pl+1⟩:Sn) (aT (rept v v.last (w2 a) j) (rept v v.last (w2 a) j).last 2)) D2 G4) (bt _) (HX.mk g4 e2)
  ·have hw:w2 a=1:=if_neg (show ¬gV a=2 from by have ha:a≤122:=hok.elim And.right (fun q=>absurd q.1 c1);unfold gV;rw[if_neg (mt And.left (by omega)),if_neg (mt And.left c1)];decide)
   have e1:=gu P (d+6) (rept v v.last (w2 a) j).last 1 (by decide) g3 J
   have e2:aJ (⟨rept v v.last (w2 a) (1+tk).toNat,rept v v.last (w2 a) j,sg,dk,pl+1⟩:Sn) (aT (rept v v.last (w2 a) j) (rept v v.last (w2 a) j).last 1)=⟨rept v v.last (w2 a) (1+tk).toNat,rept v v.last (w2 a) (j+1),sg,dk,pl+1⟩:=by
    rw[hj1]
    show Sn.mk _ (aT _ _ 1) _ _ _=Sn.mk _ (aT _ _ (w2 a)) _ _ _
    rw[hw]
   refine' am 0 c1 ?_
   refine' a7 1 e1 fun G4 g4=> ?_
   refine' gX 0 ρ [("turn",.int (0+j))] (hp (aJ (⟨rept v v.last (w2 a) (1+tk).toNat,rept v v.last (w2 a) j,sg,dk,pl+1⟩:Sn) (aT (rept v v.last (w2 a) j) (rept v v.last (w2 a) j).last 1)) D2 G4) (bt _) (HX.mk g4 e2)
 ·refine' ax 0 .none (hp (bC (rept v v.last (w2 a) (1+tk).toNat) sg dk (pl+1)) D2 G3) (hd _ (HC.mk g3 (I.rept I.last (v9 a) _) ⟨by apply af [_] [] 0x23400030 33 131120 hp0.1,h0⟩))
theorem sT(d:Nat)(hp0:0≤pl∧pl≤1000)(h0:pl+1≤pm)(hG:aE G D (bC v sg dk pl) F)(I:Good R C N v)(hl:v.last=[]):Ca (CO P (d+14)) 1390 [.loc 16,.loc 0,.loc 15] (hp (bC v sg dk pl) D G) (oD .none R C N dk pm F):=by
 have ht:=mX (b:=4) (bC v sg dk pl) (by decide)
 obtain⟨tk,htk⟩: ∃x,x=iI (bC v sg dk pl) 4:=⟨_,rfl⟩
 have e0:=pp P (d+12) 4 hG (by decide) hp0
 rw[←htk] at e0 ht
 have hd: ∀Z,HC R C N dk pm F Z→oD .none R C N dk pm F .none Z:=fun Z h=>⟨rfl,h⟩
 have hne:(!(List.map MV.int v.last).isEmpty)=false:=by rw[hl];rfl
 refine' use ?_
 refine' a7 0 e0 fun G1 g1=> ?_
 refine' aU 1 (yB P d (1+tk) g1 I hl (by apply⟨(af [_] [] 0x101180031 33 131120 ht.1),(af [_] [] 0x143404600 33 67201 ht.2)⟩)) fun D2 G2 g2=> ?_
 refine' cZ 0 (dE (hp (eW (bC v sg dk pl)) D2 G2) (1+tk) (by apply⟨(af [_] [] 0x20230746a52880020820 33 131120 ht.1),(af [_] [] 0x3a35294400104404600 33 67201 ht.2)⟩)) ?_
 refine' f5 0 ["turn"] 0 (1+tk).toNat (hp (eW (bC v sg dk pl)) D2 G2) (fun j H=>HX (eW (bC v sg dk pl)) D2 F H) (HX.mk g2 rfl) (fun j ρ Z hj hz=>Wt.hx hz fun G3 g3=> ?_) (fun ρ Z hz=>Wt.hx hz fun G3 g3=> ?_)
 ·refine' aD 1 hne ?_
  refine' gX 0 ρ [("turn",.int (0+j))] (hp (eW (bC v sg dk pl)) D2 G3) (bt _) (HX.mk g3 rfl)
 ·refine' ax 0 .none (hp (bC v sg dk (pl+1)) D2 G3) (hd _ (HC.mk g3 I ⟨by apply af [_] [] 0x23400030 33 131120 hp0.1,h0⟩))
theorem yD(d:Nat)(hp0:0≤pl∧pl≤1000)(h0:pl+1≤pm)(hG:aE G D (bC v sg dk pl) F)(I:Good R C N v):Ca (CO P (d+14)) 1390 [.loc 16,.loc 0,.loc 15] (hp (bC v sg dk pl) D G) (oD .none R C N dk pm F):=by
 rcases I.last.1 with q|⟨a,r,q,h⟩
 ·exact sT P d hp0 h0 hG I q
 ·exact sS P d a r hp0 h0 hG I q
theorem gA(d:Nat)(b:Int)(hG:aE G D (bC v sg dk pl) F)(hb:0<b)(h:0≤pl∧pl≤1000): ∃k,(0≤k∧k<b)∧Ca (CO P (d+1)) 1287 [.loc 16,.int b] (hp (bC v sg dk pl) D G) (b7 (.int k) (bC v sg dk (pl+1)) D F):=
 ⟨_,mX _ hb,pp P d b hG hb h⟩
theorem dP{O:dJ}{t:Tr}{Q:QS}{a:Addr}{vs:List MV}{H:Hp}{S':Sn}{b:Int}(n:Nat)(e: ∃k,(0≤k∧k<b)∧Ca O a vs H (b7 (.int k) S' D F))(r: ∀k G',0≤k∧k<b→aE G' D S' F→Wt O (cc (aL n t) (.int k) (hp S' D G')) Q)(hr:hc (aL n t)=some (a,vs,H):=by kernel_rfl):Wt O t Q:=by
 obtain⟨k,hk,e⟩:=e
 exact a7 n e (fun G' g=>r k G' hk g) hr
theorem sU(d:Nat)(hp0:0≤pl∧pl≤900)(h0:pl+3≤pm)(hG:aE G D (bC v sg dk pl) F)(I:Good R C N v):Ca (CO P (d+8)) 1376 [.loc 16,.loc 0,.loc 15] (hp (bC v sg dk pl) D G) (oD (.bool true) R C N dk pm F):=by
 have ig:=I.inv.gi
 have id:=I.inv.dim
 have hl:((D.lrows.map fun n=>MV.loc (n+28)).length:Int)=v.R:=by rw[lM,hG.l2];exact ig.len
 refine' use ?_
 refine' dP 0 (gA P (d+6) 2 hG (by decide) (by apply⟨hp0.1,(af [_] [] 0x1f408880 33 0x1c208880 hp0.2)⟩)) fun a G1 ha g1=> ?_
 refine' bc (a=1) (fun c1=> ?_) (fun c1=> ?_)
 ·refine' ak 0 c1 ?_
  refine' dP 1 (gA P (d+6) v.C g1 (by apply af [_] [] 131121 33 133680 id.2.1) (by apply⟨(af [_] [] 0x23400030 33 131120 hp0.1),(af [_] [] 0xfa04408d000 33 0x1c208880 hp0.2)⟩)) fun lo G2 hlo g2=> ?_
  refine' dP 0 (gA P (d+6) v.C g2 (by apply af [_] [] 131121 33 133680 id.2.1) (by apply⟨(af [_] [] 0x118468000030 33 131120 hp0.1),(af [_] [] 0x7d02204611a0000 33 0x1c208880 hp0.2)⟩)) fun hi G3 hhi g3=> ?_
  refine' ak 0 c1 ?_
  refine' bc (lo<hi) (fun c2=> ?_) (fun c2=> ?_)
  ·refine' aU 1 (vA P (d+1) lo hi (S:=bC v sg dk (pl+1+1+1)) g3 ig (by dsimp only;apply⟨hlo.1,⟨c2,hhi.2⟩⟩) (by dsimp only;apply af [_] [] 131121 33 132656 id.1.1)) fun D4 G4 g4=> ?_
   refine' ak 0 c2 ?_
   refine' ak 3 c1 ?_
   have J:Good R C N ({v with left:=lo,right:=hi,row:=0,col:=0,waits:=false}:Vt):=⟨⟨id,⟨I.inv.mar.1,by dsimp only;apply⟨hlo.1,⟨c2,hhi.2⟩⟩⟩,⟨by dsimp only;apply⟨(aV [] [] 49200 1),(af [_] [] 131121 33 132656 id.1.1)⟩,by dsimp only;apply⟨(aV [] [] 49200 1),(af [_] [] 131121 33 133680 id.2.1)⟩⟩,ig⟩,I.dR,I.dC,I.cells,I.last⟩
   have hb:MV.bool (decide (true=decide (lo<hi)))= .bool true:=by rw[decide_eq_true c2];rfl
   exact ax 3 (MV.bool (decide (true=decide (lo<hi)))) (hp (bC ({v with left:=lo,right:=hi,row:=0,col:=0,waits:=false}:Vt) sg dk (pl+1+1+1)) D4 G4) ⟨hb,HC.mk g4 J ⟨by apply af [_] [] 0x8c2308d00000030 33 131120 hp0.1,by apply af [_,_] [] 0x242308c23400000 33 0x918d000 h0⟩⟩
  ·refine' aj 1 (vC P (d+1) (bC v sg dk (pl+1+1+1)) D G3 lo hi (by apply⟨hlo.1,(af [_,_] [] 4736 33 4243 c2)⟩) (by dsimp only;apply af [_] [] 132144 33 133680 id.2.1)) ?_
   refine' am 0 c2 ?_
   have hb:MV.bool (decide (false=decide (lo<hi)))= .bool true:=by rw[decide_eq_false c2];rfl
   exact ax 1 (MV.bool (decide (false=decide (lo<hi)))) (hp (bC v sg dk (pl+1+1+1)) D G3) ⟨hb,HC.mk g3 I ⟨by apply af [_] [] 0x8c2308d00000030 33 131120 hp0.1,by apply af [_,_] [] 0x242308c23400000 33 0x918d000 h0⟩⟩
 ·refine' am 0 c1 ?_
  refine' dP 2 (gA P (d+6) ((D.lrows.map fun n=>MV.loc (n+28)).length:Int) g1 (by apply aq [_] [_] 0x814031 15393 132656 139346 id.1.1 hl) (by apply⟨(af [_] [] 0x23400030 33 131120 hp0.1),(af [_] [] 0xfa04408d000 33 0x1c208880 hp0.2)⟩)) fun lo G2 hlo g2=> ?_
  refine' dP 0 (gA P (d+6) ((D.lrows.map fun n=>MV.loc (n+28)).length:Int) g2 (by apply aq [_] [_] 0x814031 15393 132656 139346 id.1.1 hl) (by apply⟨(af [_] [] 0x118468000030 33 131120 hp0.1),(af [_] [] 0x7d02204611a0000 33 0x1c208880 hp0.2)⟩)) fun hi G3 hhi g3=> ?_
  refine' am 0 c1 ?_
  refine' bc (lo<hi) (fun c2=> ?_) (fun c2=> ?_)
  ·refine' aU 1 (vz P (d+1) lo hi (S:=bC v sg dk (pl+1+1+1)) g3 ig (by dsimp only;apply⟨hlo.1,⟨c2,(aq [_,_] [_] 4737 1569 155730 264833 hl hhi.2)⟩⟩) (by dsimp only;apply af [_] [] 131121 33 133680 id.2.1)) fun D4 G4 g4=> ?_
   refine' ak 0 c2 ?_
   refine' am 3 c1 ?_
   have J:Good R C N ({v with top:=lo,bottom:=hi,row:=0,col:=0,waits:=false}:Vt):=⟨⟨id,⟨by dsimp only;apply⟨hlo.1,⟨c2,(aq [_,_] [_] 4737 1569 155730 264833 hl hhi.2)⟩⟩,I.inv.mar.2⟩,⟨by dsimp only;apply⟨(aV [] [] 49200 1),(af [_] [] 131121 33 132656 id.1.1)⟩,by dsimp only;apply⟨(aV [] [] 49200 1),(af [_] [] 131121 33 133680 id.2.1)⟩⟩,ig⟩,I.dR,I.dC,I.cells,I.last⟩
   have hb:MV.bool (decide (true=decide (lo<hi)))= .bool true:=by rw[decide_eq_true c2];rfl
   exact ax 3 (MV.bool (decide (true=decide (lo<hi)))) (hp (bC ({v with top:=lo,bottom:=hi,row:=0,col:=0,waits:=false}:Vt) sg dk (pl+1+1+1)) D4 G4) ⟨hb,HC.mk g4 J ⟨by apply af [_] [] 0x8c2308d00000030 33 131120 hp0.1,by apply af [_,_] [] 0x242308c23400000 33 0x918d000 h0⟩⟩
  ·refine' aj 1 (vB P (d+1) (bC v sg dk (pl+1+1+1)) D G3 lo hi (by apply⟨hlo.1,(af [_,_] [] 4736 33 4243 c2)⟩) (by dsimp only;apply af [_] [] 132144 33 132656 id.1.1)) ?_
   refine' am 0 c2 ?_
   have hb:MV.bool (decide (false=decide (lo<hi)))= .bool true:=by rw[decide_eq_false c2];rfl
   exact ax 1 (MV.bool (decide (false=decide (lo<hi)))) (hp (bC v sg dk (pl+1+1+1)) D G3) ⟨hb,HC.mk g3 I ⟨by apply af [_] [] 0x8c2308d00000030 33 131120 hp0.1,by apply af [_,_] [] 0x242308c23400000 33 0x918d000 h0⟩⟩
end
section
variable{O:dJ}{t:Tr}{Q:QS}{k:Int}{H:Hp}
theorem CR(h:0≤k∧k<2)(h0:Wt O (cc t (.int 0) H) Q)(h1:Wt O (cc t (.int 1) H) Q):Wt O (cc t (.int k) H) Q:=by
 obtain⟨m,rfl⟩:=Int.eq_ofNat_of_zero_le h.1
 have q:=Int.ofNat_lt.mp h.2
 rcases m with _|_|m
 ·exact h0
 ·exact h1
 ·exact absurd q (Nat.not_lt.mpr (Nat.le_add_left 2 m))
theorem EI(h:0≤k∧k<3)(h0:Wt O (cc t (.int 0) H) Q)(h1:Wt O (cc t (.int 1) H) Q)(h2:Wt O (cc t (.int 2) H) Q):Wt O (cc t (.int k) H) Q:=by
 obtain⟨m,rfl⟩:=Int.eq_ofNat_of_zero_le h.1
 have q:=Int.ofNat_lt.mp h.2
 rcases m with _|_|_|m
 ·exact h0
 ·exact h1
 ·exact h2
 ·exact absurd q (Nat.not_lt.mpr (Nat.le_add_left 3 m))
theorem EJ(h:0≤k∧k<4)(h0:Wt O (cc t (.int 0) H) Q)(h1:Wt O (cc t (.int 1) H) Q)(h2:Wt O (cc t (.int 2) H) Q)(h3:Wt O (cc t (.int 3) H) Q):Wt O (cc t (.int k) H) Q:=by
 obtain⟨m,rfl⟩:=Int.eq_ofNat_of_zero_le h.1
 have q:=Int.ofNat_lt.mp h.2
 rcases m with _|_|_|_|m
 ·exact h0
 ·exact h1
 ·exact h2
 ·exact h3
 ·exact absurd q (Nat.not_lt.mpr (Nat.le_add_left 4 m))
end
section
variable(P:Cw){d:Nat}{v:Vt}{sg pl pm R C:Int}{N:Nat}{dk:List Int}{D:Dn}{G:Hp}{F:As}
theorem wa(d:Nat)(hp0:0≤pl∧pl≤900)(h0:pl+1≤pm)(hG:aE G D (bC v sg dk pl) F)(I:Good R C N v):Ca (CO P (d+3)) 1397 [.loc 16,.loc 0,.loc 15] (hp (bC v sg dk pl) D G) (oD .none R C N dk pm F):=by
 refine' use ?_
 refine' dP 0 (gA P (d+1) 4 hG (by decide) (by apply⟨hp0.1,(af [_] [] 0x1f408880 33 0x1c208880 hp0.2)⟩)) fun a G1 ha g1=> ?_
 have hd: ∀Z,HC R C N dk pm F Z→oD .none R C N dk pm F .none Z:=fun Z h=>⟨rfl,h⟩
 refine' EJ ha ?_ ?_ ?_ ?_
 ·refine' aU 6 (vL P (S:=(⟨v,{v with aw:=!v.aw},sg,dk,pl+1⟩:Sn)) d (!v.aw) g1) fun D3 G4 g2=> ?_
  refine' ax 0 .none (hp (bC {v with aw:=!v.aw} sg dk (pl+1)) D3 G4) (hd _ (HC.mk ‹_› ⟨⟨I.inv.dim,I.inv.mar,I.inv.cur,I.inv.gi⟩,I.dR,I.dC,I.cells,I.last⟩ ⟨by apply af [_] [] 0x23400030 33 131120 hp0.1,h0⟩))
 ·refine' aU 6 (sM P (S:=(⟨v,{v with ins:=!v.ins},sg,dk,pl+1⟩:Sn)) d (!v.ins) g1) fun D6 G7 g5=> ?_
  refine' ax 0 .none (hp (bC {v with ins:=!v.ins} sg dk (pl+1)) D6 G7) (hd _ (HC.mk ‹_› ⟨⟨I.inv.dim,I.inv.mar,I.inv.cur,I.inv.gi⟩,I.dR,I.dC,I.cells,I.last⟩ ⟨by apply af [_] [] 0x23400030 33 131120 hp0.1,h0⟩))
 ·refine' aU 6 (po P (S:=(⟨v,{v with near:=!v.near},sg,dk,pl+1⟩:Sn)) d (!v.near) g1) fun D9 G10 g8=> ?_
  refine' ax 0 .none (hp (bC {v with near:=!v.near} sg dk (pl+1)) D9 G10) (hd _ (HC.mk ‹_› ⟨⟨I.inv.dim,I.inv.mar,I.inv.cur,I.inv.gi⟩,I.dR,I.dC,I.cells,I.last⟩ ⟨by apply af [_] [] 0x23400030 33 131120 hp0.1,h0⟩))
 ·refine' aU 6 (sN P (S:=(⟨v,{v with far:=!v.far},sg,dk,pl+1⟩:Sn)) d (!v.far) g1) fun D12 G13 g11=> ?_
  refine' ax 0 .none (hp (bC {v with far:=!v.far} sg dk (pl+1)) D12 G13) (hd _ (HC.mk ‹_› ⟨⟨I.inv.dim,I.inv.mar,I.inv.cur,I.inv.gi⟩,I.dR,I.dC,I.cells,I.last⟩ ⟨by apply af [_] [] 0x23400030 33 131120 hp0.1,h0⟩))
end
section
variable{O:dJ}{t:Tr}{Q:QS}{R C:Int}{N:Nat}{dk:List Int}{pm:Int}{F:As}
theorem HC.up{H:Hp}(h:HC R C N dk pm F H):HC R C (N+1) dk pm F H:=by
 obtain⟨v,sg,pl,D,G,e,g,I,h⟩:=h
 exact⟨v,sg,pl,D,G,e,g,I.up,h⟩
end
section
variable(P:Cw){d:Nat}{v:Vt}{sg pl pm R C:Int}{N:Nat}{dk:List Int}{D:Dn}{G:Hp}{F:As}
theorem oo:gV 769=0:=by unfold gV;rw[if_pos (by decide)]
theorem AT(d:Nat)(hG:aE G D (bC v sg dk pl) F)(I:Good R C N v)(hN:N<3000):Ca (CO P (d+14)) 995 [.loc 0,.int 769] (hp (bC v sg dk pl) D G) (Sx .none (aB (bC v sg dk pl) (iJ v)) F):=by
 by_cases h:cK v
 ·have a:=kX I.inv h
  rw[lR I.inv h]
  exact vJ P (d+6) 769 hG I.inv oo h a.1 (Nat.lt_of_le_of_lt (I.ck _).2 hN) a.2.1 a.2.2
 ·rw[ol h]
  exact vK P (d+6) 769 hG I.inv oo h
theorem AU(d:Nat)(hp0:0≤pl∧pl≤800)(h0:pl+4≤pm)(hN:1≤N∧N<3000)(hG:aE G D (bC v sg dk pl) F)(I:Good R C N v):Ca (CO P (d+15)) 1404 [.loc 16,.loc 0,.loc 15] (hp (bC v sg dk pl) D G) (oD (.bool true) R C (N+1) dk pm F):=by
 have hd: ∀Z,HC R C N dk pm F Z→oD (.bool true) R C (N+1) dk pm F (.bool true) Z:=fun Z h=>⟨rfl,h.up⟩
 have hm: ∀Z,HC R C (N+1) dk pm F Z→oD (.bool true) R C (N+1) dk pm F (.bool true) Z:=fun Z h=>⟨rfl,h⟩
 have hl:((D.lrows.map fun n=>MV.loc (n+28)).length:Int)=v.R:=by rw[lM,hG.l2];exact I.inv.gi.len
 have id:=I.inv.dim
 have ig:=I.inv.gi
 have hck: ∀k,(cellOf v k).codes.length<3000:=fun k=>Nat.lt_of_le_of_lt (I.ck k).2 hN.2
 refine' use ?_
 refine' dP 0 (gA P (d+13) 16 hG (by decide) (by apply⟨hp0.1,(af [_] [] 0x1f408880 33 0x19008880 hp0.2)⟩)) fun a G1 ha g1=> ?_
 refine' bc (a<4) (fun c1=> ?_) (fun c1=> ?_)
 ·refine' ak 0 c1 ?_
  refine' dP 0 (gA P (d+13) 5 g1 (by decide) (by apply⟨(af [_] [] 0x23400030 33 131120 hp0.1),(af [_] [] 0xfa04408d000 33 0x19008880 hp0.2)⟩)) fun b G2 hb g2=> ?_
  refine' js 0 (lY P (pl:=pl+1+1) (pm:=pm) d (1+b) (by apply⟨(af [_] [] 0x101180030 33 131120 hb.1),(af [_] [] 0x19044404600 33 83585 hb.2)⟩) hN.1 ⟨by apply af [_] [] 0x118468000030 33 131120 hp0.1,by apply af [_,_] [] 0x484611a0000 33 0x920d000 h0⟩ g2 I) fun Z hz=> ?_
  refine' ax 0 (.bool true) Z (hd Z hz)
 refine' am 0 c1 ?_
 refine' bc (a<7) (fun c2=> ?_) (fun c2=> ?_)
 ·refine' ak 0 c2 ?_
  refine' dP 0 (gA P (d+13) 3 g1 (by decide) (by apply⟨(af [_] [] 0x23400030 33 131120 hp0.1),(af [_] [] 0xfa04408d000 33 0x19008880 hp0.2)⟩)) fun b G2 hb g2=> ?_
  refine' js 0 (lX P (pl:=pl+1+1) (pm:=pm) d (1+b) (by apply⟨(af [_] [] 0x101180030 33 131120 hb.1),(af [_] [] 0x19044404600 33 50817 hb.2)⟩) hN.1 ⟨by apply af [_] [] 0x118468000030 33 131120 hp0.1,by apply af [_,_] [] 0x484611a0000 33 0x920d000 h0⟩ g2 I) fun Z hz=> ?_
  refine' ax 0 (.bool true) Z (hd Z hz)
 refine' am 0 c2 ?_
 refine' bc (a=7) (fun c3=> ?_) (fun c3=> ?_)
 ·refine' ak 0 c3 ?_
  refine' aU 1 (AT P d g1 I hN.2) fun D3 G3 g3=> ?_
  refine' a7 0 (vW P (d+11) g3 I.inv hck) fun G4 g4=> ?_
  refine' ax 0 (.bool true) (hp (bC (iJ v) sg dk (pl+1)) D3 G4) (hm _ (HC.mk g4 I.mark ⟨by apply af [_] [] 0x23400030 33 131120 hp0.1,by apply af [_,_] [] 0x908d000 33 0x920d000 h0⟩))
 refine' am 0 c3 ?_
 refine' bc (a=8) (fun c4=> ?_) (fun c4=> ?_)
 ·refine' ak 0 c4 ?_
  refine' js 0 (yD P (pl:=pl+1) (pm:=pm) d ⟨by apply af [_] [] 0x23400030 33 131120 hp0.1,by apply af [_] [] 0xfa04408d000 33 0x19008880 hp0.2⟩ (by apply af [_,_] [] 0x484611a0000 33 0x920d000 h0) g1 I) fun Z hz=> ?_
  refine' ax 0 (.bool true) Z (hd Z hz)
 refine' am 0 c4 ?_
 refine' bc (a=9) (fun c5=> ?_) (fun c5=> ?_)
 ·refine' ak 0 c5 ?_
  refine' dP 0 (gA P (d+13) 3 g1 (by decide) (by apply⟨(af [_] [] 0x23400030 33 131120 hp0.1),(af [_] [] 0xfa04408d000 33 0x19008880 hp0.2)⟩)) fun b G2 hb g2=> ?_
  refine' EI hb ?_ ?_ ?_
  ·refine' ax 5 (.bool true) (hp (bC {v with back:= -1} sg dk (pl+1+1)) D G2) (hd _ (HC.mk g2 ⟨⟨I.inv.dim,I.inv.mar,I.inv.cur,I.inv.gi⟩,I.dR,I.dC,I.cells,I.last⟩ ⟨by apply af [_] [] 0x118468000030 33 131120 hp0.1,by apply af [_,_] [] 0x484611a0000 33 0x920d000 h0⟩))
  ·refine' ax 5 (.bool true) (hp (bC {v with back:=4} sg dk (pl+1+1)) D G2) (hd _ (HC.mk g2 ⟨⟨I.inv.dim,I.inv.mar,I.inv.cur,I.inv.gi⟩,I.dR,I.dC,I.cells,I.last⟩ ⟨by apply af [_] [] 0x118468000030 33 131120 hp0.1,by apply af [_,_] [] 0x484611a0000 33 0x920d000 h0⟩))
  ·refine' ax 5 (.bool true) (hp (bC {v with back:=1} sg dk (pl+1+1)) D G2) (hd _ (HC.mk g2 ⟨⟨I.inv.dim,I.inv.mar,I.inv.cur,I.inv.gi⟩,I.dR,I.dC,I.cells,I.last⟩ ⟨by apply af [_] [] 0x118468000030 33 131120 hp0.1,by apply af [_,_] [] 0x484611a0000 33 0x920d000 h0⟩))
 refine' am 0 c5 ?_
 refine' bc (a=10) (fun c6=> ?_) (fun c6=> ?_)
 ·refine' ak 0 c6 ?_
  refine' js 0 (sU P (pl:=pl+1) (pm:=pm) (d+6) ⟨by apply af [_] [] 0x23400030 33 131120 hp0.1,by apply af [_] [] 0xe104408d000 33 0x19008880 hp0.2⟩ (by apply af [_,_] [] 0x48c611a0000 33 0x920d000 h0) g1 I) fun Z hz=> ?_
  refine' ax 0 (.bool true) Z (hd Z hz)
 refine' am 0 c6 ?_
 refine' bc (a=11) (fun c7=> ?_) (fun c7=> ?_)
 ·refine' ak 0 c7 ?_
  refine' dP 2 (gA P (d+13) ((D.lrows.map fun n=>MV.loc (n+28)).length:Int) g1 (by apply aq [_] [_] 0x814031 1505 139346 132656 hl id.1.1) (by apply⟨(af [_] [] 0x23400030 33 131120 hp0.1),(af [_] [] 0xfa04408d000 33 0x19008880 hp0.2)⟩)) fun r G2 hr g2=> ?_
  refine' dP 1 (gA P (d+13) v.C g2 (by apply af [_] [] 131121 33 133680 id.2.1) (by apply⟨(af [_] [] 0x118468000030 33 131120 hp0.1),(af [_] [] 0x7d02204611a0000 33 0x19008880 hp0.2)⟩)) fun c G3 hc g3=> ?_
  refine' aU 6 (qO P (d+10) r c (S:=⟨v,{v with row:=r,col:=c,waits:=false},sg,dk,pl+1+1+1⟩) g3 ig ⟨hr.1,by dsimp only;apply aq [_,_] [_] 4737 1569 155730 264833 hl hr.2⟩ hc) fun D4 G4 g4=> ?_
  have hcu:(0≤r∧r<v.R)∧0≤c∧c<v.C:=by apply⟨⟨hr.1,(aq [_,_] [_] 4737 1569 155730 264833 hl hr.2)⟩,⟨hc.1,hc.2⟩⟩
  refine' ax 0 (.bool true) (hp (bC {v with row:=r,col:=c,waits:=false} sg dk (pl+1+1+1)) D4 G4) (hd _ (HC.mk g4 (I.cur hcu) ⟨by apply af [_] [] 0x8c2308d00000030 33 131120 hp0.1,by apply af [_,_] [] 0x242308c23400000 33 0x920d000 h0⟩))
 refine' am 0 c7 ?_
 refine' bc (a=12) (fun c8=> ?_) (fun c8=> ?_)
 ·refine' ak 0 c8 ?_
  refine' dP 0 (gA P (d+13) 2 g1 (by decide) (by apply⟨(af [_] [] 0x23400030 33 131120 hp0.1),(af [_] [] 0xfa04408d000 33 0x19008880 hp0.2)⟩)) fun b G2 hb g2=> ?_
  refine' CR hb ?_ ?_
  ·refine' vo 2 (qN P (d+4) g2 I.inv) fun D3 G3 g3 k3=> ?_
   refine' a7 0 (ri P (d+10) g3 I.inv) fun G4 g4=> ?_
   refine' ax 0 (.bool true) (hp (bC (feedD v) sg dk (pl+1+1)) D3 G4) (hd _ (HC.mk g4 I.feedD ⟨by apply af [_] [] 0x118468000030 33 131120 hp0.1,by apply af [_,_] [] 0x484611a0000 33 0x920d000 h0⟩))
  ·refine' aU 2 (vp P (d+4) g2 I.inv) fun D3 G3 g3=> ?_
   refine' a7 0 (yr P (d+10) g3 I.inv) fun G4 g4=> ?_
   refine' ax 0 (.bool true) (hp (bC (feedU v) sg dk (pl+1+1)) D3 G4) (hd _ (HC.mk g4 I.feedU ⟨by apply af [_] [] 0x118468000030 33 131120 hp0.1,by apply af [_,_] [] 0x484611a0000 33 0x920d000 h0⟩))
 refine' am 0 c8 ?_
 refine' bc (a=13) (fun c9=> ?_) (fun c9=> ?_)
 ·refine' ak 0 c9 ?_
  refine' dP 0 (gA P (d+13) 6 g1 (by decide) (by apply⟨(af [_] [] 0x23400030 33 131120 hp0.1),(af [_] [] 0xfa04408d000 33 0x19008880 hp0.2)⟩)) fun b G2 hb g2=> ?_
  refine' cZ 0 (dE (hp (bC v sg dk (pl+1+1)) D G2) (1+b) (by apply⟨(af [_] [] 0x20230746a52880020820 33 131120 hb.1),(af [_] [] 0x3a35294400104404600 33 99969 hb.2)⟩)) ?_
  refine' f5 0 ["turn"] 0 (1+b).toNat (hp (bC v sg dk (pl+1+1)) D G2) (fun _ H=>HC R C N dk pm F H) (HC.mk g2 I ⟨by apply af [_] [] 0x118468000030 33 131120 hp0.1,by apply af [_,_] [] 0x484611a0000 33 0x920d000 h0⟩) (fun j ρ Z hj hz=>Wt.hc hz fun v sg pl D G g1 I h0=> ?_) (fun ρ Z hz=> ?_)
  ·refine' fz v.far (fun c10=> ?_) (fun c10=> ?_)
   ·refine' aD 1 c10 ?_
    refine' bc (v.row=0) (fun c11=> ?_) (fun c11=> ?_)
    ·refine' ak 1 c11 ?_
     refine' bc (0<v.top) (fun c12=> ?_) (fun c12=> ?_)
     ·refine' ak 1 c12 ?_
      refine' gX 0 ρ [("turn",.int (0+j))] (hp (bC v sg dk pl) D G) (bt _) (HC.mk g1 I h0)
     ·refine' am 1 c12 ?_
      refine' aU 1 (pe P (d+10) g1 I.inv (mt (fun q=>q.2.2) c12)) fun D3 G3 g3=> ?_
      refine' a7 0 (pA P (d+12) g3) fun G4 g4=> ?_
      refine' gX 0 ρ [("turn",.int (0+j))] (hp (bC (cv v) sg dk pl) D3 G4) (bt _) (HC.mk g4 I.back h0)
    ·refine' am 1 c11 ?_
     refine' aU 1 (pe P (d+10) g1 I.inv (mt (fun q=>q.2.1) c11)) fun D3 G3 g3=> ?_
     refine' a7 0 (pA P (d+12) g3) fun G4 g4=> ?_
     refine' gX 0 ρ [("turn",.int (0+j))] (hp (bC (cv v) sg dk pl) D3 G4) (bt _) (HC.mk g4 I.back h0)
   ·refine' aD 1 c10 ?_
    refine' aU 1 (pe P (d+10) g1 I.inv (mt And.left (by rw[c10];exact Bool.false_ne_true))) fun D3 G3 g3=> ?_
    refine' a7 0 (pA P (d+12) g3) fun G4 g4=> ?_
    refine' gX 0 ρ [("turn",.int (0+j))] (hp (bC (cv v) sg dk pl) D3 G4) (bt _) (HC.mk g4 I.back h0)
  ·refine' ax 0 (.bool true) Z (hd Z hz)
 refine' am 0 c9 ?_
 refine' bc (a=14) (fun c10=> ?_) (fun c10=> ?_)
 ·refine' ak 0 c10 ?_
  refine' dP 0 (gA P (d+13) 2 g1 (by decide) (by apply⟨(af [_] [] 0x23400030 33 131120 hp0.1),(af [_] [] 0xfa04408d000 33 0x19008880 hp0.2)⟩)) fun b G2 hb g2=> ?_
  refine' CR hb ?_ ?_
  ·refine' aU 0 (pB P d g2 I.inv I.inv) fun D3 G3 g3=> ?_
   refine' ax 0 (.bool true) (hp (bC (aS v false) sg dk (pl+1+1)) D3 G3) (hd _ (HC.mk g3 (I.side false) ⟨by apply af [_] [] 0x118468000030 33 131120 hp0.1,by apply af [_,_] [] 0x484611a0000 33 0x920d000 h0⟩))
  ·refine' aU 0 (sO P d g2 I.inv I.inv) fun D3 G3 g3=> ?_
   refine' ax 0 (.bool true) (hp (bC (aS v true) sg dk (pl+1+1)) D3 G3) (hd _ (HC.mk g3 (I.side true) ⟨by apply af [_] [] 0x118468000030 33 131120 hp0.1,by apply af [_,_] [] 0x484611a0000 33 0x920d000 h0⟩))
 refine' am 0 c10 ?_
 refine' js 0 (wa P (pl:=pl+1) (pm:=pm) (d+11) ⟨by apply af [_] [] 0x23400030 33 131120 hp0.1,by apply af [_] [] 0xe104408d000 33 0x19008880 hp0.2⟩ (by apply af [_,_] [] 0x484611a0000 33 0x920d000 h0) g1 I) fun Z hz=> ?_
 refine' ax 0 (.bool true) Z (hd Z hz)
end
noncomputable def oq(c:Cell):PyData:= .tuple [.tuple (c.codes.map .int),.int c.w,.tuple [.int 0,.int (-1),.int c.back,.int (-1),.int 0],.bool false]
theorem ou(H:Hp)(n:Nat): ∀l:List Int,gZ (jW H (n+1)) (l.map .int)=some (l.map .int)
 |[]=>rfl
 |a::r=>by
  show bd (some (PyData.int a)) (fun x=>bd (gZ (jW H (n+1)) (r.map .int)) fun l=>some (x::l))=_
  rw[ou H n r];rfl
theorem wb(H:Hp)(n:Nat)(c:Cell):jW H (n+3) c.mv=some (oq c):=by
 show bd (bd (bd (gZ (jW H (n+1)) (c.codes.map .int)) fun l=>some (PyData.tuple l)) fun x=>bd (gZ (jW H (n+2)) [.int c.w,cQ c.back,.bool false]) fun l=>some (x::l)) (fun l=>some (PyData.tuple l))=_
 rw[ou];rfl
theorem rn(H:Hp)(n:Nat): ∀cs:ar,gZ (jW H (n+3)) (cs.map Cell.mv)=some (cs.map oq)
 |[]=>rfl
 |c::r=>by
  show bd (jW H (n+3) c.mv) (fun x=>bd (gZ (jW H (n+3)) (r.map Cell.mv)) fun l=>some (x::l))=_
  rw[wb,rn H n r];rfl
theorem ow(H:Hp)(n:Nat): ∀ (ps:List Nat) (g:List ar),ps.length=g.length→(∀ (i:Nat) p cs,ps[i]?=some p→g[i]?=some cs→H[p+28]?=some (au cs))→gZ (jW H (n+4)) (ps.map fun p=> .loc (p+28))=some (g.map fun cs=> .list (cs.map oq))
 |[],[],_,_=>rfl
 |[],_::_,h,_=>by cases h
 |_::_,[],h,_=>by cases h
 |p::ps,cs::g,h,k=>by
  have e:jW H (n+4) (.loc (p+28))=some (.list (cs.map oq)):=by
   show bd (aH H (p+28)) (fun l=>bd (gZ (jW H (n+3)) l) fun l=>some (PyData.list l))=_
   rw[ao (k 0 p cs rfl rfl),aM,rn];rfl
  show bd (jW H (n+4) (.loc (p+28))) (fun x=>bd (gZ (jW H (n+4)) (ps.map fun p=> .loc (p+28))) fun l=>some (x::l))=_
  rw[e,ow H n ps g (Nat.succ.inj h) fun i p cs h1 h2=>k (i+1) p cs h1 h2];rfl
theorem ox{H:Hp}{a b:MV}{x:PyData}(h:jW H 8 a=some x)(h':jW H 8 b=some x):er H a b=some true:=by
 unfold er
 rw[h,h',aM,aM,if_pos rfl]
theorem we(H:Hp)(a b:Int)(c:Bool):eY H .Eq (.tup [.int a,.int b,.bool c]) (.tup [.int a,.int b,.bool c])=some true:=
 (show eY H .Eq (.tup [.int a,.int b,.bool c]) (.tup [.int a,.int b,.bool c])=er H (.tup [.int a,.int b,.bool c]) (.tup [.int a,.int b,.bool c]) from rfl).trans (ox (x:= .tuple [.int a,.int b,.bool c]) rfl rfl)
theorem sV{H:Hp}{n m:Nat}{ps qs:List Nat}{g:List ar}(h1:H[n]?=some (.list (ps.map fun p=> .loc (p+28))))(h2:H[m]?=some (.list (qs.map fun p=> .loc (p+28))))(l1:ps.length=g.length)(l2:qs.length=g.length)(h0:0<g.length)
  (k1: ∀ (i:Nat) p cs,ps[i]?=some p→g[i]?=some cs→H[p+28]?=some (au cs)) (k2: ∀ (i:Nat) p cs,qs[i]?=some p→g[i]?=some cs→H[p+28]?=some (au cs)):eY H .Eq (.loc n) (.loc m)=some true:=by
 rw[show eY H .Eq (.loc n) (.loc m)=bd (aH H n) fun l=>bd (aH H m) fun r=>if r.isEmpty=true then some l.isEmpty else er H (.loc n) (.loc m) from rfl,ao h1,aM,ao h2,aM]
 have e: ∀ (qs:List Nat),qs.length=g.length→ ¬((qs.map fun p=>MV.loc (p+28)).isEmpty=true):=fun qs l q=>by
  cases qs with
  |nil=>exact absurd l (Nat.ne_of_lt h0)
  |cons a r=>cases q
 rw[if_neg (e qs l2)]
 have d: ∀ (n:Nat) (ps:List Nat),H[n]?=some (.list (ps.map fun p=> .loc (p+28)))→ps.length=g.length→(∀ (i:Nat) p cs,ps[i]?=some p→g[i]?=some cs→H[p+28]?=some (au cs))→jW H 8 (.loc n)=some (.list (g.map fun cs=> .list (cs.map oq))):=fun n ps h l k=>by
  show bd (aH H n) (fun l=>bd (gZ (jW H 7) l) fun l=>some (PyData.list l))=_
  rw[ao h,aM,ow H 3 ps g l k];rfl
 exact ox (d n ps h1 l1 k1) (d m qs h2 l2 k2)
section
variable(P:Cw){d:Nat}{v:Vt}{sg pl pm R C:Int}{N:Nat}{dk:List Int}{D:Dn}{G:Hp}{F:As}
noncomputable def jt(g:List ar)(j:Nat):List ar:=(List.range j).map fun i:Nat=>ab g i
theorem pD(g:List ar)(j:Nat):jt g (j+1)=jt g j++[ab g j]:=by
 unfold jt
 rw[List.range_succ,mP];rfl
theorem sW(g:List ar)(j:Nat):(jt g j).length=j:=by unfold jt;simp
theorem sX(g:List ar):jt g g.length=g:=by
 refine List.ext_getElem? fun i=> ?_
 unfold jt
 rw[List.getElem?_map]
 by_cases h:i<g.length
 ·rw[List.getElem?_range h]
  show some (g.getD ((i:Int)).toNat [])=_
  rw[show((i:Int)).toNat=i from rfl,gD,gE h];rfl
 ·rw[List.getElem?_eq_none (by simpa using h),List.getElem?_eq_none (by apply af [] [_,_] 8968 33 8475 h)];rfl
theorem wf{ps:List Nat}{g:List ar}{A:As}{S:Sn}(hG:aE G D S A)(hA: ∀x∈cE ps g,x∈A)(i:Nat)(p:Nat)(cs:ar)(h1:ps[i]?=some p)(h2:g[i]?=some cs):(hp S D G)[p+28]?=some (au cs):=dg hG (hA _ (fX h1 h2))
theorem nc(d:Nat)(hG:aE G D (bC v sg dk pl) F)(I:Good R C N v):Ca (CO P (d+3)) 1409 [.loc 0,.loc 15] (hp (bC v sg dk pl) D G) (b7 (.bool true) (bC v sg dk pl) D F):=by
 have ig:=I.inv.gi
 have id:=I.inv.dim
 have hm:(D.lns.map fun l=>MV.loc (l.i+28)).length=v.grid.length:=by rw[lM];exact hG.l1
 have hgl:(v.grid.length:Int)=v.R:=ig.len
 have zl:(hp (bC v sg dk pl) D G)[D.pLines+28]?=some (.list (D.lns.map fun l=>MV.loc (l.i+28))):=(cU D.pLines).trans (jL hG)
 have hv: ∀ (j:Nat) x,(D.lns.map fun l=>MV.loc (l.i+28))[j]?=some x→ ∃_:Unit,j<v.grid.length∧x= .loc ((bA D j).i+28):=fun j x e=>by
  have hj:j<v.grid.length:=hm▸ (gS e).1
  refine⟨(),hj,?_⟩
  have:=gI (S:=bC v sg dk pl) hG ig (r:=j) (by apply⟨(aV [] [_] 0x814030 1),(aq [_] [_,_] 139345 1569 139858 8969 hgl hj)⟩)
  rw[List.getElem?_map,show D.lns[j]?=some (bA D j) from this] at e
  exact(oI e).symm
 refine' use ?_
 refine' cZ 6 (fM zl) ?_
 refine' nX 0 [(D.pLines+28,(D.lns.map fun l=>MV.loc (l.i+28)))] G.length (D.lns.map fun l=>MV.loc (l.i+28)) (bC v sg dk pl) D G F (jt v.grid) v.grid.length hm (by apply aq [_] [_] 0x7d00c909 17441 67200 139346 id.1.2 hgl) rfl (sW _) (fun j (_:Unit)=> .loc ((bA D j).i+28)) (fun j _=>j<v.grid.length) hv hG rfl (fun G' A g=>bN ((cU D.pLines).trans (jL g))) (fun j x G2 F2 hj g2=>⟨ab v.grid j,pD _ _,?_⟩) (fun ps G2 hp1 g2=> ?_)
 ·have hj':(0:Int)≤j∧(j:Int)<v.R:=by apply⟨(aV [] [_] 0x814030 1),(aq [_] [_,_] 139345 1569 139858 8969 hgl hj)⟩
  refine' aK 0 (ed P j g2 ig hj') ?_
  refine' aY 0 (jH (pb j g2 ig hj')) ?_
  refine' my 0 (.ret (.loc (G2.length+28))) (fun _=>none) (hp (bC v sg dk pl) D (G2++[au (ab v.grid j)])) ⟨rfl,rfl⟩
 ·rw[sX] at g2
  have z2:=bw g2
  have e:=sV (H:=hp (bC v sg dk pl) D G2) (g:=v.grid) (qs:=D.lrows) (m:=21) z2 rfl hp1 g2.l2 (by apply aq [_] [_] 262201 15393 132656 139346 id.1.1 hgl) (wf g2 (fun x hx=> .tail _ (mW _ hx))) (fun i p cs h1 h2=>(cU p).trans (g2.sat.mem _ (mW _ (.tail _ (.tail _ (mR _ (mR _ (fX h1 h2))))))))
  refine' mx 1 e ?_
  refine' mx 4 (we (hp (bC v sg dk pl) D G2) v.row v.col v.waits) ?_
  refine' ax 0 (.bool true) (hp (bC v sg dk pl) D G2) (b7.mk g2.drop.drops rfl)
end
noncomputable def wh(K:Frag)(f:Addr)(k:Nat)(σ:aQ)(H:Hp):Tr:=ob (xr K f) fun p=>exsT K p.1.scope.names eN (p.2.drop k) σ H .ret
noncomputable def σ3:aQ:=upd (upd (upd (fun _=>none) "deck" (.loc 16)) "screen" (.loc 0)) "w" (.loc 15)
section
variable(P:Cw){d:Nat}{v:Vt}{sg pl pm R C:Int}{N:Nat}{dk:List Int}{D:Dn}{G:Hp}{F:As}
theorem AV(d:Nat)(hp0:0≤pl∧pl≤10)(hG:aE G D (bC v sg dk pl) F)(I:Good R C 1 v):Wt (CO P (d+15)) (wh P.K 1414 10 σ3 (hp (bC v sg dk pl) D G)) (FQ fun u _=>u= .bool true):=by
 refine' dP 0 (gA P (d+14) 14 hG (by decide) (by apply⟨hp0.1,(af [_] [] 0x1f408880 33 165504 hp0.2)⟩)) fun a G1 ha g1=> ?_
 refine' cZ 0 (dE (hp (bC v sg dk (pl+1)) D G1) (1+a) (by apply⟨(af [_] [] 0x20230746a52880020820 33 131120 ha.1),(af [_] [] 0x3a35294400104404600 33 231041 ha.2)⟩)) ?_
 have h0:HC R C (1+0) dk (20+4*(0:Nat)) F (hp (bC v sg dk (pl+1)) D G1):=HC.mk g1 I (by apply⟨(af [_] [] 0x23400030 33 131120 hp0.1),(af [_] [] 0xca43506008d000 33 165504 hp0.2)⟩)
 refine' f5 0 ["turn"] 0 (1+a).toNat (hp (bC v sg dk (pl+1)) D G1) (fun j H=>HC R C (1+j) dk (20+4*j) F H) h0 (fun j ρ Z hj hz=>Wt.hc hz fun v sg pl D G g1 I h0=> ?_) (fun ρ Z hz=>Wt.hc hz fun v sg pl D G g1 I h0=> ?_)
 ·have e1:=AU P (pl:=pl) (pm:=20+4*((j+1:Nat):Int)) (N:=1+j) d (by apply⟨h0.1,(eo [_,_] [_,_] 0x19008880 0x1409081 231057 8969 0x81486a0c080 0x121182252 ha.2 hj h0.2 (tN (af [_] [] 0x101180030 33 131120 ha.1)))⟩) (by apply af [_] [_] 0x23800a43506020d000 33 0x81486a0c080 h0.2) (by apply⟨(aV [] [_] 0x201180238 1),(a0 [_] [_,_] 0x2ee064804609 558113 231041 8969 0x101182252 ha.2 hj (tN (af [_] [] 0x101180030 33 131120 ha.1)))⟩) g1 I
  refine' js 0 e1 fun Z hz=>Wt.hc hz fun v sg pl D G g2 I2 h2=> ?_
  refine' a7 1 (nc P (d+12) g2 I2) fun G3 g3=> ?_
  have h3:HC R C (1+(j+1)) dk (20+4*((j+1:Nat):Int)) F (hp (bC v sg dk pl) D G3):=HC.mk g3 I2 h2
  refine' gX 1 ρ [("turn",.int (0+j))] (hp (bC v sg dk pl) D G3) (bt _) h3
 ·refine' js 0 (lX P (pl:=pl) (pm:=1000) (d+1) 1 (by decide) (by apply aV [] [_] 0x201180238 1) (by apply⟨h0.1,(a0 [_,_] [_] 0x1f408880 656513 231057 0x81486a0c080 0x121182052 ha.2 h0.2 (tN (af [_] [] 0x101180030 33 131120 ha.1)))⟩) g1 I) fun Z hz=>Wt.hc hz fun v sg pl D G g2 I2 h2=> ?_
  refine' a7 0 (nc P (d+12) g2 I2) fun G3 g3=> ?_
  refine' js 1 (lY P (pl:=pl) (pm:=1000) (d+1) 1 (by decide) (by apply aV [] [_] 0x201180238 1) h2 g3 I2) fun Z hz=>Wt.hc hz fun v sg pl D G g4 I4 h4=> ?_
  refine' a7 0 (nc P (d+12) g4 I4) fun G5 g5=> ?_
  refine' ax 0 (.bool true) (hp (bC v sg dk pl) D G5) rfl
end
section
variable{c:Cx}{d:Nat}{sc:cu}{σ σ' σ1:aQ}{A:Around}{env:Env}{f:Fx}{m m0 m':Str→Option Value}{its kp cel cel' led led' T T':aN}{h h₁ h':Heap}{H H' H1 H2 H3:Hp}{s s':Shared}{mv x y:MV}{e l r t:Expr}{b:Bool}{pos:Pos}{C:Addr}{u v:Value}{fl:Fl}
theorem wi(hs:cX c.K){fa:Addr}{oc:Value}{od:Option Addr}{fd:FuncData}{osl:Array (Option Value)}{body:List Stmt}{xs:List MV}{vs:List Value}{R:Fl→aN→aN→Hp→Prop}(hR0: ∀fl l2 T2 H',R fl l2 T2 H'→ ∀p∈T,p∈T2)
  (hA:AO A (d+1)) (XK:c.K.In s.heap) (XG:TopRead c.p c.loose c.mg c.mb s.heap) (Kh:c.K.In (ng s.heap [] [] T)) (Gh:TopRead c.p c.loose c.mg c.mb (ng s.heap [] [] T)) (hT: ∀p∈T,s.heap.get? p.1=some p.2) (ndT:(ai T).Nodup) (r:VRs c.K [] T vs xs) (hk:c.K.lookup fa=some ⟨oc,od,.func fd,osl⟩) (hb:fd.body= .stmts body) (hc:hU c.K fd=true)
  (h1:eD c.K fd xs=some σ)
  (h2: ∀A env f m cel s,Cs c d fd.scope.names σ A env f m [] cel [] T [] s→wpAny (model c.prog c.w) A (execs body env) (fun fw s2=> ∃fl m2 cel2 l2 T2 σ' H',R fl l2 T2 H'∧Cs c d fd.scope.names σ' A env f m2 [] cel2 l2 T2 H' s2∧Ok s s2∧y6 c.K (ai l2) T2 fw fl) no s):
  codeAny (model c.prog c.w) A (.call (.ref fa) ⟨vs,[]⟩) (fun r s2=> ∃fl l2 T2 H' v,R fl l2 T2 H'∧r= .ok (.ret v)∧(∀b o,s.heap.get? b=some o→s2.heap.get? b=some o)∧VR c.K (ai l2) T2 v (d6 fl)∧Ok s s2) s:=by
 refine codeAny_mono (qt (led:=[]) (H:=[]) hs hA XK XG r hk hb hc h1 (fun h₁ m n hk₁=>⟨⟨n,fun b o e=>hk₁ b o (of_hideAll _ e),Nat.le_of_eq (hideAll_size _ _)⟩,Kh,Gh,fun p hp=>⟨hk₁ _ _ (hT p hp),fun q=> ?_,hideAll_none _ (List.mem_map_of_mem hp)⟩,ndT,fun p hp=>(nomatch hp),rfl,fun n p x h=>(by simp at h)⟩) hT h2) fun r s2 z=> ?_
 ·have:=Heap.lt_size (hT p hp)
  rw[q] at this
  exact absurd this (Nat.lt_irrefl _)
 ·obtain⟨fl,m2,l2,T2,H',v,hR,hr,X2,r2,O2⟩:=z
  refine⟨fl,l2,T2,H',v,hR,hr,fun b o e=> ?_,r2,O2⟩
  by_cases hb:b∈ai ([]++([]++T))
  ·obtain⟨p,hp,rfl⟩:=List.mem_map.mp hb
   have hp:p∈T:=by simpa using hp
   have e2:=hT p hp
   rw[e] at e2
   obtain rfl:=oI e2
   exact(X2.N p (mR _ (mR _ (hR0 _ _ _ _ hR p hp)))).1
  ·exact X2.F.keep b o (hideAll_get _ e hb)
end
mutual
noncomputable def EK:MV→MV→Bool
 | .int a,v=>(match v with
  | .int b=>decide (a=b)
  |_=>false)
 | .loc a,v=>(match v with
  | .loc b=>Nat.beq a b
  |_=>false)
 | .tup l,v=>(match v with
  | .tup r=>eqsB l r
  |_=>false)
 |_,_=>false
noncomputable def eqsB:List MV→List MV→Bool
 |[],r=>r.isEmpty
 |a::l,r=>(match r with
  |[]=>false
  |b::r=>EK a b&&eqsB l r)
end
theorem fZ{P:Prop}(h:false=true):P:=nomatch h
theorem wj(l:List MV): ∀r,eqsB l r=true→l=r:=by
 refine MV.rec_1 (motive_1:=fun a=> ∀b,EK a b=true→a=b) (motive_2:=fun l=> ∀r,eqsB l r=true→l=r) (fun _=>fZ) (fun _ _=>fZ) (fun i b h=> ?_) (fun _ _=>fZ) (fun _ _=>fZ) (fun l ih b h=> ?_) (fun i b h=> ?_) (fun _ _=>fZ) (fun _ _ _=>fZ) (fun r h=> ?_) (fun a l i1 i2 r h=> ?_) l
 ·cases b with
  |int b=>exact cA _ (of_decide_eq_true h)
  |_=>exact fZ h
 ·cases b with
  |tup r=>exact cA _ (ih r h)
  |_=>exact fZ h
 ·cases b with
  |loc b=>exact cA _ (Nat.eq_of_beq_eq_true h)
  |_=>exact fZ h
 ·cases r with
  |nil=>rfl
  |cons=>exact fZ h
 ·cases r with
  |nil=>exact fZ h
  |cons b r=>
   obtain⟨h1,h2⟩:=Bool.and_eq_true_iff.mp h
   rw[i1 b h1,i2 r h2]
theorem EL{a b:MV}(h:EK a b=true):a=b:=(List.cons.inj (wj [a] [b] (Bool.and_eq_true_iff.mpr ⟨h,rfl⟩))).1
theorem yE{l r:List MV}(h:eqsB l r=true):l=r:=wj l r h
noncomputable def pE(gs:List (Nat×List MV))(H:Hp):Bool:=gs.all fun g=>match H[g.1]? with
 |some (.list l)=>eqsB l g.2
 |_=>false
theorem lZ{gs:List (Nat×List MV)}{H:Hp}(h:pE gs H=true):bg gs H:=fun g hg=>by
 have:=List.all_eq_true.mp h g hg
 revert this
 cases e:H[g.1]? with
 |none=>intro h;cases h
 |some o=>
  cases o with
  |list l=>intro h;rw[yE h]
  |_=>intro h;cases h
noncomputable def fE:List (Str×MV)→(List (Str×MV)→Tr)→Tr
 |[],k=>k []
 |p::r,k=>match p with
  |(x,v)=>fE r fun r=>k ((x,v)::r)
noncomputable def fO(o:MObj)(k:MObj→Tr):Tr:=match o with
 | .dict es=>fE es fun es=>k (.dict es)
 |o=>k o
noncomputable def fH:Hp→(Hp→Tr)→Tr
 |[],k=>k []
 |o::r,k=>fO o fun o=>fH r fun r=>k (o::r)
theorem zz: ∀ (es:List (Str×MV)) (k:List (Str×MV)→Tr),fE es k=k es
 |[],_=>rfl
 |(x,v)::r,k=>zz r fun r=>k ((x,v)::r)
theorem wk: ∀ (H:Hp) (k:Hp→Tr),fH H k=k H
 |[],_=>rfl
 |o::r,k=>by
  have e: ∀ (o:MObj) (k:MObj→Tr),fO o k=k o:=fun o k=>by
   cases o with
   |dict es=>exact zz es _
   |_=>rfl
  rw[fH,e,wk]
noncomputable def inl(r:Tr)(k:MV→Hp→Tr):Tr:=match r with
 | .ret fl _ H=>fH H (k (d6 fl))
 |_=> .fail
noncomputable def CT(r:Tr)(k:Hp→Tr):Tr:=match r with
 | .ret fl _ H=>(match d6 fl with
  | .none=>fH H k
  |_=> .fail)
 |_=> .fail
noncomputable def yF(K:Frag)(rec:Tr→Tr)(a:Addr)(vs:List MV)(H:Hp)(k:MV→Hp→Tr):Option (Option Value)→Tr
 |some (some (.ref fi))=>gd (isFn K (.ref fi)&&!H.isEmpty) (CT (rec (jk K fi (.loc (H.length+1)::vs) (H++[.dict [],.inst a H.length]))) (k (.loc (H.length+1))))
 |_=> .fail
noncomputable def AW(K:Frag)(rec:Tr→Tr):Tr→Tr
 | .call a vs H k=>(match makesIn K a with
  |true=>yF K rec a vs H k (findIn K (.ref a) "__init__")
  |false=>inl (rec (jk K a vs H)) k)
 | .loop turn gs items σ H k=>(match items with
  |[]=>k .next σ H
  |v::r=>d8 (turn v σ H) (ux (fun σ1 H1=>gd (pE gs H1) (.loop turn gs r σ1 H1 k)) k))
 | .comp elt gs acc items vs H k=>(match items with
  |[]=>k H
  |v::r=>d8 (elt v H) fun fl _ H1=>(match fl with
   | .ret u=>gd (pE ((acc,vs)::gs) H1&&decide (vs.length<4000)) (.comp elt gs acc r (vs++[u]) (H1.set acc (.list (vs++[u]))) k)
   |_=> .fail))
 |t=>Ek t
noncomputable def Dr(f:Tr→Tr):Nat→Tr→Tr
 |0,t=>t
 |n+1,t=>match t with
  | .ret fl σ H=> .ret fl σ H
  |t=>Dr f n (f t)
noncomputable def oy(K:Frag)(m:Nat):Nat→Nat→Tr→Tr
 |0,n=>Dr (AW K fun _=> .fail) n
 |d+1,n=>Dr (AW K (oy K m d m)) n
theorem AX{O:dJ}{c:Bool}{t:Tr}{Q:QS}(h:Wt O (gd c t) Q):c=true∧Wt O t Q:=by
 cases c with
 |true=>exact⟨rfl,h⟩
 |false=>exact h.elim
theorem AY{O O2:dJ}{r t0:Tr}{k:MV→Hp→Tr}{Q:QS}(hr: ∀Q,Wt O r Q→Wt O t0 Q)(h:Wt O2 (inl r k) Q): ∃v H',Wt O t0 (FQ fun u H1=>u=v∧H1=H')∧Wt O2 (k v H') Q:=by
 cases r with
 |ret fl σ H=>exact⟨_,H,hr _ ⟨rfl,rfl⟩,wk H (k (d6 fl))▸ (show Wt O2 (fH H (k (d6 fl))) Q from h)⟩
 |_=>exact h.elim
theorem yG{O O2:dJ}{r t0:Tr}{k:Hp→Tr}{Q:QS}(hr: ∀Q,Wt O r Q→Wt O t0 Q)(h:Wt O2 (CT r k) Q): ∃H',Wt O t0 (FQ fun u H1=>u= .none∧H1=H')∧Wt O2 (k H') Q:=by
 cases r with
 |ret fl σ H=>
  have h:Wt O2 (match d6 fl with
   | .none=>fH H k
   |_=> .fail) Q:=h
  cases e:d6 fl<;>rw[e] at h
  case none=>exact⟨H,hr _ ⟨e,rfl⟩,wk H k▸h⟩
  all_goals exact h.elim
 |_=>exact h.elim
section
variable{x:Cw}{d:Nat}{rec:Tr→Tr}
theorem yH(hr: ∀t Q,Wt (CO x d) (rec t) Q→Wt (CO x d) t Q){a:Addr}{vs:List MV}{H:Hp}{k:MV→Hp→Tr}{Q:QS}(hm:makesIn x.K a=true){o:Option (Option Value)}(e:findIn x.K (.ref a) "__init__" =o)(h:Wt (CO x (d+2)) (yF x.K rec a vs H k o) Q):Wt (CO x (d+2)) (.call a vs H k) Q:=by
 unfold yF at h
 split at h
 ·obtain⟨q,h⟩:=AX h
  obtain⟨q1,q2⟩:=Bool.and_eq_true_iff.mp q
  obtain⟨H',w,h⟩:=yG (hr _) h
  have hne:H≠ []:=fun e=>by subst e;cases q2
  obtain⟨v,H2,r,rfl,rfl⟩:=mk hm e q1 hne (Am w)
  exact⟨_,_,r,h⟩
 ·exact h.elim
theorem ro(hr: ∀t Q,Wt (CO x d) (rec t) Q→Wt (CO x d) t Q): ∀t {Q},Wt (CO x (d+2)) (AW x.K rec t) Q→Wt (CO x (d+2)) t Q
 | .call a vs H k,Q,h=>by
  have h:Wt (CO x (d+2)) (match makesIn x.K a with
   |true=>yF x.K rec a vs H k (findIn x.K (.ref a) "__init__")
   |false=>inl (rec (jk x.K a vs H)) k) Q:=h
  cases e:makesIn x.K a<;>rw[e] at h
  ·obtain⟨v,H',w,h⟩:=AY (hr _) h
   obtain⟨v,H2,r,rfl,rfl⟩:=CO.up (use w)
   exact⟨_,_,r,h⟩
  ·exact yH hr e rfl h
 | .loop turn gs items σ H k,Q,h=>by
  cases items with
  |nil=>exact h
  |cons v l=>
   have r:Wt (CO x (d+2)) (d8 (turn v σ H) _) Q:=h
   exact Wt.mono (turn v σ H) (fun fl σ H q=>by cases fl<;>first|exact q|(have q:=AX q;exact⟨lZ q.1,q.2⟩)) (cC (turn v σ H) r)
 | .comp elt gs acc items vs H k,Q,h=>by
  cases items with
  |nil=>exact h
  |cons v l=>
   have r:Wt (CO x (d+2)) (d8 (elt v H) _) Q:=h
   refine Wt.mono (elt v H) (fun fl σ H q=> ?_) (cC (elt v H) r)
   cases fl
   case ret u=>
    have q:=AX q
    obtain⟨q1,q2⟩:=Bool.and_eq_true_iff.mp q.1
    have q3:=lZ q1
    exact⟨⟨fun g hg=>q3 g (.tail _ hg),q3 _ (.head _),of_decide_eq_true q2⟩,q.2⟩
   all_goals exact q.elim
 | .ret fl σ H,Q,h=>ga h
 | .fail,Q,h=>ga h
 | .rq m k,Q,h=>ga h
 | .test b k,Q,h=>ga h
 | .side A k,Q,h=>ga h
theorem pF{O:dJ}{f:Tr→Tr}(hf: ∀t {Q},Wt O (f t) Q→Wt O t Q): ∀n t {Q},Wt O (Dr f n t) Q→Wt O t Q
 |0,_,_,h=>h
 |n+1,t,Q,h=>by
  cases t
  case ret=>exact h
  all_goals exact hf _ (pF hf n _ h)
theorem jR(m:Nat): ∀ (k n:Nat) t {Q},Wt (CO x (d+2*k+2)) (oy x.K m k n t) Q→Wt (CO x (d+2*k+2)) t Q
 |0,n,t,Q,h=>pF (ro fun _ _ h=>(show False from by cases h).elim) n t h
 |k+1,n,t,Q,h=>pF (ro (d:=d+2*k+2) fun t Q h=>jR m k m t h) n t h
end
noncomputable def CU(K:Frag)(f:Addr)(k:Nat)(args:List MV)(H:Hp):Tr:=ob (xr K f) fun p=>ob (eD K p.1 args) fun σ=>exsT K p.1.scope.names eN (p.2.take k) σ H .ret
noncomputable def gC(l:List Int):List Int:=(l.take 63).map fun a=>a.fmod 1000000000
noncomputable abbrev zA(l:List Int):List MV:=aI (l.map .int) none (some 63)
theorem AZ(l:List Int):zA l=(l.take 63).map .int:=by
 unfold zA aI fb fF
 simp
section
variable{O:dJ}{t:Tr}{Q:QS}
theorem wl(n:Nat)(gs:List (Nat×List MV))(acc:Nat)(items:List MV)(f:Int→Int)(ks:List Int)(hk:ks.length≤63)(he:items=ks.map .int)(Hf:List MV→Hp)
  (ha: ∀us,bg gs (Hf us)∧(Hf us)[acc]?=some (.list us)) (hs: ∀us us',(Hf us).set acc (.list us')=Hf us')
  (turn: ∀us a,Wt O (EE (aL n t) (.int a) (Hf us)) fun fl _ H'=>fl= .ret (.int (f a))∧H'=Hf us)
  (done:Wt O (EF (aL n t) (Hf ((ks.map f).map .int))) Q) (hr:ED (aL n t)=some (gs,acc,items,Hf []):=by kernel_rfl):Wt O t Q:=by
 subst he
 refine rb n (fun j us H=>us=((ks.map f).take j).map .int∧H=Hf us) ⟨rfl,rfl⟩ (fun j v us H h1 hI=> ?_) (fun us H hI=> ?_) hr
 ·obtain⟨rfl,rfl⟩:=hI
  rw[List.getElem?_map] at h1
  obtain⟨a,h2,rfl⟩:=Option.map_eq_some_iff.mp h1
  refine Wt.mono _ (fun fl σ' H' q=> ?_) (turn _ a)
  obtain⟨rfl,rfl⟩:=q
  refine⟨⟨(ha _).1,(ha _).2,?_⟩,?_,hs _ _⟩
  ·rw[lM,lT,lM]
   exact Nat.lt_of_le_of_lt (Nat.min_le_right ..) (Nat.lt_of_le_of_lt hk (by decide))
  ·rw[List.take_succ,List.getElem?_map,h2,mP];rfl
 ·obtain⟨rfl,rfl⟩:=hI
  rw[lM,List.take_of_length_le (Nat.le_of_eq (lM ..))]
  exact done
end
noncomputable abbrev zB(c:Nat)(p:Int):List (Str×MV):=[("cells",.loc c),("place",.int p)]
noncomputable abbrev HD(l:List Int)(p:Int):Hp:=[.dict (zB 2 p),.list (zA l),.list ((gC l).map .int)]
section
variable(P:Cw){d:Nat}
theorem pG(d:Nat)(l:List Int)(b p:Int)(hb:0<b)(hp:0≤p∧p≤100): ∃k,(0≤k∧k<b)∧Ca (CO P (d+1)) 1287 [.loc 0,.int b] (HD l p) (fun v H'=>v= .int k∧H'=HD l (p+1)):=by
 refine⟨(if p<(gC l).length then(gC l).getD p.toNat 0 else p*5+p.fdiv 3).fmod b,⟨Int.fmod_nonneg_of_pos _ hb,Int.fmod_lt_of_pos _ hb⟩,?_⟩
 have hl:(((gC l).map MV.int).length:Int)=(gC l).length:=by rw[lM]
 refine' use ?_
 refine' bc (p<(((gC l).map MV.int).length:Int)) (fun c1=> ?_) (fun c1=> ?_)
 ·have e5:eC (HD l (p+1)) (.loc 2) (.int p)=some (.int ((gC l).getD p.toNat 0)):=ew (j:=p.toNat) rfl (fN ⟨hp.1,c1⟩) (by
   have:p.toNat<(gC l).length:=by apply a0 [_] [_,_,_] 8969 558625 0x896452 297601 139346 hl c1 (tN hp.1)
   simp[this])
  refine' ak 4 c1 ?_
  refine' aK 1 e5 ?_
  refine' aY 0 (q8 (HD l (p+1)) ((gC l).getD p.toNat 0) b hb) ?_
  exact ax 0 (.int (((gC l).getD p.toNat 0).fmod b)) (HD l (p+1)) ⟨by rw[if_pos (hl▸c1)],rfl⟩
 ·refine' am 4 c1 ?_
  refine' aY 0 (ra (HD l (p+1)) p 5 (by apply⟨⟨(af [_] [] 0x4746a52880020820 33 131120 hp.1),(af [_] [] 0x746a52880020880 33 0x3208880 hp.2)⟩,⟨(aV [] [] 0x51f46a52880020820 1),(aV [] [] 0xe8d4a51000410a30 1)⟩⟩)) ?_
  refine' aY 0 (q9 (HD l (p+1)) p 3 (by apply⟨⟨(af [_] [] 0x4746a52880020820 33 131120 hp.1),(af [_] [] 0x746a52880020880 33 0x3208880 hp.2)⟩,⟨(aV [] [] 0x18c031 1),(aV [] [] 0xe8d4a51000410630 1)⟩⟩)) ?_
  refine' aY 0 (q8 (HD l (p+1)) (p*5+p.fdiv 3) b hb) ?_
  exact ax 0 (.int ((p*5+p.fdiv 3).fmod b)) (HD l (p+1)) ⟨by rw[if_neg (hl▸c1)],rfl⟩
theorem pH{O:dJ}{t:Tr}{Q:QS}{a:Addr}{vs:List MV}{H H2:Hp}{b:Nat}(n:Nat)(e: ∃k,(0≤k∧k<(b:Int))∧Ca O a vs H fun v H'=>v= .int k∧H'=H2)(r: ∀k:Nat,k<b→Wt O (cc (aL n t) (.int k) H2) Q)(hr:hc (aL n t)=some (a,vs,H):=by kernel_rfl):Wt O t Q:=by
 obtain⟨k,hk,e⟩:=e
 obtain⟨j,rfl⟩:=Int.eq_ofNat_of_zero_le hk.1
 exact gv n e (fun v H' h=>by obtain⟨rfl,rfl⟩:=h;exact r j (Int.ofNat_lt.mp hk.2)) hr
end
noncomputable def FJ:Tr→Option (Option MV×Option MV×Option MV)
 | .ret fl σ _=>(match fl with
  | .next=>some (σ "deck",σ "screen",σ "w")
  |_=>none)
 |_=>none
noncomputable def Fs:Tr→Hp
 | .ret _ _ H=>H
 |_=>[]
noncomputable def FP:Tr→aQ
 | .ret _ σ _=>σ
 |_=>fun _=>none
noncomputable def FR:Tr→Hp
 | .call _ _ H _=>H
 |_=>[]
noncomputable def wn(K:Frag)(f:Addr)(i k:Nat)(σ:aQ)(H:Hp):Tr:=ob (xr K f) fun p=>exsT K p.1.scope.names eN ((p.2.drop i).take k) σ H .ret
noncomputable abbrev Ds(a b c:Bool):List (Str×MV):=[("inserts",.bool a),("near",.bool b),("far",.bool c)]
noncomputable abbrev u5:List (Str×MV):=[("waits",.bool false),("back",.int (-1)),("last",.tup []),("signs",.int 0),("wraps",.bool true)]
noncomputable def w7(R C:Int):List (Str×MV):=[("columns",.int C),("top",.int 0),("bottom",.int (R- 1)),("left",.int 0),("right",.int (C- 1)),("row",.int 0),("column",.int 0)]
noncomputable def wo(C:Int):MObj:=au (List.replicate C.toNat (bare (-1)))
noncomputable def HA(l:List Int)(R C:Int)(w:List (Str×MV))(X:Hp):Hp:= .dict (zB 2 3):: .list (zA l):: .list ((gC l).map .int):: .dict (w7 R C++(u5++w)):: .dict u5::X
noncomputable def FK(w:List (Str×MV)):MObj:= .dict (("send_receive",.bool true)::("autowrap",.bool true)::("autorepeat",.bool true)::("show_cursor",.bool true)::("num_lock",.bool true)::("side_margins",.bool true)::w)
noncomputable def HM(l:List Int)(n:Nat)(C:Int)(a b c:Bool)(st:List (Str×MV)):Hp:=HA l n C (Ds a b c++[(Str.ofString "rows",.loc 6)]) (.dict (Ds a b c):: .list ((List.range n).map fun i=> .loc (2*i+8))::((List.replicate n [.list [(bare (-1)).mv],wo C]).flatten++
 [.dict [("states",.loc (2*n+9)),("kept",.loc (2*n+10))],.inst 1276 (2*n+7),FK st,.dict []]))
noncomputable abbrev HB(l:List Int)(n:Nat)(C:Int)(a b c:Bool):Hp:=HM l n C a b c [("insert",.bool a),("reverse_wrap",.bool b),("reverse_wrap_far",.bool c)]
noncomputable def σA(l:List Int)(n:Nat)(C k3:Int)(a b c:Bool):aQ:=
 [(Str.ofString "script",MV.rol (l.map .int)),(Str.ofString "deck",.loc 0),(Str.ofString "rows",.int n),(Str.ofString "columns",.int C),(Str.ofString "on",.int k3),(Str.ofString "w",.loc 3),(Str.ofString "now",.loc (2*n+8)),(Str.ofString "word",.str "side_margins"),(Str.ofString "is_on",.bool true),
  (Str.ofString "word",.str "insert"),(Str.ofString "is_on",.bool a),(Str.ofString "word",.str "reverse_wrap"),(Str.ofString "is_on",.bool b),(Str.ofString "word",.str "reverse_wrap_far"),(Str.ofString "is_on",.bool c)].foldl (fun σ p=>upd σ p.1 p.2) fun _=>none
noncomputable abbrev v0(n:Nat)(C:Int)(i a b:Bool):Vt:=⟨n,C,0,0,false, -1,0,n- 1,0,C- 1,true,i,a,b,List.replicate n (List.replicate C.toNat (bare (-1))),[]⟩
theorem rp(n:Nat)(C:Int)(i a b:Bool)(h:(3≤(n:Int)∧(n:Int)≤4)∧5≤C∧C≤8):Good n C 1 (v0 n C i a b):=by
 have hg: ∀cs∈List.replicate n (List.replicate C.toNat (bare (-1))),cs=List.replicate C.toNat (bare (-1)):=fun cs hc=>List.eq_of_mem_replicate hc
 refine⟨⟨h,⟨by dsimp only;apply⟨(aV [] [] 49200 1),⟨(af [] [_] 0x470284031 33 0x814630 h.1.1),(aV [] [_] 0x40a11c0a11 1)⟩⟩,by dsimp only;apply⟨(aV [] [] 49200 1),⟨(af [_] [] 0x23404031 33 133680 h.2.1),(aV [_] [] 0x808d011 1)⟩⟩⟩,⟨by dsimp only;apply⟨(aV [] [] 49200 1),(af [] [_] 0x814031 33 0x814630 h.1.1)⟩,by dsimp only;apply⟨(aV [] [] 49200 1),(af [_] [] 131121 33 133680 h.2.1)⟩⟩,⟨by rw[List.length_replicate],fun cs hc=> ?_⟩⟩,rfl,rfl,fun cs hc c hcc=> ?_,CK.nil 1⟩
 ·rw[hg cs hc]
  exact⟨by rw[List.length_replicate];dsimp only;apply tN (af [_] [] 131120 33 133680 h.2.1),RowOK.bares _ _⟩
 ·rw[hg cs hc] at hcc
  rw[List.eq_of_mem_replicate hcc];exact CK.nil 1
theorem oz(ρ:Nat→Nat): ∀l:List Int,renVs ρ (l.map .int)=l.map .int
 |[]=>rfl
 |a::r=>cA (MV.int a:: ·) (oz ρ r)
noncomputable def A0(n:Nat):List Ln:=(List.range n).map fun i=>⟨3*i+1,3*i+2,3*i+3,false⟩
noncomputable abbrev DN(n:Nat):Dn:=⟨0,A0 n,3*n+1,none,(List.range n).map fun i=>i+3*n+2⟩
noncomputable def GN(n:Nat)(C:Int):Hp:= .list ((A0 n).map fun l=> .loc (l.i+28))::(((A0 n).map fun l=>[.inst 756 (l.d+28),.dict (td l.up),wo C]).flatten++(.list []::List.replicate n (wo C)))
theorem pI{H:Hp}: ∀ {A:As},(A.map fun q=>H[q.1]?)=(A.map fun q=>some q.2)→(A.map (·.1)).Nodup→Sat H A
 |[],_,_=> .nil
 |(p,o)::A,h1,h2=>by
  have h1:=List.cons.inj h1
  have h2:=List.nodup_cons.mp h2
  exact .cons h1.1 (fun q hq e=>h2.1 (e▸List.mem_map_of_mem (f:=(·.1)) hq)) (pI h1.2 h2.2)
noncomputable abbrev CV(l:List Int)(σ1:aQ)(H1:Hp):Prop:= ∃ (v:Vt) (R C:Int) (D:Dn) (G:Hp),Ex σ1 H1 σ3 (hp (bC v 0 (gC l) 3) D G)∧aE G D (bC v 0 (gC l) 3) []∧Good R C 1 v
noncomputable def CW(t:Tr)(ix rest:List Nat)(sc:Nat):=(FJ t,(ix.all fun p=>Nat.blt p (Fs t).length),ix.map (fun p=>sb (ix++rest).idxOf ((Fs t).getD p (.list []))),[0,sc,3].map (ix++rest).idxOf)
noncomputable def EM(us:List Int)(ix rest:List Nat)(sc:Nat)(B:Hp):=(some (some (MV.loc 0),some (MV.loc sc),some (MV.loc 3)),true,B.set 20 (.list (renVs (ix++rest).idxOf (us.map .int))),[16,0,15])
set_option tactic.hygienic true in
theorem wp{O:dJ}{t:Tr}{us:List Int}{ix:List Nat}{sc:Nat}{B:Hp}{Q:QS}(nd:ix.Nodup)(h: ∀rest,CW t ix rest sc=EM us ix rest sc B)(hB:B.set 20 (.list (us.map .int))=B)(k: ∀σ1 H1,Ex σ1 H1 σ3 B→Q .next σ1 H1):Wt O t Q:=by
 have h0:=cA Prod.fst (h [])
 cases t
 case ret fl σ H=>
  cases fl<;>try cases h0
  have h0:(some (σ "deck",σ "screen",σ "w"))=(some (some (MV.loc 0),some (MV.loc sc),some (MV.loc 3))):=h0
  simp only[Option.some.injEq,Prod.mk.injEq] at h0
  obtain⟨q1,q2,q3⟩:=h0
  refine k σ H ⟨ix,nd,fun p hp=>Nat.blt_eq.mp (List.all_eq_true.mp (cA (fun x=>x.2.1) (h [])) p hp),fun rest=>⟨?_,fun x v hx=> ?_⟩⟩
  ·have e:(EM us ix rest sc B).2.2.1=B.set 20 (.list (renVs (ix++rest).idxOf (us.map .int))):=rfl
   rw[oz,hB] at e
   exact(cA (fun x=>x.2.2.1) (h rest)).trans e
  ·have e:[0,sc,3].map (ix++rest).idxOf=[16,0,15]:=cA (fun x=>x.2.2.2) (h rest)
   obtain⟨e1,e⟩:=List.cons.inj e
   obtain⟨e2,e⟩:=List.cons.inj e
   obtain⟨e3,e⟩:=List.cons.inj e
   unfold σ3 upd at hx
   split at hx
   ·rename_i q;subst q;cases hx
    exact⟨_,q3,cA MV.loc e3⟩
   ·split at hx
    ·rename_i q;subst q;cases hx
     exact⟨_,q2,cA MV.loc e2⟩
    ·split at hx
     ·rename_i q;subst q;cases hx
      exact⟨_,q1,cA MV.loc e1⟩
     ·cases hx
 all_goals cases h0
noncomputable def tB(P:Cw)(l:List Int)(n:Nat)(C k3:Int)(a b c:Bool):Tr:=oy P.K 300 6 300 (wn P.K 1414 9 1 (σA l n C k3 a b c) (HB l n C a b c))
noncomputable abbrev FL:List Nat:=[26,25,43,42,45,44,28,27,14,13,21,20,50,49,15,3,0,22,23,52,2,6,51,16,47,46,48,24,29,31,30,33,35,34,37,39,38,41,53,8,10,12]
noncomputable abbrev FM:List Nat:=[28,27,49,48,51,50,30,29,16,15,23,22,56,55,17,3,0,24,25,58,2,6,57,18,53,52,54,26,31,33,32,35,37,36,39,41,40,43,45,44,47,59,8,10,12,14]
noncomputable abbrev CX(P:Cw)(l:List Int)(k3:Int)(a b c:Bool)(ix:List Nat)(sc n:Nat)(C:Int):Prop:= ∀rest,CW (tB P l n C k3 a b c) ix rest sc=EM (gC l) ix rest sc (hp (bC (v0 n C a b c) 0 (gC l) 3) (DN n) (GN n C))
theorem Ft{C:Int}(h:5≤C∧C≤8):C=5∨C=6∨C=7∨C=8:=by omega
theorem EN(P:Cw)(l:List Int)(k3:Int)(a b c:Bool)(C:Int)(h:5≤C∧C≤8):CX P l k3 a b c FL 26 3 C:=by
 rcases Ft h with rfl|rfl|rfl|rfl<;>exact fun rest=>by kernel_rfl
theorem EP(P:Cw)(l:List Int)(k3:Int)(a b c:Bool)(C:Int)(h:5≤C∧C≤8):CX P l k3 a b c FM 28 4 C:=by
 rcases Ft h with rfl|rfl|rfl|rfl<;>exact fun rest=>by kernel_rfl
theorem EQ(C:Int)(a b c:Bool)(dk:List Int):aE (GN 3 C) (DN 3) (bC (v0 3 C a b c) 0 dk 3) []:=
 ⟨pI (by kernel_rfl) ((show(dT (DN 3) (v0 3 C a b c).grid [] (v0 3 C a b c).grid++[]).map Prod.fst=[0,10,1,2,3,4,5,6,7,8,9,11,12,13] by kernel_rfl)▸ (by decide)),rfl,rfl⟩
theorem ER(C:Int)(a b c:Bool)(dk:List Int):aE (GN 4 C) (DN 4) (bC (v0 4 C a b c) 0 dk 3) []:=
 ⟨pI (by kernel_rfl) ((show(dT (DN 4) (v0 4 C a b c).grid [] (v0 4 C a b c).grid++[]).map Prod.fst=[0,13,1,2,3,4,5,6,7,8,9,10,11,12,14,15,16,17] by kernel_rfl)▸ (by decide)),rfl,rfl⟩
theorem CY{P:Cw}{d:Nat}{l:List Int}{n:Nat}{C k3:Int}{a b c:Bool}{Q:QS}:Wt (CO P (d+2+2*6+2)) (tB P l n C k3 a b c) Q→Wt (CO P (d+2+2*6+2)) (wn P.K 1414 9 1 (σA l n C k3 a b c) (HB l n C a b c)) Q:=jR (x:=P) (d:=d+2) 300 6 300 _
theorem A1(P:Cw)(d:Nat)(l:List Int)(n:Nat)(C k3:Int)(a b c:Bool)(hn:n=3∨n=4)(h:5≤C∧C≤8):Wt (CO P (d+2+2*6+2)) (wn P.K 1414 9 1 (σA l n C k3 a b c) (HB l n C a b c)) (fun fl σ1 H1=>fl= .next∧CV l σ1 H1):=by
 refine CY ?_
 rcases hn with rfl|rfl
 ·refine' wp (by decide) (EN P l k3 a b c C h) (by kernel_rfl) fun σ1 H1 hM=>⟨rfl,_,_,_,_,_,hM,EQ ..,rp 3 C _ _ _ ⟨by decide,h⟩⟩
 ·refine' wp (by decide) (EP P l k3 a b c C h) (by kernel_rfl) fun σ1 H1 hM=>⟨rfl,_,_,_,_,_,hM,ER ..,rp 4 C _ _ _ ⟨by decide,h⟩⟩
noncomputable def Dt(l:List Int)(R C:Int)(a b c:Bool)(i:Nat):Hp:=HA l R C (Ds a b c) (.dict (Ds a b c):: .list ((List.range i).map fun i=> .loc (2*i+8))::((List.replicate i [.list [(bare (-1)).mv],wo C]).flatten++[.list [(bare (-1)).mv]]))
section
variable(P:Cw){d:Nat}{t:Tr}{Q:QS}
noncomputable abbrev kA(k3:Nat):Bool:=decide ((k3:Int).fmod 2=1)
noncomputable abbrev kB(k3:Nat):Bool:=decide (((k3:Int).fdiv 2).fmod 2=1)
noncomputable abbrev kC(k3:Nat):Bool:=decide ((k3:Int).fdiv 4=1)
theorem yI(n:Nat)(h:Wt (CO P (d+16)) (oy P.K 300 4 n t) Q):Wt (CO P (d+16)) t Q:=jR (x:=P) (d:=d+6) 300 4 n t h
theorem sY{x:Str}{i:Nat}{b:Bool}{H:Hp}(He:Bool→Hp)(h:(rt (oy P.K 300 1 300 (jk P.K 1273 [.loc i,.str x,.bool true] H)),rt (oy P.K 300 1 300 (jk P.K 1273 [.loc i,.str x,.bool false] H)))=(some (.none,He true),some (.none,He false)):=by kernel_rfl):Ca (CO P (d+16)) 1273 [.loc i,.str x,.bool b] H (fun v H'=>v= .none∧H'=He b):=by
 refine use (d:=d+15) (jR (x:=P) (d:=d+11) 300 1 300 _ ?_)
 cases b with
 |true=>exact B2 0 (He true) rfl (cA Prod.fst h)
 |false=>exact B2 0 (He false) rfl (cA Prod.snd h)
theorem kY{l:List Int}{R C:Int}{a b c:Bool}(m i:Nat)(j:Nat)(hC:0≤C∧C≤8)(h0:(Dt l R C a b c i)[j]?=some (.list [(bare (-1)).mv])∧(Dt l R C a b c i).length=j+1)(r:Wt (CO P (d+16)) (cont (oy P.K 300 4 m t) (.p (.loc (j+1)) (Dt l R C a b c i++[wo C]))) Q)
  (hr:hd (oy P.K 300 4 m t)=some (bd (cB (Dt l R C a b c i) .Mult (.loc j) (.int C)) fun x=>some (.p x.1 x.2)):=by kernel_rfl):Wt (CO P (d+16)) t Q:=
 yI P m (aY 0 (h0.2▸xN C (-1) h0.1 ⟨hC.1,by apply af [_] [] 0x1f408880 33 132736 hC.2⟩) r hr)
theorem A2(d:Nat)(l:List Int):Wt (CO P (d+16)) (CU P.K 1414 9 [.rol (l.map .int)] []) (fun fl σ1 H1=>fl= .next∧ ∃n C k3 a b c,(n=3∨n=4)∧(5≤C∧C≤8)∧σ1=σA l n C k3 a b c∧H1=HB l n C a b c):=by
 refine' wl 2 [(1,zA l)] 2 (zA l) (fun a=>a.fmod 1000000000) (l.take 63) (List.length_take_le ..) (AZ l) (fun us=>[.dict [],.list (zA l),.list us]) (fun us=>⟨bN rfl,rfl⟩) (fun us us'=>rfl) (fun us a=>my 3 (.ret (.int (a.fmod 1000000000))) (fun _=>none) [.dict [],.list (zA l),.list us] ⟨rfl,rfl⟩) ?_
 refine' pH 1 (pG P (d+15) l ((2:Nat):Int) 0 (by decide) (by decide)) fun k1 h1=> ?_
 refine' pH 0 (pG P (d+15) l ((4:Nat):Int) 1 (by decide) (by decide)) fun k2 h2=> ?_
 refine' pH 1 (pG P (d+15) l ((8:Nat):Int) 2 (by decide) (by decide)) fun k3 h3=> ?_
 refine' aY 6 (q9 (HA l (3+k1) (5+k2) [] [.dict []]) k3 2 ⟨by apply⟨(aV [] [_] 0x102f46a52880020820 1),(af [] [_] 0xe8d4a51000412050 33 132873 h3)⟩,by decide⟩) ?_
 refine' aY 1 (q9 (HA l (3+k1) (5+k2) [] [.dict []]) k3 4 ⟨by apply⟨(aV [] [_] 0x102f46a52880020820 1),(af [] [_] 0xe8d4a51000412050 33 132873 h3)⟩,by decide⟩) ?_
 have hC:5≤(5:Int)+k2∧(5:Int)+k2≤8:=by apply⟨(aV [] [_] 0x40a5180a30 1),(af [] [_] 0x2070294600 33 67337 h2)⟩
 have hC0:0≤(5:Int)+k2∧(5:Int)+k2≤8:=by apply⟨(aV [] [_] 0x40a5180030 1),hC.2⟩
 match k1,h1 with
 |0,_=>
  refine' kY (l:=l) (R:=3) (C:=5+k2) (a:=kA k3) (b:=kB k3) (c:=kC k3) P 5 0 7 hC0 ⟨rfl,rfl⟩ ?_
  refine' kY (l:=l) (R:=3) (C:=5+k2) (a:=kA k3) (b:=kB k3) (c:=kC k3) P 2 1 9 hC0 ⟨rfl,rfl⟩ ?_
  refine' kY (l:=l) (R:=3) (C:=5+k2) (a:=kA k3) (b:=kB k3) (c:=kC k3) P 2 2 11 hC0 ⟨rfl,rfl⟩ ?_
  refine' yI P 11 (cD 0 (sY P (x:= "insert") (i:=14) (b:=kA k3) (H:=HM l 3 (5+k2) (kA k3) (kB k3) (kC k3) []) fun b=>HM l 3 (5+k2) (kA k3) (kB k3) (kC k3) [("insert",.bool b)]) fun _ e=>e▸ ?_)
  refine' yI P 2 (cD 0 (sY P (x:= "reverse_wrap") (i:=14) (b:=kB k3) (H:=HM l 3 (5+k2) (kA k3) (kB k3) (kC k3) [("insert",.bool (kA k3))]) fun b=>HM l 3 (5+k2) (kA k3) (kB k3) (kC k3) [("insert",.bool (kA k3)),("reverse_wrap",.bool b)]) fun _ e=>e▸ ?_)
  refine' yI P 2 (cD 0 (sY P (x:= "reverse_wrap_far") (i:=14) (b:=kC k3) (H:=HM l 3 (5+k2) (kA k3) (kB k3) (kC k3) [("insert",.bool (kA k3)),("reverse_wrap",.bool (kB k3))]) fun b=>HM l 3 (5+k2) (kA k3) (kB k3) (kC k3) [("insert",.bool (kA k3)),("reverse_wrap",.bool (kB k3)),("reverse_wrap_far",.bool b)]) fun _ e=>e▸ ?_)
  refine' yI P 5 (my 0 .next (σA l 3 (5+k2) k3 (kA k3) (kB k3) (kC k3)) (HB l 3 (5+k2) (kA k3) (kB k3) (kC k3)) ⟨rfl,3,5+k2,k3,kA k3,kB k3,kC k3,.inl rfl,hC,rfl,rfl⟩)
 |1,_=>
  refine' kY (l:=l) (R:=4) (C:=5+k2) (a:=kA k3) (b:=kB k3) (c:=kC k3) P 5 0 7 hC0 ⟨rfl,rfl⟩ ?_
  refine' kY (l:=l) (R:=4) (C:=5+k2) (a:=kA k3) (b:=kB k3) (c:=kC k3) P 2 1 9 hC0 ⟨rfl,rfl⟩ ?_
  refine' kY (l:=l) (R:=4) (C:=5+k2) (a:=kA k3) (b:=kB k3) (c:=kC k3) P 2 2 11 hC0 ⟨rfl,rfl⟩ ?_
  refine' kY (l:=l) (R:=4) (C:=5+k2) (a:=kA k3) (b:=kB k3) (c:=kC k3) P 2 3 13 hC0 ⟨rfl,rfl⟩ ?_
  refine' yI P 11 (cD 0 (sY P (x:= "insert") (i:=16) (b:=kA k3) (H:=HM l 4 (5+k2) (kA k3) (kB k3) (kC k3) []) fun b=>HM l 4 (5+k2) (kA k3) (kB k3) (kC k3) [("insert",.bool b)]) fun _ e=>e▸ ?_)
  refine' yI P 2 (cD 0 (sY P (x:= "reverse_wrap") (i:=16) (b:=kB k3) (H:=HM l 4 (5+k2) (kA k3) (kB k3) (kC k3) [("insert",.bool (kA k3))]) fun b=>HM l 4 (5+k2) (kA k3) (kB k3) (kC k3) [("insert",.bool (kA k3)),("reverse_wrap",.bool b)]) fun _ e=>e▸ ?_)
  refine' yI P 2 (cD 0 (sY P (x:= "reverse_wrap_far") (i:=16) (b:=kC k3) (H:=HM l 4 (5+k2) (kA k3) (kB k3) (kC k3) [("insert",.bool (kA k3)),("reverse_wrap",.bool (kB k3))]) fun b=>HM l 4 (5+k2) (kA k3) (kB k3) (kC k3) [("insert",.bool (kA k3)),("reverse_wrap",.bool (kB k3)),("reverse_wrap_far",.bool b)]) fun _ e=>e▸ ?_)
  refine' yI P 5 (my 0 .next (σA l 4 (5+k2) k3 (kA k3) (kB k3) (kC k3)) (HB l 4 (5+k2) (kA k3) (kB k3) (kC k3)) ⟨rfl,4,5+k2,k3,kA k3,kB k3,kC k3,.inr rfl,hC,rfl,rfl⟩)
end
theorem DY.app{G:Hp}{D:Dn}{gs gw:List ar}{last:List Int}{F:As}(h:DY G D gs last gw F)(X:Hp):DY (G++X) D gs last gw F:=by
 refine⟨?_,h.l1,h.l2⟩
 have:=h.sat
 revert this
 generalize dT D gs last gw++F=A
 intro hs
 induction hs with
 |nil=>exact .nil
 |cons h g r ih=>exact .cons (by rw[List.getElem?_append_left (gS h).1];exact h) g ih
noncomputable def zC(K:Frag)(f:Addr):Bool:=(bd (xr K f) fun p=>some (hU K p.1)).getD false
theorem yJ{K:Frag}{f:Addr}{k:Nat}{args:List MV}{H:Hp}{O:dJ}{Q:QS}(h:Wt O (CU K f k args H) Q)(hc:zC K f=true): ∃p σ,xr K f=some p∧hU K p.1=true∧eD K p.1 args=some σ∧Wt O (exsT K p.1.scope.names eN (p.2.take k) σ H .ret) Q:=by
 obtain⟨p,e,h⟩:=bJ h
 obtain⟨σ,es,h⟩:=bJ h
 obtain⟨p',e',hc⟩:=ag (li hc)
 cases e.symm.trans e'
 exact⟨p,σ,e,oI hc,es,h⟩
theorem A3{K:Frag}{f:Addr}{i k:Nat}{σ:aQ}{H:Hp}{p:FuncData×List Stmt}(h:xr K f=some p):wn K f i k σ H=exsT K p.1.scope.names eN ((p.2.drop i).take k) σ H .ret:=by
 unfold wn
 rw[h];rfl
theorem yK{K:Frag}{f:Addr}{k:Nat}{σ:aQ}{H:Hp}{p:FuncData×List Stmt}(h:xr K f=some p):wh K f k σ H=exsT K p.1.scope.names eN (p.2.drop k) σ H .ret:=by
 unfold wh
 rw[h];rfl
section
variable{c:Cx}{O:dJ}{d:Nat}{A:Around}{T:aN}{s:Shared}{σ:aQ}
theorem sZ(hs:cX c.K)(ho:oV c O d){fa:Addr}{oc:Value}{od:Option Addr}{fd:FuncData}{osl:Array (Option Value)}{pre mid post:List Stmt}{xs:List MV}{vs:List Value}{u:MV}
  (hk:c.K.lookup fa=some ⟨oc,od,.func fd,osl⟩) (hb:fd.body= .stmts (pre++(mid++post))) (hc:hU c.K fd=true) (h1:eD c.K fd xs=some σ)
  (h2:Wt O (exsT c.K fd.scope.names eN pre σ [] .ret) (fun fl σ1 H1=>fl= .next∧Wt O (exsT c.K fd.scope.names eN mid σ1 H1 .ret) (fun fl σ1 H1=>fl= .next∧ ∃σ2 B,Ex σ1 H1 σ2 B∧ ∀G,Wt O (exsT c.K fd.scope.names eN post σ2 (B++G) .ret) fun fl _ _=>d6 fl=u)))
  (hA:AO A (d+1)) (XK:c.K.In s.heap) (XG:TopRead c.p c.loose c.mg c.mb s.heap) (Kh:c.K.In (ng s.heap [] [] T)) (Gh:TopRead c.p c.loose c.mg c.mb (ng s.heap [] [] T)) (hT: ∀p∈T,s.heap.get? p.1=some p.2) (ndT:(ai T).Nodup) (r:VRs c.K [] T vs xs):
  codeAny (model c.prog c.w) A (.call (.ref fa) ⟨vs,[]⟩) (fun r s2=> ∃l2 T2 v,r= .ok (.ret v)∧(∀b o,s.heap.get? b=some o→s2.heap.get? b=some o)∧VR c.K (ai l2) T2 v u∧Ok s s2) s:=by
 have x:=ts (O:=O) hs ho
 refine codeAny_mono (wi (R:=fun fl l2 T2 H'=>d6 fl=u∧ ∀p∈T,p∈T2) hs (fun _ _ _ _ q=>q.2) hA XK XG Kh Gh hT ndT r hk hb hc h1 (fun A env f m cel s K=> ?_)) (fun r s2 z=>by
  obtain⟨fl,l2,T2,H',v,⟨q1,q2⟩,q3,q4,q5,q6⟩:=z
  exact⟨l2,T2,v,q3,q4,q1▸q5,q6⟩)
 refine nE x pre eN h2 K (fun σ0 H0 m0 cel0 led0 T0 s0 p K0 e0 o0=>nE x mid eN p K0 (fun σ1 H1 m1 cel1 led1 T1 s1 p K1 e1 o1=> ?_))
 obtain⟨σ2,B,⟨ix,nd,lt,hB⟩,hG⟩:=p
 obtain⟨rest,led2,G,X2,ren⟩:=Ch (show St c f m1 cel1 s1.heap led1 T1 H1 from K1.X) nd lt
 obtain⟨h4,h5⟩:=hB rest
 rw[h4] at X2
 have K2:Cs c d fd.scope.names σ2 A env f m1 [] cel1 led2 T1 (B++G) s1:=⟨K1.A,K1.E,X2,K1.Y.ren ren h5,K1.has,K1.inj⟩
 obtain⟨fl,σ3,H3,r3,q⟩:=(tx x eN).ss (hG G)
 exact wpAny_mono (r3 A env f m1 [] cel1 led2 T1 s1 K2) (fun fw s2 z=>by
  obtain⟨m2,cel2,l2,T2,K3,e3,o3,r4⟩:=z
  exact⟨fl,m2,cel2,l2,T2,σ3,H3,⟨q,fun p hp=>e3.sub p (e1 p (e0 p hp))⟩,K3,o0.trans (o1.trans o3),r4⟩) bG
end
theorem s7(P:Cw){T:aN}{s:Shared}{A:Around}{vs:List Value}(l:List Int)(hA:AO A 17)(XK:P.c.K.In s.heap)(XG:TopRead P.c.p P.c.loose P.c.mg P.c.mb s.heap)(Kh:P.c.K.In (ng s.heap [] [] T))(Gh:TopRead P.c.p P.c.loose P.c.mg P.c.mb (ng s.heap [] [] T))(hT: ∀p∈T,s.heap.get? p.1=some p.2)(ndT:(ai T).Nodup)(r:VRs P.c.K [] T vs [.rol (l.map .int)]):
  codeAny (model P.c.prog P.c.w) A (.call (.ref 1414) ⟨vs,[]⟩) (fun r s2=>r= .ok (.ret (.bool true))∧(∀b o,s.heap.get? b=some o→s2.heap.get? b=some o)∧Ok s s2) s:=by
 obtain⟨p,σ,hf,hc,hs,hw⟩:=yJ (A2 P 0 l) (show zC P.K 1414=true by kernel_rfl)
 obtain⟨oc,od,osl,hk,hb⟩:=uz hf
 obtain⟨fd,b⟩:=p
 have e:P.c.K=P.K:=P.ok
 refine codeAny_mono (sZ (c:=P.c) (O:=CO P 16) (d:=16) (u:= .bool true) (pre:=b.take 9) (mid:=(b.drop 9).take 1) (post:=b.drop 10) (e▸qx _) (CO.is P 16) (e.symm▸hk) (by rw[show b.drop 10=(b.drop 9).drop 1 from(List.drop_drop (i:=1) (j:=9) (l:=b)).symm,List.take_append_drop,List.take_append_drop];exact hb) (e.symm▸hc) (e.symm▸hs) ?_ hA XK XG Kh Gh hT ndT r) (fun r s2 z=> ?_)
 ·rw[e]
  refine Wt.mono _ (fun fl σ1 H1 q=> ?_) hw
  obtain⟨q,n,C,k3,a1,a2,a3,hn,hC,rfl,rfl⟩:=q
  have w:=A1 P 0 l n C k3 a1 a2 a3 hn hC
  rw[A3 hf] at w
  refine⟨q,Wt.mono _ (fun fl σ1 H1 q=>⟨q.1,?_⟩) w⟩
  obtain⟨v,R,C,D,G,hM,hG,I⟩:=q.2
  refine⟨σ3,_,hM,fun G2=> ?_⟩
  have:=AV P 1 (by decide) (DY.app hG G2:aE (G++G2) D (bC v 0 (gC l) 3) []) I
  rw[yK hf] at this
  exact this
 ·obtain⟨l2,T2,v,q1,q2,q3,q4⟩:=z
  subst q1
  cases q3
  exact⟨rfl,q2,q4⟩
noncomputable abbrev wq:OpenRow:=PySem.Challenge.rw_rh0242_01.row
theorem wu(P:Params):((KK P).all fun p=>!(p.2.cls== .type "list"))=true:=by kernel_rfl
theorem A4(P:Params):(match(uU P).data with
  | .dict es _=>nsFind es "law"
  |_=>none)=some (.ref 1414):=by kernel_rfl
theorem yL{P:Params}{h:Heap}{K:Frag}{T:aN}{vs:List Value}{xs:List WData}(w:WellAll P h vs xs):WShape.hasItems [] xs .int=true→ ∃l:List Int,l.length=xs.length∧VRs K [] T vs (l.map .int):=by
 revert w
 induction xs generalizing vs with
 |nil=>
  intro w _
  cases w
  exact⟨[],rfl,.nil⟩
 |cons d xs ih=>
  intro w h
  have h2:WShape.has [] d .int=true∧WShape.hasItems [] xs .int=true:=Bool.and_eq_true_iff.mp h
  cases w with
  |cons a r=>
   obtain⟨l,e,q⟩:=ih r h2.2
   cases d with
   |int i=>
    cases a with
    |int _ t=>exact⟨i::l,cA (·+1) e,.cons (.int i t) q⟩
   |_=>exact absurd h2.1 Bool.false_ne_true
theorem nf{h:Heap}{a b:Addr}{m:Str→Option Value}{its:Array Value}{n:Nat}(hn:h.Ns a m)(hb:h.get? b=some (listOf its n)):a≠b∧(hideAll h [b]).Ns a m:=by
 obtain⟨o,es,ep,e,r1,r2⟩:=hn
 have hab:a≠b:=fun q=>by
  subst q
  rw[hb] at e
  cases e
  cases r1
 exact⟨hab,o,es,ep,hideAll_get _ e (fun q=>hab (List.mem_singleton.mp q)),r1,r2⟩
theorem s8(args:List WData):wq.toRowW.claim.post args (.bool true) args=true:=by kernel_rfl
set_option backward.match.sparseCases true in
theorem oA{args:List WData}(h:wq.toRowW.claim.pre args=true): ∃xs,args=[.list xs]∧WShape.hasItems [] xs .int=true∧xs.length≤63:=by
 obtain⟨h1,h2⟩:=pre_splitW h
 have h2:(WTm.and (.not (.lt (.lit (.int 63)) (.len (.arg 0)))) (.lit (.bool true))).holds [] {args:=args}=true:=h2
 cases args with
 |nil=>exact absurd (show false=true from h1) Bool.false_ne_true
 |cons d r=>
  obtain⟨h3,h4⟩:=Bool.and_eq_true_iff.mp (show(WShape.has [] d (.list .int)&&WShape.hasAll [] r [])=true from h1)
  cases r with
  |cons e r=>exact absurd (show false=true from h4) Bool.false_ne_true
  |nil=>
   cases d with
   |list xs=>
    refine⟨xs,rfl,(Bool.or_false _).symm.trans h3,?_⟩
    have h4:(match(some (.bool (!decide ((63:Int)<xs.length))):Option WData) with
     |some (.bool true)=>true
     |_=>false)=true:=(holds_andW h2).1
    cases e:decide ((63:Int)<xs.length) with
    |true=>rw[e] at h4;cases h4
    |false=>exact Int.ofNat_le.mp (Int.not_lt.mp (of_decide_eq_false e))
   |_=>exact absurd (show false=true from h3) Bool.false_ne_true
theorem oB{a:Addr}{o:Obj}: ∀ {K:Frag},K.lookup a=some o→(a,o)∈K
 |(b,o')::K,h=>by
  rw[List.lookup_cons] at h
  cases e:a==b with
  |true=>
   rw[e] at h
   cases h
   cases eq_of_beq e
   exact .head _
  |false=>
   rw[e] at h
   exact .tail _ (oB h)
theorem A5{P:Params}{b:Addr}{h:Heap}{its:Array Value}{n:Nat}(Y:(KK P).In h)(hb:h.get? b=some (listOf its n)):(KK P).lookup b=none:=by
 cases e:(KK P).lookup b with
 |none=>rfl
 |some o=>
  have h1:=Y b o e
  rw[hb] at h1
  cases h1
  have:=List.all_eq_true.mp (wu P) (b,listOf its n) (oB e)
  cases this
theorem A6{P:Params}{b:Addr}{h:Heap}{its:Array Value}{n:Nat}(Y:(KK P).In h)(hb:h.get? b=some (listOf its n)):(KK P).In (hideAll h [b]):=fun a o e=>
 hideAll_get _ (Y a o e) fun q=>by
  rw[List.mem_singleton.mp q,A5 Y hb] at e
  cases e
noncomputable def ES(w:World)(q:Program)(loose:List Str)(mg mb:Str→Option Value):Cw:=⟨⟨pw,w,KK w.params,q,loose,mg,mb⟩,rfl⟩
theorem wv{w:World}{s:Shared}{q:Program}{loose:List Str}{mean:ExcName→Option Value}{mg mb:Str→Option Value}(TT:Top q loose mean mg mb s.heap)(Y:(KK w.params).In s.heap){args:List WData}{vs:List Value}(hp:wq.toRowW.claim.pre args=true)
  (hw:WellAll w.params s.heap vs args) (hlo: ∀b,vs=[.ref b]→b≠sysModules):
  codeAny (model pw w) callerA (.call (.ref 1414) ⟨vs,[]⟩) (fun r s2=>r= .ok (.ret (.bool true))∧(∀b o,s.heap.get? b=some o→s2.heap.get? b=some o)∧Ok s s2) s:=by
 obtain⟨xs,rfl,h1,h2⟩:=oA hp
 cases hw with
 |cons a r=>
  cases r
  cases a with
  | @list b vs1 xs1 hb hv=>
   obtain⟨l,el,hl⟩:=yL (K:=KK w.params) (T:=[(b,listOf vs1.toArray 0)]) hv h1
   have G:=topRead_of TT
   obtain⟨n3,g3⟩:=nf G.g hb
   obtain⟨n0,g0⟩:=nf G.b hb
   obtain⟨mc,hc,ec⟩:=G.nolimit
   obtain⟨n2,g2⟩:=nf hc hb
   have n1:=hlo b rfl
   have low:3<b:=by
    have e0:builtinsNs=0:=rfl
    have e1:sysModules=1:=rfl
    have e2:cStatics=2:=rfl
    have e3:mainGlobals=3:=rfl
    rw[e0] at n0
    rw[e1] at n1
    rw[e2] at n2
    rw[e3] at n3
    have:b≠0∧b≠1∧b≠2∧b≠3:=⟨n0.symm,n1,n2.symm,n3.symm⟩
    match b,this with
    |0,h|1,h|2,h|3,h=>simp at h
    |n+4,_=>exact Nat.le_add_left 4 n
   have hlen:vs1.length≤dK:=by
    have:=hl.len
    have e:dK=4096:=by unfold dK;rfl
    rw[lM,el] at this
    rw[e,this]
    exact Nat.le_trans h2 (by decide)
   exact s7 (ES w q loose mg mb) (T:=[(b,listOf vs1.toArray 0)]) l ⟨rfl,by decide,by decide⟩ Y G (A6 Y hb) ⟨g3,g0,⟨mc,g2,ec⟩,G.builtins,G.free⟩ (fun p hp=>by
    cases List.mem_singleton.mp hp
    exact hb) (by simp[ai]) (.cons (.rol low (.head _) hlen hl) .nil)
noncomputable def A7(st:SharedT→Thread→Option (SharedT×Thread))(ok:Thread→Bool)(N:Nat):SharedT→Thread→Option SharedT:=
 Nat.rec (fun _ _=>none) (fun _ ih s t=>match through t with
  |true=>some s
  |false=>match ok t with
   |false=>none
   |true=>match st s t with
    |some r=>ih r.1 r.2
    |none=>none) N
theorem rx{p:Program}{w:World}{n₀:Nat}{ann:Option Value}{st:SharedT→Thread→Option (SharedT×Thread)}{ok:Thread→Bool}(h1: ∀s t,st s t=stepT (denote treeTable) p w s t)(h2: ∀t,ok t=stepOk n₀ ann t):
  ∀ (N:Nat) (s s':SharedT) (t:Thread),A7 st ok N s t=some s'→topRun treeTable p w n₀ ann N s.abs t=some s'.abs
 |0,_,_,_,h=>by cases h
 |N+1,s,s',t,h=>by
  unfold topRun
  change (match through t with
   |true=>some s
   |false=>match ok t with
    |false=>none
    |true=>match st s t with
     |some r=>A7 st ok N r.1 r.2
     |none=>none)=some s' at h
  cases ht:through t with
  |true=>rw[ht] at h;cases h;rfl
  |false=>
   rw[ht] at h
   rw[h2 t] at h
   cases hk:stepOk n₀ ann t with
   |false=>rw[hk] at h;cases h
   |true=>
    rw[hk,h1] at h
    cases hs:stepT (denote treeTable) p w s t with
    |none=>rw[hs] at h;cases h
    |some r=>
     rw[hs] at h
     obtain⟨s₂,t₂⟩:=r
     rw[show step (denote treeTable) p w s.abs t=_ from stepT_spec hs]
     exact rx h1 h2 N s₂ s' t₂ h
noncomputable abbrev ET(p:Program)(w:World):SharedT→Thread→Option (SharedT×Thread):=PySem.W.Fast.tw10156331382660048174 (PySem.W.Fast.tw11892475500146522536 PySem.W.Fast.tw14364793385576792824) p w
theorem A8(p:Program)(w:World)(s:SharedT)(t:Thread):ET p w s t=stepT (denote treeTable) p w s t:=by
 unfold ET
 rw[←PySem.W.Fast.te10156331382660048174,←PySem.W.Fast.te11892475500146522536,←PySem.W.Fast.te14364793385576792824]
noncomputable abbrev EU(n₀:Nat)(ann:Option Value):Thread→Bool:=PySem.W.Fast.tw6613529449190102663 n₀ ann
theorem A9(n₀:Nat)(ann:Option Value)(t:Thread):EU n₀ ann t=stepOk n₀ ann t:=by
 unfold EU
 rw[←PySem.W.Fast.te6613529449190102663]
noncomputable def EV(l:List Obj):BT×Nat:=List.rec (fun r=>r) (fun o _ ih r=>ih (r.1.ins r.2 o,r.2+1)) l (.nil,0)
noncomputable def S0(P:Params)(os:OsState):SharedT:=⟨(EV (boot_heap P).objs.toList).1,(boot_heap P).objs.size,(boot_heap P).life,#[],boot_drawn,boot_toks,os⟩
set_option backward.match.sparseCases true
noncomputable def qv:Program:={pw with main:={pw.main with body:=[bY 96]}}
noncomputable def f6:List Str:=(["_wall","NO_COLOUR","PLAIN","BACK","BLANK","TermError","BadSize","clamp","erased_pen","blank_cell","is_blank","is_plain_blank","WIDTH_JOINER","WIDTH_PICTURE","WIDTH_KEYCAP","FIRST_MODIFIER","LAST_MODIFIER","FIRST_REGION","LAST_REGION","WIDTH_KEYS","width_in_ranges","width_check_ranges","WidthTable","is_region","is_modifier","width_bare","joins","cluster_width","ASCII_SET","SUPPLEMENT_SET","LATIN_SET","LEFT_FIRST","LEFT_LAST","RIGHT_FIRST","RIGHT_LAST","HIGH_BIT","charset_pairs","charset_drawing","charset_supplement","charset_national","charset_table","Charsets","charset_on_right","TAB_WIDTH","Cursor","Margins","Tabs","LINE_SIZES","line_blanks","right_half","line_part","line_slice","line_codes","Line","Grid","grid_cut","grid_mended","WIDE_SIZES","Screen","edit_is_within","shift_left","shift_right","back_index","forward_index","MOUSE_MODES","MOUSE_ENCODINGS","FIRST_ON","modes_group","Modes","_law_take","_law_bare","_law_cut","_law_first","_law_last","_law_scrolled","_law_shifted","_law_feed","_law_wrapped","_law_written","_law_marked","_law_back","_law_sideways","_law_margins","_law_signs","_law_again","_law_turned","_law_deed","_law_is_so"]:List String).map Str.ofString
noncomputable def i9:List Nat:=[3,22,61,62,68,69,75,76,99,105,106,112,113,126,127,133,134,143,144,213,214,222,228,229,235,236,242,243,286,292,293,302,303,327,328,358,359,376,377,383,384,390,391,418,419,425,426,432,433,439,440,491,492,509,510,516,517,590,591,596,602,603,609,610,616,617,644,645,666,667,673,674,682,688,689,695,696,702,703,709,710,755,756,771,772,778,779,792,793,797,798,804,805,811,812,818,819,825,826,832,833,839,840,846,847,853,854,855,861,862,904,905,915,916,922,923,924,932,938,939,945,946,952,953,959,960,966,967,973,974,987,988,994,995,1001,1002,1015,1016,1022,1023,1029,1030,1036,1037,1043,1044,1050,1051,1057,1058,1064,1065,1071,1072,1078,1079,1085,1086,1106,1107,1143,1144,1150,1151,1157,1158,1195,1196,1206,1207,1213,1214,1220,1221,1227,1228,1234,1235,1236,1237,1238,1244,1245,1258,1259,1265,1266,1272,1273,1275,1276,1286,1287,1293,1294,1300,1301,1307,1308,1314,1315,1319,1320,1326,1327,1333,1334,1340,1341,1347,1348,1354,1355,1361,1362,1368,1369,1375,1376,1382,1383,1389,1390,1396,1397,1403,1404,1408,1409,1413,1414]
noncomputable def Yf(s:Shared):List (Option Obj):=i9.map fun a=>s.heap.get? a
noncomputable def Ya(w:World):List (Option Obj):=(KK w.params).map fun p=>some p.2
theorem CZ(P:Params):i9=(KK P).map (·.1):=by kernel_rfl
theorem Ba:(i9.all fun a=>Nat.blt a 1415)=true:=by kernel_rfl
theorem yM(P:Params):((KK P).all fun p=>match p.2.data with
  | .freed=>false
  |_=>true)=true:=by kernel_rfl
noncomputable def C4(w:World)(s:SharedT):=(staticsOk [] (boot_heap w.params) s.abs.heap&&namesBound pw s.abs.heap&&gensDone s.abs&&laidKept (boot_heap w.params) s.abs.heap&&Nat.ble 1415 s.n,PySem.W.Fast.tw4187177175401517315 qv f6 [] (fun _=>true) true s.abs,i9.map fun a=>s.tree.get a)
noncomputable def ww(w:World):Prop:= ∀os:OsState,(A7 (ET pw w) (EU 11 (some (.ref 6))) 9000 (S0 w.params os) (topStub pw)).map (C4 w)=some (true,openGood qv f6,Ya w)
theorem Bb(w:World):ww (w.withFollow "special-get-raises" false):=fun os=>by kernel_rfl
theorem Bc(w:World):ww (w.withFollow "special-get-raises" true):=fun os=>by kernel_rfl
theorem Bd(w:World):ww w:=byRow2 "special-get-raises" Bb Bc w
theorem pJ{tb:String→Option Builtin}{p:Program}{w:World}{N:Nat}{s₀ s₁:Shared}(h0:(s₀.heap.isNs mainGlobals&&s₀.gens.size==0)=true)(h1:topRun tb p w s₀.heap.objs.size (s₀.heap.nsMap mainGlobals "__annotations__") N s₀ (topStub p)=some s₁)
  (h2:(staticsOk (importedModules p.main.body) s₀.heap s₁.heap&&namesBound p s₁.heap&&gensDone s₁&&laidKept s₀.heap s₁.heap)=true):topFrom tb p w N s₀=some s₁:=by
 unfold topFrom
 rw[h0]
 show(topRun tb p w _ _ N s₀ (topStub p)).bind _=_
 rw[h1]
 show(match _ with
  |true=>some s₁
  |false=>none)=_
 rw[h2]
theorem C5(P:Params)(os:OsState):(S0 P os).abs=⟨boot_heap P,.mk [],boot_drawn,boot_toks,os⟩:=by kernel_rfl
theorem Be(P:Params):(boot_heap P).objs.size=11:=by kernel_rfl
theorem C6(P:Params):(boot_heap P).nsMap mainGlobals "__annotations__" =some (.ref 6):=by kernel_rfl
theorem EW(P:Params):((boot_heap P).isNs mainGlobals&& (Array.mk ([]:List GenState)).size==0)=true:=by kernel_rfl
theorem wx:importedModules pw.main.body=[]:=by kernel_rfl
theorem Bf:opening pw=plainProg pw.main.scope.names:=by kernel_rfl
theorem yN(s:Shared):fenceModules? pw s=some s:=by kernel_rfl
theorem wy{o:Obj}(h:(match o.data with
  | .freed=>false
  |_=>true)=true):alive o=some o:=by
 obtain⟨c,d,dt,sl⟩:=o
 cases dt<;>first|rfl|cases h
noncomputable def Bg(p:Nat×Obj):Bool:=match p.2.data with
 | .freed=>false
 |_=>true
theorem wz{s:SharedT}{n:Nat}(hn:Nat.ble n s.n=true): ∀ (as:List Nat) (K:List (Nat×Obj)),(as.all fun a=>Nat.blt a n)=true→K.all Bg=true→(as.map fun a=>s.tree.get a)=(K.map fun p=>some p.2)→(as.map fun a=>s.abs.heap.get? a)=K.map fun p=>some p.2:=by
 intro as
 induction as with
 |nil=>intro K _ _ h3;cases K with
  |nil=>rfl
  |cons p K=>cases h3
 |cons a as ih=>
  intro K h1 h2 h3
  cases K with
  |nil=>cases h3
  |cons p K=>
   rw[List.all_cons,Bool.and_eq_true_iff] at h1 h2
   rw[List.map_cons,List.map_cons] at h3
   obtain⟨c1,c2⟩:=List.cons.inj h3
   have h4:s.abs.heap.get? a=alive p.2:=abs_get (Nat.lt_of_lt_of_le (Nat.le_of_ble_eq_true h1.1) (Nat.le_of_ble_eq_true hn)) c1
   rw[List.map_cons,List.map_cons,h4,wy h2.1,ih K h1.2 h2.2 c2]
theorem left:LeftO pw qv f6 (fun _=>true) Yf Ya 9000:=fun w=>by
 obtain⟨s,hs,hv⟩:=Option.map_eq_some_iff.mp (boot_open (p:=pw) (N:=9000) Bf rfl yN w)
 obtain⟨heap,gens,drawn,toks,os⟩:=s
 simp only[Prod.mk.injEq] at hv
 obtain⟨rfl,rfl,rfl,rfl⟩:=hv
 obtain⟨s',h1,h2⟩:=Option.map_eq_some_iff.mp (Bd w os)
 have h3:=rx (A8 pw w) (A9 11 (some (.ref 6))) 9000 _ _ _ h1
 rw[C5] at h3
 obtain⟨q1,q2,q3⟩:(staticsOk [] (boot_heap w.params) s'.abs.heap&&namesBound pw s'.abs.heap&&gensDone s'.abs&&laidKept (boot_heap w.params) s'.abs.heap&&Nat.ble 1415 s'.n)=true∧PySem.W.Fast.tw4187177175401517315 qv f6 [] (fun _=>true) true s'.abs=openGood qv f6∧(i9.map fun a=>s'.tree.get a)=Ya w:=
  ⟨cA Prod.fst h2,cA (fun x=>x.2.1) h2,cA (fun x=>x.2.2) h2⟩
 obtain⟨q1,q4⟩:=Bool.and_eq_true_iff.mp q1
 unfold openEnds
 rw[hs]
 show((topFrom treeTable pw w 9000 ⟨boot_heap w.params,.mk [],boot_drawn,boot_toks,os⟩).map _)=_
 rw[pJ (s₁:=s'.abs) (EW w.params) (by rw[Be,C6];exact h3) (by rw[wx];exact q1)]
 show some (openSeen qv f6 (importedModules pw.main.body) (fun _=>true) true s'.abs,Yf s'.abs)=_
 rw[wx,PySem.W.Fast.te4187177175401517315,q2,show Yf s'.abs=Ya w from wz q4 i9 (KK w.params) Ba (yM w.params) q3]
noncomputable abbrev Fu:(Str→Option Value)→Heap→Prop:=fun _ _=>True
theorem wA:((defOf qv "law").map fun x=>some (x.1.params,x.1.body,x.1.scope))=some (pw.theDef "law"):=by kernel_rfl
theorem wB:((defOf qv "law").map fun x=>kwWritten? x.1.params.kwonlyargs x.1.params.kw_defaults)=some (some []):=by kernel_rfl
theorem wC:((defOf qv "law").map fun x=>x.2)=some []:=by kernel_rfl
theorem C7:(chainsOk qv&&opensWell wq.prog&& (frees wq.toRowW&&wq.within.isEmpty))=true:=by kernel_rfl
theorem Bh:wq.prog.bare:=⟨rfl,rfl,rfl,rfl,rfl,by decide+kernel⟩
theorem promised:wq.toRowW.promised:=⟨[.list [.int 3,.int 1]],by decide+kernel,by decide+kernel⟩
theorem in_of(w:World)(s:Shared)(e:Yf s=Ya w):(KK w.params).In s.heap:=Frag.in_of (CZ w.params) e
theorem yO{P:Params}{h:Heap}{mg:Str→Option Value}(Y:(KK P).In h)(g:h.Ns mainGlobals mg){a:Addr}(e:mg "law" =some (.ref a)):a=1414:=by
 obtain⟨o,es,ep,h1,h2,h3,h4⟩:=g
 have h5:=Y 3 (uU P) rfl
 rw[show h.get? 3=some o from h1] at h5
 cases h5
 have h6:=A4 P
 rw[h2] at h6
 have h7:=(h4 "law").symm.trans h6
 rw[e] at h7
 cases h7
 rfl
theorem EX{d:DefRec}{kwd:List (Str×Expr)}(hd:defOf qv wq.name=some (d,kwd)):WalkO qv f6 Fu (fun w h=>(KK w.params).In h) wq.toRowW d kwd fun f vs=>PySem.call f vs:=by
 intro w s₀ s₁ mg mb G Y a o pm cd doc dV kV h1 h2 h3 h4 h5 hg args vs as hp hlay hrd hwl hlo
 have e:a=1414:=yO Y G.T.g ((cA mg ((defOf_name hd).trans (show wq.name= "law" from rfl))).symm.trans h5)
 subst e
 refine enter_call (codeAny_mono (wv G.T Y hp hwl (fun b eb q=> ?_)) fun r s2 z=> ?_)
 ·obtain⟨xs,rfl,_⟩:=oA hp
  subst eb
  cases hrd with
  |cons r1 r2=>
   cases r1
   have:=hlo b (.head _)
   rw[q] at this
   cases this
 ·obtain⟨z1,z2,h',t',z3⟩:=z
  subst z1 z3
  exact⟨.inl ⟨.bool true,.bool true,[],rfl,fun _=>rfl,.bool true,s8 args,fun _=>⟨.nil,fun _ h=>nomatch h⟩⟩,.of_keep z2,rfl,.of_eq hg⟩
theorem Bi:PySem.Challenge.rw_rh0242_01.wellSaid=true:=by
 delta OpenLaw.wellSaid OpenRow.wellSaid OpenRow.partSaid looksOpen
 repeat' with_reducible (refine look_both ?_ ?_)
 all_goals decide+kernel
end Mine.Internal
theorem PySem.Challenge.cw_rh0242_01_holds : PySem.Challenge.rw_rh0242_01.Holds :=
 holds_law Mine.Internal.Bi fun Bi=>by
  obtain⟨⟨d,kwd⟩,hd,e1⟩:=Option.map_eq_some_iff.mp Mine.Internal.wA
  have e2:=Mine.Internal.wB
  have e3:=Mine.Internal.wC
  rw[hd] at e2 e3
  cases Option.some.inj e3
  exact holds_open (q:=Mine.Internal.qv) (loose:=Mine.Internal.f6) (XP:=Mine.Internal.Fu) (YP:=fun w h=>(Mine.Internal.KK w.params).In h) (N:=9000) Mine.Internal.left Mine.Internal.in_of (fun _ _ _ x k=>x.keeps k) (fun _ _=>trivial) (fun _ _ _ _ _=>trivial)
   hd e1.symm (Option.some.inj e2) (fun _ _=>recFacts_nil rfl) rfl Bi Mine.Internal.C7 Mine.Internal.Bh Mine.Internal.promised (Mine.Internal.EX hd)
