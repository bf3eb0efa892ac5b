import PyProof.Rows.All
import OpenK.AllK
import KE.KDictSum
import KE.LcSums
import KE.KRevIter
import PyProof.EnumFor
import PyProof.RangeFor
import PyProof.StrLoop
import Wide.All
import Wide.FinOn
import PyProof.TableCode
import KE.FramesApart
import PySem.Challenge.RW_pq0329_01
set_option tactic.hygienic false
set_option linter.all false
set_option autoImplicit false
set_option maxRecDepth 100000
set_option genInjectivity false
set_option genSizeOf false
namespace Mine
theorem I2{a b:Prop}(x:a)(y:b):a∧b:=⟨x,y⟩
theorem nS {α:Type} {a:α} {P:Prop} (h:none=some a):P:=nomatch h
theorem sN {α:Type} {a:α} {P:Prop} (h:some a=none):P:=nomatch h
theorem fT {P:Prop} (h:false=true):P:=nomatch h
theorem tF {P:Prop} (h:true=false):P:=nomatch h
theorem nN {a b:Nat} {P:Prop} (h:a=b) (hb:Nat.beq a b=false):P:=absurd h (Nat.ne_of_beq_eq_false hb)
inductive NE | k (n:Nat) | v (i:Nat) | a (x y:NE) | m (k:Nat) (x:NE)
inductive IE | k (n:Int) | v (i:Nat) | c (x:NE) | a (x y:IE) | s (x y:IE) | g (x:IE) | m (k:Int) (x:IE)
noncomputable abbrev N0:NE:=.v 0
noncomputable abbrev N1:NE:=.v 1
noncomputable abbrev N2:NE:=.v 2
noncomputable abbrev N3:NE:=.v 3
noncomputable abbrev N4:NE:=.v 4
noncomputable abbrev N5:NE:=.v 5
noncomputable abbrev N6:NE:=.v 6
noncomputable abbrev N7:NE:=.v 7
noncomputable abbrev N8:NE:=.v 8
noncomputable abbrev N9:NE:=.v 9
noncomputable abbrev N10:NE:=.v 10
noncomputable abbrev N11:NE:=.v 11
noncomputable abbrev J0:IE:=.v 0
noncomputable abbrev J1:IE:=.v 1
noncomputable abbrev J2:IE:=.v 2
noncomputable abbrev J3:IE:=.v 3
noncomputable abbrev J4:IE:=.v 4
noncomputable abbrev J5:IE:=.v 5
noncomputable abbrev J6:IE:=.v 6
noncomputable abbrev J7:IE:=.v 7
noncomputable abbrev J8:IE:=.v 8
noncomputable abbrev J9:IE:=.v 9
noncomputable abbrev J10:IE:=.v 10
noncomputable abbrev J11:IE:=.v 11
noncomputable def at' {α:Type} (d:α):List α→Nat→α
 | [],_=>d
 | x::_,0=>x
 | _::r,n+1=>at' d r n
noncomputable def NE.ev (c:List Nat):NE→Nat
 | .k n=>n
 | .v i=>at' 0 c i
 | .a x y=>x.ev c+y.ev c
 | .m j x=>j * x.ev c
noncomputable def IE.ev (c:List Nat) (z:List Int):IE→Int
 | .k n=>n
 | .v i=>at' 0 z i
 | .c x=>(x.ev c:Nat)
 | .a x y=>x.ev c z+y.ev c z
 | .s x y=>x.ev c z - y.ev c z
 | .g x=>- x.ev c z
 | .m j x=>j * x.ev c z
structure Po where
 k:Int
 a:List Int
 b:List Int
noncomputable def vad:List Int→List Int→List Int
 | [],y=>y
 | x::r,y=>match y with | []=>x::r | b::s=>(x+b)::vad r s
noncomputable def dot (f:Nat→Int):Nat→List Int→Int
 | _,[]=>0
 | i,x::r=>x * f i+dot f (i+1) r
noncomputable def one':Nat→List Int
 | 0=>[1]
 | n+1=>0::one' n
noncomputable def Po.ad (p q:Po):Po:=⟨p.k+q.k,vad p.a q.a,vad p.b q.b⟩
noncomputable def Po.sc (k:Int) (p:Po):Po:=⟨k * p.k,p.a.map (k * ·),p.b.map (k * ·)⟩
noncomputable def Po.ev (c:List Nat) (z:List Int) (p:Po):Int:=p.k+dot (fun i=>(at' 0 c i:Nat)) 0 p.a+dot (at' 0 z) 0 p.b
theorem eU (f:Nat→Int):∀ (x y:List Int) (i:Nat),dot f i (vad x y)=dot f i x+dot f i y
 | [],y,i=>(Int.zero_add _).symm
 | x::r,[],i=>(Int.add_zero _).symm
 | x::r,b::s,i=>by
  show (x+b) * f i+dot f (i+1) (vad r s)=x * f i+dot f (i+1) r+(b * f i+dot f (i+1) s)
  rw [eU f r s,Int.add_mul,Int.add_assoc,Int.add_assoc,Int.add_left_comm (b * f i)]
theorem eV (f:Nat→Int) (k:Int):∀ (x:List Int) (i:Nat),dot f i (x.map (k * ·))=k * dot f i x
 | [],i=>(Int.mul_zero _).symm
 | x::r,i=>by
  show k * x * f i+dot f (i+1) (r.map (k * ·))=k * (x * f i+dot f (i+1) r)
  rw [eV f k r,Int.mul_add,Int.mul_assoc]
theorem dM (f:Nat→Int):∀ (n i:Nat),dot f i (one' n)=f (i+n)
 | 0,i=>by show 1 * f i+0=_;rw [Int.one_mul,Int.add_zero];rfl
 | n+1,i=>by show 0 * f i+dot f (i+1) (one' n)=_;rw [Int.zero_mul,Int.zero_add,dM f n,Nat.add_assoc,Nat.add_comm 1]
section
variable {c:List Nat} {z:List Int}
theorem Po.ev_ad (p q:Po):(p.ad q).ev c z=p.ev c z+q.ev c z:=by
 show p.k+q.k+dot _ 0 (vad p.a q.a)+dot _ 0 (vad p.b q.b)=p.k+dot _ 0 p.a+dot _ 0 p.b+(q.k+dot _ 0 q.a+dot _ 0 q.b)
 rw [eU,eU];omega
theorem Po.ev_sc (k:Int) (p:Po):(p.sc k).ev c z=k * p.ev c z:=by
 unfold Po.ev Po.sc
 rw [eV,eV,Int.mul_add,Int.mul_add]
noncomputable def NE.po:NE→Po
 | .k n=>⟨n,[],[]⟩
 | .v i=>⟨0,one' i,[]⟩
 | .a x y=>x.po.ad y.po
 | .m j x=>x.po.sc j
noncomputable def IE.po:IE→Po
 | .k n=>⟨n,[],[]⟩
 | .v i=>⟨0,[],one' i⟩
 | .c x=>x.po
 | .a x y=>x.po.ad y.po
 | .s x y=>x.po.ad (y.po.sc (-1))
 | .g x=>x.po.sc (-1)
 | .m j x=>x.po.sc j
theorem NE.ok:∀ x:NE,x.po.ev c z=(x.ev c:Nat)
 | .k n=>by show (n:Int)+0+0=n;omega
 | .v i=>by show (0:Int)+dot _ 0 (one' i)+0=_;rw [dM,Nat.zero_add,Int.zero_add,Int.add_zero];rfl
 | .a x y=>by show (x.po.ad y.po).ev c z=((x.ev c+y.ev c:Nat):Int);rw [Po.ev_ad,x.ok,y.ok,Int.natCast_add]
 | .m j x=>by show (x.po.sc j).ev c z=((j * x.ev c:Nat):Int);rw [Po.ev_sc,x.ok,Int.natCast_mul]
theorem IE.ok:∀ x:IE,x.po.ev c z=x.ev c z
 | .k n=>by show (n:Int)+0+0=n;omega
 | .v i=>by show (0:Int)+0+dot _ 0 (one' i)=_;rw [dM,Nat.zero_add,Int.zero_add,Int.zero_add];rfl
 | .c x=>x.ok
 | .a x y=>by show (x.po.ad y.po).ev c z=x.ev c z+y.ev c z;rw [Po.ev_ad,x.ok,y.ok]
 | .s x y=>by show (x.po.ad (y.po.sc (-1))).ev c z=x.ev c z - y.ev c z;rw [Po.ev_ad,Po.ev_sc,x.ok,y.ok];omega
 | .g x=>by show (x.po.sc (-1)).ev c z=- x.ev c z;rw [Po.ev_sc,x.ok];omega
 | .m j x=>by show (x.po.sc j).ev c z=j * x.ev c z;rw [Po.ev_sc,x.ok]
inductive LnF | leN (x y:NE) | ltN (x y:NE) | eqN (x y:NE) | leI (x y:IE) | ltI (x y:IE) | eqI (x y:IE) | n (f:LnF) | f
noncomputable def LnF.P (c:List Nat) (z:List Int):LnF→Prop
 | .leN x y=>x.ev c≤y.ev c
 | .ltN x y=>x.ev c<y.ev c
 | .eqN x y=>x.ev c=y.ev c
 | .leI x y=>x.ev c z≤y.ev c z
 | .ltI x y=>x.ev c z<y.ev c z
 | .eqI x y=>x.ev c z=y.ev c z
 | .n g=>¬ g.P c z
 | .f=>False
noncomputable def dif (k:Int) (x y:Po):Po:=Po.ad ⟨k,[],[]⟩ (y.ad (x.sc (-1)))
noncomputable def LnF.po:LnF→Bool×Po
 | .leN x y=>(false,dif 0 x.po y.po)
 | .ltN x y=>(false,dif (-1) x.po y.po)
 | .eqN x y=>(true,dif 0 x.po y.po)
 | .leI x y=>(false,dif 0 x.po y.po)
 | .ltI x y=>(false,dif (-1) x.po y.po)
 | .eqI x y=>(true,dif 0 x.po y.po)
 | .n g=>match g with
  | .leN x y=>(false,dif (-1) y.po x.po)
  | .ltN x y=>(false,dif 0 y.po x.po)
  | .leI x y=>(false,dif (-1) y.po x.po)
  | .ltI x y=>(false,dif 0 y.po x.po)
  | _=>(false,⟨0,[],[]⟩)
 | .f=>(false,⟨0,[],[]⟩)
theorem aY (k:Int) (x y:Po):(dif k x y).ev c z=k+y.ev c z - x.ev c z:=by
 unfold dif
 rw [Po.ev_ad,Po.ev_ad,Po.ev_sc]
 show (k+0+0+_:Int)=_
 omega
theorem nw:Po.ev c z ⟨0,[],[]⟩=0:=rfl
theorem LnF.ok (f:LnF) (h:f.P c z):0≤f.po.2.ev c z∧(f.po.1=true→f.po.2.ev c z=0):=by
 cases f with
 | leN x y=>have h:x.ev c≤y.ev c:=h;refine ⟨?_,nofun⟩;show 0≤(dif 0 x.po y.po).ev c z;rw [aY,x.ok,y.ok];omega
 | ltN x y=>have h:x.ev c<y.ev c:=h;refine ⟨?_,nofun⟩;show 0≤(dif (-1) x.po y.po).ev c z;rw [aY,x.ok,y.ok];omega
 | eqN x y =>
  have h:x.ev c=y.ev c:=h;have:(dif 0 x.po y.po).ev c z=0:=by (rw [aY,x.ok,y.ok];omega)
  exact ⟨Int.le_of_eq this.symm,fun z9=>this⟩
 | leI x y=>have h:x.ev c z≤y.ev c z:=h;refine ⟨?_,nofun⟩;show 0≤(dif 0 x.po y.po).ev c z;rw [aY,x.ok,y.ok];omega
 | ltI x y=>have h:x.ev c z<y.ev c z:=h;refine ⟨?_,nofun⟩;show 0≤(dif (-1) x.po y.po).ev c z;rw [aY,x.ok,y.ok];omega
 | eqI x y =>
  have h:x.ev c z=y.ev c z:=h;have:(dif 0 x.po y.po).ev c z=0:=by (rw [aY,x.ok,y.ok];omega)
  exact ⟨Int.le_of_eq this.symm,fun z9=>this⟩
 | n g =>
  cases g with
  | leN x y=>have h:¬ x.ev c≤y.ev c:=h;refine ⟨?_,nofun⟩;show 0≤(dif (-1) y.po x.po).ev c z;rw [aY,x.ok,y.ok];omega
  | ltN x y=>have h:¬ x.ev c<y.ev c:=h;refine ⟨?_,nofun⟩;show 0≤(dif 0 y.po x.po).ev c z;rw [aY,x.ok,y.ok];omega
  | leI x y=>have h:¬ x.ev c z≤y.ev c z:=h;refine ⟨?_,nofun⟩;show 0≤(dif (-1) y.po x.po).ev c z;rw [aY,x.ok,y.ok];omega
  | ltI x y=>have h:¬ x.ev c z<y.ev c z:=h;refine ⟨?_,nofun⟩;show 0≤(dif 0 y.po x.po).ev c z;rw [aY,x.ok,y.ok];omega
  | _=>exact ⟨Int.le_refl _,nofun⟩
 | f=>exact h.elim
noncomputable def ngF:LnF→LnF
 | .n g=>g
 | g=>.n g
theorem kM {g:LnF} (h:¬ g.P c z):(ngF g).P c z:=by
 cases g with
 | n f=>exact Classical.byContradiction h
 | _=>exact h
noncomputable def lsum:List LnF→List Int→Bool×Po
 | [],_=>(true,⟨0,[],[]⟩)
 | f::fs,cs=>match cs with
  | []=>(true,⟨0,[],[]⟩)
  | k::ks=>((f.po.1 || decide (0≤k)) && (lsum fs ks).1,(f.po.2.sc k).ad (lsum fs ks).2)
theorem fy:∀ (fs:List LnF) (cs:List Int),(∀ f∈fs,f.P c z)→(lsum fs cs).1=true→0≤(lsum fs cs).2.ev c z
 | [],_,_,_=>Int.le_refl _
 | _::_,[],_,_=>Int.le_refl _
 | f::fs,k::ks,h,e=>by
  obtain ⟨e1,e2⟩:=Bool.and_eq_true_iff.mp (show ((f.po.1 || decide (0≤k)) && (lsum fs ks).1)=true from e)
  have i:=fy fs ks (fun g hg=>h g (.tail _ hg)) e2
  obtain ⟨j1,j2⟩:=f.ok (h f (.head _))
  show 0≤((f.po.2.sc k).ad (lsum fs ks).2).ev c z
  rw [Po.ev_ad,Po.ev_sc]
  refine Int.add_nonneg ?_ i
  rcases Bool.or_eq_true_iff.mp e1 with e | e
  ·rw [j2 e,Int.mul_zero];exact Int.le_refl _
  ·exact Int.mul_nonneg (of_decide_eq_true e) j1
noncomputable def bad (p:Bool×Po):Bool:=p.1 && (decide (p.2.k<0) && ((p.2.a.all fun x=>decide (x≤0)) && p.2.b.all fun x=>decide (x=0)))
theorem fz {f:Nat→Int} (hf:∀ i,0≤f i):∀ (x:List Int) (i:Nat),(x.all fun x=>decide (x≤0))=true→dot f i x≤0
 | [],_,_=>Int.le_refl _
 | x::r,i,h=>by
  obtain ⟨a,b⟩:=Bool.and_eq_true_iff.mp (show (decide (x≤0) && r.all fun x=>decide (x≤0))=true from h)
  have:=fz hf r (i+1) b
  have:=Int.mul_le_mul_of_nonneg_right (of_decide_eq_true a) (hf i)
  rw [Int.zero_mul] at this
  show x * f i+dot f (i+1) r≤0
  omega
theorem ec {f:Nat→Int}:∀ (x:List Int) (i:Nat),(x.all fun x=>decide (x=0))=true→dot f i x=0
 | [],_,_=>rfl
 | x::r,i,h=>by
  obtain ⟨a,b⟩:=Bool.and_eq_true_iff.mp (show (decide (x=0) && r.all fun x=>decide (x=0))=true from h)
  show x * f i+dot f (i+1) r=0
  rw [ec r (i+1) b,of_decide_eq_true a,Int.zero_mul];rfl
theorem lin {g:LnF} {fs:List LnF} {cs:List Int} (h:bad (lsum (ngF g::fs) cs)=true) (hs:∀ f∈fs,f.P c z):g.P c z:=Classical.byContradiction fun hn=>by
 obtain ⟨h1,h⟩:=Bool.and_eq_true_iff.mp h
 obtain ⟨h2,h⟩:=Bool.and_eq_true_iff.mp h
 obtain ⟨h3,h4⟩:=Bool.and_eq_true_iff.mp h
 have i:=fy (c:=c) (z:=z) (ngF g::fs) cs (fun f hf=>by
  rcases List.mem_cons.mp hf with rfl | hf
  ·exact kM hn
  ·exact hs f hf) h1
 have a:=fz (f:=fun i=>((at' 0 c i:Nat):Int)) (fun i=>Int.natCast_nonneg _) _ 0 h3
 have b:=ec (f:=at' 0 z) _ 0 h4
 have k:=of_decide_eq_true h2
 unfold Po.ev at i
 omega
noncomputable def e1F:LnF→LnF
 | .eqN x y=>.leN x y
 | .eqI x y=>.leI x y
 | g=>g
noncomputable def e2F:LnF→LnF
 | .eqN x y=>.leN y x
 | .eqI x y=>.leI y x
 | g=>g
theorem cR {g:LnF} {fs:List LnF} {cs ds:List Int} (h:(bad (lsum (ngF (e1F g)::fs) cs) && bad (lsum (ngF (e2F g)::fs) ds))=true) (hs:∀ f∈fs,f.P c z):g.P c z:=by
 obtain ⟨h1,h2⟩:=Bool.and_eq_true_iff.mp h
 have a:=lin (c:=c) (z:=z) h1 hs
 have b:=lin (c:=c) (z:=z) h2 hs
 cases g with
 | eqN x y=>exact Nat.le_antisymm a b
 | eqI x y=>exact Int.le_antisymm a b
 | _=>exact a
end
theorem fa0 {p:LnF→Prop}:∀ f∈([]:List LnF),p f:=nofun
theorem faS {p:LnF→Prop} {f:LnF} {fs:List LnF} (h:p f) (hs:∀ f∈fs,p f):∀ g∈f::fs,p g:=List.forall_mem_cons.mpr ⟨h,hs⟩
theorem ak (c:List Nat) (z:List Int) (g:LnF) (cs:List Int) (h:bad (lsum (ngF g::[]) cs)=true) :g.P c z:=lin h fa0
theorem au (c:List Nat) (z:List Int) (g:LnF) (cs ds:List Int) (h:(bad (lsum (ngF (e1F g)::[]) cs) && bad (lsum (ngF (e2F g)::[]) ds))=true) :g.P c z:=cR h fa0
theorem aa (c:List Nat) (z:List Int) (g:LnF) (f1:LnF) (cs:List Int) (h:bad (lsum (ngF g::[f1]) cs)=true) (h1:f1.P c z):g.P c z:=lin h (faS h1 fa0)
theorem aK (c:List Nat) (z:List Int) (g:LnF) (f1:LnF) (cs ds:List Int) (h:(bad (lsum (ngF (e1F g)::[f1]) cs) && bad (lsum (ngF (e2F g)::[f1]) ds))=true) (h1:f1.P c z):g.P c z:=cR h (faS h1 fa0)
theorem ag (c:List Nat) (z:List Int) (g:LnF) (f1 f2:LnF) (cs:List Int) (h:bad (lsum (ngF g::[f1,f2]) cs)=true) (h1:f1.P c z) (h2:f2.P c z):g.P c z:=lin h (faS h1 (faS h2 fa0))
theorem aB (c:List Nat) (z:List Int) (g:LnF) (f1 f2:LnF) (cs ds:List Int) (h:(bad (lsum (ngF (e1F g)::[f1,f2]) cs) && bad (lsum (ngF (e2F g)::[f1,f2]) ds))=true) (h1:f1.P c z) (h2:f2.P c z):g.P c z:=cR h (faS h1 (faS h2 fa0))
theorem aq (c:List Nat) (z:List Int) (g:LnF) (f1 f2 f3:LnF) (cs:List Int) (h:bad (lsum (ngF g::[f1,f2,f3]) cs)=true) (h1:f1.P c z) (h2:f2.P c z) (h3:f3.P c z):g.P c z:=lin h (faS h1 (faS h2 (faS h3 fa0)))
theorem gT (c:List Nat) (z:List Int) (g:LnF) (f1 f2 f3:LnF) (cs ds:List Int) (h:(bad (lsum (ngF (e1F g)::[f1,f2,f3]) cs) && bad (lsum (ngF (e2F g)::[f1,f2,f3]) ds))=true) (h1:f1.P c z) (h2:f2.P c z) (h3:f3.P c z):g.P c z:=cR h (faS h1 (faS h2 (faS h3 fa0)))
theorem bR (c:List Nat) (z:List Int) (g:LnF) (f1 f2 f3 f4:LnF) (cs:List Int) (h:bad (lsum (ngF g::[f1,f2,f3,f4]) cs)=true) (h1:f1.P c z) (h2:f2.P c z) (h3:f3.P c z) (h4:f4.P c z):g.P c z:=lin h (faS h1 (faS h2 (faS h3 (faS h4 fa0))))
theorem bp (c:List Nat) (z:List Int) (g:LnF) (f1 f2 f3 f4:LnF) (cs ds:List Int) (h:(bad (lsum (ngF (e1F g)::[f1,f2,f3,f4]) cs) && bad (lsum (ngF (e2F g)::[f1,f2,f3,f4]) ds))=true) (h1:f1.P c z) (h2:f2.P c z) (h3:f3.P c z) (h4:f4.P c z):g.P c z:=cR h (faS h1 (faS h2 (faS h3 (faS h4 fa0))))
theorem bS (c:List Nat) (z:List Int) (g:LnF) (f1 f2 f3 f4 f5:LnF) (cs:List Int) (h:bad (lsum (ngF g::[f1,f2,f3,f4,f5]) cs)=true) (h1:f1.P c z) (h2:f2.P c z) (h3:f3.P c z) (h4:f4.P c z) (h5:f5.P c z):g.P c z:=lin h (faS h1 (faS h2 (faS h3 (faS h4 (faS h5 fa0)))))
theorem ku (c:List Nat) (z:List Int) (g:LnF) (f1 f2 f3 f4 f5:LnF) (cs ds:List Int) (h:(bad (lsum (ngF (e1F g)::[f1,f2,f3,f4,f5]) cs) && bad (lsum (ngF (e2F g)::[f1,f2,f3,f4,f5]) ds))=true) (h1:f1.P c z) (h2:f2.P c z) (h3:f3.P c z) (h4:f4.P c z) (h5:f5.P c z):g.P c z:=cR h (faS h1 (faS h2 (faS h3 (faS h4 (faS h5 fa0)))))
theorem oe (c:List Nat) (z:List Int) (g:LnF) (f1 f2 f3 f4 f5 f6:LnF) (cs:List Int) (h:bad (lsum (ngF g::[f1,f2,f3,f4,f5,f6]) cs)=true) (h1:f1.P c z) (h2:f2.P c z) (h3:f3.P c z) (h4:f4.P c z) (h5:f5.P c z) (h6:f6.P c z):g.P c z:=lin h (faS h1 (faS h2 (faS h3 (faS h4 (faS h5 (faS h6 fa0))))))
theorem kx (c:List Nat) (z:List Int) (g:LnF) (f1 f2 f3 f4 f5 f6:LnF) (cs ds:List Int) (h:(bad (lsum (ngF (e1F g)::[f1,f2,f3,f4,f5,f6]) cs) && bad (lsum (ngF (e2F g)::[f1,f2,f3,f4,f5,f6]) ds))=true) (h1:f1.P c z) (h2:f2.P c z) (h3:f3.P c z) (h4:f4.P c z) (h5:f5.P c z) (h6:f6.P c z):g.P c z:=cR h (faS h1 (faS h2 (faS h3 (faS h4 (faS h5 (faS h6 fa0))))))
theorem og (c:List Nat) (z:List Int) (g:LnF) (f1 f2 f3 f4 f5 f6 f7:LnF) (cs:List Int) (h:bad (lsum (ngF g::[f1,f2,f3,f4,f5,f6,f7]) cs)=true) (h1:f1.P c z) (h2:f2.P c z) (h3:f3.P c z) (h4:f4.P c z) (h5:f5.P c z) (h6:f6.P c z) (h7:f7.P c z):g.P c z:=lin h (faS h1 (faS h2 (faS h3 (faS h4 (faS h5 (faS h6 (faS h7 fa0)))))))
theorem mj (c:List Nat) (z:List Int) (g:LnF) (f1 f2 f3 f4 f5 f6 f7:LnF) (cs ds:List Int) (h:(bad (lsum (ngF (e1F g)::[f1,f2,f3,f4,f5,f6,f7]) cs) && bad (lsum (ngF (e2F g)::[f1,f2,f3,f4,f5,f6,f7]) ds))=true) (h1:f1.P c z) (h2:f2.P c z) (h3:f3.P c z) (h4:f4.P c z) (h5:f5.P c z) (h6:f6.P c z) (h7:f7.P c z):g.P c z:=cR h (faS h1 (faS h2 (faS h3 (faS h4 (faS h5 (faS h6 (faS h7 fa0)))))))
theorem oh (c:List Nat) (z:List Int) (g:LnF) (f1 f2 f3 f4 f5 f6 f7 f8:LnF) (cs:List Int) (h:bad (lsum (ngF g::[f1,f2,f3,f4,f5,f6,f7,f8]) cs)=true) (h1:f1.P c z) (h2:f2.P c z) (h3:f3.P c z) (h4:f4.P c z) (h5:f5.P c z) (h6:f6.P c z) (h7:f7.P c z) (h8:f8.P c z):g.P c z:=lin h (faS h1 (faS h2 (faS h3 (faS h4 (faS h5 (faS h6 (faS h7 (faS h8 fa0))))))))
theorem cy (c:List Nat) (z:List Int) (g:LnF) (f1 f2 f3 f4 f5 f6 f7 f8:LnF) (cs ds:List Int) (h:(bad (lsum (ngF (e1F g)::[f1,f2,f3,f4,f5,f6,f7,f8]) cs) && bad (lsum (ngF (e2F g)::[f1,f2,f3,f4,f5,f6,f7,f8]) ds))=true) (h1:f1.P c z) (h2:f2.P c z) (h3:f3.P c z) (h4:f4.P c z) (h5:f5.P c z) (h6:f6.P c z) (h7:f7.P c z) (h8:f8.P c z):g.P c z:=cR h (faS h1 (faS h2 (faS h3 (faS h4 (faS h5 (faS h6 (faS h7 (faS h8 fa0))))))))
theorem oi (c:List Nat) (z:List Int) (g:LnF) (f1 f2 f3 f4 f5 f6 f7 f8 f9:LnF) (cs:List Int) (h:bad (lsum (ngF g::[f1,f2,f3,f4,f5,f6,f7,f8,f9]) cs)=true) (h1:f1.P c z) (h2:f2.P c z) (h3:f3.P c z) (h4:f4.P c z) (h5:f5.P c z) (h6:f6.P c z) (h7:f7.P c z) (h8:f8.P c z) (h9:f9.P c z):g.P c z:=lin h (faS h1 (faS h2 (faS h3 (faS h4 (faS h5 (faS h6 (faS h7 (faS h8 (faS h9 fa0)))))))))
theorem ml (c:List Nat) (z:List Int) (g:LnF) (f1 f2 f3 f4 f5 f6 f7 f8 f9:LnF) (cs ds:List Int) (h:(bad (lsum (ngF (e1F g)::[f1,f2,f3,f4,f5,f6,f7,f8,f9]) cs) && bad (lsum (ngF (e2F g)::[f1,f2,f3,f4,f5,f6,f7,f8,f9]) ds))=true) (h1:f1.P c z) (h2:f2.P c z) (h3:f3.P c z) (h4:f4.P c z) (h5:f5.P c z) (h6:f6.P c z) (h7:f7.P c z) (h8:f8.P c z) (h9:f9.P c z):g.P c z:=cR h (faS h1 (faS h2 (faS h3 (faS h4 (faS h5 (faS h6 (faS h7 (faS h8 (faS h9 fa0)))))))))
theorem mn (c:List Nat) (z:List Int) (g:LnF) (f1 f2 f3 f4 f5 f6 f7 f8 f9 f10:LnF) (cs:List Int) (h:bad (lsum (ngF g::[f1,f2,f3,f4,f5,f6,f7,f8,f9,f10]) cs)=true) (h1:f1.P c z) (h2:f2.P c z) (h3:f3.P c z) (h4:f4.P c z) (h5:f5.P c z) (h6:f6.P c z) (h7:f7.P c z) (h8:f8.P c z) (h9:f9.P c z) (h10:f10.P c z):g.P c z:=lin h (faS h1 (faS h2 (faS h3 (faS h4 (faS h5 (faS h6 (faS h7 (faS h8 (faS h9 (faS h10 fa0))))))))))
theorem kN (c:List Nat) (z:List Int) (g:LnF) (f1 f2 f3 f4 f5 f6 f7 f8 f9 f10:LnF) (cs ds:List Int) (h:(bad (lsum (ngF (e1F g)::[f1,f2,f3,f4,f5,f6,f7,f8,f9,f10]) cs) && bad (lsum (ngF (e2F g)::[f1,f2,f3,f4,f5,f6,f7,f8,f9,f10]) ds))=true) (h1:f1.P c z) (h2:f2.P c z) (h3:f3.P c z) (h4:f4.P c z) (h5:f5.P c z) (h6:f6.P c z) (h7:f7.P c z) (h8:f8.P c z) (h9:f9.P c z) (h10:f10.P c z):g.P c z:=cR h (faS h1 (faS h2 (faS h3 (faS h4 (faS h5 (faS h6 (faS h7 (faS h8 (faS h9 (faS h10 fa0))))))))))
theorem af (x y:Nat):x≤x - y+y:=by omega
theorem ab {x y:Nat} (h:y≤x):x - y+y=x:=Nat.sub_add_cancel h
theorem n9 {x y:Nat} (h:x≤y):x - y=0:=Nat.sub_eq_zero_of_le h
theorem fA (c d n:Nat):min c n+(n - max c d)≤n:=by
 refine Nat.le_trans (Nat.add_le_add_left (Nat.sub_le_sub_left (Nat.le_max_left c d) n) _) ?_
 rcases Nat.le_total c n with h | h
 ·rw [Nat.min_eq_left h,Nat.add_sub_cancel' h];exact Nat.le_refl _
 ·rw [Nat.min_eq_right h,Nat.sub_eq_zero_of_le h];exact Nat.le_refl _
theorem gU (a b:Nat):((min a b:Nat):Int)=min (a:Int) b:=by
 rcases Nat.le_total a b with h | h
 ·rw [Nat.min_eq_left h,Int.min_eq_left (Int.ofNat_le.mpr h)]
 ·rw [Nat.min_eq_right h,Int.min_eq_right (Int.ofNat_le.mpr h)]
theorem gV (a b:Nat):((max a b:Nat):Int)=max (a:Int) b:=by
 rcases Nat.le_total a b with h | h
 ·rw [Nat.max_eq_right h,Int.max_eq_right (Int.ofNat_le.mpr h)]
 ·rw [Nat.max_eq_left h,Int.max_eq_left (Int.ofNat_le.mpr h)]
end Mine
namespace Mine
open PySem (Str)
inductive AV | none | bool (b:Bool) | int (i:Int) | str (s:List Nat) | ref (i:Nat) | opq
inductive AO | list (xs:List AV) | tup (xs:List AV) | inst (c:Nat) (fs:List (Nat×AV)) | dict (es:List (Int×AV)) | fro (xs:List Int)
noncomputable abbrev Hp:=List AO
noncomputable abbrev Fm:=List (Option AV)
inductive T | nd (k n:Nat) (a:AV) (es:List T)
inductive It | lst (l i:Nat) | tup (l i:Nat) | rng (a b:Int) | rev (l i:Nat) | str (cs:List Nat)
inductive Fw | next | brk | cont | ret (v:AV)
structure FI where
 np:Nat
 nv:Nat
 defs:List AV
 body:List T
noncomputable def K (a:AV):T:=.nd 0 0 a []
noncomputable def N:T:=K .none
noncomputable def I (i:Int):T:=K (.int i)
noncomputable def S (l:List Nat):T:=K (.str l)
noncomputable def V (n:Nat):T:=.nd 1 n .none []
noncomputable def A (e:T) (f:Nat):T:=.nd 5 f .none [e]
noncomputable def Q (b:List T):T:=.nd 38 0 .none b
noncomputable def Y (k:Nat) (es:List T):T:=.nd k 0 .none es
noncomputable def Z (k n:Nat) (es:List T):T:=.nd k n .none es
noncomputable abbrev strL (l:List String):List Str:=l.map Str.ofString
noncomputable def nmT:List Str:=strL ["append","pop","extend","join","text","cells","markers","rows","listeners","is_read_only","size","begv","zv","before_change","touch","after_change","undo","text_goes","delete","point","text_comes","insert","props","text_gone","overlays","text_came","inserted","deleted","replaced","put_rows","start","old","new","is_replaced","told","counts","buffer","finder","maker","bound","state","end","near","many","steps","look","next","meet","stand","tell","codes","made","pass_by","put_new","go_on","put_all","room","gap_start","gap_end","widen_gap","move_gap","numbers","position","advances","number","name","mark","is_live","ticks","codes_ticks","saved_ticks","locals","syntax","file","code","begin","code_at","row","place","changes","view","table","taken","limit","kept","marks","choices","groups","run","span","match_at","asked","go_back","is_taken","keep","repeated","folds","kind_of","is_in_set","tried_at","spans","pattern","template","is_fixed","word","done","nodes","is_loose","frames","step","node","top","escaped","put","repeat","whole","places","labels","waiting","wait","alternatives","label","loop","split","settled","kind","match","flags","parent","modify_all"]
noncomputable def clT:List Str:=strL ["Step","Replacing","GapText","Markers","Buffer","Choice","Regmachine","Pattern","Templated","Frame","Parsing","Regcode","Compiling","Syntax","SyntaxTable"]
noncomputable def glN:List Str:=strL ["LONGEST","ASKING","DONE","LINE_FEED_regplaces","MOST_STEPS","LINE_FEED_regmachine","BACKSLASH","AMPERSAND","QUESTION","MOST_ROWS","MOST_TASKS","PLAIN","FLAGS","WHITESPACE","KINDS_syntax"]
noncomputable def glA:List AV:=[.int 4194304,.str [97,115,107,105,110,103],.str [100,111,110,101],.int 10,.int 400000,.int 10,.int 92,.int 38,.int 63,.int 20000,.int 200000,.none,.str [49,50,51,52,98,99,110,112],.str [32],.str [32,119,95,46,40,41,39,34,92,47,36,60,62,64,33,124]]
noncomputable def glP:List (List (List Nat)):=[[],[],[],[],[],[],[],[],[],[],[],[[97,110,121],[115,101,116],[115,121,110,116,97,120],[97,116],[98,97,99,107]],[],[],[]]
noncomputable def fnN:List Str:=strL ["need_writable","need_room","reached","tell_ahead","tell_behind","text_out","text_in","hung_out","hung_in","put_in","insert_at","insert","delete","replace","__init__","__init__","look","meet","stand","put_new","go_on","pass_by","put_all","replaced_all","__init__","size","code","codes","move_gap","widen_gap","insert","delete","__init__","numbers","inserted","deleted","replaced","__init__","begin","end","size","code_at","codes","touch","holds_at","__init__","__init__","match_at","tried_at","span","run","go_back","keep","asked","is_taken","expanded","re_search_forward","__init__","next","near","told","tell","__init__","made","sign_of","sign_at","is_escaped","joined","__init__","put","node","__init__","top","code","whole","step","repeated","repeat","parse_regexp","__init__","__init__","label","wait","run","node","repeated","split","loop","settled","compile_node","compile_regexp","__init__","sorted_flags","read_syntax","__init__","modify_all","letters","standard_table","text_table","_law_draw","_law_end","_law_first","_law_walk","_law_rows","_law_many","law","law"]
noncomputable def fnK:List (Option Nat):=[none,none,none,none,none,none,none,none,none,none,none,none,none,none,some 0,some 1,some 1,some 1,some 1,some 1,some 1,some 1,some 1,none,some 2,some 2,some 2,some 2,some 2,some 2,some 2,some 2,some 3,some 3,some 3,some 3,some 3,some 4,some 4,some 4,some 4,some 4,some 4,some 4,none,some 5,some 6,some 6,some 6,some 6,some 6,some 6,some 6,some 6,some 6,none,none,some 7,some 7,some 7,some 7,some 7,some 8,some 8,none,none,none,none,some 9,some 9,some 9,some 10,some 10,some 10,some 10,some 10,some 10,some 10,none,some 11,some 12,some 12,some 12,some 12,some 12,some 12,some 12,some 12,some 12,none,none,some 13,none,none,some 14,some 14,none,none,none,none,none,none,none,none,none,none,none]
noncomputable def fnV:List (List Str):=[strL ["buffer"],strL ["buffer","growth"],strL ["buffer","start","end","low","high"],strL ["buffer","start","end","listener"],strL ["buffer","start","end","old_length","listener"],strL ["buffer","start","end","gone"],strL ["buffer","place","codes"],strL ["buffer","start","end"],strL ["buffer","place","many","before_markers"],strL ["buffer","place","codes","before_markers","is_point_behind"],strL ["buffer","place","codes","before_markers"],strL ["buffer","codes","before_markers"],strL ["buffer","start","end","low","high","gone"],strL ["buffer","start","end","codes","rows","low","high","point","gone"],strL ["self","start","old","new","is_replaced","told","counts"],strL ["self","buffer","finder","maker","start","end","low","high"],strL ["self","place","found"],strL ["self","span","told"],strL ["self","start","end","told","has_signs"],strL ["self","old","new"],strL ["self","old"],strL ["self","last","word","spans","shift","moved"],strL ["self"],strL ["buffer","finder","maker","start","end","machine"],strL ["self","codes","room"],strL ["self"],strL ["self","at"],strL ["self","start","end","shift"],strL ["self","at","moved"],strL ["self","wanted","lack"],strL ["self","at","codes"],strL ["self","start","end","gone"],strL ["self"],strL ["self"],strL ["self","start","end","is_before","number","marker"],strL ["self","start","end","number","marker"],strL ["self","start","end","many","number","marker"],strL ["self","number","name","room"],strL ["self"],strL ["self"],strL ["self"],strL ["self","place"],strL ["self","start","end"],strL ["self","are_codes"],strL ["word","view","table","point","place"],strL ["self","row","place","changes"],strL ["self","code","view","table","point","steps"],strL ["self","place","limit","end"],strL ["self","place","limit"],strL ["self","number","start","end"],strL ["self","place","row","word","later","choice"],strL ["self","many","row","number","old"],strL ["self","row","number","place"],strL ["self","row","place","word"],strL ["self","row","code","word"],strL ["template","parts","found","place","code","sign","number"],strL ["view","table","place","code","bound","point","machine","last","start","found"],strL ["self","code","table"],strL ["self","buffer","place","bound","found"],strL ["self","buffer","place","bound","found"],strL ["self"],strL ["self","told"],strL ["self","pattern","template","is_fixed"],strL ["self","buffer","start","end","parts","codes"],strL ["code"],strL ["codes","place"],strL ["codes","place","signs"],strL ["nodes"],strL ["self","word","number"],strL ["self","node"],strL ["self"],strL ["self","codes"],strL ["self"],strL ["self"],strL ["self"],strL ["self","code","sign","node"],strL ["self","sign","is_zero","is_many","is_greedy"],strL ["self","least","most","is_greedy","nodes"],strL ["codes","parsing"],strL ["self","rows","groups","marks","folds"],strL ["self","folds"],strL ["self"],strL ["self","tasks","task"],strL ["self","node","many","word","thing"],strL ["self","node","word"],strL ["self","node","word","least","most","is_greedy","part","tasks","end","turn","here"],strL ["self","here","end","is_greedy"],strL ["self","part","is_greedy","end","begin","here","mark","tasks"],strL ["self","found","row"],strL ["node","groups","folds","compiling"],strL ["codes","folds","node","groups"],strL ["self","kind","match","flags"],strL ["text"],strL ["text","kind","match","flags"],strL ["self","parent"],strL ["self","text","description","syntax","sign"],strL [],strL ["table","opens","closes"],strL ["table"],strL ["deck","many"],strL ["codes","at","sign","least","most","last","many"],strL ["codes","at","sign","least","most","last","begin","end"],strL ["codes","start","sign","least","most","last","way","found","many","done","at","match","begin","end","own","is_near"],strL [],strL [],strL ["script","deck","codes","kind","last","way","start","buffer","least","most","text","template","pattern","many","due","count"],strL []]
noncomputable def mtT:List (Nat×Nat×Nat):=[(1,45,16),(1,47,17),(1,48,18),(1,53,19),(1,54,20),(1,52,21),(1,55,22),(2,10,25),(2,74,26),(2,50,27),(2,60,28),(2,59,29),(2,21,30),(2,18,31),(3,61,33),(3,26,34),(3,27,35),(3,28,36),(4,75,38),(4,41,39),(4,10,40),(4,76,41),(4,50,42),(4,14,43),(6,90,47),(6,99,48),(6,89,49),(6,88,50),(6,92,51),(6,94,52),(6,91,53),(6,93,54),(7,46,58),(7,42,59),(7,34,60),(7,49,61),(8,51,63),(9,113,69),(9,110,70),(10,111,72),(10,74,73),(10,115,74),(10,109,75),(10,95,76),(10,114,77),(12,121,81),(12,119,82),(12,88,83),(12,110,84),(12,95,85),(12,123,86),(12,122,87),(12,124,88),(14,129,95)]
noncomputable def ftT:List (List Nat):=[[30,31,32,33,34,35],[36,37,38,39,40,30,41,34,42,33,43,44],[56,5,57,58],[7],[64,65,4,6,19,11,12,66,67,9,68,69,70,8,16,22,24,71,72,73],[77,78,79],[74,80,81,19,44,82,83,84,85,86,79],[74,81,100],[101,102,103],[104,64,105,106,107],[50,78,108,87],[7,87,85,96],[96,7,116,117,85,118],[125,126,127],[128,7]]
noncomputable def itT:List Nat:=[14,15,24,32,37,45,46,57,62,68,71,79,80,91,94]
noncomputable def b_need_writable:FI:=⟨1,1,[],[Y 32 [Y 40 [A (V 0) 9],Q [Y 99 []],Q []]]⟩
noncomputable def b_need_room:FI:=⟨2,2,[],[Y 32 [(Y 13 [(Y 10 [(Z 8 10 ((V 0)::[])),V 1]),Y 4 [Y 3 []]]),Q [Y 99 []],Q []]]⟩
noncomputable def b_reached:FI:=⟨3,5,[],[Y 40 [Y 20 [V 3,V 4],Y 20 [Z 9 1 [V 1,V 2],Z 9 2 [V 1,V 2]]],Y 32 [Y 15 [Y 13 [V 3,Y 2 [A (V 0) 11]],Y 13 [V 4,Y 4 [A (V 0) 12]]],Q [Y 99 []],Q []],Y 35 [Y 20 [V 3,V 4]]]⟩
noncomputable def b_tell_ahead:FI:=⟨3,4,[],[Y 34 [V 3,Y 26 [Z 9 3 [A (V 0) 8]],Q [Y 30 [(Z 8 13 ((V 3)::[V 0,V 1,V 2]))]]]]⟩
noncomputable def b_tell_behind:FI:=⟨4,5,[],[Y 30 [(Z 8 14 ((V 0)::[K (.bool true)]))],Y 34 [V 4,Y 26 [Z 9 3 [A (V 0) 8]],Q [Y 30 [(Z 8 15 ((V 4)::[V 0,V 1,V 2,V 3]))]]]]⟩
noncomputable def b_text_out:FI:=⟨3,4,[],[Y 32 [Y 13 [A (V 0) 16,Y 7 [N]],Q [Y 30 [(Z 8 17 ((A (V 0) 16)::[V 0,V 1,V 2]))]],Q []],Y 31 [V 3,(Z 8 18 ((A (V 0) 4)::[Z 10 1 [V 1,I 1],Z 10 1 [V 2,I 1]]))],Y 31 [A (V 0) 12,Z 10 1 [A (V 0) 12,Z 10 1 [V 2,V 1]]],Y 32 [Y 13 [A (V 0) 19,Y 4 [V 1]],Q [Y 31 [A (V 0) 19,Z 9 2 [V 1,Z 10 1 [A (V 0) 19,Z 10 1 [V 2,V 1]]]]],Q []],Y 35 [V 3]]⟩
noncomputable def b_text_in:FI:=⟨3,3,[],[Y 32 [Y 13 [A (V 0) 16,Y 7 [N]],Q [Y 30 [(Z 8 20 ((A (V 0) 16)::[V 0,V 1,Y 9 [V 2]]))]],Q []],Y 30 [(Z 8 21 ((A (V 0) 4)::[Z 10 1 [V 1,I 1],V 2]))],Y 31 [A (V 0) 12,Y 10 [A (V 0) 12,Y 9 [V 2]]],Y 32 [Y 13 [A (V 0) 19,Y 4 [V 1]],Q [Y 31 [A (V 0) 19,Y 10 [A (V 0) 19,Y 9 [V 2]]]],Q []]]⟩
noncomputable def b_hung_out:FI:=⟨3,3,[],[Y 32 [Y 13 [A (V 0) 22,Y 7 [N]],Q [Y 30 [(Z 8 23 ((A (V 0) 22)::[Z 10 1 [V 1,I 1],Z 10 1 [V 2,I 1]]))]],Q []],Y 32 [Y 13 [A (V 0) 24,Y 7 [N]],Q [Y 30 [(Z 8 23 ((A (V 0) 24)::[Z 10 1 [V 1,I 1],Z 10 1 [V 2,I 1]]))]],Q []]]⟩
noncomputable def b_hung_in:FI:=⟨4,4,[],[Y 32 [Y 13 [A (V 0) 22,Y 7 [N]],Q [Y 30 [(Z 8 25 ((A (V 0) 22)::[Z 10 1 [V 1,I 1],V 2]))]],Q []],Y 32 [Y 13 [A (V 0) 24,Y 7 [N]],Q [Y 30 [(Z 8 25 ((A (V 0) 24)::[Z 10 1 [V 1,I 1],V 2,V 3]))]],Q []]]⟩
noncomputable def b_put_in:FI:=⟨5,5,[],[Y 30 [Y 6 [V 0]],Y 30 [Z 6 2 [V 0,V 1,V 1]],Y 32 [Y 13 [Y 9 [V 2],Y 0 [I 0]],Q [Y 35 [N]],Q []],Y 30 [Z 6 1 [V 0,Y 9 [V 2]]],Y 30 [Z 6 3 [V 0,V 1,V 1]],Y 30 [Z 6 6 [V 0,V 1,V 2]],Y 32 [Y 40 [V 4],Q [Y 31 [A (V 0) 19,Y 10 [V 1,Y 9 [V 2]]]],Q []],Y 30 [(Z 8 26 ((A (V 0) 6)::[V 1,Y 10 [V 1,Y 9 [V 2]],V 3]))],Y 30 [Z 6 8 [V 0,V 1,Y 9 [V 2],V 3]],Y 30 [Z 6 4 [V 0,V 1,Y 10 [V 1,Y 9 [V 2]],I 0]]]⟩
noncomputable def b_insert_at:FI:=⟨4,4,[.bool false],[Y 30 [Z 6 9 [V 0,V 1,V 2,V 3,K (.bool false)]]]⟩
noncomputable def b_insert:FI:=⟨3,3,[.bool false],[Y 30 [Z 6 9 [V 0,A (V 0) 19,V 1,V 2,K (.bool true)]]]⟩
noncomputable def b_delete:FI:=⟨3,6,[],[Y 30 [Y 6 [V 0]],Y 31 [Y 20 [V 3,V 4],Z 6 2 [V 0,V 1,V 2]],Y 32 [Y 13 [V 3,Y 0 [V 4]],Q [Y 35 [Y 19 []]],Q []],Y 30 [Z 6 3 [V 0,V 3,V 4]],Y 31 [V 5,Z 6 5 [V 0,V 3,V 4]],Y 30 [(Z 8 27 ((A (V 0) 6)::[V 3,V 4]))],Y 30 [Z 6 7 [V 0,V 3,V 4]],Y 30 [Z 6 4 [V 0,V 3,V 3,Z 10 1 [V 4,V 3]]],Y 35 [V 5]]⟩
noncomputable def b_replace:FI:=⟨5,9,[.none],[Y 30 [Y 6 [V 0]],Y 31 [Y 20 [V 5,V 6],Z 6 2 [V 0,V 1,V 2]],Y 32 [Y 13 [V 5,Y 0 [V 6]],Q [Y 30 [Z 6 10 [V 0,V 5,V 3]],Y 35 [Y 19 []]],Q []],Y 32 [Y 13 [Y 9 [V 3],Y 0 [I 0]],Q [Y 35 [Z 6 12 [V 0,V 5,V 6]]],Q []],Y 30 [Z 6 1 [V 0,Z 10 1 [Y 9 [V 3],Z 10 1 [V 6,V 5]]]],Y 31 [V 7,A (V 0) 19],Y 30 [Z 6 3 [V 0,V 5,V 6]],Y 31 [V 8,Z 6 5 [V 0,V 5,V 6]],Y 30 [Z 6 6 [V 0,V 5,V 3]],Y 32 [Y 13 [V 7,Y 5 [V 6]],Q [Y 31 [A (V 0) 19,Z 10 1 [Y 10 [V 7,Y 9 [V 3]],Z 10 1 [V 6,V 5]]]],Q []],Y 30 [(Z 8 28 ((A (V 0) 6)::[V 5,V 6,Y 9 [V 3]]))],Y 30 [Z 6 8 [V 0,V 6,Y 9 [V 3],K (.bool true)]],Y 30 [Z 6 7 [V 0,V 5,V 6]],Y 32 [Y 13 [V 4,Y 7 [N]],Q [Y 30 [(Z 8 29 ((A (V 0) 22)::[V 4]))]],Q []],Y 30 [Z 6 4 [V 0,V 5,Y 10 [V 5,Y 9 [V 3]],Z 10 1 [V 6,V 5]]],Y 35 [V 8]]⟩
noncomputable def b_Step_init:FI:=⟨7,7,[],[Y 31 [A (V 0) 30,V 1],Y 31 [A (V 0) 31,V 2],Y 31 [A (V 0) 32,V 3],Y 31 [A (V 0) 33,V 4],Y 31 [A (V 0) 34,V 5],Y 31 [A (V 0) 35,V 6]]⟩
noncomputable def b_Replacing_init:FI:=⟨6,8,[],[Y 31 [Y 20 [V 6,V 7],Z 6 2 [V 1,V 4,V 5]],Y 31 [A (V 0) 36,V 1],Y 31 [A (V 0) 37,V 2],Y 31 [A (V 0) 38,V 3],Y 31 [A (V 0) 39,V 7],Y 31 [A (V 0) 40,Z 3 1 []],Y 31 [A (V 0) 30,V 6],Y 31 [A (V 0) 41,V 6],Y 31 [A (V 0) 34,N],Y 31 [A (V 0) 42,Y 20 [S [110,111,110,101],N]],Y 31 [A (V 0) 33,K (.bool false)],Y 31 [A (V 0) 43,I 0],Y 31 [A (V 0) 44,Y 19 []],Y 30 [(Z 8 45 ((V 0)::[V 6]))]]⟩
noncomputable def b_Replacing_look:FI:=⟨2,3,[],[Y 31 [V 2,(Y 16 [Y 13 [V 1,Y 2 [A (V 0) 39]],(Z 8 46 ((A (V 0) 37)::[A (V 0) 36,V 1,A (V 0) 39])),N])],Y 32 [Y 13 [V 2,Y 6 [N]],Q [Y 31 [A (V 0) 40,Z 3 2 []]],Q [Y 30 [(Z 8 47 ((V 0)::[V 2,(Z 8 34 ((A (V 0) 37)::[]))]))]]]]⟩
noncomputable def b_Replacing_meet:FI:=⟨3,3,[],[Y 30 [(Z 8 48 ((V 0)::[Y 17 [V 1,I 0],Y 17 [V 1,I 1],V 2,Y 13 [Y 17 [V 1,I 0],Y 2 [Y 17 [V 1,I 1]]]]))],Y 31 [A (V 0) 33,K (.bool false)]]⟩
noncomputable def b_Replacing_stand:FI:=⟨5,5,[],[Y 31 [A (V 0) 30,V 1],Y 31 [A (V 0) 41,V 2],Y 31 [A (V 0) 34,V 3],Y 31 [A (V 0) 42,(Y 16 [Y 40 [V 4],(Z 8 42 ((A (V 0) 37)::[A (V 0) 36,V 2,A (V 0) 39])),Y 20 [S [110,111,110,101],N]])],Y 31 [A (A (V 0) 36) 19,V 2]]⟩
noncomputable def b_Replacing_put_new:FI:=⟨1,3,[],[Y 32 [Y 40 [A (V 0) 33],Q [Y 35 [N]],Q []],Y 30 [(Z 8 49 ((A (V 0) 37)::[A (V 0) 34]))],Y 31 [V 1,(Z 8 50 ((A (V 0) 36)::[A (V 0) 30,A (V 0) 41]))],Y 31 [V 2,(Z 8 51 ((A (V 0) 38)::[A (V 0) 36,A (V 0) 30,A (V 0) 41]))],Y 30 [Z 6 13 [A (V 0) 36,A (V 0) 30,A (V 0) 41,V 2]],Y 31 [A (V 0) 39,Z 10 1 [Y 10 [A (V 0) 39,Y 9 [V 2]],Y 9 [V 1]]],Y 31 [A (V 0) 41,Y 10 [A (V 0) 30,Y 9 [V 2]]],Y 30 [(Y 8 ((A (V 0) 44)::[Y 7 [A (V 0) 30,V 1,V 2,K (.bool true),A (V 0) 34,I 1]]))],Y 31 [A (V 0) 43,Y 10 [A (V 0) 43,I 1]],Y 31 [A (V 0) 33,K (.bool true)],Y 31 [A (A (V 0) 36) 19,A (V 0) 41]]⟩
noncomputable def b_Replacing_go_on:FI:=⟨1,2,[],[Y 32 [Y 12 [Y 40 [A (V 0) 33]],Q [Y 31 [V 1,(Z 8 50 ((A (V 0) 36)::[A (V 0) 30,A (V 0) 41]))],Y 30 [(Y 8 ((A (V 0) 44)::[Y 7 [A (V 0) 30,V 1,V 1,K (.bool false),A (V 0) 34,I 0]]))]],Q []],Y 30 [(Z 8 52 ((V 0)::[]))]]⟩
noncomputable def b_Replacing_pass_by:FI:=⟨1,6,[],[Y 31 [V 1,Y 17 [A (V 0) 44,Z 10 1 [Y 9 [A (V 0) 44],I 1]]],Y 31 [Y 20 [V 2,V 3],A (V 0) 42],Y 32 [Y 13 [V 2,Y 0 [S [97,110,121]]],Q [Y 30 [(Z 8 45 ((V 0)::[A (V 0) 41]))]],Q [Y 32 [Y 15 [Y 13 [V 2,Y 0 [S [110,111,110,101]]],Y 13 [A (V 0) 41,Y 5 [A (V 0) 39]]],Q [Y 30 [(Z 8 45 ((V 0)::[Y 10 [A (V 0) 41,I 1]]))]],Q [Y 31 [V 4,Z 10 1 [Z 10 1 [A (V 0) 41,A (V 1) 30],Y 9 [A (V 1) 31]]],Y 39 [V 5,(Z 22 1 ((Y 16 [Y 13 [V 0,Y 6 [N]],N,Y 20 [Y 10 [Y 17 [V 0,I 0],Z 2 4 []],Y 10 [Y 17 [V 0,I 1],Z 2 4 []]]])::(V 0)::(Y 26 [V 3])::[]))],Y 30 [(Z 8 47 ((V 0)::[Y 17 [V 5,I 0],V 5]))]]]]]]⟩
noncomputable def b_Replacing_put_all:FI:=⟨1,1,[],[Y 33 [Y 13 [A (V 0) 40,Y 0 [Z 3 1 []]],Q [Y 30 [(Z 8 53 ((V 0)::[]))],Y 30 [(Z 8 54 ((V 0)::[]))]]]]⟩
noncomputable def b_replaced_all:FI:=⟨5,6,[],[Y 31 [V 5,Z 7 1 [V 0,V 1,V 2,V 3,V 4]],Y 30 [(Z 8 55 ((V 5)::[]))],Y 35 [A (V 5) 43]]⟩
noncomputable def b_GapText_init:FI:=⟨3,3,[],[Y 31 [A (V 0) 56,V 2],Y 31 [A (V 0) 5,Y 10 [Z 9 3 [V 1],Z 10 2 [Y 19 [I 0],V 2]]],Y 31 [A (V 0) 57,Y 9 [V 1]],Y 31 [A (V 0) 58,Y 10 [Y 9 [V 1],V 2]]]⟩
noncomputable def b_GapText_size:FI:=⟨1,1,[],[Y 35 [Y 10 [Z 10 1 [Y 9 [A (V 0) 5],A (V 0) 58],A (V 0) 57]]]⟩
noncomputable def b_GapText_code:FI:=⟨2,2,[],[Y 32 [Y 13 [V 1,Y 2 [A (V 0) 57]],Q [Y 35 [Y 17 [A (V 0) 5,V 1]]],Q []],Y 35 [Y 17 [A (V 0) 5,Y 10 [Z 10 1 [V 1,A (V 0) 57],A (V 0) 58]]]]⟩
noncomputable def b_GapText_codes:FI:=⟨3,4,[],[Y 31 [V 3,Z 10 1 [A (V 0) 58,A (V 0) 57]],Y 32 [Y 13 [V 2,Y 3 [A (V 0) 57]],Q [Y 35 [Y 18 [A (V 0) 5,V 1,V 2]]],Q []],Y 32 [Y 13 [V 1,Y 5 [A (V 0) 57]],Q [Y 35 [Y 18 [A (V 0) 5,Y 10 [V 1,V 3],Y 10 [V 2,V 3]]]],Q []],Y 35 [Y 10 [Y 18 [A (V 0) 5,V 1,A (V 0) 57],Y 18 [A (V 0) 5,A (V 0) 58,Y 10 [V 2,V 3]]]]]⟩
noncomputable def b_GapText_move_gap:FI:=⟨2,3,[],[Y 32 [Y 13 [V 1,Y 2 [A (V 0) 57]],Q [Y 31 [V 2,Y 18 [A (V 0) 5,V 1,A (V 0) 57]],Y 31 [Y 18 [A (V 0) 5,Z 10 1 [A (V 0) 58,Y 9 [V 2]],A (V 0) 58],V 2],Y 31 [A (V 0) 58,Z 10 1 [A (V 0) 58,Y 9 [V 2]]]],Q [Y 31 [V 2,Y 18 [A (V 0) 5,A (V 0) 58,Z 10 1 [Y 10 [A (V 0) 58,V 1],A (V 0) 57]]],Y 31 [Y 18 [A (V 0) 5,A (V 0) 57,Y 10 [A (V 0) 57,Y 9 [V 2]]],V 2],Y 31 [A (V 0) 58,Y 10 [A (V 0) 58,Y 9 [V 2]]]]],Y 31 [A (V 0) 57,V 1]]⟩
noncomputable def b_GapText_widen_gap:FI:=⟨2,3,[],[Y 31 [V 2,Z 10 1 [V 1,Z 10 1 [A (V 0) 58,A (V 0) 57]]],Y 32 [Y 13 [V 2,Y 4 [I 0]],Q [Y 31 [Y 18 [A (V 0) 5,A (V 0) 58,A (V 0) 58],Z 10 2 [Y 19 [I 0],Y 10 [V 2,A (V 0) 56]]],Y 31 [A (V 0) 58,Y 10 [Y 10 [A (V 0) 58,V 2],A (V 0) 56]]],Q []]]⟩
noncomputable def b_GapText_insert:FI:=⟨3,3,[],[Y 30 [(Z 8 59 ((V 0)::[Y 9 [V 2]]))],Y 30 [(Z 8 60 ((V 0)::[V 1]))],Y 31 [Y 18 [A (V 0) 5,V 1,Y 10 [V 1,Y 9 [V 2]]],V 2],Y 31 [A (V 0) 57,Y 10 [V 1,Y 9 [V 2]]]]⟩
noncomputable def b_GapText_delete:FI:=⟨3,4,[],[Y 31 [V 3,(Z 8 50 ((V 0)::[V 1,V 2]))],Y 32 [Y 13 [V 2,Y 2 [A (V 0) 57]],Q [Y 30 [(Z 8 60 ((V 0)::[V 2]))]],Q []],Y 32 [Y 13 [V 1,Y 4 [A (V 0) 57]],Q [Y 30 [(Z 8 60 ((V 0)::[V 1]))]],Q []],Y 31 [A (V 0) 58,Z 10 1 [Y 10 [A (V 0) 58,V 2],A (V 0) 57]],Y 31 [A (V 0) 57,V 1],Y 35 [V 3]]⟩
noncomputable def b_Markers_init:FI:=⟨1,1,[],[Y 31 [A (V 0) 7,Y 21 []]]⟩
noncomputable def b_Markers_numbers:FI:=⟨1,1,[],[Y 35 [Z 9 7 [A (V 0) 7]]]⟩
noncomputable def b_Markers_inserted:FI:=⟨4,6,[],[Y 34 [V 4,(Y 26 [(Z 8 61 ((V 0)::[]))]),Q [Y 31 [V 5,Y 17 [A (V 0) 7,V 4]],Y 32 [Y 15 [Y 13 [A (V 5) 62,Y 4 [V 1]],Y 14 [Y 13 [A (V 5) 62,Y 0 [V 1]],Y 15 [Y 40 [V 3],Y 40 [A (V 5) 63]]]],Q [Y 31 [A (V 5) 62,Z 10 1 [Y 10 [A (V 5) 62,V 2],V 1]]],Q []]]]]⟩
noncomputable def b_Markers_deleted:FI:=⟨3,5,[],[Y 34 [V 3,(Y 26 [(Z 8 61 ((V 0)::[]))]),Q [Y 31 [V 4,Y 17 [A (V 0) 7,V 3]],Y 32 [Y 13 [A (V 4) 62,Y 4 [V 2]],Q [Y 31 [A (V 4) 62,Z 10 1 [A (V 4) 62,Z 10 1 [V 2,V 1]]]],Q [Y 32 [Y 13 [A (V 4) 62,Y 4 [V 1]],Q [Y 31 [A (V 4) 62,V 1]],Q []]]]]]]⟩
noncomputable def b_Markers_replaced:FI:=⟨4,6,[],[Y 34 [V 4,(Y 26 [(Z 8 61 ((V 0)::[]))]),Q [Y 31 [V 5,Y 17 [A (V 0) 7,V 4]],Y 32 [Y 13 [A (V 5) 62,Y 5 [V 2]],Q [Y 31 [A (V 5) 62,Z 10 1 [Y 10 [A (V 5) 62,V 3],Z 10 1 [V 2,V 1]]]],Q [Y 32 [Y 13 [A (V 5) 62,Y 4 [V 1]],Q [Y 31 [A (V 5) 62,V 1]],Q []]]]]]]⟩
noncomputable def b_Buffer_init:FI:=⟨4,4,[.int 8],[Y 31 [A (V 0) 64,V 1],Y 31 [A (V 0) 65,V 2],Y 31 [A (V 0) 4,Z 7 2 [Y 19 [],V 3]],Y 31 [A (V 0) 6,Z 7 3 []],Y 31 [A (V 0) 19,I 1],Y 31 [A (V 0) 11,I 1],Y 31 [A (V 0) 12,I 1],Y 31 [A (V 0) 66,N],Y 31 [A (V 0) 67,K (.bool true)],Y 31 [A (V 0) 9,K (.bool false)],Y 31 [A (V 0) 68,I 1],Y 31 [A (V 0) 69,I 1],Y 31 [A (V 0) 70,I 1],Y 31 [A (V 0) 8,Y 19 []],Y 31 [A (V 0) 16,N],Y 31 [A (V 0) 22,N],Y 31 [A (V 0) 24,N],Y 31 [A (V 0) 71,N],Y 31 [A (V 0) 72,N],Y 31 [A (V 0) 73,N]]⟩
noncomputable def b_Buffer_begin:FI:=⟨1,1,[],[Y 35 [A (V 0) 11]]⟩
noncomputable def b_Buffer_end:FI:=⟨1,1,[],[Y 35 [A (V 0) 12]]⟩
noncomputable def b_Buffer_size:FI:=⟨1,1,[],[Y 35 [(Z 8 10 ((A (V 0) 4)::[]))]]⟩
noncomputable def b_Buffer_code_at:FI:=⟨2,2,[],[Y 32 [Y 15 [Y 13 [V 1,Y 2 [A (V 0) 11]],Y 13 [V 1,Y 5 [A (V 0) 12]]],Q [Y 35 [Y 11 [I 1]]],Q []],Y 35 [(Z 8 74 ((A (V 0) 4)::[Z 10 1 [V 1,I 1]]))]]⟩
noncomputable def b_Buffer_codes:FI:=⟨3,3,[],[Y 35 [(Z 8 50 ((A (V 0) 4)::[Z 10 1 [V 1,I 1],Z 10 1 [V 2,I 1]]))]]⟩
noncomputable def b_Buffer_touch:FI:=⟨2,2,[],[Y 31 [A (V 0) 68,Y 10 [A (V 0) 68,I 1]],Y 32 [Y 40 [V 1],Q [Y 31 [A (V 0) 69,A (V 0) 68]],Q []]]⟩
noncomputable def b_holds_at:FI:=⟨5,5,[],[Y 32 [Y 13 [V 0,Y 0 [S [98,111,108]]],Q [Y 35 [(Y 15 [(Y 13 [V 4,Y 0 [(Z 8 75 ((V 1)::[]))]]),(Y 13 [(Z 8 76 ((V 1)::[Z 10 1 [V 4,I 1]])),Y 0 [Z 3 3 []]])])]],Q []],Y 32 [Y 13 [V 0,Y 0 [S [101,111,108]]],Q [Y 35 [(Y 15 [(Y 13 [V 4,Y 0 [(Z 8 41 ((V 1)::[]))]]),(Y 13 [(Z 8 76 ((V 1)::[V 4])),Y 0 [Z 3 3 []]])])]],Q []],Y 32 [Y 13 [V 0,Y 0 [S [115,116,97,114,116]]],Q [Y 35 [(Y 13 [V 4,Y 0 [(Z 8 75 ((V 1)::[]))]])]],Q []],Y 32 [Y 13 [V 0,Y 0 [S [101,110,100]]],Q [Y 35 [(Y 13 [V 4,Y 0 [(Z 8 41 ((V 1)::[]))]])]],Q []],Y 32 [Y 13 [V 0,Y 0 [S [112,111,105,110,116]]],Q [Y 35 [Y 13 [V 4,Y 0 [V 3]]]],Q []],Y 32 [Y 13 [V 0,Y 8 [Y 20 [S [98,111,117,110,100],S [105,110,115,105,100,101]]]],Q [Y 35 [Y 13 [Y 99 [],Y 0 [Y 13 [V 0,Y 0 [S [98,111,117,110,100]]]]]]],Q []],Y 32 [Y 13 [V 0,Y 0 [S [119,111,114,100,115,116,97,114,116]]],Q [Y 35 [Y 14 [Y 99 [],Y 99 []]]],Q []],Y 32 [Y 13 [V 0,Y 0 [S [119,111,114,100,101,110,100]]],Q [Y 35 [Y 14 [Y 99 [],Y 99 []]]],Q []],Y 32 [Y 13 [V 0,Y 0 [S [115,121,109,98,111,108,115,116,97,114,116]]],Q [Y 35 [Y 14 [Y 99 [],Y 99 []]]],Q []],Y 35 [Y 14 [Y 99 [],Y 99 []]]]⟩
noncomputable def b_Choice_init:FI:=⟨4,4,[],[Y 31 [A (V 0) 77,V 1],Y 31 [A (V 0) 78,V 2],Y 31 [A (V 0) 79,V 3]]⟩
noncomputable def b_Regmachine_init:FI:=⟨6,6,[.int 0,.int 400000],[Y 31 [A (V 0) 74,V 1],Y 31 [A (V 0) 80,V 2],Y 31 [A (V 0) 81,V 3],Y 31 [A (V 0) 19,V 4],Y 31 [A (V 0) 44,V 5],Y 31 [A (V 0) 82,I 0],Y 31 [A (V 0) 83,I 0],Y 31 [A (V 0) 84,Y 19 []],Y 31 [A (V 0) 85,Y 19 []],Y 31 [A (V 0) 86,Y 19 []],Y 31 [A (V 0) 79,Y 19 []]]⟩
noncomputable def b_Regmachine_match_at:FI:=⟨3,4,[],[Y 31 [A (V 0) 83,V 2],Y 31 [A (V 0) 84,Z 10 2 [Y 19 [Y 11 [I 1]],Y 10 [Z 10 2 [I 2,A (A (V 0) 74) 87],I 2]]],Y 31 [A (V 0) 85,Z 10 2 [Y 19 [Y 11 [I 1]],A (A (V 0) 74) 85]],Y 31 [A (V 0) 86,Y 19 []],Y 31 [A (V 0) 79,Y 19 []],Y 31 [V 3,(Z 8 88 ((V 0)::[V 1]))],Y 32 [Y 13 [V 3,Y 6 [N]],Q [Y 35 [N]],Q []],Y 31 [Y 20 [Y 17 [A (V 0) 84,I 0],Y 17 [A (V 0) 84,I 1]],Y 20 [V 1,V 3]],Y 35 [(Z 22 1 ((Z 8 89 ((Y 2 [])::[V 0]))::(V 0)::(Y 23 [Y 10 [A (A (V 0) 74) 87,I 1]])::[]))]]⟩
noncomputable def b_Regmachine_tried_at:FI:=⟨3,3,[],[Y 31 [A (V 0) 44,Y 10 [A (V 0) 82,Z 3 4 []]],Y 35 [(Z 8 90 ((V 0)::[V 1,V 2]))]]⟩
noncomputable def b_Regmachine_span:FI:=⟨2,4,[],[Y 40 [Y 20 [V 2,V 3],Y 20 [Y 17 [A (V 0) 84,Z 10 2 [I 2,V 1]],Y 17 [A (V 0) 84,Y 10 [Z 10 2 [I 2,V 1],I 1]]]],Y 35 [Y 16 [Y 15 [Y 13 [V 2,Y 2 [I 0]],Y 13 [V 3,Y 2 [I 0]]],N,Y 20 [V 2,V 3]]]]⟩
noncomputable def b_Regmachine_run:FI:=⟨2,6,[],[Y 31 [V 2,I 0],Y 33 [Y 40 [K (.bool true)],Q [Y 31 [A (V 0) 82,Y 10 [A (V 0) 82,I 1]],Y 32 [Y 13 [A (V 0) 82,Y 4 [A (V 0) 44]],Q [Y 99 []],Q []],Y 31 [V 3,Y 17 [Y 17 [A (A (V 0) 74) 7,V 2],I 0]],Y 32 [Y 13 [V 3,Y 0 [S [100,111,110,101]]],Q [Y 35 [V 1]],Q []],Y 32 [Y 13 [V 3,Y 0 [S [115,112,108,105,116]]],Q [Y 30 [(Y 8 ((A (V 0) 86)::[Z 7 5 [Y 17 [Y 17 [A (A (V 0) 74) 7,V 2],I 2],V 1,Y 9 [A (V 0) 79]]]))],Y 31 [V 2,Y 17 [Y 17 [A (A (V 0) 74) 7,V 2],I 1]],Y 37 []],Q []],Y 32 [Y 13 [V 3,Y 0 [S [106,117,109,112]]],Q [Y 31 [V 2,Y 17 [Y 17 [A (A (V 0) 74) 7,V 2],I 1]],Y 37 []],Q []],Y 32 [Y 13 [V 3,Y 0 [S [112,114,111,103,114,101,115,115]]],Q [Y 31 [V 2,Y 16 [Y 13 [Y 17 [A (V 0) 85,Y 17 [Y 17 [A (A (V 0) 74) 7,V 2],I 1]],Y 2 [V 1]],Y 10 [V 2,I 1],Y 17 [Y 17 [A (A (V 0) 74) 7,V 2],I 2]]],Y 37 []],Q []],Y 31 [V 4,(Z 8 91 ((V 0)::[Y 17 [A (A (V 0) 74) 7,V 2],V 1]))],Y 32 [Y 13 [V 4,Y 7 [N]],Q [Y 40 [Y 20 [V 1,V 2],Y 20 [V 4,Y 10 [V 2,I 1]]],Y 37 []],Q []],Y 32 [Y 13 [A (V 0) 86,Y 0 [Y 19 []]],Q [Y 35 [N]],Q []],Y 31 [V 5,(Z 8 1 ((A (V 0) 86)::[]))],Y 30 [(Z 8 92 ((V 0)::[A (V 5) 79]))],Y 40 [Y 20 [V 1,V 2],Y 20 [A (V 5) 78,A (V 5) 77]]]]]⟩
noncomputable def b_Regmachine_go_back:FI:=⟨2,5,[],[Y 33 [Y 13 [Y 9 [A (V 0) 79],Y 4 [V 1]],Q [Y 31 [Y 20 [V 2,V 3,V 4],(Z 8 1 ((A (V 0) 79)::[]))],Y 31 [Y 17 [V 2,V 3],V 4]]]]⟩
noncomputable def b_Regmachine_keep:FI:=⟨4,4,[],[Y 30 [(Y 8 ((A (V 0) 79)::[Y 20 [V 1,V 2,Y 17 [V 1,V 2]]]))],Y 31 [Y 17 [V 1,V 2],V 3]]⟩
noncomputable def b_Regmachine_asked:FI:=⟨3,4,[],[Y 31 [V 3,Y 17 [V 1,I 0]],Y 32 [Y 13 [V 3,Y 8 [Y 20 [S [99,104,97,114],S [97,110,121],S [115,101,116],S [115,121,110,116,97,120]]]],Q [Y 35 [(Y 16 [(Y 14 [Y 13 [V 2,Y 2 [A (V 0) 83]],(Y 40 [(Z 8 93 ((V 0)::[V 1,(Z 8 76 ((A (V 0) 80)::[V 2]))]))])]),Y 10 [V 2,I 1],N])]],Q []],Y 32 [Y 13 [V 3,Y 0 [S [97,116]]],Q [Y 35 [Y 16 [Y 40 [Z 6 44 [Y 17 [V 1,I 1],A (V 0) 80,A (V 0) 81,A (V 0) 19,V 2]],V 2,N]]],Q []],Y 32 [Y 13 [V 3,Y 0 [S [115,97,118,101]]],Q [Y 30 [(Z 8 94 ((V 0)::[A (V 0) 84,Y 17 [V 1,I 1],V 2]))],Y 35 [V 2]],Q []],Y 32 [Y 13 [V 3,Y 0 [S [109,97,114,107]]],Q [Y 30 [(Z 8 94 ((V 0)::[A (V 0) 85,Y 17 [V 1,I 1],V 2]))],Y 35 [V 2]],Q []],Y 35 [(Z 8 95 ((V 0)::[Y 17 [V 1,I 1],V 2]))]]⟩
noncomputable def b_Regmachine_is_taken:FI:=⟨3,4,[],[Y 31 [V 3,Y 17 [V 1,I 0]],Y 32 [Y 13 [V 3,Y 0 [S [99,104,97,114]]],Q [Y 35 [Y 13 [Y 17 [V 1,I 1],Y 0 [Y 16 [Y 40 [A (A (V 0) 74) 96],Y 99 [],V 2]]]]],Q []],Y 32 [Y 13 [V 3,Y 0 [S [97,110,121]]],Q [Y 35 [Y 13 [V 2,Y 1 [Z 3 5 []]]]],Q []],Y 32 [Y 13 [V 3,Y 0 [S [115,121,110,116,97,120]]],Q [Y 35 [(Y 13 [(Y 13 [(Z 8 97 ((A (V 0) 81)::[V 2])),Y 0 [Y 17 [V 1,I 1]]]),Y 1 [Y 17 [V 1,I 2]]])]],Q []],Y 35 [(Y 13 [(Z 8 98 ((V 0)::[V 1,V 2])),Y 1 [Y 17 [V 1,I 1]]])]]⟩
noncomputable def b_expanded:FI:=⟨2,7,[],[Y 40 [Y 20 [V 2,V 3],Y 20 [Y 19 [],I 0]],Y 33 [Y 13 [V 3,Y 2 [Y 9 [V 0]]],Q [Y 31 [V 4,Y 17 [V 0,V 3]],Y 31 [V 3,Y 10 [V 3,I 1]],Y 32 [Y 13 [V 4,Y 1 [Z 3 6 []]],Q [Y 30 [(Y 8 ((V 2)::[V 4]))],Y 37 []],Q []],Y 31 [V 5,Y 16 [Y 13 [V 3,Y 2 [Y 9 [V 0]]],Y 17 [V 0,V 3],Y 11 [I 1]]],Y 31 [V 3,Y 10 [V 3,I 1]],Y 32 [Y 15 [Y 13 [V 5,Y 0 [Z 3 7 []]],Y 13 [I 49,Y 3 [V 5],Y 3 [I 57]]],Q [Y 31 [V 6,Y 16 [Y 13 [V 5,Y 0 [Z 3 7 []]],I 0,Z 10 1 [V 5,I 48]]],Y 30 [(Z 8 2 ((V 2)::[Y 16 [Y 14 [Y 13 [V 6,Y 2 [Y 9 [V 1]]],Y 13 [Y 17 [V 1,V 6],Y 7 [N]]],Y 17 [V 1,V 6],Y 19 []]]))]],Q [Y 32 [Y 13 [V 5,Y 0 [Z 3 6 []]],Q [Y 30 [(Y 8 ((V 2)::[Z 3 6 []]))]],Q [Y 32 [Y 13 [V 5,Y 0 [Z 3 8 []]],Q [Y 30 [(Z 8 2 ((V 2)::[Y 19 [Z 3 6 [],Z 3 8 []]]))]],Q [Y 99 []]]]]]]]],Y 35 [V 2]]⟩
noncomputable def b_re_search_forward:FI:=⟨6,10,[],[Y 31 [V 6,Z 7 6 [V 3,V 0,V 1,V 5]],Y 31 [V 7,(Z 9 1 [V 4,(Z 8 41 ((V 0)::[]))])],Y 34 [V 8,Y 23 [V 2,Y 10 [V 7,I 1]],Q [Y 31 [V 9,(Z 8 99 ((V 6)::[V 8,V 7]))],Y 32 [Y 13 [V 9,Y 7 [N]],Q [Y 35 [V 9]],Q []]]],Y 35 [N]]⟩
noncomputable def b_Pattern_init:FI:=⟨3,3,[],[Y 31 [A (V 0) 74,V 1],Y 31 [A (V 0) 81,V 2],Y 31 [A (V 0) 100,Y 19 []]]⟩
noncomputable def b_Pattern_next:FI:=⟨4,5,[],[Y 31 [V 4,Z 6 56 [V 1,A (V 0) 81,V 2,A (V 0) 74,V 3,A (V 1) 19]],Y 32 [Y 13 [V 4,Y 6 [N]],Q [Y 35 [N]],Q []],Y 31 [A (V 0) 100,V 4],Y 35 [Y 17 [V 4,I 0]]]⟩
noncomputable def b_Pattern_near:FI:=⟨4,5,[],[Y 31 [V 4,(Z 8 90 ((Z 7 6 [A (V 0) 74,V 1,A (V 0) 81,V 2])::[V 2,V 3]))],Y 32 [Y 15 [Y 13 [V 4,Y 6 [N]],Y 13 [Y 17 [Y 17 [V 4,I 0],I 0],Y 0 [Y 17 [Y 17 [V 4,I 0],I 1]]]],Q [Y 35 [Y 20 [S [110,111,110,101],N]]],Q []],Y 35 [Y 20 [S [97,116],V 4]]]⟩
noncomputable def b_Pattern_told:FI:=⟨1,1,[],[Y 35 [A (V 0) 100]]⟩
noncomputable def b_Pattern_tell:FI:=⟨2,2,[],[Y 31 [A (V 0) 100,V 1]]⟩
noncomputable def b_Templated_init:FI:=⟨4,4,[],[Y 31 [A (V 0) 101,V 1],Y 31 [A (V 0) 102,V 2],Y 31 [A (V 0) 103,V 3]]⟩
noncomputable def b_Templated_made:FI:=⟨4,6,[],[Y 39 [V 4,(Z 22 1 ((Y 16 [Y 13 [V 0,Y 6 [N]],N,(Z 8 50 ((Z 2 1 [])::[Y 17 [V 0,I 0],Y 17 [V 0,I 1]]))])::(V 0)::(Y 26 [A (A (V 0) 101) 100])::[]))],Y 31 [V 5,Z 6 55 [A (V 0) 102,V 4]],Y 35 [Y 16 [Y 40 [A (V 0) 103],V 5,Y 99 []]]]⟩
noncomputable def b_sign_of:FI:=⟨1,1,[],[Y 35 [Y 16 [Y 13 [I 0,Y 3 [V 0],Y 2 [I 128]],Z 9 6 [V 0],S [120]]]]⟩
noncomputable def b_sign_at:FI:=⟨2,2,[],[Y 35 [Y 16 [Y 13 [V 1,Y 2 [Y 9 [V 0]]],Z 6 64 [Y 17 [V 0,V 1]],S []]]]⟩
noncomputable def b_is_escaped:FI:=⟨3,3,[],[Y 35 [Y 14 [Y 13 [Z 6 65 [V 0,V 1],Y 0 [S [92]]],Y 13 [Z 6 65 [V 0,Y 10 [V 1,I 1]],Y 1 [S []]],Y 13 [Z 6 65 [V 0,Y 10 [V 1,I 1]],Y 8 [V 2]]]]]⟩
noncomputable def b_joined:FI:=⟨1,1,[],[Y 35 [Y 16 [Y 13 [Y 9 [V 0],Y 0 [I 1]],Y 17 [V 0,I 0],Y 20 [S [115,101,113],Z 9 9 [V 0]]]]]⟩
noncomputable def b_Frame_init:FI:=⟨3,3,[],[Y 31 [A (V 0) 104,V 1],Y 31 [A (V 0) 64,V 2],Y 31 [A (V 0) 105,Y 19 []],Y 31 [A (V 0) 106,Y 19 []],Y 31 [A (V 0) 107,K (.bool true)]]⟩
noncomputable def b_Frame_put:FI:=⟨2,2,[],[Y 30 [(Y 8 ((A (V 0) 106)::[V 1]))],Y 31 [A (V 0) 107,K (.bool false)]]⟩
noncomputable def b_Frame_node:FI:=⟨1,1,[],[Y 32 [Y 13 [A (V 0) 105,Y 0 [Y 19 []]],Q [Y 35 [Z 6 67 [A (V 0) 106]]],Q []],Y 35 [Y 20 [S [97,108,116],Z 9 9 [Y 10 [A (V 0) 105,Y 19 [Z 6 67 [A (V 0) 106]]]]]]]⟩
noncomputable def b_Parsing_init:FI:=⟨2,2,[],[Y 31 [A (V 0) 50,V 1],Y 31 [A (V 0) 78,I 0],Y 31 [A (V 0) 108,Y 19 [Z 7 9 [S [116,111,112],I 0]]],Y 31 [A (V 0) 87,I 0]]⟩
noncomputable def b_Parsing_top:FI:=⟨1,1,[],[Y 35 [Y 17 [A (V 0) 108,Y 11 [I 1]]]]⟩
noncomputable def b_Parsing_code:FI:=⟨1,1,[],[Y 32 [Y 13 [A (V 0) 78,Y 5 [Y 9 [A (V 0) 50]]],Q [Y 99 []],Q []],Y 31 [A (V 0) 78,Y 10 [A (V 0) 78,I 1]],Y 35 [Y 17 [A (V 0) 50,Z 10 1 [A (V 0) 78,I 1]]]]⟩
noncomputable def b_Parsing_whole:FI:=⟨1,1,[],[Y 33 [Y 13 [A (V 0) 78,Y 2 [Y 9 [A (V 0) 50]]],Q [Y 30 [(Z 8 109 ((V 0)::[]))]]],Y 32 [Y 13 [Y 9 [A (V 0) 108],Y 4 [I 1]],Q [Y 99 []],Q []],Y 35 [(Z 8 110 ((Z 8 111 ((V 0)::[]))::[]))]]⟩
noncomputable def b_Parsing_step:FI:=⟨1,4,[],[Y 31 [V 1,(Z 8 74 ((V 0)::[]))],Y 31 [V 2,Z 6 64 [V 1]],Y 32 [Y 13 [V 2,Y 0 [S [92]]],Q [Y 30 [(Z 8 112 ((V 0)::[(Z 8 74 ((V 0)::[]))]))]],Q [Y 32 [(Y 14 [Y 13 [V 2,Y 8 [S [42,43,63]]],(Y 12 [(Y 40 [(A (Z 8 111 ((V 0)::[])) 107)])])]),Q [Y 30 [(Z 8 95 ((V 0)::[V 2]))]],Q [Y 32 [Y 13 [V 2,Y 0 [S [46]]],Q [Y 30 [(Z 8 113 ((Z 8 111 ((V 0)::[]))::[Y 20 [S [97,110,121]]]))]],Q [Y 32 [Y 13 [V 2,Y 0 [S [91]]],Q [Y 31 [Y 20 [V 3,A (V 0) 78],Y 99 []],Y 30 [(Z 8 113 ((Z 8 111 ((V 0)::[]))::[V 3]))]],Q [Y 32 [(Y 14 [Y 13 [V 2,Y 0 [S [94]]],(Y 13 [(A (Z 8 111 ((V 0)::[])) 106),Y 0 [Y 19 []]])]),Q [Y 30 [(Y 8 ((A (Z 8 111 ((V 0)::[])) 106)::[Y 20 [S [97,116],S [98,111,108]]]))]],Q [Y 32 [Y 14 [Y 13 [V 2,Y 0 [S [36]]],Y 15 [Y 13 [A (V 0) 78,Y 0 [Y 9 [A (V 0) 50]]],Y 40 [Z 6 66 [A (V 0) 50,A (V 0) 78,S [41,124]]]]],Q [Y 30 [(Y 8 ((A (Z 8 111 ((V 0)::[])) 106)::[Y 20 [S [97,116],S [101,111,108]]]))]],Q [Y 30 [(Z 8 113 ((Z 8 111 ((V 0)::[]))::[Y 20 [S [99,104,97,114],V 1]]))]]]]]]]]]]]]]]⟩
noncomputable def b_Parsing_repeated:FI:=⟨2,5,[],[Y 40 [Y 20 [V 2,V 3,V 4],Y 20 [K (.bool false),K (.bool false),K (.bool true)]],Y 33 [Y 40 [K (.bool true)],Q [Y 32 [Y 14 [Y 13 [V 1,Y 0 [S [63]]],Y 15 [Y 40 [V 2],Y 40 [V 3]]],Q [Y 31 [V 4,K (.bool false)]],Q [Y 40 [Y 20 [V 2,V 3],Y 20 [Y 15 [V 2,Y 13 [V 1,Y 1 [S [43]]]],Y 15 [V 3,Y 13 [V 1,Y 1 [S [63]]]]]]]],Y 31 [V 1,Z 6 65 [A (V 0) 50,A (V 0) 78]],Y 32 [Y 15 [Y 13 [V 1,Y 0 [S []]],Y 13 [V 1,Y 9 [S [42,43,63]]]],Q [Y 36 []],Q []],Y 31 [A (V 0) 78,Y 10 [A (V 0) 78,I 1]]]],Y 30 [(Z 8 114 ((V 0)::[Y 16 [Y 40 [V 2],I 0,I 1],Y 16 [Y 40 [V 3],Y 11 [I 1],I 1],V 4]))]]⟩
noncomputable def b_Parsing_repeat:FI:=⟨4,5,[],[Y 31 [V 4,(A (Z 8 111 ((V 0)::[])) 106)],Y 30 [(Y 8 ((V 4)::[(Y 20 [S [116,105,109,101,115],V 1,V 2,V 3,(Z 8 1 ((V 4)::[]))])]))]]⟩
noncomputable def b_parse_regexp:FI:=⟨1,2,[],[Y 31 [V 1,Z 7 10 [V 0]],Y 35 [(Y 20 [(Z 8 115 ((V 1)::[])),A (V 1) 87])]]⟩
noncomputable def b_Regcode_init:FI:=⟨5,5,[],[Y 31 [A (V 0) 7,V 1],Y 31 [A (V 0) 87,V 2],Y 31 [A (V 0) 85,V 3],Y 31 [A (V 0) 96,V 4]]⟩
noncomputable def b_Compiling_init:FI:=⟨2,2,[],[Y 31 [A (V 0) 96,V 1],Y 31 [A (V 0) 7,Y 19 []],Y 31 [A (V 0) 116,Y 21 []],Y 31 [A (V 0) 117,I 0],Y 31 [A (V 0) 85,I 0],Y 31 [A (V 0) 118,Y 19 []]]⟩
noncomputable def b_Compiling_label:FI:=⟨1,1,[],[Y 31 [A (V 0) 117,Y 10 [A (V 0) 117,I 1]],Y 35 [A (V 0) 117]]⟩
noncomputable def b_Compiling_wait:FI:=⟨2,3,[],[Y 32 [Y 13 [Y 10 [Y 10 [Y 9 [A (V 0) 7],Y 9 [A (V 0) 118]],Y 9 [V 1]],Y 4 [Z 3 9 []]],Q [Y 99 []],Q []],Y 34 [V 2,Y 24 [V 1],Q [Y 30 [(Y 8 ((A (V 0) 118)::[V 2]))]]]]⟩
noncomputable def b_Compiling_run:FI:=⟨2,5,[],[Y 30 [(Z 8 119 ((V 0)::[Y 19 [Y 20 [S [110,111,100,101],V 1],Y 20 [S [114,111,119],Y 20 [S [100,111,110,101]]]]]))],Y 31 [V 2,I 0],Y 33 [Y 13 [A (V 0) 118,Y 1 [Y 19 []]],Q [Y 31 [V 2,Y 10 [V 2,I 1]],Y 32 [Y 13 [V 2,Y 4 [Z 3 10 []]],Q [Y 99 []],Q []],Y 31 [Y 20 [V 3,V 4],(Z 8 1 ((A (V 0) 118)::[]))],Y 32 [Y 13 [V 3,Y 0 [S [114,111,119]]],Q [Y 30 [(Y 8 ((A (V 0) 7)::[V 4]))]],Q [Y 32 [Y 13 [V 3,Y 0 [S [108,97,98,101,108]]],Q [Y 31 [Y 17 [A (V 0) 116,V 4],Y 9 [A (V 0) 7]]],Q [Y 30 [(Z 8 110 ((V 0)::[V 4]))]]]]]]]]⟩
noncomputable def b_Compiling_node:FI:=⟨2,3,[],[Y 31 [V 2,Y 17 [V 1,I 0]],Y 32 [Y 13 [V 2,Y 0 [S [99,104,97,114]]],Q [Y 30 [(Y 8 ((A (V 0) 7)::[Y 20 [S [99,104,97,114],Y 16 [Y 40 [A (V 0) 96],Y 99 [],Y 17 [V 1,I 1]]]]))]],Q [Y 32 [.nd 4 11 (.bool true) [V 2],Q [Y 30 [(Y 8 ((A (V 0) 7)::[V 1]))]],Q [Y 32 [Y 13 [V 2,Y 0 [S [115,101,113]]],Q [Y 30 [(Z 8 119 ((V 0)::[(Z 22 1 ((Y 20 [S [110,111,100,101],V 0])::(V 0)::(Y 26 [Y 17 [V 1,I 1]])::[]))]))]],Q [Y 32 [Y 13 [V 2,Y 0 [S [115,104,121]]],Q [Y 30 [(Z 8 119 ((V 0)::[Y 19 [Y 20 [S [110,111,100,101],Y 17 [V 1,I 1]]]]))]],Q [Y 32 [Y 13 [V 2,Y 0 [S [103,114,111,117,112]]],Q [Y 30 [(Z 8 119 ((V 0)::[Y 19 [Y 20 [S [114,111,119],Y 20 [S [115,97,118,101],Z 10 2 [I 2,Y 17 [V 1,I 1]]]],Y 20 [S [110,111,100,101],Y 17 [V 1,I 2]],Y 20 [S [114,111,119],Y 20 [S [115,97,118,101],Y 10 [Z 10 2 [I 2,Y 17 [V 1,I 1]],I 1]]]]]))]],Q [Y 32 [Y 13 [V 2,Y 0 [S [97,108,116]]],Q [Y 30 [(Z 8 120 ((V 0)::[Y 17 [V 1,I 1]]))]],Q [Y 30 [(Z 8 95 ((V 0)::[V 1]))]]]]]]]]]]]]]]⟩
noncomputable def b_Compiling_repeated:FI:=⟨2,11,[],[Y 31 [Y 20 [V 2,V 3,V 4,V 5,V 6],V 1],Y 40 [Y 20 [V 7,V 8],(Y 20 [Z 10 2 [Y 19 [Y 20 [S [110,111,100,101],V 6]],V 3],(Z 8 121 ((V 0)::[]))])],Y 32 [Y 13 [Y 10 [Y 9 [V 7],Z 9 2 [Z 10 1 [V 4,V 3],I 0]],Y 4 [Z 3 9 []]],Q [Y 99 []],Q []],Y 32 [Y 13 [V 4,Y 2 [I 0]],Q [Y 31 [V 7,(Y 10 [V 7,(Z 8 122 ((V 0)::[V 6,V 5,V 8]))])]],Q []],Y 34 [V 9,Y 23 [Z 10 1 [V 4,V 3]],Q [Y 31 [V 10,(Z 8 121 ((V 0)::[]))],Y 31 [V 7,(Y 10 [V 7,(Y 19 [(Y 20 [S [114,111,119],(Z 8 123 ((V 0)::[V 10,V 8,V 5]))]),Y 20 [S [108,97,98,101,108],V 10],Y 20 [S [110,111,100,101],V 6]])])]]],Y 30 [(Z 8 119 ((V 0)::[Y 10 [V 7,Y 19 [Y 20 [S [108,97,98,101,108],V 8]]]]))]]⟩
noncomputable def b_Compiling_split:FI:=⟨4,4,[],[Y 35 [Y 16 [Y 40 [V 3],Y 20 [S [115,112,108,105,116],V 1,V 2],Y 20 [S [115,112,108,105,116],V 2,V 1]]]]⟩
noncomputable def b_Compiling_loop:FI:=⟨4,8,[],[Y 40 [Y 20 [V 4,V 5,V 6],(Y 20 [(Z 8 121 ((V 0)::[])),(Z 8 121 ((V 0)::[])),A (V 0) 85])],Y 31 [A (V 0) 85,Y 10 [A (V 0) 85,I 1]],Y 31 [V 7,(Y 19 [Y 20 [S [108,97,98,101,108],V 4],(Y 20 [S [114,111,119],(Z 8 123 ((V 0)::[V 5,V 3,V 2]))]),Y 20 [S [108,97,98,101,108],V 5]])],Y 31 [V 7,Y 10 [V 7,Y 19 [Y 20 [S [114,111,119],Y 20 [S [109,97,114,107],V 6]],Y 20 [S [110,111,100,101],V 1],Y 20 [S [114,111,119],Y 20 [S [112,114,111,103,114,101,115,115],V 6,V 3]]]]],Y 35 [Y 10 [V 7,Y 19 [Y 20 [S [114,111,119],Y 20 [S [106,117,109,112],V 4]]]]]]⟩
noncomputable def b_Compiling_settled:FI:=⟨1,3,[],[Y 31 [V 1,Y 19 []],Y 34 [V 2,Y 26 [A (V 0) 7],Q [Y 32 [Y 13 [Y 17 [V 2,I 0],Y 0 [S [115,112,108,105,116]]],Q [Y 30 [(Y 8 ((V 1)::[Y 20 [S [115,112,108,105,116],Y 17 [A (V 0) 116,Y 17 [V 2,I 1]],Y 17 [A (V 0) 116,Y 17 [V 2,I 2]]]]))]],Q [Y 32 [Y 13 [Y 17 [V 2,I 0],Y 0 [S [112,114,111,103,114,101,115,115]]],Q [Y 30 [(Y 8 ((V 1)::[Y 20 [S [112,114,111,103,114,101,115,115],Y 17 [V 2,I 1],Y 17 [A (V 0) 116,Y 17 [V 2,I 2]]]]))]],Q [Y 30 [(Y 8 ((V 1)::[Y 16 [Y 13 [Y 17 [V 2,I 0],Y 0 [S [106,117,109,112]]],Y 20 [S [106,117,109,112],Y 17 [A (V 0) 116,Y 17 [V 2,I 1]]],V 2]]))]]]]]]],Y 35 [V 1]]⟩
noncomputable def b_compile_node:FI:=⟨3,4,[],[Y 31 [V 3,Z 7 12 [V 2]],Y 30 [(Z 8 88 ((V 3)::[V 0]))],Y 35 [(Z 7 11 [(Z 8 124 ((V 3)::[])),V 1,A (V 3) 85,V 2])]]⟩
noncomputable def b_compile_regexp:FI:=⟨2,4,[],[Y 31 [Y 20 [V 2,V 3],Z 6 78 [V 0]],Y 35 [Z 6 89 [V 2,V 3,V 1]]]⟩
noncomputable def b_Syntax_init:FI:=⟨4,4,[],[Y 31 [A (V 0) 125,V 1],Y 31 [A (V 0) 126,V 2],Y 31 [A (V 0) 127,V 3]]⟩
noncomputable def b_sorted_flags:FI:=⟨1,1,[],[Y 35 [(Z 8 3 ((S [])::[(Z 22 1 ((V 0)::(V 0)::(Y 26 [Z 3 12 []])::[Y 13 [V 0,Y 8 [Y 2 []]]]))]))]]⟩
noncomputable def b_read_syntax:FI:=⟨1,4,[],[Y 32 [Y 13 [V 0,Y 0 [S []]],Q [Y 99 []],Q []],Y 31 [V 1,Y 16 [Y 13 [Y 17 [V 0,I 0],Y 0 [S [45]]],Z 3 13 [],Y 17 [V 0,I 0]]],Y 31 [V 2,Y 16 [Y 15 [Y 13 [Y 9 [V 0],Y 2 [I 2]],Y 13 [Y 17 [V 0,I 1],Y 0 [S [32]]]],N,Z 9 5 [Y 17 [V 0,I 1]]]],Y 31 [V 3,Y 18 [V 0,I 2,N]],Y 32 [(Y 15 [Y 13 [V 1,Y 9 [Z 3 14 []]],(Y 12 [(Y 40 [(Z 9 8 [(Z 22 1 ((Y 15 [Y 13 [V 0,Y 8 [Z 3 12 []]],Y 13 [V 0,Y 0 [S [32]]]])::(V 0)::(Y 26 [V 3])::[]))])])])]),Q [Y 99 []],Q []],Y 35 [Z 7 13 [V 1,V 2,Z 6 92 [V 3]]]]⟩
noncomputable def b_SyntaxTable_init:FI:=⟨2,2,[.none],[Y 31 [A (V 0) 128,V 1],Y 31 [A (V 0) 7,Y 21 []]]⟩
noncomputable def b_SyntaxTable_modify_all:FI:=⟨3,5,[],[Y 31 [V 3,Z 6 93 [V 2]],Y 34 [V 4,Y 26 [V 1],Q [Y 31 [Y 17 [A (V 0) 7,Z 9 5 [V 4]],V 3]]]]⟩
noncomputable def b_letters:FI:=⟨0,0,[],[Y 35 [S [97,98,99,100,101,102,103,104,105,106,107,108,109,110,111,112,113,114,115,116,117,118,119,120,121,122,65,66,67,68,69,70,71,72,73,74,75,76,77,78,79,80,81,82,83,84,85,86,87,88,89,90,48,49,50,51,52,53,54,55,56,57]]]⟩
noncomputable def b_standard_table:FI:=⟨0,3,[],[Y 31 [V 0,Z 7 14 []],Y 30 [(Z 8 129 ((V 0)::[Y 10 [Z 6 96 [],S [36,37]],S [119]]))],Y 30 [(Z 8 129 ((V 0)::[S [32,9,10,13,12],S [32]]))],Y 30 [(Z 8 129 ((V 0)::[S [95,45,43,42,47,38,124,60,62,61],S [95]]))],Y 30 [(Z 8 129 ((V 0)::[S [46,44,59,58,63,33,35,64,126,94,39,96],S [46]]))],Y 34 [Y 20 [V 1,V 2],Y 26 [Y 20 [Y 20 [S [40],S [41]],Y 20 [S [91],S [93]],Y 20 [S [123],S [125]]]],Q [Y 30 [(Z 8 129 ((V 0)::[V 1,Y 10 [S [40],V 2]]))],Y 30 [(Z 8 129 ((V 0)::[V 2,Y 10 [S [41],V 1]]))]]],Y 30 [(Z 8 129 ((V 0)::[S [34],S [34]]))],Y 30 [(Z 8 129 ((V 0)::[S [92],S [92]]))],Y 35 [V 0]]⟩
noncomputable def b_text_table:FI:=⟨0,1,[],[Y 31 [V 0,Z 7 14 [Z 6 97 []]],Y 30 [(Z 8 129 ((V 0)::[S [34,92],S [46]]))],Y 30 [(Z 8 129 ((V 0)::[S [39],S [119,32,112]]))],Y 35 [V 0]]⟩
noncomputable def b_law_draw:FI:=⟨2,2,[],[Y 35 [(Y 16 [Y 13 [V 0,Y 1 [Y 19 []]],(Z 10 3 [(Z 8 1 ((V 0)::[I 0])),V 1]),I 0])]]⟩
noncomputable def b_law_end:FI:=⟨6,7,[],[Y 31 [V 6,I 0],Y 33 [Y 14 [Y 13 [Y 10 [V 1,V 6],Y 2 [Y 9 [V 0]]],Y 13 [Y 17 [V 0,Y 10 [V 1,V 6]],Y 0 [V 2]],Y 13 [V 6,Y 2 [V 4]]],Q [Y 31 [V 6,Y 10 [V 6,I 1]]]],Y 33 [Y 13 [V 6,Y 5 [V 3]],Q [Y 32 [Y 13 [V 5,Y 0 [I 0]],Q [Y 35 [Y 10 [V 1,V 6]]],Q []],Y 32 [Y 13 [Y 18 [V 0,Y 10 [V 1,V 6],Y 10 [Y 10 [V 1,V 6],I 1]],Y 0 [Y 19 [V 5]]],Q [Y 35 [Y 10 [Y 10 [V 1,V 6],I 1]]],Q []],Y 31 [V 6,Z 10 1 [V 6,I 1]]]],Y 35 [Y 11 [I 1]]]⟩
noncomputable def b_law_first:FI:=⟨6,8,[],[Y 34 [V 6,Y 23 [V 1,Y 10 [Y 9 [V 0],I 1]],Q [Y 31 [V 7,Z 6 100 [V 0,V 6,V 2,V 3,V 4,V 5]],Y 32 [Y 13 [V 7,Y 5 [I 0]],Q [Y 35 [Y 20 [V 6,V 7]]],Q []]]],Y 35 [N]]⟩
noncomputable def b_law_walk:FI:=⟨7,16,[],[Y 40 [Y 20 [V 7,V 8,V 9,V 10],Y 20 [Y 19 [],I 0,I 0,V 1]],Y 33 [Y 13 [V 10,Y 2 [Y 9 [V 0]]],Q [Y 31 [V 11,Z 6 101 [V 0,V 10,V 2,V 3,V 4,V 5]],Y 32 [Y 13 [V 11,Y 6 [N]],Q [Y 36 []],Q []],Y 31 [Y 20 [V 12,V 13],V 11],Y 31 [V 14,Y 18 [V 0,V 12,V 13]],Y 31 [V 7,Y 10 [Y 10 [V 7,Y 18 [V 0,V 9,V 12]],Y 17 [Y 19 [Y 19 [I 45],Y 19 [],Y 10 [V 14,V 14]],V 6]]],Y 40 [Y 20 [V 8,V 9],Y 20 [Y 10 [V 8,I 1],V 13]],Y 31 [V 15,Y 14 [Y 13 [V 13,Y 4 [V 12]],Y 13 [Z 6 100 [V 0,V 13,V 2,V 3,V 4,V 5],Y 4 [V 13]]]],Y 31 [V 10,Y 16 [Y 40 [V 15],V 13,Y 10 [V 13,I 1]]]]],Y 35 [Y 20 [Y 10 [V 7,Y 18 [V 0,V 9,N]],V 8]]]⟩
noncomputable def b_law1:FI:=⟨1,16,[],[Y 39 [V 1,(Z 22 1 ((Z 9 4 [V 0])::(V 0)::(Y 26 [Y 18 [V 0,N,I 40]])::[]))],Y 39 [V 2,(Z 22 1 ((Y 17 [Y 19 [I 120,I 97,I 120,I 98],Z 6 99 [Z 2 1 [],I 4]])::(V 0)::(Y 23 [Y 10 [I 1,Z 6 99 [V 1,I 9]]])::[]))],Y 40 [Y 20 [V 3,V 4,V 5],Y 20 [Z 6 99 [V 1,I 3],Y 17 [Y 19 [I 0,I 97],Z 6 99 [V 1,I 2]],Z 6 99 [V 1,I 3]]],Y 40 [Y 20 [V 6,V 7],Y 20 [Z 6 99 [V 1,Y 10 [Y 9 [V 2],I 1]],Z 7 4 [I 1,S [97]]]],Y 30 [Z 6 11 [V 7,V 2]],Y 31 [Y 20 [V 8,V 9],Y 17 [Y 19 [Y 20 [I 0,I 99],Y 20 [I 1,I 99],Y 20 [I 0,I 1]],V 3]],Y 31 [V 10,Y 10 [Y 19 [I 120,Y 17 [Y 19 [I 42,I 43,I 63],V 3]],Y 16 [Y 13 [V 4,Y 4 [I 0]],Y 19 [V 4],Y 19 []]]],Y 31 [V 11,Y 17 [Y 19 [Y 19 [I 45],Y 19 [],Y 19 [I 92,I 38,I 92,I 38]],V 5]],Y 31 [V 12,Z 7 7 [Z 6 90 [V 10,K (.bool false)],Z 6 98 []]],Y 31 [V 13,Z 6 23 [V 7,V 12,Z 7 8 [V 12,V 11,K (.bool true)],Y 10 [I 1,V 6],Y 10 [Y 9 [V 2],I 1]]],Y 31 [Y 20 [V 14,V 15],Z 6 102 [V 2,V 6,I 120,V 8,V 9,V 4,V 5]],Y 35 [(Y 14 [Y 13 [V 13,Y 0 [V 15]],(Y 13 [(Z 8 50 ((V 7)::[I 1,(Y 10 [(Z 8 10 ((V 7)::[])),I 1])])),Y 0 [V 14]])])]]⟩
noncomputable def fiT:List (Nat×FI):=[(0,b_need_writable),(0,b_need_room),(0,b_reached),(0,b_tell_ahead),(0,b_tell_behind),(0,b_text_out),(0,b_text_in),(0,b_hung_out),(0,b_hung_in),(0,b_put_in),(0,b_insert_at),(0,b_insert),(0,b_delete),(0,b_replace),(0,b_Step_init),(0,b_Replacing_init),(0,b_Replacing_look),(0,b_Replacing_meet),(0,b_Replacing_stand),(0,b_Replacing_put_new),(0,b_Replacing_go_on),(0,b_Replacing_pass_by),(0,b_Replacing_put_all),(0,b_replaced_all),(0,b_GapText_init),(0,b_GapText_size),(0,b_GapText_code),(0,b_GapText_codes),(0,b_GapText_move_gap),(0,b_GapText_widen_gap),(0,b_GapText_insert),(0,b_GapText_delete),(0,b_Markers_init),(0,b_Markers_numbers),(0,b_Markers_inserted),(0,b_Markers_deleted),(0,b_Markers_replaced),(0,b_Buffer_init),(0,b_Buffer_begin),(0,b_Buffer_end),(0,b_Buffer_size),(0,b_Buffer_code_at),(0,b_Buffer_codes),(0,b_Buffer_touch),(0,b_holds_at),(0,b_Choice_init),(0,b_Regmachine_init),(0,b_Regmachine_match_at),(0,b_Regmachine_tried_at),(0,b_Regmachine_span),(0,b_Regmachine_run),(0,b_Regmachine_go_back),(0,b_Regmachine_keep),(0,b_Regmachine_asked),(0,b_Regmachine_is_taken),(0,b_expanded),(0,b_re_search_forward),(0,b_Pattern_init),(0,b_Pattern_next),(0,b_Pattern_near),(0,b_Pattern_told),(0,b_Pattern_tell),(0,b_Templated_init),(0,b_Templated_made),(0,b_sign_of),(0,b_sign_at),(0,b_is_escaped),(0,b_joined),(0,b_Frame_init),(0,b_Frame_put),(0,b_Frame_node),(0,b_Parsing_init),(0,b_Parsing_top),(0,b_Parsing_code),(0,b_Parsing_whole),(0,b_Parsing_step),(0,b_Parsing_repeated),(0,b_Parsing_repeat),(0,b_parse_regexp),(0,b_Regcode_init),(0,b_Compiling_init),(0,b_Compiling_label),(0,b_Compiling_wait),(0,b_Compiling_run),(0,b_Compiling_node),(0,b_Compiling_repeated),(0,b_Compiling_split),(0,b_Compiling_loop),(0,b_Compiling_settled),(0,b_compile_node),(0,b_compile_regexp),(0,b_Syntax_init),(0,b_sorted_flags),(0,b_read_syntax),(0,b_SyntaxTable_init),(0,b_SyntaxTable_modify_all),(0,b_letters),(0,b_standard_table),(0,b_text_table),(0,b_law_draw),(1,b_law_end),(1,b_law_first),(1,b_law_walk),(2,⟨0,0,[],[]⟩),(2,⟨0,0,[],[]⟩),(1,b_law1),(2,⟨0,0,[],[]⟩)]
noncomputable def nth {α:Type}:List α→Nat→α→α
 | [],_,d=>d
 | x::_,0,_=>x
 | _::r,n+1,d=>nth r n d
noncomputable def nmS (n:Nat):Str:=nth nmT n ⟨#[1200000+n]⟩
noncomputable def clS (n:Nat):Str:=nth clT n ⟨#[]⟩
noncomputable def glS (n:Nat):Str:=nth glN n ⟨#[]⟩
noncomputable def fnS (n:Nat):Str:=nth fnN n ⟨#[]⟩
noncomputable def fnC (n:Nat):Option Nat:=nth fnK n none
noncomputable def fvars (n:Nat):List Str:=nth fnV n []
noncomputable def glV (n:Nat):AV:=nth glA n .none
noncomputable def glT (n:Nat):List (List Nat):=nth glP n []
noncomputable def mtab (c m:Nat):Option Nat:=(mtT.find? fun t=>t.1 == c && t.2.1 == m).map (·.2.2)
noncomputable def ftab (c:Nat):List Nat:=nth ftT c []
noncomputable def itab (c:Nat):Nat:=nth itT c 999
noncomputable def fi (side:Bool) (f:Nat):Option FI:=match nth (fiT.map some) f none with
 | some (s,i)=>if s=0∨s=(if side then 2 else 1) then some i else none
 | none=>none
noncomputable def LIM:Nat:=10000
noncomputable def sInt (i:Int):Bool:=decide (-1000000000≤i) && decide (i≤1000000000)
noncomputable def okI (o:Nat) (i:Int):Bool:=nth [true,true] o (sInt i)
noncomputable def listAt (σ:Hp) (i:Nat):Option (List AV):=match σ[i]? with | some (.list xs)=>some xs | _=>none
noncomputable def lstG (σ:Hp):AV→Option (List AV)
 | .ref i=>listAt σ i
 | _=>none
noncomputable def truth (a:AV):Option Bool:=match a with
 | .bool b=>some b
 | _=>none
noncomputable def intsV:List AV→Option (List Int)
 | []=>some []
 | .int i::r=>(intsV r).map (i::·)
 | _=>none
noncomputable def strsV:List AV→Option (List (List Nat))
 | []=>some []
 | .str i::r=>(strsV r).map (i::·)
 | _=>none
noncomputable def boolsV:List AV→Option (List Bool)
 | []=>some []
 | .bool i::r=>(boolsV r).map (i::·)
 | _=>none
noncomputable def eqL (xs ys:List AV):Option Bool:=if xs.length≠ys.length then some false else match intsV xs with
 | some a=>match intsV ys with | some b=>some (decide (a=b)) | none=>none
 | none=>none
noncomputable def eqV (σ:Hp) (a b:AV):Option Bool:=match a with
 | .int i=>match b with | .int j=>some (decide (i=j)) | _=>none
 | .str i=>match b with | .str j=>some (decide (i=j)) | _=>none
 | .ref i=>match b with
  | .ref j=>match listAt σ i with
   | some xs=>match listAt σ j with | some ys=>eqL xs ys | none=>none
   | none=>none
  | _=>none
 | _=>none
noncomputable def inV (σ:Hp) (a b:AV):Option Bool:=match a with
 | .str y=>match b with
  | .str x=>some (!(PySem.Builtin.Str.occurrences ⟨x.toArray⟩ ⟨y.toArray⟩ 0 x.length 1).isEmpty)
  | .ref j=>match σ[j]? with
   | some (.tup xs)=>(strsV xs).map (·.contains y)
   | _=>none
  | _=>none
 | _=>none
noncomputable def ordV (f:Int→Int→Bool) (a b:AV):Option Bool:=match a with
 | .int i=>match b with | .int j=>some (f i j) | _=>none
 | _=>none
noncomputable def isV (a b:AV):Option Bool:=match b with
 | .none=>match a with | .none=>some true | .opq=>none | _=>some false
 | _=>none
noncomputable def cmpV (σ:Hp) (o:Nat) (a b:AV):Option Bool :=
 nth [eqV σ a b,(eqV σ a b).map (!·),ordV (fun i j=>decide (i<j)) a b,ordV (fun i j=>decide (i≤j)) a b,ordV (fun i j=>decide (i > j)) a b,ordV (fun i j=>decide (i ≥ j)) a b,
  isV a b,(isV a b).map (!·),inV σ a b,(inV σ a b).map (!·)] o none
noncomputable def allocL (xs:List AV) (σ:Hp):Option (AV×Hp):=if xs.length≤LIM then some (.ref σ.length,σ++[.list xs]) else none
noncomputable def allocT (xs:List AV) (σ:Hp):Option (AV×Hp):=if xs.length≤LIM then some (.ref σ.length,σ++[.tup xs]) else none
noncomputable def intOp (o:Nat) (a b:AV):Option Int:=match a with
 | .int i=>(match b with | .int j=>nth [some (i+j),some (i - j),some (i * j)] o none | _=>none)
 | _=>none
noncomputable def addV (σ:Hp) (a b:AV):Option (AV×Hp):=match a with
 | .str i=>match b with | .str j=>if i.length+j.length≤LIM then some (.str (i++j),σ) else none | _=>none
 | .ref i=>match b with
  | .ref j=>match listAt σ i with
   | some xs=>match listAt σ j with | some ys=>allocL (xs++ys) σ | none=>none
   | none=>none
  | _=>none
 | _=>none
noncomputable def mulV (σ:Hp) (a b:AV):Option (AV×Hp):=match a with
 | .ref i=>match b with
  | .int n=>match listAt σ i with
   | some xs=>match xs with
    | [x]=>if -1000000000≤n∧n≤LIM then allocL (List.replicate n.toNat x) σ else none
    | _=>none
   | none=>none
  | _=>none
 | _=>none
noncomputable def modV (σ:Hp) (a b:AV):Option (AV×Hp):=match a with
 | .int i=>match b with | .int j=>if 0<j then some (.int (i % j),σ) else none | _=>none
 | _=>none
noncomputable def binV (σ:Hp) (o:Nat) (a b:AV):Option (AV×Hp):=nth [addV σ a b,none,mulV σ a b,modV σ a b] o none
noncomputable def ixN (n:Nat) (i:Int):Option Nat:=if 0≤i then (if i<n then some i.toNat else none) else (if 0≤i+n then some (i+n).toNat else none)
noncomputable def adj (n:Nat) (i:Int):Nat:=if i<0 then (i+n).toNat else min i.toNat n
noncomputable def idxL (xs:List AV) (i:Int):Option AV:=(ixN xs.length i).bind (xs[·]?)
noncomputable def idxV (σ:Hp) (a i:AV):Option AV:=match i with
 | .int i=>match a with
  | .ref a=>match σ[a]? with
   | some (.list xs)=>idxL xs i
   | some (.tup xs)=>idxL xs i
   | some (.dict es)=>es.lookup i
   | _=>none
  | .str s=>if s.length≤LIM then (ixN s.length i).bind fun k=>(s[k]?).map fun c=>.str [c] else none
  | _=>none
 | _=>none
noncomputable def boundI (n dflt:Nat):AV→Option Nat
 | .none=>some dflt
 | .int i=>some (adj n i)
 | _=>none
noncomputable def sliceL {α:Type} (xs:List α) (lo hi:AV):Option (List α):=match boundI xs.length 0 lo with
 | some s=>match boundI xs.length xs.length hi with | some e=>some ((xs.drop s).take (e - s)) | none=>none
 | none=>none
noncomputable def readL (σ:Hp) (i:Nat):Option (List AV):=match σ[i]? with | some (.list xs)=>some xs | some (.fro xs)=>some (xs.map .int) | _=>none
noncomputable def sliceV (σ:Hp) (a lo hi:AV):Option (AV×Hp):=match a with
 | .ref l=>match readL σ l with
  | some xs=>match sliceL xs lo hi with | some ys=>some (.ref σ.length,σ++[.list ys]) | none=>none
  | none=>none
 | .str xs=>if xs.length≤LIM then match sliceL xs lo hi with | some ys=>some (.str ys,σ) | none=>none else none
 | _=>none
noncomputable def setIdx (σ:Hp) (a i v:AV):Option Hp:=match a with
 | .ref l=>match i with
  | .int k=>match σ[l]? with
   | some (.list xs)=>if 0≤k∧k<xs.length then some (σ.set l (.list (xs.set k.toNat v))) else none
   | some (.dict es)=>if (es.lookup k).isSome then some (σ.set l (.dict (es.map fun e=>if e.1=k then (k,v) else e))) else if es.length<LIM then some (σ.set l (.dict (es++[(k,v)]))) else none
   | _=>none
  | _=>none
 | _=>none
noncomputable def setSl (xs ys:List AV) (i j:Int):List AV:=xs.take (adj xs.length i)++ys++xs.drop (max (adj xs.length i) (adj xs.length j))
noncomputable def setSlice (σ:Hp) (a lo hi v:AV):Option Hp:=match a with
 | .ref l=>match v with
  | .ref m=>match lo with
   | .int i=>match hi with
    | .int j=>match listAt σ l with
     | some xs=>match listAt σ m with
      | some ys=>if l≠m∧xs.length+ys.length≤LIM then some (σ.set l (.list (setSl xs ys i j))) else none
      | none=>none
     | none=>none
    | _=>none
   | _=>none
  | _=>none
 | _=>none
noncomputable def attrV (σ:Hp) (a:AV) (f:Nat):Option AV:=match a with
 | .ref i=>match σ[i]? with | some (.inst _ fs)=>fs.lookup f | _=>none
 | _=>none
noncomputable def putF:List (Nat×AV)→Nat→AV→List (Nat×AV)
 | [],f,v=>[(f,v)]
 | (g,x)::r,f,v=>if g=f then (g,v)::r else (g,x)::putF r f v
noncomputable def attrSet (σ:Hp) (a:AV) (f:Nat) (v:AV):Option Hp:=match a with
 | .ref i=>match σ[i]? with | some (.inst c fs)=>if (ftab c).contains f∧fs.length<100 then some (σ.set i (.inst c (putF fs f v))) else none | _=>none
 | _=>none
noncomputable def one (vs:List AV):AV:=match vs with | [a]=>a | _=>.opq
noncomputable def two (vs:List AV) (f:Int→Int→Int):Option AV:=match vs with
 | [a,b]=>match a with
  | .int i=>match b with | .int j=>some (.int (f i j)) | _=>none
  | _=>none
 | _=>none
noncomputable def bLen (σ:Hp) (vs:List AV):Option (AV×Hp):=match one vs with
 | .ref i=>match σ[i]? with
  | some (.list xs)=>some (.int xs.length,σ)
  | _=>none
 | .str s=>if s.length≤LIM then some (.int s.length,σ) else none
 | _=>none
noncomputable def bInt (f:Int→Option AV) (σ:Hp) (vs:List AV):Option (AV×Hp):=match one vs with
 | .int i=>(f i).map (·,σ)
 | _=>none
noncomputable def bOrd (σ:Hp) (vs:List AV):Option (AV×Hp):=match one vs with
 | .str s=>match s with | [c]=>some (.int c,σ) | _=>none
 | _=>none
noncomputable def bObj (f:List AV→Option AO) (σ:Hp) (vs:List AV):Option (AV×Hp):=match lstG σ (one vs) with
 | some xs=>(f xs).map fun o=>(.ref σ.length,σ++[o])
 | none=>none
noncomputable def bSorted (σ:Hp) (vs:List AV):Option (AV×Hp):=match one vs with
 | .ref i=>match σ[i]? with
  | some (.dict es)=>if es.isEmpty then some (.ref σ.length,σ++[.list []]) else none
  | _=>none
 | _=>none
noncomputable def bAll (σ:Hp) (vs:List AV):Option (AV×Hp):=match lstG σ (one vs) with
 | some xs=>(boolsV xs).map fun bs=>(.bool (bs.all id),σ)
 | none=>none
noncomputable def biV (σ:Hp) (b:Nat) (vs:List AV):Option (AV×Hp) :=
 nth [bLen σ vs,(two vs fun a b=>if b<a then b else a).map (·,σ),(two vs fun a b=>if b > a then b else a).map (·,σ),bObj (fun xs=>some (.list xs)) σ vs,bInt (fun i=>some (.int i.natAbs)) σ vs,bOrd σ vs,
  bInt (fun i=>if 0≤i∧i<128 then some (.str [i.toNat]) else none) σ vs,bSorted σ vs,bAll σ vs,bObj (fun xs=>if xs.length≤LIM then some (.tup xs) else none) σ vs] b none
noncomputable def lAppend (σ:Hp) (i:Nat) (xs vs:List AV):Option (AV×Hp):=match vs with
 | [v]=>if xs.length<LIM then some (.none,σ.set i (.list (xs++[v]))) else none
 | _=>none
noncomputable def lPop (σ:Hp) (i:Nat) (xs vs:List AV):Option (AV×Hp):=match vs with
 | []=>match xs.getLast? with | some x=>some (x,σ.set i (.list xs.dropLast)) | none=>none
 | [a]=>match a with
  | .int k=>if k=0 then (match xs with | x::r=>some (x,σ.set i (.list r)) | []=>none) else none
  | _=>none
 | _=>none
noncomputable def lExtend (σ:Hp) (i:Nat) (xs vs:List AV):Option (AV×Hp):=match one vs with
 | .ref j=>match listAt σ j with
  | some ys=>if i≠j∧xs.length+ys.length≤LIM then some (.none,σ.set i (.list (xs++ys))) else none
  | none=>none
 | _=>none
noncomputable def sJoin (σ:Hp) (vs:List AV):Option (AV×Hp):=match lstG σ (one vs) with
 | some xs=>(strsV xs).bind fun l=>if l.flatten.length≤LIM then some (.str l.flatten,σ) else none
 | none=>none
noncomputable def lmV (σ:Hp) (a:AV) (m:Nat) (vs:List AV):Option (AV×Hp):=match a with
 | .ref i=>match listAt σ i with
  | some xs=>nth [lAppend σ i xs vs,lPop σ i xs vs,lExtend σ i xs vs] m none
  | none=>none
 | .str s=>if s.isEmpty∧m=3 then sJoin σ vs else none
 | _=>none
noncomputable def nextL (xs:List AV) (i:Nat) (σ:Hp) (it:It):Option (AV×It×Hp):=match xs[i]? with | some x=>some (x,it,σ) | none=>none
noncomputable def nextI (σ:Hp):It→Option (Option (AV×It×Hp))
 | .lst l i=>match σ[l]? with
  | some (.list xs)=>some (nextL xs i σ (.lst l (i+1)))
  | _=>none
 | .tup l i=>match σ[l]? with
  | some (.tup xs)=>some (nextL xs i σ (.tup l (i+1)))
  | _=>none
 | .rng a b=>some (if a<b then some (.int a,.rng (a+1) b,σ) else none)
 | .rev l i=>match σ[l]? with
  | some (.list xs)=>match i with
   | 0=>some none
   | k+1=>match xs[k]? with | some x=>some (some (x,.rev l k,σ)) | none=>none
  | _=>none
 | .str cs=>some (match cs with | []=>none | c::r=>some (.str [c],.str r,σ))
noncomputable def padA (np:Nat) (defs:List AV) (vs:List AV):Option (List AV) :=
 if vs.length≤np∧np≤vs.length+defs.length then some (vs++defs.drop (vs.length+defs.length - np)) else none
noncomputable def mkFr (i:FI) (vs:List AV):Option Fm:=(padA i.np i.defs vs).map fun l=>l.map some++List.replicate (i.nv - l.length) none
noncomputable def posOf:List Nat→Nat→Option Nat
 | [],_=>none
 | a::r,i=>if a=i then some 0 else (posOf r i).map (·+1)
noncomputable def ren (sel:List Nat):AV→AV
 | .ref i=>match posOf sel i with | some k=>.ref k | none=>.opq
 | a=>a
noncomputable def bak (sel kp:List Nat) (n:Nat):AV→AV
 | .ref i=>match sel[i]? with | some j=>.ref j | none=>match posOf kp i with | some k=>.ref (n+k) | none=>.opq
 | a=>a
noncomputable def mapO (f:AV→AV):AO→AO
 | .list xs=>.list (xs.map f)
 | .tup xs=>.tup (xs.map f)
 | .inst c fs=>.inst c (fs.map fun q=>(q.1,f q.2))
 | .dict es=>.dict (es.map fun q=>(q.1,f q.2))
 | .fro xs=>.fro xs
noncomputable def pick (σ:Hp):List Nat→Option Hp
 | []=>some []
 | i::r=>match σ[i]? with
  | some o=>match pick σ r with | some os=>some (o::os) | none=>none
  | none=>none
noncomputable def wback (f:AV→AV):List Nat→Hp→Hp→Hp
 | [],_,σ=>σ
 | j::sel,τ,σ=>match τ with | []=>σ | o::τ=>wback f sel τ (σ.set j (mapO f o))
noncomputable def ndB:List Nat→Bool
 | []=>true
 | a::r=>(posOf r a).isNone && ndB r
inductive Sc | go (n:Nat) | b (x:Bool) | v (a:AV) | o (x:AO) | vh (a:AV) (σ:Hp) | h (σ:Hp) | nx (x:Option (AV×It×Hp)) | s (x:Option (List Nat)) | c (a:AV) (σ:Hp) | l (w:Fw) (fr:Fm) (σ:Hp)
noncomputable def pB:Sc→Option Bool | .b x=>some x | _=>none
noncomputable def pV:Sc→Option AV | .v x=>some x | _=>none
noncomputable def pO:Sc→Option AO | .o x=>some x | _=>none
noncomputable def pVH (σ:Hp):Sc→Option (AV×Hp) | .vh a τ=>some (a,τ) | .v a=>some (a,σ) | _=>none
noncomputable def pH:Sc→Option Hp | .h x=>some x | _=>none
noncomputable def pX (σ:Hp) (it:It):Sc→Option (Option (AV×It×Hp)) | .nx x=>some x | .b t=>(match it with | .rng a b=>some (if t then some (.int a,.rng (a+1) b,σ) else none) | _=>none) | _=>none
noncomputable def pS:Sc→Option (Option (List Nat)) | .s x=>some x | _=>none
noncomputable def pC:Sc→Option (AV×Hp) | .c a σ=>some (a,σ) | _=>none
noncomputable def pL:Sc→Option (Fw×Fm×Hp) | .l w fr σ=>some (w,fr,σ) | _=>none
noncomputable def evt:List Sc→Option Sc×List Sc
 | []=>(none,[])
 | x::r=>match x with
  | .go n=>match n with | 0=>evt r | n+1=>(none,.go n::r)
  | x=>(some x,r)
noncomputable abbrev M (α:Type):=List Sc→Hp→Option (α×List Sc×Hp×List Prop)
section
variable {α β:Type}
noncomputable def ret (a:α):M α:=fun s σ=>some (a,s,σ,[])
noncomputable def fail:M α:=fun _ _=>none
noncomputable def bnd (m:M α) (f:α→M β):M β:=fun s σ=>match m s σ with
 | none=>none
 | some (a,s1,σ1,c1)=>match f a s1 σ1 with
  | none=>none
  | some (b,s2,σ2,c2)=>some (b,s2,σ2,c1++c2)
noncomputable def getH:M Hp:=fun s σ=>some (σ,s,σ,[])
noncomputable def setH (σ:Hp):M Unit:=fun s _=>some ((),s,σ,[])
noncomputable def askR (p:Sc→Option α) (o:Option α) (σ:Hp) (s:List Sc):Option Sc→Option (α×List Sc×Hp×List Prop)
 | none=>match o with | some a=>some (a,s,σ,[]) | none=>none
 | some x=>match p x with | some a=>some (a,s,σ,[o=some a]) | none=>none
noncomputable def ask (p:Sc→Option α) (o:Option α):M α:=fun s σ=>match evt s with
 | (x,s')=>askR p o σ s' x
noncomputable def pickR (p:Sc→Option α) (a:α) (σ:Hp) (s:List Sc):Option Sc→Option (α×List Sc×Hp×List Prop)
 | none=>some (a,s,σ,[])
 | some x=>match p x with | some a=>some (a,s,σ,[]) | none=>none
noncomputable def pickS (p:Sc→Option α) (a:α):M α:=fun s σ=>match evt s with
 | (x,s')=>pickR p a σ s' x
noncomputable def asmR (p:Sc→Option (α×Hp)) (C:Hp→α→Hp→Prop) (m:M α) (σ:Hp) (s:List Sc):Option Sc→Option (α×List Sc×Hp×List Prop)
 | none=>m s σ
 | some x=>match p x with | some (a,σ')=>some (a,s,σ',[C σ a σ']) | none=>none
noncomputable def asm (p:Sc→Option (α×Hp)) (C:Hp→α→Hp→Prop) (m:M α):M α:=fun s σ=>match evt s with
 | (x,s')=>asmR p C m σ s' x
end
noncomputable def pL2 (x:Sc):Option ((Fw×Fm)×Hp):=(pL x).map fun y=>((y.1,y.2.1),y.2.2)
noncomputable def pU2 (x:Sc):Option (Fm×Hp):=(pL x).map fun y=>(y.2.1,y.2.2)
structure Par where
 fi:Nat→Option FI
 C:Nat→Nat→List AV→Hp→AV→Hp→Prop
 Cw:Nat→T→List T→Fm→Hp→Fw→Fm→Hp→Prop
 Cf:Nat→T→It→List T→Fm→Hp→Fw→Fm→Hp→Prop
 Cc:Nat→T→T→List T→It→Nat→Fm→Fm→Hp→Fm→Hp→Prop
structure Evs where
 ex:Nat→T→Fm→Fm→M AV
 co:Nat→T→Fm→Fm→M Bool
 exs:Nat→List T→Fm→Fm→M (List AV)
 ch:Nat→AV→List T→Fm→Fm→M Bool
 bl:Nat→List T→Fm→M (Fw×Fm)
 st:Nat→T→Fm→M (Fw×Fm)
 as:Nat→T→AV→Fm→Fm→M Fm
 ass:Nat→List T→List AV→Fm→Fm→M Fm
 it:Nat→T→Fm→M It
 call:Nat→Nat→List AV→M AV
 callp:Nat→Nat→List AV→M AV
 wl:Nat→T→List T→Fm→M (Fw×Fm)
 fl:Nat→T→It→List T→Fm→M (Fw×Fm)
 cm:Nat→T→T→List T→It→Nat→Fm→Fm→M Fm
section
variable (g:Evs) (d:Nat)
noncomputable def putVH (f:Hp→Option (AV×Hp)):M AV:=bnd getH fun σ=>bnd (ask (pVH σ) (f σ)) fun x=>bnd (setH x.2) fun _=>ret x.1
noncomputable def putH (f:Hp→Option Hp):M Unit:=bnd getH fun σ=>bnd (ask pH (f σ)) setH
noncomputable def askT (a:AV):M Bool:=ask pB (truth a)
noncomputable def xGlob (n:Nat):M AV:=match glV n with | .none=>fail | a=>ret a
noncomputable def xInG (n:Nat) (a:AV) (es:List T) (fr out:Fm):M Bool:=match es with
 | [e]=>bnd (g.ex d e fr out) fun v=>match v with
  | .str s=>(match a with | .bool p=>if (glT n).isEmpty then fail else ret (p == (glT n).contains s) | _=>fail)
  | _=>fail
 | _=>fail
noncomputable def xAttr (n:Nat) (es:List T) (fr out:Fm):M AV:=match es with
 | [e]=>bnd (g.ex d e fr out) fun v=>bnd getH fun σ=>ask pV (attrV σ v n)
 | _=>fail
noncomputable def xCallF (n:Nat) (es:List T) (fr out:Fm):M AV:=bnd (g.exs d es fr out) fun vs=>g.call d n vs
noncomputable def xNew (c:Nat) (es:List T) (fr out:Fm):M AV:=bnd (g.exs d es fr out) fun vs=>bnd getH fun σ=>bnd (setH (σ++[.inst c []])) fun _=>bnd (g.call d (itab c) (.ref σ.length::vs)) fun r=>match r with
 | .none=>ret (.ref σ.length)
 | _=>fail
noncomputable def xLm (m:Nat) (as:List T) (fr out:Fm) (v:AV):M AV:=bnd (g.exs d as fr out) fun vs=>putVH fun σ=>lmV σ v m vs
noncomputable def xMeth (m:Nat) (es:List T) (fr out:Fm):M AV:=match es with
 | e::as=>bnd (g.ex d e fr out) fun v=>match v with
  | .ref i=>bnd getH fun σ=>bnd (ask pO (σ[i]?)) fun o=>match o with
   | .inst c fs=>match fs.lookup m with
    | none=>match mtab c m with
     | some f=>bnd (g.exs d as fr out) fun vs=>g.call d f (.ref i::vs)
     | none=>fail
    | some _=>fail
   | .list _=>xLm g d m as fr out (.ref i)
   | _=>fail
  | .str s=>xLm g d m as fr out (.str s)
  | _=>fail
 | _=>fail
noncomputable def xBi (b:Nat) (es:List T) (fr out:Fm):M AV:=bnd (g.exs d es fr out) fun vs=>putVH fun σ=>biV σ b vs
noncomputable def xBinV (o:Nat) (va vb:AV):M AV:=match intOp o va vb with
 | some i=>bnd (ask pB (some (okI o i))) fun t=>if t then ret (.int i) else fail
 | none=>putVH fun σ=>binV σ o va vb
noncomputable def xBin (o:Nat) (es:List T) (fr out:Fm):M AV:=match es with
 | [a,b]=>bnd (g.ex d a fr out) fun va=>bnd (g.ex d b fr out) fun vb=>xBinV o va vb
 | _=>fail
noncomputable def xNeg (es:List T) (fr out:Fm):M AV:=match es with
 | [a]=>bnd (g.ex d a fr out) fun v=>match v with | .int i=>ret (.int (-i)) | _=>fail
 | _=>fail
noncomputable def xCmp (es:List T) (fr out:Fm):M Bool:=match es with
 | a::r=>bnd (g.ex d a fr out) fun va=>g.ch d va r fr out
 | []=>fail
noncomputable def xAnd (es:List T) (fr out:Fm):M AV:=match es with
 | e::r=>bnd (g.ex d e fr out) fun a=>match r with
  | []=>ret a
  | e'::r'=>bnd (askT a) fun t=>if t then g.ex d (.nd 14 0 .none (e'::r')) fr out else ret a
 | []=>fail
noncomputable def xOr (es:List T) (fr out:Fm):M AV:=match es with
 | e::r=>bnd (g.ex d e fr out) fun a=>match r with
  | []=>ret a
  | e'::r'=>bnd (askT a) fun t=>if t then ret a else g.ex d (.nd 15 0 .none (e'::r')) fr out
 | []=>fail
noncomputable def xIte (es:List T) (fr out:Fm):M AV:=match es with
 | [c,a,b]=>bnd (g.co d c fr out) fun t=>g.ex d (if t then a else b) fr out
 | _=>fail
noncomputable def xIdx (es:List T) (fr out:Fm):M AV:=match es with
 | [a,i]=>bnd (g.ex d a fr out) fun va=>bnd (g.ex d i fr out) fun vi=>bnd getH fun σ=>ask pV (idxV σ va vi)
 | _=>fail
noncomputable def xSlice (es:List T) (fr out:Fm):M AV:=match es with
 | [a,lo,hi]=>bnd (g.ex d a fr out) fun va=>bnd (g.ex d lo fr out) fun vl=>bnd (g.ex d hi fr out) fun vh=>putVH fun σ=>sliceV σ va vl vh
 | _=>fail
noncomputable def xList (es:List T) (fr out:Fm):M AV:=bnd (g.exs d es fr out) fun vs=>putVH (allocL vs)
noncomputable def xTup (es:List T) (fr out:Fm):M AV:=bnd (g.exs d es fr out) fun vs=>putVH (allocT vs)
noncomputable def xDict:M AV:=bnd getH fun σ=>bnd (setH (σ++[.dict []])) fun _=>ret (.ref σ.length)
noncomputable def xCompR (n:Nat) (es:List T) (fr:Fm):M AV:=match es with
 | elt::t::it::ifs=>bnd (g.it d it fr) fun i=>bnd getH fun σ=>bnd (setH (σ++[.list []])) fun _=>bnd (g.cm d elt t ifs i σ.length (List.replicate n none) fr) fun _=>ret (.ref σ.length)
 | _=>fail
noncomputable def xComp (n:Nat) (es:List T) (fr out:Fm):M AV:=match out with
 | []=>xCompR g d n es fr
 | _=>fail
noncomputable def exF (e:T) (fr out:Fm):M AV:=match e with
 | .nd k n a es=>nth [ret a,ask pV (fr[n]?.join),ask pV (out[n]?.join),xGlob n,fail,xAttr g d n es fr out,xCallF g d n es fr out,xNew g d n es fr out,xMeth g d n es fr out,
   xBi g d n es fr out,xBin g d n es fr out,xNeg g d es fr out,fail,bnd (xCmp g d es fr out) fun b=>ret (.bool b),xAnd g d es fr out,xOr g d es fr out,xIte g d es fr out,xIdx g d es fr out,xSlice g d es fr out,
   xList g d es fr out,xTup g d es fr out,xDict,xComp g d n es fr out] k fail
noncomputable def cPlain (es:List T) (fr out:Fm):M Bool:=match es with
 | [a]=>bnd (g.ex d a fr out) askT
 | _=>fail
noncomputable def cNot (es:List T) (fr out:Fm):M Bool:=match es with
 | [a]=>bnd (g.co d a fr out) fun b=>ret (!b)
 | _=>fail
noncomputable def cAnd (es:List T) (fr out:Fm):M Bool:=match es with
 | e::r=>bnd (g.co d e fr out) fun t=>if t then g.co d (.nd 14 0 .none r) fr out else ret false
 | []=>ret true
noncomputable def cOr (es:List T) (fr out:Fm):M Bool:=match es with
 | e::r=>bnd (g.co d e fr out) fun t=>if t then ret true else g.co d (.nd 15 0 .none r) fr out
 | []=>ret false
noncomputable def coF (e:T) (fr out:Fm):M Bool:=match e with
 | .nd k n a es=>if k=13 then xCmp g d es fr out else if k=12 then cNot g d es fr out else if k=14 then cAnd g d es fr out else if k=15 then cOr g d es fr out else if k=4 then xInG g d n a es fr out
  else if k=40 then cPlain g d es fr out else fail
noncomputable def exsF (es:List T) (fr out:Fm):M (List AV):=match es with
 | []=>ret []
 | e::r=>bnd (g.ex d e fr out) fun a=>bnd (g.exs d r fr out) fun as=>ret (a::as)
noncomputable def chF (a:AV) (r:List T) (fr out:Fm):M Bool:=match r with
 | []=>fail
 | .nd o _ _ es::r=>match es with
  | [e]=>bnd (g.ex d e fr out) fun b=>bnd getH fun σ=>bnd (ask pB (cmpV σ o a b)) fun t=>match r with
   | []=>ret t
   | x::r=>if t then g.ch d b (x::r) fr out else ret false
  | _=>fail
noncomputable def blF (ss:List T) (fr:Fm):M (Fw×Fm):=match ss with
 | []=>ret (.next,fr)
 | s::r=>bnd (g.st d s fr) fun x=>match x.1 with
  | .next=>g.bl d r x.2
  | w=>ret (w,x.2)
noncomputable def kids:T→List T | .nd _ _ _ es=>es
noncomputable def numT:T→Nat | .nd _ n _ _=>n
noncomputable def setVars:List Nat→List AV→Fm→Fm
 | [],_,fr=>fr
 | x::xs,vs,fr=>match vs with | []=>fr | v::vs=>setVars xs vs (fr.set x (some v))
noncomputable def sPlain (es:List T) (fr:Fm):M (Fw×Fm):=match es with
 | [t,e]=>bnd (g.ex d e fr []) fun a=>bnd (g.as d t a fr []) fun fr=>ret (.next,fr)
 | _=>fail
noncomputable def sSwap (xs:List Nat) (es:List T) (fr:Fm):M (Fw×Fm):=bnd (g.exs d es fr []) fun vs=>if vs.length=xs.length∧ndB xs=true∧vs.length≤LIM∧(xs.all fun x=>decide (x<fr.length))=true then bnd getH fun σ=>bnd (setH (σ++[.tup vs])) fun _=>ret (.next,setVars xs vs fr) else fail
noncomputable def sComp (es:List T) (fr:Fm):M (Fw×Fm):=match es with
 | [t,e]=>bnd (xCompR g d (numT e) (kids e) fr) fun v=>bnd (g.as d t v fr []) fun fr=>ret (.next,fr)
 | _=>fail
noncomputable def stT (es:List T) (fr:Fm):List (M (Fw×Fm)):=[
 match es with | [e]=>bnd (g.ex d e fr []) fun _=>ret (.next,fr) | _=>fail,
 sPlain g d es fr,
 match es with | [c,a,b]=>bnd (g.co d c fr []) fun t=>g.bl d (kids (if t then a else b)) fr | _=>fail,
 match es with | [c,b]=>g.wl d c (kids b) fr | _=>fail,
 match es with | [t,it,b]=>bnd (g.it d it fr) fun i=>g.fl d t i (kids b) fr | _=>fail,
 match es with | [e]=>bnd (g.ex d e fr []) fun a=>ret (.ret a,fr) | _=>fail,
 ret (.brk,fr),ret (.cont,fr),fail,sComp g d es fr,
 match es with | [t,e]=>sSwap g d ((kids t).map numT) (kids e) fr | _=>fail]
noncomputable def stF (s:T) (fr:Fm):M (Fw×Fm):=match s with
 | .nd k _ _ es=>if k<30 then fail else nth (stT g d es fr) (k - 30) fail
noncomputable def asF (t:T) (v:AV) (fr out:Fm):M Fm:=match t with
 | .nd k n _ es=>if k=1 then (if n<fr.length then ret (fr.set n (some v)) else fail)
  else if k=5 then (match es with | [e]=>bnd (g.ex d e fr out) fun a=>bnd (putH fun σ=>attrSet σ a n v) fun _=>ret fr | _=>fail)
  else if k=17 then (match es with | [e,i]=>bnd (g.ex d e fr out) fun a=>bnd (g.ex d i fr out) fun j=>bnd (putH fun σ=>setIdx σ a j v) fun _=>ret fr | _=>fail)
  else if k=18 then (match es with | [e,lo,hi]=>bnd (g.ex d e fr out) fun a=>bnd (g.ex d lo fr out) fun l=>bnd (g.ex d hi fr out) fun h=>bnd (putH fun σ=>setSlice σ a l h v) fun _=>ret fr | _=>fail)
  else if k=20 then (match v with | .ref i=>bnd getH fun σ=>bnd (ask pO (σ[i]?)) fun o=>(match o with | .tup vs=>g.ass d es vs fr out | _=>fail) | _=>fail)
  else fail
noncomputable def assF (ts:List T) (vs:List AV) (fr out:Fm):M Fm:=match ts with
 | []=>match vs with | []=>ret fr | _=>fail
 | t::ts=>match vs with
  | []=>fail
  | v::vs=>bnd (g.as d t v fr out) fun fr=>g.ass d ts vs fr out
noncomputable def intOf (a:AV) (f:Int→M It):M It:=match a with | .int i=>bnd (ask pB (some (sInt i))) fun t=>if t then f i else fail | _=>fail
noncomputable def iRng (es:List T) (fr:Fm):M It:=match es with
 | [b]=>bnd (g.ex d b fr []) fun b=>intOf b fun n=>ret (.rng 0 n)
 | [a,b]=>bnd (g.ex d a fr []) fun a=>bnd (g.ex d b fr []) fun b=>intOf a fun m=>intOf b fun n=>ret (.rng m n)
 | _=>fail
noncomputable def iObj (a:AV) (f:Nat→AO→M It):M It:=match a with | .ref i=>bnd getH fun σ=>bnd (ask pO (σ[i]?)) fun o=>f i o | _=>fail
noncomputable def iPlain (es:List T) (fr:Fm):M It:=match es with
 | [e]=>bnd (g.ex d e fr []) fun a=>(match a with
  | .str s=>ret (.str s)
  | a=>iObj a fun i o=>match o with | .list _=>ret (.lst i 0) | .tup _=>ret (.tup i 0) | _=>fail)
 | _=>fail
noncomputable def iRev (es:List T) (fr:Fm):M It:=match es with
 | [e]=>bnd (g.ex d e fr []) fun a=>iObj a fun i o=>(match o with | .list xs=>ret (.rev i xs.length) | _=>fail)
 | _=>fail
noncomputable def itF (it:T) (fr:Fm):M It:=match it with
 | .nd k n a es=>if k=23 then iRng g d es fr else if k=24 then iRev g d es fr else if k=26 then iPlain g d es fr else fail
noncomputable def callF (f:Nat) (vs:List AV):M AV:=bnd getH fun σ=>bnd (pickS pS none) fun so=>match so with
 | none=>g.callp d f vs
 | some sel=>bnd (ask pB (some (ndB sel))) fun t=>if t then bnd (ask pH ((pick σ sel).map fun sub=>sub.map (mapO (ren sel)))) fun sub=>bnd (setH sub) fun _=>bnd (g.callp d f (vs.map (ren sel))) fun r=>bnd getH fun τ=>bnd (pickS pS none) fun ko=>match ko with
   | none=>fail
   | some kp=>bnd (ask pB (some (ndB kp && kp.all fun k=>decide (sel.length≤k)))) fun t=>if t then
     bnd (ask pH ((pick τ kp).map fun new=>wback (bak sel kp σ.length) sel τ σ++new.map (mapO (bak sel kp σ.length)))) fun σ'=>bnd (setH σ') fun _=>ret (bak sel kp σ.length r)
    else fail
  else fail
variable (p:Par)
noncomputable def callpF (f:Nat) (vs:List AV):M AV:=asm pC (p.C d f vs) (match d with
 | 0=>fail
 | d+1=>match p.fi f with
  | none=>fail
  | some i=>match mkFr i vs with
   | none=>fail
   | some fr=>bnd (g.bl d i.body fr) fun x=>match x.1 with
    | .ret v=>ret v
    | .next=>ret .none
    | _=>fail)
noncomputable def loopK (w:Fw) (fr:Fm) (k:M (Fw×Fm)):M (Fw×Fm):=match w with
 | .next=>k
 | .cont=>k
 | .brk=>ret (.next,fr)
 | .ret v=>ret (.ret v,fr)
noncomputable def wlF (c:T) (b:List T) (fr:Fm):M (Fw×Fm):=asm pL2 (fun σ x σ'=>p.Cw d c b fr σ x.1 x.2 σ') (bnd (g.co d c fr []) fun t=>if t then bnd (g.bl d b fr) fun x=>loopK x.1 x.2 (g.wl d c b x.2) else ret (.next,fr))
noncomputable def flF (t:T) (it:It) (b:List T) (fr:Fm):M (Fw×Fm):=asm pL2 (fun σ x σ'=>p.Cf d t it b fr σ x.1 x.2 σ') (bnd getH fun σ=>bnd (ask (pX σ it) (nextI σ it)) fun n=>match n with
 | none=>ret (.next,fr)
 | some (v,it,σ)=>bnd (setH σ) fun _=>bnd (g.as d t v fr []) fun fr=>bnd (g.bl d b fr) fun x=>loopK x.1 x.2 (g.fl d t it b x.2))
noncomputable def cmAdd (elt:T) (acc:Nat) (fr out:Fm):M AV:=bnd (g.ex d elt fr out) fun a=>putVH fun σ=>lmV σ (.ref acc) 0 [a]
noncomputable def cmF (elt t:T) (ifs:List T) (it:It) (acc:Nat) (fr out:Fm):M Fm:=asm pU2 (fun σ x σ'=>p.Cc d elt t ifs it acc fr out σ x σ') (bnd getH fun σ=>bnd (ask (pX σ it) (nextI σ it)) fun n=>match n with
 | none=>ret fr
 | some (v,it,σ)=>bnd (setH σ) fun _=>bnd (g.as d t v fr out) fun fr=>match ifs with
  | []=>bnd (cmAdd g d elt acc fr out) fun _=>g.cm d elt t ifs it acc fr out
  | [c]=>bnd (g.co d c fr out) fun ok=>if ok then bnd (cmAdd g d elt acc fr out) fun _=>g.cm d elt t ifs it acc fr out else g.cm d elt t ifs it acc fr out
  | _=>fail)
end
noncomputable def evB:Evs:=⟨fun _ _ _ _=>fail,fun _ _ _ _=>fail,fun _ _ _ _=>fail,fun _ _ _ _ _=>fail,fun _ _ _=>fail,fun _ _ _=>fail,fun _ _ _ _ _=>fail,fun _ _ _ _ _=>fail,fun _ _ _=>fail,fun _ _ _=>fail,fun _ _ _=>fail,fun _ _ _ _=>fail,fun _ _ _ _ _=>fail,fun _ _ _ _ _ _ _ _=>fail⟩
noncomputable def evS (p:Par) (g:Evs):Evs:=⟨exF g,coF g,exsF g,chF g,blF g,stF g,asF g,assF g,itF g,callF g,fun d=>callpF g d p,fun d=>wlF g d p,fun d=>flF g d p,fun d=>cmF g d p⟩
noncomputable def evN (p:Par):Nat→Evs
 | 0=>evB
 | n+1=>evS p (evN p n)
end Mine
namespace Mine
open PySem
structure Cx where
 kind:PySem.Str→Option NameKind
 vs:List Str
 outs:List Str
noncomputable def posS:List Str→Str→Option Nat
 | [],_=>none
 | a::r,m=>if a == m then some 0 else (posS r m).map (·+1)
noncomputable def ndS:List Str→Bool
 | []=>true
 | a::r=>!r.contains a && ndS r
noncomputable def dbgS:Str:=Str.ofString "__debug__"
noncomputable def compScope (V:Cx) (names:List Str) (sc:Scope):Bool :=
 sc.kind == .function && !sc.isGenerator && !sc.isCoroutine &&
 sc.names.all (fun y=>y.2 != .cell && (y.2 != .local || sc.names.lookup y.1 == some .local) && (y.2 != .free || (V.kind y.1 == some .cell && V.vs.contains y.1))) &&
 names.all (fun n=>sc.names.lookup n == some .local && !(n == dbgS)) && ndS names && ndS (sc.names.map (·.1))
noncomputable abbrev compCx (V:Cx) (names:List Str) (sc:Scope):Cx:=⟨fun y=>sc.names.lookup y,names,V.vs⟩
noncomputable def isName:Expr→Bool | .Name ..=>true | _=>false
noncomputable def isComp:Expr→Bool | .ListComp ..=>true | _=>false
noncomputable def nmX:Expr→Option Str | .Name m _=>some m | _=>none
noncomputable def tupX:Expr→Option (List Expr) | .Tuple xs _ _=>some xs | _=>none
noncomputable def sliX:Expr→Option (Option Expr×Option Expr×Option Expr) | .Slice lo hi st _=>some (lo,hi,st) | _=>none
noncomputable def callX:Expr→Option (Expr×List Expr×Bool) | .Call f xs kw _=>some (f,xs,kw.isEmpty) | _=>none
noncomputable def oneL {α:Type}:List α→Option α | [x]=>some x | _=>none
noncomputable def basePlain:Expr→Bool | .Call f xs _ _=>!xs.isEmpty || !isName f | _=>true
noncomputable def swapPlain (vs:List Expr):Bool:=vs.all (foldedForSure 8) || !vs.all (constantsAlone 8)
noncomputable def plainA (tx x:Expr):Bool:=!isComp x && ((tupX tx).elim true fun ys=>(tupX x).isNone || ys.any fun y=>!isName y)
noncomputable def condPlain:Expr→Bool
 | .UnaryOp .. | .BoolOp .. | .IfExp .. | .Compare ..=>false
 | _=>true
noncomputable def stk:T:=.nd 99 0 .none []
noncomputable def optK {α:Type} (o:Option α) (f:α→T) (z:T):T:=match o with | some c=>f c | none=>z
noncomputable def constT:Const→T | .none=>T.nd 0 0 .none [] | .bool b=>T.nd 0 0 (.bool b) [] | .int i=>T.nd 0 0 (.int i) [] | .str s=>T.nd 0 0 (.str s.cps.toList) [] | _=>stk
noncomputable def isG (V:Cx) (m:Str):Bool:=V.kind m == some .globalImplicit
noncomputable def codeT (k:Nat) (as:List T) (o:Option Nat):T:=optK o (fun c=>.nd k c .none as) stk
noncomputable def nameT (V:Cx) (m:Str):T:=optK (posS V.vs m) (fun i=>.nd 1 i .none []) (optK (posS V.outs m) (fun i=>if V.kind m == some .free then .nd 2 i .none [] else stk) (if isG V m then codeT 3 [] (posS glN m) else stk))
noncomputable def fnCode (m:Str):Nat→List Str→List (Option Nat)→Option Nat
 | i,n::ns,k::ks=>if n == m && k.isNone then some i else fnCode m (i+1) ns ks
 | _,_,_=>none
noncomputable def biN:List Str:=strL ["len","min","max","list","abs","ord","chr","sorted","all","tuple"]
noncomputable def callT (V:Cx) (m:Str) (as:List T):T :=
 if isG V m then optK (fnCode m 0 fnN fnK) (fun c=>.nd 6 c .none as) (optK (posS clT m) (fun c=>.nd 7 c .none as) (codeT 9 as (posS biN m))) else stk
noncomputable def opB:Operator→Nat | .Add=>0 | .Sub=>1 | .Mult=>2 | .Mod=>3 | _=>99
noncomputable def opC:CmpOp→Nat | .Eq=>0 | .NotEq=>1 | .Lt=>2 | .LtE=>3 | .Gt=>4 | .GtE=>5 | .Is=>6 | .IsNot=>7 | .In=>8 | .NotIn=>9
noncomputable def inGT (V:Cx) (ops:List CmpOp) (xs:List Expr):Option (Bool×Nat) :=
 (oneL ops).bind fun o=>(oneL xs).bind fun x=>(nmX x).bind fun m=>if isG V m && (o == .In || o == .NotIn) then (posS glN m).bind fun g=>if (glT g).isEmpty then none else some (o == .In,g) else none
noncomputable def tnames:Expr→List Str
 | .Name m _=>[m]
 | _=>[]
structure Trs where
 e:Cx→Expr→T
 t:Cx→Expr→T
 i:Cx→Expr→T
 c:Cx→Expr→T
noncomputable def optT (f:Expr→T) (o:Option Expr):T:=optK o f (.nd 0 0 .none [])
noncomputable def chT (f:Expr→T):List CmpOp→List Expr→List T
 | o::os,x::xs=>.nd (opC o) 0 .none [f x]::chT f os xs
 | _,_=>[]
noncomputable def cmpT (r:Trs) (V:Cx) (a:Expr) (ops:List CmpOp) (xs:List Expr):T:=if ops.length == xs.length then .nd 13 0 .none (r.e V a::chT (r.e V) ops xs) else stk
noncomputable def methT (r:Trs) (V:Cx) (y:Expr) (k:Str) (xs:List Expr) (ok:Bool):T :=
 if basePlain y && ok && decide (xs.length<30) then codeT 8 (r.e V y::xs.map (r.e V)) (posS nmT k) else stk
noncomputable def subT (r:Trs) (V:Cx) (a i:Expr):T:=optK (sliX i) (fun s=>if s.2.2.isNone then .nd 18 0 .none [r.e V a,optT (r.e V) s.1,optT (r.e V) s.2.1] else stk) (.nd 17 0 .none [r.e V a,r.e V i])
noncomputable def compT (r:Trs) (V:Cx) (elt:Expr) (gens:List Comprehension) (sc:Scope):T:=optK (oneL gens) (fun g =>
 if decide (g.is_async=0) && (isName g.target && compScope V (tnames g.target) sc) then .nd 22 1 .none (r.e (compCx V (tnames g.target) sc) elt::r.t (compCx V (tnames g.target) sc) g.target::r.i V g.iter::g.ifs.map (r.c (compCx V (tnames g.target) sc))) else stk) stk
noncomputable def callE (r:Trs) (V:Cx) (f:Expr) (xs:List Expr) (q:Pos):T:=match f with
 | .Name m _=>callT V m (xs.map (r.e V))
 | .Attribute y k p=>methT r V y k xs (p.endLine == q.line)
 | _=>stk
noncomputable def trE (r:Trs) (V:Cx) (x:Expr):T:=match x with
 | .Constant c _ _=>constT c
 | .Name m _=>nameT V m
 | .Attribute y m _=>if basePlain y then codeT 5 [r.e V y] (posS nmT m) else stk
 | .Call f xs kw q=>if kw.isEmpty then callE r V f xs q else stk
 | .BinOp a o b _=>.nd 10 (opB o) .none [r.e V a,r.e V b]
 | .UnaryOp o a _=>if o == .USub then .nd 11 0 .none [r.e V a] else stk
 | .Compare a ops xs _=>cmpT r V a ops xs
 | .BoolOp o xs _=>.nd (if o == .And then 14 else 15) 0 .none (xs.map (r.e V))
 | .IfExp c a b _=>.nd 16 0 .none [r.c V c,r.e V a,r.e V b]
 | .Subscript a i _=>subT r V a i
 | .List xs _=>.nd 19 0 .none (xs.map (r.e V))
 | .Tuple xs _ _=>.nd 20 0 .none (xs.map (r.e V))
 | .Dict ks vs _=>if ks.isEmpty && vs.isEmpty then .nd 21 0 .none [] else stk
 | .ListComp elt gens sc _=>compT r V elt gens sc
 | _=>stk
noncomputable def trC (r:Trs) (V:Cx) (x:Expr):T:=if condPlain x then .nd 40 0 .none [r.e V x] else match x with
 | .UnaryOp o a _=>if o == .Not then .nd 12 0 .none [r.c V a] else stk
 | .Compare a ops xs _=>optK (inGT V ops xs) (fun q=>.nd 4 q.2 (.bool q.1) [r.e V a]) (cmpT r V a ops xs)
 | .BoolOp o xs _=>.nd (if o == .And then 14 else 15) 0 .none (xs.map (r.c V))
 | _=>stk
noncomputable def trT (r:Trs) (V:Cx) (x:Expr):T:=match x with
 | .Name m _=>codeT 1 [] (posS V.vs m)
 | .Attribute y m _=>codeT 5 [r.e V y] (posS nmT m)
 | .Subscript a i _=>optK (sliX i) (fun s=>optK s.1 (fun lo=>optK s.2.1 (fun hi=>if s.2.2.isNone then .nd 18 0 .none [r.e V a,r.e V lo,r.e V hi] else stk) stk) stk) (.nd 17 0 .none [r.e V a,r.e V i])
 | .Tuple xs _ _=>.nd 20 0 .none (xs.map (r.t V))
 | _=>stk
noncomputable def itN:List Str:=strL ["range","reversed"]
noncomputable def itX (V:Cx) (x:Expr):Option (Nat×List Expr):=(callX x).bind fun c=>(nmX c.1).bind fun m=>if c.2.2 && isG V m then (posS itN m).map fun k=>(k,c.2.1) else none
noncomputable def trI (r:Trs) (V:Cx) (x:Expr):T:=optK (itX V x) (fun c=>.nd (23+c.1) 0 .none (c.2.map (r.e V))) (.nd 26 0 .none [r.e V x])
noncomputable def trN:Nat→Trs
 | 0=>⟨fun _ _=>stk,fun _ _=>stk,fun _ _=>stk,fun _ _=>stk⟩
 | n+1=>⟨trE (trN n),trT (trN n),trI (trN n),trC (trN n)⟩
noncomputable def varsX (V:Cx):List Expr→Option (List Nat)
 | []=>some []
 | y::ys=>(nmX y).bind fun m=>(posS V.vs m).bind fun i=>(varsX V ys).map (i::·)
noncomputable def asgT (r:Trs) (V:Cx) (tx y:Expr):T:=if plainA tx y then .nd 31 0 .none [r.t V tx,r.e V y] else if isComp y then .nd 39 0 .none [r.t V tx,r.e V y] else
 optK (tupX tx) (fun ys=>optK (tupX y) (fun vs=>if swapPlain vs then optK (varsX V ys) (fun is=>.nd 40 0 .none [.nd 20 0 .none (is.map fun i=>.nd 1 i .none []),.nd 20 0 .none (vs.map (r.e V))]) stk else stk) stk) stk
noncomputable def trS:Nat→Cx→Stmt→T
 | 0,_,_=>stk
 | n+1,V,s=>match s with
  | .Expr y _=>if isComp y || isName y then stk else .nd 30 0 .none [(trN n).e V y]
  | .Assign ts y _=>optK (oneL ts) (fun tx=>asgT (trN n) V tx y) stk
  | .If c b e _=>.nd 32 0 .none [(trN n).c V c,.nd 38 0 .none (b.map (trS n V)),.nd 38 0 .none (e.map (trS n V))]
  | .While c b e _=>if e.isEmpty then .nd 33 0 .none [(trN n).c V c,.nd 38 0 .none (b.map (trS n V))] else stk
  | .For tx ix b e _=>if e.isEmpty then .nd 34 0 .none [(trN n).t V tx,(trN n).i V ix,.nd 38 0 .none (b.map (trS n V))] else stk
  | .Return y _=>.nd 35 0 .none [optT ((trN n).e V) y]
  | .Break _=>.nd 36 0 .none []
  | .Continue _=>.nd 37 0 .none []
  | _=>stk
noncomputable def eqA (a b:AV):Bool:=match a with
 | .none=>(match b with | .none=>true | _=>false)
 | .bool x=>(match b with | .bool y=>x == y | _=>false)
 | .int x=>(match b with | .int y=>x == y | _=>false)
 | .str x=>(match b with | .str y=>x == y | _=>false)
 | _=>false
theorem kP {a b:AV} (h:eqA a b=true):a=b:=by
 cases a with
 | none=>cases b <;> first | rfl | exact fT h
 | bool x=>cases b <;> first | (rw [beq_iff_eq.mp h]) | exact fT h
 | int x=>cases b <;> first | (rw [beq_iff_eq.mp h]) | exact fT h
 | str x=>cases b <;> first | (rw [beq_iff_eq.mp h]) | exact fT h
 | ref=>exact fT h
 | opq=>exact fT h
noncomputable def eqTs (f:T→T→Bool):List T→List T→Bool
 | [],[]=>true
 | a::as,b::bs=>f a b && eqTs f as bs
 | _,_=>false
noncomputable def eqT:Nat→T→T→Bool
 | 0,_,_=>false
 | n+1,.nd k m a es,.nd k' m' a' es'=>k == k' && m == m' && eqA a a' && eqTs (eqT n) es es'
theorem fB {f:T→T→Bool} (hf:∀ a b,f a b=true→a=b):∀ as bs,eqTs f as bs=true→as=bs:=by
 intro as
 induction as with
 | nil=>intro bs h;cases bs with | nil=>rfl | cons=>exact fT h
 | cons a as ih =>
  intro bs h
  cases bs with
  | nil=>exact fT h
  | cons b bs =>
   have h:(f a b && eqTs f as bs)=true:=h
   rw [Bool.and_eq_true] at h
   rw [hf a b h.1,ih bs h.2]
theorem kQ:∀ (n:Nat) (a b:T),eqT n a b=true→a=b:=by
 intro n
 induction n with
 | zero=>intro a b h;exact fT h
 | succ n ih =>
  intro a b h
  obtain ⟨k,m,x,es⟩:=a
  obtain ⟨k',m',x',es'⟩:=b
  have h:(k == k' && m == m' && eqA x x' && eqTs (eqT n) es es')=true:=h
  simp only [Bool.and_eq_true,beq_iff_eq] at h
  obtain ⟨⟨⟨rfl,rfl⟩,h3⟩,h4⟩:=h
  rw [kP h3,fB ih es es' h4]
theorem aF:∀ {l:List Str} {m:Str} {i:Nat},posS l m=some i→l[i]?=some m:=by
 intro l
 induction l with
 | nil=>intro m i h;exact nS h
 | cons a r ih =>
  intro m i h
  unfold posS at h
  split at h
  ·rename_i e;cases h;rw [beq_iff_eq.mp e];rfl
  ·cases q:posS r m with
   | none=>rw [q] at h;exact nS h
   | some j=>rw [q] at h;cases h;exact ih q
end Mine
namespace Mine
open PySem PySem.W PyProof.Rows
theorem cps {g:Prop} (h:∀ G:Prop,(g→G)→G):g:=h g id
theorem sQ {α β:Type} {x a:α} {y b:β} {P:α→β→Prop} (h:some (x,y)=some (a,b)) (k:P x y):P a b:=by cases h;exact k
theorem pQ {α β:Type} {x a:α} {y b:β} {P:α→β→Prop} (h:(x,y)=(a,b)) (k:P x y):P a b:=by cases h;exact k
theorem s1Q {α:Type} {x a:α} {P:α→Prop} (h:some x=some a) (k:P x):P a:=by cases h;exact k
theorem eQ2 {α β:Type} {x a:α} {y b:β} {P:α→β→Prop} (h:a=x∧b=y) (k:P x y):P a b:=by obtain ⟨rfl,rfl⟩:=h;exact k
noncomputable abbrev Rho:=List (Addr×Option Addr)
noncomputable def adr (p:Addr×Option Addr):List Addr:=p.1::p.2.toList
noncomputable def own (ρ:Rho):List Addr:=ρ.flatMap adr
noncomputable def VR (ρ:Rho):AV→Value→Prop
 | .none,v=>v=.none
 | .bool b,v=>v=.bool b
 | .int i,v=>∃ t,v=.int i t
 | .str l,v=>∃ s t,v=.str s t∧s.cps.toList=l
 | .ref i,v=>∃ p,ρ[i]?=some p∧v=.ref p.1
 | .opq,v=>handedIn v=true
noncomputable def VRs (ρ:Rho):List AV→List Value→Prop:=Paired (VR ρ)
noncomputable def FR (ρ:Rho):List (Nat×AV)→List DictEntry→Prop:=Paired fun f e=>(∃ t,e.key=.str (nmS f.1) t)∧VR ρ f.2 e.val
noncomputable def DR (ρ:Rho):List (Int×AV)→List (Int×Value)→Prop:=Paired fun f e=>f.1=e.1∧VR ρ f.2 e.2
noncomputable abbrev tupOf (its:Array Value) (n:Nat):Obj:={ cls:=.type "tuple",data:=.seq its n }
structure Wd where
 prog:Program
 w:World
 ca:Nat→Addr
 lo:Obj
noncomputable def ObjAt (W:Wd) (ρ:Rho) (h:Heap) (p:Addr×Option Addr):AO→Prop
 | .list xs=>∃ its n,h.get? p.1=some (listOf its n)∧VRs ρ xs its.toList∧xs.length≤LIM
 | .tup xs=>∃ its n,h.get? p.1=some (tupOf its n)∧VRs ρ xs its.toList∧xs.length≤LIM
 | .inst c fs=>∃ dx es n,p.2=some dx∧h.get? p.1=some (instObj (W.ca c) dx)∧h.get? dx=some (dictOf es n)∧FR ρ fs es∧fs.length≤100∧(∀ q∈fs,q.1∈ftab c)∧(fs.map (·.1)).Nodup
 | .fro xs=>h.get? p.1=some W.lo∧W.lo.cls=.type "list"∧∃ its n,W.lo.data=.seq its n∧Paired (fun (i:Int) v=>∃ t,v=.int i t) xs its.toList∧xs.length≤LIM
 | .dict es=>∃ kvs,(p.1 == sysModules)=false∧h.DictOf (intKind W.prog W.w) p.1 kvs∧DR ρ es kvs∧es.length≤LIM
structure Rel (W:Wd) (h₀:Heap) (ρ:Rho) (σ:Hp) (h:Heap):Prop where
 base:∀ b o,h₀.get? b=some o→h.get? b=some o
 len:ρ.length=σ.length
 nd:(own ρ).Nodup
 fresh:∀ a∈own ρ,h₀.get? a=none
 live:∀ a∈own ρ,∃ o,h.get? a=some o
 objs:∀ (i:Nat) o,σ[i]?=some o→∃ p,ρ[i]?=some p∧ObjAt W ρ h p o
structure Post (W:Wd) (h₀:Heap) (F:List Addr) (ρ ρ':Rho) (σ':Hp) (h h':Heap):Prop where
 pre:ρ <+: ρ'
 rel:Rel W h₀ ρ' σ' h'
 keep:∀ b o,b ∉ own ρ→b ∉ F→h.get? b=some o→h'.get? b=some o
 alive:∀ b o,h.get? b=some o→∃ o',h'.get? b=some o'
 new:∀ a∈own ρ',a∈own ρ∨h.get? a=none
theorem dN {α β:Type} {F G:α→β→Prop} (f:∀ a b,F a b→G a b):∀ {l m},Paired F l m→Paired G l m
 | _,_,.nil=>.nil
 | _,_,.cons a b=>.cons (f _ _ a) (dN f b)
theorem bT {α β:Type} {F:α→β→Prop}:∀ {l:List α} {m:List β} {i:Nat} {a:α},Paired F l m→l[i]?=some a→∃ b,m[i]?=some b∧F a b
 | _,_,0,_,.cons x _,h=>by apply s1Q h;exact ⟨_,rfl,x⟩
 | _,_,_+1,_,.cons _ y,h=>by obtain ⟨b,e,f⟩:=bT y (by simpa using h);exact ⟨b,by simpa using e,f⟩
theorem fC {α β:Type} {F:α→β→Prop} {l:List α} {m:List β} {i:Nat} (x:Paired F l m) (h:l[i]?=none):m[i]?=none:=by
 rw [List.getElem?_eq_none_iff] at h ⊢;rw [← x.length];exact h
theorem aI {α β:Type} {F:α→β→Prop}:∀ {l:List α} {m:List β} {l':List α} {m':List β},Paired F l m→Paired F l' m'→Paired F (l++l') (m++m')
 | _,_,_,_,.nil,y=>y
 | _,_,_,_,.cons a b,y=>.cons a (aI b y)
theorem cG {α β:Type} {F:α→β→Prop}:∀ {l:List α} {m:List β} (n:Nat),Paired F l m→Paired F (l.take n) (m.take n)
 | _,_,0,_=>by simp only [List.take_zero];exact .nil
 | _,_,_+1,.nil=>by simp only [List.take_nil];exact .nil
 | _,_,_+1,.cons a b=>.cons a (cG _ b)
theorem cH {α β:Type} {F:α→β→Prop}:∀ {l:List α} {m:List β} (n:Nat),Paired F l m→Paired F (l.drop n) (m.drop n)
 | _,_,0,x=>x
 | _,_,_+1,.nil=>by simp only [List.drop_nil];exact .nil
 | _,_,n+1,.cons _ b=>by simp only [List.drop_succ_cons];exact cH n b
theorem gW {α β:Type} {F:α→β→Prop}:∀ {l:List α} {m:List β} (n:Nat) {a b},Paired F l m→F a b→Paired F (l.set n a) (m.set n b)
 | _,_,_,_,_,.nil,_=>.nil
 | _,_,0,_,_,.cons _ y,h=>.cons h y
 | _,_,_+1,_,_,.cons x y,h=>.cons x (gW _ y h)
theorem gX {α β:Type} {F:α→β→Prop} {a b} (h:F a b):∀ n,Paired F (List.replicate n a) (List.replicate n b)
 | 0=>.nil
 | n+1=>.cons h (gX h n)
theorem dO {α β:Type} {F:α→β→Prop} {m:List β} (x:Paired F [] m):m=[]:=by cases x;rfl
theorem aD {ρ ρ':Rho} (h:ρ <+: ρ') {i:Nat} {p} (e:ρ[i]?=some p):ρ'[i]?=some p:=by
 obtain ⟨t,rfl⟩:=h
 rw [List.getElem?_append_left (List.getElem?_eq_some_iff.mp e).1];exact e
theorem VR.mono {ρ ρ':Rho} (h:ρ <+: ρ') {a v} (x:VR ρ a v):VR ρ' a v:=by
 cases a <;> first | exact x | (obtain ⟨p,e,r⟩:=x;exact ⟨p,aD h e,r⟩)
theorem VRs.mono {ρ ρ':Rho} (h:ρ <+: ρ') {a v} (x:VRs ρ a v):VRs ρ' a v:=dN (fun _ _ y=>VR.mono h y) x
theorem ObjAt.mono {W:Wd} {ρ ρ':Rho} {h:Heap} {p o} (hp:ρ <+: ρ') (x:ObjAt W ρ h p o):ObjAt W ρ' h p o:=by
 cases o with
 | list xs=>obtain ⟨i,n,a,b,z⟩:=x;exact ⟨i,n,a,b.mono hp,z⟩
 | tup xs=>obtain ⟨i,n,a,b,z⟩:=x;exact ⟨i,n,a,b.mono hp,z⟩
 | inst c fs=>obtain ⟨d,es,n,a,b,c,e,f⟩:=x;exact ⟨d,es,n,a,b,c,dN (fun _ _ y=>⟨y.1,y.2.mono hp⟩) e,f⟩
 | dict es=>obtain ⟨k,a,b,c,z⟩:=x;exact ⟨k,a,b,dN (fun _ _ y=>⟨y.1,y.2.mono hp⟩) c,z⟩
 | fro xs=>exact x
theorem ObjAt.keep {W:Wd} {ρ:Rho} {h h':Heap} {p o} (k:∀ a∈adr p,∀ x,h.get? a=some x→h'.get? a=some x) (x:ObjAt W ρ h p o):ObjAt W ρ h' p o:=by
 cases o with
 | list xs=>obtain ⟨i,n,a,b⟩:=x;exact ⟨i,n,k _ (.head _) _ a,b⟩
 | tup xs=>obtain ⟨i,n,a,b⟩:=x;exact ⟨i,n,k _ (.head _) _ a,b⟩
 | fro xs=>obtain ⟨a,b⟩:=x;exact ⟨k _ (.head _) _ a,b⟩
 | inst c fs =>
  obtain ⟨d,es,n,a,b,c,e⟩:=x
  exact ⟨d,es,n,a,k _ (.head _) _ b,k d (by unfold adr;rw [a];exact .tail _ (.head _)) _ c,e⟩
 | dict es =>
  obtain ⟨kv,a,⟨o,es,ep,b,r⟩,c⟩:=x
  exact ⟨kv,a,⟨o,es,ep,k _ (.head _) _ b,r⟩,c⟩
theorem fE {ρ:Rho}:∀ {xs:List Int} {vs:List Value},Paired (fun (i:Int) v=>∃ t,v=.int i t) xs vs→VRs ρ (xs.map .int) vs
 | _,_,.nil=>.nil
 | _,_,.cons a b=>.cons a (fE b)
theorem be {ρ:Rho} {i:Nat} {p a} (e:ρ[i]?=some p) (ha:a∈adr p):a∈own ρ:=List.mem_flatMap.mpr ⟨p,List.mem_of_getElem? e,ha⟩
theorem cn:∀ {ρ:Rho} {i j:Nat} {p q a b},(own ρ).Nodup→ρ[i]?=some p→ρ[j]?=some q→i≠j→a∈adr p→b∈adr q→a≠b
 | [],_,_,_,_,_,_,_,e,_,_,_,_=>by exact nS e
 | x::r,0,0,_,_,_,_,_,_,_,h,_,_=>absurd rfl h
 | x::r,0,j+1,p,q,a,b,nd,e,f,_,ha,hb=>by
  cases e
  have:=(List.nodup_append.mp (show (adr x++own r).Nodup from nd)).2.2
  exact this a ha b (be (by simpa using f) hb)
 | x::r,i+1,0,p,q,a,b,nd,e,f,_,ha,hb=>by
  cases f
  have:=(List.nodup_append.mp (show (adr x++own r).Nodup from nd)).2.2
  exact fun y=>this b hb a (be (by simpa using e) ha) y.symm
 | x::r,i+1,j+1,p,q,a,b,nd,e,f,n,ha,hb =>
  cn (ρ:=r) (List.nodup_append.mp (show (adr x++own r).Nodup from nd)).2.1 (by simpa using e) (by simpa using f) (fun y=>n (by rw [y])) ha hb
theorem Rel.of_own {W:Wd} {h₀:Heap} {ρ:Rho} {σ:Hp} {h:Heap} (R:Rel W h₀ ρ σ h) {b o} (e:h₀.get? b=some o):b ∉ own ρ:=fun m=>by have:=R.fresh b m;rw [e] at this;exact sN this
theorem Rel.lt {W:Wd} {h₀:Heap} {ρ:Rho} {σ:Hp} {h:Heap} (R:Rel W h₀ ρ σ h) {a:Addr} (m:a∈own ρ):a<h.objs.size:=let ⟨_,e⟩:=R.live a m;Heap.lt_size e
theorem Post.refl {W:Wd} {h₀:Heap} {F:List Addr} {ρ:Rho} {σ:Hp} {h:Heap} (R:Rel W h₀ ρ σ h):Post W h₀ F ρ ρ σ h h:=⟨List.prefix_rfl,R,fun _ _ _ _ e=>e,fun _ o e=>⟨o,e⟩,fun _ m=>.inl m⟩
theorem Post.dead {W:Wd} {h₀:Heap} {F:List Addr} {ρ ρ':Rho} {σ':Hp} {h h':Heap} (P:Post W h₀ F ρ ρ' σ' h h') {a:Addr} (e:h'.get? a=none):h.get? a=none:=by
 cases q:h.get? a with
 | none=>rfl
 | some o=>obtain ⟨o',e'⟩:=P.alive a o q;rw [e] at e';exact nS e'
theorem Post.trans {W:Wd} {h₀:Heap} {F:List Addr} {ρ ρ1 ρ2:Rho} {σ1 σ2:Hp} {h h1 h2:Heap} (P:Post W h₀ F ρ ρ1 σ1 h h1) (Q:Post W h₀ F ρ1 ρ2 σ2 h1 h2):Post W h₀ F ρ ρ2 σ2 h h2:=by
 refine ⟨P.pre.trans Q.pre,Q.rel,fun b o nb nf e=>Q.keep b o (fun m=>?_) nf (P.keep b o nb nf e),fun b o e=>let ⟨o1,e1⟩:=P.alive b o e;Q.alive b o1 e1,fun a m=>?_⟩
 ·rcases P.new b m with m | m
  ·exact nb m
  ·rw [e] at m;exact sN m
 ·rcases Q.new a m with m | m
  ·exact P.new a m
  ·exact .inr (P.dead m)
theorem Post.more {W:Wd} {h₀:Heap} {F:List Addr} {ρ ρ':Rho} {σ':Hp} {h h':Heap} (P:Post W h₀ [] ρ ρ' σ' h h'):Post W h₀ F ρ ρ' σ' h h':=⟨P.pre,P.rel,fun b o nb _ e=>P.keep b o nb (by simp) e,P.alive,P.new⟩
theorem Post.stay {W:Wd} {h₀:Heap} {F:List Addr} {ρ ρ':Rho} {σ':Hp} {h h':Heap} (P:Post W h₀ F ρ ρ' σ' h h') {b o} (nb:b ∉ own ρ) (e:h.get? b=some o):b ∉ own ρ':=fun m=>by
 rcases P.new b m with m | m
 ·exact nb m
 ·rw [e] at m;exact sN m
theorem Rel.keeps {W:Wd} {h₀:Heap} {ρ:Rho} {σ:Hp} {h h':Heap} (R:Rel W h₀ ρ σ h) (k:∀ b o,h.get? b=some o→h'.get? b=some o):Rel W h₀ ρ σ h' :=
 ⟨fun b o e=>k _ _ (R.base b o e),R.len,R.nd,R.fresh,fun a m=>let ⟨o,e⟩:=R.live a m;⟨o,k _ _ e⟩,fun i o e=>let ⟨p,a,b⟩:=R.objs i o e;⟨p,a,b.keep fun c _ x y=>k c x y⟩⟩
theorem Post.keeps {W:Wd} {h₀:Heap} {ρ:Rho} {σ:Hp} {h h':Heap} (R:Rel W h₀ ρ σ h) (k:∀ b o,h.get? b=some o→h'.get? b=some o):Post W h₀ [] ρ ρ σ h h' :=
 ⟨List.prefix_rfl,R.keeps k,fun b o _ _ e=>k b o e,fun b o e=>⟨o,k b o e⟩,fun _ m=>.inl m⟩
theorem bU (ρ:Rho) (p):own (ρ++[p])=own ρ++adr p:=by simp [own]
theorem Post.alloc {W:Wd} {h₀:Heap} {ρ:Rho} {σ:Hp} {h h':Heap} {p:Addr×Option Addr} {ao:AO} (R:Rel W h₀ ρ σ h) (k:∀ b o,h.get? b=some o→h'.get? b=some o)
  (z:∀ a∈adr p,h.get? a=none∧∃ o,h'.get? a=some o) (nd:(adr p).Nodup) (x:ObjAt W (ρ++[p]) h' p ao):Post W h₀ [] ρ (ρ++[p]) (σ++[ao]) h h':=by
 have fr:∀ a,h.get? a=none→h₀.get? a=none:=fun a ha=>by
  cases e:h₀.get? a with
  | none=>rfl
  | some o=>have:=R.base a o e;rw [ha] at this;exact nS this
 refine ⟨List.prefix_append _ _,⟨fun b o e=>k _ _ (R.base b o e),by simp [R.len],?_,?_,?_,?_⟩,fun b o _ _ e=>k b o e,fun b o e=>⟨o,k b o e⟩,?_⟩
 ·rw [bU]
  refine List.nodup_append.mpr ⟨R.nd,nd,fun a ha b hb q=>?_⟩
  obtain ⟨o,e⟩:=R.live a ha
  rw [q,(z b hb).1] at e;exact nS e
 ·intro a ha
  rw [bU] at ha
  rcases List.mem_append.mp ha with ha | ha
  ·exact R.fresh a ha
  ·exact fr a (z a ha).1
 ·intro a ha
  rw [bU] at ha
  rcases List.mem_append.mp ha with ha | ha
  ·obtain ⟨o,e⟩:=R.live a ha;exact ⟨o,k _ _ e⟩
  ·exact (z a ha).2
 ·intro i o e
  rw [List.getElem?_append] at e
  split at e
  ·refine cps fun _ hG=>?_
   obtain ⟨p',e1,e2⟩:=R.objs i o e
   refine hG ?_
   clear hG
   exact ⟨p',aD (List.prefix_append _ _) e1,(e2.mono (List.prefix_append _ _)).keep fun c _ y z=>k c y z⟩
  ·rename_i hi
   have:i - σ.length=0:=by
    cases q:i - σ.length with
    | zero=>rfl
    | succ n=>rw [q] at e;simp at e
   rw [this] at e
   apply s1Q e
   have hi':i=ρ.length:=by have:=R.len;exact bp [_,_,_,_] [] (.eqN N0 N1) (.n (.ltN N0 N2)) (.eqN N3 (.k 0)) (.eqN N1 N2) (.leN N0 (.a N3 N2)) [1,0,1,-1,1] [1,1,0,1,0] rfl hi (by assumption) this (af _ _)
   exact ⟨p,by rw [hi'];simp,x⟩
 ·intro a ha
  rw [bU] at ha
  rcases List.mem_append.mp ha with ha | ha
  ·exact .inl ha
  ·exact .inr (z a ha).1
theorem Post.upd {W:Wd} {h₀:Heap} {ρ:Rho} {σ:Hp} {h h':Heap} {i:Nat} {p:Addr×Option Addr} {ao:AO} {a:Addr} {oa:Obj} (R:Rel W h₀ ρ σ h) (hp:ρ[i]?=some p) (ha:a∈adr p)
  (k:∀ b,b≠a→h'.get? b=h.get? b) (hz:h'.get? a=some oa) (x:ObjAt W ρ h' p ao):Post W h₀ [] ρ ρ (σ.set i ao) h h':=by
 have mo:a∈own ρ:=be hp ha
 have al:∀ b o,h.get? b=some o→∃ o',h'.get? b=some o':=fun b o e=>by
  by_cases q:b=a
  ·exact ⟨oa,q ▸ hz⟩
  ·exact ⟨o,(k b q).trans e⟩
 refine ⟨List.prefix_rfl,⟨fun b o e=>?_,by rw [List.length_set];exact R.len,R.nd,R.fresh,fun b m=>let ⟨o,e⟩:=R.live b m;al b o e,fun j o e=>?_⟩,fun b o nb _ e=>?_,al,fun _ m=>.inl m⟩
 ·rw [k b (fun q=>R.of_own e (q ▸ mo))];exact R.base b o e
 ·by_cases hij:i=j
  ·subst hij
   rw [List.getElem?_set] at e
   simp only [if_true] at e
   split at e
   ·apply s1Q e;exact ⟨p,hp,x⟩
   ·exact nS e
  ·rw [List.getElem?_set_ne hij] at e
   obtain ⟨q,e1,e2⟩:=R.objs j o e
   exact ⟨q,e1,e2.keep fun c hc y z=>by rw [k c (fun q'=>cn R.nd hp e1 hij ha hc q'.symm)];exact z⟩
 ·rw [k b (fun q=>nb (q ▸ mo))];exact e
end Mine
namespace Mine
open PySem PySem.W PyProof.Rows PySem.Calls
noncomputable def FA (V:Cx) (env:Env):List Addr:=env.locals::V.vs.filterMap fun n=>if V.kind n == some .cell then env.cells.lookup n else none
noncomputable def CellV (h₀:Heap) (ρ:Rho) (h:Heap) (env:Env) (n:Str) (a:Option AV):Prop :=
 ∃ c v0,env.cells.lookup n=some c∧h.IsCell c v0∧(∀ b,a=some b→∃ v,v0=some v∧VR ρ b v)∧c ∉ own ρ∧h₀.get? c=none
structure EnvR (h₀:Heap) (V:Cx) (env:Env) (ρ:Rho) (h:Heap) (fr out:Fm):Prop where
 fk:env.scope.kind=.function
 gg:env.globals=mainGlobals
 bb:env.builtins=builtinsNs
 gl:∀ y,V.kind y=some .globalImplicit→env.kindOf y=some .globalImplicit
 nd:V.vs.Nodup
 cnd:(env.locals::env.cells.map (·.2)).Nodup
 loc:env.locals ∉ own ρ∧h₀.get? env.locals=none
 len:fr.length=V.vs.length
 dbg:∀ n∈V.vs++V.outs,(n == dbgS)=false
 cel:∀ (x:Nat) (n:Str),V.vs[x]?=some n→(V.kind n=some .local∧env.kindOf n=some .local)∨(V.kind n=some .cell∧env.kindOf n=some .cell∧CellV h₀ ρ h env n (fr[x]?.join))
 ns:∃ m,h.Ns env.locals m∧∀ (x:Nat) (n:Str) a,V.vs[x]?=some n→env.kindOf n=some .local→fr[x]?=some (some a)→∃ v,m n=some v∧VR ρ a v
 frees:∀ (x:Nat) (n:Str),V.outs[x]?=some n→V.kind n=some .free→env.kindOf n=some .cell∧CellV h₀ ρ h env n (out[x]?.join)
theorem cz {h h':Heap} {c:Addr} {v} (x:h.IsCell c v) (k:∀ o,h.get? c=some o→h'.get? c=some o):h'.IsCell c v :=
 let ⟨o,a,b⟩:=x;⟨o,k o a,b⟩
theorem CellV.post {W:Wd} {h₀:Heap} {ρ ρ':Rho} {σ':Hp} {h h':Heap} {env:Env} {n a} (P:Post W h₀ [] ρ ρ' σ' h h') (x:CellV h₀ ρ h env n a):CellV h₀ ρ' h' env n a:=by
 refine cps fun _ hG=>?_
 obtain ⟨c,v0,e,i,f,no,z⟩:=x
 refine hG ?_
 clear hG
 exact ⟨c,v0,e,cz i fun o=>P.keep c o no (by simp),fun b hb=>let ⟨v,p,q⟩:=f b hb;⟨v,p,q.mono P.pre⟩,let ⟨o,ho,_⟩:=i;P.stay no ho,z⟩
theorem cI {h h':Heap} {L:Addr} {m} (x:h.Ns L m) (k:∀ o,h.get? L=some o→h'.get? L=some o):h'.Ns L m :=
 let ⟨o,es,ep,a,b⟩:=x;⟨o,es,ep,k o a,b⟩
theorem EnvR.post {W:Wd} {h₀:Heap} {V:Cx} {env:Env} {ρ ρ':Rho} {σ':Hp} {h h':Heap} {fr out:Fm} (E:EnvR h₀ V env ρ h fr out) (P:Post W h₀ [] ρ ρ' σ' h h'):EnvR h₀ V env ρ' h' fr out:=by
 refine cps fun _ hG=>?_
 obtain ⟨m,hm,hv⟩:=E.ns
 refine hG ?_
 clear hG
 refine ⟨E.fk,E.gg,E.bb,E.gl,E.nd,E.cnd,⟨?_,E.loc.2⟩,E.len,E.dbg,fun x n e=>(E.cel x n e).imp id fun ⟨a,b,c⟩=>⟨a,b,c.post P⟩,⟨m,cI hm fun o=>P.keep _ o E.loc.1 (by simp),fun x n a e k f=>let ⟨v,p,q⟩:=hv x n a e k f;⟨v,p,q.mono P.pre⟩⟩,
  fun x n e k=>let ⟨a,b⟩:=E.frees x n e k;⟨a,b.post P⟩⟩
 obtain ⟨o,_,_,ho,_⟩:=hm
 exact P.stay E.loc.1 ho
noncomputable def Room (d:Nat) (A:Around):Prop:=A.handled=none∧A.depth+2 * d+5<recursionLimit∧A.units+10 * d+100<cLine
structure Top2 (K:Frag) (h₀:Heap):Prop where
 X:K.In h₀
 T:∃ p loose mg mb,TopRead p loose mg mb h₀
section
variable (W:Wd) (h₀:Heap)
noncomputable def OkV (σ':Hp) (ρ:Rho) (s:Shared) (F:List Addr) (a:AV) (Q:Value→Shared→Prop):Prop :=
 ∀ ρ' v h' tk,Post W h₀ F ρ ρ' σ' s.heap h'→VR ρ' a v→Q v ⟨h',s.gens,s.drawn,tk,s.os⟩
noncomputable def OkB (σ':Hp) (ρ:Rho) (s:Shared) (b:Bool) (Q:Bool→Shared→Prop):Prop :=
 ∀ ρ' h' tk,Post W h₀ [] ρ ρ' σ' s.heap h'→Q b ⟨h',s.gens,s.drawn,tk,s.os⟩
noncomputable def SE (d:Nat) (V:Cx) (x:Expr) (fr out:Fm) (σ:Hp) (a:AV) (σ':Hp):Prop :=
 ∀ ⦃env:Env⦄ ⦃A:Around⦄ ⦃s:Shared⦄ ⦃ρ:Rho⦄ ⦃Q:Value→Shared→Prop⦄ ⦃E:Value→Shared→Prop⦄,EnvR h₀ V env ρ s.heap fr out→Rel W h₀ ρ σ s.heap→Room d A →
  OkV W h₀ σ' ρ s [] a Q→wpAny (model W.prog W.w) A (eval x env) Q E s
noncomputable def SC (d:Nat) (V:Cx) (x:Expr) (fr out:Fm) (σ:Hp) (b:Bool) (σ':Hp):Prop :=
 ∀ ⦃env:Env⦄ ⦃A:Around⦄ ⦃s:Shared⦄ ⦃ρ:Rho⦄ ⦃Q:Bool→Shared→Prop⦄ ⦃E:Value→Shared→Prop⦄,EnvR h₀ V env ρ s.heap fr out→Rel W h₀ ρ σ s.heap→Room d A →
  OkB W h₀ σ' ρ s b Q→wpAny (model W.prog W.w) A (isTrue x env (eval x env)) Q E s
noncomputable def SL (d:Nat) (V:Cx) (xs:List Expr) (fr out:Fm) (σ:Hp) (as:List AV) (σ':Hp):Prop :=
 ∀ ⦃env:Env⦄ ⦃A:Around⦄ ⦃s:Shared⦄ ⦃ρ:Rho⦄ ⦃Q:List Value→Shared→Prop⦄ ⦃E:Value→Shared→Prop⦄ ⦃pos:Pos⦄,EnvR h₀ V env ρ s.heap fr out→Rel W h₀ ρ σ s.heap→Room d A →
  (∀ ρ' vs h' tk,Post W h₀ [] ρ ρ' σ' s.heap h'→VRs ρ' as vs→Q vs ⟨h',s.gens,s.drawn,tk,s.os⟩)→wpAny (model W.prog W.w) A (spliced (backTo pos (starEach xs env))) Q E s
noncomputable def SH (d:Nat) (V:Cx) (a:AV) (ops:List CmpOp) (xs:List Expr) (fr out:Fm) (σ:Hp) (b:Bool) (σ':Hp):Prop :=
 ∀ ⦃env:Env⦄ ⦃A:Around⦄ ⦃s:Shared⦄ ⦃ρ:Rho⦄ ⦃E:Value→Shared→Prop⦄ ⦃pos:Pos⦄ ⦃va:Value⦄,EnvR h₀ V env ρ s.heap fr out→Rel W h₀ ρ σ s.heap→Room d A→VR ρ a va →
  (∀ {Q:Value→Shared→Prop},OkB W h₀ σ' ρ s b (fun b s'=>Q (.bool b) s')→wpAny (model W.prog W.w) A (compareChain pos va ops (markedEach ops xs (evalEach xs env))) Q E s) ∧
  (∀ {Q:Bool→Shared→Prop},OkB W h₀ σ' ρ s b Q→wpAny (model W.prog W.w) A (testChain pos va ops (markedEach ops xs (evalEach xs env))) Q E s)
noncomputable def OkF {α:Type} (V:Cx) (env:Env) (out fr':Fm) (σ':Hp) (ρ:Rho) (s:Shared) (R:Rho→α→Prop) (Q:α→Shared→Prop):Prop :=
 ∀ ρ' v h' tk,Post W h₀ (FA V env) ρ ρ' σ' s.heap h'→EnvR h₀ V env ρ' h' fr' out→R ρ' v→Q v ⟨h',s.gens,s.drawn,tk,s.os⟩
noncomputable def SA (d:Nat) (V:Cx) (x:Expr) (a:AV) (fr out:Fm) (σ:Hp) (fr':Fm) (σ':Hp):Prop :=
 ∀ ⦃env:Env⦄ ⦃A:Around⦄ ⦃s:Shared⦄ ⦃ρ:Rho⦄ ⦃Q:Unit→Shared→Prop⦄ ⦃E:Value→Shared→Prop⦄ ⦃v:Value⦄,EnvR h₀ V env ρ s.heap fr out→Rel W h₀ ρ σ s.heap→Room d A→VR ρ a v →
  OkF W h₀ V env out fr' σ' ρ s (fun _ _=>True) Q→wpAny (model W.prog W.w) A (assign x env v) Q E s
noncomputable def SAs (d:Nat) (V:Cx) (xs:List Expr) (as:List AV) (fr out:Fm) (σ:Hp) (fr':Fm) (σ':Hp):Prop :=
 ∀ ⦃env:Env⦄ ⦃A:Around⦄ ⦃s:Shared⦄ ⦃ρ:Rho⦄ ⦃Q:Unit→Shared→Prop⦄ ⦃E:Value→Shared→Prop⦄ ⦃vs:List Value⦄,EnvR h₀ V env ρ s.heap fr out→Rel W h₀ ρ σ s.heap→Room d A→VRs ρ as vs →
  OkF W h₀ V env out fr' σ' ρ s (fun _ _=>True) Q→wpAny (model W.prog W.w) A (assignInOrder ((assignEach xs env).map (·.2)) vs) Q E s
noncomputable def FwR (ρ:Rho):Fw→Flow→Prop
 | .next,f=>f=.next
 | .brk,f=>f=.brk
 | .cont,f=>f=.cont
 | .ret a,f=>∃ v,f=.ret v∧VR ρ a v
noncomputable def SS (d:Nat) (V:Cx) (xs:List Stmt) (fr:Fm) (σ:Hp) (w:Fw) (fr':Fm) (σ':Hp):Prop :=
 ∀ ⦃env:Env⦄ ⦃A:Around⦄ ⦃s:Shared⦄ ⦃ρ:Rho⦄ ⦃Q:Flow→Shared→Prop⦄ ⦃E:Value→Shared→Prop⦄,EnvR h₀ V env ρ s.heap fr []→Rel W h₀ ρ σ s.heap→Room d A →
  OkF W h₀ V env [] fr' σ' ρ s (fun ρ' f=>FwR ρ' w f) Q→wpAny (model W.prog W.w) A (execs xs env) Q E s
noncomputable def S1 (d:Nat) (V:Cx) (x:Stmt) (fr:Fm) (σ:Hp) (w:Fw) (fr':Fm) (σ':Hp):Prop :=
 ∀ ⦃env:Env⦄ ⦃A:Around⦄ ⦃s:Shared⦄ ⦃ρ:Rho⦄ ⦃Q:Flow→Shared→Prop⦄ ⦃E:Value→Shared→Prop⦄,EnvR h₀ V env ρ s.heap fr []→Rel W h₀ ρ σ s.heap→Room d A →
  OkF W h₀ V env [] fr' σ' ρ s (fun ρ' f=>FwR ρ' w f) Q→wpAny (model W.prog W.w) A (exec x env) Q E s
end
theorem OkV.now {W:Wd} {h₀:Heap} {σ:Hp} {ρ:Rho} {s:Shared} {a:AV} {Q:Value→Shared→Prop} (k:OkV W h₀ σ ρ s [] a Q) (R:Rel W h₀ ρ σ s.heap) {v:Value} {tk:Nat} (r:VR ρ a v):Q v ⟨s.heap,s.gens,s.drawn,tk,s.os⟩ :=
 k ρ v s.heap tk (.refl R) r
theorem OkB.now {W:Wd} {h₀:Heap} {σ:Hp} {ρ:Rho} {s:Shared} {b:Bool} {Q:Bool→Shared→Prop} (k:OkB W h₀ σ ρ s b Q) (R:Rel W h₀ ρ σ s.heap) {tk:Nat}:Q b ⟨s.heap,s.gens,s.drawn,tk,s.os⟩:=k ρ s.heap tk (.refl R)
theorem OkV.step {W:Wd} {h₀:Heap} {σ1 σ':Hp} {ρ ρ1:Rho} {s:Shared} {h1:Heap} {tk:Nat} {a:AV} {Q:Value→Shared→Prop} (k:OkV W h₀ σ' ρ s [] a Q) (P:Post W h₀ [] ρ ρ1 σ1 s.heap h1) :
  OkV W h₀ σ' ρ1 ⟨h1,s.gens,s.drawn,tk,s.os⟩ [] a Q:=fun ρ' v h' tk' P' r=>k ρ' v h' tk' (P.trans P') r
theorem OkB.step {W:Wd} {h₀:Heap} {σ1 σ':Hp} {ρ ρ1:Rho} {s:Shared} {h1:Heap} {tk:Nat} {b:Bool} {Q:Bool→Shared→Prop} (k:OkB W h₀ σ' ρ s b Q) (P:Post W h₀ [] ρ ρ1 σ1 s.heap h1) :
  OkB W h₀ σ' ρ1 ⟨h1,s.gens,s.drawn,tk,s.os⟩ b Q:=fun ρ' h' tk' P'=>k ρ' h' tk' (P.trans P')
section
variable {W:Wd} {h₀:Heap} {d:Nat} {V:Cx} {fr out:Fm} {σ:Hp} {k:Nat} {p:Pos}
theorem SE.none:SE W h₀ d V (.Constant .none k p) fr out σ .none σ:=fun _ _ _ _ _ _ _ R _ k=>wpAny_Constant_none (k.now R rfl)
theorem SE.bool {b}:SE W h₀ d V (.Constant (.bool b) k p) fr out σ (.bool b) σ:=fun _ _ _ _ _ _ _ R _ k=>wpAny_Constant_bool (k.now R rfl)
theorem SE.int {i}:SE W h₀ d V (.Constant (.int i) k p) fr out σ (.int i) σ:=fun _ _ _ _ _ _ _ R _ k=>wpAny_Constant_int (k.now R ⟨_,rfl⟩)
theorem SE.str {s}:SE W h₀ d V (.Constant (.str s) k p) fr out σ (.str s.cps.toList) σ:=fun _ _ _ _ _ _ _ R _ k=>wpAny_Constant_str (k.now R ⟨_,_,rfl,rfl⟩)
theorem SE.var {n:Str} {x:Nat} {a:AV} (h:V.vs[x]?=some n) (e:fr[x]?.join=some a):SE W h₀ d V (.Name n p) fr out σ a σ:=fun _ _ _ _ _ _ F R _ k=>by
 have db:=F.dbg n (List.mem_append_left _ (List.mem_of_getElem? h))
 rcases F.cel x n h with ⟨_,c⟩ | ⟨_,c,cc,v0,e1,e2,e3,_⟩
 ·obtain ⟨m,hm,hv⟩:=F.ns
  obtain ⟨v,e1,e2⟩:=hv x n a h c (Option.join_eq_some_iff.mp e)
  exact wpAny_Name (wpAny_loadName_local F.fk c hm e1 (k.now R e2)) db
 ·obtain ⟨v,rfl,r⟩:=e3 a (by rw [e])
  exact wpAny_Name (wpAny_loadName_cell F.fk c e1 e2 (k.now R r)) db
theorem SE.free {n:Str} {x:Nat} {a:AV} (h:V.outs[x]?=some n) (hk:V.kind n=some .free) (e:out[x]?.join=some a):SE W h₀ d V (.Name n p) fr out σ a σ:=fun _ _ _ _ _ _ F R _ k=>by
 have db:=F.dbg n (List.mem_append_right _ (List.mem_of_getElem? h))
 refine cps fun _ hG=>?_
 obtain ⟨c,cc,v0,e1,e2,e3,_⟩:=F.frees x n h hk
 refine hG ?_
 clear hG
 refine cps fun _ hG=>?_
 obtain ⟨v,rfl,r⟩:=e3 a (by rw [e])
 refine hG ?_
 clear hG
 exact wpAny_Name (wpAny_loadName_cell F.fk c e1 e2 (k.now R r)) db
theorem bV {K:Frag} {env:Env} {A:Around} {s:Shared} {ρ:Rho} {x:Str} {v:Value} {Q:Value→Shared→Prop} {E:Value→Shared→Prop} (T:Top2 K h₀) (F:EnvR h₀ V env ρ s.heap fr out) (R:Rel W h₀ ρ σ s.heap)
  (hk:V.kind x=some .globalImplicit) (e:nsIn K mainGlobals x=some (some v)) (hd:(x == dbgS)=false) (h:Q v s):wpAny (model W.prog W.w) A (eval (.Name x p) env) Q E s:=by
 refine cps fun _ hG=>?_
 obtain ⟨pr,lo,mg,mb,T'⟩:=T.T
 refine hG ?_
 clear hG
 exact Name_function_global F.fk (F.gl x hk) (loadGlobal_global (F.gg ▸ T'.g.keeps R.base) (mg_of T.X T'.g e) h) hd
theorem aU {K:Frag} {env:Env} {A:Around} {s:Shared} {ρ:Rho} {x:Str} {v:Value} {Q:Value→Shared→Prop} {E:Value→Shared→Prop} (T:Top2 K h₀) (F:EnvR h₀ V env ρ s.heap fr out) (R:Rel W h₀ ρ σ s.heap)
  (hk:V.kind x=some .globalImplicit) (e:nsIn K mainGlobals x=some none) (hv:bootBuiltins x=some v) (hn:x≠"__name__") (hd:(x == dbgS)=false) (h:Q v s):wpAny (model W.prog W.w) A (eval (.Name x p) env) Q E s:=by
 obtain ⟨pr,lo,mg,mb,T'⟩:=T.T
 exact Name_function_global F.fk (F.gl x hk) (loadGlobal_builtin (F.gg ▸ T'.g.keeps R.base) (mg_none_of T.X T'.g e) (F.bb ▸ T'.b.keeps R.base) ((T'.builtins x hn).trans hv) h) hd
section
variable {x y z c:Expr} {xs:List Expr} {σ1 σ2:Hp} {t b:Bool} {a r:AV} {as:List AV}
theorem SE.ite (hc:SC W h₀ d V c fr out σ t σ1) (h:SE W h₀ d V (if t then x else y) fr out σ1 r σ2):SE W h₀ d V (.IfExp c x y p) fr out σ r σ2:=fun _ _ _ _ _ _ F R O k=>by
 refine wpAny_IfExp (hc F R O fun ρ' h' tk P=>?_)
 cases t <;> exact h (F.post P) P.rel O (k.step P)
theorem SC.not (h:SC W h₀ d V x fr out σ b σ1):SC W h₀ d V (.UnaryOp .Not x p) fr out σ (!b) σ1:=fun _ _ _ _ _ _ F R O k=>wpAny_isTrue_Not (h F R O fun ρ' h' tk P=>k _ _ _ P)
theorem SC.ite (hc:SC W h₀ d V c fr out σ t σ1) (h:SC W h₀ d V (if t then x else y) fr out σ1 b σ2):SC W h₀ d V (.IfExp c x y p) fr out σ b σ2:=fun env A s ρ Q E F R O k=>by
 show wpAny _ A (do if ← isTrue _ env (eval _ env) then isTrue _ env (eval _ env) else isTrue _ env (eval _ env)) _ _ _
 refine wpAny_bind (hc F R O fun ρ' h' tk P=>?_)
 cases t <;> exact h (F.post P) P.rel O (k.step P)
noncomputable def tame:Expr→Bool
 | .Constant .. | .Name .. | .Attribute .. | .Call .. | .BinOp .. | .UnaryOp .. | .Compare .. | .BoolOp .. | .IfExp .. | .Subscript .. | .List .. | .Tuple .. | .Dict .. | .ListComp ..=>true
 | _=>false
theorem aZ {env:Env} (h:tame x=true):starEach (x::xs) env=(false,eval x env)::starEach xs env:=by
 cases x <;> first | rfl | exact fT h
theorem SL.nil:SL W h₀ d V [] fr out σ [] σ:=fun _ _ _ _ _ _ _ _ R _ k=>args_nil (k _ _ _ _ (.refl R) .nil)
theorem SL.cons (he:SE W h₀ d V x fr out σ a σ1) (hs:SL W h₀ d V xs fr out σ1 as σ2) (ns:tame x=true):SL W h₀ d V (x::xs) fr out σ (a::as) σ2:=fun _ _ _ _ _ _ _ F R O k =>
 args_cons (he F R O fun _ _ _ _ P r=>hs (F.post P) P.rel O fun _ _ _ _ P2 r2=>k _ _ _ _ (P.trans P2) (.cons (r.mono P2.pre) r2)) (aZ ns)
theorem SE.neg {i:Int} (h:SE W h₀ d V x fr out σ (.int i) σ1):SE W h₀ d V (.UnaryOp .USub x p) fr out σ (.int (-i)) σ1:=fun _ _ _ _ _ _ F R O k=>by
 refine wpAny_UnaryOp (h F R O fun ρ1 v h1 tk P r=>?_)
 obtain ⟨t,rfl⟩:=r
 exact PySem.P.neg_int (k ρ1 _ h1 _ P ⟨_,rfl⟩)
end
end
theorem nA {h₀:Heap} {V:Cx} {env:Env} {ρ:Rho} {h:Heap} {fr out:Fm} (F:EnvR h₀ V env ρ h fr out):env.locals ∉ own ρ:=F.loc.1
section
variable {W:Wd} {h₀:Heap} {σ:Hp} {ρ:Rho}
theorem ed {h:Heap} {i:Nat} {xs:List AV} (R:Rel W h₀ ρ σ h) (e:σ[i]?=some (.list xs)):∃ p its n,ρ[i]?=some p∧h.get? p.1=some (listOf its n)∧VRs ρ xs its.toList∧xs.length≤LIM:=by
 obtain ⟨p,hp,its,n,a,b⟩:=R.objs i _ e
 exact ⟨p,its,n,hp,a,b⟩
theorem jt {h:Heap} {i:Nat} {xs:List AV} (R:Rel W h₀ ρ σ h) (e:σ[i]?=some (.tup xs)):∃ p its n,ρ[i]?=some p∧h.get? p.1=some (tupOf its n)∧VRs ρ xs its.toList∧xs.length≤LIM:=by
 obtain ⟨p,hp,its,n,a,b⟩:=R.objs i _ e
 exact ⟨p,its,n,hp,a,b⟩
theorem am {h:Heap} {i:Nat} {xs:List AV} {P:Prop} (R:Rel W h₀ ρ σ h) (e:σ[i]?=some (.list xs)) (k:∀ p its n,ρ[i]?=some p→h.get? p.1=some (listOf its n)→VRs ρ xs its.toList→xs.length≤LIM→P):P:=by
 obtain ⟨p,its,n,a,b,c,z⟩:=ed R e;exact k p its n a b c z
theorem a9 {h:Heap} {i:Nat} {xs:List AV} {P:Prop} (R:Rel W h₀ ρ σ h) (e:σ[i]?=some (.tup xs)) (k:∀ p its n,ρ[i]?=some p→h.get? p.1=some (tupOf its n)→VRs ρ xs its.toList→xs.length≤LIM→P):P:=by
 obtain ⟨p,its,n,a,b,c,z⟩:=jt R e;exact k p its n a b c z
theorem bL {i:Nat} {p} {v:Value} (r:VR ρ (.ref i) v) (e:ρ[i]?=some p):v=.ref p.1:=by
 obtain ⟨q,e',rfl⟩:=r;rw [e] at e';apply s1Q e';rfl
theorem av {i:Nat} {p} {v:Value} {P:Value→Prop} (r:VR ρ (.ref i) v) (e:ρ[i]?=some p) (k:P (.ref p.1)):P v:=by
 rw [bL r e];exact k
theorem aA {i:Int} {v:Value} {P:Value→Prop} (r:VR ρ (.int i) v) (k:∀ t,P (.int i t)):P v:=by
 obtain ⟨t,rfl⟩:=r;exact k t
theorem an {xs:List AV} {its:Array Value} (b:VRs ρ xs its.toList):its.size=xs.length:=by rw [b.length,Array.length_toList]
theorem bw {h:Heap} {ao:AO} {o:Obj} (R:Rel W h₀ ρ σ h) (hf:o.isFreed=false) (x:∀ h',h'.get? h.objs.size=some o→ObjAt W (ρ++[(h.objs.size,none)]) h' (h.objs.size,none) ao) :
  Post W h₀ [] ρ (ρ++[(h.objs.size,none)]) (σ++[ao]) h (h.push o):=by
 refine Post.alloc R (fun b o' e=>Heap.get?_push_of_some _ e) ?_ (by simp [adr]) (x _ (Heap.get?_push_size _ hf))
 intro a ha
 have:a=h.objs.size:=by simpa [adr] using ha
 subst this
 refine ⟨?_,_,Heap.get?_push_size _ hf⟩
 cases q:h.get? h.objs.size with
 | none=>rfl
 | some o'=>exact absurd (Heap.lt_size q) (Nat.lt_irrefl _)
theorem cp (a:Addr):ρ.length=σ.length→VR (ρ++[(a,none)]) (.ref σ.length) (.ref a):=fun e=>⟨(a,none),by rw [← e];simp,rfl⟩
theorem bx {s:Shared} {Q:Value→Shared→Prop} {xs:List AV} {vs:List Value} (R:Rel W h₀ ρ σ s.heap) (b:VRs ρ xs vs) (hz:xs.length≤LIM)
  (k:OkV W h₀ (σ++[.list xs]) ρ s [] (.ref σ.length) Q):Q (.ref s.heap.objs.size) { s with heap:=s.heap.push { cls:=.type "list",data:=.seq vs.toArray } }:=by
 refine k _ _ _ s.toks (bw R rfl fun h' e=>⟨vs.toArray,0,e,by simpa using b.mono (List.prefix_append _ _),hz⟩) (cp _ R.len)
theorem gY {s:Shared} {Q:Value→Shared→Prop} {xs:List AV} {vs:List Value} (R:Rel W h₀ ρ σ s.heap) (b:VRs ρ xs vs) (hz:xs.length≤LIM)
  (k:OkV W h₀ (σ++[.tup xs]) ρ s [] (.ref σ.length) Q):Q (.ref s.heap.objs.size) { s with heap:=s.heap.push { cls:=.type "tuple",data:=.seq vs.toArray } }:=by
 refine k _ _ _ s.toks (bw R rfl fun h' e=>⟨vs.toArray,0,e,by simpa using b.mono (List.prefix_append _ _),hz⟩) (cp _ R.len)
theorem ay {n:Nat} (h:n≤LIM):n≤sizeLine:=Nat.le_trans h (by show 10000≤2 ^ 24;decide)
theorem dP {i:Int} (h:sInt i=true):-1000000000≤i∧i≤1000000000:=by simpa [sInt] using h
end
theorem obC {α β:Type} {o:Option α} {f:α→Option β} {b:β} {P:Prop} (h:o.bind f=some b) (k:∀ a,o=some a→f a=some b→P):P:=by
 cases o with
 | none=>exact nS h
 | some a=>exact k a rfl h
theorem mq {α:Type} {c:Bool} {o:Option α} {b:α} {P:Prop} (h:(if c=true then o else none)=some b) (k:c=true→o=some b→P):P:=by
 cases c with
 | false=>exact nS h
 | true=>exact k rfl h
theorem sP {α β:Type} {x:α×β} {a:α} {b:β} {P:α→β→Prop} (h:some x=some (a,b)) (k:P x.1 x.2):P a b:=by
 (revert k;apply sQ h;intro k);exact k
theorem ifP {α β:Type} {c:Prop} [Decidable c] {x:α×β} {a:α} {b:β} {P:α→β→Prop} (h:(if c then some x else none)=some (a,b)) (k:c→P x.1 x.2):P a b:=by
 by_cases hc:c
 ·rw [if_pos hc] at h;exact sP h (k hc)
 ·rw [if_neg hc] at h;exact nS h
theorem aw {σ:Hp} {i:Nat} {xs:List AV} (h:listAt σ i=some xs):σ[i]?=some (.list xs):=by
 unfold listAt at h
 cases e:σ[i]? with
 | none=>rw [e] at h;exact nS h
 | some o=>rw [e] at h;cases o <;> (first | exact nS h | apply s1Q h);rfl
section
variable {W:Wd} {h₀:Heap} {d:Nat} {V:Cx} {fr out:Fm} {σ σ1 σ2 σ3:Hp} {p:Pos} {as:List AV} {va vb r:AV}
theorem SE.list {xs:List Expr} (h:SL W h₀ d V xs fr out σ as σ1) (e:allocL as σ1=some (r,σ2)):SE W h₀ d V (.List xs p) fr out σ r σ2:=fun _ _ _ _ _ _ F R O k=>by
 unfold allocL at e
 split at e
 ·rename_i hl
  (revert k;apply sQ e;intro k)
  refine wpAny_List (h F R O fun ρ1 vs h1 tk P r=>⟨by rw [← r.length];exact ay hl,?_⟩)
  exact bx P.rel r hl (k.step (tk:=tk) P)
 ·exact nS e
theorem SE.tup {xs:List Expr} {k:Nat} (h:SL W h₀ d V xs fr out σ as σ1) (e:allocT as σ1=some (r,σ2)):SE W h₀ d V (.Tuple xs k p) fr out σ r σ2:=fun _ _ _ _ _ _ F R O k=>by
 unfold allocT at e
 split at e
 ·rename_i hl
  (revert k;apply sQ e;intro k)
  refine wpAny_Tuple (h F R O fun ρ1 vs h1 tk P r=>⟨by rw [← r.length];exact ay hl,?_⟩)
  exact gY P.rel r hl (k.step (tk:=tk) P)
 ·exact nS e
theorem gZ {a b:Int} (h:sInt (a * b)=true):IntMulOk a b:=by
 have h:=dP h
 by_cases ha:a=0
 ·subst ha;exact IntMulOk.of_left (intBits_le_64 (by decide) (by decide))
 ·refine IntMulOk.of_right (intBits_le_64 ?_ ?_)
  ·have:=Int.natAbs_mul a b
   have h1:(a * b).natAbs≤1000000000:=by omega
   have h2:b.natAbs≤1000000000:=Nat.le_trans (Nat.le_mul_of_pos_left _ (by omega)) (this ▸ h1)
   omega
  ·have:=Int.natAbs_mul a b
   have h1:(a * b).natAbs≤1000000000:=by omega
   have h2:b.natAbs≤1000000000:=Nat.le_trans (Nat.le_mul_of_pos_left _ (by omega)) (this ▸ h1)
   omega
theorem cS {x:Str} {l:List Nat} (h:x.cps.toList=l):x=⟨l.toArray⟩:=by
 subst h;obtain ⟨c⟩:=x;simp
theorem bH {x:Str} {l:List Nat} (h:x.cps.toList=l):x.length=l.length:=by subst h;simp [Str.length]
theorem gf {A:Around} {s:Shared} {E:Value→Shared→Prop} {l:Addr} {items:Array Value} {k:Nat} {x:Int} {u:Tok} {Q:Value→Shared→Prop} (hl:s.heap.get? l=some (listOf items k))
  (hlo:-(2 ^ 63:Int)≤x) (hhi:x<2 ^ 63) (hsz:items.size * x.toNat≤2 ^ 24)
  (h:Q (.ref s.heap.objs.size) { s with heap:=s.heap.push { cls:=.type "list",data:=.seq (List.foldl (fun x1 x2=>x1++x2) #[] (List.replicate (if items.isEmpty=true then 0 else x.toNat) items)) } }) :
  wpAny (model W.prog W.w) A (binaryOp .Mult (.ref l) (.int x u)) Q E s :=
 wpAny_binaryOp_repeat_ref (T:="list") (U:="int") (by decide) ⟨_,hl,rfl⟩ (fun s'=>typeIs_int s' x u) noFill_list_mul F.fills_int_mul F.slot_int_rmul repeat_list F.slot_int_index.lookup
  (call_meets F.slot_int_rmul (typeIs_int s x u) F.entry_int_rmul (F.args_int_rmul_2 _ _) (int___rmul___int_list x u l items k)
   ⟨hl,rfl,⟨_,hl,rfl⟩,call_meets F.slot_list_mul ⟨_,hl,rfl⟩ F.entry_list_mul (F.args_list_mul_2 _ _)
    (AutoListH.list___mul___list_int_3 l items k x u (by simp [Builtin.List.listFitsIndex];omega) (by omega) (by simp [Builtin.List.listTooLong,sizeLine];omega)) ⟨hl,h⟩⟩)
section
variable {A:Around} {s:Shared} {ρ:Rho} {a b:AV} {wa wb:Value} {σ':Hp} {Q:Value→Shared→Prop} {E:Value→Shared→Prop} (R:Rel W h₀ ρ σ s.heap) (ra:VR ρ a wa) (rb:VR ρ b wb) (k:OkV W h₀ σ' ρ s [] r Q)
include R ra rb k
theorem ju (e:addV σ a b=some (r,σ')):wpAny (model W.prog W.w) A (binaryOp .Add wa wb) Q E s:=by
 cases a with
 | str l =>
  cases b with
  | str l' =>
   obtain ⟨x,t,rfl,hx⟩:=ra;obtain ⟨y,u,rfl,hy⟩:=rb
   unfold addV at e
   dsimp only at e
   split at e <;> (first | exact nS e | (revert k;apply sQ e;intro k))
   rename_i hl
   refine PySem.P.add_str ?_
   rw [bH hx,bH hy]
   split
   ·rename_i h0
    have:x.cps.toList=[]:=by rw [hx];exact List.length_eq_zero_iff.mp (beq_iff_eq.mp h0)
    exact k.now R ⟨_,_,rfl,by rw [hy,← hx,this];rfl⟩
   ·split
    ·rename_i h0
     have:y.cps.toList=[]:=by rw [hy];exact List.length_eq_zero_iff.mp (beq_iff_eq.mp h0)
     exact k.now R ⟨_,_,rfl,by rw [hx,← hy,this,List.append_nil]⟩
    ·refine ⟨by rw [strLen_append,bH hx,bH hy];exact ay hl,k.now R ⟨_,_,rfl,?_⟩⟩
     show (x.cps++y.cps).toList=_
     rw [Array.toList_append,hx,hy]
  | _=>exact nS e
 | ref i =>
  cases b with
  | ref j =>
   unfold addV at e
   dsimp only at e
   cases hi:listAt σ i with
   | none=>rw [hi] at e;exact nS e
   | some xs =>
    cases hj:listAt σ j with
    | none=>rw [hi,hj] at e;exact nS e
    | some ys =>
     rw [hi,hj] at e
     dsimp only at e
     unfold allocL at e
     split at e <;> (first | exact nS e | (revert k;apply sQ e;intro k))
     rename_i hl
     (apply am R (aw hi);intro p its n e1 e2 e3 _)
     (apply am R (aw hj);intro q its' n' f1 f2 f3 _)
     apply av ra e1;apply av rb f1
     refine PySem.P.add_list e2 f2 ?_ (by rw [an e3,an f3,← List.length_append];exact ay hl)
     have:=bx (Q:=Q) (xs:=xs++ys) (vs:=its.toList++its'.toList) R (aI e3 f3) hl k
     rw [show its++its'=(its.toList++its'.toList).toArray from by simp]
     exact this
  | _=>exact nS e
 | _=>exact nS e
omit ra rb in
theorem jv {i:Nat} {xs:List AV} {n:Int} {u:Tok} (ra:VR ρ (.ref i) wa) (e:(match xs with | [x]=>if -1000000000≤n∧n≤LIM then allocL (List.replicate n.toNat x) σ else none | _=>none)=some (r,σ')) (hi:listAt σ i=some xs):wpAny (model W.prog W.w) A (binaryOp .Mult wa (.int n u)) Q E s:=by
 (apply am R (aw hi);intro p its m e1 e2 e3 _)
 apply av ra e1
 cases e3l:its.toList with
 | nil=>rw [e3l] at e3;cases e3;exact nS e
 | cons v vs =>
  rw [e3l] at e3
  cases e3 with
  | @cons y _ ys _ hv hr =>
   cases hr with
   | cons=>exact nS e
   | nil =>
    dsimp only at e
    obtain rfl:its=#[v]:=by rw [← Array.toArray_toList (xs:=its),e3l]
    split at e
    ·rename_i hn
     unfold allocL at e
     split at e
     ·(revert k;apply sQ e;intro k)
      rename_i hl
      have hb:n≤10000:=hn.2
      refine gf e2 (by omega) (by omega) (by simp;exact aa [] [_] (.leI J0 (.k 16777216)) (.leI J0 (.k 10000)) [1,1] rfl hb) ?_
      have:=bx (Q:=Q) R (gX hv n.toNat) hl k
      rw [show List.foldl (fun x1 x2=>x1++x2) #[] (List.replicate (if (#[v]:Array Value).isEmpty=true then 0 else n.toNat) #[v])=(List.replicate n.toNat v).toArray from by
       rw [if_neg (by simp),listMul_foldl];simp]
      exact this
     ·exact nS e
    ·exact nS e
theorem jw (e:mulV σ a b=some (r,σ')):wpAny (model W.prog W.w) A (binaryOp .Mult wa wb) Q E s:=by
 cases a with
 | ref i =>
  cases b with
  | int n =>
   (apply aA rb;intro u)
   cases hi:listAt σ i with
   | none=>unfold mulV at e;dsimp only at e;rw [hi] at e;exact nS e
   | some xs=>exact jv R k ra (by unfold mulV at e;dsimp only at e;rw [hi] at e;exact e) hi
  | _=>exact nS e
 | _=>exact nS e
theorem jx (e:modV σ a b=some (r,σ')):wpAny (model W.prog W.w) A (binaryOp .Mod wa wb) Q E s:=by
 cases a with
 | int i =>
  cases b with
  | int j =>
   (apply aA ra;intro t);(apply aA rb;intro u)
   unfold modV at e
   dsimp only at e
   split at e <;> (first | exact nS e | (revert k;apply sQ e;intro k))
   rename_i hb
   refine mod_int' (by omega) ?_
   refine k.now R ⟨s.toks,?_⟩
   rw [Int.fmod_eq_emod_of_nonneg _ (by exact aa [] [_] (.leI (.k 0) J0) (.ltI (.k 0) J0) [1,1] rfl hb)]
  | _=>exact nS e
 | _=>exact nS e
theorem jy {o:Operator} (e:binV σ (opB o) a b=some (r,σ')):wpAny (model W.prog W.w) A (binaryOp o wa wb) Q E s:=by
 cases o with
 | Add=>exact ju R ra rb k e
 | Mult=>exact jw R ra rb k e
 | Mod=>exact jx R ra rb k e
 | _=>exact nS e
end
theorem SE.bin {o:Operator} {x y:Expr} (ha:SE W h₀ d V x fr out σ va σ1) (hb:SE W h₀ d V y fr out σ1 vb σ2) (e:binV σ2 (opB o) va vb=some (r,σ3)):SE W h₀ d V (.BinOp x o y p) fr out σ r σ3:=fun _ _ _ _ _ _ F R O k =>
 wpAny_BinOp (ha F R O fun ρ1 v h1 tk P r1=>hb (F.post P) P.rel O fun ρ2 v2 h2 tk2 P2 r2=>jy P2.rel (r1.mono P2.pre) r2 (((k.step (tk:=tk) P)).step (s:=⟨h1,_,_,tk,_⟩) (tk:=tk2) P2) e)
theorem kR {A:Around} {s:Shared} {o:Operator} {m n i:Int} {t u:Tok} {Q:Value→Shared→Prop} {E:Value→Shared→Prop} (e:intOp (opB o) (.int m) (.int n)=some i) (hk:okI (opB o) i=true) (k:Q (.int i s.toks) ⟨s.heap,s.gens,s.drawn,s.toks+1,s.os⟩):wpAny (model W.prog W.w) A (binaryOp o (.int m t) (.int n u)) Q E s:=by
 cases o with
 | Add=>(revert k;apply s1Q e;intro k);exact PySem.P.add_int k
 | Sub=>(revert k;apply s1Q e;intro k);exact PySem.P.sub_int k
 | Mult=>cases e;exact PySem.P.mul_int k (gZ hk)
 | _=>exact nS e
theorem gh {o:Nat} {a b:AV} {i:Int} (e:intOp o a b=some i):∃ m n,a=.int m∧b=.int n:=by
 cases a with
 | int m=>cases b with
  | int n=>exact ⟨m,n,rfl,rfl⟩
  | _=>exact nS e
 | _=>exact nS e
theorem SE.ar {o:Operator} {x y:Expr} {i:Int} (ha:SE W h₀ d V x fr out σ va σ1) (hb:SE W h₀ d V y fr out σ1 vb σ2) (e:intOp (opB o) va vb=some i) (hk:okI (opB o) i=true):SE W h₀ d V (.BinOp x o y p) fr out σ (.int i) σ2:=by
 refine cps fun _ hG=>?_
 obtain ⟨m,n,rfl,rfl⟩:=gh e
 refine hG ?_
 clear hG
 exact fun _ _ _ _ _ _ F R O k=>wpAny_BinOp (ha F R O fun ρ1 v h1 tk P r1=>hb (F.post P) P.rel O fun ρ2 v2 h2 tk2 P2 r2=>by
  (apply aA (r1.mono P2.pre);intro t);(apply aA r2;intro u)
  exact kR e hk (k _ _ _ _ (P.trans P2) ⟨_,rfl⟩))
end
section
variable {W:Wd} {h₀:Heap} {σ:Hp}
theorem aE {h:Heap} {a:Addr} {its:Array Value} {n:Nat} (e:h.get? a=some (listOf its n)):h.IsList a its:=⟨_,e,rfl,n,rfl⟩
theorem a7 {h:Heap} {a:Addr} {its:Array Value} {n:Nat} (e:h.get? a=some (tupOf its n)):IsTup h a its:=⟨_,e,rfl,n,rfl⟩
theorem bW {a:AV} {t:Bool} (h:truth a=some t):a=.bool t:=by
 cases a with
 | bool b=>apply s1Q h;rfl
 | _=>exact nS h
theorem cT {ρ:Rho} {xs:List AV} {vs:List Value} (h:VRs ρ xs vs):∀ {ns:List Int},intsV xs=some ns→IntsAre vs ns:=by
 induction h with
 | nil=>intro ns e;apply s1Q e;exact .nil
 | @cons a v l m ha hl ih =>
  intro ns e
  cases a with
  | int i =>
   obtain ⟨t,rfl⟩:=ha
   obtain ⟨ms,e2,rfl⟩:=Option.map_eq_some_iff.mp (show (intsV l).map (i::·)=some _ from e)
   exact .cons i t (ih e2)
  | _=>exact nS e
theorem bM {ρ:Rho} {xs:List AV} {vs:List Value} (h:VRs ρ xs vs):∀ {ns:List (List Nat)},strsV xs=some ns→StrsAre vs (ns.map fun l=>⟨l.toArray⟩):=by
 induction h with
 | nil=>intro ns e;apply s1Q e;exact .nil
 | @cons a v l m ha hl ih =>
  intro ns e
  cases a with
  | str i =>
   obtain ⟨x,t,rfl,hx⟩:=ha
   obtain ⟨ms,e2,rfl⟩:=Option.map_eq_some_iff.mp (show (strsV l).map (i::·)=some _ from e)
   rw [cS hx]
   exact .cons _ t (ih e2)
  | _=>exact nS e
theorem ee (l:List Nat) (ns:List (List Nat)):(ns.map fun l=>(⟨l.toArray⟩:Str)).any (· == ⟨l.toArray⟩)=ns.contains l:=by
 induction ns with
 | nil=>rfl
 | cons a r ih =>
  simp only [List.map_cons,List.any_cons,ih,List.contains_cons]
  congr 1
  by_cases h:a=l
  ·subst h;simp
  ·have h1:((⟨a.toArray⟩:Str) == ⟨l.toArray⟩)=false:=by
    refine beq_eq_false_iff_ne.mpr fun q=>h ?_
    have:=congrArg (fun x=>x.cps.toList) q
    simpa using this
   have h2:(l == a)=false:=beq_eq_false_iff_ne.mpr fun q=>h q.symm
   rw [h1,h2]
section
variable {A:Around} {s:Shared} {ρ:Rho} {a b:AV} {t:Bool} {va vb:Value} {Q:Value→Shared→Prop} {E:Value→Shared→Prop} (R:Rel W h₀ ρ σ s.heap) (hu:A.units+64<cLine) (ra:VR ρ a va) (rb:VR ρ b vb)
include R ra rb
include hu in
theorem g0 (e:eqV σ a b=some t):(Q (.bool t) s→wpAny (model W.prog W.w) A (compareOp .Eq va vb) Q E s)∧(Q (.bool (!t)) s→wpAny (model W.prog W.w) A (compareOp .NotEq va vb) Q E s):=by
 cases a with
 | int i =>
  cases b with
  | int j =>
   apply s1Q e
   (apply aA ra;intro u);obtain ⟨u',rfl⟩:=rb
   refine ⟨fun h=>PySem.P.eq_int ?_,fun h=>PySem.P.ne_int ?_⟩
   ·exact h
   ·exact h
  | _=>exact nS e
 | str l =>
  cases b with
  | str m =>
   apply s1Q e
   refine cps fun _ hG=>?_
   obtain ⟨x,u,rfl,hx⟩:=ra;obtain ⟨y,u',rfl,hy⟩:=rb
   refine hG ?_
   clear hG
   refine ⟨fun h=>PySem.P.eq_str ?_,fun h=>PySem.P.ne_str ?_⟩
   ·rw [hx,hy]
    have:(l == m)=decide (l=m):=by by_cases q:l=m <;> simp [q]
    rw [this];exact h
   ·rw [hx,hy]
    have:(l != m)=!decide (l=m):=by by_cases q:l=m <;> simp [q]
    rw [this];exact h
  | _=>exact nS e
 | ref i =>
  cases b with
  | ref j =>
   unfold eqV at e
   dsimp only at e
   cases hi:listAt σ i with
   | none=>rw [hi] at e;exact nS e
   | some xs =>
    cases hj:listAt σ j with
    | none=>rw [hi,hj] at e;exact nS e
    | some ys =>
     rw [hi,hj] at e
     have e:eqL xs ys=some t:=e
     (apply am R (aw hi);intro p its n e1 e2 e3 hz)
     (apply am R (aw hj);intro q its' n' f1 f2 f3 hz')
     apply av ra e1;apply av rb f1
     unfold eqL at e
     split at e
     ·rename_i hl
      apply s1Q e
      have hsz:(its.size != its'.size)=true:=by rw [an e3,an f3];exact bne_iff_ne.mpr hl
      exact ⟨fun h=>PySem.P.eq_list_lengths e2 f2 hsz (by exact aa [_,_] [] (.ltN N0 N1) (.ltN (.a N0 (.k 64)) N1) [1,1] rfl hu) h,fun h=>SeqAt.RcNeAt.lists_lengths (aE e2) (aE f2) hsz (by exact aa [_,_] [] (.ltN N0 N1) (.ltN (.a N0 (.k 64)) N1) [1,1] rfl hu) W.prog W.w E Q h⟩
     ·cases h1:intsV xs with
      | none=>rw [h1] at e;exact nS e
      | some m1 =>
       cases h2:intsV ys with
       | none=>rw [h1,h2] at e;exact nS e
       | some m2 =>
        rw [h1,h2] at e
        apply s1Q e
        have i1:=cT e3 h1;have i2:=cT f3 h2
        exact ⟨fun h=>ke_eq_ints (xs:=its.toList) (ys:=its'.toList) (by simpa using aE e2) (by simpa using aE f2) i1 i2 hu h,fun h=>ke_ne_ints (xs:=its.toList) (ys:=its'.toList) (by simpa using aE e2) (by simpa using aE f2) i1 i2 hu h⟩
  | _=>exact nS e
 | _=>exact nS e
set_option tactic.hygienic true in
theorem g5 (e:inV σ a b=some t):(Q (.bool t) s→wpAny (model W.prog W.w) A (compareOp .In va vb) Q E s)∧(Q (.bool (!t)) s→wpAny (model W.prog W.w) A (compareOp .NotIn va vb) Q E s):=by
 cases a with
 | str l =>
  obtain ⟨y,u,rfl,hy⟩:=ra
  cases b with
  | str m =>
   apply s1Q e
   obtain ⟨x,u',rfl,hx⟩:=rb
   rw [cS hx,cS hy]
   exact ⟨fun h=>PySem.P.in_str (by simpa [Str.length] using h),fun h=>PySem.P.notIn_str (by simpa [Str.length] using h)⟩
  | ref j =>
   unfold inV at e
   dsimp only at e
   split at e
   ·rename_i xs hj
    obtain ⟨ns,hn,rfl⟩:=Option.map_eq_some_iff.mp e
    (apply a9 R hj;intro q its' n' f1 f2 f3 _)
    apply av rb f1
    rw [cS hy]
    have hi:=bM f3 hn
    have hq:∀ y,y∈its'→SeqAt.EqAt A.in1 s y (.str ⟨l.toArray⟩ u) (isStrOf ⟨l.toArray⟩ y):=fun y hy=>(eq_isStrOf ⟨l.toArray⟩ u hi y (by simpa using hy)).at _ _
    have ha:its'.any (isStrOf ⟨l.toArray⟩)=ns.contains l:=by rw [← Array.any_toList,any_isStrOf _ hi,ee]
    exact ⟨fun h=>SeqAt.in_tupleAt _ (a7 f2) hq (by rw [ha];exact h),fun h=>SeqAt.notIn_tupleAt _ (a7 f2) hq (by rw [ha];exact h)⟩
   ·exact nS e
  | _=>exact nS e
 | _=>exact nS e
theorem cJ {f:Int→Int→Bool} {o:CmpOp} (hf:∀ {i j:Int} {u u':Tok},Q (.bool (f i j)) s→wpAny (model W.prog W.w) A (compareOp o (.int i u) (.int j u')) Q E s) (e:ordV f a b=some t) (k:Q (.bool t) s):wpAny (model W.prog W.w) A (compareOp o va vb) Q E s:=by
 cases a with
 | int i =>
  cases b with
  | int j =>
   (revert k;apply s1Q e;intro k)
   (apply aA ra;intro u);obtain ⟨u',rfl⟩:=rb
   exact hf k
  | _=>exact nS e
 | _=>exact nS e
theorem g6 (e:isV a b=some t):(Q (.bool t) s→wpAny (model W.prog W.w) A (compareOp .Is va vb) Q E s)∧(Q (.bool (!t)) s→wpAny (model W.prog W.w) A (compareOp .IsNot va vb) Q E s):=by
 cases b with
 | none =>
  cases rb
  have go:(va == .none)=t:=by
   cases a with
   | none=>cases ra;apply s1Q e;rfl
   | opq=>exact nS e
   | bool c=>cases ra;apply s1Q e;rfl
   | int i=>(apply aA ra;intro u);apply s1Q e;rfl
   | str l=>obtain ⟨x,u,rfl,_⟩:=ra;apply s1Q e;rfl
   | ref i=>obtain ⟨p,_,rfl⟩:=ra;apply s1Q e;rfl
  exact ⟨fun h=>is_none (by rw [go];exact h),fun h=>isNot_none (by show Q (.bool (!(va == .none))) s;rw [go];exact h)⟩
 | _=>exact nS e
include hu in
theorem cK {o:CmpOp} (e:cmpV σ (opC o) a b=some t) (k:OkB W h₀ σ ρ s t (fun b s'=>Q (.bool b) s')):wpAny (model W.prog W.w) A (compareOp o va vb) Q E s:=by
 have kk:=k.now R (tk:=s.toks)
 have nt:∀ {f:Option Bool},f.map (!·)=some t→∃ b,f=some b∧Q (.bool (!b)) s:=fun h=>by
  obtain ⟨b,hb,rfl⟩:=Option.map_eq_some_iff.mp h
  exact ⟨b,hb,kk⟩
 cases o with
 | Eq=>exact (g0 R hu ra rb e).1 kk
 | NotEq=>obtain ⟨b,hb,q⟩:=nt e;exact (g0 R hu ra rb hb).2 q
 | Lt=>exact cJ R ra rb (fun h=>PySem.P.lt_int h) e kk
 | LtE=>exact cJ R ra rb (fun h=>PySem.P.le_int h) e kk
 | Gt=>exact cJ R ra rb (fun h=>PySem.P.gt_int h) e kk
 | GtE=>exact cJ R ra rb (fun h=>PySem.P.ge_int h) e kk
 | Is=>exact (g6 R ra rb e).1 kk
 | IsNot=>obtain ⟨b,hb,q⟩:=nt e;exact (g6 R ra rb hb).2 q
 | In=>exact (g5 R ra rb e).1 kk
 | NotIn=>obtain ⟨b,hb,q⟩:=nt e;exact (g5 R ra rb hb).2 q
end
end
theorem Room.units {d:Nat} {A:Around} (O:Room d A):A.units+64<cLine:=Nat.lt_of_le_of_lt (by exact ak [_,_] [] (.leN (.a N0 (.k 64)) (.a (.a N0 (.m 10 N1)) (.k 100))) [1] rfl) O.2.2
section
variable {W:Wd} {h₀:Heap} {d:Nat} {V:Cx} {fr out:Fm} {σ σ1 σ2:Hp} {p:Pos} {x y:Expr} {xs:List Expr} {o o':CmpOp} {ops:List CmpOp} {a b v:AV} {t t':Bool}
theorem g7 (h:tame x=true):behindInMarks o x=false:=by
 cases x <;> first | exact Eq.refl false | exact fT h
theorem SH.one (he:SE W h₀ d V x fr out σ b σ1) (ns:tame x=true) (ht:cmpV σ1 (opC o) a b=some t):SH W h₀ d V a [o] [x] fr out σ t σ1:=fun env A s ρ E pos va F R O ra=>by
 have hm:∀ tr:Sem Value,markedBehindIn o x tr=tr:=fun tr=>markedBehindIn_of_false (g7 ns)
 refine ⟨fun {Q} k=>?_,fun {Q} k=>?_⟩
 ·show wpAny _ A (compareChain pos va [o] [markedBehindIn o _ (eval _ env)]) Q E s
  rw [hm]
  exact chain_last (he F R O fun ρ1 v h1 tk P r=>cK P.rel O.units (ra.mono P.pre) r ht (k.step (tk:=tk) P))
 ·show wpAny _ A (testChain pos va [o] [markedBehindIn o _ (eval _ env)]) Q E s
  rw [hm]
  exact test_last (he F R O fun ρ1 v h1 tk P r=>cK P.rel O.units (ra.mono P.pre) r ht fun ρ2 h2 tk2 P2=>wpAny_truthy_bool (k _ _ _ (P.trans P2)))
theorem ef {env:Env} (hl:ops.length=xs.length):∃ t ts,markedEach (o::ops) (x::xs) (evalEach (x::xs) env)=t::ts:=by
 cases ops <;> cases xs <;> first | exact ⟨_,_,rfl⟩ | cases hl
theorem SH.more (hl:ops.length=xs.length) (he:SE W h₀ d V x fr out σ b σ1) (ht:cmpV σ1 (opC o) a b=some t)
  (hr:if t then SH W h₀ d V b (o'::ops) (y::xs) fr out σ1 t' σ2 else t'=false∧σ2=σ1):SH W h₀ d V a (o::o'::ops) (x::y::xs) fr out σ t' σ2:=fun env A s ρ E pos va F R O ra=>by
 obtain ⟨tr,trs,hmk⟩:=ef (o:=o') (x:=y) (env:=env) hl
 refine ⟨fun {Q} k=>?_,fun {Q} k=>?_⟩
 ·show wpAny _ A (compareChain pos va (o::o'::_) (eval _ env::markedEach (o'::_) (_::_) (evalEach (_::_) env))) Q E s
  rw [hmk]
  refine chain_link (he F R O fun ρ1 v h1 tk P r1=>cK P.rel O.units (ra.mono P.pre) r1 ht fun ρ2 h2 tk2 P2=>wpAny_truthy_bool ?_)
  cases t with
  | false=>(revert k;apply eQ2 hr;intro k);exact k _ _ _ (P.trans P2)
  | true =>
   have P3:=P.trans P2
   exact hmk ▸ (hr (F.post P3) P3.rel O (r1.mono P2.pre) (E:=E) (pos:=pos) (s:=⟨h2,s.gens,s.drawn,tk2,s.os⟩)).1 (k.step (tk:=tk2) P3)
 ·show wpAny _ A (testChain pos va (o::o'::_) (eval _ env::markedEach (o'::_) (_::_) (evalEach (_::_) env))) Q E s
  rw [hmk]
  refine test_link (he F R O fun ρ1 v h1 tk P r1=>cK P.rel O.units (ra.mono P.pre) r1 ht fun ρ2 h2 tk2 P2=>wpAny_truthy_bool ?_)
  cases t with
  | false=>(revert k;apply eQ2 hr;intro k);exact k _ _ _ (P.trans P2)
  | true =>
   have P3:=P.trans P2
   exact hmk ▸ (hr (F.post P3) P3.rel O (r1.mono P2.pre) (E:=E) (pos:=pos) (s:=⟨h2,s.gens,s.drawn,tk2,s.os⟩)).2 (k.step (tk:=tk2) P3)
theorem SE.cmp (ha:SE W h₀ d V x fr out σ v σ1) (hr:SH W h₀ d V v ops xs fr out σ1 t σ2):SE W h₀ d V (.Compare x ops xs p) fr out σ (.bool t) σ2:=fun env A s ρ Q E F R O k=>by
 show wpAny _ A (do compareChain _ (← eval _ env) _ (markedEach _ _ (evalEach _ env))) Q E s
 exact wpAny_bind (ha F R O fun ρ1 v h1 tk P r1=>(hr (F.post P) P.rel O r1).1 fun ρ2 h2 tk2 P2=>k _ _ _ _ (P.trans P2) rfl)
theorem SC.cmp (ha:SE W h₀ d V x fr out σ v σ1) (hr:SH W h₀ d V v ops xs fr out σ1 t σ2):SC W h₀ d V (.Compare x ops xs p) fr out σ t σ2:=fun env A s ρ Q E F R O k=>by
 show wpAny _ A (do testChain _ (← eval _ env) _ (markedEach _ _ (evalEach _ env))) Q E s
 exact wpAny_bind (ha F R O fun ρ1 v h1 tk P r1=>(hr (F.post P) P.rel O r1).2 (k.step (tk:=tk) P))
theorem dQ {env:Env} (hp:condPlain x=true) (ns:tame x=true):isTrue x env (eval x env)=(do let v ← eval x env;standAt x.pos;holding [v] (truthy v)):=by
 cases x <;> first | rfl | exact fT hp | exact fT ns
theorem SC.plain (hp:condPlain x=true) (ns:tame x=true) (he:SE W h₀ d V x fr out σ (.bool t) σ1):SC W h₀ d V x fr out σ t σ1:=fun _ _ _ _ _ _ F R O k =>
 wpAny_isTrue_value (he F R O fun ρ1 v h1 tk P r=>by cases r;exact wpAny_truthy_bool (k _ _ _ P)) (dQ hp ns)
theorem SC.and_nil:SC W h₀ d V (.BoolOp .And [] p) fr out σ true σ:=fun _ _ _ _ _ _ _ R _ k=>wpAny_isTrue_BoolOp (wpAny_allTrue_And_nil (k.now R))
theorem SC.or_nil:SC W h₀ d V (.BoolOp .Or [] p) fr out σ false σ:=fun _ _ _ _ _ _ _ R _ k=>wpAny_isTrue_BoolOp (wpAny_allTrue_Or_nil (k.now R))
theorem SC.and_cons (he:SC W h₀ d V x fr out σ t σ1) (hr:if t then SC W h₀ d V (.BoolOp .And xs p) fr out σ1 t' σ2 else t'=false∧σ2=σ1):SC W h₀ d V (.BoolOp .And (x::xs) p) fr out σ t' σ2:=fun _ _ _ _ _ _ F R O k=>by
 refine wpAny_isTrue_BoolOp (wpAny_allTrue_And_cons (he F R O fun ρ1 h1 tk P=>?_))
 cases t with
 | false=>(revert k;apply eQ2 hr;intro k);exact k _ _ _ P
 | true=>exact hr (F.post P) P.rel O (k.step (tk:=tk) P)
theorem SC.or_cons (he:SC W h₀ d V x fr out σ t σ1) (hr:if t then t'=true∧σ2=σ1 else SC W h₀ d V (.BoolOp .Or xs p) fr out σ1 t' σ2):SC W h₀ d V (.BoolOp .Or (x::xs) p) fr out σ t' σ2:=fun _ _ _ _ _ _ F R O k=>by
 refine wpAny_isTrue_BoolOp (wpAny_allTrue_Or_cons (he F R O fun ρ1 h1 tk P=>?_))
 cases t with
 | true=>(revert k;apply eQ2 hr;intro k);exact k _ _ _ P
 | false=>exact hr (F.post P) P.rel O (k.step (tk:=tk) P)
theorem SE.bool_one {o:BoolOp} (he:SE W h₀ d V x fr out σ a σ1):SE W h₀ d V (.BoolOp o [x] p) fr out σ a σ1:=fun env A s ρ Q E F R O k=>he F R O k
theorem eg {A:Around} {s:Shared} {Q:Value→Shared→Prop} {E:Value→Shared→Prop} {pos:Pos} {op:BoolOp} {x y:Sem Value} {ys:List (Sem Value)}
  (h:wpAny (model W.prog W.w) A x (fun v s1=>wpAny (model W.prog W.w) A (truthy v) (fun t s2=>if t == (op == .Or) then Q v s2 else wpAny (model W.prog W.w) A (boolOp pos op (y::ys)) Q E s2) E s1) E s) :
  wpAny (model W.prog W.w) A (boolOp pos op (x::y::ys)) Q E s:=by
 show wpAny _ A (do
  let v ← x
  standAt pos
  let t ← holding [v] (truthy v)
  match op,t with
  | .And,false | .Or,true=>pure v
  | _,_=>boolOp pos op (y::ys)) Q E s
 refine wpAny_bind (wpAny_mono h (fun v s₁ h₁=>wpAny_bind (wpAny_standAt (wpAny_bind (wpAny_holding (wpAny_mono h₁ (fun t s₂ h₂=>?_) fun _ _ x=>x))))) fun _ _ x=>x)
 cases op <;> cases t <;> first | exact wpAny_pure h₂ | exact h₂
theorem SE.bool_more {o:BoolOp} (he:SE W h₀ d V x fr out σ (.bool t) σ1) (hr:if t == (o == .Or) then b=.bool t∧σ2=σ1 else SE W h₀ d V (.BoolOp o (y::xs) p) fr out σ1 b σ2):SE W h₀ d V (.BoolOp o (x::y::xs) p) fr out σ b σ2:=fun env A s ρ Q E F R O k=>by
 refine eg (he F R O fun ρ1 v h1 tk P r1=>?_)
 cases r1
 refine wpAny_truthy_bool ?_
 split
 ·rename_i hc
  rw [if_pos hc] at hr
  (revert k;apply eQ2 hr;intro k)
  exact k _ _ _ _ P rfl
 ·rename_i hc
  rw [if_neg hc] at hr
  exact hr (F.post P) P.rel O (E:=E) (s:=⟨h1,s.gens,s.drawn,tk,s.os⟩) (k.step (tk:=tk) P)
theorem SE.dict0 {K:Frag} (T:Top2 K h₀):SE W h₀ d V (.Dict [] [] p) fr out σ (.ref σ.length) (σ++[.dict []]):=fun env A s ρ Q E F R O k=>by
 refine wpAny_Dict_empty ?_
 refine k _ _ _ s.toks (bw R rfl fun h' e=>⟨[],?_,?_,.nil,Nat.zero_le _⟩) (cp _ R.len)
 ·obtain ⟨_,_,_,_,t⟩:=T.T
  exact beq_eq_false_iff_ne.mpr (Nat.ne_of_gt (modules_low (t.nolimit.keeps R.base)))
 ·obtain ⟨o,ho,hd⟩:=Heap.dictOf_iff.mp (Heap.DictOf.new (knd:=intKind W.prog W.w) s.heap)
  rw [Heap.get?_push_size _ rfl] at ho
  exact Heap.dictOf_iff.mpr ⟨_,e,(Option.some.inj ho) ▸ hd⟩
end
end Mine
namespace Mine
open PySem PySem.W PyProof.Rows PySem.Calls Builtin Builtin.ObjectAttr
section
variable {W:Wd} {K:Frag} {A:Around} {E:Value→Shared→Prop} {s:Shared} {x C dx:Addr} {ox:Obj} {es:List DictEntry} {n:Nat} {name:Str} {v:Value}
theorem mr {tk:Tok} {R:Result→Shared→Prop} (X:K.In s.heap) (I:InstAt s.heap x ox C (some (dictOf es n))) (hd:ox.dict=some dx) (D:s.heap.get? dx=some (dictOf es n))
  (hp:plainOver K C=true) (ht:takerIn K C name=some none) (hh:hasDictIn K C=true) (hr:es.any (·.refKey)=false)
  (hz:(putL name (PyData.keyHash W.w.params name) (.str name s.toks) v es).length≤1000)
  (h:R (.ok (.ret .none)) { s with heap:=s.heap.update dx (Obj.putName name (PyData.keyHash W.w.params name) (.str name s.toks) v),toks:=s.toks+1 }) :
  codeAny (model W.prog W.w) A (.call (.builtin "object.__setattr__") ⟨[.ref x,.str name tk,v],[]⟩) R s:=by
 refine osa_open X I hp ht fun b=>?_
 obtain ⟨cd,hc,hd'⟩:=any_some hh
 obtain ⟨hx,hcl,hn,-⟩:=I
 obtain ⟨oc,odi,oda,osl⟩:=ox
 dsimp only at hcl hd
 subst hcl hd
 refine wpAny_bind (wpAny_pure (wpAny_bind (wpAny_bind (wpAny_loadPart hx (wpAny_bind ((looks_clsIn X hc).here ?_))))))
 rw [hd']
 refine wpAny_pure (a:=some dx) (wpAny_bind (wpAny_pure (wpAny_bind ?_)))
 unfold nsSet
 refine wpAny_bind (wpAny_bind (wpAny_askSetting (wpAny_pure (wpAny_bind (wpAny_mkText (wpAny_bind (wpAny_loadPart D ?_)))))))
 dsimp only
 have c:(!es.toArray.any (·.key.isStr name) && es.toArray.any (·.refKey))=false:=by
  rw [← Array.any_toList,← Array.any_toList]
  show (!es.any _ && es.any _)=false
  rw [hr,Bool.and_false]
 rw [aRefKeyMayBeTheName_at,c]
 refine wpAny_updatePart D ?_
 have D':(s.heap.update dx (Obj.putName name (PyData.keyHash W.w.params name) (.str name s.toks) v)).get? dx=some (Obj.putName name (PyData.keyHash W.w.params name) (.str name s.toks) v (dictOf es n)) :=
  Heap.get?_update_self _ D (by rw [putName_dict];rfl)
 refine wpAny_bind (wpAny_lookBehind D' (by rw [putName_dict];exact pastItsLine_dict (by rw [List.size_toArray,sizeLine_eq];exact aa [_] [] (.leN N0 (.a (.k 16777216) (.k 1))) (.leN N0 (.k 1000)) [1,1] rfl hz)) ?_)
 exact wpAny_pure h
theorem gi {Q:Unit→Shared→Prop} (X:K.In s.heap) (I:InstAt s.heap x ox C (some (dictOf es n))) (hd:ox.dict=some dx) (D:s.heap.get? dx=some (dictOf es n))
  (hs:findIn K (.ref C) "__setattr__"=some (some (.builtin "object.__setattr__"))) (hp:plainOver K C=true) (ht:takerIn K C name=some none) (hh:hasDictIn K C=true) (hr:es.any (·.refKey)=false)
  (hz:(putL name (PyData.keyHash W.w.params name) (.str name (s.toks+1)) v es).length≤1000)
  (h:Q () { s with heap:=s.heap.update dx (Obj.putName name (PyData.keyHash W.w.params name) (.str name (s.toks+1)) v),toks:=s.toks+2 }) :
  wpAny (model W.prog W.w) A (setAttr (.ref x) name v) Q E s :=
 set_plain X I hs (mr (s:={ s with toks:=s.toks+1 }) X I hd D hp ht hh hr hz h)
end
theorem dR:∀ {l:List Str},ndS l=true→l.Nodup:=by
 intro l
 induction l with
 | nil=>intro _;exact .nil
 | cons a r ih =>
  intro h
  unfold ndS at h
  rw [Bool.and_eq_true,Bool.not_eq_true',← Bool.not_eq_true,List.contains_iff_mem] at h
  exact List.nodup_cons.mpr ⟨h.1,ih h.2⟩
theorem cq {α:Type} (d:α):∀ (l:List α) (n:Nat),l[n]?=some (nth l n d)∨(l.length≤n∧nth l n d=d):=by
 intro l
 induction l with
 | nil=>intro n;exact .inr ⟨Nat.zero_le _,rfl⟩
 | cons a r ih =>
  intro n
  cases n with
  | zero=>exact .inl rfl
  | succ n=>exact (ih n).imp (fun h=>h) fun h=>⟨Nat.succ_le_succ h.1,h.2⟩
theorem g9:ndS nmT=true∧nmT.all (fun s=>s.cps.all fun c=>decide (c<1200000))=true:=by decide +kernel
theorem jz {f g:Nat} (h:nmS f=nmS g):f=g:=by
 have small:∀ {n m:Nat},nmT[n]?=some (⟨#[1200000+m]⟩:Str)→False:=fun {n m} e=>by
  have:=List.all_eq_true.mp g9.2 _ (List.mem_of_getElem? e)
  have:1200000+m<1200000:=by simpa using this
  exact aa [_] [] .f (.ltN (.a (.k 1200000) N0) (.k 1200000)) [0,1] rfl this
 unfold nmS at h
 rcases cq ⟨#[1200000+f]⟩ nmT f with a | ⟨_,a⟩ <;> rcases cq ⟨#[1200000+g]⟩ nmT g with b | ⟨_,b⟩
 ·exact (List.getElem?_inj (List.getElem?_eq_some_iff.mp a).1 (dR g9.1)).mp (a.trans ((congrArg some h).trans b.symm))
 ·rw [h,b] at a;exact (small a).elim
 ·rw [← h,a] at b;exact (small b).elim
 ·rw [a,b] at h
  have:1200000+f=1200000+g:=by simpa using h
  exact aK [_,_] [] (.eqN N0 N1) (.eqN (.a (.k 1200000) N0) (.a (.k 1200000) N1)) [1,1] [1,-1] rfl this
theorem cU {f g:Nat} {t:Tok}:(Value.str (nmS f) t).isStr (nmS g)=decide (f=g):=by
 show (nmS f == nmS g)=_
 by_cases h:f=g
 ·subst h;simp
 ·rw [decide_eq_false h];exact beq_eq_false_iff_ne.mpr fun q=>h (jz q)
noncomputable def GetR (ρ:Rho) (f:Nat) (es:List DictEntry):Option AV→Prop
 | some a=>∃ v,getL (nmS f) es=some (some v)∧VR ρ a v
 | none=>getL (nmS f) es=some none
theorem hH {ρ:Rho} {f:Nat} {fs:List (Nat×AV)} {es:List DictEntry} (h:FR ρ fs es):GetR ρ f es (fs.lookup f):=by
 induction h with
 | nil=>rfl
 | @cons q e r es hq hr ih =>
  obtain ⟨⟨t,hk⟩,hv⟩:=hq
  rw [List.lookup_cons]
  by_cases h:f=q.1
  ·rw [show (f == q.1)=true from beq_iff_eq.mpr h]
   refine ⟨e.val,?_,hv⟩
   unfold getL
   rw [List.find?_cons,hk,h,cU,decide_eq_true rfl]
  ·rw [show (f == q.1)=false from beq_eq_false_iff_ne.mpr h]
   have hn:e.key.isStr (nmS f)=false:=by rw [hk,cU];exact decide_eq_false fun q=>h q.symm
   have hq:getL (nmS f) (e::es)=getL (nmS f) es:=by
    unfold getL
    rw [List.find?_cons,hn]
    dsimp only
    rw [List.any_cons,show e.refKey=false from by rw [DictEntry.refKey,hk],Bool.false_or]
   dsimp only
   cases q:r.lookup f with
   | none=>rw [q] at ih;exact hq.trans ih
   | some a=>rw [q] at ih;obtain ⟨v,z⟩:=ih;exact ⟨v,hq.trans z.1,z.2⟩
theorem hJ {ρ:Rho} {fs:List (Nat×AV)} {es:List DictEntry} (h:FR ρ fs es):es.any (·.refKey)=false:=by
 induction h with
 | nil=>rfl
 | cons hq _ ih=>obtain ⟨⟨t,hk⟩,_⟩:=hq;rw [List.any_cons,ih,DictEntry.refKey,hk];rfl
theorem kT {ρ:Rho} {f:Nat} {a:AV} {v:Value} {hsh:Int} {t:Tok} (hv:VR ρ a v) {fs:List (Nat×AV)} {es:List DictEntry} (h:FR ρ fs es):FR ρ (putF fs f a) (putL (nmS f) hsh (.str (nmS f) t) v es):=by
 induction h with
 | nil=>exact .cons ⟨⟨t,rfl⟩,hv⟩ .nil
 | @cons q e r es hq hr ih =>
  obtain ⟨g,b⟩:=q
  obtain ⟨⟨u,hk⟩,hb⟩:=hq
  unfold putF putL
  rw [hk,cU]
  by_cases h:g=f
  ·rw [if_pos h,if_pos (decide_eq_true h)]
   exact .cons ⟨⟨u,rfl⟩,hv⟩ hr
  ·rw [if_neg h,if_neg (by simpa using h)]
   exact .cons ⟨⟨u,hk⟩,hb⟩ ih
theorem hO {f:Nat} {a:AV} {fs:List (Nat×AV)}:(putF fs f a).length≤fs.length+1:=by
 induction fs with
 | nil=>exact Nat.le_refl _
 | cons q r ih=>unfold putF;split <;> simp only [List.length_cons] <;> omega
theorem dB {f:Nat} {a:AV} {fs:List (Nat×AV)}:(putF fs f a).map (·.1)=if f∈fs.map (·.1) then fs.map (·.1) else fs.map (·.1)++[f]:=by
 induction fs with
 | nil=>rfl
 | cons q r ih =>
  obtain ⟨g,b⟩:=q
  unfold putF
  by_cases h:g=f
  ·subst h;simp
  ·rw [if_neg h]
   show g::(putF r f a).map (·.1)=if f∈g::r.map (·.1) then g::r.map (·.1) else g::r.map (·.1)++[f]
   rw [ih]
   have hf:¬ f=g:=fun e=>h e.symm
   by_cases hm:f∈r.map (·.1)
   ·rw [if_pos hm,if_pos (List.mem_cons_of_mem _ hm)]
   ·rw [if_neg hm,if_neg (fun w=>by rcases List.mem_cons.mp w with e | e;exact hf e;exact hm e)];rfl
theorem hU {f:Nat} {a:AV} {fs:List (Nat×AV)} {q} (h:q∈putF fs f a):q.1=f∨∃ b,(q.1,b)∈fs:=by
 have h:=List.mem_map_of_mem (f:=(·.1)) h
 rw [dB] at h
 have fin:q.1∈fs.map (·.1)→∃ b,(q.1,b)∈fs:=fun m=>by obtain ⟨y,hy,e⟩:=List.mem_map.mp m;exact ⟨y.2,by rw [← e];exact hy⟩
 split at h
 ·exact .inr (fin h)
 ·rcases List.mem_append.mp h with h | h
  ·exact .inr (fin h)
  ·exact .inl (List.mem_singleton.mp h)
theorem eW {f:Nat} {a:AV} {fs:List (Nat×AV)} (h:(fs.map (·.1)).Nodup):((putF fs f a).map (·.1)).Nodup:=by
 rw [dB]
 split
 ·exact h
 ·rename_i hm
  exact List.nodup_append.mpr ⟨h,by simp,fun a ha b hb e=>hm (by rw [← List.mem_singleton.mp hb,← e];exact ha)⟩
structure FieldOK (K:Frag) (C:Addr) (n:Str):Prop where
 pg:plainGet K C n=true
 hd:hasDictIn K C=true
 attr:∃ a,findIn K (.ref C) n=some a∧noGet K a=true
 st:findIn K (.ref C) "__setattr__"=some (some (.builtin "object.__setattr__"))
 po:plainOver K C=true
 tk:takerIn K C n=some none
theorem bN {x:Expr} (h:basePlain x=true) (a:Str) (env:Env) (t:Sem Value):attributeBase x a env t=t:=by
 cases x with
 | Call f args kws p =>
  cases args with
  | cons=>cases f <;> exact Eq.refl t
  | nil =>
   cases f with
   | Name=>exact fT h
   | _=>exact Eq.refl t
 | _=>exact Eq.refl t
theorem gj {ρ:Rho} {a:AV} {v:Value} (r:VR ρ a v):handedIn v=true:=by
 cases a with
 | none=>cases r;rfl
 | opq=>exact r
 | bool b=>cases r;rfl
 | int i=>(apply aA r;intro t);rfl
 | str l=>obtain ⟨x,t,rfl,_⟩:=r;rfl
 | ref i=>obtain ⟨p,_,rfl⟩:=r;rfl
structure Flds (W:Wd) (K:Frag):Prop where
 fld:∀ c,∀ f∈ftab c,FieldOK K (W.ca c) (nmS f)
section
variable {W:Wd} {h₀:Heap} {K:Frag} {d:Nat} {V:Cx} {fr out:Fm} {σ σ1 σ2:Hp} {x:Expr} {p:Pos} {a b r:AV} {f:Nat}
theorem hV {ρ:Rho} {h:Heap} {i:Nat} {c:Nat} {fs:List (Nat×AV)} (R:Rel W h₀ ρ σ h) (e:σ[i]?=some (.inst c fs)) :
  ∃ p dx es n,ρ[i]?=some p∧p.2=some dx∧InstAt h p.1 (instObj (W.ca c) dx) (W.ca c) (some (dictOf es n))∧h.get? dx=some (dictOf es n)∧FR ρ fs es∧fs.length≤100∧(∀ q∈fs,q.1∈ftab c)∧(fs.map (·.1)).Nodup:=by
 refine cps fun _ hG=>?_
 obtain ⟨p,hp,dx,es,n,a,b,cc,r⟩:=R.objs i _ e
 refine hG ?_
 clear hG
 exact ⟨p,dx,es,n,hp,a,⟨b,rfl,rfl,cc⟩,cc,r⟩
theorem cr {ρ:Rho} {h:Heap} {i:Nat} {c:Nat} {fs:List (Nat×AV)} {P:Prop} (R:Rel W h₀ ρ σ h) (e:σ[i]?=some (.inst c fs))
  (k:∀ p dx es n,ρ[i]?=some p→p.2=some dx→InstAt h p.1 (instObj (W.ca c) dx) (W.ca c) (some (dictOf es n))→h.get? dx=some (dictOf es n)→FR ρ fs es→fs.length≤100→(∀ q∈fs,q.1∈ftab c)→(fs.map (·.1)).Nodup→P):P:=by
 obtain ⟨p,dx,es,n,a,b,c1,c2,c3,c4,c5,c6⟩:=hV R e;exact k p dx es n a b c1 c2 c3 c4 c5 c6
theorem eX {fs:List (Nat×AV)} (h:fs.lookup f=some a):(f,a)∈fs:=by
 induction fs with
 | nil=>exact nS h
 | cons q r ih =>
  rw [List.lookup_cons] at h
  split at h
  ·rename_i e;apply s1Q h;rw [beq_iff_eq.mp e];exact .head _
  ·exact .tail _ (ih h)
set_option tactic.hygienic true in
theorem hY {A:Around} {s:Shared} {ρ:Rho} {v:Value} {ex:Bool} {Q:Value→Shared→Prop} {E:Value→Shared→Prop} (T:Top2 K h₀) (B:Flds W K) (R:Rel W h₀ ρ σ s.heap) (ra:VR ρ a v)
  (e:attrV σ a f=some r) (k:OkV W h₀ σ ρ s [] r Q):wpAny (model W.prog W.w) A (getAttr v (nmS f) ex) Q E s:=by
 cases a with
 | ref i =>
  unfold attrV at e
  dsimp only at e
  split at e
  ·rename_i c fs hi
   (apply cr R hi;intro p dx es n hp h2 I D fr _ hm _)
   apply av ra hp
   have g:=hH (f:=f) fr
   rw [e] at g
   obtain ⟨w',g1,g2⟩:=g
   have o:=B.fld c f (hm _ (eX e))
   obtain ⟨at',a1,a2⟩:=o.attr
   exact get_value (T.X.keeps R.base) I (plainGet_of o.pg).1 (findObj_own o.hd a1 a2 g1) (gj g2) (k.now R g2)
  ·exact nS e
 | _=>exact nS e
theorem SE.attr (T:Top2 K h₀) (B:Flds W K) (hb:basePlain x=true) (he:SE W h₀ d V x fr out σ a σ1) (ha:attrV σ1 a f=some r):SE W h₀ d V (.Attribute x (nmS f) p) fr out σ r σ1:=fun env A s ρ Q E F R O k=>by
 show wpAny _ A (do
  let o ← attributeBase x (nmS f) env (eval x env)
  standAt p.atName
  let r ← holding [o] (getAttr o (nmS f) true)
  letTemporaryGo x o r
  pure r) Q E s
 rw [bN hb]
 refine wpAny_bind (he F R O fun ρ1 v h1 tk P r1=>wpAny_bind (wpAny_standAt (wpAny_bind (wpAny_holding ?_))))
 refine hY T B P.rel r1 ha fun ρ2 v2 h2 tk2 P2 r2=>?_
 exact wpAny_bind (wpAny_letTemporaryGo (wpAny_pure (k _ _ _ _ (P.trans P2) r2)))
set_option tactic.hygienic true in
theorem eY {A:Around} {s:Shared} {ρ:Rho} {v u:Value} {σ':Hp} {Q:Unit→Shared→Prop} {E:Value→Shared→Prop} (T:Top2 K h₀) (B:Flds W K) (R:Rel W h₀ ρ σ s.heap) (ra:VR ρ a v) (rb:VR ρ b u)
  (e:attrSet σ a f b=some σ') (k:∀ h' tk,Post W h₀ [] ρ ρ σ' s.heap h'→Q () ⟨h',s.gens,s.drawn,tk,s.os⟩):wpAny (model W.prog W.w) A (setAttr v (nmS f) u) Q E s:=by
 cases a with
 | ref i =>
  unfold attrSet at e
  dsimp only at e
  split at e
  ·rename_i c fs hi
   split at e
   ·rename_i hc
    (revert k;apply s1Q e;intro k)
    obtain ⟨hf,hl⟩:=hc
    (apply cr R hi;intro p dx es n hp h2 I D fr _ hm nd)
    apply av ra hp
    have hf':f∈ftab c:=List.contains_iff_mem.mp hf
    have o:=B.fld c f hf'
    have hput:=fun t=>kT (f:=f) (hsh:=PyData.keyHash W.w.params (nmS f)) (t:=t) rb fr
    have hz:(putF fs f b).length≤100:=by have:=hO (f:=f) (a:=b) (fs:=fs);exact ag [_,_] [] (.leN N0 (.k 100)) (.ltN N1 (.k 100)) (.leN N0 (.a N1 (.k 1))) [1,1,1] rfl hl this
    refine gi (T.X.keeps R.base) I rfl D o.st o.po o.tk o.hd (hJ fr) (by rw [← (hput _).length];exact aa [_] [] (.leN N0 (.k 1000)) (.leN N0 (.k 100)) [1,1] rfl hz) (k _ _ (Post.upd (a:=dx) R hp (by unfold adr;rw [h2];exact .tail _ (.head _)) (fun b' q=>Heap.get?_update_ne _ _ _ _ q) (Heap.get?_update_self _ D (by rw [putName_dict];rfl)) ?_))
    ·have D':(s.heap.update dx (Obj.putName (nmS f) (PyData.keyHash W.w.params (nmS f)) (.str (nmS f) (s.toks+1)) u)).get? dx=some (Obj.putName (nmS f) (PyData.keyHash W.w.params (nmS f)) (.str (nmS f) (s.toks+1)) u (dictOf es n)) :=
      Heap.get?_update_self _ D (by rw [putName_dict];rfl)
     rw [putName_dict] at D'
     have hx:p.1≠dx:=by
      intro q
      have h1:=I.at_
      rw [q,D] at h1
      cases h1
     refine ⟨dx,_,_,h2,(Heap.get?_update_ne _ _ _ _ hx).trans I.at_,D',hput _,hz,fun q hq=>?_,eW nd⟩
     rcases hU hq with e' | ⟨b',m⟩
     ·rw [e'];exact hf'
     ·exact hm (q.1,b') m
   ·exact nS e
  ·exact nS e
 | _=>exact nS e
theorem OkF.of {α:Type} {env:Env} {σ':Hp} {ρ ρ':Rho} {s:Shared} {h':Heap} {tk:Nat} {R:Rho→α→Prop} {Q:α→Shared→Prop} {v:α} (k:OkF W h₀ V env out fr σ' ρ s R Q) (F:EnvR h₀ V env ρ s.heap fr out) (P:Post W h₀ [] ρ ρ' σ' s.heap h') (r:R ρ' v) :
  Q v ⟨h',s.gens,s.drawn,tk,s.os⟩:=k ρ' v h' tk P.more (F.post P) r
theorem SA.attr (T:Top2 K h₀) (B:Flds W K) (he:SE W h₀ d V x fr out σ a σ1) (hs:attrSet σ1 a f b=some σ2):SA W h₀ d V (.Attribute x (nmS f) p) b fr out σ fr σ2:=fun env A s ρ Q E v F R O rb k=>by
 rw [arm_assign_Attribute]
 refine wpAny_bind (wpAny_holding (he F R O fun ρ1 u h1 tk P r1=>wpAny_bind (wpAny_standAt (wpAny_bind (wpAny_holding ?_)))))
 refine eY T B P.rel r1 (rb.mono P.pre) hs fun h2 tk2 P2=>?_
 exact wpAny_release (k.of F (P.trans P2) trivial)
end
end Mine
namespace Mine
open PySem PySem.W PyProof.Rows PySem.Calls
theorem fF {n:Nat} {i:Int} {k:Nat} (h:ixN n i=some k) (hn:n≤LIM):seqIndex? i n=some k∧-(2 ^ 63)≤i∧i<2 ^ 63:=by
 have hb:n≤10000:=hn
 unfold ixN at h
 unfold seqIndex?
 split at h
 ·rename_i h0
  split at h <;> (first | exact nS h | apply s1Q h)
  rename_i h1
  simp only [show ¬ i<0 by exact aa [] [_] (.n (.ltI J0 (.k 0))) (.leI (.k 0) J0) [1,1] rfl h0,if_false]
  refine ⟨?_,by omega,by omega⟩
  rw [if_pos (by simp only [Bool.and_eq_true,decide_eq_true_eq];exact I2 (h0) (h1))]
 ·rename_i h0
  split at h <;> (first | exact nS h | apply s1Q h)
  rename_i h1
  simp only [show i<0 by exact aa [] [_] (.ltI J0 (.k 0)) (.n (.leI (.k 0) J0)) [1,1] rfl h0,if_true]
  refine ⟨?_,by omega,by omega⟩
  rw [if_pos (by simp only [Bool.and_eq_true,decide_eq_true_eq];exact I2 (h1) (aa [_] [_] (.ltI (.a J0 (.c N0)) (.c N0)) (.n (.leI (.k 0) J0)) [1,1] rfl h0))]
section
variable {W:Wd} {h₀:Heap} {d:Nat} {V:Cx} {fr out:Fm} {σ σ1 σ2:Hp} {p:Pos} {x y:Expr} {a i r:AV}
theorem gk (h:tame y=true) (o v:Value):subscripted y false o v=operate [o,v] (getItem o v):=by
 cases y <;> first | rfl | exact fT h
theorem dq {A:Around} {s:Shared} {l:Addr} {items:Array Value} {i:Int} {t:Tok} {k:Nat} {x:Value} {Q:Value→Shared→Prop} {E:Value→Shared→Prop} (hl:s.heap.IsList l items) (hk:ixN items.size i=some k) (hn:items.size≤LIM)
  (hx:items[k]?=some x) (h:Q x s):wpAny (model W.prog W.w) A (getItem (.ref l) (.int i t)) Q E s:=by
 have hb:items.size≤10000:=hn
 unfold ixN at hk
 split at hk
 ·rename_i h0
  split at hk <;> (first | exact nS hk | cases hk)
  exact wpAny_getItem_list hl h0 (by omega) hx h
 ·rename_i h0
  split at hk <;> (first | exact nS hk | cases hk)
  exact wpAny_getItem_list_neg hl (by exact aa [] [_] (.ltI J0 (.k 0)) (.n (.leI (.k 0) J0)) [1,1] rfl h0) (by exact aa [_] [_] (.leI (.g (.c N0)) J0) (.leI (.k 0) (.a J0 (.c N0))) [1,1] rfl (by assumption)) (by omega) hx h
theorem kU {ρ:Rho} {k:Int} {es:List (Int×AV)} {kvs:List (Int×Value)} (h:DR ρ es kvs) (e:es.lookup k=some a):∃ v,valueAt kvs k=some v∧VR ρ a v:=by
 induction h with
 | nil=>exact nS e
 | @cons q q' r r' hq hr ih =>
  obtain ⟨j,b⟩:=q;obtain ⟨j',v⟩:=q'
  obtain ⟨e',hv⟩:=hq
  have e':j=j':=e'
  subst e'
  rw [List.lookup_cons] at e
  unfold valueAt
  rw [List.find?_cons]
  by_cases q:k=j
  ·subst q
   simp only [beq_self_eq_true] at e
   apply s1Q e
   exact ⟨v,by simp,hv⟩
  ·rw [show (k == j)=false from beq_eq_false_iff_ne.mpr q] at e
   rw [show decide (j=k)=false from decide_eq_false fun z=>q z.symm]
   exact ih e
theorem jA {A:Around} {s:Shared} {ρ:Rho} {va vi:Value} {vx z:Expr} {Q:Value→Shared→Prop} {E:Value→Shared→Prop} (R:Rel W h₀ ρ σ s.heap) (ra:VR ρ a va) (ri:VR ρ i vi)
  (hs:∀ o v,subscripted z false o v=operate [o,v] (getItem o v)) (e:idxV σ a i=some r) (k:OkV W h₀ σ ρ s [] r Q):wpAny (model W.prog W.w) A (subscriptTail vx z va vi) Q E s:=by
 cases i with
 | int i =>
  (apply aA ri;intro t)
  cases a with
  | ref a =>
   unfold idxV at e
   dsimp only at e
   cases hi:σ[a]? with
   | none=>rw [hi] at e;exact nS e
   | some o =>
    rw [hi] at e
    cases o with
    | list xs =>
     obtain ⟨j,hj,hx⟩:=Option.bind_eq_some_iff.mp (show (ixN xs.length i).bind (xs[·]?)=some r from e)
     (apply am R hi;intro p its n e1 e2 e3 hz)
     apply av ra e1
     obtain ⟨v,hv,rv⟩:=bT e3 hx
     exact tail_any (aE e2).typeIs slot_list_getitem.lookup (dq (aE e2) (by rw [an e3];exact hj) (by rw [an e3];exact hz) (by simpa using hv) (k.now R rv)) (hs _ _)
    | tup xs =>
     obtain ⟨j,hj,hx⟩:=Option.bind_eq_some_iff.mp (show (ixN xs.length i).bind (xs[·]?)=some r from e)
     (apply a9 R hi;intro p its n e1 e2 e3 hz)
     apply av ra e1
     obtain ⟨v,hv,rv⟩:=bT e3 hx
     obtain ⟨q1,q2,q3⟩:=fF hj hz
     exact tail_any (a7 e2).typeIs F.slot_tuple_getitem.lookup (getItem_tuple (a7 e2) q2 q3 (by rw [an e3];exact q1) (by simpa using hv) (k.now R rv)) (hs _ _)
    | dict es =>
     refine cps fun _ hG=>?_
     obtain ⟨p,hp,kvs,lo,hd,hr,_⟩:=R.objs _ _ hi
     refine hG ?_
     clear hG
     apply av ra hp
     obtain ⟨v,hv,rv⟩:=kU hr e
     exact tail_any hd.typeIs slot_dict_getitem.lookup (wpAny_getItem_of (intKind_is W.prog W.w _ t) (Heap.DictOf.mapOf hd) hv (k.now R rv)) (hs _ _)
    | _=>exact nS e
  | str l =>
   obtain ⟨x,u,rfl,hx⟩:=ra
   unfold idxV at e
   dsimp only at e
   split at e
   ·rename_i hl
    obtain ⟨j,hj,hc⟩:=Option.bind_eq_some_iff.mp e
    obtain ⟨c,hc',rfl⟩:=Option.map_eq_some_iff.mp hc
    obtain ⟨q1,q2,q3⟩:=fF hj hl
    refine tail_any (typeIs_str _ _ _) F.slot_str_getitem.lookup (PySem.P.getItem_str (c:=c) ?_ ?_ (k.now R ⟨_,_,rfl,rfl⟩)) (hs _ _)
    ·simp only [Bool.or_eq_false_iff,decide_eq_false_iff_not];exact I2 (aa [] [_,_] (.n (.ltI J0 (.g J1))) (.leI (.g J1) J0) [1,1] rfl q2) (aa [] [_,_] (.n (.leI J0 J1)) (.ltI J1 J0) [1,1] rfl q3)
    ·rw [bH hx,q1,Option.bind_some,← Array.getElem?_toList,hx];exact hc'
   ·exact nS e
  | _=>exact nS e
 | _=>exact nS e
theorem SE.idx (ha:SE W h₀ d V x fr out σ a σ1) (hi:SE W h₀ d V y fr out σ1 i σ2) (ns:tame y=true) (e:idxV σ2 a i=some r):SE W h₀ d V (.Subscript x y p) fr out σ r σ2:=fun _ _ _ _ _ _ F R O k =>
 Subscript_ (ha F R O fun ρ1 v h1 tk P r1=>hi (F.post P) P.rel O fun ρ2 v2 h2 tk2 P2 r2 =>
  jA P2.rel (r1.mono P2.pre) r2 (gk ns) e (((k.step (tk:=tk) P)).step (s:=⟨h1,_,_,tk,_⟩) (tk:=tk2) P2))
end
section
variable {W:Wd} {h₀:Heap} {d:Nat} {V:Cx} {fr out:Fm} {σ σ1 σ2 σ3 σ4:Hp} {p q:Pos} {x:Expr} {lo hi:Option Expr} {va vl vh r:AV}
noncomputable def optI:AV→Option (Option Int) | .none=>some none | .int i=>some (some i) | _=>none
theorem cV {n dflt:Nat} {v:AV} {k:Nat} (h:boundI n dflt v=some k):∃ i,optI v=some i∧i.elim dflt (adj n)=k:=by
 cases v with
 | none=>apply s1Q h;exact ⟨none,rfl,rfl⟩
 | int i=>apply s1Q h;exact ⟨some _,rfl,rfl⟩
 | _=>exact nS h
theorem cW {α:Type} {xs ys:List α} (e:sliceL xs vl vh=some ys):∃ li hi:Option Int,optI vl=some li∧optI vh=some hi∧ys=(xs.drop (li.elim 0 (adj xs.length))).take (hi.elim xs.length (adj xs.length) - li.elim 0 (adj xs.length)):=by
 unfold sliceL at e
 cases h1:boundI xs.length 0 vl with
 | none=>rw [h1] at e;exact nS e
 | some s =>
  cases h2:boundI xs.length xs.length vh with
  | none=>rw [h1,h2] at e;exact nS e
  | some t =>
   rw [h1,h2] at e
   apply s1Q e
   obtain ⟨li,a,rfl⟩:=cV h1
   obtain ⟨hi,b,rfl⟩:=cV h2
   exact ⟨li,hi,a,b,rfl⟩
theorem cX (n:Nat) (i:Int):adj n i=clipAt n i:=by
 refine Int.ofNat.inj (Eq.trans ?_ (clipAt_cast n i).symm)
 unfold adj
 by_cases hi:i<0
 ·rw [if_pos hi,if_pos hi,Int.min_eq_left (by exact aa [_] [_] (.leI (.a J0 (.c N0)) (.c N0)) (.ltI J0 (.k 0)) [1,1] rfl hi),Int.max_comm]
  exact Int.toNat_eq_max _
 ·rw [if_neg hi,if_neg hi]
  show ((min i.toNat n:Nat):Int)=_
  rw [gU,Int.toNat_of_nonneg (Int.not_lt.mp hi),Int.max_eq_right]
  exact Int.le_min.mpr ⟨Int.not_lt.mp hi,Int.natCast_nonneg n⟩
theorem bX {ρ:Rho} {a:AV} {v:Value} {i:Option Int} (r:VR ρ a v) (h:optI a=some i):IsPart v i:=by
 cases a with
 | none=>apply s1Q h;cases r;exact .none
 | int i=>apply s1Q h;(apply aA r;intro t);exact .int _ t
 | _=>exact nS h
noncomputable def PartE (W:Wd) (h₀:Heap) (d:Nat) (V:Cx) (fr out:Fm) (σ:Hp) (y:Option Expr) (a:AV) (σ':Hp):Prop:=match y with
 | none=>a=.none∧σ'=σ
 | some x=>SE W h₀ d V x fr out σ a σ'
theorem cA {y:Option Expr} {a:AV} {env:Env} {A:Around} {s:Shared} {ρ:Rho} {Q:Value→Shared→Prop} {E:Value→Shared→Prop}
  (hl:PartE W h₀ d V fr out σ y a σ1) (F:EnvR h₀ V env ρ s.heap fr out) (R:Rel W h₀ ρ σ s.heap) (O:Room d A) (k:OkV W h₀ σ1 ρ s [] a Q):wpAny (model W.prog W.w) A (evalPart y env) Q E s:=by
 cases y with
 | none=>(revert k;apply eQ2 hl;intro k);exact wpAny_pure (k.now R (tk:=s.toks) rfl)
 | some x=>exact hl F R O k
theorem eh {x:Str} {l:List Nat} {t:Tok} {lo hi:Option Int} {tl th:Tok} {s' e:Nat} {s:Shared} {Q:Value→Shared→Prop} (hx:x.cps.toList=l) (h1:lo.elim 0 (adj l.length)=s') (h2:hi.elim l.length (adj l.length)=e) (hz:l.length≤LIM)
  (k:∀ y u tk,y.cps.toList=(l.drop s').take (e - s')→Q (.str y u) ⟨s.heap,s.gens,s.drawn,tk,s.os⟩):(sliceMade x t (lo.map (·,tl)) (hi.map (·,th)) Option.none).post Q s:=by
 have ae:∀ n,adj n=clipAt n:=fun n=>funext (cX n)
 have hp:slicePicked x (lo.map (·,tl)) (hi.map (·,th)) Option.none=(List.range (e - s')).map (s'+·):=by
  have hb:=sliceBounds_plain lo hi l.length
  rw [ae] at h1 h2
  rw [h1,h2] at hb
  rw [← sliceRange_one,← bH hx] at *
  have:slicePicked x (lo.map (·,tl)) (hi.map (·,th)) Option.none=sliceRange (sliceBounds lo hi Option.none x.length).1 (sliceBounds lo hi Option.none x.length).2.1 (sliceBounds lo hi Option.none x.length).2.2:=by
   unfold slicePicked
   cases lo <;> cases hi <;> rfl
  rw [this,hb]
 unfold sliceMade
 rw [hp]
 have hle:e≤l.length:=by
  subst h2
  cases hi with
  | none=>exact Nat.le_refl _
  | some i =>
   show adj l.length i≤l.length
   rw [cX];have:=clipAt_cast l.length i;omega
 split
 ·rename_i hc
  have hn:e - s'=l.length:=by simpa [bH hx] using hc
  refine k x t s.toks ?_
  rw [hx]
  have h0:s'=0∨l.length=0:=by omega
  rcases h0 with h0 | h0
  ·rw [hn,h0];simp
  ·have:l=[]:=List.length_eq_zero_iff.mp h0
   subst this;simp
 ·have hq:((List.range (e - s')).map (s'+·)).filterMap (x.cps[·]?)=(l.drop s').take (e - s'):=by
   rw [pick_run,hx]
  refine ⟨?_,k _ _ _ (by rw [hq])⟩
  show (List.toArray _).size≤sizeLine
  rw [hq,List.size_toArray,List.length_take,List.length_drop]
  exact ay (Nat.le_trans (Nat.le_trans (Nat.min_le_right _ _) (Nat.sub_le _ _)) hz)
theorem cY {v:Value} {i:Option Int} (h:IsPart v i):∃ t,v=partValue (i.map (·,t)):=by
 cases h with
 | none=>exact ⟨0,rfl⟩
 | int i t=>exact ⟨t,rfl⟩
set_option tactic.hygienic true in
theorem ia {ρ:Rho} {σ:Hp} {h:Heap} {i:Nat} {xs:List AV} (R:Rel W h₀ ρ σ h) (e:readL σ i=some xs):∃ p its,ρ[i]?=some p∧h.IsList p.1 its∧VRs ρ xs its.toList∧xs.length≤LIM:=by
 unfold readL at e
 split at e
 ·rename_i o ho
  apply s1Q e
  refine cps fun _ hG=>?_
  obtain ⟨p,its,n,a,b,c⟩:=ed R ho
  refine hG ?_
  clear hG
  exact ⟨p,its,a,aE b,c⟩
 ·rename_i xs ho
  apply s1Q e
  refine cps fun _ hG=>?_
  obtain ⟨p,hp,a,u,its,n,b,c,z⟩:=R.objs i _ ho
  refine hG ?_
  clear hG
  exact ⟨p,its,hp,⟨_,a,u,n,b⟩,fE c,by rw [List.length_map];exact z⟩
 ·exact nS e
theorem SE.slice (ha:SE W h₀ d V x fr out σ va σ1) (hl:PartE W h₀ d V fr out σ1 lo vl σ2) (hh:PartE W h₀ d V fr out σ2 hi vh σ3)
  (e:sliceV σ3 va vl vh=some (r,σ4)):SE W h₀ d V (.Subscript x (.Slice lo hi Option.none q) p) fr out σ r σ4:=fun env A s ρ Q E F R O k=>by
 refine Subscript_ (ha F R O fun ρ1 v1 h1 tk1 P1 r1=>wpAny_Slice ?_)
 refine cA hl (F.post P1) P1.rel O fun ρ2 v2 h2 tk2 P2 r2=>?_
 have P2':=P1.trans P2
 refine cA hh (F.post P2') P2.rel O fun ρ3 v3 h3 tk3 P3 r3=>?_
 have P3':=P2'.trans P3
 rw [evalPart_none]
 refine wpAny_pure ?_
 have r1':=(r1.mono P2.pre).mono P3.pre
 have r2':=r2.mono P3.pre
 have KS:Post W h₀ [] ρ ρ3 σ3 s.heap (h3.push { cls:=.type "slice",data:=.fields #[v2,v3,.none] }) :=
  P3'.trans (Post.keeps P3.rel (fun b o e=>Heap.get?_push_of_some _ e))
 cases va with
 | ref i =>
  unfold sliceV at e
  dsimp only at e
  cases hi':readL σ3 i with
  | none=>rw [hi'] at e;exact nS e
  | some xs =>
   rw [hi'] at e
   dsimp only at e
   cases hy:sliceL xs vl vh with
   | none=>rw [hy] at e;exact nS e
   | some ys =>
    rw [hy] at e
    (revert k;apply sQ e;intro k)
    obtain ⟨li,hi2,hli,hhi,rfl⟩:=cW hy
    refine cps fun _ hG=>?_
    obtain ⟨p,its,e1,⟨lo,el,ecl⟩,e3,hz⟩:=ia P3.rel hi'
    refine hG ?_
    clear hG
    apply av r1' e1
    have hsz:=an e3
    have e2:Heap.IsList (h3.push { cls:=.type "slice",data:=.fields #[v2,v3,.none] }) p.1 its:=⟨lo,Heap.get?_push_of_some _ el,ecl⟩
    refine tail_any (ops:=[_,_]) e2.typeIs slot_list_getitem.lookup (wpAny_getItem_list_slice e2 (Heap.IsSliceOf.new ..) (bX r2' hli) (bX r3 hhi) .none (by decide) ?_ (by rw [hsz];exact ay hz)) rfl
    have ae:∀ n,adj n=clipAt n:=fun n=>funext (cX n)
    rw [slicePick_plain,hsz,← ae]
    refine bx (s:=⟨h3.push { cls:=.type "slice",data:=.fields #[v2,v3,.none] },s.gens,s.drawn,tk3,s.os⟩) KS.rel (cG _ (cH _ e3)) (by rw [List.length_take,List.length_drop];exact Nat.le_trans (Nat.le_trans (Nat.min_le_right _ _) (Nat.sub_le _ _)) hz) (k.step KS)
 | str l =>
  unfold sliceV at e
  dsimp only at e
  split at e
  ·rename_i hz
   cases hy:sliceL l vl vh with
   | none=>rw [hy] at e;exact nS e
   | some ys =>
    rw [hy] at e
    (revert k;apply sQ e;intro k)
    refine cps fun _ hG=>?_
    obtain ⟨li,hi2,hli,hhi,rfl⟩:=cW hy
    refine hG ?_
    clear hG
    obtain ⟨x,t,rfl,hx⟩:=r1'
    obtain ⟨tl,hl'⟩:=cY (bX r2' hli)
    obtain ⟨th,hh'⟩:=cY (bX r3 hhi)
    subst hl' hh'
    refine tail_any (ops:=[_,_]) (typeIs_str _ _ _) PySem.F.slot_str_getitem.lookup (wpAny_getItem_str_slice (l:=li.map (·,tl)) (u:=hi2.map (·,th)) (st:=Option.none) ⟨_,Heap.get?_push_size _ rfl,rfl,rfl⟩ rfl ?_) rfl
    exact eh hx rfl rfl hz fun y u tk hy=>k _ _ _ _ KS ⟨y,u,rfl,hy⟩
  ·exact nS e
 | _=>exact nS e
end
theorem ax {α:Type} {l:List (Str×α)} {n:Str} {c:α} (h:l.lookup n=some c):(n,c)∈l:=by
 induction l with
 | nil=>exact nS h
 | cons q r ih =>
  rw [List.lookup_cons] at h
  split at h
  ·rename_i e;apply s1Q h;rw [beq_iff_eq.mp e];exact .head _
  ·exact .tail _ (ih h)
theorem dS {l:List (Str×Addr)} {n n':Str} {c c':Addr} (nd:(l.map (·.2)).Nodup) (h:(n,c)∈l) (h':(n',c')∈l) (ne:n≠n'):c≠c':=by
 induction l with
 | nil=>cases h
 | cons q r ih =>
  have nd':=List.nodup_cons.mp nd
  rcases List.mem_cons.mp h with e | h1
  ·rcases List.mem_cons.mp h' with e' | h2
   ·rw [← e'] at e;cases e;exact absurd rfl ne
   ·exact fun z=>nd'.1 (by rw [← e];exact z ▸ List.mem_map.mpr ⟨_,h2,rfl⟩)
  ·rcases List.mem_cons.mp h' with e' | h2
   ·exact fun z=>nd'.1 (by rw [← e'];exact z ▸ List.mem_map.mpr ⟨_,h1,rfl⟩)
   ·exact ih nd'.2 h1 h2
section
variable {W:Wd} {h₀:Heap} {d:Nat} {fr out:Fm} {σ:Hp}
theorem Post.same {ρ:Rho} {h h':Heap} {L:Addr} {F:List Addr} (R:Rel W h₀ ρ σ h) (hL:L ∉ own ρ) (h0:h₀.get? L=none) (hs:Heap.SameBut L h h') {oL:Obj} (hl:h'.get? L=some oL) (hF:L∈F):Post W h₀ F ρ ρ σ h h':=by
 have al:∀ b o,h.get? b=some o→∃ o',h'.get? b=some o':=fun b o e=>by
  by_cases q:b=L
  ·exact ⟨oL,q ▸ hl⟩
  ·exact ⟨o,(hs.2 b q).trans e⟩
 refine ⟨List.prefix_rfl,⟨fun b o e=>?_,R.len,R.nd,R.fresh,fun a m=>let ⟨o,e⟩:=R.live a m;al a o e,fun i o e=>?_⟩,fun b o _ nf e=>?_,al,fun _ m=>.inl m⟩
 ·rw [hs.2 b (fun q=>by subst q;rw [h0] at e;exact nS e)];exact R.base b o e
 ·obtain ⟨p,a,b⟩:=R.objs i o e
  exact ⟨p,a,b.keep fun c hc x y=>(hs.2 c fun q=>hL (q ▸ be a hc)).trans y⟩
 ·exact (hs.2 b fun q=>nf (q ▸ hF)).trans e
theorem EnvR.no_cell {V:Cx} {env:Env} {ρ:Rho} {h:Heap} (F:EnvR h₀ V env ρ h fr out) {n:Str} {c:Addr} (e:env.cells.lookup n=some c):c≠env.locals:=fun q =>
 (List.nodup_cons.mp F.cnd).1 (q ▸ List.mem_map.mpr ⟨_,ax e,rfl⟩)
theorem ib {V:Cx} (nd:V.vs.Nodup) {x y:Nat} {n m:Str} (e:V.vs[x]?=some n) (f:V.vs[y]?=some m) (q:n=m):x=y:=by
 subst q
 exact (List.getElem?_inj (List.getElem?_eq_some_iff.mp e).1 nd).mp (e.trans f.symm)
theorem CellV.same {ρ:Rho} {h h':Heap} {env:Env} {n:Str} {a} {L:Addr} (x:CellV h₀ ρ h env n a) (hs:Heap.SameBut L h h') (ne:∀ c,env.cells.lookup n=some c→c≠L):CellV h₀ ρ h' env n a:=by
 obtain ⟨c,v0,e,i,f,no,z⟩:=x
 exact ⟨c,v0,e,i.sameBut hs (ne c e),f,no,z⟩
theorem ei {x:Nat} {a:AV} {n:Str} {V:Cx} {env:Env} {A:Around} {s:Shared} {ρ:Rho} {Q:Unit→Shared→Prop} {E:Value→Shared→Prop} {v:Value} (hx:x<fr.length) (h:V.vs[x]?=some n)
  (F:EnvR h₀ V env ρ s.heap fr out) (R:Rel W h₀ ρ σ s.heap) (r:VR ρ a v) (k:OkF W h₀ V env out (fr.set x (some a)) σ ρ s (fun _ _=>True) Q):wpAny (model W.prog W.w) A (storeName env n v) Q E s:=by
 have get:∀ y,y≠x→(fr.set x (some a))[y]?=fr[y]?:=fun y q=>List.getElem?_set_ne (fun z=>q z.symm)
 have getx:(fr.set x (some a))[x]?=some (some a):=by rw [List.getElem?_set];simp [hx]
 obtain ⟨m',hm,hv⟩:=F.ns
 rcases F.cel x n h with ⟨_,c⟩ | ⟨kc,c,cv⟩
 ·refine wpAny_storeName_local c hm (fun h' hn hs=>?_) (by rw [F.fk];rfl)
  refine cps fun _ hG=>?_
  obtain ⟨oL,_,_,hoL,_⟩:=id hn
  refine hG ?_
  clear hG
  refine k ρ () h' (s.toks+1) (Post.same R F.loc.1 F.loc.2 hs hoL (.head _)) ?_ trivial
  refine ⟨F.fk,F.gg,F.bb,F.gl,F.nd,F.cnd,F.loc,by rw [List.length_set];exact F.len,F.dbg,fun y n' e=>?_,⟨_,hn,fun y n' b e kk g=>?_⟩,fun y n' e kk=>?_⟩
  ·rcases F.cel y n' e with ⟨c0',c'⟩ | ⟨kc',c',cv'⟩
   ·exact .inl ⟨c0',c'⟩
   ·have hyx:y≠x:=fun q=>by subst q;rw [h] at e;cases e;rw [c] at c';cases c'
    rw [get y hyx]
    exact .inr ⟨kc',c',cv'.same hs fun c e=>F.no_cell e⟩
  ·by_cases hyx:y=x
   ·subst hyx
    rw [h] at e;(revert k;apply s1Q e;intro k)
    rw [getx] at g;cases g
    exact ⟨v,by simp,r⟩
   ·rw [get y hyx] at g
    obtain ⟨w,w1,w2⟩:=hv y n' b e kk g
    refine ⟨w,?_,w2⟩
    rw [if_neg (fun q=>hyx (ib F.nd e h q))]
    exact w1
  ·obtain ⟨f1,f2⟩:=F.frees y n' e kk
   exact ⟨f1,f2.same hs fun c e=>F.no_cell e⟩
 ·refine cps fun _ hG=>?_
  obtain ⟨cc,v0,e1,e2,e3,no,z⟩:=cv
  refine hG ?_
  clear hG
  refine wpAny_storeName_cell F.fk c e1 e2 fun h' hc hs=>?_
  have hF:cc∈FA V env:=.tail _ (List.mem_filterMap.mpr ⟨n,List.mem_of_getElem? h,by rw [kc];exact e1⟩)
  have nd2:=(List.nodup_cons.mp F.cnd).2
  obtain ⟨oc,hoc,_⟩:=id hc
  refine k ρ () h' s.toks (Post.same R no z hs hoc hF) ?_ trivial
  refine ⟨F.fk,F.gg,F.bb,F.gl,F.nd,F.cnd,F.loc,by rw [List.length_set];exact F.len,F.dbg,fun y n' e=>?_,⟨m',hm.sameBut hs (fun q=>F.no_cell e1 q.symm),fun y n' b e kk g=>?_⟩,fun y n' e kk=>?_⟩
  ·rcases F.cel y n' e with ⟨c0',c'⟩ | ⟨kc',c',cv'⟩
   ·exact .inl ⟨c0',c'⟩
   ·by_cases hyx:y=x
    ·subst hyx
     rw [h] at e;cases e
     rw [getx]
     exact .inr ⟨kc',c',cc,some v,e1,hc,fun b hb=>by apply s1Q hb;exact ⟨v,rfl,r⟩,no,z⟩
    ·rw [get y hyx]
     refine .inr ⟨kc',c',cv'.same hs fun c2 e'=>dS nd2 (ax e') (ax e1) fun q=>hyx (ib F.nd e h q)⟩
  ·have hyx:y≠x:=fun q=>by subst q;rw [h] at e;cases e;rw [c] at kk;cases kk
   rw [get y hyx] at g
   exact hv y n' b e kk g
  ·obtain ⟨f1,f2⟩:=F.frees y n' e kk
   refine ⟨f1,f2.same hs fun c2 e'=>dS nd2 (ax e') (ax e1) fun q=>?_⟩
   rw [q,kc] at kk;cases kk
theorem SA.var {x:Nat} {a:AV} {n:Str} {V:Cx} {p:Pos} (hx:x<fr.length) (h:V.vs[x]?=some n):SA W h₀ d V (.Name n p) a fr out σ (fr.set x (some a)) σ:=fun _ _ _ _ _ _ _ F R O r k=>wpAny_assign_Name (ei hx h F R r k)
end
section
variable {W:Wd} {A:Around} {E:Value→Shared→Prop} {s:Shared}
theorem gm {l:Addr} {items:Array Value} {n:Nat} {k:Int} {t:Tok} {v:Value} {Q:Unit→Shared→Prop} (hl:IsL s.heap l items n)
  (h0:0≤k) (hfit:k<2 ^ 63) (hn:k<items.size) (hQ:Q () { s with heap:=s.heap.update l (Obj.mapSeq (·.setIfInBounds k.toNat v)) }) :
  wpAny (model W.prog W.w) A (setItem (.ref l) (.int k t) v) Q E s:=by
 unfold setItem
 try with_reducible refine wpAny_holding ?_
 first | refine wpAny_bind (wpAny_pure ?_) | skip
 refine wpAny_bind (wpAny_sequenceKey hl.isList.typeIs (by decide) ?_)
 refine wpAny_bind (wpAny_callSpecial?_slot (name:=Str.ofString "__setitem__") hl.isList.typeIs slot_list_setitem
  (wpAny_call_entry slot_list_setitem hl.isList.typeIs entry_list_setitem ?_ (args_list_setitem _ _ _)))
 show wpAny _ _ (Builtin.List.listSubscript? (.int k t) >>= _) _ _ s
 refine wpAny_bind (wpAny_listSubscript_int (fitsIndex_of h0 hfit) ?_)
 clear hfit
 obtain ⟨j,rfl⟩:=Int.eq_ofNat_of_zero_le h0
 have hj:j<items.size:=by exact aa [_,_] [] (.ltN N0 N1) (.ltI (.c N0) (.c N1)) [1,1] rfl hn
 have hx':items[j]?=some items[j]:=Array.getElem?_eq_getElem hj
 show wpAny _ _ ((seqItemAt l j >>= fun r=>pure (r.map (j,·))) >>= _) _ _ s
 refine wpAny_bind (wpAny_bind (wpAny_seqItemAt hl rfl (wpAny_pure ?_)))
 rw [hx']
 show wpAny _ _ (setSeqItemAt l j v >>= _) _ _ s
 refine wpAny_bind (wpAny_setSeqItemAt hl rfl ?_)
 first
  | exact wpAny_bind (wpAny_pure (wpAny_pure ⟨.none,rfl,wpAny_pure hQ⟩))
  | exact wpAny_pure ⟨.none,rfl,wpAny_pure hQ⟩
theorem eZ {l m sl:Addr} {items new:Array Value} {n n':Nat} {vl vu:Value} {lo hi:Int} {Q:Unit→Shared→Prop} (hl:IsL s.heap l items n) (hm:IsL s.heap m new n') (hlm:l≠m)
  (hs:s.heap.IsSliceOf sl vl vu .none) (pl:IsPart vl (some lo)) (pu:IsPart vu (some hi)) (hz:items.size+new.size≤sizeLine)
  (hQ:Q () { s with heap:=s.heap.update l (Obj.mapSeq fun xs=>xs.extract 0 (clipAt items.size lo)++new++xs.extract (max (clipAt items.size lo) (clipAt items.size hi)) xs.size) }) :
  wpAny (model W.prog W.w) A (setItem (.ref l) (.ref sl) (.ref m)) Q E s:=by
 obtain ⟨os,hos,hcs,hds⟩:=id hs
 have hTs:s.TypeIs (.ref sl) "slice":=⟨os,hos,hcs⟩
 unfold setItem
 try with_reducible refine wpAny_holding ?_
 first | refine wpAny_bind (wpAny_pure ?_) | skip
 refine wpAny_bind (wpAny_sequenceKey hl.isList.typeIs (by decide) ?_)
 refine wpAny_bind (wpAny_callSpecial?_slot (name:=Str.ofString "__setitem__") hl.isList.typeIs slot_list_setitem
  (wpAny_call_entry slot_list_setitem hl.isList.typeIs entry_list_setitem ?_ (args_list_setitem _ _ _)))
 show wpAny _ _ (Builtin.List.listSubscript? (.ref sl) >>= _) _ _ s
 refine wpAny_bind ?_
 unfold Builtin.List.listSubscript?
 refine wpAny_bind (wpAny_specialOf hTs slice_no_index ?_)
 refine wpAny_pure ?_
 show wpAny _ _ (typeOf (.ref sl) >>= _) _ _ s
 refine wpAny_bind (wpAny_typeOf hTs ?_)
 rw [if_neg (by decide)]
 rw [listSliceParts_eq]
 refine wpAny_bind (wpAny_bind (wpAny_field hos hds (x:=.none) rfl (wpAny_bind (wpAny_listPart .none ?_))))
 rw [if_neg (by decide)]
 refine wpAny_bind (wpAny_field hos hds (x:=vl) rfl (wpAny_bind (wpAny_listPart pl ?_)))
 refine wpAny_bind (wpAny_field hos hds (x:=vu) rfl (wpAny_bind (wpAny_listPart pu (wpAny_pure ?_))))
 have hsr:Builtin.List.listSameRef (.ref l) (.ref m)=false:=beq_eq_false_iff_ne.mpr hlm
 dsimp only
 rw [hsr,if_neg (by decide)]
 have li:∀ {a:Addr} {its:Array Value} {k:Nat} {s':Shared} {Q':Array Value→Shared→Prop} {E':Value→Shared→Prop},IsL s'.heap a its k→Q' its s'→wpAny (model W.prog W.w) A.in1 (Builtin.List.listItems (.ref a)) Q' E' s' :=
  fun h q=>by unfold Builtin.List.listItems;exact wpAny_bind (wpAny_seqItems h rfl (wpAny_pure q))
 refine wpAny_bind ?_
 unfold Builtin.List.listAllItems
 refine wpAny_bind (wpAny_typeOf hm.isList.typeIs ?_)
 rw [if_pos (by decide)]
 refine li hm ?_
 refine wpAny_bind (m:=Builtin.List.listItems (.ref l)) (li hl ?_)
 refine wpAny_bind (wpAny_of_eq (sliceIndices_raw (some lo) (some hi) Option.none items.size (by decide)) ?_)
 rw [sliceBounds_plain]
 dsimp only [Option.elim]
 rw [if_pos (by decide)]
 refine wpAny_bind (wpAny_rule ?_)
 have hz':¬ Builtin.List.listTooLong (items.size+new.size)=true:=by
  unfold Builtin.List.listTooLong
  simp only [decide_eq_true_eq]
  omega
 rw [if_neg hz']
 simp only [Int.toNat_natCast]
 have hmax:(max ((clipAt items.size lo:Nat):Int) ((clipAt items.size hi:Nat):Int)).toNat=max (clipAt items.size lo) (clipAt items.size hi):=by rw [← gV];rfl
 rw [hmax]
 refine wpAny_bind (wpAny_updateSeq hl rfl ?_ ?_ ?_)
 ·refine wpAny_bind (wpAny_letGo ?_)
  exact wpAny_pure ⟨.none,rfl,wpAny_pure hQ⟩
 ·omega
 ·rw [Array.size_append,Array.size_append,Array.size_extract,Array.size_extract,Nat.sub_zero,Nat.min_self,Nat.add_right_comm]
  exact Nat.le_succ_of_le (Nat.le_trans (Nat.add_le_add_right (fA _ _ _) _) hz)
end
theorem fG {ρ:Rho} {k:Int} {es:List (Int×AV)} {kvs:List (Int×Value)} (h:DR ρ es kvs):(es.lookup k).isSome=kvs.any (fun kv=>kv.1=k):=by
 induction h with
 | nil=>rfl
 | @cons q q' r r' hq hr ih =>
  rw [List.lookup_cons,List.any_cons,← hq.1]
  by_cases e:k=q.1
  ·rw [e];simp
  ·rw [show (k == q.1)=false from beq_eq_false_iff_ne.mpr e,show decide (q.1=k)=false from decide_eq_false fun z=>e z.symm,Bool.false_or]
   exact ih
theorem kY {ρ:Rho} {k:Int} {a:AV} {v:Value} (h:VR ρ a v) {es:List (Int×AV)} {kvs:List (Int×Value)} (hd:DR ρ es kvs):DR ρ (es.map fun e=>if e.1=k then (k,a) else e) (kvs.map fun kv=>if kv.1=k then (kv.1,v) else kv):=by
 induction hd with
 | nil=>exact .nil
 | @cons q q' r r' hq hr ih =>
  refine .cons ?_ ih
  dsimp only
  by_cases e:q.1=k
  ·rw [if_pos e,if_pos (hq.1 ▸ e)];exact ⟨e.symm.trans hq.1,h⟩
  ·rw [if_neg e,if_neg (hq.1 ▸ e)];exact hq
section
variable {W:Wd} {h₀:Heap} {d:Nat} {V:Cx} {fr out:Fm} {σ σ1 σ2 σ3 σ4:Hp} {x y:Expr} {p:Pos}
theorem mu (its:Array Value) (a:Nat):(its.extract 0 a).toList=its.toList.take a:=by
 rw [Array.toList_extract,List.extract_eq_take_drop,List.drop_zero,Nat.sub_zero]
theorem mv (its:Array Value) (b n:Nat) (h:its.size=n):(its.extract b n).toList=its.toList.drop b:=by
 subst h
 rw [Array.toList_extract,List.extract_eq_take_drop]
 exact List.take_of_length_le (by simp)
theorem aV {ρ:Rho} {h:Heap} {i:Nat} {ys:List AV} {p} {its:Array Value} {n:Nat} {f:Array Value→Array Value} (R:Rel W h₀ ρ σ h) (hp:ρ[i]?=some p) (hi:IsL h p.1 its n) (b:VRs ρ ys (f its).toList) (hz:ys.length≤LIM) :
  Post W h₀ [] ρ ρ (σ.set i (.list ys)) h (h.update p.1 (Obj.mapSeq f)):=by
 have u:=IsL.update hi f
 exact Post.upd (a:=p.1) R hp (.head _) (fun b q=>Heap.get?_update_ne _ _ _ _ q) u ⟨_,_,u,b,hz⟩
theorem gn {A:Around} {s:Shared} {ρ:Rho} {a i b:AV} {va vi vb:Value} {σ':Hp} {Q:Unit→Shared→Prop} {E:Value→Shared→Prop} (R:Rel W h₀ ρ σ s.heap) (ra:VR ρ a va) (ri:VR ρ i vi) (rb:VR ρ b vb)
  (e:setIdx σ a i b=some σ') (k:∀ h' tk,Post W h₀ [] ρ ρ σ' s.heap h'→Q () ⟨h',s.gens,s.drawn,tk,s.os⟩):wpAny (model W.prog W.w) A (setItem va vi vb) Q E s:=by
 cases a with
 | ref l =>
  cases i with
  | int j =>
   (apply aA ri;intro t)
   unfold setIdx at e
   dsimp only at e
   cases hi:σ[l]? with
   | none=>rw [hi] at e;exact nS e
   | some o =>
    rw [hi] at e
    cases o with
    | list xs =>
     dsimp only at e
     split at e
     ·rename_i hc
      (revert k;apply s1Q e;intro k)
      (apply am R hi;intro p its n e1 e2 e3 hz)
      apply av ra e1
      have hb:xs.length≤10000:=hz
      refine gm e2 hc.1 (by omega) (by rw [an e3];exact hc.2) (k _ _ (aV R e1 e2 ?_ (by rw [List.length_set];exact hz)))
      rw [Array.toList_setIfInBounds]
      exact gW _ e3 rb
     ·exact nS e
    | dict es =>
     refine cps fun _ hG=>?_
     obtain ⟨p,hp,kvs,lo,hd,hr,hz⟩:=R.objs _ _ hi
     refine hG ?_
     clear hG
     apply av ra hp
     have hl:kvs.length≤LIM:=by rw [← hr.length];exact hz
     refine wpAny_setItem_pairs (intKind_is W.prog W.w _ t) hd (fun h' hd' hs=>?_) (ay hl)
     obtain ⟨od,_,_,hod,_⟩:=id hd'
     dsimp only at e
     split at e
     ·rename_i hc
      (revert k;apply s1Q e;intro k)
      refine k h' _ (Post.upd (a:=p.1) R hp (.head _) (fun b q=>hs.2 b q) hod ⟨_,lo,hd',?_,by rw [List.length_map];exact hz⟩)
      unfold stored
      rw [if_pos (by rw [← fG hr];exact hc)]
      exact kY rb hr
     ·rename_i hc
      split at e
      ·rename_i hc2
       (revert k;apply s1Q e;intro k)
       refine k h' _ (Post.upd (a:=p.1) R hp (.head _) (fun b q=>hs.2 b q) hod ⟨_,lo,hd',?_,by rw [List.length_append];exact hc2⟩)
       unfold stored
       rw [if_neg (by rw [← fG hr];exact hc)]
       exact aI hr (.cons ⟨rfl,rb⟩ .nil)
      ·exact nS e
    | _=>exact nS e
  | _=>exact nS e
 | _=>exact nS e
theorem SA.idx {a b c:AV} (he:SE W h₀ d V x fr out σ a σ1) (hi:SE W h₀ d V y fr out σ1 b σ2) (hs:setIdx σ2 a b c=some σ3):SA W h₀ d V (.Subscript x y p) c fr out σ fr σ3:=fun env A s ρ Q E v F R O rb k=>by
 rw [arm_assign_Subscript]
 refine wpAny_bind (wpAny_holding (he F R O fun ρ1 u h1 tk P r1=>wpAny_bind (wpAny_holding ?_)))
 refine hi (F.post P) P.rel O fun ρ2 w h2 tk2 P2 r2=>wpAny_bind (wpAny_standAt (wpAny_bind (wpAny_holding ?_)))
 have P':=P.trans P2
 exact gn P2.rel (r1.mono P2.pre) r2 (rb.mono P'.pre) hs fun h3 tk3 P3=>wpAny_release (k.of F (P'.trans P3) trivial)
theorem dU {σ σ':Hp} {a l u c:AV} (hs:setSlice σ a l u c=some σ'):∃ i m j1 j2 xs ys,(a=.ref i∧c=.ref m∧l=.int j1∧u=.int j2)∧(listAt σ i=some xs∧listAt σ m=some ys)∧(i≠m∧xs.length+ys.length≤LIM)∧σ'=σ.set i (.list (setSl xs ys j1 j2)):=by
 unfold setSlice at hs
 cases a with
 | ref i =>
  cases c with
  | ref m =>
   cases l with
   | int j1 =>
    cases u with
    | int j2 =>
     dsimp only at hs
     cases hi:listAt σ i with
     | none=>rw [hi] at hs;exact nS hs
     | some xs =>
      cases hm:listAt σ m with
      | none=>rw [hi,hm] at hs;exact nS hs
      | some ys =>
       rw [hi,hm] at hs
       have hs:(if i≠m∧xs.length+ys.length≤LIM then some (σ.set i (.list (setSl xs ys j1 j2))) else none)=some σ':=hs
       by_cases hc:i≠m∧xs.length+ys.length≤LIM
       ·rw [if_pos hc] at hs
        exact ⟨i,m,j1,j2,xs,ys,⟨rfl,rfl,rfl,rfl⟩,⟨hi,hm⟩,hc,(Option.some.inj hs).symm⟩
       ·rw [if_neg hc] at hs;exact nS hs
    | _=>exact nS hs
   | _=>exact nS hs
  | _=>exact nS hs
 | _=>exact nS hs
theorem SA.slice {lo hi:Expr} {q:Pos} {a l u c:AV} (he:SE W h₀ d V x fr out σ a σ1) (hl:SE W h₀ d V lo fr out σ1 l σ2) (hu:SE W h₀ d V hi fr out σ2 u σ3) (hs:setSlice σ3 a l u c=some σ4):SA W h₀ d V (.Subscript x (.Slice (some lo) (some hi) Option.none q) p) c fr out σ fr σ4:=fun env A s ρ Q E v F R O rb k=>by
 refine cps fun _ hG=>?_
 obtain ⟨i1,m1,j1,j2,xs,ys,⟨rfl,rfl,rfl,rfl⟩,⟨hi,hm⟩,⟨hne,hz⟩,rfl⟩:=dU hs
 refine hG ?_
 clear hG
 clear hs
 rw [arm_assign_Subscript]
 refine wpAny_bind (wpAny_holding (he F R O fun ρ1 w1 h1 tk P r1=>wpAny_bind (wpAny_holding (wpAny_Slice ?_))))
 refine hl (F.post P) P.rel O fun ρ2 w2 h2 tk2 P2 r2=>?_
 have P2':=P.trans P2
 refine hu (F.post P2') P2.rel O fun ρ3 w3 h3 tk3 P3 r3=>?_
 have P3':=P2'.trans P3
 rw [evalPart_none]
 refine wpAny_pure (wpAny_bind (wpAny_standAt (wpAny_bind (wpAny_holding ?_))))
 have KS:Post W h₀ [] ρ ρ3 σ3 s.heap (h3.push { cls:=.type "slice",data:=.fields #[w2,w3,.none] }):=P3'.trans (Post.keeps P3.rel (fun b o e=>Heap.get?_push_of_some _ e))
 have r1':=(r1.mono P2.pre).mono P3.pre
 have r2':=r2.mono P3.pre
 have rb':=rb.mono P3'.pre
 obtain ⟨t1,rfl⟩:=r2'
 obtain ⟨t2,rfl⟩:=r3
 (apply am KS.rel (aw hi);intro p its n e1 e2 e3 hz1)
 (apply am KS.rel (aw hm);intro q its' n' f1 f2 f3 hz2)
 apply av r1' e1;apply av rb' f1
 have hne':p.1≠q.1:=cn KS.rel.nd e1 f1 hne (.head _) (.head _)
 refine eZ e2 f2 hne' (Heap.IsSliceOf.new ..) (.int _ _) (.int _ _) (by rw [an e3,an f3];exact ay hz) ?_
 refine wpAny_release (k.of F (KS.trans (aV KS.rel e1 e2 ?_ ?_)) trivial)
 ·rw [an e3,← cX,← cX,Array.toList_append,Array.toList_append,mu,mv _ _ _ (an e3)]
  exact aI (aI (cG _ e3) f3) (cH _ e3)
 ·refine Nat.le_trans ?_ hz
  have h1:(xs.take (adj xs.length j1)).length+(xs.drop (max (adj xs.length j1) (adj xs.length j2))).length≤xs.length:=by
   rw [List.length_take,List.length_drop];exact fA _ _ _
  unfold setSl
  rw [List.length_append,List.length_append]
  exact aa [_,_,_,_] [] (.leN (.a (.a N0 N1) N2) (.a N3 N1)) (.leN (.a N0 N2) N3) [1,1] rfl h1
end
noncomputable def tgt:Expr→Bool | .Name .. | .Attribute .. | .Subscript .. | .Tuple ..=>true | _=>false
section
variable {W:Wd} {h₀:Heap} {d:Nat} {V:Cx} {fr out fr1 fr2:Fm} {σ σ1 σ2:Hp} {x:Expr} {xs:List Expr} {p:Pos} {env:Env} {a:AV} {as:List AV}
theorem aJ (h:tgt x=true):assignEach (x::xs) env=(false,assign x env)::assignEach xs env:=by
 cases x <;> first | rfl | exact fT h
theorem dt (h:xs.all tgt=true):(assignEach xs env).length=xs.length∧(assignEach xs env).findIdx? (·.1)=none:=by
 induction xs with
 | nil=>exact ⟨rfl,rfl⟩
 | cons x xs ih =>
  rw [List.all_cons,Bool.and_eq_true] at h
  obtain ⟨a,b⟩:=ih h.2
  rw [aJ h.1,List.findIdx?_cons]
  exact ⟨congrArg Nat.succ a,by simp [b]⟩
theorem SAs.nil:SAs W h₀ d V [] [] fr out σ fr σ:=fun env A s ρ Q E vs F R _ r k=>by
 cases r
 exact wpAny_pure (k.of F (.refl R) trivial)
theorem SAs.cons (hx:tgt x=true) (ht:SA W h₀ d V x a fr out σ fr1 σ1) (hs:SAs W h₀ d V xs as fr1 out σ1 fr2 σ2):SAs W h₀ d V (x::xs) (a::as) fr out σ fr2 σ2:=fun env A s ρ Q E vs F R O r k=>by
 cases r with | cons ra rs =>
 rw [aJ hx]
 exact wpAny_bind (wpAny_holding (ht F R O ra fun ρ1 u h1 tk P F1 _=>hs F1 P.rel O (VRs.mono P.pre rs) fun ρ2 u2 h2 tk2 P2 F2 r2=>k _ _ _ _ (P.trans P2) F2 r2))
theorem SA.tup {k:Nat} {i:Nat} (hi:σ[i]?=some (.tup as)) (hx:xs.all tgt=true) (hs:SAs W h₀ d V xs as fr out σ fr1 σ1) (hn:xs.length=as.length):SA W h₀ d V (.Tuple xs k p) (.ref i) fr out σ fr1 σ1:=fun env A s ρ Q E v F R O r k=>by
 (apply a9 R hi;intro p its n e1 e2 e3 hz)
 cases bL r e1
 obtain ⟨q1,q2⟩:=dt (env:=env) hx
 refine wpAny_assign_Tuple O.1 (a7 e2) (by rw [q1,hn,an e3]) q2 fun h' he=>?_
 have P:=Post.keeps R (fun b o e=>he b o (Nat.ne_of_lt (Heap.lt_size e)) e)
 exact hs (F.post P) P.rel O e3 fun ρ2 u2 h2 tk2 P2 F2 r2=>k _ _ _ _ (P.more.trans P2) F2 r2
theorem cB {A:Around} {s:Shared} {ρ:Rho} {E:Value→Shared→Prop} {i:Nat} {xs:List AV} {a:AV} {v:Value} {p} {Q:Value→Shared→Prop} (R:Rel W h₀ ρ σ s.heap) (hi:σ[i]?=some (.list xs)) (hp:ρ[i]?=some p) (ra:VR ρ a v) (hz:xs.length<LIM)
  (k:OkV W h₀ (σ.set i (.list (xs++[a]))) ρ s [] .none Q):wpAny (model W.prog W.w) A (call (.builtin "list.append") [.ref p.1,v]) Q E s:=by
 (apply am R hi;intro p' its n e1 e2 e3 _)
 rw [hp] at e1;cases e1
 have hb:xs.length<10000:=hz
 refine call_meets F.slot_list_append ⟨_,e2,rfl⟩ F.entry_list_append (F.args_list_append_2 _ _) (list_append p.1 its n v (by rw [an e3];exact ay (Nat.le_of_lt hz))) ⟨e2,?_⟩
 exact k ρ _ _ s.toks (aV R hp e2 (by rw [Array.toList_push];exact aI e3 (.cons ra .nil)) (by rw [List.length_append];exact hz)) rfl
end
section
variable {W:Wd} {h₀:Heap} {d:Nat} {V:Cx} {fr out:Fm} {σ σ1 σ2 σ3:Hp} {x:Expr} {xs:List Expr} {p:Pos} {env:Env} {pos:Pos} {as:List AV}
theorem bf (ns:xs.all tame=true):(backTo pos (starEach xs env)).any (·.1)=false∧(backTo pos (starEach xs env)).all (fun x=>!x.1)=true:=by
 induction xs with
 | nil=>exact ⟨rfl,rfl⟩
 | cons x xs ih =>
  rw [List.all_cons,Bool.and_eq_true] at ns
  obtain ⟨a,b⟩:=ih ns.2
  rw [aZ ns.1]
  exact ⟨a,b⟩
theorem bY {A:Around} {s:Shared} {ρ:Rho} {f:Value} {Q:Args→Shared→Prop} {E:Value→Shared→Prop}
  (hs:SL W h₀ d V xs fr out σ as σ1) (ns:xs.all tame=true) (F:EnvR h₀ V env ρ s.heap fr out) (R:Rel W h₀ ρ σ s.heap) (O:Room d A)
  (k:∀ ρ' vs h' tk,Post W h₀ [] ρ ρ' σ1 s.heap h'→VRs ρ' as vs→Q ⟨vs,[]⟩ ⟨h',s.gens,s.drawn,tk,s.os⟩):wpAny (model W.prog W.w) A (evalArgs f true (backTo pos (starEach xs env)) []) Q E s:=by
 have q:=hs (env:=env) (A:=A) (s:=s) (ρ:=ρ) (E:=E) (pos:=pos) (Q:=fun vs s'=>Q ⟨vs,[]⟩ s') F R O k
 cases xs with
 | nil =>
  show wpAny _ A (evalArgs f true [] []) Q E s
  unfold evalArgs
  show wpAny _ A (spliced [] >>= _) Q E s
  refine wpAny_bind (wpAny_mono q (fun vs s1 h=>wpAny_bind (wpAny_pure (wpAny_holding ?_))) fun _ _ x=>x)
  exact wpAny_bind (wpAny_pure (wpAny_bind (wpAny_pure (wpAny_pure h))))
 | cons x xs =>
  rw [List.all_cons,Bool.and_eq_true] at ns
  rw [aZ ns.1] at q ⊢
  exact evalArgs_plain q
theorem ky {A:Around} {s:Shared} {ρ:Rho} {id:String} {first:List Value} {Q:Value→Shared→Prop} {E:Value→Shared→Prop}
  (hs:SL W h₀ d V xs fr out σ as σ1) (ns:xs.all tame=true) (F:EnvR h₀ V env ρ s.heap fr out) (R:Rel W h₀ ρ σ s.heap) (O:Room d A)
  (k:∀ ρ' vs h' tk,Post W h₀ [] ρ ρ' σ1 s.heap h'→VRs ρ' as vs→wpAny (model W.prog W.w) A (call (.builtin id) (first++vs)) Q E ⟨h',s.gens,s.drawn,tk,s.os⟩) :
  wpAny (model W.prog W.w) A (callWith pos (.builtin id) first (backTo pos (starEach xs env)) []) Q E s :=
 callWith_builtin (bf ns).1 (bY hs ns F R O k)
theorem SE.meth_of {n:Nat} {a r:AV} {T id:String} {q:Pos} (hb:basePlain x=true) (hl:p.endLine=q.line) (hn:xs.length<30) (he:SE W h₀ d V x fr out σ a σ1) (hs:SL W h₀ d V xs fr out σ1 as σ2) (ns:xs.all tame=true)
  (pa:PlainAttrs T) (slot:Slot T (nmS n) id) (hty:typeOf (.builtin id)=pure (.type "method_descriptor"))
  (hrecv:∀ {ρ:Rho} {v:Value} {s:Shared},Rel W h₀ ρ σ1 s.heap→VR ρ a v→s.TypeIs v T∧∀ b,v=.ref b→∃ ob,s.heap.get? b=some ob∧ob.dict=Option.none)
  (hcall:∀ {A:Around} {s:Shared} {ρ:Rho} {va:Value} {vs:List Value} {Q:Value→Shared→Prop} {E:Value→Shared→Prop},Rel W h₀ ρ σ2 s.heap→VR ρ a va→VRs ρ as vs→Room d A→OkV W h₀ σ3 ρ s [] r Q→wpAny (model W.prog W.w) A (call (.builtin id) (va::vs)) Q E s) :
  SE W h₀ d V (.Call (.Attribute x (nmS n) p) xs [] q) fr out σ r σ3:=fun env A s ρ Q E F R O k=>by
 refine wpAny_Call_method (bN hb _ _ _) ?_ (by rw [hl];simp) pa slot hty (he F R O fun ρ1 v h1 tk P r1=>?_)
 ·rw [(bf ns).2]
  exact (decide_eq_true hn:decide (xs.length<30)=true)
 ·obtain ⟨q1,q2⟩:=hrecv (s:=⟨h1,s.gens,s.drawn,tk,s.os⟩) P.rel r1
  exact ⟨q1,q2,ky hs ns (F.post P) P.rel O fun ρ2 vs h2 tk2 P2 r2 =>
   hcall P2.rel (r1.mono P2.pre) r2 O (((k.step (tk:=tk) P)).step (s:=⟨h1,_,_,tk,_⟩) (tk:=tk2) P2)⟩
end
section
variable {W:Wd} {h₀:Heap} {d:Nat} {V:Cx} {fr out:Fm} {σ σ1 σ2 σ3:Hp}
theorem e7 {its:Array Value}:(its.eraseIdxIfInBounds (its.size - 1)).toList=its.toList.dropLast:=by
 obtain ⟨l⟩:=its
 rw [Array.toList_eraseIdxIfInBounds,List.dropLast_eq_take,List.eraseIdx_eq_take_drop_succ]
 cases l with
 | nil=>simp
 | cons a r =>
  rw [List.drop_of_length_le (by simp)]
  simp
theorem ej {α β:Type} {F:α→β→Prop} {l:List α} {m:List β} (x:Paired F l m):Paired F l.dropLast m.dropLast:=by
 rw [List.dropLast_eq_take,List.dropLast_eq_take,← x.length];exact cG _ x
theorem jB {α β:Type} {F:α→β→Prop} {l:List α} {m:List β} {a:α} (x:Paired F l m) (h:l.getLast?=some a):∃ b,m[m.length - 1]?=some b∧F a b:=by
 rw [List.getLast?_eq_getElem?] at h
 obtain ⟨b,e,f⟩:=bT x h
 exact ⟨b,by rw [← x.length];exact e,f⟩
theorem ic {A:Around} {s:Shared} {ρ:Rho} {E:Value→Shared→Prop} {i:Nat} {xs:List AV} {x:AV} {p} {Q:Value→Shared→Prop} (R:Rel W h₀ ρ σ s.heap) (hi:σ[i]?=some (.list xs)) (hp:ρ[i]?=some p) (hx:xs.getLast?=some x)
  (k:OkV W h₀ (σ.set i (.list xs.dropLast)) ρ s [] x Q):wpAny (model W.prog W.w) A (call (.builtin "list.pop") [.ref p.1]) Q E s:=by
 (apply am R hi;intro p' its n e1 e2 e3 hz)
 rw [hp] at e1;cases e1
 obtain ⟨y,hy,ry⟩:=jB e3 hx
 refine call_meets F.slot_list_pop ⟨_,e2,rfl⟩ F.entry_list_pop (F.args_list_pop_1 _) (MeetsSeq.list_pop_last p.1 its n y (by simpa using hy) (by rw [an e3];exact ay hz)) ⟨e2,?_⟩
 exact k ρ _ _ s.toks (aV R hp e2 (by rw [e7];exact ej e3) (Nat.le_trans (by simp) hz)) ry
theorem bZ {α β:Type} {F:α→β→Prop} {a:α} {l:List α} {m:List β} (x:Paired F (a::l) m):∃ b r,m=b::r∧F a b∧Paired F l r:=by
 cases x with | cons h t=>exact ⟨_,_,rfl,h,t⟩
theorem gp {A:Around} {s:Shared} {ρ:Rho} {E:Value→Shared→Prop} {i:Nat} {xs:List AV} {x:AV} {p} {u:Tok} {Q:Value→Shared→Prop} (R:Rel W h₀ ρ σ s.heap) (hi:σ[i]?=some (.list (x::xs))) (hp:ρ[i]?=some p)
  (k:OkV W h₀ (σ.set i (.list xs)) ρ s [] x Q):wpAny (model W.prog W.w) A (call (.builtin "list.pop") [.ref p.1,.int 0 u]) Q E s:=by
 (apply am R hi;intro p' its n e1 e2 e3 hz)
 rw [hp] at e1;cases e1
 have hsz:=an e3
 obtain ⟨l⟩:=its
 refine cps fun _ hG=>?_
 obtain ⟨y,ys,rfl,ry,rs⟩:=bZ e3
 refine hG ?_
 clear hG
 refine call_meets F.slot_list_pop ⟨_,e2,rfl⟩ F.entry_list_pop (F.args_list_pop_2 _ _) (MeetsSeq.list_pop_at p.1 _ n 0 u 0 y (by decide) ?_ rfl (by rw [hsz];exact ay hz)) ⟨e2,?_⟩
 ·unfold seqIndex?;simp
 ·refine k ρ _ _ s.toks (aV R hp e2 ?_ (Nat.le_trans (Nat.le_succ _) hz)) ry
  rw [Array.toList_eraseIdxIfInBounds]
  exact rs
theorem ek {A:Around} {s:Shared} {ρ:Rho} {E:Value→Shared→Prop} {i j:Nat} {xs ys:List AV} {p} {v:Value} {Q:Value→Shared→Prop} (R:Rel W h₀ ρ σ s.heap) (hi:σ[i]?=some (.list xs)) (hp:ρ[i]?=some p) (hj:σ[j]?=some (.list ys)) (rv:VR ρ (.ref j) v)
  (hz:xs.length+ys.length≤LIM) (k:OkV W h₀ (σ.set i (.list (xs++ys))) ρ s [] .none Q):wpAny (model W.prog W.w) A (call (.builtin "list.extend") [.ref p.1,v]) Q E s:=by
 (apply am R hi;intro p' its n e1 e2 e3 _)
 rw [hp] at e1;cases e1
 (apply am R hj;intro q its' n' f1 f2 f3 _)
 apply av rv f1
 have hs:its.size+its'.size≤sizeLine:=by rw [an e3,an f3];exact ay hz
 refine call_meets F.slot_list_extend ⟨_,e2,rfl⟩ F.entry_list_extend (F.args_list_extend_2 _ _) (AutoSeq1.list_extend_list_list_0 p.1 its n q.1 its' n' (extend_door hs) (Nat.le_trans (Nat.le_add_right _ _) hs) (Nat.le_succ_of_le hs)) ⟨e2,f2,?_⟩
 refine k ρ _ _ s.toks (aV R hp e2 (by rw [Array.toList_append];exact aI e3 f3) (by rw [List.length_append];exact hz)) rfl
theorem ie (ns:List (List Nat)):(Txt.join (⟨#[]⟩:Str) (ns.map fun l=>(⟨l.toArray⟩:Str))).cps.toList=ns.flatten:=by
 have h:∀ (ms:List (List Nat)) (b:Array Nat),((ms.map fun l=>(⟨l.toArray⟩:Str)).foldl (fun acc p=>acc++(⟨#[]⟩:Str).cps++p.cps) b).toList=b.toList++ms.flatten:=by
  intro ms
  induction ms with
  | nil=>intro b;simp
  | cons a r ih=>intro b;rw [List.map_cons,List.foldl_cons,ih];simp
 unfold Txt.join Builtin.Str.glued
 cases ns with
 | nil=>rfl
 | cons a r =>
  have:=h r a.toArray
  simpa using this
theorem gq {A:Around} {s:Shared} {ρ:Rho} {E:Value→Shared→Prop} {j:Nat} {ys:List AV} {ns:List (List Nat)} {x:Str} {t:Tok} {v:Value} {Q:Value→Shared→Prop} (R:Rel W h₀ ρ σ s.heap) (hx:x.cps.toList=[]) (hj:σ[j]?=some (.list ys)) (rv:VR ρ (.ref j) v)
  (hn:strsV ys=some ns) (hz:ns.flatten.length≤LIM) (k:OkV W h₀ σ ρ s [] (.str ns.flatten) Q):wpAny (model W.prog W.w) A (call (.builtin "str.join") [.str x t,v]) Q E s:=by
 (apply am R hj;intro q its' n' f1 f2 f3 hz')
 apply av rv f1
 have hi:=bM f3 hn
 have hl:ns.length≤10000:=by
  have:ys.length≤10000:=hz'
  have h2:∀ {ys:List AV} {ns},strsV ys=some ns→ns.length=ys.length:=by
   intro ys
   induction ys with
   | nil=>intro ns h;(revert k;apply s1Q h;intro k);rfl
   | cons a r ih =>
    intro ns h
    cases a <;> first | (exact nS h;done) | skip
    obtain ⟨ms,e,rfl⟩:=Option.map_eq_some_iff.mp (show (strsV r).map _=some _ from h)
    simp [ih e]
  rw [h2 hn];exact this
 have hsum:(ns.map List.length).sum=ns.flatten.length:=by simp [List.length_flatten]
 have hz2:ns.flatten.length≤10000:=hz
 refine join_listW (aE f2) hi (by rw [bH hx];simp) ?_ fun t' kk=>k.now R ⟨_,_,rfl,?_⟩
 ·rw [List.map_map,List.length_map]
  have:(ns.map (Str.length ∘ fun l=>(⟨l.toArray⟩:Str)))=ns.map List.length:=List.map_congr_left fun l _=>by simp [Str.length]
  rw [this];exact aq [_,_,_] [] (.leN (.a N0 N1) (.k 1048576)) (.leN N1 (.k 10000)) (.eqN N0 N2) (.leN N2 (.k 10000)) [1,1,1,1] rfl hl hsum hz2
 ·rw [cS hx];exact ie ns
section
variable {x:Expr} {xs:List Expr} {p q:Pos} {as:List AV} {a r:AV} (hb:basePlain x=true) (hl:p.endLine=q.line) (hn:xs.length<30) (he:SE W h₀ d V x fr out σ a σ1) (hs:SL W h₀ d V xs fr out σ1 as σ2) (ns:xs.all tame=true)
include hb hl hn he hs ns
theorem SE.methL {n i:Nat} {id:String} {ys zs:List AV} (ha:a=.ref i) (hi:σ1[i]?=some (.list ys)) (hj:σ2[i]?=some (.list zs)) (slot:Slot "list" (nmS n) id) (hty:typeOf (.builtin id)=pure (.type "method_descriptor"))
  (hc:∀ {A:Around} {s:Shared} {ρ:Rho} {p:Addr×Option Addr} {vs:List Value} {Q:Value→Shared→Prop} {E:Value→Shared→Prop},Rel W h₀ ρ σ2 s.heap→ρ[i]?=some p→VRs ρ as vs→OkV W h₀ σ3 ρ s [] r Q→wpAny (model W.prog W.w) A (call (.builtin id) (.ref p.1::vs)) Q E s) :
  SE W h₀ d V (.Call (.Attribute x (nmS n) p) xs [] q) fr out σ r σ3:=by
 subst ha
 refine SE.meth_of hb hl hn he hs ns F.plainAttrs_list slot hty (fun R r=>?_) (fun R ra rb O k=>?_)
 ·(apply am R hi;intro p' its n e1 e2 e3 _)
  apply av r e1
  exact ⟨⟨_,e2,rfl⟩,fun b e=>by cases e;exact ⟨_,e2,rfl⟩⟩
 ·obtain ⟨p,hp,rfl⟩:=ra
  exact hc R hp rb k
end
section
variable {A:Around} {s:Shared} {ρ:Rho} {vs:List Value} {as zs:List AV} {i:Nat} {p:Addr×Option Addr} {r:AV} {Q:Value→Shared→Prop} {E:Value→Shared→Prop} (R:Rel W h₀ ρ σ s.heap) (hj:σ[i]?=some (.list zs)) (hp:ρ[i]?=some p) (rb:VRs ρ as vs) (k:OkV W h₀ σ3 ρ s [] r Q)
include R rb k
omit R k in
theorem mw {P:List Value→Prop} {B:AV→Prop} (hb:B (one as)) (h:∀ a v,VR ρ a v→B a→P [v]) (h0:B .opq→False):P vs:=by
 cases rb with
 | nil=>exact (h0 hb).elim
 | cons r1 r2 =>
  cases r2 with
  | nil=>exact h _ _ r1 hb
  | cons=>exact (h0 hb).elim
include hj hp in
theorem ig (hm:lAppend σ i zs as=some (r,σ3)):wpAny (model W.prog W.w) A (call (.builtin "list.append") (.ref p.1::vs)) Q E s:=by
 cases rb with
 | nil=>exact nS hm
 | cons r1 r2 =>
  cases r2 with
  | cons=>exact nS hm
  | nil=>exact ifP (P:=fun r σ3=>OkV W h₀ σ3 ρ s [] r Q→_) hm (fun hz k=>cB R hj hp r1 hz k) k
include hj hp in
set_option tactic.hygienic true in
theorem ii (hm:lPop σ i zs as=some (r,σ3)):wpAny (model W.prog W.w) A (call (.builtin "list.pop") (.ref p.1::vs)) Q E s:=by
 cases rb with
 | nil =>
  have go:∀ o,zs.getLast?=o→(match o with | some x=>some (x,σ.set i (.list zs.dropLast)) | none=>none)=some (r,σ3)→wpAny (model W.prog W.w) A (call (.builtin "list.pop") [.ref p.1]) Q E s:=fun o e h=>by
   cases o with
   | none=>exact nS h
   | some x=>exact sP (P:=fun r σ3=>OkV W h₀ σ3 ρ s [] r Q→_) h (fun k=>ic R hj hp e k) k
  exact go _ rfl hm
 | cons r1 r2 =>
  cases r2 with
  | cons=>exact nS hm
  | @nil =>
   rename_i a1 v1
   cases a1 with
   | int n =>
    (apply aA r1;intro u)
    have hm:(if n=0 then (match zs with | x::r=>some (x,σ.set i (.list r)) | []=>none) else none)=some (r,σ3):=hm
    by_cases h0:n=0
    ·subst h0
     rw [if_pos rfl] at hm
     cases zs with
     | nil=>exact nS hm
     | cons x rr=>exact sP (P:=fun r σ3=>OkV W h₀ σ3 ρ s [] r Q→_) hm (fun k=>gp R hj hp k) k
    ·rw [if_neg h0] at hm;exact nS hm
   | _=>exact nS hm
include hj hp in
theorem ij (hm:lExtend σ i zs as=some (r,σ3)):wpAny (model W.prog W.w) A (call (.builtin "list.extend") (.ref p.1::vs)) Q E s:=by
 refine mw rb (P:=fun vs=>wpAny (model W.prog W.w) A (call (.builtin "list.extend") (.ref p.1::vs)) Q E s) (B:=fun a=>(match a with | .ref j=>(match listAt σ j with | some ys=>if i≠j∧zs.length+ys.length≤LIM then some (.none,σ.set i (.list (zs++ys))) else none | none=>none) | _=>none)=some (r,σ3)) hm (fun a v rv hm=>?_) (fun h=>nS h)
 cases a with
 | ref j =>
  have go:∀ o,listAt σ j=o→(match o with | some ys=>if i≠j∧zs.length+ys.length≤LIM then some (AV.none,σ.set i (.list (zs++ys))) else none | none=>none)=some (r,σ3)→wpAny (model W.prog W.w) A (call (.builtin "list.extend") [.ref p.1,v]) Q E s:=fun o e h=>by
   cases o with
   | none=>exact nS h
   | some ys=>exact ifP (P:=fun r σ3=>OkV W h₀ σ3 ρ s [] r Q→_) h (fun hz k=>ek R hj hp (aw e) rv hz.2 k) k
  exact go _ rfl hm
 | _=>exact nS hm
theorem gr {x:Str} {t:Tok} (hx:x.cps.toList=[]) (hm:sJoin σ as=some (r,σ3)):wpAny (model W.prog W.w) A (call (.builtin "str.join") (.str x t::vs)) Q E s:=by
 refine mw rb (P:=fun vs=>wpAny (model W.prog W.w) A (call (.builtin "str.join") (.str x t::vs)) Q E s) (B:=fun a=>(match lstG σ a with | some xs=>(strsV xs).bind fun l=>if l.flatten.length≤LIM then some (.str l.flatten,σ) else none | none=>none)=some (r,σ3)) hm (fun a v rv hm=>?_) (fun h=>nS h)
 cases a with
 | ref j =>
  have go:∀ o,listAt σ j=o→(match o with | some xs=>(strsV xs).bind fun l=>if l.flatten.length≤LIM then some (AV.str l.flatten,σ) else none | none=>none)=some (r,σ3)→wpAny (model W.prog W.w) A (call (.builtin "str.join") [.str x t,v]) Q E s:=fun o e h=>by
   cases o with
   | none=>exact nS h
   | some ys=>exact obC h fun l hl h=>ifP (P:=fun r σ3=>OkV W h₀ σ3 ρ s [] r Q→_) h (fun hz k=>gq R hx (aw e) rv hl hz k) k
  exact go _ rfl hm
 | _=>exact nS hm
end
section
variable {x:Expr} {xs:List Expr} {p q:Pos} {as:List AV} {a r:AV} (hb:basePlain x=true) (hl:p.endLine=q.line) (hn:xs.length<30) (he:SE W h₀ d V x fr out σ a σ1) (hs:SL W h₀ d V xs fr out σ1 as σ2) (ns:xs.all tame=true)
include hb hl hn he hs ns
theorem SE.methB {n:Nat} (hk:(∃ i ys,a=.ref i∧σ1[i]?=some (.list ys))∨∃ l,a=.str l) (hm:lmV σ2 a n as=some (r,σ3)):SE W h₀ d V (.Call (.Attribute x (nmS n) p) xs [] q) fr out σ r σ3:=by
 rcases hk with ⟨i,ys,rfl,hi⟩ | ⟨l,rfl⟩
 ·have go:∀ o,listAt σ2 i=o→(match o with | some xs=>nth [lAppend σ2 i xs as,lPop σ2 i xs as,lExtend σ2 i xs as] n Option.none | Option.none=>Option.none)=some (r,σ3)→SE W h₀ d V (.Call (.Attribute x (nmS n) p) xs [] q) fr out σ r σ3:=fun o e hm=>by
   cases o with
   | none=>exact nS hm
   | some zs =>
    have hj:=aw e
    match n,hm with
    | 0,hm=>exact SE.methL hb hl hn he hs ns (n:=0) rfl hi hj F.slot_list_append F.type_list_append fun R hp rb k=>ig R hj hp rb k hm
    | 1,hm=>exact SE.methL hb hl hn he hs ns (n:=1) rfl hi hj F.slot_list_pop F.type_list_pop fun R hp rb k=>ii R hj hp rb k hm
    | 2,hm=>exact SE.methL hb hl hn he hs ns (n:=2) rfl hi hj F.slot_list_extend F.type_list_extend fun R hp rb k=>ij R hj hp rb k hm
    | n+3,hm=>exact nS hm
  exact go _ rfl hm
 ·have hj:(if l.isEmpty∧n=3 then sJoin σ2 as else Option.none)=some (r,σ3):=hm
  clear hm
  by_cases hc:l.isEmpty=true∧n=3
  ·rw [if_pos hc] at hj
   obtain ⟨h0,rfl⟩:=hc
   refine SE.meth_of (n:=3) hb hl hn he hs ns F.plainAttrs_str F.slot_str_join F.type_str_join (fun R r=>?_) (fun R ra rb O k=>?_)
   ·obtain ⟨x,t,rfl,hx⟩:=r
    exact ⟨typeIs_str _ _ _,fun b e=>nomatch e⟩
   ·obtain ⟨x,t,rfl,hx⟩:=ra
    exact gr R rb k (hx.trans (List.isEmpty_iff.mp h0)) hj
  ·rw [if_neg hc] at hj;exact nS hj
end
end
theorem aO {α:Type}:∀ {ns:List Str} {vs:List α} {i:Nat} {n:Str} {v:α},ns.Nodup→ns[i]?=some n→vs[i]?=some v→(ns.zip vs).lookup n=some v
 | [],_,_,_,_,_,h,_=>by exact nS h
 | _::_,[],_,_,_,_,_,h=>by simp at h
 | m::ns,w::vs,0,n,v,_,h,h'=>by
  apply s1Q h;apply s1Q h'
  rw [List.zip_cons_cons,List.lookup_cons];simp
 | m::ns,w::vs,i+1,n,v,nd,h,h'=>by
  have h1:ns[i]?=some n:=by simpa using h
  rw [List.zip_cons_cons,List.lookup_cons]
  rw [show (n == m)=false from beq_eq_false_iff_ne.mpr fun q=>(List.nodup_cons.mp nd).1 (q ▸ List.mem_of_getElem? h1)]
  exact aO (List.nodup_cons.mp nd).2 h1 (by simpa using h')
theorem bn {α:Type}:∀ {ns:List Str} {vs:List α} {n:Str},n ∉ ns→(ns.zip vs).lookup n=none
 | [],_,_,_=>by simp
 | _::_,[],_,_=>by simp
 | m::ns,w::vs,n,h=>by
  rw [List.zip_cons_cons,List.lookup_cons]
  rw [show (n == m)=false from beq_eq_false_iff_ne.mpr fun q=>h (q ▸ .head _)]
  exact bn fun q=>h (.tail _ q)
theorem du {α:Type} {ns:List Str} {vs:List α} (nd:ns.Nodup) (hl:ns.length=vs.length):(ns.filterMap fun n=>((ns.zip vs).lookup n).map (n,·))=ns.zip vs:=by
 have:∀ (pre:List Str) (ms:List Str) (ws:List α),pre++ms=ns→ms.length=ws.length→(∀ i,ws[i]?=vs[pre.length+i]?)→(ms.filterMap fun n=>((ns.zip vs).lookup n).map (n,·))=ms.zip ws:=by
  intro pre ms
  induction ms generalizing pre with
  | nil=>intro ws _ _ _;rfl
  | cons m ms ih =>
   intro ws e hl' hw
   cases ws with
   | nil=>simp at hl'
   | cons w ws =>
    have h1:ns[pre.length]?=some m:=by rw [← e,List.getElem?_append_right (Nat.le_refl _)];simp
    have h2:vs[pre.length]?=some w:=by have:=hw 0;simpa using this.symm
    rw [List.filterMap_cons,aO nd h1 h2,List.zip_cons_cons]
    simp only [Option.map_some]
    rw [ih (pre++[m]) ws (by simp [e]) (by simpa using hl') fun i=>?_]
    have:=hw (i+1)
    simp only [List.getElem?_cons_succ] at this
    rw [this];congr 1;simp;exact au [_,_] [] (.eqN (.a N0 (.a N1 (.k 1))) (.a (.a N0 (.k 1)) N1)) [1] [1] rfl
 exact this [] ns vs rfl hl (by simp)
theorem em {α:Type}:∀ (ns:List Str) (vs:List α),(ns.take vs.length).zip vs=ns.zip vs
 | [],_=>by simp
 | _::_,[]=>by simp
 | n::ns,v::vs=>by simp [em ns vs]
noncomputable def addDef (sl:List (Str×Value)) (p:Str×Value):List (Str×Value):=if (sl.lookup p.1).isNone then sl++[p] else sl
theorem gs {ns:List Str} {vs ds:List Value} (nd:ns.Nodup) (h1:vs.length≤ns.length) (h2:ns.length≤vs.length+ds.length) (h3:ds.length≤ns.length) :
  ((ns.drop (ns.length - ds.length)).zip ds).foldl addDef (ns.zip vs)=ns.zip (vs++ds.drop (vs.length+ds.length - ns.length)):=by
 have bc:∀ (L:List (Str×Value)) (sl:List (Str×Value)),(∀ p∈L,(sl.lookup p.1).isSome)→L.foldl addDef sl=sl:=by
  intro L
  induction L with
  | nil=>intro sl _;rfl
  | cons p L ih =>
   intro sl h
   rw [List.foldl_cons]
   have:addDef sl p=sl:=by
    unfold addDef
    have:=h p (.head _)
    cases q:sl.lookup p.1 with
    | none=>rw [q] at this;exact fT this
    | some v=>rfl
   rw [this];exact ih sl fun q hq=>h q (.tail _ hq)
 have step2:∀ (pre ms:List Str) (ws us:List Value),pre++ms=ns→pre.length=us.length→ms.length=ws.length→(ms.zip ws).foldl addDef (pre.zip us)=(pre++ms).zip (us++ws):=by
  intro pre ms
  induction ms generalizing pre with
  | nil=>intro ws us _ _ h;cases ws with | nil=>simp | cons=>simp at h
  | cons m ms ih =>
   intro ws us e hp hl
   cases ws with
   | nil=>simp at hl
   | cons w ws =>
    rw [List.zip_cons_cons,List.foldl_cons]
    have hm:m ∉ pre:=by
     intro q
     rw [← e] at nd
     exact (List.nodup_append.mp nd).2.2 m q m (.head _) rfl
    have:addDef (pre.zip us) (m,w)=(pre++[m]).zip (us++[w]):=by
     unfold addDef
     rw [bn hm]
     simp only [Option.isNone_none,if_true]
     rw [List.zip_append hp];rfl
    rw [this,ih (pre++[m]) ws (us++[w]) (by simp [e]) (by simp [hp]) (by simpa using hl)]
    simp
 let k:=vs.length+ds.length - ns.length
 have e1:ns.drop (ns.length - ds.length)=(ns.drop (ns.length - ds.length)).take k++ns.drop vs.length:=by
  conv=>lhs;rw [← List.take_append_drop k (ns.drop (ns.length - ds.length))]
  rw [List.drop_drop,show ns.length - ds.length+k=vs.length by omega]
 have hk:((ns.drop (ns.length - ds.length)).take k).length=(ds.take k).length:=by simp;exact (Nat.le_total (k) (ns.length - (ns.length - ds.length))).elim (fun hq0=>bp [_,_,_] [] (.eqN N0 N1) (.leN N0 N2) (.leN N1 N2) (.eqN N0 N2) (.eqN N1 N2) [1,1,0,0,-1] [1,0,1,-1,0] rfl (Nat.min_le_left _ _) (Nat.min_le_left _ _) (Nat.min_eq_left (hq0)) (Nat.min_eq_left (aq [_,_,_,_,_] [] (.leN N0 N1) (.leN N0 N2) (.leN N3 (.a N4 N1)) (.eqN (.a N2 N4) N3) [1,1,1,1] rfl hq0 (af _ _) (ab ((Nat.sub_le _ _)))))) (fun hq0=>cy [_,_,_,_,_,_] [] (.eqN N0 N1) (.leN N2 (.a N3 N4)) (.leN N2 (.a N5 N3)) (.leN N0 N5) (.leN N1 N4) (.eqN (.a N3 N4) N2) (.eqN (.a N5 N3) N2) (.eqN N0 N5) (.eqN N1 N4) [1,1,0,1,0,0,1,0,-1] [1,0,1,0,1,1,0,-1,0] rfl (af _ _) (af _ _) (Nat.min_le_right _ _) (Nat.min_le_right _ _) (ab (h3)) (ab ((Nat.sub_le _ _))) (Nat.min_eq_right (hq0)) (Nat.min_eq_right (aq [_,_,_,_,_] [] (.leN N0 N1) (.leN N2 N1) (.leN N3 (.a N2 N4)) (.eqN (.a N4 N0) N3) [1,1,1,1] rfl hq0 (af _ _) (ab (h3)))))
 have e2:(ns.drop (ns.length - ds.length)).zip ds=((ns.drop (ns.length - ds.length)).take k).zip (ds.take k)++(ns.drop vs.length).zip (ds.drop k):=by
  rw [← List.zip_append hk,← e1,List.take_append_drop]
 have hs:(((ns.drop (ns.length - ds.length)).take k).zip (ds.take k)).foldl addDef (ns.zip vs)=ns.zip vs:=by
  refine bc _ _ fun p hp=>?_
  have hm:p.1∈(ns.drop (ns.length - ds.length)).take k:=(List.of_mem_zip hp).1
  obtain ⟨i,hi⟩:=List.mem_iff_getElem?.mp hm
  rw [List.getElem?_take] at hi
  split at hi
  ·rename_i hik
   rw [List.getElem?_drop] at hi
   have hlt:ns.length - ds.length+i<vs.length:=by omega
   rw [aO nd hi (List.getElem?_eq_getElem hlt)]
   rfl
  ·exact nS hi
 rw [e2,List.foldl_append,hs]
 have h:=step2 (ns.take vs.length) (ns.drop vs.length) (ds.drop k) vs (List.take_append_drop _ _) (by simp;exact (Nat.min_eq_left (h1))) (by simp;omega)
 rw [List.take_append_drop,em] at h
 exact h
section
variable {M:Model} {A:Around} {E:Value→Shared→Prop} {s:Shared}
theorem bI {α β:Type} (f:α→β→Sem (ForInStep β)) (g:β→α→β) (hf:∀ a b,f a b=pure (.yield (g b a))):∀ (l:List α) (b:β) (Q:β→Shared→Prop),Q (l.foldl g b) s→wpAny M A (forIn l b f) Q E s
 | [],b,Q,h=>by rw [List.forIn_nil];exact wpAny_pure h
 | a::l,b,Q,h=>by
  rw [List.forIn_cons,hf]
  exact wpAny_bind (wpAny_pure (bI f g hf l (g b a) Q h))
theorem dW {α:Type} {c:Prop} [Decidable c] {a b:Sem α} {Q:α→Shared→Prop} (hc:¬ c) (h:wpAny M A b Q E s):wpAny M A (if c then a else b) Q E s:=by rw [if_neg hc];exact h
theorem e8 {α β:Type} {f:α→β→Sem (ForInStep β)} (g:β→α→β) (hf:∀ a b,f a b=pure (.yield (g b a))) {l:List α} {b c:β} {Q:β→Shared→Prop} (e:l.foldl g b=c) (h:Q c s):wpAny M A (forIn l b f) Q E s:=bI f g hf l b Q (e ▸ h)
theorem gu {pa:Arguments} {ns:List Str} (p1:pa.posonlyargs=[]) (p2:pa.kwonlyargs=[]) (p3:pa.vararg=none) (p4:pa.kwarg=none) (hn:pa.args.map (·.arg)=ns) :
  ∃ ar kd df,pa=⟨[],ar,none,[],kd,none,df⟩∧ar.map (·.arg)=ns:=by
 obtain ⟨po,ar,va,ko,kd,kw,df⟩:=pa
 obtain rfl:po=[]:=p1
 obtain rfl:ko=[]:=p2
 obtain rfl:va=none:=p3
 obtain rfl:kw=none:=p4
 exact ⟨ar,kd,df,rfl,hn⟩
theorem mx {fd:FuncData} {pa:Arguments} (h:fd.params=pa):fd={ fd with params:=pa }:=by subst h;rfl
theorem jC {fd:FuncData} {ns:List Str} {vs ds:List Value} {Q:List (Str×Value)→Shared→Prop}
  (p1:fd.params.posonlyargs=[]) (p2:fd.params.kwonlyargs=[]) (p3:fd.params.vararg=none) (p4:fd.params.kwarg=none) (hn:fd.params.args.map (·.arg)=ns) (nd:ns.Nodup)
  (hd:(fd.defaults=.none∧ds=[])∨∃ T o n,fd.defaults=.ref T∧s.heap.get? T=some o∧o.data=.seq ds.toArray n)
  (h1:vs.length≤ns.length) (h2:ns.length≤vs.length+ds.length) (h3:ds.length≤ns.length)
  (h:Q (ns.zip (vs++ds.drop (vs.length+ds.length - ns.length))) s):wpAny M A (bindArgs fd ⟨vs,[]⟩) Q E s:=by
 have key:wpAny M A (seqItems? fd.defaults) (fun r s'=>s'=s∧(r.getD #[]).toList=ds) E s:=by
  rcases hd with ⟨e,rfl⟩ | ⟨T,o,n,e,ho,hs⟩
  ·rw [e]
   exact wpAny_bind (wpAny_pure (wpAny_pure ⟨rfl,rfl⟩))
  ·rw [e]
   exact wpAny_seqItems ho hs ⟨rfl,by simp⟩
 clear hd
 refine cps fun _ hG=>?_
 obtain ⟨ar,kd,df,hpa,rfl⟩:=gu p1 p2 p3 p4 hn
 refine hG ?_
 clear hG
 rw [mx hpa]
 refine wpAny_bind (m:=pure _) (wpAny_pure ?_)
 refine wpAny_bind (wpAny_mono key (fun r s' hr=>?_) fun _ _ x=>x)
 obtain ⟨rfl,rfl⟩:=hr
 have hD:List.drop ((r.getD #[]).toList.length - (ar.map (·.arg)).length) (r.getD #[]).toList=(r.getD #[]).toList:=by
  rw [Nat.sub_eq_zero_of_le h3];rfl
 have hf:List.filter (fun n=>(List.lookup n ((ar.map (·.arg)).zip vs)).isNone) ((ar.map (·.arg)).take ((ar.map (·.arg)).length - (r.getD #[]).toList.length))=[]:=by
  rw [List.filter_eq_nil_iff]
  intro n hn'
  obtain ⟨i,hi⟩:=List.mem_iff_getElem?.mp hn'
  rw [List.getElem?_take] at hi
  split at hi
  ·have hlt:i<vs.length:=by exact aq [_,_,_,_,_] [] (.ltN N0 N1) (.leN N2 (.a N1 N3)) (.ltN N0 N4) (.eqN (.a N4 N3) N2) [1,1,1,1] rfl h2 (by assumption) (ab (h3))
   rw [aO nd hi (List.getElem?_eq_getElem hlt)]
   exact Bool.false_ne_true
  ·exact nS hi
 refine dW (c:=(decide (vs.length > (ar.map (·.arg)).length) && true)=true) (by rw [Bool.and_true,decide_eq_false (Nat.not_lt.mpr h1)];exact Bool.false_ne_true) ?_
 refine dW (c:=(!(List.filter (fun n=>(List.lookup n ((ar.map (·.arg)).zip vs)).isNone) ((ar.map (·.arg)).take ((ar.map (·.arg)).length - (List.drop ((r.getD #[]).toList.length - (ar.map (·.arg)).length) (r.getD #[]).toList).length))).isEmpty)=true) (by rw [hD,hf];exact Bool.false_ne_true) ?_
 refine wpAny_bind (e8 (l:=((ar.map (·.arg)).drop ((ar.map (·.arg)).length - (List.drop ((r.getD #[]).toList.length - (ar.map (·.arg)).length) (r.getD #[]).toList).length)).zip (List.drop ((r.getD #[]).toList.length - (ar.map (·.arg)).length) (r.getD #[]).toList)) (b:=(ar.map (·.arg)).zip vs) (c:=(ar.map (·.arg)).zip (vs++(r.getD #[]).toList.drop (vs.length+(r.getD #[]).toList.length - (ar.map (·.arg)).length))) addDef (fun a b=>?_) (by rw [hD];exact gs nd h1 h2 h3) ?_)
 ·obtain ⟨k,v⟩:=a
  show (if (List.lookup k b).isNone=true then pure (ForInStep.yield (b++[(k,v)])) else pure (ForInStep.yield b))=pure (ForInStep.yield (if (List.lookup k b).isNone=true then b++[(k,v)] else b))
  split <;> rfl
 refine wpAny_bind (m:=pure _) (wpAny_pure ?_)
 refine dW (c:=(!([]:List Str).isEmpty)=true) Bool.false_ne_true ?_
 refine wpAny_pure ?_
 show Q (List.filterMap (fun n=>(List.lookup n ((ar.map (·.arg)).zip (vs++(r.getD #[]).toList.drop (vs.length+(r.getD #[]).toList.length - (ar.map (·.arg)).length)))).map (n,·)) (ar.map (·.arg)++[])) _
 rw [List.append_nil,du nd (by rw [List.length_append,List.length_drop];exact bp [_,_,_,_,_] [] (.eqN N0 (.a N1 N2)) (.leN (.a N1 N3) (.a N4 N0)) (.leN N3 (.a N2 N4)) (.eqN (.a N4 N0) (.a N1 N3)) (.eqN (.a N2 N4) N3) [1,0,1,1,0] [1,1,0,0,1] rfl (af _ _) (af _ _) (ab (h2)) (ab (ag [_,_,_,_] [] (.leN N0 N1) (.leN N2 N3) (.eqN (.a N0 N3) (.a N2 N1)) [1,1,1] rfl h1 (ab (h2)))))]
 exact h
end
theorem Post.leave {W:Wd} {h₀:Heap} {F:List Addr} {ρ ρ':Rho} {σ σ':Hp} {h h1 h':Heap} (P:Post W h₀ [] ρ ρ σ h h1) (Q:Post W h₀ F ρ ρ' σ' h1 h') (hF:∀ a∈F,h.get? a=none):Post W h₀ [] ρ ρ' σ' h h':=by
 refine ⟨Q.pre,Q.rel,fun b o nb _ e=>Q.keep b o nb (fun m=>?_) (P.keep b o nb (by simp) e),fun b o e=>let ⟨o1,e1⟩:=P.alive b o e;Q.alive b o1 e1,fun a m=>?_⟩
 ·have:=hF b m;rw [e] at this;exact sN this
 ·rcases Q.new a m with m | m
  ·exact .inl m
  ·exact .inr (P.dead m)
structure FnOK (K:Frag) (f:Nat) (i:FI) (a:Addr) (fd:FuncData) (body:List Stmt):Prop where
 at_:∃ o,K.lookup a=some o∧o.data=.func fd
 co:fd.scope.isCoroutine=false
 gen:fd.scope.isGenerator=false
 fk:fd.scope.kind=.function
 bod:fd.body=.stmts body
 clo:fd.closure=[]
 glo:fd.globals=mainGlobals
 bui:fd.builtins=builtinsNs
 code:∀ h,K.In h→h.CodeRec fd.code fd.qualname
 p1:fd.params.posonlyargs=[]
 p2:fd.params.kwonlyargs=[]
 p3:fd.params.vararg=none
 p4:fd.params.kwarg=none
 names:fd.params.args.map (·.arg)=(fvars f).take i.np
 dfl:∃ dv,((fd.defaults=.none∧dv=[])∨∃ T o n,fd.defaults=.ref T∧K.lookup T=some o∧o.data=.seq dv.toArray n)∧VRs [] i.defs dv
 mss:∃ n,body.map (trS n ⟨fun y=>fd.scope.names.lookup y,fvars f,[]⟩)=i.body
 nv:(fvars f).length=i.nv
 nd:(fvars f).Nodup
 dbg:∀ n∈fvars f,(n == dbgS)=false
 kinds:∀ n∈fvars f,fd.scope.names.lookup n=some .local∨fd.scope.names.lookup n=some .cell
 np:i.np≤i.nv
 dl:i.defs.length≤i.np
 isf:typeIn K (.ref a)=some (.type "function")
theorem ik (k:Str→Option NameKind):∀ (ns:List Str) (vs:List Value) (m:Str→Option Value) (x:Nat) (n:Str) (v:Value),ns.Nodup→ns[x]?=some n→vs[x]?=some v→k n=some .local→bindL k (ns.zip vs) m n=some v:=by
 have other:∀ (ns:List Str) (vs:List Value) (m:Str→Option Value) (n:Str),n ∉ ns→bindL k (ns.zip vs) m n=m n:=by
  intro ns
  induction ns with
  | nil=>intro vs m n _;rfl
  | cons a r ih =>
   intro vs m n h
   cases vs with
   | nil=>rfl
   | cons w ws =>
    show bindL k (r.zip ws) (if k a=some .local then fun y=>if y=a then some w else m y else m) n=m n
    rw [ih _ _ _ (fun q=>h (.tail _ q))]
    split
    ·exact if_neg fun (q:n=a)=>h (q ▸ .head _)
    ·rfl
 intro ns
 induction ns with
 | nil=>intro vs m x n v _ h;exact nS h
 | cons a r ih =>
  intro vs m x n v nd h h' hk
  cases vs with
  | nil=>exact nS h'
  | cons w ws =>
   show bindL k (r.zip ws) (if k a=some .local then fun y=>if y=a then some w else m y else m) n=some v
   cases x with
   | zero =>
    cases h;cases h'
    rw [other _ _ _ _ (List.nodup_cons.mp nd).1,if_pos hk]
    simp
   | succ x=>exact ih ws _ x n v (List.nodup_cons.mp nd).2 (by simpa using h) (by simpa using h') hk
theorem il (k:Str→Option NameKind):∀ (ns:List Str) (vs:List Value) (m:Str→Option Value) (x:Nat) (n:Str) (v:Value),ns.Nodup→ns[x]?=some n→vs[x]?=some v→k n≠some .local→bindC k (ns.zip vs) m n=some v:=by
 have other:∀ (ns:List Str) (vs:List Value) (m:Str→Option Value) (n:Str),n ∉ ns→bindC k (ns.zip vs) m n=m n:=by
  intro ns
  induction ns with
  | nil=>intro vs m n _;rfl
  | cons a r ih =>
   intro vs m n h
   cases vs with
   | nil=>rfl
   | cons w ws =>
    show bindC k (r.zip ws) (if k a=some .local then m else fun y=>if y=a then some w else m y) n=m n
    rw [ih _ _ _ (fun q=>h (.tail _ q))]
    split
    ·rfl
    ·exact if_neg fun (q:n=a)=>h (q ▸ .head _)
 intro ns
 induction ns with
 | nil=>intro vs m x n v _ h;exact nS h
 | cons a r ih =>
  intro vs m x n v nd h h' hk
  cases vs with
  | nil=>exact nS h'
  | cons w ws =>
   show bindC k (r.zip ws) (if k a=some .local then m else fun y=>if y=a then some w else m y) n=some v
   cases x with
   | zero =>
    cases h;cases h'
    rw [other _ _ _ _ (List.nodup_cons.mp nd).1,if_neg hk]
    simp
   | succ x=>exact ih ws _ x n v (List.nodup_cons.mp nd).2 (by simpa using h) (by simpa using h') hk
theorem bJ:∀ (names:List (Str×NameKind)) (k:Nat) (acc:List (Str×Addr)) (n:Str),names.lookup n=some .cell→((cellsFrom k names acc).lookup n).isSome=true:=by
 have keep:∀ (names:List (Str×NameKind)) (k:Nat) (acc:List (Str×Addr)) (n:Str),(acc.lookup n).isSome=true→((cellsFrom k names acc).lookup n).isSome=true:=by
  intro names
  induction names with
  | nil=>intro k acc n h;exact h
  | cons a r ih =>
   intro k acc n h
   obtain ⟨nm,kd⟩:=a
   unfold cellsFrom
   split
   ·refine ih _ _ _ ?_
    rw [List.lookup_cons]
    split
    ·rfl
    ·exact h
   ·exact ih _ _ _ h
 intro names
 induction names with
 | nil=>intro k acc n h;exact nS h
 | cons a r ih =>
  intro k acc n h
  obtain ⟨nm,kd⟩:=a
  rw [List.lookup_cons] at h
  unfold cellsFrom
  split at h
  ·rename_i q
   cases h
   rw [if_pos (by rfl)]
   refine keep _ _ _ _ ?_
   rw [List.lookup_cons,q];rfl
  ·split <;> exact ih _ _ _ h
noncomputable def Room1 (d:Nat) (A:Around):Prop:=A.handled=none∧A.depth+2 * d+4<recursionLimit∧A.units+10 * d+97<cLine
theorem Room.one {d:Nat} {A:Around} (O:Room d A):Room1 d A:=⟨O.1,by have:=O.2.1;exact aa [_,_,_] [] (.ltN (.a (.a N0 (.m 2 N1)) (.k 4)) N2) (.ltN (.a (.a N0 (.m 2 N1)) (.k 5)) N2) [1,1] rfl this,by have:=O.2.2;exact aa [_,_,_] [] (.ltN (.a (.a N0 (.m 10 N1)) (.k 97)) N2) (.ltN (.a (.a N0 (.m 10 N1)) (.k 100)) N2) [1,1] rfl this⟩
section
variable (W:Wd) (h₀:Heap) (fa:Nat→Addr)
noncomputable def SCl (d:Nat) (f:Nat) (vs:List AV) (σ:Hp) (r:AV) (σ':Hp):Prop :=
 ∀ ⦃A:Around⦄ ⦃s:Shared⦄ ⦃ρ:Rho⦄ ⦃vals:List Value⦄ ⦃R:Result→Shared→Prop⦄,Rel W h₀ ρ σ s.heap→Room1 d A→VRs ρ vs vals →
  OkV W h₀ σ' ρ s [] r (fun v s'=>R (.ok (.ret v)) s')→codeAny (model W.prog W.w) A (.call (.ref (fa f)) ⟨vals,[]⟩) R s
end
section
variable {W:Wd} {h₀:Heap} {K:Frag} {fa:Nat→Addr} {d:Nat} {σ:Hp}
theorem e9 {f:Nat} {i:FI} {a:Addr} {fd:FuncData} {body:List Stmt} {s s1:Shared} {ρ:Rho} {W':List AV} {vals:List Value} (B:FnOK K f i a fd body) (R:Rel W h₀ ρ σ s.heap) (rv:VRs ρ W' vals) (hl:W'.length=i.np)
  (x:InCallC s (callEnvC fd s.heap.objs.size a).locals (bindL (callEnvC fd s.heap.objs.size a).kindOf (((fvars f).take i.np).zip vals) fun _=>none) (callEnvC fd s.heap.objs.size a).cells
    (bindC (callEnvC fd s.heap.objs.size a).kindOf (((fvars f).take i.np).zip vals) fun _=>none) s1) :
  EnvR h₀ ⟨fun y=>fd.scope.names.lookup y,fvars f,[]⟩ (callEnvC fd s.heap.objs.size a) ρ s1.heap (W'.map some++List.replicate (i.nv - W'.length) none) []:=by
 have new:∀ c,s.heap.objs.size≤c→c ∉ own ρ∧h₀.get? c=none:=fun c hc=>⟨fun m=>Nat.lt_irrefl _ (Nat.lt_of_lt_of_le (R.lt m) hc),by
  cases q:h₀.get? c with
  | none=>rfl
  | some o=>exact absurd (Heap.lt_size (R.base c o q)) (Nat.not_lt.mpr hc)⟩
 have ndp:((fvars f).take i.np).Nodup:=B.nd.sublist (List.take_sublist _ _)
 have fr:∀ (y:Nat) (n:Str) (b:AV),(fvars f)[y]?=some n→(W'.map some++List.replicate (i.nv - W'.length) none)[y]?=some (some b)→∃ v,vals[y]?=some v∧VR ρ b v∧((fvars f).take i.np)[y]?=some n:=by
  intro y n b e h
  rw [List.getElem?_append] at h
  split at h
  ·rename_i hy
   rw [List.length_map] at hy
   rw [List.getElem?_map] at h
   refine cps fun _ hG=>?_
   obtain ⟨c,hc,e2⟩:=Option.map_eq_some_iff.mp h
   refine hG ?_
   clear hG
   apply s1Q e2
   obtain ⟨v,h1,h2⟩:=bT rv hc
   refine ⟨v,h1,h2,?_⟩
   rw [List.getElem?_take_of_lt (by exact ag [_,_,_] [] (.ltN N0 N1) (.eqN N2 N1) (.ltN N0 N2) [1,1,1] rfl hl hy),e]
  ·rw [List.getElem?_replicate] at h
   split at h <;> (first | exact nS h | cases h)
 refine ⟨B.fk,B.glo,B.bui,fun y h=>h,B.nd,?_,new _ (Nat.le_refl _),?_,fun n hn=>B.dbg n (by simpa using hn),fun y n e=>?_,⟨_,x.toInCall.ns,fun y n b e hk h=>?_⟩,fun y n e=>by exact nS e⟩
 ·refine List.nodup_cons.mpr ⟨fun m=>?_,?_⟩
  ·obtain ⟨p,hp,e⟩:=List.mem_map.mp m
   exact Nat.lt_irrefl _ (e ▸ x.above p.1 p.2 hp)
  ·exact List.pairwise_map.mpr x.apart
 ·have:=B.np;have:=B.nv;simp;exact gT [_,_,_,_] [] (.eqN (.a N0 N1) N2) (.eqN N2 N3) (.leN N3 (.a N1 N0)) (.eqN (.a N1 N0) N3) [1,-1,0,1] [1,1,1,0] rfl this (af _ _) (ab (ag [_,_,_] [] (.leN N0 N1) (.eqN N0 N2) (.leN N2 N1) [1,1,1] rfl hl (by assumption)))
 ·rcases B.kinds n (List.mem_of_getElem? e) with k | k
  ·exact .inl ⟨k,k⟩
  ·refine .inr ⟨k,k,?_⟩
   obtain ⟨c,hc⟩:=Option.isSome_iff_exists.mp (bJ fd.scope.names (s.heap.objs.size+1) [] n k)
   refine ⟨c,_,hc,x.cell n c hc,fun b hb=>?_,new c (Nat.le_of_lt (x.above n c (mem_of_lookup hc)))⟩
   have hb':(W'.map some++List.replicate (i.nv - W'.length) none)[y]?=some (some b):=by
    cases q:(W'.map some++List.replicate (i.nv - W'.length) none)[y]? with
    | none=>rw [q] at hb;exact nS hb
    | some z=>rw [q] at hb;exact congrArg some hb
   obtain ⟨v,h1,h2,h3⟩:=fr y n b e hb'
   exact ⟨v,il _ _ _ _ y _ v ndp h3 h1 (fun z=>by
    have z':fd.scope.names.lookup n=some .local:=z
    rw [k] at z';cases z'),h2⟩
 ·refine cps fun _ hG=>?_
  obtain ⟨v,h1,h2,h3⟩:=fr y n b e h
  refine hG ?_
  clear hG
  exact ⟨v,ik _ _ _ _ y _ v ndp h3 h1 hk,h2⟩
theorem SCl.run {f:Nat} {i:FI} {fd:FuncData} {body:List Stmt} {vs:List AV} {fr fr':Fm} {w:Fw} {r:AV} {σ':Hp} (T:Top2 K h₀) (B:FnOK K f i (fa f) fd body) (hf:mkFr i vs=some fr) (hs:SS W h₀ d ⟨fun y=>fd.scope.names.lookup y,fvars f,[]⟩ body fr σ w fr' σ')
  (hr:(w=.next∧r=.none)∨w=.ret r):SCl W h₀ fa (d+1) f vs σ r σ':=fun A s ρ vals R RR O rv k=>by
 obtain ⟨o,ho,hdat⟩:=B.at_
 have X:K.In s.heap:=T.X.keeps RR.base
 refine cps fun _ hG=>?_
 obtain ⟨pr,lo,mg,mb,T'⟩:=T.T
 refine hG ?_
 clear hG
 have hlim:s.heap.NoLimit:=T'.nolimit.keeps RR.base
 unfold mkFr padA at hf
 split at hf
 ·rename_i hc
  simp only [Option.map_some,Option.some.injEq] at hf
  obtain ⟨dv,hdv,rdv⟩:=B.dfl
  have rdv':VRs ρ i.defs dv:=VRs.mono (List.nil_prefix) rdv
  have hvl:=rv.length
  have hdl:=rdv.length
  have hnl:((fvars f).take i.np).length=i.np:=by have:=B.nv;have:=B.np;simp;exact (Nat.min_eq_left (ag [_,_,_] [] (.leN N0 N1) (.eqN N1 N2) (.leN N0 N2) [1,-1,1] rfl (by assumption) this))
  have hW:(vs++i.defs.drop (vs.length+i.defs.length - i.np)).length=i.np:=by have:=B.dl;simp;exact bp [_,_,_,_,_] [] (.eqN (.a N0 N1) N2) (.leN (.a N0 N3) (.a N4 N2)) (.leN N3 (.a N1 N4)) (.eqN (.a N4 N2) (.a N0 N3)) (.eqN (.a N1 N4) N3) [1,1,0,0,1] [1,0,1,1,0] rfl (af _ _) (af _ _) (ab (hc.2)) (ab (ag [_,_,_,_] [] (.leN N0 N1) (.leN N2 N3) (.eqN (.a N0 N3) (.a N2 N1)) [1,1,1] rfl hc.1 (ab (hc.2))))
  have rW:VRs ρ (vs++i.defs.drop (vs.length+i.defs.length - i.np)) (vals++dv.drop (vals.length+dv.length - i.np)):=by
   rw [← hvl,← hdl];exact aI rv (cH _ rdv')
  refine codeAny_call_function (by have:=O.2.1;exact aa [_,_,_] [] (.ltN N0 N1) (.ltN (.a (.a N0 (.m 2 (.a N2 (.k 1)))) (.k 4)) N1) [1,1] rfl this) (X _ _ ho) hdat B.co B.gen B.bod (B.code _ X) ?_
  refine jC (ds:=dv) B.p1 B.p2 B.p3 B.p4 B.names (B.nd.sublist (List.take_sublist _ _)) ?_ (by rw [hnl,← hvl];exact hc.1) (by rw [hnl,← hvl,← hdl];exact hc.2) (by rw [hnl,← hdl];exact B.dl) ?_
  ·rcases hdv with h | ⟨T,o,n,h1,h2,h3⟩
   ·exact .inl h
   ·exact .inr ⟨T,o,n,h1,X _ _ h2,h3⟩
  rw [hnl,B.clo]
  refine wpAny_newFunctionEnv_cells B.fk (fun x hx=>?_) fun env he s' x=>?_
  ·have hm:=(List.of_mem_zip hx).1
   rcases B.kinds _ (List.mem_of_mem_take hm) with k | k
   ·exact .inl k
   ·exact .inr ⟨k,bJ _ _ _ _ k⟩
  ·subst he
   have kk:=x.toInCall.keep
   refine ⟨hlim.keeps kk,codeAny_func ?_⟩
   have E0:=e9 (W:=W) (K:=K) B RR rW hW x
   obtain ⟨h1,tk1,rfl⟩:=x.toInCall.same
   have P1:Post W h₀ [] ρ ρ σ s.heap h1:=Post.keeps RR kk
   have fre:∀ c,s.heap.objs.size≤c→s.heap.get? c=none:=fun c hc=>by
    cases q:s.heap.get? c with
    | none=>rfl
    | some o=>exact absurd (Heap.lt_size q) (Nat.not_lt.mpr hc)
   rw [← hf] at hs
   refine hs E0 P1.rel ⟨O.1,by have:=O.2.1;show A.depth+1+2 * d+5<_;exact aa [_,_,_] [] (.ltN (.a (.a (.a N0 (.k 1)) (.m 2 N1)) (.k 5)) N2) (.ltN (.a (.a N0 (.m 2 (.a N1 (.k 1)))) (.k 4)) N2) [1,1] rfl this,by have:=O.2.2;show A.units+3+10 * d+100<_;exact aa [_,_,_] [] (.ltN (.a (.a (.a N0 (.k 3)) (.m 10 N1)) (.k 100)) N2) (.ltN (.a (.a N0 (.m 10 (.a N1 (.k 1)))) (.k 97)) N2) [1,1] rfl this⟩ fun ρ' fl h' tk P F' rf=>?_
   have PP:=P1.leave P fun c hc=>by
    rcases List.mem_cons.mp hc with rfl | hc
    ·exact fre _ (Nat.le_refl _)
    ·obtain ⟨n,_,e⟩:=List.mem_filterMap.mp hc
     split at e
     ·exact fre _ (Nat.le_of_lt (x.above _ c (mem_of_lookup e)))
     ·exact nS e
   rcases hr with ⟨rfl,rfl⟩ | rfl
   ·cases rf
    exact k ρ' .none h' tk PP rfl
   ·obtain ⟨v,rfl,rv'⟩:=rf
    exact k ρ' v h' tk PP rv'
 ·exact nS hf
end
structure ClsOK (W:Wd) (K:Frag) (fa:Nat→Addr) (c:Nat):Prop where
 name:nsIn K mainGlobals (clS c)=some (some (.ref (W.ca c)))
 keep:keepIn K (.ref (W.ca c))=true
 makes:makesIn K (W.ca c)=true
 init:findIn K (.ref (W.ca c)) "__init__"=some (some (.ref (fa (itab c))))
 isf:typeIn K (.ref (fa (itab c)))=some (.type "function")
 ga:findIn K (.ref (W.ca c)) "__getattribute__"=some (some (.builtin "object.__getattribute__"))
 gt:findIn K (.ref (W.ca c)) "__getattr__"=some none
 meths:∀ m f,mtab c m=some f→findIn K (.ref (W.ca c)) (nmS m)=some (some (.ref (fa f)))∧typeIn K (.ref (fa f))=some (.type "function")∧keepIn K (.ref (fa f))=true
 dbg:(clS c == dbgS)=false
theorem eo (name:Str) (es:List DictEntry) (n:Nat):lookIn name (dictOf es n)=getL name es:=by
 unfold lookIn getL
 cases h:es.find? (·.key.isStr name) <;> simp [h,← Array.any_toList]
section
variable {W:Wd} {h₀:Heap} {K:Frag} {fa:Nat→Addr} {d:Nat} {V:Cx} {fr out:Fm} {σ σ1 σ2 σ3:Hp} {x:Expr} {xs:List Expr} {p q:Pos} {f c m:Nat} {vs:List AV} {r:AV}
theorem SE.callF (hkind:V.kind (fnS f)=some .globalImplicit) (T:Top2 K h₀) (hn:nsIn K mainGlobals (fnS f)=some (some (.ref (fa f)))) (hk:keepIn K (.ref (fa f))=true) (hd:(fnS f == dbgS)=false)
  (hs:SL W h₀ d V xs fr out σ vs σ1) (ns:xs.all tame=true) (hc:SCl W h₀ fa d f vs σ1 r σ2):SE W h₀ d V (.Call (.Name (fnS f) p) xs [] q) fr out σ r σ2:=fun env A s ρ Q E F R O k=>by
 refine Call_Name rfl (bV T F R hkind hn hd ?_)
 refine callWith_of (P:=K.In) (by rw [(bf ns).1];rfl) (keeps_K hk) (bY hs ns F R O fun ρ1 vals h1 tk P r1=>⟨T.X.keeps P.rel.base,?_⟩)
 refine wpAny_call (hc P.rel O.one r1 fun ρ2 v h2 tk2 P2 r2=>?_)
 exact k _ _ _ _ (P.trans P2) r2
theorem gv {ρ:Rho} {h:Heap} (R:Rel W h₀ ρ σ h) :
  Post W h₀ [] ρ (ρ++[(h.objs.size+1,some h.objs.size)]) (σ++[.inst c []]) h ((h.push emptyDict).push (instObj (W.ca c) h.objs.size)):=by
 have hsz:(h.push emptyDict).objs.size=h.objs.size+1:=Heap.size_push ..
 have g1:((h.push emptyDict).push (instObj (W.ca c) h.objs.size)).get? (h.objs.size+1)=some (instObj (W.ca c) h.objs.size):=by
  have:=Heap.get?_push_size (h.push emptyDict) (o:=instObj (W.ca c) h.objs.size) rfl
  rwa [hsz] at this
 have g2:((h.push emptyDict).push (instObj (W.ca c) h.objs.size)).get? h.objs.size=some emptyDict:=Heap.get?_push_of_some _ (Heap.get?_push_size _ rfl)
 have dead:∀ a,h.objs.size≤a→h.get? a=none:=fun a ha=>by
  cases q:h.get? a with
  | none=>rfl
  | some o=>exact absurd (Heap.lt_size q) (Nat.not_lt.mpr ha)
 refine Post.alloc R (fun b o e=>Heap.get?_push_of_some _ (Heap.get?_push_of_some _ e)) (fun a ha=>?_) (by simp [adr]) ⟨h.objs.size,[],0,rfl,g1,g2,.nil,by simp,by simp,by simp⟩
 rcases List.mem_cons.mp ha with rfl | ha
 ·exact ⟨dead _ (Nat.le_succ _),_,g1⟩
 ·have:a=h.objs.size:=by simpa using ha
  subst this
  exact ⟨dead _ (Nat.le_refl _),_,g2⟩
theorem SE.new (hkind:V.kind (clS c)=some .globalImplicit) (T:Top2 K h₀) (B:ClsOK W K fa c)
  (hs:SL W h₀ d V xs fr out σ vs σ1) (ns:xs.all tame=true) (hc:SCl W h₀ fa d (itab c) (.ref σ1.length::vs) (σ1++[.inst c []]) .none σ2):SE W h₀ d V (.Call (.Name (clS c) p) xs [] q) fr out σ (.ref σ1.length) σ2:=fun env A s ρ Q E F R O k=>by
 refine Call_Name rfl (bV T F R hkind B.name B.dbg ?_)
 refine callWith_of (P:=K.In) (by rw [(bf ns).1];rfl) (keeps_K B.keep) (bY hs ns F R O fun ρ1 vals h1 tk P r1=>⟨T.X.keeps P.rel.base,?_⟩)
 have X:K.In h1:=T.X.keeps P.rel.base
 refine wpAny_call ?_
 have IP:=gv (c:=c) P.rel
 refine make_core (makes_of X B.makes) (looks_findIn X B.init) (fun self=>bind_fn X self B.isf) (.inl rfl) ?_
 refine hc (s:=⟨_,s.gens,s.drawn,tk,s.os⟩) IP.rel ⟨O.1,?_,?_⟩ (.cons ⟨(h1.objs.size+1,some h1.objs.size),by rw [← P.rel.len];simp,rfl⟩ (VRs.mono IP.pre r1)) fun ρ2 v h2 tk2 P2 r2=>?_
 ·have h1:=O.2.1
  show A.depth+(Code.builtin "type.__call__" ⟨.ref (W.ca c)::vals,[]⟩).weight+2 * d+4<_
  have:(Code.builtin "type.__call__" ⟨.ref (W.ca c)::vals,[]⟩).weight=1:=by rfl
  rw [this];exact aa [_,_,_] [] (.ltN (.a (.a (.a N0 (.k 1)) (.m 2 N1)) (.k 4)) N2) (.ltN (.a (.a N0 (.m 2 N1)) (.k 5)) N2) [1,1] rfl h1
 ·have h1:=O.2.2
  show A.units+(Code.builtin "type.__call__" ⟨.ref (W.ca c)::vals,[]⟩).cUnits+10 * d+97<_
  have:(Code.builtin "type.__call__" ⟨.ref (W.ca c)::vals,[]⟩).cUnits=1:=by rfl
  rw [this];exact aa [_,_,_] [] (.ltN (.a (.a (.a N0 (.k 1)) (.m 10 N1)) (.k 97)) N2) (.ltN (.a (.a N0 (.m 10 N1)) (.k 100)) N2) [1,1] rfl h1
 ·cases r2
  refine ⟨rfl,?_⟩
  refine k _ _ _ _ ((P.trans IP).trans P2) ?_
  exact VR.mono P2.pre ⟨(h1.objs.size+1,some h1.objs.size),by rw [← P.rel.len];simp,rfl⟩
theorem SE.methO {i:Nat} {fs:List (Nat×AV)} (hb:basePlain x=true) (hline:p.endLine=q.line) (hn:xs.length<30) (T:Top2 K h₀) (B:ClsOK W K fa c) (he:SE W h₀ d V x fr out σ (.ref i) σ1) (hi:σ1[i]?=some (.inst c fs)) (hl:fs.lookup m=Option.none) (hm:mtab c m=some f)
  (hs:SL W h₀ d V xs fr out σ1 vs σ2) (ns:xs.all tame=true) (hc:SCl W h₀ fa d f (.ref i::vs) σ2 r σ3):SE W h₀ d V (.Call (.Attribute x (nmS m) p) xs [] q) fr out σ r σ3:=fun env A s ρ Q E F R O k=>by
 obtain ⟨m1,m2,m3⟩:=B.meths m f hm
 rw [arm_eval_Call,bN hb]
 refine wpAny_bind (he F R O fun ρ1 v h1 tk P r1=>?_)
 refine wpAny_bind (wpAny_standAt ?_)
 have X:K.In h1:=T.X.keeps P.rel.base
 (apply cr P.rel hi;intro pp dx es n hp h2 I D fr' _ _ _)
 cases bL r1 hp
 have g:=hH (f:=m) fr'
 rw [hl] at g
 have hform:methodCallForm (xs.length+([]:List Keyword).length) (backTo q (starEach xs env)) (backToKw q (keywordEach [] env))=true:=by
  unfold methodCallForm
  rw [(bf ns).2]
  exact (decide_eq_true hn:decide (xs.length<30)=true)
 have hpos:methodCallPos true x env p q=pure q:=by unfold methodCallPos;simp [hline]
 unfold methodCall
 rw [hform]
 refine wpAny_bind (wpAny_holding ?_)
 show wpAny _ A (getMethod _ _ _) _ E _
 refine method_fn X I B.ga B.gt m1 m2 ?_ ?_
 ·show (lookIn _ (dictOf es n)).map (·.isSome)=some false
  rw [eo,g];rfl
 ·refine wpAny_bind (wpAny_of_eq hpos ?_)
  refine callWith_of (P:=K.In) (by rw [(bf ns).1];rfl) (keeps_K m3) (bY hs ns (F.post P) P.rel O fun ρ2 vals h2 tk2 P2 r2=>⟨T.X.keeps P2.rel.base,?_⟩)
  refine wpAny_call (hc P2.rel O.one (.cons (VR.mono P2.pre r1) r2) fun ρ3 v h3 tk3 P3 r3=>?_)
  exact k _ _ _ _ ((P.trans P2).trans P3) r3
end
theorem cZ {l:List Nat} {i:Nat}:∀ {k:Nat},posOf l i=some k→l[k]?=some i:=by
 induction l with
 | nil=>intro k h;exact nS h
 | cons a r ih =>
  intro k h
  unfold posOf at h
  split at h
  ·rename_i e;apply s1Q h;rw [e];rfl
  ·obtain ⟨m,hm,rfl⟩:=Option.map_eq_some_iff.mp h
   exact ih hm
theorem c7 {l:List Nat} {i:Nat} (h:posOf l i=none):i ∉ l:=by
 induction l with
 | nil=>simp
 | cons a r ih =>
  unfold posOf at h
  split at h
  ·exact sN h
  ·rename_i e
   intro m
   rcases List.mem_cons.mp m with q | m
   ·exact e q.symm
   ·exact ih (Option.map_eq_none_iff.mp h) m
theorem fb {l:List Nat} (h:ndB l=true):l.Nodup:=by
 induction l with
 | nil=>exact .nil
 | cons a r ih =>
  unfold ndB at h
  obtain ⟨h1,h2⟩:=Bool.and_eq_true_iff.mp h
  exact List.nodup_cons.mpr ⟨c7 (Option.isNone_iff_eq_none.mp h1),ih h2⟩
theorem fI {σ:Hp} {l:List Nat}:∀ {os:Hp},pick σ l=some os→os.length=l.length∧∀ (k i:Nat),l[k]?=some i→∃ o,σ[i]?=some o∧os[k]?=some o:=by
 induction l with
 | nil=>intro os h;apply s1Q h;exact ⟨rfl,fun k i e=>by exact nS e⟩
 | cons a r ih =>
  intro os h
  unfold pick at h
  cases e1:σ[a]? with
  | none=>rw [e1] at h;exact nS h
  | some o =>
   cases e2:pick σ r with
   | none=>rw [e1,e2] at h;exact nS h
   | some os' =>
    rw [e1,e2] at h
    apply s1Q h
    obtain ⟨x,y⟩:=ih e2
    refine ⟨congrArg Nat.succ x,fun k i e=>?_⟩
    cases k with
    | zero=>apply s1Q e;exact ⟨o,e1,rfl⟩
    | succ k=>exact y k i e
theorem ct {g:AV→AV} {l:List Nat}:∀ {τ σ:Hp},(wback g l τ σ).length=σ.length:=by
 induction l with
 | nil=>intro τ σ;rfl
 | cons a r ih=>intro τ σ;cases τ with | nil=>rfl | cons o τ=>exact (ih (τ:=τ) (σ:=σ.set a (mapO g o))).trans (List.length_set ..)
theorem cC {g:AV→AV} {j:Nat} {l:List Nat}:∀ {τ σ:Hp},j ∉ l→(wback g l τ σ)[j]?=σ[j]?:=by
 induction l with
 | nil=>intro τ σ _;rfl
 | cons a r ih =>
  intro τ σ h
  cases τ with
  | nil=>rfl
  | cons o τ=>exact (ih (τ:=τ) (σ:=σ.set a (mapO g o)) fun q=>h (.tail _ q)).trans (List.getElem?_set_ne (fun q:a=j=>h (q ▸ .head _)))
theorem im {g:AV→AV} {j:Nat} {o:AO} {l:List Nat}:∀ {τ σ:Hp} {k:Nat},l.Nodup→l[k]?=some j→τ[k]?=some o→j<σ.length→(wback g l τ σ)[j]?=some (mapO g o):=by
 induction l with
 | nil=>intro τ σ k _ h;exact nS h
 | cons a r ih =>
  intro τ σ k nd h h' hj
  cases τ with
  | nil=>exact nS h'
  | cons o' τ =>
   cases k with
   | zero =>
    cases h;cases h'
    refine (cC (τ:=τ) (σ:=σ.set j (mapO g o)) (List.nodup_cons.mp nd).1).trans ?_
    rw [List.getElem?_set]
    simp [hj]
   | succ k=>exact ih (List.nodup_cons.mp nd).2 h h' (by rw [List.length_set];exact hj)
theorem cu {α β γ:Type} {F:α→β→Prop} {G:γ→β→Prop} {g:α→γ} (f:∀ a b,F a b→G (g a) b):∀ {l:List α} {m:List β},Paired F l m→Paired G (l.map g) m
 | _,_,.nil=>.nil
 | _,_,.cons a b=>.cons (f _ _ a) (cu f b)
theorem ObjAt.ren {W:Wd} {ρ ρ':Rho} {h:Heap} {p o} {g:AV→AV} (hg:∀ a v,VR ρ a v→VR ρ' (g a) v) (x:ObjAt W ρ h p o):ObjAt W ρ' h p (mapO g o):=by
 cases o with
 | list xs=>obtain ⟨i,n,a,b,z⟩:=x;exact ⟨i,n,a,cu hg b,by rw [List.length_map];exact z⟩
 | tup xs=>obtain ⟨i,n,a,b,z⟩:=x;exact ⟨i,n,a,cu hg b,by rw [List.length_map];exact z⟩
 | inst c fs =>
  refine cps fun _ hG=>?_
  obtain ⟨d,es,n,a,b,c',e,f,g1,g2⟩:=x
  refine hG ?_
  clear hG
  refine ⟨d,es,n,a,b,c',cu (fun q e y=>⟨y.1,hg _ _ y.2⟩) e,by rw [List.length_map];exact f,fun q hq=>?_,?_⟩
  ·obtain ⟨q',hq',rfl⟩:=List.mem_map.mp hq
   exact g1 q' hq'
  ·rw [List.map_map];exact g2
 | dict es=>obtain ⟨k,a,b,c,z⟩:=x;exact ⟨k,a,b,cu (fun q e y=>⟨y.1,hg _ _ y.2⟩) c,by rw [List.length_map];exact z⟩
 | fro xs=>exact x
noncomputable def sub0 (ρ:Rho) (l:List Nat):Rho:=l.map fun i=>(ρ[i]?).getD (0,none)
theorem bz {ρ:Rho} {l:List Nat} {k i:Nat} {p} (h:l[k]?=some i) (hp:ρ[i]?=some p):(sub0 ρ l)[k]?=some p:=by
 unfold sub0;rw [List.getElem?_map,h];simp [hp]
theorem ba {ρ:Rho} {l:List Nat} (hl:∀ i∈l,i<ρ.length) {a:Addr} (m:a∈own (sub0 ρ l)):∃ i p,i∈l∧ρ[i]?=some p∧a∈adr p:=by
 refine cps fun _ hG=>?_
 obtain ⟨p,hp,ha⟩:=List.mem_flatMap.mp m
 refine hG ?_
 clear hG
 obtain ⟨i,hi,e⟩:=List.mem_map.mp hp
 have:=List.getElem?_eq_getElem (hl i hi)
 rw [this] at e
 exact ⟨i,ρ[i]'(hl i hi),hi,this,by rw [show ρ[i]'(hl i hi)=p from e];exact ha⟩
theorem gw {ρ:Rho} (nd:(own ρ).Nodup) {i:Nat} {p} (e:ρ[i]?=some p):(adr p).Nodup:=by
 obtain ⟨h1,h2⟩:=List.getElem?_eq_some_iff.mp e
 have:(own ρ)=own (ρ.take i)++(adr p++own (ρ.drop (i+1))):=by
  conv=>lhs;rw [← List.take_append_drop i ρ]
  unfold own
  rw [List.flatMap_append,List.drop_eq_getElem_cons h1,List.flatMap_cons,h2]
 rw [this] at nd
 exact (List.nodup_append.mp (List.nodup_append.mp nd).2.1).1
theorem bO {ρ:Rho} (nd:(own ρ).Nodup):∀ {l:List Nat},l.Nodup→(∀ i∈l,i<ρ.length)→(own (sub0 ρ l)).Nodup
 | [],_,_=>List.nodup_nil
 | i::r,hn,hl=>by
  obtain ⟨h1,h2⟩:=List.nodup_cons.mp hn
  have hi:=List.getElem?_eq_getElem (hl i (.head _))
  show (adr ((ρ[i]?).getD (0,none))++own (sub0 ρ r)).Nodup
  rw [hi]
  refine List.nodup_append.mpr ⟨gw nd hi,bO nd h2 fun j hj=>hl j (.tail _ hj),fun a ha b hb q=>?_⟩
  obtain ⟨j,p,hj,e,hb'⟩:=ba (fun j hj=>hl j (.tail _ hj)) hb
  exact cn nd hi e (fun z=>h1 (z ▸ hj)) ha hb' q
section
variable {W:Wd} {h₀:Heap} {fa:Nat→Addr} {d:Nat} {σ:Hp}
theorem SCl.iso {f:Nat} {vs:List AV} {sel kp:List Nat} {sub τ new:Hp} {r:AV} (h1:ndB sel=true) (h2:pick σ sel=some sub) (hc:SCl W h₀ fa d f (vs.map (ren sel)) (sub.map (mapO (ren sel))) r τ)
  (h3:ndB kp=true) (h4:kp.all (fun k=>decide (sel.length≤k))=true) (h5:pick τ kp=some new) :
  SCl W h₀ fa d f vs σ (bak sel kp σ.length r) (wback (bak sel kp σ.length) sel τ σ++new.map (mapO (bak sel kp σ.length))):=fun A s ρ vals R RR O rv k=>by
 have nds:=fb h1
 have ndk:=fb h3
 obtain ⟨l1,a1⟩:=fI h2
 obtain ⟨l2,a2⟩:=fI h5
 have hlen:=RR.len
 have sl:∀ i∈sel,i<ρ.length:=fun i hi=>by
  obtain ⟨k,hk⟩:=List.mem_iff_getElem?.mp hi
  obtain ⟨o,e,_⟩:=a1 k i hk
  have:=(List.getElem?_eq_some_iff.mp e).1
  exact ag [_,_,_] [] (.ltN N0 N1) (.eqN N1 N2) (.ltN N0 N2) [1,-1,1] rfl hlen this
 have rn:∀ a v,VR ρ a v→VR (sub0 ρ sel) (ren sel a) v:=by
  intro a v r
  cases a with
  | ref i =>
   obtain ⟨p,hp,rfl⟩:=r
   dsimp only [ren]
   cases q:posOf sel i with
   | none=>rfl
   | some k=>exact ⟨p,bz (cZ q) hp,rfl⟩
  | none=>exact r
  | bool b=>exact r
  | int b=>exact r
  | str b=>exact r
  | opq=>exact r
 have own_sub:∀ a∈own (sub0 ρ sel),a∈own ρ:=fun a m=>by
  obtain ⟨i,p,_,e,ha⟩:=ba sl m
  exact be e ha
 have R0:Rel W h₀ (sub0 ρ sel) (sub.map (mapO (ren sel))) s.heap:=by
  refine ⟨RR.base,by unfold sub0;simp [l1],bO RR.nd nds sl,fun a m=>RR.fresh a (own_sub a m),fun a m=>RR.live a (own_sub a m),fun j o e=>?_⟩
  rw [List.getElem?_map] at e
  obtain ⟨o',e',rfl⟩:=Option.map_eq_some_iff.mp e
  have hj:j<sel.length:=by have:=(List.getElem?_eq_some_iff.mp e').1;exact ag [_,_,_] [] (.ltN N0 N1) (.eqN N2 N1) (.ltN N0 N2) [1,1,1] rfl l1 this
  obtain ⟨o2,b1,b2⟩:=a1 j _ (List.getElem?_eq_getElem hj)
  rw [e'] at b2;cases b2
  obtain ⟨p,c1,c2⟩:=RR.objs _ _ b1
  exact ⟨p,bz (List.getElem?_eq_getElem hj) c1,c2.ren rn⟩
 refine hc R0 O (cu rn rv) fun ρ2 v h' tk P r2=>?_
 have kl:∀ i∈kp,i<ρ2.length:=fun i hi=>by
  obtain ⟨k,hk⟩:=List.mem_iff_getElem?.mp hi
  obtain ⟨o,e,_⟩:=a2 k i hk
  have:=(List.getElem?_eq_some_iff.mp e).1
  have:=P.rel.len
  exact ag [_,_,_] [] (.ltN N0 N1) (.ltN N0 N2) (.eqN N1 N2) [1,1,-1] rfl (by assumption) this
 have kge:∀ i∈kp,sel.length≤i:=fun i hi=>of_decide_eq_true (List.all_eq_true.mp h4 i hi)
 have s0len:(sub0 ρ sel).length=sel.length:=by unfold sub0;simp
 have knew:∀ a∈own (sub0 ρ2 kp),s.heap.get? a=none:=fun a m=>by
  refine cps fun _ hG=>?_
  obtain ⟨i,p,hi,e,ha⟩:=ba kl m
  refine hG ?_
  clear hG
  rcases P.new a (be e ha) with m' | m'
  ·refine cps fun _ hG=>?_
   obtain ⟨q,hq,ha'⟩:=List.mem_flatMap.mp m'
   refine hG ?_
   clear hG
   obtain ⟨j,hj⟩:=List.mem_iff_getElem?.mp hq
   have hjl:j<sel.length:=by have:=(List.getElem?_eq_some_iff.mp hj).1;exact ag [_,_,_] [] (.ltN N0 N1) (.eqN N2 N1) (.ltN N0 N2) [1,1,1] rfl s0len this
   have:=kge i hi
   exact absurd rfl (cn P.rel.nd e (aD P.pre hj) (by omega) ha ha')
  ·exact m'
 have bk:∀ a v,VR ρ2 a v→VR (ρ++sub0 ρ2 kp) (bak sel kp σ.length a) v:=by
  intro a v r
  cases a with
  | ref i =>
   obtain ⟨p,hp,rfl⟩:=r
   dsimp only [bak]
   cases q:sel[i]? with
   | some j =>
    have hj:=sl j (List.mem_of_getElem? q)
    have e1:=List.getElem?_eq_getElem hj
    have e2:=aD P.pre (bz q e1)
    rw [hp] at e2;cases e2
    exact ⟨_,aD (List.prefix_append _ _) e1,rfl⟩
   | none =>
    cases q2:posOf kp i with
    | none=>rfl
    | some kk =>
     refine ⟨p,?_,rfl⟩
     rw [← hlen,List.getElem?_append_right (by exact ak [_,_] [] (.leN N0 (.a N0 N1)) [1] rfl),Nat.add_sub_cancel_left]
     exact bz (cZ q2) hp
  | none=>exact r
  | bool b=>exact r
  | int b=>exact r
  | str b=>exact r
  | opq=>exact r
 refine k (ρ++sub0 ρ2 kp) v h' tk ⟨List.prefix_append _ _,⟨P.rel.base,?_,?_,?_,?_,?_⟩,fun b o nb _ e=>P.keep b o (fun m=>nb (own_sub b m)) (by simp) e,P.alive,?_⟩ (bk _ _ r2)
 ·rw [List.length_append,List.length_append,ct,List.length_map,l2,← hlen];unfold sub0;simp
 ·unfold own
  rw [List.flatMap_append]
  refine List.nodup_append.mpr ⟨RR.nd,bO P.rel.nd ndk kl,fun a ha b hb q=>?_⟩
  obtain ⟨o,e⟩:=RR.live a ha
  rw [q,knew b hb] at e;exact nS e
 ·intro a m
  unfold own at m
  rw [List.flatMap_append] at m
  rcases List.mem_append.mp m with m | m
  ·exact RR.fresh a m
  ·obtain ⟨i,p,_,e,ha⟩:=ba kl m
   exact P.rel.fresh a (be e ha)
 ·intro a m
  unfold own at m
  rw [List.flatMap_append] at m
  rcases List.mem_append.mp m with m | m
  ·obtain ⟨o,e⟩:=RR.live a m
   exact P.alive a o e
  ·obtain ⟨i,p,_,e,ha⟩:=ba kl m
   exact P.rel.live a (be e ha)
 ·intro j o e
  rw [List.getElem?_append] at e
  split at e
  ·rename_i hj
   rw [ct] at hj
   have hjr:j<ρ.length:=by exact ag [_,_,_] [] (.ltN N0 N1) (.eqN N1 N2) (.ltN N0 N2) [1,-1,1] rfl hlen hj
   have e1:=List.getElem?_eq_getElem hjr
   cases q:posOf sel j with
   | some kk =>
    have hkk:=cZ q
    have hkl:kk<τ.length:=by
     have a:=(List.getElem?_eq_some_iff.mp hkk).1
     have b:=P.pre.length_le
     have:=P.rel.len
     exact bR [_,_,_,_,_] [] (.ltN N0 N1) (.eqN N2 N3) (.ltN N0 N3) (.leN N2 N4) (.eqN N4 N1) [1,-1,1,1,1] rfl s0len a b this
    rw [im nds hkk (List.getElem?_eq_getElem hkl) hj] at e
    (revert k;apply s1Q e;intro k)
    obtain ⟨p,c1,c2⟩:=P.rel.objs kk _ (List.getElem?_eq_getElem hkl)
    have e2:=aD P.pre (bz hkk e1)
    rw [c1] at e2;cases e2
    exact ⟨_,aD (List.prefix_append _ _) e1,c2.ren bk⟩
   | none =>
    have hns:=c7 q
    rw [cC hns] at e
    refine cps fun _ hG=>?_
    obtain ⟨p,c1,c2⟩:=RR.objs j o e
    refine hG ?_
    clear hG
    refine ⟨p,aD (List.prefix_append _ _) c1,(c2.keep fun a ha x y=>P.keep a x (fun m=>?_) (by simp) y).mono (List.prefix_append _ _)⟩
    obtain ⟨i,p',hi,e',ha'⟩:=ba sl m
    exact cn RR.nd c1 e' (fun z=>hns (z ▸ hi)) ha ha' rfl
  ·rename_i hj
   rw [ct] at e hj
   rw [List.getElem?_map] at e
   obtain ⟨o',e',rfl⟩:=Option.map_eq_some_iff.mp e
   have hkl:j - σ.length<kp.length:=by have:=(List.getElem?_eq_some_iff.mp e').1;exact ag [_,_,_] [] (.ltN N0 N1) (.eqN N2 N1) (.ltN N0 N2) [1,1,1] rfl l2 this
   obtain ⟨o2,b1,b2⟩:=a2 _ _ (List.getElem?_eq_getElem hkl)
   rw [e'] at b2;cases b2
   obtain ⟨p,c1,c2⟩:=P.rel.objs _ _ b1
   refine ⟨p,?_,c2.ren bk⟩
   rw [List.getElem?_append_right (by exact ag [_,_,_] [] (.leN N0 N1) (.eqN N0 N2) (.n (.ltN N1 N2)) [1,1,1] rfl hlen hj),hlen]
   exact bz (List.getElem?_eq_getElem hkl) c1
 ·intro a m
  unfold own at m
  rw [List.flatMap_append] at m
  rcases List.mem_append.mp m with m | m
  ·exact .inl m
  ·exact .inr (knew a m)
end
end Mine
namespace Mine
open PySem PySem.W PyProof.Rows PySem.Calls PyProof.Rows.LSm
noncomputable def biVals:List Value:=[.builtin "len",.builtin "min",.builtin "max",.type "list",.builtin "abs",.builtin "ord",.builtin "chr",.builtin "sorted",.builtin "all",.type "tuple"]
noncomputable def biVal (b:Nat):Value:=nth biVals b .none
theorem jD:(biN.zip biVals).all (fun x=>bootBuiltins x.1 == some x.2 && !(x.1 == Str.ofString "__name__") && !(x.1 == dbgS))=true:=by decide +kernel
theorem er {ρ:Rho} {xs:List AV} {vs:List Value} (h:VRs ρ xs vs):∀ {bs:List Bool},boolsV xs=some bs→BoolsAre vs bs:=by
 induction h with
 | nil=>intro bs e;apply s1Q e;exact .nil
 | @cons a v l m ha hl ih =>
  intro bs e
  cases a with
  | bool i =>
   cases ha
   obtain ⟨ms,e2,rfl⟩:=Option.map_eq_some_iff.mp (show (boolsV l).map (i::·)=some _ from e)
   exact .cons i (ih e2)
  | _=>exact nS e
section
variable {W:Wd} {h₀:Heap} {σ:Hp}
theorem fc {A:Around} {s:Shared} {E:Value→Shared→Prop} {l:Addr} {vs:List Value} {bs:List Bool} {Q:Value→Shared→Prop} (hh:A.handled=none) (hl:s.heap.IsList l vs.toArray) (hb:BoolsAre vs bs)
  (h:∀ h' tk,(∀ b o,s.heap.get? b=some o→h'.get? b=some o)→Q (.bool (bs.all id)) { s with heap:=h',toks:=tk }):wpAny (model W.prog W.w) A (call (.builtin "all") [.ref l]) Q E s:=by
 have hlt:l<s.heap.objs.size:=by obtain ⟨_,e,_⟩:=hl;exact Heap.lt_size e
 refine call_all_walk (wpAny_pyIter_list hl ?_)
 refine ⟨s.heap.objs.size,[s.heap.objs.size,l],[s.heap.objs.size],vs.toArray.size,_,_,fun i=>(bs[i]?).getD true,rfl,Walks.list (A:=A.in1) hh _ l (Nat.ne_of_lt hlt) vs.toArray,
  ⟨⟨_,Heap.get?_push_size _ rfl,rfl,rfl⟩,hl.push _⟩,fun i v s' Q' E' hP hQ=>?_,fun h' tk hk=>?_⟩
 ·obtain ⟨b,e,rfl⟩:=hb.get i v (by simpa using hP)
  simp only [e,Option.getD_some] at hQ
  exact wpAny_truthy_bool hQ
 ·have e:((List.range vs.toArray.size).all fun i=>(bs[i]?).getD true)=bs.all id:=by
   rw [List.size_toArray,hb.length]
   refine Bool.eq_iff_iff.mpr ⟨fun q=>?_,fun q=>?_⟩
   ·refine List.all_eq_true.mpr fun b hb'=>?_
    obtain ⟨i,hi⟩:=List.mem_iff_getElem?.mp hb'
    have:=List.all_eq_true.mp q i (List.mem_range.mpr (List.getElem?_eq_some_iff.mp hi).1)
    rw [hi] at this;exact this
   ·refine List.all_eq_true.mpr fun i hi=>?_
    have hi':=List.mem_range.mp hi
    rw [List.getElem?_eq_getElem hi']
    exact List.all_eq_true.mp q _ (List.getElem_mem hi')
  rw [e]
  exact h h' tk (kept_iter hk)
theorem fe {A:Around} {s:Shared} {E:Value→Shared→Prop} {dd:Addr} {Q:Value→Shared→Prop} (hh:A.handled=none) (lo:(dd == sysModules)=false) (hd:s.heap.DictOf (intKind W.prog W.w) dd [])
  (h:∀ D h' tk n,(∀ b o,s.heap.get? b=some o→h'.get? b=some o)→s.heap.get? D=none→h'.get? D=some (listOf #[] n)→Q (.ref D) { s with heap:=h',toks:=tk }):wpAny (model W.prog W.w) A (call (.builtin "sorted") [.ref dd]) Q E s:=by
 obtain ⟨ep,hat⟩:=hd.dictAt
 refine call_function_entry kind_sorted plain_sorted entry_sorted (args_sorted1 _) ?_
 unfold Builtin.«sorted»
 refine wpAny_bind (m:=checkCount "sorted" 1 1 _) (wpAny_pure ?_)
 refine wpAny_bind (kdu_collect (A:=A.in1) (kdl_dict (knd:=intKind W.prog W.w) (kvs:=[]) (ep:=ep) lo) hh hat (Nat.zero_le _) fun h' tk acc hk hacc=>?_)
 have hl:acc.toList=[]:=List.eq_nil_of_length_eq_zero (by rw [Array.length_toList];exact hacc.1)
 refine wpAny_bind (wpAny_newList ?_ (by rw [hl];exact Nat.zero_le _))
 rw [hl]
 have hoL:(h'.push { cls:=.type "list",data:=.seq ([]:List Value).toArray }).get? h'.objs.size=some (seqObj "list" ([]:List Value).toArray 0):=Heap.get?_push_size _ rfl
 refine wpAny_bind (wpAny_holding (wpAny_call_entry PyProof.Rows.slot_list_sort ⟨_,hoL,rfl⟩ PyProof.Rows.entry_list_sort (list_sort_tree (vs:=[]) (ns:=[]) hoL .nil (by decide) fun o2 ns' a1 a2 a3=>⟨_,rfl,?_⟩) (PyProof.Rows.args_list_sort _)))
 have h0:ns'=[]:=List.Perm.eq_nil a2
 subst h0
 have ho:o2=#[]:=by
  have:o2.toList=[]:=by cases h:o2.toList with | nil=>rfl | cons=>rw [h] at a1;cases a1
  obtain ⟨l⟩:=o2
  simpa using this
 subst ho
 obtain ⟨e,he⟩:=sortedHeap_at (out:=#[]) hoL
 refine wpAny_pure ⟨_,rfl,h _ _ _ e (fun b o q=>?_) ?_ he⟩
 ·have hb:=hk b o q
  have hlt:=Heap.lt_size hb
  rw [sortedHeap_old (Nat.ne_of_lt hlt) (by rw [Heap.size_push];exact Nat.lt_succ_of_lt hlt)]
  exact Heap.get?_push_of_some _ hb
 ·cases q:s.heap.get? h'.objs.size with
  | none=>rfl
  | some o=>exact absurd (Heap.lt_size (hk _ _ q)) (Nat.lt_irrefl _)
end
section
variable {W:Wd} {h₀:Heap} {d:Nat} {V:Cx} {fr out:Fm} {σ σ1 σ2:Hp} {xs:List Expr} {env:Env} {as:List AV} {pos:Pos} {r:AV}
noncomputable def isBT:Value→Bool | .builtin _ | .type _=>true | _=>false
theorem fJ {A:Around} {s:Shared} {ρ:Rho} {f:Value} {Q:Value→Shared→Prop} {E:Value→Shared→Prop} (hf:isBT f=true)
  (hs:SL W h₀ d V xs fr out σ as σ1) (ns:xs.all tame=true) (F:EnvR h₀ V env ρ s.heap fr out) (R:Rel W h₀ ρ σ s.heap) (O:Room d A)
  (k:∀ ρ' vs h' tk,Post W h₀ [] ρ ρ' σ1 s.heap h'→VRs ρ' as vs→wpAny (model W.prog W.w) A (call f vs) Q E ⟨h',s.gens,s.drawn,tk,s.os⟩) :
  wpAny (model W.prog W.w) A (callWith pos f [] (backTo pos (starEach xs env)) []) Q E s:=by
 cases f with
 | builtin id=>exact ky hs ns F R O k
 | type T=>exact PyProof.Rows.callWith_type (bf ns).1 (bY hs ns F R O k)
 | _=>exact fT hf
theorem bP {ρ:Rho} {h h':Heap} {D:Addr} {o:Obj} {ao:AO} (R:Rel W h₀ ρ σ h) (hk:∀ b o,h.get? b=some o→h'.get? b=some o) (h1:h.get? D=none) (h2:h'.get? D=some o)
  (x:ObjAt W (ρ++[(D,none)]) h' (D,none) ao):Post W h₀ [] ρ (ρ++[(D,none)]) (σ++[ao]) h h':=by
 refine Post.alloc R hk (fun a ha=>?_) (by simp [adr]) x
 have:a=D:=by simpa [adr] using ha
 subst this
 exact ⟨h1,_,h2⟩
theorem bA {h h':Heap} (hk:∀ b o,h.get? b=some o→h'.get? b=some o):h.get? h'.objs.size=none:=by
 cases q:h.get? h'.objs.size with
 | none=>rfl
 | some o=>exact absurd (Heap.lt_size (hk _ _ q)) (Nat.lt_irrefl _)
section
variable {A:Around} {s:Shared} {ρ:Rho} {vs:List Value} {σ':Hp} {Q:Value→Shared→Prop} {E:Value→Shared→Prop} (R:Rel W h₀ ρ σ s.heap) (O:Room d A) (ra:VRs ρ as vs) (k:OkV W h₀ σ' ρ s [] r Q)
include R O ra k
omit R O k in
theorem bg {a:AV} (h:one as=a) (ho:a≠.opq):∃ v,vs=[v]∧VR ρ a v:=by
 cases ra with
 | nil=>exact absurd h.symm ho
 | cons r1 r2 =>
  cases r2 with
  | nil=>exact ⟨_,rfl,h ▸ r1⟩
  | cons=>exact absurd h.symm ho
set_option tactic.hygienic true in
theorem jE (e:bLen σ as=some (r,σ')):wpAny (model W.prog W.w) A (call (.builtin "len") vs) Q E s:=by
 unfold bLen at e
 split at e
 ·rename_i i ho
  obtain ⟨v,rfl,r1⟩:=bg ra ho (by simp)
  split at e
  ·rename_i xs hi
   (revert k;apply sQ e;intro k)
   (apply am R hi;intro p its n e1 e2 e3 hz)
   apply av r1 e1
   have hb:xs.length≤10000:=hz
   refine PyProof.Rows.len_list (aE e2) (by rw [an e3];omega) ?_
   rw [an e3]
   exact k ρ _ _ _ (.refl R) ⟨_,rfl⟩
  ·exact nS e
 ·rename_i l ho
  obtain ⟨v,rfl,x,t,rfl,hx⟩:=bg ra ho (by simp)
  split at e
  ·rename_i hl
   (revert k;apply sQ e;intro k)
   have hb:l.length≤10000:=hl
   refine PySem.P.len_str (by rw [bH hx];omega) ?_
   rw [bH hx]
   exact k ρ _ _ _ (.refl R) ⟨_,rfl⟩
  ·exact nS e
 ·exact nS e
omit R k in
theorem io {f:Int→Int→Int} {a:AV} (e:two as f=some a):∃ i j t u,vs=[.int i t,.int j u]∧a=.int (f i j):=by
 cases ra with
 | nil=>exact nS e
 | @cons a1 _ _ _ r1 ra =>
  cases ra with
  | nil=>exact nS e
  | @cons a2 _ _ _ r2 ra =>
   cases ra with
   | nil =>
    cases a1 with
    | int i =>
     cases a2 with
     | int j=>apply s1Q e;(apply aA r1;intro t);(apply aA r2;intro u);exact ⟨i,j,t,u,rfl,rfl⟩
     | _=>exact nS e
    | _=>exact nS e
   | cons=>exact nS e
theorem jF (e:(two as fun a b=>if b<a then b else a).map (·,σ)=some (r,σ')):wpAny (model W.prog W.w) A (call (.builtin "min") vs) Q E s:=by
 obtain ⟨a,h,e⟩:=Option.map_eq_some_iff.mp e
 cases e
 obtain ⟨i,j,t,u,rfl,rfl⟩:=io (d:=d) O ra h
 refine min_two_ints O.1 fun h' tk hk=>k ρ (if j<i then .int j u else .int i t) h' tk (.keeps R hk) ?_
 split <;> exact ⟨_,rfl⟩
theorem jG (e:(two as fun a b=>if b > a then b else a).map (·,σ)=some (r,σ')):wpAny (model W.prog W.w) A (call (.builtin "max") vs) Q E s:=by
 obtain ⟨a,h,e⟩:=Option.map_eq_some_iff.mp e
 cases e
 obtain ⟨i,j,t,u,rfl,rfl⟩:=io (d:=d) O ra h
 refine max_two_ints O.1 fun h' tk hk=>k ρ (if j > i then .int j u else .int i t) h' tk (.keeps R hk) ?_
 split <;> exact ⟨_,rfl⟩
omit O k in
theorem fK {f:List AV→Option AO} (e:bObj f σ as=some (r,σ')):∃ xs o p its n,vs=[.ref p]∧f xs=some o∧r=.ref σ.length∧σ'=σ++[o]∧s.heap.get? p=some (listOf its n)∧VRs ρ xs its.toList∧xs.length≤LIM:=by
 unfold bObj at e
 cases ho:one as with
 | ref i =>
  obtain ⟨v,rfl,r1⟩:=bg ra ho (by simp)
  rw [ho] at e
  cases hi:listAt σ i with
  | none=>rw [show lstG σ (.ref i)=listAt σ i from rfl,hi] at e;exact nS e
  | some xs =>
   rw [show lstG σ (.ref i)=listAt σ i from rfl,hi] at e
   obtain ⟨o,h,e⟩:=Option.map_eq_some_iff.mp (show (f xs).map (fun o=>(AV.ref σ.length,σ++[o]))=some (r,σ') from e)
   apply pQ e
   (apply am R (aw hi);intro p its n e1 e2 e3 hz)
   apply av r1 e1
   exact ⟨xs,o,p.1,its,n,rfl,h,rfl,rfl,e2,e3,hz⟩
 | _=>rw [ho] at e;exact nS e
theorem ip (e:bObj (fun xs=>some (.list xs)) σ as=some (r,σ')):wpAny (model W.prog W.w) A (call (.type "list") vs) Q E s:=by
 obtain ⟨xs,o,p,its,n,rfl,h,rfl,rfl,e2,e3,hz⟩:=fK R ra e
 (revert k;apply s1Q h;intro k)
 refine call_list_seq p (.inl rfl) e2 rfl rfl (fun h' c' hk he=>?_) (by rw [an e3];exact ay hz)
 exact k _ _ h' s.toks (bP R hk (bA fun _ _ e=>e) he ⟨its,c',he,e3.mono (List.prefix_append _ _),hz⟩) (cp _ R.len)
theorem jH (e:bObj (fun xs=>if xs.length≤LIM then some (.tup xs) else none) σ as=some (r,σ')):wpAny (model W.prog W.w) A (call (.type "tuple") vs) Q E s:=by
 obtain ⟨xs,o,p,its,n,rfl,h,rfl,rfl,e2,e3,hz⟩:=fK R ra e
 rw [if_pos hz] at h
 (revert k;apply s1Q h;intro k)
 refine call_tuple_list (aE e2) (fun h' hk=>?_) (by rw [an e3];exact ay hz)
 have he:(h'.push { cls:=.type "tuple",data:=.seq its }).get? h'.objs.size=some (tupOf its 0):=Heap.get?_push_size _ rfl
 exact k _ _ _ s.toks (bP R (fun b o e=>Heap.get?_push_of_some _ (hk b o e)) (bA hk) he ⟨its,0,he,e3.mono (List.prefix_append _ _),hz⟩) (cp _ R.len)
omit R O k in
set_option tactic.hygienic true in
theorem fL {f:Int→Option AV} (e:bInt f σ as=some (r,σ')):∃ i t,vs=[.int i t]∧f i=some r∧σ'=σ:=by
 unfold bInt at e
 split at e
 ·rename_i i ho
  obtain ⟨v,rfl,t,rfl⟩:=bg ra ho (by simp)
  obtain ⟨a,h,e⟩:=Option.map_eq_some_iff.mp e
  apply pQ e
  exact ⟨i,t,rfl,h,rfl⟩
 ·exact nS e
theorem jI (e:bInt (fun i=>some (.int i.natAbs)) σ as=some (r,σ')):wpAny (model W.prog W.w) A (call (.builtin "abs") vs) Q E s:=by
 obtain ⟨i,t,rfl,h,rfl⟩:=fL ra e
 (revert k;apply s1Q h;intro k)
 refine call_abs_int fun u tk=>k ρ _ _ tk (.refl R) ⟨u,?_⟩
 congr 1
 split <;> omega
theorem jJ (e:bInt (fun i=>if 0≤i∧i<128 then some (.str [i.toNat]) else none) σ as=some (r,σ')):wpAny (model W.prog W.w) A (call (.builtin "chr") vs) Q E s:=by
 obtain ⟨i,t,rfl,h,rfl⟩:=fL ra e
 split at h
 ·rename_i hc
  (revert k;apply s1Q h;intro k)
  exact chr_of_range hc.1 (by exact aa [] [_] (.leI J0 (.k 1114111)) (.ltI J0 (.k 128)) [1,1] rfl hc.2) (k ρ _ _ _ (.refl R) ⟨_,_,rfl,rfl⟩)
 ·exact nS h
set_option tactic.hygienic true in
theorem jK (e:bOrd σ as=some (r,σ')):wpAny (model W.prog W.w) A (call (.builtin "ord") vs) Q E s:=by
 unfold bOrd at e
 split at e
 ·rename_i l ho
  split at e
  ·obtain ⟨v,rfl,x,t,rfl,hx⟩:=bg ra ho (by simp)
   (revert k;apply sQ e;intro k)
   rw [cS hx]
   exact PySem.P.ord_of_char (k ρ _ _ _ (.refl R) ⟨_,rfl⟩)
  ·exact nS e
 ·exact nS e
set_option tactic.hygienic true in
theorem ff (e:bSorted σ as=some (r,σ')):wpAny (model W.prog W.w) A (call (.builtin "sorted") vs) Q E s:=by
 unfold bSorted at e
 split at e
 ·rename_i i ho
  obtain ⟨v,rfl,r1⟩:=bg ra ho (by simp)
  split at e
  ·rename_i es hi
   split at e
   ·rename_i h0
    rw [List.isEmpty_iff] at h0
    subst h0
    (revert k;apply sQ e;intro k)
    refine cps fun _ hG=>?_
    obtain ⟨p,hp,kvs,lo,hd,hr,_⟩:=R.objs _ _ hi
    refine hG ?_
    clear hG
    apply av r1 hp
    cases dO hr
    refine fe O.1 lo hd fun D h' tk n hk h1 h2=>k _ _ h' tk (bP R hk h1 h2 ⟨#[],n,h2,.nil,Nat.zero_le _⟩) (cp _ R.len)
   ·exact nS e
  ·exact nS e
 ·exact nS e
theorem jL (e:bAll σ as=some (r,σ')):wpAny (model W.prog W.w) A (call (.builtin "all") vs) Q E s:=by
 unfold bAll at e
 cases ho:one as with
 | ref i =>
  obtain ⟨v,rfl,r1⟩:=bg ra ho (by simp)
  rw [ho] at e
  cases hi:listAt σ i with
  | none=>rw [show lstG σ (.ref i)=listAt σ i from rfl,hi] at e;exact nS e
  | some xs =>
   rw [show lstG σ (.ref i)=listAt σ i from rfl,hi] at e
   obtain ⟨bs,hb,e⟩:=Option.map_eq_some_iff.mp (show (boolsV xs).map (fun bs=>(AV.bool (bs.all id),σ))=some (r,σ') from e)
   (revert k;apply pQ e;intro k)
   (apply am R (aw hi);intro p its n e1 e2 e3 hz)
   apply av r1 e1
   exact fc (vs:=its.toList) O.1 (by simpa using aE e2) (er e3 hb) fun h' tk hk=>k ρ _ h' tk (.keeps R hk) rfl
 | _=>rw [ho] at e;exact nS e
theorem my {b:Nat} (e:biV σ b as=some (r,σ')):isBT (biVal b)=true∧wpAny (model W.prog W.w) A (call (biVal b) vs) Q E s:=by
 match b,e with
 | 0,e=>exact ⟨rfl,jE R O ra k e⟩
 | 1,e=>exact ⟨rfl,jF R O ra k e⟩
 | 2,e=>exact ⟨rfl,jG R O ra k e⟩
 | 3,e=>exact ⟨rfl,ip R O ra k e⟩
 | 4,e=>exact ⟨rfl,jI R O ra k e⟩
 | 5,e=>exact ⟨rfl,jK R O ra k e⟩
 | 6,e=>exact ⟨rfl,jJ R O ra k e⟩
 | 7,e=>exact ⟨rfl,ff R O ra k e⟩
 | 8,e=>exact ⟨rfl,jL R O ra k e⟩
 | 9,e=>exact ⟨rfl,jH R O ra k e⟩
 | n+10,e=>exact nS e
end
theorem nB {b:Nat} {m:Str} (hm:biN[b]?=some m):isBT (biVal b)=true∧bootBuiltins m=some (biVal b)∧m≠Str.ofString "__name__"∧(m == dbgS)=false:=by
 have hv:biVals[b]?=some (biVal b):=by
  rcases cq Value.none biVals b with h | ⟨h,_⟩
  ·exact h
  ·have:=(List.getElem?_eq_some_iff.mp hm).1
   exact absurd this (Nat.not_lt.mpr h)
 have hz:(biN.zip biVals)[b]?=some (m,biVal b):=by rw [List.getElem?_zip_eq_some];exact ⟨hm,hv⟩
 have q:=List.all_eq_true.mp jD _ (List.mem_of_getElem? hz)
 simp only [Bool.and_eq_true,beq_iff_eq,Bool.not_eq_true',beq_eq_false_iff_ne] at q
 have hi:biVals.all isBT=true:=rfl
 exact ⟨List.all_eq_true.mp hi _ (List.mem_of_getElem? hv),q.1.1,q.1.2,beq_eq_false_iff_ne.mpr q.2⟩
theorem SE.bi {K:Frag} {b:Nat} {m:Str} {vs:List AV} {p q:Pos} (hm:biN[b]?=some m) (hk:V.kind m=some .globalImplicit) (T:Top2 K h₀) (hn:nsIn K mainGlobals m=some Option.none) (hs:SL W h₀ d V xs fr out σ vs σ1) (ns:xs.all tame=true) (e:biV σ1 b vs=some (r,σ2)) :
  SE W h₀ d V (.Call (.Name m p) xs [] q) fr out σ r σ2:=fun env A s ρ Q E F R O k=>by
 obtain ⟨h1,h2,h3,h4⟩:=nB hm
 refine Call_Name rfl (aU T F R hk hn h2 h3 h4 (fJ h1 hs ns F R O fun ρ1 vals h1 tk P r1=>(my P.rel O r1 (k.step (tk:=tk) P) e).2))
end
section
variable {W:Wd} {h₀:Heap} {d:Nat} {V:Cx} {fr out fr' fr1 fr2:Fm} {σ σ' σ1 σ2:Hp} {K:Frag} {m:Str} {p q:Pos} {x tx c:Expr} {a:AV} {l:List Nat} {st:Stmt} {ss:List Stmt} {w:Fw} {b:Bool}
theorem SE.glob {v:Value} (hk:V.kind m=some .globalImplicit) (T:Top2 K h₀) (hn:nsIn K mainGlobals m=some (some v)) (hd:(m == dbgS)=false) (hv:VR [] a v):SE W h₀ d V (.Name m p) fr out σ a σ:=fun _ _ _ _ _ _ F R O k =>
 bV T F R hk hn hd (k.now R (hv.mono List.nil_prefix))
section
variable {o:CmpOp} {ad:Addr} {its:Array Value} {n:Nat} {G:List (List Nat)} (ho:o=.In∨o=.NotIn) (hk:V.kind m=some .globalImplicit) (T:Top2 K h₀) (hn:nsIn K mainGlobals m=some (some (.ref ad))) (hd:(m == dbgS)=false) (hK:K.lookup ad=some (tupOf its n))
  (hi:StrsAre its.toList (G.map fun l=>⟨l.toArray⟩)) (he:SE W h₀ d V x fr out σ (.str l) σ1)
include ho hk T hn hd hK hi he
theorem iq {env:Env} {A:Around} {s:Shared} {ρ:Rho} {Q:Value→Shared→Prop} {E:Value→Shared→Prop} (F:EnvR h₀ V env ρ s.heap fr out) (R:Rel W h₀ ρ σ s.heap) (O:Room d A)
  (k:∀ ρ' h' tk,Post W h₀ [] ρ ρ' σ1 s.heap h'→Q (.bool ((o == .In) == G.contains l)) ⟨h',s.gens,s.drawn,tk,s.os⟩) :
  wpAny (model W.prog W.w) A (eval x env) (fun v s1=>wpAny (model W.prog W.w) A (eval (.Name m q) env) (fun u s2=>wpAny (model W.prog W.w) A (compareOp o v u) Q E s2) E s1) E s:=by
 refine he F R O fun ρ1 v h1 tk P r=>?_
 refine bV T (F.post P) P.rel hk hn hd ?_
 obtain ⟨x,t,rfl,hx⟩:=r
 have ht:=a7 (P.rel.base _ _ (T.X _ _ hK))
 have hq:∀ y,y∈its→SeqAt.EqAt A.in1 ⟨h1,s.gens,s.drawn,tk,s.os⟩ y (.str ⟨l.toArray⟩ t) (isStrOf ⟨l.toArray⟩ y):=fun y hy=>(eq_isStrOf ⟨l.toArray⟩ t hi y (by simpa using hy)).at _ _
 have ha:its.any (isStrOf ⟨l.toArray⟩)=G.contains l:=by rw [← Array.any_toList,any_isStrOf _ hi,ee]
 have kk:=k ρ1 h1 tk P
 rw [cS hx]
 rcases ho with rfl | rfl
 ·refine SeqAt.in_tupleAt _ ht hq ?_
  rw [ha]
  cases h:G.contains l <;> rw [h] at kk <;> exact kk
 ·refine SeqAt.notIn_tupleAt _ ht hq ?_
  rw [ha]
  cases h:G.contains l <;> rw [h] at kk <;> exact kk
theorem SE.inG:SE W h₀ d V (.Compare x [o] [.Name m q] p) fr out σ (.bool ((o == .In) == G.contains l)) σ1:=fun env A s ρ Q E F R O k =>
 wpAny_Compare1 (iq ho hk T hn hd hK hi he F R O fun ρ' h' tk P=>k ρ' _ h' tk P rfl) (by rcases ho with rfl | rfl <;> rfl)
theorem SC.inG:SC W h₀ d V (.Compare x [o] [.Name m q] p) fr out σ ((o == .In) == G.contains l) σ1:=fun env A s ρ Q E F R O k =>
 wpAny_isTrue_Compare1 (iq ho hk T hn hd hK hi he F R O fun ρ' h' tk P=>wpAny_truthy_bool (k ρ' h' tk P)) (by rcases ho with rfl | rfl <;> rfl)
end
theorem OkF.step {α:Type} {env:Env} {ρ ρ1:Rho} {s:Shared} {h1:Heap} {tk:Nat} {R:Rho→α→Prop} {Q:α→Shared→Prop} (k:OkF W h₀ V env out fr' σ' ρ s R Q) (P:Post W h₀ (FA V env) ρ ρ1 σ1 s.heap h1) :
  OkF W h₀ V env out fr' σ' ρ1 ⟨h1,s.gens,s.drawn,tk,s.os⟩ R Q:=fun ρ' v h' tk' P' F' r=>k ρ' v h' tk' (P.trans P') F' r
theorem SS.nil:SS W h₀ d V [] fr σ .next fr σ:=fun _ _ _ _ _ _ F R O k=>wpAny_execs_nil (k.of F (.refl R) rfl)
theorem SS.cons (h1:S1 W h₀ d V st fr σ .next fr1 σ1) (h2:SS W h₀ d V ss fr1 σ1 w fr2 σ2):SS W h₀ d V (st::ss) fr σ w fr2 σ2:=fun _ _ _ _ _ _ F R O k=>by
 refine wpAny_execs_cons (h1 F R O fun ρ1 f h1 tk P F1 rf=>?_)
 cases rf
 exact h2 F1 P.rel O (k.step P)
theorem SS.stop (h1:S1 W h₀ d V st fr σ w fr1 σ1) (hw:w≠.next):SS W h₀ d V (st::ss) fr σ w fr1 σ1:=fun _ _ _ _ _ _ F R O k=>by
 refine wpAny_execs_cons (h1 F R O fun ρ1 f h1 tk P F1 rf=>?_)
 have:=k _ _ _ tk P F1 rf
 cases w with
 | next=>exact absurd rfl hw
 | brk=>cases rf;exact this
 | cont=>cases rf;exact this
 | ret a=>obtain ⟨v,rfl,_⟩:=rf;exact this
theorem cF {env:Env} (h:env.scope.kind=.function):interactive env=false:=by unfold interactive;rw [h];rfl
theorem fM (ns:tame x=true) (nc:isComp x=false) (t:Option Expr) (l:Nat) (env:Env):swapsWith x t l env=pure false:=by
 cases x <;> first | exact Eq.refl (pure false) | exact fT ns | exact tF nc
theorem S1.expr (he:SE W h₀ d V x fr [] σ a σ1) (ns:tame x=true) (nc:isComp x=false):S1 W h₀ d V (.Expr x p) fr σ .next fr σ1:=fun _ _ _ _ _ _ F R O k =>
 wpAny_Expr_any (he F R O fun ρ1 v h1 tk P r=>k.of F P rfl) (cF F.fk) (fM ns nc _ _ _)
theorem S1.ret0:S1 W h₀ d V (.Return none p) fr σ (.ret .none) fr σ:=fun _ _ _ _ _ _ F R O k=>wpAny_Return_none (k.of F (.refl R) ⟨_,rfl,rfl⟩)
theorem S1.ret (he:SE W h₀ d V x fr [] σ a σ1):S1 W h₀ d V (.Return (some x) p) fr σ (.ret a) fr σ1:=fun _ _ _ _ _ _ F R O k=>wpAny_Return_some (he F R O fun ρ1 v h1 tk P r=>k.of F P ⟨v,rfl,r⟩)
theorem S1.brk:S1 W h₀ d V (.Break p) fr σ .brk fr σ:=fun _ _ _ _ _ _ F R O k=>wpAny_Break (k.of F (.refl R) rfl)
theorem S1.cont:S1 W h₀ d V (.Continue p) fr σ .cont fr σ:=fun _ _ _ _ _ _ F R O k=>wpAny_Continue (k.of F (.refl R) rfl)
theorem S1.ite {t e:List Stmt} (hc:SC W h₀ d V c fr [] σ b σ1) (h:SS W h₀ d V (if b then t else e) fr σ1 w fr1 σ2):S1 W h₀ d V (.If c t e p) fr σ w fr1 σ2:=fun _ _ _ _ _ _ F R O k=>by
 refine wpAny_If (hc F R O fun ρ1 h1 tk P=>?_)
 cases b <;> exact h (F.post P) P.rel O (k.step P.more)
theorem c8 {y:Expr} {xs:List Expr} (h:tupX y=some xs):∃ k p,y=.Tuple xs k p:=by
 cases y with
 | Tuple xs k p=>apply s1Q h;exact ⟨k,p,rfl⟩
 | _=>exact nS h
theorem dX {y:Expr} {s:Str} (h:nmX y=some s):∃ p,y=.Name s p:=by
 cases y with
 | Name s p=>apply s1Q h;exact ⟨p,rfl⟩
 | _=>exact nS h
theorem dY {α β:Type} {f:α→Option β} {l:List α} (h:∃ x∈l,f x=none):(l.filterMap f).length<l.length:=by
 induction l with
 | nil=>obtain ⟨_,h,_⟩:=h;cases h
 | cons a l ih =>
  rw [List.filterMap_cons]
  cases q:f a with
  | none=>exact Nat.lt_succ_of_le (List.length_filterMap_le _ _)
  | some b =>
   refine Nat.succ_lt_succ (ih ?_)
   obtain ⟨x,hx,e⟩:=h
   rcases List.mem_cons.mp hx with rfl | hx
   ·rw [q] at e;exact sN e
   ·exact ⟨x,hx,e⟩
theorem gx {tx x:Expr} (h:plainA tx x=true):isComp x=false∧(tupX tx=none∨tupX x=none∨∃ ys,tupX tx=some ys∧∃ y∈ys,nmX y=none):=by
 obtain ⟨h1,h⟩:=Bool.and_eq_true_iff.mp h
 refine ⟨Bool.not_eq_true' _ ▸ h1,?_⟩
 cases e:tupX tx with
 | none=>exact .inl rfl
 | some ys =>
  rw [e] at h
  rcases Bool.or_eq_true_iff.mp h with h | h
  ·exact .inr (.inl (Option.isNone_iff_eq_none.mp h))
  ·obtain ⟨y,hy,hn⟩:=List.any_eq_true.mp h
   refine .inr (.inr ⟨ys,rfl,y,hy,?_⟩)
   cases y <;> first | rfl | exact fT hn
theorem c9 {env:Env} (ht:tgt tx=true) (ns:tame x=true) (h:tupX tx=none∨tupX x=none∨∃ ys,tupX tx=some ys∧∃ y∈ys,nmX y=none):swappedStores [tx] x env=pure none:=by
 cases tx <;> first | exact Eq.refl (pure none) | exact fT ht | skip
 cases e:tupX x with
 | none=>cases x <;> first | exact Eq.refl (pure none) | exact fT ns | exact sN e
 | some us =>
  obtain ⟨k,p,rfl⟩:=c8 e
  rw [e] at h
  obtain ⟨ys,e,y,hy,hn⟩:=(h.resolve_left (fun q=>sN q)).resolve_left (fun q=>sN q)
  obtain rfl:=Option.some.inj e
  unfold swappedStores
  dsimp only
  split
  ·rfl
  ·split
   ·rfl
   ·rw [if_pos]
    rw [Bool.or_eq_true]
    refine .inl (bne_iff_ne.mpr (Nat.ne_of_lt (dY ⟨y,hy,?_⟩)))
    cases y <;> first | rfl | exact sN hn
theorem S1.assign (he:SE W h₀ d V x fr [] σ a σ1) (hx:tgt tx=true) (ns:tame x=true) (ht:SA W h₀ d V tx a fr [] σ1 fr2 σ2)
  (h:plainA tx x=true):S1 W h₀ d V (.Assign [tx] x p) fr σ .next fr2 σ2:=fun _ _ _ _ _ _ F R O k=>by
 obtain ⟨nc,h⟩:=gx h
 refine wpAny_Assign_stores (he F R O fun ρ1 v h1 tk P r=>?_) (fM ns nc _ _ _) (c9 hx ns h)
 rw [aJ hx]
 exact ht (F.post P) P.rel O r fun ρ2 u h2 tk2 P2 F2 _=>k _ _ _ _ (P.more.trans P2) F2 rfl
end
theorem kz {xs:List Nat}:∀ {vs:List AV} {fr:Fm},(setVars xs vs fr).length=fr.length:=by
 induction xs with
 | nil=>intro vs fr;rfl
 | cons x xs ih=>intro vs fr;cases vs with | nil=>rfl | cons v vs=>exact (ih (vs:=vs) (fr:=fr.set x (some v))).trans (List.length_set ..)
theorem a8 {j:Nat} {xs:List Nat}:∀ {vs:List AV} {fr:Fm},j ∉ xs→(setVars xs vs fr)[j]?=fr[j]?:=by
 induction xs with
 | nil=>intro vs fr _;rfl
 | cons x xs ih =>
  intro vs fr h
  cases vs with
  | nil=>rfl
  | cons v vs=>exact (ih (vs:=vs) (fr:=fr.set x (some v)) fun q=>h (.tail _ q)).trans (List.getElem?_set_ne (fun q:x=j=>h (q ▸ .head _)))
theorem da {j:Nat} {v:AV} {xs:List Nat}:∀ {vs:List AV} {fr:Fm} {k:Nat},xs.Nodup→xs[k]?=some j→vs[k]?=some v→j<fr.length→(setVars xs vs fr)[j]?=some (some v):=by
 induction xs with
 | nil=>intro vs fr k _ h;exact nS h
 | cons x xs ih =>
  intro vs fr k nd h h' hj
  cases vs with
  | nil=>exact nS h'
  | cons v' vs =>
   cases k with
   | zero =>
    cases h;cases h'
    refine (a8 (vs:=vs) (fr:=fr.set j (some v)) (List.nodup_cons.mp nd).1).trans ?_
    rw [List.getElem?_set]
    simp [hj]
   | succ k=>exact ih (List.nodup_cons.mp nd).2 h h' (by rw [List.length_set];exact hj)
theorem et {xs:List Nat} {vs:List AV} {fr:Fm} (nd:xs.Nodup) (hl:vs.length=xs.length) (hx:∀ x∈xs,x<fr.length):setVars xs.reverse vs.reverse fr=setVars xs vs fr:=by
 apply List.ext_getElem?
 intro j
 by_cases hj:j∈xs
 ·obtain ⟨k,hk⟩:=List.mem_iff_getElem?.mp hj
  have hkl:=(List.getElem?_eq_some_iff.mp hk).1
  obtain ⟨v,hv⟩:∃ v,vs[k]?=some v:=⟨_,List.getElem?_eq_getElem (hl ▸ hkl)⟩
  have e:xs.length - 1 - (xs.length - 1 - k)=k:=Nat.sub_sub_self (Nat.le_pred_of_lt hkl)
  have hlt:xs.length - 1 - k<xs.length:=Nat.lt_of_le_of_lt (Nat.sub_le _ _) (Nat.sub_lt (Nat.lt_of_le_of_lt (Nat.zero_le _) hkl) Nat.one_pos)
  rw [da nd hk hv (hx j hj)]
  refine da (k:=xs.length - 1 - k) (List.pairwise_reverse.mpr (nd.imp fun h=>Ne.symm h)) ?_ ?_ (hx j hj)
  ·rw [List.getElem?_reverse hlt,e];exact hk
  ·rw [List.getElem?_reverse (hl ▸ hlt),hl,e];exact hv
 ·rw [a8 hj,a8 (by simpa using hj)]
noncomputable abbrev NmR (V:Cx) (q:Nat×Str) (y:Expr):Prop:=V.vs[q.1]?=some q.2∧∃ p,y=.Name q.2 p
theorem iu {V:Cx} {qs:List (Nat×Str)} {ys:List Expr} (h:Paired (NmR V) qs ys) (f:Expr→Option Str) (hf:∀ n p,f (.Name n p)=some n∨f (.Name n p)=none) (e:(ys.filterMap f).length=ys.length):ys.filterMap f=qs.map (·.2):=by
 induction h with
 | nil=>rfl
 | @cons q y qs ys hq hr ih =>
  obtain ⟨_,p,rfl⟩:=hq
  rcases hf q.2 p with z | z
  ·rw [List.filterMap_cons,z] at e ⊢
   exact congrArg (q.2::·) (ih (Nat.succ.inj e))
  ·rw [List.filterMap_cons,z] at e
   exact absurd (List.length_filterMap_le f ys) (Nat.not_le.mpr (by rw [show (ys.filterMap f).length=ys.length+1 from e];exact Nat.lt_succ_self _))
section
variable {W:Wd} {h₀:Heap} {d:Nat} {V:Cx} {out:Fm} {σ σ1:Hp} {qs:List (Nat×Str)} {ys zs:List Expr} {as:List AV}
theorem SAs.vars (h:Paired (NmR V) qs ys):∀ {vs:List AV} {fr:Fm},vs.length=qs.length→(∀ q∈qs,q.1<fr.length)→SAs W h₀ d V ys vs fr out σ (setVars (qs.map (·.1)) vs fr) σ:=by
 induction h with
 | nil=>intro vs fr hl _;cases vs with | nil=>exact SAs.nil | cons=>exact nN hl rfl
 | @cons q y qs ys hq hr ih =>
  intro vs fr hl hx
  obtain ⟨hv,p,rfl⟩:=hq
  cases vs with
  | nil=>exact nN hl rfl
  | cons v vs=>exact SAs.cons rfl (SA.var (hx q (.head _)) hv) (ih (Nat.succ.inj hl) fun y hy=>by rw [List.length_set];exact hx y (.tail _ hy))
theorem nD (h:Paired (NmR V) qs ys):ys.all tgt=true:=by
 induction h with
 | nil=>rfl
 | cons hq _ ih=>obtain ⟨_,p,rfl⟩:=hq;exact ih
theorem iv {env:Env} {A:Around} {E:Value→Shared→Prop}:∀ (qs:List (Nat×Str)) (as:List AV) (fr:Fm) (s:Shared) (ρ:Rho) (vs:List Value) (Q:Unit→Shared→Prop),as.length=qs.length→(∀ q∈qs,V.vs[q.1]?=some q.2∧q.1<fr.length) →
  EnvR h₀ V env ρ s.heap fr out→Rel W h₀ ρ σ s.heap→VRs ρ as vs→OkF W h₀ V env out (setVars (qs.map (·.1)) as fr) σ ρ s (fun _ _=>True) Q →
  wpAny (model W.prog W.w) A (assignInOrder ((qs.map (·.2)).map fun n=>bindName env n) vs) Q E s:=by
 intro qs
 induction qs with
 | nil =>
  intro as fr s ρ vs Q h2 hx F R r k
  cases r with
  | nil=>exact wpAny_pure (k.of F (.refl R) trivial)
  | cons=>exact nN h2 rfl
 | cons q qs ih =>
  intro as fr s ρ vs Q h2 hx F R r k
  cases r with
  | nil=>exact nN h2 rfl
  | cons r rs =>
   refine wpAny_bind (wpAny_holding (wpAny_bindName (ei (hx q (.head _)).2 (hx q (.head _)).1 F R r fun ρ1 u h1' tk P F1 _=>?_)))
   exact ih _ _ ⟨h1',s.gens,s.drawn,tk,s.os⟩ ρ1 _ Q (Nat.succ.inj h2) (fun y hy=>⟨(hx y (.tail _ hy)).1,by rw [List.length_set];exact (hx y (.tail _ hy)).2⟩) F1 P.rel (VRs.mono P.pre rs) (k.step P)
theorem fg {α β:Type} {F:α→β→Prop} {l:List α} {m:List β} (h:Paired F l m):Paired F l.reverse m.reverse:=by
 induction h with
 | nil=>exact .nil
 | cons a _ ih=>rw [List.reverse_cons,List.reverse_cons];exact aI ih (.cons a .nil)
theorem fh {k k':Nat} {p p':Pos} {env:Env} (mt:Paired (NmR V) qs ys) (hw:swapPlain zs=true) :
  swappedStores [.Tuple ys k p] (.Tuple zs k' p') env=pure none∨swappedStores [.Tuple ys k p] (.Tuple zs k' p') env=pure (some (qs.map (·.2))):=by
 unfold swappedStores
 dsimp only
 split
 ·exact .inl rfl
 ·split
  ·exact .inl rfl
  ·split
   ·exact .inl rfl
   ·rename_i hc
    split
    ·exact .inl rfl
    ·rename_i hf
     split
     ·rename_i hg
      have hw:(zs.all (foldedForSure 8) || !zs.all (constantsAlone 8))=true:=hw
      rw [Bool.or_eq_true] at hw
      rcases hw with hw | hw
      ·exact absurd hw hf
      ·rw [hg] at hw;exact fT hw
     ·refine .inr ?_
      congr 2
      refine iu mt _ (fun n p=>?_) ?_
      ·dsimp only;split
       ·exact .inl rfl
       ·exact .inr rfl
      ·rw [Bool.or_eq_true,not_or] at hc
       exact Decidable.of_not_not fun q=>hc.1 (bne_iff_ne.mpr q)
theorem S1.assign_vars {fr:Fm} {kk kk':Nat} {p p' p0:Pos} (mt:Paired (NmR V) qs ys) (hw:swapPlain zs=true) (hs:SL W h₀ d V zs fr [] σ as σ1) (hl:as.length=qs.length) (nd:(qs.map (·.1)).Nodup) (hz:as.length≤LIM) (hx:∀ q∈qs,q.1<fr.length) :
  S1 W h₀ d V (.Assign [.Tuple ys kk p] (.Tuple zs kk' p') p0) fr σ .next (setVars (qs.map (·.1)) as fr) (σ1++[.tup as]):=fun env A s ρ Q E F R O k=>by
 have he:SE W h₀ d V (.Tuple zs kk' p') fr [] σ (.ref σ1.length) (σ1++[.tup as]):=SE.tup hs (by unfold allocT;rw [if_pos hz])
 have hidx:(σ1++[AO.tup as])[σ1.length]?=some (.tup as):=by simp
 rcases fh (env:=env) mt hw with h | h
 ·refine Assign_Tuple (he F R O fun ρ1 v h1 tk P r=>?_) rfl h
  exact SA.tup hidx (nD mt) (SAs.vars mt hl hx) (by rw [hl,mt.length]) (F.post P) P.rel O r fun ρ2 u h2 tk2 P2 F2 _=>k _ _ _ _ (P.more.trans P2) F2 rfl
 ·refine Assign_Tuple_swapped (he F R O fun ρ1 v h1' tk P r=>?_) rfl h
  (apply a9 P.rel hidx;intro pp its n e1 e2 e3 hz')
  cases bL r e1
  rw [show (qs.map (·.2)).length=its.size by rw [List.length_map,← hl,an e3]]
  refine unpackItems_tuple O.1 (a7 e2) fun h2 he2=>?_
  have P2:=P.trans (Post.keeps P.rel (fun b o e=>he2 b o (Nat.ne_of_lt (Heap.lt_size e)) e))
  rw [← List.map_reverse]
  have hv:∀ q∈qs,V.vs[q.1]?=some q.2:=fun q hq=>by
   obtain ⟨i,hi⟩:=List.mem_iff_getElem?.mp hq
   obtain ⟨y,_,h⟩:=bT mt hi
   exact h.1
  refine iv (σ:=σ1++[.tup as]) (out:=[]) qs.reverse as.reverse fr ⟨h2,s.gens,s.drawn,tk,s.os⟩ ρ1 _ _ (by simp [hl]) (fun q hq=>⟨hv q (List.mem_reverse.mp hq),hx q (List.mem_reverse.mp hq)⟩) (F.post P2) P2.rel (fg e3) ?_
  rw [List.map_reverse,et nd (by rw [List.length_map];exact hl) (fun x hx'=>by obtain ⟨q,hq,rfl⟩:=List.mem_map.mp hx';exact hx q hq)]
  exact fun ρ3 u h3 tk3 P3 F3 _=>k _ _ _ _ (P2.more.trans P3) F3 rfl
end
structure StepP (W:Wd) (h₀:Heap) (Is:List Addr) (ρ ρ':Rho) (σ':Hp) (h h':Heap):Prop where
 pre:ρ <+: ρ'
 rel:Rel W h₀ ρ' σ' h'
 keep:∀ b o,b ∉ own ρ→b ∉ Is→h.get? b=some o→h'.get? b=some o
 alive:∀ b o,b ∉ Is→h.get? b=some o→∃ o',h'.get? b=some o'
 new:∀ a∈own ρ',a∈own ρ∨h.get? a=none
theorem Post.iter {W:Wd} {h₀:Heap} {F Is:List Addr} {ρs ρ ρ':Rho} {σ σ':Hp} {hs h h':Heap} (P:Post W h₀ F ρs ρ σ hs h) (S:StepP W h₀ Is ρ ρ' σ' h h') (hd:∀ a∈Is,hs.get? a=none):Post W h₀ F ρs ρ' σ' hs h':=by
 have nIs:∀ b o,hs.get? b=some o→b ∉ Is:=fun b o e m=>by have:=hd b m;rw [e] at this;exact sN this
 refine ⟨P.pre.trans S.pre,S.rel,fun b o nb nf e=>S.keep b o (P.stay nb e) (nIs b o e) (P.keep b o nb nf e),fun b o e=>let ⟨o1,e1⟩:=P.alive b o e;S.alive b o1 (nIs b o e) e1,fun a m=>?_⟩
 rcases S.new a m with m | m
 ·exact P.new a m
 ·exact .inr (P.dead m)
theorem StepP.but {W:Wd} {h₀:Heap} {Is:List Addr} {ρ:Rho} {σ:Hp} {h h':Heap} (R:Rel W h₀ ρ σ h) (hI:∀ a∈Is,a ∉ own ρ∧h₀.get? a=none) (k:∀ b o,b ∉ Is→h.get? b=some o→h'.get? b=some o):StepP W h₀ Is ρ ρ σ h h' :=
 have nO:∀ a∈own ρ,a ∉ Is:=fun a m q=>(hI a q).1 m
 ⟨List.prefix_rfl,⟨fun b o e=>k b o (fun q=>by have:=(hI b q).2;rw [e] at this;exact sN this) (R.base b o e),R.len,R.nd,R.fresh,fun a m=>let ⟨o,e⟩:=R.live a m;⟨o,k a o (nO a m) e⟩,
  fun i o e=>let ⟨p,a,b⟩:=R.objs i o e;⟨p,a,b.keep fun c hc x y=>k c x (nO c (be a hc)) y⟩⟩,fun b o _ q e=>k b o q e,fun b o q e=>⟨o,k b o q e⟩,fun _ m=>.inl m⟩
inductive ItR (ρ:Rho) (h:Heap):List Addr→Addr→It→Prop
 | lst {I:Addr} {l i:Nat} {p} (hp:ρ[l]?=some p) (hi:h.IsListIter I p.1 i):ItR ρ h [I] I (.lst l i)
 | tup {I:Addr} {l i:Nat} {p} (hp:ρ[l]?=some p) (hi:h.IsTupleIter I p.1 i):ItR ρ h [I] I (.tup l i)
 | rng {I:Addr} {a b:Int} (hi:IsRangeIter h I a (if a<b then b - a else 0) 1):ItR ρ h [I] I (.rng a b)
 | rev {I:Addr} {l i:Nat} {p} (hp:ρ[l]?=some p) (hi:h.IsRevIter I p.1 ((i:Int) - 1)):ItR ρ h [I] I (.rev l i)
 | str {I:Addr} {x:Str} {t:Tok} {i:Nat} {T:String} {cs:List Nat} (hx:x.cps.toList.drop i=cs) (hT:T="str_ascii_iterator"∨T="str_iterator") (hi:h.IsStrIter I T x t i):ItR ρ h [I] I (.str cs)
theorem ItR.keep {ρ ρ':Rho} {h h':Heap} {Is:List Addr} {I:Addr} {it:It} (x:ItR ρ h Is I it) (hp:ρ <+: ρ') (k:∀ a∈Is,∀ o,h.get? a=some o→h'.get? a=some o):ItR ρ' h' Is I it:=by
 cases x with
 | lst e hi=>obtain ⟨o,a,b⟩:=hi;exact .lst (aD hp e) ⟨o,k _ (.head _) _ a,b⟩
 | tup e hi=>obtain ⟨o,a,b⟩:=hi;exact .tup (aD hp e) ⟨o,k _ (.head _) _ a,b⟩
 | rng hi=>exact .rng (k _ (.head _) _ hi)
 | rev e hi=>obtain ⟨o,a,b⟩:=hi;exact .rev (aD hp e) ⟨o,k _ (.head _) _ a,b⟩
 | str hx hT hi=>obtain ⟨o,a,b⟩:=hi;exact .str hx hT ⟨o,k _ (.head _) _ a,b⟩
theorem ItR.live {ρ:Rho} {h:Heap} {Is:List Addr} {I:Addr} {it:It} (x:ItR ρ h Is I it):∀ a∈Is,∃ o,h.get? a=some o:=by
 intro a ha
 cases x with
 | lst e hi=>obtain ⟨o,q,b⟩:=hi;rw [List.mem_singleton.mp ha];exact ⟨o,q⟩
 | tup e hi=>obtain ⟨o,q,b⟩:=hi;rw [List.mem_singleton.mp ha];exact ⟨o,q⟩
 | rng hi=>rw [List.mem_singleton.mp ha];exact ⟨_,hi⟩
 | rev e hi=>obtain ⟨o,q,b⟩:=hi;rw [List.mem_singleton.mp ha];exact ⟨o,q⟩
 | str hx hT hi=>obtain ⟨o,q,b⟩:=hi;rw [List.mem_singleton.mp ha];exact ⟨o,q⟩
noncomputable def owners:List String:=["enumerate","zip","dict_itemiterator","dict_reverseitemiterator","odict_iterator","itertools.zip_longest","itertools.pairwise"]
section
variable {W:Wd} {h₀:Heap} {σ σ1:Hp} {A:Around} {E:Value→Shared→Prop} {s:Shared}
theorem bq {target:Expr} {I:Addr} {v:Value} {n:String} {o:Obj} {Q:Unit→Shared→Prop} (ho:s.heap.get? I=some o) (hc:o.cls=.type n) (hn:owners.contains n=false) (k:Q () s):wpAny (model W.prog W.w) A (letOwnedTupleGo target (.ref I) v) Q E s:=by
 have key:wpAny (model W.prog W.w) A (do
   let (.ref r,.ref a):=((Value.ref I,v):Value×Value) | return
   let o ← load r
   match o.cls,o.data with
   | .type n,.fields vs =>
    if owners.contains n && vs[0]? == some (rawInt a) then
     rule "for.unpacks-the-owned-tuple"
     updateField r 0 .none
   | _,_=>pure ()) Q E s:=by
  cases v with
  | ref a =>
   refine wpAny_bind (wpAny_load ho ?_)
   rw [hc]
   cases o.data <;> first | exact wpAny_pure k | skip
   dsimp only
   rw [hn,Bool.false_and,if_neg (by decide)]
   exact wpAny_pure k
  | _=>exact wpAny_pure k
 cases target <;> first | exact wpAny_pure k | exact key
noncomputable def Nxt (W:Wd) (A:Around) (E:Value→Shared→Prop) (target:Expr) (I:Addr) (Q:Option Value→Shared→Prop):Option Value→Shared→Prop
 | none,s₁=>Q none s₁
 | some v,s₁=>wpAny (model W.prog W.w) A (letOwnedTupleGo target (.ref I) v) (fun _ s₂=>Q (some v) s₂) E s₁
section
variable {ρ:Rho} {Is:List Addr} {I:Addr} {target:Expr} {res:Option (AV×It×Hp)} {Q:Option Value→Shared→Prop} (R:Rel W h₀ ρ σ s.heap) (hI:∀ a∈Is,a ∉ own ρ∧h₀.get? a=none) (hh:A.handled=none)
  (kn:res=none→∀ h' tk,StepP W h₀ Is ρ ρ σ s.heap h'→Q none ⟨h',s.gens,s.drawn,tk,s.os⟩)
  (ks:∀ a it' σ',res=some (a,it',σ')→∀ ρ' v h' tk,StepP W h₀ Is ρ ρ' σ' s.heap h'→VR ρ' a v→ItR ρ' h' Is I it'→Q (some v) ⟨h',s.gens,s.drawn,tk,s.os⟩)
include R hI hh kn ks
omit hh kn ks in
theorem bc (e:Is=[I]) {h':Heap} (q:Heap.ExtBut I s.heap h'):StepP W h₀ Is ρ ρ σ s.heap h':=by
 subst e
 exact StepP.but R hI fun b o nb e=>q b o (fun z=>nb (z ▸ .head _)) e
set_option tactic.hygienic true in
theorem iw {l i:Nat} {p} (e:Is=[I]) (hp:ρ[l]?=some p) (hi:s.heap.IsListIter I p.1 i) (hn:nextI σ (.lst l i)=some res):wpAny (model W.prog W.w) A (pyNext (.ref I)) (Nxt W A E target I Q) E s:=by
 unfold nextI at hn
 dsimp only at hn
 split at hn
 ·rename_i xs hl
  (apply am R hl;intro q its n e1 e2 e3 hz)
  rw [hp] at e1;cases e1
  cases ha:xs[i]? with
  | some a =>
   unfold nextL at hn;rw [ha] at hn;cases hn
   obtain ⟨v,hv,rv⟩:=bT e3 ha
   refine wpAny_pyNext_list_item hi (aE e2) (by simpa using hv) fun h' hi' hs=>?_
   obtain ⟨o,ho,hc,_⟩:=id hi'
   exact bq ho hc (by decide) (ks _ _ _ rfl ρ v h' s.toks (bc R hI e hs.extBut) rv (e ▸ .lst hp hi'))
  | none =>
   unfold nextL at hn;rw [ha] at hn;cases hn
   exact wpAny_pyNext_list_end hh hi (aE e2) (by simpa using fC e3 ha) fun h' hs=>kn rfl h' s.toks (bc R hI e hs)
 ·exact nS hn
set_option tactic.hygienic true in
theorem iy {l i:Nat} {p} (e:Is=[I]) (hp:ρ[l]?=some p) (hi:s.heap.IsTupleIter I p.1 i) (hn:nextI σ (.tup l i)=some res):wpAny (model W.prog W.w) A (pyNext (.ref I)) (Nxt W A E target I Q) E s:=by
 unfold nextI at hn
 dsimp only at hn
 split at hn
 ·rename_i xs hl
  (apply a9 R hl;intro q its n e1 e2 e3 hz)
  rw [hp] at e1;cases e1
  cases ha:xs[i]? with
  | some a =>
   unfold nextL at hn;rw [ha] at hn;cases hn
   obtain ⟨v,hv,rv⟩:=bT e3 ha
   refine wpAny_pyNext_tuple_item hi (a7 e2) (by simpa using hv) fun h' hi' hs=>?_
   obtain ⟨o,ho,hc,_⟩:=id hi'
   exact bq ho hc (by decide) (ks _ _ _ rfl ρ v h' s.toks (bc R hI e hs.extBut) rv (e ▸ .tup hp hi'))
  | none =>
   unfold nextL at hn;rw [ha] at hn;cases hn
   exact wpAny_pyNext_tuple_end hh hi (a7 e2) (by simpa using fC e3 ha) fun h' hs=>kn rfl h' s.toks (bc R hI e hs)
 ·exact nS hn
theorem iz {a b:Int} (e:Is=[I]) (hi:IsRangeIter s.heap I a (if a<b then b - a else 0) 1) (hn:nextI σ (.rng a b)=some res):wpAny (model W.prog W.w) A (pyNext (.ref I)) (Nxt W A E target I Q) E s:=by
 unfold nextI at hn
 dsimp only at hn
 split at hn
 ·rename_i hab
  cases hn
  rw [if_pos hab] at hi
  refine wpAny_pyNext_range_item hi (by exact aa [] [_,_] (.ltI (.k 0) (.s J0 J1)) (.ltI J1 J0) [1,1] rfl hab) fun h' hi' hs=>?_
  refine bq hi' rfl (by decide) (ks _ _ _ rfl ρ _ h' _ (bc R hI e hs.extBut) ⟨_,rfl⟩ (e ▸ .rng ?_))
  rw [show (if a+1<b then b - (a+1) else 0)=b - a - 1 by split <;> omega];exact hi'
 ·rename_i hab
  cases hn
  rw [if_neg hab] at hi
  exact wpAny_pyNext_range_end hh hi (by exact ak [] [] (.leI (.k 0) (.k 0)) [1] rfl) fun h' hs=>kn rfl h' s.toks (bc R hI e hs)
set_option tactic.hygienic true in
theorem iA {l i:Nat} {p} (e:Is=[I]) (hp:ρ[l]?=some p) (hi:s.heap.IsRevIter I p.1 ((i:Int) - 1)) (hn:nextI σ (.rev l i)=some res):wpAny (model W.prog W.w) A (pyNext (.ref I)) (Nxt W A E target I Q) E s:=by
 unfold nextI at hn
 dsimp only at hn
 split at hn
 ·rename_i xs hl
  (apply am R hl;intro q its n e1 e2 e3 hz)
  rw [hp] at e1;cases e1
  cases i with
  | zero =>
   cases hn
   exact wpAny_pyNext_rev_end hh hi fun h' hs=>kn rfl h' s.toks (bc R hI e hs)
  | succ k =>
   dsimp only at hn
   cases ha:xs[k]? with
   | some a =>
    rw [ha] at hn
    cases hn
    obtain ⟨v,hv,rv⟩:=bT e3 ha
    have hk:(((k+1:Nat):Int) - 1)=((k:Nat):Int):=by exact au [_] [] (.eqI (.s (.c (.a N0 (.k 1))) (.k 1)) (.c N0)) [1] [1] rfl
    rw [hk] at hi
    refine wpAny_pyNext_rev_item hi (aE e2) (by simpa using hv) fun h' hi' hs=>?_
    refine cps fun _ hG=>?_
    obtain ⟨o,ho,hc,_⟩:=id hi'
    refine hG ?_
    clear hG
    exact bq ho hc (by decide) (ks _ _ _ rfl ρ v h' s.toks (bc R hI e hs.extBut) rv (e ▸ .rev hp hi'))
   | none=>rw [ha] at hn;exact nS hn
 ·exact nS hn
theorem iB {x:Str} {t:Tok} {i:Nat} {T:String} {cs:List Nat} (e:Is=[I]) (hx:x.cps.toList.drop i=cs) (hT:T="str_ascii_iterator"∨T="str_iterator") (hi:s.heap.IsStrIter I T x t i) (hn:nextI σ (.str cs)=some res):wpAny (model W.prog W.w) A (pyNext (.ref I)) (Nxt W A E target I Q) E s:=by
 have n1:owners.contains T=false:=by rcases hT with rfl | rfl <;> decide
 cases cs with
 | nil =>
  cases hn
  have hv:x.cps[i]?=none:=by
   rw [← Array.getElem?_toList,List.getElem?_eq_none_iff]
   exact List.drop_eq_nil_iff.mp hx
  rcases hT with rfl | rfl
  ·exact wpAny_pyNext_ascii_end hh hi hv fun h' hs=>kn rfl h' s.toks (bc R hI e hs)
  ·exact wpAny_pyNext_wide_end hh hi hv fun h' hs=>kn rfl h' s.toks (bc R hI e hs)
 | cons c r =>
  cases hn
  have hv:x.cps[i]?=some c:=by
   rw [← Array.getElem?_toList]
   have:=congrArg (·[0]?) hx
   simpa using this
  have hx':x.cps.toList.drop (i+1)=r:=by
   rw [← List.drop_drop,hx];rfl
  have fin:∀ h' tk,h'.IsStrIter I T x t (i+1)→Heap.SameBut I s.heap h'→wpAny (model W.prog W.w) A (letOwnedTupleGo target (.ref I) (.str ⟨#[c]⟩ tk)) (fun _ s₂=>Q (some (.str ⟨#[c]⟩ tk)) s₂) E ⟨h',s.gens,s.drawn,tk+1,s.os⟩:=fun h' tk hi' hs=>by
   refine cps fun _ hG=>?_
   obtain ⟨o,ho,hc,_⟩:=id hi'
   refine hG ?_
   clear hG
   exact bq ho hc n1 (ks _ _ _ rfl ρ _ h' _ (bc R hI e hs.extBut) ⟨_,_,rfl,rfl⟩ (e ▸ .str hx' hT hi'))
  rcases hT with rfl | rfl
  ·exact wpAny_pyNext_ascii_item hi hv fun h' hi' hs=>fin _ _ hi' hs
  ·exact wpAny_pyNext_wide_item hi hv fun h' hi' hs=>fin _ _ hi' hs
theorem cL {it:It} (x:ItR ρ s.heap Is I it) (hn:nextI σ it=some res):wpAny (model W.prog W.w) A (pyNext (.ref I)) (Nxt W A E target I Q) E s:=by
 cases x with
 | lst hp hi=>exact iw R hI hh kn ks rfl hp hi hn
 | tup hp hi=>exact iy R hI hh kn ks rfl hp hi hn
 | rng hi=>exact iz R hI hh kn ks rfl hi hn
 | rev hp hi=>exact iA R hI hh kn ks rfl hp hi hn
 | str hx hT hi=>exact iB R hI hh kn ks rfl hx hT hi hn
end
end
theorem EnvR.locals_live {h₀:Heap} {V:Cx} {env:Env} {ρ:Rho} {h:Heap} {fr out:Fm} (F:EnvR h₀ V env ρ h fr out):∃ o,h.get? env.locals=some o:=by
 refine cps fun _ hG=>?_
 obtain ⟨m,⟨o,_,_,ho,_⟩,_⟩:=F.ns
 refine hG ?_
 clear hG
 exact ⟨o,ho⟩
theorem fN {h₀:Heap} {V:Cx} {env:Env} {ρ:Rho} {h:Heap} {fr out:Fm} (F:EnvR h₀ V env ρ h fr out):∀ a∈FA V env,∃ o,h.get? a=some o:=by
 intro a ha
 rcases List.mem_cons.mp ha with rfl | ha
 ·exact F.locals_live
 ·obtain ⟨n,hn,e⟩:=List.mem_filterMap.mp ha
  split at e
  ·rename_i hk
   obtain ⟨x,hx⟩:=List.mem_iff_getElem?.mp hn
   rcases F.cel x n hx with ⟨c,_⟩ | ⟨_,_,c,v0,e1,⟨o,ho,_⟩,_⟩
   ·rw [c] at hk;exact fT hk
   ·rw [e] at e1;cases e1
    exact ⟨o,ho⟩
  ·exact nS e
section
variable {W:Wd} {h₀:Heap} {d:Nat} {V:Cx} {fr out:Fm} {σ σ1:Hp} {x:Expr} {a:AV}
theorem CellV.stepP {Is:List Addr} {ρ ρ':Rho} {σ':Hp} {h h':Heap} {env:Env} {n a} (S:StepP W h₀ Is ρ ρ' σ' h h') (x:CellV h₀ ρ h env n a) (nI:∀ c,env.cells.lookup n=some c→c ∉ Is):CellV h₀ ρ' h' env n a:=by
 refine cps fun _ hG=>?_
 obtain ⟨c,v0,e,i,f,no,z⟩:=x
 refine hG ?_
 clear hG
 refine ⟨c,v0,e,cz i fun o=>S.keep c o no (nI c e),fun b hb=>let ⟨v,p,q⟩:=f b hb;⟨v,p,q.mono S.pre⟩,fun m=>?_,z⟩
 rcases S.new c m with m | m
 ·exact no m
 ·obtain ⟨o,ho,_⟩:=i;rw [m] at ho;exact nS ho
theorem EnvR.stepP {Is:List Addr} {ρs ρ ρ':Rho} {σ':Hp} {hs h h':Heap} {V:Cx} {env:Env} {fr0 out0:Fm} (E:EnvR h₀ V env ρ h fr out) (F0:EnvR h₀ V env ρs hs fr0 out0) (hd:∀ a∈Is,hs.get? a=none) (S:StepP W h₀ Is ρ ρ' σ' h h'):EnvR h₀ V env ρ' h' fr out:=by
 obtain ⟨m,hm,hv⟩:=E.ns
 have nI:∀ a o,hs.get? a=some o→a ∉ Is:=fun a o e q=>by have:=hd a q;rw [e] at this;exact sN this
 have nL:env.locals ∉ Is:=let ⟨o,e⟩:=F0.locals_live;nI _ o e
 refine ⟨E.fk,E.gg,E.bb,E.gl,E.nd,E.cnd,⟨fun q=>?_,E.loc.2⟩,E.len,E.dbg,fun x n e=>?_,⟨m,cI hm fun o=>S.keep _ o E.loc.1 nL,fun x n a e k f=>let ⟨v,p,q⟩:=hv x n a e k f;⟨v,p,q.mono S.pre⟩⟩,
  fun x n e k=>?_⟩
 ·rcases S.new _ q with q | q
  ·exact E.loc.1 q
  ·obtain ⟨o,e⟩:=E.locals_live;rw [q] at e;exact nS e
 ·rcases E.cel x n e with c | ⟨c1,c2,c3⟩
  ·exact .inl c
  ·refine .inr ⟨c1,c2,c3.stepP S fun c hc=>?_⟩
   rcases F0.cel x n e with ⟨k,_⟩ | ⟨_,_,c',v0,e1,⟨o,ho,_⟩,_⟩
   ·rw [k] at c1;cases c1
   ·rw [hc] at e1;cases e1;exact nI _ o ho
 ·refine cps fun _ hG=>?_
  obtain ⟨a,b⟩:=E.frees x n e k
  refine hG ?_
  clear hG
  refine ⟨a,b.stepP S fun c hc=>?_⟩
  refine cps fun _ hG=>?_
  obtain ⟨_,c',v0,e1,⟨o,ho,_⟩,_⟩:=F0.frees x n e k
  refine hG ?_
  clear hG
  rw [hc] at e1;cases e1;exact nI _ o ho
noncomputable def SI (W:Wd) (h₀:Heap) (d:Nat) (V:Cx) (x:Expr) (fr:Fm) (σ:Hp) (i:It) (σ':Hp):Prop :=
 ∀ ⦃env:Env⦄ ⦃A:Around⦄ ⦃s:Shared⦄ ⦃ρ:Rho⦄ ⦃Q:Value→Shared→Prop⦄ ⦃E:Value→Shared→Prop⦄,EnvR h₀ V env ρ s.heap fr []→Rel W h₀ ρ σ s.heap→Room d A →
  (∀ ρ' Is I h' tk,Post W h₀ [] ρ ρ' σ' s.heap h'→ItR ρ' h' Is I i→(∀ a∈Is,s.heap.get? a=none∧a ∉ own ρ')→Q (.ref I) ⟨h',s.gens,s.drawn,tk,s.os⟩)→wpAny (model W.prog W.w) A (eval x env) (fun xv s₁=>wpAny (model W.prog W.w) A (pyIter xv) Q E s₁) E s
theorem gy (h:Heap):h.get? h.objs.size=none:=bA fun _ _ e=>e
theorem dc {ρ ρ':Rho} {h h1 h2:Heap} {o:Obj} (P:Post W h₀ [] ρ ρ' σ h h1) (hk:∀ b o,h1.get? b=some o→h2.get? b=some o) (hf:o.isFreed=false) :
  Post W h₀ [] ρ ρ' σ h (h2.push o)∧(h2.push o).get? h2.objs.size=some o∧h.get? h2.objs.size=none∧h2.objs.size ∉ own ρ':=by
 have k2:∀ b o',h1.get? b=some o'→(h2.push o).get? b=some o':=fun b o' e=>Heap.get?_push_of_some _ (hk b o' e)
 have dead1:h1.get? h2.objs.size=none:=bA hk
 refine ⟨P.trans (Post.keeps P.rel k2),Heap.get?_push_size _ hf,P.dead dead1,fun m=>?_⟩
 obtain ⟨o',e⟩:=P.rel.live _ m
 rw [dead1] at e;exact nS e
theorem SI.lst {j:Nat} {xs:List AV} (he:SE W h₀ d V x fr [] σ (.ref j) σ1) (hj:σ1[j]?=some (.list xs)):SI W h₀ d V x fr σ (.lst j 0) σ1:=fun env A s ρ Q E F R O k=>by
 refine he F R O fun ρ1 v h1 tk P r=>?_
 (apply am P.rel hj;intro p its n e1 e2 e3 _)
 cases bL r e1
 refine wpAny_pyIter_list (aE e2) ?_
 obtain ⟨q1,q2,q3,q4⟩:=dc (o:={ cls:=.type "list_iterator",data:=.fields #[.ref p.1,.int 0 0] }) P (fun _ _ e=>e) rfl
 exact k ρ1 _ _ _ tk q1 (.lst e1 ⟨_,q2,rfl,rfl⟩) fun a ha=>by rw [List.mem_singleton.mp ha];exact ⟨q3,q4⟩
theorem SI.tup {j:Nat} {xs:List AV} (he:SE W h₀ d V x fr [] σ (.ref j) σ1) (hj:σ1[j]?=some (.tup xs)):SI W h₀ d V x fr σ (.tup j 0) σ1:=fun env A s ρ Q E F R O k=>by
 refine he F R O fun ρ1 v h1 tk P r=>?_
 (apply a9 P.rel hj;intro p its n e1 e2 e3 _)
 cases bL r e1
 refine wpAny_pyIter_tuple (a7 e2) ?_
 obtain ⟨q1,q2,q3,q4⟩:=dc (o:={ cls:=.type "tuple_iterator",data:=.fields #[.ref p.1,.int 0 0] }) P (fun _ _ e=>e) rfl
 exact k ρ1 _ _ _ tk q1 (.tup e1 ⟨_,q2,rfl,rfl⟩) fun a ha=>by rw [List.mem_singleton.mp ha];exact ⟨q3,q4⟩
theorem SI.str {l:List Nat} (he:SE W h₀ d V x fr [] σ (.str l) σ1):SI W h₀ d V x fr σ (.str l) σ1:=fun env A s ρ Q E F R O k=>by
 refine he F R O fun ρ1 v h1 tk P r=>?_
 refine cps fun _ hG=>?_
 obtain ⟨y,t,rfl,hy⟩:=r
 refine hG ?_
 clear hG
 cases ha:y.cps.all (·<128) with
 | true =>
  refine wpAny_pyIter_ascii ha ?_
  obtain ⟨q1,q2,q3,q4⟩:=dc (o:={ cls:=.type "str_ascii_iterator",data:=.fields #[.str y t,.int 0 0] }) P (fun _ _ e=>e) rfl
  exact k ρ1 _ _ _ tk q1 (.str (x:=y) (i:=0) (by simpa using hy) (.inl rfl) ⟨_,q2,rfl,rfl⟩) fun a ha=>by rw [List.mem_singleton.mp ha];exact ⟨q3,q4⟩
 | false =>
  refine wpAny_pyIter_wide ha ?_
  obtain ⟨q1,q2,q3,q4⟩:=dc (o:={ cls:=.type "str_iterator",data:=.fields #[.str y t,.int 0 0] }) P (fun _ _ e=>e) rfl
  exact k ρ1 _ _ _ tk q1 (.str (x:=y) (i:=0) (by simpa using hy) (.inr rfl) ⟨_,q2,rfl,rfl⟩) fun a ha=>by rw [List.mem_singleton.mp ha];exact ⟨q3,q4⟩
theorem de:bootBuiltins "range"=some (.type "range"):=by decide +kernel
theorem dw:bootBuiltins "reversed"=some (.type "reversed"):=by decide +kernel
theorem dZ (he:SE W h₀ d V x fr out σ a σ1) (ns:tame x=true):SL W h₀ d V [x] fr out σ [a] σ1:=SL.cons he SL.nil ns
theorem cE {a b:Int} (ha:sInt a=true) (hb:sInt b=true):Builtin.Range.small a b 1=true:=by
 have h1:=dP ha;have h2:=dP hb
 unfold Builtin.Range.small
 rw [rangeSize_one]
 simp only [Builtin.Range.rangeFitsLong,Bool.and_eq_true,Bool.or_eq_true,decide_eq_true_eq,beq_iff_eq]
 refine ⟨⟨⟨⟨?_,?_⟩,?_⟩,?_⟩,?_⟩
 all_goals first | omega | (split <;> omega) | skip
 right
 split <;> simp only [decide_eq_true_eq,Bool.and_eq_true] <;> omega
end
section
variable {W:Wd} {h₀:Heap} {K:Frag} {d:Nat} {V:Cx} {fr out:Fm} {σ σ1 σ2:Hp} {x y:Expr} {p q:Pos}
theorem SI.rng1 {n:Int} (hk:V.kind (Str.ofString "range")=some .globalImplicit) (T:Top2 K h₀) (hn:nsIn K mainGlobals "range"=some Option.none) (hb:SE W h₀ d V x fr [] σ (.int n) σ1) (ns:tame x=true) (hs:sInt n=true):SI W h₀ d V (.Call (.Name (Str.ofString "range") p) [x] [] q) fr σ (.rng 0 n) σ1:=fun env A s ρ Q E F R O k=>by
 refine Call_Name rfl (aU T F R hk hn de (by decide) (by decide) (fJ rfl (dZ hb ns) (by simpa using ns) F R O fun ρ1 vs h1 tk P r=>?_))
 obtain ⟨v,_,rfl,r1,r2⟩:=bZ r
 cases dO r2
 obtain ⟨t,rfl⟩:=r1
 refine call_range_1 ?_
 refine wpAny_pyIter_range (IsRange.new ..) (cE (by decide) hs) ?_
 refine cps fun _ hG=>?_
 obtain ⟨q1,q2,q3,q4⟩:=dc (h2:=h1.push { cls:=.type "range",data:=.fields #[.int 0 tk,.int n t,.int 1 (tk+1)] }) (o:={ cls:=.type "range_iterator",data:=.fields #[rawInt 0,rawInt (Builtin.Range.rangeSize 0 n 1),rawInt 1] }) P (fun _ _ e=>Heap.get?_push_of_some _ e) rfl
 refine hG ?_
 clear hG
 exact k ρ1 _ _ _ _ q1 (.rng (by rw [← rangeSize_one];exact q2)) fun a ha=>by rw [List.mem_singleton.mp ha];exact ⟨q3,q4⟩
theorem SI.rng2 {m n:Int} (hk:V.kind (Str.ofString "range")=some .globalImplicit) (T:Top2 K h₀) (hn:nsIn K mainGlobals "range"=some Option.none) (ha:SE W h₀ d V x fr [] σ (.int m) σ1) (hb:SE W h₀ d V y fr [] σ1 (.int n) σ2) (ns1:tame x=true) (ns:tame y=true) (hs1:sInt m=true) (hs:sInt n=true):SI W h₀ d V (.Call (.Name (Str.ofString "range") p) [x,y] [] q) fr σ (.rng m n) σ2:=fun env A s ρ Q E F R O k=>by
 refine Call_Name rfl (aU T F R hk hn de (by decide) (by decide) (fJ rfl (SL.cons ha (dZ hb ns) ns1) (by simp [ns1,ns]) F R O fun ρ1 vs h1 tk P r=>?_))
 obtain ⟨v,_,rfl,r1,r⟩:=bZ r
 obtain ⟨v2,_,rfl,r2,r⟩:=bZ r
 cases dO r
 obtain ⟨t,rfl⟩:=r1;obtain ⟨u,rfl⟩:=r2
 refine call_range_2 ?_
 refine wpAny_pyIter_range (IsRange.new ..) (cE hs1 hs) ?_
 refine cps fun _ hG=>?_
 obtain ⟨q1,q2,q3,q4⟩:=dc (h2:=h1.push { cls:=.type "range",data:=.fields #[.int m t,.int n u,.int 1 tk] }) (o:={ cls:=.type "range_iterator",data:=.fields #[rawInt m,rawInt (Builtin.Range.rangeSize m n 1),rawInt 1] }) P (fun _ _ e=>Heap.get?_push_of_some _ e) rfl
 refine hG ?_
 clear hG
 exact k ρ1 _ _ _ _ q1 (.rng (by rw [← rangeSize_one];exact q2)) fun a ha=>by rw [List.mem_singleton.mp ha];exact ⟨q3,q4⟩
theorem SI.rev {j:Nat} {xs:List AV} (hk:V.kind (Str.ofString "reversed")=some .globalImplicit) (T:Top2 K h₀) (hn:nsIn K mainGlobals "reversed"=some Option.none) (he:SE W h₀ d V x fr [] σ (.ref j) σ1) (ns:tame x=true) (hj:σ1[j]?=some (.list xs)):SI W h₀ d V (.Call (.Name (Str.ofString "reversed") p) [x] [] q) fr σ (.rev j xs.length) σ1:=fun env A s ρ Q E F R O k=>by
 refine Call_Name rfl (aU T F R hk hn dw (by decide) (by decide) (fJ rfl (dZ he ns) (by simpa using ns) F R O fun ρ1 vs h1 tk P r=>?_))
 obtain ⟨v,_,rfl,r1,r2⟩:=bZ r
 cases dO r2
 (apply am P.rel hj;intro p its n e1 e2 e3 _)
 cases bL r1 e1
 refine call_reversed_list (aE e2) ?_
 refine cps fun _ hG=>?_
 obtain ⟨q1,q2,q3,q4⟩:=dc (o:=revObj p.1 ((its.size:Int) - 1)) P (fun _ _ e=>e) rfl
 refine hG ?_
 clear hG
 have hi:(h1.push (revObj p.1 ((its.size:Int) - 1))).IsRevIter h1.objs.size p.1 ((its.size:Int) - 1):=⟨_,q2,rfl,rfl⟩
 refine wpAny_pyIter_revIter hi ?_
 exact k ρ1 _ _ _ tk q1 (.rev e1 (by rw [an e3] at hi ⊢;exact hi)) fun a ha=>by rw [List.mem_singleton.mp ha];exact ⟨q3,q4⟩
theorem eu {target:Expr} {I:Addr} {body:List Stmt} {env:Env} {A:Around} {s:Shared} {R:Result→Shared→Prop}
  (h:wpAny (model W.prog W.w) A (pyNext (.ref I)) (Nxt W A (notedBy (model W.prog W.w) A env fun e s'=>R (.error e) s') target I fun r s₁=>match r with
   | none=>R (.ok .next) s₁
   | some v=>wpAny (model W.prog W.w) A (assign target env v) (fun _ s₂=>wpAny (model W.prog W.w) A (execs body env) (fun f s₃=>match f with
     | .next | .cont=>codeAny (model W.prog W.w) A (.forLoop target (.ref I) body [] env) R s₃
     | .brk=>R (.ok .next) s₃
     | .ret v=>R (.ok (.ret v)) s₃) (notedBy (model W.prog W.w) A env fun e s'=>R (.error e) s') s₂) (notedBy (model W.prog W.w) A env fun e s'=>R (.error e) s') s₁) (notedBy (model W.prog W.w) A env fun e s'=>R (.error e) s') s) :
  codeAny (model W.prog W.w) A (.forLoop target (.ref I) body [] env) R s:=by
 refine codeAny_of_tree ?_
 rw [Around.under_of_weight (show (Code.forLoop target (.ref I) body [] env).weight=0 from rfl)]
 show wpAny _ A ((forTurn target (.ref I) body [] env).onRaise (fun x=>do noteFrame x env;theTreesLotGoes x)) _ _ s
 refine wpAny_noted ?_
 simp only [forTurn]
 refine wpAny_bind (wpAny_standAt (wpAny_bind (wpAny_onRaise (wpAny_mono h (fun r s₁ h₁=>?_) fun _ _ h'=>wpAny_standAt h'))))
 cases r with
 | none=>exact wpAny_pure ⟨rfl,codeAny_block (wpAny_execs_nil h₁)⟩
 | some v =>
  refine wpAny_bind (wpAny_mono h₁ (fun _ s₂ h₂=>?_) fun _ _ h'=>h')
  refine wpAny_bind (wpAny_mono h₂ (fun _ s₂ h₂=>wpAny_bind (wpAny_mono h₂ (fun f s₃ h₃=>?_) fun _ _ h'=>h')) fun _ _ h'=>h')
  cases f with
  | next=>exact wpAny_pure ⟨rfl,h₃⟩
  | cont=>exact wpAny_pure ⟨rfl,h₃⟩
  | brk=>exact wpAny_pure h₃
  | ret v=>exact wpAny_pure h₃
theorem dg {test:Expr} {body:List Stmt} {env:Env} {A:Around} {s:Shared} {R:Result→Shared→Prop}
  (h:wpAny (model W.prog W.w) A (isTrue test env (eval test env)) (fun b s₂ =>
    if b then wpAny (model W.prog W.w) A (execs body env) (fun f s₃=>match f with
      | .next | .cont=>codeAny (model W.prog W.w) A (.whileLoop test body [] env) R s₃
      | .brk=>R (.ok .next) s₃
      | .ret v=>R (.ok (.ret v)) s₃) (notedBy (model W.prog W.w) A env fun e s'=>R (.error e) s') s₂
    else R (.ok .next) s₂)
    (notedBy (model W.prog W.w) A env fun e s'=>R (.error e) s') s) :
  codeAny (model W.prog W.w) A (.whileLoop test body [] env) R s:=by
 refine codeAny_of_tree ?_
 rw [Around.under_of_weight (show (Code.whileLoop test body [] env).weight=0 from rfl)]
 show wpAny _ A ((whileTurn test body [] env).onRaise (fun x=>do noteFrame x env;theTreesLotGoes x)) _ _ s
 refine wpAny_noted ?_
 simp only [whileTurn]
 refine wpAny_bind (wpAny_mono h (fun b s₂ h₂=>?_) fun _ _ h'=>h')
 cases b with
 | false =>
  simp only [Bool.false_eq_true,if_false] at h₂ ⊢
  exact wpAny_bind (wpAny_execs_nil (wpAny_pure h₂))
 | true =>
  simp only [if_true] at h₂ ⊢
  refine wpAny_bind (wpAny_mono h₂ (fun f s₃ h₃=>?_) fun _ _ h'=>h')
  cases f with
  | next=>exact wpAny_pure ⟨rfl,h₃⟩
  | cont=>exact wpAny_pure ⟨rfl,h₃⟩
  | brk=>exact wpAny_pure h₃
  | ret v=>exact wpAny_pure h₃
noncomputable def SFl (W:Wd) (h₀:Heap) (d:Nat) (V:Cx) (x:Expr) (it:It) (ys:List Stmt) (fr:Fm) (σ:Hp) (w:Fw) (fr':Fm) (σ':Hp):Prop :=
 ∀ ⦃env:Env⦄ ⦃A:Around⦄ ⦃s:Shared⦄ ⦃ρ ρs:Rho⦄ ⦃hs:Heap⦄ ⦃fr0:Fm⦄ ⦃Is:List Addr⦄ ⦃I:Addr⦄ ⦃R:Result→Shared→Prop⦄,
  EnvR h₀ V env ρs hs fr0 []→EnvR h₀ V env ρ s.heap fr []→Rel W h₀ ρ σ s.heap→Room d A→Post W h₀ (FA V env) ρs ρ σ hs s.heap→ItR ρ s.heap Is I it→(∀ a∈Is,a ∉ own ρ∧h₀.get? a=none∧hs.get? a=none) →
  (∀ ρ' f h' tk,Post W h₀ (FA V env) ρs ρ' σ' hs h'→EnvR h₀ V env ρ' h' fr' []→FwR ρ' w f→R (.ok f) ⟨h',s.gens,s.drawn,tk,s.os⟩)→codeAny (model W.prog W.w) A (.forLoop x (.ref I) ys [] env) R s
noncomputable def SWl (W:Wd) (h₀:Heap) (d:Nat) (V:Cx) (x:Expr) (ys:List Stmt) (fr:Fm) (σ:Hp) (w:Fw) (fr':Fm) (σ':Hp):Prop :=
 ∀ ⦃env:Env⦄ ⦃A:Around⦄ ⦃s:Shared⦄ ⦃ρ:Rho⦄ ⦃R:Result→Shared→Prop⦄,
  EnvR h₀ V env ρ s.heap fr []→Rel W h₀ ρ σ s.heap→Room d A →
  (∀ ρ' f h' tk,Post W h₀ (FA V env) ρ ρ' σ' s.heap h'→EnvR h₀ V env ρ' h' fr' []→FwR ρ' w f→R (.ok f) ⟨h',s.gens,s.drawn,tk,s.os⟩)→codeAny (model W.prog W.w) A (.whileLoop x ys [] env) R s
end
theorem b6 {W:Wd} {h₀:Heap} {ρ:Rho} {σ:Hp} {h:Heap} (R:Rel W h₀ ρ σ h) {a:Addr} (e:h.get? a=none):a ∉ own ρ∧h₀.get? a=none:=by
 refine ⟨fun m=>?_,?_⟩
 ·obtain ⟨o,e'⟩:=R.live a m;rw [e] at e';exact nS e'
 ·cases q:h₀.get? a with
  | none=>rfl
  | some o=>have:=R.base a o q;rw [e] at this;exact nS this
section
variable {W:Wd} {h₀:Heap} {d:Nat} {V:Cx} {fr out fr1 fr2 fr3:Fm} {σ σ1 σ2 σ3 σ4:Hp} {x c:Expr} {ys:List Stmt} {it it':It} {a:AV} {w w':Fw} {p:Pos}
theorem SFl.done (hn:nextI σ it=some none):SFl W h₀ d V x it ys fr σ .next fr σ:=fun env A s ρ ρs hs fr0 Is I R F0 F RR O P xi hI k=>by
 have hd:∀ a∈Is,hs.get? a=none:=fun a ha=>(hI a ha).2.2
 exact eu (cL RR (fun a ha=>⟨(hI a ha).1,(hI a ha).2.1⟩) O.1 (fun _ h' tk S=>k ρ .next h' tk (P.iter S hd) (F.stepP F0 hd S) rfl) (fun a it' σ' e=>by exact nS e) xi hn)
noncomputable def Goes (w w':Fw) (fr2 fr3:Fm) (σ3 σ4:Hp) (next:Prop):Prop:=match w with
 | .next=>next
 | .cont=>next
 | .brk=>w'=.next∧fr3=fr2∧σ4=σ3
 | .ret v=>w'=.ret v∧fr3=fr2∧σ4=σ3
theorem fO {N:Prop} {ρ3:Rho} {f:Flow} {s3:Shared} {B:Prop} {R:Result→Shared→Prop} (hw:Goes w w' fr2 fr3 σ3 σ4 N) (rf:FwR ρ3 w f) (n:N→B) (k:∀ f,fr3=fr2→σ4=σ3→FwR ρ3 w' f→R (.ok f) s3) :
  (match (generalizing:=false) f with | .next | .cont=>B | .brk=>R (.ok .next) s3 | .ret v=>R (.ok (.ret v)) s3):=by
 cases w with
 | next=>cases rf;exact n hw
 | cont=>cases rf;exact n hw
 | brk=>cases rf;obtain ⟨rfl,h1,h2⟩:=hw;exact k .next h1 h2 rfl
 | ret v =>
  refine cps fun _ hG=>?_
  obtain ⟨rfl,h1,h2⟩:=hw
  refine hG ?_
  clear hG
  obtain ⟨u,rfl,ru⟩:=rf
  exact k (.ret u) h1 h2 ⟨u,rfl,ru⟩
theorem SFl.turn (hn:nextI σ it=some (some (a,it',σ1))) (ha:SA W h₀ d V x a fr [] σ1 fr1 σ2) (hb:SS W h₀ d V ys fr1 σ2 w fr2 σ3)
  (hw:Goes w w' fr2 fr3 σ3 σ4 (SFl W h₀ d V x it' ys fr2 σ3 w' fr3 σ4)):SFl W h₀ d V x it ys fr σ w' fr3 σ4:=fun env A s ρ ρs hs fr0 Is I R F0 F RR O P xi hI k=>by
 have hd:∀ a∈Is,hs.get? a=none:=fun a ha=>(hI a ha).2.2
 have hFA:∀ a∈Is,a ∉ FA V env:=fun a ha m=>by obtain ⟨o,e⟩:=fN F0 a m;rw [hd a ha] at e;exact nS e
 refine eu (cL RR (fun a ha=>⟨(hI a ha).1,(hI a ha).2.1⟩) O.1 (fun e=>by exact sN e) (fun a' it'' σ' e ρ1 v h1 tk1 S1 rv x1=>?_) xi hn)
 cases e
 have P1:=P.iter S1 hd
 have F1:=F.stepP F0 hd S1
 refine ha F1 P1.rel O rv fun ρ2 u h2 tk2 P2 F2 _=>hb F2 P2.rel O fun ρ3 f h3 tk3 P3 F3 rf=>?_
 have PP:Post W h₀ (FA V env) ρ1 ρ3 σ3 h1 h3:=P2.trans P3
 have P4:=P1.trans PP
 have nown:∀ a∈Is,a ∉ own ρ1:=fun a ha m=>by
  rcases S1.new a m with q | q
  ·exact (hI a ha).1 q
  ·obtain ⟨o,e⟩:=xi.live a ha;rw [q] at e;exact nS e
 have x3:ItR ρ3 h3 Is I it':=x1.keep PP.pre fun a ha o e=>PP.keep a o (nown a ha) (hFA a ha) e
 have hI3:∀ a∈Is,a ∉ own ρ3∧h₀.get? a=none∧hs.get? a=none:=fun a ha=>by
  obtain ⟨o,e⟩:=x1.live a ha
  exact ⟨PP.stay (nown a ha) e,(hI a ha).2.1,(hI a ha).2.2⟩
 exact fO hw rf (fun hl=>hl (s:=⟨h3,s.gens,s.drawn,tk3,s.os⟩) F0 F3 P4.rel O P4 x3 hI3 k) fun f e1 e2 r=>k ρ3 f h3 tk3 (by rw [e2];exact P4) (by rw [e1];exact F3) r
theorem iC (ns:tame x=true) (env:Env):∀ v,foldedSetIterable x env v=pure v:=by
 intro v
 cases x <;> first | exact Eq.refl (pure v) | exact fT ns
theorem S1.for_ {ix:Expr} {i:It} (hi:SI W h₀ d V ix fr σ i σ1) (ns:tame ix=true) (hl:SFl W h₀ d V x i ys fr σ1 w fr1 σ2):S1 W h₀ d V (.For x ix ys [] p) fr σ w fr1 σ2:=fun env A s ρ Q E F R O k=>by
 refine wpAny_For (hi F R O fun ρ1 Is I h1 tk P x hI=>?_) (iC ns env)
 exact hl (s:=⟨h1,s.gens,s.drawn,tk,s.os⟩) (hs:=s.heap) F (F.post P) P.rel O P.more x (fun a ha=>⟨(hI a ha).2,(b6 R (hI a ha).1).2,(hI a ha).1⟩) fun ρ2 f h2 tk2 P2 F2 rf=>k ρ2 f h2 tk2 P2 F2 rf
theorem SWl.stop (hc:SC W h₀ d V c fr [] σ false σ1):SWl W h₀ d V c ys fr σ .next fr σ1:=fun env A s ρ R F RR O k =>
 dg (hc F RR O fun ρ1 h1 tk P=>k ρ1 .next h1 tk P.more (F.post P) rfl)
theorem SWl.turn (hc:SC W h₀ d V c fr [] σ true σ1) (hb:SS W h₀ d V ys fr σ1 w fr2 σ3) (hw:Goes w w' fr2 fr3 σ3 σ4 (SWl W h₀ d V c ys fr2 σ3 w' fr3 σ4)):SWl W h₀ d V c ys fr σ w' fr3 σ4:=fun env A s ρ R F RR O k=>by
 refine dg (hc F RR O fun ρ1 h1 tk P=>?_)
 rw [if_pos rfl]
 refine hb (F.post P) P.rel O fun ρ3 f h3 tk3 P3 F3 rf=>?_
 have P4:Post W h₀ (FA V env) ρ ρ3 σ3 s.heap h3:=P.more.trans P3
 exact fO hw rf (fun hl=>hl (s:=⟨h3,s.gens,s.drawn,tk3,s.os⟩) (R:=R) F3 P4.rel O fun ρ5 f5 h5 tk5 P5 F5 r5=>k ρ5 f5 h5 tk5 (P4.trans P5) F5 r5) fun f e1 e2 r=>k ρ3 f h3 tk3 (by rw [e2];exact P4) (by rw [e1];exact F3) r
theorem S1.while (hl:SWl W h₀ d V c ys fr σ w fr1 σ2):S1 W h₀ d V (.While c ys [] p) fr σ w fr1 σ2:=fun env A s ρ Q E F R O k =>
 wpAny_While (hl F R O fun ρ2 f h2 tk2 P2 F2 rf=>k ρ2 f h2 tk2 P2 F2 rf)
end
theorem d0 {α:Type} {l:List (Str×α)} {n:Str} {c:α} (nd:(l.map (·.1)).Nodup) (h:(n,c)∈l):l.lookup n=some c:=by
 induction l with
 | nil=>cases h
 | cons q r ih =>
  rw [List.map_cons,List.nodup_cons] at nd
  rcases List.mem_cons.mp h with e | h2
  ·rw [← e,List.lookup_cons,beq_self_eq_true]
  ·have:(n == q.1)=false:=by
    rw [beq_eq_false_iff_ne]
    intro e
    exact nd.1 (List.mem_map.mpr ⟨_,h2,e⟩)
   rw [List.lookup_cons,this]
   exact ih nd.2 h2
theorem iD {α:Type} {l:List α} (h:l.Nodup):l.reverse.Nodup:=List.pairwise_reverse.mpr (List.Pairwise.imp (fun h=>Ne.symm h) h)
noncomputable def cloOf (env:Env) (l:List (Str×NameKind)):List (Str×Addr):=l.filterMap fun p=>if p.2 == .free then (env.cells.lookup p.1).map (p.1,·) else none
theorem ew {env:Env} {n:Str} {c:Addr} {r} (h:env.cells.lookup n=some c):cloOf env ((n,.free)::r)=(n,c)::cloOf env r:=by
 unfold cloOf
 rw [List.filterMap_cons]
 dsimp only
 rw [h]
 rfl
theorem ey {env:Env} {n:Str} {k:NameKind} {r} (h:(k == .free)=false):cloOf env ((n,k)::r)=cloOf env r:=by
 unfold cloOf
 rw [List.filterMap_cons]
 dsimp only
 rw [h]
 rfl
theorem gz {env:Env} {l:List (Str×NameKind)}:∀ (acc:List (Str×Addr)),(∀ p∈l,p.2=.free→∃ c,env.cells.lookup p.1=some c) →
  (forIn l acc fun (x:Str×NameKind) r=>match x with
   | (name,kind)=>if (kind == NameKind.free)=true then (do let __do_lift ← cellOf env name;pure (ForInStep.yield ((name,__do_lift)::r)):Sem _) else pure (ForInStep.yield r))=(pure ((cloOf env l).reverse++acc):Sem (List (Str×Addr))):=by
 induction l with
 | nil=>intro acc _;rfl
 | cons q r ih =>
  intro acc h
  obtain ⟨n,k⟩:=q
  rw [List.forIn_cons]
  have ih:=fun acc=>ih acc fun p hp=>h p (.tail _ hp)
  dsimp only
  cases hk:k == NameKind.free with
  | true =>
   rw [beq_iff_eq.mp hk] at h ⊢
   obtain ⟨c,hc⟩:=h (n,.free) (.head _) rfl
   have e:cellOf env n=pure c:=by unfold cellOf;dsimp only at hc;rw [hc]
   rw [if_pos rfl,e]
   show ((pure (ForInStep.yield ((n,c)::acc)):Sem _) >>= _)=_
   rw [pure_bind]
   dsimp only
   rw [ih,ew hc,List.reverse_cons,List.append_assoc]
   rfl
  | false =>
   rw [if_neg Bool.false_ne_true,pure_bind]
   dsimp only
   rw [ih,ey hk]
theorem d1 {env:Env} {l:List (Str×NameKind)} {n:Str} {c:Addr} (h:(n,c)∈cloOf env l):(n,NameKind.free)∈l∧env.cells.lookup n=some c:=by
 obtain ⟨⟨m,k⟩,hm,e⟩:=List.mem_filterMap.mp h
 dsimp only at e
 split at e
 ·rename_i hk
  rw [beq_iff_eq] at hk
  subst hk
  cases q:env.cells.lookup m with
  | none=>rw [q] at e;exact nS e
  | some c'=>rw [q] at e;apply sQ e;exact ⟨hm,q⟩
 ·exact nS e
theorem iE {env:Env} (cnd:(env.cells.map (·.2)).Nodup) {l:List (Str×NameKind)}:(l.map (·.1)).Nodup→((cloOf env l).map (·.1)).Nodup∧((cloOf env l).map (·.2)).Nodup:=by
 induction l with
 | nil=>exact fun _=>⟨.nil,.nil⟩
 | cons q r ih =>
  intro nd
  obtain ⟨n,k⟩:=q
  rw [List.map_cons,List.nodup_cons] at nd
  have ih:=ih nd.2
  cases hk:k == NameKind.free with
  | false=>rw [ey hk];exact ih
  | true =>
   cases beq_iff_eq.mp hk
   cases hc:env.cells.lookup n with
   | none =>
    have:cloOf env ((n,.free)::r)=cloOf env r:=by
     unfold cloOf
     rw [List.filterMap_cons]
     dsimp only
     rw [hc]
     rfl
    rw [this];exact ih
   | some c =>
    rw [ew hc,List.map_cons,List.map_cons,List.nodup_cons,List.nodup_cons]
    refine ⟨⟨fun m=>?_,ih.1⟩,fun m=>?_,ih.2⟩
    ·obtain ⟨p,hm,e⟩:=List.mem_map.mp m
     exact nd.1 (List.mem_map.mpr ⟨_,(d1 hm).1,e⟩)
    ·obtain ⟨p,hm,e⟩:=List.mem_map.mp m
     obtain ⟨z1,z2⟩:=d1 hm
     exact dS cnd (ax hc) (ax z2) (fun w=>nd.1 (List.mem_map.mpr ⟨_,z1,w.symm⟩)) e.symm
noncomputable def relab (env:Env) (p:Str×NameKind):Str×NameKind:=match p with
 | (n,k)=>if (k == NameKind.free && env.scope.kind == .function && env.kindOf n == some .cell) then (n,NameKind.cell) else (n,k)
theorem gA (env:Env) (p:Str×NameKind):(relab env p).1=p.1:=by unfold relab;dsimp only;split <;> rfl
theorem b7 {env:Env} {l:List (Str×NameKind)} {x:Str} {k:NameKind} (h:l.lookup x=some k):(l.map (relab env)).lookup x=some (relab env (x,k)).2:=by
 induction l with
 | nil=>exact nS h
 | cons q r ih =>
  rw [List.map_cons,List.lookup_cons,gA]
  rw [List.lookup_cons] at h
  cases hx:x == q.1 with
  | true =>
   rw [hx] at h
   apply s1Q h
   rw [beq_iff_eq.mp hx]
  | false =>
   rw [hx] at h
   exact ih h
theorem aW {env:Env} {names:List (Str×NameKind)} {x:Str} {k:NameKind} (hk:k≠.free) (h:names.lookup x=some k) :
  (names.map (relab env)).lookup x=some k:=by
 rw [b7 h]
 unfold relab
 dsimp only
 rw [beq_eq_false_iff_ne.mpr hk]
 rfl
theorem bG {env:Env} (hf:env.scope.kind=.function) {names:List (Str×NameKind)} {x:Str} (h:names.lookup x=some .free) (hc:env.kindOf x=some .cell) :
  (names.map (relab env)).lookup x=some .cell:=by
 rw [b7 h]
 unfold relab
 dsimp only
 rw [hf,hc]
 rfl
structure CompOK (V:Cx) (names:List Str) (sc:Scope):Prop where
 fk:sc.kind=.function
 nocell:∀ y∈sc.names,y.2≠.cell
 loc:∀ y∈sc.names,y.2=.local→sc.names.lookup y.1=some .local
 free:∀ y∈sc.names,y.2=.free→V.kind y.1=some .cell∧y.1∈V.vs
 own:∀ n∈names,sc.names.lookup n=some .local∧(n == dbgS)=false
 nd:names.Nodup
 nd2:(sc.names.map (·.1)).Nodup
theorem dC {V:Cx} {names:List Str} {sc:Scope} (h:compScope V names sc=true):CompOK V names sc:=by
 unfold compScope at h
 rw [Bool.and_eq_true,Bool.and_eq_true,Bool.and_eq_true,Bool.and_eq_true,Bool.and_eq_true,Bool.and_eq_true,List.all_eq_true,List.all_eq_true] at h
 obtain ⟨⟨⟨⟨⟨⟨h1,h2⟩,h3⟩,h4⟩,h5⟩,h6⟩,h7⟩:=h
 have h4:=fun y hy=>Bool.and_eq_true_iff.mp (h4 y hy)
 have h4':=fun y hy=>Bool.and_eq_true_iff.mp (h4 y hy).1
 have h5:=fun y hy=>Bool.and_eq_true_iff.mp (h5 y hy)
 refine ⟨beq_iff_eq.mp h1,fun y hy=>bne_iff_ne.mp (h4' y hy).1,fun y hy e=>?_,fun y hy e=>?_,fun n hn=>⟨beq_iff_eq.mp (h5 n hn).1,?_⟩,dR h6,dR h7⟩
 ·have:=(h4' y hy).2
  rw [e] at this
  exact beq_iff_eq.mp this
 ·have:=(h4 y hy).2
  rw [e] at this
  have:=Bool.and_eq_true_iff.mp this
  exact ⟨beq_iff_eq.mp this.1,List.contains_iff_mem.mp this.2⟩
 ·have:=(h5 n hn).2
  rwa [Bool.not_eq_true'] at this
section
variable {W:Wd} {h₀:Heap} {d:Nat} {V:Cx} {fr out fr2 fr3:Fm} {σ σ1 σ2 σ3:Hp}
theorem fP {env:Env} {ρ:Rho} {h:Heap} {names:List Str} {sc:Scope} (E:EnvR h₀ V env ρ h fr out) (S:CompOK V names sc) :
  closureFor sc env=pure (cloOf env sc.names).reverse∧(∀ n,sc.names.lookup n=some .free→(cloOf env sc.names).reverse.lookup n=env.cells.lookup n)∧((cloOf env sc.names).reverse.map (·.2)).Nodup:=by
 have cells:∀ p∈sc.names,p.2=.free→∃ c,env.cells.lookup p.1=some c:=fun p hp e=>by
  refine cps fun _ hG=>?_
  obtain ⟨k,m⟩:=S.free p hp e
  refine hG ?_
  clear hG
  refine cps fun _ hG=>?_
  obtain ⟨x,hx⟩:=List.mem_iff_getElem?.mp m
  refine hG ?_
  clear hG
  rcases E.cel x _ hx with ⟨c,_⟩ | ⟨_,_,c,v0,e1,_⟩
  ·rw [k] at c;cases c
  ·exact ⟨c,e1⟩
 obtain ⟨i1,i2⟩:=iE (List.nodup_cons.mp E.cnd).2 S.nd2
 refine ⟨?_,fun n hn=>?_,?_⟩
 ·unfold closureFor
  have:=gz [] cells
  rw [List.append_nil] at this
  rw [← this]
  exact bind_pure _
 ·obtain ⟨c,hc⟩:=cells (n,.free) (ax hn) rfl
  rw [hc]
  refine d0 ?_ ?_
  ·rw [List.map_reverse];exact iD i1
  ·rw [List.mem_reverse]
   refine List.mem_filterMap.mpr ⟨_,ax hn,?_⟩
   dsimp only at hc ⊢
   rw [hc];rfl
 ·rw [List.map_reverse];exact iD i2
theorem EnvR.comp {env:Env} {ρ:Rho} {h:Heap} {names:List Str} {sc:Scope} {C:Addr} {m} (E:EnvR h₀ V env ρ h fr out) (S:CompOK V names sc) (hC:C ∉ own ρ∧h₀.get? C=none) (hn:h.Ns C m) (hCe:C ∉ (cloOf env sc.names).map (·.2)) :
  EnvR h₀ (compCx V names sc) (compEnvC sc (cloOf env sc.names).reverse C env) ρ h (List.replicate names.length none) fr:=by
 obtain ⟨_,c2,c3⟩:=fP E S
 have loc:∀ n∈names,(compEnvC sc (cloOf env sc.names).reverse C env).kindOf n=some .local:=fun n hn=>aW (by decide) (S.own n hn).1
 refine ⟨S.fk,E.gg,E.bb,fun y hy=>aW (by decide) hy,S.nd,?_,hC,List.length_replicate,fun n hn=>?_,fun x n e=>.inl ⟨(S.own n (List.mem_of_getElem? e)).1,loc n (List.mem_of_getElem? e)⟩,⟨m,hn,fun x n a e k f=>?_⟩,fun x n e k=>?_⟩
 ·refine List.nodup_cons.mpr ⟨fun w=>hCe ?_,c3⟩
  obtain ⟨q,hq,e⟩:=List.mem_map.mp w
  exact List.mem_map.mpr ⟨q,List.mem_reverse.mp hq,e⟩
 ·rcases List.mem_append.mp hn with hn | hn
  ·exact (S.own n hn).2
  ·exact E.dbg n (List.mem_append_left _ hn)
 ·rw [List.getElem?_replicate] at f
  split at f <;> (first | exact nS f | cases f)
 ·have hk:sc.names.lookup n=some .free:=k
  have kc:=(S.free _ (ax hk) rfl).1
  rcases E.cel x n e with ⟨c,_⟩ | ⟨_,kk,c,v0,e1,r⟩
  ·dsimp only at kc;rw [kc] at c;cases c
  ·exact ⟨bG E.fk hk kk,c,v0,(c2 _ hk).trans e1,r⟩
theorem jM {env:Env} {names:List Str} {sc:Scope} {C:Addr} {cl} (S:CompOK V names sc):FA (compCx V names sc) (compEnvC sc cl C env)=[C]:=by
 show C::_=_
 congr 1
 rw [List.filterMap_eq_nil_iff]
 intro n hn
 have:=(S.own n hn).1
 show (if sc.names.lookup n == some .cell then _ else none)=none
 rw [this]
 rfl
theorem dD {elt target iter:Expr} {ifs:List Expr} {scope:Scope} {pos:Pos} {I:Addr} {acc:Value} {env:Env} {A:Around} {s:Shared} {R:Result→Shared→Prop}
  (h:wpAny (model W.prog W.w) A (pyNext (.ref I)) (Nxt W A (notedBy (model W.prog W.w) A env fun e s'=>R (.error e) s') target I fun r s₁=>match r with
   | none=>R (.ok .next) s₁
   | some v=>wpAny (model W.prog W.w) A (assign target env v) (fun _ s₂ =>
     wpAny (model W.prog W.w) A (forIn ifs true fun c r=>if r=true then do let ok ← isTrue c env (eval c env);pure (ForInStep.yield ok) else pure (ForInStep.yield r)) (fun ok s₃ =>
      if ok=true then wpAny (model W.prog W.w) A (eval elt env) (fun x s₄ =>
       wpAny (model W.prog W.w) A (call (.builtin "list.append") [acc,x]) (fun _ s₅=>codeAny (model W.prog W.w) A (.compLoop (.ListComp elt [⟨target,iter,ifs,0⟩] scope pos) 0 (.ref I) acc env) R s₅) (notedBy (model W.prog W.w) A env fun e s'=>R (.error e) s') s₄) (notedBy (model W.prog W.w) A env fun e s'=>R (.error e) s') s₃
      else codeAny (model W.prog W.w) A (.compLoop (.ListComp elt [⟨target,iter,ifs,0⟩] scope pos) 0 (.ref I) acc env) R s₃) (notedBy (model W.prog W.w) A env fun e s'=>R (.error e) s') s₂) (notedBy (model W.prog W.w) A env fun e s'=>R (.error e) s') s₁) (notedBy (model W.prog W.w) A env fun e s'=>R (.error e) s') s) :
  codeAny (model W.prog W.w) A (.compLoop (.ListComp elt [⟨target,iter,ifs,0⟩] scope pos) 0 (.ref I) acc env) R s:=by
 refine codeAny_of_tree ?_
 rw [Around.under_of_weight (show (Code.compLoop (.ListComp elt [⟨target,iter,ifs,0⟩] scope pos) 0 (.ref I) acc env).weight=0 from rfl)]
 show wpAny _ A ((compTurn (.ListComp elt [⟨target,iter,ifs,0⟩] scope pos) 0 (.ref I) acc env).onRaise (fun x=>do noteFrame x env;theTreesLotGoes x)) _ _ s
 refine wpAny_noted ?_
 rw [compTurn_list]
 refine wpAny_bind (wpAny_standAt (wpAny_bind (wpAny_mono h (fun r s₁ h₁=>?_) fun _ _ h'=>h')))
 cases r with
 | none=>exact wpAny_pure h₁
 | some v =>
  refine wpAny_bind (wpAny_mono h₁ (fun _ s₂ h₂=>?_) fun _ _ h'=>h')
  refine wpAny_bind (wpAny_mono h₂ (fun _ s₂ h₂=>wpAny_bind (wpAny_mono h₂ (fun ok s₃ h₃=>?_) fun _ _ h'=>h')) fun _ _ h'=>h')
  cases ok with
  | false=>exact wpAny_pure ⟨rfl,h₃⟩
  | true =>
   exact wpAny_bind (wpAny_bind (wpAny_mono h₃ (fun x s₄ h₄=>wpAny_bind (wpAny_mono h₄ (fun _ s₅ h₅=>wpAny_pure (wpAny_pure ⟨rfl,h₅⟩)) fun _ _ h'=>h')) fun _ _ h'=>h'))
theorem Post.wider {F F':List Addr} {ρ ρ':Rho} {σ':Hp} {h h':Heap} (P:Post W h₀ F ρ ρ' σ' h h') (hF:∀ a∈F,a∈F'):Post W h₀ F' ρ ρ' σ' h h':=⟨P.pre,P.rel,fun b o nb nf e=>P.keep b o nb (fun m=>nf (hF b m)) e,P.alive,P.new⟩
theorem EnvR.stepC {Is:List Addr} {ρ ρ':Rho} {σ':Hp} {h h':Heap} {V:Cx} {env:Env} (E:EnvR h₀ V env ρ h fr out) (hN:∀ a∈Is,a≠env.locals∧∀ n,env.cells.lookup n≠some a) (S:StepP W h₀ Is ρ ρ' σ' h h'):EnvR h₀ V env ρ' h' fr out:=by
 obtain ⟨m,hm,hv⟩:=E.ns
 have nL:env.locals ∉ Is:=fun q=>(hN _ q).1 rfl
 have nC:∀ n c,env.cells.lookup n=some c→c ∉ Is:=fun n c e q=>(hN _ q).2 n e
 refine ⟨E.fk,E.gg,E.bb,E.gl,E.nd,E.cnd,⟨fun q=>?_,E.loc.2⟩,E.len,E.dbg,fun x n e=>?_,⟨m,cI hm fun o=>S.keep _ o E.loc.1 nL,fun x n a e k f=>let ⟨v,p,q⟩:=hv x n a e k f;⟨v,p,q.mono S.pre⟩⟩,
  fun x n e k=>?_⟩
 ·rcases S.new _ q with q | q
  ·exact E.loc.1 q
  ·obtain ⟨o,e⟩:=E.locals_live;rw [q] at e;exact nS e
 ·rcases E.cel x n e with c | ⟨c1,c2,c3⟩
  ·exact .inl c
  ·exact .inr ⟨c1,c2,c3.stepP S fun c hc=>nC _ c hc⟩
 ·refine cps fun _ hG=>?_
  obtain ⟨a,b⟩:=E.frees x n e k
  refine hG ?_
  clear hG
  exact ⟨a,b.stepP S fun c hc=>nC _ c hc⟩
theorem kZ {V:Cx} {env:Env} {a:Addr} (h:a∈FA V env):a=env.locals∨∃ n,env.cells.lookup n=some a:=by
 rcases List.mem_cons.mp h with rfl | h
 ·exact .inl rfl
 ·obtain ⟨n,hn,e⟩:=List.mem_filterMap.mp h
  split at e
  ·exact .inr ⟨_,e⟩
  ·exact nS e
noncomputable def SCm (W:Wd) (h₀:Heap) (d:Nat) (V:Cx) (tx x:Expr) (xs:List Expr) (it:It) (acc:Nat) (fr out:Fm) (σ:Hp) (fr':Fm) (σ':Hp):Prop :=
 ∀ ⦃iter:Expr⦄ ⦃scope:Scope⦄ ⦃pos:Pos⦄ ⦃env:Env⦄ ⦃A:Around⦄ ⦃s:Shared⦄ ⦃ρ ρs:Rho⦄ ⦃hs:Heap⦄ ⦃Fs Is:List Addr⦄ ⦃I:Addr⦄ ⦃p:Addr×Option Addr⦄ ⦃R:Result→Shared→Prop⦄,
  (∀ a∈Is,a≠env.locals∧∀ n,env.cells.lookup n≠some a)→EnvR h₀ V env ρ s.heap fr out→Rel W h₀ ρ σ s.heap→Room d A→(∀ a∈FA V env,a∈Fs)→Post W h₀ Fs ρs ρ σ hs s.heap→ItR ρ s.heap Is I it →
  (∀ a∈Is,a ∉ own ρ∧h₀.get? a=none∧hs.get? a=none)→ρ[acc]?=some p →
  (∀ ρ' h' tk,Post W h₀ Fs ρs ρ' σ' hs h'→EnvR h₀ V env ρ' h' fr' out→ρ'[acc]?=some p→R (.ok .next) ⟨h',s.gens,s.drawn,tk,s.os⟩)→codeAny (model W.prog W.w) A (.compLoop (.ListComp x [⟨tx,iter,xs,0⟩] scope pos) 0 (.ref I) (.ref p.1) env) R s
variable {tx x ix:Expr} {xs:List Expr} {it it':It} {acc:Nat}
theorem SCm.done (hn:nextI σ it=some none):SCm W h₀ d V tx x xs it acc fr out σ fr σ:=fun iter scope pos env A s ρ ρs hs Fs Is I p R hN F RR O hF P xi hI hp k=>by
 have hd:∀ a∈Is,hs.get? a=none:=fun a ha=>(hI a ha).2.2
 refine dD (cL RR (fun a ha=>⟨(hI a ha).1,(hI a ha).2.1⟩) O.1 (fun _ h' tk S=>?_) (fun a it' σ' e=>by exact nS e) xi hn)
 exact k ρ h' tk (P.iter S hd) (F.stepC hN S) hp
noncomputable def CondOK (W:Wd) (h₀:Heap) (d:Nat) (V:Cx) (xs:List Expr) (fr out:Fm) (σ:Hp) (ok:Bool) (σ':Hp):Prop :=
 (xs=[]∧ok=true∧σ'=σ)∨∃ c,xs=[c]∧SC W h₀ d V c fr out σ ok σ'
theorem SCm.turn {a:AV} {ok:Bool} {fr1 fr2:Fm} {σ1 σ2 σ3 σ5 σ6:Hp} (hn:nextI σ it=some (some (a,it',σ1))) (ha:SA W h₀ d V tx a fr out σ1 fr1 σ2)
  (hc:CondOK W h₀ d V xs fr1 out σ2 ok σ3)
  (he:if ok then ∃ b σ4 zs,SE W h₀ d V x fr1 out σ3 b σ4∧σ4[acc]?=some (.list zs)∧zs.length<LIM∧σ5=σ4.set acc (.list (zs++[b])) else σ5=σ3)
  (hl:SCm W h₀ d V tx x xs it' acc fr1 out σ5 fr2 σ6):SCm W h₀ d V tx x xs it acc fr out σ fr2 σ6:=fun iter scope pos env A s ρ ρs hs Fs Is I p R hN F RR O hF P xi hI hp k=>by
 have hd:∀ a∈Is,hs.get? a=none:=fun a ha=>(hI a ha).2.2
 have hFA:∀ a∈Is,a ∉ FA V env:=fun a ha m=>by
  rcases kZ m with e | ⟨n,e⟩
  ·exact (hN a ha).1 e
  ·exact (hN a ha).2 n e
 refine dD (cL RR (fun a ha=>⟨(hI a ha).1,(hI a ha).2.1⟩) O.1 (fun e=>by exact sN e) (fun a' it'' σ' e ρ1 v h1 tk1 S1 rv x1=>?_) xi hn)
 cases e
 have P1:=P.iter S1 hd
 have F1:=F.stepC hN S1
 have nown:∀ a∈Is,a ∉ own ρ1:=fun a ha m=>by
  rcases S1.new a m with q | q
  ·exact (hI a ha).1 q
  ·obtain ⟨o,e⟩:=xi.live a ha;rw [q] at e;exact nS e
 refine ha F1 P1.rel O rv fun ρ2 u h2 tk2 P2 F2 _=>?_
 have rest:∀ ρ5 h5 tk5,Post W h₀ [] ρ2 ρ5 σ5 h2 h5→codeAny (model W.prog W.w) A (.compLoop (.ListComp _ [⟨_,iter,_,0⟩] scope pos) 0 (.ref I) (.ref p.1) env) R ⟨h5,s.gens,s.drawn,tk5,s.os⟩:=fun ρ5 h5 tk5 P5=>by
  have PP:Post W h₀ (FA V env) ρ1 ρ5 σ5 h1 h5:=P2.trans P5.more
  have P4:=P1.trans (PP.wider hF)
  have x3:ItR ρ5 h5 Is I it':=x1.keep PP.pre fun a ha o e=>PP.keep a o (nown a ha) (hFA a ha) e
  have hI3:∀ a∈Is,a ∉ own ρ5∧h₀.get? a=none∧hs.get? a=none:=fun a ha=>by
   obtain ⟨o,e⟩:=x1.live a ha
   exact ⟨PP.stay (nown a ha) e,(hI a ha).2.1,(hI a ha).2.2⟩
  exact hl (s:=⟨h5,s.gens,s.drawn,tk5,s.os⟩) hN (F2.post P5) P4.rel O hF P4 x3 hI3 (aD PP.pre (aD S1.pre hp)) k
 have elt_ok:∀ ρ3 h3 tk3,Post W h₀ [] ρ2 ρ3 σ3 h2 h3→if ok=true then wpAny (model W.prog W.w) A (eval x env) (fun x s₄ =>
   wpAny (model W.prog W.w) A (call (.builtin "list.append") [.ref p.1,x]) (fun _ s₅=>codeAny (model W.prog W.w) A (.compLoop (.ListComp _ [⟨_,iter,_,0⟩] scope pos) 0 (.ref I) (.ref p.1) env) R s₅) (notedBy (model W.prog W.w) A env fun e s'=>R (.error e) s') s₄) (notedBy (model W.prog W.w) A env fun e s'=>R (.error e) s') ⟨h3,s.gens,s.drawn,tk3,s.os⟩
   else codeAny (model W.prog W.w) A (.compLoop (.ListComp _ [⟨_,iter,_,0⟩] scope pos) 0 (.ref I) (.ref p.1) env) R ⟨h3,s.gens,s.drawn,tk3,s.os⟩:=fun ρ3 h3 tk3 P3=>by
  cases ok with
  | false =>
   rw [if_neg (by decide)] at he ⊢
   subst he
   exact rest ρ3 h3 tk3 P3
  | true =>
   rw [if_pos rfl] at he ⊢
   refine cps fun _ hG=>?_
   obtain ⟨b,σ4,ys,hb,e4,hz,rfl⟩:=he
   refine hG ?_
   clear hG
   refine hb (F2.post P3) P3.rel O fun ρ4 w h4 tk4 P4 r4=>?_
   have hp4:ρ4[acc]?=some p:=aD P4.pre (aD P3.pre (aD P2.pre (aD S1.pre hp)))
   refine cB P4.rel e4 hp4 r4 hz fun ρ5 w5 h5 tk5 P5 _=>?_
   exact rest ρ5 h5 tk5 (P3.trans (P4.trans P5))
 rcases hc with ⟨rfl,rfl,rfl⟩ | ⟨c,rfl,hc⟩
 ·exact wpAny_tests_nil (elt_ok ρ2 h2 tk2 (.refl P2.rel))
 ·exact wpAny_tests_one (hc F2 P2.rel O fun ρ3 h3 tk3 P3=>elt_ok ρ3 h3 tk3 P3)
theorem ez {env:Env} {ρ:Rho} {h:Heap} {names:List Str} {sc:Scope} (E:EnvR h₀ V env ρ h fr out) (S:CompOK V names sc) {n c} (hq:(n,c)∈cloOf env sc.names):∃ o,h.get? c=some o:=by
 obtain ⟨z1,z2⟩:=d1 hq
 obtain ⟨k,m⟩:=S.free _ z1 rfl
 obtain ⟨x,hx⟩:=List.mem_iff_getElem?.mp m
 rcases E.cel x _ hx with ⟨c,_⟩ | ⟨_,_,c',v0,e1,⟨o,ho,_⟩,_⟩
 ·rw [k] at c;cases c
 ·rw [z2] at e1;cases e1;exact ⟨o,ho⟩
theorem jN {A:Around} {s:Shared} {E:Value→Shared→Prop} {ρ:Rho} {Is:List Addr} {I:Addr} {it:It} {Q:Value→Shared→Prop} (x:ItR ρ s.heap Is I it) (k:Q (.ref I) s):wpAny (model W.prog W.w) A (pyIter (.ref I)) Q E s:=by
 cases x with
 | lst e hi=>exact wpAny_pyIter_listiter hi k
 | tup e hi=>exact wpAny_pyIter_tupleiter hi k
 | rng hi=>exact wpAny_pyIter_rangeiter hi k
 | rev e hi=>exact wpAny_pyIter_revIter hi k
 | str hx hT hi =>
  rcases hT with rfl | rfl
  ·exact wpAny_pyIter_striter_ascii hi k
  ·exact wpAny_pyIter_striter_wide hi k
theorem dE {names:List Str} {i:It} (hi:SI W h₀ d V ix fr σ i σ1) (ns:tame ix=true) {sc:Scope} (hl:SCm W h₀ d (compCx V names sc) tx x xs i σ1.length (List.replicate names.length none) fr (σ1++[.list []]) fr2 σ2)
  {pos p0:Pos} {env:Env} {A:Around} {s:Shared} {ρ:Rho} {Q:Value→Shared→Prop} {E:Value→Shared→Prop} {use:Option (Value→Sem Unit)}
  (S:CompOK V names sc) (F:EnvR h₀ V env ρ s.heap fr []) (R:Rel W h₀ ρ σ s.heap) (O:Room d A)
  (k:∀ ρ' C D h' tk m,Post W h₀ [] ρ ρ' σ2 s.heap h'→VR ρ' (.ref σ1.length) (.ref D)→s.heap.get? C=none→C ∉ own ρ'→h'.Ns C m→compPost (model W.prog W.w) A E use Q (.ref D) C (.ok .next) ⟨h',s.gens,s.drawn,tk,s.os⟩) :
  wpAny (model W.prog W.w) A (comprehension (.ListComp x [⟨tx,ix,xs,0⟩] sc pos) sc env p0 (newList []) false (eval ix env) use) Q E s:=by
 refine wpAny_comprehension_free (use:=use) rfl (iC ns env) (fP F S).1 S.fk S.loc ?_
 refine hi F R O fun ρ1 Is I h1 tk1 P1 x1 hI1=>?_
 have P2:=bw (o:={ cls:=.type "list",data:=.seq #[] }) (ao:=.list []) P1.rel rfl fun h' e=>⟨#[],0,e,.nil,Nat.zero_le _⟩
 have hp:(ρ1++[(h1.objs.size,none)])[σ1.length]?=some (h1.objs.size,none):=by rw [← P1.rel.len];exact List.getElem?_concat_length
 refine wpAny_newObj_type ?_
 show wpAny _ A (newFunctionEnv sc env.globals (cloOf env sc.names).reverse [] env.qual none .none (some env)) _ E ⟨h1.push { cls:=.type "list",data:=.seq #[] },s.gens,s.drawn,tk1,s.os⟩
 generalize h1.push { cls:=.type "list",data:=.seq #[] }=h2 at P2
 generalize ρ1++[(h1.objs.size,none)]=ρ2 at P2 hp
 refine wpAny_newFunctionEnv S.nocell (by intro y hy;simp at hy) (fun h3 hn3 hs3=>?_) S.fk
 have hC:h2.get? h2.objs.size=none:=gy h2
 have k3:∀ b o,h2.get? b=some o→h3.get? b=some o:=fun b o e=>hs3.extBut b o (fun q=>by rw [q,hC] at e;exact nS e) (Heap.get?_push_of_some _ e)
 have P12:=P1.trans P2
 have P3:Post W h₀ [] ρ2 ρ2 (σ1++[.list []]) h2 h3:=Post.keeps P2.rel k3
 have F2:=F.post P12
 have F3:=F2.post P3
 have oC:=b6 P2.rel hC
 have FC:=EnvR.comp F3 S (C:=h2.objs.size) oC hn3 (fun m=>by
  obtain ⟨q,hq,e⟩:=List.mem_map.mp m
  obtain ⟨o,ho⟩:=ez F2 S hq
  rw [e,hC] at ho;exact nS ho)
 have xx:ItR ρ2 h3 Is I i:=x1.keep P2.pre fun a ha o e=>k3 a o (P2.keep a o (hI1 a ha).2 (by simp) e)
 have hI3:∀ a∈Is,a ∉ own ρ2∧h₀.get? a=none∧s.heap.get? a=none:=fun a ha=>by
  obtain ⟨o,e⟩:=x1.live a ha
  exact ⟨P2.stay (hI1 a ha).2 e,(b6 R (hI1 a ha).1).2,(hI1 a ha).1⟩
 have hN:∀ a∈Is,a≠h2.objs.size∧∀ n,(cloOf env sc.names).reverse.lookup n≠some a:=fun a ha=>by
  obtain ⟨o,e⟩:=x1.live a ha
  have e2:=P2.keep a o (hI1 a ha).2 (by simp) e
  refine ⟨fun q=>(by rw [q,hC] at e2;exact nS e2),fun n q=>?_⟩
  obtain ⟨o',e'⟩:=ez F S (List.mem_reverse.mp (ax q))
  rw [(hI1 a ha).1] at e';exact nS e'
 have loop:codeAny (model W.prog W.w) A (.compLoop (.ListComp x [⟨tx,ix,xs,0⟩] sc pos) 0 (.ref I) (.ref h1.objs.size) (compEnvC sc (cloOf env sc.names).reverse h2.objs.size env)) (compPost (model W.prog W.w) A E use Q (.ref h1.objs.size) h2.objs.size) ⟨h3,s.gens,s.drawn,tk1,s.os⟩:=by
  refine hl (s:=⟨h3,s.gens,s.drawn,tk1,s.os⟩) (p:=(h1.objs.size,none)) (Fs:=[h2.objs.size]) (hs:=s.heap) (ρs:=ρ) hN FC P3.rel O (by rw [jM S];exact fun _ h=>h) (P12.trans P3).more xx hI3 hp fun ρ' h' tk' P' E' hp'=>?_
  have hC0:s.heap.get? h2.objs.size=none:=P12.dead hC
  have PL:Post W h₀ [] ρ ρ' σ2 s.heap h':=Post.leave (.refl R) P' (fun a ha=>by rw [List.mem_singleton.mp ha];exact hC0)
  obtain ⟨m,hm,_⟩:=E'.ns
  exact k ρ' _ _ h' tk' m PL ⟨_,hp',rfl⟩ hC0 E'.loc.1 hm
 exact codeAny_compStart_list loop (jN xx loop)
theorem eA {ρ ρ':Rho} {σ2:Hp} {h h' h'':Heap} {C:Addr} {F:List Addr} (R:Rel W h₀ ρ σ h) (P:Post W h₀ F ρ ρ' σ2 h h') (hC:h.get? C=none) (ho:C ∉ own ρ') (hs:Heap.SameBut C h' h''):StepP W h₀ [C] ρ' ρ' σ2 h' h''∧Post W h₀ F ρ ρ' σ2 h h'':=by
 have S:StepP W h₀ [C] ρ' ρ' σ2 h' h'':=StepP.but (Is:=[C]) P.rel (fun a ha=>by rw [List.mem_singleton.mp ha];exact ⟨ho,(b6 R hC).2⟩) fun b o hb e=>hs.extBut b o (fun q=>hb (q ▸ .head _)) e
 exact ⟨S,P.iter S fun a ha=>by rw [List.mem_singleton.mp ha];exact hC⟩
theorem SE.comp {names:List Str} {sc:Scope} {i:It} {p:Pos} (hi:SI W h₀ d V ix fr σ i σ1) (ns:tame ix=true) (hs:compScope V names sc=true) (hl:SCm W h₀ d (compCx V names sc) tx x xs i σ1.length (List.replicate names.length Option.none) fr (σ1++[.list []]) fr2 σ2) :
  SE W h₀ d V (.ListComp x [⟨tx,ix,xs,0⟩] sc p) fr [] σ (.ref σ1.length) σ2:=fun env A s ρ Q E F R O k=>by
 rw [eval_ListComp]
 refine dE (use:=Option.none) hi ns hl (dC hs) F R O fun ρ' C D h' tk m P r hC ho hm=>?_
 exact ⟨m,hm,fun h'' hs'=>k ρ' _ h'' tk (eA R P hC ho hs').2 r⟩
theorem fj {tt:Expr} (ht:tgt tt=true):(∃ n p,tt=.Name n p)∨∀ x g c p l env,swapsWithSole [tt] (.ListComp x g c p) l env=pure false:=by
 cases tt with
 | Name n p=>exact .inl ⟨n,p,rfl⟩
 | _=>first | exact .inr fun _ _ _ _ _ _=>Eq.refl (pure false) | exact fT ht
theorem S1.assign_comp {tt:Expr} {names:List Str} {sc:Scope} {i:It} {p p':Pos} (hi:SI W h₀ d V ix fr σ i σ1) (ns:tame ix=true) (hs:compScope V names sc=true) (hl:SCm W h₀ d (compCx V names sc) tx x xs i σ1.length (List.replicate names.length Option.none) fr (σ1++[.list []]) fr2 σ2)
  (ht:tgt tt=true) (ha:SA W h₀ d V tt (.ref σ1.length) fr [] σ2 fr3 σ3):S1 W h₀ d V (.Assign [tt] (.ListComp x [⟨tx,ix,xs,0⟩] sc p) p') fr σ .next fr3 σ3:=fun env A s ρ Q E F R O k=>by
 have plain:swapsWithSole [tt] (.ListComp x [⟨tx,ix,xs,0⟩] sc p) p'.line env=pure false→wpAny (model W.prog W.w) A (exec (.Assign [tt] (.ListComp x [⟨tx,ix,xs,0⟩] sc p) p') env) Q E s:=fun hw=>by
  refine wpAny_Assign_stores ((SE.comp hi ns hs hl) F R O fun ρ1 v h1 tk P r=>?_) hw (c9 ht rfl (.inr (.inl rfl)))
  rw [aJ ht]
  refine ha (F.post P) P.rel O r fun ρ2 u h2 tk2 P2 F2 _=>?_
  exact k _ _ _ _ (P.more.trans P2) F2 rfl
 rcases fj ht with ⟨n,py,rfl⟩ | hw
 ·have hb:∃ b,swapsWith (.ListComp x [⟨tx,ix,xs,0⟩] sc p) (some (.Name n py)) p'.line env=pure b:=⟨_,rfl⟩
  obtain ⟨b,hb⟩:=hb
  cases b with
  | false=>exact plain hb
  | true =>
   rw [exec_Assign_Name_used _ _ _ _ hb]
   refine wpAny_bind (wpAny_standAt (wpAny_bind ?_))
   show wpAny _ A (do let _ ← comprehension (.ListComp x [⟨tx,ix,xs,0⟩] sc p) sc env _ (newList []) false (eval ix env) (some (PySem.assign (.Name n py) env))) _ _ s
   refine wpAny_bind (dE (use:=some (PySem.assign (.Name n py) env)) hi ns hl (dC hs) F R O fun ρ' C D h' tk m P r hC hoC hm=>?_)
   refine ha (F.post P) P.rel O r fun ρ2 u h2 tk2 P2 F2 _=>?_
   obtain ⟨oC,hoC'⟩:∃ o,h'.get? C=some o:=let ⟨o,_,_,e,_⟩:=hm;⟨o,e⟩
   have nF:C ∉ FA V env:=fun q=>by obtain ⟨o,e⟩:=fN F C q;rw [hC] at e;exact nS e
   have hm2:h2.Ns C m:=cI hm fun o e=>P2.keep C o hoC nF e
   refine ⟨m,hm2,fun h'' hs'=>?_⟩
   refine wpAny_pure (wpAny_pure ?_)
   have B:=eA R (P.more.trans P2) hC (P2.stay hoC hoC') hs'
   exact k ρ2 _ h'' tk2 B.2 (F2.stepP F (fun a ha=>by rw [List.mem_singleton.mp ha];exact hC) B.1) rfl
 ·exact plain (hw _ _ _ _ _ _)
end
noncomputable def allP:List Prop→Prop
 | []=>True
 | p::r=>p∧allP r
theorem eB {l r:List Prop} (h:allP (l++r)):allP l∧allP r:=by
 induction l with
 | nil=>exact ⟨trivial,h⟩
 | cons p l ih=>exact ⟨⟨h.1,(ih h.2).1⟩,(ih h.2).2⟩
noncomputable def Runs {α:Type} (o:Option (α×List Sc×Hp×List Prop)) (a:α) (σ:Hp):Prop:=match o with
 | some (b,_,τ,cs)=>(b=a∧τ=σ)∧allP cs
 | none=>False
noncomputable def Ret {α:Type} (m:M α) (σ:Hp) (a:α) (σ':Hp):Prop:=∃ s,Runs (m s σ) a σ'
section
variable {α β:Type} {m:M α} {f:α→M β} {a:α} {b:β} {σ σ' τ:Hp} {p:Sc→Option α} {o:Option α}
theorem d2 (h:Ret (bnd m f) σ b σ'):∃ a σ1,Ret m σ a σ1∧Ret (f a) σ1 b σ':=by
 obtain ⟨s,h⟩:=h
 have go:∀ q,m s σ=q→Runs (match q with | none=>none | some (a,s1,σ1,c1)=>match f a s1 σ1 with | none=>none | some (b,s2,σ2,c2)=>some (b,s2,σ2,c1++c2)) b σ'→∃ a σ1,Ret m σ a σ1∧Ret (f a) σ1 b σ':=fun q e h=>by
  cases q with
  | none=>exact h.elim
  | some r =>
   refine cps fun _ hG=>?_
   obtain ⟨a,s1,σ1,c1⟩:=r
   refine hG ?_
   clear hG
   have fin:∀ u,f a s1 σ1=u→Runs (match u with | none=>none | some (b,s2,σ2,c2)=>some (b,s2,σ2,c1++c2)) b σ'→∃ a σ1,Ret m σ a σ1∧Ret (f a) σ1 b σ':=fun u e' h=>by
    cases u with
    | none=>exact h.elim
    | some r =>
     have:=eB h.2
     exact ⟨a,σ1,⟨s,by rw [e];exact ⟨⟨rfl,rfl⟩,this.1⟩⟩,⟨s1,by rw [e'];exact ⟨h.1,this.2⟩⟩⟩
   exact fin _ rfl h
 exact go _ rfl h
theorem aL {b:α} (h:Ret (ret a) σ b σ'):b=a∧σ'=σ:=by
 obtain ⟨s,h⟩:=h;exact ⟨h.1.1.symm,h.1.2.symm⟩
theorem ap {b:α} {P:α→Hp→Prop} (h:Ret (ret a) σ b σ') (k:P a σ):P b σ':=by
 obtain ⟨rfl,rfl⟩:=aL h;exact k
theorem ai {b:β} {P:Prop} (h:Ret (bnd m f) σ b σ') (k:∀ a σ1,Ret m σ a σ1→Ret (f a) σ1 b σ'→P):P:=by
 obtain ⟨a,σ1,h1,h2⟩:=d2 h;exact k a σ1 h1 h2
theorem ah (h:Ret (fail (α:=α)) σ a σ'):False:=by obtain ⟨s,h⟩:=h;exact h
theorem aT {f:Hp→M β} (h:Ret (bnd getH f) σ b σ'):Ret (f σ) σ b σ':=by
 obtain ⟨x,σ1,⟨s,h1⟩,h2⟩:=d2 h;obtain ⟨⟨rfl,rfl⟩,_⟩:=h1;exact h2
theorem bK {f:Unit→M β} (h:Ret (bnd (setH τ) f) σ b σ'):Ret (f ()) τ b σ':=by
 obtain ⟨x,σ1,⟨s,h1⟩,h2⟩:=d2 h;obtain ⟨⟨rfl,rfl⟩,_⟩:=h1;exact h2
theorem mz {s:List Sc} {x:Option Sc} (h:Runs (askR p o σ s x) a σ'):o=some a∧σ'=σ:=by
 cases x with
 | none =>
  cases o with
  | none=>exact h.elim
  | some b=>exact ⟨congrArg some h.1.1,h.1.2.symm⟩
 | some x =>
  unfold askR at h
  dsimp only at h
  cases q:p x with
  | none=>rw [q] at h;exact h.elim
  | some b=>rw [q] at h;exact ⟨h.1.1 ▸ h.2.1,h.1.2.symm⟩
theorem gB (h:Ret (ask p o) σ a σ'):o=some a∧σ'=σ:=by
 obtain ⟨s,h⟩:=h;exact mz (s:=(evt s).2) (x:=(evt s).1) h
theorem aH {P:Prop} (h:Ret (bnd (ask p o) f) σ b σ') (k:∀ a,o=some a→Ret (f a) σ b σ'→P):P:=by
 obtain ⟨a,σ1,h1,h2⟩:=d2 h
 obtain ⟨e,rfl⟩:=gB h1
 exact k a e h2
theorem k9 {s:List Sc} {x:Option Sc} {b:α} (h:Runs (pickR p a σ s x) b σ'):σ'=σ:=by
 cases x with
 | none=>exact h.1.2.symm
 | some x =>
  unfold pickR at h
  dsimp only at h
  cases q:p x with
  | none=>rw [q] at h;exact h.elim
  | some b=>rw [q] at h;exact h.1.2.symm
theorem iF (h:Ret (bnd (pickS p a) f) σ b σ'):∃ x,Ret (f x) σ b σ':=by
 refine cps fun _ hG=>?_
 obtain ⟨x,σ1,⟨s,h1⟩,h2⟩:=d2 h
 refine hG ?_
 clear hG
 exact ⟨x,k9 (s:=(evt s).2) (x:=(evt s).1) h1 ▸ h2⟩
theorem mA {s:List Sc} {x:Option Sc} {p:Sc→Option (α×Hp)} {C:Hp→α→Hp→Prop} (h:Runs (asmR p C m σ s x) a σ'):C σ a σ'∨Ret m σ a σ':=by
 cases x with
 | none=>exact .inr ⟨s,h⟩
 | some x =>
  unfold asmR at h
  dsimp only at h
  cases q:p x with
  | none=>rw [q] at h;exact h.elim
  | some r=>rw [q] at h;obtain ⟨⟨rfl,rfl⟩,h,_⟩:=h;exact .inl h
theorem jO {p:Sc→Option (α×Hp)} {C:Hp→α→Hp→Prop} (h:Ret (asm p C m) σ a σ'):C σ a σ'∨Ret m σ a σ':=by
 obtain ⟨s,h⟩:=h;exact mA (s:=(evt s).2) (x:=(evt s).1) h
theorem eC {f:Hp→Option (AV×Hp)} {a:AV} (h:Ret (putVH f) σ a σ'):f σ=some (a,σ'):=by
 (apply aH (aT h);clear h;intro x e h)
 obtain ⟨rfl,rfl⟩:=aL (bK (f:=fun _=>ret x.1) h)
 exact e
theorem iG {f:Hp→Option Hp} {k:Unit→M β} {P:Prop} (h:Ret (bnd (putH f) k) σ b σ') (q:∀ τ,f σ=some τ→Ret (k ()) τ b σ'→P):P:=by
 obtain ⟨x,σ1,h1,h2⟩:=d2 h
 refine aH (aT h1) fun y e h=>?_
 obtain ⟨s,⟨_,rfl⟩,_⟩:=h
 exact q _ e h2
theorem lb {v:AV} {t:Bool} (h:Ret (askT v) σ t σ'):v=.bool t∧σ'=σ:=by
 obtain ⟨e,rfl⟩:=gB h;exact ⟨bW e,rfl⟩
theorem ny {v:AV} {f:AV→Bool→M β} {P:AV→Prop} (h:Ret (bnd (askT v) (f v)) σ b σ') (k:∀ t,Ret (f (.bool t) t) σ b σ'→P (.bool t)):P v:=by
 refine aH h fun t e h=>?_
 rw [bW e] at h ⊢;exact k t h
end
section
variable {α β:Type} {F:T→M α} {σ σ':Hp} {v:α} {t z:T} {Q:Prop}
theorem ifK {c:Bool} (n:Ret (F stk) σ v σ'→False) (h:Ret (F (if c=true then t else stk)) σ v σ') (k:c=true→Ret (F t) σ v σ'→Q):Q:=by
 cases c with
 | true=>exact k rfl h
 | false=>exact (n h).elim
theorem ifE {c:Bool} (h:Ret (F (if c=true then t else z)) σ v σ') (k:c=true→Ret (F t) σ v σ'→Q) (k':c=false→Ret (F z) σ v σ'→Q):Q:=by
 cases c with
 | true=>exact k rfl h
 | false=>exact k' rfl h
theorem opK {o:Option β} {f:β→T} (h:Ret (F (optK o f z)) σ v σ') (k:∀ c,o=some c→Ret (F (f c)) σ v σ'→Q) (k':o=none→Ret (F z) σ v σ'→Q):Q:=by
 cases o with
 | some c=>exact k c rfl h
 | none=>exact k' rfl h
end
structure Facts (W:Wd) (K:Frag) (h₀:Heap) (fa:Nat→Addr) (fi:Nat→Option FI):Prop where
 T:Top2 K h₀
 flds:Flds W K
 glb:∀ c m,glN[c]?=some m→glV c≠.none→∃ v,nsIn K mainGlobals m=some (some v)∧(m == dbgS)=false∧VR [] (glV c) v
 glt:∀ c m,glN[c]?=some m→(glT c).isEmpty=false→∃ ad its n,nsIn K mainGlobals m=some (some (.ref ad))∧(m == dbgS)=false∧K.lookup ad=some (tupOf its n)∧StrsAre its.toList ((glT c).map fun l=>⟨l.toArray⟩)
 fn:∀ f i,fi f=some i→∃ fd body,FnOK K f i (fa f) fd body
 fnm:∀ f,(fi f).isSome=true→fnK[f]?=some none→nsIn K mainGlobals (fnS f)=some (some (.ref (fa f)))∧keepIn K (.ref (fa f))=true∧(fnS f == dbgS)=false
 cls:∀ c,c<clT.length→ClsOK W K fa c
 mt:∀ {c m f},mtab c m=some f→c<clT.length
 bin:∀ m∈biN,nsIn K mainGlobals m=some none
 itn:∀ m∈itN,nsIn K mainGlobals m=some none
structure Snd (W:Wd) (h₀:Heap) (fa:Nat→Addr) (fi:Nat→Option FI) (g:Evs):Prop where
 non:∀ {d fr out σ a σ'},Ret (g.ex d (.nd 0 0 .none []) fr out) σ a σ'→a=.none∧σ'=σ
 ex:∀ {d e fr out σ a σ'},Ret (g.ex d e fr out) σ a σ'→∀ {n V x},(trN n).e V x=e→SE W h₀ d V x fr out σ a σ'∧tame x=true
 co:∀ {d e fr out σ a σ'},Ret (g.co d e fr out) σ a σ'→∀ {n V x},(trN n).c V x=e→SC W h₀ d V x fr out σ a σ'
 exs:∀ {d es fr out σ a σ'},Ret (g.exs d es fr out) σ a σ'→∀ {n V xs},xs.map ((trN n).e V)=es→SL W h₀ d V xs fr out σ a σ'∧xs.all tame=true
 ch:∀ {d v r fr out σ a σ'},Ret (g.ch d v r fr out) σ a σ'→∀ {n V ops xs},chT ((trN n).e V) ops xs=r→ops.length=xs.length→SH W h₀ d V v ops xs fr out σ a σ'
 bl:∀ {d ss fr σ a σ'},Ret (g.bl d ss fr) σ a σ'→∀ {n V ys},ys.map (trS n V)=ss→SS W h₀ d V ys fr σ a.1 a.2 σ'
 st:∀ {d s fr σ a σ'},Ret (g.st d s fr) σ a σ'→∀ {n V y},trS n V y=s→S1 W h₀ d V y fr σ a.1 a.2 σ'
 as:∀ {d t v fr out σ a σ'},Ret (g.as d t v fr out) σ a σ'→∀ {n V x},(trN n).t V x=t→SA W h₀ d V x v fr out σ a σ'∧tgt x=true
 ass:∀ {d ts vs fr out σ a σ'},Ret (g.ass d ts vs fr out) σ a σ'→∀ {n V xs},xs.map ((trN n).t V)=ts→SAs W h₀ d V xs vs fr out σ a σ'∧xs.all tgt=true∧xs.length=vs.length
 it:∀ {d t fr σ a σ'},Ret (g.it d t fr) σ a σ'→∀ {n V x},(trN n).i V x=t→SI W h₀ d V x fr σ a σ'∧tame x=true
 call:∀ {d f vs σ a σ'},Ret (g.call d f vs) σ a σ'→SCl W h₀ fa d f vs σ a σ'∧(fi f).isSome=true
 callp:∀ {d f vs σ a σ'},Ret (g.callp d f vs) σ a σ'→SCl W h₀ fa d f vs σ a σ'∧(fi f).isSome=true
 wl:∀ {d c b fr σ a σ'},Ret (g.wl d c b fr) σ a σ'→∀ {n V x ys},(trN n).c V x=c→ys.map (trS n V)=b→SWl W h₀ d V x ys fr σ a.1 a.2 σ'
 fl:∀ {d t it b fr σ a σ'},Ret (g.fl d t it b fr) σ a σ'→∀ {n V x ys},(trN n).t V x=t→ys.map (trS n V)=b→SFl W h₀ d V x it ys fr σ a.1 a.2 σ'
 cm:∀ {d elt t ifs it acc fr out σ a σ'},Ret (g.cm d elt t ifs it acc fr out) σ a σ'→∀ {n V tx x xs},(trN n).t V tx=t→(trN n).e V x=elt→xs.map ((trN n).c V)=ifs→SCm W h₀ d V tx x xs it acc fr out σ a σ'
noncomputable def parS (W:Wd) (h₀:Heap) (fa:Nat→Addr) (fi:Nat→Option FI):Par :=
 ⟨fi,fun d f vs σ r σ'=>SCl W h₀ fa d f vs σ r σ'∧(fi f).isSome=true,fun d c b fr σ w fr' σ'=>∀ n V x ys,(trN n).c V x=c→ys.map (trS n V)=b→SWl W h₀ d V x ys fr σ w fr' σ',
  fun d t it b fr σ w fr' σ'=>∀ n V x ys,(trN n).t V x=t→ys.map (trS n V)=b→SFl W h₀ d V x it ys fr σ w fr' σ',
  fun d elt t ifs it acc fr out σ fr' σ'=>∀ n V tx x xs,(trN n).t V tx=t→(trN n).e V x=elt→xs.map ((trN n).c V)=ifs→SCm W h₀ d V tx x xs it acc fr out σ fr' σ'⟩
theorem nE {W:Wd} {h₀:Heap} {fa:Nat→Addr} {fi:Nat→Option FI}:Snd W h₀ fa fi evB :=
 ⟨fun h=>(ah h).elim,fun h=>(ah h).elim,fun h=>(ah h).elim,fun h=>(ah h).elim,fun h=>(ah h).elim,fun h=>(ah h).elim,fun h=>(ah h).elim,fun h=>(ah h).elim,fun h=>(ah h).elim,
  fun h=>(ah h).elim,fun h=>(ah h).elim,fun h=>(ah h).elim,fun h=>(ah h).elim,fun h=>(ah h).elim,fun h=>(ah h).elim⟩
theorem bQ {α:Type} {l:List α} {n:Nat} {a d:α} (h:l[n]?=some a):nth l n d=a:=by
 rcases cq d l n with q | ⟨q,_⟩
 ·rw [h] at q;cases q;rfl
 ·exact absurd (List.getElem?_eq_some_iff.mp h).1 (Nat.not_lt.mpr q)
theorem gC {m:Str} {ns:List Str}:∀ {i c:Nat} {ks:List (Option Nat)},fnCode m i ns ks=some c→∃ j,c=i+j∧ns[j]?=some m∧ks[j]?=some none:=by
 induction ns with
 | nil=>intro i c ks h;cases ks <;> exact nS h
 | cons n ns ih =>
  intro i c ks h
  cases ks with
  | nil=>exact nS h
  | cons k ks =>
   have h:(if n == m && k.isNone then some i else fnCode m (i+1) ns ks)=some c:=h
   cases q:(n == m && k.isNone) with
   | true =>
    rw [q] at h
    apply s1Q h
    have q:=Bool.and_eq_true_iff.mp q
    exact ⟨0,rfl,congrArg some (beq_iff_eq.mp q.1),congrArg some (Option.isNone_iff_eq_none.mp q.2)⟩
   | false =>
    rw [q] at h
    obtain ⟨j,e1,e2,e3⟩:=ih h
    exact ⟨j+1,by rw [e1,Nat.add_assoc,Nat.add_comm 1],e2,e3⟩
theorem eD {i:Expr} {s} (h:sliX i=some s):∃ p,i=.Slice s.1 s.2.1 s.2.2 p:=by
 cases i with
 | Slice lo hi st p=>apply s1Q h;exact ⟨p,rfl⟩
 | _=>exact nS h
theorem fm {y:Expr} (h:isName y=true):∃ s p,y=.Name s p:=by
 cases y with
 | Name s p=>exact ⟨s,p,rfl⟩
 | _=>exact fT h
theorem fp {y:Expr} (h:isComp y=true):∃ e g s p,y=.ListComp e g s p:=by
 cases y with
 | ListComp e g s p=>exact ⟨e,g,s,p,rfl⟩
 | _=>exact fT h
theorem b8 {α:Type} {l:List α} {x:α} (h:oneL l=some x):l=[x]:=by
 cases l with
 | nil=>exact nS h
 | cons y l=>cases l with
  | nil=>apply s1Q h;rfl
  | cons=>exact nS h
section
variable {W:Wd} {K:Frag} {h₀:Heap} {fa:Nat→Addr} {fi:Nat→Option FI} {g:Evs} {d n:Nat} {V:Cx} {fr out:Fm} {σ σ':Hp} {v:AV} {p q:Pos} (Fx:Facts W K h₀ fa fi) (G:Snd W h₀ fa fi g)
theorem Snd.nstk (G:Snd W h₀ fa fi g) (h:Ret (g.ex d stk fr out) σ v σ'):False:=by
 have:=(G.ex h (n:=0) (V:=⟨fun _=>none,[],[]⟩) (x:=.Set [] 0 default) rfl).2
 exact fT this
theorem cw {m:Str} (h:isG V m=true):V.kind m=some .globalImplicit:=beq_iff_eq.mp h
theorem dy {c:Bool} {t:T} {Q:Prop} (h:Ret (exF g d (if c=true then t else stk) fr out) σ v σ') (k:c=true→Ret (exF g d t fr out) σ v σ'→Q):Q:=ifK (F:=fun t=>exF g d t fr out) (fun h=>ah h) h k
theorem d3 {β:Type} {o:Option β} {f:β→T} {z:T} {Q:Prop} (h:Ret (exF g d (optK o f z) fr out) σ v σ') (k:∀ c,o=some c→Ret (exF g d (f c) fr out) σ v σ'→Q) (k':o=none→Ret (exF g d z fr out) σ v σ'→Q):Q:=opK (F:=fun t=>exF g d t fr out) h k k'
theorem jP {c:Const} {k} (h:Ret (exF g d (constT c) fr out) σ v σ'):SE W h₀ d V (.Constant c k p) fr out σ v σ':=by
 cases c with
 | none=>apply ap h;exact SE.none
 | bool b=>apply ap h;exact SE.bool
 | int i=>apply ap h;exact SE.int
 | str s=>apply ap h;exact SE.str
 | _=>exact (ah h).elim
include Fx in
theorem lc {m:Str} (h:Ret (exF g d (nameT V m) fr out) σ v σ'):SE W h₀ d V (.Name m p) fr out σ v σ':=by
 refine d3 h (fun i q h=>?_) fun _ h=>d3 h (fun i q h=>dy h fun hk h=>?_) fun _ h=>dy h fun hk h=>d3 h (fun c hc h=>?_) fun _ h=>(ah h).elim
 ·obtain ⟨e,rfl⟩:=gB h
  exact SE.var (aF q) e
 ·obtain ⟨e,rfl⟩:=gB h
  exact SE.free (aF q) (beq_iff_eq.mp hk) e
 ·have h:Ret (xGlob c) σ v σ':=h
  have go:∀ a,glV c=a→Ret (match a with | .none=>fail | a=>ret a) σ v σ'→(v=a∧σ'=σ)∧a≠.none:=fun a e h=>by
   cases a with
   | none=>exact (ah h).elim
   | _=>exact ⟨aL h,nofun⟩
  obtain ⟨⟨rfl,rfl⟩,hn⟩:=go _ rfl h
  obtain ⟨u,h1,h2,h3⟩:=Fx.glb c m (aF hc) hn
  exact SE.glob (cw hk) Fx.T h1 h2 h3
include Fx G in
theorem ld {y:Expr} {m:Str} (h:Ret (exF g d (if basePlain y then codeT 5 [(trN n).e V y] (posS nmT m) else stk) fr out) σ v σ'):SE W h₀ d V (.Attribute y m p) fr out σ v σ' :=
 dy h fun hb h=>d3 h (fun c hc h=>ai h fun a σ1 h1 h2=>by
  obtain ⟨e,rfl⟩:=gB (aT h2)
  exact (show nmS c=m from bQ (aF hc)) ▸ SE.attr (p:=p) Fx.T Fx.flds hb (G.ex h1 rfl).1 e) fun _ h=>(ah h).elim
include Fx G in
theorem lf {m:Str} {xs:List Expr} (h:Ret (exF g d (callT V m (xs.map ((trN n).e V))) fr out) σ v σ'):SE W h₀ d V (.Call (.Name m p) xs [] q) fr out σ v σ':=by
 refine dy h fun hk h=>d3 h (fun c hc h=>ai h fun as σ1 h2 h3=>?_) fun _ h=>d3 h (fun c hc h=>ai h fun as σ1 h2 h3=>ai (bK (aT h3)) fun r σ2 h5 h6=>?_) fun _ h=>d3 h (fun c hc h=>ai h fun as σ1 h2 h3=>?_) fun _ h=>(ah h).elim
 ·obtain ⟨j,e1,e2,e3⟩:=gC hc
  rw [Nat.zero_add] at e1
  subst e1
  obtain ⟨f1,f2,f3⟩:=Fx.fnm c (G.call h3).2 e3
  obtain ⟨s1,s2⟩:=G.exs h2 rfl
  have en:fnS c=m:=bQ e2
  exact en ▸ SE.callF (p:=p) (q:=q) (by rw [en];exact cw hk) Fx.T f1 f2 f3 s1 s2 (G.call h3).1
 ·obtain ⟨s1,s2⟩:=G.exs h2 rfl
  have en:clS c=m:=bQ (aF hc)
  cases r with
  | none =>
   obtain ⟨rfl,rfl⟩:=aL h6
   exact en ▸ SE.new (p:=p) (q:=q) (by rw [en];exact cw hk) Fx.T (Fx.cls c (List.getElem?_eq_some_iff.mp (aF hc)).1) s1 s2 (G.call h5).1
  | _=>exact (ah h6).elim
 ·obtain ⟨s1,s2⟩:=G.exs h2 rfl
  exact SE.bi (aF hc) (cw hk) Fx.T (Fx.bin m (List.mem_of_getElem? (aF hc))) s1 s2 (eC h3)
include Fx G in
theorem lg {y:Expr} {k:Str} {xs:List Expr} {σ v σ'} (h:Ret (exF g d (methT (trN n) V y k xs (p.endLine == q.line)) fr out) σ v σ'):SE W h₀ d V (.Call (.Attribute y k p) xs [] q) fr out σ v σ':=by
 refine dy h fun hc h=>d3 h (fun c hk h=>ai h fun a σ1 h1 h2=>?_) fun _ h=>(ah h).elim
 obtain ⟨hc,hz⟩:=Bool.and_eq_true_iff.mp hc
 obtain ⟨hb,hl⟩:=Bool.and_eq_true_iff.mp hc
 have hl:=beq_iff_eq.mp hl
 have hz:=of_decide_eq_true hz
 have en:nmS c=k:=bQ (aF hk)
 have he:=(G.ex h1 rfl).1
 subst en
 cases a with
 | ref i =>
  refine aH (aT h2) fun o ho h3=>?_
  cases o with
  | inst c' fs =>
   have go:∀ z,fs.lookup c=z→Ret (match z with | none=>(match mtab c' c with | some f=>bnd (g.exs d (xs.map ((trN n).e V)) fr out) fun vs=>g.call d f (.ref i::vs) | none=>fail) | some _=>fail) σ1 v σ'→SE W h₀ d V (.Call (.Attribute y (nmS c) p) xs [] q) fr out σ v σ':=fun z e h=>by
    cases z with
    | some=>exact (ah h).elim
    | none =>
     have go:∀ z,mtab c' c=z→Ret (match z with | some f=>bnd (g.exs d (xs.map ((trN n).e V)) fr out) fun vs=>g.call d f (.ref i::vs) | none=>fail) σ1 v σ'→SE W h₀ d V (.Call (.Attribute y (nmS c) p) xs [] q) fr out σ v σ':=fun z hm h=>by
      cases z with
      | none=>exact (ah h).elim
      | some f =>
       refine ai h fun vs σ2 h4 h5=>?_
       obtain ⟨s1,s2⟩:=G.exs h4 rfl
       exact SE.methO (m:=c) hb hl hz Fx.T (Fx.cls c' (Fx.mt hm)) he ho e hm s1 s2 (G.call h5).1
     exact go _ rfl h
   exact go _ rfl h3
  | list ys =>
   refine ai h3 fun vs σ2 h4 h5=>?_
   obtain ⟨s1,s2⟩:=G.exs h4 rfl
   exact SE.methB (n:=c) hb hl hz he s1 s2 (.inl ⟨i,ys,rfl,ho⟩) (eC h5)
  | _=>exact (ah h3).elim
 | str s =>
  refine ai h2 fun vs σ2 h4 h5=>?_
  obtain ⟨s1,s2⟩:=G.exs h4 rfl
  exact SE.methB (n:=c) hb hl hz he s1 s2 (.inr ⟨s,rfl⟩) (eC h5)
 | _=>exact (ah h2).elim
include G in
theorem fQ {y:Option Expr} (h:Ret (g.ex d (optT ((trN n).e V) y) fr out) σ v σ'):PartE W h₀ d V fr out σ y v σ':=by
 cases y with
 | none=>exact G.non h
 | some x=>exact (G.ex h rfl).1
include G in
theorem mB {y i:Expr} (h:Ret (exF g d (subT (trN n) V y i) fr out) σ v σ'):SE W h₀ d V (.Subscript y i p) fr out σ v σ':=by
 refine d3 h (fun s hs h=>dy h fun hn h=>ai h fun a σ1 h1 h=>ai h fun b σ2 h2 h=>ai h fun c σ3 h3 hz=>?_) fun _ h=>ai h fun a σ1 h1 h=>ai h fun b σ2 h2 h=>?_
 ·obtain ⟨lo,hi,st⟩:=s
  obtain ⟨p',rfl⟩:=eD hs
  cases st with
  | some=>exact fT hn
  | none=>exact SE.slice (G.ex h1 rfl).1 (fQ G h2) (fQ G h3) (eC hz)
 ·obtain ⟨e,rfl⟩:=gB (aT h)
  exact SE.idx (G.ex h1 rfl).1 (G.ex h2 rfl).1 (G.ex h2 rfl).2 e
include G in
theorem eE {elt tx ix:Expr} {xs:List Expr} {C:Cx} (h:Ret (xCompR g d 1 ((trN n).e C elt::(trN n).t C tx::(trN n).i V ix::xs.map ((trN n).c C)) fr) σ v σ') :
  ∃ i σ1 fr2,SI W h₀ d V ix fr σ i σ1∧tame ix=true∧SCm W h₀ d C tx elt xs i σ1.length [none] fr (σ1++[.list []]) fr2 σ'∧v=.ref σ1.length:=by
 refine ai h fun i σ1 h1 h2=>ai (bK (aT h2)) fun fr2 σ2 h3 h4=>?_
 apply ap h4
 exact ⟨i,σ1,fr2,(G.it h1 rfl).1,(G.it h1 rfl).2,G.cm h3 rfl rfl rfl,rfl⟩
theorem dh {elt:Expr} {gens:List Comprehension} {sc:Scope} {Q:Prop} {F:T→M AV} (nf:Ret (F stk) σ v σ'→False) (h:Ret (F (compT (trN n) V elt gens sc)) σ v σ')
  (k:∀ m p ix xs,gens=[⟨.Name m p,ix,xs,0⟩]→compScope V [m] sc=true→Ret (F (.nd 22 1 .none ((trN n).e (compCx V [m] sc) elt::(trN n).t (compCx V [m] sc) (.Name m p)::(trN n).i V ix::xs.map ((trN n).c (compCx V [m] sc))))) σ v σ'→Q):Q:=by
 refine opK (F:=F) h (fun c hc h=>ifK (F:=F) nf h fun hs h=>?_) fun _ h=>(nf h).elim
 obtain ⟨tx,ix,xs,as⟩:=c
 obtain ⟨h1,h2⟩:=Bool.and_eq_true_iff.mp hs
 obtain ⟨h2,h3⟩:=Bool.and_eq_true_iff.mp h2
 obtain ⟨m,p,rfl⟩:=fm h2
 obtain rfl:as=0:=of_decide_eq_true h1
 exact k m p ix xs (b8 hc) h3 h
include G in
theorem lh {elt:Expr} {gens:List Comprehension} {sc:Scope} (h:Ret (exF g d (compT (trN n) V elt gens sc) fr out) σ v σ'):SE W h₀ d V (.ListComp elt gens sc p) fr out σ v σ' :=
 dh (F:=fun t=>exF g d t fr out) (fun h=>ah h) h fun m p ix xs e hs hz=>by
  subst e
  cases out with
  | nil =>
   refine cps fun _ hG=>?_
   obtain ⟨i,σ1,fr2,h1,h2,h3,rfl⟩:=eE G hz
   refine hG ?_
   clear hG
   exact SE.comp (names:=[m]) h1 h2 hs h3
  | cons o out=>exact (ah hz).elim
include G in
theorem kA {y:Expr} {ops:List CmpOp} {xs:List Expr} {t:Bool} (hl:ops.length=xs.length) (h:Ret (xCmp g d ((trN n).e V y::chT ((trN n).e V) ops xs) fr out) σ t σ'):∃ a σ1,SE W h₀ d V y fr out σ a σ1∧SH W h₀ d V a ops xs fr out σ1 t σ' :=
 ai h fun a σ1 h1 h2=>⟨a,σ1,(G.ex h1 rfl).1,G.ch h2 rfl hl⟩
include G in
theorem lj {o:BoolOp} {xs:List Expr} (h:Ret (exF g d (.nd (if o == .And then 14 else 15) 0 .none (xs.map ((trN n).e V))) fr out) σ v σ'):SE W h₀ d V (.BoolOp o xs p) fr out σ v σ':=by
 cases o with
 | And =>
  have h:Ret (xAnd g d (xs.map ((trN n).e V)) fr out) σ v σ':=h
  cases xs with
  | nil=>exact (ah h).elim
  | cons x xs =>
   refine ai h fun a σ1 h1 h2=>?_
   have he:=(G.ex h1 rfl).1
   cases xs with
   | nil=>apply ap h2;exact SE.bool_one he
   | cons y xs =>
    refine aH h2 fun t e h3=>?_
    obtain rfl:=bW e
    refine SE.bool_more he ?_
    cases t with
    | true=>exact (G.ex h3 (n:=n+1) (x:=.BoolOp .And (y::xs) p) rfl).1
    | false=>exact aL h3
 | Or =>
  have h:Ret (xOr g d (xs.map ((trN n).e V)) fr out) σ v σ':=h
  cases xs with
  | nil=>exact (ah h).elim
  | cons x xs =>
   refine ai h fun a σ1 h1 h2=>?_
   have he:=(G.ex h1 rfl).1
   cases xs with
   | nil=>apply ap h2;exact SE.bool_one he
   | cons y xs =>
    refine aH h2 fun t e h3=>?_
    obtain rfl:=bW e
    refine SE.bool_more he ?_
    cases t with
    | false=>exact (G.ex h3 (n:=n+1) (x:=.BoolOp .Or (y::xs) p) rfl).1
    | true=>exact aL h3
include G in
theorem mC {x y:Expr} {o:Operator} (h:Ret (exF g d (.nd 10 (opB o) .none [(trN n).e V x,(trN n).e V y]) fr out) σ v σ'):SE W h₀ d V (.BinOp x o y p) fr out σ v σ' :=
 ai h fun a σ1 h1 h=>ai h fun b σ2 h2 h=>by
  have go:∀ z,intOp (opB o) a b=z→Ret (match z with | some i=>bnd (ask pB (some (okI (opB o) i))) fun t=>if t then ret (.int i) else fail | none=>putVH fun σ=>binV σ (opB o) a b) σ2 v σ'→SE W h₀ d V (.BinOp x o y p) fr out σ v σ':=fun z e h=>by
   cases z with
   | none=>exact SE.bin (G.ex h1 rfl).1 (G.ex h2 rfl).1 (eC h)
   | some i =>
    refine aH h fun t hk h=>?_
    cases t with
    | false=>exact (ah h).elim
    | true =>
     apply ap h
     exact SE.ar (G.ex h1 rfl).1 (G.ex h2 rfl).1 e (Option.some.inj hk)
  exact go _ rfl h
include Fx G in
theorem lk {e:T} (h:Ret (exF g d e fr out) σ v σ') {n:Nat} {V:Cx} {x:Expr} (hx:(trN n).e V x=e):SE W h₀ d V x fr out σ v σ'∧tame x=true:=by
 subst hx
 cases n with
 | zero=>exact (ah h).elim
 | succ n =>
  have h:Ret (exF g d (trE (trN n) V x) fr out) σ v σ':=h
  cases x with
  | Constant c k p=>exact ⟨jP h,rfl⟩
  | Name m p=>exact ⟨lc Fx h,rfl⟩
  | Attribute y m p=>exact ⟨ld Fx G h,rfl⟩
  | Call f xs kw q =>
   refine ⟨dy h fun hk h=>?_,rfl⟩
   cases kw with
   | cons=>exact fT hk
   | nil =>
    cases f with
    | Name m p=>exact lf Fx G h
    | Attribute y k p=>exact lg Fx G h
    | _=>exact (ah h).elim
  | BinOp a o b p=>exact ⟨mC G h,rfl⟩
  | UnaryOp o a p =>
   refine ⟨dy h fun hk h=>ai h fun u σ1 h1 h=>?_,rfl⟩
   cases beq_iff_eq.mp hk
   cases u with
   | int i=>apply ap h;exact SE.neg (G.ex h1 rfl).1
   | _=>exact (ah h).elim
  | Compare a ops xs p =>
   refine ⟨dy h fun hl h=>?_,rfl⟩
   have h:Ret (bnd (xCmp g d ((trN n).e V a::chT ((trN n).e V) ops xs) fr out) fun b=>ret (.bool b)) σ v σ':=h
   refine ai h fun t σ1 h1 h2=>?_
   apply ap h2
   obtain ⟨_,_,e1,e2⟩:=kA G (beq_iff_eq.mp hl) h1
   exact SE.cmp e1 e2
  | BoolOp o xs p=>exact ⟨lj G h,rfl⟩
  | IfExp c a b p =>
   refine ⟨ai h fun t σ1 h1 h=>SE.ite (G.co h1 rfl) ?_,rfl⟩
   cases t <;> exact (G.ex h rfl).1
  | Subscript a i p=>exact ⟨mB G h,rfl⟩
  | List xs p=>exact ⟨ai h fun vs σ1 h1 h=>SE.list (G.exs h1 rfl).1 (eC h),rfl⟩
  | Tuple xs k p=>exact ⟨ai h fun vs σ1 h1 h=>SE.tup (G.exs h1 rfl).1 (eC h),rfl⟩
  | Dict ks vs p =>
   refine ⟨dy h fun hk h=>?_,rfl⟩
   have hk:=Bool.and_eq_true_iff.mp hk
   cases List.isEmpty_iff.mp hk.1
   cases List.isEmpty_iff.mp hk.2
   have h:Ret xDict σ v σ':=h
   apply ap (bK (f:=fun _=>ret (AV.ref σ.length)) (aT h))
   exact SE.dict0 Fx.T
  | ListComp elt gens sc p=>exact ⟨lh G h,rfl⟩
  | _=>exact (ah h).elim
include Fx G in
theorem mD {y:Expr} {ops:List CmpOp} {xs:List Expr} {c:Bool×Nat} {t:Bool} (hi:inGT V ops xs=some c) (h:Ret (xInG g d c.2 (.bool c.1) [(trN n).e V y] fr out) σ t σ'):SC W h₀ d V (.Compare y ops xs p) fr out σ t σ' :=
 obC hi fun o ho hi=>obC hi fun x hx hi=>obC hi fun m hm hi=>mq hi fun hk hi=>obC hi fun j hg hz=>by
  obtain ⟨p1,rfl⟩:=dX hm
  cases b8 ho
  cases b8 hx
  have hk:=Bool.and_eq_true_iff.mp hk
  have ho:=hk.2
  rw [Bool.or_eq_true,beq_iff_eq,beq_iff_eq] at ho
  have go:(glT j).isEmpty=false∧(o == .In,j)=c:=by
   cases hne:(glT j).isEmpty with
   | true=>rw [hne] at hz;exact nS hz
   | false=>rw [hne] at hz;exact ⟨rfl,Option.some.inj hz⟩
  obtain ⟨hne,rfl⟩:=go
  refine ai h fun a σ1 h1 h2=>?_
  have he:=(G.ex h1 rfl).1
  cases a with
  | str s =>
   have h2:Ret (if (glT j).isEmpty=true then fail else ret ((o == CmpOp.In) == (glT j).contains s)) σ1 t σ':=h2
   rw [hne] at h2
   apply ap h2
   refine cps fun _ hG=>?_
   obtain ⟨ad,its,k,f1,f2,f3,f4⟩:=Fx.glt j m (aF hg) hne
   refine hG ?_
   clear hG
   exact SC.inG ho (cw hk.1) Fx.T f1 f2 f3 f4 he
  | _=>exact (ah h2).elim
theorem mF {c:Bool} {t:T} {u:Bool} {Q:Prop} (h:Ret (coF g d (if c=true then t else stk) fr out) σ u σ') (k:c=true→Ret (coF g d t fr out) σ u σ'→Q):Q:=ifK (F:=fun t=>coF g d t fr out) (fun h=>ah h) h k
include Fx G in
theorem lm {e:T} {t:Bool} (h:Ret (coF g d e fr out) σ t σ') {n:Nat} {V:Cx} {x:Expr} (hx:(trN n).c V x=e):SC W h₀ d V x fr out σ t σ':=by
 subst hx
 cases n with
 | zero=>exact (ah h).elim
 | succ n =>
  refine ifE (F:=fun t=>coF g d t fr out) h (fun hp h=>ai h fun u σ1 h1 h=>?_) fun hp h=>?_
  ·obtain ⟨rfl,rfl⟩:=lb h
   exact SC.plain hp (G.ex h1 rfl).2 (G.ex h1 rfl).1
  ·cases x with
   | UnaryOp o a p =>
    refine mF h fun hk hz=>?_
    cases beq_iff_eq.mp hk
    have hz:Ret (bnd (g.co d ((trN n).c V a) fr out) fun b=>ret (!b)) σ t σ':=hz
    refine ai hz fun u σ1 h1 h=>?_
    apply ap h;exact SC.not (G.co h1 rfl)
   | Compare a ops xs p =>
    refine opK (F:=fun t=>coF g d t fr out) h (fun c hc h=>mD Fx G hc h) fun _ h=>mF h fun hl h=>?_
    refine cps fun _ hG=>?_
    obtain ⟨_,_,e1,e2⟩:=kA G (beq_iff_eq.mp hl) h
    refine hG ?_
    clear hG
    exact SC.cmp e1 e2
   | BoolOp o xs p =>
    cases o with
    | And =>
     have h:Ret (cAnd g d (xs.map ((trN n).c V)) fr out) σ t σ':=h
     cases xs with
     | nil=>apply ap h;exact SC.and_nil
     | cons x xs =>
      refine ai h fun u σ1 h1 h=>SC.and_cons (G.co h1 rfl) ?_
      cases u with
      | true=>exact G.co h (n:=n+1) (x:=.BoolOp .And xs p) rfl
      | false=>exact aL h
    | Or =>
     have h:Ret (cOr g d (xs.map ((trN n).c V)) fr out) σ t σ':=h
     cases xs with
     | nil=>apply ap h;exact SC.or_nil
     | cons x xs =>
      refine ai h fun u σ1 h1 h=>SC.or_cons (G.co h1 rfl) ?_
      cases u with
      | false=>exact G.co h (n:=n+1) (x:=.BoolOp .Or xs p) rfl
      | true=>exact aL h
   | IfExp=>exact (ah h).elim
   | _=>exact tF hp
include G in
theorem jQ {es:List T} {vs:List AV} (h:Ret (exsF g d es fr out) σ vs σ') {n:Nat} {V:Cx} {xs:List Expr} (hx:xs.map ((trN n).e V)=es):SL W h₀ d V xs fr out σ vs σ'∧xs.all tame=true:=by
 subst hx
 cases xs with
 | nil=>apply ap h;exact ⟨SL.nil,rfl⟩
 | cons x xs =>
  refine ai h fun a σ1 h1 h=>ai h fun as σ2 h2 h=>?_
  apply ap h
  obtain ⟨e1,e2⟩:=G.ex h1 rfl
  obtain ⟨e3,e4⟩:=G.exs h2 rfl
  exact ⟨SL.cons e1 e3 e2,by rw [List.all_cons,e2,e4];rfl⟩
include G in
theorem ln {a:AV} {r:List T} {t:Bool} (h:Ret (chF g d a r fr out) σ t σ') {n:Nat} {V:Cx} {ops:List CmpOp} {xs:List Expr} (hx:chT ((trN n).e V) ops xs=r) (hl:ops.length=xs.length):SH W h₀ d V a ops xs fr out σ t σ':=by
 subst hx
 cases ops with
 | nil=>exact (ah h).elim
 | cons o ops =>
  cases xs with
  | nil=>exact nN hl rfl
  | cons x xs =>
   refine ai h fun b σ1 h1 h=>aH (aT h) fun u e h=>?_
   obtain ⟨e1,e2⟩:=G.ex h1 rfl
   have hl:=Nat.succ.inj hl
   cases ops with
   | nil =>
    cases xs with
    | nil=>apply ap h;exact SH.one e1 e2 e
    | cons=>exact nN hl rfl
   | cons o' ops =>
    cases xs with
    | nil=>exact nN hl rfl
    | cons y xs =>
     have hr:if u then SH W h₀ d V b (o'::ops) (y::xs) fr out σ1 t σ' else t=false∧σ'=σ1:=by
      cases u with
      | true=>exact G.ch h (ops:=o'::ops) (xs:=y::xs) rfl hl
      | false=>exact aL h
     exact SH.more (Nat.succ.inj hl) e1 e hr
end
section
variable {W:Wd} {K:Frag} {h₀:Heap} {fa:Nat→Addr} {fi:Nat→Option FI} {g:Evs} {d n:Nat} {V:Cx} {fr out fr':Fm} {σ σ':Hp} {v:AV} {p q:Pos} {a:Fw×Fm} (Fx:Facts W K h₀ fa fi) (G:Snd W h₀ fa fi g)
include G in
theorem lq {ss:List T} (h:Ret (blF g d ss fr) σ a σ') {n:Nat} {V:Cx} {ys:List Stmt} (hx:ys.map (trS n V)=ss):SS W h₀ d V ys fr σ a.1 a.2 σ':=by
 subst hx
 cases ys with
 | nil=>apply ap h;exact SS.nil
 | cons y ys =>
  refine ai h fun x σ1 h1 h=>?_
  have s1:S1 W h₀ d V y fr σ x.1 x.2 σ1:=G.st h1 rfl
  have go:∀ w,x.1=w→Ret (match w with | .next=>g.bl d (ys.map (trS n V)) x.2 | w=>ret (w,x.2)) σ1 a σ'→SS W h₀ d V (y::ys) fr σ a.1 a.2 σ':=fun w e h=>by
   cases w with
   | next=>rw [e] at s1;exact SS.cons s1 (G.bl h rfl)
   | _=>rw [e] at s1;apply ap h;exact SS.stop s1 nofun
  exact go _ rfl h
theorem nG {c:Bool} {t:T} {Q:Prop} (h:Ret (asF g d (if c=true then t else stk) v fr out) σ fr' σ') (k:c=true→Ret (asF g d t v fr out) σ fr' σ'→Q):Q:=ifK (F:=fun t=>asF g d t v fr out) (fun h=>ah h) h k
theorem iH {β:Type} {o:Option β} {f:β→T} {z:T} {Q:Prop} (h:Ret (asF g d (optK o f z) v fr out) σ fr' σ') (k:∀ c,o=some c→Ret (asF g d (f c) v fr out) σ fr' σ'→Q) (k':o=none→Ret (asF g d z v fr out) σ fr' σ'→Q):Q:=opK (F:=fun t=>asF g d t v fr out) h k k'
include Fx G in
theorem lr {t:T} (h:Ret (asF g d t v fr out) σ fr' σ') {n:Nat} {V:Cx} {x:Expr} (hx:(trN n).t V x=t):SA W h₀ d V x v fr out σ fr' σ'∧tgt x=true:=by
 subst hx
 cases n with
 | zero=>exact (ah h).elim
 | succ n =>
  have h:Ret (asF g d (trT (trN n) V x) v fr out) σ fr' σ':=h
  cases x with
  | Name m p =>
   refine ⟨iH h (fun c hc h=>?_) fun _ h=>(ah h).elim,rfl⟩
   have h:Ret (if c<fr.length then ret (fr.set c (some v)) else fail) σ fr' σ':=h
   split at h
   ·rename_i hl
    apply ap h
    exact SA.var hl (aF hc)
   ·exact (ah h).elim
  | Attribute y m p =>
   refine ⟨iH h (fun c hc h=>ai h fun b σ1 h1 h=>iG h fun τ e h=>?_) fun _ h=>(ah h).elim,rfl⟩
   apply ap h
   exact (show nmS c=m from bQ (aF hc)) ▸ SA.attr Fx.T Fx.flds (G.ex h1 rfl).1 e
  | Subscript y i p =>
   refine ⟨iH h (fun s hs h=>iH h (fun lo hl h=>iH h (fun hi hh h=>nG h fun hn h=>ai h fun b σ1 h1 h=>ai h fun l σ2 h2 h=>ai h fun u σ3 h3 h=>iG h fun τ e h=>?_) fun _ h=>(ah h).elim) fun _ h=>(ah h).elim) fun _ h=>ai h fun b σ1 h1 h=>ai h fun l σ2 h2 h=>iG h fun τ e h=>?_,rfl⟩
   ·apply ap h
    obtain ⟨p',rfl⟩:=eD hs
    rw [hl,hh,Option.isNone_iff_eq_none.mp hn]
    exact SA.slice (G.ex h1 rfl).1 (G.ex h2 rfl).1 (G.ex h3 rfl).1 e
   ·apply ap h
    exact SA.idx (G.ex h1 rfl).1 (G.ex h2 rfl).1 e
  | Tuple xs k p =>
   refine ⟨?_,rfl⟩
   cases v with
   | ref i =>
    refine aH (aT h) fun o ho h=>?_
    cases o with
    | tup vs =>
     obtain ⟨s1,s2,s3⟩:=G.ass h rfl
     exact SA.tup ho s2 s1 s3
    | _=>exact (ah h).elim
   | _=>exact (ah h).elim
  | _=>exact (ah h).elim
include G in
theorem jR {ts:List T} {vs:List AV} (h:Ret (assF g d ts vs fr out) σ fr' σ') {n:Nat} {V:Cx} {xs:List Expr} (hx:xs.map ((trN n).t V)=ts):SAs W h₀ d V xs vs fr out σ fr' σ'∧xs.all tgt=true∧xs.length=vs.length:=by
 subst hx
 cases xs with
 | nil =>
  cases vs with
  | nil=>apply ap h;exact ⟨SAs.nil,rfl,rfl⟩
  | cons=>exact (ah h).elim
 | cons x xs =>
  cases vs with
  | nil=>exact (ah h).elim
  | cons b vs =>
   refine ai h fun fr1 σ1 h1 h=>?_
   obtain ⟨e1,e2⟩:=G.as h1 rfl
   obtain ⟨e3,e4,e5⟩:=G.ass h rfl
   exact ⟨SAs.cons e2 e1 e3,by rw [List.all_cons,e2,e4];rfl,congrArg (·+1) e5⟩
theorem ls {f:Int→M It} {b:AV} {i:It} {P:AV→Prop} (h:Ret (intOf b f) σ i σ') (q:∀ k,sInt k=true→Ret (f k) σ i σ'→P (.int k)):P b:=by
 cases b with
 | int k =>
  refine aH h fun t e h=>?_
  cases t with
  | true=>exact q k (Option.some.inj e) h
  | false=>exact (ah h).elim
 | _=>exact (ah h).elim
theorem mG {f:Nat→AO→M It} {b:AV} {i:It} {P:AV→Prop} (h:Ret (iObj b f) σ i σ') (q:∀ k o,σ[k]?=some o→Ret (f k o) σ i σ'→P (.ref k)):P b:=by
 cases b with
 | ref k=>exact aH (aT h) fun o ho h=>q k o ho h
 | _=>exact (ah h).elim
theorem mI {f:Nat→List AV→M It} {b:AV} {i:It} {P:AV→Prop} (h:Ret (iObj b fun i o=>match o with | .list xs=>f i xs | _=>fail) σ i σ') (q:∀ k xs,σ[k]?=some (.list xs)→Ret (f k xs) σ i σ'→P (.ref k)):P b :=
 mG h fun k o ho h=>by
  cases o with
  | list xs=>exact q k xs ho h
  | _=>exact (ah h).elim
include G in
theorem iI {x:Expr} {i:It} (h:Ret (itF g d (.nd 26 0 .none [(trN n).e V x]) fr) σ i σ'):SI W h₀ d V x fr σ i σ'∧tame x=true :=
 ai h fun b σ1 h1 h=>by
  refine ⟨?_,(G.ex h1 rfl).2⟩
  have he:=(G.ex h1 rfl).1
  have go:Ret (iObj b fun i o=>match o with | .list _=>ret (.lst i 0) | .tup _=>ret (.tup i 0) | _=>fail) σ1 i σ'→SI W h₀ d V x fr σ i σ':=fun h=>by
   (apply mG (P:=fun b=>SE W h₀ d V x fr [] σ b σ1→_) h ?_ he)
   intro k o ho h he
   cases o with
   | list xs=>apply ap h;exact SI.lst he ho
   | tup xs=>apply ap h;exact SI.tup he ho
   | _=>exact (ah h).elim
  cases b with
  | str s=>apply ap h;exact SI.str he
  | _=>exact go h
include Fx G in
theorem jS {m:Str} {xs:List Expr} {c:Nat} {i:It} (hk:V.kind m=some .globalImplicit) (hc:posS itN m=some c) (h:Ret (itF g d (.nd (23+c) 0 .none (xs.map ((trN n).e V))) fr) σ i σ'):SI W h₀ d V (.Call (.Name m p) xs [] q) fr σ i σ':=by
 have hm:=aF hc
 have hn:=Fx.itn m (List.mem_of_getElem? hm)
 match c,hm with
 | 0,hm =>
  cases hm
  have h:Ret (iRng g d (xs.map ((trN n).e V)) fr) σ i σ':=h
  cases xs with
  | nil=>exact (ah h).elim
  | cons x xs =>
   cases xs with
   | nil =>
    refine ai h fun b σ1 h1 h=>?_
    (apply ls (P:=fun b=>SE W h₀ d V x fr [] σ b σ1→_) h ?_ (G.ex h1 rfl).1)
    intro k hs h he
    apply ap h
    exact SI.rng1 hk Fx.T hn he (G.ex h1 rfl).2 hs
   | cons y xs =>
    cases xs with
    | nil =>
     refine ai h fun b σ1 h1 h=>ai h fun b' σ2 h2 h=>?_
     (apply ls (P:=fun b=>SE W h₀ d V x fr [] σ b σ1→_) h ?_ (G.ex h1 rfl).1)
     intro k hs h he
     (apply ls (P:=fun b=>SE W h₀ d V y fr [] σ1 b σ2→_) h ?_ (G.ex h2 rfl).1)
     intro k' hs' h he'
     apply ap h
     exact SI.rng2 hk Fx.T hn he he' (G.ex h1 rfl).2 (G.ex h2 rfl).2 hs hs'
    | cons=>exact (ah h).elim
 | 1,hm =>
  cases hm
  have h:Ret (iRev g d (xs.map ((trN n).e V)) fr) σ i σ':=h
  cases xs with
  | nil=>exact (ah h).elim
  | cons x xs =>
   cases xs with
   | nil =>
    refine ai h fun b σ1 h1 h=>?_
    (apply mI (P:=fun b=>SE W h₀ d V x fr [] σ b σ1→_) h ?_ (G.ex h1 rfl).1)
    intro k ys ho h he
    apply ap h
    exact SI.rev hk Fx.T hn he (G.ex h1 rfl).2 ho
   | cons=>exact (ah h).elim
 | c+2,hm=>exact nS hm
theorem gD {x f:Expr} {xs:List Expr} (h:callX x=some (f,xs,true)):∃ q,x=.Call f xs [] q:=by
 cases x with
 | Call f xs kw q=>cases kw with
  | nil=>cases h;exact ⟨q,rfl⟩
  | cons=>cases h
 | _=>exact nS h
include Fx G in
theorem lu {t:T} {i:It} (h:Ret (itF g d t fr) σ i σ') {n:Nat} {V:Cx} {x:Expr} (hx:(trN n).i V x=t):SI W h₀ d V x fr σ i σ'∧tame x=true:=by
 subst hx
 cases n with
 | zero=>exact (ah h).elim
 | succ n =>
  refine opK (F:=fun t=>itF g d t fr) h (fun c hc hz=>?_) fun _ h=>iI G h
  exact obC hc fun f hf hc=>obC hc fun m hm hc=>mq hc fun hk hc=>by
   obtain ⟨f,xs,b⟩:=f
   obtain ⟨k,hk',rfl⟩:=Option.map_eq_some_iff.mp hc
   obtain ⟨rfl,hg⟩:=Bool.and_eq_true_iff.mp hk
   obtain ⟨p,rfl⟩:=dX hm
   obtain ⟨q,rfl⟩:=gD hf
   exact ⟨jS Fx G (cw hg) hk' hz,rfl⟩
end
theorem jT {V:Cx} {ys:List Expr}:∀ {xs:List Nat},varsX V ys=some xs→∃ qs,Paired (NmR V) qs ys∧qs.map (·.1)=xs:=by
 induction ys with
 | nil=>intro xs h;apply s1Q h;exact ⟨[],.nil,rfl⟩
 | cons y ys ih =>
  intro xs h
  refine obC h fun m hm h=>obC h fun i hi h=>?_
  obtain ⟨zs,hz,rfl⟩:=Option.map_eq_some_iff.mp h
  obtain ⟨qs,h1,rfl⟩:=ih hz
  obtain ⟨p,h3⟩:=dX hm
  exact ⟨(i,m)::qs,.cons ⟨aF hi,p,h3⟩ h1,rfl⟩
theorem jU (is:List Nat):(is.map fun i=>T.nd 1 i .none []).map numT=is:=by
 induction is with
 | nil=>rfl
 | cons i is ih=>exact congrArg (i::·) ih
section
variable {W:Wd} {K:Frag} {h₀:Heap} {fa:Nat→Addr} {fi:Nat→Option FI} {g:Evs} {d n:Nat} {V:Cx} {fr out fr':Fm} {σ σ':Hp} {v:AV} {p q:Pos} {a:Fw×Fm} (Fx:Facts W K h₀ fa fi) (G:Snd W h₀ fa fi g)
theorem lv {c:Bool} {t:T} {Q:Prop} (h:Ret (stF g d (if c=true then t else stk) fr) σ a σ') (k:c=true→Ret (stF g d t fr) σ a σ'→Q):Q:=ifK (F:=fun t=>stF g d t fr) (fun h=>ah h) h k
theorem jV {β:Type} {o:Option β} {f:β→T} {Q:Prop} (h:Ret (stF g d (optK o f stk) fr) σ a σ') (k:∀ c,o=some c→Ret (stF g d (f c) fr) σ a σ'→Q):Q:=opK (F:=fun t=>stF g d t fr) h k fun _ h=>(ah h).elim
include G in
theorem gE {tx y:Expr} (hp:plainA tx y=true) (h:Ret (sPlain g d [(trN n).t V tx,(trN n).e V y] fr) σ a σ'):S1 W h₀ d V (.Assign [tx] y p) fr σ a.1 a.2 σ':=by
 refine ai h fun b σ1 h1 h=>ai h fun fr1 σ2 h2 h=>?_
 apply ap h
 exact S1.assign (G.ex h1 rfl).1 (G.as h2 rfl).2 (G.ex h1 rfl).2 (G.as h2 rfl).1 hp
include G in
theorem iJ {tx elt:Expr} {gens:List Comprehension} {sc:Scope} (h:Ret (sComp g d [(trN (n+1)).t V tx,compT (trN n) V elt gens sc] fr) σ a σ'):S1 W h₀ d V (.Assign [tx] (.ListComp elt gens sc q) p) fr σ a.1 a.2 σ':=by
 have h:Ret (bnd (xCompR g d (numT (compT (trN n) V elt gens sc)) (kids (compT (trN n) V elt gens sc)) fr) fun v=>bnd (g.as d ((trN (n+1)).t V tx) v fr []) fun fr=>ret (.next,fr)) σ a σ':=h
 refine ai h fun u σ1 h1 h=>ai h fun fr1 σ2 h2 h=>?_
 apply ap h
 refine dh (F:=fun t=>xCompR g d (numT t) (kids t) fr) (fun h=>ah h) h1 fun m p' ix xs e hs hz=>?_
 subst e
 refine cps fun _ hG=>?_
 obtain ⟨i,σ3,fr2,c1,c2,c3,rfl⟩:=eE G hz
 refine hG ?_
 clear hG
 exact S1.assign_comp (names:=[m]) c1 c2 hs c3 (G.as h2 rfl).2 (G.as h2 rfl).1
include G in
theorem iK {ys zs:List Expr} {k k':Nat} {p1 p2:Pos} {is:List Nat} (hw:swapPlain zs=true) (hv:varsX V ys=some is) (h:Ret (sSwap g d ((is.map fun i=>T.nd 1 i .none []).map numT) (zs.map ((trN n).e V)) fr) σ a σ'):S1 W h₀ d V (.Assign [.Tuple ys k p1] (.Tuple zs k' p2) p) fr σ a.1 a.2 σ':=by
 rw [jU] at h
 refine cps fun _ hG=>?_
 obtain ⟨qs,hq,rfl⟩:=jT hv
 refine hG ?_
 clear hG
 refine ai h fun vs σ1 h1 h=>?_
 split at h
 ·rename_i hc
  apply ap (bK (f:=fun _=>ret (Fw.next,setVars (qs.map (·.1)) vs fr)) (aT h))
  exact S1.assign_vars hq hw (G.exs h1 rfl).1 (hc.1.trans (List.length_map _)) (fb hc.2.1) hc.2.2.1 fun q hq=>of_decide_eq_true (List.all_eq_true.mp hc.2.2.2 q.1 (List.mem_map.mpr ⟨q,hq,rfl⟩))
 ·exact (ah h).elim
include G in
theorem lw {tx y:Expr} (h:Ret (stF g d (asgT (trN n) V tx y) fr) σ a σ'):S1 W h₀ d V (.Assign [tx] y p) fr σ a.1 a.2 σ' :=
 ifE (F:=fun t=>stF g d t fr) h (fun hp h=>gE G hp h) fun hp h=>ifE (F:=fun t=>stF g d t fr) h (fun hc h=>by
  obtain ⟨elt,gens,sc,q,rfl⟩:=fp hc
  cases n with
  | zero =>
   have h:Ret (bnd (xCompR g d 0 [] fr) fun v=>bnd (g.as d stk v fr []) fun fr=>ret (.next,fr)) σ a σ':=h
   exact ai h fun u σ1 h1 h=>(ah h1).elim
  | succ n=>exact iJ G h) fun hc h=>jV h fun ys hy h=>jV h fun zs hz h=>lv h fun hw h=>jV h fun is hv hn=>by
  obtain ⟨k,p1,rfl⟩:=c8 hy
  obtain ⟨k',p2,rfl⟩:=c8 hz
  exact iK G hw hv hn
end
section
variable {W:Wd} {K:Frag} {h₀:Heap} {fa:Nat→Addr} {fi:Nat→Option FI} {g:Evs} {d n:Nat} {V:Cx} {fr out fr':Fm} {σ σ':Hp} {v:AV} {p q:Pos} {a:Fw×Fm} (Fx:Facts W K h₀ fa fi) (G:Snd W h₀ fa fi g)
include Fx G in
theorem lx {t:T} (h:Ret (stF g d t fr) σ a σ') {n:Nat} {V:Cx} {y:Stmt} (hx:trS n V y=t):S1 W h₀ d V y fr σ a.1 a.2 σ':=by
 subst hx
 cases n with
 | zero=>exact (ah h).elim
 | succ n =>
  cases y with
  | Expr y p =>
   have h:Ret (stF g d (if (isComp y || isName y)=true then stk else .nd 30 0 .none [(trN n).e V y]) fr) σ a σ':=h
   refine ifE (F:=fun t=>stF g d t fr) h (fun _ h=>(ah h).elim) fun hl h=>?_
   have h:Ret (bnd (g.ex d ((trN n).e V y) fr []) fun _=>ret (Fw.next,fr)) σ a σ':=h
   refine ai h fun b σ1 h1 h=>?_
   apply ap h
   exact S1.expr (G.ex h1 rfl).1 (G.ex h1 rfl).2 (Bool.or_eq_false_iff.mp hl).1
  | Assign ts y p =>
   have h:Ret (stF g d (optK (oneL ts) (fun tx=>asgT (trN n) V tx y) stk) fr) σ a σ':=h
   refine jV h fun tx ht h=>?_
   rw [b8 ht]
   exact lw G h
  | If c b e p =>
   refine ai h fun t σ1 h1 h=>S1.ite (G.co h1 rfl) ?_
   cases t <;> exact G.bl h (n:=n) rfl
  | While c b e p =>
   have h:Ret (stF g d (if e.isEmpty=true then .nd 33 0 .none [(trN n).c V c,.nd 38 0 .none (b.map (trS n V))] else stk) fr) σ a σ':=h
   refine lv h fun he h=>?_
   rw [List.isEmpty_iff.mp he]
   exact S1.while (G.wl h rfl rfl)
  | For tx ix b e p =>
   have h:Ret (stF g d (if e.isEmpty=true then .nd 34 0 .none [(trN n).t V tx,(trN n).i V ix,.nd 38 0 .none (b.map (trS n V))] else stk) fr) σ a σ':=h
   refine lv h fun he h=>?_
   rw [List.isEmpty_iff.mp he]
   exact ai h fun i σ1 h1 h=>S1.for_ (G.it h1 rfl).1 (G.it h1 rfl).2 (G.fl h rfl rfl)
  | Return y p =>
   have h:Ret (bnd (g.ex d (optT ((trN n).e V) y) fr []) fun u=>ret (Fw.ret u,fr)) σ a σ':=h
   refine ai h fun b σ1 h1 h=>?_
   apply ap h
   cases y with
   | none=>obtain ⟨rfl,rfl⟩:=G.non h1;exact S1.ret0
   | some y=>exact S1.ret (G.ex h1 rfl).1
  | Break p=>apply ap h;exact S1.brk
  | Continue p=>apply ap h;exact S1.cont
  | _=>exact (ah h).elim
include G in
theorem iL {f:Nat} {vs:List AV} (h:Ret (callF g d f vs) σ v σ'):SCl W h₀ fa d f vs σ v σ'∧(fi f).isSome=true:=by
 obtain ⟨so,h⟩:=iF (aT h)
 cases so with
 | none=>exact G.callp h
 | some sel =>
  (apply aH h;clear h;intro t e1 h)
  cases t with
  | false=>exact (ah h).elim
  | true =>
   (apply aH h;clear h;intro sub e2 h)
   obtain ⟨sb,e5,rfl⟩:=Option.map_eq_some_iff.mp e2
   (apply ai (bK h);clear h;intro r τ h1 h)
   obtain ⟨ko,h⟩:=iF (aT h)
   cases ko with
   | none=>exact (ah h).elim
   | some kp =>
    (apply aH h;clear h;intro t e3 h)
    cases t with
    | false=>exact (ah h).elim
    | true =>
     rw [if_pos rfl] at h
     (apply aH h;clear h;intro τ' e4 h)
     obtain ⟨new,e6,rfl⟩:=Option.map_eq_some_iff.mp e4
     (first | apply ap (bK (f:=fun _=>ret (bak sel kp σ.length r)) h) | obtain ⟨rfl,rfl⟩:=aL (bK (f:=fun _=>ret (bak sel kp σ.length r)) h))
     have e3:=Bool.and_eq_true_iff.mp (Option.some.inj e3)
     exact ⟨SCl.iso (Option.some.inj e1) e5 (G.callp h1).1 e3.1 e3.2 e6,(G.callp h1).2⟩
include Fx G in
theorem gF {f:Nat} {vs:List AV} (h:Ret (callpF g d (parS W h₀ fa fi) f vs) σ v σ'):SCl W h₀ fa d f vs σ v σ'∧(fi f).isSome=true:=by
 rcases jO h with h | h
 ·exact h
 ·cases d with
  | zero=>exact (ah h).elim
  | succ d =>
   cases hf:(parS W h₀ fa fi).fi f with
   | none=>dsimp only at h;rw [hf] at h;exact (ah h).elim
   | some i =>
    dsimp only at h
    rw [hf] at h
    dsimp only at h
    cases hm:mkFr i vs with
    | none=>rw [hm] at h;exact (ah h).elim
    | some fr =>
     rw [hm] at h
     obtain ⟨⟨w,fr'⟩,σ1,h1,h⟩:=d2 h
     obtain ⟨fd,body,B⟩:=Fx.fn f i hf
     obtain ⟨n,hb⟩:=B.mss
     have hs:SS W h₀ d ⟨fun y=>fd.scope.names.lookup y,fvars f,[]⟩ body fr σ w fr' σ1:=G.bl h1 hb
     have hi:(fi f).isSome=true:=by rw [show fi f=some i from hf];rfl
     cases w with
     | next=>(first | apply ap h | obtain ⟨rfl,rfl⟩:=aL h);exact ⟨SCl.run Fx.T B hm hs (.inl ⟨rfl,rfl⟩),hi⟩
     | ret b=>(first | apply ap h | obtain ⟨rfl,rfl⟩:=aL h);exact ⟨SCl.run Fx.T B hm hs (.inr rfl),hi⟩
     | _=>exact (ah h).elim
theorem dG {w:Fw} {fr2:Fm} {σ3:Hp} {k:M (Fw×Fm)} {N:Prop} (h:Ret (loopK w fr2 k) σ3 a σ') (hk:Ret k σ3 a σ'→N):Goes w a.1 fr2 a.2 σ3 σ' N:=by
 cases w with
 | next=>exact hk h
 | cont=>exact hk h
 | brk=>(first | apply ap h | obtain ⟨rfl,rfl⟩:=aL h);exact ⟨rfl,rfl,rfl⟩
 | ret b=>(first | apply ap h | obtain ⟨rfl,rfl⟩:=aL h);exact ⟨rfl,rfl,rfl⟩
include G in
theorem ly {c:T} {b:List T} (h:Ret (wlF g d (parS W h₀ fa fi) c b fr) σ a σ') {n:Nat} {V:Cx} {x:Expr} {ys:List Stmt} (hx:(trN n).c V x=c) (hy:ys.map (trS n V)=b):SWl W h₀ d V x ys fr σ a.1 a.2 σ':=by
 rcases jO h with h | h
 ·exact h _ _ _ _ hx hy
 ·(apply ai h;clear h;intro t σ1 h1 h)
  cases t with
  | false=>(first | apply ap h | obtain ⟨rfl,rfl⟩:=aL h);exact SWl.stop (G.co h1 hx)
  | true =>
   obtain ⟨⟨w,fr2⟩,σ3,h2,h⟩:=d2 h
   have hs:SS W h₀ d V ys fr σ1 w fr2 σ3:=G.bl h2 hy
   have hg:=dG (N:=SWl W h₀ d V x ys fr2 σ3 a.1 a.2 σ') h fun h=>G.wl h hx hy
   exact SWl.turn (G.co h1 hx) hs hg
include G in
theorem lz {t:T} {it:It} {b:List T} (h:Ret (flF g d (parS W h₀ fa fi) t it b fr) σ a σ') {n:Nat} {V:Cx} {x:Expr} {ys:List Stmt} (hx:(trN n).t V x=t) (hy:ys.map (trS n V)=b):SFl W h₀ d V x it ys fr σ a.1 a.2 σ':=by
 rcases jO h with h | h
 ·exact h _ _ _ _ hx hy
 ·subst hx
  (apply aH (aT h);clear h;intro r e h)
  cases r with
  | none=>(first | apply ap h | obtain ⟨rfl,rfl⟩:=aL h);exact SFl.done e
  | some r =>
   refine cps fun _ hG=>?_
   obtain ⟨b,it',σ1⟩:=r
   refine hG ?_
   clear hG
   (apply ai (bK h);clear h;intro fr1 σ2 h1 h)
   obtain ⟨⟨w,fr2⟩,σ3,h2,h⟩:=d2 h
   have hs:SS W h₀ d V ys fr1 σ2 w fr2 σ3:=G.bl h2 hy
   have hg:=dG (N:=SFl W h₀ d V x it' ys fr2 σ3 a.1 a.2 σ') h fun h=>G.fl h rfl hy
   exact SFl.turn e (G.as h1 rfl).1 hs hg
include G in
theorem lA {elt:T} {acc:Nat} (h:Ret (cmAdd g d elt acc fr out) σ v σ') {n:Nat} {V:Cx} {x:Expr} (hx:(trN n).e V x=elt):∃ b σ4 zs,SE W h₀ d V x fr out σ b σ4∧σ4[acc]?=some (.list zs)∧zs.length<LIM∧σ'=σ4.set acc (.list (zs++[b])):=by
 (apply ai h;clear h;intro b σ4 h1 h)
 have h:=eC h
 unfold lmV at h
 dsimp only at h
 cases hl:listAt σ4 acc with
 | none=>rw [hl] at h;exact nS h
 | some zs =>
  rw [hl] at h
  have h:(if zs.length<LIM then some (AV.none,σ4.set acc (.list (zs++[b]))) else none)=some (v,σ'):=h
  split at h
  ·rename_i hz
   apply sQ h
   exact ⟨b,σ4,zs,(G.ex h1 hx).1,aw hl,hz,rfl⟩
  ·exact nS h
include G in
theorem lB {elt t:T} {ifs:List T} {it:It} {acc:Nat} (h:Ret (cmF g d (parS W h₀ fa fi) elt t ifs it acc fr out) σ fr' σ') {n:Nat} {V:Cx} {tx x:Expr} {xs:List Expr} (ht:(trN n).t V tx=t) (hx:(trN n).e V x=elt) (hxs:xs.map ((trN n).c V)=ifs) :
  SCm W h₀ d V tx x xs it acc fr out σ fr' σ':=by
 rcases jO h with h | h
 ·exact h _ _ _ _ _ ht hx hxs
 ·subst ht
  (apply aH (aT h);clear h;intro r e h)
  cases r with
  | none=>(first | apply ap h | obtain ⟨rfl,rfl⟩:=aL h);exact SCm.done e
  | some r =>
   obtain ⟨b,it',σ1⟩:=r
   (apply ai (bK h);clear h;intro fr1 σ2 h1 h)
   obtain ⟨sa,_⟩:=G.as h1 rfl
   have fin:∀ ok σ3,CondOK W h₀ d V xs fr1 out σ2 ok σ3→Ret (if ok then bnd (cmAdd g d elt acc fr1 out) fun _=>g.cm d elt ((trN n).t V tx) ifs it' acc fr1 out else g.cm d elt ((trN n).t V tx) ifs it' acc fr1 out) σ3 fr' σ'→SCm W h₀ d V tx x xs it acc fr out σ fr' σ':=fun ok σ3 hc h=>by
    cases ok with
    | true =>
     (apply ai h;clear h;intro r σ5 h2 h)
     have ha:=lA G h2 hx
     exact SCm.turn e sa hc ha (G.cm h rfl hx hxs)
    | false=>exact SCm.turn e sa hc (σ5:=σ3) rfl (G.cm h rfl hx hxs)
   cases xs with
   | nil =>
    cases hxs
    exact fin true σ2 (.inl ⟨rfl,rfl,rfl⟩) h
   | cons c xs =>
    cases xs with
    | nil =>
     cases hxs
     (apply ai h;clear h;intro ok σ3 h2 h)
     exact fin ok σ3 (.inr ⟨c,rfl,G.co h2 rfl⟩) h
    | cons=>cases hxs;exact (ah h).elim
end
theorem snd {W:Wd} {K:Frag} {h₀:Heap} {fa:Nat→Addr} {fi:Nat→Option FI} (Fx:Facts W K h₀ fa fi):∀ n,Snd W h₀ fa fi (evN (parS W h₀ fa fi) n):=by
 intro n
 induction n with
 | zero=>exact nE
 | succ n G =>
  exact { non:=fun h=>aL h,ex:=fun h=>lk Fx G h,co:=fun h=>lm Fx G h,exs:=fun h=>jQ G h,ch:=fun h=>ln G h,bl:=fun h=>lq G h,st:=fun h=>lx Fx G h,as:=fun h=>lr Fx G h,ass:=fun h=>jR G h,it:=fun h=>lu Fx G h,call:=fun h=>iL G h,callp:=fun h=>gF Fx G h,wl:=fun h=>ly G h,fl:=fun h=>lz G h,cm:=fun h=>lB G h }
end Mine
namespace Mine
open PySem PySem.W PyProof.Rows PySem.Calls
theorem nb {b:Bool} (h:(!b)=true):b=false:=by cases b;rfl;exact fT h
noncomputable def refOf:Option (Option Value)→Addr | some (some (.ref a))=>a | _=>0
noncomputable def caB (K:Frag) (c:Nat):Addr:=refOf (nsIn K mainGlobals (clS c))
noncomputable def faB (K:Frag) (f:Nat):Addr:=match fnC f with | none=>refOf (nsIn K mainGlobals (fnS f)) | some c=>refOf (findIn K (.ref (caB K c)) (fnS f))
noncomputable def wdOf (prog:Program) (w:World) (K:Frag) (lo:Obj):Wd:=⟨prog,w,caB K,lo⟩
noncomputable def dbgB (n:Str):Bool:=!(n == dbgS)
noncomputable def vrB (a:AV) (v:Value):Bool:=match a with
 | .none=>(match v with | .none=>true | _=>false)
 | .bool b=>(match v with | .bool c=>b == c | _=>false)
 | .int i=>(match v with | .int j _=>i == j | _=>false)
 | .str l=>(match v with | .str s _=>s.cps.toList == l | _=>false)
 | _=>false
theorem iM {ρ:Rho} {a:AV} {v:Value} (h:vrB a v=true):VR ρ a v:=by
 cases a with
 | none=>cases v <;> first | rfl | exact fT h
 | bool b=>cases v <;> first | (rw [beq_iff_eq.mp h];rfl) | exact fT h
 | int b=>cases v <;> first | (rw [beq_iff_eq.mp h];exact ⟨_,rfl⟩) | exact fT h
 | str b=>cases v <;> first | exact ⟨_,_,rfl,beq_iff_eq.mp h⟩ | exact fT h
 | ref=>exact fT h
 | opq=>exact fT h
noncomputable def vrsB:List AV→List Value→Bool
 | [],[]=>true
 | a::as,v::vs=>vrB a v && vrsB as vs
 | _,_=>false
theorem fR {ρ:Rho} {as:List AV}:∀ {vs:List Value},vrsB as vs=true→VRs ρ as vs:=by
 induction as with
 | nil=>intro vs h;cases vs with | nil=>exact .nil | cons=>exact fT h
 | cons a as ih =>
  intro vs h
  cases vs with
  | nil=>exact fT h
  | cons v vs =>
   have h:=Bool.and_eq_true_iff.mp (show (vrB a v && vrsB as vs)=true from h)
   exact .cons (iM h.1) (ih h.2)
noncomputable def dflB (K:Frag) (dv:Value) (defs:List AV):Bool:=match dv with
 | .none=>defs.isEmpty
 | .ref T=>(match K.lookup T with
  | some ⟨_,_,.seq vs _,_⟩=>vrsB defs vs.toList
  | _=>false)
 | _=>false
set_option tactic.hygienic true in
theorem jW {K:Frag} {dv:Value} {defs:List AV} (h:dflB K dv defs=true):∃ ds:List Value,((dv=.none∧ds=[])∨∃ T o n,dv=.ref T∧K.lookup T=some o∧o.data=.seq ds.toArray n)∧VRs [] defs ds:=by
 unfold dflB at h
 split at h
 ·rw [List.isEmpty_iff] at h;subst h;exact ⟨[],.inl ⟨rfl,rfl⟩,.nil⟩
 ·split at h
  ·rename_i vs n _ ho
   exact ⟨vs.toList,.inr ⟨_,_,n,rfl,ho,by rw [Array.toArray_toList]⟩,fR h⟩
  ·exact fT h
 ·exact fT h
noncomputable def allB:List Bool→Bool
 | []=>true
 | b::r=>b && allB r
theorem cM:∀ {l:List Bool} (k:Nat),allB l=true→nth l k true=true
 | [],_,_=>rfl
 | _::_,0,h=>(Bool.and_eq_true_iff.mp h).1
 | _::_,k+1,h=>cM k (Bool.and_eq_true_iff.mp h).2
noncomputable def fdB (K:Frag) (f:Nat) (i:FI) (fd:FuncData) (body:List Stmt):Bool :=
 allB [!fd.scope.isCoroutine,!fd.scope.isGenerator,fd.scope.kind == .function,fd.closure.isEmpty,fd.globals == mainGlobals,fd.builtins == builtinsNs,codeIn K fd.code fd.qualname,
  fd.params.posonlyargs.isEmpty,fd.params.kwonlyargs.isEmpty,fd.params.vararg.isNone,fd.params.kwarg.isNone,fd.params.args.map (·.arg) == (fvars f).take i.np,dflB K fd.defaults i.defs,
  eqTs (eqT 300) (body.map (trS 300 ⟨fun y=>fd.scope.names.lookup y,fvars f,[]⟩)) i.body,(fvars f).length == i.nv,ndS (fvars f),(fvars f).all dbgB,
  (fvars f).all (fun n=>fd.scope.names.lookup n == some .local || fd.scope.names.lookup n == some .cell),decide (i.np≤i.nv),decide (i.defs.length≤i.np),typeIn K (.ref (faB K f)) == some (.type "function")]
noncomputable def fnB (K:Frag) (f:Nat) (i:FI):Bool:=match K.lookup (faB K f) with
 | some ⟨_,_,.func fd,_⟩=>(match fd.body with
  | .stmts body=>fdB K f i fd body
  | _=>false)
 | _=>false
theorem cN {n:Str} (h:dbgB n=true):(n == dbgS)=false:=nb h
set_option tactic.hygienic true in
theorem lC {K:Frag} {f:Nat} {i:FI} (h:fnB K f i=true):∃ fd body,FnOK K f i (faB K f) fd body:=by
 unfold fnB at h
 split at h
 ·rename_i oc od fd sl ho
  split at h
  ·rename_i body hb
   have a:=fun k=>cM (l:=[_,_,_,_,_,_,_,_,_,_,_,_,_,_,_,_,_,_,_,_,_]) k h
   refine ⟨fd,body,⟨⟨_,ho,rfl⟩,nb (a 0),nb (a 1),beq_iff_eq.mp (a 2),hb,List.isEmpty_iff.mp (a 3),beq_iff_eq.mp (a 4),beq_iff_eq.mp (a 5),fun h X=>codeRec_of X (a 6),List.isEmpty_iff.mp (a 7),List.isEmpty_iff.mp (a 8),Option.isNone_iff_eq_none.mp (a 9),Option.isNone_iff_eq_none.mp (a 10),
    beq_iff_eq.mp (a 11),jW (a 12),⟨300,fB (kQ 300) _ _ (a 13)⟩,beq_iff_eq.mp (a 14),dR (a 15),fun n hn=>cN (List.all_eq_true.mp (a 16) n hn),fun n hn=>?_,of_decide_eq_true (a 18),of_decide_eq_true (a 19),beq_iff_eq.mp (a 20)⟩⟩
   rcases Bool.or_eq_true_iff.mp (List.all_eq_true.mp (a 17) n hn) with q | q
   ·exact .inl (beq_iff_eq.mp q)
   ·exact .inr (beq_iff_eq.mp q)
  ·exact fT h
 ·exact fT h
noncomputable def clB (K:Frag) (c:Nat):Bool :=
 allB [nsIn K mainGlobals (clS c) == some (some (.ref (caB K c))),keepIn K (.ref (caB K c)),makesIn K (caB K c),findIn K (.ref (caB K c)) "__init__" == some (some (.ref (faB K (itab c)))),typeIn K (.ref (faB K (itab c))) == some (.type "function"),
 findIn K (.ref (caB K c)) "__getattribute__" == some (some (.builtin "object.__getattribute__")),findIn K (.ref (caB K c)) "__getattr__" == some none,dbgB (clS c),
 mtT.all fun t=>!(t.1 == c) || (findIn K (.ref (caB K c)) (nmS t.2.1) == some (some (.ref (faB K t.2.2))) && (typeIn K (.ref (faB K t.2.2)) == some (.type "function") && keepIn K (.ref (faB K t.2.2))))]
theorem eF {c m f:Nat} (h:mtab c m=some f):(c,m,f)∈mtT:=by
 unfold mtab at h
 obtain ⟨t,ht,rfl⟩:=Option.map_eq_some_iff.mp h
 have hp:=List.find?_some ht
 have hp:=Bool.and_eq_true_iff.mp hp
 have:=List.mem_of_find?_eq_some ht
 obtain ⟨a,b,e⟩:=t
 rw [← beq_iff_eq.mp hp.1,← beq_iff_eq.mp hp.2]
 exact this
theorem lD {prog:Program} {w:World} {K:Frag} {c:Nat} {lo:Obj} (h:clB K c=true):ClsOK (wdOf prog w K lo) K (faB K) c:=by
 have s:=fun {a b:Bool} (h:(a && b)=true)=>Bool.and_eq_true_iff.mp h
 have a:=fun k=>cM (l:=[_,_,_,_,_,_,_,_,_]) k h
 refine ⟨beq_iff_eq.mp (a 0),a 1,a 2,beq_iff_eq.mp (a 3),beq_iff_eq.mp (a 4),beq_iff_eq.mp (a 5),beq_iff_eq.mp (a 6),fun m f e=>?_,cN (a 7)⟩
 rcases Bool.or_eq_true_iff.mp (List.all_eq_true.mp (a 8) _ (eF e)) with q | q
 ·rw [Bool.not_eq_true',beq_eq_false_iff_ne] at q
  exact absurd rfl q
 ·have q2:=s (s q).2
  exact ⟨beq_iff_eq.mp (s q).1,beq_iff_eq.mp q2.1,q2.2⟩
noncomputable def fldB (K:Frag) (C:Addr) (n:Str):Bool:=match findIn K (.ref C) n with
 | some a=>noGet K a && takerIn K C n == some none
 | none=>false
noncomputable def cfB (K:Frag) (c:Nat):Bool :=
 allB [plainGet K (caB K c) "",hasDictIn K (caB K c),findIn K (.ref (caB K c)) "__setattr__" == some (some (.builtin "object.__setattr__")),plainOver K (caB K c),(ftab c).all fun f=>fldB K (caB K c) (nmS f)]
set_option tactic.hygienic true in
theorem lE {K:Frag} {c:Nat} (h:cfB K c=true):∀ f∈ftab c,FieldOK K (caB K c) (nmS f):=by
 have s:=fun {a b:Bool} (h:(a && b)=true)=>Bool.and_eq_true_iff.mp h
 have b:=fun k=>cM (l:=[_,_,_,_,_]) k h
 intro f hf
 have:=List.all_eq_true.mp (b 4) f hf
 unfold fldB at this
 split at this
 ·rename_i a ha
  exact ⟨b 0,b 1,⟨a,ha,(s this).1⟩,beq_iff_eq.mp (b 2),b 3,beq_iff_eq.mp (s this).2⟩
 ·exact fT this
noncomputable def glB (K:Frag) (c:Nat):Bool:=dbgB (glS c) && match nsIn K mainGlobals (glS c) with
 | some (some v)=>if (glT c).isEmpty then vrB (glV c) v else (match glV c with | .none=>true | _=>false) && match v with
  | .ref a=>(match K.lookup a with
   | some ⟨k,d,.seq its _,sl⟩=>k == .type "tuple" && (d.isNone && (sl.isEmpty && vrsB ((glT c).map .str) its.toList))
   | _=>false)
  | _=>false
 | _=>false
theorem gG (l:List (List Nat)):strsV (l.map .str)=some l:=by
 induction l with
 | nil=>rfl
 | cons a r ih=>rw [List.map_cons,strsV,ih];rfl
set_option tactic.hygienic true in
theorem iN {K:Frag} {c:Nat} (h:glB K c=true):(glV c≠.none→∃ v,nsIn K mainGlobals (glS c)=some (some v)∧(glS c == dbgS)=false∧VR [] (glV c) v) ∧
  ((glT c).isEmpty=false→∃ a its n,nsIn K mainGlobals (glS c)=some (some (.ref a))∧(glS c == dbgS)=false∧K.lookup a=some (tupOf its n)∧StrsAre its.toList ((glT c).map fun l=>⟨l.toArray⟩)):=by
 have s:=fun {a b:Bool} (h:(a && b)=true)=>Bool.and_eq_true_iff.mp h
 obtain ⟨hd,h⟩:=s h
 have hd:=cN hd
 cases hn:nsIn K mainGlobals (glS c) with
 | none=>rw [hn] at h;exact fT h
 | some o =>
  cases o with
  | none=>rw [hn] at h;exact fT h
  | some v =>
   rw [hn] at h
   dsimp only at h
   split at h
   ·rename_i he
    exact ⟨fun _=>⟨v,rfl,hd,iM h⟩,fun q=>by rw [he] at q;exact tF q⟩
   ·obtain ⟨hv,h⟩:=s h
    refine ⟨fun q=>?_,fun _=>?_⟩
    ·cases hg:glV c <;> rw [hg] at hv <;> first | exact absurd hg q | exact fT hv
    ·cases v with
     | ref a =>
      dsimp only at h
      split at h
      ·rename_i k d its n sl ho
       have h1:=s h
       have h2:=s h1.2
       have h3:=s h2.2
       rw [beq_iff_eq.mp h1.1,Option.isNone_iff_eq_none.mp h2.1,Array.isEmpty_iff.mp h3.1] at ho
       exact ⟨a,its,n,rfl,hd,ho,bM (fR (ρ:=[]) h3.2) (gG _)⟩
      ·exact fT h
     | _=>exact fT h
noncomputable def fnmB (K:Frag) (f:Nat):Bool:=(fnC f).isSome || (nsIn K mainGlobals (fnS f) == some (some (.ref (faB K f))) && (keepIn K (.ref (faB K f)) && dbgB (fnS f)))
noncomputable def factsB (side:Bool) (K:Frag):Bool :=
 (List.range fnN.length).all (fun f=>match fi side f with | some i=>fnB K f i && fnmB K f | none=>true) && ((List.range clT.length).all (fun c=>clB K c && cfB K c) && ((List.range glN.length).all (glB K) && (biN.all (fun m=>nsIn K mainGlobals m == some none) &&
 itN.all (fun m=>nsIn K mainGlobals m == some none))))
theorem mJ {side:Bool} {f:Nat} {i:FI} (h:fi side f=some i):f<fnN.length:=by
 have hl:fiT.length=fnN.length:=rfl
 rcases Nat.lt_or_ge f fnN.length with q | q
 ·exact q
 ·unfold fi at h
  rcases cq none (fiT.map some) f with e | ⟨_,e⟩
  ·have:=(List.getElem?_eq_some_iff.mp e).1
   rw [List.length_map,hl] at this
   exact this
  ·rw [e] at h;exact nS h
theorem mK:(mtT.all fun t=>decide (t.1<clT.length))=true:=by decide +kernel
theorem lF:ftT.length=clT.length:=rfl
theorem iO {prog:Program} {w:World} {h₀:Heap} {K:Frag} {side:Bool} {lo:Obj} (h:factsB side K=true) (T:Top2 K h₀):Facts (wdOf prog w K lo) K h₀ (faB K) (fi side):=by
 have s:=fun {a b:Bool} (h:(a && b)=true)=>Bool.and_eq_true_iff.mp h
 obtain ⟨h1,h⟩:=s h
 obtain ⟨h2,h⟩:=s h
 obtain ⟨h3,h⟩:=s h
 obtain ⟨h4,h5⟩:=s h
 have h1:∀ f i,fi side f=some i→fnB K f i=true∧fnmB K f=true:=fun f i e=>by
  have:=List.all_eq_true.mp h1 f (List.mem_range.mpr (mJ e))
  rw [e] at this
  exact s this
 have h2:=fun c hc=>s (List.all_eq_true.mp h2 c (List.mem_range.mpr hc))
 have h3:∀ c m,glN[c]?=some m→glB K c=true∧glS c=m:=fun c m e=>⟨List.all_eq_true.mp h3 c (List.mem_range.mpr (List.getElem?_eq_some_iff.mp e).1),bQ e⟩
 refine ⟨T,⟨fun c f hf=>?_⟩,fun c m e=>?_,fun c m e=>?_,fun f i e=>lC (h1 f i e).1,fun f e hc=>?_,fun c hc=>lD (h2 c hc).1,fun e=>of_decide_eq_true (List.all_eq_true.mp mK _ (eF e)),fun m hm=>beq_iff_eq.mp (List.all_eq_true.mp h4 m hm),fun m hm=>beq_iff_eq.mp (List.all_eq_true.mp h5 m hm)⟩
 ·rcases Nat.lt_or_ge c clT.length with q | q
  ·exact lE (h2 c q).2 f hf
  ·rcases cq [] ftT c with e | ⟨_,e⟩
   ·have:=(List.getElem?_eq_some_iff.mp e).1
    rw [lF] at this
    exact absurd this (Nat.not_lt.mpr q)
   ·have hf:f∈nth ftT c []:=hf
    rw [e] at hf;cases hf
 ·obtain ⟨e1,e2⟩:=h3 c m e
  have:=(iN e1).1
  rwa [e2] at this
 ·obtain ⟨e1,e2⟩:=h3 c m e
  have:=(iN e1).2
  rwa [e2] at this
 ·obtain ⟨i,hi⟩:=Option.isSome_iff_exists.mp e
  have hc:fnC f=none:=bQ hc
  have q:=(h1 f i hi).2
  unfold fnmB at q
  rw [hc] at q
  have q:=s (show (nsIn K mainGlobals (fnS f) == some (some (.ref (faB K f))) && (keepIn K (.ref (faB K f)) && dbgB (fnS f)))=true from q)
  exact ⟨beq_iff_eq.mp q.1,(s q.2).1,cN (s q.2).2⟩
end Mine
namespace Mine
open PySem PySem.W PyProof.Rows
noncomputable def fragAt (as:List Addr) (h:Heap):Frag:=as.filterMap fun a=>(h.get? a).map (a,·)
theorem aM (as:List Addr) (h:Heap):(fragAt as h).In h:=by
 intro a o e
 induction as with
 | nil=>exact nS e
 | cons b r ih =>
  unfold fragAt at e ih
  rw [List.filterMap_cons] at e
  cases q:h.get? b with
  | none=>rw [q] at e;exact ih e
  | some x =>
   rw [q] at e
   simp only [Option.map_some,List.lookup_cons] at e
   split at e
   ·rename_i z;apply s1Q e;rw [beq_iff_eq.mp z];exact q
   ·exact ih e
theorem di {L:Frag} {a:Addr}:∀ K:Frag,(K++L).lookup a=match K.lookup a with | some o=>some o | none=>L.lookup a
 | []=>rfl
 | (b,q)::r=>by
  rw [List.cons_append,List.lookup_cons,List.lookup_cons]
  cases a == b with
  | true=>rfl
  | false=>exact di r
theorem bd {K L:Frag} {h:Heap} (x:K.In h) (y:L.In h):Frag.In (K++L) h:=by
 intro a o e
 rw [di] at e
 split at e
 ·rename_i z;apply s1Q e;exact x a _ z
 ·exact y a o e
noncomputable def refV:Value→List Addr | .ref a=>[a] | _=>[]
noncomputable def nsOf (K:Frag) (a:Addr):List Addr:=match K.lookup a with
 | some ⟨_,_,.cls cd,_⟩=>[cd.ns]
 | _=>[]
noncomputable def mroOf (K:Frag) (a:Addr):List Addr:=match K.lookup a with
 | some ⟨_,_,.cls cd,_⟩=>cd.mro.flatMap refV
 | _=>[]
noncomputable def partsOf (K:Frag) (a:Addr):List Addr:=match K.lookup a with
 | some ⟨_,_,.func fd,_⟩=>refV fd.code++refV fd.defaults
 | _=>[]
noncomputable def fragB (side:Bool) (h:Heap):Frag :=
 let k1:=fragAt [mainGlobals] h
 let cs:=(List.range clT.length).map (caB k1)
 let k2:=fragAt cs h
 let ms:=(cs.flatMap (mroOf k2)).filter fun a=>!cs.contains a
 let k3:=k2++fragAt ms h
 let k4:=fragAt ((cs++ms).flatMap (nsOf k3)) h
 let k5:=k1++k3++k4
 let fs:=((List.range fnN.length).filter fun f=>(fi side f).isSome).map (faB k5)
 let k6:=fragAt fs h
 let k7:=fragAt (fs.flatMap (partsOf k6)) h
 let k8:=fragAt ((List.range glN.length).flatMap fun g=>match nsIn k1 mainGlobals (glS g) with | some (some v)=>refV v | _=>[]) h
 k1++k3++k4++k6++k7++k8
theorem iP (side:Bool) (h:Heap):(fragB side h).In h:=by
 unfold fragB
 exact bd (bd (bd (bd (bd (aM _ _) (bd (aM _ _) (aM _ _))) (aM _ _)) (aM _ _)) (aM _ _)) (aM _ _)
noncomputable def noLB (K:Frag):Bool:=K.all fun q=>match q.2.data with | .seq _ _=>(match q.2.cls with | .type c=>!(c == "list") | _=>true) | _=>true
noncomputable def hookB (side:Bool):Hook :=
 ⟨Bool,fun s=>factsB side (fragB side s.heap) && noLB (fragB side s.heap),fun _=>true,fun _ h=>∃ K:Frag,K.In h∧factsB side K=true∧noLB K=true,fun _ s e=>⟨_,iP side s.heap,Bool.and_eq_true_iff.mp e⟩,fun _ _ _ ⟨K,a,b⟩ k=>⟨K,a.keeps k,b⟩⟩
end Mine
namespace Mine
open PySem PySem.W PyProof.Rows PySem.Calls
theorem Runs.ret {α:Type} {m:M α} {σ σ':Hp} {a:α} {s:List Sc} (h:Runs (m s σ) a σ'):Ret m σ a σ':=⟨s,h⟩
theorem Runs.by' {α:Type} {o:Option (α×List Sc×Hp×List Prop)} {a:α} {σ:Hp} {P:Prop} (hp:P) (e:Runs o a σ=((a=a∧σ=σ)∧P)):Runs o a σ:=e.mpr ⟨⟨rfl,rfl⟩,hp⟩
inductive Ex3 {α β γ:Type} (P:α→β→γ→Prop):Prop | mk (a:α) (b:β) (c:γ) (h:P a b c):Ex3 P
inductive Ex4 {α β γ δ:Type} (P:α→β→γ→δ→Prop):Prop | mk (a:α) (b:β) (c:γ) (d:δ) (h:P a b c d):Ex4 P
inductive Ex5 {α β γ δ ε:Type} (P:α→β→γ→δ→ε→Prop):Prop | mk (a:α) (b:β) (c:γ) (d:δ) (e:ε) (h:P a b c d e):Ex5 P
inductive Ex6 {α β γ δ ε ζ:Type} (P:α→β→γ→δ→ε→ζ→Prop):Prop | mk (a:α) (b:β) (c:γ) (d:δ) (e:ε) (f:ζ) (h:P a b c d e f):Ex6 P
inductive Ex7 {α β γ δ ε ζ η:Type} (P:α→β→γ→δ→ε→ζ→η→Prop):Prop | mk (a:α) (b:β) (c:γ) (d:δ) (e:ε) (f:ζ) (g:η) (h:P a b c d e f g):Ex7 P
inductive Ex8 {α β γ δ ε ζ η θ:Type} (P:α→β→γ→δ→ε→ζ→η→θ→Prop):Prop | mk (a:α) (b:β) (c:γ) (d:δ) (e:ε) (f:ζ) (g:η) (k:θ) (h:P a b c d e f g k):Ex8 P
structure Base where
 W:Wd
 K:Frag
 h₀:Heap
 fa:Nat→Addr
 side:Bool
 F:Facts W K h₀ fa (fi side)
noncomputable abbrev Base.par (B:Base):Par:=parS B.W B.h₀ B.fa (fi B.side)
noncomputable abbrev Base.ev (B:Base) (n:Nat):Evs:=evN B.par n
noncomputable def Con (B:Base) (d f:Nat) (vs:List AV) (σ:Hp) (r:AV) (σ':Hp):Prop:=B.par.C d f vs σ r σ'
theorem con (B:Base) (n d f:Nat) {vs:List AV} {σ σ':Hp} {r:AV} (s:List Sc) {P:Prop} (hp:P) (e:Runs ((B.ev n).callp d f vs s σ) r σ'=((r=r∧σ'=σ')∧P)):Con B d f vs σ r σ' :=
 (snd B.F n).callp (Runs.by' hp e).ret
theorem sI {i:Int} (h1:-1000000000≤i) (h2:i≤1000000000):some (sInt i)=some true:=by
 unfold sInt;rw [decide_eq_true h1,decide_eq_true h2];rfl
theorem dT {p:Prop} [Decidable p] (h:p):some (decide p)=some true:=by rw [decide_eq_true h]
theorem dF {p:Prop} [Decidable p] (h:¬ p):some (decide p)=some false:=by rw [decide_eq_false h]
theorem tI:some true=some true:=rfl
theorem sZ {i:Int} (h:0≤i∧i≤1000):some (sInt i)=some true:=sI (by exact aa [] [_] (.leI (.g (.k 1000000000)) J0) (.leI (.k 0) J0) [1,1] rfl h.1) (by exact aa [] [_] (.leI J0 (.k 1000000000)) (.leI J0 (.k 1000)) [1,1] rfl h.2)
section
variable {σ:Hp} {i c f:Nat} {fs:List (Nat×AV)} {xs:List AV} {v:AV} {k:Int}
theorem bh (h:σ[i]?=some (.inst c fs)) (hf:fs.lookup f=some v):attrV σ (.ref i) f=some v:=by
 show (match σ[i]? with | some (.inst _ fs)=>fs.lookup f | _=>none)=some v
 rw [h];exact hf
theorem iQ (h:σ[i]?=some (.tup xs)) (hf:idxL xs k=some v):idxV σ (.ref i) (.int k)=some v:=by
 show (match σ[i]? with | some (.list xs)=>idxL xs k | some (.tup xs)=>idxL xs k | some (.dict es)=>es.lookup k | _=>none)=some v
 rw [h];exact hf
theorem aC (h:σ[i]?=some (.list xs)) (hf:idxL xs k=some v):idxV σ (.ref i) (.int k)=some v:=by
 show (match σ[i]? with | some (.list xs)=>idxL xs k | some (.tup xs)=>idxL xs k | some (.dict es)=>es.lookup k | _=>none)=some v
 rw [h];exact hf
theorem aP {n:Nat} (h:xs[n]?=some v):idxL xs (n:Int)=some v:=by
 have hl:=(List.getElem?_eq_some_iff.mp h).1
 unfold idxL ixN
 rw [if_pos (Int.natCast_nonneg n),if_pos (Int.ofNat_lt.mpr hl),Int.toNat_natCast]
 exact h
end
noncomputable def runC:T:=.nd 40 0 .none [K (.bool true)]
noncomputable def runB:List T:=match b_Regmachine_run.body with | [_,.nd _ _ _ [_,b]]=>kids b | _=>[]
structure MP where
 tb:AV
 pt:AV
 lim:Int
 steps:Int
 b:Nat→AV
 zv:Int
 room:AV
 g:Int
 e:Int
 xs:List AV
 kept:List AV
 nm:Int
 rows:List (List AV)
noncomputable def refs10 (n:Nat):List AV:=(List.range n).map fun i=>.ref (i+10)
noncomputable def HM (P:MP) (t:Int) (mk chs chg:List AV) (X:Hp):Hp :=
 .inst 6 [(74,.ref 4),(80,.ref 1),(81,P.tb),(19,P.pt),(44,.int P.steps),(82,.int t),(83,.int P.lim),(84,.ref 5),(85,.ref 6),(86,.ref 7),(79,.ref 8)] ::
 .inst 4 [(64,P.b 64),(65,P.b 65),(4,.ref 2),(6,P.b 6),(19,P.b 19),(11,.int 1),(12,.int P.zv),(66,P.b 66),(67,P.b 67),(9,P.b 9),(68,P.b 68),(69,P.b 69),(70,P.b 70),(8,P.b 8),(16,P.b 16),(22,P.b 22),(24,P.b 24),(71,P.b 71),(72,P.b 72),(73,P.b 73)] ::
 .inst 2 [(56,P.room),(5,.ref 3),(57,.int P.g),(58,.int P.e)]::.list P.xs::.inst 11 [(7,.ref 9),(87,.int 0),(85,.int P.nm),(96,.bool false)]::.list P.kept::.list mk::.list chs::.list chg::.list (refs10 P.rows.length)::X
noncomputable def FM (pl:Int) (r:Nat) (w l c:Option AV):Fm:=[some (.ref 0),some (.int pl),some (.int r),w,l,c]
noncomputable def ConW (B:Base) (d:Nat) (c:T) (b:List T) (fr:Fm) (σ:Hp) (w:Fw) (fr':Fm) (σ':Hp):Prop:=B.par.Cw d c b fr σ w fr' σ'
theorem aQ (B:Base) (n d:Nat) (c:T) (b:List T) {fr fr':Fm} {σ σ':Hp} {w:Fw} (s:List Sc) {Q:Prop} (hp:Q) (e:Runs ((B.ev n).wl d c b fr s σ) (w,fr') σ'=(((w,fr')=(w,fr')∧σ'=σ')∧Q)):ConW B d c b fr σ w fr' σ' :=
 fun _ _ _ _=>(snd B.F n).wl (Runs.by' hp e).ret
noncomputable def RowsIn (P:MP) (X:Hp):Prop:=∀ (r:Nat) (xs:List AV),P.rows[r]?=some xs→X[r]?=some (AO.tup xs)
theorem RowsIn.more {P:MP} {X:Hp} (h:RowsIn P X) (Y:Hp):RowsIn P (X++Y):=fun r xs e=>by
 have:=h r xs e
 rw [List.getElem?_append_left (List.getElem?_eq_some_iff.mp this).1]
 exact this
theorem gI {n r:Nat} (h:r<n):(refs10 n)[r]?=some (.ref (r+10)):=by
 unfold refs10
 rw [List.getElem?_map,List.getElem?_range h];rfl
section
variable {P:MP} {t:Int} {mk chs chg:List AV} {X:Hp} {r:Nat} {xs:List AV}
theorem b9 (h:P.rows[r]?=some xs):idxV (HM P t mk chs chg X) (.ref 9) (.int r)=some (.ref (r+10)) :=
 aC (xs:=refs10 P.rows.length) rfl (aP (gI (List.getElem?_eq_some_iff.mp h).1))
theorem bo (hX:RowsIn P X) (h:P.rows[r]?=some xs) {k:Int} {v:AV} (hk:idxL xs k=some v):idxV (HM P t mk chs chg X) (.ref (r+10)) (.int k)=some v :=
 iQ (hX r xs h) hk
end
noncomputable abbrev wd (s:List Nat):AV:=.str s
noncomputable def Rn (B:Base) (d:Nat) (P:MP) (T:Int) (res:AV) (t pl:Int) (r:Nat) (mk chs chg:List AV) (X:Hp):Prop :=
 ∀ w l c,Ex6 fun fr' t' mk' chs' chg' X'=>ConW B d runC runB (FM pl r w l c) (HM P t mk chs chg X) (.ret res) fr' (HM P t' mk' chs' chg' (X++X'))∧t≤t'∧t'≤T
section
variable {B:Base} {d:Nat} {P:MP} {T:Int} {res:AV} {t pl:Int} {r:Nat} {mk chs chg:List AV} {X:Hp} {xs:List AV}
theorem Rn.jump {to:Nat} (h0:0≤t∧t<P.steps∧t<100000000) (hX:RowsIn P X) (hr:P.rows[r]?=some [.str [106,117,109,112],.int to]) (h:Rn B d P T res (t+1) pl to mk chs chg X):Rn B d P T res t pl r mk chs chg X:=fun w l c=>by
 obtain ⟨fr',t',mk',chs',chg',X',hc,h1,h2⟩:=h (some (.str [106,117,109,112])) l c
 refine ⟨fr',t',mk',chs',chg',X',?_,by exact aa [] [_,_] (.leI J0 J1) (.leI (.a J0 (.k 1)) J1) [1,1] rfl h1,h2⟩
 exact aQ B 60 d runC runB [.go 4,.b true,.go 6,.b false,.go 4,.v (.ref (r+10)),.v (.str [106,117,109,112]),.go 10,.v (.ref (r+10)),.v (.int to),.l (.ret res) fr' (HM P t' mk' chs' chg' (X++X'))]
  (I2 tI (I2 (dF (p:=t+1 > P.steps) (by exact aa [] [_,_] (.n (.ltI J0 (.a J1 (.k 1)))) (.ltI J1 J0) [1,1] rfl h0.2.1)) (I2 (b9 (t:=t+1) (mk:=mk) (chs:=chs) (chg:=chg) (X:=X) hr) (I2 (bo (t:=t+1) (mk:=mk) (chs:=chs) (chg:=chg) (k:=0) hX hr rfl)
  (I2 (b9 (t:=t+1) (mk:=mk) (chs:=chs) (chg:=chg) (X:=X) hr) (I2 (bo (t:=t+1) (mk:=mk) (chs:=chs) (chg:=chg) (k:=1) hX hr rfl) (I2 (@hc) trivial))))))) (by kernel_rfl)
end
section
variable {B:Base} {d:Nat} {P:MP} {T:Int} {res:AV} {t pl:Int} {r:Nat} {mk chs chg:List AV} {X:Hp} {xs:List AV}
noncomputable abbrev chO (a b c:AV):AO:=.inst 5 [(77,a),(78,b),(79,c)]
theorem iR {σ:Hp} {a b:AO}:(σ++[a]).set σ.length b=σ++[b]:=by
 rw [List.set_append_right _ _ (Nat.le_refl _),Nat.sub_self];rfl
theorem dj {σ:Hp} {fs:List (Nat×AV)} {c f:Nat} {v:AV} (hf:(ftab c).contains f=true) (hl:fs.length<100):attrSet (σ++[.inst c fs]) (.ref σ.length) f v=some (σ++[.inst c (putF fs f v)]):=by
 show (match (σ++[AO.inst c fs])[σ.length]? with | some (.inst c fs)=>if (ftab c).contains f∧fs.length<100 then some ((σ++[AO.inst _ _]).set σ.length (.inst c (putF fs f v))) else none | _=>none)=_
 rw [List.getElem?_concat_length]
 dsimp only
 rw [if_pos ⟨hf,hl⟩,iR]
theorem iS {σ:Hp} {a b c:AV}:Con B (d+1) 45 [.ref σ.length,a,b,c] (σ++[.inst 5 []]) .none (σ++[chO a b c]) :=
 con B 30 _ _ [.go 3,.h (σ++[.inst 5 [(77,a)]]),.go 2,.h (σ++[.inst 5 [(77,a),(78,b)]]),.go 2,.h (σ++[chO a b c])]
  (I2 (dj (σ:=σ) (c:=5) (f:=77) (v:=a) (fs:=[]) rfl (by decide)) (I2 (dj (σ:=σ) (c:=5) (f:=78) (v:=b) (fs:=[(77,a)]) rfl (by decide:1<100)) (I2 (dj (σ:=σ) (c:=5) (f:=79) (v:=c) (fs:=[(77,a),(78,b)]) rfl (by decide:2<100)) trivial))) (by kernel_rfl)
theorem nJ {v:AV} (h:chs.length<1000):lmV (HM P t mk chs chg X) (.ref 7) 0 [v]=some (.none,HM P t mk (chs++[v]) chg X):=by
 show (if chs.length<LIM then some (AV.none,HM P t mk (chs++[v]) chg X) else none)=_
 rw [if_pos (Nat.lt_of_lt_of_le h (by decide))]
theorem nK {v:AV} (h:chg.length<1000):lmV (HM P t mk chs chg X) (.ref 8) 0 [v]=some (.none,HM P t mk chs (chg++[v]) X):=by
 show (if chg.length<LIM then some (AV.none,HM P t mk chs (chg++[v]) X) else none)=_
 rw [if_pos (Nat.lt_of_lt_of_le h (by decide))]
theorem nP {v:AV}:lmV (HM P t mk (chs++[v]) chg X) (.ref 7) 1 []=some (v,HM P t mk chs chg X):=by
 show (match (chs++[v]).getLast? with | some x=>some (x,HM P t mk (chs++[v]).dropLast chg X) | none=>none)=_
 rw [List.getLast?_concat,List.dropLast_concat]
theorem nQ {v:AV}:lmV (HM P t mk chs (chg++[v]) X) (.ref 8) 1 []=some (v,HM P t mk chs chg X):=by
 show (match (chg++[v]).getLast? with | some x=>some (x,HM P t mk chs (chg++[v]).dropLast X) | none=>none)=_
 rw [List.getLast?_concat,List.dropLast_concat]
theorem Rn.split {a b:Nat} (h0:0≤t∧t<P.steps∧t<100000000) (hz:chs.length<1000) (hX:RowsIn P X) (hr:P.rows[r]?=some [.str [115,112,108,105,116],.int a,.int b])
  (h:Rn B (d+6) P T res (t+1) pl a mk (chs++[.ref (X.length+10)]) chg (X++[chO (.int b) (.int pl) (.int chg.length)])):Rn B (d+6) P T res t pl r mk chs chg X:=fun w l c=>by
 obtain ⟨fr',t',mk',chs',chg',X',hc,h1,h2⟩:=h (some (.str [115,112,108,105,116])) l c
 refine ⟨fr',t',mk',chs',chg',[chO (.int b) (.int pl) (.int chg.length)]++X',?_,by exact aa [] [_,_] (.leI J0 J1) (.leI (.a J0 (.k 1)) J1) [1,1] rfl h1,h2⟩
 rw [← List.append_assoc]
 have hX':RowsIn P (X++[chO (.int b) (.int pl) (.int chg.length)]):=hX.more _
 exact aQ B 60 _ runC runB [.go 4,.b true,.go 6,.b false,.go 4,.v (.ref (r+10)),.v (.str [115,112,108,105,116]),.go 11,.v (.ref (r+10)),.v (.int b),.go 5,.c .none (HM P (t+1) mk chs chg (X++[chO (.int b) (.int pl) (.int chg.length)])),
   .vh .none (HM P (t+1) mk (chs++[.ref (X.length+10)]) chg (X++[chO (.int b) (.int pl) (.int chg.length)])),.go 4,.v (.ref (r+10)),.v (.int a),.l (.ret res) fr' (HM P t' mk' chs' chg' (X++[chO (.int b) (.int pl) (.int chg.length)]++X'))]
  (I2 tI (I2 (dF (p:=t+1 > P.steps) (by exact aa [] [_,_] (.n (.ltI J0 (.a J1 (.k 1)))) (.ltI J1 J0) [1,1] rfl h0.2.1)) (I2 (b9 (t:=t+1) (mk:=mk) (chs:=chs) (chg:=chg) (X:=X) hr) (I2 (bo (t:=t+1) (mk:=mk) (chs:=chs) (chg:=chg) (k:=0) hX hr rfl)
  (I2 (b9 (t:=t+1) (mk:=mk) (chs:=chs) (chg:=chg) (X:=X) hr) (I2 (bo (t:=t+1) (mk:=mk) (chs:=chs) (chg:=chg) (k:=2) hX hr rfl) (I2 (iS (B:=B) (d:=d+5) (σ:=HM P (t+1) mk chs chg X) (a:=.int b) (b:=.int pl) (c:=.int chg.length))
  (I2 (nJ (P:=P) (t:=t+1) (mk:=mk) (chs:=chs) (chg:=chg) (X:=X++[chO (.int b) (.int pl) (.int chg.length)]) (v:=.ref (X.length+10)) hz)
  (I2 (b9 (t:=t+1) (mk:=mk) (chs:=chs++[.ref (X.length+10)]) (chg:=chg) (X:=X++[chO (.int b) (.int pl) (.int chg.length)]) hr) (I2 (bo (t:=t+1) (mk:=mk) (chs:=chs++[.ref (X.length+10)]) (chg:=chg) (k:=1) hX' hr rfl)
  (I2 (@hc) trivial))))))))))) (by kernel_rfl)
theorem Rn.done (h0:0≤t∧t<P.steps∧t<100000000) (ht:t+1≤T) (hX:RowsIn P X) (hr:P.rows[r]?=some [.str [100,111,110,101]]):Rn B (d+6) P T (.int pl) t pl r mk chs chg X:=fun w l c=>by
 refine ⟨FM pl r (some (.str [100,111,110,101])) l c,t+1,mk,chs,chg,[],?_,by exact ak [] [_] (.leI J0 (.a J0 (.k 1))) [1] rfl,ht⟩
 rw [List.append_nil]
 exact aQ B 60 _ runC runB [.go 4,.b true,.go 6,.b false,.go 4,.v (.ref (r+10)),.v (.str [100,111,110,101]),.go 3]
  (I2 tI (I2 (dF (p:=t+1 > P.steps) (by exact aa [] [_,_] (.n (.ltI J0 (.a J1 (.k 1)))) (.ltI J1 J0) [1,1] rfl h0.2.1)) (I2 (b9 (t:=t+1) (mk:=mk) (chs:=chs) (chg:=chg) (X:=X) hr) (I2 (bo (t:=t+1) (mk:=mk) (chs:=chs) (chg:=chg) (k:=0) hX hr rfl) trivial)))) (by kernel_rfl)
theorem Rn.progress {m:Int} {to:Nat} (h0:0≤t∧t<P.steps∧t<100000000) (hX:RowsIn P X) (hr:P.rows[r]?=some [.str [112,114,111,103,114,101,115,115],.int 0,.int to]) (hm:m<pl) (hR:r<1000)
  (h:Rn B (d+6) P T res (t+1) pl (r+1) [.int m] chs chg X):Rn B (d+6) P T res t pl r [.int m] chs chg X:=fun w l c=>by
 obtain ⟨fr',t',mk',chs',chg',X',hc,h1,h2⟩:=h (some (.str [112,114,111,103,114,101,115,115])) l c
 refine ⟨fr',t',mk',chs',chg',X',?_,by exact aa [] [_,_] (.leI J0 J1) (.leI (.a J0 (.k 1)) J1) [1,1] rfl h1,h2⟩
 exact aQ B 60 _ runC runB [.go 4,.b true,.go 6,.b false,.go 4,.v (.ref (r+10)),.v (.str [112,114,111,103,114,101,115,115]),.go 14,.v (.ref (r+10)),.v (.int 0),.go 2,.b true,.go 1,.b true,.l (.ret res) fr' (HM P t' mk' chs' chg' (X++X'))]
  (I2 tI (I2 (dF (p:=t+1 > P.steps) (by exact aa [] [_,_] (.n (.ltI J0 (.a J1 (.k 1)))) (.ltI J1 J0) [1,1] rfl h0.2.1)) (I2 (b9 (t:=t+1) (mk:=[.int m]) (chs:=chs) (chg:=chg) (X:=X) hr) (I2 (bo (t:=t+1) (mk:=[.int m]) (chs:=chs) (chg:=chg) (k:=0) hX hr rfl)
  (I2 (b9 (t:=t+1) (mk:=[.int m]) (chs:=chs) (chg:=chg) (X:=X) hr) (I2 (bo (t:=t+1) (mk:=[.int m]) (chs:=chs) (chg:=chg) (k:=1) hX hr rfl) (I2 (dT (p:=m<pl) hm) (I2 tI (I2 (@hc) trivial))))))))) (by kernel_rfl)
end
structure Gap (L:List Int) (g e:Int) (xs:List AV):Prop where
 ex:∃ A J C:List Int,L=A++C∧xs=(A++J++C).map .int∧g=A.length∧e=A.length+J.length
 lim:xs.length≤5000
theorem Gap.low {L:List Int} {g e:Int} {xs:List AV} (G:Gap L g e xs) {i:Nat} (hi:(i:Int)<g):(L[i]?).map AV.int=xs[i]?:=by
 obtain ⟨A,J,C,rfl,rfl,rfl,rfl⟩:=G.ex
 have hi:i<A.length:=Int.ofNat_lt.mp hi
 rw [List.getElem?_map,List.append_assoc,List.getElem?_append_left hi,List.getElem?_append_left hi]
theorem Gap.high {L:List Int} {g e:Int} {xs:List AV} (G:Gap L g e xs) {i:Nat} (hi:g≤(i:Int)):(L[i]?).map AV.int=xs[((i:Int) - g+e).toNat]?:=by
 obtain ⟨A,J,C,rfl,rfl,rfl,rfl⟩:=G.ex
 have hi:A.length≤i:=Int.ofNat_le.mp hi
 have e1:((i:Int) - A.length+(A.length+J.length)).toNat=i+J.length:=by omega
 rw [e1,List.getElem?_map,List.getElem?_append_right hi,List.getElem?_append_right (by rw [List.length_append];exact aa [_,_,_] [] (.leN (.a N0 N1) (.a N2 N1)) (.leI (.c N0) (.c N2)) [1,1] rfl (by assumption))]
 congr 2
 rw [List.length_append];exact bp [_,_,_,_,_] [] (.eqN N0 N1) (.leN N2 (.a N0 N3)) (.leN (.a N2 N4) (.a N1 (.a N3 N4))) (.eqN (.a N0 N3) N2) (.eqN (.a N1 (.a N3 N4)) (.a N2 N4)) [1,0,1,1,0] [1,1,0,0,1] rfl (af _ _) (af _ _) (ab (hi)) (ab (aa [_,_,_] [] (.leN (.a N0 N1) (.a N2 N1)) (.leI (.c N0) (.c N2)) [1,1] rfl (by assumption)))
theorem Gap.bounds {L:List Int} {g e:Int} {xs:List AV} (G:Gap L g e xs):0≤g∧g≤L.length∧g≤e∧e - g+L.length=xs.length∧(xs.length:Int)≤5000:=by
 have h5:=G.lim
 obtain ⟨A,J,C,rfl,rfl,rfl,rfl⟩:=G.ex
 simp only [List.length_map,List.length_append] at h5 ⊢
 omega
section
variable {B:Base} {d:Nat} {σ:Hp} {i c:Nat} {room:AV} {g e at_:Int} {xs:List AV} {L:List Int} {v:Int}
noncomputable abbrev gapO (room:AV) (c:Nat) (g e:Int):AO:=.inst 2 [(56,room),(5,.ref c),(57,.int g),(58,.int e)]
theorem lG (hi:σ[i]?=some (gapO room c g e)) (hc:σ[c]?=some (.list xs)) (G:Gap L g e xs) {n:Nat} (hv:L[n]?=some v):Con B (d+1) 26 [.ref i,.int n] σ (.int v) σ:=by
 obtain ⟨b1,b2,b3,b4,b5⟩:=G.bounds
 have hn:n<L.length:=(List.getElem?_eq_some_iff.mp hv).1
 by_cases h:(n:Int)<g
 ·have hx:xs[n]?=some (.int v):=by rw [← G.low h,hv];rfl
  exact con B 30 _ _ [.go 3,.v (.int g),.b true,.go 1,.v (.ref c),.go 1,.v (.int v)]
   (I2 (bh (f:=57) hi rfl) (I2 (dT (p:=(n:Int)<g) h) (I2 (bh (f:=5) hi rfl) (I2 (aC hc (aP hx)) trivial)))) (by kernel_rfl)
 ·have hx:xs[((n:Int) - g+e).toNat]?=some (.int v):=by rw [← G.high (by exact aa [_] [_] (.leI J0 (.c N0)) (.n (.ltI (.c N0) J0)) [1,1] rfl h),hv];rfl
  have hx:idxL xs ((n:Int) - g+e)=some (.int v):=by
   have:=aP hx
   rwa [Int.toNat_of_nonneg (by exact aa [_] [_,_] (.leI (.k 0) (.a (.s (.c N0) J0) J1)) (.leI J0 J1) [1,1] rfl b3)] at this
  exact con B 30 _ _ [.go 3,.v (.int g),.b false,.go 1,.v (.ref c),.go 2,.v (.int g),.b true,.go 1,.v (.int e),.b true,.v (.int v)]
   (I2 (bh (f:=57) hi rfl) (I2 (dF (p:=(n:Int)<g) h) (I2 (bh (f:=5) hi rfl) (I2 (bh (f:=57) hi rfl) (I2 tI (I2 (bh (f:=58) hi rfl) (I2 tI (I2 (aC hc hx) trivial)))))))) (by kernel_rfl)
end
structure MP.Ok (P:MP) (L:List Int):Prop where
 gap:Gap L P.g P.e P.xs
 zv:P.zv=L.length+1
section
variable {B:Base} {d:Nat} {P:MP} {L:List Int} {t pl:Int} {mk chs chg:List AV} {X:Hp} {v c:Int} {r n:Nat}
theorem eI (O:P.Ok L) (hv:L[n]?=some v):Con B (d+2) 41 [.ref 1,.int (n+1)] (HM P t mk chs chg X) (.int v) (HM P t mk chs chg X):=by
 have hn:n<L.length:=(List.getElem?_eq_some_iff.mp hv).1
 have hz:=O.zv
 have hb:=O.gap.bounds
 have e:((n:Int)+1 - 1)=n:=by exact au [_] [] (.eqI (.s (.a (.c N0) (.k 1)) (.k 1)) (.c N0)) [1] [1] rfl
 have hc:Con B (d+1) 26 [.ref 2,.int ((n:Int)+1 - 1)] (HM P t mk chs chg X) (.int v) (HM P t mk chs chg X):=by
  rw [e];exact lG (room:=P.room) (i:=2) (c:=3) (g:=P.g) (e:=P.e) (xs:=P.xs) rfl rfl O.gap hv
 exact con B 40 _ _ [.go 4,.b false,.go 3,.b false,.go 4,.b true,.go 1,.c (.int v) (HM P t mk chs chg X)]
  (I2 (dF (p:=(n:Int)+1<1) (by exact ak [_] [] (.n (.ltI (.a (.c N0) (.k 1)) (.k 1))) [1] rfl)) (I2 (dF (p:=(n:Int)+1 ≥ P.zv) (by exact ag [_,_] [_] (.n (.leI J0 (.a (.c N0) (.k 1)))) (.ltN N0 N1) (.eqI J0 (.a (.c N1) (.k 1))) [1,1,-1] rfl hn hz)) (I2 tI (I2 hc trivial)))) (by kernel_rfl)
noncomputable def kinds:AO:=.tup [.str [99,104,97,114],.str [97,110,121],.str [115,101,116],.str [115,121,110,116,97,120]]
theorem iT {o:AO}:(HM P t mk chs chg (X++[o]))[X.length+10]?=some o:=by
 show (X++[o])[X.length]?=some o
 exact List.getElem?_concat_length
theorem cO {w:List Nat} {b:Bool} (h:([[99,104,97,114],[97,110,121],[115,101,116],[115,121,110,116,97,120]]:List (List Nat)).contains w=b):cmpV (HM P t mk chs chg (X++[kinds])) 8 (.str w) (.ref (X.length+10))=some b:=by
 show (match (HM P t mk chs chg (X++[kinds]))[X.length+10]? with | some (.tup xs)=>(strsV xs).map (·.contains w) | _=>none)=some b
 rw [iT]
 exact congrArg some h
theorem d4 (O:P.Ok L) (hX:RowsIn P X) (hr:P.rows[r]?=some [.str [99,104,97,114],.int c]) (hv:L[n]?=some v) (hl:(n:Int)+1<P.lim) (hc:c=v) (hn:n<5000) :
  Con B (d+3) 53 [.ref 0,.ref (r+10),.int (n+1)] (HM P t mk chs chg X) (.int (n+1+1)) (HM P t mk chs chg (X++[kinds])):=by
 have hX':=hX.more [kinds]
 exact con B 50 _ _ [.go 2,.v (.str [99,104,97,114]),.go 2,.b true,.go 3,.b true,.go 8,.c (.int v) (HM P t mk chs chg (X++[kinds])),.go 3,.v (.str [99,104,97,114]),.go 3,.v (.int c),.go 5,.b true,.go 2,.b true]
  (I2 (bo (t:=t) (mk:=mk) (chs:=chs) (chg:=chg) (k:=0) hX hr rfl) (I2 (cO (P:=P) (t:=t) (mk:=mk) (chs:=chs) (chg:=chg) (X:=X) (w:=[99,104,97,114]) (b:=true) rfl) (I2 (dT (p:=(n:Int)+1<P.lim) hl) (I2 (eI (B:=B) (d:=d) (t:=t) (mk:=mk) (chs:=chs) (chg:=chg) (X:=X++[kinds]) O hv)
  (I2 (bo (t:=t) (mk:=mk) (chs:=chs) (chg:=chg) (k:=0) hX' hr rfl) (I2 (bo (t:=t) (mk:=mk) (chs:=chs) (chg:=chg) (k:=1) hX' hr rfl) (I2 (dT (p:=c=v) hc) (I2 tI trivial)))))))) (by kernel_rfl)
theorem jX (O:P.Ok L) (hX:RowsIn P X) (hr:P.rows[r]?=some [.str [99,104,97,114],.int c]) (hv:L[n]?=some v) (hl:(n:Int)+1<P.lim) (hc:c≠v) :
  Con B (d+3) 53 [.ref 0,.ref (r+10),.int (n+1)] (HM P t mk chs chg X) .none (HM P t mk chs chg (X++[kinds])):=by
 have hX':=hX.more [kinds]
 exact con B 50 _ _ [.go 2,.v (.str [99,104,97,114]),.go 2,.b true,.go 3,.b true,.go 8,.c (.int v) (HM P t mk chs chg (X++[kinds])),.go 3,.v (.str [99,104,97,114]),.go 3,.v (.int c),.go 5,.b false,.go 2]
  (I2 (bo (t:=t) (mk:=mk) (chs:=chs) (chg:=chg) (k:=0) hX hr rfl) (I2 (cO (P:=P) (t:=t) (mk:=mk) (chs:=chs) (chg:=chg) (X:=X) (w:=[99,104,97,114]) (b:=true) rfl) (I2 (dT (p:=(n:Int)+1<P.lim) hl) (I2 (eI (B:=B) (d:=d) (t:=t) (mk:=mk) (chs:=chs) (chg:=chg) (X:=X++[kinds]) O hv)
  (I2 (bo (t:=t) (mk:=mk) (chs:=chs) (chg:=chg) (k:=0) hX' hr rfl) (I2 (bo (t:=t) (mk:=mk) (chs:=chs) (chg:=chg) (k:=1) hX' hr rfl) (I2 (dF (p:=c=v) hc) trivial))))))) (by kernel_rfl)
theorem jY (hX:RowsIn P X) (hr:P.rows[r]?=some [.str [99,104,97,114],.int c]) (hl:¬ pl<P.lim) :
  Con B (d+3) 53 [.ref 0,.ref (r+10),.int pl] (HM P t mk chs chg X) .none (HM P t mk chs chg (X++[kinds])) :=
 con B 50 _ _ [.go 2,.v (.str [99,104,97,114]),.go 2,.b true,.go 3,.b false]
  (I2 (bo (t:=t) (mk:=mk) (chs:=chs) (chg:=chg) (k:=0) hX hr rfl) (I2 (cO (P:=P) (t:=t) (mk:=mk) (chs:=chs) (chg:=chg) (X:=X) (w:=[99,104,97,114]) (b:=true) rfl) (I2 (dF (p:=pl<P.lim) hl) trivial))) (by kernel_rfl)
end
section
variable {B:Base} {d:Nat} {P:MP} {T:Int} {res:AV} {t pl m:Int} {r n k:Nat} {mk chs chg mk' chg':List AV} {X Y Z:Hp} {xs args:List AV} {w0:List Nat}
noncomputable abbrev chgO (m:Int):AO:=.tup [.ref 6,.int 0,.int m]
theorem lI (hX:RowsIn P X) (hr:P.rows[r]?=some [.str [109,97,114,107],.int 0]) (hz:chg.length<1000) :
  Con B (d+3) 53 [.ref 0,.ref (r+10),.int pl] (HM P t [.int m] chs chg X) (.int pl) (HM P t [.int pl] chs (chg++[.ref ((X++[kinds]).length+10)]) (X++[kinds]++[chgO m])):=by
 have hX':=hX.more [kinds]
 exact con B 50 _ _ [.go 2,.v (.str [109,97,114,107]),.go 2,.b false,.go 11,.v (.int 0),.go 12,.vh .none (HM P t [.int m] chs (chg++[.ref ((X++[kinds]).length+10)]) (X++[kinds]++[chgO m])),.go 5]
  (I2 (bo (t:=t) (mk:=[.int m]) (chs:=chs) (chg:=chg) (k:=0) hX hr rfl) (I2 (cO (P:=P) (t:=t) (mk:=[.int m]) (chs:=chs) (chg:=chg) (X:=X) (w:=[109,97,114,107]) (b:=false) rfl) (I2 (bo (t:=t) (mk:=[.int m]) (chs:=chs) (chg:=chg) (k:=1) hX' hr rfl)
  (I2 (nK (P:=P) (t:=t) (mk:=[.int m]) (chs:=chs) (chg:=chg) (X:=X++[kinds]++[chgO m]) (v:=.ref ((X++[kinds]).length+10)) hz) trivial)))) (by kernel_rfl)
theorem fS (hn:chg.length=n):Con B (d+1) 51 [.ref 0,.int n] (HM P t mk chs chg X) .none (HM P t mk chs chg X) :=
 con B 50 _ _ [.go 6,.b false] (I2 (dF (p:=(chg.length:Int) > n) (by exact aa [_,_] [] (.n (.ltI (.c N0) (.c N1))) (.eqN N1 N0) [1,1] rfl hn)) trivial) (by kernel_rfl)
theorem fU (hn:chg.length=n) (hk:X[k]?=some (chgO m)):Con B (d+1) 51 [.ref 0,.int n] (HM P t [.int pl] chs (chg++[.ref (k+10)]) X) .none (HM P t [.int m] chs chg X):=by
 have hk':(HM P t [.int pl] chs chg X)[k+10]?=some (chgO m):=hk
 exact con B 50 _ _ [.go 6,.b true,.go 3,.vh (.ref (k+10)) (HM P t [.int pl] chs chg X),.o (chgO m),.go 9,.b false]
  (I2 (dT (p:=((chg++[AV.ref (k+10)]).length:Int) > n) (by rw [List.length_append];simp;exact aa [_,_] [] (.ltI (.c N0) (.a (.c N1) (.k 1))) (.eqN N1 N0) [1,-1] rfl hn)) (I2 (nQ (P:=P) (t:=t) (mk:=[.int pl]) (chs:=chs) (chg:=chg) (X:=X) (v:=.ref (k+10))) (I2 hk' (I2 (dF (p:=(chg.length:Int) > n) (by exact aa [_,_] [] (.n (.ltI (.c N0) (.c N1))) (.eqN N1 N0) [1,1] rfl hn)) trivial)))) (by kernel_rfl)
theorem lJ {a:AV} (hX:RowsIn P X) (h:P.rows[r]?=some (a::args)):idxV (HM P t mk chs chg X) (.ref (r+10)) (.int 0)=some a :=
 bo hX h (aP (n:=0) rfl)
noncomputable def NoStep (w:List Nat):Prop:=w≠[100,111,110,101]∧w≠[115,112,108,105,116]∧w≠[106,117,109,112]∧w≠[112,114,111,103,114,101,115,115]
theorem Rn.took {pl':Int} (h0:0≤t∧t<P.steps∧t<100000000) (hX:RowsIn P X) (hr:P.rows[r]?=some (.str w0::args)) (hw:NoStep w0) (hR:r<1000)
  (hA:Con B (d+6) 53 [.ref 0,.ref (r+10),.int pl] (HM P (t+1) mk chs chg X) (.int pl') (HM P (t+1) mk' chs chg' (X++Y)))
  (h:Rn B (d+6) P T res (t+1) pl' (r+1) mk' chs chg' (X++Y++[.tup [.int pl',.int (r+1)]])):Rn B (d+6) P T res t pl r mk chs chg X:=fun w l c=>by
 obtain ⟨fr',t',mk2,chs2,chg2,X',hc,h1,h2⟩:=h (some (.str w0)) (some (.int pl')) c
 refine ⟨fr',t',mk2,chs2,chg2,Y++([.tup [.int pl',.int (r+1)]]++X'),?_,by exact aa [] [_,_] (.leI J0 J1) (.leI (.a J0 (.k 1)) J1) [1,1] rfl h1,h2⟩
 have e:X++(Y++([.tup [.int pl',.int (r+1)]]++X'))=X++Y++[.tup [.int pl',.int (r+1)]]++X':=by rw [List.append_assoc,List.append_assoc]
 rw [e]
 exact aQ B 60 _ runC runB [.go 4,.b true,.go 6,.b false,.go 4,.v (.ref (r+10)),.v (.str w0),.go 1,.b false,.go 1,.b false,.go 1,.b false,.go 1,.b false,.go 6,.v (.ref (r+10)),.go 2,.c (.int pl') (HM P (t+1) mk' chs chg' (X++Y)),.go 4,.b true,.l (.ret res) fr' (HM P t' mk2 chs2 chg2 (X++Y++[.tup [.int pl',.int (r+1)]]++X'))]
  (I2 tI (I2 (dF (p:=t+1 > P.steps) (by exact aa [] [_,_] (.n (.ltI J0 (.a J1 (.k 1)))) (.ltI J1 J0) [1,1] rfl h0.2.1)) (I2 (b9 (t:=t+1) (mk:=mk) (chs:=chs) (chg:=chg) (X:=X) hr) (I2 (lJ (t:=t+1) (mk:=mk) (chs:=chs) (chg:=chg) hX hr)
  (I2 (dF hw.1) (I2 (dF hw.2.1) (I2 (dF hw.2.2.1) (I2 (dF hw.2.2.2) (I2 (b9 (t:=t+1) (mk:=mk) (chs:=chs) (chg:=chg) (X:=X) hr) (I2 hA (I2 tI (I2 hc trivial)))))))))))) (by kernel_rfl)
theorem eq7 {b:Bool} (h:chs.isEmpty=b):cmpV (HM P t mk chs chg (X++[.list []])) 0 (.ref 7) (.ref (X.length+10))=some b:=by
 show (match listAt (HM P t mk chs chg (X++[.list []])) (X.length+10) with | some ys=>eqL chs ys | none=>none)=some b
 have:listAt (HM P t mk chs chg (X++[.list []])) (X.length+10)=some []:=by unfold listAt;rw [iT]
 rw [this]
 subst h
 cases chs <;> rfl
theorem Rn.fail (h0:0≤t∧t<P.steps∧t<100000000) (hT:t+1≤T) (hX:RowsIn P X) (hr:P.rows[r]?=some (.str w0::args)) (hw:NoStep w0)
  (hA:Con B (d+6) 53 [.ref 0,.ref (r+10),.int pl] (HM P (t+1) mk [] chg X) .none (HM P (t+1) mk' [] chg' (X++Y))):Rn B (d+6) P T .none t pl r mk [] chg X:=fun w l c=>by
 refine ⟨FM pl r (some (.str w0)) (some .none) c,t+1,mk',[],chg',Y++[.list []],?_,by exact ak [] [_] (.leI J0 (.a J0 (.k 1))) [1] rfl,hT⟩
 rw [← List.append_assoc]
 exact aQ B 60 _ runC runB [.go 4,.b true,.go 6,.b false,.go 4,.v (.ref (r+10)),.v (.str w0),.go 1,.b false,.go 1,.b false,.go 1,.b false,.go 1,.b false,.go 6,.v (.ref (r+10)),.go 2,.c .none (HM P (t+1) mk' [] chg' (X++Y)),.go 5,.b true]
  (I2 tI (I2 (dF (p:=t+1 > P.steps) (by exact aa [] [_,_] (.n (.ltI J0 (.a J1 (.k 1)))) (.ltI J1 J0) [1,1] rfl h0.2.1)) (I2 (b9 (t:=t+1) (mk:=mk) (chs:=[]) (chg:=chg) (X:=X) hr) (I2 (lJ (t:=t+1) (mk:=mk) (chs:=[]) (chg:=chg) hX hr)
  (I2 (dF hw.1) (I2 (dF hw.2.1) (I2 (dF hw.2.2.1) (I2 (dF hw.2.2.2) (I2 (b9 (t:=t+1) (mk:=mk) (chs:=[]) (chg:=chg) (X:=X) hr) (I2 hA (I2 (eq7 (P:=P) (t:=t+1) (mk:=mk') (chs:=[]) (chg:=chg') (X:=X++Y) (b:=true) rfl) trivial))))))))))) (by kernel_rfl)
theorem Rn.back {pl2:Int} {r2 j:Nat} {mk2 chg2:List AV} (h0:0≤t∧t<P.steps∧t<100000000) (hX:RowsIn P X) (hr:P.rows[r]?=some (.str w0::args)) (hw:NoStep w0)
  (hA:Con B (d+6) 53 [.ref 0,.ref (r+10),.int pl] (HM P (t+1) mk (chs++[.ref (j+10)]) chg X) .none (HM P (t+1) mk' (chs++[.ref (j+10)]) chg' (X++Y)))
  (hj:X[j]?=some (chO (.int r2) (.int pl2) (.int n))) (hB:Con B (d+6) 51 [.ref 0,.int n] (HM P (t+1) mk' chs chg' (X++Y++[.list []])) .none (HM P (t+1) mk2 chs chg2 (X++Y++[.list []])))
  (h:Rn B (d+6) P T res (t+1) pl2 r2 mk2 chs chg2 (X++Y++[.list []]++[.tup [.int pl2,.int r2]])):Rn B (d+6) P T res t pl r mk (chs++[.ref (j+10)]) chg X:=fun w l c=>by
 obtain ⟨fr',t',mk3,chs3,chg3,X',hc,h1,h2⟩:=h (some (.str w0)) (some .none) (some (.ref (j+10)))
 refine ⟨fr',t',mk3,chs3,chg3,Y++([.list []]++([.tup [.int pl2,.int r2]]++X')),?_,by exact aa [] [_,_] (.leI J0 J1) (.leI (.a J0 (.k 1)) J1) [1,1] rfl h1,h2⟩
 have e:X++(Y++([.list []]++([.tup [.int pl2,.int r2]]++X')))=X++Y++[.list []]++[.tup [.int pl2,.int r2]]++X':=by rw [List.append_assoc,List.append_assoc,List.append_assoc]
 rw [e]
 have hjl:=(List.getElem?_eq_some_iff.mp hj).1
 have hj2:(X++Y++[.list []])[j]?=some (chO (.int r2) (.int pl2) (.int n)):=by rw [List.append_assoc,List.getElem?_append_left hjl];exact hj
 have hj3:∀ mk chg,(HM P (t+1) mk chs chg (X++Y++[.list []]))[j+10]?=some (chO (.int r2) (.int pl2) (.int n)):=fun z9 z8=>hj2
 exact aQ B 60 _ runC runB [.go 4,.b true,.go 6,.b false,.go 4,.v (.ref (r+10)),.v (.str w0),.go 1,.b false,.go 1,.b false,.go 1,.b false,.go 1,.b false,.go 6,.v (.ref (r+10)),.go 2,.c .none (HM P (t+1) mk' (chs++[.ref (j+10)]) chg' (X++Y)),.go 5,.b false,.go 3,.vh (.ref (j+10)) (HM P (t+1) mk' chs chg' (X++Y++[.list []])),.go 3,.v (.int n),.go 1,
   .c .none (HM P (t+1) mk2 chs chg2 (X++Y++[.list []])),.go 1,.v (.int pl2),.go 1,.v (.int r2),.l (.ret res) fr' (HM P t' mk3 chs3 chg3 (X++Y++[.list []]++[.tup [.int pl2,.int r2]]++X'))]
  (I2 tI (I2 (dF (p:=t+1 > P.steps) (by exact aa [] [_,_] (.n (.ltI J0 (.a J1 (.k 1)))) (.ltI J1 J0) [1,1] rfl h0.2.1)) (I2 (b9 (t:=t+1) (mk:=mk) (chs:=chs++[.ref (j+10)]) (chg:=chg) (X:=X) hr) (I2 (lJ (t:=t+1) (mk:=mk) (chs:=chs++[.ref (j+10)]) (chg:=chg) hX hr)
  (I2 (dF hw.1) (I2 (dF hw.2.1) (I2 (dF hw.2.2.1) (I2 (dF hw.2.2.2) (I2 (b9 (t:=t+1) (mk:=mk) (chs:=chs++[.ref (j+10)]) (chg:=chg) (X:=X) hr) (I2 hA (I2 (eq7 (P:=P) (t:=t+1) (mk:=mk') (chs:=chs++[.ref (j+10)]) (chg:=chg') (X:=X++Y) (b:=false) (by simp))
  (I2 (nP (P:=P) (t:=t+1) (mk:=mk') (chs:=chs) (chg:=chg') (X:=X++Y++[.list []]) (v:=.ref (j+10))) (I2 (bh (f:=79) (hj3 mk' chg') rfl) (I2 hB (I2 (bh (f:=78) (hj3 mk2 chg2) rfl)
  (I2 (bh (f:=77) (hj3 mk2 chg2) rfl) (I2 hc trivial))))))))))))))))) (by kernel_rfl)
end
inductive Stk (n row:Nat) (X:Hp):Nat→List AV→List AV→Prop
 | nil:Stk n row X 0 [] []
 | snoc {q j c:Nat} {chs chg:List AV} {m:Int}:Stk n row X q chs chg→X[j]?=some (chO (.int row) (.int (((n+q:Nat):Int)+1)) (.int q))→X[c]?=some (chgO m)→Stk n row X (q+1) (chs++[.ref (j+10)]) (chg++[.ref (c+10)])
theorem aG {X:Hp} {j:Nat} {o:AO} (h:X[j]?=some o) (Y:Hp):(X++Y)[j]?=some o:=by
 rw [List.getElem?_append_left (List.getElem?_eq_some_iff.mp h).1];exact h
theorem Stk.more {n row q:Nat} {X:Hp} {chs chg:List AV} (h:Stk n row X q chs chg) (Y:Hp):Stk n row (X++Y) q chs chg:=by
 induction h with
 | nil=>exact .nil
 | snoc _ a b ih=>exact .snoc ih (aG a Y) (aG b Y)
theorem Stk.len {n row q:Nat} {X:Hp} {chs chg:List AV} (h:Stk n row X q chs chg):chs.length=q∧chg.length=q:=by
 induction h with
 | nil=>exact ⟨rfl,rfl⟩
 | snoc _ _ _ ih=>rw [List.length_append,List.length_append,ih.1,ih.2];exact ⟨rfl,rfl⟩
section
variable {B:Base} {d:Nat} {P:MP} {L:List Int} {T:Int} {res:AV} {t m:Int} {n k q row:Nat} {chs chg:List AV} {X:Hp} {c:Int}
theorem aS:NoStep [99,104,97,114]:=by unfold NoStep;decide
theorem iU:NoStep [109,97,114,107]:=by unfold NoStep;decide
theorem eJ {r:Nat} {mk:List AV} (O:P.Ok L) (hl:P.lim=L.length+1) (hX:RowsIn P X) (hr:P.rows[r]?=some [.str [99,104,97,114],.int c]) (hn:n≤L.length) (hv:L[n]?≠some c) :
  Con B (d+3) 53 [.ref 0,.ref (r+10),.int (n+1)] (HM P t mk chs chg X) .none (HM P t mk chs chg (X++[kinds])):=by
 have hb:=O.gap.bounds
 cases h:L[n]? with
 | some v =>
  have hlt:=(List.getElem?_eq_some_iff.mp h).1
  exact jX O hX hr h (by exact ag [_,_] [_] (.ltI (.a (.c N0) (.k 1)) J0) (.eqI J0 (.a (.c N1) (.k 1))) (.ltN N0 N1) [1,-1,1] rfl hl hlt) (fun e=>hv (by rw [h,e]))
 | none =>
  have:=List.getElem?_eq_none_iff.mp h
  exact jY hX hr (by exact ag [_,_] [_] (.n (.ltI (.a (.c N0) (.k 1)) J0)) (.eqI J0 (.a (.c N1) (.k 1))) (.leN N1 N0) [1,1,1] rfl hl this)
theorem iV (O:P.Ok L) (hl:P.lim=L.length+1) (hr:P.rows[row]?=some [.str [99,104,97,114],.int c]) (hrow:row<1000) (hq:∀ i,i<q→L[n+i]?≠some c) (hk:n+q≤L.length) :
  ∀ {t m:Int} {pl:Nat} {chs chg:List AV} {X:Hp},RowsIn P X→Stk n row X q chs chg→pl≤L.length→L[pl]?≠some c→0≤t→t+q+1≤T→T≤P.steps→T<100000000→Rn B (d+6) P T .none t (pl+1) row [.int m] chs chg X:=by
 induction q with
 | zero =>
  intro t m pl chs chg X hX hs hp hv h1 h2 h3 h4
  cases hs
  exact Rn.fail (Y:=[kinds]) (by exact I2 (h1) (I2 (ag [] [_,_,_] (.ltI J0 J1) (.leI (.a (.a J0 (.c (.k 0))) (.k 1)) J2) (.leI J2 J1) [1,1,1] rfl h2 h3) (ag [] [_,_] (.ltI J0 (.k 100000000)) (.leI (.a (.a J0 (.c (.k 0))) (.k 1)) J1) (.ltI J1 (.k 100000000)) [1,1,1] rfl h2 h4))) (by exact aa [] [_,_] (.leI (.a J0 (.k 1)) J1) (.leI (.a (.a J0 (.c (.k 0))) (.k 1)) J1) [1,1] rfl h2) hX hr aS (eJ O hl hX hr hp hv)
 | succ q ih =>
  intro t m pl chs chg X hX hs hp hv h1 h2 h3 h4
  cases hs with
  | @snoc _ j cc chs chg m0 hs hj hc =>
  refine Rn.back (Y:=[kinds]) (mk2:=[.int m0]) (chg2:=chg) (r2:=row) (pl2:=((n+q:Nat):Int)+1) (n:=q) (by exact I2 (h1) (I2 (ag [_] [_,_,_] (.ltI J0 J1) (.leI (.a (.a J0 (.c (.a N0 (.k 1)))) (.k 1)) J2) (.leI J2 J1) [1,1,1] rfl h2 h3) (ag [_] [_,_] (.ltI J0 (.k 100000000)) (.leI (.a (.a J0 (.c (.a N0 (.k 1)))) (.k 1)) J1) (.ltI J1 (.k 100000000)) [1,1,1] rfl h2 h4))) hX hr aS (eJ O hl hX hr hp hv) hj (fU hs.len.2 (aG (aG hc _) _)) ?_
  exact ih (fun i hi=>hq i (Nat.lt_succ_of_lt hi)) (by exact aa [_,_,_] [] (.leN (.a N0 N1) N2) (.leN (.a N0 (.a N1 (.k 1))) N2) [1,1] rfl hk) (((hX.more _).more _).more _) (((hs.more _).more _).more _) (by exact aa [_,_,_] [] (.leN (.a N0 N1) N2) (.leN (.a N0 (.a N1 (.k 1))) N2) [1,1] rfl hk) (hq q (Nat.lt_succ_self q)) (by exact aa [] [_] (.leI (.k 0) (.a J0 (.k 1))) (.leI (.k 0) J0) [1,1] rfl h1) (by exact aa [_] [_,_] (.leI (.a (.a (.a J0 (.k 1)) (.c N0)) (.k 1)) J1) (.leI (.a (.a J0 (.c (.a N0 (.k 1)))) (.k 1)) J1) [1,1] rfl h2) h3 h4
structure LapAt (P:MP) (b:Nat) (c:Int):Prop where
 h0:P.rows[b]?=some [.str [115,112,108,105,116],.int (b+1:Nat),.int (b+5:Nat)]
 h1:P.rows[b+1]?=some [.str [109,97,114,107],.int 0]
 h2:P.rows[b+2]?=some [.str [99,104,97,114],.int c]
 h3:P.rows[b+3]?=some [.str [112,114,111,103,114,101,115,115],.int 0,.int (b+5:Nat)]
 h4:P.rows[b+4]?=some [.str [106,117,109,112],.int b]
 hb:b<900
theorem fV {r:Nat} {pl:Int} (hX:RowsIn P X) (hr:P.rows[r]?=some [.str [109,97,114,107],.int 0]) (hz:chg.length<1000) :
  Con B (d+3) 53 [.ref 0,.ref (r+10),.int pl] (HM P t [.int m] chs chg X) (.int pl) (HM P t [.int pl] chs (chg++[.ref ((X++[kinds]).length+10)]) (X++[kinds,chgO m])):=by
 have:=lI (B:=B) (d:=d) (t:=t) (pl:=pl) (m:=m) (chs:=chs) hX hr hz
 rwa [List.append_assoc] at this
theorem nR {b:Nat} (A:LapAt P b c) (O:P.Ok L) (hl:P.lim=L.length+1) (hrun:∀ i,i<k→L[n+i]?=some c) (hend:L[n+k]?≠some c) (hk:n+k≤L.length) (hk2:k<900) (h3:T≤P.steps) (h4:T<100000000) {t0:Int}
  (fin:∀ {t m:Int} {chs chg:List AV} {X:Hp},RowsIn P X→Stk n (b+5) X k chs chg→0≤t→t≤t0→Rn B (d+6) P T res t (((n+k:Nat):Int)+1) (b+5) [.int m] chs chg X) (hT:t0≤T) :
  ∀ {j i:Nat},i+j=k→∀ {t m:Int} {chs chg:List AV} {X:Hp},RowsIn P X→Stk n (b+5) X i chs chg→0≤t→t+5 * j+3≤t0→Rn B (d+6) P T res t (((n+i:Nat):Int)+1) b [.int m] chs chg X:=by
 have hb:=A.hb
 have hg:=O.gap.bounds
 intro j
 induction j with
 | zero =>
  intro i hij t m chs chg X hX hs h1 h2
  obtain rfl:i=k:=by exact aK [_,_] [] (.eqN N0 N1) (.eqN (.a N0 (.k 0)) N1) [1,1] [1,-1] rfl hij
  refine Rn.split (a:=b+1) (b:=b+5) (by exact I2 (h1) (I2 (aq [] [_,_,_,_] (.ltI J0 J1) (.leI J2 J1) (.leI J3 J2) (.leI (.a (.a J0 (.m 5 (.c (.k 0)))) (.k 3)) J3) [1,1,1,1] rfl h3 hT h2) (aq [] [_,_,_] (.ltI J0 (.k 100000000)) (.ltI J1 (.k 100000000)) (.leI J2 J1) (.leI (.a (.a J0 (.m 5 (.c (.k 0)))) (.k 3)) J2) [1,1,1,1] rfl h4 hT h2))) (by rw [hs.len.1];exact aa [_] [] (.ltN N0 (.k 1000)) (.ltN N0 (.k 900)) [1,1] rfl hk2) hX A.h0 ?_
  have hX1:=hX.more [chO (.int (b+5:Nat)) (.int (((n+i:Nat):Int)+1)) (.int chg.length)]
  refine Rn.took (Y:=[kinds,chgO m]) (by exact I2 (aa [] [_] (.leI (.k 0) (.a J0 (.k 1))) (.leI (.k 0) J0) [1,1] rfl h1) (I2 (aq [] [_,_,_,_] (.ltI (.a J0 (.k 1)) J1) (.leI J2 J1) (.leI J3 J2) (.leI (.a (.a J0 (.m 5 (.c (.k 0)))) (.k 3)) J3) [1,1,1,1] rfl h3 hT h2) (aq [] [_,_,_] (.ltI (.a J0 (.k 1)) (.k 100000000)) (.ltI J1 (.k 100000000)) (.leI J2 J1) (.leI (.a (.a J0 (.m 5 (.c (.k 0)))) (.k 3)) J2) [1,1,1,1] rfl h4 hT h2))) hX1 A.h1 iU (by exact aa [_] [] (.ltN (.a N0 (.k 1)) (.k 1000)) (.ltN N0 (.k 900)) [1,1] rfl hb) (fV hX1 A.h1 (by rw [hs.len.2];exact aa [_] [] (.ltN N0 (.k 1000)) (.ltN N0 (.k 900)) [1,1] rfl hk2)) ?_
  have hX2:=(hX1.more [kinds,chgO m]).more [.tup [.int (((n+i:Nat):Int)+1),.int ((b+1:Nat)+1)]]
  have hj:=aG (aG (List.getElem?_concat_length (l:=X) (a:=chO (.int (b+5:Nat)) (.int (((n+i:Nat):Int)+1)) (.int chg.length))) [kinds,chgO m]) [.tup [.int (((n+i:Nat):Int)+1),.int ((b+1:Nat)+1)]]
  have hc:(X++[chO (.int (b+5:Nat)) (.int (((n+i:Nat):Int)+1)) (.int chg.length)]++[kinds,chgO m])[(X++[chO (.int (b+5:Nat)) (.int (((n+i:Nat):Int)+1)) (.int chg.length)]++[kinds]).length]?=some (chgO m):=by
   rw [show ([kinds,chgO m]:List AO)=[kinds]++[chgO m] from rfl,← List.append_assoc]
   exact List.getElem?_concat_length
  refine Rn.back (Y:=[kinds]) (mk2:=[.int m]) (chg2:=chg) (by exact I2 (aa [] [_] (.leI (.k 0) (.a (.a J0 (.k 1)) (.k 1))) (.leI (.k 0) J0) [1,1] rfl h1) (I2 (aq [] [_,_,_,_] (.ltI (.a (.a J0 (.k 1)) (.k 1)) J1) (.leI J2 J1) (.leI J3 J2) (.leI (.a (.a J0 (.m 5 (.c (.k 0)))) (.k 3)) J3) [1,1,1,1] rfl h3 hT h2) (aq [] [_,_,_] (.ltI (.a (.a J0 (.k 1)) (.k 1)) (.k 100000000)) (.ltI J1 (.k 100000000)) (.leI J2 J1) (.leI (.a (.a J0 (.m 5 (.c (.k 0)))) (.k 3)) J2) [1,1,1,1] rfl h4 hT h2))) hX2 A.h2 aS (eJ O hl hX2 A.h2 hk hend) hj (fU rfl (aG (aG (aG hc _) _) _)) ?_
  exact fin (((hX2.more _).more _).more _) ((((((hs.more _).more _).more _).more _).more _).more _) (by exact aa [] [_] (.leI (.k 0) (.a (.a (.a J0 (.k 1)) (.k 1)) (.k 1))) (.leI (.k 0) J0) [1,1] rfl h1) (by exact aa [] [_,_] (.leI (.a (.a (.a J0 (.k 1)) (.k 1)) (.k 1)) J1) (.leI (.a (.a J0 (.m 5 (.c (.k 0)))) (.k 3)) J1) [1,1] rfl h2)
 | succ j ih =>
  intro i hij t m chs chg X hX hs h1 h2
  refine Rn.split (a:=b+1) (b:=b+5) (by exact I2 (h1) (I2 (aq [_] [_,_,_,_] (.ltI J0 J1) (.leI J2 J1) (.leI J3 J2) (.leI (.a (.a J0 (.m 5 (.c (.a N0 (.k 1))))) (.k 3)) J3) [1,1,1,1] rfl h3 hT h2) (aq [_] [_,_,_] (.ltI J0 (.k 100000000)) (.ltI J1 (.k 100000000)) (.leI J2 J1) (.leI (.a (.a J0 (.m 5 (.c (.a N0 (.k 1))))) (.k 3)) J2) [1,1,1,1] rfl h4 hT h2))) (by rw [hs.len.1];exact ag [_,_,_] [] (.ltN N0 (.k 1000)) (.ltN N1 (.k 900)) (.eqN (.a N0 (.a N2 (.k 1))) N1) [1,1,1] rfl hk2 hij) hX A.h0 ?_
  have hX1:=hX.more [chO (.int (b+5:Nat)) (.int (((n+i:Nat):Int)+1)) (.int chg.length)]
  refine Rn.took (Y:=[kinds,chgO m]) (by exact I2 (aa [] [_] (.leI (.k 0) (.a J0 (.k 1))) (.leI (.k 0) J0) [1,1] rfl h1) (I2 (aq [_] [_,_,_,_] (.ltI (.a J0 (.k 1)) J1) (.leI J2 J1) (.leI J3 J2) (.leI (.a (.a J0 (.m 5 (.c (.a N0 (.k 1))))) (.k 3)) J3) [1,1,1,1] rfl h3 hT h2) (aq [_] [_,_,_] (.ltI (.a J0 (.k 1)) (.k 100000000)) (.ltI J1 (.k 100000000)) (.leI J2 J1) (.leI (.a (.a J0 (.m 5 (.c (.a N0 (.k 1))))) (.k 3)) J2) [1,1,1,1] rfl h4 hT h2))) hX1 A.h1 iU (by exact aa [_] [] (.ltN (.a N0 (.k 1)) (.k 1000)) (.ltN N0 (.k 900)) [1,1] rfl hb) (fV hX1 A.h1 (by rw [hs.len.2];exact ag [_,_,_] [] (.ltN N0 (.k 1000)) (.ltN N1 (.k 900)) (.eqN (.a N0 (.a N2 (.k 1))) N1) [1,1,1] rfl hk2 hij)) ?_
  have hX2:=(hX1.more [kinds,chgO m]).more [.tup [.int (((n+i:Nat):Int)+1),.int ((b+1:Nat)+1)]]
  have hj:=aG (aG (List.getElem?_concat_length (l:=X) (a:=chO (.int (b+5:Nat)) (.int (((n+i:Nat):Int)+1)) (.int chg.length))) [kinds,chgO m]) [.tup [.int (((n+i:Nat):Int)+1),.int ((b+1:Nat)+1)]]
  have hc:(X++[chO (.int (b+5:Nat)) (.int (((n+i:Nat):Int)+1)) (.int chg.length)]++[kinds,chgO m])[(X++[chO (.int (b+5:Nat)) (.int (((n+i:Nat):Int)+1)) (.int chg.length)]++[kinds]).length]?=some (chgO m):=by
   rw [show ([kinds,chgO m]:List AO)=[kinds]++[chgO m] from rfl,← List.append_assoc]
   exact List.getElem?_concat_length
  rw [hs.len.2] at hj
  have hs2:=Stk.snoc (((hs.more [chO (.int (b+5:Nat)) (.int (((n+i:Nat):Int)+1)) (.int chg.length)]).more [kinds,chgO m]).more [.tup [.int (((n+i:Nat):Int)+1),.int ((b+1:Nat)+1)]]) (by rw [hs.len.2];exact hj) (aG hc _)
  refine Rn.took (Y:=[kinds]) (by exact I2 (aa [] [_] (.leI (.k 0) (.a (.a J0 (.k 1)) (.k 1))) (.leI (.k 0) J0) [1,1] rfl h1) (I2 (aq [_] [_,_,_,_] (.ltI (.a (.a J0 (.k 1)) (.k 1)) J1) (.leI J2 J1) (.leI J3 J2) (.leI (.a (.a J0 (.m 5 (.c (.a N0 (.k 1))))) (.k 3)) J3) [1,1,1,1] rfl h3 hT h2) (aq [_] [_,_,_] (.ltI (.a (.a J0 (.k 1)) (.k 1)) (.k 100000000)) (.ltI J1 (.k 100000000)) (.leI J2 J1) (.leI (.a (.a J0 (.m 5 (.c (.a N0 (.k 1))))) (.k 3)) J2) [1,1,1,1] rfl h4 hT h2))) hX2 A.h2 aS (by exact aa [_] [] (.ltN (.a (.a N0 (.k 1)) (.k 1)) (.k 1000)) (.ltN N0 (.k 900)) [1,1] rfl hb) (d4 O hX2 A.h2 (hrun i (by exact aa [_,_,_] [] (.ltN N0 N1) (.eqN (.a N0 (.a N2 (.k 1))) N1) [1,1] rfl hij)) (by exact aq [_,_,_,_,_] [_] (.ltI (.a (.c (.a N0 N1)) (.k 1)) J0) (.eqI J0 (.a (.c N2) (.k 1))) (.leN (.a N0 N3) N2) (.eqN (.a N1 (.a N4 (.k 1))) N3) [1,-1,1,1] rfl hl hk hij) rfl (by exact bS [_,_,_,_,_,_] [_,_] (.ltN (.a N0 N1) (.k 5000)) (.leN (.a N0 N2) N3) (.leI J0 J1) (.eqI (.a (.s J1 J0) (.c N3)) (.c N4)) (.leI (.c N4) (.k 5000)) (.eqN (.a N1 (.a N5 (.k 1))) N2) [1,1,1,1,1,1] rfl hk hg.2.2.1 hg.2.2.2.1 hg.2.2.2.2 hij)) ?_
  have e2:(((n+i:Nat):Int)+1+1)=((n+(i+1):Nat):Int)+1:=by exact au [_,_] [] (.eqI (.a (.a (.c (.a N0 N1)) (.k 1)) (.k 1)) (.a (.c (.a N0 (.a N1 (.k 1)))) (.k 1))) [1] [1] rfl
  rw [e2]
  refine Rn.progress (to:=b+5) (by exact I2 (aa [] [_] (.leI (.k 0) (.a (.a (.a J0 (.k 1)) (.k 1)) (.k 1))) (.leI (.k 0) J0) [1,1] rfl h1) (I2 (aq [_] [_,_,_,_] (.ltI (.a (.a (.a J0 (.k 1)) (.k 1)) (.k 1)) J1) (.leI J2 J1) (.leI J3 J2) (.leI (.a (.a J0 (.m 5 (.c (.a N0 (.k 1))))) (.k 3)) J3) [1,1,1,1] rfl h3 hT h2) (aq [_] [_,_,_] (.ltI (.a (.a (.a J0 (.k 1)) (.k 1)) (.k 1)) (.k 100000000)) (.ltI J1 (.k 100000000)) (.leI J2 J1) (.leI (.a (.a J0 (.m 5 (.c (.a N0 (.k 1))))) (.k 3)) J2) [1,1,1,1] rfl h4 hT h2))) ((hX2.more _).more _) A.h3 (by exact ak [_,_] [] (.ltI (.a (.c (.a N0 N1)) (.k 1)) (.a (.c (.a N0 (.a N1 (.k 1)))) (.k 1))) [1] rfl) (by exact aa [_] [] (.ltN (.a (.a (.a N0 (.k 1)) (.k 1)) (.k 1)) (.k 1000)) (.ltN N0 (.k 900)) [1,1] rfl hb) ?_
  refine Rn.jump (to:=b) (by exact I2 (aa [] [_] (.leI (.k 0) (.a (.a (.a (.a J0 (.k 1)) (.k 1)) (.k 1)) (.k 1))) (.leI (.k 0) J0) [1,1] rfl h1) (I2 (aq [_] [_,_,_,_] (.ltI (.a (.a (.a (.a J0 (.k 1)) (.k 1)) (.k 1)) (.k 1)) J1) (.leI J2 J1) (.leI J3 J2) (.leI (.a (.a J0 (.m 5 (.c (.a N0 (.k 1))))) (.k 3)) J3) [1,1,1,1] rfl h3 hT h2) (aq [_] [_,_,_] (.ltI (.a (.a (.a (.a J0 (.k 1)) (.k 1)) (.k 1)) (.k 1)) (.k 100000000)) (.ltI J1 (.k 100000000)) (.leI J2 J1) (.leI (.a (.a J0 (.m 5 (.c (.a N0 (.k 1))))) (.k 3)) J2) [1,1,1,1] rfl h4 hT h2))) ((hX2.more _).more _) A.h4 ?_
  exact ih (by exact aK [_,_,_] [] (.eqN (.a (.a N0 (.k 1)) N1) N2) (.eqN (.a N0 (.a N1 (.k 1))) N2) [1,1] [1,-1] rfl hij) ((hX2.more _).more _) ((hs2.more _).more _) (by exact aa [] [_] (.leI (.k 0) (.a (.a (.a (.a (.a J0 (.k 1)) (.k 1)) (.k 1)) (.k 1)) (.k 1))) (.leI (.k 0) J0) [1,1] rfl h1) (by exact aa [_] [_,_] (.leI (.a (.a (.a (.a (.a (.a (.a J0 (.k 1)) (.k 1)) (.k 1)) (.k 1)) (.k 1)) (.m 5 (.c N0))) (.k 3)) J1) (.leI (.a (.a J0 (.m 5 (.c (.a N0 (.k 1))))) (.k 3)) J1) [1,1] rfl h2)
end
noncomputable def rlen (c:Int) (L:List Int) (n:Nat):Nat:=((L.drop n).takeWhile (· == c)).length
theorem mL {c:Int}:∀ {l:List Int} {i:Nat},i<(l.takeWhile (· == c)).length→l[i]?=some c:=by
 intro l
 induction l with
 | nil=>intro i h;cases h
 | cons a l ih =>
  intro i h
  rw [List.takeWhile_cons] at h
  split at h
  ·rename_i e
   cases i with
   | zero=>rw [beq_iff_eq.mp e];rfl
   | succ i=>exact ih (Nat.lt_of_succ_lt_succ h)
  ·cases h
theorem lK {c:Int}:∀ {l:List Int},l[(l.takeWhile (· == c)).length]?≠some c:=by
 intro l
 induction l with
 | nil=>intro h;exact nS h
 | cons a l ih =>
  rw [List.takeWhile_cons]
  split
  ·exact ih
  ·rename_i e
   intro h
   cases h
   exact e (beq_self_eq_true _)
theorem kB {c:Int} {l:List Int}:(l.takeWhile (· == c)).length≤l.length:=(List.takeWhile_sublist _).length_le
theorem cP {c:Int} {L:List Int} {n i:Nat} (h:i<rlen c L n):L[n+i]?=some c:=by
 rw [← List.getElem?_drop];exact mL h
theorem eK {c:Int} {L:List Int} {n:Nat}:L[n+rlen c L n]?≠some c:=by
 rw [← List.getElem?_drop];exact lK
theorem bB {c:Int} {L:List Int} {n:Nat} (h:n≤L.length):n+rlen c L n≤L.length:=by
 have:=kB (c:=c) (l:=L.drop n)
 rw [List.length_drop] at this
 unfold rlen
 exact ag [_,_,_,_] [] (.leN (.a N0 N1) N2) (.leN N1 N3) (.eqN (.a N3 N0) N2) [1,1,1] rfl this (ab (h))
noncomputable def tailEnd (L:List Int) (last:Int) (p:Nat):Option Nat:=if last=0 then some p else if L[p]?=some last then some (p+1) else none
noncomputable def resA:Option Nat→AV
 | some e=>.int ((e:Int)+1)
 | none=>.none
structure TailAt (P:MP) (R:Nat) (last:Int):Prop where
 hR:R<990
 z:last=0→P.rows[R]?=some [.str [100,111,110,101]]
 l:last≠0→P.rows[R]?=some [.str [99,104,97,114],.int last]∧P.rows[R+1]?=some [.str [100,111,110,101]]
section
variable {B:Base} {d:Nat} {P:MP} {L:List Int} {T t0:Int} {res:AV} {t m:Int} {n k q p R:Nat} {mk chs chg:List AV} {X:Hp} {c last:Int}
theorem d5 (A:TailAt P R last) (O:P.Ok L) (hl:P.lim=L.length+1) (hX:RowsIn P X) (hp:p≤L.length) (h1:0≤t) (h2:t+2≤T) (h3:T≤P.steps) (h4:T<100000000)
  (no:last≠0→L[p]?≠some last→Rn B (d+6) P T .none t (((p:Nat):Int)+1) R mk chs chg X):Rn B (d+6) P T (resA (tailEnd L last p)) t (((p:Nat):Int)+1) R mk chs chg X:=by
 have hg:=O.gap.bounds
 have hR:=A.hR
 unfold tailEnd
 split
 ·rename_i h
  exact Rn.done (by exact I2 (h1) (I2 (ag [] [_,_,_] (.ltI J0 J1) (.leI (.a J0 (.k 2)) J2) (.leI J2 J1) [1,1,1] rfl h2 h3) (ag [] [_,_] (.ltI J0 (.k 100000000)) (.leI (.a J0 (.k 2)) J1) (.ltI J1 (.k 100000000)) [1,1,1] rfl h2 h4))) (by exact aa [] [_,_] (.leI (.a J0 (.k 1)) J1) (.leI (.a J0 (.k 2)) J1) [1,1] rfl h2) hX (A.z h)
 ·rename_i h
  split
  ·rename_i hv
   have hpl:=(List.getElem?_eq_some_iff.mp hv).1
   refine Rn.took (Y:=[kinds]) (by exact I2 (h1) (I2 (ag [] [_,_,_] (.ltI J0 J1) (.leI (.a J0 (.k 2)) J2) (.leI J2 J1) [1,1,1] rfl h2 h3) (ag [] [_,_] (.ltI J0 (.k 100000000)) (.leI (.a J0 (.k 2)) J1) (.ltI J1 (.k 100000000)) [1,1,1] rfl h2 h4))) hX (A.l h).1 aS (by exact aa [_] [] (.ltN N0 (.k 1000)) (.ltN N0 (.k 990)) [1,1] rfl hR) (d4 O hX (A.l h).1 hv (by exact ag [_,_] [_] (.ltI (.a (.c N0) (.k 1)) J0) (.eqI J0 (.a (.c N1) (.k 1))) (.ltN N0 N1) [1,-1,1] rfl hl hpl) rfl (by exact bR [_,_,_] [_,_] (.ltN N0 (.k 5000)) (.leI J0 J1) (.eqI (.a (.s J1 J0) (.c N1)) (.c N2)) (.leI (.c N2) (.k 5000)) (.ltN N0 N1) [1,1,1,1,1] rfl hg.2.2.1 hg.2.2.2.1 hg.2.2.2.2 hpl)) ?_
   exact Rn.done (by exact I2 (aa [] [_] (.leI (.k 0) (.a J0 (.k 1))) (.leI (.k 0) J0) [1,1] rfl h1) (I2 (ag [] [_,_,_] (.ltI (.a J0 (.k 1)) J1) (.leI (.a J0 (.k 2)) J2) (.leI J2 J1) [1,1,1] rfl h2 h3) (ag [] [_,_] (.ltI (.a J0 (.k 1)) (.k 100000000)) (.leI (.a J0 (.k 2)) J1) (.ltI J1 (.k 100000000)) [1,1,1] rfl h2 h4))) (by exact aa [] [_,_] (.leI (.a (.a J0 (.k 1)) (.k 1)) J1) (.leI (.a J0 (.k 2)) J1) [1,1] rfl h2) ((hX.more _).more _) (A.l h).2
  ·rename_i hv
   exact no h hv
theorem d6 {b:Nat} (A:LapAt P b c) (Tl:TailAt P (b+5) last) (hcl:c≠last) (O:P.Ok L) (hl:P.lim=L.length+1) (hn:n≤L.length) (h3:t+6000≤P.steps) (h4:t+6000<100000000) (hL:L.length<900) (h1:0≤t) (hX:RowsIn P X) :
  Rn B (d+6) P (t+6000) (resA (tailEnd L last (n+rlen c L n))) t (((n:Nat):Int)+1) b [.int m] [] [] X:=by
 have hk:=bB (c:=c) hn
 refine nR (t0:=t+4600) (k:=rlen c L n) (j:=rlen c L n) (i:=0) A O hl (fun i hi=>cP hi) eK hk (by exact ag [_,_,_] [] (.ltN N0 (.k 900)) (.ltN N1 (.k 900)) (.leN (.a N2 N0) N1) [1,1,1] rfl hL hk) h3 h4 (fun {t' m chs chg X} hX hs h1 h2=>?_) (by exact ak [] [_] (.leI (.a J0 (.k 4600)) (.a J0 (.k 6000))) [1] rfl) (by exact au [_] [] (.eqN (.a (.k 0) N0) N0) [1] [1] rfl) hX .nil h1 (by exact ag [_,_,_] [_] (.leI (.a (.a J0 (.m 5 (.c N0))) (.k 3)) (.a J0 (.k 4600))) (.ltN N1 (.k 900)) (.leN (.a N2 N0) N1) [1,5,5] rfl hL hk)
 refine d5 Tl O hl hX hk (by exact h1) (by exact aa [] [_,_] (.leI (.a J0 (.k 2)) (.a J1 (.k 6000))) (.leI J0 (.a J1 (.k 4600))) [1,1] rfl h2) h3 h4 fun h0 hv=>?_
 exact iV O hl (Tl.l h0).1 (by have:=Tl.hR;exact aa [_] [] (.ltN (.a N0 (.k 5)) (.k 1000)) (.ltN (.a N0 (.k 5)) (.k 990)) [1,1] rfl this) (fun i hi e=>hcl (Option.some.inj ((cP hi).symm.trans e))) hk hX hs hk hv h1 (by exact aq [_,_,_] [_,_] (.leI (.a (.a J0 (.c N0)) (.k 1)) (.a J1 (.k 6000))) (.ltN N1 (.k 900)) (.leN (.a N2 N0) N1) (.leI J0 (.a J1 (.k 4600))) [1,1,1,1] rfl hL hk h2) h3 h4
noncomputable def plusEnd (L:List Int) (c last:Int) (n:Nat):Option Nat:=if L[n]?=some c then tailEnd L last (n+1+rlen c L (n+1)) else none
theorem fW (hr:P.rows[0]?=some [.str [99,104,97,114],.int c]) (A:LapAt P 1 c) (Tl:TailAt P 6 last) (hcl:c≠last) (O:P.Ok L) (hl:P.lim=L.length+1) (hn:n≤L.length) (h3:t+6001≤P.steps) (h4:t+6001<100000000) (hL:L.length<900) (h1:0≤t) (hX:RowsIn P X) :
  Rn B (d+6) P (t+6001) (resA (plusEnd L c last n)) t (((n:Nat):Int)+1) 0 [.int m] [] [] X:=by
 unfold plusEnd
 split
 ·rename_i hv
  have hpl:=(List.getElem?_eq_some_iff.mp hv).1
  refine Rn.took (Y:=[kinds]) (by exact I2 (h1) (I2 (aa [] [_,_] (.ltI J0 J1) (.leI (.a J0 (.k 6001)) J1) [1,1] rfl h3) (aa [] [_] (.ltI J0 (.k 100000000)) (.ltI (.a J0 (.k 6001)) (.k 100000000)) [1,1] rfl h4))) hX hr aS (by exact ak [] [] (.ltN (.k 0) (.k 1000)) [1] rfl) (d4 O hX hr hv (by exact ag [_,_] [_] (.ltI (.a (.c N0) (.k 1)) J0) (.eqI J0 (.a (.c N1) (.k 1))) (.ltN N0 N1) [1,-1,1] rfl hl hpl) rfl (by exact ag [_,_] [] (.ltN N0 (.k 5000)) (.ltN N1 (.k 900)) (.ltN N0 N1) [1,1,1] rfl hL hpl)) ?_
  have e:t+6001=t+1+6000:=by exact au [] [_] (.eqI (.a J0 (.k 6001)) (.a (.a J0 (.k 1)) (.k 6000))) [1] [1] rfl
  rw [e]
  exact d6 A Tl hcl O hl (by exact aa [_,_] [] (.leN (.a N0 (.k 1)) N1) (.ltN N0 N1) [1,1] rfl hpl) (by exact aa [] [_,_] (.leI (.a (.a J0 (.k 1)) (.k 6000)) J1) (.leI (.a J0 (.k 6001)) J1) [1,1] rfl h3) (by exact aa [] [_] (.ltI (.a (.a J0 (.k 1)) (.k 6000)) (.k 100000000)) (.ltI (.a J0 (.k 6001)) (.k 100000000)) [1,1] rfl h4) hL (by exact aa [] [_] (.leI (.k 0) (.a J0 (.k 1))) (.leI (.k 0) J0) [1,1] rfl h1) ((hX.more _).more _)
 ·rename_i hv
  exact Rn.fail (Y:=[kinds]) (by exact I2 (h1) (I2 (aa [] [_,_] (.ltI J0 J1) (.leI (.a J0 (.k 6001)) J1) [1,1] rfl h3) (aa [] [_] (.ltI J0 (.k 100000000)) (.ltI (.a J0 (.k 6001)) (.k 100000000)) [1,1] rfl h4))) (by exact ak [] [_] (.leI (.a J0 (.k 1)) (.a J0 (.k 6001))) [1] rfl) hX hr aS (eJ O hl hX hr hn hv)
noncomputable def mayEnd (L:List Int) (c last:Int) (n:Nat):Option Nat:=if L[n]?=some c then tailEnd L last (n+1) else tailEnd L last n
theorem iW (hr0:P.rows[0]?=some [.str [115,112,108,105,116],.int (1:Nat),.int (2:Nat)]) (hr:P.rows[1]?=some [.str [99,104,97,114],.int c]) (Tl:TailAt P 2 last) (hcl:c≠last) (O:P.Ok L) (hl:P.lim=L.length+1) (hn:n≤L.length) (h3:t+100≤P.steps) (h4:t+100<100000000) (hL:L.length<900) (h1:0≤t) (hX:RowsIn P X) :
  Rn B (d+6) P (t+100) (resA (mayEnd L c last n)) t (((n:Nat):Int)+1) 0 mk [] [] X:=by
 have hj:=List.getElem?_concat_length (l:=X) (a:=chO (.int (2:Nat)) (.int (((n:Nat):Int)+1)) (.int (([]:List AV).length)))
 have hX1:=hX.more [chO (.int (2:Nat)) (.int (((n:Nat):Int)+1)) (.int (([]:List AV).length))]
 refine Rn.split (a:=1) (b:=2) (by exact I2 (h1) (I2 (aa [] [_,_] (.ltI J0 J1) (.leI (.a J0 (.k 100)) J1) [1,1] rfl h3) (aa [] [_] (.ltI J0 (.k 100000000)) (.ltI (.a J0 (.k 100)) (.k 100000000)) [1,1] rfl h4))) (by decide) hX hr0 ?_
 unfold mayEnd
 split
 ·rename_i hv
  have hpl:=(List.getElem?_eq_some_iff.mp hv).1
  refine Rn.took (Y:=[kinds]) (by exact I2 (aa [] [_] (.leI (.k 0) (.a J0 (.k 1))) (.leI (.k 0) J0) [1,1] rfl h1) (I2 (aa [] [_,_] (.ltI (.a J0 (.k 1)) J1) (.leI (.a J0 (.k 100)) J1) [1,1] rfl h3) (aa [] [_] (.ltI (.a J0 (.k 1)) (.k 100000000)) (.ltI (.a J0 (.k 100)) (.k 100000000)) [1,1] rfl h4))) hX1 hr aS (by exact ak [] [] (.ltN (.k 1) (.k 1000)) [1] rfl) (d4 O hX1 hr hv (by exact ag [_,_] [_] (.ltI (.a (.c N0) (.k 1)) J0) (.eqI J0 (.a (.c N1) (.k 1))) (.ltN N0 N1) [1,-1,1] rfl hl hpl) rfl (by exact ag [_,_] [] (.ltN N0 (.k 5000)) (.ltN N1 (.k 900)) (.ltN N0 N1) [1,1,1] rfl hL hpl)) ?_
  have e2:(((n:Nat):Int)+1+1)=((n+1:Nat):Int)+1:=by exact au [_] [] (.eqI (.a (.a (.c N0) (.k 1)) (.k 1)) (.a (.c (.a N0 (.k 1))) (.k 1))) [1] [1] rfl
  rw [e2]
  have hX2:=(hX1.more [kinds]).more [.tup [.int (((n+1:Nat):Int)+1),.int ((1:Nat)+1)]]
  refine d5 Tl O hl hX2 (by exact aa [_,_] [] (.leN (.a N0 (.k 1)) N1) (.ltN N0 N1) [1,1] rfl hpl) (by exact aa [] [_] (.leI (.k 0) (.a (.a J0 (.k 1)) (.k 1))) (.leI (.k 0) J0) [1,1] rfl h1) (by exact ak [] [_] (.leI (.a (.a (.a J0 (.k 1)) (.k 1)) (.k 2)) (.a J0 (.k 100))) [1] rfl) h3 h4 fun h0 hv2=>?_
  refine Rn.back (chs:=[]) (Y:=[kinds]) (mk2:=mk) (chg2:=[]) (by exact I2 (aa [] [_] (.leI (.k 0) (.a (.a J0 (.k 1)) (.k 1))) (.leI (.k 0) J0) [1,1] rfl h1) (I2 (aa [] [_,_] (.ltI (.a (.a J0 (.k 1)) (.k 1)) J1) (.leI (.a J0 (.k 100)) J1) [1,1] rfl h3) (aa [] [_] (.ltI (.a (.a J0 (.k 1)) (.k 1)) (.k 100000000)) (.ltI (.a J0 (.k 100)) (.k 100000000)) [1,1] rfl h4))) hX2 (Tl.l h0).1 aS (eJ O hl hX2 (Tl.l h0).1 (by exact aa [_,_] [] (.leN (.a N0 (.k 1)) N1) (.ltN N0 N1) [1,1] rfl hpl) hv2) (aG (aG hj _) _) (fS rfl) ?_
  have hX3:=((hX2.more [kinds]).more [.list []]).more [.tup [.int (((n:Nat):Int)+1),.int (2:Nat)]]
  exact Rn.fail (Y:=[kinds]) (by exact I2 (aa [] [_] (.leI (.k 0) (.a (.a (.a J0 (.k 1)) (.k 1)) (.k 1))) (.leI (.k 0) J0) [1,1] rfl h1) (I2 (aa [] [_,_] (.ltI (.a (.a (.a J0 (.k 1)) (.k 1)) (.k 1)) J1) (.leI (.a J0 (.k 100)) J1) [1,1] rfl h3) (aa [] [_] (.ltI (.a (.a (.a J0 (.k 1)) (.k 1)) (.k 1)) (.k 100000000)) (.ltI (.a J0 (.k 100)) (.k 100000000)) [1,1] rfl h4))) (by exact ak [] [_] (.leI (.a (.a (.a (.a J0 (.k 1)) (.k 1)) (.k 1)) (.k 1)) (.a J0 (.k 100))) [1] rfl) hX3 (Tl.l h0).1 aS (eJ O hl hX3 (Tl.l h0).1 hn fun e=>hcl (Option.some.inj (hv.symm.trans e)))
 ·rename_i hv
  refine Rn.back (chs:=[]) (Y:=[kinds]) (mk2:=mk) (chg2:=[]) (by exact I2 (aa [] [_] (.leI (.k 0) (.a J0 (.k 1))) (.leI (.k 0) J0) [1,1] rfl h1) (I2 (aa [] [_,_] (.ltI (.a J0 (.k 1)) J1) (.leI (.a J0 (.k 100)) J1) [1,1] rfl h3) (aa [] [_] (.ltI (.a J0 (.k 1)) (.k 100000000)) (.ltI (.a J0 (.k 100)) (.k 100000000)) [1,1] rfl h4))) hX1 hr aS (eJ O hl hX1 hr hn hv) hj (fS rfl) ?_
  have hX3:=((hX1.more [kinds]).more [.list []]).more [.tup [.int (((n:Nat):Int)+1),.int (2:Nat)]]
  refine d5 Tl O hl hX3 hn (by exact aa [] [_] (.leI (.k 0) (.a (.a J0 (.k 1)) (.k 1))) (.leI (.k 0) J0) [1,1] rfl h1) (by exact ak [] [_] (.leI (.a (.a (.a J0 (.k 1)) (.k 1)) (.k 2)) (.a J0 (.k 100))) [1] rfl) h3 h4 fun h0 hv2=>?_
  exact Rn.fail (Y:=[kinds]) (by exact I2 (aa [] [_] (.leI (.k 0) (.a (.a J0 (.k 1)) (.k 1))) (.leI (.k 0) J0) [1,1] rfl h1) (I2 (aa [] [_,_] (.ltI (.a (.a J0 (.k 1)) (.k 1)) J1) (.leI (.a J0 (.k 100)) J1) [1,1] rfl h3) (aa [] [_] (.ltI (.a (.a J0 (.k 1)) (.k 1)) (.k 100000000)) (.ltI (.a J0 (.k 100)) (.k 100000000)) [1,1] rfl h4))) (by exact ak [] [_] (.leI (.a (.a (.a J0 (.k 1)) (.k 1)) (.k 1)) (.a J0 (.k 100))) [1] rfl) hX3 (Tl.l h0).1 aS (eJ O hl hX3 (Tl.l h0).1 hn hv2)
end
theorem kC {σ:Hp} {l:Nat} {x:AV} {n:Int} (h:σ[l]?=some (.list [x])) (h1:0≤n) (h2:n≤10000):binV σ 2 (.ref l) (.int n)=some (AV.ref σ.length,σ++[.list (List.replicate n.toNat x)]):=by
 have e1:listAt σ l=some [x]:=by unfold listAt;rw [h]
 show mulV σ (.ref l) (.int n)=_
 unfold mulV
 dsimp only
 rw [e1]
 dsimp only
 have hn:n≤(LIM:Int):=h2
 rw [if_pos ⟨by exact aa [] [_] (.leI (.g (.k 1000000000)) J0) (.leI (.k 0) J0) [1,1] rfl h1,hn⟩]
 unfold allocL
 rw [if_pos (by rw [List.length_replicate];exact Int.toNat_le.mpr hn)]
theorem ac (f:AV→AV) (hf:∀ i,f (.int i)=.int i) (M:List Int):(M.map AV.int).map f=M.map .int:=by
 rw [List.map_map]
 exact List.map_congr_left fun i _=>hf i
theorem Gap.ren {L:List Int} {g e:Int} {xs:List AV} (G:Gap L g e xs) (f:AV→AV) (hf:∀ i,f (.int i)=.int i):xs.map f=xs:=by
 obtain ⟨A,J,C,_,rfl,_,_⟩:=G.ex
 exact ac f hf _
structure BV where
 pt:Int
 zv:Int
 tk:Int
 ck:Int
noncomputable def bfun (v:BV) (k:Nat):AV:=nth [.int 1,.str [97],.none,.none,.int v.tk,.int v.ck,.int 1,.none,.none,.none] (k - 64) .none
noncomputable def bF (v:BV) (mk k:Nat):AV:=if k=6 then .ref mk else if k=8 then .ref (mk+2) else if k=19 then .int v.pt else if k=67 then .bool true else if k=9 then .bool false else if k<64 then .none else bfun v k
noncomputable def bufO (v:BV) (tx mk:Nat):AO:=.inst 4 [(64,bF v mk 64),(65,bF v mk 65),(4,.ref tx),(6,bF v mk 6),(19,bF v mk 19),(11,.int 1),(12,.int v.zv),(66,bF v mk 66),(67,bF v mk 67),(9,bF v mk 9),(68,bF v mk 68),(69,bF v mk 69),(70,bF v mk 70),(8,bF v mk 8),(16,bF v mk 16),(22,bF v mk 22),(24,bF v mk 24),(71,bF v mk 71),(72,bF v mk 72),(73,bF v mk 73)]
noncomputable def mkO (k:Nat):AO:=.inst 3 [(7,.ref k)]
inductive Pt | s0 | s1 | p0 | p1 | m0 | m1 | b0 | b1 | b2 | b3
noncomputable def nmOf:Pt→Nat | .s0=>1 | .s1=>1 | .p0=>1 | .p1=>1 | .m0=>0 | .m1=>0 | .b0=>0 | .b1=>1 | .b2=>0 | .b3=>0
noncomputable def rowsOf:Pt→List (List AV)
 | .s0=>[[.str [115,112,108,105,116],.int 1,.int 5],[.str [109,97,114,107],.int 0],[.str [99,104,97,114],.int 120],[.str [112,114,111,103,114,101,115,115],.int 0,.int 5],[.str [106,117,109,112],.int 0],[.str [100,111,110,101]]]
 | .s1=>[[.str [115,112,108,105,116],.int 1,.int 5],[.str [109,97,114,107],.int 0],[.str [99,104,97,114],.int 120],[.str [112,114,111,103,114,101,115,115],.int 0,.int 5],[.str [106,117,109,112],.int 0],[.str [99,104,97,114],.int 97],[.str [100,111,110,101]]]
 | .p0=>[[.str [99,104,97,114],.int 120],[.str [115,112,108,105,116],.int 2,.int 6],[.str [109,97,114,107],.int 0],[.str [99,104,97,114],.int 120],[.str [112,114,111,103,114,101,115,115],.int 0,.int 6],[.str [106,117,109,112],.int 1],[.str [100,111,110,101]]]
 | .p1=>[[.str [99,104,97,114],.int 120],[.str [115,112,108,105,116],.int 2,.int 6],[.str [109,97,114,107],.int 0],[.str [99,104,97,114],.int 120],[.str [112,114,111,103,114,101,115,115],.int 0,.int 6],[.str [106,117,109,112],.int 1],[.str [99,104,97,114],.int 97],[.str [100,111,110,101]]]
 | .m0=>[[.str [115,112,108,105,116],.int 1,.int 2],[.str [99,104,97,114],.int 120],[.str [100,111,110,101]]]
 | .m1=>[[.str [115,112,108,105,116],.int 1,.int 2],[.str [99,104,97,114],.int 120],[.str [99,104,97,114],.int 97],[.str [100,111,110,101]]]
 | .b0=>[[.str [97,116],.str [98,111,108]],[.str [99,104,97,114],.int 32],[.str [100,111,110,101]]]
 | .b1=>[[.str [97,116],.str [98,111,108]],[.str [99,104,97,114],.int 32],[.str [115,112,108,105,116],.int 3,.int 7],[.str [109,97,114,107],.int 0],[.str [99,104,97,114],.int 32],[.str [112,114,111,103,114,101,115,115],.int 0,.int 7],[.str [106,117,109,112],.int 2],[.str [100,111,110,101]]]
 | .b2=>[[.str [97,116],.str [98,111,108]],[.str [99,104,97,114],.int 97],[.str [100,111,110,101]]]
 | .b3=>[[.str [97,116],.str [98,111,108]],[.str [100,111,110,101]]]
noncomputable def tupO (p:Pt) (i:Nat):AO:=match (rowsOf p)[i]? with | some xs=>.tup xs | none=>.list []
noncomputable def codO (p:Pt) (k:Nat):AO:=.inst 11 [(7,.ref k),(87,.int 0),(85,.int (nmOf p)),(96,.bool false)]
noncomputable def rwO (p:Pt) (k:Nat):AO:=.list ((List.range (rowsOf p).length).map fun i=>.ref (i+k))
noncomputable def T8 (p:Pt) (k:Nat) (Z:Hp):Hp:=tupO p 0::tupO p 1::tupO p 2::tupO p 3::tupO p 4::tupO p 5::tupO p 6::tupO p 7::mkO (k+9)::.dict []::.list []::Z
theorem kD (p:Pt):(rowsOf p).length≤8:=by cases p <;> decide
noncomputable def cmp8 (p:Pt) (k:Nat) (Z:Hp):Hp:=codO p (k+1)::rwO p (k+2)::tupO p 0::tupO p 1::tupO p 2::tupO p 3::tupO p 4::tupO p 5::tupO p 6::tupO p 7::Z
theorem lL:∀ p:Pt,(rowsOf p).all (fun xs=>xs.all fun a=>match a with | .int _=>true | .str _=>true | _=>false)=true:=by intro p;cases p <;> rfl
section
variable {f:AV→AV} (hi:∀ i,f (.int i)=.int i) (hs:∀ s,f (.str s)=.str s) (hb:∀ b,f (.bool b)=.bool b)
include hi hs
theorem jZ (p:Pt) (i:Nat):mapO f (tupO p i)=tupO p i:=by
 unfold tupO
 cases h:(rowsOf p)[i]? with
 | none=>rfl
 | some xs =>
  refine congrArg AO.tup ((List.map_congr_left fun a ha=>?_).trans (List.map_id _))
  have:=List.all_eq_true.mp (List.all_eq_true.mp (lL p) xs (List.mem_of_getElem? h)) a ha
  cases a with
  | int i=>exact hi i
  | str s=>exact hs s
  | _=>exact fT this
end
noncomputable abbrev cmpL (p:Pt) (k:Nat):Hp:=cmp8 p k []
theorem aj {f:AV→AV} (hi:∀ i,f (.int i)=.int i) (hs:∀ s,f (.str s)=.str s) (hb:∀ b,f (.bool b)=.bool b) (p:Pt) {k k':Nat} (h0:f (.ref (k+1))=.ref (k'+1)) (h:∀ i,i<8→f (.ref (i+(k+2)))=.ref (i+(k'+2))):(cmpL p k).map (mapO f)=cmpL p k':=by
 have e1:mapO f (codO p (k+1))=codO p (k'+1):=by
  show AO.inst 11 [(7,f (.ref (k+1))),(87,f (.int 0)),(85,f (.int (nmOf p))),(96,f (.bool false))]=_
  rw [h0,hi,hi,hb];rfl
 have e2:mapO f (rwO p (k+2))=rwO p (k'+2):=by
  refine congrArg AO.list ((List.map_map ..).trans (List.map_congr_left fun i hm=>?_))
  exact h i (Nat.lt_of_lt_of_le (List.mem_range.mp hm) (kD p))
 show [_,_,_,_,_,_,_,_,_,_]=_
 rw [e1,e2]
 simp only [jZ hi hs]
 rfl
theorem i8 {f:AV→AV} {k k':Nat} (h:f (.ref (0+k))=.ref (0+k')∧f (.ref (1+k))=.ref (1+k')∧f (.ref (2+k))=.ref (2+k')∧f (.ref (3+k))=.ref (3+k')∧f (.ref (4+k))=.ref (4+k')∧f (.ref (5+k))=.ref (5+k')∧f (.ref (6+k))=.ref (6+k')∧f (.ref (7+k))=.ref (7+k')):∀ i,i<8→f (.ref (i+k))=.ref (i+k'):=by
 obtain ⟨h0,h1,h2,h3,h4,h5,h6,h7⟩:=h
 intro i hi
 match i,hi with
 | 0,_=>exact h0
 | 1,_=>exact h1
 | 2,_=>exact h2
 | 3,_=>exact h3
 | 4,_=>exact h4
 | 5,_=>exact h5
 | 6,_=>exact h6
 | 7,_=>exact h7
theorem T8.rows {p:Pt} {k:Nat} {Z:Hp} {r:Nat} {xs:List AV} (h:(rowsOf p)[r]?=some xs):(T8 p k Z)[r]?=some (AO.tup xs):=by
 have h1:=(List.getElem?_eq_some_iff.mp h).1
 have h2:=kD p
 have e:tupO p r=.tup xs:=by unfold tupO;rw [h]
 match r,e,h1 with
 | 0,e,_=>exact congrArg some e
 | 1,e,_=>exact congrArg some e
 | 2,e,_=>exact congrArg some e
 | 3,e,_=>exact congrArg some e
 | 4,e,_=>exact congrArg some e
 | 5,e,_=>exact congrArg some e
 | 6,e,_=>exact congrArg some e
 | 7,e,_=>exact congrArg some e
 | n+8,_,h1=>omega
noncomputable def mP (p:Pt) (v:BV) (p2 t lim g e:Int) (xs:List AV):MP:=⟨.opq,.int p2,lim,t+400000,bF v 18,v.zv,.int 8,g,e,xs,[.int (-1),.int (-1)],nmOf p,rowsOf p⟩
theorem mP.rows {p:Pt} {v:BV} {p2 t lim g e:Int} {xs:List AV}:RowsIn (mP p v p2 t lim g e xs) (T8 p 10 []):=fun _ _ h=>T8.rows h
noncomputable def macO (p2 s t lim:Int) (k0 k1 k2 k3:AV):AO:=.inst 6 [(74,.ref 4),(80,.ref 1),(81,.opq),(19,.int p2),(44,.int s),(82,.int t),(83,.int lim),(84,k0),(85,k1),(86,k2),(79,k3)]
noncomputable def tH (p:Pt) (v:BV) (g e:Int) (m:AO) (xs:List AV) (Z:Hp):Hp :=
 m::bufO v 2 14::gapO (.int 8) 3 g e::.list xs::codO p 5::rwO p 6::T8 p 6 Z
noncomputable def tHx (b:Hp) (v:BV) (g e:Int) (m:AO) (xs:List AV) (Z:Hp):Hp:=m::bufO v 2 14::gapO (.int 8) 3 g e::.list xs::(b++(mkO 15::.dict []::.list []::Z))
noncomputable def mk0 (nm:Nat):List AV:=List.replicate nm (.int (-1))
noncomputable abbrev selR:List Nat:=[0,1,2,3,4,18,20,21,22,5,6,7,8,9,10,11,12,13,14,15,16]
section
variable {B:Base} {d:Nat} {p:Pt} {v:BV} {L:List Int} {p2 s0 l0 t lim g e T:Int} {xs:List AV} {n:Nat} {k0 k1 k2 k3:AV}
noncomputable abbrev mH1 (p2 t l:Int):AO:=macO p2 (t+400000) t l (.ref 18) (.ref 20) (.ref 21) (.ref 22)
theorem nT (G:Gap L g e xs):((pick (tH p v g e (mH1 p2 t lim) xs [.list [.int (-1)],.list [.int (-1),.int (-1)],.list [.int (-1)],.list (mk0 (nmOf p)),.list [],.list []]) selR).map fun sub=>sub.map (mapO (Mine.ren selR)))=some (HM (mP p v p2 t lim g e xs) t (mk0 (nmOf p)) [] [] (T8 p 10 [])) :=
 Eq.trans (b:=some (HM (mP p v p2 t lim g e (xs.map (Mine.ren selR))) t (mk0 (nmOf p)) [] [] (T8 p 10 []))) (by cases p <;> kernel_rfl) (by rw [G.ren (Mine.ren selR) fun z9=>rfl])
theorem nU (G:Gap L g e xs) {t':Int} {kp mk' chs' chg':List AV} {X':Hp}:((pick (HM { mP p v p2 t lim g e xs with kept:=kp } t' mk' chs' chg' (T8 p 10 []++X')) []).map fun new=>wback (bak selR [] 23) selR (HM { mP p v p2 t lim g e xs with kept:=kp } t' mk' chs' chg' (T8 p 10 []++X')) (tH p v g e (mH1 p2 t lim) xs [.list [.int (-1)],.list [.int (-1),.int (-1)],.list [.int (-1)],.list (mk0 (nmOf p)),.list [],.list []])++new.map (mapO (bak selR [] 23)))=some (tH p v g e (macO p2 (t+400000) t' lim (.ref 18) (.ref 20) (.ref 21) (.ref 22)) xs [.list [.int (-1)],.list (kp.map (bak selR [] 23)),.list [.int (-1)],.list (mk'.map (bak selR [] 23)),.list (chs'.map (bak selR [] 23)),.list (chg'.map (bak selR [] 23))]) :=
 Eq.trans (b:=some (tH p v g e (macO p2 (t+400000) t' lim (.ref 18) (.ref 20) (.ref 21) (.ref 22)) (xs.map (bak selR [] 23)) [.list [.int (-1)],.list (kp.map (bak selR [] 23)),.list [.int (-1)],.list (mk'.map (bak selR [] 23)),.list (chs'.map (bak selR [] 23)),.list (chg'.map (bak selR [] 23))])) (by cases p <;> kernel_rfl) (by rw [G.ren (bak selR [] 23) fun z9=>rfl])
theorem fX (G:Gap L g e xs) (ht:0≤t∧t<1000000) (hn:n<5000) {r:Option Nat} (h:Rn B (d+6) (mP p v p2 t lim g e xs) T (resA r) t ((n:Int)+1) 0 (mk0 (nmOf p)) [] [] (T8 p 10 [])) :
  Ex7 fun t' z1 z2 z3 z4 z5 z6=>t≤t'∧t'≤T∧(match r with
   | none=>Con B (d+8) 47 [.ref 0,.int (n+1),.int lim] (tH p v g e (macO p2 (t+400000) t l0 k0 k1 k2 k3) xs []) .none (tH p v g e (macO p2 (t+400000) t' lim (.ref 18) (.ref 20) (.ref 21) (.ref 22)) xs [z1,z2,z3,z4,z5,z6])
   | some q=>Con B (d+8) 47 [.ref 0,.int (n+1),.int lim] (tH p v g e (macO p2 (t+400000) t l0 k0 k1 k2 k3) xs []) (.ref 24) (tH p v g e (macO p2 (t+400000) t' lim (.ref 18) (.ref 20) (.ref 21) (.ref 22)) xs
     ([z1,z2,z3,z4,z5,z6,.tup [.int (n+1),.int (q+1)],.list [.ref 26],.tup [.int (n+1),.int (q+1)],.tup [.int (n+1),.int (q+1)]]))):=by
 obtain ⟨fr',t',mk',chs',chg',X',hc,h1,h2⟩:=h none none none
 have hrun:Con B (d+7) 50 [.ref 0,.int (n+1)] (HM (mP p v p2 t lim g e xs) t (mk0 (nmOf p)) [] [] (T8 p 10 [])) (resA r) (HM (mP p v p2 t lim g e xs) t' mk' chs' chg' (T8 p 10 []++X')) :=
  con B 60 _ _ [.go 1,.l (.ret (resA r)) fr' (HM (mP p v p2 t lim g e xs) t' mk' chs' chg' (T8 p 10 []++X'))] (I2 hc trivial) (by kernel_rfl)
 have hm:=kC (σ:=tH p v g e (macO p2 (t+400000) t lim (.ref 18) k1 k2 k3) xs [.list [.int (-1)],.list [.int (-1),.int (-1)],.list [.int (-1)]]) (l:=19) (x:=.int (-1)) (n:=nmOf p) rfl (by exact ak [_] [] (.leI (.k 0) (.c N0)) [1] rfl) (by cases p <;> decide)
 have e1:=nT (p:=p) (v:=v) (p2:=p2) (t:=t) (lim:=lim) G
 have e2:=nU (p:=p) (v:=v) (p2:=p2) (t:=t) (lim:=lim) (t':=t') (kp:=[.int (-1),.int (-1)]) (mk':=mk') (chs':=chs') (chg':=chg') (X':=X') G
 cases r with
 | none =>
  refine ⟨t',.list [.int (-1)],.list [.int (-1),.int (-1)],.list [.int (-1)],.list (mk'.map (bak selR [] 23)),.list (chs'.map (bak selR [] 23)),.list (chg'.map (bak selR [] 23)),h1,h2,?_⟩
  exact con B 60 _ _ [.go 17,.vh (.ref 20) (tH p v g e (macO p2 (t+400000) t lim (.ref 18) k1 k2 k3) xs [.list [.int (-1)],.list [.int (-1),.int (-1)],.list [.int (-1)],.list (mk0 (nmOf p))]),.go 11,.s (some selR),.go 1,.h (HM (mP p v p2 t lim g e xs) t (mk0 (nmOf p)) [] [] (T8 p 10 [])),.c .none (HM (mP p v p2 t lim g e xs) t' mk' chs' chg' (T8 p 10 []++X')),.s (some []),.go 1,
    .h (tH p v g e (macO p2 (t+400000) t' lim (.ref 18) (.ref 20) (.ref 21) (.ref 22)) xs [.list [.int (-1)],.list [.int (-1),.int (-1)],.list [.int (-1)],.list (mk'.map (bak selR [] 23)),.list (chs'.map (bak selR [] 23)),.list (chg'.map (bak selR [] 23))]),.go 9]
   (I2 hm (I2 e1 (I2 hrun (I2 e2 trivial)))) (by kernel_rfl)
 | some q =>
  refine ⟨t',.list [.int (-1)],.list [.int (n+1),.int (q+1)],.list [.int (-1)],.list (mk'.map (bak selR [] 23)),.list (chs'.map (bak selR [] 23)),.list (chg'.map (bak selR [] 23)),h1,h2,?_⟩
  exact con B 60 _ _ [.go 17,.vh (.ref 20) (tH p v g e (macO p2 (t+400000) t lim (.ref 18) k1 k2 k3) xs [.list [.int (-1)],.list [.int (-1),.int (-1)],.list [.int (-1)],.list (mk0 (nmOf p))]),.go 11,.s (some selR),.go 1,.h (HM (mP p v p2 t lim g e xs) t (mk0 (nmOf p)) [] [] (T8 p 10 [])),.c (.int (q+1)) (HM (mP p v p2 t lim g e xs) t' mk' chs' chg' (T8 p 10 []++X')),.s (some []),.go 1,
    .h (tH p v g e (macO p2 (t+400000) t' lim (.ref 18) (.ref 20) (.ref 21) (.ref 22)) xs [.list [.int (-1)],.list [.int (-1),.int (-1)],.list [.int (-1)],.list (mk'.map (bak selR [] 23)),.list (chs'.map (bak selR [] 23)),.list (chg'.map (bak selR [] 23))]),.go 36,.b false,.go 1,.b false,.go 20]
   (I2 hm (I2 e1 (I2 hrun (I2 e2 (I2 (dF (p:=(n:Int)+1<0) (by exact ak [_] [] (.n (.ltI (.a (.c N0) (.k 1)) (.k 0))) [1] rfl)) (I2 (dF (p:=(q:Int)+1<0) (by exact ak [_] [] (.n (.ltI (.a (.c N0) (.k 1)) (.k 0))) [1] rfl)) trivial)))))) (by kernel_rfl)
theorem mM (G:Gap L g e xs) (ht:0≤t∧t<1000000) (hn:n<5000) {r:Option Nat} (h:Rn B (d+6) (mP p v p2 t lim g e xs) T (resA r) t ((n:Int)+1) 0 (mk0 (nmOf p)) [] [] (T8 p 10 [])) :
  Ex7 fun t' z1 z2 z3 z4 z5 z6=>t≤t'∧t'≤T∧(match r with
   | none=>Con B (d+9) 48 [.ref 0,.int (n+1),.int lim] (tH p v g e (macO p2 s0 t l0 k0 k1 k2 k3) xs []) .none (tH p v g e (macO p2 (t+400000) t' lim (.ref 18) (.ref 20) (.ref 21) (.ref 22)) xs [z1,z2,z3,z4,z5,z6])
   | some q=>Con B (d+9) 48 [.ref 0,.int (n+1),.int lim] (tH p v g e (macO p2 s0 t l0 k0 k1 k2 k3) xs []) (.ref 24) (tH p v g e (macO p2 (t+400000) t' lim (.ref 18) (.ref 20) (.ref 21) (.ref 22)) xs
     ([z1,z2,z3,z4,z5,z6,.tup [.int (n+1),.int (q+1)],.list [.ref 26],.tup [.int (n+1),.int (q+1)],.tup [.int (n+1),.int (q+1)]]))):=by
 obtain ⟨t',z1,z2,z3,z4,z5,z6,h1,h2,hc⟩:=fX (l0:=l0) (k0:=k0) (k1:=k1) (k2:=k2) (k3:=k3) G ht hn h
 refine ⟨t',z1,z2,z3,z4,z5,z6,h1,h2,?_⟩
 cases r with
 | none=>exact con B 60 _ _ [.go 3,.b true,.go 7,.c .none (tH p v g e (macO p2 (t+400000) t' lim (.ref 18) (.ref 20) (.ref 21) (.ref 22)) xs [z1,z2,z3,z4,z5,z6])] (I2 tI (I2 hc trivial)) (by kernel_rfl)
 | some q=>exact con B 60 _ _ [.go 3,.b true,.go 7,.c (.ref 24) (tH p v g e (macO p2 (t+400000) t' lim (.ref 18) (.ref 20) (.ref 21) (.ref 22)) xs [z1,z2,z3,z4,z5,z6,.tup [.int (n+1),.int (q+1)],.list [.ref 26],.tup [.int (n+1),.int (q+1)],.tup [.int (n+1),.int (q+1)]])] (I2 tI (I2 hc trivial)) (by kernel_rfl)
end
noncomputable def fwB:List T:=match b_re_search_forward.body with | [_,_,.nd _ _ _ [_,_,b],_]=>kids b | _=>[]
noncomputable def fwT:T:=match b_re_search_forward.body with | [_,_,.nd _ _ _ [t,_,_],_]=>t | _=>stk
noncomputable def ConF (B:Base) (d:Nat) (t:T) (it:It) (b:List T) (fr:Fm) (σ:Hp) (w:Fw) (fr':Fm) (σ':Hp):Prop:=B.par.Cf d t it b fr σ w fr' σ'
theorem gJ (B:Base) (n d:Nat) (t:T) (it:It) (b:List T) {fr fr':Fm} {σ σ':Hp} {w:Fw} (s:List Sc) {Q:Prop} (hp:Q) (e:Runs ((B.ev n).fl d t it b fr s σ) (w,fr') σ'=(((w,fr')=(w,fr')∧σ'=σ')∧Q)):ConF B d t it b fr σ w fr' σ' :=
 fun _ _ _ _=>(snd B.F n).fl (Runs.by' hp e).ret
theorem iX {σ:Hp} {a b:Int} (h:a<b):some (if a<b then some (AV.int a,It.rng (a+1) b,σ) else Option.none)=some (some (AV.int a,It.rng (a+1) b,σ)):=by rw [if_pos h]
theorem lM {σ:Hp} {a b:Int} (h:¬ a<b):some (if a<b then some (AV.int a,It.rng (a+1) b,σ) else Option.none)=some Option.none:=by rw [if_neg h]
theorem mN {σ:Hp} {z:Int}:biV σ 1 [.int z,.int z]=some (.int z,σ):=by
 show some (AV.int (if z<z then z else z),σ)=_
 rw [if_neg (Int.lt_irrefl z)]
noncomputable def search (E:Nat→Option Nat):Nat→Nat→Option (Nat×Nat)
 | 0,_=>none
 | f+1,s=>match E s with | some q=>some (s,q) | none=>search E f (s+1)
noncomputable def macF (p2 s t lim:Int) (k0 k1 k2 k3:AV):AO:=.inst 6 [(74,.ref 3),(80,.ref 0),(81,.opq),(19,.int p2),(44,.int s),(82,.int t),(83,.int lim),(84,k0),(85,k1),(86,k2),(79,k3)]
noncomputable def sH (p:Pt) (v:BV) (g e:Int) (xs:List AV) (Z:Hp):Hp :=
 bufO v 1 13::gapO (.int 8) 2 g e::.list xs::codO p 4::rwO p 5::T8 p 5 Z
noncomputable def sHx (b:Hp) (v:BV) (g e:Int) (xs:List AV) (Z:Hp):Hp:=bufO v 1 13::gapO (.int 8) 2 g e::.list xs::(b++(mkO 14::.dict []::.list []::Z))
noncomputable def fHx (b:Hp) (v:BV) (g e:Int) (m:AO) (xs:List AV) (Z:Hp):Hp:=sHx b v g e xs (m::.list []::.list []::.list []::.list []::Z)
noncomputable def fH (p:Pt) (v:BV) (g e:Int) (m:AO) (xs:List AV) (Z:Hp):Hp:=sH p v g e xs (m::.list []::.list []::.list []::.list []::Z)
noncomputable def FF (place bound pt last:Int) (st fo:Option AV):Fm:=[some (.ref 0),some .opq,some (.int place),some (.ref 3),some (.int bound),some (.int pt),some (.ref 16),some (.int last),st,fo]
noncomputable abbrev selS:List Nat:=[16,0,1,2,3,4,5,6,7,8,9,10,11,12,13,14,15]
noncomputable def Finds (B:Base) (d:Nat) (p:Pt) (v:BV) (L:List Int) (g e p2:Int) (xs:List AV) (E:Nat→Option Nat):Prop :=
 ∀ s (t:Int),s≤L.length→0≤t→t<900000→Rn B (d+6) (mP p v p2 t v.zv g e xs) (t+6001) (resA (E s)) t ((s:Int)+1) 0 (mk0 (nmOf p)) [] [] (T8 p 10 [])
section
variable {B:Base} {d:Nat} {p:Pt} {v:BV} {L:List Int} {p2 g e:Int} {xs:List AV} {E:Nat→Option Nat}
theorem fwl (G:Gap L g e xs) (hz:v.zv=L.length+1) (hL:L.length≤90) (hE:Finds B d p v L g e p2 xs E) :
  ∀ f s,s+f=L.length+1→∀ {s0 l0 t place bound pt:Int} {k0 k1 k2 k3:AV} {st fo:Option AV},Mine.ren selS k0=.opq→Mine.ren selS k1=.opq→Mine.ren selS k2=.opq→Mine.ren selS k3=.opq→0≤t→t+6001 * f<900000 →
  match search E f s with
  | none=>∃ fr' mm,ConF B (d+9) fwT (.rng ((s:Int)+1) (v.zv+1)) fwB (FF place bound pt v.zv st fo) (fH p v g e (macF p2 s0 t l0 k0 k1 k2 k3) xs []) .next fr' (fH p v g e mm xs [])
  | some r=>∃ fr' mm,ConF B (d+9) fwT (.rng ((s:Int)+1) (v.zv+1)) fwB (FF place bound pt v.zv st fo) (fH p v g e (macF p2 s0 t l0 k0 k1 k2 k3) xs []) (.ret (.ref 21)) fr' (fH p v g e mm xs [.list [.ref 22],.tup [.int (r.1+1),.int (r.2+1)]]):=by
 intro f
 induction f with
 | zero =>
  intro s hs s0 l0 t place bound pt k0 k1 k2 k3 st fo _ _ _ _ _ _
  exact ⟨FF place bound pt v.zv st fo,macF p2 s0 t l0 k0 k1 k2 k3,gJ B 20 _ _ _ _ [.go 1,.b false] (I2 (lM (σ:=fH p v g e (macF p2 s0 t l0 k0 k1 k2 k3) xs []) (a:=(s:Int)+1) (b:=v.zv+1) (by exact ag [_,_] [_] (.n (.ltI (.a (.c N0) (.k 1)) (.a J0 (.k 1)))) (.eqI J0 (.a (.c N1) (.k 1))) (.eqN (.a N0 (.k 0)) (.a N1 (.k 1))) [1,1,-1] rfl hz hs)) trivial) (by kernel_rfl)⟩
 | succ f ih =>
  intro s hs s0 l0 t place bound pt k0 k1 k2 k3 st fo q0 q1 q2 q3 h0 ht
  have e1:((pick (fH p v g e (macF p2 s0 t l0 k0 k1 k2 k3) xs []) selS).map fun sub=>sub.map (mapO (Mine.ren selS)))=some (tH p v g e (macO p2 s0 t l0 .opq .opq .opq .opq) xs []) :=
   Eq.trans (b:=some (tHx ((cmpL p 3).map (mapO (Mine.ren selS))) v g e (macO p2 s0 t l0 (Mine.ren selS k0) (Mine.ren selS k1) (Mine.ren selS k2) (Mine.ren selS k3)) (xs.map (Mine.ren selS)) [])) (by kernel_rfl) (by rw [aj (f:=Mine.ren selS) (fun z9=>rfl) (fun z9=>rfl) (fun z9=>rfl) p (k:=3) (k':=4) rfl (i8 ⟨rfl,rfl,rfl,rfl,rfl,rfl,rfl,rfl⟩),q0,q1,q2,q3,G.ren (Mine.ren selS) fun z9=>rfl];rfl)
  have tr:=mM (p2:=p2) (s0:=s0) (l0:=l0) (lim:=v.zv) (k0:=.opq) (k1:=.opq) (k2:=.opq) (k3:=.opq) G ⟨h0,by exact aa [_] [_] (.ltI J0 (.k 1000000)) (.ltI (.a J0 (.m 6001 (.c (.a N0 (.k 1))))) (.k 900000)) [1,1] rfl ht⟩ (by exact ag [_,_,_] [] (.ltN N0 (.k 5000)) (.leN N1 (.k 90)) (.eqN (.a N0 (.a N2 (.k 1))) (.a N1 (.k 1))) [1,1,1] rfl hL hs) (hE s t (by exact aa [_,_,_] [] (.leN N0 N1) (.eqN (.a N0 (.a N2 (.k 1))) (.a N1 (.k 1))) [1,1] rfl hs) h0 (by exact aa [_] [_] (.ltI J0 (.k 900000)) (.ltI (.a J0 (.m 6001 (.c (.a N0 (.k 1))))) (.k 900000)) [1,1] rfl ht))
  unfold search
  cases hEs:E s with
  | none =>
   rw [hEs] at tr
   obtain ⟨t',z1,z2,z3,z4,z5,z6,h1,h2,hc⟩:=tr
   have e2:((pick (tH p v g e (macO p2 (t+400000) t' v.zv (.ref 18) (.ref 20) (.ref 21) (.ref 22)) xs [z1,z2,z3,z4,z5,z6]) []).map fun new=>wback (bak selS [] 21) selS (tH p v g e (macO p2 (t+400000) t' v.zv (.ref 18) (.ref 20) (.ref 21) (.ref 22)) xs [z1,z2,z3,z4,z5,z6]) (fH p v g e (macF p2 s0 t l0 k0 k1 k2 k3) xs [])++new.map (mapO (bak selS [] 21)))=some (fH p v g e (macF p2 (t+400000) t' v.zv .opq .opq .opq .opq) xs []) :=
    Eq.trans (b:=some (fHx ((cmpL p 4).map (mapO (bak selS [] 21))) v g e (macF p2 (t+400000) t' v.zv .opq .opq .opq .opq) (xs.map (bak selS [] 21)) [])) (by kernel_rfl) (by rw [aj (f:=bak selS [] 21) (fun z9=>rfl) (fun z9=>rfl) (fun z9=>rfl) p (k:=4) (k':=3) rfl (i8 ⟨rfl,rfl,rfl,rfl,rfl,rfl,rfl,rfl⟩),G.ren (bak selS [] 21) fun z9=>rfl];rfl)
   have hi:=ih (s+1) (by exact aK [_,_,_] [] (.eqN (.a (.a N0 (.k 1)) N1) (.a N2 (.k 1))) (.eqN (.a N0 (.a N1 (.k 1))) (.a N2 (.k 1))) [1,1] [1,-1] rfl hs) (s0:=t+400000) (l0:=v.zv) (t:=t') (place:=place) (bound:=bound) (pt:=pt) (k0:=.opq) (k1:=.opq) (k2:=.opq) (k3:=.opq) (st:=some (.int ((s:Int)+1))) (fo:=some .none) rfl rfl rfl rfl (by exact ag [] [_,_] (.leI (.k 0) J0) (.leI (.k 0) J1) (.leI J1 J0) [1,1,1] rfl h0 h1) (by exact ag [_] [_,_] (.ltI (.a J0 (.m 6001 (.c N0))) (.k 900000)) (.ltI (.a J1 (.m 6001 (.c (.a N0 (.k 1))))) (.k 900000)) (.leI J0 (.a J1 (.k 6001))) [1,1,1] rfl ht h2)
   have go:∀ w fr' σ',ConF B (d+9) fwT (.rng (((s+1:Nat):Int)+1) (v.zv+1)) fwB (FF place bound pt v.zv (some (.int ((s:Int)+1))) (some .none)) (fH p v g e (macF p2 (t+400000) t' v.zv .opq .opq .opq .opq) xs []) w fr' σ' →
     ConF B (d+9) fwT (.rng ((s:Int)+1) (v.zv+1)) fwB (FF place bound pt v.zv st fo) (fH p v g e (macF p2 s0 t l0 k0 k1 k2 k3) xs []) w fr' σ':=fun w fr' σ' hn =>
    gJ B 40 _ _ _ _ [.go 1,.b true,.go 4,.s (some selS),.go 1,.h (tH p v g e (macO p2 s0 t l0 .opq .opq .opq .opq) xs []),.c .none (tH p v g e (macO p2 (t+400000) t' v.zv (.ref 18) (.ref 20) (.ref 21) (.ref 22)) xs [z1,z2,z3,z4,z5,z6]),.s (some []),.go 1,
      .h (fH p v g e (macF p2 (t+400000) t' v.zv .opq .opq .opq .opq) xs []),.go 2,.l w fr' σ']
     (I2 (iX (σ:=fH p v g e (macF p2 s0 t l0 k0 k1 k2 k3) xs []) (a:=(s:Int)+1) (b:=v.zv+1) (by exact ag [_,_,_] [_] (.ltI (.a (.c N0) (.k 1)) (.a J0 (.k 1))) (.eqI J0 (.a (.c N1) (.k 1))) (.eqN (.a N0 (.a N2 (.k 1))) (.a N1 (.k 1))) [1,-1,1] rfl hz hs)) (I2 e1 (I2 hc (I2 e2 (I2 hn trivial))))) (by kernel_rfl)
   dsimp only
   revert hi
   cases search E f (s+1) with
   | none=>exact fun ⟨fr',mm,h⟩=>⟨fr',mm,go _ _ _ h⟩
   | some r=>exact fun ⟨fr',mm,h⟩=>⟨fr',mm,go _ _ _ h⟩
  | some q =>
   rw [hEs] at tr
   obtain ⟨t',z1,z2,z3,z4,z5,z6,h1,h2,hc⟩:=tr
   have e2:((pick (tH p v g e (macO p2 (t+400000) t' v.zv (.ref 18) (.ref 20) (.ref 21) (.ref 22)) xs [z1,z2,z3,z4,z5,z6,.tup [.int (s+1),.int (q+1)],.list [.ref 26],.tup [.int (s+1),.int (q+1)],.tup [.int (s+1),.int (q+1)]]) [24,26]).map fun new=>wback (bak selS [24,26] 21) selS (tH p v g e (macO p2 (t+400000) t' v.zv (.ref 18) (.ref 20) (.ref 21) (.ref 22)) xs [z1,z2,z3,z4,z5,z6,.tup [.int (s+1),.int (q+1)],.list [.ref 26],.tup [.int (s+1),.int (q+1)],.tup [.int (s+1),.int (q+1)]]) (fH p v g e (macF p2 s0 t l0 k0 k1 k2 k3) xs [])++new.map (mapO (bak selS [24,26] 21)))=some (fH p v g e (macF p2 (t+400000) t' v.zv .opq .opq .opq .opq) xs [.list [.ref 22],.tup [.int (s+1),.int (q+1)]]) :=
    Eq.trans (b:=some (fHx ((cmpL p 4).map (mapO (bak selS [24,26] 21))) v g e (macF p2 (t+400000) t' v.zv .opq .opq .opq .opq) (xs.map (bak selS [24,26] 21)) [.list [.ref 22],.tup [.int (s+1),.int (q+1)]])) (by kernel_rfl) (by rw [aj (f:=bak selS [24,26] 21) (fun z9=>rfl) (fun z9=>rfl) (fun z9=>rfl) p (k:=4) (k':=3) rfl (i8 ⟨rfl,rfl,rfl,rfl,rfl,rfl,rfl,rfl⟩),G.ren (bak selS [24,26] 21) fun z9=>rfl];rfl)
   exact ⟨FF place bound pt v.zv (some (.int ((s:Int)+1))) (some (.ref 21)),macF p2 (t+400000) t' v.zv .opq .opq .opq .opq,gJ B 40 _ _ _ _ [.go 1,.b true,.go 4,.s (some selS),.go 1,.h (tH p v g e (macO p2 s0 t l0 .opq .opq .opq .opq) xs []),
      .c (.ref 24) (tH p v g e (macO p2 (t+400000) t' v.zv (.ref 18) (.ref 20) (.ref 21) (.ref 22)) xs [z1,z2,z3,z4,z5,z6,.tup [.int (s+1),.int (q+1)],.list [.ref 26],.tup [.int (s+1),.int (q+1)],.tup [.int (s+1),.int (q+1)]]),.s (some [24,26]),.go 1,
      .h (fH p v g e (macF p2 (t+400000) t' v.zv .opq .opq .opq .opq) xs [.list [.ref 22],.tup [.int (s+1),.int (q+1)]]),.go 9]
     (I2 (iX (σ:=fH p v g e (macF p2 s0 t l0 k0 k1 k2 k3) xs []) (a:=(s:Int)+1) (b:=v.zv+1) (by exact ag [_,_,_] [_] (.ltI (.a (.c N0) (.k 1)) (.a J0 (.k 1))) (.eqI J0 (.a (.c N1) (.k 1))) (.eqN (.a N0 (.a N2 (.k 1))) (.a N1 (.k 1))) [1,-1,1] rfl hz hs)) (I2 e1 (I2 hc (I2 e2 trivial)))) (by kernel_rfl)⟩
theorem fwd (G:Gap L g e xs) (hz:v.zv=L.length+1) (hL:L.length≤90) {n:Nat} (hn:n≤L.length) (hE:Finds B d p v L g e p2 xs E) :
  match search E (L.length+1 - n) n with
  | none=>∃ mm,Con B (d+10) 56 [.ref 0,.opq,.int (n+1),.ref 3,.int v.zv,.int p2] (sH p v g e xs []) .none (fH p v g e mm xs [])
  | some r=>∃ mm,Con B (d+10) 56 [.ref 0,.opq,.int (n+1),.ref 3,.int v.zv,.int p2] (sH p v g e xs []) (.ref 21) (fH p v g e mm xs [.list [.ref 22],.tup [.int (r.1+1),.int (r.2+1)]]):=by
 have hi:=fwl (d:=d) (p2:=p2) G hz hL hE (L.length+1 - n) n (by exact aB [_,_,_] [] (.eqN (.a N0 N1) (.a N2 (.k 1))) (.leN (.a N2 (.k 1)) (.a N1 N0)) (.eqN (.a N1 N0) (.a N2 (.k 1))) [1,0,1] [1,1,0] rfl (af _ _) (ab (aa [_,_] [] (.leN N0 (.a N1 (.k 1))) (.leN N0 N1) [1,1] rfl hn))) (s0:=400000) (l0:=0) (t:=0) (place:=(n:Int)+1) (bound:=v.zv) (pt:=p2) (k0:=.ref 17) (k1:=.ref 18) (k2:=.ref 19) (k3:=.ref 20) (st:=none) (fo:=none) rfl rfl rfl rfl (by exact ak [] [] (.leI (.k 0) (.k 0)) [1] rfl) (by exact ag [_,_] [] (.ltI (.a (.k 0) (.m 6001 (.c N0))) (.k 900000)) (.leN N1 (.k 90)) (.leN N0 (.a N1 (.k 1))) [1,6001,6001] rfl hL (Nat.sub_le _ _))
 have go:∀ a fr' σ',ConF B (d+9) fwT (.rng ((n:Int)+1) (v.zv+1)) fwB (FF ((n:Int)+1) v.zv p2 v.zv none none) (fH p v g e (macF p2 400000 0 0 (.ref 17) (.ref 18) (.ref 19) (.ref 20)) xs []) a fr' σ'→(∃ r,a=.ret r∧Con B (d+10) 56 [.ref 0,.opq,.int (n+1),.ref 3,.int v.zv,.int p2] (sH p v g e xs []) r σ')∨(a=.next∧Con B (d+10) 56 [.ref 0,.opq,.int (n+1),.ref 3,.int v.zv,.int p2] (sH p v g e xs []) .none σ')∨a=.brk∨a=.cont:=fun a fr' σ' h =>
  match a,h with
  | .ret r,h=>.inl ⟨r,rfl,con B 60 _ _ [.go 45,.v (.int v.zv),.go 2,.b true,.b true,.b true,.l (.ret r) fr' σ']
   (I2 (mN (σ:=fH p v g e (macF p2 400000 0 0 (.ref 17) (.ref 18) (.ref 19) (.ref 20)) xs []) (z:=v.zv)) (I2 tI (I2 (sZ (i:=(n:Int)+1) (by exact I2 (ak [_] [] (.leI (.k 0) (.a (.c N0) (.k 1))) [1] rfl) (ag [_,_] [] (.leI (.a (.c N0) (.k 1)) (.k 1000)) (.leN N1 (.k 90)) (.leN N0 N1) [1,1,1] rfl hL hn))) (I2 (sZ (i:=v.zv+1) (by exact I2 (aa [_] [_] (.leI (.k 0) (.a J0 (.k 1))) (.eqI J0 (.a (.c N0) (.k 1))) [1,-1] rfl hz) (ag [_] [_] (.leI (.a J0 (.k 1)) (.k 1000)) (.eqI J0 (.a (.c N0) (.k 1))) (.leN N0 (.k 90)) [1,1,1] rfl hz hL))) (I2 h trivial))))) (by kernel_rfl)⟩
  | .next,h=>.inr (.inl ⟨rfl,con B 60 _ _ [.go 45,.v (.int v.zv),.go 2,.b true,.b true,.b true,.l .next fr' σ']
   (I2 (mN (σ:=fH p v g e (macF p2 400000 0 0 (.ref 17) (.ref 18) (.ref 19) (.ref 20)) xs []) (z:=v.zv)) (I2 tI (I2 (sZ (i:=(n:Int)+1) (by exact I2 (ak [_] [] (.leI (.k 0) (.a (.c N0) (.k 1))) [1] rfl) (ag [_,_] [] (.leI (.a (.c N0) (.k 1)) (.k 1000)) (.leN N1 (.k 90)) (.leN N0 N1) [1,1,1] rfl hL hn))) (I2 (sZ (i:=v.zv+1) (by exact I2 (aa [_] [_] (.leI (.k 0) (.a J0 (.k 1))) (.eqI J0 (.a (.c N0) (.k 1))) [1,-1] rfl hz) (ag [_] [_] (.leI (.a J0 (.k 1)) (.k 1000)) (.eqI J0 (.a (.c N0) (.k 1))) (.leN N0 (.k 90)) [1,1,1] rfl hz hL))) (I2 h trivial))))) (by kernel_rfl)⟩)
  | .brk,_=>.inr (.inr (.inl rfl))
  | .cont,_=>.inr (.inr (.inr rfl))
 revert hi
 cases search E (L.length+1 - n) n with
 | none =>
  exact fun ⟨fr',mm,h⟩=>⟨mm,match go _ _ _ h with | .inl ⟨_,h,_⟩=>nomatch h | .inr (.inl ⟨_,h⟩)=>h | .inr (.inr (.inl h))=>nomatch h | .inr (.inr (.inr h))=>nomatch h⟩
 | some r =>
  exact fun ⟨fr',mm,h⟩=>⟨mm,match go _ _ _ h with | .inl ⟨_,rfl,h⟩=>h | .inr (.inl ⟨h,_⟩)=>nomatch h | .inr (.inr (.inl h))=>nomatch h | .inr (.inr (.inr h))=>nomatch h⟩
end
theorem dk (B:Base) (n d f:Nat) {vs:List AV} {σ σ':Hp} {r:AV} (s:List Sc) {P:Prop} (hp:P) (e:Runs ((B.ev n).call d f vs s σ) r σ'=((r=r∧σ'=σ')∧P)):Con B d f vs σ r σ' :=
 (snd B.F n).call (Runs.by' hp e).ret
noncomputable def sub {α:Type} (l:List α) (s e:Nat):List α:=(l.drop s).take (e - s)
theorem aX {α β:Type} (f:α→β) (l:List α) (s e:Nat):sub (l.map f) s e=(sub l s e).map f:=by
 unfold sub;rw [← List.map_drop,← List.map_take]
theorem bC {n i:Nat} (h:i≤n):adj n (i:Int)=i:=by
 unfold adj
 rw [if_neg (by exact ak [_] [] (.n (.ltI (.c N0) (.k 0))) [1] rfl),Int.toNat_natCast,Nat.min_eq_left h]
theorem cb {σ:Hp} {l s e:Nat} {xs:List AV} (h:σ[l]?=some (.list xs)) (h1:s≤xs.length) (h2:e≤xs.length):sliceV σ (.ref l) (.int s) (.int e)=some (AV.ref σ.length,σ++[AO.list (sub xs s e)]):=by
 show (match readL σ l with | some xs=>(match sliceL xs (.int s) (.int e) with | some ys=>some (AV.ref σ.length,σ++[AO.list ys]) | none=>none) | none=>none)=_
 have hl:readL σ l=some xs:=by unfold readL;rw [h]
 rw [hl]
 have hs:sliceL xs (.int s) (.int e)=some (sub xs s e):=by
  show some ((xs.drop (adj xs.length s)).take (adj xs.length e - adj xs.length s))=_
  rw [bC h1,bC h2];rfl
 dsimp only
 rw [hs]
theorem iY {σ:Hp} {i j:Nat} {xs ys:List AV} (h:σ[i]?=some (.list xs)) (h':σ[j]?=some (.list ys)) (hl:xs.length+ys.length≤10000):binV σ 0 (.ref i) (.ref j)=some (AV.ref σ.length,σ++[AO.list (xs++ys)]):=by
 show (match listAt σ i with | some xs=>(match listAt σ j with | some ys=>allocL (xs++ys) σ | none=>none) | none=>none)=_
 have e1:listAt σ i=some xs:=by unfold listAt;rw [h]
 have e2:listAt σ j=some ys:=by unfold listAt;rw [h']
 rw [e1,e2]
 dsimp only
 unfold allocL
 rw [if_pos (by rw [List.length_append];exact hl)]
theorem fY {α:Type} {A J C:List α} {s e:Nat} (h:e≤A.length):sub (A++J++C) s e=sub (A++C) s e:=by
 unfold sub
 rw [← List.drop_take,← List.drop_take,List.append_assoc,List.take_append_of_le_length h,List.take_append_of_le_length h]
theorem iZ {α:Type} {A J C:List α} {s:Nat} (h:A.length≤s):(A++J++C).drop (s+J.length)=(A++C).drop s:=by
 have e1:(A++J).drop (s+J.length)=[]:=List.drop_eq_nil_of_le (by rw [List.length_append];exact aa [_,_,_] [] (.leN (.a N0 N1) (.a N2 N1)) (.leN N0 N2) [1,1] rfl h)
 have e2:A.drop s=[]:=List.drop_eq_nil_of_le h
 have e3:(A++J++C).drop (s+J.length)=(A++J).drop (s+J.length)++C.drop (s+J.length - (A++J).length):=List.drop_append
 have e4:(A++C).drop s=A.drop s++C.drop (s - A.length):=List.drop_append
 rw [e3,e4,e1,e2,List.nil_append,List.nil_append,List.length_append]
 congr 1
 exact bp [_,_,_,_,_] [] (.eqN N0 N1) (.leN (.a N2 N3) (.a N0 (.a N4 N3))) (.leN N2 (.a N1 N4)) (.eqN (.a N0 (.a N4 N3)) (.a N2 N3)) (.eqN (.a N1 N4) N2) [1,0,1,1,0] [1,1,0,0,1] rfl (af _ _) (af _ _) (ab (aa [_,_,_] [] (.leN (.a N0 N1) (.a N2 N1)) (.leN N0 N2) [1,1] rfl h)) (ab (h))
theorem eL {α:Type} {A J C:List α} {s e:Nat} (h:A.length≤s):sub (A++J++C) (s+J.length) (e+J.length)=sub (A++C) s e:=by
 unfold sub
 rw [Nat.add_sub_add_right,iZ h]
theorem j0 {α:Type} {A J C:List α} {s e:Nat} (h1:s≤A.length) (h2:A.length≤e):sub (A++J++C) s A.length++sub (A++J++C) (A.length+J.length) (e+J.length)=sub (A++C) s e:=by
 have e1:sub (A++J++C) s A.length=A.drop s:=by
  rw [fY (Nat.le_refl _)]
  unfold sub
  rw [← List.drop_take,List.take_append_of_le_length (Nat.le_refl _),List.take_length]
 have e2:sub (A++J++C) (A.length+J.length) (e+J.length)=C.take (e - A.length):=by
  rw [eL (Nat.le_refl _)]
  unfold sub
  rw [List.drop_append_of_le_length (Nat.le_refl _),List.drop_length,List.nil_append]
 rw [e1,e2]
 unfold sub
 have e3:(A.drop s).take (e - s)=A.drop s:=List.take_of_length_le (by rw [List.length_drop];exact aq [_,_,_,_,_] [] (.leN N0 N1) (.leN N2 N3) (.leN N3 (.a N1 N4)) (.eqN (.a N0 N4) N2) [1,1,1,1] rfl h2 (af _ _) (ab (h1)))
 rw [List.drop_append_of_le_length h1,List.take_append,e3,List.length_drop]
 congr 2
 exact cy [_,_,_,_,_,_,_] [] (.eqN N0 N1) (.leN N2 (.a N0 N3)) (.leN N2 (.a N4 N5)) (.leN N3 (.a N6 N5)) (.leN N4 (.a N1 N6)) (.eqN (.a N0 N3) N2) (.eqN (.a N4 N5) N2) (.eqN (.a N6 N5) N3) (.eqN (.a N1 N6) N4) [1,0,1,0,1,1,0,1,0] [1,1,0,1,0,0,1,0,1] rfl (af _ _) (af _ _) (af _ _) (af _ _) (ab (h2)) (ab (ag [_,_,_] [] (.leN N0 N1) (.leN N0 N2) (.leN N2 N1) [1,1,1] rfl h1 h2)) (ab (h1)) (ab (aq [_,_,_,_,_] [] (.leN N0 N1) (.leN N2 N3) (.leN N3 (.a N1 N4)) (.eqN (.a N0 N4) N2) [1,1,1,1] rfl h2 (af _ _) (ab (h1))))
section
variable {B:Base} {d:Nat} {room:AV} {A J C:List Int} {s e:Nat}
noncomputable abbrev gH (A J C:List Int) (Z:Hp):Hp:=gapO (.int 8) 1 A.length (A.length+J.length)::.list ((A++J++C).map .int)::Z
noncomputable abbrev gH' (A J C:List Int) (c:List AV) (Z:Hp):Hp:=gapO (.int 8) 1 A.length (A.length+J.length)::.list c::Z
theorem fq {Z:Hp} (f:AV→AV) (hf:∀ i,f (.int i)=.int i):some (gH' A J C (((A++J++C).map AV.int).map f) Z)=some (gH A J C Z):=by rw [ac f hf]
theorem d7 {l:List Int} (f:AV→AV) (hf:∀ i,f (.int i)=.int i):some (gH' A J C (((A++J++C).map AV.int).map f) [.list ((l.map AV.int).map f)])=some (gH A J C [.list (l.map .int)]):=by rw [ac f hf,ac f hf]
theorem d8 {Z:Hp} {s e:Nat} {l:List Int} (h1:s≤(A++J++C).length) (h2:e≤(A++J++C).length) (hl:sub (A++J++C) s e=l):sliceV (gH A J C Z) (.ref 1) (.int s) (.int e)=some (.ref (Z.length+2),gH A J C (Z++[.list (l.map .int)])):=by
 have:=cb (σ:=gH A J C Z) (l:=1) (s:=s) (e:=e) (xs:=(A++J++C).map .int) rfl (by rw [List.length_map];exact h1) (by rw [List.length_map];exact h2)
 rw [aX,hl] at this
 exact this
theorem j5 (hlen:(A++J++C).length≤5000) (h1:s≤e) (h2:e≤(A++C).length) :
  Con B (d+1) 27 [.ref 0,.int s,.int e] (gH A J C []) (.ref 2) (gH A J C [.list ((sub (A++C) s e).map .int)]):=by
 have hl2:(A++J++C).length=A.length+J.length+C.length:=by rw [List.length_append,List.length_append]
 have hl3:(A++C).length=A.length+C.length:=List.length_append
 by_cases p1:e≤A.length
 ·exact dk B 40 _ _ [.s (some [0,1]),.go 1,.h (gH A J C []),.go 5,.b true,.go 3,.b true,.go 4,.vh (.ref 2) (gH A J C [.list ((sub (A++C) s e).map .int)]),.s (some [2]),.go 1,.h (gH A J C [.list ((sub (A++C) s e).map .int)])]
   (I2 (fq (A:=A) (J:=J) (C:=C) (Z:=[]) (Mine.ren [0,1]) fun z9=>rfl) (I2 tI (I2 (dT (p:=(e:Int)≤A.length) (by exact aa [_,_] [] (.leI (.c N0) (.c N1)) (.leN N0 N1) [1,1] rfl p1)) (I2 (d8 (A:=A) (J:=J) (C:=C) (Z:=[]) (s:=s) (e:=e) (by exact aq [_,_,_,_,_,_] [] (.leN N0 N1) (.leN N0 N2) (.eqN N1 (.a (.a N3 N4) N5)) (.leN N2 N3) [1,1,-1,1] rfl h1 hl2 p1) (by exact ag [_,_,_,_,_] [] (.leN N0 N1) (.eqN N1 (.a (.a N2 N3) N4)) (.leN N0 N2) [1,-1,1] rfl hl2 p1) (fY p1))
   (I2 (d7 (A:=A) (J:=J) (C:=C) (l:=sub (A++C) s e) (bak [0,1] [2] 2) fun z9=>rfl) trivial))))) (by kernel_rfl)
 ·by_cases p2:A.length≤s
  ·have e1:(s:Int)+((A.length:Int)+J.length - A.length)=((s+J.length:Nat):Int):=by exact au [_,_,_] [] (.eqI (.a (.c N0) (.s (.a (.c N1) (.c N2)) (.c N1))) (.c (.a N0 N2))) [1] [1] rfl
   have e2:(e:Int)+((A.length:Int)+J.length - A.length)=((e+J.length:Nat):Int):=by exact au [_,_,_] [] (.eqI (.a (.c N0) (.s (.a (.c N1) (.c N2)) (.c N1))) (.c (.a N0 N2))) [1] [1] rfl
   have hs:=d8 (A:=A) (J:=J) (C:=C) (Z:=[]) (s:=s+J.length) (e:=e+J.length) (by exact bR [_,_,_,_,_,_,_] [] (.leN (.a N0 N1) N2) (.leN N0 N3) (.leN N3 N4) (.eqN N2 (.a (.a N5 N1) N6)) (.eqN N4 (.a N5 N6)) [1,1,1,-1,1] rfl h1 h2 hl2 hl3) (by exact aq [_,_,_,_,_,_] [] (.leN (.a N0 N1) N2) (.leN N0 N3) (.eqN N2 (.a (.a N4 N1) N5)) (.eqN N3 (.a N4 N5)) [1,1,-1,1] rfl h2 hl2 hl3) (eL p2)
   rw [← e1,← e2] at hs
   exact dk B 40 _ _ [.s (some [0,1]),.go 1,.h (gH A J C []),.go 5,.b true,.go 3,.b false,.go 3,.b true,.go 4,.b true,.go 2,.b true,.vh (.ref 2) (gH A J C [.list ((sub (A++C) s e).map .int)]),.s (some [2]),.go 1,.h (gH A J C [.list ((sub (A++C) s e).map .int)])]
    (I2 (fq (A:=A) (J:=J) (C:=C) (Z:=[]) (Mine.ren [0,1]) fun z9=>rfl) (I2 tI (I2 (dF (p:=(e:Int)≤A.length) (by exact aa [_,_] [] (.n (.leI (.c N0) (.c N1))) (.n (.leN N0 N1)) [1,1] rfl p1)) (I2 (dT (p:=(s:Int) ≥ A.length) (by exact aa [_,_] [] (.leI (.c N0) (.c N1)) (.leN N0 N1) [1,1] rfl p2))
    (I2 tI (I2 tI (I2 hs
    (I2 (d7 (A:=A) (J:=J) (C:=C) (l:=sub (A++C) s e) (bak [0,1] [2] 2) fun z9=>rfl) trivial)))))))) (by kernel_rfl)
  ·have e2:(e:Int)+((A.length:Int)+J.length - A.length)=((e+J.length:Nat):Int):=by exact au [_,_,_] [] (.eqI (.a (.c N0) (.s (.a (.c N1) (.c N2)) (.c N1))) (.c (.a N0 N2))) [1] [1] rfl
   have hs1:=d8 (A:=A) (J:=J) (C:=C) (Z:=[]) (s:=s) (e:=A.length) (by exact ag [_,_,_,_,_] [] (.leN N0 N1) (.eqN N1 (.a (.a N2 N3) N4)) (.n (.leN N2 N0)) [1,-1,1] rfl hl2 p2) (by exact aa [_,_,_,_] [] (.leN N0 N1) (.eqN N1 (.a (.a N0 N2) N3)) [1,-1] rfl hl2) rfl
   have hs2:=d8 (A:=A) (J:=J) (C:=C) (Z:=[.list ((sub (A++J++C) s A.length).map .int)]) (s:=A.length+J.length) (e:=e+J.length) (by exact aa [_,_,_,_] [] (.leN (.a N0 N1) N2) (.eqN N2 (.a (.a N0 N1) N3)) [1,-1] rfl hl2) (by exact aq [_,_,_,_,_,_] [] (.leN (.a N0 N1) N2) (.leN N0 N3) (.eqN N2 (.a (.a N4 N1) N5)) (.eqN N3 (.a N4 N5)) [1,1,-1,1] rfl h2 hl2 hl3) rfl
   rw [← e2] at hs2
   have hm:=j0 (A:=A) (J:=J) (C:=C) (s:=s) (e:=e) (by exact aa [_,_] [] (.leN N0 N1) (.n (.leN N1 N0)) [1,1] rfl p2) (by exact aa [_,_] [] (.leN N0 N1) (.n (.leN N1 N0)) [1,1] rfl p1)
   have ha:=iY (σ:=gH A J C [.list ((sub (A++J++C) s A.length).map .int),.list ((sub (A++J++C) (A.length+J.length) (e+J.length)).map .int)]) (i:=2) (j:=3) rfl rfl (by rw [← List.length_append,← List.map_append,hm,List.length_map];unfold sub;rw [List.length_take,List.length_drop];exact bS [_,_,_,_,_,_,_] [] (.leN N0 (.k 10000)) (.leN N1 (.k 5000)) (.eqN N1 (.a (.a N2 N3) N4)) (.eqN N5 (.a N2 N4)) (.leN N6 N5) (.leN N0 N6) [1,1,-1,1,1,1] rfl hlen hl2 hl3 (Nat.sub_le _ _) (Nat.min_le_right _ _))
   rw [← List.map_append,hm] at ha
   have e3:((A.length+J.length:Nat):Int)=(A.length:Int)+J.length:=by exact au [_,_] [] (.eqI (.c (.a N0 N1)) (.a (.c N0) (.c N1))) [1] [1] rfl
   rw [e3] at hs2
   exact dk B 40 _ _ [.s (some [0,1]),.go 1,.h (gH A J C []),.go 5,.b true,.go 3,.b false,.go 3,.b false,.go 5,.vh (.ref 2) (gH A J C [.list ((sub (A++J++C) s A.length).map .int)]),.go 6,.b true,.vh (.ref 3) (gH A J C [.list ((sub (A++J++C) s A.length).map .int),.list ((sub (A++J++C) (A.length+J.length) (e+J.length)).map .int)]),
     .vh (.ref 4) (gH A J C [.list ((sub (A++J++C) s A.length).map .int),.list ((sub (A++J++C) (A.length+J.length) (e+J.length)).map .int),.list ((sub (A++C) s e).map .int)]),.s (some [4]),.go 1,.h (gH A J C [.list ((sub (A++C) s e).map .int)])]
    (I2 (fq (A:=A) (J:=J) (C:=C) (Z:=[]) (Mine.ren [0,1]) fun z9=>rfl) (I2 tI (I2 (dF (p:=(e:Int)≤A.length) (by exact aa [_,_] [] (.n (.leI (.c N0) (.c N1))) (.n (.leN N0 N1)) [1,1] rfl p1)) (I2 (dF (p:=(s:Int) ≥ A.length) (by exact aa [_,_] [] (.n (.leI (.c N0) (.c N1))) (.n (.leN N0 N1)) [1,1] rfl p2))
    (I2 hs1 (I2 tI (I2 hs2 (I2 ha
    (I2 (d7 (A:=A) (J:=J) (C:=C) (l:=sub (A++C) s e) (bak [0,1] [4] 2) fun z9=>rfl) trivial))))))))) (by kernel_rfl)
end
noncomputable abbrev gR (g e:Int) (xs:List AV) (Z:Hp):Hp:=gapO (.int 8) 1 g e::.list xs::Z
structure GapN (L:List Int) (a j:Nat) (xs:List AV):Prop where
 ex:∃ J:List Int,J.length=j∧xs=(L.take a++J++L.drop a).map .int
 le:a≤L.length
 lim:L.length+j≤4000
theorem GapN.len {L:List Int} {a j:Nat} {xs:List AV} (G:GapN L a j xs):xs.length=L.length+j:=by
 obtain ⟨J,rfl,rfl⟩:=G.ex
 have:=G.le
 simp only [List.length_map,List.length_append,List.length_take,List.length_drop]
 exact bp [_,_,_,_,_] [] (.eqN (.a (.a N0 N1) N2) (.a N3 N1)) (.leN N0 N4) (.leN N3 (.a N2 N4)) (.eqN N0 N4) (.eqN (.a N2 N4) N3) [1,1,0,0,1] [1,0,1,-1,0] rfl (Nat.min_le_left _ _) (af _ _) (Nat.min_eq_left (this)) (ab (this))
theorem GapN.gap {L:List Int} {a j:Nat} {xs:List AV} (G:GapN L a j xs):Gap L a (a+j) xs:=by
 have h:=G.len
 obtain ⟨J,rfl,rfl⟩:=G.ex
 have h1:=G.le
 have h2:=G.lim
 exact ⟨⟨L.take a,J,L.drop a,(List.take_append_drop a L).symm,rfl,by rw [List.length_take];exact aB [_,_] [] (.eqI (.c N0) (.c N1)) (.leN N1 N0) (.eqN N1 N0) [1,0,-1] [1,1,0] rfl (Nat.min_le_left _ _) (Nat.min_eq_left (h1)),by rw [List.length_take];exact aB [_,_,_] [] (.eqI (.a (.c N0) (.c N1)) (.a (.c N2) (.c N1))) (.leN N2 N0) (.eqN N2 N0) [1,0,-1] [1,1,0] rfl (Nat.min_le_left _ _) (Nat.min_eq_left (h1))⟩,by exact ag [_,_,_] [] (.leN N0 (.k 5000)) (.eqN N0 (.a N1 N2)) (.leN (.a N1 N2) (.k 4000)) [1,1,1] rfl h h2⟩
theorem bD (xs ys:List Int) {i j:Nat} (h1:i≤j) (h2:j≤xs.length):setSl (xs.map .int) (ys.map .int) i j=(xs.take i++ys++xs.drop j).map .int:=by
 unfold setSl
 rw [List.length_map,bC (Nat.le_trans h1 h2),bC h2,Nat.max_eq_right h1,← List.map_take,← List.map_drop,← List.map_append,← List.map_append]
theorem bj {σ:Hp} {l m:Nat} {lo hi:Int} {xs ys:List AV} (h:σ[l]?=some (.list xs)) (h':σ[m]?=some (.list ys)) (hm:l≠m) (hl:xs.length+ys.length≤10000):setSlice σ (.ref l) (.int lo) (.int hi) (.ref m)=some (σ.set l (.list (setSl xs ys lo hi))):=by
 show (match listAt σ l with | some xs=>(match listAt σ m with | some ys=>if l≠m∧xs.length+ys.length≤LIM then some (σ.set l (.list (setSl xs ys lo hi))) else none | none=>none) | none=>none)=_
 have e1:listAt σ l=some xs:=by unfold listAt;rw [h]
 have e2:listAt σ m=some ys:=by unfold listAt;rw [h']
 rw [e1,e2]
 dsimp only
 rw [if_pos ⟨hm,hl⟩]
theorem az {σ:Hp} {l n:Nat} {xs:List AV} (h:σ[l]?=some (.list xs)) (hn:xs.length=n):biV σ 0 [.ref l]=some (.int n,σ):=by
 show (match σ[l]? with | some (.list xs)=>some (AV.int xs.length,σ) | _=>none)=_
 rw [h,← hn]
theorem GapN.left {L:List Int} {a j k:Nat} {xs:List AV} (G:GapN L a j xs) (h:k<a):∃ ys:List Int,ys.length=a - k∧sub xs k a=ys.map .int∧GapN L k j (setSl xs (sub xs k a) ((k+j:Nat):Int) ((a+j:Nat):Int)):=by
 have hl:=G.len
 obtain ⟨J,rfl,rfl⟩:=G.ex
 have h1:=G.le
 have h2:=G.lim
 have e1:sub (L.take a++J++L.drop a) k a=(L.take a).drop k:=by
  unfold sub
  rw [← List.drop_take,List.append_assoc,List.take_append_of_le_length (by rw [List.length_take];exact aa [_,_] [] (.leN N0 N1) (.eqN N1 N0) [1,-1] rfl (Nat.min_eq_left (h1))),List.take_take,Nat.min_self]
 refine ⟨(L.take a).drop k,by rw [List.length_drop,List.length_take];exact kx [_,_,_,_,_] [] (.eqN N0 N1) (.leN N2 N3) (.leN N2 (.a N0 N4)) (.leN N3 (.a N1 N4)) (.eqN N2 N3) (.eqN (.a N0 N4) N2) (.eqN (.a N1 N4) N3) [1,1,0,1,0,1,0] [1,0,1,0,-1,0,1] rfl (Nat.min_le_left _ _) (af _ _) (af _ _) (Nat.min_eq_left (h1)) (ab (ag [_,_,_] [] (.leN N0 N1) (.ltN N0 N2) (.eqN N1 N2) [1,1,-1] rfl h (Nat.min_eq_left (h1)))) (ab (aa [_,_] [] (.leN N0 N1) (.ltN N0 N1) [1,1] rfl h)),by rw [aX,e1],⟨⟨((L.take a).drop k++J).take J.length,?_,?_⟩,by exact ag [_,_,_] [] (.leN N0 N1) (.ltN N0 N2) (.leN N2 N1) [1,1,1] rfl h h1,h2⟩⟩
 ·rw [List.length_take,List.length_append];exact (Nat.min_eq_left (ak [_,_] [] (.leN N0 (.a N1 N0)) [1] rfl))
 ·rw [aX,e1,bD _ _ (by exact aa [_,_,_] [] (.leN (.a N0 N1) (.a N2 N1)) (.ltN N0 N2) [1,1] rfl h) (by rw [List.length_map] at hl;exact ag [_,_,_,_] [] (.leN (.a N0 N1) N2) (.eqN N2 (.a N3 N1)) (.leN N0 N3) [1,-1,1] rfl hl h1)]
  congr 1
  have e2:L.take a=L.take k++(L.take a).drop k:=by
   have:=List.take_append_drop k (L.take a)
   rw [List.take_take,Nat.min_eq_left (by exact aa [_,_] [] (.leN N0 N1) (.ltN N0 N1) [1,1] rfl h)] at this
   exact this.symm
  have e3:(L.take a++J++L.drop a).take (k+J.length)=L.take k++((L.take a).drop k++J).take J.length:=by
   rw [List.take_append_of_le_length (by rw [List.length_append,List.length_take];exact ag [_,_,_,_] [] (.leN (.a N0 N1) (.a N2 N1)) (.ltN N0 N3) (.eqN N2 N3) [1,1,-1] rfl h (Nat.min_eq_left (h1)))]
   conv=>lhs;rw [e2,List.append_assoc]
   rw [List.take_append,List.take_of_length_le (by rw [List.length_take];exact aa [_,_,_] [] (.leN N0 (.a N1 N2)) (.leN N0 N1) [1,1] rfl (Nat.min_le_left _ _)),List.length_take,Nat.min_eq_left (by exact ag [_,_,_] [] (.leN N0 N1) (.ltN N0 N2) (.leN N2 N1) [1,1,1] rfl h h1),Nat.add_sub_cancel_left]
  have e4:(L.take a++J++L.drop a).drop (a+J.length)=L.drop a:=by
   have:=List.drop_append_of_le_length (l₁:=L.take a++J) (l₂:=L.drop a) (i:=a+J.length) (by rw [List.length_append,List.length_take];exact aa [_,_,_] [] (.leN (.a N0 N1) (.a N2 N1)) (.eqN N2 N0) [1,-1] rfl (Nat.min_eq_left (h1)))
   rw [this,List.drop_of_length_le (by rw [List.length_append,List.length_take];exact aa [_,_,_] [] (.leN (.a N0 N1) (.a N2 N1)) (.leN N0 N2) [1,1] rfl (Nat.min_le_left _ _)),List.nil_append]
  have e5:L.drop k=(L.take a).drop k++L.drop a:=by
   have:=congrArg (List.drop k) (List.take_append_drop a L)
   rw [List.drop_append_of_le_length (by rw [List.length_take];exact ag [_,_,_] [] (.leN N0 N1) (.ltN N0 N2) (.eqN N1 N2) [1,1,-1] rfl h (Nat.min_eq_left (h1)))] at this
   exact this.symm
  rw [e3,e4,e5]
  simp only [List.append_assoc]
theorem GapN.right {L:List Int} {a j k:Nat} {xs:List AV} (G:GapN L a j xs) (h:a≤k) (hk:k≤L.length):∃ ys:List Int,ys.length=k - a∧sub xs (a+j) (k+j)=ys.map .int∧GapN L k j (setSl xs (sub xs (a+j) (k+j)) (a:Int) (k:Int)):=by
 have hl:=G.len
 obtain ⟨J,rfl,rfl⟩:=G.ex
 have h2:=G.lim
 have hta:(L.take a).length=a:=by rw [List.length_take];exact (Nat.min_eq_left (ag [_,_,_] [] (.leN N0 N1) (.leN N0 N2) (.leN N2 N1) [1,1,1] rfl h hk))
 have e0:(L.take a++J++L.drop a).drop (a+J.length)=L.drop a:=by
  have:=List.drop_append_of_le_length (l₁:=L.take a++J) (l₂:=L.drop a) (i:=a+J.length) (by rw [List.length_append,hta];exact Nat.le_refl _)
  rw [this,List.drop_of_length_le (by rw [List.length_append,hta];exact Nat.le_refl _),List.nil_append]
 have e1:sub (L.take a++J++L.drop a) (a+J.length) (k+J.length)=(L.drop a).take (k - a):=by
  unfold sub
  rw [e0]
  congr 1;exact bp [_,_,_,_,_] [] (.eqN N0 N1) (.leN (.a N2 N3) (.a N0 (.a N4 N3))) (.leN N2 (.a N1 N4)) (.eqN (.a N0 (.a N4 N3)) (.a N2 N3)) (.eqN (.a N1 N4) N2) [1,0,1,1,0] [1,1,0,0,1] rfl (af _ _) (af _ _) (ab (aa [_,_,_] [] (.leN (.a N0 N1) (.a N2 N1)) (.leN N0 N2) [1,1] rfl h)) (ab (h))
 have hc1:((L.drop a).take (k - a)).length=k - a:=by rw [List.length_take,List.length_drop];exact (Nat.min_eq_left (aq [_,_,_,_,_] [] (.leN N0 N1) (.leN N2 N3) (.leN N3 (.a N1 N4)) (.eqN (.a N0 N4) N2) [1,1,1,1] rfl hk (af _ _) (ab (h))))
 refine ⟨(L.drop a).take (k - a),hc1,by rw [aX,e1],⟨⟨(J++(L.drop a).take (k - a)).drop (k - a),?_,?_⟩,hk,h2⟩⟩
 ·rw [List.length_drop,List.length_append,hc1];exact aB [_,_,_] [] (.eqN N0 N1) (.leN (.a N1 N2) (.a N0 N2)) (.eqN (.a N0 N2) (.a N1 N2)) [1,0,1] [1,1,0] rfl (af _ _) (ab (ak [_,_] [] (.leN N0 (.a N1 N0)) [1] rfl))
 ·rw [aX,e1,bD _ _ h (by rw [List.length_map] at hl;exact ag [_,_,_,_] [] (.leN N0 N1) (.leN N0 N2) (.eqN N1 (.a N2 N3)) [1,1,-1] rfl hk hl)]
  congr 1
  have e2:L.take k=L.take a++(L.drop a).take (k - a):=by
   have:=List.take_add (l:=L) (i:=a) (j:=k - a)
   rwa [show a+(k - a)=k by exact aB [_,_,_] [] (.eqN (.a N0 N1) N2) (.leN N2 (.a N1 N0)) (.eqN (.a N1 N0) N2) [1,0,1] [1,1,0] rfl (af _ _) (ab (h))] at this
  have e3:(L.take a++J++L.drop a).take a=L.take a:=by
   rw [List.append_assoc,List.take_append_of_le_length (by exact aa [_,_] [] (.leN N0 N1) (.eqN N1 N0) [1,-1] rfl hta),List.take_take,Nat.min_self]
  have e5:L.drop a=(L.drop a).take (k - a)++L.drop k:=by
   have:=List.take_append_drop (k - a) (L.drop a)
   rw [List.drop_drop,show a+(k - a)=k by exact aB [_,_,_] [] (.eqN (.a N0 N1) N2) (.leN N2 (.a N1 N0)) (.eqN (.a N1 N0) N2) [1,0,1] [1,1,0] rfl (af _ _) (ab (h))] at this
   exact this.symm
  have e4:(L.take a++J++L.drop a).drop k=(J++(L.drop a).take (k - a)).drop (k - a)++L.drop k:=by
   rw [List.append_assoc,List.drop_append,hta,List.drop_of_length_le (by exact ag [_,_,_] [] (.leN N0 N1) (.leN N2 N1) (.eqN N0 N2) [1,1,1] rfl h hta),List.nil_append]
   conv=>lhs;rw [e5,← List.append_assoc]
   rw [List.drop_append_of_le_length (by rw [List.length_append,hc1];exact ak [_,_] [] (.leN N0 (.a N1 N0)) [1] rfl)]
  rw [e3,e4,e2]
  simp only [List.append_assoc]
section
variable {B:Base} {d:Nat} {L:List Int} {a j k:Nat} {xs:List AV} {Z:Hp}
theorem ft (G:GapN L a j xs) (hk:k≤L.length) :
  ∃ xs' z,GapN L k j xs'∧Con B (d+1) 28 [.ref 0,.int k] (gR a (a+j) xs Z) .none (gR k (k+j) xs' (Z++[z])):=by
 have hl:=G.len
 have h1:=G.le
 have h2:=G.lim
 by_cases h:k<a
 ·obtain ⟨ys,hy,e1,G'⟩:=G.left h
  refine ⟨_,.list (ys.map .int),G',?_⟩
  have hsl:=cb (σ:=gR a (a+j) xs Z) (l:=1) (s:=k) (e:=a) rfl (by exact aq [_,_,_,_,_] [] (.leN N0 N1) (.eqN N1 (.a N2 N3)) (.leN N4 N2) (.ltN N0 N4) [1,-1,1,1] rfl hl h1 h) (by exact ag [_,_,_,_] [] (.leN N0 N1) (.eqN N1 (.a N2 N3)) (.leN N0 N2) [1,-1,1] rfl hl h1)
  rw [e1] at hsl ⊢
  have hy':(ys.map AV.int).length=a - k:=by rw [List.length_map,hy]
  have hlen:=az (σ:=gR a (a+j) xs (Z++[.list (ys.map .int)])) (l:=Z.length+2) (n:=a - k) (by show (Z++[_])[Z.length]?=_;exact List.getElem?_concat_length) hy'
  have hlen2:=az (σ:=gR a (a+j) (setSl xs (ys.map .int) ((k+j:Nat):Int) ((a+j:Nat):Int)) (Z++[.list (ys.map .int)])) (l:=Z.length+2) (n:=a - k) (by show (Z++[_])[Z.length]?=_;exact List.getElem?_concat_length) hy'
  have hset:=bj (σ:=gR a (a+j) xs (Z++[.list (ys.map .int)])) (l:=1) (m:=Z.length+2) (lo:=(a:Int)+j - (a - k:Nat)) (hi:=a+j) rfl (by show (Z++[_])[Z.length]?=_;exact List.getElem?_concat_length) (by omega) (by rw [hy'];exact bR [_,_,_,_,_] [] (.leN (.a N0 N1) (.k 10000)) (.eqN N0 (.a N2 N3)) (.leN N4 N2) (.leN (.a N2 N3) (.k 4000)) (.leN N1 N4) [1,1,1,2,1] rfl hl h1 h2 (Nat.sub_le _ _))
  have hlo:((a:Int)+j - (a - k:Nat))=((k+j:Nat):Int):=by exact aB [_,_,_,_] [] (.eqI (.s (.a (.c N0) (.c N1)) (.c N2)) (.c (.a N3 N1))) (.leN N0 (.a N2 N3)) (.eqN (.a N2 N3) N0) [1,1,0] [1,0,1] rfl (af _ _) (ab (aa [_,_] [] (.leN N0 N1) (.ltN N0 N1) [1,1] rfl h))
  have hhi:((a:Int)+j)=((a+j:Nat):Int):=by exact au [_,_] [] (.eqI (.a (.c N0) (.c N1)) (.c (.a N0 N1))) [1] [1] rfl
  have hset':setSlice (gR a (a+j) xs (Z++[.list (ys.map .int)])) (.ref 1) (.int ((a:Int)+j - (a - k:Nat))) (.int ((a:Int)+j)) (.ref (Z.length+2))=some (gR a (a+j) (setSl xs (ys.map .int) ((k+j:Nat):Int) ((a+j:Nat):Int)) (Z++[.list (ys.map .int)])):=by
   rw [hset,hlo,← hhi];rfl
  have hat:attrSet (gR a (a+j) (setSl xs (ys.map .int) ((k+j:Nat):Int) ((a+j:Nat):Int)) (Z++[.list (ys.map .int)])) (.ref 0) 58 (.int ((a:Int)+j - (a - k:Nat)))=some (gR a (k+j) (setSl xs (ys.map .int) ((k+j:Nat):Int) ((a+j:Nat):Int)) (Z++[.list (ys.map .int)])):=by
   rw [show ((a:Int)+j - (a - k:Nat))=(k:Int)+j by exact aK [_,_,_,_] [] (.eqI (.s (.a (.c N0) (.c N1)) (.c N2)) (.a (.c N3) (.c N1))) (.eqI (.s (.a (.c N0) (.c N1)) (.c N2)) (.c (.a N3 N1))) [1,1] [1,-1] rfl hlo];rfl
  refine con B 60 _ _ [.go 4,.b true,.go 5,.vh (.ref (Z.length+2)) (gR a (a+j) xs (Z++[.list (ys.map .int)])),.go 6,.v (.int (a - k:Nat)),.b true,.go 2,.h (gR a (a+j) (setSl xs (ys.map .int) ((k+j:Nat):Int) ((a+j:Nat):Int)) (Z++[.list (ys.map .int)])),
    .go 3,.v (.int (a - k:Nat)),.b true,.go 1,.h (gR a (k+j) (setSl xs (ys.map .int) ((k+j:Nat):Int) ((a+j:Nat):Int)) (Z++[.list (ys.map .int)]))]
   (I2 (dT (p:=(k:Int)<a) (by exact aa [_,_] [] (.ltI (.c N0) (.c N1)) (.ltN N0 N1) [1,1] rfl h)) (I2 hsl (I2 hlen (I2 tI (I2 hset' (I2 hlen2 (I2 tI (I2 hat trivial)))))))) (by kernel_rfl)
 ·obtain ⟨ys,hy,e1,G'⟩:=G.right (by exact aa [_,_] [] (.leN N0 N1) (.n (.ltN N1 N0)) [1,1] rfl h) hk
  refine ⟨_,.list (ys.map .int),G',?_⟩
  have hsl:=cb (σ:=gR a (a+j) xs Z) (l:=1) (s:=a+j) (e:=k+j) rfl (by exact ag [_,_,_,_] [] (.leN (.a N0 N1) N2) (.eqN N2 (.a N3 N1)) (.leN N0 N3) [1,-1,1] rfl hl h1) (by exact ag [_,_,_,_] [] (.leN (.a N0 N1) N2) (.leN N0 N3) (.eqN N2 (.a N3 N1)) [1,1,-1] rfl hk hl)
  rw [e1] at hsl ⊢
  rw [show ((a+j:Nat):Int)=(a:Int)+j by exact au [_,_] [] (.eqI (.c (.a N0 N1)) (.a (.c N0) (.c N1))) [1] [1] rfl,show ((k+j:Nat):Int)=(a:Int)+j+k - a by exact au [_,_,_] [] (.eqI (.c (.a N0 N1)) (.s (.a (.a (.c N2) (.c N1)) (.c N0)) (.c N2))) [1] [1] rfl] at hsl
  have hy':(ys.map AV.int).length=k - a:=by rw [List.length_map,hy]
  have hlen:=az (σ:=gR a (a+j) xs (Z++[.list (ys.map .int)])) (l:=Z.length+2) (n:=k - a) (by show (Z++[_])[Z.length]?=_;exact List.getElem?_concat_length) hy'
  have hlen2:=az (σ:=gR a (a+j) (setSl xs (ys.map .int) a k) (Z++[.list (ys.map .int)])) (l:=Z.length+2) (n:=k - a) (by show (Z++[_])[Z.length]?=_;exact List.getElem?_concat_length) hy'
  have hset:=bj (σ:=gR a (a+j) xs (Z++[.list (ys.map .int)])) (l:=1) (m:=Z.length+2) (lo:=a) (hi:=k) rfl (by show (Z++[_])[Z.length]?=_;exact List.getElem?_concat_length) (by omega) (by rw [hy'];exact bR [_,_,_,_,_] [] (.leN (.a N0 N1) (.k 10000)) (.leN N2 N3) (.eqN N0 (.a N3 N4)) (.leN (.a N3 N4) (.k 4000)) (.leN N1 N2) [1,1,1,2,1] rfl hk hl h2 (Nat.sub_le _ _))
  have hset':setSlice (gR a (a+j) xs (Z++[.list (ys.map .int)])) (.ref 1) (.int a) (.int ((a:Int)+(k - a:Nat))) (.ref (Z.length+2))=some (gR a (a+j) (setSl xs (ys.map .int) a k) (Z++[.list (ys.map .int)])):=by
   rw [show ((a:Int)+(k - a:Nat))=(k:Int) by exact aB [_,_,_] [] (.eqI (.a (.c N0) (.c N1)) (.c N2)) (.leN N2 (.a N1 N0)) (.eqN (.a N1 N0) N2) [1,0,1] [1,1,0] rfl (af _ _) (ab (aa [_,_] [] (.leN N0 N1) (.n (.ltN N1 N0)) [1,1] rfl h)),hset];rfl
  have hat:attrSet (gR a (a+j) (setSl xs (ys.map .int) a k) (Z++[.list (ys.map .int)])) (.ref 0) 58 (.int ((a:Int)+j+(k - a:Nat)))=some (gR a (k+j) (setSl xs (ys.map .int) a k) (Z++[.list (ys.map .int)])):=by
   rw [show ((a:Int)+j+(k - a:Nat))=(k:Int)+j by exact aB [_,_,_,_] [] (.eqI (.a (.a (.c N0) (.c N1)) (.c N2)) (.a (.c N3) (.c N1))) (.leN N3 (.a N2 N0)) (.eqN (.a N2 N0) N3) [1,0,1] [1,1,0] rfl (af _ _) (ab (aa [_,_] [] (.leN N0 N1) (.n (.ltN N1 N0)) [1,1] rfl h))];rfl
  refine con B 60 _ _ [.go 4,.b false,.go 7,.b true,.go 2,.b true,.vh (.ref (Z.length+2)) (gR a (a+j) xs (Z++[.list (ys.map .int)])),.go 8,.v (.int (k - a:Nat)),.b true,.h (gR a (a+j) (setSl xs (ys.map .int) a k) (Z++[.list (ys.map .int)])),
    .go 3,.v (.int (k - a:Nat)),.b true,.go 1,.h (gR a (k+j) (setSl xs (ys.map .int) a k) (Z++[.list (ys.map .int)]))]
   (I2 (dF (p:=(k:Int)<a) (by exact aa [_,_] [] (.n (.ltI (.c N0) (.c N1))) (.n (.ltN N0 N1)) [1,1] rfl h)) (I2 tI (I2 tI (I2 hsl (I2 hlen (I2 tI (I2 hset' (I2 hlen2 (I2 tI (I2 hat trivial)))))))))) (by kernel_rfl)
end
theorem GapN.cut {L:List Int} {a j s e:Nat} {xs:List AV} (G:GapN L a j xs) (h1:s≤a) (h2:a≤e) (h3:e≤L.length):GapN (L.take s++L.drop e) s (j+(e - s)) xs:=by
 obtain ⟨J,rfl,rfl⟩:=G.ex
 have h4:=G.lim
 refine ⟨⟨(L.take a).drop s++J++(L.drop a).take (e - a),?_,?_⟩,?_,?_⟩
 ·simp only [List.length_append,List.length_drop,List.length_take];exact kN [_,_,_,_,_,_,_,_,_] [] (.eqN (.a (.a N0 N1) N2) (.a N1 N3)) (.leN N4 N5) (.leN N4 (.a N0 N6)) (.leN N7 (.a N8 N5)) (.leN N2 N8) (.leN N7 (.a N3 N6)) (.eqN N4 N5) (.eqN (.a N0 N6) N4) (.eqN (.a N8 N5) N7) (.eqN N2 N8) (.eqN (.a N3 N6) N7) [1,1,0,0,1,1,0,1,1,0,0] [1,0,1,1,0,0,-1,0,0,-1,1] rfl (Nat.min_le_left _ _) (af _ _) (af _ _) (Nat.min_le_left _ _) (af _ _) (Nat.min_eq_left (ag [_,_,_] [] (.leN N0 N1) (.leN N0 N2) (.leN N2 N1) [1,1,1] rfl h2 h3)) (ab (ag [_,_,_] [] (.leN N0 N1) (.leN N0 N2) (.eqN N1 N2) [1,1,-1] rfl h1 (Nat.min_eq_left (ag [_,_,_] [] (.leN N0 N1) (.leN N0 N2) (.leN N2 N1) [1,1,1] rfl h2 h3)))) (ab (h2)) (Nat.min_eq_left (aq [_,_,_,_,_] [] (.leN N0 N1) (.leN N2 N3) (.leN N3 (.a N1 N4)) (.eqN (.a N0 N4) N2) [1,1,1,1] rfl h3 (af _ _) (ab (h2)))) (ab (ag [_,_,_] [] (.leN N0 N1) (.leN N0 N2) (.leN N2 N1) [1,1,1] rfl h1 h2))
 ·congr 1
  have e1:L.take a=L.take s++(L.take a).drop s:=by
   have:=List.take_append_drop s (L.take a)
   rw [List.take_take,Nat.min_eq_left h1] at this
   exact this.symm
  have e2:L.drop a=(L.drop a).take (e - a)++L.drop e:=by
   have:=List.take_append_drop (e - a) (L.drop a)
   rw [List.drop_drop,show a+(e - a)=e by exact aB [_,_,_] [] (.eqN (.a N0 N1) N2) (.leN N2 (.a N1 N0)) (.eqN (.a N1 N0) N2) [1,0,1] [1,1,0] rfl (af _ _) (ab (h2))] at this
   exact this.symm
  have e3:(L.take s++L.drop e).take s=L.take s:=by
   rw [List.take_append_of_le_length (by rw [List.length_take];exact aa [_,_] [] (.leN N0 N1) (.eqN N1 N0) [1,-1] rfl (Nat.min_eq_left (aq [_,_,_,_] [] (.leN N0 N1) (.leN N0 N2) (.leN N2 N3) (.leN N3 N1) [1,1,1,1] rfl h1 h2 h3))),List.take_take,Nat.min_self]
  have e4:(L.take s++L.drop e).drop s=L.drop e:=by
   rw [List.drop_append_of_le_length (by rw [List.length_take];exact aa [_,_] [] (.leN N0 N1) (.eqN N1 N0) [1,-1] rfl (Nat.min_eq_left (aq [_,_,_,_] [] (.leN N0 N1) (.leN N0 N2) (.leN N2 N3) (.leN N3 N1) [1,1,1,1] rfl h1 h2 h3))),List.drop_of_length_le (by rw [List.length_take];exact (Nat.min_le_left _ _)),List.nil_append]
  rw [e3,e4]
  conv=>lhs;rw [e1,e2]
  simp only [List.append_assoc]
 ·simp only [List.length_append,List.length_drop,List.length_take];exact aa [_,_,_] [] (.leN N0 (.a N1 N2)) (.eqN N1 N0) [1,-1] rfl (Nat.min_eq_left (aq [_,_,_,_] [] (.leN N0 N1) (.leN N0 N2) (.leN N2 N3) (.leN N3 N1) [1,1,1,1] rfl h1 h2 h3))
 ·simp only [List.length_append,List.length_drop,List.length_take];exact bR [_,_,_,_,_,_,_] [] (.leN (.a (.a N0 N1) (.a N2 N3)) (.k 4000)) (.leN (.a N4 N2) (.k 4000)) (.leN N0 N5) (.eqN (.a N1 N6) N4) (.eqN (.a N3 N5) N6) [1,1,1,1,1] rfl h4 (Nat.min_le_left _ _) (ab (h3)) (ab (ag [_,_,_] [] (.leN N0 N1) (.leN N0 N2) (.leN N2 N1) [1,1,1] rfl h1 h2))
theorem GapN.wide {L:List Int} {a j w:Nat} {xs:List AV} (G:GapN L a j xs) (h:L.length+j+w≤4000):GapN L a (j+w) (setSl xs (List.replicate w (.int 0)) ((a+j:Nat):Int) ((a+j:Nat):Int)):=by
 have hl:=G.len
 obtain ⟨J,rfl,rfl⟩:=G.ex
 have h1:=G.le
 refine ⟨⟨J++List.replicate w 0,by rw [List.length_append,List.length_replicate],?_⟩,h1,by exact aa [_,_,_] [] (.leN (.a N0 (.a N1 N2)) (.k 4000)) (.leN (.a (.a N0 N1) N2) (.k 4000)) [1,1] rfl h⟩
 have e0:List.replicate w (AV.int 0)=(List.replicate w (0:Int)).map .int:=by rw [List.map_replicate]
 rw [e0,bD _ _ (Nat.le_refl _) (by rw [List.length_map] at hl;exact ag [_,_,_,_] [] (.leN (.a N0 N1) N2) (.eqN N2 (.a N3 N1)) (.leN N0 N3) [1,-1,1] rfl hl h1)]
 congr 1
 have hlen:(L.take a++J).length=a+J.length:=by rw [List.length_append,List.length_take];exact aB [_,_,_] [] (.eqN (.a N0 N1) (.a N2 N1)) (.leN N0 N2) (.eqN N0 N2) [1,1,0] [1,0,-1] rfl (Nat.min_le_left _ _) (Nat.min_eq_left (h1))
 rw [List.take_append_of_le_length (by exact aa [_,_,_] [] (.leN (.a N0 N1) N2) (.eqN N2 (.a N0 N1)) [1,-1] rfl hlen),List.take_of_length_le (by exact aa [_,_,_] [] (.leN N0 (.a N1 N2)) (.eqN N0 (.a N1 N2)) [1,1] rfl hlen),List.drop_append_of_le_length (by exact aa [_,_,_] [] (.leN (.a N0 N1) N2) (.eqN N2 (.a N0 N1)) [1,-1] rfl hlen),List.drop_of_length_le (by exact aa [_,_,_] [] (.leN N0 (.a N1 N2)) (.eqN N0 (.a N1 N2)) [1,1] rfl hlen),List.nil_append]
 simp only [List.append_assoc]
theorem GapN.put {L D:List Int} {a j:Nat} {xs:List AV} (G:GapN L a j xs) (h:D.length≤j):GapN (L.take a++D++L.drop a) (a+D.length) (j - D.length) (setSl xs (D.map .int) (a:Int) ((a+D.length:Nat):Int)):=by
 have hl:=G.len
 obtain ⟨J,rfl,rfl⟩:=G.ex
 have h1:=G.le
 have h2:=G.lim
 have hta:(L.take a).length=a:=by rw [List.length_take];exact (Nat.min_eq_left (h1))
 refine ⟨⟨J.drop D.length,by rw [List.length_drop],?_⟩,?_,?_⟩
 ·rw [bD _ _ (by exact ak [_,_] [] (.leN N0 (.a N0 N1)) [1] rfl) (by rw [List.length_map] at hl;exact aq [_,_,_,_,_] [] (.leN (.a N0 N1) N2) (.leN N1 N3) (.eqN N2 (.a N4 N3)) (.leN N0 N4) [1,1,-1,1] rfl h hl h1)]
  congr 1
  have e1:(L.take a++D++L.drop a).take (a+D.length)=L.take a++D:=by
   rw [List.take_append_of_le_length (by rw [List.length_append];exact aa [_,_,_] [] (.leN (.a N0 N1) (.a N2 N1)) (.eqN N2 N0) [1,-1] rfl hta),List.take_of_length_le (by rw [List.length_append];exact aa [_,_,_] [] (.leN (.a N0 N1) (.a N2 N1)) (.eqN N0 N2) [1,1] rfl hta)]
  have e2:(L.take a++D++L.drop a).drop (a+D.length)=L.drop a:=by
   rw [List.drop_append_of_le_length (by rw [List.length_append];exact aa [_,_,_] [] (.leN (.a N0 N1) (.a N2 N1)) (.eqN N2 N0) [1,-1] rfl hta),List.drop_of_length_le (by rw [List.length_append];exact aa [_,_,_] [] (.leN (.a N0 N1) (.a N2 N1)) (.eqN N0 N2) [1,1] rfl hta),List.nil_append]
  have e3:(L.take a++J++L.drop a).take a=L.take a:=by
   rw [List.append_assoc,List.take_append_of_le_length (by exact aa [_,_] [] (.leN N0 N1) (.eqN N1 N0) [1,-1] rfl hta),List.take_take,Nat.min_self]
  have e4:(L.take a++J++L.drop a).drop (a+D.length)=J.drop D.length++L.drop a:=by
   rw [List.append_assoc,List.drop_append,hta,List.drop_of_length_le (by exact aa [_,_,_] [] (.leN N0 (.a N1 N2)) (.eqN N0 N1) [1,1] rfl hta),List.nil_append,Nat.add_sub_cancel_left,List.drop_append_of_le_length h]
  rw [e1,e2,e3,e4]
  simp only [List.append_assoc]
 ·simp only [List.length_append,List.length_drop,hta];exact ak [_,_,_] [] (.leN (.a N0 N1) (.a (.a N0 N1) N2)) [1] rfl
 ·simp only [List.length_append,List.length_drop,hta];exact aq [_,_,_,_,_,_] [] (.leN (.a (.a (.a N0 N1) N2) N3) (.k 4000)) (.leN (.a N4 N5) (.k 4000)) (.eqN (.a N2 N0) N4) (.eqN (.a N3 N1) N5) [1,1,1,1] rfl h2 (ab (h1)) (ab (h))
section
variable {B:Base} {d:Nat} {L D:List Int} {a j k s e w:Nat} {xs:List AV} {Z:Hp}
theorem br (G:GapN L a j xs) (h1:s≤e) (h2:e≤L.length):Con B (d+1) 27 [.ref 0,.int s,.int e] (gR a (a+j) xs []) (.ref 2) (gR a (a+j) xs [.list ((sub L s e).map .int)]):=by
 have hl:=G.len
 obtain ⟨J,rfl,rfl⟩:=G.ex
 have h3:=G.le
 have h4:=G.lim
 have hta:(L.take a).length=a:=by rw [List.length_take];exact (Nat.min_eq_left (h3))
 have:=j5 (B:=B) (d:=d) (A:=L.take a) (J:=J) (C:=L.drop a) (s:=s) (e:=e) (by rw [List.length_map] at hl;exact ag [_,_,_] [] (.leN N0 (.k 5000)) (.eqN N0 (.a N1 N2)) (.leN (.a N1 N2) (.k 4000)) [1,1,1] rfl hl h4) h1 (by rw [List.take_append_drop];exact h2)
 rw [List.take_append_drop] at this
 unfold gH at this
 rw [hta] at this
 exact this
theorem d9 {s e e' e'':Int} {xs:List AV} {Z:Hp} (h:e=e''):attrSet (gR s e' xs Z) (.ref 0) 58 (.int e)=some (gR s e'' xs Z):=by rw [h];rfl
theorem lN {s s' e e':Int} {xs:List AV} {Z:Hp} (h:e=e'):attrSet (gR s' e xs Z) (.ref 0) 57 (.int s)=some (gR s e' xs Z):=by rw [h];rfl
theorem lO (G:GapN L a j xs) (h1:s≤e) (h2:e≤L.length) :
  ∃ xs' Y,GapN (L.take s++L.drop e) s (j+(e - s)) xs'∧Con B (d+2) 31 [.ref 0,.int s,.int e] (gR a (a+j) xs []) (.ref 2) (gR s (s+(j+(e - s):Nat)) xs' (.list ((sub L s e).map .int)::Y)):=by
 have h3:=G.le
 have h4:=G.lim
 have hc:=br (B:=B) (d:=d) G h1 h2
 by_cases p1:e<a
 ·obtain ⟨xs',z,G',hm⟩:=ft (B:=B) (d:=d) (Z:=[.list ((sub L s e).map .int)]) G h2
  refine ⟨xs',[z],G'.cut h1 (Nat.le_refl _) h2,?_⟩
  exact con B 60 _ _ [.go 6,.c (.ref 2) (gR a (a+j) xs [.list ((sub L s e).map .int)]),.go 3,.b true,.go 4,.c .none (gR e (e+j) xs' [.list ((sub L s e).map .int),z]),.go 3,.b false,.go 3,.b true,.go 2,.b true,.go 1,.h (gR e (s+(j+(e - s):Nat)) xs' [.list ((sub L s e).map .int),z])]
   (I2 hc (I2 (dT (p:=(e:Int)<a) (by exact aa [_,_] [] (.ltI (.c N0) (.c N1)) (.ltN N0 N1) [1,1] rfl p1)) (I2 hm (I2 (dF (p:=(s:Int) > e) (by exact aa [_,_] [] (.n (.ltI (.c N0) (.c N1))) (.leN N1 N0) [1,1] rfl h1)) (I2 tI (I2 tI (I2 (d9 (s:=e) (e':=e+j) (e:=(e:Int)+j+e - e) (e'':=s+(j+(e - s):Nat)) (xs:=xs') (Z:=[.list ((sub L s e).map .int),z]) (by exact aB [_,_,_,_] [] (.eqI (.s (.a (.a (.c N0) (.c N1)) (.c N0)) (.c N0)) (.a (.c N2) (.c (.a N1 N3)))) (.leN N0 (.a N3 N2)) (.eqN (.a N3 N2) N0) [1,1,0] [1,0,1] rfl (af _ _) (ab (h1)))) trivial))))))) (by kernel_rfl)
 ·by_cases p2:a<s
  ·obtain ⟨xs',z,G',hm⟩:=ft (B:=B) (d:=d) (Z:=[.list ((sub L s e).map .int)]) (k:=s) G (by exact ag [_,_,_] [] (.leN N0 N1) (.leN N0 N2) (.leN N2 N1) [1,1,1] rfl h1 h2)
   refine ⟨xs',[z],G'.cut (Nat.le_refl _) h1 h2,?_⟩
   exact con B 60 _ _ [.go 6,.c (.ref 2) (gR a (a+j) xs [.list ((sub L s e).map .int)]),.go 3,.b false,.go 3,.b true,.go 4,.c .none (gR s (s+j) xs' [.list ((sub L s e).map .int),z]),.go 3,.b true,.go 2,.b true,.go 1,.h (gR s (s+(j+(e - s):Nat)) xs' [.list ((sub L s e).map .int),z])]
    (I2 hc (I2 (dF (p:=(e:Int)<a) (by exact ag [_,_,_] [] (.n (.ltI (.c N0) (.c N1))) (.leN N2 N0) (.ltN N1 N2) [1,1,1] rfl h1 p2)) (I2 (dT (p:=(s:Int) > a) (by exact aa [_,_] [] (.ltI (.c N0) (.c N1)) (.ltN N0 N1) [1,1] rfl p2)) (I2 hm (I2 tI (I2 tI (I2 (d9 (s:=s) (e':=s+j) (e:=(s:Int)+j+e - s) (e'':=s+(j+(e - s):Nat)) (xs:=xs') (Z:=[.list ((sub L s e).map .int),z]) (by exact aB [_,_,_,_] [] (.eqI (.s (.a (.a (.c N0) (.c N1)) (.c N2)) (.c N0)) (.a (.c N0) (.c (.a N1 N3)))) (.leN N2 (.a N3 N0)) (.eqN (.a N3 N0) N2) [1,1,0] [1,0,1] rfl (af _ _) (ab (h1)))) trivial))))))) (by kernel_rfl)
  ·refine ⟨xs,[],G.cut (by exact aa [_,_] [] (.leN N0 N1) (.n (.ltN N1 N0)) [1,1] rfl p2) (by exact aa [_,_] [] (.leN N0 N1) (.n (.ltN N1 N0)) [1,1] rfl p1) h2,?_⟩
   exact con B 60 _ _ [.go 6,.c (.ref 2) (gR a (a+j) xs [.list ((sub L s e).map .int)]),.go 3,.b false,.go 3,.b false,.go 3,.b true,.go 2,.b true,.go 1,.h (gR a (s+(j+(e - s):Nat)) xs [.list ((sub L s e).map .int)])]
    (I2 hc (I2 (dF (p:=(e:Int)<a) (by exact aa [_,_] [] (.n (.ltI (.c N0) (.c N1))) (.n (.ltN N0 N1)) [1,1] rfl p1)) (I2 (dF (p:=(s:Int) > a) (by exact aa [_,_] [] (.n (.ltI (.c N0) (.c N1))) (.n (.ltN N0 N1)) [1,1] rfl p2)) (I2 tI (I2 tI (I2 (d9 (s:=a) (e':=a+j) (e:=(a:Int)+j+e - a) (e'':=s+(j+(e - s):Nat)) (xs:=xs) (Z:=[.list ((sub L s e).map .int)]) (by exact aB [_,_,_,_,_] [] (.eqI (.s (.a (.a (.c N0) (.c N1)) (.c N2)) (.c N0)) (.a (.c N3) (.c (.a N1 N4)))) (.leN N2 (.a N4 N3)) (.eqN (.a N4 N3) N2) [1,1,0] [1,0,1] rfl (af _ _) (ab (h1)))) trivial)))))) (by kernel_rfl)
theorem lP {z0:AO} (G:GapN L a j xs) (h:L.length+w+8≤4000) :
  Ex3 fun xs' Y j'=>w≤j'∧j'≤max j (w+8)∧GapN L a j' xs'∧Con B (d+1) 29 [.ref 0,.int w] (gR a (a+j) xs [z0]) .none (gR a (a+j') xs' (z0::Y)):=by
 have h3:=G.le
 have h4:=G.lim
 by_cases p:w≤j
 ·exact ⟨xs,[],j,p,by exact (Nat.le_max_left _ _),G,con B 60 _ _ [.go 6,.b true,.b true,.go 1,.b false] (I2 tI (I2 tI (I2 (dF (p:=(w:Int) - ((a:Int)+j - a) > 0) (by exact aa [_,_,_] [] (.n (.ltI (.k 0) (.s (.c N0) (.s (.a (.c N1) (.c N2)) (.c N1))))) (.leN N0 N2) [1,1] rfl p)) trivial))) (by kernel_rfl)⟩
 ·have G':=G.wide (w:=w - j+8) (by exact ag [_,_,_,_] [] (.leN (.a (.a N0 N1) (.a N2 (.k 8))) (.k 4000)) (.leN (.a (.a N0 N3) (.k 8)) (.k 4000)) (.eqN (.a N2 N1) N3) [1,1,1] rfl h (ab (aa [_,_] [] (.leN N0 N1) (.n (.leN N1 N0)) [1,1] rfl p)))
  have hm:=kC (σ:=gR a (a+j) xs [z0,.list [.int 0]]) (l:=3) (n:=(w:Int) - ((a:Int)+j - a)+8) rfl (by exact aa [_,_,_] [] (.leI (.k 0) (.a (.s (.c N0) (.s (.a (.c N1) (.c N2)) (.c N1))) (.k 8))) (.n (.leN N0 N2)) [1,1] rfl p) (by exact aa [_,_,_,_] [] (.leI (.a (.s (.c N0) (.s (.a (.c N1) (.c N2)) (.c N1))) (.k 8)) (.k 10000)) (.leN (.a (.a N3 N0) (.k 8)) (.k 4000)) [1,1] rfl h)
  have e1:((w:Int) - ((a:Int)+j - a)+8).toNat=w - j+8:=by omega
  rw [e1] at hm
  have hs:=bj (σ:=gR a (a+j) xs [z0,.list [.int 0],.list (List.replicate (w - j+8) (.int 0))]) (l:=1) (m:=4) (lo:=(a:Int)+j) (hi:=(a:Int)+j) rfl rfl (by decide) (by rw [G.len,List.length_replicate];exact ag [_,_,_,_] [] (.leN (.a (.a N0 N1) (.a N2 (.k 8))) (.k 10000)) (.leN (.a (.a N0 N3) (.k 8)) (.k 4000)) (.eqN (.a N2 N1) N3) [1,1,1] rfl h (ab (aa [_,_] [] (.leN N0 N1) (.n (.leN N1 N0)) [1,1] rfl p)))
  refine ⟨_,[.list [.int 0],.list (List.replicate (w - j+8) (.int 0))],j+(w - j+8),by exact aa [_,_,_] [] (.leN N0 (.a N1 (.a N2 (.k 8)))) (.leN N0 (.a N2 N1)) [1,1] rfl (af _ _),by exact ag [_,_,_,_] [] (.leN (.a N0 (.a N1 (.k 8))) N2) (.leN (.a N3 (.k 8)) N2) (.eqN (.a N1 N0) N3) [1,1,1] rfl (Nat.le_max_right _ _) (ab (aa [_,_] [] (.leN N0 N1) (.n (.leN N1 N0)) [1,1] rfl p)),G',?_⟩
  have e2:((a+j:Nat):Int)=(a:Int)+j:=by exact au [_,_] [] (.eqI (.c (.a N0 N1)) (.a (.c N0) (.c N1))) [1] [1] rfl
  have e3:((j+(w - j+8):Nat):Int)=(j:Int)+(w - j+8:Nat):=by exact au [_,_] [] (.eqI (.c (.a N0 (.a N1 (.k 8)))) (.a (.c N0) (.c (.a N1 (.k 8))))) [1] [1] rfl
  rw [e2]
  exact con B 60 _ _ [.go 6,.b true,.b true,.go 1,.b true,.go 4,.b true,.vh (.ref 4) (gR a (a+j) xs [z0,.list [.int 0],.list (List.replicate (w - j+8) (.int 0))]),.go 6,.h (gR a (a+j) (setSl xs (List.replicate (w - j+8) (.int 0)) ((a:Int)+j) ((a:Int)+j)) [z0,.list [.int 0],.list (List.replicate (w - j+8) (.int 0))]),
    .go 3,.b true,.go 2,.b true,.go 1,.h (gR a (a+(j+(w - j+8):Nat)) (setSl xs (List.replicate (w - j+8) (.int 0)) ((a:Int)+j) ((a:Int)+j)) [z0,.list [.int 0],.list (List.replicate (w - j+8) (.int 0))])]
   (I2 tI (I2 tI (I2 (dT (p:=(w:Int) - ((a:Int)+j - a) > 0) (by exact aa [_,_,_] [] (.ltI (.k 0) (.s (.c N0) (.s (.a (.c N1) (.c N2)) (.c N1)))) (.n (.leN N0 N2)) [1,1] rfl p)) (I2 tI (I2 hm (I2 hs
    (I2 tI (I2 tI
    (I2 (d9 (s:=a) (e':=a+j) (e:=(a:Int)+j+((w:Int) - ((a:Int)+j - a))+8) (e'':=a+(j+(w - j+8):Nat)) (xs:=setSl xs (List.replicate (w - j+8) (.int 0)) ((a:Int)+j) ((a:Int)+j)) (Z:=[z0,.list [.int 0],.list (List.replicate (w - j+8) (.int 0))]) (by exact aB [_,_,_,_] [] (.eqI (.a (.a (.a (.c N0) (.c N1)) (.s (.c N2) (.s (.a (.c N0) (.c N1)) (.c N0)))) (.k 8)) (.a (.c N0) (.c (.a N1 (.a N3 (.k 8)))))) (.leN N2 (.a N3 N1)) (.eqN (.a N3 N1) N2) [1,1,0] [1,0,1] rfl (af _ _) (ab (aa [_,_] [] (.leN N0 N1) (.n (.leN N1 N0)) [1,1] rfl p)))) trivial))))))))) (by kernel_rfl)
theorem lQ (G:GapN L a j xs) (hk:k≤L.length) (h:L.length+D.length+8≤4000) :
  Ex3 fun xs' Y j'=>D.length≤j'∧j'≤max j (D.length+8)∧GapN (L.take k++D++L.drop k) (k+D.length) (j' - D.length) xs'∧Con B (d+2) 30 [.ref 0,.int k,.ref 2] (gR a (a+j) xs [.list (D.map .int)]) .none (gR (k+D.length) ((k+D.length:Int)+(j' - D.length:Nat)) xs' (.list (D.map .int)::Y)):=by
 obtain ⟨xs1,Y1,j',b1,b2,G1,hw⟩:=lP (B:=B) (d:=d) (z0:=.list (D.map .int)) G h
 have h4:=G1.lim
 obtain ⟨xs2,z,G2,hm⟩:=ft (B:=B) (d:=d) (Z:=.list (D.map .int)::Y1) G1 hk
 have G3:=G2.put b1
 have e2:((k+D.length:Nat):Int)=(k:Int)+D.length:=by exact au [_,_] [] (.eqI (.c (.a N0 N1)) (.a (.c N0) (.c N1))) [1] [1] rfl
 rw [e2] at G3
 refine ⟨_,Y1++[z],j',b1,b2,G3,?_⟩
 have hd:(D.map AV.int).length=D.length:=List.length_map _
 have hs:=bj (σ:=gR k (k+j') xs2 (.list (D.map .int)::(Y1++[z]))) (l:=1) (m:=2) (lo:=k) (hi:=(k:Int)+D.length) rfl rfl (by decide) (by rw [G2.len,hd];exact ag [_,_,_] [] (.leN (.a (.a N0 N1) N2) (.k 10000)) (.leN (.a (.a N0 N2) (.k 8)) (.k 4000)) (.leN (.a N0 N1) (.k 4000)) [1,1,1] rfl h h4)
 exact con B 60 _ _ [.go 4,.v (.int D.length),.go 1,.c .none (gR a (a+j') xs1 (.list (D.map .int)::Y1)),.go 4,.c .none (gR k (k+j') xs2 (.list (D.map .int)::(Y1++[z]))),.go 6,.v (.int D.length),.b true,.h (gR k (k+j') (setSl xs2 (D.map .int) k ((k:Int)+D.length)) (.list (D.map .int)::(Y1++[z]))),
   .go 2,.v (.int D.length),.b true,.go 1,.h (gR (k+D.length) ((k+D.length:Int)+(j' - D.length:Nat)) (setSl xs2 (D.map .int) k ((k:Int)+D.length)) (.list (D.map .int)::(Y1++[z])))]
  (I2 (az (σ:=gR a (a+j) xs [.list (D.map .int)]) (l:=2) rfl hd) (I2 hw (I2 hm (I2 (az (σ:=gR k (k+j') xs2 (.list (D.map .int)::(Y1++[z]))) (l:=2) rfl hd) (I2 tI (I2 hs
   (I2 (az (σ:=gR k (k+j') (setSl xs2 (D.map .int) k ((k:Int)+D.length)) (.list (D.map .int)::(Y1++[z]))) (l:=2) rfl hd) (I2 tI (I2 (lN (s:=(k:Int)+D.length) (s':=k) (e:=(k:Int)+j') (e':=(k+D.length:Int)+(j' - D.length:Nat)) (xs:=setSl xs2 (D.map .int) k ((k:Int)+D.length)) (Z:=.list (D.map .int)::(Y1++[z])) (by exact aB [_,_,_,_] [] (.eqI (.a (.c N0) (.c N1)) (.a (.a (.c N0) (.c N2)) (.c N3))) (.leN N1 (.a N3 N2)) (.eqN (.a N3 N2) N1) [1,1,0] [1,0,1] rfl (af _ _) (ab (b1)))) trivial))))))))) (by kernel_rfl)
end
theorem Rn.mono {B:Base} {d:Nat} {P:MP} {T T':Int} {res:AV} {t pl:Int} {r:Nat} {mk chs chg:List AV} {X:Hp} (h:Rn B d P T res t pl r mk chs chg X) (hT:T≤T'):Rn B d P T' res t pl r mk chs chg X:=fun w l c=>by
 obtain ⟨fr',t',mk',chs',chg',X',hc,h1,h2⟩:=h w l c
 exact ⟨fr',t',mk',chs',chg',X',hc,h1,by exact ag [] [_,_,_] (.leI J0 J1) (.leI J2 J1) (.leI J0 J2) [1,1,1] rfl hT h2⟩
noncomputable abbrev isBol (L:List Int) (n:Nat):Prop:=n=0∨L[n - 1]?=some 10
noncomputable def Ept (p:Pt) (L:List Int) (n:Nat):Option Nat:=match p with
 | .s0=>tailEnd L 0 (n+rlen 120 L n)
 | .s1=>tailEnd L 97 (n+rlen 120 L n)
 | .p0=>plusEnd L 120 0 n
 | .p1=>plusEnd L 120 97 n
 | .m0=>mayEnd L 120 0 n
 | .m1=>mayEnd L 120 97 n
 | .b0=>if isBol L n∧L[n]?=some 32 then some (n+1) else none
 | .b1=>if isBol L n∧L[n]?=some 32 then some (n+1+rlen 32 L (n+1)) else none
 | .b2=>if isBol L n∧L[n]?=some 97 then some (n+1) else none
 | .b3=>if isBol L n then some n else none
noncomputable def is01:Pt→Bool | .s0=>true | .s1=>true | .p0=>true | .p1=>true | .m0=>true | .m1=>true | _=>false
section
variable {B:Base} {d:Nat} {v:BV} {L:List Int} {p2 g e t:Int} {xs:List AV} {p:Pt} {s:Nat}
theorem j6 (hp:is01 p=true) (G:Gap L g e xs) (hz:v.zv=L.length+1) (hL:L.length≤90):Finds B d p v L g e p2 xs (Ept p L):=fun s t hs h0 ht=>by
 have O:(mP p v p2 t v.zv g e xs).Ok L:=⟨G,hz⟩
 have hX:=mP.rows (p:=p) (v:=v) (p2:=p2) (t:=t) (lim:=v.zv) (g:=g) (e:=e) (xs:=xs)
 have h3:t+6001≤(mP p v p2 t v.zv g e xs).steps:=by show t+6001≤t+400000;exact ak [] [_] (.leI (.a J0 (.k 6001)) (.a J0 (.k 400000))) [1] rfl
 cases p with
 | s0=>exact (d6 (b:=0) (c:=120) (last:=0) (m:=-1) ⟨rfl,rfl,rfl,rfl,rfl,by decide⟩ ⟨by decide,fun z9=>rfl,fun h=>absurd rfl h⟩ (by decide) O hz hs (by exact aa [] [_,_] (.leI (.a J0 (.k 6000)) J1) (.leI (.a J0 (.k 6001)) J1) [1,1] rfl h3) (by exact aa [] [_] (.ltI (.a J0 (.k 6000)) (.k 100000000)) (.ltI J0 (.k 900000)) [1,1] rfl ht) (by exact aa [_] [] (.ltN N0 (.k 900)) (.leN N0 (.k 90)) [1,1] rfl hL) h0 hX).mono (by exact ak [] [_] (.leI (.a J0 (.k 6000)) (.a J0 (.k 6001))) [1] rfl)
 | s1=>exact (d6 (b:=0) (c:=120) (last:=97) (m:=-1) ⟨rfl,rfl,rfl,rfl,rfl,by decide⟩ ⟨by decide,fun h=>absurd h (by decide),fun z9=>⟨rfl,rfl⟩⟩ (by decide) O hz hs (by exact aa [] [_,_] (.leI (.a J0 (.k 6000)) J1) (.leI (.a J0 (.k 6001)) J1) [1,1] rfl h3) (by exact aa [] [_] (.ltI (.a J0 (.k 6000)) (.k 100000000)) (.ltI J0 (.k 900000)) [1,1] rfl ht) (by exact aa [_] [] (.ltN N0 (.k 900)) (.leN N0 (.k 90)) [1,1] rfl hL) h0 hX).mono (by exact ak [] [_] (.leI (.a J0 (.k 6000)) (.a J0 (.k 6001))) [1] rfl)
 | p0=>exact (fW (c:=120) (last:=0) (m:=-1) rfl ⟨rfl,rfl,rfl,rfl,rfl,by decide⟩ ⟨by decide,fun z9=>rfl,fun h=>absurd rfl h⟩ (by decide) O hz hs (by exact h3) (by exact aa [] [_] (.ltI (.a J0 (.k 6001)) (.k 100000000)) (.ltI J0 (.k 900000)) [1,1] rfl ht) (by exact aa [_] [] (.ltN N0 (.k 900)) (.leN N0 (.k 90)) [1,1] rfl hL) h0 hX).mono (by exact ak [] [_] (.leI (.a J0 (.k 6001)) (.a J0 (.k 6001))) [1] rfl)
 | p1=>exact (fW (c:=120) (last:=97) (m:=-1) rfl ⟨rfl,rfl,rfl,rfl,rfl,by decide⟩ ⟨by decide,fun h=>absurd h (by decide),fun z9=>⟨rfl,rfl⟩⟩ (by decide) O hz hs (by exact h3) (by exact aa [] [_] (.ltI (.a J0 (.k 6001)) (.k 100000000)) (.ltI J0 (.k 900000)) [1,1] rfl ht) (by exact aa [_] [] (.ltN N0 (.k 900)) (.leN N0 (.k 90)) [1,1] rfl hL) h0 hX).mono (by exact ak [] [_] (.leI (.a J0 (.k 6001)) (.a J0 (.k 6001))) [1] rfl)
 | m0=>exact (iW (c:=120) (last:=0) rfl rfl ⟨by decide,fun z9=>rfl,fun h=>absurd rfl h⟩ (by decide) O hz hs (by exact aa [] [_,_] (.leI (.a J0 (.k 100)) J1) (.leI (.a J0 (.k 6001)) J1) [1,1] rfl h3) (by exact aa [] [_] (.ltI (.a J0 (.k 100)) (.k 100000000)) (.ltI J0 (.k 900000)) [1,1] rfl ht) (by exact aa [_] [] (.ltN N0 (.k 900)) (.leN N0 (.k 90)) [1,1] rfl hL) h0 hX).mono (by exact ak [] [_] (.leI (.a J0 (.k 100)) (.a J0 (.k 6001))) [1] rfl)
 | m1=>exact (iW (c:=120) (last:=97) rfl rfl ⟨by decide,fun h=>absurd h (by decide),fun z9=>⟨rfl,rfl⟩⟩ (by decide) O hz hs (by exact aa [] [_,_] (.leI (.a J0 (.k 100)) J1) (.leI (.a J0 (.k 6001)) J1) [1,1] rfl h3) (by exact aa [] [_] (.ltI (.a J0 (.k 100)) (.k 100000000)) (.ltI J0 (.k 900000)) [1,1] rfl ht) (by exact aa [_] [] (.ltN N0 (.k 900)) (.leN N0 (.k 90)) [1,1] rfl hL) h0 hX).mono (by exact ak [] [_] (.leI (.a J0 (.k 100)) (.a J0 (.k 6001))) [1] rfl)
 | _=>exact fT hp
end
noncomputable def patO (sp:AV):AO:=.inst 7 [(74,.ref 4),(81,.opq),(100,sp)]
noncomputable abbrev ptHx (b:Hp) (v:BV) (g e:Int) (xs:List AV) (sp:AV) (Z:Hp):Hp:=tHx b v g e (patO sp) xs Z
noncomputable abbrev nHx (b:Hp) (v:BV) (g e:Int) (xs:List AV) (sp:AV) (m:AO) (Z:Hp):Hp:=ptHx b v g e xs sp (m::.list []::.list []::.list []::.list []::Z)
noncomputable abbrev ptH (p:Pt) (v:BV) (g e:Int) (xs:List AV) (sp:AV) (Z:Hp):Hp:=tH p v g e (patO sp) xs Z
noncomputable abbrev selF:List Nat:=[1,2,3,4,5,6,7,8,9,10,11,12,13,14,15,16]
noncomputable abbrev selN:List Nat:=[17,1,2,3,4,5,6,7,8,9,10,11,12,13,14,15,16]
noncomputable def noneT:AO:=.tup [.str [110,111,110,101],.none]
noncomputable def atT (k:Nat):AO:=.tup [.str [97,116],.ref k]
section
variable {B:Base} {d:Nat} {p:Pt} {v:BV} {L:List Int} {p2 g e:Int} {xs:List AV} {E:Nat→Option Nat} {n:Nat} {sp:AV}
theorem lR (G:Gap L g e xs) (hz:v.zv=L.length+1) (hL:L.length≤90) (hn:n≤L.length) (hE:Finds B d p v L g e v.pt xs E) :
  match search E (L.length+1 - n) n with
  | none=>Con B (d+11) 58 [.ref 0,.ref 1,.int (n+1),.int v.zv] (ptH p v g e xs sp []) .none (ptH p v g e xs sp [])
  | some r=>Con B (d+11) 58 [.ref 0,.ref 1,.int (n+1),.int v.zv] (ptH p v g e xs sp []) (.ref 18) (ptH p v g e xs (.ref 17) [.list [.ref 18],.tup [.int (r.1+1),.int (r.2+1)]]):=by
 have hf:=fwd G hz hL hn hE
 have e1:((pick (ptH p v g e xs sp []) selF).map fun sub=>sub.map (mapO (Mine.ren selF)))=some (sH p v g e xs []) :=
  Eq.trans (b:=some (sHx ((cmpL p 4).map (mapO (Mine.ren selF))) v g e (xs.map (Mine.ren selF)) [])) (by kernel_rfl) (by rw [aj (f:=Mine.ren selF) (fun z9=>rfl) (fun z9=>rfl) (fun z9=>rfl) p (k:=4) (k':=3) rfl (i8 ⟨rfl,rfl,rfl,rfl,rfl,rfl,rfl,rfl⟩),G.ren (Mine.ren selF) fun z9=>rfl];rfl)
 revert hf
 cases search E (L.length+1 - n) n with
 | none =>
  rintro ⟨mm,hc⟩
  have e2:((pick (fH p v g e mm xs []) []).map fun new=>wback (bak selF [] 17) selF (fH p v g e mm xs []) (ptH p v g e xs sp [])++new.map (mapO (bak selF [] 17)))=some (ptH p v g e xs sp []) :=
   Eq.trans (b:=some (ptHx ((cmpL p 3).map (mapO (bak selF [] 17))) v g e (xs.map (bak selF [] 17)) sp [])) (by kernel_rfl) (by rw [aj (f:=bak selF [] 17) (fun z9=>rfl) (fun z9=>rfl) (fun z9=>rfl) p (k:=3) (k':=4) rfl (i8 ⟨rfl,rfl,rfl,rfl,rfl,rfl,rfl,rfl⟩),G.ren (bak selF [] 17) fun z9=>rfl];rfl)
  exact con B 60 _ _ [.go 10,.s (some selF),.go 1,.h (sH p v g e xs []),.c .none (fH p v g e mm xs []),.s (some []),.go 1,.h (ptH p v g e xs sp [])]
   (I2 e1 (I2 hc (I2 e2 trivial))) (by kernel_rfl)
 | some r =>
  rintro ⟨mm,hc⟩
  have e2:((pick (fH p v g e mm xs [.list [.ref 22],.tup [.int (r.1+1),.int (r.2+1)]]) [21,22]).map fun new=>wback (bak selF [21,22] 17) selF (fH p v g e mm xs [.list [.ref 22],.tup [.int (r.1+1),.int (r.2+1)]]) (ptH p v g e xs sp [])++new.map (mapO (bak selF [21,22] 17)))=some (ptH p v g e xs sp [.list [.ref 18],.tup [.int (r.1+1),.int (r.2+1)]]) :=
   Eq.trans (b:=some (ptHx ((cmpL p 3).map (mapO (bak selF [21,22] 17))) v g e (xs.map (bak selF [21,22] 17)) sp [.list [.ref 18],.tup [.int (r.1+1),.int (r.2+1)]])) (by kernel_rfl) (by rw [aj (f:=bak selF [21,22] 17) (fun z9=>rfl) (fun z9=>rfl) (fun z9=>rfl) p (k:=3) (k':=4) rfl (i8 ⟨rfl,rfl,rfl,rfl,rfl,rfl,rfl,rfl⟩),G.ren (bak selF [21,22] 17) fun z9=>rfl];rfl)
  exact con B 60 _ _ [.go 10,.s (some selF),.go 1,.h (sH p v g e xs []),.c (.ref 21) (fH p v g e mm xs [.list [.ref 22],.tup [.int (r.1+1),.int (r.2+1)]]),.s (some [21,22]),.go 1,.h (ptH p v g e xs sp [.list [.ref 18],.tup [.int (r.1+1),.int (r.2+1)]])]
   (I2 e1 (I2 hc (I2 e2 trivial))) (by kernel_rfl)
noncomputable abbrev nH (p:Pt) (v:BV) (g e:Int) (xs:List AV) (sp:AV) (m:AO) (Z:Hp):Hp:=ptH p v g e xs sp (m::.list []::.list []::.list []::.list []::Z)
noncomputable abbrev nM (p2:Int):AO:=macO p2 400000 0 0 (.ref 18) (.ref 19) (.ref 20) (.ref 21)
theorem lS (G:Gap L g e xs) (hz:v.zv=L.length+1) (hL:L.length≤90) (hn:n≤L.length) (hE:Finds B d p v L g e (n+1) xs E) :
  ∃ mm,match E n with
  | none=>Con B (d+9) 59 [.ref 0,.ref 1,.int (n+1),.int v.zv] (ptH p v g e xs sp []) (.ref 22) (nH p v g e xs sp mm [noneT])
  | some q=>if q=n then Con B (d+9) 59 [.ref 0,.ref 1,.int (n+1),.int v.zv] (ptH p v g e xs sp []) (.ref 24) (nH p v g e xs sp mm [.list [.ref 23],.tup [.int (n+1),.int (q+1)],noneT])
   else Con B (d+9) 59 [.ref 0,.ref 1,.int (n+1),.int v.zv] (ptH p v g e xs sp []) (.ref 24) (nH p v g e xs sp mm [.list [.ref 23],.tup [.int (n+1),.int (q+1)],atT 22]):=by
 obtain ⟨t',z1,z2,z3,z4,z5,z6,h1,h2,hf⟩:=fX (l0:=0) (k0:=.opq) (k1:=.opq) (k2:=.opq) (k3:=.opq) (t:=0) G ⟨by exact ak [] [] (.leI (.k 0) (.k 0)) [1] rfl,by exact ak [] [] (.ltI (.k 0) (.k 1000000)) [1] rfl⟩ (by exact ag [_,_] [] (.ltN N0 (.k 5000)) (.leN N1 (.k 90)) (.leN N0 N1) [1,1,1] rfl hL hn) (hE n 0 hn (by exact ak [] [] (.leI (.k 0) (.k 0)) [1] rfl) (by exact ak [] [] (.ltI (.k 0) (.k 900000)) [1] rfl))
 have e1:((pick (nH p v g e xs sp (nM (n+1)) []) selN).map fun sub=>sub.map (mapO (Mine.ren selN)))=some (tH p v g e (macO (n+1) (0+400000) 0 0 .opq .opq .opq .opq) xs []) :=
  Eq.trans (b:=some (tHx ((cmpL p 4).map (mapO (Mine.ren selN))) v g e (macO (n+1) (0+400000) 0 0 .opq .opq .opq .opq) (xs.map (Mine.ren selN)) [])) (by kernel_rfl) (by rw [aj (f:=Mine.ren selN) (fun z9=>rfl) (fun z9=>rfl) (fun z9=>rfl) p (k:=4) (k':=4) rfl (i8 ⟨rfl,rfl,rfl,rfl,rfl,rfl,rfl,rfl⟩),G.ren (Mine.ren selN) fun z9=>rfl];rfl)
 refine ⟨macO (n+1) (0+400000) t' v.zv .opq .opq .opq .opq,?_⟩
 revert hf
 cases E n with
 | none =>
  intro hc
  have e2:((pick (tH p v g e (macO (n+1) (0+400000) t' v.zv (.ref 18) (.ref 20) (.ref 21) (.ref 22)) xs [z1,z2,z3,z4,z5,z6]) []).map fun new=>wback (bak selN [] 22) selN (tH p v g e (macO (n+1) (0+400000) t' v.zv (.ref 18) (.ref 20) (.ref 21) (.ref 22)) xs [z1,z2,z3,z4,z5,z6]) (nH p v g e xs sp (nM (n+1)) [])++new.map (mapO (bak selN [] 22)))=some (nH p v g e xs sp (macO (n+1) (0+400000) t' v.zv .opq .opq .opq .opq) []) :=
   Eq.trans (b:=some (nHx ((cmpL p 4).map (mapO (bak selN [] 22))) v g e (xs.map (bak selN [] 22)) sp (macO (n+1) (0+400000) t' v.zv .opq .opq .opq .opq) [])) (by kernel_rfl) (by rw [aj (f:=bak selN [] 22) (fun z9=>rfl) (fun z9=>rfl) (fun z9=>rfl) p (k:=4) (k':=4) rfl (i8 ⟨rfl,rfl,rfl,rfl,rfl,rfl,rfl,rfl⟩),G.ren (bak selN [] 22) fun z9=>rfl];rfl)
  exact con B 60 _ _ [.go 43,.s (some selN),.go 1,.h (tH p v g e (macO (n+1) (0+400000) 0 0 .opq .opq .opq .opq) xs []),.c .none (tH p v g e (macO (n+1) (0+400000) t' v.zv (.ref 18) (.ref 20) (.ref 21) (.ref 22)) xs [z1,z2,z3,z4,z5,z6]),.s (some []),.go 1,.h (nH p v g e xs sp (macO (n+1) (0+400000) t' v.zv .opq .opq .opq .opq) [])]
   (I2 e1 (I2 hc (I2 e2 trivial))) (by kernel_rfl)
 | some q =>
  intro hc
  have e2:((pick (tH p v g e (macO (n+1) (0+400000) t' v.zv (.ref 18) (.ref 20) (.ref 21) (.ref 22)) xs [z1,z2,z3,z4,z5,z6,.tup [.int (n+1),.int (q+1)],.list [.ref 26],.tup [.int (n+1),.int (q+1)],.tup [.int (n+1),.int (q+1)]]) [24,26]).map fun new=>wback (bak selN [24,26] 22) selN (tH p v g e (macO (n+1) (0+400000) t' v.zv (.ref 18) (.ref 20) (.ref 21) (.ref 22)) xs [z1,z2,z3,z4,z5,z6,.tup [.int (n+1),.int (q+1)],.list [.ref 26],.tup [.int (n+1),.int (q+1)],.tup [.int (n+1),.int (q+1)]]) (nH p v g e xs sp (nM (n+1)) [])++new.map (mapO (bak selN [24,26] 22)))=some (nH p v g e xs sp (macO (n+1) (0+400000) t' v.zv .opq .opq .opq .opq) [.list [.ref 23],.tup [.int (n+1),.int (q+1)]]) :=
   Eq.trans (b:=some (nHx ((cmpL p 4).map (mapO (bak selN [24,26] 22))) v g e (xs.map (bak selN [24,26] 22)) sp (macO (n+1) (0+400000) t' v.zv .opq .opq .opq .opq) [.list [.ref 23],.tup [.int (n+1),.int (q+1)]])) (by kernel_rfl) (by rw [aj (f:=bak selN [24,26] 22) (fun z9=>rfl) (fun z9=>rfl) (fun z9=>rfl) p (k:=4) (k':=4) rfl (i8 ⟨rfl,rfl,rfl,rfl,rfl,rfl,rfl,rfl⟩),G.ren (bak selN [24,26] 22) fun z9=>rfl];rfl)
  dsimp only
  split
  ·rename_i hq
   exact con B 60 _ _ [.go 43,.s (some selN),.go 1,.h (tH p v g e (macO (n+1) (0+400000) 0 0 .opq .opq .opq .opq) xs []),.c (.ref 24) (tH p v g e (macO (n+1) (0+400000) t' v.zv (.ref 18) (.ref 20) (.ref 21) (.ref 22)) xs [z1,z2,z3,z4,z5,z6,.tup [.int (n+1),.int (q+1)],.list [.ref 26],.tup [.int (n+1),.int (q+1)],.tup [.int (n+1),.int (q+1)]]),.s (some [24,26]),.go 1,.h (nH p v g e xs sp (macO (n+1) (0+400000) t' v.zv .opq .opq .opq .opq) [.list [.ref 23],.tup [.int (n+1),.int (q+1)]]),.go 8,.b true]
    (I2 e1 (I2 hc (I2 e2 (I2 (dT (p:=(n:Int)+1=q+1) (by exact aK [_,_] [] (.eqI (.a (.c N0) (.k 1)) (.a (.c N1) (.k 1))) (.eqN N1 N0) [1,-1] [1,1] rfl hq)) trivial)))) (by kernel_rfl)
  ·rename_i hq
   exact con B 60 _ _ [.go 43,.s (some selN),.go 1,.h (tH p v g e (macO (n+1) (0+400000) 0 0 .opq .opq .opq .opq) xs []),.c (.ref 24) (tH p v g e (macO (n+1) (0+400000) t' v.zv (.ref 18) (.ref 20) (.ref 21) (.ref 22)) xs [z1,z2,z3,z4,z5,z6,.tup [.int (n+1),.int (q+1)],.list [.ref 26],.tup [.int (n+1),.int (q+1)],.tup [.int (n+1),.int (q+1)]]),.s (some [24,26]),.go 1,.h (nH p v g e xs sp (macO (n+1) (0+400000) t' v.zv .opq .opq .opq .opq) [.list [.ref 23],.tup [.int (n+1),.int (q+1)]]),.go 8,.b false]
    (I2 e1 (I2 hc (I2 e2 (I2 (dF (p:=(n:Int)+1=q+1) (by omega)) trivial)))) (by kernel_rfl)
end
noncomputable def eH (v:BV) (g e:Int) (xs:List AV) (Z:Hp):Hp:=bufO v 1 3::gapO (.int 8) 2 g e::.list xs::mkO 4::.dict []::.list []::Z
theorem GapN.ren {L:List Int} {a j:Nat} {xs:List AV} (G:GapN L a j xs) (f:AV→AV) (hf:∀ i,f (.int i)=.int i):xs.map f=xs:=G.gap.ren f hf
theorem mO {σ:Hp} {a b:Int} (h:a≤b):biV σ 1 [.int a,.int b]=some (.int a,σ):=by
 show some (AV.int (if b<a then b else a),σ)=_
 rw [if_neg (by exact aa [] [_,_] (.n (.ltI J0 J1)) (.leI J1 J0) [1,1] rfl h)]
theorem mQ {σ:Hp} {a b:Int} (h:a≤b):biV σ 2 [.int a,.int b]=some (.int b,σ):=by
 show some (AV.int (if b > a then b else a),σ)=_
 by_cases hb:b > a
 ·rw [if_pos hb]
 ·rw [if_neg hb,show a=b by exact aB [] [_,_] (.eqI J0 J1) (.leI J0 J1) (.n (.ltI J0 J1)) [1,1,0] [1,0,1] rfl h hb]
section
variable {B:Base} {d:Nat} {v:BV} {L D:List Int} {g e:Int} {a j:Nat} {xs:List AV} {Z:Hp}
theorem kE {z z':Int} (h:z=z'):attrSet (eH v g e xs Z) (.ref 0) 12 (.int z)=some (eH { v with zv:=z' } g e xs Z):=by
 subst h;kernel_rfl
theorem i0 {z z':Int} (h:z=z'):attrSet (eH v g e xs Z) (.ref 0) 19 (.int z)=some (eH { v with pt:=z' } g e xs Z):=by
 subst h;kernel_rfl
theorem kF {o:AO}:(eH v g e xs (Z++[o]))[Z.length+6]?=some o:=by
 show (Z++[o])[Z.length]?=some o
 exact List.getElem?_concat_length
theorem mR:nextI (eH v g e xs (Z++[.list []])) (.lst (Z.length+6) 0)=some none:=by
 show (match (eH v g e xs (Z++[AO.list []]))[Z.length+6]? with | some (AO.list xs)=>some (nextL xs 0 (eH v g e _ (Z++[AO.list []])) (.lst (Z.length+6) (0+1))) | _=>none)=_
 rw [kF];rfl
theorem bE {s f:Int} (h1:1≤s) (h2:s≤f) (h3:f≤v.zv):Con B (d+1) 2 [.ref 0,.int s,.int f] (eH v g e xs Z) (.ref (Z.length+7)) (eH v g e xs (Z++[.tup [.int s,.int f],.tup [.int s,.int f]])):=by
 rw [show Z++[AO.tup [.int s,.int f],.tup [.int s,.int f]]=Z++[.tup [.int s,.int f]]++[.tup [.int s,.int f]] by rw [List.append_assoc];rfl]
 have hr:Z.length+7=(eH v g e xs (Z++[.tup [.int s,.int f]])).length:=by
  show _=(Z++[AO.tup [.int s,.int f]]).length+6
  rw [List.length_append];rfl
 rw [hr]
 exact con B 30 _ _ [.go 3,.v (.int s),.go 2,.v (.int f),.go 3,.b false,.go 3,.b false]
  (I2 (mO (σ:=eH v g e xs Z) h2) (I2 (mQ (σ:=eH v g e xs Z) h2) (I2 (dF (p:=s<1) (by exact aa [] [_] (.n (.ltI J0 (.k 1))) (.leI (.k 1) J0) [1,1] rfl h1)) (I2 (dF (p:=f > v.zv) (by exact aa [] [_,_] (.n (.ltI J0 J1)) (.leI J1 J0) [1,1] rfl h3)) trivial)))) (by kernel_rfl)
theorem i3 {m:Int} (G:GapN L a j xs) (h1:-5000≤m) (h2:m≤5000):Con B (d+3) 1 [.ref 0,.int m] (eH v a (a+j) xs Z) .none (eH v a (a+j) xs Z):=by
 have hl:=G.len
 have h3:=G.le
 have h4:=G.lim
 exact con B 60 _ _ [.go 12,.v (.int (L.length+j:Nat)),.go 2,.b true,.go 2,.b true,.go 1,.b true,.b false]
  (I2 (az (σ:=eH v a (a+j) xs Z) (l:=2) rfl hl) (I2 tI (I2 tI (I2 tI (I2 (dF (p:=((L.length+j:Nat):Int) - (a+j)+a+m > 4194304) (by exact ag [_,_,_] [_] (.n (.ltI (.k 4194304) (.a (.a (.s (.c (.a N0 N1)) (.a (.c N2) (.c N1))) (.c N2)) J0))) (.leI J0 (.k 5000)) (.leN (.a N0 N1) (.k 4000)) [1,1,1] rfl h2 h4)) trivial))))) (by kernel_rfl)
theorem ce {x y z:AV} (h1:0≤v.tk) (h2:v.tk≤1000000):Con B (d+2) 4 [.ref 0,x,y,z] (eH v g e xs Z) .none (eH { v with tk:=v.tk+1,ck:=v.tk+1 } g e xs (Z++[.list []])) :=
 con B 60 _ _ [.go 7,.b true,.go 11,.o (.list []),.go 1,.nx none]
  (I2 tI (I2 (kF (v:={ v with tk:=v.tk+1,ck:=v.tk+1 }) (g:=g) (e:=e) (xs:=xs) (Z:=Z) (o:=.list [])) (I2 (mR (v:={ v with tk:=v.tk+1,ck:=v.tk+1 }) (g:=g) (e:=e) (xs:=xs) (Z:=Z)) trivial))) (by kernel_rfl)
end
noncomputable abbrev cD (D:List Int):AO:=.list (D.map .int)
noncomputable abbrev tt (s e:Int):AO:=.tup [.int s,.int e]
section
variable {B:Base} {d:Nat} {v:BV} {L D:List Int} {a j k s e:Nat} {xs:List AV} {Z:Hp} {t1 t2:AO}
noncomputable def tk1 (v:BV):BV:={ v with tk:=v.tk+1,ck:=v.tk+1 }
noncomputable def zv1 (v:BV) (z:Int):BV:={ v with zv:=z }
noncomputable def pt1 (v:BV) (z:Int):BV:={ v with pt:=z }
theorem nV {σ:Hp} {a b:Int} (h:b=a):biV σ 2 [.int a,.int b]=some (.int a,σ):=by
 subst h
 show some (AV.int (if b > b then b else b),σ)=_
 rw [if_neg (Int.lt_irrefl b)]
theorem kG (G:GapN L a j xs) (hz:v.zv=L.length+1) (hk:k≤L.length) (hp:v.pt≤k+1) (h:L.length+D.length+8≤4000) :
  ∃ xs' j',D.length≤j'∧j'≤max j (D.length+8)∧GapN (L.take k++D++L.drop k) (k+D.length) (j' - D.length) xs' ∧
   Con B (d+3) 6 [.ref 0,.int (k+1),.ref 6] (eH v a (a+j) xs (cD D::Z)) .none (eH (zv1 v (L.length+D.length+1)) (k+D.length:Nat) ((k+D.length:Nat)+(j' - D.length:Nat)) xs' (cD D::Z)):=by
 obtain ⟨xs',Y,j',b1,b2,G',hc⟩:=lQ (B:=B) (d:=d) G hk h
 refine ⟨xs',j',b1,b2,G',?_⟩
 have e0:((k:Int)+1 - 1)=k:=by exact au [_] [] (.eqI (.s (.a (.c N0) (.k 1)) (.k 1)) (.c N0)) [1] [1] rfl
 have hc':Con B (d+2) 30 [.ref 0,.int ((k:Int)+1 - 1),.ref 2] (gR a (a+j) xs [cD D]) .none (gR (k+D.length:Nat) ((k+D.length:Nat)+(j' - D.length:Nat)) xs' (cD D::Y)):=by rw [e0];exact hc
 have e1:((pick (eH v a (a+j) xs (cD D::Z)) [1,2,6]).map fun sub=>sub.map (mapO (Mine.ren [1,2,6])))=some (gR a (a+j) xs [cD D]) :=
  Eq.trans (b:=some (gR a (a+j) (xs.map (Mine.ren [1,2,6])) [.list ((D.map AV.int).map (Mine.ren [1,2,6]))])) (by kernel_rfl) (by rw [G.ren (Mine.ren [1,2,6]) fun z9=>rfl,ac (Mine.ren [1,2,6]) fun z9=>rfl])
 have e2:((pick (gR (k+D.length:Nat) ((k+D.length:Nat)+(j' - D.length:Nat)) xs' (cD D::Y)) []).map fun new=>wback (bak [1,2,6] [] (Z.length+7)) [1,2,6] (gR (k+D.length:Nat) ((k+D.length:Nat)+(j' - D.length:Nat)) xs' (cD D::Y)) (eH v a (a+j) xs (cD D::Z))++new.map (mapO (bak [1,2,6] [] (Z.length+7))))=some (eH v (k+D.length:Nat) ((k+D.length:Nat)+(j' - D.length:Nat)) xs' (cD D::Z)) :=
  Eq.trans (b:=some (eH v (k+D.length:Nat) ((k+D.length:Nat)+(j' - D.length:Nat)) (xs'.map (bak [1,2,6] [] (Z.length+7))) (.list ((D.map AV.int).map (bak [1,2,6] [] (Z.length+7)))::Z)++[]))
   (by kernel_rfl) (by rw [List.append_nil,G'.ren (bak [1,2,6] [] (Z.length+7)) fun z9=>rfl,ac (bak [1,2,6] [] (Z.length+7)) fun z9=>rfl])
 exact con B 60 _ _ [.go 8,.b true,.go 1,.s (some [1,2,6]),.go 1,.h (gR a (a+j) xs [cD D]),.c .none (gR (k+D.length:Nat) ((k+D.length:Nat)+(j' - D.length:Nat)) xs' (cD D::Y)),.s (some []),.go 1,.h (eH v (k+D.length:Nat) ((k+D.length:Nat)+(j' - D.length:Nat)) xs' (cD D::Z)),
   .go 3,.v (.int D.length),.b true,.go 1,.h (eH (zv1 v (L.length+D.length+1)) (k+D.length:Nat) ((k+D.length:Nat)+(j' - D.length:Nat)) xs' (cD D::Z)),.go 3,.b false]
  (I2 tI (I2 e1 (I2 hc' (I2 e2 (I2 (az (σ:=eH v (k+D.length:Nat) ((k+D.length:Nat)+(j' - D.length:Nat)) xs' (cD D::Z)) (l:=6) rfl (List.length_map _)) (I2 tI
   (I2 (kE (v:=v) (z:=v.zv+D.length) (z':=L.length+D.length+1) (g:=(k+D.length:Nat)) (e:=(k+D.length:Nat)+(j' - D.length:Nat)) (xs:=xs') (Z:=cD D::Z) (by exact aK [_,_] [_] (.eqI (.a J0 (.c N0)) (.a (.a (.c N1) (.c N0)) (.k 1))) (.eqI J0 (.a (.c N1) (.k 1))) [1,1] [1,-1] rfl hz)) (I2 (dF (p:=v.pt > (k:Int)+1) (by exact aa [_] [_] (.n (.ltI (.a (.c N0) (.k 1)) J0)) (.leI J0 (.a (.c N0) (.k 1))) [1,1] rfl hp)) trivial)))))))) (by kernel_rfl)
theorem i4 (G:GapN L a j xs) (hz:v.zv=L.length+1) (h1:s<e) (h2:e≤L.length) (hp:v.pt=e+1) :
  ∃ xs',GapN (L.take s++L.drop e) s (j+(e - s)) xs' ∧
   Con B (d+3) 5 [.ref 0,.int (s+1),.int (e+1)] (eH v a (a+j) xs Z) .opq (eH (pt1 (zv1 v (L.length - (e - s)+1)) (s+1)) s (s+(j+(e - s):Nat)) xs' Z):=by
 have hl:=G.lim
 obtain ⟨xs',Y,G',hc⟩:=lO (B:=B) (d:=d) G (Nat.le_of_lt h1) h2
 refine ⟨xs',G',?_⟩
 have e0:((s:Int)+1 - 1)=s:=by exact au [_] [] (.eqI (.s (.a (.c N0) (.k 1)) (.k 1)) (.c N0)) [1] [1] rfl
 have e0':((e:Int)+1 - 1)=e:=by exact au [_] [] (.eqI (.s (.a (.c N0) (.k 1)) (.k 1)) (.c N0)) [1] [1] rfl
 have hc':Con B (d+2) 31 [.ref 0,.int ((s:Int)+1 - 1),.int ((e:Int)+1 - 1)] (gR a (a+j) xs []) (.ref 2) (gR s (s+(j+(e - s):Nat)) xs' (cD (sub L s e)::Y)):=by rw [e0,e0'];exact hc
 have e1:((pick (eH v a (a+j) xs Z) [1,2]).map fun sub=>sub.map (mapO (Mine.ren [1,2])))=some (gR a (a+j) xs []) :=
  Eq.trans (b:=some (gR a (a+j) (xs.map (Mine.ren [1,2])) [])) (by kernel_rfl) (by rw [G.ren (Mine.ren [1,2]) fun z9=>rfl])
 have e2:((pick (gR s (s+(j+(e - s):Nat)) xs' (cD (sub L s e)::Y)) []).map fun new=>wback (bak [1,2] [] (Z.length+6)) [1,2] (gR s (s+(j+(e - s):Nat)) xs' (cD (sub L s e)::Y)) (eH v a (a+j) xs Z)++new.map (mapO (bak [1,2] [] (Z.length+6))))=some (eH v s (s+(j+(e - s):Nat)) xs' Z) :=
  Eq.trans (b:=some (eH v s (s+(j+(e - s):Nat)) (xs'.map (bak [1,2] [] (Z.length+6))) Z++[])) (by kernel_rfl) (by rw [List.append_nil,G'.ren (bak [1,2] [] (Z.length+6)) fun z9=>rfl])
 exact con B 60 _ _ [.go 8,.b true,.go 1,.b true,.s (some [1,2]),.go 1,.h (gR a (a+j) xs []),.c (.ref 2) (gR s (s+(j+(e - s):Nat)) xs' (cD (sub L s e)::Y)),.s (some []),.go 1,.h (eH v s (s+(j+(e - s):Nat)) xs' Z),
   .go 4,.b true,.b true,.go 1,.h (eH (zv1 v (L.length - (e - s)+1)) s (s+(j+(e - s):Nat)) xs' Z),.go 3,.b true,.go 5,.b true,.b true,.v (.int (s+1)),.go 1,.h (eH (pt1 (zv1 v (L.length - (e - s)+1)) (s+1)) s (s+(j+(e - s):Nat)) xs' Z)]
  (I2 tI (I2 tI (I2 e1 (I2 hc' (I2 e2
   (I2 tI (I2 tI (I2 (kE (v:=v) (z:=v.zv - ((e:Int)+1 - (s+1))) (z':=L.length - (e - s)+1) (g:=s) (e:=s+(j+(e - s):Nat)) (xs:=xs') (Z:=Z) (by exact aK [_,_,_] [_] (.eqI (.s J0 (.s (.a (.c N0) (.k 1)) (.a (.c N1) (.k 1)))) (.a (.s (.c N2) (.s (.c N0) (.c N1))) (.k 1))) (.eqI J0 (.a (.c N2) (.k 1))) [1,1] [1,-1] rfl hz))
   (I2 (dT (p:=v.pt > (s:Int)+1) (by exact ag [_,_] [_] (.ltI (.a (.c N0) (.k 1)) J0) (.ltN N0 N1) (.eqI J0 (.a (.c N1) (.k 1))) [1,1,-1] rfl h1 hp)) (I2 tI (I2 tI
   (I2 (nV (σ:=eH (zv1 v (L.length - (e - s)+1)) s (s+(j+(e - s):Nat)) xs' Z) (a:=(s:Int)+1) (b:=v.pt - ((e:Int)+1 - (s+1))) (by exact aK [_,_] [_] (.eqI (.s J0 (.s (.a (.c N0) (.k 1)) (.a (.c N1) (.k 1)))) (.a (.c N1) (.k 1))) (.eqI J0 (.a (.c N0) (.k 1))) [1,1] [1,-1] rfl hp)) (I2 (i0 (v:=zv1 v (L.length - (e - s)+1)) (z:=s+1) (z':=s+1) (g:=s) (e:=s+(j+(e - s):Nat)) (xs:=xs') (Z:=Z) rfl) trivial))))))))))))) (by kernel_rfl)
end
section
variable {B:Base} {d:Nat} {v:BV} {L D:List Int} {a j k s e:Nat} {xs:List AV} {t1 t2:AO}
noncomputable abbrev eN (v:BV) (a j:Nat) (xs:List AV) (Z:Hp):Hp:=eH v a (a+j) xs Z
noncomputable abbrev mE:AO:=.list []
theorem lT (G:GapN L a j xs) (hz:v.zv=L.length+1) (hk:k≤L.length) :
  Con B (d+5) 9 [.ref 0,.int (k+1),.ref 6,.bool false,.bool false] (eN v a j xs [cD [],t1,t2]) .none (eN v a j xs [cD [],t1,t2,tt (k+1) (k+1),tt (k+1) (k+1)]) :=
 con B 60 _ _ [.go 11,.c (.ref 10) (eN v a j xs [cD [],t1,t2,tt (k+1) (k+1),tt (k+1) (k+1)])]
  (I2 (bE (B:=B) (d:=d+3) (v:=v) (g:=a) (e:=a+j) (xs:=xs) (Z:=[cD [],t1,t2]) (s:=(k:Int)+1) (f:=(k:Int)+1) (by exact ak [_] [] (.leI (.k 1) (.a (.c N0) (.k 1))) [1] rfl) (by exact ak [_] [] (.leI (.a (.c N0) (.k 1)) (.a (.c N0) (.k 1))) [1] rfl) (by exact ag [_,_] [_] (.leI (.a (.c N0) (.k 1)) J0) (.eqI J0 (.a (.c N1) (.k 1))) (.leN N0 N1) [1,-1,1] rfl hz hk)) trivial) (by kernel_rfl)
theorem bt (v:BV) (g e:Int) (xs:List AV) (D:List Int) (Z:Hp):biV (eH v g e xs (cD D::Z)) 0 [.ref 6]=some (.int D.length,eH v g e xs (cD D::Z)):=az (σ:=eH v g e xs (cD D::Z)) (l:=6) rfl (List.length_map _)
noncomputable def ptB (b:Bool) (v:BV) (x:Int):BV:=if b then pt1 v x else v
theorem kH (b:Bool) (G:GapN L a j xs) (hz:v.zv=L.length+1) (hk:k≤L.length) (hD:0<D.length) (hp:v.pt≤k+1) (h:L.length+D.length+8≤4000) (h1:0≤v.tk) (h2:v.tk≤1000000) :
  Ex3 fun xs' j' Y=>j'+D.length≤max j (D.length+8)∧GapN (L.take k++D++L.drop k) (k+D.length) j' xs' ∧
   Con B (d+5) 9 [.ref 0,.int (k+1),.ref 6,.bool false,.bool b] (eN v a j xs [cD D,t1,t2]) .none (eN (tk1 (ptB b (zv1 v (L.length+D.length+1)) (k+1+D.length))) (k+D.length) j' xs' (cD D::t1::t2::Y)):=by
 obtain ⟨xs',j',b1,b2,G',hc⟩:=kG (B:=B) (d:=d+1) (D:=D) (Z:=[t1,t2,tt (k+1) (k+1),tt (k+1) (k+1),mE]) G hz hk hp h
 refine ⟨xs',j' - D.length,[tt (k+1) (k+1),tt (k+1) (k+1),mE,mE,mE],by exact ag [_,_,_,_] [] (.leN (.a N0 N1) N2) (.leN N3 N2) (.eqN (.a N0 N1) N3) [1,1,1] rfl b2 (ab (b1)),G',?_⟩
 have hl:=G'.lim
 have hr:=bE (B:=B) (d:=d+3) (v:=v) (g:=a) (e:=a+j) (xs:=xs) (Z:=[cD D,t1,t2]) (s:=(k:Int)+1) (f:=(k:Int)+1) (by exact ak [_] [] (.leI (.k 1) (.a (.c N0) (.k 1))) [1] rfl) (by exact ak [_] [] (.leI (.a (.c N0) (.k 1)) (.a (.c N0) (.k 1))) [1] rfl) (by exact ag [_,_] [_] (.leI (.a (.c N0) (.k 1)) J0) (.eqI J0 (.a (.c N1) (.k 1))) (.leN N0 N1) [1,-1,1] rfl hz hk)
 have hm:=i3 (B:=B) (d:=d+1) (v:=v) (Z:=[cD D,t1,t2,tt (k+1) (k+1),tt (k+1) (k+1)]) (m:=D.length) G (by exact ak [_] [] (.leI (.g (.k 5000)) (.c N0)) [1] rfl) (by exact aa [_,_] [] (.leI (.c N0) (.k 5000)) (.leN (.a (.a N1 N0) (.k 8)) (.k 4000)) [1,1] rfl h)
 cases b with
 | false =>
  have hb:=ce (B:=B) (d:=d+2) (v:=zv1 v (L.length+D.length+1)) (g:=(k+D.length:Nat)) (e:=(k+D.length:Nat)+(j' - D.length:Nat)) (xs:=xs') (Z:=[cD D,t1,t2,tt (k+1) (k+1),tt (k+1) (k+1),mE,mE]) (x:=.int (k+1)) (y:=.int (k+1+D.length)) (z:=.int 0) h1 h2
  exact con B 60 _ _ [.go 11,.c (.ref 10) (eN v a j xs [cD D,t1,t2,tt (k+1) (k+1),tt (k+1) (k+1)]),.go 1,.v (.int D.length),.b false,.go 2,.v (.int D.length),.go 1,.c .none (eN v a j xs [cD D,t1,t2,tt (k+1) (k+1),tt (k+1) (k+1)]),
    .go 15,.c .none (eN (zv1 v (L.length+D.length+1)) (k+D.length) (j' - D.length) xs' [cD D,t1,t2,tt (k+1) (k+1),tt (k+1) (k+1),mE]),.go 8,.v (.int D.length),.b true,.go 16,.v (.int D.length),.go 13,.v (.int D.length),.b true,.go 1,.c .none (eN (tk1 (zv1 v (L.length+D.length+1))) (k+D.length) (j' - D.length) xs' [cD D,t1,t2,tt (k+1) (k+1),tt (k+1) (k+1),mE,mE,mE])]
   (I2 hr (I2 (bt v a (a+j) xs D [t1,t2,tt (k+1) (k+1),tt (k+1) (k+1)]) (I2 (dF (p:=(D.length:Int)=0) (by exact aa [_] [] (.n (.eqI (.c N0) (.k 0))) (.ltN (.k 0) N0) [1,1] rfl hD)) (I2 (bt v a (a+j) xs D [t1,t2,tt (k+1) (k+1),tt (k+1) (k+1)]) (I2 hm (I2 hc (I2 (bt (zv1 v (L.length+D.length+1)) (k+D.length:Nat) ((k+D.length:Nat)+(j' - D.length:Nat)) xs' D [t1,t2,tt (k+1) (k+1),tt (k+1) (k+1),mE]) (I2 tI
    (I2 (bt (zv1 v (L.length+D.length+1)) (k+D.length:Nat) ((k+D.length:Nat)+(j' - D.length:Nat)) xs' D [t1,t2,tt (k+1) (k+1),tt (k+1) (k+1),mE,mE]) (I2 (bt (zv1 v (L.length+D.length+1)) (k+D.length:Nat) ((k+D.length:Nat)+(j' - D.length:Nat)) xs' D [t1,t2,tt (k+1) (k+1),tt (k+1) (k+1),mE,mE]) (I2 tI (I2 hb trivial)))))))))))) (by kernel_rfl)
 | true =>
  have hb:=ce (B:=B) (d:=d+2) (v:=pt1 (zv1 v (L.length+D.length+1)) (k+1+D.length)) (g:=(k+D.length:Nat)) (e:=(k+D.length:Nat)+(j' - D.length:Nat)) (xs:=xs') (Z:=[cD D,t1,t2,tt (k+1) (k+1),tt (k+1) (k+1),mE,mE]) (x:=.int (k+1)) (y:=.int (k+1+D.length)) (z:=.int 0) h1 h2
  exact con B 60 _ _ [.go 11,.c (.ref 10) (eN v a j xs [cD D,t1,t2,tt (k+1) (k+1),tt (k+1) (k+1)]),.go 1,.v (.int D.length),.b false,.go 2,.v (.int D.length),.go 1,.c .none (eN v a j xs [cD D,t1,t2,tt (k+1) (k+1),tt (k+1) (k+1)]),
    .go 15,.c .none (eN (zv1 v (L.length+D.length+1)) (k+D.length) (j' - D.length) xs' [cD D,t1,t2,tt (k+1) (k+1),tt (k+1) (k+1),mE]),.go 4,.v (.int D.length),.b true,.go 1,.h (eN (pt1 (zv1 v (L.length+D.length+1)) (k+1+D.length)) (k+D.length) (j' - D.length) xs' [cD D,t1,t2,tt (k+1) (k+1),tt (k+1) (k+1),mE]),.go 6,.v (.int D.length),.b true,.go 16,.v (.int D.length),.go 13,.v (.int D.length),.b true,.go 1,.c .none (eN (tk1 (pt1 (zv1 v (L.length+D.length+1)) (k+1+D.length))) (k+D.length) (j' - D.length) xs' [cD D,t1,t2,tt (k+1) (k+1),tt (k+1) (k+1),mE,mE,mE])]
   (I2 hr (I2 (bt v a (a+j) xs D [t1,t2,tt (k+1) (k+1),tt (k+1) (k+1)]) (I2 (dF (p:=(D.length:Int)=0) (by exact aa [_] [] (.n (.eqI (.c N0) (.k 0))) (.ltN (.k 0) N0) [1,1] rfl hD)) (I2 (bt v a (a+j) xs D [t1,t2,tt (k+1) (k+1),tt (k+1) (k+1)]) (I2 hm (I2 hc (I2 (bt (zv1 v (L.length+D.length+1)) (k+D.length:Nat) ((k+D.length:Nat)+(j' - D.length:Nat)) xs' D [t1,t2,tt (k+1) (k+1),tt (k+1) (k+1),mE]) (I2 tI
    (I2 (i0 (v:=zv1 v (L.length+D.length+1)) (z:=(k:Int)+1+D.length) (z':=(k:Int)+1+D.length) (g:=(k+D.length:Nat)) (e:=(k+D.length:Nat)+(j' - D.length:Nat)) (xs:=xs') (Z:=[cD D,t1,t2,tt (k+1) (k+1),tt (k+1) (k+1),mE]) rfl) (I2 (bt (pt1 (zv1 v (L.length+D.length+1)) (k+1+D.length)) (k+D.length:Nat) ((k+D.length:Nat)+(j' - D.length:Nat)) xs' D [t1,t2,tt (k+1) (k+1),tt (k+1) (k+1),mE]) (I2 tI
    (I2 (bt (pt1 (zv1 v (L.length+D.length+1)) (k+1+D.length)) (k+D.length:Nat) ((k+D.length:Nat)+(j' - D.length:Nat)) xs' D [t1,t2,tt (k+1) (k+1),tt (k+1) (k+1),mE,mE]) (I2 (bt (pt1 (zv1 v (L.length+D.length+1)) (k+1+D.length)) (k+D.length:Nat) ((k+D.length:Nat)+(j' - D.length:Nat)) xs' D [t1,t2,tt (k+1) (k+1),tt (k+1) (k+1),mE,mE]) (I2 tI (I2 hb trivial))))))))))))))) (by kernel_rfl)
theorem mS {c0:AO} (G:GapN L a j xs) (hz:v.zv=L.length+1) (h1:s<e) (h2:e≤L.length) (hp:v.pt=e+1) (k1:0≤v.tk) (k2:v.tk≤1000000) :
  ∃ xs',GapN (L.take s++L.drop e) s (j+(e - s)) xs' ∧
   Con B (d+6) 12 [.ref 0,.int (s+1),.int (e+1)] (eN v a j xs [c0,t1,t2]) .opq (eN (tk1 (pt1 (zv1 v (L.length - (e - s)+1)) (s+1))) s (j+(e - s)) xs' [c0,t1,t2,tt (s+1) (e+1),tt (s+1) (e+1),mE,mE,mE]):=by
 obtain ⟨xs',G',hc⟩:=i4 (B:=B) (d:=d+2) (Z:=[c0,t1,t2,tt (s+1) (e+1),tt (s+1) (e+1),mE]) G hz h1 h2 hp
 refine ⟨xs',G',?_⟩
 have hl:=G'.lim
 have hr:=bE (B:=B) (d:=d+4) (v:=v) (g:=a) (e:=a+j) (xs:=xs) (Z:=[c0,t1,t2]) (s:=(s:Int)+1) (f:=(e:Int)+1) (by exact ak [_] [] (.leI (.k 1) (.a (.c N0) (.k 1))) [1] rfl) (by exact aa [_,_] [] (.leI (.a (.c N0) (.k 1)) (.a (.c N1) (.k 1))) (.ltN N0 N1) [1,1] rfl h1) (by exact ag [_,_] [_] (.leI (.a (.c N0) (.k 1)) J0) (.eqI J0 (.a (.c N1) (.k 1))) (.leN N0 N1) [1,-1,1] rfl hz h2)
 have hb:=ce (B:=B) (d:=d+3) (v:=pt1 (zv1 v (L.length - (e - s)+1)) (s+1)) (g:=s) (e:=s+(j+(e - s):Nat)) (xs:=xs') (Z:=[c0,t1,t2,tt (s+1) (e+1),tt (s+1) (e+1),mE,mE]) (x:=.int (s+1)) (y:=.int (s+1)) (z:=.int (e+1 - (s+1))) k1 k2
 exact con B 60 _ _ [.go 11,.c (.ref 10) (eN v a j xs [c0,t1,t2,tt (s+1) (e+1),tt (s+1) (e+1)]),.go 3,.b false,.go 15,.c .opq (eN (pt1 (zv1 v (L.length - (e - s)+1)) (s+1)) s (j+(e - s)) xs' [c0,t1,t2,tt (s+1) (e+1),tt (s+1) (e+1),mE]),.go 33,.b true,.go 1,.c .none (eN (tk1 (pt1 (zv1 v (L.length - (e - s)+1)) (s+1))) s (j+(e - s)) xs' [c0,t1,t2,tt (s+1) (e+1),tt (s+1) (e+1),mE,mE,mE])]
  (I2 hr (I2 (dF (p:=(s:Int)+1=e+1) (by exact aa [_,_] [] (.n (.eqI (.a (.c N0) (.k 1)) (.a (.c N1) (.k 1)))) (.ltN N0 N1) [-1,1] rfl h1)) (I2 hc (I2 tI (I2 hb trivial))))) (by kernel_rfl)
theorem j7 (h1:s≤L.length):(L.take s++L.drop e).take s++D++(L.take s++L.drop e).drop s=L.take s++D++L.drop e:=by
 have h:(L.take s).length=s:=by rw [List.length_take];exact (Nat.min_eq_left (h1))
 rw [List.take_append_of_le_length (by exact aa [_,_] [] (.leN N0 N1) (.eqN N1 N0) [1,-1] rfl h),List.take_of_length_le (by exact aa [_,_] [] (.leN N0 N1) (.eqN N0 N1) [1,1] rfl h),List.drop_append_of_le_length (by exact aa [_,_] [] (.leN N0 N1) (.eqN N1 N0) [1,-1] rfl h),List.drop_of_length_le (by exact aa [_,_] [] (.leN N0 N1) (.eqN N0 N1) [1,1] rfl h),List.nil_append]
structure Chg (v:BV) (L':List Int) (M:Nat) (v':BV) (a' j':Nat) (xs':List AV):Prop where
 gap:GapN L' a' j' xs'
 zv:v'.zv=L'.length+1
 tk:0≤v'.tk∧v'.tk≤v.tk+1
 lim:L'.length+j'≤M
theorem dH (G:GapN L a j xs) (hz:v.zv=L.length+1) (h1:s≤e) (h2:e≤L.length) (hp:v.pt=e+1) (h:L.length+D.length+8≤4000) (k1:0≤v.tk) (k2:v.tk≤1000000) :
  Ex6 fun v' a' j' xs' Y r=>Chg v (L.take s++D++L.drop e) (max (L.length+j) (L.length+D.length+8)) v' a' j' xs' ∧
   Con B (d+7) 13 [.ref 0,.int (s+1),.int (e+1),.ref 6] (eN v a j xs [cD D]) r (eN v' a' j' xs' (cD D::Y)):=by
 have hl:=G.lim
 have hr:=bE (B:=B) (d:=d+5) (v:=v) (g:=a) (e:=a+j) (xs:=xs) (Z:=[cD D]) (s:=(s:Int)+1) (f:=(e:Int)+1) (by exact ak [_] [] (.leI (.k 1) (.a (.c N0) (.k 1))) [1] rfl) (by exact aa [_,_] [] (.leI (.a (.c N0) (.k 1)) (.a (.c N1) (.k 1))) (.leN N0 N1) [1,1] rfl h1) (by exact ag [_,_] [_] (.leI (.a (.c N0) (.k 1)) J0) (.eqI J0 (.a (.c N1) (.k 1))) (.leN N0 N1) [1,-1,1] rfl hz h2)
 have hL1:(L.take s++L.drop e).length=L.length - (e - s):=by rw [List.length_append,List.length_take,List.length_drop];exact cy [_,_,_,_,_,_,_] [] (.eqN (.a N0 N1) N2) (.leN N0 N3) (.leN N4 (.a N1 N5)) (.leN N5 (.a N6 N3)) (.leN N4 (.a N2 N6)) (.eqN N0 N3) (.eqN (.a N1 N5) N4) (.eqN (.a N6 N3) N5) (.eqN (.a N2 N6) N4) [1,1,0,0,1,0,1,1,0] [1,0,1,1,0,-1,0,0,1] rfl (Nat.min_le_left _ _) (af _ _) (af _ _) (af _ _) (Nat.min_eq_left (ag [_,_,_] [] (.leN N0 N1) (.leN N0 N2) (.leN N2 N1) [1,1,1] rfl h1 h2)) (ab (h2)) (ab (h1)) (ab (ag [_,_,_] [] (.leN N0 N1) (.leN N2 N1) (.leN N0 N2) [1,1,1] rfl h2 (Nat.sub_le _ _)))
 have hL2:(L.take s++D++L.drop e).length=L.length - (e - s)+D.length:=by rw [List.length_append,List.length_append,List.length_take,List.length_drop];exact cy [_,_,_,_,_,_,_,_] [] (.eqN (.a (.a N0 N1) N2) (.a N3 N1)) (.leN N0 N4) (.leN N5 (.a N2 N6)) (.leN N6 (.a N7 N4)) (.leN N5 (.a N3 N7)) (.eqN N0 N4) (.eqN (.a N2 N6) N5) (.eqN (.a N7 N4) N6) (.eqN (.a N3 N7) N5) [1,1,0,0,1,0,1,1,0] [1,0,1,1,0,-1,0,0,1] rfl (Nat.min_le_left _ _) (af _ _) (af _ _) (af _ _) (Nat.min_eq_left (ag [_,_,_] [] (.leN N0 N1) (.leN N0 N2) (.leN N2 N1) [1,1,1] rfl h1 h2)) (ab (h2)) (ab (h1)) (ab (ag [_,_,_] [] (.leN N0 N1) (.leN N2 N1) (.leN N0 N2) [1,1,1] rfl h2 (Nat.sub_le _ _)))
 by_cases p1:s=e
 ·subst p1
  cases D with
  | nil =>
   have hL3:L.take s++[]++L.drop s=L:=by rw [List.append_nil,List.take_append_drop]
   have hc:=lT (B:=B) (d:=d) (t1:=tt (s+1) (s+1)) (t2:=tt (s+1) (s+1)) G hz h2
   refine ⟨v,a,j,xs,[tt (s+1) (s+1),tt (s+1) (s+1),tt (s+1) (s+1),tt (s+1) (s+1),mE],.ref 11,⟨by rw [hL3];exact G,by rw [hL3];exact hz,⟨by exact k1,by exact ak [] [_] (.leI J0 (.a J0 (.k 1))) [1] rfl⟩,by rw [hL3];exact (Nat.le_max_left _ _)⟩,?_⟩
   exact con B 60 _ _ [.go 11,.c (.ref 8) (eN v a j xs [cD [],tt (s+1) (s+1),tt (s+1) (s+1)]),.go 3,.b true,.go 10,.c .none (eN v a j xs [cD [],tt (s+1) (s+1),tt (s+1) (s+1),tt (s+1) (s+1),tt (s+1) (s+1)]),.vh (.ref 11) (eN v a j xs [cD [],tt (s+1) (s+1),tt (s+1) (s+1),tt (s+1) (s+1),tt (s+1) (s+1),mE])]
    (I2 hr (I2 (dT (p:=(s:Int)+1=s+1) rfl) (I2 hc (I2 (rfl:allocL [] (eN v a j xs [cD [],tt (s+1) (s+1),tt (s+1) (s+1),tt (s+1) (s+1),tt (s+1) (s+1)])=some (.ref 11,eN v a j xs [cD [],tt (s+1) (s+1),tt (s+1) (s+1),tt (s+1) (s+1),tt (s+1) (s+1),mE])) trivial)))) (by kernel_rfl)
  | cons x D =>
   obtain ⟨xs',j',Y0,b1,G',hc⟩:=kH (B:=B) (d:=d) (t1:=tt (s+1) (s+1)) (t2:=tt (s+1) (s+1)) (D:=x::D) false G hz h2 (Nat.succ_pos _) (by exact aa [_] [_] (.leI J0 (.a (.c N0) (.k 1))) (.eqI J0 (.a (.c N0) (.k 1))) [1,1] rfl hp) h k1 k2
   generalize (tt (s+1) (s+1)::tt (s+1) (s+1)::Y0)=Y at hc
   refine ⟨tk1 (ptB false (zv1 v (L.length+(x::D).length+1)) (s+1+(x::D).length)),_,_,xs',Y++[mE],.ref ((eN (tk1 (ptB false (zv1 v (L.length+(x::D).length+1)) (s+1+(x::D).length))) (s+(x::D).length) j' xs' (cD (x::D)::Y)).length),⟨G',?_,⟨?_,?_⟩,?_⟩,?_⟩
   ·show (L.length:Int)+(x::D).length+1=_
    rw [hL2];exact gT [_,_,_,_,_] [] (.eqI (.a (.a (.c N0) (.c N1)) (.k 1)) (.a (.c (.a N2 N1)) (.k 1))) (.leN N2 N0) (.leN N0 (.a N2 N3)) (.eqN (.a N3 N4) N4) [1,0,1,1] [1,1,0,0] rfl (Nat.sub_le _ _) (af _ _) (ab (h1))
   ·show 0≤v.tk+1
    exact aa [] [_] (.leI (.k 0) (.a J0 (.k 1))) (.leI (.k 0) J0) [1,1] rfl k1
   ·exact Int.le_refl _
   ·rw [hL2];exact (Nat.le_total ((L.length)+(j)) (((L.length)+((x::D).length))+8)).elim (fun hq0=>bR [_,_,_,_,_,_] [] (.leN (.a (.a N0 N1) N2) N3) (.leN (.a N2 N1) N4) (.leN N0 N5) (.leN (.a (.a N5 N1) (.k 8)) N3) (.eqN N4 (.a N1 (.k 8))) [1,1,1,1,1] rfl b1 (Nat.sub_le _ _) (Nat.le_max_right _ _) (Nat.max_eq_right (aa [_,_,_] [] (.leN N0 (.a N1 (.k 8))) (.leN (.a N2 N0) (.a (.a N2 N1) (.k 8))) [1,1] rfl hq0))) (fun hq0=>bR [_,_,_,_,_,_,_] [] (.leN (.a (.a N0 N1) N2) N3) (.leN (.a N2 N1) N4) (.leN N0 N5) (.leN (.a N5 N6) N3) (.eqN N4 N6) [1,1,1,1,1] rfl b1 (Nat.sub_le _ _) (Nat.le_max_left _ _) (Nat.max_eq_left (aa [_,_,_] [] (.leN (.a N0 (.k 8)) N1) (.leN (.a (.a N2 N0) (.k 8)) (.a N2 N1)) [1,1] rfl hq0)))
   ·exact con B 60 _ _ [.go 11,.c (.ref 8) (eN v a j xs [cD (x::D),tt (s+1) (s+1),tt (s+1) (s+1)]),.go 3,.b true,.go 10,.c .none (eN (tk1 (ptB false (zv1 v (L.length+(x::D).length+1)) (s+1+(x::D).length))) (s+(x::D).length) j' xs' (cD (x::D)::Y)),.vh (.ref ((eN (tk1 (ptB false (zv1 v (L.length+(x::D).length+1)) (s+1+(x::D).length))) (s+(x::D).length) j' xs' (cD (x::D)::Y)).length)) (eN (tk1 (ptB false (zv1 v (L.length+(x::D).length+1)) (s+1+(x::D).length))) (s+(x::D).length) j' xs' (cD (x::D)::(Y++[mE])))]
     (I2 hr (I2 (dT (p:=(s:Int)+1=s+1) rfl) (I2 hc (I2 (rfl:allocL [] (eN (tk1 (ptB false (zv1 v (L.length+(x::D).length+1)) (s+1+(x::D).length))) (s+(x::D).length) j' xs' (cD (x::D)::Y))=some (.ref ((eN (tk1 (ptB false (zv1 v (L.length+(x::D).length+1)) (s+1+(x::D).length))) (s+(x::D).length) j' xs' (cD (x::D)::Y)).length),eN (tk1 (ptB false (zv1 v (L.length+(x::D).length+1)) (s+1+(x::D).length))) (s+(x::D).length) j' xs' (cD (x::D)::(Y++[mE])))) trivial)))) (by kernel_rfl)
 ·cases D with
  | nil =>
   obtain ⟨xs',G',hc⟩:=mS (B:=B) (d:=d) (s:=s) (c0:=cD []) (t1:=tt (s+1) (e+1)) (t2:=tt (s+1) (e+1)) G hz (by omega) h2 hp k1 k2
   refine ⟨tk1 (pt1 (zv1 v (L.length - (e - s)+1)) (s+1)),_,_,xs',[tt (s+1) (e+1),tt (s+1) (e+1),tt (s+1) (e+1),tt (s+1) (e+1),mE,mE,mE],.opq,⟨by rw [List.append_nil];exact G',?_,⟨?_,?_⟩,?_⟩,?_⟩
   ·show (L.length:Int) - (e - s)+1=_
    rw [hL2];show _=((L.length - (e - s)+0:Nat):Int)+1;exact bp [_,_,_,_,_] [] (.eqI (.a (.s (.c N0) (.s (.c N1) (.c N2))) (.k 1)) (.a (.c (.a N3 (.k 0))) (.k 1))) (.leN N1 (.a N4 N2)) (.leN N0 (.a N3 N4)) (.eqN (.a N4 N2) N1) (.eqN (.a N3 N4) N0) [1,0,1,1,0] [1,1,0,0,1] rfl (af _ _) (af _ _) (ab (h1)) (ab (ag [_,_,_] [] (.leN N0 N1) (.leN N2 N1) (.leN N0 N2) [1,1,1] rfl h2 (Nat.sub_le _ _)))
   ·show 0≤v.tk+1
    exact aa [] [_] (.leI (.k 0) (.a J0 (.k 1))) (.leI (.k 0) J0) [1,1] rfl k1
   ·exact Int.le_refl _
   ·rw [hL2];show L.length - (e - s)+0+_≤_;exact ag [_,_,_,_,_] [] (.leN (.a (.a N0 (.k 0)) (.a N1 N2)) N3) (.leN (.a N4 N1) N3) (.eqN (.a N0 N2) N4) [1,1,1] rfl (Nat.le_max_left _ _) (ab (ag [_,_,_] [] (.leN N0 N1) (.leN N2 N1) (.leN N0 N2) [1,1,1] rfl h2 (Nat.sub_le _ _)))
   ·exact con B 60 _ _ [.go 11,.c (.ref 8) (eN v a j xs [cD [],tt (s+1) (e+1),tt (s+1) (e+1)]),.go 3,.b false,.go 7,.c .opq (eN (tk1 (pt1 (zv1 v (L.length - (e - s)+1)) (s+1))) s (j+(e - s)) xs' [cD [],tt (s+1) (e+1),tt (s+1) (e+1),tt (s+1) (e+1),tt (s+1) (e+1),mE,mE,mE])]
     (I2 hr (I2 (dF (p:=(s:Int)+1=e+1) (by omega)) (I2 hc trivial))) (by kernel_rfl)
  | cons x D' =>
   generalize hD:x::D'=D at *
   have hD0:0<D.length:=by rw [← hD];exact Nat.succ_pos _
   obtain ⟨xs3,G3,h3⟩:=i4 (B:=B) (d:=d+3) (s:=s) (Z:=[cD D,tt (s+1) (e+1),tt (s+1) (e+1),mE]) G hz (by omega) h2 hp
   have hz3:(pt1 (zv1 v (L.length - (e - s)+1)) (s+1)).zv=(L.take s++L.drop e).length+1:=by show (L.length:Int) - (e - s)+1=_;rw [hL1];exact bp [_,_,_,_,_] [] (.eqI (.a (.s (.c N0) (.s (.c N1) (.c N2))) (.k 1)) (.a (.c N3) (.k 1))) (.leN N1 (.a N4 N2)) (.leN N0 (.a N3 N4)) (.eqN (.a N4 N2) N1) (.eqN (.a N3 N4) N0) [1,0,1,1,0] [1,1,0,0,1] rfl (af _ _) (af _ _) (ab (h1)) (ab (ag [_,_,_] [] (.leN N0 N1) (.leN N2 N1) (.leN N0 N2) [1,1,1] rfl h2 (Nat.sub_le _ _)))
   obtain ⟨xs4,j4,b1,b2,G4,h4⟩:=kG (B:=B) (d:=d+3) (D:=D) (k:=s) (Z:=[tt (s+1) (e+1),tt (s+1) (e+1),mE]) G3 hz3 (by rw [hL1];exact aq [_,_,_,_,_] [] (.leN N0 N1) (.leN N2 N3) (.leN N3 (.a N1 N4)) (.eqN (.a N4 N0) N2) [1,1,1,1] rfl h2 (af _ _) (ab (h1))) (Int.le_refl _) (by rw [hL1];exact ag [_,_,_] [] (.leN (.a (.a N0 N1) (.k 8)) (.k 4000)) (.leN (.a (.a N2 N1) (.k 8)) (.k 4000)) (.leN N0 N2) [1,1,1] rfl h (Nat.sub_le _ _))
   rw [j7 (by exact ag [_,_,_] [] (.leN N0 N1) (.leN N0 N2) (.leN N2 N1) [1,1,1] rfl h1 h2)] at G4
   have hm:=i3 (B:=B) (d:=d+3) (v:=v) (Z:=[cD D,tt (s+1) (e+1),tt (s+1) (e+1)]) (m:=D.length - ((e:Int)+1 - (s+1))) G (by exact ag [_,_,_,_] [] (.leI (.g (.k 5000)) (.s (.c N0) (.s (.a (.c N1) (.k 1)) (.a (.c N2) (.k 1))))) (.leN N1 N3) (.leN (.a (.a N3 N0) (.k 8)) (.k 4000)) [1,1,1] rfl h2 h) (by exact ag [_,_,_,_] [] (.leI (.s (.c N0) (.s (.a (.c N1) (.k 1)) (.a (.c N2) (.k 1)))) (.k 5000)) (.leN N2 N1) (.leN (.a (.a N3 N0) (.k 8)) (.k 4000)) [1,1,1] rfl h1 h)
   let v4:=zv1 (pt1 (zv1 v (L.length - (e - s)+1)) (s+1)) ((L.take s++L.drop e).length+D.length+1)
   have hb:=ce (B:=B) (d:=d+4) (v:=pt1 v4 (s+D.length+1)) (g:=(s+D.length:Nat)) (e:=(s+D.length:Nat)+(j4 - D.length:Nat)) (xs:=xs4) (Z:=[cD D,tt (s+1) (e+1),tt (s+1) (e+1),mE,mE]) (x:=.int (s+1)) (y:=.int (s+1+D.length)) (z:=.int (e+1 - (s+1))) k1 k2
   refine ⟨tk1 (pt1 v4 (s+D.length+1)),s+D.length,j4 - D.length,xs4,[tt (s+1) (e+1),tt (s+1) (e+1),mE,mE,mE],.opq,⟨G4,?_,⟨?_,Int.le_refl _⟩,?_⟩,?_⟩
   ·show ((L.take s++L.drop e).length:Int)+D.length+1=_
    rw [hL1,hL2];exact au [_,_] [] (.eqI (.a (.a (.c N0) (.c N1)) (.k 1)) (.a (.c (.a N0 N1)) (.k 1))) [1] [1] rfl
   ·show 0≤v.tk+1
    exact aa [] [_] (.leI (.k 0) (.a J0 (.k 1))) (.leI (.k 0) J0) [1,1] rfl k1
   ·rw [hL2];exact (Nat.le_total ((L.length)+(j)) (((L.length)+(D.length))+8)).elim (fun hq0=>(Nat.le_total ((j)+(e - s)) ((D.length)+8)).elim (fun hq1=>bS [_,_,_,_,_,_,_] [] (.leN (.a (.a N0 N1) N2) N3) (.leN N4 N5) (.leN N0 N6) (.leN (.a (.a N6 N1) (.k 8)) N3) (.eqN (.a N2 N1) N4) (.eqN N5 (.a N1 (.k 8))) [1,1,1,1,1,1] rfl b2 (Nat.sub_le _ _) (Nat.le_max_right _ _) (ab (b1)) (Nat.max_eq_right (hq1))) (fun hq1=>bS [_,_,_,_,_,_,_,_,_] [] (.leN (.a (.a N0 N1) N2) N3) (.leN N4 N5) (.leN (.a N6 N7) N3) (.eqN (.a N0 N8) N6) (.eqN (.a N2 N1) N4) (.eqN N5 (.a N7 N8)) [1,1,1,1,1,1] rfl b2 (Nat.le_max_left _ _) (ab (ag [_,_,_] [] (.leN N0 N1) (.leN N2 N1) (.leN N0 N2) [1,1,1] rfl h2 (Nat.sub_le _ _))) (ab (b1)) (Nat.max_eq_left (hq1)))) (fun hq0=>bS [_,_,_,_,_,_,_,_,_] [] (.leN (.a (.a N0 N1) N2) N3) (.leN N4 N5) (.leN (.a N6 N7) N3) (.eqN (.a N0 N8) N6) (.eqN (.a N2 N1) N4) (.eqN N5 (.a N7 N8)) [1,1,1,1,1,1] rfl b2 (Nat.le_max_left _ _) (ab (ag [_,_,_] [] (.leN N0 N1) (.leN N2 N1) (.leN N0 N2) [1,1,1] rfl h2 (Nat.sub_le _ _))) (ab (b1)) (Nat.max_eq_left (aa [_,_,_,_] [] (.leN (.a N0 (.k 8)) (.a N1 N2)) (.leN (.a (.a N3 N0) (.k 8)) (.a N3 N1)) [1,1] rfl hq0)))
   ·have hv:v.pt=e+1:=hp
    exact con B 60 _ _ [.go 11,.c (.ref 8) (eN v a j xs [cD D,tt (s+1) (e+1),tt (s+1) (e+1)]),.go 3,.b false,.go 1,.v (.int D.length),.b false,.go 2,.v (.int D.length),.go 2,.b true,.b true,.go 1,.c .none (eN v a j xs [cD D,tt (s+1) (e+1),tt (s+1) (e+1)]),.go 17,.c .opq (eN (pt1 (zv1 v (L.length - (e - s)+1)) (s+1)) s (j+(e - s)) xs3 [cD D,tt (s+1) (e+1),tt (s+1) (e+1),mE]),.go 4,.c .none (eN v4 (s+D.length) (j4 - D.length) xs4 [cD D,tt (s+1) (e+1),tt (s+1) (e+1),mE]),
      .go 2,.b true,.go 2,.v (.int D.length),.b true,.go 2,.b true,.b true,.go 1,.h (eN (pt1 v4 (s+D.length+1)) (s+D.length) (j4 - D.length) xs4 [cD D,tt (s+1) (e+1),tt (s+1) (e+1),mE]),.go 6,.v (.int D.length),.go 15,.v (.int D.length),.go 25,.v (.int D.length),.b true,.go 2,.b true,.go 1,.c .none (eN (tk1 (pt1 v4 (s+D.length+1))) (s+D.length) (j4 - D.length) xs4 [cD D,tt (s+1) (e+1),tt (s+1) (e+1),mE,mE,mE])]
     (I2 hr (I2 (dF (p:=(s:Int)+1=e+1) (by omega)) (I2 (bt v a (a+j) xs D [tt (s+1) (e+1),tt (s+1) (e+1)]) (I2 (dF (p:=(D.length:Int)=0) (by exact aa [_] [] (.n (.eqI (.c N0) (.k 0))) (.ltN (.k 0) N0) [1,1] rfl hD0)) (I2 (bt v a (a+j) xs D [tt (s+1) (e+1),tt (s+1) (e+1)]) (I2 tI (I2 tI (I2 hm (I2 h3 (I2 h4
      (I2 (dT (p:=v.pt ≥ (e:Int)+1) (by exact aa [_] [_] (.leI (.a (.c N0) (.k 1)) J0) (.eqI J0 (.a (.c N0) (.k 1))) [1,-1] rfl hp)) (I2 (bt v4 (s+D.length:Nat) ((s+D.length:Nat)+(j4 - D.length:Nat)) xs4 D [tt (s+1) (e+1),tt (s+1) (e+1),mE]) (I2 tI (I2 tI (I2 tI
      (I2 (i0 (v:=v4) (z:=v.pt+D.length - ((e:Int)+1 - (s+1))) (z':=s+D.length+1) (g:=(s+D.length:Nat)) (e:=(s+D.length:Nat)+(j4 - D.length:Nat)) (xs:=xs4) (Z:=[cD D,tt (s+1) (e+1),tt (s+1) (e+1),mE]) (by exact aK [_,_,_] [_] (.eqI (.s (.a J0 (.c N0)) (.s (.a (.c N1) (.k 1)) (.a (.c N2) (.k 1)))) (.a (.a (.c N2) (.c N0)) (.k 1))) (.eqI J0 (.a (.c N1) (.k 1))) [1,1] [1,-1] rfl hp))
      (I2 (bt (pt1 v4 (s+D.length+1)) (s+D.length:Nat) ((s+D.length:Nat)+(j4 - D.length:Nat)) xs4 D [tt (s+1) (e+1),tt (s+1) (e+1),mE]) (I2 (bt (pt1 v4 (s+D.length+1)) (s+D.length:Nat) ((s+D.length:Nat)+(j4 - D.length:Nat)) xs4 D [tt (s+1) (e+1),tt (s+1) (e+1),mE,mE]) (I2 (bt (pt1 v4 (s+D.length+1)) (s+D.length:Nat) ((s+D.length:Nat)+(j4 - D.length:Nat)) xs4 D [tt (s+1) (e+1),tt (s+1) (e+1),mE,mE])
      (I2 tI (I2 tI (I2 hb trivial)))))))))))))))))))))) (by kernel_rfl)
end
inductive Tm | w0 | w1 | w2 | w3
noncomputable def tplOf:Tm→List Int | .w0=>[45] | .w1=>[] | .w2=>[92,38,92,38] | .w3=>[32,45]
noncomputable def newOf (t:Tm) (own:List Int):List Int:=match t with | .w0=>[45] | .w1=>[] | .w2=>own++own | .w3=>[32,45]
theorem aN {t:Tm} {own:List Int}:(newOf t own).length≤2 * own.length+2:=by
 cases t <;> simp only [newOf,List.length_append,List.length_cons,List.length_nil] <;> omega
theorem kJ {σ:Hp} {i j:Nat} {xs ys:List AV} (h:σ[i]?=some (.list xs)) (h':σ[j]?=some (.list ys)) (hn:i≠j) (hl:xs.length+ys.length≤10000):lmV σ (.ref i) 2 [.ref j]=some (.none,σ.set i (.list (xs++ys))):=by
 have e1:listAt σ i=some xs:=by unfold listAt;rw [h]
 have e2:listAt σ j=some ys:=by unfold listAt;rw [h']
 show (match listAt σ i with | some xs=>nth [lAppend σ i xs [.ref j],lPop σ i xs [.ref j],lExtend σ i xs [.ref j]] 2 none | none=>none)=_
 rw [e1]
 show (match listAt σ j with | some ys=>if i≠j∧xs.length+ys.length≤LIM then some (AV.none,σ.set i (.list (xs++ys))) else none | none=>none)=_
 rw [e2]
 dsimp only
 rw [if_pos ⟨hn,hl⟩]
noncomputable def patC (c:Nat) (sp:AV):AO:=.inst 7 [(74,.ref c),(81,.opq),(100,sp)]
noncomputable def tmO (pt tp:Nat):AO:=.inst 8 [(101,.ref pt),(102,.ref tp),(103,.bool true)]
noncomputable def mH (p:Pt) (t:Tm) (v:BV) (a j:Nat) (xs:List AV) (s e:Nat) (Z:Hp):Hp :=
 tmO 2 1::cD (tplOf t)::patC 6 (.ref 19)::bufO v 4 16::gapO (.int 8) 5 a (a+j)::.list xs::codO p 7::rwO p 8::T8 p 8 (.list [.ref 20]::tt (s+1) (e+1)::Z)
noncomputable def mHx (b:Hp) (t:Tm) (v:BV) (a j:Nat) (xs:List AV) (s e:Nat) (Z:Hp):Hp:=tmO 2 1::cD (tplOf t)::patC 6 (.ref 19)::bufO v 4 16::gapO (.int 8) 5 a (a+j)::.list xs::(b++(mkO 17::.dict []::.list []::.list [.ref 20]::tt (s+1) (e+1)::Z))
section
variable {B:Base} {d:Nat} {p:Pt} {t:Tm} {v:BV} {L own:List Int} {a j s e:Nat} {xs:List AV}
theorem lU (h:own.length≤4000):Con B (d+1) 55 [.ref 0,.ref 1] [cD (tplOf t),.list [.ref 2],cD own] (.ref 3) [cD (tplOf t),.list [.ref 2],cD own,cD (newOf t own),.tup [.ref 3,.int 0]]:=by
 have hl:(own.map AV.int).length=own.length:=List.length_map _
 cases t with
 | w0=>exact con B 60 _ _ [] trivial (by kernel_rfl)
 | w1=>exact con B 60 _ _ [] trivial (by kernel_rfl)
 | w3=>exact con B 60 _ _ [] trivial (by kernel_rfl)
 | w2 =>
  have h1:=kJ (σ:=[cD (tplOf .w2),.list [.ref 2],cD own,cD [],.tup [.ref 3,.int 0]]) (i:=3) (j:=2) (xs:=[]) rfl rfl (by decide) (by rw [hl];show 0+_≤_;exact aa [_] [] (.leN (.a (.k 0) N0) (.k 10000)) (.leN N0 (.k 4000)) [1,1] rfl h)
  have h2:=kJ (σ:=[cD (tplOf .w2),.list [.ref 2],cD own,cD own,.tup [.ref 3,.int 0]]) (i:=3) (j:=2) rfl rfl (by decide) (by rw [hl];exact aa [_] [] (.leN (.a N0 N0) (.k 10000)) (.leN N0 (.k 4000)) [1,2] rfl h)
  rw [← List.map_append] at h2
  exact con B 60 _ _ [.go 40,.vh .none [cD (tplOf .w2),.list [.ref 2],cD own,cD own,.tup [.ref 3,.int 0]],.go 38,.vh .none [cD (tplOf .w2),.list [.ref 2],cD own,cD (own++own),.tup [.ref 3,.int 0]]]
   (I2 h1 (I2 h2 trivial)) (by kernel_rfl)
theorem i5 (G:GapN L a j xs) (h1:s≤e) (h2:e≤L.length) :
  Con B (d+3) 63 [.ref 0,.ref 3,.int (s+1),.int (e+1)] (mH p t v a j xs s e []) (.ref 23) (mH p t v a j xs s e [.list [.ref 22],cD (sub L s e),cD (newOf t (sub L s e))]):=by
 have hl:=G.lim
 have e0:((s:Int)+1 - 1)=s:=by exact au [_] [] (.eqI (.s (.a (.c N0) (.k 1)) (.k 1)) (.c N0)) [1] [1] rfl
 have e0':((e:Int)+1 - 1)=e:=by exact au [_] [] (.eqI (.s (.a (.c N0) (.k 1)) (.k 1)) (.c N0)) [1] [1] rfl
 have hc:Con B (d+1) 27 [.ref 0,.int ((s:Int)+1 - 1),.int ((e:Int)+1 - 1)] (gR a (a+j) xs []) (.ref 2) (gR a (a+j) xs [cD (sub L s e)]):=by rw [e0,e0'];exact br G h1 h2
 have hx:=lU (B:=B) (d:=d+1) (t:=t) (own:=sub L s e) (by unfold sub;rw [List.length_take,List.length_drop];exact aq [_,_,_,_] [] (.leN N0 (.k 4000)) (.leN (.a N1 N2) (.k 4000)) (.leN N3 N1) (.leN N0 N3) [1,1,1,1] rfl hl (Nat.sub_le _ _) (Nat.min_le_right _ _))
 have q1:((pick (mH p t v a j xs s e [.list []]) [4,5]).map fun sub=>sub.map (mapO (Mine.ren [4,5])))=some (gR a (a+j) xs []) :=
  Eq.trans (b:=some (gR a (a+j) (xs.map (Mine.ren [4,5])) [])) (by kernel_rfl) (by rw [G.ren (Mine.ren [4,5]) fun z9=>rfl])
 have q2:((pick (gR a (a+j) xs [cD (sub L s e)]) [2]).map fun new=>wback (bak [4,5] [2] 22) [4,5] (gR a (a+j) xs [cD (sub L s e)]) (mH p t v a j xs s e [.list []])++new.map (mapO (bak [4,5] [2] 22)))=some (mH p t v a j xs s e [.list [],cD (sub L s e)]) :=
  Eq.trans (b:=some (mH p t v a j (xs.map (bak [4,5] [2] 22)) s e [.list [],.list (((sub L s e).map AV.int).map (bak [4,5] [2] 22))])) (by kernel_rfl) (by rw [G.ren (bak [4,5] [2] 22) fun z9=>rfl,ac (bak [4,5] [2] 22) fun z9=>rfl])
 have q3:((pick (mH p t v a j xs s e [.list [.ref 22],cD (sub L s e)]) [1,21,22]).map fun sub=>sub.map (mapO (Mine.ren [1,21,22])))=some [cD (tplOf t),.list [.ref 2],cD (sub L s e)] :=
  Eq.trans (b:=some [.list (((tplOf t).map AV.int).map (Mine.ren [1,21,22])),.list [.ref 2],.list (((sub L s e).map AV.int).map (Mine.ren [1,21,22]))]) (by kernel_rfl) (by rw [ac (Mine.ren [1,21,22]) fun z9=>rfl,ac (Mine.ren [1,21,22]) fun z9=>rfl])
 have q4:((pick [cD (tplOf t),.list [.ref 2],cD (sub L s e),cD (newOf t (sub L s e)),.tup [.ref 3,.int 0]] [3]).map fun new=>wback (bak [1,21,22] [3] 23) [1,21,22] [cD (tplOf t),.list [.ref 2],cD (sub L s e),cD (newOf t (sub L s e)),.tup [.ref 3,.int 0]] (mH p t v a j xs s e [.list [.ref 22],cD (sub L s e)])++new.map (mapO (bak [1,21,22] [3] 23)))=some (mH p t v a j xs s e [.list [.ref 22],cD (sub L s e),cD (newOf t (sub L s e))]):=by
  have f1:=ac (bak [1,21,22] [3] 23) (fun z9=>rfl) (tplOf t)
  have f2:=ac (bak [1,21,22] [3] 23) (fun z9=>rfl) (sub L s e)
  have f3:=ac (bak [1,21,22] [3] 23) (fun z9=>rfl) (newOf t (sub L s e))
  refine Eq.trans (b:=some (tmO 2 1::.list (((tplOf t).map AV.int).map (bak [1,21,22] [3] 23))::(mH p t v a j xs s e [.list [.ref 22],.list (((sub L s e).map AV.int).map (bak [1,21,22] [3] 23)),.list (((newOf t (sub L s e)).map AV.int).map (bak [1,21,22] [3] 23))]).drop 2)) (by kernel_rfl) ?_
  rw [f1,f2,f3];rfl
 exact con B 60 _ _ [.go 21,.b true,.go 1,.b true,.s (some [4,5]),.go 1,.h (gR a (a+j) xs []),.c (.ref 2) (gR a (a+j) xs [cD (sub L s e)]),.s (some [2]),.go 1,.h (mH p t v a j xs s e [.list [],cD (sub L s e)]),.go 6,.s (some [1,21,22]),.go 1,.h [cD (tplOf t),.list [.ref 2],cD (sub L s e)],
   .c (.ref 3) [cD (tplOf t),.list [.ref 2],cD (sub L s e),cD (newOf t (sub L s e)),.tup [.ref 3,.int 0]],.s (some [3]),.go 1,.h (mH p t v a j xs s e [.list [.ref 22],cD (sub L s e),cD (newOf t (sub L s e))])]
  (I2 tI (I2 tI (I2 q1 (I2 hc (I2 q2 (I2 q3 (I2 hx (I2 q4 trivial)))))))) (by kernel_rfl)
theorem i6 {t1 t2:AO} {D:List Int} (G:GapN L a j xs) (hz:v.zv=L.length+1) (hp:v.pt=1) (hD:0<D.length) (h:L.length+D.length+8≤4000) (k1:0≤v.tk) (k2:v.tk≤1000000) :
  Ex3 fun xs' j' Y=>j'+D.length≤max j (D.length+8)∧GapN (D++L) D.length j' xs' ∧
   Con B (d+6) 11 [.ref 0,.ref 6] (eN v a j xs [cD D,t1,t2]) .none (eN (tk1 (pt1 (zv1 v (L.length+D.length+1)) (D.length+1))) D.length j' xs' (cD D::t1::t2::Y)):=by
 obtain ⟨xs',j',Y,b1,G',hc⟩:=kH (B:=B) (d:=d) (k:=0) (D:=D) (t1:=t1) (t2:=t2) true G hz (Nat.zero_le _) hD (by exact aa [] [_] (.leI J0 (.a (.c (.k 0)) (.k 1))) (.eqI J0 (.k 1)) [1,1] rfl hp) h k1 k2
 have e1:0+D.length=D.length:=Nat.zero_add _
 have e2:((0:Nat):Int)+1+D.length=D.length+1:=by exact au [_] [] (.eqI (.a (.a (.c (.k 0)) (.k 1)) (.c N0)) (.a (.c N0) (.k 1))) [1] [1] rfl
 rw [e1] at G' hc
 rw [e2] at hc
 refine ⟨xs',j',Y,b1,G',?_⟩
 have hv:v=pt1 v 1:=by rw [← hp];rfl
 rw [hv] at hc ⊢
 exact con B 60 _ _ [.go 7,.c .none (eN (tk1 (pt1 (zv1 v (L.length+D.length+1)) (D.length+1))) D.length j' xs' (cD D::t1::t2::Y))] (I2 hc trivial) (by kernel_rfl)
end
noncomputable def RO (bound:Int) (state:AV) (st en:Int) (told near:AV) (ir:Bool) (many:Int):AO:=.inst 1 [(36,.ref 2),(37,.ref 1),(38,.ref 18),(39,.int bound),(40,state),(30,.int st),(41,.int en),(34,told),(42,near),(33,.bool ir),(43,.int many),(44,.ref 20)]
noncomputable def RH (p:Pt) (t:Tm) (ro:AO) (sp:AV) (v:BV) (a j:Nat) (xs:List AV) (stp:List AV) (Z:Hp):Hp :=
 ro::patC 5 sp::bufO v 3 15::gapO (.int 8) 4 a (a+j)::.list xs::codO p 6::rwO p 7::T8 p 7 (tmO 1 19::cD (tplOf t)::.list stp::Z)
noncomputable def RHx (b:Hp) (t:Tm) (ro:AO) (sp:AV) (v:BV) (a j:Nat) (xs:List AV) (stp:List AV) (Z:Hp):Hp:=ro::patC 5 sp::bufO v 3 15::gapO (.int 8) 4 a (a+j)::.list xs::(b++(mkO 16::.dict []::.list []::tmO 1 19::cD (tplOf t)::.list stp::Z))
noncomputable abbrev selP:List Nat:=[1,2,3,4,5,6,7,8,9,10,11,12,13,14,15,16,17]
noncomputable def nearOf (E:Nat→Option Nat) (s e:Nat):Option Nat:=if s<e then (match E e with | some q=>if q=e then none else some q | none=>none) else none
noncomputable def nearZ (e:Nat):Option Nat→Hp
 | none=>[noneT]
 | some q=>[atT 24,.list [.ref 25],tt (e+1) (q+1)]
noncomputable abbrev spanZ (s e:Nat) (Z:Hp):Hp:=.list [.ref 22]::tt (s+1) (e+1)::Z
section
variable {B:Base} {d:Nat} {p:Pt} {t:Tm} {v:BV} {L:List Int} {a j s e:Nat} {xs stp:List AV} {E:Nat→Option Nat} {sp told near stt:AV} {st en many:Int} {ir:Bool}
theorem i7:Con B (d+10) 18 [.ref 0,.int (s+1),.int (e+1),.ref 21,.bool false] (RH p t (RO v.zv stt st en told near ir many) sp v a j xs stp (spanZ s e [])) .none (RH p t (RO v.zv stt (s+1) (e+1) (.ref 21) (.ref 23) ir many) sp (pt1 v (e+1)) a j xs stp (spanZ s e [noneT])) :=
 con B 60 _ _ [] trivial (by kernel_rfl)
theorem i9 (G:GapN L a j xs) (hz:v.zv=L.length+1) (hL:L.length≤90) (h1:s<e) (h2:e≤L.length) (hE:Finds B d p v L a (a+j) (e+1) xs E) :
  ∃ sp',Con B (d+10) 18 [.ref 0,.int (s+1),.int (e+1),.ref 21,.bool true] (RH p t (RO v.zv stt st en told near ir many) sp v a j xs stp (spanZ s e [])) .none (RH p t (RO v.zv stt (s+1) (e+1) (.ref 21) (.ref 23) ir many) sp' (pt1 v (e+1)) a j xs stp (spanZ s e (nearZ e (nearOf E s e)))):=by
 obtain ⟨mm,hn⟩:=lS (sp:=Mine.ren selP sp) G.gap hz hL h2 hE
 unfold nearOf
 rw [if_pos h1]
 have q1:((pick (RH p t (RO v.zv stt (s+1) (e+1) (.ref 21) near ir many) sp v a j xs stp (spanZ s e [])) selP).map fun sub=>sub.map (mapO (Mine.ren selP)))=some (ptH p v a (a+j) xs (Mine.ren selP sp) []) :=
  Eq.trans (b:=some (ptHx ((cmpL p 5).map (mapO (Mine.ren selP))) v a (a+j) (xs.map (Mine.ren selP)) (Mine.ren selP sp) [])) (by kernel_rfl) (by rw [aj (f:=Mine.ren selP) (fun z9=>rfl) (fun z9=>rfl) (fun z9=>rfl) p (k:=5) (k':=4) rfl (i8 ⟨rfl,rfl,rfl,rfl,rfl,rfl,rfl,rfl⟩),G.ren (Mine.ren selP) fun z9=>rfl];rfl)
 have fin:∀ (r:Nat) (kp:List Nat) (Y nz:Hp) (nr:AV),Con B (d+9) 59 [.ref 0,.ref 1,.int (e+1),.int v.zv] (ptH p v a (a+j) xs (Mine.ren selP sp) []) (.ref r) (nH p v a (a+j) xs (Mine.ren selP sp) mm Y) →
   (ndB kp && kp.all fun k=>decide (17≤k))=true→bak selP kp 23 (.ref r)=.ref 23 →
   ((pick (nH p v a (a+j) xs (Mine.ren selP sp) mm Y) kp).map fun new=>wback (bak selP kp 23) selP (nH p v a (a+j) xs (Mine.ren selP sp) mm Y) (RH p t (RO v.zv stt (s+1) (e+1) (.ref 21) near ir many) sp v a j xs stp (spanZ s e []))++new.map (mapO (bak selP kp 23)))=some (RH p t (RO v.zv stt (s+1) (e+1) (.ref 21) near ir many) (bak selP kp 23 (Mine.ren selP sp)) v a j xs stp (spanZ s e nz)) →
   ∃ sp',Con B (d+10) 18 [.ref 0,.int (s+1),.int (e+1),.ref 21,.bool true] (RH p t (RO v.zv stt st en told near ir many) sp v a j xs stp (spanZ s e [])) .none (RH p t (RO v.zv stt (s+1) (e+1) (.ref 21) (.ref 23) ir many) sp' (pt1 v (e+1)) a j xs stp (spanZ s e nz)):=fun r kp Y nz nr hc hk hr q2=>by
  refine ⟨bak selP kp 23 (Mine.ren selP sp),?_⟩
  have hk':some (ndB kp && kp.all fun k=>decide (17≤k))=some true:=by rw [hk]
  have hq:attrSet (RH p t (RO v.zv stt (s+1) (e+1) (.ref 21) near ir many) (bak selP kp 23 (Mine.ren selP sp)) v a j xs stp (spanZ s e nz)) (.ref 0) 42 (bak selP kp 23 (.ref r))=some (RH p t (RO v.zv stt (s+1) (e+1) (.ref 21) (.ref 23) ir many) (bak selP kp 23 (Mine.ren selP sp)) v a j xs stp (spanZ s e nz)):=by
   rw [hr];kernel_rfl
  exact con B 60 _ _ [.go 20,.s (some selP),.go 1,.h (ptH p v a (a+j) xs (Mine.ren selP sp) []),.c (.ref r) (nH p v a (a+j) xs (Mine.ren selP sp) mm Y),.s (some kp),.b true,.h (RH p t (RO v.zv stt (s+1) (e+1) (.ref 21) near ir many) (bak selP kp 23 (Mine.ren selP sp)) v a j xs stp (spanZ s e nz)),
    .go 1,.h (RH p t (RO v.zv stt (s+1) (e+1) (.ref 21) (.ref 23) ir many) (bak selP kp 23 (Mine.ren selP sp)) v a j xs stp (spanZ s e nz))]
   (I2 q1 (I2 hc (I2 hk' (I2 q2 (I2 hq trivial))))) (by kernel_rfl)
 revert hn
 cases E e with
 | none =>
  intro hn
  exact fin 22 [22] [noneT] [noneT] .none hn rfl rfl (Eq.trans (b:=some (RHx ((cmpL p 4).map (mapO (bak selP [22] 23))) t (RO v.zv stt (s+1) (e+1) (.ref 21) near ir many) (bak selP [22] 23 (Mine.ren selP sp)) v a j (xs.map (bak selP [22] 23)) stp (spanZ s e [noneT]))) (by kernel_rfl) (by rw [aj (f:=bak selP [22] 23) (fun z9=>rfl) (fun z9=>rfl) (fun z9=>rfl) p (k:=4) (k':=5) rfl (i8 ⟨rfl,rfl,rfl,rfl,rfl,rfl,rfl,rfl⟩),G.ren (bak selP [22] 23) fun z9=>rfl];rfl))
 | some q =>
  dsimp only
  by_cases hq:q=e
  ·rw [if_pos hq,if_pos hq]
   intro hn
   exact fin 24 [24] [.list [.ref 23],.tup [.int (e+1),.int (q+1)],noneT] [noneT] .none hn rfl rfl (Eq.trans (b:=some (RHx ((cmpL p 4).map (mapO (bak selP [24] 23))) t (RO v.zv stt (s+1) (e+1) (.ref 21) near ir many) (bak selP [24] 23 (Mine.ren selP sp)) v a j (xs.map (bak selP [24] 23)) stp (spanZ s e [noneT]))) (by kernel_rfl) (by rw [aj (f:=bak selP [24] 23) (fun z9=>rfl) (fun z9=>rfl) (fun z9=>rfl) p (k:=4) (k':=5) rfl (i8 ⟨rfl,rfl,rfl,rfl,rfl,rfl,rfl,rfl⟩),G.ren (bak selP [24] 23) fun z9=>rfl];rfl))
  ·rw [if_neg hq,if_neg hq]
   intro hn
   exact fin 24 [24,22,23] [.list [.ref 23],.tup [.int (e+1),.int (q+1)],atT 22] [atT 24,.list [.ref 25],tt (e+1) (q+1)] .none hn rfl rfl (Eq.trans (b:=some (RHx ((cmpL p 4).map (mapO (bak selP [24,22,23] 23))) t (RO v.zv stt (s+1) (e+1) (.ref 21) near ir many) (bak selP [24,22,23] 23 (Mine.ren selP sp)) v a j (xs.map (bak selP [24,22,23] 23)) stp (spanZ s e [atT 24,.list [.ref 25],tt (e+1) (q+1)]))) (by kernel_rfl) (by rw [aj (f:=bak selP [24,22,23] 23) (fun z9=>rfl) (fun z9=>rfl) (fun z9=>rfl) p (k:=4) (k':=5) rfl (i8 ⟨rfl,rfl,rfl,rfl,rfl,rfl,rfl,rfl⟩),G.ren (bak selP [24,22,23] 23) fun z9=>rfl];rfl))
noncomputable abbrev RM (p:Pt) (t:Tm) (E:Nat→Option Nat) (s e:Nat) (stt:AV) (ir:Bool) (many:Int) (sp:AV) (v:BV) (a j:Nat) (xs stp:List AV) (Z:Hp):Hp :=
 RH p t (RO v.zv stt (s+1) (e+1) (.ref 21) (.ref 23) ir many) sp (pt1 v (e+1)) a j xs stp (spanZ s e (nearZ e (nearOf E s e)++Z))
theorem ja (G:GapN L a j xs) (hz:v.zv=L.length+1) (hL:L.length≤90) (h1:s≤e) (h2:e≤L.length) (hE:Finds B d p v L a (a+j) (e+1) xs E) :
  ∃ sp',Con B (d+11) 17 [.ref 0,.ref 22,.ref 21] (RH p t (RO v.zv stt st en told near ir many) sp v a j xs stp (spanZ s e [])) .none (RM p t E s e stt false many sp' v a j xs stp []):=by
 unfold RM
 rw [List.append_nil]
 by_cases h:s<e
 ·obtain ⟨sp',hc⟩:=i9 (t:=t) (stt:=stt) (st:=st) (en:=en) (told:=told) (near:=near) (ir:=ir) (many:=many) (sp:=sp) (stp:=stp) G hz hL h h2 hE
  refine ⟨sp',?_⟩
  exact con B 60 _ _ [.go 12,.b true,.go 1,.c .none (RH p t (RO v.zv stt (s+1) (e+1) (.ref 21) (.ref 23) ir many) sp' (pt1 v (e+1)) a j xs stp (spanZ s e (nearZ e (nearOf E s e))))]
   (I2 (dT (p:=(s:Int)+1<e+1) (by exact aa [_,_] [] (.ltI (.a (.c N0) (.k 1)) (.a (.c N1) (.k 1))) (.ltN N0 N1) [1,1] rfl h)) (I2 hc trivial)) (by kernel_rfl)
 ·refine ⟨sp,?_⟩
  have hno:nearOf E s e=none:=if_neg h
  rw [hno]
  have hc:=i7 (B:=B) (d:=d) (p:=p) (t:=t) (v:=v) (a:=a) (j:=j) (s:=s) (e:=e) (xs:=xs) (stp:=stp) (sp:=sp) (told:=told) (near:=near) (stt:=stt) (st:=st) (en:=en) (many:=many) (ir:=ir)
  exact con B 60 _ _ [.go 12,.b false,.go 1,.c .none (RH p t (RO v.zv stt (s+1) (e+1) (.ref 21) (.ref 23) ir many) sp (pt1 v (e+1)) a j xs stp (spanZ s e [noneT]))]
   (I2 (dF (p:=(s:Int)+1<e+1) (by exact aa [_,_] [] (.n (.ltI (.a (.c N0) (.k 1)) (.a (.c N1) (.k 1)))) (.n (.ltN N0 N1)) [1,1] rfl h)) (I2 hc trivial)) (by kernel_rfl)
end
noncomputable abbrev askS:AV:=.str [97,115,107,105,110,103]
noncomputable abbrev doneS:AV:=.str [100,111,110,101]
set_option tactic.hygienic true in
theorem bu {E:Nat→Option Nat}:∀ {f s:Nat} {r:Nat×Nat},search E f s=some r→s≤r.1∧r.1<s+f∧E r.1=some r.2∧∀ i,s≤i→i<r.1→E i=none:=by
 intro f
 induction f with
 | zero=>intro s r h;exact nS h
 | succ f ih =>
  intro s r h
  unfold search at h
  split at h
  ·rename_i q hq
   apply s1Q h
   exact ⟨Nat.le_refl _,by show s<_;exact ak [_,_] [] (.ltN N0 (.a N0 (.a N1 (.k 1)))) [1] rfl,hq,fun i h1 h2=>by change i<s at h2;omega⟩
  ·rename_i hq
   obtain ⟨h1,h2,h3,h4⟩:=ih h
   refine ⟨by exact aa [_,_] [] (.leN N0 N1) (.leN (.a N0 (.k 1)) N1) [1,1] rfl h1,by exact aa [_,_,_] [] (.ltN N0 (.a N1 (.a N2 (.k 1)))) (.ltN N0 (.a (.a N1 (.k 1)) N2)) [1,1] rfl h2,h3,fun i h5 h6=>?_⟩
   by_cases hi:i=s
   ·rw [hi];exact hq
   ·exact h4 i (by omega) h6
noncomputable def InText (E:Nat→Option Nat) (n:Nat):Prop:=∀ i q,i≤n→E i=some q→i≤q∧q≤n
noncomputable abbrev sel0:List Nat:=[0,1,2,3,4,5,6,7,8,9,10,11,12,13,14,15,16,17,18,19,20]
section
variable {B:Base} {d:Nat} {p:Pt} {t:Tm} {v:BV} {L:List Int} {a j n:Nat} {xs stp:List AV} {E:Nat→Option Nat} {sp told near stt:AV} {st en many:Int} {ir:Bool}
noncomputable def lookR (E:Nat→Option Nat) (L:List Int) (n:Nat):Option (Nat×Nat):=if n<L.length then search E (L.length+1 - n) n else none
theorem jb (G:GapN L a j xs) (hz:v.zv=L.length+1) (hL:L.length≤90) (hE:∀ v' p2,v'.zv=v.zv→Finds B d p v' L a (a+j) p2 xs E) (hI:InText E L.length) :
  match lookR E L n with
  | none=>∃ sp',Con B (d+12) 16 [.ref 0,.int (n+1)] (RH p t (RO v.zv stt st en told near ir many) sp v a j xs stp []) .none (RH p t (RO v.zv doneS st en told near ir many) sp' v a j xs stp [])
  | some r=>∃ sp',Con B (d+12) 16 [.ref 0,.int (n+1)] (RH p t (RO v.zv stt st en told near ir many) sp v a j xs stp []) .none (RM p t E r.1 r.2 stt false many sp' v a j xs stp []):=by
 unfold lookR
 by_cases h:n<L.length
 ·rw [if_pos h]
  have hn:=lR (sp:=Mine.ren selP sp) (n:=n) G.gap hz hL (Nat.le_of_lt h) (hE v v.pt rfl)
  have q1:((pick (RH p t (RO v.zv stt st en told near ir many) sp v a j xs stp []) selP).map fun sub=>sub.map (mapO (Mine.ren selP)))=some (ptH p v a (a+j) xs (Mine.ren selP sp) []) :=
   Eq.trans (b:=some (ptHx ((cmpL p 5).map (mapO (Mine.ren selP))) v a (a+j) (xs.map (Mine.ren selP)) (Mine.ren selP sp) [])) (by kernel_rfl) (by rw [aj (f:=Mine.ren selP) (fun z9=>rfl) (fun z9=>rfl) (fun z9=>rfl) p (k:=5) (k':=4) rfl (i8 ⟨rfl,rfl,rfl,rfl,rfl,rfl,rfl,rfl⟩),G.ren (Mine.ren selP) fun z9=>rfl];rfl)
  cases hs:search E (L.length+1 - n) n with
  | none =>
   rw [hs] at hn
   refine ⟨bak selP [] 21 (Mine.ren selP sp),?_⟩
   have q2:((pick (ptH p v a (a+j) xs (Mine.ren selP sp) []) []).map fun new=>wback (bak selP [] 21) selP (ptH p v a (a+j) xs (Mine.ren selP sp) []) (RH p t (RO v.zv stt st en told near ir many) sp v a j xs stp [])++new.map (mapO (bak selP [] 21)))=some (RH p t (RO v.zv stt st en told near ir many) (bak selP [] 21 (Mine.ren selP sp)) v a j xs stp []) :=
    Eq.trans (b:=some (RHx ((cmpL p 4).map (mapO (bak selP [] 21))) t (RO v.zv stt st en told near ir many) (bak selP [] 21 (Mine.ren selP sp)) v a j (xs.map (bak selP [] 21)) stp [])) (by kernel_rfl) (by rw [aj (f:=bak selP [] 21) (fun z9=>rfl) (fun z9=>rfl) (fun z9=>rfl) p (k:=4) (k':=5) rfl (i8 ⟨rfl,rfl,rfl,rfl,rfl,rfl,rfl,rfl⟩),G.ren (bak selP [] 21) fun z9=>rfl];rfl)
   exact con B 60 _ _ [.go 4,.b true,.go 8,.s (some selP),.go 1,.h (ptH p v a (a+j) xs (Mine.ren selP sp) []),.c .none (ptH p v a (a+j) xs (Mine.ren selP sp) []),.s (some []),.go 1,.h (RH p t (RO v.zv stt st en told near ir many) (bak selP [] 21 (Mine.ren selP sp)) v a j xs stp [])]
    (I2 (dT (p:=(n:Int)+1<v.zv) (by exact ag [_,_] [_] (.ltI (.a (.c N0) (.k 1)) J0) (.eqI J0 (.a (.c N1) (.k 1))) (.ltN N0 N1) [1,-1,1] rfl hz h)) (I2 q1 (I2 hn (I2 q2 trivial)))) (by kernel_rfl)
  | some r =>
   rw [hs] at hn
   obtain ⟨r1,r2,r3,_⟩:=bu hs
   obtain ⟨i1,i2⟩:=hI r.1 r.2 (by exact ag [_,_,_,_] [] (.leN N0 N1) (.ltN N0 (.a N2 N3)) (.eqN (.a N3 N2) (.a N1 (.k 1))) [1,1,1] rfl r2 (ab (aa [_,_] [] (.leN N0 (.a N1 (.k 1))) (.ltN N0 N1) [1,1] rfl h))) r3
   have hz':(v).zv=L.length+1:=hz
   obtain ⟨sp',hm⟩:=ja (t:=t) (stt:=stt) (st:=st) (en:=en) (told:=told) (near:=near) (ir:=ir) (many:=many) (sp:=.ref 21) (stp:=stp) G hz hL i1 i2 (hE v (r.2+1) rfl)
   refine ⟨sp',?_⟩
   have q2:((pick (ptH p v a (a+j) xs (.ref 17) [.list [.ref 18],.tup [.int (r.1+1),.int (r.2+1)]]) [17,18]).map fun new=>wback (bak selP [17,18] 21) selP (ptH p v a (a+j) xs (.ref 17) [.list [.ref 18],.tup [.int (r.1+1),.int (r.2+1)]]) (RH p t (RO v.zv stt st en told near ir many) sp v a j xs stp [])++new.map (mapO (bak selP [17,18] 21)))=some (RH p t (RO v.zv stt st en told near ir many) (.ref 21) v a j xs stp (spanZ r.1 r.2 [])) :=
    Eq.trans (b:=some (RHx ((cmpL p 4).map (mapO (bak selP [17,18] 21))) t (RO v.zv stt st en told near ir many) (.ref 21) v a j (xs.map (bak selP [17,18] 21)) stp (spanZ r.1 r.2 []))) (by kernel_rfl) (by rw [aj (f:=bak selP [17,18] 21) (fun z9=>rfl) (fun z9=>rfl) (fun z9=>rfl) p (k:=4) (k':=5) rfl (i8 ⟨rfl,rfl,rfl,rfl,rfl,rfl,rfl,rfl⟩),G.ren (bak selP [17,18] 21) fun z9=>rfl];rfl)
   exact con B 60 _ _ [.go 4,.b true,.go 8,.s (some selP),.go 1,.h (ptH p v a (a+j) xs (Mine.ren selP sp) []),.c (.ref 18) (ptH p v a (a+j) xs (.ref 17) [.list [.ref 18],.tup [.int (r.1+1),.int (r.2+1)]]),.s (some [17,18]),.go 1,.h (RH p t (RO v.zv stt st en told near ir many) (.ref 21) v a j xs stp (spanZ r.1 r.2 [])),.go 13,.c .none (RM p t E r.1 r.2 stt false many sp' v a j xs stp [])]
    (I2 (dT (p:=(n:Int)+1<v.zv) (by exact ag [_,_] [_] (.ltI (.a (.c N0) (.k 1)) J0) (.eqI J0 (.a (.c N1) (.k 1))) (.ltN N0 N1) [1,-1,1] rfl hz h)) (I2 q1 (I2 hn (I2 q2 (I2 hm trivial))))) (by kernel_rfl)
 ·rw [if_neg h]
  exact ⟨sp,con B 60 _ _ [.go 4,.b false] (I2 (dF (p:=(n:Int)+1<v.zv) (by exact ag [_,_] [_] (.n (.ltI (.a (.c N0) (.k 1)) J0)) (.eqI J0 (.a (.c N1) (.k 1))) (.n (.ltN N0 N1)) [1,1,1] rfl hz h)) trivial) (by kernel_rfl)⟩
end
noncomputable abbrev selM:List Nat:=[18,19,1,2,3,4,5,6,7,8,9,10,11,12,13,14,15,16,17,21,22]
noncomputable def stepO (s N:Nat) (told:AV):AO:=.inst 0 [(30,.int (s+1)),(31,.ref N),(32,.ref (N+1)),(33,.bool true),(34,told),(35,.int 1)]
theorem jc {σ:Hp} {i:Nat} {xs:List AV} {v:AV} (h:σ[i]?=some (.list xs)) (hl:xs.length<1000):lmV σ (.ref i) 0 [v]=some (.none,σ.set i (.list (xs++[v]))):=by
 have e1:listAt σ i=some xs:=by unfold listAt;rw [h]
 show (match listAt σ i with | some xs=>nth [lAppend σ i xs [v],lPop σ i xs [v],lExtend σ i xs [v]] 0 none | none=>none)=_
 rw [e1]
 show (if xs.length<LIM then some (AV.none,σ.set i (.list (xs++[v]))) else none)=_
 rw [if_pos (Nat.lt_of_lt_of_le hl (by decide))]
section
variable {B:Base} {d:Nat} {p:Pt} {t:Tm} {v:BV} {L:List Int} {a j s e q:Nat} {xs stp:List AV} {sp:AV} {many:Int}
theorem dz (G:GapN L a j xs) (hz:v.zv=L.length+1) (hL:L.length≤90) (h1:s≤e) (h2:e≤L.length) (hp:v.pt=e+1) (k1:0≤v.tk) (k2:v.tk≤1000000) (hs:stp.length<1000) (hm:0≤many∧many≤1000000) :
  Ex4 fun v' a' j' xs'=>Chg v (L.take s++(newOf t (sub L s e))++L.drop e) (max (L.length+j) (L.length+(newOf t (sub L s e)).length+8)) v' a' j' xs'∧Con B (d+8) 19 [.ref 0] (RH p t (RO v.zv askS (s+1) (e+1) (.ref 21) (.ref 23) false many) sp v a j xs stp (spanZ s e [noneT])) .none (RH p t (RO v'.zv askS (s+1) (s+(newOf t (sub L s e)).length+1) (.ref 21) (.ref 23) true (many+1)) (.ref 21) (pt1 v' (s+(newOf t (sub L s e)).length+1)) a' j' xs' (stp++[.ref 26]) (spanZ s e [noneT,cD (sub L s e),cD (newOf t (sub L s e)),stepO s 24 (.ref 21)])):=by
 have hl:=G.lim
 have hD:=aN (t:=t) (own:=sub L s e)
 have hown:(sub L s e).length=e - s:=by unfold sub;rw [List.length_take,List.length_drop];exact (Nat.min_eq_left (aq [_,_,_,_,_] [] (.leN N0 N1) (.leN N2 N3) (.leN N3 (.a N1 N4)) (.eqN (.a N0 N4) N2) [1,1,1,1] rfl h2 (af _ _) (ab (h1))))
 obtain ⟨v',a',j',xs',Y,r,hC,hrep⟩:=dH (B:=B) (d:=d) (D:=(newOf t (sub L s e))) G hz h1 h2 hp (by exact bS [_,_,_,_,_] [] (.leN (.a (.a N0 N1) (.k 8)) (.k 4000)) (.leN N0 (.k 90)) (.leN N2 N0) (.leN N1 (.a (.m 2 N3) (.k 2))) (.eqN N3 N4) (.leN N4 N2) [1,3,2,1,2,2] rfl hL h2 hD hown (Nat.sub_le _ _)) k1 k2
 refine ⟨v',a',j',xs',hC,?_⟩
 have hz':=hC.zv
 have hL2:(L.take s++(newOf t (sub L s e))++L.drop e).length=L.length - (e - s)+(newOf t (sub L s e)).length:=by rw [List.length_append,List.length_append,List.length_take,List.length_drop];exact cy [_,_,_,_,_,_,_,_] [] (.eqN (.a (.a N0 N1) N2) (.a N3 N1)) (.leN N0 N4) (.leN N5 (.a N2 N6)) (.leN N6 (.a N7 N4)) (.leN N5 (.a N3 N7)) (.eqN N0 N4) (.eqN (.a N2 N6) N5) (.eqN (.a N7 N4) N6) (.eqN (.a N3 N7) N5) [1,1,0,0,1,0,1,1,0] [1,0,1,1,0,-1,0,0,1] rfl (Nat.min_le_left _ _) (af _ _) (af _ _) (af _ _) (Nat.min_eq_left (ag [_,_,_] [] (.leN N0 N1) (.leN N0 N2) (.leN N2 N1) [1,1,1] rfl h1 h2)) (ab (h2)) (ab (h1)) (ab (ag [_,_,_] [] (.leN N0 N1) (.leN N2 N1) (.leN N0 N2) [1,1,1] rfl h2 (Nat.sub_le _ _)))
 rw [hL2] at hz'
 have hmd:=i5 (B:=B) (d:=d+4) (p:=p) (t:=t) (v:=v) G h1 h2
 have e0:((s:Int)+1 - 1)=s:=by exact au [_] [] (.eqI (.s (.a (.c N0) (.k 1)) (.k 1)) (.c N0)) [1] [1] rfl
 have e0':((e:Int)+1 - 1)=e:=by exact au [_] [] (.eqI (.s (.a (.c N0) (.k 1)) (.k 1)) (.c N0)) [1] [1] rfl
 have hc:Con B (d+6) 27 [.ref 0,.int ((s:Int)+1 - 1),.int ((e:Int)+1 - 1)] (gR a (a+j) xs []) (.ref 2) (gR a (a+j) xs [cD (sub L s e)]):=by rw [e0,e0'];exact br (d:=d+5) G h1 h2
 have q1:((pick (RH p t (RO v.zv askS (s+1) (e+1) (.ref 21) (.ref 23) false many) (.ref 21) v a j xs stp (spanZ s e [noneT])) [3,4]).map fun sub=>sub.map (mapO (Mine.ren [3,4])))=some (gR a (a+j) xs []) :=
  Eq.trans (b:=some (gR a (a+j) (xs.map (Mine.ren [3,4])) [])) (by kernel_rfl) (by rw [G.ren (Mine.ren [3,4]) fun z9=>rfl])
 have q2:((pick (gR a (a+j) xs [cD (sub L s e)]) [2]).map fun new=>wback (bak [3,4] [2] 24) [3,4] (gR a (a+j) xs [cD (sub L s e)]) (RH p t (RO v.zv askS (s+1) (e+1) (.ref 21) (.ref 23) false many) (.ref 21) v a j xs stp (spanZ s e [noneT]))++new.map (mapO (bak [3,4] [2] 24)))=some (RH p t (RO v.zv askS (s+1) (e+1) (.ref 21) (.ref 23) false many) (.ref 21) v a j xs stp (spanZ s e [noneT,cD (sub L s e)])) :=
  Eq.trans (b:=some (RH p t (RO v.zv askS (s+1) (e+1) (.ref 21) (.ref 23) false many) (.ref 21) v a j (xs.map (bak [3,4] [2] 24)) stp (spanZ s e [noneT,.list (((sub L s e).map AV.int).map (bak [3,4] [2] 24))]))) (by kernel_rfl) (by rw [G.ren (bak [3,4] [2] 24) fun z9=>rfl,ac (bak [3,4] [2] 24) fun z9=>rfl])
 have q3:((pick (RH p t (RO v.zv askS (s+1) (e+1) (.ref 21) (.ref 23) false many) (.ref 21) v a j xs stp (spanZ s e [noneT,cD (sub L s e)])) selM).map fun sub=>sub.map (mapO (Mine.ren selM)))=some (mH p t v a j xs s e []):=by
  refine Eq.trans (b:=some (tmO 2 1::.list (((tplOf t).map AV.int).map (Mine.ren selM))::(mHx ((cmpL p 5).map (mapO (Mine.ren selM))) t v a j (xs.map (Mine.ren selM)) s e []).drop 2)) (by kernel_rfl) ?_
  rw [aj (f:=Mine.ren selM) (fun z9=>rfl) (fun z9=>rfl) (fun z9=>rfl) p (k:=5) (k':=6) rfl (i8 ⟨rfl,rfl,rfl,rfl,rfl,rfl,rfl,rfl⟩),G.ren (Mine.ren selM) fun z9=>rfl,ac (Mine.ren selM) fun z9=>rfl];rfl
 have q4:((pick (mH p t v a j xs s e [.list [.ref 22],cD (sub L s e),cD (newOf t (sub L s e))]) [23]).map fun new=>wback (bak selM [23] 25) selM (mH p t v a j xs s e [.list [.ref 22],cD (sub L s e),cD (newOf t (sub L s e))]) (RH p t (RO v.zv askS (s+1) (e+1) (.ref 21) (.ref 23) false many) (.ref 21) v a j xs stp (spanZ s e [noneT,cD (sub L s e)]))++new.map (mapO (bak selM [23] 25)))=some (RH p t (RO v.zv askS (s+1) (e+1) (.ref 21) (.ref 23) false many) (.ref 21) v a j xs stp (spanZ s e [noneT,cD (sub L s e),cD (newOf t (sub L s e))])):=by
  refine Eq.trans (b:=some (((RHx ((cmpL p 6).map (mapO (bak selM [23] 25))) t (RO v.zv askS (s+1) (e+1) (.ref 21) (.ref 23) false many) (.ref 21) v a j (xs.map (bak selM [23] 25)) stp (spanZ s e [noneT,cD (sub L s e),.list (((newOf t (sub L s e)).map AV.int).map (bak selM [23] 25))])).take 19)++.list (((tplOf t).map AV.int).map (bak selM [23] 25))::(RHx ((cmpL p 6).map (mapO (bak selM [23] 25))) t (RO v.zv askS (s+1) (e+1) (.ref 21) (.ref 23) false many) (.ref 21) v a j (xs.map (bak selM [23] 25)) stp (spanZ s e [noneT,cD (sub L s e),.list (((newOf t (sub L s e)).map AV.int).map (bak selM [23] 25))])).drop 20)) (by kernel_rfl) ?_
  rw [aj (f:=bak selM [23] 25) (fun z9=>rfl) (fun z9=>rfl) (fun z9=>rfl) p (k:=6) (k':=5) rfl (i8 ⟨rfl,rfl,rfl,rfl,rfl,rfl,rfl,rfl⟩),G.ren (bak selM [23] 25) fun z9=>rfl,ac (bak selM [23] 25) fun z9=>rfl,ac (bak selM [23] 25) fun z9=>rfl];rfl
 have q5:((pick (RH p t (RO v.zv askS (s+1) (e+1) (.ref 21) (.ref 23) false many) (.ref 21) v a j xs stp (spanZ s e [noneT,cD (sub L s e),cD (newOf t (sub L s e))])) [2,3,4,15,16,17,25]).map fun sub=>sub.map (mapO (Mine.ren [2,3,4,15,16,17,25])))=some (eN v a j xs [cD (newOf t (sub L s e))]) :=
  Eq.trans (b:=some (eN v a j (xs.map (Mine.ren [2,3,4,15,16,17,25])) [.list (((newOf t (sub L s e)).map AV.int).map (Mine.ren [2,3,4,15,16,17,25]))])) (by kernel_rfl) (by rw [G.ren (Mine.ren [2,3,4,15,16,17,25]) fun z9=>rfl,ac (Mine.ren [2,3,4,15,16,17,25]) fun z9=>rfl])
 have q6:((pick (eN v' a' j' xs' (cD (newOf t (sub L s e))::Y)) []).map fun new=>wback (bak [2,3,4,15,16,17,25] [] 26) [2,3,4,15,16,17,25] (eN v' a' j' xs' (cD (newOf t (sub L s e))::Y)) (RH p t (RO v.zv askS (s+1) (e+1) (.ref 21) (.ref 23) false many) (.ref 21) v a j xs stp (spanZ s e [noneT,cD (sub L s e),cD (newOf t (sub L s e))]))++new.map (mapO (bak [2,3,4,15,16,17,25] [] 26)))=some (RH p t (RO v.zv askS (s+1) (e+1) (.ref 21) (.ref 23) false many) (.ref 21) v' a' j' xs' stp (spanZ s e [noneT,cD (sub L s e),cD (newOf t (sub L s e))])) :=
  Eq.trans (b:=some (RH p t (RO v.zv askS (s+1) (e+1) (.ref 21) (.ref 23) false many) (.ref 21) v' a' j' (xs'.map (bak [2,3,4,15,16,17,25] [] 26)) stp (spanZ s e [noneT,cD (sub L s e),.list (((newOf t (sub L s e)).map AV.int).map (bak [2,3,4,15,16,17,25] [] 26))]))) (by kernel_rfl) (by rw [hC.gap.ren (bak [2,3,4,15,16,17,25] [] 26) fun z9=>rfl,ac (bak [2,3,4,15,16,17,25] [] 26) fun z9=>rfl])
 have l1:((newOf t (sub L s e)).map AV.int).length=(newOf t (sub L s e)).length:=List.length_map _
 have l2:((sub L s e).map AV.int).length=(sub L s e).length:=List.length_map _
 have u1:attrSet (RH p t (RO v.zv askS (s+1) (e+1) (.ref 21) (.ref 23) false many) (.ref 21) v' a' j' xs' stp (spanZ s e [noneT,cD (sub L s e),cD (newOf t (sub L s e))])) (.ref 0) 39 (.int (v.zv+(newOf t (sub L s e)).length - (sub L s e).length))=some (RH p t (RO v'.zv askS (s+1) (e+1) (.ref 21) (.ref 23) false many) (.ref 21) v' a' j' xs' stp (spanZ s e [noneT,cD (sub L s e),cD (newOf t (sub L s e))])):=by
  rw [show v.zv+(newOf t (sub L s e)).length - (sub L s e).length=v'.zv by exact ku [_,_,_,_,_] [_,_] (.eqI (.s (.a J0 (.c N0)) (.c N1)) J1) (.eqI J0 (.a (.c N2) (.k 1))) (.eqN N1 N3) (.eqI J1 (.a (.c (.a N4 N0)) (.k 1))) (.leN N2 (.a N4 N3)) (.eqN (.a N4 N3) N2) [1,1,-1,-1,1,0] [1,-1,1,1,0,1] rfl hz hown hz' (af _ _) (ab (ag [_,_,_] [] (.leN N0 N1) (.leN N2 N1) (.leN N0 N2) [1,1,1] rfl h2 (Nat.sub_le _ _)))];kernel_rfl
 have u2:attrSet (RH p t (RO v'.zv askS (s+1) (e+1) (.ref 21) (.ref 23) false many) (.ref 21) v' a' j' xs' stp (spanZ s e [noneT,cD (sub L s e),cD (newOf t (sub L s e))])) (.ref 0) 41 (.int ((s:Int)+1+(newOf t (sub L s e)).length))=some (RH p t (RO v'.zv askS (s+1) (s+(newOf t (sub L s e)).length+1) (.ref 21) (.ref 23) false many) (.ref 21) v' a' j' xs' stp (spanZ s e [noneT,cD (sub L s e),cD (newOf t (sub L s e))])):=by
  rw [show (s:Int)+1+(newOf t (sub L s e)).length=s+(newOf t (sub L s e)).length+1 by exact au [_,_] [] (.eqI (.a (.a (.c N0) (.k 1)) (.c N1)) (.a (.a (.c N0) (.c N1)) (.k 1))) [1] [1] rfl];kernel_rfl
 have u3:=jc (σ:=(RH p t (RO v'.zv askS (s+1) (s+(newOf t (sub L s e)).length+1) (.ref 21) (.ref 23) false many) (.ref 21) v' a' j' xs' stp (spanZ s e [noneT,cD (sub L s e),cD (newOf t (sub L s e)),stepO s 24 (.ref 21)]))) (i:=20) (xs:=stp) (v:=.ref 26) rfl hs
 exact con B 90 _ _ [.go 27,.b true,.go 1,.b true,.s (some [3,4]),.go 1,.h (gR a (a+j) xs []),.c (.ref 2) (gR a (a+j) xs [cD (sub L s e)]),.s (some [2]),.go 1,.h (RH p t (RO v.zv askS (s+1) (e+1) (.ref 21) (.ref 23) false many) (.ref 21) v a j xs stp (spanZ s e [noneT,cD (sub L s e)])),
   .go 9,.s (some selM),.go 1,.h (mH p t v a j xs s e []),.c (.ref 23) (mH p t v a j xs s e [.list [.ref 22],cD (sub L s e),cD (newOf t (sub L s e))]),.s (some [23]),.go 1,.h (RH p t (RO v.zv askS (s+1) (e+1) (.ref 21) (.ref 23) false many) (.ref 21) v a j xs stp (spanZ s e [noneT,cD (sub L s e),cD (newOf t (sub L s e))])),
   .go 7,.s (some [2,3,4,15,16,17,25]),.go 1,.h (eN v a j xs [cD (newOf t (sub L s e))]),.c r (eN v' a' j' xs' (cD (newOf t (sub L s e))::Y)),.s (some []),.go 1,.h (RH p t (RO v.zv askS (s+1) (e+1) (.ref 21) (.ref 23) false many) (.ref 21) v' a' j' xs' stp (spanZ s e [noneT,cD (sub L s e),cD (newOf t (sub L s e))])),
   .go 3,.v (.int (newOf t (sub L s e)).length),.b true,.go 1,.v (.int (sub L s e).length),.b true,.go 1,.h (RH p t (RO v'.zv askS (s+1) (e+1) (.ref 21) (.ref 23) false many) (.ref 21) v' a' j' xs' stp (spanZ s e [noneT,cD (sub L s e),cD (newOf t (sub L s e))])),
   .go 3,.v (.int (newOf t (sub L s e)).length),.b true,.go 1,.h (RH p t (RO v'.zv askS (s+1) (s+(newOf t (sub L s e)).length+1) (.ref 21) (.ref 23) false many) (.ref 21) v' a' j' xs' stp (spanZ s e [noneT,cD (sub L s e),cD (newOf t (sub L s e))])),.go 29,.vh .none (RH p t (RO v'.zv askS (s+1) (s+(newOf t (sub L s e)).length+1) (.ref 21) (.ref 23) false many) (.ref 21) v' a' j' xs' (stp++[.ref 26]) (spanZ s e [noneT,cD (sub L s e),cD (newOf t (sub L s e)),stepO s 24 (.ref 21)])),.go 2,.b true]
  (I2 tI (I2 tI (I2 q1 (I2 hc (I2 q2 (I2 q3 (I2 hmd (I2 q4 (I2 q5 (I2 hrep (I2 q6
   (I2 (az (σ:=(RH p t (RO v.zv askS (s+1) (e+1) (.ref 21) (.ref 23) false many) (.ref 21) v' a' j' xs' stp (spanZ s e [noneT,cD (sub L s e),cD (newOf t (sub L s e))]))) (l:=25) rfl l1) (I2 tI (I2 (az (σ:=(RH p t (RO v.zv askS (s+1) (e+1) (.ref 21) (.ref 23) false many) (.ref 21) v' a' j' xs' stp (spanZ s e [noneT,cD (sub L s e),cD (newOf t (sub L s e))]))) (l:=24) rfl l2) (I2 tI (I2 u1
   (I2 (az (σ:=(RH p t (RO v'.zv askS (s+1) (e+1) (.ref 21) (.ref 23) false many) (.ref 21) v' a' j' xs' stp (spanZ s e [noneT,cD (sub L s e),cD (newOf t (sub L s e))]))) (l:=25) rfl l1) (I2 tI (I2 u2 (I2 u3 (I2 tI trivial))))))))))))))))))))) (by kernel_rfl)
theorem dA (G:GapN L a j xs) (hz:v.zv=L.length+1) (hL:L.length≤90) (h1:s≤e) (h2:e≤L.length) (hp:v.pt=e+1) (k1:0≤v.tk) (k2:v.tk≤1000000) (hs:stp.length<1000) (hm:0≤many∧many≤1000000) :
  Ex4 fun v' a' j' xs'=>Chg v (L.take s++(newOf t (sub L s e))++L.drop e) (max (L.length+j) (L.length+(newOf t (sub L s e)).length+8)) v' a' j' xs'∧Con B (d+8) 19 [.ref 0] (RH p t (RO v.zv askS (s+1) (e+1) (.ref 21) (.ref 23) false many) sp v a j xs stp (spanZ s e [atT 24,.list [.ref 25],tt (e+1) (q+1)])) .none (RH p t (RO v'.zv askS (s+1) (s+(newOf t (sub L s e)).length+1) (.ref 21) (.ref 23) true (many+1)) (.ref 21) (pt1 v' (s+(newOf t (sub L s e)).length+1)) a' j' xs' (stp++[.ref 28]) (spanZ s e [atT 24,.list [.ref 25],tt (e+1) (q+1),cD (sub L s e),cD (newOf t (sub L s e)),stepO s 26 (.ref 21)])):=by
 have hl:=G.lim
 have hD:=aN (t:=t) (own:=sub L s e)
 have hown:(sub L s e).length=e - s:=by unfold sub;rw [List.length_take,List.length_drop];exact (Nat.min_eq_left (aq [_,_,_,_,_] [] (.leN N0 N1) (.leN N2 N3) (.leN N3 (.a N1 N4)) (.eqN (.a N0 N4) N2) [1,1,1,1] rfl h2 (af _ _) (ab (h1))))
 obtain ⟨v',a',j',xs',Y,r,hC,hrep⟩:=dH (B:=B) (d:=d) (D:=(newOf t (sub L s e))) G hz h1 h2 hp (by exact bS [_,_,_,_,_] [] (.leN (.a (.a N0 N1) (.k 8)) (.k 4000)) (.leN N0 (.k 90)) (.leN N2 N0) (.leN N1 (.a (.m 2 N3) (.k 2))) (.eqN N3 N4) (.leN N4 N2) [1,3,2,1,2,2] rfl hL h2 hD hown (Nat.sub_le _ _)) k1 k2
 refine ⟨v',a',j',xs',hC,?_⟩
 have hz':=hC.zv
 have hL2:(L.take s++(newOf t (sub L s e))++L.drop e).length=L.length - (e - s)+(newOf t (sub L s e)).length:=by rw [List.length_append,List.length_append,List.length_take,List.length_drop];exact cy [_,_,_,_,_,_,_,_] [] (.eqN (.a (.a N0 N1) N2) (.a N3 N1)) (.leN N0 N4) (.leN N5 (.a N2 N6)) (.leN N6 (.a N7 N4)) (.leN N5 (.a N3 N7)) (.eqN N0 N4) (.eqN (.a N2 N6) N5) (.eqN (.a N7 N4) N6) (.eqN (.a N3 N7) N5) [1,1,0,0,1,0,1,1,0] [1,0,1,1,0,-1,0,0,1] rfl (Nat.min_le_left _ _) (af _ _) (af _ _) (af _ _) (Nat.min_eq_left (ag [_,_,_] [] (.leN N0 N1) (.leN N0 N2) (.leN N2 N1) [1,1,1] rfl h1 h2)) (ab (h2)) (ab (h1)) (ab (ag [_,_,_] [] (.leN N0 N1) (.leN N2 N1) (.leN N0 N2) [1,1,1] rfl h2 (Nat.sub_le _ _)))
 rw [hL2] at hz'
 have hmd:=i5 (B:=B) (d:=d+4) (p:=p) (t:=t) (v:=v) G h1 h2
 have e0:((s:Int)+1 - 1)=s:=by exact au [_] [] (.eqI (.s (.a (.c N0) (.k 1)) (.k 1)) (.c N0)) [1] [1] rfl
 have e0':((e:Int)+1 - 1)=e:=by exact au [_] [] (.eqI (.s (.a (.c N0) (.k 1)) (.k 1)) (.c N0)) [1] [1] rfl
 have hc:Con B (d+6) 27 [.ref 0,.int ((s:Int)+1 - 1),.int ((e:Int)+1 - 1)] (gR a (a+j) xs []) (.ref 2) (gR a (a+j) xs [cD (sub L s e)]):=by rw [e0,e0'];exact br (d:=d+5) G h1 h2
 have q1:((pick (RH p t (RO v.zv askS (s+1) (e+1) (.ref 21) (.ref 23) false many) (.ref 21) v a j xs stp (spanZ s e [atT 24,.list [.ref 25],tt (e+1) (q+1)])) [3,4]).map fun sub=>sub.map (mapO (Mine.ren [3,4])))=some (gR a (a+j) xs []) :=
  Eq.trans (b:=some (gR a (a+j) (xs.map (Mine.ren [3,4])) [])) (by kernel_rfl) (by rw [G.ren (Mine.ren [3,4]) fun z9=>rfl])
 have q2:((pick (gR a (a+j) xs [cD (sub L s e)]) [2]).map fun new=>wback (bak [3,4] [2] 26) [3,4] (gR a (a+j) xs [cD (sub L s e)]) (RH p t (RO v.zv askS (s+1) (e+1) (.ref 21) (.ref 23) false many) (.ref 21) v a j xs stp (spanZ s e [atT 24,.list [.ref 25],tt (e+1) (q+1)]))++new.map (mapO (bak [3,4] [2] 26)))=some (RH p t (RO v.zv askS (s+1) (e+1) (.ref 21) (.ref 23) false many) (.ref 21) v a j xs stp (spanZ s e [atT 24,.list [.ref 25],tt (e+1) (q+1),cD (sub L s e)])) :=
  Eq.trans (b:=some (RH p t (RO v.zv askS (s+1) (e+1) (.ref 21) (.ref 23) false many) (.ref 21) v a j (xs.map (bak [3,4] [2] 26)) stp (spanZ s e [atT 24,.list [.ref 25],tt (e+1) (q+1),.list (((sub L s e).map AV.int).map (bak [3,4] [2] 26))]))) (by kernel_rfl) (by rw [G.ren (bak [3,4] [2] 26) fun z9=>rfl,ac (bak [3,4] [2] 26) fun z9=>rfl])
 have q3:((pick (RH p t (RO v.zv askS (s+1) (e+1) (.ref 21) (.ref 23) false many) (.ref 21) v a j xs stp (spanZ s e [atT 24,.list [.ref 25],tt (e+1) (q+1),cD (sub L s e)])) selM).map fun sub=>sub.map (mapO (Mine.ren selM)))=some (mH p t v a j xs s e []):=by
  refine Eq.trans (b:=some (tmO 2 1::.list (((tplOf t).map AV.int).map (Mine.ren selM))::(mHx ((cmpL p 5).map (mapO (Mine.ren selM))) t v a j (xs.map (Mine.ren selM)) s e []).drop 2)) (by kernel_rfl) ?_
  rw [aj (f:=Mine.ren selM) (fun z9=>rfl) (fun z9=>rfl) (fun z9=>rfl) p (k:=5) (k':=6) rfl (i8 ⟨rfl,rfl,rfl,rfl,rfl,rfl,rfl,rfl⟩),G.ren (Mine.ren selM) fun z9=>rfl,ac (Mine.ren selM) fun z9=>rfl];rfl
 have q4:((pick (mH p t v a j xs s e [.list [.ref 22],cD (sub L s e),cD (newOf t (sub L s e))]) [23]).map fun new=>wback (bak selM [23] 27) selM (mH p t v a j xs s e [.list [.ref 22],cD (sub L s e),cD (newOf t (sub L s e))]) (RH p t (RO v.zv askS (s+1) (e+1) (.ref 21) (.ref 23) false many) (.ref 21) v a j xs stp (spanZ s e [atT 24,.list [.ref 25],tt (e+1) (q+1),cD (sub L s e)]))++new.map (mapO (bak selM [23] 27)))=some (RH p t (RO v.zv askS (s+1) (e+1) (.ref 21) (.ref 23) false many) (.ref 21) v a j xs stp (spanZ s e [atT 24,.list [.ref 25],tt (e+1) (q+1),cD (sub L s e),cD (newOf t (sub L s e))])):=by
  refine Eq.trans (b:=some (((RHx ((cmpL p 6).map (mapO (bak selM [23] 27))) t (RO v.zv askS (s+1) (e+1) (.ref 21) (.ref 23) false many) (.ref 21) v a j (xs.map (bak selM [23] 27)) stp (spanZ s e [atT 24,.list [.ref 25],tt (e+1) (q+1),cD (sub L s e),.list (((newOf t (sub L s e)).map AV.int).map (bak selM [23] 27))])).take 19)++.list (((tplOf t).map AV.int).map (bak selM [23] 27))::(RHx ((cmpL p 6).map (mapO (bak selM [23] 27))) t (RO v.zv askS (s+1) (e+1) (.ref 21) (.ref 23) false many) (.ref 21) v a j (xs.map (bak selM [23] 27)) stp (spanZ s e [atT 24,.list [.ref 25],tt (e+1) (q+1),cD (sub L s e),.list (((newOf t (sub L s e)).map AV.int).map (bak selM [23] 27))])).drop 20)) (by kernel_rfl) ?_
  rw [aj (f:=bak selM [23] 27) (fun z9=>rfl) (fun z9=>rfl) (fun z9=>rfl) p (k:=6) (k':=5) rfl (i8 ⟨rfl,rfl,rfl,rfl,rfl,rfl,rfl,rfl⟩),G.ren (bak selM [23] 27) fun z9=>rfl,ac (bak selM [23] 27) fun z9=>rfl,ac (bak selM [23] 27) fun z9=>rfl];rfl
 have q5:((pick (RH p t (RO v.zv askS (s+1) (e+1) (.ref 21) (.ref 23) false many) (.ref 21) v a j xs stp (spanZ s e [atT 24,.list [.ref 25],tt (e+1) (q+1),cD (sub L s e),cD (newOf t (sub L s e))])) [2,3,4,15,16,17,27]).map fun sub=>sub.map (mapO (Mine.ren [2,3,4,15,16,17,27])))=some (eN v a j xs [cD (newOf t (sub L s e))]) :=
  Eq.trans (b:=some (eN v a j (xs.map (Mine.ren [2,3,4,15,16,17,27])) [.list (((newOf t (sub L s e)).map AV.int).map (Mine.ren [2,3,4,15,16,17,27]))])) (by kernel_rfl) (by rw [G.ren (Mine.ren [2,3,4,15,16,17,27]) fun z9=>rfl,ac (Mine.ren [2,3,4,15,16,17,27]) fun z9=>rfl])
 have q6:((pick (eN v' a' j' xs' (cD (newOf t (sub L s e))::Y)) []).map fun new=>wback (bak [2,3,4,15,16,17,27] [] 28) [2,3,4,15,16,17,27] (eN v' a' j' xs' (cD (newOf t (sub L s e))::Y)) (RH p t (RO v.zv askS (s+1) (e+1) (.ref 21) (.ref 23) false many) (.ref 21) v a j xs stp (spanZ s e [atT 24,.list [.ref 25],tt (e+1) (q+1),cD (sub L s e),cD (newOf t (sub L s e))]))++new.map (mapO (bak [2,3,4,15,16,17,27] [] 28)))=some (RH p t (RO v.zv askS (s+1) (e+1) (.ref 21) (.ref 23) false many) (.ref 21) v' a' j' xs' stp (spanZ s e [atT 24,.list [.ref 25],tt (e+1) (q+1),cD (sub L s e),cD (newOf t (sub L s e))])) :=
  Eq.trans (b:=some (RH p t (RO v.zv askS (s+1) (e+1) (.ref 21) (.ref 23) false many) (.ref 21) v' a' j' (xs'.map (bak [2,3,4,15,16,17,27] [] 28)) stp (spanZ s e [atT 24,.list [.ref 25],tt (e+1) (q+1),cD (sub L s e),.list (((newOf t (sub L s e)).map AV.int).map (bak [2,3,4,15,16,17,27] [] 28))]))) (by kernel_rfl) (by rw [hC.gap.ren (bak [2,3,4,15,16,17,27] [] 28) fun z9=>rfl,ac (bak [2,3,4,15,16,17,27] [] 28) fun z9=>rfl])
 have l1:((newOf t (sub L s e)).map AV.int).length=(newOf t (sub L s e)).length:=List.length_map _
 have l2:((sub L s e).map AV.int).length=(sub L s e).length:=List.length_map _
 have u1:attrSet (RH p t (RO v.zv askS (s+1) (e+1) (.ref 21) (.ref 23) false many) (.ref 21) v' a' j' xs' stp (spanZ s e [atT 24,.list [.ref 25],tt (e+1) (q+1),cD (sub L s e),cD (newOf t (sub L s e))])) (.ref 0) 39 (.int (v.zv+(newOf t (sub L s e)).length - (sub L s e).length))=some (RH p t (RO v'.zv askS (s+1) (e+1) (.ref 21) (.ref 23) false many) (.ref 21) v' a' j' xs' stp (spanZ s e [atT 24,.list [.ref 25],tt (e+1) (q+1),cD (sub L s e),cD (newOf t (sub L s e))])):=by
  rw [show v.zv+(newOf t (sub L s e)).length - (sub L s e).length=v'.zv by exact ku [_,_,_,_,_] [_,_] (.eqI (.s (.a J0 (.c N0)) (.c N1)) J1) (.eqI J0 (.a (.c N2) (.k 1))) (.eqN N1 N3) (.eqI J1 (.a (.c (.a N4 N0)) (.k 1))) (.leN N2 (.a N4 N3)) (.eqN (.a N4 N3) N2) [1,1,-1,-1,1,0] [1,-1,1,1,0,1] rfl hz hown hz' (af _ _) (ab (ag [_,_,_] [] (.leN N0 N1) (.leN N2 N1) (.leN N0 N2) [1,1,1] rfl h2 (Nat.sub_le _ _)))];kernel_rfl
 have u2:attrSet (RH p t (RO v'.zv askS (s+1) (e+1) (.ref 21) (.ref 23) false many) (.ref 21) v' a' j' xs' stp (spanZ s e [atT 24,.list [.ref 25],tt (e+1) (q+1),cD (sub L s e),cD (newOf t (sub L s e))])) (.ref 0) 41 (.int ((s:Int)+1+(newOf t (sub L s e)).length))=some (RH p t (RO v'.zv askS (s+1) (s+(newOf t (sub L s e)).length+1) (.ref 21) (.ref 23) false many) (.ref 21) v' a' j' xs' stp (spanZ s e [atT 24,.list [.ref 25],tt (e+1) (q+1),cD (sub L s e),cD (newOf t (sub L s e))])):=by
  rw [show (s:Int)+1+(newOf t (sub L s e)).length=s+(newOf t (sub L s e)).length+1 by exact au [_,_] [] (.eqI (.a (.a (.c N0) (.k 1)) (.c N1)) (.a (.a (.c N0) (.c N1)) (.k 1))) [1] [1] rfl];kernel_rfl
 have u3:=jc (σ:=(RH p t (RO v'.zv askS (s+1) (s+(newOf t (sub L s e)).length+1) (.ref 21) (.ref 23) false many) (.ref 21) v' a' j' xs' stp (spanZ s e [atT 24,.list [.ref 25],tt (e+1) (q+1),cD (sub L s e),cD (newOf t (sub L s e)),stepO s 26 (.ref 21)]))) (i:=20) (xs:=stp) (v:=.ref 28) rfl hs
 exact con B 90 _ _ [.go 27,.b true,.go 1,.b true,.s (some [3,4]),.go 1,.h (gR a (a+j) xs []),.c (.ref 2) (gR a (a+j) xs [cD (sub L s e)]),.s (some [2]),.go 1,.h (RH p t (RO v.zv askS (s+1) (e+1) (.ref 21) (.ref 23) false many) (.ref 21) v a j xs stp (spanZ s e [atT 24,.list [.ref 25],tt (e+1) (q+1),cD (sub L s e)])),
   .go 9,.s (some selM),.go 1,.h (mH p t v a j xs s e []),.c (.ref 23) (mH p t v a j xs s e [.list [.ref 22],cD (sub L s e),cD (newOf t (sub L s e))]),.s (some [23]),.go 1,.h (RH p t (RO v.zv askS (s+1) (e+1) (.ref 21) (.ref 23) false many) (.ref 21) v a j xs stp (spanZ s e [atT 24,.list [.ref 25],tt (e+1) (q+1),cD (sub L s e),cD (newOf t (sub L s e))])),
   .go 7,.s (some [2,3,4,15,16,17,27]),.go 1,.h (eN v a j xs [cD (newOf t (sub L s e))]),.c r (eN v' a' j' xs' (cD (newOf t (sub L s e))::Y)),.s (some []),.go 1,.h (RH p t (RO v.zv askS (s+1) (e+1) (.ref 21) (.ref 23) false many) (.ref 21) v' a' j' xs' stp (spanZ s e [atT 24,.list [.ref 25],tt (e+1) (q+1),cD (sub L s e),cD (newOf t (sub L s e))])),
   .go 3,.v (.int (newOf t (sub L s e)).length),.b true,.go 1,.v (.int (sub L s e).length),.b true,.go 1,.h (RH p t (RO v'.zv askS (s+1) (e+1) (.ref 21) (.ref 23) false many) (.ref 21) v' a' j' xs' stp (spanZ s e [atT 24,.list [.ref 25],tt (e+1) (q+1),cD (sub L s e),cD (newOf t (sub L s e))])),
   .go 3,.v (.int (newOf t (sub L s e)).length),.b true,.go 1,.h (RH p t (RO v'.zv askS (s+1) (s+(newOf t (sub L s e)).length+1) (.ref 21) (.ref 23) false many) (.ref 21) v' a' j' xs' stp (spanZ s e [atT 24,.list [.ref 25],tt (e+1) (q+1),cD (sub L s e),cD (newOf t (sub L s e))])),.go 29,.vh .none (RH p t (RO v'.zv askS (s+1) (s+(newOf t (sub L s e)).length+1) (.ref 21) (.ref 23) false many) (.ref 21) v' a' j' xs' (stp++[.ref 28]) (spanZ s e [atT 24,.list [.ref 25],tt (e+1) (q+1),cD (sub L s e),cD (newOf t (sub L s e)),stepO s 26 (.ref 21)])),.go 2,.b true]
  (I2 tI (I2 tI (I2 q1 (I2 hc (I2 q2 (I2 q3 (I2 hmd (I2 q4 (I2 q5 (I2 hrep (I2 q6
   (I2 (az (σ:=(RH p t (RO v.zv askS (s+1) (e+1) (.ref 21) (.ref 23) false many) (.ref 21) v' a' j' xs' stp (spanZ s e [atT 24,.list [.ref 25],tt (e+1) (q+1),cD (sub L s e),cD (newOf t (sub L s e))]))) (l:=27) rfl l1) (I2 tI (I2 (az (σ:=(RH p t (RO v.zv askS (s+1) (e+1) (.ref 21) (.ref 23) false many) (.ref 21) v' a' j' xs' stp (spanZ s e [atT 24,.list [.ref 25],tt (e+1) (q+1),cD (sub L s e),cD (newOf t (sub L s e))]))) (l:=26) rfl l2) (I2 tI (I2 u1
   (I2 (az (σ:=(RH p t (RO v'.zv askS (s+1) (e+1) (.ref 21) (.ref 23) false many) (.ref 21) v' a' j' xs' stp (spanZ s e [atT 24,.list [.ref 25],tt (e+1) (q+1),cD (sub L s e),cD (newOf t (sub L s e))]))) (l:=27) rfl l1) (I2 tI (I2 u2 (I2 u3 (I2 tI trivial))))))))))))))))))))) (by kernel_rfl)
end
noncomputable def spanG (g s e:Nat) (no:Option Nat):Hp:=.list [.ref (g+22)]::tt (s+1) (e+1)::(match no with
 | none=>[noneT]
 | some q=>[atT (g+24),.list [.ref (g+25)],tt (e+1) (q+1)])
noncomputable def HD (p:Pt) (t:Tm) (E:Nat→Option Nat) (G:Hp) (s e:Nat) (many:Int) (sp:AV) (v:BV) (a j:Nat) (xs stp:List AV):Hp :=
 RH p t (RO v.zv askS (s+1) (e+1) (.ref (G.length+21)) (.ref (G.length+23)) false many) sp (pt1 v (e+1)) a j xs stp (G++spanG G.length s e (nearOf E s e))
theorem ea {σ:Hp} {l:Nat} {xs:List AV} {x:AV} {k:Int} (h:σ[l]?=some (.list (xs++[x]))) (hk:k=xs.length):idxV σ (.ref l) (.int k)=some x:=by
 subst hk
 exact aC h (aP (by rw [List.getElem?_append_right (Nat.le_refl _),Nat.sub_self];rfl))
section
variable {B:Base} {d:Nat} {p:Pt} {t:Tm} {v:BV} {L own:List Int} {a j n s e e' q:Nat} {xs stp:List AV} {E:Nat→Option Nat} {sp x:AV} {st many:Int}
theorem eM (G:GapN L a j xs) (hz:v.zv=L.length+1) (hL:L.length≤90) (hn:n≤1000) (hs:stp.length<1000) (hE:∀ v' p2,v'.zv=v.zv→Finds B d p v' L a (a+j) p2 xs E) (hI:InText E L.length) :
  Ex3 fun sp' stp' x'=>stp'.length=stp.length∧match lookR E L n with
  | none=>Ex5 fun st' en' tl nr ir=>Con B (d+14) 20 [.ref 0] (RH p t (RO v.zv askS st n .opq (.ref 21) true many) sp v a j xs (stp++[x]) [noneT]) .none (RH p t (RO v.zv doneS st' en' tl nr ir many) sp' v a j xs (stp'++[x']) [noneT])
  | some r=>Con B (d+14) 20 [.ref 0] (RH p t (RO v.zv askS st n .opq (.ref 21) true many) sp v a j xs (stp++[x]) [noneT]) .none (HD p t E [noneT] r.1 r.2 many sp' v a j xs (stp'++[x'])):=by
 have hk:=jb (t:=t) (stt:=askS) (st:=st) (en:=n) (told:=.opq) (near:=.opq) (ir:=true) (many:=many) (sp:=Mine.ren sel0 sp) (stp:=(stp.map (Mine.ren sel0))++[Mine.ren sel0 x]) (n:=n) G hz hL hE hI
 have q1:((pick (RH p t (RO v.zv askS st n .opq (.ref 21) true many) sp v a j xs (stp++[x]) [noneT]) sel0).map fun sub=>sub.map (mapO (Mine.ren sel0)))=some (RH p t (RO v.zv askS st n .opq .opq true many) (Mine.ren sel0 sp) v a j xs (stp.map (Mine.ren sel0)++[Mine.ren sel0 x]) []):=by
  refine Eq.trans (b:=some ((RHx ((cmpL p 5).map (mapO (Mine.ren sel0))) t (RO v.zv askS st n .opq .opq true many) (Mine.ren sel0 sp) v a j (xs.map (Mine.ren sel0)) ((stp++[x]).map (Mine.ren sel0)) []).take 19++[.list (((tplOf t).map AV.int).map (Mine.ren sel0)),.list ((stp++[x]).map (Mine.ren sel0))])) (by kernel_rfl) ?_
  rw [aj (f:=Mine.ren sel0) (fun z9=>rfl) (fun z9=>rfl) (fun z9=>rfl) p (k:=5) (k':=5) rfl (i8 ⟨rfl,rfl,rfl,rfl,rfl,rfl,rfl,rfl⟩),G.ren (Mine.ren sel0) fun z9=>rfl,ac (Mine.ren sel0) fun z9=>rfl,List.map_append];rfl
 have hlen:(stp++[x]).length=stp.length+1:=by rw [List.length_append];rfl
 cases hl:lookR E L n with
 | none =>
  rw [hl] at hk
  obtain ⟨sp',hc⟩:=hk
  refine ⟨bak sel0 [] 22 sp',(stp.map (Mine.ren sel0)).map (bak sel0 [] 22),bak sel0 [] 22 (Mine.ren sel0 x),by rw [List.length_map,List.length_map],st,n,.opq,.opq,true,?_⟩
  have q2:((pick (RH p t (RO v.zv doneS st n .opq .opq true many) sp' v a j xs (stp.map (Mine.ren sel0)++[Mine.ren sel0 x]) []) []).map fun new=>wback (bak sel0 [] 22) sel0 (RH p t (RO v.zv doneS st n .opq .opq true many) sp' v a j xs (stp.map (Mine.ren sel0)++[Mine.ren sel0 x]) []) (RH p t (RO v.zv askS st n .opq (.ref 21) true many) sp v a j xs (stp++[x]) [noneT])++new.map (mapO (bak sel0 [] 22)))=some (RH p t (RO v.zv doneS st n .opq .opq true many) (bak sel0 [] 22 sp') v a j xs ((stp.map (Mine.ren sel0)).map (bak sel0 [] 22)++[bak sel0 [] 22 (Mine.ren sel0 x)]) [noneT]):=by
   refine Eq.trans (b:=some ((RHx ((cmpL p 5).map (mapO (bak sel0 [] 22))) t (RO v.zv doneS st n .opq .opq true many) (bak sel0 [] 22 sp') v a j (xs.map (bak sel0 [] 22)) [] []).take 19++[.list (((tplOf t).map AV.int).map (bak sel0 [] 22)),.list ((stp.map (Mine.ren sel0)++[Mine.ren sel0 x]).map (bak sel0 [] 22)),noneT])) (by kernel_rfl) ?_
   rw [aj (f:=bak sel0 [] 22) (fun z9=>rfl) (fun z9=>rfl) (fun z9=>rfl) p (k:=5) (k':=5) rfl (i8 ⟨rfl,rfl,rfl,rfl,rfl,rfl,rfl,rfl⟩),G.ren (bak sel0 [] 22) fun z9=>rfl,ac (bak sel0 [] 22) fun z9=>rfl,List.map_append];rfl
  exact con B 90 _ _ [.go 12,.v (.int (stp.length+1:Nat)),.b true,.v x,.go 11,.b true,.s (some sel0),.go 1,.h (RH p t (RO v.zv askS st n .opq .opq true many) (Mine.ren sel0 sp) v a j xs (stp.map (Mine.ren sel0)++[Mine.ren sel0 x]) []),.c .none (RH p t (RO v.zv doneS st n .opq .opq true many) sp' v a j xs (stp.map (Mine.ren sel0)++[Mine.ren sel0 x]) []),.s (some []),.go 1,
    .h (RH p t (RO v.zv doneS st n .opq .opq true many) (bak sel0 [] 22 sp') v a j xs ((stp.map (Mine.ren sel0)).map (bak sel0 [] 22)++[bak sel0 [] 22 (Mine.ren sel0 x)]) [noneT])]
   (I2 (az (σ:=RH p t (RO v.zv askS st n .opq (.ref 21) true many) sp v a j xs (stp++[x]) [noneT]) (l:=20) rfl hlen) (I2 tI (I2 (ea (σ:=RH p t (RO v.zv askS st n .opq (.ref 21) true many) sp v a j xs (stp++[x]) [noneT]) (l:=20) (k:=((stp.length+1:Nat):Int) - 1) rfl (by exact au [_] [] (.eqI (.s (.c (.a N0 (.k 1))) (.k 1)) (.c N0)) [1] [1] rfl))
    (I2 tI (I2 q1 (I2 hc (I2 q2 trivial))))))) (by kernel_rfl)
 | some r =>
  rw [hl] at hk
  obtain ⟨sp',hc⟩:=hk
  unfold HD
  unfold RM at hc
  have fin:∀ (no:Option Nat) (kp:List Nat),Con B (d+12) 16 [.ref 0,.int (n+1)] (RH p t (RO v.zv askS st n .opq .opq true many) (Mine.ren sel0 sp) v a j xs (stp.map (Mine.ren sel0)++[Mine.ren sel0 x]) []) .none (RH p t (RO v.zv askS (r.1+1) (r.2+1) (.ref 21) (.ref 23) false many) sp' (pt1 v (r.2+1)) a j xs (stp.map (Mine.ren sel0)++[Mine.ren sel0 x]) (spanZ r.1 r.2 (nearZ r.2 no++[]))) →
   (ndB kp && kp.all fun k=>decide (21≤k))=true →
   ((pick (RH p t (RO v.zv askS (r.1+1) (r.2+1) (.ref 21) (.ref 23) false many) sp' (pt1 v (r.2+1)) a j xs (stp.map (Mine.ren sel0)++[Mine.ren sel0 x]) (spanZ r.1 r.2 (nearZ r.2 no++[]))) kp).map fun new=>wback (bak sel0 kp 22) sel0 (RH p t (RO v.zv askS (r.1+1) (r.2+1) (.ref 21) (.ref 23) false many) sp' (pt1 v (r.2+1)) a j xs (stp.map (Mine.ren sel0)++[Mine.ren sel0 x]) (spanZ r.1 r.2 (nearZ r.2 no++[]))) (RH p t (RO v.zv askS st n .opq (.ref 21) true many) sp v a j xs (stp++[x]) [noneT])++new.map (mapO (bak sel0 kp 22))) =
    some ((RHx ((cmpL p 5).map (mapO (bak sel0 kp 22))) t (RO v.zv askS (r.1+1) (r.2+1) (.ref 22) (.ref 24) false many) (bak sel0 kp 22 sp') (pt1 v (r.2+1)) a j (xs.map (bak sel0 kp 22)) [] []).take 19++(.list (((tplOf t).map AV.int).map (bak sel0 kp 22))::.list ((stp.map (Mine.ren sel0)++[Mine.ren sel0 x]).map (bak sel0 kp 22))::noneT::spanG 1 r.1 r.2 no)) →
   Ex3 fun sp' stp' x'=>stp'.length=stp.length∧Con B (d+14) 20 [.ref 0] (RH p t (RO v.zv askS st n .opq (.ref 21) true many) sp v a j xs (stp++[x]) [noneT]) .none (RH p t (RO v.zv askS (r.1+1) (r.2+1) (.ref 22) (.ref 24) false many) sp' (pt1 v (r.2+1)) a j xs (stp'++[x']) (noneT::spanG 1 r.1 r.2 no)):=fun no kp hc hkp q2=>by
   refine ⟨bak sel0 kp 22 sp',(stp.map (Mine.ren sel0)).map (bak sel0 kp 22),bak sel0 kp 22 (Mine.ren sel0 x),by rw [List.length_map,List.length_map],?_⟩
   rw [aj (f:=bak sel0 kp 22) (fun z9=>rfl) (fun z9=>rfl) (fun z9=>rfl) p (k:=5) (k':=5) rfl (i8 ⟨rfl,rfl,rfl,rfl,rfl,rfl,rfl,rfl⟩),G.ren (bak sel0 kp 22) fun z9=>rfl,ac (bak sel0 kp 22) fun z9=>rfl,List.map_append (f:=bak sel0 kp 22)] at q2
   exact con B 90 _ _ [.go 12,.v (.int (stp.length+1:Nat)),.b true,.v x,.go 11,.b true,.s (some sel0),.go 1,.h (RH p t (RO v.zv askS st n .opq .opq true many) (Mine.ren sel0 sp) v a j xs (stp.map (Mine.ren sel0)++[Mine.ren sel0 x]) []),.c .none (RH p t (RO v.zv askS (r.1+1) (r.2+1) (.ref 21) (.ref 23) false many) sp' (pt1 v (r.2+1)) a j xs (stp.map (Mine.ren sel0)++[Mine.ren sel0 x]) (spanZ r.1 r.2 (nearZ r.2 no++[]))),.s (some kp),.b true,
     .h (RH p t (RO v.zv askS (r.1+1) (r.2+1) (.ref 22) (.ref 24) false many) (bak sel0 kp 22 sp') (pt1 v (r.2+1)) a j xs ((stp.map (Mine.ren sel0)).map (bak sel0 kp 22)++[bak sel0 kp 22 (Mine.ren sel0 x)]) (noneT::spanG 1 r.1 r.2 no))]
    (I2 (az (σ:=RH p t (RO v.zv askS st n .opq (.ref 21) true many) sp v a j xs (stp++[x]) [noneT]) (l:=20) rfl hlen) (I2 tI (I2 (ea (σ:=RH p t (RO v.zv askS st n .opq (.ref 21) true many) sp v a j xs (stp++[x]) [noneT]) (l:=20) (k:=((stp.length+1:Nat):Int) - 1) rfl (by exact au [_] [] (.eqI (.s (.c (.a N0 (.k 1))) (.k 1)) (.c N0)) [1] [1] rfl))
     (I2 tI (I2 q1 (I2 hc (I2 (congrArg some hkp) (I2 q2 trivial)))))))) (by kernel_rfl)
  revert hc
  show _→Ex3 fun sp' stp' x'=>_∧Con B (d+14) 20 _ _ _ (RH p t (RO v.zv askS (r.1+1) (r.2+1) (.ref 22) (.ref 24) false many) sp' (pt1 v (r.2+1)) a j xs (stp'++[x']) (noneT::spanG 1 r.1 r.2 (nearOf E r.1 r.2)))
  generalize nearOf E r.1 r.2=no
  intro hc
  cases no with
  | none=>exact fin none [21,22,23] hc rfl (by kernel_rfl)
  | some q=>exact fin (some q) [21,22,23,24,25] hc rfl (by kernel_rfl)
end
noncomputable abbrev sel2:List Nat:=[0,1,2,3,4,5,6,7,8,9,10,11,12,13,14,15,16,17,18,19,20,26,27]
noncomputable def stepP (s old:Nat):AO:=.inst 0 [(30,.int (s+1)),(31,.ref old),(32,.opq),(33,.bool true),(34,.opq),(35,.int 1)]
section
variable {B:Base} {d:Nat} {p:Pt} {t:Tm} {v:BV} {L own:List Int} {a j n s e e' q:Nat} {xs stp:List AV} {E:Nat→Option Nat} {sp x:AV} {st many:Int}
noncomputable abbrev atZ (s e q:Nat) (own:List Int):Hp:=[atT 22,.list [.ref 23],tt (e+1) (q+1),stepP s 25,cD own]
theorem nW {σ:Hp} {a b a' b':Int} (h:a=a') (h':b=b'):allocT [.int a,.int b] σ=some (.ref σ.length,σ++[tt a' b']):=by rw [h,h'];rfl
noncomputable abbrev at2 (p:Pt) (t:Tm) (v:BV) (a j:Nat) (xs stp:List AV) (sp:AV) (st many:Int) (s e e' q:Nat) (own:List Int):Hp:=RH p t (RO v.zv askS st (e'+1) .opq (.ref 21) true many) sp v a j xs (stp++[.ref 24]) (atZ s e q own++[.list [.ref 27],tt (e'+1) ((e'+(q - e):Nat)+1)])
theorem gK (G:GapN L a j xs) (hz:v.zv=L.length+1) (hL:L.length≤90) (hs:stp.length<1000) (ho:own.length=e - s) (h0:s≤e) (h1:e'<L.length) (h2:e<q) (h3:e'+(q - e)≤L.length) (hb:e≤1000) (hE:∀ d v' p2,v'.zv=v.zv→Finds B d p v' L a (a+j) p2 xs E) :
  ∃ sp' stp',stp'.length=stp.length+1∧∃ Z,Con B (d+14) 20 [.ref 0] (RH p t (RO v.zv askS st (e'+1) .opq (.ref 21) true many) sp v a j xs (stp++[.ref 24]) (atZ s e q own)) .none (HD p t E (atZ s e q own++Z) e' (e'+(q - e)) many sp' v a j xs stp')∧Z.length=0:=by
 obtain ⟨sp',hc⟩:=ja (d:=d+1) (t:=t) (stt:=askS) (st:=st) (en:=e'+1) (told:=.opq) (near:=.opq) (ir:=true) (many:=many) (sp:=Mine.ren sel2 sp) (stp:=stp.map (Mine.ren sel2)++[.opq]) (s:=e') (e:=e'+(q - e)) G hz hL (by exact ak [_,_] [] (.leN N0 (.a N0 N1)) [1] rfl) h3 (hE (d+1) v _ rfl)
 have hlen:(stp++[AV.ref 24]).length=stp.length+1:=by rw [List.length_append];rfl
 have q1:((pick (at2 p t v a j xs stp sp st many s e e' q own) sel2).map fun sub=>sub.map (mapO (Mine.ren sel2)))=some (RH p t (RO v.zv askS st (e'+1) .opq .opq true many) (Mine.ren sel2 sp) v a j xs (stp.map (Mine.ren sel2)++[.opq]) (spanZ e' (e'+(q - e)) [])):=by
  refine Eq.trans (b:=some ((RHx ((cmpL p 5).map (mapO (Mine.ren sel2))) t (RO v.zv askS st (e'+1) .opq .opq true many) (Mine.ren sel2 sp) v a j (xs.map (Mine.ren sel2)) [] []).take 19++[.list (((tplOf t).map AV.int).map (Mine.ren sel2)),.list ((stp++[AV.ref 24]).map (Mine.ren sel2)),.list [.ref 22],tt (e'+1) ((e'+(q - e):Nat)+1)])) (by kernel_rfl) ?_
  rw [aj (f:=Mine.ren sel2) (fun z9=>rfl) (fun z9=>rfl) (fun z9=>rfl) p (k:=5) (k':=5) rfl (i8 ⟨rfl,rfl,rfl,rfl,rfl,rfl,rfl,rfl⟩),G.ren (Mine.ren sel2) fun z9=>rfl,ac (Mine.ren sel2) fun z9=>rfl,List.map_append];rfl
 unfold HD
 unfold RM at hc
 have hsh:((e':Int)+1 - (s+1) - (e - s:Nat))=(e':Int) - e:=by exact aB [_,_,_,_] [] (.eqI (.s (.s (.a (.c N0) (.k 1)) (.a (.c N1) (.k 1))) (.c N2)) (.s (.c N0) (.c N3))) (.leN N3 (.a N2 N1)) (.eqN (.a N2 N1) N3) [1,1,0] [1,0,1] rfl (af _ _) (ab (h0))
 have fin:∀ (no:Option Nat) (kp:List Nat) (τ:Hp),Con B (d+12) 17 [.ref 0,.ref 22,.ref 21] (RH p t (RO v.zv askS st (e'+1) .opq .opq true many) (Mine.ren sel2 sp) v a j xs (stp.map (Mine.ren sel2)++[.opq]) (spanZ e' (e'+(q - e)) [])) .none τ →
  (ndB kp && kp.all fun k=>decide (23≤k))=true →
  ((pick τ kp).map fun new=>wback (bak sel2 kp 28) sel2 τ (at2 p t v a j xs stp sp st many s e e' q own)++new.map (mapO (bak sel2 kp 28)))=some ((RHx ((cmpL p 5).map (mapO (bak sel2 kp 28))) t (RO v.zv askS (e'+1) ((e'+(q - e):Nat)+1) (.ref 26) (.ref 28) false many) (bak sel2 kp 28 sp') (pt1 v ((e'+(q - e):Nat)+1)) a j (xs.map (bak sel2 kp 28)) [] []).take 19++(.list (((tplOf t).map AV.int).map (bak sel2 kp 28))::.list ((stp.map (Mine.ren sel2)++[AV.opq]).map (bak sel2 kp 28))::(atZ s e q own++spanG 5 e' (e'+(q - e)) no))) →
  ∃ sp' stp',stp'.length=stp.length+1∧∃ Z,Con B (d+14) 20 [.ref 0] (RH p t (RO v.zv askS st (e'+1) .opq (.ref 21) true many) sp v a j xs (stp++[.ref 24]) (atZ s e q own)) .none (RH p t (RO v.zv askS (e'+1) ((e'+(q - e):Nat)+1) (.ref ((atZ s e q own++Z).length+21)) (.ref ((atZ s e q own++Z).length+23)) false many) sp' (pt1 v ((e'+(q - e):Nat)+1)) a j xs stp' (atZ s e q own++Z++spanG (atZ s e q own++Z).length e' (e'+(q - e)) no))∧Z.length=0:=fun no kp τ hc hkp q2=>by
  refine ⟨bak sel2 kp 28 sp',(stp.map (Mine.ren sel2)++[AV.opq]).map (bak sel2 kp 28),by rw [List.length_map,List.length_append,List.length_map];rfl,[],?_,rfl⟩
  rw [aj (f:=bak sel2 kp 28) (fun z9=>rfl) (fun z9=>rfl) (fun z9=>rfl) p (k:=5) (k':=5) rfl (i8 ⟨rfl,rfl,rfl,rfl,rfl,rfl,rfl,rfl⟩),G.ren (bak sel2 kp 28) fun z9=>rfl,ac (bak sel2 kp 28) fun z9=>rfl] at q2
  have ta:=nW (σ:=RH p t (RO v.zv askS st (e'+1) .opq (.ref 21) true many) sp v a j xs (stp++[.ref 24]) (atZ s e q own++[.list []])) (a:=(e:Int)+1+((e':Int)+1 - (s+1) - (e - s:Nat))) (b:=(q:Int)+1+((e':Int)+1 - (s+1) - (e - s:Nat))) (a':=(e':Int)+1) (b':=((e'+(q - e):Nat):Int)+1) (by exact aK [_,_,_,_] [] (.eqI (.a (.a (.c N0) (.k 1)) (.s (.s (.a (.c N1) (.k 1)) (.a (.c N2) (.k 1))) (.c N3))) (.a (.c N1) (.k 1))) (.eqI (.s (.s (.a (.c N1) (.k 1)) (.a (.c N2) (.k 1))) (.c N3)) (.s (.c N1) (.c N0))) [1,1] [1,-1] rfl hsh) (by exact gT [_,_,_,_,_,_] [] (.eqI (.a (.a (.c N0) (.k 1)) (.s (.s (.a (.c N1) (.k 1)) (.a (.c N2) (.k 1))) (.c N3))) (.a (.c (.a N1 N4)) (.k 1))) (.eqI (.s (.s (.a (.c N1) (.k 1)) (.a (.c N2) (.k 1))) (.c N3)) (.s (.c N1) (.c N5))) (.leN N0 (.a N4 N5)) (.eqN (.a N4 N5) N0) [1,1,1,0] [1,-1,0,1] rfl hsh (af _ _) (ab (aa [_,_] [] (.leN N0 N1) (.ltN N0 N1) [1,1] rfl h2)))
  exact con B 90 _ _ [.go 12,.v (.int (stp.length+1:Nat)),.b true,.v (.ref 24),.go 11,.b false,.go 4,.b true,.go 2,.v (.int (e - s:Nat)),.b true,.go 9,.b true,.go 3,.b true,.vh (.ref 27) (RH p t (RO v.zv askS st (e'+1) .opq (.ref 21) true many) sp v a j xs (stp++[.ref 24]) (atZ s e q own++[.list [],tt (e'+1) ((e'+(q - e):Nat)+1)])),.go 8,.s (some sel2),.go 1,
    .h (RH p t (RO v.zv askS st (e'+1) .opq .opq true many) (Mine.ren sel2 sp) v a j xs (stp.map (Mine.ren sel2)++[.opq]) (spanZ e' (e'+(q - e)) [])),.c .none τ,.s (some kp),.b true,
    .h (RH p t (RO v.zv askS (e'+1) ((e'+(q - e):Nat)+1) (.ref 26) (.ref 28) false many) (bak sel2 kp 28 sp') (pt1 v ((e'+(q - e):Nat)+1)) a j xs ((stp.map (Mine.ren sel2)++[AV.opq]).map (bak sel2 kp 28)) (atZ s e q own++spanG 5 e' (e'+(q - e)) no))]
   (I2 (az (σ:=RH p t (RO v.zv askS st (e'+1) .opq (.ref 21) true many) sp v a j xs (stp++[.ref 24]) (atZ s e q own)) (l:=20) rfl hlen) (I2 tI (I2 (ea (σ:=RH p t (RO v.zv askS st (e'+1) .opq (.ref 21) true many) sp v a j xs (stp++[.ref 24]) (atZ s e q own)) (l:=20) (k:=((stp.length+1:Nat):Int) - 1) rfl (by exact au [_] [] (.eqI (.s (.c (.a N0 (.k 1))) (.k 1)) (.c N0)) [1] [1] rfl))
    (I2 (dF (p:=(e':Int)+1 ≥ v.zv) (by exact ag [_,_] [_] (.n (.leI J0 (.a (.c N0) (.k 1)))) (.eqI J0 (.a (.c N1) (.k 1))) (.ltN N0 N1) [1,-1,1] rfl hz h1)) (I2 tI (I2 (az (σ:=RH p t (RO v.zv askS st (e'+1) .opq (.ref 21) true many) sp v a j xs (stp++[.ref 24]) (atZ s e q own)) (l:=25) rfl ((List.length_map _).trans ho)) (I2 tI
    (I2 tI (I2 tI (I2 ta (I2 q1 (I2 hc (I2 (congrArg some hkp) (I2 q2 trivial)))))))))))))) (by kernel_rfl)
 revert hc
 generalize nearOf E e' (e'+(q - e))=no
 intro hc
 cases no with
 | none=>exact fin none [23] _ hc rfl (by kernel_rfl)
 | some q=>exact fin (some q) [23,24,25] _ hc rfl (by kernel_rfl)
end
set_option tactic.hygienic true in
theorem eO {σ:Hp}:∀ {l m:List Nat} {A C:Hp},pick σ l=some A→pick σ m=some C→pick σ (l++m)=some (A++C):=by
 intro l
 induction l with
 | nil=>intro m A C h h';apply s1Q h;exact h'
 | cons i l ih =>
  intro m A C h h'
  unfold pick at h
  split at h
  ·rename_i o ho
   split at h
   ·rename_i os hos
    apply s1Q h
    show (match σ[i]? with | some o=>(match pick σ (l++m) with | some os=>some (o::os) | none=>none) | none=>none)=_
    rw [ho,ih hos h'];rfl
   ·exact nS h
  ·exact nS h
theorem jd {m:List Nat} {x:Nat}:∀ {l:List Nat},(∀ y∈l,y≠x)→posOf (l++m) x=(posOf m x).map (·+l.length):=by
 intro l
 induction l with
 | nil=>intro _;show posOf m x=_;cases posOf m x <;> rfl
 | cons i l ih =>
  intro h
  show (if i=x then some 0 else (posOf (l++m) x).map (·+1))=_
  rw [if_neg (h i (List.mem_cons_self ..)),ih fun y hy=>h y (List.mem_cons_of_mem _ hy)]
  cases posOf m x <;> rfl
theorem je {g x:Nat}:∀ {l:List Nat},posOf (l.map fun k=>g+(k+21)) (g+(x+21))=posOf l x:=by
 intro l
 induction l with
 | nil=>rfl
 | cons i l ih =>
  show (if g+(i+21)=g+(x+21) then some 0 else (posOf (l.map fun k=>g+(k+21)) (g+(x+21))).map (·+1))=(if i=x then some 0 else (posOf l x).map (·+1))
  rw [ih]
  by_cases h:i=x
  ·rw [if_pos (by exact aK [_,_,_] [] (.eqN (.a N0 (.a N1 (.k 21))) (.a N0 (.a N2 (.k 21)))) (.eqN N1 N2) [1,1] [1,-1] rfl h),if_pos h]
  ·rw [if_neg (by omega),if_neg h]
theorem fZ:∀ y∈sel0,y<21:=by decide
noncomputable def selG (g:Nat) (ks:List Nat):List Nat:=sel0++ks.map fun k=>g+(k+21)
theorem mT {g k:Nat} {ks:List Nat}:posOf (selG g ks) (g+(k+21))=(posOf ks k).map (·+21):=by
 unfold selG
 rw [jd fun y hy=>by have:=fZ y hy;omega,je];rfl
theorem cf {g k m:Nat} {ks:List Nat} (h:posOf ks k=some m):Mine.ren (selG g ks) (.ref (g+(k+21)))=.ref (m+21):=by
 show (match posOf (selG g ks) (g+(k+21)) with | some i=>AV.ref i | none=>.opq)=_
 rw [mT,h];rfl
theorem kK {g k:Nat} {ks:List Nat} (h:posOf ks k=none):Mine.ren (selG g ks) (.ref (g+(k+21)))=.opq:=by
 show (match posOf (selG g ks) (g+(k+21)) with | some i=>AV.ref i | none=>.opq)=_
 rw [mT,h];rfl
theorem lV:∀ {l:List Nat},l.Nodup→ndB l=true:=by
 have hp:∀ {l:List Nat} {a:Nat},a ∉ l→posOf l a=none:=by
  intro l
  induction l with
  | nil=>intro a _;rfl
  | cons b l ih =>
   intro a h
   show (if b=a then some 0 else (posOf l a).map (·+1))=none
   rw [if_neg (fun e:b=a=>h (by rw [e];exact List.mem_cons_self ..)),ih fun h'=>h (List.mem_cons_of_mem _ h')];rfl
 intro l
 induction l with
 | nil=>intro _;rfl
 | cons a l ih =>
  intro h
  rw [List.nodup_cons] at h
  show ((posOf l a).isNone && ndB l)=true
  rw [hp h.1,ih h.2];rfl
theorem ndG {g:Nat} {ks:List Nat} (h:ks.Nodup):ndB (selG g ks)=true:=by
 refine lV (List.nodup_append.mpr ⟨by decide,?_,?_⟩)
 ·exact List.Pairwise.map _ (fun a b hab=>by omega) h
 ·intro a ha b hb e
  have:=fZ a ha
  obtain ⟨k,_,rfl⟩:=List.mem_map.mp hb
  exact ag [_,_,_] [] .f (.ltN N0 (.k 21)) (.eqN N0 (.a N1 (.a N2 (.k 21)))) [0,1,-1] rfl this e
section
variable {p:Pt} {t:Tm} {zb st en many zb' st' en' many':Int} {stt told near sp stt' told' near' sp':AV} {ir ir':Bool} {v v':BV} {a j a' j':Nat} {xs stp xs' stp':List AV} {G N Z:Hp} {ks kp:List Nat}
theorem atG {ro:AO} {k:Nat}:(RH p t ro sp v a j xs stp (G++N))[G.length+(k+21)]?=N[k]?:=by
 show (G++N)[G.length+k]?=N[k]?
 rw [List.getElem?_append_right (Nat.le_add_right _ _),Nat.add_sub_cancel_left]
theorem mU {ro:AO}:∀ {ks:List Nat},pick (RH p t ro sp v a j xs stp (G++N)) (ks.map fun k=>G.length+(k+21))=pick N ks:=by
 intro ks
 induction ks with
 | nil=>rfl
 | cons k ks ih =>
  show (match (RH p t ro sp v a j xs stp (G++N))[G.length+(k+21)]? with | some o=>(match pick (RH p t ro sp v a j xs stp (G++N)) (ks.map fun k=>G.length+(k+21)) with | some os=>some (o::os) | none=>none) | none=>none)=_
  rw [atG,ih];rfl
theorem toG {os:Hp} (h:pick N ks=some os) (hx:xs.map (Mine.ren (selG G.length ks))=xs) :
  ((pick (RH p t (RO zb stt st en told near ir many) sp v a j xs stp (G++N)) (selG G.length ks)).map fun sub=>sub.map (mapO (Mine.ren (selG G.length ks)))) =
   some (RH p t (RO zb (Mine.ren (selG G.length ks) stt) st en (Mine.ren (selG G.length ks) told) (Mine.ren (selG G.length ks) near) ir many) (Mine.ren (selG G.length ks) sp) v a j xs (stp.map (Mine.ren (selG G.length ks))) (os.map (mapO (Mine.ren (selG G.length ks))))):=by
 have h1:pick (RH p t (RO zb stt st en told near ir many) sp v a j xs stp (G++N)) sel0=some (RH p t (RO zb stt st en told near ir many) sp v a j xs stp []):=rfl
 have h2:pick (RH p t (RO zb stt st en told near ir many) sp v a j xs stp (G++N)) (selG G.length ks)=some (RH p t (RO zb stt st en told near ir many) sp v a j xs stp []++os):=eO h1 (mU.trans h)
 rw [h2]
 show some ((RH p t (RO zb stt st en told near ir many) sp v a j xs stp []++os).map (mapO (Mine.ren (selG G.length ks))))=_
 rw [List.map_append]
 have h3:(RH p t (RO zb stt st en told near ir many) sp v a j xs stp []).map (mapO (Mine.ren (selG G.length ks)))=(RHx ((cmpL p 5).map (mapO (Mine.ren (selG G.length ks)))) t (RO zb (Mine.ren (selG G.length ks) stt) st en (Mine.ren (selG G.length ks) told) (Mine.ren (selG G.length ks) near) ir many) (Mine.ren (selG G.length ks) sp) v a j (xs.map (Mine.ren (selG G.length ks))) [] []).take 19++[.list (((tplOf t).map AV.int).map (Mine.ren (selG G.length ks))),.list (stp.map (Mine.ren (selG G.length ks)))]:=by
  kernel_rfl
 rw [h3,aj (f:=Mine.ren (selG G.length ks)) (fun z9=>rfl) (fun z9=>rfl) (fun z9=>rfl) p (k:=5) (k':=5) rfl (i8 ⟨rfl,rfl,rfl,rfl,rfl,rfl,rfl,rfl⟩),hx,ac (Mine.ren (selG G.length ks)) fun z9=>rfl];rfl
theorem nX {ro:AO} {k:Nat} {o:AO}:(RH p t ro sp v a j xs stp (G++N)).set (G.length+(k+21)) o=RH p t ro sp v a j xs stp (G++N.set k o):=by
 show RH p t ro sp v a j xs stp ((G++N).set (G.length+k) o)=_
 rw [List.set_append_right _ _ (Nat.le_add_right _ _),Nat.add_sub_cancel_left]
theorem lW {ro:AO} {f:AV→AV}:∀ {ks:List Nat} {Z N:Hp},wback f (ks.map fun k=>G.length+(k+21)) Z (RH p t ro sp v a j xs stp (G++N))=RH p t ro sp v a j xs stp (G++wback f ks Z N):=by
 intro ks
 induction ks with
 | nil=>intro Z N;rfl
 | cons k ks ih =>
  intro Z N
  cases Z with
  | nil=>rfl
  | cons o Z =>
   show wback f (ks.map fun k=>G.length+(k+21)) Z ((RH p t ro sp v a j xs stp (G++N)).set (G.length+(k+21)) (mapO f o))=_
   rw [nX,ih];rfl
theorem ofG {n:Nat} {new:Hp} (h:pick (RH p t (RO zb' stt' st' en' told' near' ir' many') sp' v' a' j' xs' stp' Z) kp=some new) (hx:xs'.map (bak (selG G.length ks) kp n)=xs') :
  ((pick (RH p t (RO zb' stt' st' en' told' near' ir' many') sp' v' a' j' xs' stp' Z) kp).map fun new=>wback (bak (selG G.length ks) kp n) (selG G.length ks) (RH p t (RO zb' stt' st' en' told' near' ir' many') sp' v' a' j' xs' stp' Z) (RH p t (RO zb stt st en told near ir many) sp v a j xs stp (G++N))++new.map (mapO (bak (selG G.length ks) kp n))) =
   some (RH p t (RO zb' (bak (selG G.length ks) kp n stt') st' en' (bak (selG G.length ks) kp n told') (bak (selG G.length ks) kp n near') ir' many') (bak (selG G.length ks) kp n sp') v' a' j' xs' (stp'.map (bak (selG G.length ks) kp n)) (G++(wback (bak (selG G.length ks) kp n) ks Z N++new.map (mapO (bak (selG G.length ks) kp n))))):=by
 rw [h]
 have h3:wback (bak (selG G.length ks) kp n) (selG G.length ks) (RH p t (RO zb' stt' st' en' told' near' ir' many') sp' v' a' j' xs' stp' Z) (RH p t (RO zb stt st en told near ir many) sp v a j xs stp (G++N)) =
   wback (bak (selG G.length ks) kp n) (ks.map fun k=>G.length+(k+21)) Z ((RHx ((cmpL p 5).map (mapO (bak (selG G.length ks) kp n))) t (RO zb' (bak (selG G.length ks) kp n stt') st' en' (bak (selG G.length ks) kp n told') (bak (selG G.length ks) kp n near') ir' many') (bak (selG G.length ks) kp n sp') v' a' j' (xs'.map (bak (selG G.length ks) kp n)) [] []).take 19++.list (((tplOf t).map AV.int).map (bak (selG G.length ks) kp n))::.list (stp'.map (bak (selG G.length ks) kp n))::(G++N)):=by
  kernel_rfl
 show some (wback _ _ _ _++_)=_
 rw [h3,aj (f:=bak (selG G.length ks) kp n) (fun z9=>rfl) (fun z9=>rfl) (fun z9=>rfl) p (k:=5) (k':=5) rfl (i8 ⟨rfl,rfl,rfl,rfl,rfl,rfl,rfl,rfl⟩),hx,ac (bak (selG G.length ks) kp n) fun z9=>rfl]
 show some (wback _ _ Z (RH p t (RO zb' (bak (selG G.length ks) kp n stt') st' en' (bak (selG G.length ks) kp n told') (bak (selG G.length ks) kp n near') ir' many') (bak (selG G.length ks) kp n sp') v' a' j' xs' (stp'.map (bak (selG G.length ks) kp n)) (G++N))++_)=_
 rw [lW]
 show some (RH p t _ _ _ _ _ _ _ ((G++_)++_))=_
 rw [List.append_assoc]
theorem lX {ro:AO}:(RH p t ro sp v a j xs stp (G++N)).length=G.length+(N.length+21):=by
 show (G++N).length+21=_
 rw [List.length_append,Nat.add_assoc]
end
noncomputable def paC:T:=match b_Replacing_put_all.body with | [.nd _ _ _ [c,_]]=>c | _=>K .none
noncomputable def paB:List T:=match b_Replacing_put_all.body with | [.nd _ _ _ [_,b]]=>kids b | _=>[]
noncomputable def lapL (t:Tm) (L:List Int) (s e:Nat):List Int:=L.take s++newOf t (sub L s e)++L.drop e
noncomputable def runL (E:List Int→Nat→Option Nat) (t:Tm):Nat→List Int→Nat→Nat→Nat→Option (List Int×Nat)
 | 0,_,_,_,_=>none
 | f+1,L,s,e,m=>if (lapL t L s e).length≤90 then (match nearOf (E L) s e with
   | some q=>runL E t f (lapL t L s e) (s+(newOf t (sub L s e)).length) (s+(newOf t (sub L s e)).length+(q - e)) (m+1)
   | none=>match lookR (E (lapL t L s e)) (lapL t L s e) (s+(newOf t (sub L s e)).length+1) with
    | none=>some (lapL t L s e,m+1)
    | some r=>runL E t f (lapL t L s e) r.1 r.2 (m+1)) else none
structure Finder (B:Base) (p:Pt) (E:List Int→Nat→Option Nat):Prop where
 fnd:∀ {L:List Int} {a j:Nat} {xs:List AV},GapN L a j xs→L.length≤90→∀ d (v:BV) p2,v.zv=L.length+1→Finds B d p v L a (a+j) p2 xs (E L)
 inn:∀ L,InText (E L) L.length
section
variable {B:Base} {d:Nat} {p:Pt} {t:Tm} {zb st en many zb1 st1 en1 many1:Int} {stt told near sp stt1 told1 near1 sp1:AV} {ir ir1:Bool} {v v1:BV} {a j a1 j1:Nat} {xs stp xs1 stp1:List AV} {Z Z1 σ2 σ':Hp} {w:Fw} {fr':Fm}
inductive CallI (B:Base) (d f g:Nat) (σ σ1:Hp):Prop | mk (ks kp:List Nat) (X X':Hp) (h0:ndB (selG g ks)=true) (h1:((pick σ (selG g ks)).map fun sub=>sub.map (mapO (Mine.ren (selG g ks))))=some X) (h2:Con B d f [.ref 0] X .none X') (h3:(ndB kp && kp.all fun k=>decide ((selG g ks).length≤k))=true) (h4:((pick X' kp).map fun new=>wback (bak (selG g ks) kp σ.length) (selG g ks) X' σ++new.map (mapO (bak (selG g ks) kp σ.length)))=some σ1):CallI B d f g σ σ1
theorem lap {g1 g2:Nat} (h1:CallI B (d+14) 19 g1 (RH p t (RO zb askS st en told near ir many) sp v a j xs stp Z) (RH p t (RO zb1 stt1 st1 en1 told1 near1 ir1 many1) sp1 v1 a1 j1 xs1 stp1 Z1))
  (h2:CallI B (d+14) 20 g2 (RH p t (RO zb1 stt1 st1 en1 told1 near1 ir1 many1) sp1 v1 a1 j1 xs1 stp1 Z1) σ2)
  (h3:ConW B (d+14) paC paB [some (.ref 0)] σ2 w fr' σ'):ConW B (d+14) paC paB [some (.ref 0)] (RH p t (RO zb askS st en told near ir many) sp v a j xs stp Z) w fr' σ':=by
 obtain ⟨ks1,kp1,X1,X1',hn1,c1,k1,hk1,c2⟩:=h1
 obtain ⟨ks2,kp2,X2,X2',hn2,c3,k2,hk2,c4⟩:=h2
 exact aQ B 60 _ _ _ [.go 6,.s (some (selG g1 ks1)),.b true,.h X1,.c .none X1',.s (some kp1),.b true,.h (RH p t (RO zb1 stt1 st1 en1 told1 near1 ir1 many1) sp1 v1 a1 j1 xs1 stp1 Z1),.go 2,.s (some (selG g2 ks2)),.b true,.h X2,.c .none X2',.s (some kp2),.b true,.h σ2,.l w fr' σ']
  (I2 (congrArg some hn1) (I2 c1 (I2 k1 (I2 (congrArg some hk1) (I2 c2 (I2 (congrArg some hn2) (I2 c3 (I2 k2 (I2 (congrArg some hk2) (I2 c4 (I2 (@h3) trivial))))))))))) (by kernel_rfl)
theorem jf:ConW B (d+14) paC paB [some (.ref 0)] (RH p t (RO zb doneS st en told near ir many) sp v a j xs stp Z) .next [some (.ref 0)] (RH p t (RO zb doneS st en told near ir many) sp v a j xs stp Z) :=
 aQ B 60 _ _ _ [] trivial (by kernel_rfl)
end
section
variable {B:Base} {d:Nat} {p:Pt} {t:Tm} {m:Nat} {sp:AV} {v:BV} {a j s e:Nat} {xs stp:List AV} {L:List Int} {E:List Int→Nat→Option Nat} {Gg:Hp}
noncomputable abbrev dL (t:Tm) (L:List Int) (s e:Nat):Nat:=(newOf t (sub L s e)).length
theorem dm (h1:s≤e) (h2:e≤L.length):(lapL t L s e).length=L.length - (e - s)+dL t L s e:=by
 unfold lapL
 rw [List.length_append,List.length_append,List.length_take,List.length_drop]
 unfold dL;exact cy [_,_,_,_,_,_,_,_] [] (.eqN (.a (.a N0 N1) N2) (.a N3 N1)) (.leN N0 N4) (.leN N5 (.a N2 N6)) (.leN N6 (.a N7 N4)) (.leN N5 (.a N3 N7)) (.eqN N0 N4) (.eqN (.a N2 N6) N5) (.eqN (.a N7 N4) N6) (.eqN (.a N3 N7) N5) [1,1,0,0,1,0,1,1,0] [1,0,1,1,0,-1,0,0,1] rfl (Nat.min_le_left _ _) (af _ _) (af _ _) (af _ _) (Nat.min_eq_left (ag [_,_,_] [] (.leN N0 N1) (.leN N0 N2) (.leN N2 N1) [1,1,1] rfl h1 h2)) (ab (h2)) (ab (h1)) (ab (ag [_,_,_] [] (.leN N0 N1) (.leN N2 N1) (.leN N0 N2) [1,1,1] rfl h2 (Nat.sub_le _ _)))
structure Inv (L:List Int) (v:BV) (a j:Nat) (xs stp:List AV) (m k:Nat):Prop where
 gap:GapN L a j xs
 zv:v.zv=L.length+1
 len:L.length≤90
 tk:0≤v.tk∧v.tk+k≤900000
 stp:stp.length+k≤900
 m:m+k≤900
 cells:L.length+j≤3000
noncomputable def Lap (B:Base) (d:Nat) (p:Pt) (t:Tm) (E:List Int→Nat→Option Nat) (L':List Int) (m k:Nat) (σ:Hp):Option (Nat×Nat)→Prop
 | none=>∃ (v1:BV) (a1 j1:Nat) (xs1:List AV) (sp':AV) (st' en':Int) (tl nr:AV) (ir:Bool) (stp':List AV) (Z':Hp),GapN L' a1 j1 xs1∧v1.zv=(L'.length:Int)+1∧L'.length+j1≤3000∧ConW B (d+14) paC paB [some (.ref 0)] σ .next [some (.ref 0)] (RH p t (RO v1.zv doneS st' en' tl nr ir (m+1:Nat)) sp' v1 a1 j1 xs1 stp' Z')
 | some r=>∃ (v1:BV) (a1 j1:Nat) (xs1:List AV) (sp':AV) (stp':List AV) (G':Hp),Inv L' v1 a1 j1 xs1 stp' (m+1) k∧∀ {w fr' σ'},ConW B (d+14) paC paB [some (.ref 0)] (HD p t (E L') G' r.1 r.2 (m+1:Nat) sp' v1 a1 j1 xs1 stp') w fr' σ'→ConW B (d+14) paC paB [some (.ref 0)] σ w fr' σ'
noncomputable abbrev PN (p:Pt) (t:Tm) (G:Hp) (s e2 m:Nat) (sp:AV) (v:BV) (a j:Nat) (xs stp:List AV) (N:Hp):Hp :=
 RH p t (RO v.zv askS (s+1) (e2:Nat) (.ref (G.length+21)) (.ref (G.length+23)) true (m+1:Nat)) sp v a j xs stp (G++N)
theorem nY {k:Nat} (I:Inv L v a j xs stp m (k+1)) (h1:s≤e) (h2:e≤L.length) (h90:(lapL t L s e).length≤90) (hno:nearOf (E L) s e=none) :
  Ex6 fun v1 a1 j1 xs1 sp1 stp1=>Inv (lapL t L s e) v1 a1 j1 xs1 stp1 (m+1) k∧CallI B (d+14) 19 Gg.length (HD p t (E L) Gg s e m sp v a j xs stp) (PN p t Gg s (s+dL t L s e+1) m sp1 v1 a1 j1 xs1 stp1 (spanG Gg.length s e none))∧0<stp1.length:=by
 obtain ⟨G,hz,hL,⟨k1,k2⟩,hs,hm,hc⟩:=I
 have hlen:=dm (t:=t) h1 h2
 have hD:=aN (t:=t) (own:=sub L s e)
 have hown:(sub L s e).length=e - s:=by unfold sub;rw [List.length_take,List.length_drop];exact (Nat.min_eq_left (aq [_,_,_,_,_] [] (.leN N0 N1) (.leN N2 N3) (.leN N3 (.a N1 N4)) (.eqN (.a N0 N4) N2) [1,1,1,1] rfl h2 (af _ _) (ab (h1))))
 obtain ⟨v1,a1,j1,xs1,hC,hp1⟩:=dz (B:=B) (d:=d+6) (p:=p) (t:=t) (v:=pt1 v (e+1)) (sp:=Mine.ren (selG Gg.length [0,1,2]) sp) (stp:=stp.map (Mine.ren (selG Gg.length [0,1,2]))) (many:=m) G hz hL h1 h2 rfl k1 (by show v.tk≤_;exact aa [_] [_] (.leI J0 (.k 1000000)) (.leI (.a J0 (.c (.a N0 (.k 1)))) (.k 900000)) [1,1] rfl k2) (by rw [List.length_map];exact aa [_,_] [] (.ltN N0 (.k 1000)) (.leN (.a N0 (.a N1 (.k 1))) (.k 900)) [1,1] rfl hs) ⟨by exact ak [_] [] (.leI (.k 0) (.c N0)) [1] rfl,by exact aa [_,_] [] (.leI (.c N0) (.k 1000000)) (.leN (.a N0 (.a N1 (.k 1))) (.k 900)) [1,1] rfl hm⟩
 have hz1:v1.zv=(lapL t L s e).length+1:=hC.zv
 have hG1:GapN (lapL t L s e) a1 j1 xs1:=hC.gap
 have ht1:0≤v1.tk∧v1.tk≤v.tk+1:=hC.tk
 have hM1:(lapL t L s e).length+j1≤max (L.length+j) (L.length+dL t L s e+8):=hC.lim
 have c1:((pick (HD p t (E L) Gg s e m sp v a j xs stp) (selG Gg.length [0,1,2])).map fun sub=>sub.map (mapO (Mine.ren (selG Gg.length [0,1,2]))))=some (RH p t (RO v.zv askS (s+1) (e+1) (.ref 21) (.ref 23) false m) (Mine.ren (selG Gg.length [0,1,2]) sp) (pt1 v (e+1)) a j xs (stp.map (Mine.ren (selG Gg.length [0,1,2]))) (spanZ s e [noneT])):=by
  unfold HD
  rw [hno]
  refine (toG (ks:=[0,1,2]) (N:=spanG Gg.length s e none) (os:=spanG Gg.length s e none) rfl (G.ren _ fun z9=>rfl)).trans ?_
  show some (RH p t (RO v.zv askS (s+1) (e+1) (Mine.ren (selG Gg.length [0,1,2]) (.ref (Gg.length+(0+21)))) (Mine.ren (selG Gg.length [0,1,2]) (.ref (Gg.length+(2+21)))) false m) _ _ a j xs _ [.list [Mine.ren (selG Gg.length [0,1,2]) (.ref (Gg.length+(1+21)))],tt (s+1) (e+1),noneT])=_
  rw [cf (m:=0) rfl,cf (m:=2) rfl,cf (m:=1) rfl]
 refine ⟨pt1 v1 (s+dL t L s e+1),a1,j1,xs1,.ref (Gg.length+21),(stp.map (Mine.ren (selG Gg.length [0,1,2]))++[AV.ref 26]).map (bak (selG Gg.length [0,1,2]) [] (HD p t (E L) Gg s e m sp v a j xs stp).length),⟨hG1,hz1,h90,?_,?_,by exact aa [_,_] [] (.leN (.a (.a N0 (.k 1)) N1) (.k 900)) (.leN (.a N0 (.a N1 (.k 1))) (.k 900)) [1,1] rfl hm,by exact (Nat.le_total ((L.length)+(j)) (((L.length)+(dL t L s e))+8)).elim (fun hq0=>bS [_,_,_,_,_,_] [] (.leN (.a N0 N1) (.k 3000)) (.leN N0 (.k 90)) (.leN N2 (.k 90)) (.eqN N0 (.a N3 N4)) (.leN (.a N0 N1) N5) (.eqN N5 (.a (.a N2 N4) (.k 8))) [1,1,1,-1,1,1] rfl h90 hL hlen hM1 (Nat.max_eq_right (hq0))) (fun hq0=>aq [_,_,_,_,_] [] (.leN (.a N0 N1) (.k 3000)) (.leN (.a N2 N3) (.k 3000)) (.leN (.a N0 N1) N4) (.eqN N4 (.a N2 N3)) [1,1,1,1] rfl hc hM1 (Nat.max_eq_left (hq0)))⟩,⟨[0,1,2],[],_,_,ndG (by decide),c1,hp1,rfl,?_⟩,?_⟩
 ·exact ⟨ht1.1,by show v1.tk+k≤_;exact ag [_] [_,_] (.leI (.a J0 (.c N0)) (.k 900000)) (.leI (.a J1 (.c (.a N0 (.k 1)))) (.k 900000)) (.leI J0 (.a J1 (.k 1))) [1,1,1] rfl k2 ht1.2⟩
 ·rw [List.length_map,List.length_append,List.length_map];show stp.length+1+k≤_;exact aa [_,_] [] (.leN (.a (.a N0 (.k 1)) N1) (.k 900)) (.leN (.a N0 (.a N1 (.k 1))) (.k 900)) [1,1] rfl hs
 ·unfold HD
  rw [hno]
  exact (ofG (ks:=[0,1,2]) (kp:=[]) (G:=Gg) (N:=spanG Gg.length s e none) (new:=[]) rfl (hG1.ren _ fun z9=>rfl)).trans (by kernel_rfl)
 ·rw [List.length_map,List.length_append];exact Nat.succ_pos _
noncomputable def stepQ (g s:Nat) (told:AV):AO:=.inst 0 [(30,.int (s+1)),(31,.ref (g+(6+21))),(32,.opq),(33,.bool true),(34,told),(35,.int 1)]
theorem nZ {k q:Nat} (I:Inv L v a j xs stp m (k+1)) (h1:s≤e) (h2:e≤L.length) (h90:(lapL t L s e).length≤90) (hno:nearOf (E L) s e=some q) :
  Ex6 fun v1 a1 j1 xs1 sp1 stp1=>Inv (lapL t L s e) v1 a1 j1 xs1 (stp1++[.ref (Gg.length+(5+21))]) (m+1) k∧CallI B (d+14) 19 Gg.length (HD p t (E L) Gg s e m sp v a j xs stp) (PN p t Gg s (s+dL t L s e+1) m sp1 v1 a1 j1 xs1 (stp1++[.ref (Gg.length+(5+21))]) (spanG Gg.length s e (some q)++[stepQ Gg.length s (.ref (Gg.length+21)),cD (sub L s e)])):=by
 obtain ⟨G,hz,hL,⟨k1,k2⟩,hs,hm,hc⟩:=I
 have hlen:=dm (t:=t) h1 h2
 have hD:=aN (t:=t) (own:=sub L s e)
 have hown:(sub L s e).length=e - s:=by unfold sub;rw [List.length_take,List.length_drop];exact (Nat.min_eq_left (aq [_,_,_,_,_] [] (.leN N0 N1) (.leN N2 N3) (.leN N3 (.a N1 N4)) (.eqN (.a N0 N4) N2) [1,1,1,1] rfl h2 (af _ _) (ab (h1))))
 obtain ⟨v1,a1,j1,xs1,hC,hp1⟩:=dA (B:=B) (d:=d+6) (p:=p) (t:=t) (v:=pt1 v (e+1)) (q:=q) (sp:=Mine.ren (selG Gg.length [0,1,2,3,4]) sp) (stp:=stp.map (Mine.ren (selG Gg.length [0,1,2,3,4]))) (many:=m) G hz hL h1 h2 rfl k1 (by show v.tk≤_;exact aa [_] [_] (.leI J0 (.k 1000000)) (.leI (.a J0 (.c (.a N0 (.k 1)))) (.k 900000)) [1,1] rfl k2) (by rw [List.length_map];exact aa [_,_] [] (.ltN N0 (.k 1000)) (.leN (.a N0 (.a N1 (.k 1))) (.k 900)) [1,1] rfl hs) ⟨by exact ak [_] [] (.leI (.k 0) (.c N0)) [1] rfl,by exact aa [_,_] [] (.leI (.c N0) (.k 1000000)) (.leN (.a N0 (.a N1 (.k 1))) (.k 900)) [1,1] rfl hm⟩
 have hz1:v1.zv=(lapL t L s e).length+1:=hC.zv
 have hG1:GapN (lapL t L s e) a1 j1 xs1:=hC.gap
 have ht1:0≤v1.tk∧v1.tk≤v.tk+1:=hC.tk
 have hM1:(lapL t L s e).length+j1≤max (L.length+j) (L.length+dL t L s e+8):=hC.lim
 have c1:((pick (HD p t (E L) Gg s e m sp v a j xs stp) (selG Gg.length [0,1,2,3,4])).map fun sub=>sub.map (mapO (Mine.ren (selG Gg.length [0,1,2,3,4]))))=some (RH p t (RO v.zv askS (s+1) (e+1) (.ref 21) (.ref 23) false m) (Mine.ren (selG Gg.length [0,1,2,3,4]) sp) (pt1 v (e+1)) a j xs (stp.map (Mine.ren (selG Gg.length [0,1,2,3,4]))) (spanZ s e [atT 24,.list [.ref 25],tt (e+1) (q+1)])):=by
  unfold HD
  rw [hno]
  refine (toG (ks:=[0,1,2,3,4]) (N:=spanG Gg.length s e (some q)) (os:=spanG Gg.length s e (some q)) rfl (G.ren _ fun z9=>rfl)).trans ?_
  show some (RH p t (RO v.zv askS (s+1) (e+1) (Mine.ren (selG Gg.length [0,1,2,3,4]) (.ref (Gg.length+(0+21)))) (Mine.ren (selG Gg.length [0,1,2,3,4]) (.ref (Gg.length+(2+21)))) false m) _ _ a j xs _ [.list [Mine.ren (selG Gg.length [0,1,2,3,4]) (.ref (Gg.length+(1+21)))],tt (s+1) (e+1),.tup [.str [97,116],Mine.ren (selG Gg.length [0,1,2,3,4]) (.ref (Gg.length+(3+21)))],.list [Mine.ren (selG Gg.length [0,1,2,3,4]) (.ref (Gg.length+(4+21)))],tt (e+1) (q+1)])=_
  rw [cf (m:=0) rfl,cf (m:=2) rfl,cf (m:=1) rfl,cf (m:=3) rfl,cf (m:=4) rfl];rfl
 have hn:(HD p t (E L) Gg s e m sp v a j xs stp).length=Gg.length+(5+21):=by
  unfold HD;rw [hno];exact lX
 refine ⟨pt1 v1 (s+dL t L s e+1),a1,j1,xs1,.ref (Gg.length+21),(stp.map (Mine.ren (selG Gg.length [0,1,2,3,4]))).map (bak (selG Gg.length [0,1,2,3,4]) [28,26] (Gg.length+(5+21))),⟨hG1,hz1,h90,?_,?_,by exact aa [_,_] [] (.leN (.a (.a N0 (.k 1)) N1) (.k 900)) (.leN (.a N0 (.a N1 (.k 1))) (.k 900)) [1,1] rfl hm,by exact (Nat.le_total ((L.length)+(j)) (((L.length)+(dL t L s e))+8)).elim (fun hq0=>bS [_,_,_,_,_,_] [] (.leN (.a N0 N1) (.k 3000)) (.leN N0 (.k 90)) (.leN N2 (.k 90)) (.eqN N0 (.a N3 N4)) (.leN (.a N0 N1) N5) (.eqN N5 (.a (.a N2 N4) (.k 8))) [1,1,1,-1,1,1] rfl h90 hL hlen hM1 (Nat.max_eq_right (hq0))) (fun hq0=>aq [_,_,_,_,_] [] (.leN (.a N0 N1) (.k 3000)) (.leN (.a N2 N3) (.k 3000)) (.leN (.a N0 N1) N4) (.eqN N4 (.a N2 N3)) [1,1,1,1] rfl hc hM1 (Nat.max_eq_left (hq0)))⟩,⟨[0,1,2,3,4],[28,26],_,_,ndG (by decide),c1,hp1,rfl,?_⟩⟩
 ·exact ⟨ht1.1,by show v1.tk+k≤_;exact ag [_] [_,_] (.leI (.a J0 (.c N0)) (.k 900000)) (.leI (.a J1 (.c (.a N0 (.k 1)))) (.k 900000)) (.leI J0 (.a J1 (.k 1))) [1,1,1] rfl k2 ht1.2⟩
 ·rw [List.length_append,List.length_map,List.length_map];show stp.length+1+k≤_;exact aa [_,_] [] (.leN (.a (.a N0 (.k 1)) N1) (.k 900)) (.leN (.a N0 (.a N1 (.k 1))) (.k 900)) [1,1] rfl hs
 ·rw [hn]
  unfold HD
  rw [hno]
  refine (ofG (ks:=[0,1,2,3,4]) (kp:=[28,26]) (G:=Gg) (N:=spanG Gg.length s e (some q)) (new:=[stepO s 26 (.ref 21),cD (sub L s e)]) rfl (hG1.ren _ fun z9=>rfl)).trans ?_
  rw [List.map_append]
  refine Eq.trans (b:=some (PN p t Gg s (s+dL t L s e+1) m (.ref (Gg.length+21)) (pt1 v1 (s+dL t L s e+1)) a1 j1 xs1 ((stp.map (Mine.ren (selG Gg.length [0,1,2,3,4]))).map (bak (selG Gg.length [0,1,2,3,4]) [28,26] (Gg.length+(5+21)))++[.ref (Gg.length+(5+21))]) (spanG Gg.length s e (some q)++[stepQ Gg.length s (.ref (Gg.length+21)),.list (((sub L s e).map AV.int).map (bak (selG Gg.length [0,1,2,3,4]) [28,26] (Gg.length+(5+21))))]))) (by kernel_rfl) ?_
  rw [ac (bak (selG Gg.length [0,1,2,3,4]) [28,26] (Gg.length+(5+21))) fun z9=>rfl]
noncomputable def GoOn (B:Base) (d:Nat) (p:Pt) (t:Tm) (E:List Int→Nat→Option Nat) (L:List Int) (g m:Nat) (v:BV) (a j:Nat) (xs:List AV) (n:Nat) (σ:Hp):Option (Nat×Nat)→Prop
 | none=>Ex8 fun (sp':AV) (st' en':Int) (tl nr:AV) (ir:Bool) (stp':List AV) (Z':Hp)=>CallI B (d+14) 20 g σ (RH p t (RO v.zv doneS st' en' tl nr ir (m+1:Nat)) sp' v a j xs stp' Z')
 | some r=>Ex3 fun (sp':AV) (stp':List AV) (G':Hp)=>stp'.length=n∧CallI B (d+14) 20 g σ (HD p t (E L) G' r.1 r.2 (m+1:Nat) sp' v a j xs stp')
theorem goN (F:Finder B p E) {k n:Nat} (I:Inv L v a j xs stp (m+1) k) (h0:0<stp.length) (hn:n≤1000) :
  GoOn B d p t E L Gg.length m v a j xs stp.length (PN p t Gg s n m sp v a j xs stp (spanG Gg.length s e none)) (lookR (E L) L n):=by
 obtain ⟨G,hz,hL,⟨k1,k2⟩,hs,hm,hc⟩:=I
 obtain ⟨stpA,x,rfl⟩:∃ l x,stp=l++[x]:=⟨stp.dropLast,stp.getLast (List.ne_nil_of_length_pos h0),(List.dropLast_concat_getLast _).symm⟩
 rw [List.length_append] at hs
 have c3:((pick (PN p t Gg s n m sp v a j xs (stpA++[x]) (spanG Gg.length s e none)) (selG Gg.length [2])).map fun sub=>sub.map (mapO (Mine.ren (selG Gg.length [2]))))=some (RH p t (RO v.zv askS (s+1) n .opq (.ref 21) true (m+1:Nat)) (Mine.ren (selG Gg.length [2]) sp) v a j xs (stpA.map (Mine.ren (selG Gg.length [2]))++[Mine.ren (selG Gg.length [2]) x]) [noneT]):=by
  refine (toG (ks:=[2]) (N:=spanG Gg.length s e none) (os:=[noneT]) rfl (G.ren _ fun z9=>rfl)).trans ?_
  show some (RH p t (RO v.zv askS (s+1) n (Mine.ren (selG Gg.length [2]) (.ref (Gg.length+(0+21)))) (Mine.ren (selG Gg.length [2]) (.ref (Gg.length+(2+21)))) true (m+1:Nat)) _ _ a j xs _ [noneT])=_
  rw [kK (k:=0) rfl,cf (m:=0) rfl,List.map_append];rfl
 have hlen:(PN p t Gg s n m sp v a j xs (stpA++[x]) (spanG Gg.length s e none)).length=Gg.length+(3+21):=lX
 obtain ⟨sp2,stp2,x2,hl2,hg⟩:=eM (B:=B) (d:=d) (p:=p) (t:=t) (v:=v) (st:=s+1) (n:=n) (many:=(m+1:Nat)) (sp:=Mine.ren (selG Gg.length [2]) sp) (stp:=stpA.map (Mine.ren (selG Gg.length [2]))) (x:=Mine.ren (selG Gg.length [2]) x) (E:=E L)
  G hz hL hn (by rw [List.length_map];exact aa [_,_,_] [] (.ltN N0 (.k 1000)) (.leN (.a (.a N0 N1) N2) (.k 900)) [1,1] rfl hs) (fun v' p2 hv=>F.fnd G hL d v' p2 (hv.trans hz)) (F.inn _)
 rw [List.length_map] at hl2
 revert hg
 cases lookR (E L) L n with
 | none =>
  rintro ⟨st',en',tl,nr,ir,h20⟩
  refine ⟨bak (selG Gg.length [2]) [] (Gg.length+(3+21)) sp2,st',en',bak (selG Gg.length [2]) [] (Gg.length+(3+21)) tl,bak (selG Gg.length [2]) [] (Gg.length+(3+21)) nr,ir,(stp2++[x2]).map (bak (selG Gg.length [2]) [] (Gg.length+(3+21))),Gg++(wback (bak (selG Gg.length [2]) [] (Gg.length+(3+21))) [2] [noneT] (spanG Gg.length s e none)++[]),[2],[],_,_,ndG (by decide),c3,h20,rfl,?_⟩
  rw [hlen]
  exact (ofG (ks:=[2]) (kp:=[]) (G:=Gg) (N:=spanG Gg.length s e none) (new:=[]) rfl (G.ren _ fun z9=>rfl)).trans (by kernel_rfl)
 | some r =>
  intro h20
  dsimp only at h20
  unfold GoOn
  have hG':(Gg++spanG Gg.length s e none).length=Gg.length+3:=by rw [List.length_append];rfl
  unfold HD at h20 ⊢
  have fin:∀ (no:Option Nat) (kp:List Nat),Con B (d+14) 20 [.ref 0] (RH p t (RO v.zv askS (s+1) n .opq (.ref 21) true (m+1:Nat)) (Mine.ren (selG Gg.length [2]) sp) v a j xs (stpA.map (Mine.ren (selG Gg.length [2]))++[Mine.ren (selG Gg.length [2]) x]) [noneT]) .none (RH p t (RO v.zv askS (r.1+1) (r.2+1) (.ref 22) (.ref 24) false (m+1:Nat)) sp2 (pt1 v (r.2+1)) a j xs (stp2++[x2]) (noneT::spanG 1 r.1 r.2 no)) →
    (ndB kp && kp.all fun k=>decide (22≤k))=true→pick (RH p t (RO v.zv askS (r.1+1) (r.2+1) (.ref 22) (.ref 24) false (m+1:Nat)) sp2 (pt1 v (r.2+1)) a j xs (stp2++[x2]) (noneT::spanG 1 r.1 r.2 no)) kp=some (spanG 1 r.1 r.2 no) →
    (RH p t (RO v.zv (bak (selG Gg.length [2]) kp (Gg.length+(3+21)) askS) (r.1+1) (r.2+1) (bak (selG Gg.length [2]) kp (Gg.length+(3+21)) (.ref 22)) (bak (selG Gg.length [2]) kp (Gg.length+(3+21)) (.ref 24)) false (m+1:Nat)) (bak (selG Gg.length [2]) kp (Gg.length+(3+21)) sp2) (pt1 v (r.2+1)) a j xs ((stp2++[x2]).map (bak (selG Gg.length [2]) kp (Gg.length+(3+21)))) (Gg++(wback (bak (selG Gg.length [2]) kp (Gg.length+(3+21))) [2] (noneT::spanG 1 r.1 r.2 no) (spanG Gg.length s e none)++(spanG 1 r.1 r.2 no).map (mapO (bak (selG Gg.length [2]) kp (Gg.length+(3+21))))))) =
    (RH p t (RO v.zv askS (r.1+1) (r.2+1) (.ref (Gg.length+3+21)) (.ref (Gg.length+3+23)) false (m+1:Nat)) (bak (selG Gg.length [2]) kp (Gg.length+(3+21)) sp2) (pt1 v (r.2+1)) a j xs ((stp2++[x2]).map (bak (selG Gg.length [2]) kp (Gg.length+(3+21)))) (Gg++(spanG Gg.length s e none++spanG (Gg.length+3) r.1 r.2 no))) →
    Ex3 fun (sp':AV) (stp':List AV) (G':Hp)=>stp'.length=(stpA++[x]).length∧CallI B (d+14) 20 Gg.length (PN p t Gg s n m sp v a j xs (stpA++[x]) (spanG Gg.length s e none)) (RH p t (RO v.zv askS (r.1+1) (r.2+1) (.ref (G'.length+21)) (.ref (G'.length+23)) false (m+1:Nat)) sp' (pt1 v (r.2+1)) a j xs stp' (G'++spanG G'.length r.1 r.2 no)):=fun no kp hc hkp hpk heq=>by
   refine ⟨bak (selG Gg.length [2]) kp (Gg.length+(3+21)) sp2,(stp2++[x2]).map (bak (selG Gg.length [2]) kp (Gg.length+(3+21))),Gg++spanG Gg.length s e none,by rw [List.length_map,List.length_append,List.length_append,hl2];rfl,[2],kp,_,_,ndG (by decide),c3,hc,hkp,?_⟩
   rw [hlen,hG',List.append_assoc]
   refine (ofG (ks:=[2]) (kp:=kp) (G:=Gg) (N:=spanG Gg.length s e none) (new:=spanG 1 r.1 r.2 no) hpk (G.ren _ fun z9=>rfl)).trans ?_
   exact congrArg some heq
  revert h20
  show _→Ex3 fun (sp':AV) (stp':List AV) (G':Hp)=>_∧CallI B (d+14) 20 Gg.length _ (RH p t (RO v.zv askS (r.1+1) (r.2+1) (.ref (G'.length+21)) (.ref (G'.length+23)) false (m+1:Nat)) sp' (pt1 v (r.2+1)) a j xs stp' (G'++spanG G'.length r.1 r.2 (nearOf (E L) r.1 r.2)))
  generalize nearOf (E L) r.1 r.2=no
  intro h20
  cases no with
  | none=>exact fin none [22,23,24] h20 rfl rfl (by kernel_rfl)
  | some q=>exact fin (some q) [22,23,24,25,26] h20 rfl rfl (by kernel_rfl)
end
section
variable {B:Base} {d:Nat} {p:Pt} {t:Tm} {m:Nat} {sp:AV} {v:BV} {a j s e:Nat} {xs stp:List AV} {L own:List Int} {E:List Int→Nat→Option Nat} {Gg:Hp}
theorem goS (F:Finder B p E) {k e' q:Nat} (I:Inv L v a j xs (stp++[.ref (Gg.length+(5+21))]) (m+1) k) (ho:own.length=e - s) (h0:s≤e) (h1:e'<L.length) (h2:e<q) (h3:e'+(q - e)≤L.length) (hb:e≤1000) :
  Ex3 fun (sp':AV) (stp':List AV) (G':Hp)=>stp'.length=(stp++[AV.ref (Gg.length+(5+21))]).length∧CallI B (d+14) 20 Gg.length (PN p t Gg s (e'+1) m sp v a j xs (stp++[.ref (Gg.length+(5+21))]) (spanG Gg.length s e (some q)++[stepQ Gg.length s (.ref (Gg.length+21)),cD own])) (HD p t (E L) G' e' (e'+(q - e)) (m+1:Nat) sp' v a j xs stp'):=by
 obtain ⟨G,hz,hL,⟨k1,k2⟩,hs,hm,hc⟩:=I
 rw [List.length_append] at hs
 have c3:((pick (PN p t Gg s (e'+1) m sp v a j xs (stp++[.ref (Gg.length+(5+21))]) (spanG Gg.length s e (some q)++[stepQ Gg.length s (.ref (Gg.length+21)),cD own])) (selG Gg.length [2,3,4,5,6])).map fun sub=>sub.map (mapO (Mine.ren (selG Gg.length [2,3,4,5,6]))))=some (RH p t (RO v.zv askS (s+1) (e'+1) .opq (.ref 21) true (m+1:Nat)) (Mine.ren (selG Gg.length [2,3,4,5,6]) sp) v a j xs (stp.map (Mine.ren (selG Gg.length [2,3,4,5,6]))++[.ref 24]) (atZ s e q own)):=by
  refine (toG (ks:=[2,3,4,5,6]) (N:=spanG Gg.length s e (some q)++[stepQ Gg.length s (.ref (Gg.length+21)),cD own]) (os:=[atT (Gg.length+24),.list [.ref (Gg.length+25)],tt (e+1) (q+1),stepQ Gg.length s (.ref (Gg.length+21)),cD own]) rfl (G.ren _ fun z9=>rfl)).trans ?_
  rw [List.map_append]
  show some (RH p t (RO v.zv askS (s+1) (e'+1) (Mine.ren (selG Gg.length [2,3,4,5,6]) (.ref (Gg.length+(0+21)))) (Mine.ren (selG Gg.length [2,3,4,5,6]) (.ref (Gg.length+(2+21)))) true (m+1:Nat)) _ _ a j xs (_++[Mine.ren (selG Gg.length [2,3,4,5,6]) (.ref (Gg.length+(5+21)))])
   [.tup [.str [97,116],Mine.ren (selG Gg.length [2,3,4,5,6]) (.ref (Gg.length+(3+21)))],.list [Mine.ren (selG Gg.length [2,3,4,5,6]) (.ref (Gg.length+(4+21)))],tt (e+1) (q+1),.inst 0 [(30,.int (s+1)),(31,Mine.ren (selG Gg.length [2,3,4,5,6]) (.ref (Gg.length+(6+21)))),(32,.opq),(33,.bool true),(34,Mine.ren (selG Gg.length [2,3,4,5,6]) (.ref (Gg.length+(0+21)))),(35,.int 1)],.list ((own.map AV.int).map (Mine.ren (selG Gg.length [2,3,4,5,6])))])=_
  rw [kK (k:=0) rfl,cf (k:=2) (m:=0) rfl,cf (k:=3) (m:=1) rfl,cf (k:=4) (m:=2) rfl,cf (k:=5) (m:=3) rfl,cf (k:=6) (m:=4) rfl,ac (Mine.ren (selG Gg.length [2,3,4,5,6])) fun z9=>rfl];rfl
 have hlen:(PN p t Gg s (e'+1) m sp v a j xs (stp++[.ref (Gg.length+(5+21))]) (spanG Gg.length s e (some q)++[stepQ Gg.length s (.ref (Gg.length+21)),cD own])).length=Gg.length+(7+21):=lX
 obtain ⟨sp2,stp2,hl2,Z,h20,hZ⟩:=gK (B:=B) (d:=d) (p:=p) (t:=t) (v:=v) (st:=s+1) (e':=e') (q:=q) (many:=(m+1:Nat)) (sp:=Mine.ren (selG Gg.length [2,3,4,5,6]) sp) (stp:=stp.map (Mine.ren (selG Gg.length [2,3,4,5,6]))) (E:=E L) (own:=own)
  G hz hL (by rw [List.length_map];exact aa [_,_,_] [] (.ltN N0 (.k 1000)) (.leN (.a (.a N0 N1) N2) (.k 900)) [1,1] rfl hs) ho h0 h1 h2 h3 hb (fun d v' p2 hv=>F.fnd G hL d v' p2 (hv.trans hz))
 obtain rfl:=List.eq_nil_of_length_eq_zero hZ
 rw [List.length_map] at hl2
 have hG':(Gg++(spanG Gg.length s e (some q)++[stepQ Gg.length s .opq,cD own])).length=Gg.length+7:=by rw [List.length_append];rfl
 unfold HD at h20 ⊢
 have fin:∀ (no:Option Nat) (kp:List Nat),Con B (d+14) 20 [.ref 0] (RH p t (RO v.zv askS (s+1) (e'+1) .opq (.ref 21) true (m+1:Nat)) (Mine.ren (selG Gg.length [2,3,4,5,6]) sp) v a j xs (stp.map (Mine.ren (selG Gg.length [2,3,4,5,6]))++[.ref 24]) (atZ s e q own)) .none (RH p t (RO v.zv askS (e'+1) ((e'+(q - e):Nat)+1) (.ref 26) (.ref 28) false (m+1:Nat)) sp2 (pt1 v ((e'+(q - e):Nat)+1)) a j xs stp2 (atZ s e q own++spanG 5 e' (e'+(q - e)) no)) →
   (ndB kp && kp.all fun k=>decide (26≤k))=true→pick (RH p t (RO v.zv askS (e'+1) ((e'+(q - e):Nat)+1) (.ref 26) (.ref 28) false (m+1:Nat)) sp2 (pt1 v ((e'+(q - e):Nat)+1)) a j xs stp2 (atZ s e q own++spanG 5 e' (e'+(q - e)) no)) kp=some (spanG 5 e' (e'+(q - e)) no) →
   (RH p t (RO v.zv (bak (selG Gg.length [2,3,4,5,6]) kp (Gg.length+(7+21)) askS) (e'+1) ((e'+(q - e):Nat)+1) (bak (selG Gg.length [2,3,4,5,6]) kp (Gg.length+(7+21)) (.ref 26)) (bak (selG Gg.length [2,3,4,5,6]) kp (Gg.length+(7+21)) (.ref 28)) false (m+1:Nat)) (bak (selG Gg.length [2,3,4,5,6]) kp (Gg.length+(7+21)) sp2) (pt1 v ((e'+(q - e):Nat)+1)) a j xs (stp2.map (bak (selG Gg.length [2,3,4,5,6]) kp (Gg.length+(7+21)))) (Gg++(wback (bak (selG Gg.length [2,3,4,5,6]) kp (Gg.length+(7+21))) [2,3,4,5,6] (atZ s e q own++spanG 5 e' (e'+(q - e)) no) (spanG Gg.length s e (some q)++[stepQ Gg.length s (.ref (Gg.length+21)),cD own])++(spanG 5 e' (e'+(q - e)) no).map (mapO (bak (selG Gg.length [2,3,4,5,6]) kp (Gg.length+(7+21))))))) =
   (RH p t (RO v.zv askS (e'+1) ((e'+(q - e):Nat)+1) (.ref (Gg.length+7+21)) (.ref (Gg.length+7+23)) false (m+1:Nat)) (bak (selG Gg.length [2,3,4,5,6]) kp (Gg.length+(7+21)) sp2) (pt1 v ((e'+(q - e):Nat)+1)) a j xs (stp2.map (bak (selG Gg.length [2,3,4,5,6]) kp (Gg.length+(7+21)))) (Gg++((spanG Gg.length s e (some q)++[stepQ Gg.length s .opq,.list ((own.map AV.int).map (bak (selG Gg.length [2,3,4,5,6]) kp (Gg.length+(7+21))))])++spanG (Gg.length+7) e' (e'+(q - e)) no))) →
   Ex3 fun (sp':AV) (stp':List AV) (G':Hp)=>stp'.length=(stp++[AV.ref (Gg.length+(5+21))]).length∧CallI B (d+14) 20 Gg.length (PN p t Gg s (e'+1) m sp v a j xs (stp++[.ref (Gg.length+(5+21))]) (spanG Gg.length s e (some q)++[stepQ Gg.length s (.ref (Gg.length+21)),cD own])) (RH p t (RO v.zv askS (e'+1) ((e'+(q - e):Nat)+1) (.ref (G'.length+21)) (.ref (G'.length+23)) false (m+1:Nat)) sp' (pt1 v ((e'+(q - e):Nat)+1)) a j xs stp' (G'++spanG G'.length e' (e'+(q - e)) no)):=fun no kp hc hkp hpk heq=>by
  refine ⟨bak (selG Gg.length [2,3,4,5,6]) kp (Gg.length+(7+21)) sp2,stp2.map (bak (selG Gg.length [2,3,4,5,6]) kp (Gg.length+(7+21))),Gg++(spanG Gg.length s e (some q)++[stepQ Gg.length s .opq,cD own]),by rw [List.length_map,List.length_append,hl2];rfl,[2,3,4,5,6],kp,_,_,ndG (by decide),c3,hc,hkp,?_⟩
  rw [hlen,hG',List.append_assoc]
  refine (ofG (ks:=[2,3,4,5,6]) (kp:=kp) (G:=Gg) (N:=spanG Gg.length s e (some q)++[stepQ Gg.length s (.ref (Gg.length+21)),cD own]) (new:=spanG 5 e' (e'+(q - e)) no) hpk (G.ren _ fun z9=>rfl)).trans ?_
  rw [ac (bak (selG Gg.length [2,3,4,5,6]) kp (Gg.length+(7+21))) fun z9=>rfl] at heq
  exact congrArg some heq
 revert h20
 generalize nearOf (E L) e' (e'+(q - e))=no
 intro h20
 cases no with
 | none=>exact fin none [26,27,28] h20 rfl rfl (by kernel_rfl)
 | some q=>exact fin (some q) [26,27,28,29,30] h20 rfl rfl (by kernel_rfl)
set_option tactic.hygienic true in
theorem eP {E:Nat→Option Nat} {q:Nat} {n:Nat} (hI:InText E n) (h2:e≤n) (h:nearOf E s e=some q):s<e∧e<q∧q≤n∧E e=some q:=by
 unfold nearOf at h
 split at h
 ·rename_i hse
  split at h
  ·rename_i q' hq'
   split at h
   ·exact nS h
   ·rename_i hne
    cases h
    have:=hI e q h2 hq'
    exact ⟨hse,by omega,this.2,hq'⟩
  ·exact nS h
 ·exact nS h
theorem bm {E:Nat→Option Nat} {n:Nat} {r:Nat×Nat} (hI:InText E L.length) (h:lookR E L n=some r):n≤r.1∧r.1≤r.2∧r.2≤L.length∧E r.1=some r.2∧(∀ i,n≤i→i<r.1→E i=none)∧n<L.length:=by
 unfold lookR at h
 split at h
 ·rename_i hn
  obtain ⟨h1,h2,h3,h4⟩:=bu h
  have:=hI r.1 r.2 (by exact ag [_,_,_,_] [] (.leN N0 N1) (.ltN N0 (.a N2 N3)) (.eqN (.a N3 N2) (.a N1 (.k 1))) [1,1,1] rfl h2 (ab (aa [_,_] [] (.leN N0 (.a N1 (.k 1))) (.ltN N0 N1) [1,1] rfl hn))) h3
  exact ⟨h1,this.1,this.2,h3,h4,hn⟩
 ·exact nS h
inductive LapG (B:Base) (d:Nat) (p:Pt) (t:Tm) (Lf:List Int) (mf:Nat) (H:Hp):Prop | mk (v1:BV) (a1 j1:Nat) (xs1:List AV) (sp':AV) (st' en':Int) (tl nr:AV) (ir:Bool) (stp':List AV) (Z':Hp) (h0:GapN Lf a1 j1 xs1) (h1:v1.zv=(Lf.length:Int)+1) (h2:Lf.length+j1≤3000) (h3:ConW B (d+14) paC paB [some (.ref 0)] H .next [some (.ref 0)] (RH p t (RO v1.zv doneS st' en' tl nr ir mf) sp' v1 a1 j1 xs1 stp' Z')):LapG B d p t Lf mf H
theorem LapG.to {Lf:List Int} {mf:Nat} {H H':Hp} (f:∀ σ',ConW B (d+14) paC paB [some (.ref 0)] H' .next [some (.ref 0)] σ'→ConW B (d+14) paC paB [some (.ref 0)] H .next [some (.ref 0)] σ') (h:LapG B d p t Lf mf H'):LapG B d p t Lf mf H:=by
 obtain ⟨v3,a3,j3,xs3,sp3,st3,en3,tl,nr,ir,stp3,Z3,k1,k2,k3,k4⟩:=h
 exact ⟨v3,a3,j3,xs3,sp3,st3,en3,tl,nr,ir,stp3,Z3,k1,k2,k3,f _ k4⟩
noncomputable def LapsS (B:Base) (d:Nat) (p:Pt) (t:Tm) (E:List Int→Nat→Option Nat) (f:Nat):Prop:=∀ {L:List Int} {s e m:Nat} {Lf:List Int} {mf:Nat} {v:BV} {a j:Nat} {xs stp:List AV} {sp:AV} {Gg:Hp},runL E t f L s e m=some (Lf,mf)→Inv L v a j xs stp m f→s≤e→e≤L.length →
  LapG B d p t Lf mf (HD p t (E L) Gg s e m sp v a j xs stp)
theorem lY (F:Finder B p E):∀ {f:Nat},LapsS B d p t E f:=by
 intro f
 induction f with
 | zero=>intro L s e m Lf mf v a j xs stp sp Gg h;exact nS h
 | succ f ih =>
  intro L s e m Lf mf v a j xs stp sp Gg h I h1 h2
  unfold runL at h
  split at h
  ·rename_i h90
   have hlen:=dm (t:=t) h1 h2
   have hL:=I.len
   cases hno:nearOf (E L) s e with
   | some q =>
    rw [hno] at h
    obtain ⟨n1,n2,n3,n4⟩:=eP (F.inn L) h2 hno
    obtain ⟨v1,a1,j1,xs1,sp1,stp1,I1,hp⟩:=nZ (d:=d) (p:=p) (t:=t) (Gg:=Gg) (sp:=sp) I h1 h2 h90 hno
    obtain ⟨sp2,stp2,G2,hl2,hg⟩:=goS (d:=d) (p:=p) (t:=t) (Gg:=Gg) (sp:=sp1) (own:=sub L s e) (s:=s) (e:=e) (e':=s+dL t L s e) (q:=q) F I1 (by unfold sub;rw [List.length_take,List.length_drop];exact (Nat.min_eq_left (bR [_,_,_,_,_,_] [] (.leN N0 N1) (.ltN N2 N3) (.leN N3 N4) (.leN N4 (.a N1 N5)) (.eqN (.a N0 N5) N2) [1,1,1,1,1] rfl n2 n3 (af _ _) (ab (h1))))) h1 (by exact bS [_,_,_,_,_,_,_,_] [] (.ltN (.a N0 N1) N2) (.eqN N2 (.a N3 N1)) (.ltN N4 N5) (.leN N5 N6) (.leN N6 (.a N3 N7)) (.eqN (.a N7 N0) N4) [1,-1,1,1,1,1] rfl hlen n2 n3 (af _ _) (ab (h1))) n2 (by exact bS [_,_,_,_,_,_,_,_,_] [] (.leN (.a (.a N0 N1) N2) N3) (.eqN N3 (.a N4 N1)) (.leN N5 N6) (.leN N6 (.a N4 N7)) (.eqN (.a N2 N8) N5) (.eqN (.a N7 N0) N8) [1,-1,1,1,1,1] rfl hlen n3 (af _ _) (ab (aa [_,_] [] (.leN N0 N1) (.ltN N0 N1) [1,1] rfl n2)) (ab (h1))) (by exact ag [_,_] [] (.leN N0 (.k 1000)) (.leN N0 N1) (.leN N1 (.k 90)) [1,1,1] rfl h2 hL)
    exact LapG.to (fun σ' k=>lap hp hg k) (ih (sp:=sp2) (Gg:=G2) h ⟨I1.gap,I1.zv,I1.len,I1.tk,by rw [hl2];exact I1.stp,I1.m,I1.cells⟩ (by exact ak [_,_,_] [] (.leN (.a N0 N1) (.a (.a N0 N1) N2)) [1] rfl) (by unfold dL at *;exact bS [_,_,_,_,_,_,_,_,_] [] (.leN (.a (.a N0 N1) N2) N3) (.eqN N3 (.a N4 N1)) (.leN N5 N6) (.leN N6 (.a N4 N7)) (.eqN (.a N2 N8) N5) (.eqN (.a N7 N0) N8) [1,-1,1,1,1,1] rfl hlen n3 (af _ _) (ab (aa [_,_] [] (.leN N0 N1) (.ltN N0 N1) [1,1] rfl n2)) (ab (h1))))
   | none =>
    rw [hno] at h
    obtain ⟨v1,a1,j1,xs1,sp1,stp1,I1,hp,hpos⟩:=nY (d:=d) (p:=p) (t:=t) (Gg:=Gg) (sp:=sp) I h1 h2 h90 hno
    have hg:=goN (d:=d) (p:=p) (t:=t) (Gg:=Gg) (s:=s) (e:=e) (sp:=sp1) (n:=s+dL t L s e+1) F I1 hpos (by unfold dL at *;exact bS [_,_,_,_,_,_,_] [] (.leN (.a (.a N0 N1) (.k 1)) (.k 1000)) (.leN N2 N3) (.leN N4 (.k 90)) (.eqN N4 (.a N5 N1)) (.leN N3 (.a N5 N6)) (.eqN (.a N6 N0) N2) [1,1,1,-1,1,1] rfl h2 h90 hlen (af _ _) (ab (h1)))
    dsimp only at h
    cases hlk:lookR (E (lapL t L s e)) (lapL t L s e) (s+dL t L s e+1) with
    | none =>
     have hlk':lookR (E (lapL t L s e)) (lapL t L s e) (s+(newOf t (sub L s e)).length+1)=none:=hlk
     rw [hlk'] at h
     rw [hlk] at hg
     apply sQ h
     obtain ⟨sp',st',en',tl,nr,ir,stp',Z',hg⟩:=hg
     exact ⟨v1,a1,j1,xs1,sp',st',en',tl,nr,ir,stp',Z',I1.gap,I1.zv,I1.cells,lap hp hg jf⟩
    | some r =>
     have hlk':lookR (E (lapL t L s e)) (lapL t L s e) (s+(newOf t (sub L s e)).length+1)=some r:=hlk
     rw [hlk'] at h
     rw [hlk] at hg
     obtain ⟨r1,r2,r3,_,_,_⟩:=bm (F.inn _) hlk
     obtain ⟨sp2,stp2,G2,hl2,hg⟩:=hg
     exact LapG.to (fun σ' k=>lap hp hg k) (ih (sp:=sp2) (Gg:=G2) h ⟨I1.gap,I1.zv,I1.len,I1.tk,by rw [hl2];exact I1.stp,I1.m,I1.cells⟩ r2 r3)
  ·exact nS h
end
noncomputable def MO (bound:Int) (state:AV) (st en:Int) (told near:AV) (ir:Bool) (many:Int):AO:=.inst 1 [(36,.ref 1),(37,.ref 0),(38,.ref 17),(39,.int bound),(40,state),(30,.int st),(41,.int en),(34,told),(42,near),(33,.bool ir),(43,.int many),(44,.ref 23)]
noncomputable def AH (p:Pt) (t:Tm) (sp:AV) (v:BV) (a j:Nat) (xs:List AV) (Z:Hp):Hp :=
 patC 4 sp::bufO v 2 14::gapO (.int 8) 3 a (a+j)::.list xs::codO p 5::rwO p 6::T8 p 6 (tmO 0 18::cD (tplOf t)::Z)
noncomputable def AHx (b:Hp) (t:Tm) (sp:AV) (v:BV) (a j:Nat) (xs:List AV) (Z:Hp):Hp:=patC 4 sp::bufO v 2 14::gapO (.int 8) 3 a (a+j)::.list xs::(b++(mkO 15::.dict []::.list []::tmO 0 18::cD (tplOf t)::Z))
noncomputable abbrev selA:List Nat:=[19,0,1,2,3,4,5,6,7,8,9,10,11,12,13,14,15,16,17,18,23]
noncomputable abbrev M5 (zv:Int) (mo:AO) (n:Nat) (stp:List AV) (Z:Hp):Hp:=mo::tt (n+1) zv::tt (n+1) zv::noneT::.list stp::Z
noncomputable def allL (E:List Int→Nat→Option Nat) (t:Tm) (f:Nat) (L:List Int) (n:Nat):Option (List Int×Nat):=match lookR (E L) L n with
 | none=>some (L,0)
 | some r=>runL E t f L r.1 r.2 0
theorem fu {f:AV→AV} {F:Hp}:∀ {ks:List Nat} {Z N:Hp},(∀ k∈ks,F.length≤k)→∃ N',wback f ks Z (F++N)=F++N':=by
 intro ks
 induction ks with
 | nil=>intro Z N _;exact ⟨N,rfl⟩
 | cons k ks ih =>
  intro Z N h
  cases Z with
  | nil=>exact ⟨N,rfl⟩
  | cons o Z =>
   show ∃ N',wback f ks Z ((F++N).set k (mapO f o))=F++N'
   rw [List.set_append_right _ _ (h k (List.mem_cons_self ..))]
   exact ih fun y hy=>h y (List.mem_cons_of_mem _ hy)
section
variable {B:Base} {d:Nat} {p:Pt} {t:Tm} {m n:Nat} {sp told near:AV} {v:BV} {a j s e:Nat} {xs stp:List AV} {L Lf:List Int} {E:List Int→Nat→Option Nat} {zb st en many:Int} {ir:Bool} {σ σ' Z:Hp} {fr:Fm} {mf f:Nat}
theorem eQ (h:ConW B (d+14) paC paB [some (.ref 0)] σ .next fr σ'):Con B (d+15) 22 [.ref 0] σ .none σ' :=
 con B 60 _ _ [.go 1,.l .next fr σ'] (I2 (@h) trivial) (by kernel_rfl)
theorem mV (F:Finder B p E) (G:GapN L a j xs) (hz:v.zv=L.length+1) (hL:L.length≤90) (hn:n≤L.length) (k1:0≤v.tk) (k2:v.tk≤1000) (hc:L.length+j≤3000) (hf:f≤800) (hr:allL E t f L n=some (Lf,mf)) :
  Ex6 fun v1 a1 j1 xs1 sp1 Z1=>GapN Lf a1 j1 xs1∧v1.zv=(Lf.length:Int)+1∧Con B (d+17) 23 [.ref 1,.ref 0,.ref 17,.int (n+1),.int v.zv] (AH p t sp v a j xs []) (.int mf) (AH p t sp1 v1 a1 j1 xs1 Z1):=by
 have hk:=jb (B:=B) (d:=d+3) (p:=p) (t:=t) (stt:=askS) (st:=n+1) (en:=n+1) (told:=.none) (near:=.opq) (ir:=false) (many:=0) (sp:=Mine.ren selA sp) (stp:=[]) (n:=n) G hz hL (fun v' p2 hv=>F.fnd G hL _ v' p2 (hv.trans hz)) (F.inn _)
 have q1:((pick (AH p t sp v a j xs (M5 v.zv (MO v.zv askS (n+1) (n+1) .none (.ref 22) false 0) n [] [])) selA).map fun sub=>sub.map (mapO (Mine.ren selA)))=some (RH p t (RO v.zv askS (n+1) (n+1) .none .opq false 0) (Mine.ren selA sp) v a j xs [] []):=by
  refine Eq.trans (b:=some ((RHx ((cmpL p 4).map (mapO (Mine.ren selA))) t (RO v.zv askS (n+1) (n+1) .none .opq false 0) (Mine.ren selA sp) v a j (xs.map (Mine.ren selA)) [] []).take 19++[.list (((tplOf t).map AV.int).map (Mine.ren selA)),.list []])) (by kernel_rfl) ?_
  rw [aj (f:=Mine.ren selA) (fun z9=>rfl) (fun z9=>rfl) (fun z9=>rfl) p (k:=4) (k':=5) rfl (i8 ⟨rfl,rfl,rfl,rfl,rfl,rfl,rfl,rfl⟩),G.ren (Mine.ren selA) fun z9=>rfl,ac (Mine.ren selA) fun z9=>rfl];rfl
 have cm:=mO (σ:=AH p t sp v a j xs [.inst 1 []]) (a:=(n:Int)+1) (b:=v.zv) (by exact ag [_,_] [_] (.leI (.a (.c N0) (.k 1)) J0) (.eqI J0 (.a (.c N1) (.k 1))) (.leN N0 N1) [1,-1,1] rfl hz hn)
 have cx:=mQ (σ:=AH p t sp v a j xs [.inst 1 []]) (a:=(n:Int)+1) (b:=v.zv) (by exact ag [_,_] [_] (.leI (.a (.c N0) (.k 1)) J0) (.eqI J0 (.a (.c N1) (.k 1))) (.leN N0 N1) [1,-1,1] rfl hz hn)
 have cl:=dF (p:=(n:Int)+1<1) (by exact ak [_] [] (.n (.ltI (.a (.c N0) (.k 1)) (.k 1))) [1] rfl)
 have ch:=dF (p:=v.zv > v.zv) (by exact ak [] [_] (.n (.ltI J0 J0)) [1] rfl)
 unfold allL at hr
 cases hlr:lookR (E L) L n with
 | none =>
  rw [hlr] at hk hr
  obtain ⟨sp',hlk⟩:=hk
  have e1:L=Lf:=congrArg Prod.fst (Option.some.inj hr)
  have e2:0=mf:=congrArg Prod.snd (Option.some.inj hr)
  subst e1 e2
  have q2:((pick (RH p t (RO v.zv doneS (n+1) (n+1) .none .opq false 0) sp' v a j xs [] []) []).map fun new=>wback (bak selA [] 24) selA (RH p t (RO v.zv doneS (n+1) (n+1) .none .opq false 0) sp' v a j xs [] []) (AH p t sp v a j xs (M5 v.zv (MO v.zv askS (n+1) (n+1) .none (.ref 22) false 0) n [] []))++new.map (mapO (bak selA [] 24)))=some (AH p t (bak selA [] 24 sp') v a j xs (M5 v.zv (MO v.zv doneS (n+1) (n+1) .none .opq false 0) n [] [])):=by
   refine Eq.trans (b:=some ((AHx ((cmpL p 5).map (mapO (bak selA [] 24))) t (bak selA [] 24 sp') v a j (xs.map (bak selA [] 24)) []).take 18++.list (((tplOf t).map AV.int).map (bak selA [] 24))::M5 v.zv (MO v.zv doneS (n+1) (n+1) .none .opq false 0) n [] [])) (by kernel_rfl) ?_
   rw [aj (f:=bak selA [] 24) (fun z9=>rfl) (fun z9=>rfl) (fun z9=>rfl) p (k:=5) (k':=4) rfl (i8 ⟨rfl,rfl,rfl,rfl,rfl,rfl,rfl,rfl⟩),G.ren (bak selA [] 24) fun z9=>rfl,ac (bak selA [] 24) fun z9=>rfl];rfl
  have q3:((pick (AH p t (bak selA [] 24 sp') v a j xs (M5 v.zv (MO v.zv doneS (n+1) (n+1) .none .opq false 0) n [] [])) selA).map fun sub=>sub.map (mapO (Mine.ren selA)))=some (RH p t (RO v.zv doneS (n+1) (n+1) .none .opq false 0) (Mine.ren selA (bak selA [] 24 sp')) v a j xs [] []):=by
   refine Eq.trans (b:=some ((RHx ((cmpL p 4).map (mapO (Mine.ren selA))) t (RO v.zv doneS (n+1) (n+1) .none .opq false 0) (Mine.ren selA (bak selA [] 24 sp')) v a j (xs.map (Mine.ren selA)) [] []).take 19++[.list (((tplOf t).map AV.int).map (Mine.ren selA)),.list []])) (by kernel_rfl) ?_
   rw [aj (f:=Mine.ren selA) (fun z9=>rfl) (fun z9=>rfl) (fun z9=>rfl) p (k:=4) (k':=5) rfl (i8 ⟨rfl,rfl,rfl,rfl,rfl,rfl,rfl,rfl⟩),G.ren (Mine.ren selA) fun z9=>rfl,ac (Mine.ren selA) fun z9=>rfl];rfl
  have q4:((pick (RH p t (RO v.zv doneS (n+1) (n+1) .none .opq false 0) (Mine.ren selA (bak selA [] 24 sp')) v a j xs [] []) []).map fun new=>wback (bak selA [] 24) selA (RH p t (RO v.zv doneS (n+1) (n+1) .none .opq false 0) (Mine.ren selA (bak selA [] 24 sp')) v a j xs [] []) (AH p t (bak selA [] 24 sp') v a j xs (M5 v.zv (MO v.zv doneS (n+1) (n+1) .none .opq false 0) n [] []))++new.map (mapO (bak selA [] 24)))=some (AH p t (bak selA [] 24 (Mine.ren selA (bak selA [] 24 sp'))) v a j xs (M5 v.zv (MO v.zv doneS (n+1) (n+1) .none .opq false 0) n [] [])):=by
   refine Eq.trans (b:=some ((AHx ((cmpL p 5).map (mapO (bak selA [] 24))) t (bak selA [] 24 (Mine.ren selA (bak selA [] 24 sp'))) v a j (xs.map (bak selA [] 24)) []).take 18++.list (((tplOf t).map AV.int).map (bak selA [] 24))::M5 v.zv (MO v.zv doneS (n+1) (n+1) .none .opq false 0) n [] [])) (by kernel_rfl) ?_
   rw [aj (f:=bak selA [] 24) (fun z9=>rfl) (fun z9=>rfl) (fun z9=>rfl) p (k:=5) (k':=4) rfl (i8 ⟨rfl,rfl,rfl,rfl,rfl,rfl,rfl,rfl⟩),G.ren (bak selA [] 24) fun z9=>rfl,ac (bak selA [] 24) fun z9=>rfl];rfl
  have hpa:Con B (d+16) 22 [.ref 0] (RH p t (RO v.zv doneS (n+1) (n+1) .none .opq false 0) (Mine.ren selA (bak selA [] 24 sp')) v a j xs [] []) .none (RH p t (RO v.zv doneS (n+1) (n+1) .none .opq false 0) (Mine.ren selA (bak selA [] 24 sp')) v a j xs [] []):=eQ (d:=d+1) jf
  refine ⟨v,a,j,xs,bak selA [] 24 (Mine.ren selA (bak selA [] 24 sp')),M5 v.zv (MO v.zv doneS (n+1) (n+1) .none .opq false 0) n [] [],G,hz,?_⟩
  exact con B 90 _ _ [.go 15,.v (.int (n+1)),.go 2,.v (.int v.zv),.go 3,.b false,.go 3,.b false,.go 39,.s (some selA),.go 1,.h (RH p t (RO v.zv askS (n+1) (n+1) .none .opq false 0) (Mine.ren selA sp) v a j xs [] []),.c .none (RH p t (RO v.zv doneS (n+1) (n+1) .none .opq false 0) sp' v a j xs [] []),.s (some []),.go 1,.h (AH p t (bak selA [] 24 sp') v a j xs (M5 v.zv (MO v.zv doneS (n+1) (n+1) .none .opq false 0) n [] [])),
    .go 2,.s (some selA),.go 1,.h (RH p t (RO v.zv doneS (n+1) (n+1) .none .opq false 0) (Mine.ren selA (bak selA [] 24 sp')) v a j xs [] []),.c .none (RH p t (RO v.zv doneS (n+1) (n+1) .none .opq false 0) (Mine.ren selA (bak selA [] 24 sp')) v a j xs [] []),.s (some []),.go 1,.h (AH p t (bak selA [] 24 (Mine.ren selA (bak selA [] 24 sp'))) v a j xs (M5 v.zv (MO v.zv doneS (n+1) (n+1) .none .opq false 0) n [] []))]
   (I2 cm (I2 cx (I2 cl (I2 ch (I2 q1 (I2 hlk (I2 q2 (I2 q3 (I2 hpa (I2 q4 trivial)))))))))) (by kernel_rfl)
 | some r =>
  rw [hlr] at hk hr
  obtain ⟨sp',hlk⟩:=hk
  obtain ⟨r1,r2,r3,_,_,_⟩:=bm (F.inn _) hlr
  unfold RM at hlk
  have lp:=fun sp=>lY (d:=d+1) (p:=p) (t:=t) F (v:=v) (a:=a) (j:=j) (xs:=xs) (stp:=[]) (sp:=sp) (Gg:=[]) hr ⟨G,hz,hL,⟨k1,by exact ag [_] [_] (.leI (.a J0 (.c N0)) (.k 900000)) (.leI J0 (.k 1000)) (.leN N0 (.k 800)) [1,1,1] rfl k2 hf⟩,by show 0+f≤900;exact aa [_] [] (.leN (.a (.k 0) N0) (.k 900)) (.leN N0 (.k 800)) [1,1] rfl hf,by exact aa [_] [] (.leN (.a (.k 0) N0) (.k 900)) (.leN N0 (.k 800)) [1,1] rfl hf,hc⟩ r2 r3
  unfold HD at lp
  have fin:∀ (no:Option Nat) (kp ks:List Nat) (nn:Nat),Con B (d+15) 16 [.ref 0,.int (n+1)] (RH p t (RO v.zv askS (n+1) (n+1) .none .opq false 0) (Mine.ren selA sp) v a j xs [] []) .none (RH p t (RO v.zv askS (r.1+1) (r.2+1) (.ref 21) (.ref 23) false 0) sp' (pt1 v (r.2+1)) a j xs [] (spanZ r.1 r.2 (nearZ r.2 no++[]))) →
    (∀ sp,LapG B (d+1) p t Lf mf (RH p t (RO v.zv askS (r.1+1) (r.2+1) (.ref 21) (.ref 23) false 0) sp (pt1 v (r.2+1)) a j xs [] (spanG 0 r.1 r.2 no))) →
    (ndB kp && kp.all fun k=>decide (21≤k))=true→ndB (selA++ks)=true→(∀ k∈ks,24≤k)→((spanG 3 r.1 r.2 no).length=nn) →
    pick (AH p t (bak selA kp 24 sp') (pt1 v (r.2+1)) a j xs (M5 v.zv (MO v.zv askS (r.1+1) (r.2+1) (.ref 24) (.ref 26) false 0) n [] (spanG 3 r.1 r.2 no))) ks=some (spanG 3 r.1 r.2 no) →
    (spanG 3 r.1 r.2 no).map (mapO (Mine.ren (selA++ks)))=spanG 0 r.1 r.2 no→Mine.ren (selA++ks) (.ref 24)=.ref 21→Mine.ren (selA++ks) (.ref 26)=.ref 23 →
    ((pick (RH p t (RO v.zv askS (r.1+1) (r.2+1) (.ref 21) (.ref 23) false 0) sp' (pt1 v (r.2+1)) a j xs [] (spanZ r.1 r.2 (nearZ r.2 no++[]))) kp).map fun new=>wback (bak selA kp 24) selA (RH p t (RO v.zv askS (r.1+1) (r.2+1) (.ref 21) (.ref 23) false 0) sp' (pt1 v (r.2+1)) a j xs [] (spanZ r.1 r.2 (nearZ r.2 no++[]))) (AH p t sp v a j xs (M5 v.zv (MO v.zv askS (n+1) (n+1) .none (.ref 22) false 0) n [] []))++new.map (mapO (bak selA kp 24))) =
     some ((AHx ((cmpL p 5).map (mapO (bak selA kp 24))) t (bak selA kp 24 sp') (pt1 v (r.2+1)) a j (xs.map (bak selA kp 24)) []).take 18++.list (((tplOf t).map AV.int).map (bak selA kp 24))::M5 v.zv (MO v.zv askS (r.1+1) (r.2+1) (.ref 24) (.ref 26) false 0) n [] (spanG 3 r.1 r.2 no)) →
    Ex6 fun v1 a1 j1 xs1 sp1 Z1=>GapN Lf a1 j1 xs1∧v1.zv=(Lf.length:Int)+1∧Con B (d+17) 23 [.ref 1,.ref 0,.ref 17,.int (n+1),.int v.zv] (AH p t sp v a j xs []) (.int mf) (AH p t sp1 v1 a1 j1 xs1 Z1):=fun no kp ks nn hc lp hkp hnd hks hnn hpk hmp m1 m2 q2=>by
   rw [aj (f:=bak selA kp 24) (fun z9=>rfl) (fun z9=>rfl) (fun z9=>rfl) p (k:=5) (k':=4) rfl (i8 ⟨rfl,rfl,rfl,rfl,rfl,rfl,rfl,rfl⟩),G.ren (bak selA kp 24) fun z9=>rfl,ac (bak selA kp 24) fun z9=>rfl] at q2
   obtain ⟨v1,a1,j1,xs1,sp1,st',en',tl,nr,ir,stp',Z',g1,g2,g3,g4⟩:=lp (Mine.ren (selA++ks) (bak selA kp 24 sp'))
   have q3:((pick (AH p t (bak selA kp 24 sp') (pt1 v (r.2+1)) a j xs (M5 v.zv (MO v.zv askS (r.1+1) (r.2+1) (.ref 24) (.ref 26) false 0) n [] (spanG 3 r.1 r.2 no))) (selA++ks)).map fun sub=>sub.map (mapO (Mine.ren (selA++ks))))=some (RH p t (RO v.zv askS (r.1+1) (r.2+1) (.ref 21) (.ref 23) false 0) (Mine.ren (selA++ks) (bak selA kp 24 sp')) (pt1 v (r.2+1)) a j xs [] (spanG 0 r.1 r.2 no)):=by
    have h1:pick (AH p t (bak selA kp 24 sp') (pt1 v (r.2+1)) a j xs (M5 v.zv (MO v.zv askS (r.1+1) (r.2+1) (.ref 24) (.ref 26) false 0) n [] (spanG 3 r.1 r.2 no))) selA=some (MO v.zv askS (r.1+1) (r.2+1) (.ref 24) (.ref 26) false 0::(AH p t (bak selA kp 24 sp') (pt1 v (r.2+1)) a j xs [.list []])):=rfl
    rw [eO h1 hpk]
    show some ((_++spanG 3 r.1 r.2 no).map (mapO (Mine.ren (selA++ks))))=_
    rw [List.map_append,hmp]
    have h2:(MO v.zv askS (r.1+1) (r.2+1) (.ref 24) (.ref 26) false 0::(AH p t (bak selA kp 24 sp') (pt1 v (r.2+1)) a j xs [.list []])).map (mapO (Mine.ren (selA++ks)))=(RHx ((cmpL p 4).map (mapO (Mine.ren (selA++ks)))) t (RO v.zv askS (r.1+1) (r.2+1) (Mine.ren (selA++ks) (.ref 24)) (Mine.ren (selA++ks) (.ref 26)) false 0) (Mine.ren (selA++ks) (bak selA kp 24 sp')) (pt1 v (r.2+1)) a j (xs.map (Mine.ren (selA++ks))) [] []).take 19++[.list (((tplOf t).map AV.int).map (Mine.ren (selA++ks))),.list []]:=by
     kernel_rfl
    rw [h2,m1,m2,aj (f:=Mine.ren (selA++ks)) (fun z9=>rfl) (fun z9=>rfl) (fun z9=>rfl) p (k:=4) (k':=5) rfl (i8 ⟨rfl,rfl,rfl,rfl,rfl,rfl,rfl,rfl⟩),G.ren (Mine.ren (selA++ks)) fun z9=>rfl,ac (Mine.ren (selA++ks)) fun z9=>rfl];rfl
   obtain ⟨N',hN'⟩:=fu (f:=bak (selA++ks) [] (nn+24)) (F:=AH p t (bak (selA++ks) [] (nn+24) sp1) v1 a1 j1 xs1 (M5 v.zv (MO v1.zv doneS st' en' (bak (selA++ks) [] (nn+24) tl) (bak (selA++ks) [] (nn+24) nr) ir mf) n (stp'.map (bak (selA++ks) [] (nn+24))) [])) (ks:=ks) (Z:=Z') (N:=spanG 3 r.1 r.2 no) hks
   have hlen:(AH p t (bak selA kp 24 sp') (pt1 v (r.2+1)) a j xs (M5 v.zv (MO v.zv askS (r.1+1) (r.2+1) (.ref 24) (.ref 26) false 0) n [] (spanG 3 r.1 r.2 no))).length=nn+24:=by
    show (spanG 3 r.1 r.2 no).length+24=_
    rw [hnn]
   have q4:((pick (RH p t (RO v1.zv doneS st' en' tl nr ir mf) sp1 v1 a1 j1 xs1 stp' Z') []).map fun new=>wback (bak (selA++ks) [] (AH p t (bak selA kp 24 sp') (pt1 v (r.2+1)) a j xs (M5 v.zv (MO v.zv askS (r.1+1) (r.2+1) (.ref 24) (.ref 26) false 0) n [] (spanG 3 r.1 r.2 no))).length) (selA++ks) (RH p t (RO v1.zv doneS st' en' tl nr ir mf) sp1 v1 a1 j1 xs1 stp' Z') (AH p t (bak selA kp 24 sp') (pt1 v (r.2+1)) a j xs (M5 v.zv (MO v.zv askS (r.1+1) (r.2+1) (.ref 24) (.ref 26) false 0) n [] (spanG 3 r.1 r.2 no)))++new.map (mapO (bak (selA++ks) [] (AH p t (bak selA kp 24 sp') (pt1 v (r.2+1)) a j xs (M5 v.zv (MO v.zv askS (r.1+1) (r.2+1) (.ref 24) (.ref 26) false 0) n [] (spanG 3 r.1 r.2 no))).length))) =
     some (AH p t (bak (selA++ks) [] (nn+24) sp1) v1 a1 j1 xs1 (M5 v.zv (MO v1.zv doneS st' en' (bak (selA++ks) [] (nn+24) tl) (bak (selA++ks) [] (nn+24) nr) ir mf) n (stp'.map (bak (selA++ks) [] (nn+24))) N')):=by
    rw [hlen]
    show some (wback _ _ _ _++[])=_
    rw [List.append_nil]
    have h3:wback (bak (selA++ks) [] (nn+24)) (selA++ks) (RH p t (RO v1.zv doneS st' en' tl nr ir mf) sp1 v1 a1 j1 xs1 stp' Z') (AH p t (bak selA kp 24 sp') (pt1 v (r.2+1)) a j xs (M5 v.zv (MO v.zv askS (r.1+1) (r.2+1) (.ref 24) (.ref 26) false 0) n [] (spanG 3 r.1 r.2 no))) =
     wback (bak (selA++ks) [] (nn+24)) ks Z' ((AHx ((cmpL p 5).map (mapO (bak (selA++ks) [] (nn+24)))) t (bak (selA++ks) [] (nn+24) sp1) v1 a1 j1 (xs1.map (bak (selA++ks) [] (nn+24))) []).take 18++.list (((tplOf t).map AV.int).map (bak (selA++ks) [] (nn+24)))::M5 v.zv (MO v1.zv doneS st' en' (bak (selA++ks) [] (nn+24) tl) (bak (selA++ks) [] (nn+24) nr) ir mf) n (stp'.map (bak (selA++ks) [] (nn+24))) (spanG 3 r.1 r.2 no)):=by
     kernel_rfl
    rw [h3,aj (f:=bak (selA++ks) [] (nn+24)) (fun z9=>rfl) (fun z9=>rfl) (fun z9=>rfl) p (k:=5) (k':=4) rfl (i8 ⟨rfl,rfl,rfl,rfl,rfl,rfl,rfl,rfl⟩),g1.ren (bak (selA++ks) [] (nn+24)) fun z9=>rfl,ac (bak (selA++ks) [] (nn+24)) fun z9=>rfl]
    exact congrArg some hN'
   refine ⟨v1,a1,j1,xs1,bak (selA++ks) [] (nn+24) sp1,M5 v.zv (MO v1.zv doneS st' en' (bak (selA++ks) [] (nn+24) tl) (bak (selA++ks) [] (nn+24) nr) ir mf) n (stp'.map (bak (selA++ks) [] (nn+24))) N',g1,g2,?_⟩
   exact con B 90 _ _ [.go 15,.v (.int (n+1)),.go 2,.v (.int v.zv),.go 3,.b false,.go 3,.b false,.go 39,.s (some selA),.go 1,.h (RH p t (RO v.zv askS (n+1) (n+1) .none .opq false 0) (Mine.ren selA sp) v a j xs [] []),.c .none (RH p t (RO v.zv askS (r.1+1) (r.2+1) (.ref 21) (.ref 23) false 0) sp' (pt1 v (r.2+1)) a j xs [] (spanZ r.1 r.2 (nearZ r.2 no++[]))),.s (some kp),.b true,
     .h (AH p t (bak selA kp 24 sp') (pt1 v (r.2+1)) a j xs (M5 v.zv (MO v.zv askS (r.1+1) (r.2+1) (.ref 24) (.ref 26) false 0) n [] (spanG 3 r.1 r.2 no))),.go 2,.s (some (selA++ks)),.b true,.h (RH p t (RO v.zv askS (r.1+1) (r.2+1) (.ref 21) (.ref 23) false 0) (Mine.ren (selA++ks) (bak selA kp 24 sp')) (pt1 v (r.2+1)) a j xs [] (spanG 0 r.1 r.2 no)),.c .none (RH p t (RO v1.zv doneS st' en' tl nr ir mf) sp1 v1 a1 j1 xs1 stp' Z'),.s (some []),.go 1,
     .h (AH p t (bak (selA++ks) [] (nn+24) sp1) v1 a1 j1 xs1 (M5 v.zv (MO v1.zv doneS st' en' (bak (selA++ks) [] (nn+24) tl) (bak (selA++ks) [] (nn+24) nr) ir mf) n (stp'.map (bak (selA++ks) [] (nn+24))) N'))]
    (I2 cm (I2 cx (I2 cl (I2 ch (I2 q1 (I2 hc (I2 (congrArg some hkp) (I2 q2 (I2 (congrArg some hnd) (I2 q3 (I2 (eQ (d:=d+1) g4) (I2 q4 trivial)))))))))))) (by kernel_rfl)
  revert hlk lp
  generalize nearOf (E L) r.1 r.2=no
  intro hlk lp
  cases no with
  | none=>exact fin none [21,22,23] [24,25,26] 3 hlk lp rfl (by decide) (by decide) rfl rfl rfl rfl rfl (by kernel_rfl)
  | some q=>exact fin (some q) [21,22,23,24,25] [24,25,26,27,28] 5 hlk lp rfl (by decide) (by decide) rfl rfl rfl rfl rfl (by kernel_rfl)
end
noncomputable def drawV (D:List Int) (m:Nat):Nat:=match D with | []=>0 | x::_=>(x % (m:Int)).toNat
theorem n0 {σ:Hp} {x:Int} {m:Nat} (h:0<m):binV σ 3 (.int x) (.int m)=some (.int (x % (m:Int)).toNat,σ):=by
 show (if (0:Int)<m then some (AV.int (x % m),σ) else none)=_
 rw [if_pos (by exact aa [_] [] (.ltI (.k 0) (.c N0)) (.ltN (.k 0) N0) [1,1] rfl h),Int.toNat_of_nonneg (Int.emod_nonneg _ (by omega))]
theorem aR {D:List Int} {m:Nat} (h:0<m):drawV D m<m:=by
 cases D with
 | nil=>exact h
 | cons x D =>
  show (x % (m:Int)).toNat<m
  have:=Int.emod_lt_of_pos x (b:=(m:Int)) (by exact aa [_] [] (.ltI (.k 0) (.c N0)) (.ltN (.k 0) N0) [1,1] rfl h)
  have:=Int.emod_nonneg x (b:=(m:Int)) (by omega)
  omega
section
variable {B:Base} {d:Nat} {D L:List Int} {m:Nat}
theorem jg (hm:0<m):Con B (d+1) 99 [.ref 0,.int m] [cD D] (.int (drawV D m)) [cD D.tail,.list []]:=by
 cases D with
 | nil=>exact con B 40 _ _ [] trivial (by kernel_rfl)
 | cons x D=>exact con B 40 _ _ [.go 8,.v (.int (x % (m:Int)).toNat)] (I2 (n0 (σ:=[cD D,.list []]) (x:=x) hm) trivial) (by kernel_rfl)
end
noncomputable def leC1:T:=match b_law_end.body with | [_,.nd _ _ _ [c,_],_,_]=>c | _=>K .none
noncomputable def leB1:List T:=match b_law_end.body with | [_,.nd _ _ _ [_,b],_,_]=>kids b | _=>[]
noncomputable def leC2:T:=match b_law_end.body with | [_,_,.nd _ _ _ [c,_],_]=>c | _=>K .none
noncomputable def leB2:List T:=match b_law_end.body with | [_,_,.nd _ _ _ [_,b],_]=>kids b | _=>[]
noncomputable def lawE (L:List Int) (sign:Int) (least most:Nat) (last:Int) (at_:Nat):Option Nat :=
 if min (rlen sign L at_) most<least then none else if last=0 then some (at_+min (rlen sign L at_) most) else if L[at_+min (rlen sign L at_) most]?=some last then some (at_+min (rlen sign L at_) most+1) else none
noncomputable def resE:Option Nat→AV
 | some e=>.int e
 | none=>.int (-1)
noncomputable def EF (at_:Nat) (sign:Int) (least most:Nat) (last:Int) (many:Int):Fm:=[some (.ref 0),some (.int at_),some (.int sign),some (.int least),some (.int most),some (.int last),some (.int many)]
section
variable {B:Base} {d:Nat} {L:List Int} {at_ least most k i:Nat} {sign last v:Int} {G:Hp}
theorem gL {G:Hp}:biV (cD L::G) 0 [.ref 0]=some (.int L.length,cD L::G):=az (σ:=cD L::G) (l:=0) rfl (List.length_map _)
theorem mW {G:Hp} {n:Nat} (h:L[n]?=some v):idxV (cD L::G) (.ref 0) (.int n)=some (.int v) :=
 aC (xs:=L.map .int) rfl (aP (by rw [List.getElem?_map,h];rfl))
theorem le1 (hL:L.length≤90) (hat:at_≤L.length) (hm:most≤99):∀ {j i:Nat},i+j=min (rlen sign L at_) most→ConW B d leC1 leB1 (EF at_ sign least most last i) [cD L] .next (EF at_ sign least most last (min (rlen sign L at_) most:Nat)) [cD L]:=by
 have hr:=bB (c:=sign) hat
 have hcast:∀ i:Nat,(at_:Int)+i=((at_+i:Nat):Int):=fun i=>by exact au [_,_] [] (.eqI (.a (.c N0) (.c N1)) (.c (.a N0 N1))) [1] [1] rfl
 intro j
 induction j with
 | zero =>
  intro i hi
  have hi:i=min (rlen sign L at_) most:=hi
  rw [← hi]
  by_cases h1:at_+i<L.length
  ·obtain ⟨v,hv⟩:∃ v,L[at_+i]?=some v:=⟨L[at_+i],List.getElem?_eq_getElem h1⟩
   have hx:=mW (G:=[]) hv
   rw [← hcast] at hx
   by_cases h2:v=sign
   ·have h3:¬ (i:Int)<most:=by
     intro h3
     by_cases h4:i=rlen sign L at_
     ·exact eK (c:=sign) (L:=L) (n:=at_) (by rw [← h4,hv,h2])
     ·omega
    exact aQ B 60 _ _ _ [.go 3,.b true,.go 1,.v (.int L.length),.b true,.go 3,.b true,.v (.int v),.go 1,.b true,.go 2,.b false]
     (I2 tI (I2 (gL (L:=L) (G:=[])) (I2 (dT (p:=(at_:Int)+i<L.length) (by exact aa [_,_,_] [] (.ltI (.a (.c N0) (.c N1)) (.c N2)) (.ltN (.a N0 N1) N2) [1,1] rfl h1)) (I2 tI (I2 hx (I2 (dT (p:=v=sign) h2) (I2 (dF (p:=(i:Int)<most) h3) trivial))))))) (by kernel_rfl)
   ·exact aQ B 60 _ _ _ [.go 3,.b true,.go 1,.v (.int L.length),.b true,.go 3,.b true,.v (.int v),.go 1,.b false]
     (I2 tI (I2 (gL (L:=L) (G:=[])) (I2 (dT (p:=(at_:Int)+i<L.length) (by exact aa [_,_,_] [] (.ltI (.a (.c N0) (.c N1)) (.c N2)) (.ltN (.a N0 N1) N2) [1,1] rfl h1)) (I2 tI (I2 hx (I2 (dF (p:=v=sign) h2) trivial)))))) (by kernel_rfl)
  ·exact aQ B 60 _ _ _ [.go 3,.b true,.go 1,.v (.int L.length),.b false]
    (I2 tI (I2 (gL (L:=L) (G:=[])) (I2 (dF (p:=(at_:Int)+i<L.length) (by exact aa [_,_,_] [] (.n (.ltI (.a (.c N0) (.c N1)) (.c N2))) (.n (.ltN (.a N0 N1) N2)) [1,1] rfl h1)) trivial))) (by kernel_rfl)
 | succ j ih =>
  intro i hi
  have hv:L[at_+i]?=some sign:=cP (by exact ag [_,_,_,_] [] (.ltN N0 N1) (.eqN (.a N0 (.a N2 (.k 1))) N3) (.leN N3 N1) [1,1,1] rfl hi (Nat.min_le_left _ _))
  have hx:=mW (G:=[]) hv
  rw [← hcast] at hx
  have hlt:=(List.getElem?_eq_some_iff.mp hv).1
  have hn:=ih (i:=i+1) (by exact aK [_,_,_] [] (.eqN (.a (.a N0 (.k 1)) N1) N2) (.eqN (.a N0 (.a N1 (.k 1))) N2) [1,1] [1,-1] rfl hi)
  exact aQ B 60 _ _ _ [.go 3,.b true,.go 1,.v (.int L.length),.b true,.go 3,.b true,.v (.int sign),.go 1,.b true,.go 2,.b true,.go 1,.b true,.l .next (EF at_ sign least most last (min (rlen sign L at_) most:Nat)) [cD L]]
   (I2 tI (I2 (gL (L:=L) (G:=[])) (I2 (dT (p:=(at_:Int)+i<L.length) (by exact aa [_,_,_] [] (.ltI (.a (.c N0) (.c N1)) (.c N2)) (.ltN (.a N0 N1) N2) [1,1] rfl hlt)) (I2 tI (I2 hx (I2 (dT (p:=sign=sign) rfl) (I2 (dT (p:=(i:Int)<most) (by exact ag [_,_,_,_] [] (.ltI (.c N0) (.c N1)) (.eqN (.a N0 (.a N2 (.k 1))) N3) (.leN N3 N1) [1,1,1] rfl hi (Nat.min_le_right _ _))) (I2 tI (I2 (@hn) trivial))))))))) (by kernel_rfl)
end
theorem dI:∀ {xs:List Int},intsV (xs.map .int)=some xs:=by
 intro xs
 induction xs with
 | nil=>rfl
 | cons x xs ih=>show (intsV (xs.map .int)).map (x::·)=_;rw [ih];rfl
theorem mX {σ:Hp} {i j:Nat} {xs ys:List Int} (h:σ[i]?=some (cD xs)) (h':σ[j]?=some (cD ys)):cmpV σ 0 (.ref i) (.ref j)=some (decide (xs=ys)):=by
 have e1:listAt σ i=some (xs.map .int):=by unfold listAt;rw [h]
 have e2:listAt σ j=some (ys.map .int):=by unfold listAt;rw [h']
 show (match listAt σ i with | some xs=>(match listAt σ j with | some ys=>eqL xs ys | none=>none) | none=>none)=_
 rw [e1,e2]
 show eqL (xs.map .int) (ys.map .int)=_
 unfold eqL
 rw [dI,dI,List.length_map,List.length_map]
 by_cases hl:xs.length≠ys.length
 ·rw [if_pos hl,decide_eq_false (fun e=>hl (by rw [e]))]
 ·rw [if_neg hl]
theorem j8 {L:List Int} {n:Nat} {x:Int}:decide (sub L n (n+1)=[x])=decide (L[n]?=some x):=by
 have:sub L n (n+1)=(L[n]?).toList:=by
  unfold sub
  rw [Nat.add_sub_cancel_left,List.take_one,List.head?_drop]
 rw [this]
 cases L[n]? with
 | none=>rfl
 | some y =>
  show decide ([y]=[x])=decide (some y=some x)
  by_cases h:y=x
  ·rw [h,decide_eq_true rfl,decide_eq_true rfl]
  ·rw [decide_eq_false (fun e=>h (List.cons.inj e).1),decide_eq_false (fun e=>h (Option.some.inj e))]
section
variable {B:Base} {d:Nat} {L:List Int} {at_ least most k i:Nat} {sign last v:Int} {G:Hp}
theorem slL {s e:Nat} (h1:s≤L.length) {e':Int} (h2:e'=e):sliceV (cD L::G) (.ref 0) (.int s) (.int e')=some (.ref (G.length+1),cD L::(G++[cD (sub L s e)])):=by
 subst h2
 by_cases h3:e≤L.length
 ·have:=cb (σ:=cD L::G) (l:=0) (s:=s) (e:=e) rfl (by rw [List.length_map];exact h1) (by rw [List.length_map];exact h3)
  rw [aX] at this
  exact this
 ·show (match sliceL (L.map AV.int) (.int s) (.int e) with | some ys=>some (AV.ref (G.length+1),cD L::(G++[AO.list ys])) | none=>none)=_
  have hs:sliceL (L.map AV.int) (.int s) (.int e)=some ((sub L s e).map .int):=by
   show some (((L.map AV.int).drop (adj (L.map AV.int).length s)).take (adj (L.map AV.int).length e - adj (L.map AV.int).length s))=_
   have ha:adj (L.map AV.int).length (e:Int)=L.length:=by
    unfold adj
    rw [if_neg (by exact ak [_] [] (.n (.ltI (.c N0) (.k 0))) [1] rfl),Int.toNat_natCast,List.length_map,Nat.min_eq_right (by exact aa [_,_] [] (.leN N0 N1) (.n (.leN N1 N0)) [1,1] rfl h3)]
   rw [bC (i:=s) (by rw [List.length_map];exact h1),ha,← aX]
   unfold sub
   rw [List.take_of_length_le (by rw [List.length_drop,List.length_map];exact ak [_] [] (.leN N0 N0) [1] rfl),List.take_of_length_le (by rw [List.length_drop,List.length_map];exact aq [_,_,_,_,_] [] (.leN N0 N1) (.n (.leN N2 N3)) (.leN N2 (.a N1 N4)) (.eqN (.a N0 N4) N3) [1,1,1,1] rfl h3 (af _ _) (ab (h1)))]
  rw [hs]
theorem j9 {σ σ':Hp} {xs:List AV} {k:Nat} (hl:xs.length≤10000) (hk:σ.length=k) (hσ:σ++[.list xs]=σ'):allocL xs σ=some (.ref k,σ'):=by
 unfold allocL
 rw [if_pos (show xs.length≤LIM from hl),hk,hσ]
theorem g1 {σ:Hp} {a:AO}:(σ++[a])[σ.length]?=some a:=List.getElem?_concat_length
theorem mY:cmpV (cD L::(G++[cD (sub L (at_+k) (at_+k+1)),cD [last]])) 0 (.ref (G.length+1)) (.ref (G.length+2))=some (decide (L[at_+k]?=some last)):=by
 rw [← j8]
 refine mX ?_ ?_
 ·show (G++[_,_])[G.length]?=_
  rw [List.getElem?_append_right (Nat.le_refl _),Nat.sub_self];rfl
 ·show (G++[_,_])[G.length+1]?=_
  rw [List.getElem?_append_right (Nat.le_add_right _ _),Nat.add_sub_cancel_left];rfl
theorem lZ:allocL [.int last] (cD L::(G++[cD (sub L (at_+k) (at_+k+1))]))=some (.ref (G.length+2),cD L::(G++[cD (sub L (at_+k) (at_+k+1)),cD [last]])) :=
 j9 (by show 1≤10000;exact ak [] [] (.leN (.k 1) (.k 10000)) [1] rfl) (by show (G++[_]).length+1=_;rw [List.length_append];rfl) (by show cD L::((G++[_])++[_])=_;rw [List.append_assoc];rfl)
theorem n5 (hL:L.length≤90) (h0:last≠0):∀ {k:Nat} {G:Hp} {many:Int},many=(k:Int) - 1→at_+k≤L.length+1→(∀ i,i<k→L[at_+i]?≠some last)→∃ fr' G',ConW B d leC2 leB2 (EF at_ sign least most last many) (cD L::G) .next fr' (cD L::G'):=by
 intro k
 induction k with
 | zero =>
  intro G many hm _ _
  exact ⟨EF at_ sign least most last many,G,aQ B 60 _ _ _ [.go 3,.b false] (I2 (dF (p:=many ≥ (least:Int)) (by exact aa [_] [_] (.n (.leI (.c N0) J0)) (.eqI J0 (.s (.c (.k 0)) (.k 1))) [1,1] rfl hm)) trivial) (by kernel_rfl)⟩
 | succ k ih =>
  intro G many hm hk hno
  obtain rfl:many=(k:Int):=by exact aK [_] [_] (.eqI J0 (.c N0)) (.eqI J0 (.s (.c (.a N0 (.k 1))) (.k 1))) [1,1] [1,-1] rfl hm
  by_cases hle:least≤k
  ·obtain ⟨fr',G',hc⟩:=ih (G:=G++[cD (sub L (at_+k) (at_+k+1)),cD [last]]) (many:=(k:Int) - 1) rfl (by exact aa [_,_,_] [] (.leN (.a N0 N1) (.a N2 (.k 1))) (.leN (.a N0 (.a N1 (.k 1))) (.a N2 (.k 1))) [1,1] rfl hk) (fun i hi=>hno i (by exact aa [_,_] [] (.ltN N0 (.a N1 (.k 1))) (.ltN N0 N1) [1,1] rfl hi))
   refine ⟨fr',G',?_⟩
   have e1:(at_:Int)+k=((at_+k:Nat):Int):=by exact au [_,_] [] (.eqI (.a (.c N0) (.c N1)) (.c (.a N0 N1))) [1] [1] rfl
   have hs:=slL (L:=L) (G:=G) (s:=at_+k) (e:=at_+k+1) (e':=(at_:Int)+k+1) (by exact aa [_,_,_] [] (.leN (.a N0 N1) N2) (.leN (.a N0 (.a N1 (.k 1))) (.a N2 (.k 1))) [1,1] rfl hk) (by exact au [_,_] [] (.eqI (.a (.a (.c N0) (.c N1)) (.k 1)) (.c (.a (.a N0 N1) (.k 1)))) [1] [1] rfl)
   rw [← e1] at hs
   have hq:=mY (L:=L) (G:=G) (at_:=at_) (k:=k) (last:=last)
   rw [decide_eq_false (hno k (by exact ak [_] [] (.ltN N0 (.a N0 (.k 1))) [1] rfl))] at hq
   exact aQ B 60 _ _ _ [.go 3,.b true,.go 1,.b false,.go 3,.b true,.go 2,.b true,.b true,.vh (.ref (G.length+1)) (cD L::(G++[cD (sub L (at_+k) (at_+k+1))])),.go 1,.vh (.ref (G.length+2)) (cD L::(G++[cD (sub L (at_+k) (at_+k+1)),cD [last]])),.b false,.go 1,.b true,.l .next fr' (cD L::G')]
    (I2 (dT (p:=(k:Int) ≥ least) (by exact aa [_,_] [] (.leI (.c N0) (.c N1)) (.leN N0 N1) [1,1] rfl hle)) (I2 (dF (p:=last=0) h0) (I2 tI (I2 tI (I2 tI (I2 hs (I2 (lZ (L:=L) (G:=G) (at_:=at_) (k:=k) (last:=last)) (I2 hq (I2 tI (I2 (@hc) trivial)))))))))) (by kernel_rfl)
  ·exact ⟨EF at_ sign least most last k,G,aQ B 60 _ _ _ [.go 3,.b false] (I2 (dF (p:=(k:Int) ≥ (least:Int)) (by exact aa [_,_] [] (.n (.leI (.c N0) (.c N1))) (.n (.leN N0 N1)) [1,1] rfl hle)) trivial) (by kernel_rfl)⟩
theorem le2 (hL:L.length≤90) (hsl:sign≠last) (hk:at_+k≤L.length) (hrun:∀ i,i<k→L[at_+i]?=some sign) :
  ∃ w fr' G',ConW B d leC2 leB2 (EF at_ sign least most last k) (cD L::G) w fr' (cD L::G')∧(match (if k<least then none else if last=0 then some (at_+k) else if L[at_+k]?=some last then some (at_+k+1) else none:Option Nat) with | some q=>w=.ret (.int q) | none=>w=.next):=by
 by_cases hle:k<least
 ·rw [if_pos hle]
  exact ⟨.next,EF at_ sign least most last k,G,aQ B 60 _ _ _ [.go 3,.b false] (I2 (dF (p:=(k:Int) ≥ (least:Int)) (by exact aa [_,_] [] (.n (.leI (.c N0) (.c N1))) (.ltN N1 N0) [1,1] rfl hle)) trivial) (by kernel_rfl),rfl⟩
 ·rw [if_neg hle]
  by_cases h0:last=0
  ·rw [if_pos h0]
   refine ⟨.ret (.int (at_+k:Nat)),EF at_ sign least most last k,G,?_,rfl⟩
   exact aQ B 60 _ _ _ [.go 3,.b true,.go 1,.b true,.go 2,.b true]
    (I2 (dT (p:=(k:Int) ≥ least) (by exact aa [_,_] [] (.leI (.c N0) (.c N1)) (.n (.ltN N1 N0)) [1,1] rfl hle)) (I2 (dT (p:=last=0) h0) (I2 tI trivial))) (by kernel_rfl)
  ·rw [if_neg h0]
   have e1:(at_:Int)+k=((at_+k:Nat):Int):=by exact au [_,_] [] (.eqI (.a (.c N0) (.c N1)) (.c (.a N0 N1))) [1] [1] rfl
   have hs:=slL (L:=L) (G:=G) (s:=at_+k) (e:=at_+k+1) (e':=(at_:Int)+k+1) hk (by exact au [_,_] [] (.eqI (.a (.a (.c N0) (.c N1)) (.k 1)) (.c (.a (.a N0 N1) (.k 1)))) [1] [1] rfl)
   rw [← e1] at hs
   have hq:=mY (L:=L) (G:=G) (at_:=at_) (k:=k) (last:=last)
   by_cases hv:L[at_+k]?=some last
   ·rw [if_pos hv]
    rw [decide_eq_true hv] at hq
    refine ⟨.ret (.int (at_+k+1:Nat)),EF at_ sign least most last k,G++[cD (sub L (at_+k) (at_+k+1)),cD [last]],?_,rfl⟩
    exact aQ B 60 _ _ _ [.go 3,.b true,.go 1,.b false,.go 3,.b true,.go 2,.b true,.b true,.vh (.ref (G.length+1)) (cD L::(G++[cD (sub L (at_+k) (at_+k+1))])),.go 1,.vh (.ref (G.length+2)) (cD L::(G++[cD (sub L (at_+k) (at_+k+1)),cD [last]])),.b true,.go 2,.b true,.b true]
     (I2 (dT (p:=(k:Int) ≥ least) (by exact aa [_,_] [] (.leI (.c N0) (.c N1)) (.n (.ltN N1 N0)) [1,1] rfl hle)) (I2 (dF (p:=last=0) h0) (I2 tI (I2 tI (I2 tI (I2 hs (I2 (lZ (L:=L) (G:=G) (at_:=at_) (k:=k) (last:=last)) (I2 hq (I2 tI (I2 tI trivial)))))))))) (by kernel_rfl)
   ·rw [if_neg hv]
    rw [decide_eq_false hv] at hq
    obtain ⟨fr',G',hc⟩:=n5 (B:=B) (d:=d) (L:=L) (at_:=at_) (least:=least) (most:=most) (sign:=sign) (k:=k) (G:=G++[cD (sub L (at_+k) (at_+k+1)),cD [last]]) (many:=(k:Int) - 1) hL h0 rfl (by exact aa [_,_,_] [] (.leN (.a N0 N1) (.a N2 (.k 1))) (.leN (.a N0 N1) N2) [1,1] rfl hk) (fun i hi e=>hsl (Option.some.inj ((hrun i hi).symm.trans e)))
    refine ⟨.next,fr',G',?_,rfl⟩
    exact aQ B 60 _ _ _ [.go 3,.b true,.go 1,.b false,.go 3,.b true,.go 2,.b true,.b true,.vh (.ref (G.length+1)) (cD L::(G++[cD (sub L (at_+k) (at_+k+1))])),.go 1,.vh (.ref (G.length+2)) (cD L::(G++[cD (sub L (at_+k) (at_+k+1)),cD [last]])),.b false,.go 1,.b true,.l .next fr' (cD L::G')]
     (I2 (dT (p:=(k:Int) ≥ least) (by exact aa [_,_] [] (.leI (.c N0) (.c N1)) (.n (.ltN N1 N0)) [1,1] rfl hle)) (I2 (dF (p:=last=0) h0) (I2 tI (I2 tI (I2 tI (I2 hs (I2 (lZ (L:=L) (G:=G) (at_:=at_) (k:=k) (last:=last)) (I2 hq (I2 tI (I2 (@hc) trivial)))))))))) (by kernel_rfl)
theorem jh (hB:B.side=false) (hL:L.length≤90) (hsl:sign≠last) (hat:at_≤L.length) (hm:most≤99):∃ G',Con B (d+1) 100 [.ref 0,.int at_,.int sign,.int least,.int most,.int last] [cD L] (resE (lawE L sign least most last at_)) (cD L::G'):=by
 have hr:=bB (c:=sign) hat
 have h1:=le1 (B:=B) (d:=d) (L:=L) (least:=least) (last:=last) (sign:=sign) hL hat hm (i:=0) (j:=min (rlen sign L at_) most) (Nat.zero_add _)
 obtain ⟨w,fr',G',h2,hw⟩:=le2 (B:=B) (d:=d) (L:=L) (least:=least) (most:=most) (last:=last) (sign:=sign) (at_:=at_) (k:=min (rlen sign L at_) most) (G:=[]) hL hsl (by exact ag [_,_,_,_] [] (.leN (.a N0 N1) N2) (.leN (.a N0 N3) N2) (.leN N1 N3) [1,1,1] rfl hr (Nat.min_le_left _ _)) (fun i hi=>cP (by exact ag [_,_,_] [] (.ltN N0 N1) (.ltN N0 N2) (.leN N2 N1) [1,1,1] rfl hi (Nat.min_le_left _ _)))
 obtain ⟨_,_,_,_,_,_⟩:=B
 cases hB
 refine ⟨G',?_⟩
 unfold lawE
 revert hw
 generalize (if min (rlen sign L at_) most<least then none else if last=0 then some (at_+min (rlen sign L at_) most) else if L[at_+min (rlen sign L at_) most]?=some last then some (at_+min (rlen sign L at_) most+1) else none:Option Nat)=r
 intro hw
 cases r with
 | none =>
  have hw:w=.next:=hw
  subst hw
  exact con _ 60 _ _ [.go 1,.l .next (EF at_ sign least most last (min (rlen sign L at_) most:Nat)) [cD L],.l .next fr' (cD L::G')] (I2 (@h1) (I2 (@h2) trivial)) (by kernel_rfl)
 | some q =>
  have hw:w=.ret (.int q):=hw
  subst hw
  exact con _ 60 _ _ [.go 1,.l .next (EF at_ sign least most last (min (rlen sign L at_) most:Nat)) [cD L],.l (.ret (.int q)) fr' (cD L::G')] (I2 (@h1) (I2 (@h2) trivial)) (by kernel_rfl)
noncomputable def lfT:T:=match b_law_first.body with | [.nd _ _ _ [t,_,_],_]=>t | _=>stk
noncomputable def lfB:List T:=match b_law_first.body with | [.nd _ _ _ [_,_,b],_]=>kids b | _=>[]
noncomputable def LZ (at_:Nat) (sign:Int) (least most:Nat) (last:Int) (b e:Option AV):Fm:=[some (.ref 0),some (.int at_),some (.int sign),some (.int least),some (.int most),some (.int last),b,e]
theorem lf1 (hB:B.side=false) (hL:L.length≤90) (hsl:sign≠last) (hm:most≤99):∀ f s,s+f=L.length+1→∀ {b e:Option AV},match search (lawE L sign least most last) f s with
  | none=>∃ fr',ConF B (d+1) lfT (.rng s (L.length+1)) lfB (LZ at_ sign least most last b e) [cD L] .next fr' [cD L]
  | some r=>∃ fr',ConF B (d+1) lfT (.rng s (L.length+1)) lfB (LZ at_ sign least most last b e) [cD L] (.ret (.ref 1)) fr' [cD L,tt r.1 r.2]:=by
 intro f
 induction f with
 | zero =>
  intro s hs b e
  exact ⟨LZ at_ sign least most last b e,gJ B 20 _ _ _ _ [.go 1,.b false] (I2 (lM (σ:=[cD L]) (a:=(s:Int)) (b:=(L.length:Int)+1) (by exact aa [_,_] [] (.n (.ltI (.c N0) (.a (.c N1) (.k 1)))) (.eqN (.a N0 (.k 0)) (.a N1 (.k 1))) [1,-1] rfl hs)) trivial) (by kernel_rfl)⟩
 | succ f ih =>
  intro s hs b e
  obtain ⟨G',hc⟩:=jh (B:=B) (d:=d) (L:=L) (at_:=s) (least:=least) (most:=most) (last:=last) (sign:=sign) hB hL hsl (by exact aa [_,_,_] [] (.leN N0 N1) (.eqN (.a N0 (.a N2 (.k 1))) (.a N1 (.k 1))) [1,1] rfl hs) hm
  have q1:((pick [cD L] [0]).map fun sub=>sub.map (mapO (Mine.ren [0])))=some [cD L] :=
   Eq.trans (b:=some [.list ((L.map AV.int).map (Mine.ren [0]))]) (by kernel_rfl) (by rw [ac (Mine.ren [0]) fun z9=>rfl])
  have q2:((pick (cD L::G') []).map fun new=>wback (bak [0] [] 1) [0] (cD L::G') [cD L]++new.map (mapO (bak [0] [] 1)))=some [cD L] :=
   Eq.trans (b:=some [.list ((L.map AV.int).map (bak [0] [] 1))]) (by kernel_rfl) (by rw [ac (bak [0] [] 1) fun z9=>rfl])
  unfold search
  cases hE:lawE L sign least most last s with
  | none =>
   rw [hE] at hc
   have hi:=ih (s+1) (by exact aK [_,_,_] [] (.eqN (.a (.a N0 (.k 1)) N1) (.a N2 (.k 1))) (.eqN (.a N0 (.a N1 (.k 1))) (.a N2 (.k 1))) [1,1] [1,-1] rfl hs) (b:=some (.int s)) (e:=some (.int (-1)))
   have go:∀ w fr' σ',ConF B (d+1) lfT (.rng ((s+1:Nat):Int) (L.length+1)) lfB (LZ at_ sign least most last (some (.int s)) (some (.int (-1)))) [cD L] w fr' σ'→ConF B (d+1) lfT (.rng s (L.length+1)) lfB (LZ at_ sign least most last b e) [cD L] w fr' σ':=fun w fr' σ' hn =>
    gJ B 40 _ _ _ _ [.go 1,.b true,.go 6,.s (some [0]),.go 1,.h [cD L],.c (.int (-1)) (cD L::G'),.s (some []),.go 1,.h [cD L],.go 2,.l w fr' σ']
     (I2 (iX (σ:=[cD L]) (a:=(s:Int)) (b:=(L.length:Int)+1) (by exact aa [_,_,_] [] (.ltI (.c N0) (.a (.c N1) (.k 1))) (.eqN (.a N0 (.a N2 (.k 1))) (.a N1 (.k 1))) [1,1] rfl hs)) (I2 q1 (I2 hc (I2 q2 (I2 hn trivial))))) (by kernel_rfl)
   dsimp only
   revert hi
   cases search (lawE L sign least most last) f (s+1) with
   | none=>exact fun ⟨fr',h⟩=>⟨fr',go _ _ _ h⟩
   | some r=>exact fun ⟨fr',h⟩=>⟨fr',go _ _ _ h⟩
  | some q =>
   rw [hE] at hc
   exact ⟨LZ at_ sign least most last (some (.int s)) (some (.int q)),gJ B 40 _ _ _ _ [.go 1,.b true,.go 6,.s (some [0]),.go 1,.h [cD L],.c (.int q) (cD L::G'),.s (some []),.go 1,.h [cD L],.go 1,.b true]
     (I2 (iX (σ:=[cD L]) (a:=(s:Int)) (b:=(L.length:Int)+1) (by exact aa [_,_,_] [] (.ltI (.c N0) (.a (.c N1) (.k 1))) (.eqN (.a N0 (.a N2 (.k 1))) (.a N1 (.k 1))) [1,1] rfl hs)) (I2 q1 (I2 hc (I2 q2 (I2 (dT (p:=(q:Int) ≥ 0) (by exact ak [_] [] (.leI (.k 0) (.c N0)) [1] rfl)) trivial))))) (by kernel_rfl)⟩
theorem eR (hB:B.side=false) (hL:L.length≤90) (hsl:sign≠last) (hat:at_≤L.length) (hm:most≤99):match search (lawE L sign least most last) (L.length+1 - at_) at_ with
  | none=>Con B (d+2) 101 [.ref 0,.int at_,.int sign,.int least,.int most,.int last] [cD L] .none [cD L]
  | some r=>Con B (d+2) 101 [.ref 0,.int at_,.int sign,.int least,.int most,.int last] [cD L] (.ref 1) [cD L,tt r.1 r.2]:=by
 have hi:=lf1 (B:=B) (d:=d) (at_:=at_) (least:=least) (most:=most) (last:=last) (sign:=sign) hB hL hsl hm (L.length+1 - at_) at_ (by exact aB [_,_,_] [] (.eqN (.a N0 N1) (.a N2 (.k 1))) (.leN (.a N2 (.k 1)) (.a N1 N0)) (.eqN (.a N1 N0) (.a N2 (.k 1))) [1,0,1] [1,1,0] rfl (af _ _) (ab (aa [_,_] [] (.leN N0 (.a N1 (.k 1))) (.leN N0 N1) [1,1] rfl hat))) (b:=none) (e:=none)
 obtain ⟨_,_,_,_,_,_⟩:=B
 cases hB
 revert hi
 cases search (lawE L sign least most last) (L.length+1 - at_) at_ with
 | none =>
  exact fun ⟨fr',h⟩=>con _ 60 _ _ [.go 3,.v (.int L.length),.b true,.b true,.b true,.l .next fr' [cD L]]
   (I2 (gL (L:=L) (G:=[])) (I2 tI (I2 (sZ (i:=(at_:Int)) (by exact I2 (ak [_] [] (.leI (.k 0) (.c N0)) [1] rfl) (ag [_,_] [] (.leI (.c N0) (.k 1000)) (.leN N1 (.k 90)) (.leN N0 N1) [1,1,1] rfl hL hat))) (I2 (sZ (i:=(L.length:Int)+1) (by exact I2 (ak [_] [] (.leI (.k 0) (.a (.c N0) (.k 1))) [1] rfl) (aa [_] [] (.leI (.a (.c N0) (.k 1)) (.k 1000)) (.leN N0 (.k 90)) [1,1] rfl hL))) (I2 h trivial))))) (by kernel_rfl)
 | some r =>
  exact fun ⟨fr',h⟩=>con _ 60 _ _ [.go 3,.v (.int L.length),.b true,.b true,.b true,.l (.ret (.ref 1)) fr' [cD L,tt r.1 r.2]]
   (I2 (gL (L:=L) (G:=[])) (I2 tI (I2 (sZ (i:=(at_:Int)) (by exact I2 (ak [_] [] (.leI (.k 0) (.c N0)) [1] rfl) (ag [_,_] [] (.leI (.c N0) (.k 1000)) (.leN N1 (.k 90)) (.leN N0 N1) [1,1,1] rfl hL hat))) (I2 (sZ (i:=(L.length:Int)+1) (by exact I2 (ak [_] [] (.leI (.k 0) (.a (.c N0) (.k 1))) [1] rfl) (aa [_] [] (.leI (.a (.c N0) (.k 1)) (.k 1000)) (.leN N0 (.k 90)) [1,1] rfl hL))) (I2 h trivial))))) (by kernel_rfl)
end
noncomputable def lwC:T:=match b_law_walk.body with | [_,.nd _ _ _ [c,_],_]=>c | _=>K .none
noncomputable def lwB:List T:=match b_law_walk.body with | [_,.nd _ _ _ [_,b],_]=>kids b | _=>[]
noncomputable def wayOf:Tm→Nat | .w0=>0 | .w1=>1 | _=>2
noncomputable def nearB (E:Nat→Option Nat) (b e:Nat):Bool:=decide (b<e) && (match E e with | some q=>decide (e<q) | none=>false)
noncomputable def walkL (E:Nat→Option Nat) (t:Tm) (L:List Int):Nat→Nat→Nat→List Int→Nat→Option (List Int×Nat)
 | 0,_,_,_,_=>none
 | f+1,at_,done,F,m=>match lookR E L at_ with
  | none=>some (F++L.drop done,m)
  | some r=>walkL E t L f (if nearB E r.1 r.2=true then r.2 else r.2+1) r.2 (F++sub L done r.1++newOf t (sub L r.1 r.2)) (m+1)
noncomputable abbrev XH (o:AO) (L:List Int) (G N:Hp):Hp:=o::cD L::(G++N)
section
variable {B:Base} {d:Nat} {L F:List Int} {at_ least most start many done:Nat} {sign last:Int} {o:AO} {G N:Hp} {t:Tm}
theorem cg {k:Nat}:(XH o L G N)[G.length+(k+2)]?=N[k]?:=by
 show (G++N)[G.length+k]?=_
 rw [List.getElem?_append_right (Nat.le_add_right _ _),Nat.add_sub_cancel_left]
theorem kL {fi:Nat} {a:AO} (h:(o::cD L::G)[fi]?=some a):(XH o L G N)[fi]?=some a:=by
 have hl:=(List.getElem?_eq_some_iff.mp h).1
 have:XH o L G N=(o::cD L::G)++N:=rfl
 rw [this,List.getElem?_append_left hl]
 exact h
theorem slX {s e:Nat} (h1:s≤L.length) (h2:e≤L.length):sliceV (XH o L G N) (.ref 1) (.int s) (.int e)=some (.ref (G.length+(N.length+2)),XH o L G (N++[cD (sub L s e)])):=by
 have:=cb (σ:=XH o L G N) (l:=1) (s:=s) (e:=e) rfl (by rw [List.length_map];exact h1) (by rw [List.length_map];exact h2)
 rw [aX] at this
 rw [this]
 show some (AV.ref ((G++N).length+2),o::cD L::((G++N)++[_]))=_
 rw [List.length_append,List.append_assoc,Nat.add_assoc]
theorem n6 {s:Nat} (h1:s≤L.length):sliceV (o::cD L::G) (.ref 1) (.int s) .none=some (.ref (G.length+2),o::cD L::(G++[cD (L.drop s)])):=by
 show (match sliceL (L.map AV.int) (.int s) .none with | some ys=>some (AV.ref (G.length+2),o::cD L::(G++[AO.list ys])) | none=>none)=_
 have hs:sliceL (L.map AV.int) (.int s) .none=some ((L.drop s).map .int):=by
  show some (((L.map AV.int).drop (adj (L.map AV.int).length s)).take ((L.map AV.int).length - adj (L.map AV.int).length s))=_
  rw [bC (i:=s) (by rw [List.length_map];exact h1),List.take_of_length_le (by rw [List.length_drop];exact Nat.le_refl _),List.map_drop]
 rw [hs]
theorem ka {i j:Nat} {xs ys:List Int} (h:(XH o L G N)[i]?=some (cD xs)) (h':(XH o L G N)[j]?=some (cD ys)) (hl:xs.length+ys.length≤5000):binV (XH o L G N) 0 (.ref i) (.ref j)=some (.ref (G.length+(N.length+2)),XH o L G (N++[cD (xs++ys)])):=by
 have:=iY (σ:=XH o L G N) h h' (by rw [List.length_map,List.length_map];exact aa [_,_] [] (.leN (.a N0 N1) (.k 10000)) (.leN (.a N0 N1) (.k 5000)) [1,1] rfl hl)
 rw [← List.map_append] at this
 rw [this]
 show some (AV.ref ((G++N).length+2),o::cD L::((G++N)++[_]))=_
 rw [List.length_append,List.append_assoc,Nat.add_assoc]
theorem alX {xs:List AV} (hl:xs.length≤5000):allocL xs (XH o L G N)=some (.ref (G.length+(N.length+2)),XH o L G (N++[.list xs])) :=
 j9 (Nat.le_trans hl (by decide)) (by show (G++N).length+2=_;rw [List.length_append,Nat.add_assoc]) (by show o::cD L::((G++N)++[_])=_;rw [List.append_assoc])
noncomputable def WF (start:Nat) (sign:Int) (least most:Nat) (last:Int) (way fi many done at_:Nat) (o1 o2 o3 o4 o5:Option AV):Fm :=
 [some (.ref 1),some (.int start),some (.int sign),some (.int least),some (.int most),some (.int last),some (.int way),some (.ref fi),some (.int many),some (.int done),some (.int at_),o1,o2,o3,o4,o5]
noncomputable abbrev w1 (b e:Nat):Hp:=[tt b e]
noncomputable abbrev w2 (L:List Int) (b e:Nat):Hp:=[tt b e,cD (sub L b e)]
noncomputable abbrev w3 (L:List Int) (done b e:Nat):Hp:=[tt b e,cD (sub L b e),cD (sub L done b)]
noncomputable abbrev w4 (L F:List Int) (done b e:Nat):Hp:=[tt b e,cD (sub L b e),cD (sub L done b),cD (F++sub L done b)]
noncomputable abbrev w7 (L F:List Int) (done b e:Nat) (Z:Hp):Hp:=tt b e::cD (sub L b e)::cD (sub L done b)::cD (F++sub L done b)::cD [45]::cD []::cD (sub L b e++sub L b e)::Z
noncomputable abbrev wL (g:Nat):AO:=.list [.ref (g+6),.ref (g+7),.ref (g+8)]
noncomputable abbrev w9 (L F:List Int) (t:Tm) (g done b e:Nat) (Z:Hp):Hp:=w7 L F done b e (wL g::cD (F++sub L done b++newOf t (sub L b e))::Z)
noncomputable abbrev wA (L F:List Int) (t:Tm) (g done b e many:Nat):Hp:=w9 L F t g done b e [.tup [.int (many+1),.int e]]
noncomputable abbrev XT (o:AO) (L F:List Int) (t:Tm) (G:Hp) (done b e many:Nat):Hp:=o::cD L::((G++w9 L F t G.length done b e [])++[.tup [.int (many+1),.int e]])
theorem XTe {b e:Nat}:XT o L F t G done b e many=XH o L G (wA L F t G.length done b e many):=by
 show o::cD L::((G++_)++[_])=_
 rw [List.append_assoc];rfl
theorem eS {G':Hp}:((pick (o::cD L::G') [1]).map fun sub=>sub.map (mapO (Mine.ren [1])))=some [cD L] :=
 Eq.trans (b:=some [.list ((L.map AV.int).map (Mine.ren [1]))]) (by kernel_rfl) (by rw [ac (Mine.ren [1]) fun z9=>rfl])
noncomputable def lwS (o:AO) (L F:List Int) (G:Hp) (t:Tm) (done b e many:Nat) (r:List Sc):List Sc:=.go 3::.v (.int L.length)::.b true::.go 6::.s (some [1])::.go 1::.h [cD L]::.c (.ref 1) [cD L,tt b e]::.s (some [1])::.go 1::.h (XH o L G (w1 b e))::.go 3::.o (tt b e)::.go 3::.vh (.ref (G.length+3)) (XH o L G (w2 L b e))::.go 4::.vh (.ref (G.length+4)) (XH o L G (w3 L done b e)) ::
 .vh (.ref (G.length+5)) (XH o L G (w4 L F done b e))::.vh (.ref (G.length+6)) (XH o L G [tt b e,cD (sub L b e),cD (sub L done b),cD (F++sub L done b),cD [45]])::.vh (.ref (G.length+7)) (XH o L G [tt b e,cD (sub L b e),cD (sub L done b),cD (F++sub L done b),cD [45],cD []])::.go 2::.vh (.ref (G.length+8)) (XH o L G (w7 L F done b e []))::.vh (.ref (G.length+9)) (XH o L G (w7 L F done b e [wL G.length]))::.go 1::.v (.ref (G.length+6+wayOf t)) ::
 .vh (.ref (G.length+10)) (XH o L G (w9 L F t G.length done b e []))::.go 1::.b true::.go 3::r
theorem mZ (hB:B.side=false) (ht:t≠.w3) (hL:L.length≤90) (hsl:sign≠last) (hm:most≤99) (hF:F.length≤4000) (hd:done≤at_) (hmany:many≤900) {r:Nat×Nat} (hr:lookR (lawE L sign least most last) L at_=some r) (hI:r.1≤r.2∧r.2≤L.length) {fi:Nat} (hfi:(o::cD L::G)[fi]?=some (cD F)) {o1 o2 o3 o4 o5:Option AV} {w:Fw} {fr':Fm} {σ':Hp} {p5:AV}
  (hp5:p5=.bool (nearB (lawE L sign least most last) r.1 r.2))
  (hn:ConW B (d+2) lwC lwB (WF start sign least most last (wayOf t) (G.length+10) (many+1) r.2 (if nearB (lawE L sign least most last) r.1 r.2=true then r.2 else r.2+1) (some (.ref (G.length+2))) (some (.int r.1)) (some (.int r.2)) (some (.ref (G.length+3))) (some p5)) (XH o L G (wA L F t G.length done r.1 r.2 many)) w fr' σ') :
  ConW B (d+2) lwC lwB (WF start sign least most last (wayOf t) fi many done at_ o1 o2 o3 o4 o5) (o::cD L::G) w fr' σ':=by
 subst hp5
 obtain ⟨b,e⟩:=r
 obtain ⟨hb1,hb2⟩:=hI
 have hat:at_<L.length∧search (lawE L sign least most last) (L.length+1 - at_) at_=some (b,e):=by
  unfold lookR at hr
  split at hr
  ·rename_i h;exact ⟨h,hr⟩
  ·exact nS hr
 obtain ⟨hab,_⟩:=bu hat.2
 have hab:at_≤b:=hab
 have h101:=eR (B:=B) (d:=d) (L:=L) (at_:=at_) (least:=least) (most:=most) (last:=last) (sign:=sign) hB hL hsl (by exact aa [_,_] [] (.leN N0 N1) (.ltN N0 N1) [1,1] rfl hat.1) hm
 rw [hat.2] at h101
 have q2:((pick [cD L,tt b e] [1]).map fun new=>wback (bak [1] [1] (G.length+2)) [1] [cD L,tt b e] (o::cD L::G)++new.map (mapO (bak [1] [1] (G.length+2))))=some (XH o L G (w1 b e)) :=
  Eq.trans (b:=some (o::.list ((L.map AV.int).map (bak [1] [1] (G.length+2)))::(G++w1 b e))) (by kernel_rfl) (by rw [ac (bak [1] [1] (G.length+2)) fun z9=>rfl])
 have hsb:(sub L b e).length≤90:=by unfold sub;rw [List.length_take,List.length_drop];exact aq [_,_,_] [] (.leN N0 (.k 90)) (.leN N1 (.k 90)) (.leN N2 N1) (.leN N0 N2) [1,1,1,1] rfl hL (Nat.sub_le _ _) (Nat.min_le_right _ _)
 have hsd:(sub L done b).length≤90:=by unfold sub;rw [List.length_take,List.length_drop];exact aq [_,_,_] [] (.leN N0 (.k 90)) (.leN N1 (.k 90)) (.leN N2 N1) (.leN N0 N2) [1,1,1,1] rfl hL (Nat.sub_le _ _) (Nat.min_le_right _ _)
 have a1:=ka (o:=o) (L:=L) (G:=G) (N:=w3 L done b e) (i:=fi) (j:=G.length+4) (kL hfi) (cg (k:=2)) (by exact ag [_,_] [] (.leN (.a N0 N1) (.k 5000)) (.leN N0 (.k 4000)) (.leN N1 (.k 90)) [1,1,1] rfl hF hsd)
 have a2:=ka (o:=o) (L:=L) (G:=G) (N:=[tt b e,cD (sub L b e),cD (sub L done b),cD (F++sub L done b),cD [45],cD []]) (i:=G.length+3) (j:=G.length+3) (cg (k:=1)) (cg (k:=1)) (by exact aa [_] [] (.leN (.a N0 N0) (.k 5000)) (.leN N0 (.k 90)) [1,2] rfl hsb)
 have hx:idxV (XH o L G (w7 L F done b e [wL G.length])) (.ref (G.length+9)) (.int (wayOf t))=some (.ref (G.length+6+wayOf t)):=by
  refine aC (cg (k:=7)) (aP ?_)
  cases t <;> rfl
 have hw:(XH o L G (w7 L F done b e [wL G.length]))[G.length+6+wayOf t]?=some (cD (newOf t (sub L b e))):=by
  cases t with
  | w0=>exact cg (k:=4)
  | w1=>exact cg (k:=5)
  | w2=>exact cg (k:=6)
  | w3=>exact absurd rfl ht
 have hnl:=aN (t:=t) (own:=sub L b e)
 have a3:=ka (o:=o) (L:=L) (G:=G) (N:=w7 L F done b e [wL G.length]) (i:=G.length+5) (j:=G.length+6+wayOf t) (cg (k:=3)) hw (by rw [List.length_append];exact bR [_,_,_,_] [] (.leN (.a (.a N0 N1) N2) (.k 5000)) (.leN N0 (.k 4000)) (.leN N3 (.k 90)) (.leN N1 (.k 90)) (.leN N2 (.a (.m 2 N3) (.k 2))) [1,1,2,1,1] rfl hF hsb hsd hnl)
 have pre:=fun (P:Prop) (hp:P)=>I2 (az (σ:=o::cD L::G) (l:=1) rfl (List.length_map (as:=L) AV.int)) (I2 (dT (p:=(at_:Int)<L.length) (by exact aa [_,_] [] (.ltI (.c N0) (.c N1)) (.ltN N0 N1) [1,1] rfl hat.1)) (I2 (eS (o:=o) (L:=L) (G':=G)) (I2 h101 (I2 q2 (I2 (cg (o:=o) (L:=L) (G:=G) (N:=w1 b e) (k:=0)) (I2 (slX (o:=o) (L:=L) (G:=G) (N:=w1 b e) (s:=b) (e:=e) (by exact ag [_,_,_] [] (.leN N0 N1) (.leN N0 N2) (.leN N2 N1) [1,1,1] rfl hb1 hb2) hb2)
  (I2 (slX (o:=o) (L:=L) (G:=G) (N:=w2 L b e) (s:=done) (e:=b) (by exact ag [_,_,_] [] (.leN N0 N1) (.leN N0 N2) (.ltN N2 N1) [1,1,1] rfl hd hat.1) (by exact ag [_,_,_] [] (.leN N0 N1) (.leN N0 N2) (.leN N2 N1) [1,1,1] rfl hb1 hb2)) (I2 a1 (I2 (alX (o:=o) (L:=L) (G:=G) (N:=w4 L F done b e) (xs:=[.int 45]) (by decide)) (I2 (alX (o:=o) (L:=L) (G:=G) (N:=[tt b e,cD (sub L b e),cD (sub L done b),cD (F++sub L done b),cD [45]]) (xs:=[]) (by decide)) (I2 a2 (I2 (alX (o:=o) (L:=L) (G:=G) (N:=w7 L F done b e []) (xs:=[.ref (G.length+6),.ref (G.length+7),.ref (G.length+8)]) (by show 3≤5000;exact ak [] [] (.leN (.k 3) (.k 5000)) [1] rfl)) (I2 hx (I2 a3 (I2 tI hp)))))))))))))))
 have fin:∀ (x:Bool),nearB (lawE L sign least most last) b e=x→ConW B (d+2) lwC lwB (WF start sign least most last (wayOf t) (G.length+10) (many+1) e (if x=true then e else e+1) (some (.ref (G.length+2))) (some (.int b)) (some (.int e)) (some (.ref (G.length+3))) (some (.bool x))) (XH o L G (wA L F t G.length done b e many)) w fr' σ':=fun x hx=>by
  subst hx;exact hn
 obtain ⟨G',h100⟩:=jh (B:=B) (d:=d+1) (L:=L) (at_:=e) (least:=least) (most:=most) (last:=last) (sign:=sign) hB hL hsl hb2 hm
 have q4:((pick (cD L::G') []).map fun new=>wback (bak [1] [] (XT o L F t G done b e many).length) [1] (cD L::G') (XT o L F t G done b e many)++new.map (mapO (bak [1] [] (XT o L F t G done b e many).length)))=some (XH o L G (wA L F t G.length done b e many)):=by
  refine Eq.trans (b:=some (o::.list ((L.map AV.int).map (bak [1] [] (XT o L F t G done b e many).length))::((G++w9 L F t G.length done b e [])++[.tup [.int (many+1),.int e]])++[])) (by kernel_rfl) ?_
  rw [ac (bak [1] [] (XT o L F t G done b e many).length) fun z9=>rfl,List.append_nil]
  exact congrArg some XTe
 by_cases hbe:b<e
 ·cases hE:lawE L sign least most last e with
  | none =>
   rw [hE] at h100
   have hn2:=fin false (by unfold nearB;rw [hE,Bool.and_false])
   exact aQ B 90 _ _ _ (lwS o L F G t done b e many [.b true,.go 7,.s (some [1]),.go 1,.h [cD L],.c (.int (-1)) (cD L::G'),.s (some []),.go 1,.h (XH o L G (wA L F t G.length done b e many)),.go 1,.b false,.go 3,.b true,.l w fr' σ'])
    (pre _ (I2 (dT (p:=(e:Int) > b) (by exact aa [_,_] [] (.ltI (.c N0) (.c N1)) (.ltN N0 N1) [1,1] rfl hbe)) (I2 (eS (o:=o) (L:=L) (G':=(G++w9 L F t G.length done b e [])++[.tup [.int (many+1),.int e]])) (I2 h100 (I2 q4 (I2 (dF (p:=(-1:Int) > e) (by exact ak [_] [] (.n (.ltI (.c N0) (.g (.k 1)))) [1] rfl)) (I2 tI (I2 (@hn2) trivial)))))))) (by kernel_rfl)
  | some q =>
   rw [hE] at h100
   by_cases hq:e<q
   ·have hn2:=fin true (by unfold nearB;rw [hE];show (decide (b<e) && decide (e<q))=true;rw [decide_eq_true hbe,decide_eq_true hq];rfl)
    exact aQ B 90 _ _ _ (lwS o L F G t done b e many [.b true,.go 7,.s (some [1]),.go 1,.h [cD L],.c (.int q) (cD L::G'),.s (some []),.go 1,.h (XH o L G (wA L F t G.length done b e many)),.go 1,.b true,.go 3,.l w fr' σ'])
     (pre _ (I2 (dT (p:=(e:Int) > b) (by exact aa [_,_] [] (.ltI (.c N0) (.c N1)) (.ltN N0 N1) [1,1] rfl hbe)) (I2 (eS (o:=o) (L:=L) (G':=(G++w9 L F t G.length done b e [])++[.tup [.int (many+1),.int e]])) (I2 h100 (I2 q4 (I2 (dT (p:=(q:Int) > e) (by exact aa [_,_] [] (.ltI (.c N0) (.c N1)) (.ltN N0 N1) [1,1] rfl hq)) (I2 (@hn2) trivial))))))) (by kernel_rfl)
   ·have hn2:=fin false (by unfold nearB;rw [hE];show (decide (b<e) && decide (e<q))=false;rw [decide_eq_false hq,Bool.and_false])
    exact aQ B 90 _ _ _ (lwS o L F G t done b e many [.b true,.go 7,.s (some [1]),.go 1,.h [cD L],.c (.int q) (cD L::G'),.s (some []),.go 1,.h (XH o L G (wA L F t G.length done b e many)),.go 1,.b false,.go 3,.b true,.l w fr' σ'])
     (pre _ (I2 (dT (p:=(e:Int) > b) (by exact aa [_,_] [] (.ltI (.c N0) (.c N1)) (.ltN N0 N1) [1,1] rfl hbe)) (I2 (eS (o:=o) (L:=L) (G':=(G++w9 L F t G.length done b e [])++[.tup [.int (many+1),.int e]])) (I2 h100 (I2 q4 (I2 (dF (p:=(q:Int) > e) (by exact aa [_,_] [] (.n (.ltI (.c N0) (.c N1))) (.n (.ltN N0 N1)) [1,1] rfl hq)) (I2 tI (I2 (@hn2) trivial)))))))) (by kernel_rfl)
 ·have hn2:=fin false (by unfold nearB;rw [decide_eq_false hbe,Bool.false_and])
  have hn3:ConW B (d+2) lwC lwB (WF start sign least most last (wayOf t) (G.length+10) (many+1) e (e+1) (some (.ref (G.length+2))) (some (.int b)) (some (.int e)) (some (.ref (G.length+3))) (some (.bool false))) (XT o L F t G done b e many) w fr' σ':=by
   rw [XTe];exact hn2
  exact aQ B 90 _ _ _ (lwS o L F G t done b e many [.b false,.go 4,.b true,.l w fr' σ'])
   (pre _ (I2 (dF (p:=(e:Int) > b) (by exact aa [_,_] [] (.n (.ltI (.c N0) (.c N1))) (.n (.ltN N0 N1)) [1,1] rfl hbe)) (I2 tI (I2 (@hn3) trivial)))) (by kernel_rfl)
end
theorem kb {L:List Int} {sign last:Int} {least most:Nat}:InText (lawE L sign least most last) L.length:=fun i q hi h=>by
 have hr:=bB (c:=sign) hi
 unfold lawE at h
 split at h
 ·exact nS h
 ·split at h
  ·apply s1Q h;omega
  ·split at h
   ·rename_i hv
    apply s1Q h
    have:=(List.getElem?_eq_some_iff.mp hv).1
    omega
   ·exact nS h
section
variable {B:Base} {d:Nat} {L F:List Int} {at_ least most start many done:Nat} {sign last:Int} {o:AO} {G N R:Hp} {t:Tm}
theorem ji (hB:B.side=false) (ht:t≠.w3) (hL:L.length≤90) (hsl:sign≠last) (hm:most≤99):∀ {f at_ done:Nat} {F:List Int} {m:Nat} {Lf:List Int} {mf:Nat} {G:Hp} {fi:Nat} {o1 o2 o3 o4 o5:Option AV},walkL (lawE L sign least most last) t L f at_ done F m=some (Lf,mf)→F.length+300 * f≤4000→m+f≤800→done≤at_→done≤L.length→(o::cD L::G)[fi]?=some (cD F) →
  ∃ X fi' done' at' F' o1' o2' o3' o4' o5',ConW B (d+2) lwC lwB (WF start sign least most last (wayOf t) fi m done at_ o1 o2 o3 o4 o5) (o::cD L::G) .next (WF start sign least most last (wayOf t) fi' mf done' at' o1' o2' o3' o4' o5') (o::cD L::(G++X))∧(o::cD L::(G++X))[fi']?=some (cD F')∧Lf=F'++L.drop done'∧done'≤L.length∧F'.length≤4000:=by
 intro f
 induction f with
 | zero=>intro at_ done F m Lf mf G fi o1 o2 o3 o4 o5 h;exact nS h
 | succ f ih =>
  intro at_ done F m Lf mf G fi o1 o2 o3 o4 o5 h hF hmf hda hdL hfi
  unfold walkL at h
  cases hr:lookR (lawE L sign least most last) L at_ with
  | none =>
   rw [hr] at h
   have e1:F++L.drop done=Lf:=congrArg Prod.fst (Option.some.inj h)
   have e2:m=mf:=congrArg Prod.snd (Option.some.inj h)
   subst e1 e2
   unfold lookR at hr
   split at hr
   ·rename_i hlt
    have h101:=eR (B:=B) (d:=d) (L:=L) (at_:=at_) (least:=least) (most:=most) (last:=last) (sign:=sign) hB hL hsl (by exact aa [_,_] [] (.leN N0 N1) (.ltN N0 N1) [1,1] rfl hlt) hm
    rw [hr] at h101
    have q2:((pick [cD L] []).map fun new=>wback (bak [1] [] (G.length+2)) [1] [cD L] (o::cD L::G)++new.map (mapO (bak [1] [] (G.length+2))))=some (o::cD L::(G++[])) :=
     Eq.trans (b:=some (o::.list ((L.map AV.int).map (bak [1] [] (G.length+2)))::(G++[]))) (by kernel_rfl) (by rw [ac (bak [1] [] (G.length+2)) fun z9=>rfl])
    exact ⟨[],fi,done,at_,F,some .none,o2,o3,o4,o5,aQ B 60 _ _ _ [.go 3,.v (.int L.length),.b true,.go 6,.s (some [1]),.go 1,.h [cD L],.c .none [cD L],.s (some []),.go 1,.h (o::cD L::(G++[]))]
     (I2 (az (σ:=o::cD L::G) (l:=1) rfl (List.length_map (as:=L) AV.int)) (I2 (dT (p:=(at_:Int)<L.length) (by exact aa [_,_] [] (.ltI (.c N0) (.c N1)) (.ltN N0 N1) [1,1] rfl hlt)) (I2 (eS (o:=o) (L:=L) (G':=G)) (I2 h101 (I2 q2 trivial))))) (by kernel_rfl),by rw [List.append_nil];exact hfi,rfl,hdL,by exact aa [_,_] [] (.leN N0 (.k 4000)) (.leN (.a N0 (.m 300 (.a N1 (.k 1)))) (.k 4000)) [1,1] rfl hF⟩
   ·rename_i hlt
    refine ⟨[],fi,done,at_,F,o1,o2,o3,o4,o5,?_,by rw [List.append_nil];exact hfi,rfl,hdL,by exact aa [_,_] [] (.leN N0 (.k 4000)) (.leN (.a N0 (.m 300 (.a N1 (.k 1)))) (.k 4000)) [1,1] rfl hF⟩
    rw [List.append_nil]
    exact aQ B 60 _ _ _ [.go 3,.v (.int L.length),.b false]
     (I2 (az (σ:=o::cD L::G) (l:=1) rfl (List.length_map (as:=L) AV.int)) (I2 (dF (p:=(at_:Int)<L.length) (by exact aa [_,_] [] (.n (.ltI (.c N0) (.c N1))) (.n (.ltN N0 N1)) [1,1] rfl hlt)) trivial)) (by kernel_rfl)
  | some r =>
   rw [hr] at h
   obtain ⟨r1,r2,r3,_,_,_⟩:=bm kb hr
   have hsub:∀ s e,(sub L s e).length≤90:=fun s e=>by unfold sub;rw [List.length_take,List.length_drop];exact aq [_,_,_] [] (.leN N0 (.k 90)) (.leN N1 (.k 90)) (.leN N2 N1) (.leN N0 N2) [1,1,1,1] rfl hL (Nat.sub_le _ _) (Nat.min_le_right _ _)
   have hnl:=aN (t:=t) (own:=sub L r.1 r.2)
   have h1:=hsub r.1 r.2
   have h2:=hsub done r.1
   have hF2:(F++sub L done r.1++newOf t (sub L r.1 r.2)).length+300 * f≤4000:=by
    rw [List.length_append,List.length_append];exact bR [_,_,_,_,_] [] (.leN (.a (.a (.a N0 N1) N2) (.m 300 N3)) (.k 4000)) (.leN (.a N0 (.m 300 (.a N3 (.k 1)))) (.k 4000)) (.leN N2 (.a (.m 2 N4) (.k 2))) (.leN N4 (.k 90)) (.leN N1 (.k 90)) [1,1,1,2,1] rfl hF hnl h1 h2
   obtain ⟨X,fi',done',at',F',o1',o2',o3',o4',o5',k1,k2,k3,k4,k5⟩:=ih (G:=G++wA L F t G.length done r.1 r.2 m) (fi:=G.length+10) (o1:=some (.ref (G.length+2))) (o2:=some (.int r.1)) (o3:=some (.int r.2)) (o4:=some (.ref (G.length+3))) (o5:=some (.bool (nearB (lawE L sign least most last) r.1 r.2))) h hF2 (by exact aa [_,_] [] (.leN (.a (.a N0 (.k 1)) N1) (.k 800)) (.leN (.a N0 (.a N1 (.k 1))) (.k 800)) [1,1] rfl hmf) (by split <;> omega) r3 (cg (o:=o) (L:=L) (G:=G) (N:=wA L F t G.length done r.1 r.2 m) (k:=8))
   rw [List.append_assoc] at k1 k2
   exact ⟨wA L F t G.length done r.1 r.2 m++X,fi',done',at',F',o1',o2',o3',o4',o5',mZ hB ht hL hsl hm (by exact aa [_,_] [] (.leN N0 (.k 4000)) (.leN (.a N0 (.m 300 (.a N1 (.k 1)))) (.k 4000)) [1,1] rfl hF) hda (by exact aa [_,_] [] (.leN N0 (.k 900)) (.leN (.a N0 (.a N1 (.k 1))) (.k 800)) [1,1] rfl hmf) hr ⟨r2,r3⟩ hfi rfl k1,k2,k3,k4,k5⟩
theorem ke (hB:B.side=false) (ht:t≠.w3) (hL:L.length≤90) (hsl:sign≠last) (hm:most≤99) (hst:start≤L.length) {f:Nat} (hf:f≤12) {Lf:List Int} {mf:Nat} (h:walkL (lawE L sign least most last) t L f start 0 [] 0=some (Lf,mf)) :
  ∃ X i,2≤i∧Con B (d+3) 102 [.ref 1,.int start,.int sign,.int least,.int most,.int last,.int (wayOf t)] (o::cD L::R) (.ref (i+1)) (o::cD L::(R++X))∧(o::cD L::(R++X))[i+1]?=some (.tup [.ref i,.int mf])∧(o::cD L::(R++X))[i]?=some (cD Lf):=by
 obtain ⟨X,fi',done',at',F',o1',o2',o3',o4',o5',k1,k2,k3,k4,k5⟩:=ji (d:=d) (start:=start) (o:=o) hB ht hL hsl hm (G:=(R++[cD []])++[.tup [.ref (R.length+2),.int 0,.int 0,.int start]]) (fi:=R.length+2) (o1:=none) (o2:=none) (o3:=none) (o4:=none) (o5:=none) h (by show 0+_≤_;exact aa [_] [] (.leN (.a (.k 0) (.m 300 N0)) (.k 4000)) (.leN N0 (.k 12)) [1,300] rfl hf) (by exact aa [_] [] (.leN (.a (.k 0) N0) (.k 800)) (.leN N0 (.k 12)) [1,1] rfl hf) (Nat.zero_le _) (Nat.zero_le _) (by
  rw [List.append_assoc]
  exact cg (o:=o) (L:=L) (G:=R) (N:=[cD []]++[.tup [.ref (R.length+2),.int 0,.int 0,.int start]]) (k:=0))
 generalize hG:(R++[cD []])++[.tup [.ref (R.length+2),.int 0,.int 0,.int start]]++X=G2 at k1 k2
 subst k3
 have a0:allocL [] (o::cD L::R)=some (.ref (R.length+2),o::cD L::(R++[cD []])):=j9 (by decide) rfl rfl
 have a1:=n6 (o:=o) (L:=L) (G:=G2) (s:=done') k4
 have a2:=ka (o:=o) (L:=L) (G:=G2) (N:=[cD (L.drop done')]) (i:=fi') (j:=G2.length+2) (kL k2) (cg (k:=0)) (by rw [List.length_drop];exact aq [_,_,_] [] (.leN (.a N0 N1) (.k 5000)) (.leN N2 (.k 90)) (.leN N0 (.k 4000)) (.leN N1 N2) [1,1,1,1] rfl hL k5 (Nat.sub_le _ _))
 have a3:allocT [.ref (G2.length+3),.int mf] (XH o L G2 [cD (L.drop done'),cD (F'++L.drop done')])=some (.ref (G2.length+4),XH o L G2 [cD (L.drop done'),cD (F'++L.drop done'),.tup [.ref (G2.length+3),.int mf]]):=by
  show some (AV.ref ((G2++_).length+2),o::cD L::((G2++_)++[_]))=_
  rw [List.length_append,List.append_assoc];rfl
 have eG:R++([cD [],.tup [.ref (R.length+2),.int 0,.int 0,.int start]]++X++[cD (L.drop done'),cD (F'++L.drop done'),.tup [.ref (G2.length+3),.int mf]])=G2++[cD (L.drop done'),cD (F'++L.drop done'),.tup [.ref (G2.length+3),.int mf]]:=by
  rw [← hG];simp only [List.append_assoc,List.cons_append,List.nil_append]
 refine ⟨[cD [],.tup [.ref (R.length+2),.int 0,.int 0,.int start]]++X++[cD (L.drop done'),cD (F'++L.drop done'),.tup [.ref (G2.length+3),.int mf]],G2.length+3,by exact ak [_] [] (.leN (.k 2) (.a N0 (.k 3))) [1] rfl,?_,?_,?_⟩
 ·rw [eG]
  obtain ⟨_,_,_,_,_,_⟩:=B
  cases hB
  exact con _ 60 _ _ [.go 1,.vh (.ref (R.length+2)) (o::cD L::(R++[cD []])),.go 1,.l .next (WF start sign least most last (wayOf t) fi' mf done' at' o1' o2' o3' o4' o5') (o::cD L::G2),.go 3,.vh (.ref (G2.length+2)) (XH o L G2 [cD (L.drop done')]),.vh (.ref (G2.length+3)) (XH o L G2 [cD (L.drop done'),cD (F'++L.drop done')]),.go 1,.vh (.ref (G2.length+4)) (XH o L G2 [cD (L.drop done'),cD (F'++L.drop done'),.tup [.ref (G2.length+3),.int mf]])]
   (I2 a0 (I2 (@k1) (I2 a1 (I2 a2 (I2 a3 trivial))))) (by kernel_rfl)
 ·rw [eG];exact cg (k:=2)
 ·rw [eG];exact cg (k:=1)
end
noncomputable def ConC (B:Base) (d:Nat) (elt t:T) (ifs:List T) (it:It) (acc:Nat) (fr out:Fm) (σ:Hp) (fr':Fm) (σ':Hp):Prop:=B.par.Cc d elt t ifs it acc fr out σ fr' σ'
theorem kf (B:Base) (n d:Nat) (elt t:T) (ifs:List T) (it:It) (acc:Nat) {fr out fr':Fm} {σ σ':Hp} (s:List Sc) {Q:Prop} (hp:Q) (e:Runs ((B.ev n).cm d elt t ifs it acc fr out s σ) fr' σ'=((fr'=fr'∧σ'=σ')∧Q)):ConC B d elt t ifs it acc fr out σ fr' σ' :=
 fun _ _ _ _ _ h1 h2 h3=>(snd B.F n).cm (Runs.by' hp e).ret h1 h2 h3
noncomputable def Lo (n:Nat):AV→Prop | .ref i=>i<n | _=>True
theorem VR.lo {ρ:Rho} {n:Nat} {a:AV} {v:Value} (h:VR ρ a v) (l:Lo n a):VR (ρ.take n) a v:=by
 cases a with
 | ref i =>
  obtain ⟨p,e,r⟩:=h
  exact ⟨p,by rw [List.getElem?_take_of_lt l];exact e,r⟩
 | _=>exact h
theorem bv {ρ:Rho} {n:Nat} {a:Addr} (h:a∈own (ρ.take n)):a∈own ρ:=by
 unfold own at h ⊢
 obtain ⟨p,hp,ha⟩:=List.mem_flatMap.mp h
 exact List.mem_flatMap.mpr ⟨p,List.mem_of_mem_take hp,ha⟩
theorem kg {W:Wd} {ρ ρ':Rho} {h:Heap} {p:Addr×Option Addr} {L:List Int} (x:ObjAt W ρ h p (cD L)):ObjAt W ρ' h p (cD L):=by
 obtain ⟨its,n,a,b,c⟩:=x
 refine ⟨its,n,a,?_,c⟩
 revert b
 generalize its.toList=vs
 clear a c
 induction L generalizing vs with
 | nil=>intro b;cases b;exact .nil
 | cons x L ih=>intro b;cases b with | cons b1 b2=>exact .cons b1 (ih _ b2)
theorem Rel.lo {W:Wd} {h₀:Heap} {ρ:Rho} {σ G:Hp} {h:Heap} (R:Rel W h₀ ρ (σ++G) h) (hσ:∀ o∈σ,∃ L,o=cD L∨o=.fro L):Rel W h₀ (ρ.take σ.length) σ h:=by
 refine ⟨R.base,?_,?_,fun a m=>R.fresh a (bv m),fun a m=>R.live a (bv m),fun i o e=>?_⟩
 ·have:=R.len
  rw [List.length_append] at this
  rw [List.length_take];exact (Nat.min_eq_left (aa [_,_,_] [] (.leN N0 N1) (.eqN N1 (.a N0 N2)) [1,-1] rfl this))
 ·have:=R.nd
  refine List.Nodup.sublist ?_ this
  conv=>rhs;rw [← List.take_append_drop σ.length ρ]
  unfold own
  rw [List.flatMap_append]
  exact List.sublist_append_left _ _
 ·have hl:=(List.getElem?_eq_some_iff.mp e).1
  obtain ⟨p,hp,ho⟩:=R.objs i o (by rw [List.getElem?_append_left hl];exact e)
  refine ⟨p,by rw [List.getElem?_take_of_lt hl];exact hp,?_⟩
  obtain ⟨L,rfl | rfl⟩:=hσ o (List.mem_of_getElem? e)
  ·exact kg ho
  ·exact ho
theorem EnvR.lo {h₀:Heap} {V:Cx} {env:Env} {ρ:Rho} {h:Heap} {fr out:Fm} {n:Nat} (E:EnvR h₀ V env ρ h fr out) (h1:∀ (x:Nat) a,fr[x]?=some (some a)→Lo n a) (h2:∀ (x:Nat) a,out[x]?=some (some a)→Lo n a):EnvR h₀ V env (ρ.take n) h fr out:=by
 have cl:∀ m (a:Option AV),(∀ b,a=some b→Lo n b)→CellV h₀ ρ h env m a→CellV h₀ (ρ.take n) h env m a:=fun m a l ⟨c,v0,e,i,f,no,z⟩ =>
  ⟨c,v0,e,i,fun b hb=>let ⟨v,p,q⟩:=f b hb;⟨v,p,q.lo (l b hb)⟩,fun m=>no (bv m),z⟩
 have jn:∀ {l:Fm} {x:Nat},(∀ (x:Nat) a,l[x]?=some (some a)→Lo n a)→∀ b,l[x]?.join=some b→Lo n b:=fun {l x} hl b hb=>by
  cases q:l[x]? with
  | none=>rw [q] at hb;exact nS hb
  | some z=>rw [q] at hb;cases z with | none=>cases hb | some z=>apply s1Q hb;exact hl x _ q
 obtain ⟨m,hm,hv⟩:=E.ns
 exact ⟨E.fk,E.gg,E.bb,E.gl,E.nd,E.cnd,⟨fun m=>E.loc.1 (bv m),E.loc.2⟩,E.len,E.dbg,fun x n e=>(E.cel x n e).imp id fun ⟨a,b,c⟩=>⟨a,b,cl _ _ (jn h1) c⟩,
  ⟨m,hm,fun x n a e k f=>let ⟨v,p,q⟩:=hv x n a e k f;⟨v,p,q.lo (h1 x a f)⟩⟩,fun x n e k=>let ⟨a,b⟩:=E.frees x n e k;⟨a,cl _ _ (jn h2) b⟩⟩
theorem Post.lo {W:Wd} {h₀:Heap} {F:List Addr} {ρ ρ':Rho} {σ G:Hp} {h h':Heap} (P:Post W h₀ F ρ ρ' (σ++G) h h') (hσ:∀ o∈σ,∃ L,o=cD L∨o=.fro L) (hl:ρ.length≤σ.length):Post W h₀ F ρ (ρ'.take σ.length) σ h h':=by
 refine ⟨?_,P.rel.lo hσ,P.keep,P.alive,fun a m=>P.new a (bv m)⟩
 obtain ⟨t,rfl⟩:=P.pre
 rw [List.take_append,List.take_of_length_le hl]
 exact List.prefix_append _ _
theorem ConC.forget {B:Base} {d:Nat} {elt t:T} {ifs:List T} {it:It} {acc:Nat} {fr out fr':Fm} {σ σ' G:Hp} (h:ConC B d elt t ifs it acc fr out σ fr' (σ'++G)) (hσ:∀ o∈σ',∃ L,o=cD L∨o=.fro L) (hl:σ.length≤σ'.length) (ha:acc<σ'.length) (h1:∀ (x:Nat) a,fr'[x]?=some (some a)→Lo σ'.length a) (h2:∀ (x:Nat) a,out[x]?=some (some a)→Lo σ'.length a):ConC B d elt t ifs it acc fr out σ fr' σ' :=
 fun n V tx x xs e1 e2 e3=>fun {iter scope pos env A s ρ ρs hs Fs Is I p R} hN F RR O hF P xi hI hp k =>
  h n V tx x xs e1 e2 e3 (iter:=iter) (scope:=scope) (pos:=pos) hN F RR O hF P xi hI hp fun ρ' h' tk P' E' hp'=>by
   have hle:ρs.length≤σ'.length:=by
    have:=P.pre.length_le
    have:=RR.len
    exact aq [_,_,_,_] [] (.leN N0 N1) (.leN N2 N1) (.leN N0 N3) (.eqN N3 N2) [1,1,1,1] rfl hl (by assumption) this
   refine k (ρ'.take σ'.length) h' tk (P'.lo hσ hle) (E'.lo h1 h2) ?_
   rw [List.getElem?_take_of_lt ha];exact hp'
noncomputable def cmE (b:FI):T:=match b.body with | _::.nd _ _ _ [_,.nd _ _ _ (e::_)]::_=>e | _=>stk
noncomputable def cmT (b:FI):T:=match b.body with | _::.nd _ _ _ [_,.nd _ _ _ (_::t::_)]::_=>t | _=>stk
noncomputable def alph (al:List Int) (k:Nat):Int:=(al[k]?).getD 0
noncomputable def drawsL (al:List Int):Nat→List Int→List Int×List Int
 | 0,D=>([],D)
 | n+1,D=>(alph al (drawV D 4)::(drawsL al n D.tail).1,(drawsL al n D.tail).2)
theorem dn {al:List Int}:∀ {n:Nat} {D:List Int},(drawsL al n D).1.length=n:=by
 intro n
 induction n with
 | zero=>intro D;rfl
 | succ n ih=>intro D;show (drawsL al n D.tail).1.length+1=_;rw [ih]
noncomputable def al1:List Int:=[120,97,120,98]
noncomputable def textOf:Pt→List Int
 | .s0=>[120,42]
 | .s1=>[120,42,97]
 | .p0=>[120,43]
 | .p1=>[120,43,97]
 | .m0=>[120,63]
 | .m1=>[120,63,97]
 | .b0=>[94,32]
 | .b1=>[94,32,43]
 | .b2=>[94,97]
 | .b3=>[94]
section
variable {B:Base} {d:Nat}
theorem kh:Con B (d+20) 98 [] [] .opq []:=dk B 3000 _ _ [.s (some []),.go 2153,.s (some [])] trivial (by kernel_rfl)
theorem gM:Con B (d+20) 90 [.ref 0,.bool false] [cD (textOf .s0)] (.ref 1) (cD (textOf .s0)::cmp8 .s0 1 []):=dk B 2000 _ _ [.s (some [0]),.go 906,.s (some [61,57,58,31,51,59,60,17,3,10])] trivial (by kernel_rfl)
theorem gN:Con B (d+20) 90 [.ref 0,.bool false] [cD (textOf .s1)] (.ref 1) (cD (textOf .s1)::cmp8 .s1 1 []):=dk B 2000 _ _ [.s (some [0]),.go 1120,.s (some [70,66,67,38,58,68,69,63,20,3])] trivial (by kernel_rfl)
theorem gO:Con B (d+20) 90 [.ref 0,.bool false] [cD (textOf .p0)] (.ref 1) (cD (textOf .p0)::cmp8 .p0 1 []):=dk B 2000 _ _ [.s (some [0]),.go 965,.s (some [63,59,47,60,31,53,61,62,17,3])] trivial (by kernel_rfl)
theorem gP:Con B (d+20) 90 [.ref 0,.bool false] [cD (textOf .p1)] (.ref 1) (cD (textOf .p1)::cmp8 .p1 1 []):=dk B 2000 _ _ [.s (some [0]),.go 1179,.s (some [72,68,54,69,38,60,70,71,65,20])] trivial (by kernel_rfl)
theorem gQ:Con B (d+20) 90 [.ref 0,.bool false] [cD (textOf .m0)] (.ref 1) (cD (textOf .m0)::cmp8 .m0 1 []):=dk B 2000 _ _ [.s (some [0]),.go 699,.s (some [43,41,42,37,17,3,10,15,20,23])] trivial (by kernel_rfl)
theorem gS:Con B (d+20) 90 [.ref 0,.bool false] [cD (textOf .m1)] (.ref 1) (cD (textOf .m1)::cmp8 .m1 1 []):=dk B 2000 _ _ [.s (some [0]),.go 913,.s (some [52,50,51,44,47,20,3,11,18,23])] trivial (by kernel_rfl)
theorem l3 {p:Pt} (hp:is01 p=true):Con B (d+20) 90 [.ref 0,.bool false] [cD (textOf p)] (.ref 1) (cD (textOf p)::cmp8 p 1 []):=by
 cases p with
 | s0=>exact gM
 | s1=>exact gN
 | p0=>exact gO
 | p1=>exact gP
 | m0=>exact gQ
 | m1=>exact gS
 | _=>exact fT hp
end
noncomputable abbrev fD (S:List Int):AO:=.fro S
noncomputable def cmE1:T:=match b_law1.body with | .nd _ _ _ [_,.nd _ _ _ (e::_)]::_=>e | _=>stk
noncomputable def cmT1:T:=match b_law1.body with | .nd _ _ _ [_,.nd _ _ _ (_::t::_)]::_=>t | _=>stk
noncomputable def absL (U:List Int):List Int:=U.map fun x=>(x.natAbs:Int)
theorem n7 {S:List Int}:sliceV [fD S] (.ref 0) .none (.int 40)=some (.ref 1,[fD S,cD (S.take 40)]):=by
 show (match sliceL (S.map AV.int) .none (.int 40) with | some ys=>some (AV.ref 1,[fD S,AO.list ys]) | none=>none)=_
 have hs:sliceL (S.map AV.int) .none (.int 40)=some ((S.take 40).map .int):=by
  show some (((S.map AV.int).drop 0).take (adj (S.map AV.int).length 40 - 0))=_
  have ha:adj (S.map AV.int).length 40=min 40 S.length:=by rw [List.length_map];rfl
  rw [ha,List.drop_zero,Nat.sub_zero,List.map_take]
  by_cases h:40≤S.length
  ·rw [Nat.min_eq_left h]
  ·rw [Nat.min_eq_right (by exact aa [_] [] (.leN N0 (.k 40)) (.n (.leN (.k 40) N0)) [1,1] rfl h),List.take_of_length_le (by rw [List.length_map];exact Nat.le_refl _),List.take_of_length_le (by rw [List.length_map];exact aa [_] [] (.leN N0 (.k 40)) (.n (.leN (.k 40) N0)) [1,1] rfl h)]
 rw [hs]
section
variable {B:Base} {d:Nat} {S U D C:List Int} {R:Fm} {G:Hp}
theorem nx1 {σ:Hp} {i:Nat} (h:σ[1]?=some (cD U)):nextI σ (.lst 1 i)=some (U[i]?.map fun x=>(.int x,.lst 1 (i+1),σ)):=by
 show (match σ[1]? with | some (.list xs)=>some (nextL xs i σ (.lst 1 (i+1))) | _=>none)=_
 rw [h]
 show some (match (U.map AV.int)[i]? with | some x=>some (x,It.lst 1 (i+1),σ) | none=>none)=_
 rw [List.getElem?_map]
 cases U[i]? <;> rfl
theorem m4 {C:List Int} {σ τ:Hp} {i:Nat} {x:Int} (h:σ[i]?=some (cD C)) (hl:C.length<1000) (hs:σ.set i (cD (C++[x]))=τ):lmV σ (.ref i) 0 [.int x]=some (.none,τ):=by
 rw [jc h (by rw [List.length_map];exact hl),← hs];show some (AV.none,σ.set i (.list (C.map AV.int++[AV.int x])))=some (AV.none,σ.set i (.list ((C++[x]).map AV.int)));rw [List.map_append];rfl
theorem m5:∀ {k i:Nat} {D:List Int} {z:Option AV},i+k=U.length→D.length+k≤40→∃ z',ConC B d cmE1 cmT1 [] (.lst 1 i) 2 [z] (some (.ref 0)::R) [fD S,cD U,cD D] [z'] [fD S,cD U,cD (D++absL (U.drop i))]:=by
 intro k
 induction k with
 | zero =>
  intro i D z hi _
  refine ⟨z,?_⟩
  rw [List.drop_of_length_le (by exact aa [_,_] [] (.leN N0 N1) (.eqN (.a N1 (.k 0)) N0) [1,-1] rfl hi),show D++absL []=D from List.append_nil D]
  have h:=nx1 (U:=U) (σ:=[fD S,cD U,cD D]) (i:=i) rfl
  rw [List.getElem?_eq_none (by exact aa [_,_] [] (.leN N0 N1) (.eqN (.a N1 (.k 0)) N0) [1,-1] rfl hi)] at h
  exact kf B 30 _ _ _ _ _ _ [.go 1,.nx none] (I2 h trivial) (by kernel_rfl)
 | succ k ih =>
  intro i D z hi hD
  have hlt:i<U.length:=by exact aa [_,_,_] [] (.ltN N0 N1) (.eqN (.a N0 (.a N2 (.k 1))) N1) [1,1] rfl hi
  obtain ⟨z',hc⟩:=ih (i:=i+1) (D:=D++[(U[i].natAbs:Int)]) (z:=some (.int U[i])) (by exact aK [_,_,_] [] (.eqN (.a (.a N0 (.k 1)) N1) N2) (.eqN (.a N0 (.a N1 (.k 1))) N2) [1,1] [1,-1] rfl hi) (by rw [List.length_append];show D.length+1+k≤_;exact aa [_,_] [] (.leN (.a (.a N0 (.k 1)) N1) (.k 40)) (.leN (.a N0 (.a N1 (.k 1))) (.k 40)) [1,1] rfl hD)
  refine ⟨z',?_⟩
  have h:=nx1 (U:=U) (σ:=[fD S,cD U,cD D]) (i:=i) rfl
  rw [List.getElem?_eq_getElem hlt] at h
  have ha:=m4 (C:=D) (σ:=[fD S,cD U,cD D]) (i:=2) (x:=(U[i].natAbs:Int)) rfl (by exact aa [_,_] [] (.ltN N0 (.k 1000)) (.leN (.a N0 (.a N1 (.k 1))) (.k 40)) [1,1] rfl hD) rfl
  have e:D++absL (U.drop i)=D++[(U[i].natAbs:Int)]++absL (U.drop (i+1)):=by
   rw [List.drop_eq_getElem_cons hlt,List.append_assoc];rfl
  rw [e]
  exact kf B 60 _ _ _ _ _ _ [.go 1,.nx (some (.int U[i],.lst 1 (i+1),[fD S,cD U,cD D])),.go 2,.vh .none [fD S,cD U,cD (D++[(U[i].natAbs:Int)])],.l .next [z'] [fD S,cD U,cD (D++[(U[i].natAbs:Int)]++absL (U.drop (i+1)))]]
   (I2 h (I2 ha (I2 hc trivial))) (by kernel_rfl)
noncomputable abbrev L4 (S U D C:List Int) (Z:Hp):Hp:=fD S::cD U::cD D::cD C::Z
theorem dJ {Z:Hp}:((pick (fD S::cD U::cD D::Z) [2]).map fun sub=>sub.map (mapO (Mine.ren [2])))=some [cD D] :=
 Eq.trans (b:=some [.list ((D.map AV.int).map (Mine.ren [2]))]) (by kernel_rfl) (by rw [ac (Mine.ren [2]) fun z9=>rfl])
theorem dK {Z:Hp} {D':List Int} {n:Nat}:((pick [cD D',mE] []).map fun new=>wback (bak [2] [] n) [2] [cD D',mE] (fD S::cD U::cD D::Z)++new.map (mapO (bak [2] [] n)))=some (fD S::cD U::cD D'::Z) :=
 Eq.trans (b:=some (fD S::cD U::.list ((D'.map AV.int).map (bak [2] [] n))::(Z++[]))) (by kernel_rfl) (by rw [ac (bak [2] [] n) fun z9=>rfl,List.append_nil])
theorem l4 {al:List Int} {b:FI} (hb:cmE b=cmE b_law1∧al=al1∧cmT b=cmT b_law1):∀ {k:Nat} {i n:Int} {D C:List Int} {G:Hp} {z:Option AV},i+k=n→C.length+k≤100→∃ G' z',ConC B (d+1) (cmE b) (cmT b) [] (.rng i n) 3 [z] (some (.ref 0)::some (.ref 2)::R) (L4 S U D C G) [z'] (L4 S U (drawsL al k D).2 (C++(drawsL al k D).1) (G++G'))∧(z'=z∨∃ i,z'=some (.int i)):=by
 obtain ⟨h1,h2,h3⟩:=hb
 rw [h1,h2,h3]
 intro k
 induction k with
 | zero =>
  intro i n D C G z hi _
  refine ⟨[],z,?_,.inl rfl⟩
  show ConC B (d+1) _ _ [] _ 3 _ _ _ _ (L4 S U D (C++[]) (G++[]))
  rw [List.append_nil,List.append_nil]
  exact kf B 30 _ _ _ _ _ _ [.go 1,.b false] (I2 (lM (σ:=L4 S U D C G) (a:=i) (b:=n) (by exact aa [] [_,_] (.n (.ltI J0 J1)) (.eqI (.a J0 (.c (.k 0))) J1) [1,-1] rfl hi)) trivial) (by kernel_rfl)
 | succ k ih =>
  intro i n D C G z hi hC
  obtain ⟨G',z',hc,hz⟩:=ih (i:=i+1) (n:=n) (D:=D.tail) (C:=C++[alph al1 (drawV D 4)]) (G:=G++[cD al1]) (z:=some (.int i)) (by exact aK [_] [_,_] (.eqI (.a (.a J0 (.k 1)) (.c N0)) J1) (.eqI (.a J0 (.c (.a N0 (.k 1)))) J1) [1,1] [1,-1] rfl hi) (by rw [List.length_append];show C.length+1+k≤_;exact aa [_,_] [] (.leN (.a (.a N0 (.k 1)) N1) (.k 100)) (.leN (.a N0 (.a N1 (.k 1))) (.k 100)) [1,1] rfl hC)
  refine ⟨cD al1::G',z',?_,.inr (by rcases hz with h | h;exact ⟨i,h⟩;exact h)⟩
  have hk:=aR (D:=D) (m:=4) (by exact ak [] [] (.ltN (.k 0) (.k 4)) [1] rfl)
  have a1':allocL (al1.map .int) (L4 S U D C G)=some (.ref (G.length+4),L4 S U D C (G++[cD al1])):=j9 (by decide) rfl rfl
  have hx:idxV (L4 S U D.tail C (G++[cD al1])) (.ref (G.length+4)) (.int (drawV D 4))=some (.int (alph al1 (drawV D 4))):=by
   refine aC (g1 (σ:=G)) (aP ?_)
   revert hk
   generalize drawV D 4=m
   intro hk
   match m,hk with
   | 0,_=>rfl
   | 1,_=>rfl
   | 2,_=>rfl
   | 3,_=>rfl
  have hap':=m4 (C:=C) (σ:=L4 S U D.tail C (G++[cD al1])) (i:=3) (x:=alph al1 (drawV D 4)) rfl (by exact aa [_,_] [] (.ltN N0 (.k 1000)) (.leN (.a N0 (.a N1 (.k 1))) (.k 100)) [1,1] rfl hC) rfl
  rw [List.append_assoc,List.append_assoc] at hc
  exact kf B 60 _ _ _ _ _ _ [.go 1,.b true,.vh (.ref (G.length+4)) (L4 S U D C (G++[cD al1])),.go 1,.s (some [2]),.go 1,.h [cD D],.c (.int (drawV D 4)) [cD D.tail,mE],.s (some []),.go 1,.h (L4 S U D.tail C (G++[cD al1])),.v (.int (alph al1 (drawV D 4))),.vh .none (L4 S U D.tail (C++[alph al1 (drawV D 4)]) (G++[cD al1])),
    .l .next [z'] (L4 S U (drawsL al1 k D.tail).2 (C++([alph al1 (drawV D 4)]++(drawsL al1 k D.tail).1)) (G++([cD al1]++G')))]
   (I2 (iX (σ:=L4 S U D C G) (a:=i) (b:=n) (by exact aa [_] [_,_] (.ltI J0 J1) (.eqI (.a J0 (.c (.a N0 (.k 1)))) J1) [1,1] rfl hi)) (I2 a1' (I2 (dJ (S:=S) (U:=U) (D:=D) (Z:=cD C::(G++[cD al1]))) (I2 (jg (B:=B) (d:=d) (D:=D) (m:=4) (by exact ak [] [] (.ltN (.k 0) (.k 4)) [1] rfl)) (I2 (dK (S:=S) (U:=U) (D:=D) (D':=D.tail) (Z:=cD C::(G++[cD al1])) (n:=G.length+5)) (I2 hx (I2 hap' (I2 hc trivial)))))))) (by kernel_rfl)
theorem ma {al:List Int} {b:FI} (hb:cmE b=cmE b_law1∧al=al1∧cmT b=cmT b_law1) {k:Nat} {n:Int} (hn:(k:Int)=n) (hk:k≤100) (hR:∀ x∈R,x=none):∃ z',ConC B (d+1) (cmE b) (cmT b) [] (.rng 0 n) 3 [none] (some (.ref 0)::some (.ref 2)::R) (L4 S U D [] []) [z'] (L4 S U (drawsL al k D).2 (drawsL al k D).1 []):=by
 obtain ⟨G',z',hc,hz⟩:=l4 (B:=B) (d:=d) (S:=S) (U:=U) (R:=R) hb (k:=k) (i:=0) (n:=n) (D:=D) (C:=[]) (G:=[]) (z:=none) (by exact aK [_] [_] (.eqI (.a (.k 0) (.c N0)) J0) (.eqI (.c N0) J0) [1,1] [1,-1] rfl hn) (by show 0+k≤100;exact aa [_] [] (.leN (.a (.k 0) N0) (.k 100)) (.leN N0 (.k 100)) [1,1] rfl hk)
 refine ⟨z',ConC.forget (σ':=L4 S U (drawsL al k D).2 (drawsL al k D).1 []) (G:=G') hc ?_ (Nat.le_refl 4) (show 3<4 by decide) ?_ ?_⟩
 ·intro o ho
  rcases List.mem_cons.mp ho with h | ho
  ·exact ⟨_,.inr h⟩
  rcases List.mem_cons.mp ho with h | ho
  ·exact ⟨_,.inl h⟩
  rcases List.mem_cons.mp ho with h | ho
  ·exact ⟨_,.inl h⟩
  rcases List.mem_cons.mp ho with h | ho
  ·exact ⟨_,.inl h⟩
  ·cases ho
 ·intro x a h
  match x with
  | 0 =>
   have h:z'=some a:=Option.some.inj h
   rcases hz with e | ⟨i,e⟩
   ·rw [e] at h;exact nS h
   ·rw [e] at h;apply s1Q h;trivial
  | _+1=>exact nS h
 ·intro x a h
  match x with
  | 0=>cases h;show 0<4;exact ak [] [] (.ltN (.k 0) (.k 4)) [1] rfl
  | 1=>cases h;show 2<4;exact ak [] [] (.ltN (.k 2) (.k 4)) [1] rfl
  | x+2=>exact absurd (hR _ (List.mem_of_getElem? h)) (by intro e;exact sN e)
end
noncomputable def kindOf:Pt→Nat | .s0=>0 | .s1=>0 | .p0=>1 | .p1=>1 | _=>2
noncomputable def lidxOf (b:Bool):Nat:=if b then 1 else 0
noncomputable def leastOf:Pt→Nat | .p0=>1 | .p1=>1 | _=>0
noncomputable def mostOf:Pt→Nat | .m0=>1 | .m1=>1 | _=>99
noncomputable def sgnOf:Pt→Int | .s0=>42 | .s1=>42 | .p0=>43 | .p1=>43 | _=>63
noncomputable def lastB:Pt→Bool | .s1=>true | .p1=>true | .m1=>true | _=>false
noncomputable def lastI (b:Bool):Int:=if b then 97 else 0
noncomputable def lastL (b:Bool):List Int:=if b then [97] else []
theorem kI {p:Pt}:idxL [.ref 17,.ref 18,.ref 19] (kindOf p)=some (.ref (kindOf p+17)):=by cases p <;> rfl
theorem kS {p:Pt}:idxL [.int 42,.int 43,.int 63] (kindOf p)=some (.int (sgnOf p)):=by cases p <;> rfl
theorem kX {p:Pt} (hp:is01 p=true):[120,sgnOf p]++lastL (lastB p)=textOf p:=by cases p <;> first | rfl | exact fT hp
theorem kW {t:Tm}:idxL [.ref 25,.ref 26,.ref 27] (wayOf t)=some (.ref (25+wayOf t)):=by cases t <;> rfl
noncomputable def v00:BV:=⟨1,1,1,1⟩
noncomputable def g8:List AV:=[.int 0,.int 0,.int 0,.int 0,.int 0,.int 0,.int 0,.int 0]
theorem m6:GapN [] 0 8 g8:=⟨⟨[0,0,0,0,0,0,0,0],rfl,rfl⟩,Nat.le_refl _,by decide⟩
noncomputable abbrev l5 (S U D C:List Int) (k l w:AV) (Z:Hp):Hp:=L4 S U D C (cD [0,97]::.tup [k,l,w]::Z)
noncomputable abbrev l6 (S U D C:List Int) (k l w s:AV) (v:BV) (a j:Nat) (xs:List AV) (Z:Hp):Hp :=
 l5 S U D C k l w (bufO v 8 13::mE::gapO (.int 8) 12 a (a+j)::mE::cD [0]::.list g8::.list xs::mkO 14::.dict []::mE::.tup [s,.ref 6]::Z)
noncomputable abbrev l7 (Z:Hp):Hp:=tt 0 99::tt 1 99::tt 0 1::.list [.ref 17,.ref 18,.ref 19]::Z
theorem kO {p:Pt} (hp:is01 p=true):(l7 [])[kindOf p]?=some (tt (leastOf p) (mostOf p)):=by cases p <;> first | rfl | exact fT hp
noncomputable abbrev l8 (sg:Int) (ll:List Int) (Z:Hp):Hp:=cD [42,43,63]::cD [120,sg]::cD ll::Z
noncomputable abbrev l9 (p:Pt) (Z:Hp):Hp:=cD (textOf p)::cD [45]::cD []::cD [92,38,92,38]::.list [.ref 25,.ref 26,.ref 27]::Z
noncomputable abbrev l10 (p:Pt) (sp:AV) (w:Nat) (Z:Hp):Hp:=cmp8 p 29 (patC 29 sp::mE::tmO 39 w::Z)
noncomputable def vC (n:Nat):BV:=tk1 (pt1 (zv1 v00 ((([]:List Int).length:Int)+n+1)) (n+1))
noncomputable abbrev selI:List Nat:=[6,8,12,13,14,15,3,7,9]
noncomputable abbrev selL (w:Nat):List Nat:=[39,6,8,12,29,30,31,32,33,34,35,36,37,38,13,14,15,41,w]
theorem ki {L:List Int}:sub L 0 L.length=L:=by unfold sub;rw [List.drop_zero,Nat.sub_zero,List.take_length]
section
variable {B:Base} {d:Nat} {p:Pt} {t:Tm} {S U D C:List Int} {k l w s:AV} {v:BV} {a j n:Nat} {xs:List AV} {sp:AV} {L Lf:List Int} {Z:Hp}
theorem m7:((pick (l6 S U D C k l w s v00 (0:Nat) 8 g8 []) selI).map fun sub=>sub.map (mapO (Mine.ren selI)))=some (eN v00 (0:Nat) 8 g8 [cD C,mE,mE]) :=
 Eq.trans (b:=some (eN v00 (0:Nat) 8 g8 [.list ((C.map AV.int).map (Mine.ren selI)),mE,mE])) (by kernel_rfl) (by rw [ac (Mine.ren selI) fun z9=>rfl])
theorem md {Y:Hp} (G:GapN L a j xs):((pick (eN v a j xs (cD C::mE::mE::Y)) []).map fun new=>wback (bak selI [] 17) selI (eN v a j xs (cD C::mE::mE::Y)) (l6 S U D C k l w s v00 (0:Nat) 8 g8 [])++new.map (mapO (bak selI [] 17)))=some (l6 S U D C k l w s v a j xs []) :=
 Eq.trans (b:=some ((l5 S U D (C) k l w []).take 3++.list ((C.map AV.int).map (bak selI [] 17))::(l6 S U D C k l w s v a j (xs.map (bak selI [] 17)) []).drop 4)) (by kernel_rfl) (by rw [G.ren (bak selI [] 17) fun z9=>rfl,ac (bak selI [] 17) fun z9=>rfl];rfl)
theorem m8 {sg:Int} {ll:List Int}:((pick (l6 S U D C k l w s v a j xs (l7 (l8 sg ll (l9 p [])))) [24]).map fun sub=>sub.map (mapO (Mine.ren [24])))=some [cD (textOf p)] :=
 Eq.trans (b:=some [.list (((textOf p).map AV.int).map (Mine.ren [24]))]) (by kernel_rfl) (by rw [ac (Mine.ren [24]) fun z9=>rfl])
theorem m9 {sg:Int} {ll:List Int}:((pick (cD (textOf p)::cmp8 p 1 []) [1,2,3,4,5,6,7,8,9,10]).map fun new=>wback (bak [24] [1,2,3,4,5,6,7,8,9,10] 29) [24] (cD (textOf p)::cmp8 p 1 []) (l6 S U D C k l w s v a j xs (l7 (l8 sg ll (l9 p []))))++new.map (mapO (bak [24] [1,2,3,4,5,6,7,8,9,10] 29)))=some (l6 S U D C k l w s v a j xs (l7 (l8 sg ll (l9 p (cmp8 p 29 []))))) :=
 Eq.trans (b:=some ((l6 S U D C k l w s v a j xs (l7 (l8 sg ll (.list (((textOf p).map AV.int).map (bak [24] [1,2,3,4,5,6,7,8,9,10] 29))::(l9 p []).drop 1))))++(cmpL p 1).map (mapO (bak [24] [1,2,3,4,5,6,7,8,9,10] 29)))) (by kernel_rfl)
  (by
   rw [ac (bak [24] [1,2,3,4,5,6,7,8,9,10] 29) fun z9=>rfl,aj (f:=bak [24] [1,2,3,4,5,6,7,8,9,10] 29) (fun z9=>rfl) (fun z9=>rfl) (fun z9=>rfl) p (k:=1) (k':=29) rfl (i8 ⟨rfl,rfl,rfl,rfl,rfl,rfl,rfl,rfl⟩)]
   rfl)
theorem na {sg:Int} {ll:List Int} (ht:t≠.w3) (G:GapN L a j xs):((pick (l6 S U D C k l w s v a j xs (l7 (l8 sg ll (l9 p (l10 p (.ref 40) (25+wayOf t) []))))) (selL (25+wayOf t))).map fun sub=>sub.map (mapO (Mine.ren (selL (25+wayOf t)))))=some (AH p t .opq v a j xs []):=by
 have fin:∀ f:AV→AV,(∀ i,f (.int i)=.int i)→(∀ i,f (.str i)=.str i)→(∀ i,f (.bool i)=.bool i)→f (.ref 30)=.ref 5→(∀ i,i<8→f (.ref (i+31))=.ref (i+6)) →
   some (patC 4 .opq::bufO v 2 14::gapO (.int 8) 3 a (a+j)::.list (xs.map f)::((cmpL p 29).map (mapO f)++[mkO 15,.dict [],mE,tmO 0 18,cD (tplOf t)]))=some (AH p t .opq v a j xs []):=fun f hi hs hb h0 h1=>by
  rw [aj hi hs hb p (k:=29) (k':=4) h0 h1,G.ren f hi];rfl
 cases t with
 | w0=>exact Eq.trans (by kernel_rfl) (fin (Mine.ren (selL 25)) (fun z9=>rfl) (fun z9=>rfl) (fun z9=>rfl) rfl (i8 ⟨rfl,rfl,rfl,rfl,rfl,rfl,rfl,rfl⟩))
 | w1=>exact Eq.trans (by kernel_rfl) (fin (Mine.ren (selL 26)) (fun z9=>rfl) (fun z9=>rfl) (fun z9=>rfl) rfl (i8 ⟨rfl,rfl,rfl,rfl,rfl,rfl,rfl,rfl⟩))
 | w2=>exact Eq.trans (by kernel_rfl) (fin (Mine.ren (selL 27)) (fun z9=>rfl) (fun z9=>rfl) (fun z9=>rfl) rfl (i8 ⟨rfl,rfl,rfl,rfl,rfl,rfl,rfl,rfl⟩))
 | w3=>exact absurd rfl ht
noncomputable abbrev lH (S U D C:List Int) (k l w s:AV) (sg:Int) (ll:List Int) (p:Pt) (t:Tm) (v:BV) (a j:Nat) (xs:List AV) (sp:AV) (Z:Hp):Hp:=l6 S U D C k l w s v a j xs (l7 (l8 sg ll (l9 p (l10 p sp (25+wayOf t) Z))))
theorem me {sg:Int} {ll:List Int} {v1:BV} {a1 j1:Nat} {xs1:List AV} {sp1:AV} (ht:t≠.w3) (G:GapN L a1 j1 xs1):((pick (AH p t sp1 v1 a1 j1 xs1 Z) []).map fun new=>wback (bak (selL (25+wayOf t)) [] 42) (selL (25+wayOf t)) (AH p t sp1 v1 a1 j1 xs1 Z) (lH S U D C k l w s sg ll p t v a j xs sp [])++new.map (mapO (bak (selL (25+wayOf t)) [] 42)))=some (lH S U D C k l w s sg ll p t v1 a1 j1 xs1 (bak (selL (25+wayOf t)) [] 42 sp1) []):=by
 have fin:∀ f:AV→AV,(∀ i,f (.int i)=.int i)→(∀ i,f (.str i)=.str i)→(∀ i,f (.bool i)=.bool i)→f (.ref 5)=.ref 30→(∀ i,i<8→f (.ref (i+6))=.ref (i+31)) →
   some (l6 S U D C k l w s v1 a1 j1 (xs1.map f) (l7 (l8 sg ll (l9 p ((cmpL p 4).map (mapO f)++[patC 29 (f sp1),mE,tmO 39 (25+wayOf t)])))))=some (lH S U D C k l w s sg ll p t v1 a1 j1 xs1 (f sp1) []):=fun f hi hs hb h0 h1=>by
  rw [aj hi hs hb p (k:=4) (k':=29) h0 h1,G.ren f hi];rfl
 cases t with
 | w0=>exact Eq.trans (by kernel_rfl) (fin (bak (selL 25) [] 42) (fun z9=>rfl) (fun z9=>rfl) (fun z9=>rfl) rfl (i8 ⟨rfl,rfl,rfl,rfl,rfl,rfl,rfl,rfl⟩))
 | w1=>exact Eq.trans (by kernel_rfl) (fin (bak (selL 26) [] 42) (fun z9=>rfl) (fun z9=>rfl) (fun z9=>rfl) rfl (i8 ⟨rfl,rfl,rfl,rfl,rfl,rfl,rfl,rfl⟩))
 | w2=>exact Eq.trans (by kernel_rfl) (fin (bak (selL 27) [] 42) (fun z9=>rfl) (fun z9=>rfl) (fun z9=>rfl) rfl (i8 ⟨rfl,rfl,rfl,rfl,rfl,rfl,rfl,rfl⟩))
 | w3=>exact absurd rfl ht
theorem n8 {sg:Int} {ll:List Int}:((pick (lH S U D C k l w s sg ll p t v a j xs sp []) [0,3]).map fun sub=>sub.map (mapO (Mine.ren [0,3])))=some [fD S,cD C] :=
 Eq.trans (b:=some [fD S,.list ((C.map AV.int).map (Mine.ren [0,3]))]) (by kernel_rfl) (by rw [ac (Mine.ren [0,3]) fun z9=>rfl])
theorem ng {sg:Int} {ll:List Int} {mf:Int}:((pick [fD S,cD C,.tup [.ref 3,.int mf],cD Lf] [2,3]).map fun new=>wback (bak [0,3] [2,3] 42) [0,3] [fD S,cD C,.tup [.ref 3,.int mf],cD Lf] (lH S U D C k l w s sg ll p t v a j xs sp [])++new.map (mapO (bak [0,3] [2,3] 42)))=some (lH S U D C k l w s sg ll p t v a j xs sp [.tup [.ref 43,.int mf],cD Lf]):=by
 refine Eq.trans (b:=some ((fD S::cD U::cD D::.list ((C.map AV.int).map (bak [0,3] [2,3] 42))::(lH S U D C k l w s sg ll p t v a j xs sp []).drop 4)++[.tup [.ref 43,.int mf],.list ((Lf.map AV.int).map (bak [0,3] [2,3] 42))])) (by kernel_rfl) ?_
 rw [ac (bak [0,3] [2,3] 42) fun z9=>rfl,ac (bak [0,3] [2,3] 42) fun z9=>rfl];rfl
theorem nh {sg:Int} {ll:List Int} (G:GapN L a j xs):((pick (lH S U D C k l w s sg ll p t v a j xs sp Z) [8,12]).map fun sub=>sub.map (mapO (Mine.ren [8,12])))=some (gR a (a+j) xs []) :=
 Eq.trans (b:=some (gR a (a+j) (xs.map (Mine.ren [8,12])) [])) (by kernel_rfl) (by rw [G.ren (Mine.ren [8,12]) fun z9=>rfl])
theorem mh {sg:Int} {ll:List Int} {x y:AO} (G:GapN L a j xs):((pick (gR a (a+j) xs [cD Lf]) [2]).map fun new=>wback (bak [8,12] [2] 44) [8,12] (gR a (a+j) xs [cD Lf]) (lH S U D C k l w s sg ll p t v a j xs sp [x,y])++new.map (mapO (bak [8,12] [2] 44)))=some (lH S U D C k l w s sg ll p t v a j xs sp [x,y,cD Lf]) :=
 Eq.trans (b:=some (lH S U D C k l w s sg ll p t v a j (xs.map (bak [8,12] [2] 44)) sp [x,y,.list ((Lf.map AV.int).map (bak [8,12] [2] 44))])) (by kernel_rfl) (by rw [G.ren (bak [8,12] [2] 44) fun z9=>rfl,ac (bak [8,12] [2] 44) fun z9=>rfl])
end
section
variable {B:Base} {d:Nat} {p:Pt} {t:Tm} {S D0 D2 C Lf:List Int} {mf f g:Nat}
theorem jj (hB:B.side=false) (ht:t≠.w3) {L:List Int} (hL:L.length≤90) {sign last:Int} (hsl:sign≠last) {start least most:Nat} (hm:most≤99) (hst:start≤L.length) {f:Nat} (hf:f≤12) {Lf:List Int} {mf:Nat} (h:walkL (lawE L sign least most last) t L f start 0 [] 0=some (Lf,mf)) :
  Con B (d+3) 102 [.ref 1,.int start,.int sign,.int least,.int most,.int last,.int (wayOf t)] [fD S,cD L] (.ref 2) [fD S,cD L,.tup [.ref 3,.int mf],cD Lf]:=by
 obtain ⟨X,i,h2,hc,e1,e2⟩:=ke (d:=d) (o:=fD S) (R:=[]) hB ht hL hsl hm hst hf h
 obtain ⟨n,rfl⟩:∃ n,i=n+2:=⟨i - 2,by exact aB [_,_] [] (.eqN N0 (.a N1 (.k 2))) (.leN N0 (.a N1 (.k 2))) (.eqN (.a N1 (.k 2)) N0) [1,1,0] [1,0,1] rfl (af _ _) (ab (h2))⟩
 have hr0:bak [0,1] [n+2+1,n+2] 2 (.ref (n+2))=.ref 3:=by
  show (match posOf [n+2+1,n+2] (n+2) with | some k=>AV.ref (2+k) | none=>AV.opq)=_
  unfold posOf
  rw [if_neg (Nat.succ_ne_self (n+2))]
  unfold posOf
  rw [if_pos rfl];rfl
 have hr1:bak [0,1] [n+2+1,n+2] 2 (.ref (n+2+1))=.ref 2:=by
  show (match posOf [n+2+1,n+2] (n+2+1) with | some k=>AV.ref (2+k) | none=>AV.opq)=_
  unfold posOf
  rw [if_pos rfl]
 have hp:pick (fD S::cD L::([]++X)) [n+2+1,n+2]=some [.tup [.ref (n+2),.int mf],cD Lf]:=by
  unfold pick
  rw [e1]
  unfold pick
  rw [e2]
  rfl
 have q1:((pick [fD S,cD L] [0,1]).map fun sub=>sub.map (mapO (Mine.ren [0,1])))=some [fD S,cD L] :=
  Eq.trans (b:=some [fD S,.list ((L.map AV.int).map (Mine.ren [0,1]))]) (by kernel_rfl) (by rw [ac (Mine.ren [0,1]) fun z9=>rfl])
 have q2:((pick (fD S::cD L::([]++X)) [n+2+1,n+2]).map fun new=>wback (bak [0,1] [n+2+1,n+2] 2) [0,1] (fD S::cD L::([]++X)) [fD S,cD L]++new.map (mapO (bak [0,1] [n+2+1,n+2] 2)))=some [fD S,cD L,.tup [.ref 3,.int mf],cD Lf]:=by
  rw [hp]
  show some [fD S,AO.list ((L.map AV.int).map (bak [0,1] [n+2+1,n+2] 2)),AO.tup [bak [0,1] [n+2+1,n+2] 2 (.ref (n+2)),.int mf],AO.list ((Lf.map AV.int).map (bak [0,1] [n+2+1,n+2] 2))]=_
  rw [ac (bak [0,1] [n+2+1,n+2] 2) fun z9=>rfl,ac (bak [0,1] [n+2+1,n+2] 2) fun z9=>rfl,hr0]
 have hk:(ndB [n+2+1,n+2] && [n+2+1,n+2].all fun k=>decide (2≤k))=true:=by
  have e:ndB [n+2+1,n+2]=true:=by
   unfold ndB posOf
   rw [if_neg (Nat.ne_of_lt (Nat.lt_succ_self (n+2)))];rfl
  rw [e,List.all_cons,List.all_cons,decide_eq_true (show 2≤n+2+1 by exact ak [_] [] (.leN (.k 2) (.a (.a N0 (.k 2)) (.k 1))) [1] rfl),decide_eq_true (show 2≤n+2 by exact h2)];rfl
 rw [← hr1]
 exact dk B 20 _ _ [.s (some [0,1]),.go 1,.h [fD S,cD L],.c (.ref (n+2+1)) (fD S::cD L::([]++X)),.s (some [n+2+1,n+2]),.b true,.h [fD S,cD L,.tup [.ref 3,.int mf],cD Lf]]
  (I2 q1 (I2 hc (I2 (congrArg some hk) (I2 q2 trivial)))) (by kernel_rfl)
theorem ci {D:List Int} {m v:Nat} (hm:0<m) (h:drawV D m=v):Con B (d+1) 99 [.ref 0,.int m] [cD D] (.int v) [cD D.tail,mE]:=h ▸ jg hm
theorem cQ {L:List Int} {last:Int} {q r:Nat} (hq:q≤L.length) (h:tailEnd L last q=some r):q≤r∧r≤L.length:=by
 unfold tailEnd at h
 split at h
 ·apply s1Q h;exact ⟨Nat.le_refl _,hq⟩
 ·split at h
  ·rename_i hv
   apply s1Q h
   exact ⟨Nat.le_succ _,(List.getElem?_eq_some_iff.mp hv).1⟩
  ·exact nS h
theorem f0 {L:List Int} {c last:Int} {q r:Nat} (h:plusEnd L c last q=some r):q≤r∧r≤L.length:=by
 unfold plusEnd at h
 split at h
 ·rename_i hv
  have hl:=(List.getElem?_eq_some_iff.mp hv).1
  have:=cQ (bB (c:=c) hl) h
  exact ⟨by omega,this.2⟩
 ·exact nS h
theorem jk {L:List Int} {c last:Int} {q r:Nat} (hq:q≤L.length) (h:mayEnd L c last q=some r):q≤r∧r≤L.length:=by
 unfold mayEnd at h
 split at h
 ·rename_i hv
  have:=cQ (List.getElem?_eq_some_iff.mp hv).1 h
  exact ⟨by omega,this.2⟩
 ·exact cQ hq h
theorem fv (hp:is01 p=true) {L:List Int}:InText (Ept p L) L.length:=fun i q hi h=>by
 have many:∀ last,tailEnd L last (i+rlen 120 L i)=some q→i≤q∧q≤L.length:=fun last h=>by
  have:=cQ (bB (c:=120) hi) h
  exact ⟨by exact aa [_,_,_] [] (.leN N0 N1) (.leN (.a N0 N2) N1) [1,1] rfl this.1,this.2⟩
 cases p with
 | s0=>exact many _ h
 | s1=>exact many _ h
 | p0=>exact f0 h
 | p1=>exact f0 h
 | m0=>exact jk hi h
 | m1=>exact jk hi h
 | _=>exact fT hp
theorem jl (hp:is01 p=true):Finder B p (Ept p):=⟨fun G hL d v p2 hz=>j6 hp G.gap hz hL,fun L=>fv hp⟩
noncomputable def dr (D D':List Int) (S U:List Int) (v:Nat) (Z:Hp) (r:List Sc):List Sc:=.s (some [2])::.go 1::.h [cD D]::.c (.int v) [cD D',mE]::.s (some [])::.go 1::.h (fD S::cD U::cD D'::Z)::r
noncomputable def is3:Hp:=[]
theorem kj (t:Tm):ndB (selL (25+wayOf t))=true:=by cases t <;> rfl
theorem km (b:Bool):(120:Int)≠lastI b:=by cases b <;> decide
theorem kq (p:Pt):mostOf p≤99:=by cases p <;> decide
theorem jm (b:Bool) (n:Int):([120,n].map AV.int).length+((lastL b).map AV.int).length≤LIM:=by cases b <;> exact Nat.le_of_ble_eq_true rfl
theorem kr (S U D C:List Int) (b:Bool):idxV (L4 S U D C [cD [0,97]]) (.ref 4) (.int (lidxOf b))=some (.int (lastI b)):=by cases b <;> rfl
noncomputable def bsF {W:Wd} {K:Frag} {h₀:Heap} {fa:Nat→Addr} (F:Facts W K h₀ fa (fi false)):Base:=⟨W,K,h₀,fa,false,F⟩
theorem mi (hB:B.side=false) (hp:is01 p=true) (ht:t≠.w3) (hD:D0=absL (S.take 40)) (hC:drawsL al1 (1+drawV D0 9) D0.tail=(C,D2)) (h1:drawV D2 3=kindOf p) (h2:drawV D2.tail 2=lidxOf (lastB p)) (h3:drawV D2.tail.tail 3=wayOf t)
  {st:Nat} (h4:drawV D2.tail.tail.tail (C.length+1)=st)
  (hf:f≤800) (hr:allL (Ept p) t f C st=some (Lf,mf)) (hg:g≤12) (hw:walkL (lawE C 120 (leastOf p) (mostOf p) (lastI (lastB p))) t C g st 0 [] 0=some (Lf,mf)) :
  ∃ Z,Con B (d+21) 105 [.ref 0] [fD S] (.bool true) (fD S::Z):=by
 obtain ⟨_,_,_,_,sd,Fx⟩:=B
 have hB:sd=false:=hB
 cases hB
 have hCl:C.length=1+drawV D0 9:=by
  have:=dn (al:=al1) (n:=1+drawV D0 9) (D:=D0.tail)
  rw [hC] at this;exact this
 have hd9:=aR (D:=D0) (m:=9) (by exact ak [] [] (.ltN (.k 0) (.k 9)) [1] rfl)
 have hst:st≤C.length:=by have:=aR (D:=D2.tail.tail.tail) (m:=C.length+1) (by exact ak [_] [] (.ltN (.k 0) (.a N0 (.k 1))) [1] rfl);exact ag [_,_,_] [] (.leN N0 N1) (.eqN N2 N0) (.ltN N2 (.a N1 (.k 1))) [1,-1,1] rfl h4 this
 obtain ⟨z1,a1⟩:=m5 (B:=bsF Fx) (d:=d+20) (S:=S) (U:=S.take 40) (R:=List.replicate 15 none) (k:=(S.take 40).length) (i:=0) (D:=[]) (z:=none) (Nat.zero_add _) (by rw [List.length_take];show 0+_≤40;exact aa [_] [] (.leN (.a (.k 0) N0) (.k 40)) (.leN N0 (.k 40)) [1,1] rfl (Nat.min_le_left _ _))
 have a1:ConC (bsF Fx) (d+20) cmE1 cmT1 [] (.lst 1 0) 2 [none] (some (.ref 0)::List.replicate 15 none) [fD S,cD (S.take 40),cD []] [z1] [fD S,cD (S.take 40),cD D0]:=by rw [hD];exact a1
 obtain ⟨z2,a2⟩:=ma (B:=bsF Fx) (d:=d+19) (S:=S) (U:=S.take 40) (D:=D0.tail) (R:=List.replicate 14 none) (al:=al1) (b:=b_law1) ⟨rfl,rfl,rfl⟩ (k:=1+drawV D0 9) (n:=1+(drawV D0 9:Int)) (by exact au [_] [] (.eqI (.c (.a (.k 1) N0)) (.a (.k 1) (.c N0))) [1] [1] rfl) (by exact aa [_] [] (.leN (.a (.k 1) N0) (.k 100)) (.ltN N0 (.k 9)) [1,1] rfl hd9) (fun x hx=>List.eq_of_mem_replicate hx)
 rw [hC] at a2
 obtain ⟨xs,j,Y,b1,G,a3⟩:=i6 (B:=bsF Fx) (d:=d+14) (v:=v00) (L:=[]) (a:=0) (j:=8) (xs:=g8) (D:=C) (t1:=mE) (t2:=mE) m6 rfl rfl (by exact aa [_,_] [] (.ltN (.k 0) N0) (.eqN N0 (.a (.k 1) N1)) [1,-1] rfl hCl) (by show 0+C.length+8≤4000;exact ag [_,_] [] (.leN (.a (.a (.k 0) N0) (.k 8)) (.k 4000)) (.eqN N0 (.a (.k 1) N1)) (.ltN N1 (.k 9)) [1,1,1] rfl hCl hd9) (by decide) (by decide)
 rw [List.append_nil] at G
 have hz:(vC C.length).zv=(C.length:Int)+1:=by show (0:Int)+C.length+1=_;exact au [_] [] (.eqI (.a (.a (.k 0) (.c N0)) (.k 1)) (.a (.c N0) (.k 1))) [1] [1] rfl
 obtain ⟨v1,a,j1,xs1,sp1,Z1,G1,hz1,a4⟩:=mV (B:=bsF Fx) (d:=d+3) (p:=p) (t:=t) (sp:=.opq) (v:=vC C.length) (jl hp) G hz (by exact ag [_,_] [] (.leN N0 (.k 90)) (.eqN N0 (.a (.k 1) N1)) (.ltN N1 (.k 9)) [1,1,1] rfl hCl hd9) hst (show (0:Int)≤1+1 by decide) (show (1:Int)+1≤1000 by decide) (by exact bR [_,_,_,_] [] (.leN (.a N0 N1) (.k 3000)) (.eqN N0 (.a (.k 1) N2)) (.ltN N2 (.k 9)) (.leN (.a N1 N0) N3) (.eqN N3 (.a N0 (.k 8))) [1,1,1,1,1] rfl hCl hd9 b1 (Nat.max_eq_right (ak [_] [] (.leN (.k 8) (.a N0 (.k 8))) [1] rfl))) hf hr
 rw [hz,Int.add_comm (st:Int) 1] at a4
 have a5:=jj (B:=bsF Fx) (d:=d+17) (S:=S) rfl ht (L:=C) (by exact ag [_,_] [] (.leN N0 (.k 90)) (.eqN N0 (.a (.k 1) N1)) (.ltN N1 (.k 9)) [1,1,1] rfl hCl hd9) (sign:=120) (last:=lastI (lastB p)) (km _) (start:=st) (least:=leastOf p) (most:=mostOf p) (kq p) hst hg hw
 have a6:=br (B:=bsF Fx) (d:=d+18) (s:=0) (e:=Lf.length) G1 (Nat.zero_le _) (Nat.le_refl _)
 rw [ki] at a6
 have e6:((Lf.length+j1:Nat):Int) - ((a:Int)+j1)+a+1 - 1=(Lf.length:Nat):=by exact au [_,_,_] [] (.eqI (.s (.a (.a (.s (.c (.a N0 N1)) (.a (.c N2) (.c N1))) (.c N2)) (.k 1)) (.k 1)) (.c N0)) [1] [1] rfl
 have a6:Con (bsF Fx) (d+19) 27 [.ref 0,.int ((1:Int) - 1),.int (((Lf.length+j1:Nat):Int) - ((a:Int)+j1)+a+1 - 1)] (gR a (a+j1) xs1 []) (.ref 2) (gR a (a+j1) xs1 [cD Lf]):=by rw [e6];exact a6
 have y0:=ci (B:=bsF Fx) (d:=d+19) (D:=D0) (m:=9) (by exact ak [] [] (.ltN (.k 0) (.k 9)) [1] rfl) rfl
 have y1:=ci (B:=bsF Fx) (d:=d+19) (D:=D2) (m:=3) (by exact ak [] [] (.ltN (.k 0) (.k 3)) [1] rfl) h1
 have y2:=ci (B:=bsF Fx) (d:=d+19) (D:=D2.tail) (m:=2) (by exact ak [] [] (.ltN (.k 0) (.k 2)) [1] rfl) h2
 have y3:=ci (B:=bsF Fx) (d:=d+19) (D:=D2.tail.tail) (m:=3) (by exact ak [] [] (.ltN (.k 0) (.k 3)) [1] rfl) h3
 have y4:=ci (B:=bsF Fx) (d:=d+19) (D:=D2.tail.tail.tail) (m:=C.length+1) (by exact ak [_] [] (.ltN (.k 0) (.a N0 (.k 1))) [1] rfl) h4
 have x7:=kj t
 have go:∀ b la ll li,lastB p=b→la=lastI b→ll=lastL b→li=lidxOf b→∃ Z,Con (bsF Fx) (d+21) 105 [.ref 0] [fD S] (.bool true) (fD S::Z):=fun b la ll li hb hla hll hli=>by
  rw [hb,← hli] at y2
  rw [hb,← hla] at a5
  have x1:idxV (L4 S (S.take 40) D2.tail.tail C [cD [0,97]]) (.ref 4) (.int (li))=some (.int la):=by subst hli hla;exact kr ..
  have x2:idxV (l6 S (S.take 40) D2.tail.tail.tail.tail C (.int (kindOf p)) (.int la) (.int (wayOf t)) (.int st) (vC C.length) C.length j xs (l7 [])) (.ref 20) (.int (kindOf p))=some (.ref (kindOf p+17)):=aC (xs:=[.ref 17,.ref 18,.ref 19]) rfl kI
  have x3:(l6 S (S.take 40) D2.tail.tail.tail.tail C (.int (kindOf p)) (.int la) (.int (wayOf t)) (.int st) (vC C.length) C.length j xs (l7 []))[kindOf p+17]?=some (tt (leastOf p) (mostOf p)):=kO hp
  have x4:idxV (l6 S (S.take 40) D2.tail.tail.tail.tail C (.int (kindOf p)) (.int la) (.int (wayOf t)) (.int st) (vC C.length) C.length j xs (l7 [cD [42,43,63]])) (.ref 21) (.int (kindOf p))=some (.int (sgnOf p)):=aC (xs:=[.int 42,.int 43,.int 63]) rfl kS
  have x5:binV (l6 S (S.take 40) D2.tail.tail.tail.tail C (.int (kindOf p)) (.int la) (.int (wayOf t)) (.int st) (vC C.length) C.length j xs (l7 (l8 (sgnOf p) ll []))) 0 (.ref 22) (.ref 23)=some (.ref 24,(l6 S (S.take 40) D2.tail.tail.tail.tail C (.int (kindOf p)) (.int la) (.int (wayOf t)) (.int st) (vC C.length) C.length j xs (l7 (l8 (sgnOf p) ll [cD (textOf p)])))):=by
   refine (iY (σ:=(l6 S (S.take 40) D2.tail.tail.tail.tail C (.int (kindOf p)) (.int la) (.int (wayOf t)) (.int st) (vC C.length) C.length j xs (l7 (l8 (sgnOf p) ll [])))) (i:=22) (j:=23) (xs:=[120,sgnOf p].map .int) (ys:=ll.map .int) rfl rfl (by rw [hll];exact jm ..)).trans ?_
   rw [← List.map_append,hll,← hb,kX hp];rfl
  have x6:idxV (l6 S (S.take 40) D2.tail.tail.tail.tail C (.int (kindOf p)) (.int la) (.int (wayOf t)) (.int st) (vC C.length) C.length j xs (l7 (l8 (sgnOf p) ll (l9 p [])))) (.ref 28) (.int (wayOf t))=some (.ref (25+wayOf t)):=aC (xs:=[.ref 25,.ref 26,.ref 27]) rfl kW
  refine ⟨_,(?_:Con (bsF Fx) (d+21) 105 [.ref 0] [fD S] (.bool true) (lH S (S.take 40) D2.tail.tail.tail.tail C (.int (kindOf p)) (.int la) (.int (wayOf t)) (.int st) (sgnOf p) ll p t v1 a j1 xs1 (bak (selL (25+wayOf t)) [] 42 sp1) [.tup [.ref 43,.int mf],cD Lf,cD Lf]))⟩
  have P0:=fun (P:Prop) (h:P)=>I2 (n7 (S:=S)) (I2 a1 (I2 (dJ (S:=S) (U:=S.take 40) (D:=D0) (Z:=[])) (I2 y0 (I2 (dK (S:=S) (U:=S.take 40) (D:=D0) (D':=D0.tail) (Z:=[]) (n:=3))
   (I2 (sZ (i:=1+(drawV D0 9:Int)) (by exact I2 (ak [_] [] (.leI (.k 0) (.a (.k 1) (.c N0))) [1] rfl) (aa [_] [] (.leI (.a (.k 1) (.c N0)) (.k 1000)) (.ltN N0 (.k 9)) [1,1] rfl hd9))) (I2 a2 h))))))
  have P1:=fun (P:Prop) (h:P)=>I2 (dJ (S:=S) (U:=S.take 40) (D:=D2) (Z:=[cD C])) (I2 y1 (I2 (dK (S:=S) (U:=S.take 40) (D:=D2) (D':=D2.tail) (Z:=[cD C]) (n:=4))
   (I2 (dJ (S:=S) (U:=S.take 40) (D:=D2.tail) (Z:=[cD C,cD [0,97]])) (I2 y2 (I2 (dK (S:=S) (U:=S.take 40) (D:=D2.tail) (D':=D2.tail.tail) (Z:=[cD C,cD [0,97]]) (n:=5)) (I2 x1
   (I2 (dJ (S:=S) (U:=S.take 40) (D:=D2.tail.tail) (Z:=[cD C,cD [0,97]])) (I2 y3 (I2 (dK (S:=S) (U:=S.take 40) (D:=D2.tail.tail) (D':=D2.tail.tail.tail) (Z:=[cD C,cD [0,97]]) (n:=5))
   (I2 (az (σ:=(L4 S (S.take 40) D2.tail.tail.tail C [cD [0,97],.tup [.int (kindOf p),.int la,.int (wayOf t)]])) (l:=3) rfl (List.length_map (as:=C) AV.int))
   (I2 (dJ (S:=S) (U:=S.take 40) (D:=D2.tail.tail.tail) (Z:=[cD C,cD [0,97],.tup [.int (kindOf p),.int la,.int (wayOf t)]])) (I2 y4 (I2 (dK (S:=S) (U:=S.take 40) (D:=D2.tail.tail.tail) (D':=D2.tail.tail.tail.tail) (Z:=[cD C,cD [0,97],.tup [.int (kindOf p),.int la,.int (wayOf t)]]) (n:=6)) h)))))))))))))
  have P2:=fun (P:Prop) (h:P)=>I2 (m7 (S:=S) (U:=S.take 40) (D:=D2.tail.tail.tail.tail) (C:=C) (k:=.int (kindOf p)) (l:=.int la) (w:=.int (wayOf t)) (s:=.int st)) (I2 a3 (I2 (md (S:=S) (U:=S.take 40) (D:=D2.tail.tail.tail.tail) (C:=C) (k:=.int (kindOf p)) (l:=.int la) (w:=.int (wayOf t)) (s:=.int st) (v:=vC C.length) (Y:=Y) G)
   (I2 x2 (I2 x3 (I2 x4 h)))))
  have P2b:=fun (P:Prop) (h:P)=>I2 x5 (I2 x6 (I2 (m8 (p:=p) (sg:=sgnOf p) (ll:=ll) (S:=S) (U:=S.take 40) (D:=D2.tail.tail.tail.tail) (C:=C) (k:=.int (kindOf p)) (l:=.int la) (w:=.int (wayOf t)) (s:=.int st) (v:=vC C.length) (a:=C.length) (j:=j) (xs:=xs)) (I2 (l3 (B:=bsF Fx) (d:=d) hp) (I2 (m9 (p:=p) (sg:=sgnOf p) (ll:=ll) (S:=S) (U:=S.take 40) (D:=D2.tail.tail.tail.tail) (C:=C) (k:=.int (kindOf p)) (l:=.int la) (w:=.int (wayOf t)) (s:=.int st) (v:=vC C.length) (a:=C.length) (j:=j) (xs:=xs)) (I2 (kh (B:=bsF Fx) (d:=d)) (I2 (rfl:some (l6 S (S.take 40) D2.tail.tail.tail.tail C (.int (kindOf p)) (.int la) (.int (wayOf t)) (.int st) (vC C.length) C.length j xs (l7 (l8 (sgnOf p) ll (l9 p (cmp8 p 29 [])))))=some (l6 S (S.take 40) D2.tail.tail.tail.tail C (.int (kindOf p)) (.int la) (.int (wayOf t)) (.int st) (vC C.length) C.length j xs (l7 (l8 (sgnOf p) ll (l9 p (cmp8 p 29 [])))))) h))))))
  have P3:=I2 (az (σ:=(l6 S (S.take 40) D2.tail.tail.tail.tail C (.int (kindOf p)) (.int la) (.int (wayOf t)) (.int st) (vC C.length) C.length j xs (l7 (l8 (sgnOf p) ll (l9 p (l10 p (.ref 40) (25+wayOf t) [])))))) (l:=3) rfl (List.length_map (as:=C) AV.int)) (I2 (congrArg some x7) (I2 (na (p:=p) (sg:=sgnOf p) (ll:=ll) (S:=S) (U:=S.take 40) (D:=D2.tail.tail.tail.tail) (C:=C) (k:=.int (kindOf p)) (l:=.int la) (w:=.int (wayOf t)) (s:=.int st) (v:=vC C.length) (a:=C.length) (j:=j) (xs:=xs) ht G) (I2 a4 (I2 (me (v1:=v1) (p:=p) (sg:=sgnOf p) (ll:=ll) (sp:=.ref 40) (Z:=Z1) (sp1:=sp1) (xs:=xs) (a:=C.length) (j:=j) (v:=vC C.length) (S:=S) (U:=S.take 40) (D:=D2.tail.tail.tail.tail) (C:=C) (k:=.int (kindOf p)) (l:=.int la) (w:=.int (wayOf t)) (s:=.int st) ht G1)
   (I2 (n8 (p:=p) (t:=t) (sg:=sgnOf p) (ll:=ll) (sp:=bak (selL (25+wayOf t)) [] 42 sp1) (xs:=xs1) (a:=a) (j:=j1) (v:=v1) (S:=S) (U:=S.take 40) (D:=D2.tail.tail.tail.tail) (C:=C) (k:=.int (kindOf p)) (l:=.int la) (w:=.int (wayOf t)) (s:=.int st)) (I2 a5 (I2 (ng (Lf:=Lf) (mf:=mf) (p:=p) (t:=t) (sg:=sgnOf p) (ll:=ll) (sp:=bak (selL (25+wayOf t)) [] 42 sp1) (xs:=xs1) (a:=a) (j:=j1) (v:=v1) (S:=S) (U:=S.take 40) (D:=D2.tail.tail.tail.tail) (C:=C) (k:=.int (kindOf p)) (l:=.int la) (w:=.int (wayOf t)) (s:=.int st))
   (I2 (rfl:some (AO.tup [.ref 43,.int mf])=some (AO.tup [.ref 43,.int mf])) (I2 (dT (p:=(mf:Int)=mf) rfl) (I2 (az (σ:=(lH S (S.take 40) D2.tail.tail.tail.tail C (.int (kindOf p)) (.int la) (.int (wayOf t)) (.int st) (sgnOf p) ll p t v1 a j1 xs1 (bak (selL (25+wayOf t)) [] 42 sp1) [.tup [.ref 43,.int mf],cD Lf])) (l:=12) rfl G1.len)
   (I2 (nh (Z:=[.tup [.ref 43,.int mf],cD Lf]) (p:=p) (t:=t) (sg:=sgnOf p) (ll:=ll) (sp:=bak (selL (25+wayOf t)) [] 42 sp1) (v:=v1) (S:=S) (U:=S.take 40) (D:=D2.tail.tail.tail.tail) (C:=C) (k:=.int (kindOf p)) (l:=.int la) (w:=.int (wayOf t)) (s:=.int st) G1) (I2 a6 (I2 (mh (Lf:=Lf) (x:=.tup [.ref 43,.int mf]) (y:=cD Lf) (p:=p) (t:=t) (sg:=sgnOf p) (ll:=ll) (sp:=bak (selL (25+wayOf t)) [] 42 sp1) (v:=v1) (S:=S) (U:=S.take 40) (D:=D2.tail.tail.tail.tail) (C:=C) (k:=.int (kindOf p)) (l:=.int la) (w:=.int (wayOf t)) (s:=.int st) G1)
   (I2 ((mX (σ:=(lH S (S.take 40) D2.tail.tail.tail.tail C (.int (kindOf p)) (.int la) (.int (wayOf t)) (.int st) (sgnOf p) ll p t v1 a j1 xs1 (bak (selL (25+wayOf t)) [] 42 sp1) [.tup [.ref 43,.int mf],cD Lf,cD Lf])) (i:=44) (j:=43) (xs:=Lf) (ys:=Lf) rfl rfl).trans (dT rfl)) trivial))))))))))))))
  cases b with
  | false=>exact con _ 200 _ _ [.go 2,.vh (.ref 1) [fD S,cD (S.take 40)],.go 1,.l .next [z1] [fD S,cD (S.take 40),cD D0],.go 1,
    .s (some [2]),.go 1,.h [cD D0],.c (.int (drawV D0 9)) [cD D0.tail,mE],.s (some []),.go 1,.h (fD S::cD (S.take 40)::cD D0.tail::[]),
    .go 1,.b true,.l .next [z2] (L4 S (S.take 40) D2 C []),.go 1,
    .s (some [2]),.go 1,.h [cD D2],.c (.int (kindOf p)) [cD D2.tail,mE],.s (some []),.go 1,.h (fD S::cD (S.take 40)::cD D2.tail::[cD C]),
    .go 2,
    .s (some [2]),.go 1,.h [cD D2.tail],.c (.int (li)) [cD D2.tail.tail,mE],.s (some []),.go 1,.h (fD S::cD (S.take 40)::cD D2.tail.tail::[cD C,cD [0,97]]),
    .v (.int la),.go 1,
    .s (some [2]),.go 1,.h [cD D2.tail.tail],.c (.int (wayOf t)) [cD D2.tail.tail.tail,mE],.s (some []),.go 1,.h (fD S::cD (S.take 40)::cD D2.tail.tail.tail::[cD C,cD [0,97]]),
    .go 2,.v (.int C.length),.go 1,
    .s (some [2]),.go 1,.h [cD D2.tail.tail.tail],.c (.int st) [cD D2.tail.tail.tail.tail,mE],.s (some []),.go 1,.h (fD S::cD (S.take 40)::cD D2.tail.tail.tail.tail::[cD C,cD [0,97],.tup [.int (kindOf p),.int la,.int (wayOf t)]]),
    .go 76,.s (some selI),.go 1,.h (eN v00 (0:Nat) 8 g8 [cD C,mE,mE]),.c .none (eN (vC C.length) C.length j xs (cD C::mE::mE::Y)),.s (some []),.go 1,.h (l6 S (S.take 40) D2.tail.tail.tail.tail C (.int (kindOf p)) (.int la) (.int (wayOf t)) (.int st) (vC C.length) C.length j xs []),
    .go 5,.v (.ref (kindOf p+17)),.o (tt (leastOf p) (mostOf p)),.go 2,.v (.int (sgnOf p)),.go 2,.b false,.vh (.ref 23) (l6 S (S.take 40) D2.tail.tail.tail.tail C (.int (kindOf p)) (.int la) (.int (wayOf t)) (.int st) (vC C.length) C.length j xs (l7 (l8 (sgnOf p) ll []))),.vh (.ref 24) (l6 S (S.take 40) D2.tail.tail.tail.tail C (.int (kindOf p)) (.int la) (.int (wayOf t)) (.int st) (vC C.length) C.length j xs (l7 (l8 (sgnOf p) ll [cD (textOf p)]))),.go 5,.v (.ref (25+wayOf t)),.go 1,
    .s (some [24]),.go 1,.h [cD (textOf p)],.c (.ref 1) (cD (textOf p)::cmp8 p 1 []),.s (some [1,2,3,4,5,6,7,8,9,10]),.go 1,.h (l6 S (S.take 40) D2.tail.tail.tail.tail C (.int (kindOf p)) (.int la) (.int (wayOf t)) (.int st) (vC C.length) C.length j xs (l7 (l8 (sgnOf p) ll (l9 p (cmp8 p 29 []))))),.s (some []),.go 2,.c .opq [],.s (some []),.go 1,.h (l6 S (S.take 40) D2.tail.tail.tail.tail C (.int (kindOf p)) (.int la) (.int (wayOf t)) (.int st) (vC C.length) C.length j xs (l7 (l8 (sgnOf p) ll (l9 p (cmp8 p 29 []))))),
    .go 29,.v (.int C.length),.go 1,.s (some (selL (25+wayOf t))),.b true,.h (AH p t .opq (vC C.length) C.length j xs []),.c (.int mf) (AH p t sp1 v1 a j1 xs1 Z1),.s (some []),.go 1,.h (lH S (S.take 40) D2.tail.tail.tail.tail C (.int (kindOf p)) (.int la) (.int (wayOf t)) (.int st) (sgnOf p) ll p t v1 a j1 xs1 (bak (selL (25+wayOf t)) [] 42 sp1) []),
    .go 6,.s (some [0,3]),.go 1,.h [fD S,cD C],.c (.ref 2) [fD S,cD C,.tup [.ref 3,.int mf],cD Lf],.s (some [2,3]),.go 1,.h (lH S (S.take 40) D2.tail.tail.tail.tail C (.int (kindOf p)) (.int la) (.int (wayOf t)) (.int st) (sgnOf p) ll p t v1 a j1 xs1 (bak (selL (25+wayOf t)) [] 42 sp1) [.tup [.ref 43,.int mf],cD Lf]),.o (.tup [.ref 43,.int mf]),
    .go 2,.b true,.go 14,.v (.int (Lf.length+j1:Nat)),.go 16,.s (some [8,12]),.go 1,.h (gR a (a+j1) xs1 []),.c (.ref 2) (gR a (a+j1) xs1 [cD Lf]),.s (some [2]),.go 1,.h (lH S (S.take 40) D2.tail.tail.tail.tail C (.int (kindOf p)) (.int la) (.int (wayOf t)) (.int st) (sgnOf p) ll p t v1 a j1 xs1 (bak (selL (25+wayOf t)) [] 42 sp1) [.tup [.ref 43,.int mf],cD Lf,cD Lf]),.go 1,.b true] (P0 _ (P1 _ (P2 _ (I2 (dF (p:=la > 0) (by rw [hla];decide)) (I2 (by rw [hll,hla];rfl:allocL [] (l6 S (S.take 40) D2.tail.tail.tail.tail C (.int (kindOf p)) (.int la) (.int (wayOf t)) (.int st) (vC C.length) C.length j xs (l7 [cD [42,43,63],cD [120,sgnOf p]]))=some (.ref 23,(l6 S (S.take 40) D2.tail.tail.tail.tail C (.int (kindOf p)) (.int la) (.int (wayOf t)) (.int st) (vC C.length) C.length j xs (l7 (l8 (sgnOf p) ll []))))) (P2b _ P3)))))) (by kernel_rfl)
  | true=>exact con _ 200 _ _ [.go 2,.vh (.ref 1) [fD S,cD (S.take 40)],.go 1,.l .next [z1] [fD S,cD (S.take 40),cD D0],.go 1,
    .s (some [2]),.go 1,.h [cD D0],.c (.int (drawV D0 9)) [cD D0.tail,mE],.s (some []),.go 1,.h (fD S::cD (S.take 40)::cD D0.tail::[]),
    .go 1,.b true,.l .next [z2] (L4 S (S.take 40) D2 C []),.go 1,
    .s (some [2]),.go 1,.h [cD D2],.c (.int (kindOf p)) [cD D2.tail,mE],.s (some []),.go 1,.h (fD S::cD (S.take 40)::cD D2.tail::[cD C]),
    .go 2,
    .s (some [2]),.go 1,.h [cD D2.tail],.c (.int (li)) [cD D2.tail.tail,mE],.s (some []),.go 1,.h (fD S::cD (S.take 40)::cD D2.tail.tail::[cD C,cD [0,97]]),
    .v (.int la),.go 1,
    .s (some [2]),.go 1,.h [cD D2.tail.tail],.c (.int (wayOf t)) [cD D2.tail.tail.tail,mE],.s (some []),.go 1,.h (fD S::cD (S.take 40)::cD D2.tail.tail.tail::[cD C,cD [0,97]]),
    .go 2,.v (.int C.length),.go 1,
    .s (some [2]),.go 1,.h [cD D2.tail.tail.tail],.c (.int st) [cD D2.tail.tail.tail.tail,mE],.s (some []),.go 1,.h (fD S::cD (S.take 40)::cD D2.tail.tail.tail.tail::[cD C,cD [0,97],.tup [.int (kindOf p),.int la,.int (wayOf t)]]),
    .go 76,.s (some selI),.go 1,.h (eN v00 (0:Nat) 8 g8 [cD C,mE,mE]),.c .none (eN (vC C.length) C.length j xs (cD C::mE::mE::Y)),.s (some []),.go 1,.h (l6 S (S.take 40) D2.tail.tail.tail.tail C (.int (kindOf p)) (.int la) (.int (wayOf t)) (.int st) (vC C.length) C.length j xs []),
    .go 5,.v (.ref (kindOf p+17)),.o (tt (leastOf p) (mostOf p)),.go 2,.v (.int (sgnOf p)),.go 2,.b true,.go 1,.vh (.ref 23) (l6 S (S.take 40) D2.tail.tail.tail.tail C (.int (kindOf p)) (.int la) (.int (wayOf t)) (.int st) (vC C.length) C.length j xs (l7 (l8 (sgnOf p) ll []))),.vh (.ref 24) (l6 S (S.take 40) D2.tail.tail.tail.tail C (.int (kindOf p)) (.int la) (.int (wayOf t)) (.int st) (vC C.length) C.length j xs (l7 (l8 (sgnOf p) ll [cD (textOf p)]))),.go 5,.v (.ref (25+wayOf t)),.go 1,
    .s (some [24]),.go 1,.h [cD (textOf p)],.c (.ref 1) (cD (textOf p)::cmp8 p 1 []),.s (some [1,2,3,4,5,6,7,8,9,10]),.go 1,.h (l6 S (S.take 40) D2.tail.tail.tail.tail C (.int (kindOf p)) (.int la) (.int (wayOf t)) (.int st) (vC C.length) C.length j xs (l7 (l8 (sgnOf p) ll (l9 p (cmp8 p 29 []))))),.s (some []),.go 2,.c .opq [],.s (some []),.go 1,.h (l6 S (S.take 40) D2.tail.tail.tail.tail C (.int (kindOf p)) (.int la) (.int (wayOf t)) (.int st) (vC C.length) C.length j xs (l7 (l8 (sgnOf p) ll (l9 p (cmp8 p 29 []))))),
    .go 29,.v (.int C.length),.go 1,.s (some (selL (25+wayOf t))),.b true,.h (AH p t .opq (vC C.length) C.length j xs []),.c (.int mf) (AH p t sp1 v1 a j1 xs1 Z1),.s (some []),.go 1,.h (lH S (S.take 40) D2.tail.tail.tail.tail C (.int (kindOf p)) (.int la) (.int (wayOf t)) (.int st) (sgnOf p) ll p t v1 a j1 xs1 (bak (selL (25+wayOf t)) [] 42 sp1) []),
    .go 6,.s (some [0,3]),.go 1,.h [fD S,cD C],.c (.ref 2) [fD S,cD C,.tup [.ref 3,.int mf],cD Lf],.s (some [2,3]),.go 1,.h (lH S (S.take 40) D2.tail.tail.tail.tail C (.int (kindOf p)) (.int la) (.int (wayOf t)) (.int st) (sgnOf p) ll p t v1 a j1 xs1 (bak (selL (25+wayOf t)) [] 42 sp1) [.tup [.ref 43,.int mf],cD Lf]),.o (.tup [.ref 43,.int mf]),
    .go 2,.b true,.go 14,.v (.int (Lf.length+j1:Nat)),.go 16,.s (some [8,12]),.go 1,.h (gR a (a+j1) xs1 []),.c (.ref 2) (gR a (a+j1) xs1 [cD Lf]),.s (some [2]),.go 1,.h (lH S (S.take 40) D2.tail.tail.tail.tail C (.int (kindOf p)) (.int la) (.int (wayOf t)) (.int st) (sgnOf p) ll p t v1 a j1 xs1 (bak (selL (25+wayOf t)) [] 42 sp1) [.tup [.ref 43,.int mf],cD Lf,cD Lf]),.go 1,.b true] (P0 _ (P1 _ (P2 _ (I2 (dT (p:=la > 0) (by rw [hla];decide)) (I2 (by rw [hll,hla];rfl:allocL [.int la] (l6 S (S.take 40) D2.tail.tail.tail.tail C (.int (kindOf p)) (.int la) (.int (wayOf t)) (.int st) (vC C.length) C.length j xs (l7 [cD [42,43,63],cD [120,sgnOf p]]))=some (.ref 23,(l6 S (S.take 40) D2.tail.tail.tail.tail C (.int (kindOf p)) (.int la) (.int (wayOf t)) (.int st) (vC C.length) C.length j xs (l7 (l8 (sgnOf p) ll []))))) (P2b _ P3)))))) (by kernel_rfl)
 exact go _ _ _ _ rfl rfl rfl rfl
end
section
variable {L A:List Int} {c last:Int} {n e k q:Nat} {p:Pt} {t:Tm}
theorem gb:rlen c L n=if L[n]?=some c then 1+rlen c L (n+1) else 0:=by
 unfold rlen
 by_cases h:n<L.length
 ·rw [List.drop_eq_getElem_cons h,List.getElem?_eq_getElem h,List.takeWhile_cons]
  by_cases e:L[n]=c
  ·rw [if_pos (beq_iff_eq.mpr e),if_pos (congrArg some e),List.length_cons,Nat.add_comm]
  ·rw [if_neg (fun h=>e (beq_iff_eq.mp h)),if_neg (fun h=>e (Option.some.inj h))];rfl
 ·rw [List.drop_of_length_le (by exact aa [_,_] [] (.leN N0 N1) (.n (.ltN N1 N0)) [1,1] rfl h),List.getElem?_eq_none (by exact aa [_,_] [] (.leN N0 N1) (.n (.ltN N1 N0)) [1,1] rfl h),if_neg (by intro h;exact nS h)];rfl
theorem jo:rlen c L n≤L.length:=by
 have:=kB (c:=c) (l:=L.drop n)
 rw [List.length_drop] at this
 unfold rlen
 exact ag [_,_,_] [] (.leN N0 N1) (.leN N0 N2) (.leN N2 N1) [1,1,1] rfl this (Nat.sub_le _ _)
theorem jp (hp:is01 p=true) (hL:L.length≤99):lawE L 120 (leastOf p) (mostOf p) (lastI (lastB p))=Ept p L:=by
 funext n
 have h1:=jo (c:=120) (L:=L) (n:=n)
 have many:∀ last,(if min (rlen 120 L n) 99<0 then none else if last=0 then some (n+min (rlen 120 L n) 99) else if L[n+min (rlen 120 L n) 99]?=some last then some (n+min (rlen 120 L n) 99+1) else none)=tailEnd L last (n+rlen 120 L n):=fun last=>by
  rw [Nat.min_eq_left (by exact ag [_,_] [] (.leN N0 (.k 99)) (.leN N1 (.k 99)) (.leN N0 N1) [1,1,1] rfl hL h1),if_neg (Nat.not_lt_zero _)];rfl
 have plus:∀ last,(if min (rlen 120 L n) 99<1 then none else if last=0 then some (n+min (rlen 120 L n) 99) else if L[n+min (rlen 120 L n) 99]?=some last then some (n+min (rlen 120 L n) 99+1) else none)=plusEnd L 120 last n:=fun last=>by
  rw [Nat.min_eq_left (by exact ag [_,_] [] (.leN N0 (.k 99)) (.leN N1 (.k 99)) (.leN N0 N1) [1,1,1] rfl hL h1)]
  unfold plusEnd
  have e:=gb (c:=120) (L:=L) (n:=n)
  split at e
  ·rename_i hv
   rw [if_neg (by exact aa [_,_] [] (.n (.ltN N0 (.k 1))) (.eqN N0 (.a (.k 1) N1)) [1,-1] rfl e),if_pos hv,e,show n+(1+rlen 120 L (n+1))=n+1+rlen 120 L (n+1) by exact au [_,_] [] (.eqN (.a N0 (.a (.k 1) N1)) (.a (.a N0 (.k 1)) N1)) [1] [1] rfl];rfl
  ·rename_i hv
   rw [if_pos (by exact aa [_] [] (.ltN N0 (.k 1)) (.eqN N0 (.k 0)) [1,1] rfl e),if_neg hv]
 have may:∀ last,(if min (rlen 120 L n) 1<0 then none else if last=0 then some (n+min (rlen 120 L n) 1) else if L[n+min (rlen 120 L n) 1]?=some last then some (n+min (rlen 120 L n) 1+1) else none)=mayEnd L 120 last n:=fun last=>by
  rw [if_neg (Nat.not_lt_zero _)]
  unfold mayEnd
  have e:=gb (c:=120) (L:=L) (n:=n)
  split at e
  ·rename_i hv
   rw [if_pos hv,show min (rlen 120 L n) 1=1 by exact (Nat.min_eq_right (aa [_,_] [] (.leN (.k 1) N0) (.eqN N0 (.a (.k 1) N1)) [1,-1] rfl e))];rfl
  ·rename_i hv
   rw [if_neg hv,e];rfl
 cases p with
 | s0=>exact many 0
 | s1=>exact many 97
 | p0=>exact plus 0
 | p1=>exact plus 97
 | m0=>exact may 0
 | m1=>exact may 97
 | _=>exact fT hp
theorem dp:(A++L.drop e).drop (A.length+k)=L.drop (e+k):=by
 rw [List.drop_append,List.drop_drop,List.drop_of_length_le (by exact ak [_,_] [] (.leN N0 (.a N0 N1)) [1] rfl),Nat.add_sub_cancel_left];rfl
theorem eb:(A++L.drop e)[A.length+k]?=L[e+k]?:=by
 rw [List.getElem?_append_right (by exact ak [_,_] [] (.leN N0 (.a N0 N1)) [1] rfl),Nat.add_sub_cancel_left,List.getElem?_drop]
theorem eT:rlen c (A++L.drop e) (A.length+k)=rlen c L (e+k):=by
 unfold rlen;rw [dp]
noncomputable def shN (e a:Nat) (o:Option Nat):Option Nat:=o.map fun q=>q - e+a
theorem cj:tailEnd (A++L.drop e) last (A.length+k)=shN e A.length (tailEnd L last (e+k)):=by
 unfold tailEnd
 rw [eb]
 split
 ·show _=some (e+k - e+A.length);rw [Nat.add_sub_cancel_left,Nat.add_comm]
 ·split
  ·show _=some (e+k+1 - e+A.length);congr 1;exact aB [_,_,_,_] [] (.eqN (.a (.a N0 N1) (.k 1)) (.a N2 N0)) (.leN (.a (.a N3 N1) (.k 1)) (.a N2 N3)) (.eqN (.a N2 N3) (.a (.a N3 N1) (.k 1))) [1,1,0] [1,0,1] rfl (af _ _) (ab (ak [_,_] [] (.leN N0 (.a (.a N0 N1) (.k 1))) [1] rfl))
  ·rfl
theorem gc (hp:is01 p=true):Ept p (A++L.drop e) (A.length+k)=shN e A.length (Ept p L (e+k)):=by
 have many:∀ last,tailEnd (A++L.drop e) last (A.length+k+rlen 120 (A++L.drop e) (A.length+k))=shN e A.length (tailEnd L last (e+k+rlen 120 L (e+k))):=fun last=>by
  rw [eT,Nat.add_assoc,Nat.add_assoc];exact cj
 have plus:∀ last,plusEnd (A++L.drop e) 120 last (A.length+k)=shN e A.length (plusEnd L 120 last (e+k)):=fun last=>by
  unfold plusEnd
  rw [eb,Nat.add_assoc A.length,Nat.add_assoc e,eT]
  split
  ·rw [Nat.add_assoc A.length,Nat.add_assoc e];exact cj
  ·rfl
 have may:∀ last,mayEnd (A++L.drop e) 120 last (A.length+k)=shN e A.length (mayEnd L 120 last (e+k)):=fun last=>by
  unfold mayEnd
  rw [eb]
  split
  ·rw [Nat.add_assoc A.length,Nat.add_assoc e];exact cj
  ·exact cj
 cases p with
 | s0=>exact many 0
 | s1=>exact many 97
 | p0=>exact plus 0
 | p1=>exact plus 97
 | m0=>exact may 0
 | m1=>exact may 97
 | _=>exact fT hp
noncomputable def shP (e a:Nat) (o:Option (Nat×Nat)):Option (Nat×Nat):=o.map fun r=>(r.1 - e+a,r.2 - e+a)
theorem fw {E E':Nat→Option Nat} {a:Nat} (h:∀ k,E' (a+k)=shN e a (E (e+k))):∀ {f k:Nat},search E' f (a+k)=shP e a (search E f (e+k)):=by
 intro f
 induction f with
 | zero=>intro k;rfl
 | succ f ih =>
  intro k
  unfold search
  rw [h]
  cases E (e+k) with
  | none=>exact ih (k:=k+1)
  | some q=>show some (a+k,_)=some (e+k - e+a,_);rw [Nat.add_sub_cancel_left,Nat.add_comm]
theorem jq (hp:is01 p=true) (he:e≤L.length):lookR (Ept p (A++L.drop e)) (A++L.drop e) (A.length+k)=shP e A.length (lookR (Ept p L) L (e+k)):=by
 have hl:(A++L.drop e).length=A.length+(L.length - e):=by rw [List.length_append,List.length_drop]
 unfold lookR
 by_cases h:e+k<L.length
 ·rw [if_pos (by exact aq [_,_,_,_,_,_] [] (.ltN (.a N0 N1) N2) (.eqN N2 (.a N0 N3)) (.ltN (.a N4 N1) N5) (.leN N5 (.a N3 N4)) [1,-1,1,1] rfl hl h (af _ _)),if_pos h,show (A++L.drop e).length+1 - (A.length+k)=L.length+1 - (e+k) by exact mj [_,_,_,_,_,_,_,_] [] (.eqN N0 N1) (.eqN N2 (.a N3 N4)) (.leN (.a N2 (.k 1)) (.a N0 (.a N3 N5))) (.leN (.a N6 (.k 1)) (.a N1 (.a N7 N5))) (.leN N6 (.a N4 N7)) (.eqN (.a N0 (.a N3 N5)) (.a N2 (.k 1))) (.eqN (.a N1 (.a N7 N5)) (.a N6 (.k 1))) (.eqN (.a N4 N7) N6) [1,1,0,1,0,1,0,1] [1,-1,1,0,1,0,1,0] rfl hl (af _ _) (af _ _) (af _ _) (ab (aq [_,_,_,_,_,_] [] (.leN (.a N0 N1) (.a N2 (.k 1))) (.eqN N2 (.a N0 N3)) (.ltN (.a N4 N1) N5) (.leN N5 (.a N3 N4)) [1,-1,1,1] rfl hl h (af _ _))) (ab (aa [_,_,_] [] (.leN (.a N0 N1) (.a N2 (.k 1))) (.ltN (.a N0 N1) N2) [1,1] rfl h)) (ab (he))]
  exact fw fun k=>gc hp
 ·rw [if_neg (by exact aq [_,_,_,_,_,_] [] (.n (.ltN (.a N0 N1) N2)) (.eqN N2 (.a N0 N3)) (.n (.ltN (.a N4 N1) N5)) (.eqN (.a N3 N4) N5) [1,1,1,1] rfl hl h (ab (he))),if_neg h];rfl
theorem jr {b:Nat} (h1:e≤b):(A++L.drop e).take (b - e+A.length)=A++sub L e b:=by
 rw [List.take_append,List.take_of_length_le (by exact ak [_,_] [] (.leN N0 (.a N1 N0)) [1] rfl),Nat.add_sub_cancel];rfl
theorem gd {b q:Nat} (h1:e≤b) (h2:b≤q):sub (A++L.drop e) (b - e+A.length) (q - e+A.length)=sub L b q:=by
 unfold sub
 rw [Nat.add_comm (b - e),dp,show e+(b - e)=b by exact aB [_,_,_] [] (.eqN (.a N0 N1) N2) (.leN N2 (.a N1 N0)) (.eqN (.a N1 N0) N2) [1,0,1] [1,1,0] rfl (af _ _) (ab (h1)),show q - e+A.length - (A.length+(b - e))=q - b by exact cy [_,_,_,_,_,_,_,_] [] (.eqN N0 N1) (.leN N2 (.a N3 N4)) (.leN N5 (.a N6 N4)) (.leN (.a N3 N7) (.a N0 (.a N7 N6))) (.leN N2 (.a N1 N5)) (.eqN (.a N3 N4) N2) (.eqN (.a N6 N4) N5) (.eqN (.a N0 (.a N7 N6)) (.a N3 N7)) (.eqN (.a N1 N5) N2) [1,0,1,0,1,1,0,1,0] [1,1,0,1,0,0,1,0,1] rfl (af _ _) (af _ _) (af _ _) (af _ _) (ab (ag [_,_,_] [] (.leN N0 N1) (.leN N0 N2) (.leN N2 N1) [1,1,1] rfl h1 h2)) (ab (h1)) (ab (aq [_,_,_,_,_,_] [] (.leN (.a N0 N1) (.a N2 N0)) (.leN N3 N4) (.leN N4 (.a N2 N5)) (.eqN (.a N1 N5) N3) [1,1,1,1] rfl h2 (af _ _) (ab (h1)))) (ab (h2))]
theorem js (hp:is01 p=true) (hL:L.length≤9):∀ {f:Nat} {F:List Int} {done at_ m:Nat},L.length+1≤at_+f→1≤f→done≤at_→done≤L.length→F.length≤2 * done+2 * m→m≤at_→at_≤L.length+1 →
  ∃ Lf mf,walkL (Ept p L) t L f at_ done F m=some (Lf,mf)∧(match lookR (Ept p L) L at_ with
   | none=>Lf=F++L.drop done∧mf=m
   | some r=>runL (Ept p) t f (F++L.drop done) (r.1 - done+F.length) (r.2 - done+F.length) m=some (Lf,mf)):=by
 intro f
 induction f with
 | zero=>intro F done at_ m _ h;omega
 | succ f ih =>
  intro F done at_ m h1 _ h3 h4 h5 h6 h7
  unfold walkL
  cases hlk:lookR (Ept p L) L at_ with
  | none=>exact ⟨_,_,rfl,rfl,rfl⟩
  | some r =>
   obtain ⟨b,e⟩:=r
   obtain ⟨r1,r2,r3,_,_,r6⟩:=bm (fv hp) hlk
   have r1:at_≤b:=r1
   have r2:b≤e:=r2
   have r3:e≤L.length:=r3
   have hF2:(F++sub L done b++newOf t (sub L b e)).length=F.length+(b - done)+(newOf t (sub L b e)).length:=by
    rw [List.length_append,List.length_append];unfold sub;rw [List.length_take,List.length_drop];exact aB [_,_,_,_] [] (.eqN (.a (.a N0 N1) N2) (.a (.a N0 N3) N2)) (.leN N1 N3) (.eqN N1 N3) [1,1,0] [1,0,-1] rfl (Nat.min_le_left _ _) (Nat.min_eq_left (bR [_,_,_,_,_,_] [] (.leN N0 N1) (.leN N2 N3) (.leN N3 N4) (.leN N4 (.a N1 N5)) (.eqN (.a N0 N5) N2) [1,1,1,1,1] rfl (by assumption) (by assumption) (af _ _) (ab (ag [_,_,_] [] (.leN N0 N1) (.leN N0 N2) (.leN N2 N1) [1,1,1] rfl h3 (by assumption)))))
   have hsl:(sub L b e).length=e - b:=by unfold sub;rw [List.length_take,List.length_drop];exact (Nat.min_eq_left (aq [_,_,_,_,_] [] (.leN N0 N1) (.leN N2 N3) (.leN N3 (.a N1 N4)) (.eqN (.a N0 N4) N2) [1,1,1,1] rfl (by assumption) (af _ _) (ab ((by assumption)))))
   have hnl:=aN (t:=t) (own:=sub L b e)
   have hM:(F++L.drop done).take (b - done+F.length)++newOf t (sub (F++L.drop done) (b - done+F.length) (e - done+F.length))++(F++L.drop done).drop (e - done+F.length)=(F++sub L done b++newOf t (sub L b e))++L.drop e:=by
    rw [jr (by exact aa [_,_,_] [] (.leN N0 N1) (.eqN (.a N2 N0) N1) [1,1] rfl (ab (ag [_,_,_] [] (.leN N0 N1) (.leN N0 N2) (.leN N2 N1) [1,1,1] rfl h3 (by assumption)))),gd (by exact aa [_,_,_] [] (.leN N0 N1) (.eqN (.a N2 N0) N1) [1,1] rfl (ab (ag [_,_,_] [] (.leN N0 N1) (.leN N0 N2) (.leN N2 N1) [1,1,1] rfl h3 (by assumption)))) r2,Nat.add_comm (e - done),dp,show done+(e - done)=e by exact aB [_,_,_] [] (.eqN (.a N0 N1) N2) (.leN N2 (.a N1 N0)) (.eqN (.a N1 N0) N2) [1,0,1] [1,1,0] rfl (af _ _) (ab (aq [_,_,_,_] [] (.leN N0 N1) (.leN N0 N2) (.leN N2 N3) (.leN N3 N1) [1,1,1,1] rfl h3 (by assumption) (by assumption)))]
   have hMs:newOf t (sub (F++L.drop done) (b - done+F.length) (e - done+F.length))=newOf t (sub L b e):=by rw [gd (by exact aa [_,_,_] [] (.leN N0 N1) (.eqN (.a N2 N0) N1) [1,1] rfl (ab (ag [_,_,_] [] (.leN N0 N1) (.leN N0 N2) (.leN N2 N1) [1,1,1] rfl h3 (by assumption)))) r2]
   have hE:Ept p (F++L.drop done) (e - done+F.length)=shN done F.length (Ept p L e):=by
    rw [Nat.add_comm (e - done),gc hp,show done+(e - done)=e by exact aB [_,_,_] [] (.eqN (.a N0 N1) N2) (.leN N2 (.a N1 N0)) (.eqN (.a N1 N0) N2) [1,0,1] [1,1,0] rfl (af _ _) (ab (aq [_,_,_,_] [] (.leN N0 N1) (.leN N0 N2) (.leN N2 N3) (.leN N3 N1) [1,1,1,1] rfl h3 (by assumption) (by assumption)))]
   have h90:(lapL t (F++L.drop done) (b - done+F.length) (e - done+F.length)).length≤90:=by
    unfold lapL;rw [hM,List.length_append,hF2,List.length_drop];exact mn [_,_,_,_,_,_,_,_,_,_,_,_] [] (.leN (.a (.a (.a N0 N1) N2) N3) (.k 90)) (.leN N4 (.k 9)) (.leN N0 (.a (.m 2 N5) (.m 2 N6))) (.leN N6 N7) (.leN N8 N4) (.ltN N7 N4) (.eqN N9 N10) (.leN N2 (.a (.m 2 N9) (.k 2))) (.eqN (.a N1 N5) N11) (.eqN (.a N3 N8) N4) (.eqN (.a N10 N11) N8) [1,4,1,2,1,2,2,1,2,1,2] rfl hL h5 h6 (by assumption) r6 hsl hnl (ab (ag [_,_,_] [] (.leN N0 N1) (.leN N0 N2) (.leN N2 N1) [1,1,1] rfl h3 (by assumption))) (ab ((by assumption))) (ab ((by assumption)))
   have hi:=fv hp (L:=L) e
   obtain ⟨Lf,mf,k1,k2⟩:=ih (F:=F++sub L done b++newOf t (sub L b e)) (done:=e) (at_:=if nearB (Ept p L) b e=true then e else e+1) (m:=m+1)
    (by
     split <;> rename_i hn
     ·have:b<e:=of_decide_eq_true (Bool.and_eq_true_iff.mp hn).1
      exact aq [_,_,_,_,_] [] (.leN (.a N0 (.k 1)) (.a N1 N2)) (.leN (.a N0 (.k 1)) (.a N3 (.a N2 (.k 1)))) (.leN N3 N4) (.ltN N4 N1) [1,1,1,1] rfl h1 (by assumption) this
     ·exact aq [_,_,_,_,_] [] (.leN (.a N0 (.k 1)) (.a (.a N1 (.k 1)) N2)) (.leN (.a N0 (.k 1)) (.a N3 (.a N2 (.k 1)))) (.leN N3 N4) (.leN N4 N1) [1,1,1,1] rfl h1 (by assumption) (by assumption)) (by exact ag [_,_,_] [] (.leN (.k 1) N0) (.leN (.a N1 (.k 1)) (.a N2 (.a N0 (.k 1)))) (.ltN N2 N1) [1,1,1] rfl h1 r6) (by split <;> omega) r3 (by rw [hF2];exact bS [_,_,_,_,_,_,_,_,_] [] (.leN (.a (.a N0 N1) N2) (.a (.m 2 N3) (.m 2 (.a N4 (.k 1))))) (.leN N0 (.a (.m 2 N5) (.m 2 N4))) (.eqN N6 N7) (.leN N2 (.a (.m 2 N6) (.k 2))) (.eqN (.a N1 N5) N8) (.eqN (.a N7 N8) N3) [1,1,2,1,2,2] rfl h5 hsl hnl (ab (ag [_,_,_] [] (.leN N0 N1) (.leN N0 N2) (.leN N2 N1) [1,1,1] rfl h3 (by assumption))) (ab ((by assumption))))
    (by
     split <;> rename_i hn
     ·have:b<e:=of_decide_eq_true (Bool.and_eq_true_iff.mp hn).1
      exact aq [_,_,_,_] [] (.leN (.a N0 (.k 1)) N1) (.leN N0 N2) (.leN N2 N3) (.ltN N3 N1) [1,1,1,1] rfl h6 (by assumption) this
     ·exact aq [_,_,_,_] [] (.leN (.a N0 (.k 1)) (.a N1 (.k 1))) (.leN N0 N2) (.leN N2 N3) (.leN N3 N1) [1,1,1,1] rfl h6 (by assumption) (by assumption)) (by split <;> omega)
   refine ⟨Lf,mf,k1,?_⟩
   show runL (Ept p) t (f+1) (F++L.drop done) (b - done+F.length) (e - done+F.length) m=some (Lf,mf)
   unfold runL
   rw [if_pos h90]
   have hno:nearOf (Ept p (F++L.drop done)) (b - done+F.length) (e - done+F.length)=if nearB (Ept p L) b e=true then shN done F.length (Ept p L e) else none:=by
    unfold nearOf nearB
    by_cases hbe:b<e
    ·rw [if_pos (by exact aq [_,_,_,_,_,_] [] (.ltN (.a N0 N1) (.a N2 N1)) (.ltN N3 N4) (.leN N4 (.a N2 N5)) (.eqN (.a N0 N5) N3) [1,1,1,1] rfl hbe (af _ _) (ab (ag [_,_,_] [] (.leN N0 N1) (.leN N0 N2) (.leN N2 N1) [1,1,1] rfl h3 (by assumption)))),hE,decide_eq_true hbe,Bool.true_and]
     cases hq:Ept p L e with
     | none=>rfl
     | some q =>
      have:=hi q r3 hq
      show (if q - done+F.length=e - done+F.length then none else some (q - done+F.length))=if decide (e<q)=true then some (q - done+F.length) else none
      by_cases h:e<q
      ·rw [if_neg (by exact aq [_,_,_,_,_,_] [] (.n (.eqN (.a N0 N1) (.a N2 N1))) (.ltN N3 N4) (.leN N4 (.a N0 N5)) (.eqN (.a N2 N5) N3) [1,1,1,1] rfl h (af _ _) (ab (aq [_,_,_,_] [] (.leN N0 N1) (.leN N0 N2) (.leN N2 N3) (.ltN N3 N1) [1,1,1,1] rfl h3 (by assumption) hbe))),if_pos (decide_eq_true h)]
      ·rw [if_pos (by exact kx [_,_,_,_,_,_] [] (.eqN (.a N0 N1) (.a N2 N1)) (.leN N3 N4) (.n (.ltN N3 N4)) (.leN N4 (.a N0 N5)) (.leN N3 (.a N2 N5)) (.eqN (.a N0 N5) N4) (.eqN (.a N2 N5) N3) [1,0,1,0,1,1,0] [1,1,0,1,0,0,1] rfl this.1 h (af _ _) (af _ _) (ab (bR [_,_,_,_,_] [] (.leN N0 N1) (.leN N0 N2) (.leN N2 N3) (.ltN N3 N4) (.leN N4 N1) [1,1,1,1,1] rfl h3 (by assumption) hbe this.1)) (ab (aq [_,_,_,_] [] (.leN N0 N1) (.leN N0 N2) (.leN N2 N3) (.ltN N3 N1) [1,1,1,1] rfl h3 (by assumption) hbe))),if_neg (fun h'=>h (of_decide_eq_true h'))]
    ·rw [if_neg (by exact aq [_,_,_,_,_,_] [] (.n (.ltN (.a N0 N1) (.a N2 N1))) (.n (.ltN N3 N4)) (.leN N3 (.a N0 N5)) (.eqN (.a N2 N5) N4) [1,1,1,1] rfl hbe (af _ _) (ab (ag [_,_,_,_] [] (.leN N0 N1) (.leN N2 N1) (.eqN (.a N3 N0) N2) [1,1,1] rfl (by assumption) (ab (ag [_,_,_] [] (.leN N0 N1) (.leN N0 N2) (.leN N2 N1) [1,1,1] rfl h3 (by assumption)))))),decide_eq_false hbe,Bool.false_and];rfl
   rw [hno]
   have hMl:lapL t (F++L.drop done) (b - done+F.length) (e - done+F.length)=(F++sub L done b++newOf t (sub L b e))++L.drop e:=hM
   rw [hMl,hMs]
   by_cases hn:nearB (Ept p L) b e=true
   ·rw [if_pos hn] at k1 k2 ⊢
    obtain ⟨g1,g2⟩:=Bool.and_eq_true_iff.mp hn
    cases hq:Ept p L e with
    | none=>rw [hq] at g2;exact fT g2
    | some q =>
     rw [hq] at g2
     have g2:e<q:=of_decide_eq_true g2
     have g3:=hi q r3 hq
     have hl2:lookR (Ept p L) L e=some (e,q):=by
      unfold lookR
      rw [if_pos (by exact ag [_,_,_] [] (.ltN N0 N1) (.ltN N0 N2) (.leN N2 N1) [1,1,1] rfl g2 g3.2),show L.length+1 - e=(L.length - e)+1 by exact bp [_,_,_,_] [] (.eqN N0 (.a N1 (.k 1))) (.leN (.a N2 (.k 1)) (.a N0 N3)) (.leN N2 (.a N1 N3)) (.eqN (.a N0 N3) (.a N2 (.k 1))) (.eqN (.a N1 N3) N2) [1,0,1,1,0] [1,1,0,0,1] rfl (af _ _) (af _ _) (ab (aa [_,_] [] (.leN N0 (.a N1 (.k 1))) (.leN N0 N1) [1,1] rfl (by assumption))) (ab ((by assumption)))]
      unfold search
      rw [hq]
     rw [hl2] at k2
     have k2:runL (Ept p) t f ((F++sub L done b++newOf t (sub L b e))++L.drop e) (e - e+(F++sub L done b++newOf t (sub L b e)).length) (q - e+(F++sub L done b++newOf t (sub L b e)).length) (m+1)=some (Lf,mf):=k2
     rw [hF2] at k2
     show runL (Ept p) t f _ (b - done+F.length+(newOf t (sub L b e)).length) (b - done+F.length+(newOf t (sub L b e)).length+(q - done+F.length - (e - done+F.length))) (m+1)=_
     rw [show b - done+F.length+(newOf t (sub L b e)).length=e - e+(F.length+(b - done)+(newOf t (sub L b e)).length) by exact aK [_,_,_,_,_] [] (.eqN (.a (.a N0 N1) N2) (.a N3 (.a (.a N1 N0) N2))) (.eqN (.a N3 N4) N4) [1,0] [1,1] rfl (ab (ak [_] [] (.leN N0 N0) [1] rfl)),show e - e+(F.length+(b - done)+(newOf t (sub L b e)).length)+(q - done+F.length - (e - done+F.length))=q - e+(F.length+(b - done)+(newOf t (sub L b e)).length) by exact ml [_,_,_,_,_,_,_,_,_,_,_] [] (.eqN (.a (.a N0 (.a (.a N1 N2) N3)) N4) (.a N5 (.a (.a N1 N2) N3))) (.leN N6 (.a N7 N8)) (.leN N9 (.a N10 N8)) (.leN (.a N7 N1) (.a N4 (.a N10 N1))) (.leN N6 (.a N5 N9)) (.eqN (.a N0 N9) N9) (.eqN (.a N7 N8) N6) (.eqN (.a N10 N8) N9) (.eqN (.a N4 (.a N10 N1)) (.a N7 N1)) (.eqN (.a N5 N9) N6) [1,0,1,0,1,1,1,0,1,0] [1,1,0,1,0,0,0,1,0,1] rfl (af _ _) (af _ _) (af _ _) (af _ _) (ab (ak [_] [] (.leN N0 N0) [1] rfl)) (ab (aq [_,_,_,_,_] [] (.leN N0 N1) (.leN N2 N3) (.ltN N3 N1) (.eqN (.a N4 N0) N2) [1,1,1,1] rfl (by assumption) g2 (ab (ag [_,_,_] [] (.leN N0 N1) (.leN N0 N2) (.leN N2 N1) [1,1,1] rfl h3 (by assumption))))) (ab (ag [_,_,_,_] [] (.leN N0 N1) (.leN N2 N1) (.eqN (.a N3 N0) N2) [1,1,1] rfl (by assumption) (ab (ag [_,_,_] [] (.leN N0 N1) (.leN N0 N2) (.leN N2 N1) [1,1,1] rfl h3 (by assumption))))) (ab (aq [_,_,_,_,_,_] [] (.leN (.a N0 N1) (.a N2 N1)) (.ltN N3 N4) (.leN N4 (.a N2 N5)) (.eqN (.a N0 N5) N3) [1,1,1,1] rfl g2 (af _ _) (ab (ag [_,_,_,_] [] (.leN N0 N1) (.leN N2 N1) (.eqN (.a N3 N0) N2) [1,1,1] rfl (by assumption) (ab (ag [_,_,_] [] (.leN N0 N1) (.leN N0 N2) (.leN N2 N1) [1,1,1] rfl h3 (by assumption))))))) (ab (g3.1))]
     exact k2
   ·rw [if_neg hn] at k1 k2 ⊢
    have hlk2:=jq (A:=F++sub L done b++newOf t (sub L b e)) (k:=1) hp r3
    rw [hF2] at hlk2
    show (match lookR (Ept p _) _ (b - done+F.length+(newOf t (sub L b e)).length+1) with | none=>some (_,m+1) | some r=>runL (Ept p) t f _ r.1 r.2 (m+1))=_
    rw [show b - done+F.length+(newOf t (sub L b e)).length+1=F.length+(b - done)+(newOf t (sub L b e)).length+1 by exact au [_,_,_] [] (.eqN (.a (.a (.a N0 N1) N2) (.k 1)) (.a (.a (.a N1 N0) N2) (.k 1))) [1] [1] rfl,hlk2]
    cases hl3:lookR (Ept p L) L (e+1) with
    | none=>rw [hl3] at k2;rw [k2.1,k2.2];rfl
    | some r =>
     rw [hl3] at k2
     have k2:runL (Ept p) t f ((F++sub L done b++newOf t (sub L b e))++L.drop e) (r.1 - e+(F++sub L done b++newOf t (sub L b e)).length) (r.2 - e+(F++sub L done b++newOf t (sub L b e)).length) (m+1)=some (Lf,mf):=k2
     rw [hF2] at k2
     exact k2
theorem kt (hp:is01 p=true) (hL:L.length≤9) {st:Nat} (hst:st≤L.length):∃ Lf mf,allL (Ept p) t 12 L st=some (Lf,mf)∧walkL (lawE L 120 (leastOf p) (mostOf p) (lastI (lastB p))) t L 12 st 0 [] 0=some (Lf,mf):=by
 rw [jp hp (by exact aa [_] [] (.leN N0 (.k 99)) (.leN N0 (.k 9)) [1,1] rfl hL)]
 obtain ⟨Lf,mf,k1,k2⟩:=js (t:=t) hp hL (f:=12) (F:=[]) (done:=0) (at_:=st) (m:=0) (by exact aa [_,_] [] (.leN (.a N0 (.k 1)) (.a N1 (.k 12))) (.leN N0 (.k 9)) [1,1] rfl hL) (by exact ak [] [] (.leN (.k 1) (.k 12)) [1] rfl) (Nat.zero_le _) (Nat.zero_le _) (Nat.zero_le _) (Nat.zero_le _) (by exact aa [_,_] [] (.leN N0 (.a N1 (.k 1))) (.leN N0 N1) [1,1] rfl hst)
 refine ⟨Lf,mf,?_,k1⟩
 unfold allL
 cases hl:lookR (Ept p L) L st with
 | none=>rw [hl] at k2;rw [k2.1,k2.2];rfl
 | some r=>rw [hl] at k2;exact k2
end
theorem ge:∀ {vs:List Value} {xs:List Int},IntsAre vs xs→Paired (fun (i:Int) v=>∃ t,v=.int i t) xs vs
 | _,_,.nil=>.nil
 | _,_,.cons n t h=>.cons ⟨t,rfl⟩ (ge h)
theorem fx {K:Frag} {p:Addr×Obj→Bool} (h:K.all p=true) {a:Addr} {o:Obj} (e:K.lookup a=some o):p (a,o)=true:=by
 induction K with
 | nil=>cases e
 | cons x K ih =>
  obtain ⟨b,q⟩:=x
  obtain ⟨h1,h2⟩:=Bool.and_eq_true_iff.mp (show (p (b,q) && K.all p)=true from h)
  rw [List.lookup_cons] at e
  cases z:a == b with
  | true=>rw [z] at e;cases e;rw [beq_iff_eq.mp z];exact h1
  | false=>rw [z] at e;exact ih h2 e
theorem ni {prog:Program} {w:World} {K:Frag} {side:Bool} {f d:Nat} {s:Shared} {fa l:Addr} {p:Program} {loose:List Str} {mg mb:Str→Option Value} (T:TopRead p loose mg mb s.heap) (KX:K.In s.heap) (KC:factsB side K=true) (KN:noLB K=true)
  (hf:(fi side f).isSome=true) (hn:fnK[f]?=some none) (hm:mg (fnS f)=some (.ref fa)) (hA:Room1 d callerA) {vs:Array Value} {S:List Int} (hL:s.heap.IsList l vs) (hI:IntsAre vs.toList S) (hS:S.length≤LIM) {R:Result→Shared→Prop}
  (law:∀ B:Base,B.side=side→∃ Z,Con B d f [.ref 0] [.fro S] (.bool true) (.fro S::Z))
  (hR:∀ h' tk,(∀ b o,s.heap.get? b=some o→h'.get? b=some o)→R (.ok (.ret (.bool true))) ⟨h',s.gens,s.drawn,tk,s.os⟩):codeAny (model prog w) callerA (.call (.ref fa) ⟨[.ref l],[]⟩) R s:=by
 obtain ⟨lo,el,ecl,n,edat⟩:=hL
 have z0:=TI.get?_update_freed s.heap l
 have z1:=fun (b:Addr) (hb:l≠b)=>Heap.get?_update_other s.heap (fun o=>{ o with data:=.freed }) hb
 generalize (s.heap.update l fun o=>{ o with data:=.freed })=h₀ at z0 z1
 have g1:∀ b o,h₀.get? b=some o→s.heap.get? b=some o:=fun b o e=>by
  by_cases h:l=b
  ·rw [← h,z0] at e;cases e
  ·rw [← z1 b h];exact e
 have K0:K.In h₀:=fun a o e=>by
  have ho:=KX a o e
  by_cases h:l=a
  ·have hk:=fx KN e
   rw [← h,el] at ho
   cases ho
   dsimp only at hk
   rw [edat] at hk
   dsimp only at hk
   rw [ecl] at hk
   cases hk
  ·rw [z1 a h];exact ho
 have nk:∀ {a m},s.heap.Ns a m→h₀.Ns a m:=fun {a m} ⟨o,es,ep,ho,hd,r⟩=>by
  by_cases h:l=a
  ·rw [← h,el] at ho
   cases ho
   rw [edat] at hd
   cases hd
  ·exact ⟨o,es,ep,(z1 a h).trans ho,hd,r⟩
 have F:=iO (prog:=prog) (w:=w) (lo:=lo) KC (T:=⟨K0,p,loose,mg,mb,nk T.g,nk T.b,let ⟨mc,a,b⟩:=T.nolimit;⟨mc,nk a,b⟩,T.builtins,T.free⟩)
 have hfa:fa=faB K f:=by
  have:=mg_of KX T.g (F.fnm f hf hn).1
  rw [hm] at this
  cases this;rfl
 obtain ⟨Z,hc,_⟩:=law ⟨wdOf prog w K lo,K,h₀,faB K,side,F⟩ rfl
 rw [hfa]
 have hr:Rel (wdOf prog w K lo) h₀ [(l,none)] [.fro S] s.heap:=by
  refine ⟨g1,rfl,List.nodup_cons.mpr ⟨nofun,List.nodup_nil⟩,fun a m=>?_,fun a m=>?_,fun i o e=>?_⟩
  ·cases m with
   | head=>exact z0
   | tail _ m=>cases m
  ·cases m with
   | head=>exact ⟨_,el⟩
   | tail _ m=>cases m
  ·match i,e with
   | 0,e=>cases e;exact ⟨_,rfl,el,ecl,vs,n,edat,ge hI,hS⟩
   | _+1,e=>cases e
 refine hc hr hA (.cons ⟨_,rfl,rfl⟩ .nil) fun ρ' v h' tk P r=>?_
 obtain rfl:v=.bool true:=r
 refine hR h' tk fun b o e=>?_
 by_cases h:l=b
 ·obtain ⟨q,e1,e2,_⟩:=P.rel.objs 0 _ rfl
  have e3:ρ'[0]?=some (l,none):=aD P.pre rfl
  rw [e3] at e1
  cases e1
  rw [← h,el] at e
  cases e
  rw [← h];exact e2
 ·refine P.keep b o (fun m=>?_) nofun e
  cases m with
  | head=>exact h rfl
  | tail _ m=>cases m
theorem nj {k l:Nat} (hk:k<3) (hl:l<2):∃ p,is01 p=true∧k=kindOf p∧l=lidxOf (lastB p):=by
 match k,l,hk,hl with
 | 0,0,_,_=>exact ⟨.s0,rfl,rfl,rfl⟩
 | 0,1,_,_=>exact ⟨.s1,rfl,rfl,rfl⟩
 | 1,0,_,_=>exact ⟨.p0,rfl,rfl,rfl⟩
 | 1,1,_,_=>exact ⟨.p1,rfl,rfl,rfl⟩
 | 2,0,_,_=>exact ⟨.m0,rfl,rfl,rfl⟩
 | 2,1,_,_=>exact ⟨.m1,rfl,rfl,rfl⟩
theorem nl {k:Nat} (hk:k<3):∃ t:Tm,t≠.w3∧k=wayOf t:=by
 match k,hk with
 | 0,_=>exact ⟨.w0,nofun,rfl⟩
 | 1,_=>exact ⟨.w1,nofun,rfl⟩
 | 2,_=>exact ⟨.w2,nofun,rfl⟩
theorem nq {B:Base} {d:Nat} (hB:B.side=false) (S:List Int):∃ Z,Con B (d+21) 105 [.ref 0] [fD S] (.bool true) (fD S::Z):=by
 obtain ⟨C,D2,hC⟩:∃ C D2,drawsL al1 (1+drawV (absL (S.take 40)) 9) (absL (S.take 40)).tail=(C,D2):=⟨_,_,rfl⟩
 have hl:=dn (al:=al1) (n:=1+drawV (absL (S.take 40)) 9) (D:=(absL (S.take 40)).tail)
 rw [hC] at hl
 have hl:C.length=1+drawV (absL (S.take 40)) 9:=hl
 have h9:=aR (D:=absL (S.take 40)) (m:=9) (by exact ak [] [] (.ltN (.k 0) (.k 9)) [1] rfl)
 obtain ⟨p,hp,h1,h2⟩:=nj (aR (D:=D2) (m:=3) (by exact ak [] [] (.ltN (.k 0) (.k 3)) [1] rfl)) (aR (D:=D2.tail) (m:=2) (by exact ak [] [] (.ltN (.k 0) (.k 2)) [1] rfl))
 obtain ⟨t,ht,h3⟩:=nl (aR (D:=D2.tail.tail) (m:=3) (by exact ak [] [] (.ltN (.k 0) (.k 3)) [1] rfl))
 have h4:=aR (D:=D2.tail.tail.tail) (m:=C.length+1) (by exact ak [_] [] (.ltN (.k 0) (.a N0 (.k 1))) [1] rfl)
 obtain ⟨Lf,mf,k1,k2⟩:=kt (t:=t) hp (L:=C) (by exact ag [_,_] [] (.leN N0 (.k 9)) (.eqN N0 (.a (.k 1) N1)) (.ltN N1 (.k 9)) [1,1,1] rfl (by assumption) h9) (st:=drawV D2.tail.tail.tail (C.length+1)) (by exact aa [_,_] [] (.leN N0 N1) (.ltN N0 (.a N1 (.k 1))) [1,1] rfl h4)
 exact mi hB hp ht rfl hC h1 h2 h3 rfl (by exact ak [] [] (.leN (.k 12) (.k 800)) [1] rfl) k1 (by exact ak [] [] (.leN (.k 12) (.k 12)) [1] rfl) k2
end Mine
open PySem PySem.W PyProof.Rows
namespace Mine
theorem nu {s₀ s₁:Shared} {args:List WData} {h':Heap} {tk:Tok} (hg:s₁.gens=#[]) (hk:∀ b o,s₁.heap.get? b=some o→h'.get? b=some o) :
  GoodWG Challenge.rw_pq0329_01.row.claim (classAt s₀.heap) (ExcName.means s₀.heap) args s₁ (.ok (.ret (.bool true))) ⟨h',s₁.gens,s₁.drawn,tk,s₁.os⟩ :=
 ⟨.inl ⟨_,.bool true,[],rfl,fun _=>rfl,.bool _,by with_unfolding_all rfl,fun _=>⟨List.nodup_nil,nofun⟩⟩,.of_keep hk,rfl,.of_eq hg⟩
set_option tactic.hygienic true in
theorem fin01 {w:World} {s₀ s₁:Shared} {mg mb:Str→Option Value} {p:Program} {loose:List Str} {fa:Addr} {K:Frag} (T:TopRead p loose mg mb s₁.heap) (KX:K.In s₁.heap) (KC:factsB false K=true) (KN:noLB K=true) (hmg:mg (fnS 105)=some (.ref fa)) (hg:s₁.gens=#[])
  {args:List WData} {vals:List Value} {as:List Addr} (hpre:Challenge.rw_pq0329_01.row.claim.pre args=true) (hlay:WData.layableAll args=true) (hrd:ReadsAllW Challenge.rw_pq0329_01.row.records (classAt s₀.heap) s₁.heap vals args as) (hwl:WellAll w.params s₁.heap vals args) (hlo:∀ (a:Addr),a∈as→(a == sysModules)=false) :
  wpAny (model Challenge.rw_pq0329_01.row.prog w) callerA (call (.ref fa) vals) (fun v s'=>GoodWG Challenge.rw_pq0329_01.row.claim (classAt s₀.heap) (ExcName.means s₀.heap) args s₁ (.ok (.ret v)) s') (fun e s'=>GoodWG Challenge.rw_pq0329_01.row.claim (classAt s₀.heap) (ExcName.means s₀.heap) args s₁ (.error e) s') s₁:=by
 wrow_args hpre hlay hrd hwl hlo
 rename_i S _ _ _ _ _ _ _ l vs _ hL _ _ _ hI _ hc _
 exact enter_call (ni (side:=false) (f:=105) (d:=21) T KX KC KN rfl rfl hmg ⟨rfl,by decide,by decide⟩ hL (vs:=vs.toArray) hI (show S.length≤10000 by exact aa [_] [] (.leN N0 (.k 10000)) (.n (.ltI (.c (.k 63)) (.c N0))) [1,1] rfl hc) (fun B hB=>nq (d:=0) hB S) (fun h' tk hk=>nu hg hk))
end Mine
open PySem PySem.W PyProof.Rows
namespace Mine.hd
def tw2867327485932766208:=Nat
def tw8735263284916673568:=Nat
def tw1800889605409440832:=Nat
def tw546821695630378048:=Nat
def tw4523669819894539328:=Nat
def tw6276725880618359904:=Nat
def tw13155780701260043360:=Nat
def tw17470177872615007328:=Nat
def tw16412773359747925120:=Nat
def tw4706079058837389440:=Nat
def tw5292301768408028288:=Nat
def tw10195207025132199040:=Nat
def tw6830512106363814048:=Nat
def tw14558808003701164192:=Nat
def tw9819381871234978016:=Nat
def tw17950676927832955104:=Nat
def tw10458740792067480800:=Nat
def tw17068584692051799264:=Nat
def tw17956543221229664512:=Nat
def tw11595982170579460384:=Nat
def tw11109741339103130912:=Nat
def tw17642925155131852096:=Nat
def tw10259988299927297344:=Nat
def tw8381844023166312768:=Nat
def tw10763509664835889504:=Nat
def tw6352655612330318208:=Nat
def tw191490408472666496:=Nat
def tw8912348807662434688:=Nat
def tw7023726343779634624:=Nat
def tw3911173418732280352:=Nat
def tw15344866539931968096:=Nat
def tw4494801613693538912:=Nat
def tw4946210868454251104:=Nat
def tw7541792107247259296:=Nat
def tw16154546982801380032:=Nat
def tw12070654863422294720:=Nat
def tw4730091804998409952:=Nat
def tw16694946328126371552:=Nat
def tw7080932558258925280:=Nat
def tw15643275761693703936:=Nat
def tw5715356086224469760:=Nat
def tw10224846074564989696:=Nat
def tw17183224562656869120:=Nat
def tw3887682987991473952:=Nat
def tw5210516612614172448:=Nat
def tw4958948430592982816:=Nat
def tw5983496337302601536:=Nat
def tw1632911306035174240:=Nat
def tw15152743547302097792:=Nat
def tw3350930974749635488:=Nat
def tw10026777125879992224:=Nat
def tw14598272352848978880:=Nat
def tw17252143746492648416:=Nat
def tw10752148897807903841:=Nat
def tw4522189594802832481:=Nat
def tw12127338746724423809:=Nat
def tw7610815399733428385:=Nat
def tw18017436600226737313:=Nat
def tw13129650132239662433:=Nat
def tw3608080431324598657:=Nat
def tw11832316714811090305:=Nat
def tw6624954825109534081:=Nat
def tw6418563310689889697:=Nat
def tw4111692666942324129:=Nat
def tw4086058157674990017:=Nat
def tw9429285754427346401:=Nat
def tw7512474625130614241:=Nat
def tw16037735763661986305:=Nat
def tw17336936450418997793:=Nat
def tw4367455430839740993:=Nat
def tw18343703819029505601:=Nat
def tw10437652513591952993:=Nat
def tw8773699223549846113:=Nat
def tw3951213933799974497:=Nat
def tw13585648185636399713:=Nat
def tw10678649693572172417:=Nat
def tw13330244855972007585:=Nat
def tw2371736936440567457:=Nat
def tw7955510936560370401:=Nat
def tw17312975722139092705:=Nat
def tw2799716289819351777:=Nat
def tw5343241284826551009:=Nat
def tw16547865195752855329:=Nat
def tw13937860266046166849:=Nat
def tw6473056668773228353:=Nat
def tw4186180820073840449:=Nat
def tw12304030251830124417:=Nat
def tw6046454685291232161:=Nat
def tw8887996145723391905:=Nat
def tw954383436051774369:=Nat
def tw13769030334917282753:=Nat
def tw7914949630228597729:=Nat
def tw2505046432360240130:=Nat
def tw15879461069666533410:=Nat
def tw10905682514733158466:=Nat
def tw14745743045033390146:=Nat
def tw15630680890609703042:=Nat
def tw5592821105494180994:=Nat
def tw5480042469492414594:=Nat
def tw6308581086252854402:=Nat
def tw4210835263042620578:=Nat
def tw1968897829998239906:=Nat
def tw6216614200119509154:=Nat
def tw5658185497973507234:=Nat
def tw9731375825926819010:=Nat
def tw4272726840584523970:=Nat
def tw6237077433064714434:=Nat
def tw13171141561276507362:=Nat
def tw9430268157657104642:=Nat
def tw13919464512627920130:=Nat
def tw9299316483162031394:=Nat
def tw4702841417184801058:=Nat
def tw11094135839237829922:=Nat
def tw12337632362937886050:=Nat
def tw3478764184967624034:=Nat
def tw758273949599710562:=Nat
def tw17588044629489971554:=Nat
def tw14725821394091407714:=Nat
def tw11713075325732132258:=Nat
def tw4355604671862981090:=Nat
def tw6138573725649716802:=Nat
def tw17042034404087940706:=Nat
def tw5549315172176941698:=Nat
def tw15064902949301533346:=Nat
def tw3919010098100093602:=Nat
def tw10216583315705618146:=Nat
def tw4125931394999656194:=Nat
def tw7525542149764818722:=Nat
def tw3173010612589774626:=Nat
def tw13064122474441708322:=Nat
def tw17088974140843591490:=Nat
def tw9960721518486171458:=Nat
def tw16443024508289211202:=Nat
def tw4581847759332874082:=Nat
def tw5360435025570183010:=Nat
def tw11194669416261925730:=Nat
def tw10365702040365258594:=Nat
def tw17895171251205151618:=Nat
def tw8450674356893351874:=Nat
def tw18245042118932799458:=Nat
def tw17994825080979385314:=Nat
def tw8179070454071193570:=Nat
def tw2263123870574935043:=Nat
def tw16348219163339758595:=Nat
def tw8531993380330477603:=Nat
def tw15618049606547972131:=Nat
def tw5378308252288859171:=Nat
def tw12364972598781006883:=Nat
def tw17280916231814732835:=Nat
def tw8228950375871286339:=Nat
def tw1882180444382439491:=Nat
def tw6052482589124101219:=Nat
def tw5318216170032084099:=Nat
def tw17325209927041812611:=Nat
def tw9048539425550374019:=Nat
def tw2304311442786299043:=Nat
def tw16742768539259284675:=Nat
def tw13001811119718631651:=Nat
def tw12704988097186499811:=Nat
def tw16904818350239718627:=Nat
def tw3660579746685279459:=Nat
def tw18322514126500204803:=Nat
def tw17130151131035750659:=Nat
def tw10847404155465417027:=Nat
def tw3229955645248102723:=Nat
def tw5174551420813472067:=Nat
def tw2783992281797965187:=Nat
def tw867598499069673859:=Nat
def tw19140548474820995:=Nat
def tw11754176132448286083:=Nat
def tw10768795402259594627:=Nat
def tw6411954120941647267:=Nat
def tw4282359134580295075:=Nat
def tw7489763959799892387:=Nat
def tw1760603350576429475:=Nat
def tw13368278939475635651:=Nat
def tw17087091549796120035:=Nat
def tw12453114486196615683:=Nat
def tw9584790999859711587:=Nat
def tw15462364658246741603:=Nat
def tw17671606695714314883:=Nat
def tw17002781174329755331:=Nat
def tw11513968764499736323:=Nat
def tw9908193460736022307:=Nat
def tw9889170791110341411:=Nat
def tw5138769234217329475:=Nat
def tw2480057099694739299:=Nat
def tw15008138337711789923:=Nat
def tw11631947586910100387:=Nat
def tw18293851220164018083:=Nat
def tw11629707937479629763:=Nat
def tw519851828213033955:=Nat
def tw17843490464661113860:=Nat
def tw2997881692418614276:=Nat
def tw12201216968780110852:=Nat
def tw16477043939570097188:=Nat
def tw14859038896228082724:=Nat
def tw65052924660596772:=Nat
def tw8690549050251857956:=Nat
def tw6060742912462422084:=Nat
def tw6320253292602491972:=Nat
def tw14896477498954680388:=Nat
def tw8269573656231971908:=Nat
def tw6213412439835118660:=Nat
def tw6407587892757256292:=Nat
def tw17696971302532935780:=Nat
def tw9228397985900620932:=Nat
def tw6785817131721698500:=Nat
def tw5278057926702712004:=Nat
def tw10841399608879689956:=Nat
def tw1299046323782801668:=Nat
def tw10507497572311344420:=Nat
def tw14892549342360969540:=Nat
def tw13855946660403688772:=Nat
def tw8068729725432388964:=Nat
def tw3132252637357597028:=Nat
def tw3722166409189360004:=Nat
def tw18358800413957953924:=Nat
def tw7676003278276379012:=Nat
def tw3219085151875037572:=Nat
def tw12779077293037269412:=Nat
def tw18235699687725533636:=Nat
def tw1445366717492459972:=Nat
def tw11465210709893060100:=Nat
def tw12861998865439983172:=Nat
def tw8493152586797012548:=Nat
def tw7175568609137494628:=Nat
def tw469108185253701220:=Nat
def tw7379015992945566340:=Nat
def tw17001982702790524580:=Nat
def tw12431770505752037028:=Nat
def tw2323474266016966308:=Nat
def tw9013056391748086436:=Nat
def tw10764900872603112132:=Nat
def tw5732804406350252772:=Nat
def tw1241404454085649124:=Nat
def tw10809293155625720580:=Nat
def tw17583924267553061668:=Nat
def tw7076163891533521732:=Nat
def tw8684328023851190084:=Nat
def tw22944897461248836:=Nat
def tw8458067239894703972:=Nat
def tw6800881396052196260:=Nat
def tw14991384322417631237:=Nat
def tw11572428696923059269:=Nat
def tw13931416462566266981:=Nat
def tw13122850982685727845:=Nat
def tw8356816923877370021:=Nat
def tw2729298822523640997:=Nat
def tw8881176148764397765:=Nat
def tw17374299458141838533:=Nat
def tw12414669353804360901:=Nat
def tw2502866573005156581:=Nat
def tw4074112789689628901:=Nat
def tw12945869327102554373:=Nat
def tw11375277706881905925:=Nat
def tw4292457097857839397:=Nat
def tw10258999931320997221:=Nat
def tw11893437276241958245:=Nat
def tw12399718760709695909:=Nat
def tw9999340725249035685:=Nat
def tw730018519977014757:=Nat
def tw5976792059365374437:=Nat
def tw1847840615245081061:=Nat
def tw13205855875590784517:=Nat
def tw11623594800819314181:=Nat
def tw7721951785955056133:=Nat
def tw8293946417935249925:=Nat
def tw9853226902798595589:=Nat
def tw15790720579355451973:=Nat
def tw5167245352685981253:=Nat
def tw18160293313031310949:=Nat
def tw1454209132759308965:=Nat
def tw12642813592246648485:=Nat
def tw9842699097658496709:=Nat
def tw18015809273756184261:=Nat
def tw407309309204651749:=Nat
def tw15381450162410889989:=Nat
def tw14711139521213225765:=Nat
def tw10031445930688152421:=Nat
def tw6438293893037913957:=Nat
def tw15637593595834871717:=Nat
def tw5505005885091257285:=Nat
def tw9726439670489285605:=Nat
def tw17491280204586788870:=Nat
def tw13475242022060392486:=Nat
def tw6555240042291301478:=Nat
def tw13181700845877081190:=Nat
def tw14889214211474231398:=Nat
def tw16692772259055178886:=Nat
def tw11069045038748578950:=Nat
def tw6181573660694698118:=Nat
def tw5363428345988834438:=Nat
def tw10583446816852156582:=Nat
def tw13466754112058979494:=Nat
def tw5899666649113621702:=Nat
def tw2871226400543044806:=Nat
def tw12682632469016403174:=Nat
def tw3484992998616243462:=Nat
def tw7628703163842673926:=Nat
def tw8472141830624432390:=Nat
def tw3088336149111003398:=Nat
def tw8268277133935991078:=Nat
def tw16211521421427940678:=Nat
def tw5516785719162176838:=Nat
def tw7523672394736509286:=Nat
def tw3673020696563887462:=Nat
def tw13092906067662860646:=Nat
def tw11778180911958503814:=Nat
def tw991583007596301734:=Nat
def tw8345560877234265574:=Nat
def tw102014493982917126:=Nat
def tw13066319289922817542:=Nat
def tw8311865607074365958:=Nat
def tw10424393626065333798:=Nat
def tw2295870552580634182:=Nat
def tw6988595667528144454:=Nat
def tw5927567313105069670:=Nat
def tw8281992286691534438:=Nat
def tw14810379563594542694:=Nat
def tw2195365466389143174:=Nat
def tw13903934854276604550:=Nat
def tw1865391376527767206:=Nat
def tw4993660671451451078:=Nat
def tw1506431575118746342:=Nat
def tw2315468765258864358:=Nat
def tw16993510635178189574:=Nat
def tw13893168526513508166:=Nat
def tw3044193314922437478:=Nat
def tw7153062008950511462:=Nat
def tw11915910579716288358:=Nat
def tw6014424301940151174:=Nat
def tw9386895884608548742:=Nat
def tw3039998526598829958:=Nat
def tw8934143017859847078:=Nat
def tw18152756486534528934:=Nat
def tw10117440562283002822:=Nat
def tw3085322323922540518:=Nat
def tw1771013558043686919:=Nat
def tw17101829828953933863:=Nat
def tw12617484926136758311:=Nat
def tw15043168886218598503:=Nat
def tw16641143254114907239:=Nat
def tw10844753989422098599:=Nat
def tw17893044597097874663:=Nat
def tw15683763237869141255:=Nat
def tw895778769243568423:=Nat
def tw3674156319703528775:=Nat
def tw17919194246423945575:=Nat
def tw10819331528351526247:=Nat
def tw17062030032774818151:=Nat
def tw11845739042510646663:=Nat
def tw5547500650982815111:=Nat
def tw8977307856219701671:=Nat
def tw12164032871283449351:=Nat
def tw12659318050587179527:=Nat
def tw17876089906941426215:=Nat
def tw2394040479862359591:=Nat
def tw3109861748172591687:=Nat
def tw18235018827726667335:=Nat
def tw17753136161530015303:=Nat
def tw18205439006774131303:=Nat
def tw12058812876911547015:=Nat
def tw12901994302517312135:=Nat
def tw4449123307109862055:=Nat
def tw17969167859971792583:=Nat
def tw7068711184596962023:=Nat
def tw13759995583405993703:=Nat
def tw11660266114150955751:=Nat
def tw5054737718236178183:=Nat
def tw8960069828448710407:=Nat
def tw4043750813493925671:=Nat
def tw17672654358674132775:=Nat
def tw9600117475790353255:=Nat
def tw7028611270464810887:=Nat
def tw701787995468756871:=Nat
def tw6469175993241445255:=Nat
def tw1494587877672395719:=Nat
def tw14243392841119246311:=Nat
def tw8545014587354053640:=Nat
def tw190519026028168232:=Nat
def tw15001097145646765096:=Nat
def tw4282304852377368616:=Nat
def tw7702882491108231240:=Nat
def tw7074851169733056584:=Nat
def tw7372000682148998216:=Nat
def tw4091639524402994376:=Nat
def tw11126320352707459272:=Nat
def tw8671608845466749128:=Nat
def tw10286656452748174568:=Nat
def tw17570734847185409352:=Nat
def tw10246146449241189800:=Nat
def tw16920754564084929960:=Nat
def tw6824622198901579176:=Nat
def tw13562760996464443880:=Nat
def tw16914215919094292968:=Nat
def tw12949589719889679912:=Nat
def tw6038821095411175016:=Nat
def tw5464967688985200232:=Nat
def tw9312999139381119592:=Nat
def tw18268791191939849864:=Nat
def tw12862481390200346248:=Nat
def tw2708950531961675432:=Nat
def tw4642405928176397000:=Nat
def tw1652104869958991592:=Nat
def tw16553176871889331944:=Nat
def tw4671187664572333832:=Nat
def tw16605896050852369192:=Nat
def tw18252017834820373320:=Nat
def tw14205177575709318024:=Nat
def tw960944832710211464:=Nat
def tw4870687313549177768:=Nat
def tw17975533764899295144:=Nat
def tw17606204343806522280:=Nat
def tw6627881031435992008:=Nat
def tw7792395482447073224:=Nat
def tw11011131195910976488:=Nat
def tw16376525773666504680:=Nat
def tw4310969922304039945:=Nat
def tw7174315439194531881:=Nat
def tw2040990291671593033:=Nat
def tw17066044127408595049:=Nat
def tw8959176491354863721:=Nat
def tw12565835363266740329:=Nat
def tw18166333605607142505:=Nat
def tw18291330726469416073:=Nat
def tw4527685146903026889:=Nat
def tw5501101090543620329:=Nat
def tw4225703048834024713:=Nat
def tw11841407262063887625:=Nat
def tw8652628183442184457:=Nat
def tw10788059911547816233:=Nat
def tw16826083622388986153:=Nat
def tw14906377314874228009:=Nat
def tw3890083515106143593:=Nat
def tw8161899039612259689:=Nat
def tw5280665267005167017:=Nat
def tw8019912454424913321:=Nat
def tw8479784124755550697:=Nat
def tw2950116434499453417:=Nat
def tw1129884963351977449:=Nat
def tw8184699220007379433:=Nat
def tw18440339763339231785:=Nat
def tw1362751533348561449:=Nat
def tw137786328141462057:=Nat
def tw9299267367459917385:=Nat
def tw15054653185330862665:=Nat
def tw14579804019780415049:=Nat
def tw5009564483982726761:=Nat
def tw3685171636038014569:=Nat
def tw17925215291927510665:=Nat
def tw567884609423149705:=Nat
def tw201726718363867817:=Nat
def tw663384727985864361:=Nat
def tw12863906000906642121:=Nat
def tw15507233207671766761:=Nat
def tw9627899436633539337:=Nat
def tw11946446719211007785:=Nat
def tw2580477087445282633:=Nat
def tw12669576375859063689:=Nat
def tw14305287427422076809:=Nat
def tw9566141503761928105:=Nat
def tw14189342980343032745:=Nat
def tw5148922909946612681:=Nat
def tw11407884054146074569:=Nat
def tw18370931923303237609:=Nat
def tw714852897916480489:=Nat
def tw3915529967508079626:=Nat
def tw5462849890086031466:=Nat
def tw15042006015671813226:=Nat
def tw16009884308244765898:=Nat
def tw13490871333126383818:=Nat
def tw7120233287515763914:=Nat
def tw2960447077969926378:=Nat
def tw10778257442750969130:=Nat
def tw9406673726873002282:=Nat
def tw6804821044290156842:=Nat
def tw11527762539567839530:=Nat
def tw16794629799341752650:=Nat
def tw7654286748164834634:=Nat
def tw5416991563250132298:=Nat
def tw17447410573909459338:=Nat
def tw9864973744126774698:=Nat
def tw13616292390063288746:=Nat
def tw33583606019346890:=Nat
def tw16127448326832712202:=Nat
def tw242841246431481386:=Nat
def tw17143205804819765802:=Nat
def tw6528754448969337418:=Nat
def tw7751791981175770698:=Nat
def tw15591429051563716170:=Nat
def tw7716191020100267594:=Nat
def tw10603584201595350602:=Nat
def tw4360684699965382250:=Nat
def tw9132557439983319658:=Nat
def tw10170382586518783626:=Nat
def tw656455966557771466:=Nat
def tw1762386318068787946:=Nat
def tw1563692795949630186:=Nat
def tw12487502673411948298:=Nat
def tw500953250457666378:=Nat
def tw1809687716253123402:=Nat
def tw13952799448644948874:=Nat
def tw4478964076566166474:=Nat
def tw17737187407176874954:=Nat
def tw12112201142124510154:=Nat
def tw11248203148988284874:=Nat
def tw3027216511499375627:=Nat
def tw9271970288684553227:=Nat
def tw6769732088879122475:=Nat
def tw16823583209533085739:=Nat
def tw1335065189686863947:=Nat
def tw8244733829118024811:=Nat
def tw7228782613342275723:=Nat
def tw12239354291974867115:=Nat
def tw11128854368766332075:=Nat
def tw13277076834127875243:=Nat
def tw7228613107392120011:=Nat
def tw9449672872311958731:=Nat
def tw12832683148521936107:=Nat
def tw14776966858535155947:=Nat
def tw18176940659606848779:=Nat
def tw17628472586750557451:=Nat
def tw11917015161858427179:=Nat
def tw13855881374063213867:=Nat
def tw3530251461782974795:=Nat
def tw6449127861642672459:=Nat
def tw5299927114449058123:=Nat
def tw17070941380808615275:=Nat
def tw9170477692918782315:=Nat
def tw10030107230732127627:=Nat
def tw15463257786427224491:=Nat
def tw1511243299971373483:=Nat
def tw2525132952625102283:=Nat
def tw3196170801527574987:=Nat
def tw17054507655720011243:=Nat
def tw1893913032611223051:=Nat
def tw6683769817339685419:=Nat
def tw1193511646419615275:=Nat
def tw12584197744579040843:=Nat
def tw16742648372681657963:=Nat
def tw37099724090138251:=Nat
def tw9741134391959003819:=Nat
def tw17716752530537883307:=Nat
def tw15089522573102190283:=Nat
def tw14333710738500927179:=Nat
def tw7081294716157063915:=Nat
def tw10743916045514856203:=Nat
def tw9748044761591592747:=Nat
def tw8727321023445011275:=Nat
def tw2999033326186475339:=Nat
def tw8242931771332617035:=Nat
def tw13029304954367342411:=Nat
def tw8716120427605611371:=Nat
def tw6196171512934965099:=Nat
def tw16896567674234606475:=Nat
def tw3494175830530594699:=Nat
def tw7640094616464845771:=Nat
def tw5306076463120387019:=Nat
def tw15033227074091944939:=Nat
def tw6264232113106981867:=Nat
def tw12353913968525425643:=Nat
def tw2011083257458950123:=Nat
def tw8931695957890008076:=Nat
def tw4136554803537287180:=Nat
def tw4315991029959535628:=Nat
def tw8151903124980380684:=Nat
def tw13188104715197074476:=Nat
def tw1836080755315867724:=Nat
def tw6394381022753523788:=Nat
def tw17780371330241143884:=Nat
def tw13217827037086042188:=Nat
def tw8534833511749321836:=Nat
def tw1535757262459896012:=Nat
def tw17679848547673146604:=Nat
def tw14060154772996877548:=Nat
def tw7867956165831070988:=Nat
def tw16299908979028503884:=Nat
def tw12092154237167983948:=Nat
def tw8977460988437922124:=Nat
def tw2930668341846507884:=Nat
def tw15856727013471470956:=Nat
def tw17711083657039698284:=Nat
def tw10220581091169434988:=Nat
def tw14454528878903484812:=Nat
def tw17928657079672773036:=Nat
def tw16464424236575238572:=Nat
def tw6957150274394394060:=Nat
def tw14036073715788350988:=Nat
def tw12575139184659369484:=Nat
def tw9450335948986698252:=Nat
def tw5873113503399164460:=Nat
def tw18425480999828030028:=Nat
def tw4961882463931974252:=Nat
def tw6482722132109649516:=Nat
def tw12451100950165386860:=Nat
def tw5130813555471234732:=Nat
def tw8004679753235328684:=Nat
def tw5322579261384874668:=Nat
def tw18185175575083235020:=Nat
def tw15923250282426842828:=Nat
def tw17948085552500728524:=Nat
def tw7270182246851987180:=Nat
def tw12588582704262371052:=Nat
def tw14683707025165767436:=Nat
def tw10292235466723388172:=Nat
def tw15368132723985388332:=Nat
def tw12023040214023829324:=Nat
def tw2992796643361555308:=Nat
def tw2017483839651879820:=Nat
def tw16171809288044610508:=Nat
def tw2811109472151209932:=Nat
def tw14525409914595967980:=Nat
def tw10781468475247234061:=Nat
def tw16558851475291246605:=Nat
def tw18043258885162392589:=Nat
def tw6374767894290048045:=Nat
def tw15837987909243819085:=Nat
def tw5010264101278932077:=Nat
def tw12254263087357419629:=Nat
def tw11775305588321162381:=Nat
def tw13011413612017729677:=Nat
def tw7470679767882095757:=Nat
def tw4833718069199227053:=Nat
def tw16332348944364537037:=Nat
def tw6877226645827823821:=Nat
def tw1013155817946168525:=Nat
def tw15074197538484233485:=Nat
def tw14060237666301923597:=Nat
def tw11942693397608355085:=Nat
def tw14743440263598761229:=Nat
def tw7644636733232180493:=Nat
def tw1820180628909398317:=Nat
def tw11415386828835887437:=Nat
def tw16919406825032445293:=Nat
def tw16345102440705955213:=Nat
def tw1098510452882186669:=Nat
def tw4753502060543050189:=Nat
def tw8457440626546761165:=Nat
def tw17386561741084979693:=Nat
def tw4377701919642642989:=Nat
def tw6184208073178115725:=Nat
def tw13172843250190940813:=Nat
def tw5036846961687405229:=Nat
def tw15931116738044738221:=Nat
def tw1617838721645859501:=Nat
def tw12976082216212581069:=Nat
def tw8870299921980064525:=Nat
def tw9833903867542621965:=Nat
def tw4734902545126651661:=Nat
def tw4068527845204499245:=Nat
def tw17606422857730326317:=Nat
def tw17505117620022480717:=Nat
def tw14843932521221968749:=Nat
def tw9477281785233511309:=Nat
def tw11249132867342737325:=Nat
def tw13929354066492186541:=Nat
def tw1088296927520436173:=Nat
def tw16156708551869547534:=Nat
def tw10614716105012338702:=Nat
def tw12175748835895409678:=Nat
def tw9398405308114057262:=Nat
def tw9262713555522148398:=Nat
def tw9012836324853574702:=Nat
def tw14980023328507725902:=Nat
def tw11968265576560266318:=Nat
def tw5959559940487138382:=Nat
def tw7880807054014371918:=Nat
def tw7039552826165213294:=Nat
def tw2782273408667855022:=Nat
def tw14444963742821833902:=Nat
def tw13608391081515348142:=Nat
def tw12232750017996463310:=Nat
def tw12783851568588377294:=Nat
def tw13624431586668435662:=Nat
def tw6950260133781373166:=Nat
def tw15384028259256376558:=Nat
def tw17076082267592564974:=Nat
def tw14294001040229213422:=Nat
def tw14914937398881237230:=Nat
def tw4654797750381630734:=Nat
def tw17989097746536338734:=Nat
def tw9617658007855726926:=Nat
def tw17649441919526076750:=Nat
def tw678209747344391502:=Nat
def tw10203026625882799534:=Nat
def tw5850991567925798318:=Nat
def tw1125234497499537870:=Nat
def tw17682645833115681230:=Nat
def tw5490696432328200686:=Nat
def tw185848376630758926:=Nat
def tw12900700647772717614:=Nat
def tw12727495553239364174:=Nat
def tw3429492842335990350:=Nat
def tw12952509933414984302:=Nat
def tw10531373872144210542:=Nat
def tw3608708970678896270:=Nat
def tw6372862494175223470:=Nat
def tw2839761810297210574:=Nat
def tw5464280966869935822:=Nat
def tw1870067075039425230:=Nat
def tw5229488146508589806:=Nat
def tw1781861727890032366:=Nat
def tw9555612238305686254:=Nat
def tw4159134105002834734:=Nat
def tw3196399650302076718:=Nat
def tw16722109127936396110:=Nat
def tw3787991596828424046:=Nat
def tw13107672340881766254:=Nat
def tw2004659784336800654:=Nat
def tw14698123526113890222:=Nat
def tw6780557218761844654:=Nat
def tw14553816603554493358:=Nat
def tw9345929723534960622:=Nat
def tw6818987989461384207:=Nat
def tw13363553139645760527:=Nat
def tw2026387176384410671:=Nat
def tw15424705756172794927:=Nat
def tw1452849714261714991:=Nat
def tw5289708365253275695:=Nat
def tw1645950883855642703:=Nat
def tw8662719374463789135:=Nat
def tw5299388245302499439:=Nat
def tw10376703724636587151:=Nat
def tw8560039856079595663:=Nat
def tw15616948245753086127:=Nat
def tw17172931820748874959:=Nat
def tw12676414471582705871:=Nat
def tw3969467460574380271:=Nat
def tw7974342138255575279:=Nat
def tw2442259710966052079:=Nat
def tw12521463284412890351:=Nat
def tw13606922415975196911:=Nat
def tw17330132731328240911:=Nat
def tw8587404781116728655:=Nat
def tw858883931015391567:=Nat
def tw2845207389951388047:=Nat
def tw693159750657407407:=Nat
def tw12579596248316191183:=Nat
def tw6082411064634330575:=Nat
def tw3493717111155160527:=Nat
def tw15228807520496212463:=Nat
def tw16158619036321959407:=Nat
def tw16149640692961023503:=Nat
def tw11024222330075796079:=Nat
def tw12631932088317031055:=Nat
def tw11709330566771433103:=Nat
def tw12378429703763356335:=Nat
def tw12103701333906454223:=Nat
def tw8502394832462711535:=Nat
def tw17273587926920868623:=Nat
def tw6679266806504041263:=Nat
def tw18095200977026478895:=Nat
def tw2101469004524951375:=Nat
def tw1184127607605381967:=Nat
def tw12331051067403766639:=Nat
def tw11319892378374348655:=Nat
def tw9657781627882305391:=Nat
def tw13315533130655954831:=Nat
def tw8879563391730754479:=Nat
def tw16649331688326792143:=Nat
def tw8811097733284410319:=Nat
def tw3728763270543036367:=Nat
def tw16698745307106531279:=Nat
def tw15207398651663016943:=Nat
def tw10111801491309104144:=Nat
def tw8801323125487838256:=Nat
def tw8898355551111435312:=Nat
def tw16011055738799735888:=Nat
def tw10947331860392259696:=Nat
def tw1386097877827089520:=Nat
def tw5206456813468324048:=Nat
def tw7182994202766372144:=Nat
def tw10643592516055977328:=Nat
def tw17992175057805443440:=Nat
def tw4493408376985592176:=Nat
def tw10491609206876299696:=Nat
def tw11115866451450875312:=Nat
def tw7891253978561527248:=Nat
def tw5135410709514514960:=Nat
def tw16853341256802265648:=Nat
def tw13285133528070534704:=Nat
def tw11448603824021199408:=Nat
def tw12995909851351757392:=Nat
def tw152250937536480880:=Nat
def tw1167774811387141744:=Nat
def tw7152984921513172624:=Nat
def tw3364418463632694928:=Nat
def tw17725755344205882000:=Nat
def tw1712922718373300912:=Nat
def tw14667805832236412624:=Nat
def tw4856431653887292112:=Nat
def tw423386807291918032:=Nat
def tw11224897151958998736:=Nat
def tw17318795884933167856:=Nat
def tw13518370688599389936:=Nat
def tw8351282476255451920:=Nat
def tw11551083187376567056:=Nat
def tw651126834518081296:=Nat
def tw15595854959937240912:=Nat
def tw12614811148066621264:=Nat
def tw7594171508363565936:=Nat
def tw6755925336976613232:=Nat
def tw7752569895197466512:=Nat
def tw15279998641719260112:=Nat
def tw10944956837784636368:=Nat
def tw16178712458983371728:=Nat
def tw3434918251397683217:=Nat
def tw155142512498542641:=Nat
def tw13790719812936386609:=Nat
def tw2422473601153944625:=Nat
def tw12035623454917710897:=Nat
def tw13322179722446271537:=Nat
def tw15527848837575444561:=Nat
def tw5247051413645994129:=Nat
def tw4768578896829404305:=Nat
def tw12447509897640257713:=Nat
def tw2000490053193787569:=Nat
def tw3086703801195530449:=Nat
def tw15677629932584476913:=Nat
def tw280609765759037681:=Nat
def tw432457690288141553:=Nat
def tw14705683404202351889:=Nat
def tw100483095206116625:=Nat
def tw12868520594928266513:=Nat
def tw15946356160694317329:=Nat
def tw6882427118574961969:=Nat
def tw1939978651307754801:=Nat
def tw447301148068827473:=Nat
def tw13045291956230455633:=Nat
def tw14295452944397215089:=Nat
def tw17903497710992402801:=Nat
def tw6615107907471364465:=Nat
def tw6900774283405549937:=Nat
def tw16634568088961857937:=Nat
def tw13302237318277920145:=Nat
def tw15852365999677673905:=Nat
def tw16056359734778111409:=Nat
def tw2598446214317162929:=Nat
def tw7082855905992002993:=Nat
def tw3139860346522395057:=Nat
def tw14246236162039180721:=Nat
def tw11034497122203965937:=Nat
def tw13478424178397462001:=Nat
def tw1557243174674812401:=Nat
def tw8015326511298524721:=Nat
def tw13220430256171166289:=Nat
def tw3828038474966422129:=Nat
def tw12113243949977362033:=Nat
def tw908340440784498289:=Nat
def tw5961118342813265553:=Nat
def tw10933677585905718993:=Nat
def tw8117029840178788049:=Nat
def tw4990156530697904881:=Nat
def tw3452591251010201329:=Nat
def tw6278647508926252785:=Nat
def tw1208734638264122097:=Nat
def tw13643459721796251441:=Nat
def tw8191903926673212241:=Nat
def tw6545403380812914513:=Nat
def tw13344460459354937169:=Nat
def tw7317836474542784337:=Nat
def tw6578402527460240241:=Nat
def tw16053994301053490033:=Nat
def tw9341642984632610673:=Nat
def tw6697089970055633809:=Nat
def tw5716766192118558609:=Nat
def tw13255428261173160881:=Nat
def tw16029623286316568529:=Nat
def tw12269178446911218641:=Nat
def tw6759412095888398321:=Nat
def tw8683856772340465682:=Nat
def tw6579006141471042642:=Nat
def tw13780077144873983122:=Nat
def tw14586822029978311858:=Nat
def tw125302361856450738:=Nat
def tw4948343613671549106:=Nat
def tw16661405048812198066:=Nat
def tw2391449824757734642:=Nat
def tw11749099774412794130:=Nat
def tw4432475053497693458:=Nat
def tw8025032847418708242:=Nat
def tw9271240290516206930:=Nat
def tw9641152695372364146:=Nat
def tw15166520500009309586:=Nat
def tw9499510787657705874:=Nat
def tw15813434630575017362:=Nat
def tw7147661979445302706:=Nat
def tw5366084841770067474:=Nat
def tw14031261019411111474:=Nat
def tw2167537188350426706:=Nat
def tw2042874687063273074:=Nat
def tw5282504435634884242:=Nat
def tw17377529257436501650:=Nat
def tw18257719913428771474:=Nat
def tw3241458686731973266:=Nat
def tw250903467453971090:=Nat
def tw16257038226119295666:=Nat
def tw7657299143145469618:=Nat
def tw15963624873386084050:=Nat
def tw11331025366446083794:=Nat
def tw2028850030027838194:=Nat
def tw10465514089279642386:=Nat
def tw8053944837975664402:=Nat
def tw10525666975642140466:=Nat
def tw14560493823538711346:=Nat
def tw9298403506768410418:=Nat
def tw2714518888730594162:=Nat
def tw12629568148972539762:=Nat
def tw2139204274930982770:=Nat
def tw6293948785866598258:=Nat
def tw6015120008653705138:=Nat
def tw17849003137439291346:=Nat
def tw1097998534492414930:=Nat
def tw439843181053141970:=Nat
def tw15083628210047938546:=Nat
def tw9513423893830186035:=Nat
def tw10601615944963115059:=Nat
def tw561391293025646643:=Nat
def tw4724112764586752083:=Nat
def tw17429513623812275283:=Nat
def tw8538877666451538035:=Nat
def tw6295535725891239091:=Nat
def tw13838828179394815155:=Nat
def tw3694398316872202419:=Nat
def tw1057320522189542611:=Nat
def tw10806950440038215891:=Nat
def tw9184186324627900627:=Nat
def tw5657824000916062451:=Nat
def tw17454471701868102899:=Nat
def tw17732877472588451059:=Nat
def tw5567388512258382067:=Nat
def tw5238241317806426387:=Nat
def tw657407498640621875:=Nat
def tw12590977762386282803:=Nat
def tw7289634563603522867:=Nat
def tw14168552714766633299:=Nat
def tw16945582573551092051:=Nat
def tw16502264421070913907:=Nat
def tw16006246977917349235:=Nat
def tw17495340751864218003:=Nat
def tw1382963296337349011:=Nat
def tw16432713993328977331:=Nat
def tw7793673504863384051:=Nat
def tw1379335367625716243:=Nat
def tw17772917993097084435:=Nat
def tw5363564295841288755:=Nat
def tw11807130730652233267:=Nat
def tw18103342009636024947:=Nat
def tw4115565904173853331:=Nat
def tw3008623586974134963:=Nat
def tw7815354588672045779:=Nat
def tw920214292312260371:=Nat
def tw16640546478005224243:=Nat
def tw15948780112781908787:=Nat
def tw11852641145169952659:=Nat
def tw1567487855172610963:=Nat
def tw4015398097383911347:=Nat
def tw15889433306838628275:=Nat
def tw13409441903868389331:=Nat
def tw9374463148371948499:=Nat
def tw8789358453043137523:=Nat
def tw7185752278333246451:=Nat
def tw8156189417125526548:=Nat
def tw18075895496298948660:=Nat
def tw4851647983119433812:=Nat
def tw9215163618515126356:=Nat
def tw3913528116038191188:=Nat
def tw2616952524820836436:=Nat
def tw4867443594122359892:=Nat
def tw8821865126269305972:=Nat
def tw7209796091387299956:=Nat
def tw12487542160262675636:=Nat
def tw14151535006965253332:=Nat
def tw8741637292732587252:=Nat
def tw12678320250165599508:=Nat
def tw15529170255622000948:=Nat
def tw6164396464334811476:=Nat
def tw16795040122137113940:=Nat
def tw10595968288072337780:=Nat
def tw16866669024345736564:=Nat
def tw6547078798241139092:=Nat
def tw10905181550472923540:=Nat
def tw9976723597467198900:=Nat
def tw15422856539912107476:=Nat
def tw6998783941825042932:=Nat
def tw3480344400806313460:=Nat
def tw7366208706002141716:=Nat
def tw13747817723492736564:=Nat
def tw4725425184044842548:=Nat
def tw7540741092611519060:=Nat
def tw11256106856564762260:=Nat
def tw18293732401869909652:=Nat
def tw17143746779515762356:=Nat
def tw9131607905817354932:=Nat
def tw12243682255763564212:=Nat
def tw10738003575532504788:=Nat
def tw13994979335412520660:=Nat
def tw14439243815434019604:=Nat
def tw10834780440838970164:=Nat
def tw7289601568589263668:=Nat
def tw4571360026077952820:=Nat
def tw9288019024677834580:=Nat
def tw697623264460660564:=Nat
def tw8600361732997149524:=Nat
def tw1997569388931296116:=Nat
def tw6136932545381038964:=Nat
def tw226724450230711188:=Nat
def tw1452535853813816212:=Nat
def tw9258712216579463092:=Nat
def tw17542962492245011380:=Nat
def tw5629675986466331604:=Nat
def tw718029691902183412:=Nat
def tw15625209780758371316:=Nat
def tw1439246655266547700:=Nat
def tw3649758429140192277:=Nat
def tw17234923516513369237:=Nat
def tw1905452460356747413:=Nat
def tw15084132493965779093:=Nat
def tw11162318198679636149:=Nat
def tw9496365245306024149:=Nat
def tw12870888531099404533:=Nat
def tw9753359207989701909:=Nat
def tw16227762859984022837:=Nat
def tw13225837485096350037:=Nat
def tw6513947717537150293:=Nat
def tw1144496826038529397:=Nat
def tw14440960662653809013:=Nat
def tw11663481321943121269:=Nat
def tw12200550355154747765:=Nat
def tw5605480435847508373:=Nat
def tw14721871892148092309:=Nat
def tw14103535550066685397:=Nat
def tw14106227501169856981:=Nat
def tw10264135568141901301:=Nat
def tw3218096787892578837:=Nat
def tw13347369733751428629:=Nat
def tw2608437505485318709:=Nat
def tw5870180824667807317:=Nat
def tw13474097485772985973:=Nat
def tw3571134770919094901:=Nat
def tw14534315315940152981:=Nat
def tw9215827820722605749:=Nat
def tw2042292140826266357:=Nat
def tw2401099858790916885:=Nat
def tw17795420018806894357:=Nat
def tw15508949281206285077:=Nat
def tw5377472447003590421:=Nat
def tw12459740579856956213:=Nat
def tw5486487638281291605:=Nat
def tw13164601040044201813:=Nat
def tw16302227732802510677:=Nat
def tw13483081372092288885:=Nat
def tw1666387254794493845:=Nat
def tw9427301549700849589:=Nat
def tw3941438180925939637:=Nat
def tw1425423193147277237:=Nat
def tw12044502824729849813:=Nat
def tw10919297434634762262:=Nat
def tw7240586211207864342:=Nat
def tw439464058936774774:=Nat
def tw5643178794243155062:=Nat
def tw26575860018800758:=Nat
def tw2137871295049851030:=Nat
def tw7100430431845274806:=Nat
def tw18321552122766947510:=Nat
def tw6291416237084387574:=Nat
def tw8343274005884668182:=Nat
def tw1848646778235469078:=Nat
def tw12176516086438804758:=Nat
def tw7941745277869089046:=Nat
def tw4126306136578151734:=Nat
def tw1413172679324656950:=Nat
def tw17930870258028551510:=Nat
def tw4331744307947286870:=Nat
def tw16713699803418581334:=Nat
def tw9155422001095189878:=Nat
def tw16536845064214698358:=Nat
def tw3452082135128663414:=Nat
def tw18185714744248944022:=Nat
def tw11814627755841444246:=Nat
def tw15610959940260225430:=Nat
def tw11213053971927718326:=Nat
def tw7261450039545342454:=Nat
def tw13705527460786731510:=Nat
def tw17577478241444706838:=Nat
def tw16155205043701107222:=Nat
def tw17420951861521290806:=Nat
def tw12480425521718506038:=Nat
def tw4412241295086353974:=Nat
def tw12131494931117144662:=Nat
def tw7369741819223213686:=Nat
def tw3816877163431070358:=Nat
def tw12747056698307629718:=Nat
def tw17989955420495830678:=Nat
def tw14176120131621321398:=Nat
def tw6819212343860736726:=Nat
def tw15179676742415161110:=Nat
def tw1011335219593555734:=Nat
def tw8162361989647490838:=Nat
def tw8428860471423672150:=Nat
def tw4138081844389336918:=Nat
def tw7829580234814923638:=Nat
def tw8770659054964912022:=Nat
def tw3312855554403267510:=Nat
def tw4609310046291750870:=Nat
def tw8721321648031231958:=Nat
def tw15367242080415987702:=Nat
def tw14623610509376584727:=Nat
def tw11905163887095721015:=Nat
def tw10098268173465320503:=Nat
def tw14029546391885035639:=Nat
def tw3029179668187146391:=Nat
def tw2216850387143573719:=Nat
def tw6506366617586733335:=Nat
def tw16957190012819468567:=Nat
def tw18368451091360184599:=Nat
def tw6709418730364537143:=Nat
def tw1717729237380139383:=Nat
def tw2448417245163862455:=Nat
def tw5283464899586487735:=Nat
def tw13839716868823110103:=Nat
def tw10955317050725887447:=Nat
def tw10465860859745235415:=Nat
def tw16970440968685349367:=Nat
def tw3442329435671937591:=Nat
def tw11889836477031937591:=Nat
def tw16064382804478563927:=Nat
def tw63046841140860503:=Nat
def tw8044012406986999415:=Nat
def tw15416985209724490359:=Nat
def tw13546186122285214359:=Nat
def tw7292484366425897655:=Nat
def tw12393119488966705847:=Nat
def tw9631708518359487223:=Nat
def tw13574768056931433239:=Nat
def tw9877162250995324695:=Nat
def tw3381375190539634487:=Nat
def tw9577430581152457527:=Nat
def tw11402939732021071671:=Nat
def tw10879034167726328663:=Nat
def tw9073681462420916055:=Nat
def tw14995873357514608503:=Nat
def tw6418103052136555383:=Nat
def tw11434409384045074295:=Nat
def tw2863928172549722007:=Nat
def tw6879831473291441079:=Nat
def tw2134215046882385847:=Nat
def tw11389486352061984695:=Nat
def tw5303882286802505687:=Nat
def tw7712819752767893495:=Nat
def tw6140570298594658328:=Nat
def tw2951005344575393816:=Nat
def tw7354087734392854552:=Nat
def tw15946388913382835224:=Nat
def tw10654345511274693656:=Nat
def tw9345676750909349944:=Nat
def tw1643121930917553208:=Nat
def tw8803977449572941912:=Nat
def tw5075868867736424536:=Nat
def tw9781786331797747800:=Nat
def tw16456969618363192440:=Nat
def tw18300207936620678264:=Nat
def tw15677529637332707448:=Nat
def tw7252557286763528408:=Nat
def tw16255831979728675032:=Nat
def tw7926405226725390552:=Nat
def tw17108965994491136216:=Nat
def tw262745018181394680:=Nat
def tw2799067240506288376:=Nat
def tw18093812233618175256:=Nat
def tw12976186185376257304:=Nat
def tw9935550417157453144:=Nat
def tw9627790493946171768:=Nat
def tw2274498078352570744:=Nat
def tw14768889098011018680:=Nat
def tw9983964734214183352:=Nat
def tw5420774739373220312:=Nat
def tw5511420028821071320:=Nat
def tw13866372431405929976:=Nat
def tw13267510147771200024:=Nat
def tw2132729158989466136:=Nat
def tw7191455744419660376:=Nat
def tw12769127236821124696:=Nat
def tw15048261121198461528:=Nat
def tw3333446698644548216:=Nat
def tw1584506945513601688:=Nat
def tw11984409736253958808:=Nat
def tw13731112488569404088:=Nat
def tw17810305690818884312:=Nat
def tw8516288146210602744:=Nat
def tw4303197518546878200:=Nat
def tw13070928021180538616:=Nat
def tw11237167707397388024:=Nat
def tw4027997239606545176:=Nat
def tw5755067337285977880:=Nat
def tw8770205317985620760:=Nat
def tw14135609715661531928:=Nat
def tw16828599391488406296:=Nat
def tw18163647496604598072:=Nat
def tw3920623390966001496:=Nat
def tw12418435599462062936:=Nat
def tw10778013660560245624:=Nat
def tw3069179008743571320:=Nat
def tw13096558090100123544:=Nat
def tw10641872887744487320:=Nat
def tw10860895700388868024:=Nat
def tw16590289223226319832:=Nat
def tw14577976968632240088:=Nat
def tw12994019391074448376:=Nat
def tw12667539911716787225:=Nat
def tw4065347644161347641:=Nat
def tw13342606739435360313:=Nat
def tw17088047866570459193:=Nat
def tw3418235910006150233:=Nat
def tw4788038989552484473:=Nat
def tw18194447625416937593:=Nat
def tw732345407407602841:=Nat
def tw1588505670450824345:=Nat
def tw728884934406724761:=Nat
def tw6903541053762270361:=Nat
def tw16493555245407184057:=Nat
def tw4487872483506452665:=Nat
def tw15213948185873263833:=Nat
def tw11258066867766033657:=Nat
def tw2845679848157327705:=Nat
def tw18291419657060728153:=Nat
def tw3536873572635521401:=Nat
def tw11364443708160879001:=Nat
def tw10784824025267889561:=Nat
def tw11399449904127653305:=Nat
def tw16128656763067611577:=Nat
def tw11054480109507316185:=Nat
def tw7898215921889874393:=Nat
def tw1486704645508227577:=Nat
def tw2922222751358710265:=Nat
def tw15077353982613877241:=Nat
def tw4916360252006170105:=Nat
def tw7365426131469257241:=Nat
def tw11119798521548139033:=Nat
def tw8317466277049474617:=Nat
def tw3953601041324332601:=Nat
def tw6721579946203436601:=Nat
def tw12350410155528471161:=Nat
def tw4605659447877369497:=Nat
def tw881544763273948857:=Nat
def tw11734085652529622713:=Nat
def tw16684818696116721337:=Nat
def tw2658526732547218105:=Nat
def tw16772102934027710169:=Nat
def tw7573478926670427865:=Nat
def tw3940546777539579641:=Nat
def tw4402059832678251257:=Nat
def tw1263662146994801465:=Nat
def tw17574625026820762457:=Nat
def tw4424954536736003961:=Nat
def tw17330945745186091897:=Nat
def tw5334465803284312953:=Nat
def tw15102309248680683417:=Nat
def tw2236161584593135513:=Nat
def tw14442134435390439353:=Nat
def tw10200926772931222457:=Nat
def tw10737458330869947321:=Nat
def tw4780371949962762201:=Nat
def tw18061111243951020025:=Nat
def tw6982297934935202809:=Nat
def tw22551697357593593:=Nat
def tw17047115858639842297:=Nat
def tw13047593935725612058:=Nat
def tw13132618709999183898:=Nat
def tw16415028865518655546:=Nat
def tw3496965988886986938:=Nat
def tw11953376511379268794:=Nat
def tw14673209030070457562:=Nat
def tw10604169790165778682:=Nat
def tw11274798710822564090:=Nat
def tw578887228443019578:=Nat
def tw4419976741539666266:=Nat
def tw10947534242169238906:=Nat
def tw12050417470231563642:=Nat
def tw15683313606117903738:=Nat
def tw8587552050624501146:=Nat
def tw5592360268479517082:=Nat
def tw17992873397187703194:=Nat
def tw1147470481896660410:=Nat
def tw17278324374586462682:=Nat
def tw6868836192036940282:=Nat
def tw9421340871869096474:=Nat
def tw17784710179527947834:=Nat
def tw7698358502638924378:=Nat
def tw1600037746751723098:=Nat
def tw2900905267640511130:=Nat
def tw10934634478434655930:=Nat
def tw17659097604950016698:=Nat
def tw6115762422951442106:=Nat
def tw5373601922739893978:=Nat
def tw14960593345356199642:=Nat
def tw16157073509204512506:=Nat
def tw7598622570094877466:=Nat
def tw2578790182627478330:=Nat
def tw11232374478483605306:=Nat
def tw17183333060744410938:=Nat
def tw12394076208661396346:=Nat
def tw7546755466339226490:=Nat
def tw11652457597714270106:=Nat
def tw5059217334605948826:=Nat
def tw13038990169509382042:=Nat
def tw8273930003744585626:=Nat
def tw6422562543299004346:=Nat
def tw16414904818172857274:=Nat
def tw9668070271662314458:=Nat
def tw10283529075043463162:=Nat
def tw12872897951434832890:=Nat
def tw2001351230973187099:=Nat
def tw1936894748134917147:=Nat
def tw1610171440888473627:=Nat
def tw7927469264209771579:=Nat
def tw13372043803930879067:=Nat
def tw419793913882969211:=Nat
def tw14137390275340422267:=Nat
def tw11032806212648032379:=Nat
def tw15103106377680225435:=Nat
def tw5362516397382645915:=Nat
def tw16409295683739894939:=Nat
def tw14353793391729792155:=Nat
def tw11672842613191775419:=Nat
def tw128412058910260475:=Nat
def tw15675198926951892251:=Nat
def tw11472165163037031739:=Nat
def tw1191670712832166235:=Nat
def tw1976262728313527643:=Nat
def tw6767318904944593275:=Nat
def tw2085858751390962043:=Nat
def tw15382363220257267067:=Nat
def tw10450363280022070651:=Nat
def tw2051048951616859547:=Nat
def tw10024716035694756283:=Nat
def tw5220083430330967483:=Nat
def tw13828106393651249627:=Nat
def tw9045270278378291675:=Nat
def tw6848782300941138395:=Nat
def tw2808349399557158395:=Nat
def tw5388632664720090651:=Nat
def tw17232729238497989147:=Nat
def tw16007149819294483003:=Nat
def tw15651613401221246523:=Nat
def tw1689377841213677179:=Nat
def tw3085183777334472315:=Nat
def tw2068664650715991707:=Nat
def tw518976864732996251:=Nat
def tw9087110039335098043:=Nat
def tw9719896912496429819:=Nat
def tw17177331786930743035:=Nat
def tw8945485805214734075:=Nat
def tw1792636949448641307:=Nat
def tw4299596416071116603:=Nat
def tw3878383114103592795:=Nat
def tw461538923250603899:=Nat
def tw7492773218913965947:=Nat
def tw5189956158058943387:=Nat
def tw2442126920693537723:=Nat
def tw9854592784775465947:=Nat
def tw15642763164714097627:=Nat
def tw1582976572388173787:=Nat
def tw3982826319649438683:=Nat
def tw13770079208771991547:=Nat
def tw12386374481192637435:=Nat
def tw16487816990975572028:=Nat
def tw15766875824913328220:=Nat
def tw17655025648336401564:=Nat
def tw1118553966540926140:=Nat
def tw17038178572684014812:=Nat
def tw13458954166980676860:=Nat
def tw11319097763535126812:=Nat
def tw4735155535324382492:=Nat
def tw13365295217650922812:=Nat
def tw395138700845864316:=Nat
def tw2084507788549644732:=Nat
def tw4817003022231809500:=Nat
def tw2468469042602058204:=Nat
def tw12578441467969060316:=Nat
def tw15615420239508185596:=Nat
def tw12591134339009171964:=Nat
def tw16091413853298234908:=Nat
def tw2887051446865420828:=Nat
def tw7085514621470718492:=Nat
def tw7578210074245671484:=Nat
def tw7850187754069100156:=Nat
def tw11913768731285426812:=Nat
def tw10210669037155785340:=Nat
def tw1699103778626983548:=Nat
def tw3451239065008710300:=Nat
def tw17599816209265215132:=Nat
def tw13262116225945230012:=Nat
def tw12949849787165660892:=Nat
def tw2252305205657439004:=Nat
def tw10787125048147943196:=Nat
def tw689954013368505116:=Nat
def tw6019021122589006684:=Nat
def tw5118731587858937692:=Nat
def tw13160604113216922460:=Nat
def tw10904933031377857372:=Nat
def tw17335414052712997756:=Nat
def tw1331086792558400476:=Nat
def tw14852329139284432860:=Nat
def tw11117797201346649052:=Nat
def tw17986969038992634876:=Nat
def tw18219297243305740317:=Nat
def tw13289513938125300765:=Nat
def tw16853515981168281661:=Nat
def tw922143313871775805:=Nat
def tw15199589371867527261:=Nat
def tw15697423400787487869:=Nat
def tw7038097759751173309:=Nat
def tw4363365295628954845:=Nat
def tw6199765714743212253:=Nat
def tw15992342658441690333:=Nat
def tw833173182276230429:=Nat
def tw5433107678231618845:=Nat
def tw17714235663813219645:=Nat
def tw5021546742003373373:=Nat
def tw14347465287955102013:=Nat
def tw2457190517430149469:=Nat
def tw10102539355485613405:=Nat
def tw16868993833207775613:=Nat
def tw4478177076189095293:=Nat
def tw6924109203229866365:=Nat
def tw424627922949020093:=Nat
def tw17347436560843906493:=Nat
def tw9390866547671247325:=Nat
def tw10792051664901133789:=Nat
def tw14462709497994964445:=Nat
def tw5608270528595127837:=Nat
def tw13532847315355080253:=Nat
def tw18330183385023645277:=Nat
def tw7763873220885509757:=Nat
def tw3646829019195819677:=Nat
def tw16173144727172801181:=Nat
def tw3704167492566942397:=Nat
def tw13531707123254989501:=Nat
def tw526207354791536317:=Nat
def tw15967140613478806237:=Nat
def tw15578025631644234493:=Nat
def tw845060206244984605:=Nat
def tw8226494294326810461:=Nat
def tw2509285483865878365:=Nat
def tw17217394356764393341:=Nat
def tw7344767357792436125:=Nat
def tw2004683288701819805:=Nat
def tw15833661619300960221:=Nat
def tw12509009523430927325:=Nat
def tw224026152562611165:=Nat
def tw17317347222371691485:=Nat
def tw1269460147448156190:=Nat
def tw9277588360372424766:=Nat
def tw3182187488490625086:=Nat
def tw16194383521188589630:=Nat
def tw11631869004601391166:=Nat
def tw7746578258024575070:=Nat
def tw3386092968808520798:=Nat
def tw18271470728773173374:=Nat
def tw13840357560478945406:=Nat
def tw4508807971249618078:=Nat
def tw9673543361469618366:=Nat
def tw6123773746684550334:=Nat
def tw6838551448383532254:=Nat
def tw6693220840876725470:=Nat
def tw4778742480866408670:=Nat
def tw511748877826530558:=Nat
def tw13565428754273945854:=Nat
def tw16169374299450900766:=Nat
def tw10835030195340973342:=Nat
def tw4643362625855044894:=Nat
def tw13638418597567726942:=Nat
def tw10675038575893122398:=Nat
def tw16259696140248634718:=Nat
def tw4172343393113369950:=Nat
def tw17681399029576232318:=Nat
def tw3419581819265744254:=Nat
def tw13431754692932380062:=Nat
def tw6854178956953853374:=Nat
def tw1810128313956251070:=Nat
def tw17901334829092211166:=Nat
def tw8210421348078903774:=Nat
def tw4212396358401106430:=Nat
def tw17739348878880393726:=Nat
def tw13293453174229064190:=Nat
def tw2329189449893159454:=Nat
def tw9533747618267967006:=Nat
def tw3763122126050802206:=Nat
def tw18233516762306594366:=Nat
def tw9763420282994701918:=Nat
def tw1287958475656056414:=Nat
def tw16301592386811335294:=Nat
def tw8933860796737062526:=Nat
def tw2770886237722202814:=Nat
def tw12744807935193187038:=Nat
def tw18131696352309475102:=Nat
def tw17668637344460488510:=Nat
def tw347974374584699710:=Nat
def tw1256920015655123838:=Nat
def tw16987972230436809598:=Nat
def tw8047900516022102942:=Nat
def tw6248097562671527838:=Nat
def tw6423634429210846174:=Nat
def tw574300837803046910:=Nat
def tw14955159897011116063:=Nat
def tw6931407450589930559:=Nat
def tw2737948378440521823:=Nat
def tw8668723539883848799:=Nat
def tw12070051907170230399:=Nat
def tw6761669909254768831:=Nat
def tw15361844209890540735:=Nat
def tw14966190695027221727:=Nat
def tw4478166936697009375:=Nat
def tw1954109241102656831:=Nat
def tw5505332120971382143:=Nat
def tw573411949849455007:=Nat
def tw825126770350376351:=Nat
def tw2284436838669742495:=Nat
def tw15277330632498426303:=Nat
def tw13671756088133313087:=Nat
def tw14328484209623677503:=Nat
def tw12611767792052310623:=Nat
def tw2781682124601125471:=Nat
def tw2706062565713844863:=Nat
def tw11283319371284918911:=Nat
def tw16853252838358632063:=Nat
def tw10543509907540572799:=Nat
def tw442638132926106271:=Nat
def tw15741340511576674975:=Nat
def tw14400467628812073631:=Nat
def tw8589211134812392127:=Nat
def tw3309697970292668127:=Nat
def tw7006195865600381663:=Nat
def tw4218252797249083135:=Nat
def tw7519716089354478335:=Nat
def tw13155211650623716127:=Nat
def tw9874359969587226399:=Nat
def tw607225439768870687:=Nat
def tw2595994805191909183:=Nat
def tw9077708301081682751:=Nat
def tw1247026723315081023:=Nat
def tw14685462170515437407:=Nat
def tw1051681510052472703:=Nat
def tw6109525258741381055:=Nat
def tw8002969147516199903:=Nat
def tw1728934660973012959:=Nat
def tw536147472829637599:=Nat
def tw12195446991383753695:=Nat
def tw10558106933452604415:=Nat
def tw9049380155932825050:=Nat
def tw6877803185682831297:=Nat
def tw500588257257383760:=Nat
def tw513139737158106023:=Nat
def tw1385702029746938256:=Nat
def tw1886406172032084994:=Nat
def tw2611614807186949898:=Nat
def tw2719854614077481112:=Nat
def tw3923689258510319802:=Nat
def tw4111622281820498993:=Nat
def tw4791059209739944789:=Nat
def tw5325732264328371516:=Nat
def tw6204853661318664027:=Nat
def tw7341958240410231068:=Nat
def tw7389876145069789757:=Nat
def tw7721241558145438714:=Nat
def tw8309487258525047772:=Nat
def tw8918941458426902313:=Nat
def tw9160177454128286162:=Nat
def tw9308277042889260618:=Nat
def tw9602440208309517044:=Nat
def tw10277340503219743856:=Nat
def tw10423780898160583077:=Nat
def tw10873963447202352168:=Nat
def tw10987877908579308923:=Nat
def tw11264008853477113683:=Nat
def tw11848334272110620749:=Nat
def tw13400293474096487779:=Nat
def tw13643403971256939266:=Nat
def tw13777464597856991360:=Nat
def tw14309810607922257170:=Nat
def tw14650853456797580572:=Nat
def tw15017012842899929015:=Nat
def tw15365583056424830219:=Nat
def tw16175200980364519193:=Nat
def tw16927011525672522154:=Nat
def tw16992010265997050217:=Nat
def tw16994123617333133488:=Nat
def tw17124617823695146241:=Nat
def tw18374540557244839047:=Nat
end Mine.hd
set_option maxRecDepth 100000
set_option maxHeartbeats 8000000
namespace Mine
set_option tactic.hygienic true in
theorem hd:PySem.Challenge.rw_pq0329_01.Holds:=by
 w_on
 o_law
 o_head (hookB false)
 case hw=>w_witness2
 w_strict (
  intro w s₀ s₁ mg mb G Y fa o pm cd doc dV kV ho hd hcd hD hmg hg args vals as hpre hlay hrd hwl hlo
  obtain ⟨K,KX,KC,KN⟩:=Y
  refine Ground.open G ?_
  intro T B D TE TW
  exact fin01 (topRead_of T) KX KC KN hmg hg hpre hlay hrd hwl hlo)
end Mine
theorem PySem.Challenge.cw_pq0329_01_holds : PySem.Challenge.rw_pq0329_01.Holds :=
 Mine.hd
