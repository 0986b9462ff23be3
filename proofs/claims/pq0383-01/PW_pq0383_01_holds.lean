import PyProof.Rows.All
import Wide.All
import OpenK.AllK
import Wide.FinOn
import KE.KDictSum
import KE.KSortedM
import KE.KDictOf
import PyProof.LongRange
import Lean
import PySem.Challenge.RW_pq0383_01
set_option Elab.async false
set_option maxRecDepth 100000
set_option autoImplicit false
set_option linter.all false
set_option genSizeOf false
set_option genInjectivity false
set_option compiler.extract_closed false
namespace Mine
theorem tT9:true=true:=rfl
theorem nB9 {a b:Nat}(h:Nat.ble a b=true):a<=b:=Nat.le_of_ble_eq_true h
theorem oD9 {p:Prop}[d:Decidable p](h:decide p=true):p:=of_decide_eq_true h
set_option tactic.hygienic false
@[elab_as_elim] theorem rwE {α:Sort _}{a b:α}{motive:α->Prop}(h:a=b)(x:motive b):motive a:=h▸x
@[elab_as_elim] theorem rwS {α:Sort _}{a b:α}{motive:α->Prop}(h:b=a)(x:motive b):motive a:=h▸x
inductive Nt where
 | v (i:Nat)
 | k (n:Nat)
 | a (x y:Nt)
 | m (n:Nat) (x:Nt)
inductive Zt where
 | v (i:Nat)
 | k (n:Int)
 | a (x y:Zt)
 | s (x y:Zt)
 | g (x:Zt)
 | m (n:Int) (x:Zt)
 | c (x:Nt)
inductive Ft where
 | l (x y:Nt)
 | e (x y:Nt)
 | L (x y:Zt)
 | E (x y:Zt)
noncomputable def nth {α:Type}(d:α):List α->Nat->α:=λ l=>List.rec (λ _=>d) (λ a _ r i=>Nat.rec a (λ j _=>r j) i) l
noncomputable def Nt.ev (c:List Nat)(t:Nt):Nat:=Nt.rec (λ i=>nth 0 c i) (λ n=>n) (λ _ _ x y=>x + y) (λ n _ x=>n * x) t
noncomputable def Zt.ev (c:List Nat)(d:List Int)(t:Zt):Int:=Zt.rec (λ i=>nth 0 d i) (λ n=>n) (λ _ _ x y=>x + y) (λ _ _ x y=>x - y) (λ _ x=>-x) (λ n _ x=>n * x) (λ x=>((x.ev c:Nat):Int)) t
noncomputable def Ft.ev (c:List Nat)(d:List Int)(f:Ft):Prop:=Ft.rec (λ x y=>x.ev c<=y.ev c) (λ x y=>x.ev c=y.ev c) (λ x y=>x.ev c d<=y.ev c d) (λ x y=>x.ev c d=y.ev c d) f
structure Pl where
 k:Int
 n:List Int
 i:List Int
noncomputable def ZB (p:List Int):List Int->Int:=List.rec (λ _=>0) (λ a _ r c=>List.rec 0 (λ x c _=>a * x + r c) c) p
noncomputable def Jj (p:List Int):List Int->List Int:=List.rec (λ q=>q) (λ a p r q=>List.rec (a::p) (λ b q _=>(a + b)::r q) q) p
noncomputable def unI (i:Nat):List Int:=Nat.rec [1] (λ _ r=>0::r) i
theorem zFw (p:List Int):ZB p []=0:=by cases p <;> rfl
theorem xu (p:List Int):∀ q c,ZB (Jj p q) c=ZB p c + ZB q c:=by
 induction p with
 | nil=>intro q c;exact (Int.zero_add _).symm
 | cons a p ih =>
  intro q c
  cases q with
  | nil=>exact (Int.add_zero _).symm
  | cons b q =>
   cases c with
   | nil=>rfl
   | cons x c =>
    show (a + b) * x + ZB (Jj p q) c=(a * x + ZB p c) + (b * x + ZB q c)
    rw [ih,Int.add_mul,Int.add_assoc,Int.add_assoc,Int.add_left_comm (b * x)]
theorem XA (k:Int)(p:List Int):∀ c,ZB (p.map (k * ·)) c=k * ZB p c:=by
 induction p with
 | nil=>intro c;exact (Int.mul_zero _).symm
 | cons a p ih =>
  intro c
  cases c with
  | nil=>exact (Int.mul_zero _).symm
  | cons x c =>
   show (k * a) * x + ZB (p.map (k * ·)) c=k * (a * x + ZB p c)
   rw [ih,Int.mul_add,Int.mul_assoc]
theorem Wg (i:Nat):∀ c,ZB (unI i) c=nth 0 c i:=by
 induction i with
 | zero =>
  intro c
  cases c with
  | nil=>rfl
  | cons x c=>show 1 * x + 0=x;rw [Int.one_mul,Int.add_zero]
 | succ i ih =>
  intro c
  cases c with
  | nil=>rfl
  | cons x c=>show 0 * x + ZB (unI i) c=nth 0 c i;rw [ih,Int.zero_mul,Int.zero_add]
noncomputable def Pl.ev (c:List Nat)(d:List Int)(p:Pl):Int:=p.k + (ZB p.n (c.map λ (x:Nat)=>(x:Int)) + ZB p.i d)
noncomputable def Pl.add (p q:Pl):Pl:=⟨p.k + q.k,Jj p.n q.n,Jj p.i q.i⟩
noncomputable def Pl.mul (k:Int)(p:Pl):Pl:=⟨k * p.k,p.n.map (k * ·),p.i.map (k * ·)⟩
theorem i4 (a b c d:Int):a + b + (c + d)=a + c + (b + d):=by rw [Int.add_assoc,Int.add_assoc,Int.add_left_comm b]
theorem Pl.add_ev (c:List Nat)(d:List Int)(p q:Pl):(p.add q).ev c d=p.ev c d + q.ev c d:=by
 show (p.k + q.k) + (ZB (Jj p.n q.n) _ + ZB (Jj p.i q.i) d)=(p.k + (_ + _)) + (q.k + (_ + _))
 rw [xu,xu];exact (congrArg _ (i4 ..)).trans (i4 ..)
theorem Pl.mul_ev (c:List Nat)(d:List Int)(k:Int)(p:Pl):(p.mul k).ev c d=k * p.ev c d:=by
 show (k * p.k) + (ZB (p.n.map (k * ·)) _ + ZB (p.i.map (k * ·)) d)=k * (p.k + (_ + _))
 rw [XA,XA,Int.mul_add,Int.mul_add]
noncomputable def Nt.pl (t:Nt):Pl:=Nt.rec (λ i=>⟨0,unI i,[]⟩) (λ n=>⟨n,[],[]⟩) (λ _ _ x y=>x.add y) (λ n _ x=>x.mul n) t
noncomputable def Zt.pl (t:Zt):Pl:=Zt.rec (λ i=>⟨0,[],unI i⟩) (λ n=>⟨n,[],[]⟩) (λ _ _ x y=>x.add y) (λ _ _ x y=>x.add (y.mul (-1))) (λ _ x=>x.mul (-1)) (λ n _ x=>x.mul n) (λ x=>x.pl) t
theorem zBs (c:List Nat):∀ i,nth 0 (c.map λ (x:Nat)=>(x:Int)) i=((nth 0 c i:Nat):Int):=by
 induction c with
 | nil=>intro i;rfl
 | cons x c ih=>intro i;cases i with
  | zero=>rfl
  | succ i=>exact ih i
theorem Nt.pl_ev (c:List Nat)(d:List Int)(t:Nt):t.pl.ev c d=((t.ev c:Nat):Int):=by
 induction t with
 | v i=>show (0:Int) + (ZB (unI i) _ + 0)=((nth 0 c i:Nat):Int);rw [Wg,zBs,Int.add_zero,Int.zero_add]
 | k n=>exact Int.add_zero _
 | a x y hx hy=>show (x.pl.add y.pl).ev c d=((x.ev c + y.ev c:Nat):Int);rw [Pl.add_ev,hx,hy,Int.natCast_add]
 | m n x hx=>show (x.pl.mul n).ev c d=((n * x.ev c:Nat):Int);rw [Pl.mul_ev,hx,Int.natCast_mul]
theorem Zt.pl_ev (c:List Nat)(d:List Int)(t:Zt):t.pl.ev c d=t.ev c d:=by
 induction t with
 | v i=>show (0:Int) + (0 + ZB (unI i) d)=nth 0 d i;rw [Wg,Int.zero_add,Int.zero_add]
 | k n=>exact Int.add_zero _
 | a x y hx hy=>show (x.pl.add y.pl).ev c d=x.ev c d + y.ev c d;rw [Pl.add_ev,hx,hy]
 | s x y hx hy=>show (x.pl.add (y.pl.mul (-1))).ev c d=x.ev c d - y.ev c d;rw [Pl.add_ev,Pl.mul_ev,hx,hy,Int.neg_mul,Int.one_mul];exact Int.sub_eq_add_neg.symm
 | g x hx=>show (x.pl.mul (-1)).ev c d=-x.ev c d;rw [Pl.mul_ev,hx,Int.neg_mul,Int.one_mul]
 | m n x hx=>show (x.pl.mul n).ev c d=n * x.ev c d;rw [Pl.mul_ev,hx]
 | c x=>exact x.pl_ev c d
noncomputable def Pl.sub (p q:Pl):Pl:=p.add (q.mul (-1))
noncomputable def Ft.pl (f:Ft):Pl:=Ft.rec (λ x y=>x.pl.sub y.pl) (λ x y=>x.pl.sub y.pl) (λ x y=>x.pl.sub y.pl) (λ x y=>x.pl.sub y.pl) f
noncomputable def Ft.isE (f:Ft):Bool:=Ft.rec (λ _ _=>false) (λ _ _=>true) (λ _ _=>false) (λ _ _=>true) f
theorem Pl.sub_ev (c:List Nat)(d:List Int)(p q:Pl):(p.sub q).ev c d=p.ev c d - q.ev c d:=by
 show (p.add (q.mul (-1))).ev c d=_
 rw [Pl.add_ev,Pl.mul_ev,Int.neg_mul,Int.one_mul];exact Int.sub_eq_add_neg.symm
theorem Ft.le_iff (c:List Nat)(d:List Int)(f:Ft)(h:f.isE=false):f.ev c d ↔ f.pl.ev c d<=0:=by
 cases f with
 | l x y=>show x.ev c<=y.ev c ↔ (x.pl.sub y.pl).ev c d<=0;rw [Pl.sub_ev,Nt.pl_ev,Nt.pl_ev];exact ⟨λ h=>Int.sub_nonpos_of_le (Int.ofNat_le.mpr h),λ h=>Int.ofNat_le.mp (Int.le_of_sub_nonpos h)⟩
 | L x y=>show x.ev c d<=y.ev c d ↔ (x.pl.sub y.pl).ev c d<=0;rw [Pl.sub_ev,Zt.pl_ev,Zt.pl_ev];exact ⟨Int.sub_nonpos_of_le,Int.le_of_sub_nonpos⟩
 | e x y=>exact Bool.noConfusion h
 | E x y=>exact Bool.noConfusion h
theorem Ft.eq_of (c:List Nat)(d:List Int)(f:Ft)(h:f.isE=true)(x:f.ev c d):f.pl.ev c d=0:=by
 cases f with
 | e a b=>replace x:a.ev c=b.ev c:=x;show (a.pl.sub b.pl).ev c d=0;rw [Pl.sub_ev,Nt.pl_ev,Nt.pl_ev,x];exact Int.sub_self _
 | E a b=>replace x:a.ev c d=b.ev c d:=x;show (a.pl.sub b.pl).ev c d=0;rw [Pl.sub_ev,Zt.pl_ev,Zt.pl_ev,x];exact Int.sub_self _
 | l a b=>exact Bool.noConfusion h
 | L a b=>exact Bool.noConfusion h
noncomputable def le0 (x:Int):Bool:=Int.rec (λ n=>Nat.beq n 0) (λ _=>true) x
noncomputable def is0 (x:Int):Bool:=Int.rec (λ n=>Nat.beq n 0) (λ _=>false) x
theorem wt {x:Int}(h:le0 x=true):x<=0:=by
 cases x with
 | ofNat n=>cases Nat.eq_of_beq_eq_true h;exact Int.le_refl 0
 | negSucc n=>exact Int.le_of_lt (Int.negSucc_lt_zero n)
theorem zE2 {x:Int}(h:is0 x=true):x=0:=by
 cases x with
 | ofNat n=>cases Nat.eq_of_beq_eq_true h;rfl
 | negSucc n=>exact Bool.noConfusion h
noncomputable def Pl.ok (p:Pl):Bool:=le0 p.k&&(p.n.all le0&&p.i.all is0)
theorem zCy (p:List Int):p.all le0=true->∀ (c:List Nat),ZB p (c.map λ (x:Nat)=>(x:Int))<=0:=by
 induction p with
 | nil=>intro _ c;exact Int.le_refl 0
 | cons a p ih =>
  intro h c
  have h:(le0 a&&p.all le0)=true:=h
  rw [Bool.and_eq_true] at h
  cases c with
  | nil=>exact Int.le_refl 0
  | cons x c =>
   have h1:=ih h.2 c
   have h2:a * (x:Int)<=0:=Int.mul_nonpos_of_nonpos_of_nonneg (wt h.1) (Int.natCast_nonneg x)
   exact Int.add_nonpos h2 h1
theorem VM (p:List Int):p.all is0=true->∀ c,ZB p c=0:=by
 induction p with
 | nil=>intro _ c;rfl
 | cons a p ih =>
  intro h c
  have h:(is0 a&&p.all is0)=true:=h
  rw [Bool.and_eq_true] at h
  cases c with
  | nil=>rfl
  | cons x c=>show a * x + ZB p c=0;rw [ih h.2 c,zE2 h.1,Int.zero_mul];rfl
theorem Pl.ok_ev {p:Pl}(h:p.ok=true)(c:List Nat)(d:List Int):p.ev c d<=0:=by
 have h:(le0 p.k&&(p.n.all le0&&p.i.all is0))=true:=h
 rw [Bool.and_eq_true,Bool.and_eq_true] at h
 show p.k + (_ + ZB p.i d)<=0
 rw [VM p.i h.2.2,Int.add_zero]
 exact Int.add_nonpos (wt h.1) (zCy p.n h.2.1 c)
noncomputable def hyL (c:List Nat)(d:List Int)(g:Prop)(fs:List (Int×Ft)):Prop:=List.rec g (λ f _ r=>f.2.ev c d->r) fs
noncomputable def chL (p:Pl)(fs:List (Int×Ft)):Pl->Bool:=List.rec (λ q=>(p.add q).ok) (λ f _ r q=>(f.2.isE || le0 (-f.1))&&r (q.add (f.2.pl.mul (-f.1)))) fs
theorem wh {c:List Nat}{d:List Int}{g:Prop}{p:Pl}(hg:p.ev c d<=0->g)(fs:List (Int×Ft)):∀ q,0<=q.ev c d->chL p fs q=true->hyL c d g fs:=by
 induction fs with
 | nil =>
  intro q hq h
  have:=Pl.ok_ev h c d
  rw [Pl.add_ev] at this
  exact hg (by omega)
 | cons f fs ih =>
  intro q hq h x
  have h:((f.2.isE || le0 (-f.1))&&chL p fs (q.add (f.2.pl.mul (-f.1))))=true:=h
  rw [Bool.and_eq_true,Bool.or_eq_true] at h
  refine ih _ ?_ h.2
  rw [Pl.add_ev,Pl.mul_ev]
  have hx:0<=-f.1 * f.2.pl.ev c d:=by
   cases e:f.2.isE with
   | true=>rw [Ft.eq_of c d _ e x,Int.mul_zero];exact Int.le_refl 0
   | false =>
    have h1:=wt (h.1.resolve_left (by rw [e];exact Bool.false_ne_true))
    exact Int.mul_nonneg_of_nonpos_of_nonpos h1 ((Ft.le_iff c d _ e).mp x)
  exact Int.add_nonneg hq hx
theorem lin (c:List Nat)(d:List Int)(x y:Nt)(fs:List (Int×Ft))(h:chL (Ft.l x y).pl fs ⟨0,[],[]⟩=true):hyL c d (x.ev c<=y.ev c) fs :=
 wh (p:=(Ft.l x y).pl) (Ft.le_iff c d (.l x y) rfl).mpr fs ⟨0,[],[]⟩ (show (0:Int)<=0 + (0 + 0) from Int.le_refl 0) h
theorem liZ (c:List Nat)(d:List Int)(x y:Zt)(fs:List (Int×Ft))(h:chL (Ft.L x y).pl fs ⟨0,[],[]⟩=true):hyL c d (x.ev c d<=y.ev c d) fs :=
 wh (p:=(Ft.L x y).pl) (Ft.le_iff c d (.L x y) rfl).mpr fs ⟨0,[],[]⟩ (show (0:Int)<=0 + (0 + 0) from Int.le_refl 0) h
theorem liF (c:List Nat)(d:List Int)(fs:List (Int×Ft))(h:chL ⟨1,[],[]⟩ fs ⟨0,[],[]⟩=true):hyL c d False fs :=
 wh (p:=⟨1,[],[]⟩) (λ h=>absurd (show (1:Int) + (0 + 0)<=0 from h) (by decide)) fs ⟨0,[],[]⟩ (show (0:Int)<=0 + (0 + 0) from Int.le_refl 0) h
end Mine
namespace Mine
open PySem PySem.Calls PyProof.Rows PySem.W
set_option tactic.hygienic false
theorem Ea {A0:Prop}{A1:Prop}{P:Prop}(h:A0/\A1)(k:A0->A1->P):P:=k h.1 h.2
theorem Ee.{u0}{α0:Sort u0}{A0:α0->Prop}{P:Prop}(h:∃ x0,A0 x0)(k:∀ x0,A0 x0->P):P:=Exists.elim h λ x0 h=>k x0 h
theorem Eea.{u0}{α0:Sort u0}{A0:α0->Prop}{A1:α0->Prop}{P:Prop}(h:∃ x0,A0 x0/\A1 x0)(k:∀ x0,A0 x0->A1 x0->P):P:=Exists.elim h λ x0 h=>k x0 h.1 h.2
theorem Eaa {A0:Prop}{A1:Prop}{A2:Prop}{P:Prop}(h:A0/\A1/\A2)(k:A0->A1->A2->P):P:=k h.1 h.2.1 h.2.2
theorem Eee.{u0,u1}{α0:Sort u0}{α1:Sort u1}{A0:α0->α1->Prop}{P:Prop}(h:∃ x0 x1,A0 x0 x1)(k:∀ x0 x1,A0 x0 x1->P):P:=Exists.elim h λ x0 h=>Exists.elim h λ x1 h=>k x0 x1 h
theorem Eeea.{u0,u1}{α0:Sort u0}{α1:Sort u1}{A0:α0->α1->Prop}{A1:α0->α1->Prop}{P:Prop}(h:∃ x0 x1,A0 x0 x1/\A1 x0 x1)(k:∀ x0 x1,A0 x0 x1->A1 x0 x1->P):P:=Exists.elim h λ x0 h=>Exists.elim h λ x1 h=>k x0 x1 h.1 h.2
theorem Eeaa.{u0}{α0:Sort u0}{A0:α0->Prop}{A1:α0->Prop}{A2:α0->Prop}{P:Prop}(h:∃ x0,A0 x0/\A1 x0/\A2 x0)(k:∀ x0,A0 x0->A1 x0->A2 x0->P):P:=Exists.elim h λ x0 h=>k x0 h.1 h.2.1 h.2.2
theorem qN {A0:Prop}{A1:Prop}{A2:Prop}{A3:Prop}{P:Prop}(h:A0/\A1/\A2/\A3)(k:A0->A1->A2->A3->P):P:=k h.1 h.2.1 h.2.2.1 h.2.2.2
theorem Eeee.{u0,u1,u2}{α0:Sort u0}{α1:Sort u1}{α2:Sort u2}{A0:α0->α1->α2->Prop}{P:Prop}(h:∃ x0 x1 x2,A0 x0 x1 x2)(k:∀ x0 x1 x2,A0 x0 x1 x2->P):P:=Exists.elim h λ x0 h=>Exists.elim h λ x1 h=>Exists.elim h λ x2 h=>k x0 x1 x2 h
theorem Eeeaa.{u0,u1}{α0:Sort u0}{α1:Sort u1}{A0:α0->α1->Prop}{A1:α0->α1->Prop}{A2:α0->α1->Prop}{P:Prop}(h:∃ x0 x1,A0 x0 x1/\A1 x0 x1/\A2 x0 x1)(k:∀ x0 x1,A0 x0 x1->A1 x0 x1->A2 x0 x1->P):P:=Exists.elim h λ x0 h=>Exists.elim h λ x1 h=>k x0 x1 h.1 h.2.1 h.2.2
theorem Eeaaa.{u0}{α0:Sort u0}{A0:α0->Prop}{A1:α0->Prop}{A2:α0->Prop}{A3:α0->Prop}{P:Prop}(h:∃ x0,A0 x0/\A1 x0/\A2 x0/\A3 x0)(k:∀ x0,A0 x0->A1 x0->A2 x0->A3 x0->P):P:=Exists.elim h λ x0 h=>k x0 h.1 h.2.1 h.2.2.1 h.2.2.2
theorem Eeeea.{u0,u1,u2}{α0:Sort u0}{α1:Sort u1}{α2:Sort u2}{A0:α0->α1->α2->Prop}{A1:α0->α1->α2->Prop}{P:Prop}(h:∃ x0 x1 x2,A0 x0 x1 x2/\A1 x0 x1 x2)(k:∀ x0 x1 x2,A0 x0 x1 x2->A1 x0 x1 x2->P):P:=Exists.elim h λ x0 h=>Exists.elim h λ x1 h=>Exists.elim h λ x2 h=>k x0 x1 x2 h.1 h.2
theorem ub {A0:Prop}{A1:Prop}{A2:Prop}{A3:Prop}{A4:Prop}{P:Prop}(h:A0/\A1/\A2/\A3/\A4)(k:A0->A1->A2->A3->A4->P):P:=k h.1 h.2.1 h.2.2.1 h.2.2.2.1 h.2.2.2.2
theorem Eeeeaa.{u0,u1,u2}{α0:Sort u0}{α1:Sort u1}{α2:Sort u2}{A0:α0->α1->α2->Prop}{A1:α0->α1->α2->Prop}{A2:α0->α1->α2->Prop}{P:Prop}(h:∃ x0 x1 x2,A0 x0 x1 x2/\A1 x0 x1 x2/\A2 x0 x1 x2)(k:∀ x0 x1 x2,A0 x0 x1 x2->A1 x0 x1 x2->A2 x0 x1 x2->P):P:=Exists.elim h λ x0 h=>Exists.elim h λ x1 h=>Exists.elim h λ x2 h=>k x0 x1 x2 h.1 h.2.1 h.2.2
theorem Eeeaaa.{u0,u1}{α0:Sort u0}{α1:Sort u1}{A0:α0->α1->Prop}{A1:α0->α1->Prop}{A2:α0->α1->Prop}{A3:α0->α1->Prop}{P:Prop}(h:∃ x0 x1,A0 x0 x1/\A1 x0 x1/\A2 x0 x1/\A3 x0 x1)(k:∀ x0 x1,A0 x0 x1->A1 x0 x1->A2 x0 x1->A3 x0 x1->P):P:=Exists.elim h λ x0 h=>Exists.elim h λ x1 h=>k x0 x1 h.1 h.2.1 h.2.2.1 h.2.2.2
theorem Eeaaaa.{u0}{α0:Sort u0}{A0:α0->Prop}{A1:α0->Prop}{A2:α0->Prop}{A3:α0->Prop}{A4:α0->Prop}{P:Prop}(h:∃ x0,A0 x0/\A1 x0/\A2 x0/\A3 x0/\A4 x0)(k:∀ x0,A0 x0->A1 x0->A2 x0->A3 x0->A4 x0->P):P:=Exists.elim h λ x0 h=>k x0 h.1 h.2.1 h.2.2.1 h.2.2.2.1 h.2.2.2.2
theorem Eeeeea.{u0,u1,u2,u3}{α0:Sort u0}{α1:Sort u1}{α2:Sort u2}{α3:Sort u3}{A0:α0->α1->α2->α3->Prop}{A1:α0->α1->α2->α3->Prop}{P:Prop}(h:∃ x0 x1 x2 x3,A0 x0 x1 x2 x3/\A1 x0 x1 x2 x3)(k:∀ x0 x1 x2 x3,A0 x0 x1 x2 x3->A1 x0 x1 x2 x3->P):P:=Exists.elim h λ x0 h=>Exists.elim h λ x1 h=>Exists.elim h λ x2 h=>Exists.elim h λ x3 h=>k x0 x1 x2 x3 h.1 h.2
theorem Eeeeaaa.{u0,u1,u2}{α0:Sort u0}{α1:Sort u1}{α2:Sort u2}{A0:α0->α1->α2->Prop}{A1:α0->α1->α2->Prop}{A2:α0->α1->α2->Prop}{A3:α0->α1->α2->Prop}{P:Prop}(h:∃ x0 x1 x2,A0 x0 x1 x2/\A1 x0 x1 x2/\A2 x0 x1 x2/\A3 x0 x1 x2)(k:∀ x0 x1 x2,A0 x0 x1 x2->A1 x0 x1 x2->A2 x0 x1 x2->A3 x0 x1 x2->P):P:=Exists.elim h λ x0 h=>Exists.elim h λ x1 h=>Exists.elim h λ x2 h=>k x0 x1 x2 h.1 h.2.1 h.2.2.1 h.2.2.2
theorem Eeeaaaa.{u0,u1}{α0:Sort u0}{α1:Sort u1}{A0:α0->α1->Prop}{A1:α0->α1->Prop}{A2:α0->α1->Prop}{A3:α0->α1->Prop}{A4:α0->α1->Prop}{P:Prop}(h:∃ x0 x1,A0 x0 x1/\A1 x0 x1/\A2 x0 x1/\A3 x0 x1/\A4 x0 x1)(k:∀ x0 x1,A0 x0 x1->A1 x0 x1->A2 x0 x1->A3 x0 x1->A4 x0 x1->P):P:=Exists.elim h λ x0 h=>Exists.elim h λ x1 h=>k x0 x1 h.1 h.2.1 h.2.2.1 h.2.2.2.1 h.2.2.2.2
theorem Eeeeeaa.{u0,u1,u2,u3}{α0:Sort u0}{α1:Sort u1}{α2:Sort u2}{α3:Sort u3}{A0:α0->α1->α2->α3->Prop}{A1:α0->α1->α2->α3->Prop}{A2:α0->α1->α2->α3->Prop}{P:Prop}(h:∃ x0 x1 x2 x3,A0 x0 x1 x2 x3/\A1 x0 x1 x2 x3/\A2 x0 x1 x2 x3)(k:∀ x0 x1 x2 x3,A0 x0 x1 x2 x3->A1 x0 x1 x2 x3->A2 x0 x1 x2 x3->P):P:=Exists.elim h λ x0 h=>Exists.elim h λ x1 h=>Exists.elim h λ x2 h=>Exists.elim h λ x3 h=>k x0 x1 x2 x3 h.1 h.2.1 h.2.2
theorem Eeaaaaa.{u0}{α0:Sort u0}{A0:α0->Prop}{A1:α0->Prop}{A2:α0->Prop}{A3:α0->Prop}{A4:α0->Prop}{A5:α0->Prop}{P:Prop}(h:∃ x0,A0 x0/\A1 x0/\A2 x0/\A3 x0/\A4 x0/\A5 x0)(k:∀ x0,A0 x0->A1 x0->A2 x0->A3 x0->A4 x0->A5 x0->P):P:=Exists.elim h λ x0 h=>k x0 h.1 h.2.1 h.2.2.1 h.2.2.2.1 h.2.2.2.2.1 h.2.2.2.2.2
theorem Eeeeaaaa.{u0,u1,u2}{α0:Sort u0}{α1:Sort u1}{α2:Sort u2}{A0:α0->α1->α2->Prop}{A1:α0->α1->α2->Prop}{A2:α0->α1->α2->Prop}{A3:α0->α1->α2->Prop}{A4:α0->α1->α2->Prop}{P:Prop}(h:∃ x0 x1 x2,A0 x0 x1 x2/\A1 x0 x1 x2/\A2 x0 x1 x2/\A3 x0 x1 x2/\A4 x0 x1 x2)(k:∀ x0 x1 x2,A0 x0 x1 x2->A1 x0 x1 x2->A2 x0 x1 x2->A3 x0 x1 x2->A4 x0 x1 x2->P):P:=Exists.elim h λ x0 h=>Exists.elim h λ x1 h=>Exists.elim h λ x2 h=>k x0 x1 x2 h.1 h.2.1 h.2.2.1 h.2.2.2.1 h.2.2.2.2
theorem Eeeeeaaa.{u0,u1,u2,u3}{α0:Sort u0}{α1:Sort u1}{α2:Sort u2}{α3:Sort u3}{A0:α0->α1->α2->α3->Prop}{A1:α0->α1->α2->α3->Prop}{A2:α0->α1->α2->α3->Prop}{A3:α0->α1->α2->α3->Prop}{P:Prop}(h:∃ x0 x1 x2 x3,A0 x0 x1 x2 x3/\A1 x0 x1 x2 x3/\A2 x0 x1 x2 x3/\A3 x0 x1 x2 x3)(k:∀ x0 x1 x2 x3,A0 x0 x1 x2 x3->A1 x0 x1 x2 x3->A2 x0 x1 x2 x3->A3 x0 x1 x2 x3->P):P:=Exists.elim h λ x0 h=>Exists.elim h λ x1 h=>Exists.elim h λ x2 h=>Exists.elim h λ x3 h=>k x0 x1 x2 x3 h.1 h.2.1 h.2.2.1 h.2.2.2
theorem Eeeaaaaa.{u0,u1}{α0:Sort u0}{α1:Sort u1}{A0:α0->α1->Prop}{A1:α0->α1->Prop}{A2:α0->α1->Prop}{A3:α0->α1->Prop}{A4:α0->α1->Prop}{A5:α0->α1->Prop}{P:Prop}(h:∃ x0 x1,A0 x0 x1/\A1 x0 x1/\A2 x0 x1/\A3 x0 x1/\A4 x0 x1/\A5 x0 x1)(k:∀ x0 x1,A0 x0 x1->A1 x0 x1->A2 x0 x1->A3 x0 x1->A4 x0 x1->A5 x0 x1->P):P:=Exists.elim h λ x0 h=>Exists.elim h λ x1 h=>k x0 x1 h.1 h.2.1 h.2.2.1 h.2.2.2.1 h.2.2.2.2.1 h.2.2.2.2.2
theorem Eeeeeeaa.{u0,u1,u2,u3,u4}{α0:Sort u0}{α1:Sort u1}{α2:Sort u2}{α3:Sort u3}{α4:Sort u4}{A0:α0->α1->α2->α3->α4->Prop}{A1:α0->α1->α2->α3->α4->Prop}{A2:α0->α1->α2->α3->α4->Prop}{P:Prop}(h:∃ x0 x1 x2 x3 x4,A0 x0 x1 x2 x3 x4/\A1 x0 x1 x2 x3 x4/\A2 x0 x1 x2 x3 x4)(k:∀ x0 x1 x2 x3 x4,A0 x0 x1 x2 x3 x4->A1 x0 x1 x2 x3 x4->A2 x0 x1 x2 x3 x4->P):P:=Exists.elim h λ x0 h=>Exists.elim h λ x1 h=>Exists.elim h λ x2 h=>Exists.elim h λ x3 h=>Exists.elim h λ x4 h=>k x0 x1 x2 x3 x4 h.1 h.2.1 h.2.2
theorem Eeeeeaaaa.{u0,u1,u2,u3}{α0:Sort u0}{α1:Sort u1}{α2:Sort u2}{α3:Sort u3}{A0:α0->α1->α2->α3->Prop}{A1:α0->α1->α2->α3->Prop}{A2:α0->α1->α2->α3->Prop}{A3:α0->α1->α2->α3->Prop}{A4:α0->α1->α2->α3->Prop}{P:Prop}(h:∃ x0 x1 x2 x3,A0 x0 x1 x2 x3/\A1 x0 x1 x2 x3/\A2 x0 x1 x2 x3/\A3 x0 x1 x2 x3/\A4 x0 x1 x2 x3)(k:∀ x0 x1 x2 x3,A0 x0 x1 x2 x3->A1 x0 x1 x2 x3->A2 x0 x1 x2 x3->A3 x0 x1 x2 x3->A4 x0 x1 x2 x3->P):P:=Exists.elim h λ x0 h=>Exists.elim h λ x1 h=>Exists.elim h λ x2 h=>Exists.elim h λ x3 h=>k x0 x1 x2 x3 h.1 h.2.1 h.2.2.1 h.2.2.2.1 h.2.2.2.2
theorem Eeeeaaaaa.{u0,u1,u2}{α0:Sort u0}{α1:Sort u1}{α2:Sort u2}{A0:α0->α1->α2->Prop}{A1:α0->α1->α2->Prop}{A2:α0->α1->α2->Prop}{A3:α0->α1->α2->Prop}{A4:α0->α1->α2->Prop}{A5:α0->α1->α2->Prop}{P:Prop}(h:∃ x0 x1 x2,A0 x0 x1 x2/\A1 x0 x1 x2/\A2 x0 x1 x2/\A3 x0 x1 x2/\A4 x0 x1 x2/\A5 x0 x1 x2)(k:∀ x0 x1 x2,A0 x0 x1 x2->A1 x0 x1 x2->A2 x0 x1 x2->A3 x0 x1 x2->A4 x0 x1 x2->A5 x0 x1 x2->P):P:=Exists.elim h λ x0 h=>Exists.elim h λ x1 h=>Exists.elim h λ x2 h=>k x0 x1 x2 h.1 h.2.1 h.2.2.1 h.2.2.2.1 h.2.2.2.2.1 h.2.2.2.2.2
theorem Eeeeeeaaa.{u0,u1,u2,u3,u4}{α0:Sort u0}{α1:Sort u1}{α2:Sort u2}{α3:Sort u3}{α4:Sort u4}{A0:α0->α1->α2->α3->α4->Prop}{A1:α0->α1->α2->α3->α4->Prop}{A2:α0->α1->α2->α3->α4->Prop}{A3:α0->α1->α2->α3->α4->Prop}{P:Prop}(h:∃ x0 x1 x2 x3 x4,A0 x0 x1 x2 x3 x4/\A1 x0 x1 x2 x3 x4/\A2 x0 x1 x2 x3 x4/\A3 x0 x1 x2 x3 x4)(k:∀ x0 x1 x2 x3 x4,A0 x0 x1 x2 x3 x4->A1 x0 x1 x2 x3 x4->A2 x0 x1 x2 x3 x4->A3 x0 x1 x2 x3 x4->P):P:=Exists.elim h λ x0 h=>Exists.elim h λ x1 h=>Exists.elim h λ x2 h=>Exists.elim h λ x3 h=>Exists.elim h λ x4 h=>k x0 x1 x2 x3 x4 h.1 h.2.1 h.2.2.1 h.2.2.2
structure Tup (h:Heap)(a:Addr)(vs:Array Value):Prop where
 t:IsTup h a vs
 p:∀ o,h.get? a=some o->o.dict=none
theorem Tup.new {h:Heap}{a:Addr}{vs:Array Value}(g:h.get? a=some {cls:=.type "tuple",data:=.seq vs}):Tup h a vs :=
 ⟨⟨_,g,rfl,_,rfl⟩,λ o e=>by rw [g] at e;cases e;rfl⟩
mutual
inductive VP (h:Heap)(φ:Addr->Prop):Value->PyData->Prop
 | none:VP h φ .none .none
 | bool (b:Bool):VP h φ (.bool b) (.bool b)
 | int (i:Int) (t:Tok):VP h φ (.int i t) (.int i)
 | str (x:Str) (t:Tok):PyData.strOk x=true->VP h φ (.str x t) (.str x)
 | tup {a:Addr} {vs:List Value} {xs:List PyData}:φ a->Tup h a vs.toArray->VPs h φ vs xs->VP h φ (.ref a) (.tuple xs)
 | lst {a:Addr} {vs:List Value} {xs:List PyData}:φ a->h.IsList a vs.toArray->VPs h φ vs xs->VP h φ (.ref a) (.list xs)
inductive VPs (h:Heap)(φ:Addr->Prop):List Value->List PyData->Prop
 | nil:VPs h φ [] []
 | cons {v:Value} {vs:List Value} {x:PyData} {xs:List PyData}:VP h φ v x->VPs h φ vs xs->VPs h φ (v::vs) (x::xs)
end
theorem IsTup.eqAt {h h':Heap}{a:Addr}{vs:Array Value}(x:IsTup h a vs)(e:h'.get? a=h.get? a):IsTup h' a vs :=
 let ⟨o,ho,r⟩:=x;⟨o,e.trans ho,r⟩
theorem Tup.eqAt {h h':Heap}{a:Addr}{vs:Array Value}(x:Tup h a vs)(e:h'.get? a=h.get? a):Tup h' a vs :=
 ⟨IsTup.eqAt x.t e,λ o q=>x.p o (e▸q)⟩
theorem IsList.eqAt {h h':Heap}{a:Addr}{vs:Array Value}(x:h.IsList a vs)(e:h'.get? a=h.get? a):h'.IsList a vs :=
 let ⟨o,ho,r⟩:=x;⟨o,e.trans ho,r⟩
theorem VP.mono {h h':Heap}{φ φ':Addr->Prop}(k:∀ a,φ a->φ' a/\h'.get? a=h.get? a){v:Value}{x:PyData}(V:VP h φ v x):VP h' φ' v x :=
 @VP.rec h φ (λ v x _=>VP h' φ' v x) (λ vs xs _=>VPs h' φ' vs xs) .none .bool .int .str (λ f ht _ r=>.tup (k _ f).1 (Tup.eqAt ht (k _ f).2) r) (λ f ht _ r=>.lst (k _ f).1 (IsList.eqAt ht (k _ f).2) r) .nil (λ _ _ p r=>.cons p r) v x V
theorem VPs.mono {h h':Heap}{φ φ':Addr->Prop}(k:∀ a,φ a->φ' a/\h'.get? a=h.get? a){vs:List Value}{xs:List PyData}(V:VPs h φ vs xs):VPs h' φ' vs xs :=
 @VPs.rec h φ (λ v x _=>VP h' φ' v x) (λ vs xs _=>VPs h' φ' vs xs) .none .bool .int .str (λ f ht _ r=>.tup (k _ f).1 (Tup.eqAt ht (k _ f).2) r) (λ f ht _ r=>.lst (k _ f).1 (IsList.eqAt ht (k _ f).2) r) .nil (λ _ _ p r=>.cons p r) vs xs V
section
variable {h:Heap}{φ:Addr->Prop}{v:Value}{x:PyData}{vs ws:List Value}{xs ys:List PyData}
noncomputable def VPI (h:Heap)(φ:Addr->Prop)(v:Value)(x:PyData):Prop:=@PyData.casesOn (λ _=>Prop) x (v=.none) (λ b=>v=.bool b) (λ i=>∃ t,v=.int i t) (λ x=>∃ t,v=.str x t/\PyData.strOk x=true)
 (λ xs=>∃ a vs,v=.ref a/\φ a/\h.IsList a vs.toArray/\VPs h φ vs xs) (λ xs=>∃ a vs,v=.ref a/\φ a/\Tup h a vs.toArray/\VPs h φ vs xs) (λ _=>False)
noncomputable def zD3 (h:Heap)(φ:Addr->Prop)(vs:List Value)(xs:List PyData):Prop:=@List.casesOn PyData (λ _=>Prop) xs (vs=[]) λ x xs=>∃ v r,vs=v::r/\VP h φ v x/\VPs h φ r xs
theorem VP.inv (V:VP h φ v x):VPI h φ v x :=
 @VP.rec h φ (λ v x _=>VPI h φ v x) (λ _ _ _=>True) rfl (λ _=>rfl) (λ _ t=>⟨t,rfl⟩) (λ _ t o=>⟨t,rfl,o⟩) (λ f t r _=>⟨_,_,rfl,f,t,r⟩) (λ f t r _=>⟨_,_,rfl,f,t,r⟩) trivial (λ _ _ _ _=>trivial) v x V
theorem VPs.inv (V:VPs h φ vs xs):zD3 h φ vs xs :=
 @VPs.rec h φ (λ _ _ _=>True) (λ vs xs _=>zD3 h φ vs xs) trivial (λ _=>trivial) (λ _ _=>trivial) (λ _ _ _=>trivial) (λ _ _ _ _=>trivial) (λ _ _ _ _=>trivial) rfl (λ p r _ _=>⟨_,_,rfl,p,r⟩) vs xs V
theorem VP.inone (V:VP h φ v .none):v=.none:=V.inv
theorem VP.ibool {b:Bool}(V:VP h φ v (.bool b)):v=.bool b:=V.inv
theorem VP.iint {i:Int}(V:VP h φ v (.int i)):∃ t,v=.int i t:=V.inv
theorem VP.istr {x:Str}(V:VP h φ v (.str x)):∃ t,v=.str x t/\PyData.strOk x=true:=V.inv
theorem VP.itup (V:VP h φ v (.tuple xs)):∃ a vs,v=.ref a/\φ a/\Tup h a vs.toArray/\VPs h φ vs xs:=V.inv
theorem VP.ilst (V:VP h φ v (.list xs)):∃ a vs,v=.ref a/\φ a/\h.IsList a vs.toArray/\VPs h φ vs xs:=V.inv
theorem VP.idict {es:List (PyData×PyData)}(V:VP h φ v (.dict es)):False:=V.inv
theorem VPs.inil (V:VPs h φ vs []):vs=[]:=V.inv
theorem VPs.icons (V:VPs h φ vs (x::xs)):∃ v r,vs=v::r/\VP h φ v x/\VPs h φ r xs:=V.inv
theorem VP.readT {a:Addr}(ht:Tup h a vs.toArray)(r:∃ as,ReadsAll h vs xs as):∃ as,Reads h (.ref a) (.tuple xs) as:=by
 obtain ⟨o,ho,hc,n,hd⟩:=ht.t
 exact Ee r λ as q=>⟨as,.tuple ho hc hd q⟩
theorem VP.readL {a:Addr}(ht:h.IsList a vs.toArray)(r:∃ as,ReadsAll h vs xs as):∃ as,Reads h (.ref a) (.list xs) as:=by
 obtain ⟨o,ho,hc,n,hd⟩:=ht
 exact Ee r λ as q=>⟨_,.list ho hc hd q⟩
theorem VP.reads (V:VP h φ v x):∃ as,Reads h v x as :=
 @VP.rec h φ (λ v x _=>∃ as,Reads h v x as) (λ vs xs _=>∃ as,ReadsAll h vs xs as) ⟨_,.none⟩ (λ b=>⟨_,.bool b⟩) (λ i t=>⟨_,.int i t⟩) (λ x t _=>⟨_,.str x t⟩) (λ _ t _ r=>VP.readT t r) (λ _ t _ r=>VP.readL t r) ⟨_,.nil⟩ (λ _ _ p r=>Ee p λ _ q=>Ee r λ _ q'=>⟨_,.cons q q'⟩) v x V
theorem VPs.reads (V:VPs h φ vs xs):∃ as,ReadsAll h vs xs as :=
 @VPs.rec h φ (λ v x _=>∃ as,Reads h v x as) (λ vs xs _=>∃ as,ReadsAll h vs xs as) ⟨_,.none⟩ (λ b=>⟨_,.bool b⟩) (λ i t=>⟨_,.int i t⟩) (λ x t _=>⟨_,.str x t⟩) (λ _ t _ r=>VP.readT t r) (λ _ t _ r=>VP.readL t r) ⟨_,.nil⟩ (λ _ _ p r=>Ee p λ _ q=>Ee r λ _ q'=>⟨_,.cons q q'⟩) vs xs V
theorem UC {x:PyData}{xs:List PyData}(p:x.canLay0=true)(r:PyData.canLayAll0 xs=true):PyData.canLayAll0 (x::xs)=true:=(Bool.and_eq_true ..).mpr ⟨p,r⟩
theorem VP.canLay (V:VP h φ v x):x.canLay0=true :=
 @VP.rec h φ (λ _ x _=>x.canLay0=true) (λ _ xs _=>PyData.canLayAll0 xs=true) rfl (λ _=>rfl) (λ _ _=>rfl) (λ _ _ o=>o) (λ _ _ _ r=>r) (λ _ _ _ r=>r) rfl (λ _ _ p r=>UC p r) v x V
theorem VPs.canLay (V:VPs h φ vs xs):PyData.canLayAll0 xs=true :=
 @VPs.rec h φ (λ _ x _=>x.canLay0=true) (λ _ xs _=>PyData.canLayAll0 xs=true) rfl (λ _=>rfl) (λ _ _=>rfl) (λ _ _ o=>o) (λ _ _ _ r=>r) (λ _ _ _ r=>r) rfl (λ _ _ p r=>UC p r) vs xs V
theorem VPs.ind {Q:List Value->List PyData->Prop}(n:Q [] [])(c:∀ {v vs x xs},VP h φ v x->VPs h φ vs xs->Q vs xs->Q (v::vs) (x::xs))(V:VPs h φ vs xs):Q vs xs :=
 @VPs.rec h φ (λ _ _ _=>True) (λ vs xs _=>Q vs xs) trivial (λ _=>trivial) (λ _ _=>trivial) (λ _ _ _=>trivial) (λ _ _ _ _=>trivial) (λ _ _ _ _=>trivial) n (λ p r _ q=>c p r q) vs xs V
theorem VPs.length (p:VPs h φ vs xs):vs.length=xs.length:=p.ind (Q:=λ vs xs=>vs.length=xs.length) rfl λ _ _ ih=>congrArg (· + 1) ih
theorem VPs.append (p:VPs h φ vs xs)(q:VPs h φ ws ys):VPs h φ (vs++ws) (xs++ys):=p.ind (Q:=λ vs xs=>VPs h φ (vs++ws) (xs++ys)) q λ a _ ih=>.cons a ih
theorem xA {α:Type}{a b:α}(e:some a=some b):a=b:=Option.some.inj e
theorem xy {α:Type}{a:α}{P:Prop}(e:none=some a):P:=Option.noConfusion rfl (heq_of_eq e)
theorem VPs.get (p:VPs h φ vs xs):∀ {k:Nat} {x:PyData},xs[k]?=some x->∃ v,vs[k]?=some v/\VP h φ v x :=
 p.ind (Q:=λ vs xs=>∀ {k:Nat} {x:PyData},xs[k]?=some x->∃ v,vs[k]?=some v/\VP h φ v x) (λ e=>xy e) λ {v _ _ _} a _ ih k=>Nat.rec (λ e=>⟨v,rfl,xA e▸a⟩) (λ k _ e=>ih (k:=k) e) k
theorem VPs.getV (p:VPs h φ vs xs):∀ {k:Nat} {v:Value},vs[k]?=some v->∃ x,xs[k]?=some x/\VP h φ v x :=
 p.ind (Q:=λ vs xs=>∀ {k:Nat} {v:Value},vs[k]?=some v->∃ x,xs[k]?=some x/\VP h φ v x) (λ e=>xy e) λ {_ _ x _} a _ ih k=>Nat.rec (λ e=>⟨x,rfl,xA e▸a⟩) (λ k _ e=>ih (k:=k) e) k
theorem VPs.drop (p:VPs h φ vs xs):∀ (n:Nat),VPs h φ (vs.drop n) (xs.drop n) :=
 p.ind (Q:=λ vs xs=>∀ (n:Nat),VPs h φ (vs.drop n) (xs.drop n)) (λ n=>Nat.rec .nil (λ _ _=>.nil) n) λ a r ih n=>Nat.rec (.cons a r) (λ n _=>ih n) n
theorem VPs.take (p:VPs h φ vs xs):∀ (n:Nat),VPs h φ (vs.take n) (xs.take n) :=
 p.ind (Q:=λ vs xs=>∀ (n:Nat),VPs h φ (vs.take n) (xs.take n)) (λ n=>Nat.rec .nil (λ _ _=>.nil) n) λ a _ ih n=>Nat.rec .nil (λ n _=>.cons a (ih n)) n
theorem VPs.split (p:VPs h φ vs (xs++ys)):∃ us ws,vs=us++ws/\VPs h φ us xs/\VPs h φ ws ys:=by
 induction xs generalizing vs with
 | nil=>exact ⟨[],vs,rfl,.nil,p⟩
 | cons x xs ih =>
  refine Eeeaa (VPs.icons p) λ v r e p r=>?_
  refine Eeeaa (ih r) λ us ws e' a b=>?_
  exact ⟨_::us,ws,by (refine rwE e ?_;refine rwE e' ?_);rfl,.cons p a,b⟩
theorem VP.handed (V:VP h φ v x):handedIn v=true :=
 @VP.rec h φ (λ v _ _=>handedIn v=true) (λ _ _ _=>True) rfl (λ _=>rfl) (λ _ _=>rfl) (λ _ _ _=>rfl) (λ _ _ _ _=>rfl) (λ _ _ _ _=>rfl) trivial (λ _ _ _ _=>trivial) v x V
end
end Mine
namespace Mine
open PySem PySem.Calls PyProof.Rows PySem.W
set_option tactic.hygienic false
inductive Bi where
 | len | isinst | abs | max | min | sum | sorted | zip
 | tuple | list | int | bool | dict | set | range
 deriving DecidableEq
inductive D where
 | p (x:PyData)
 | obj (i:Nat)
 | fn (a:Addr)
 | bi (b:Bi)
 | tup (ds:List D)
 | rng (a b:Int)
 | zp (d e:D) (xs ys:List PyData)
inductive Ky where
 | int (i:Int)
 | str (x:Str)
 | nil
 | cons (a r:Ky)
 deriving DecidableEq
mutual
noncomputable def Zn:PyData->Option Ky
 | .int i=>some (.int i)
 | .str x=>some (.str x)
 | .tuple xs=>keyDs xs
 | _=>none
noncomputable def keyDs:List PyData->Option Ky
 | []=>some .nil
 | x::xs=>(Zn x).bind λ a=>(keyDs xs).bind λ r=>some (.cons a r)
end
theorem jp:keyDs []=some .nil:=rfl
theorem jy {x:PyData}{xs:List PyData}:keyDs (x::xs)=(Zn x).bind λ a=>(keyDs xs).bind λ r=>some (.cons a r):=rfl
theorem uj {i:Int}:Zn (.int i)=some (.int i):=rfl
theorem uV {x:Str}:Zn (.str x)=some (.str x):=rfl
theorem uc {xs:List PyData}:Zn (.tuple xs)=keyDs xs:=rfl
inductive MO where
 | lst (xs:List PyData)
 | idict (es:List (Int×D))
 | rdict (es:List (Nat×D))
 | sdict (es:List (Nat×D))
 | tdict (es:List (Ky×D))
 | inst (C:Addr) (ns:Nat)
 | dead
abbrev Rho:=List (Option D)
abbrev zA:=List MO
inductive Pt where
 | nm (i:Nat)
 | tup (ps:List Pt)
mutual
inductive Ex where
 | nm (i:Nat)
 | gl (g:Nat)
 | c (d:PyData)
 | tup (es:List Ex)
 | lst (m:Bool) (es:List Ex)
 | dct (kind:Nat) (ks:List Nat) (es:List Ex)
 | bin (op:Operator) (a b:Ex)
 | neg (a:Ex)
 | not (a:Ex)
 | and (es:List Ex)
 | or (es:List Ex)
 | cmp (a:Ex) (op:CmpOp) (b:Ex)
 | ite (c a b:Ex)
 | call (m:Bool) (f:Ex) (args:List Ex)
 | meth (o:Ex) (k:Nat) (args:List Ex)
 | attr (o:Ex) (k:Nat)
 | sub (o i:Ex)
 | subk (o:Ex) (k:Nat)
 | upto (o hi:Ex)
 | from (o lo:Ex)
 | comp (m:Bool) (n:Nat) (elt:Ex) (t:Pt) (it:Ex) (ifs:List Ex) (gens:List Gn)
 | zip (a b:Ex)
 | fstr (pre:Str) (e:Ex)
 | fsuf (e:Ex) (post:Str)
inductive Gn where
 | mk (t:Pt) (it:Ex) (ifs:List Ex)
end
inductive Tg where
 | pt (p:Pt)
 | attr (o:Ex) (k:Nat)
 | sub (o i:Ex)
 | subk (o:Ex) (k:Nat)
 | tup (ts:List Tg)
inductive St where
 | expr (e:Ex)
 | asg (t:Tg) (e:Ex)
 | ite (c:Ex) (a b:List St)
 | for (t:Pt) (it:Ex) (body:List St)
 | ret (e:Ex)
 | retF (e:Ex)
 | retN
 | cont
 | raise
 | rai (g:Nat) (es:List Ex)
 | try_ (xs:List St) (o:Ex) (k:Nat) (args:List Ex) (g i:Nat) (d:PyData)
inductive Fl where
 | next
 | cont
 | ret (d:D)
structure Tabs where
 glob:List (Str×D)
 names:List Str
 meth:List ((Addr×Nat)×Addr)
 classes:List Addr
 exc:Addr
noncomputable def zBh:Nat:=0
noncomputable def zEX:Nat:=1
noncomputable def xV:Nat:=2
noncomputable def zDR:Nat:=3
noncomputable def zBW:Nat:=4
noncomputable def zDD:Nat:=5
noncomputable def Br (b:Bool)(P Q:Prop):Prop:=match b with
 | true=>P
 | false=>Q
theorem Br.t {b:Bool}{P Q:Prop}(x:Br b P Q)(h:b=true):P:=@Eq.mp (Br b P Q) (Br true P Q) (congrArg (λ b=>Br b P Q) h) x
theorem Br.f {b:Bool}{P Q:Prop}(x:Br b P Q)(h:b=false):Q:=@Eq.mp (Br b P Q) (Br false P Q) (congrArg (λ b=>Br b P Q) h) x
noncomputable def Is {α:Type}(o:Option α)(K:α->Prop):Prop:=match o with
 | some x=>K x
 | none=>False
theorem Is.h {α:Type}{o:Option α}{K:α->Prop}(h:Is o K):∃ x,o=some x/\K x:=by
 cases o with
 | none=>exact h.elim
 | some x=>exact ⟨x,rfl,h⟩
theorem Is.mk {α:Type}{o:Option α}{K:α->Prop}{x:α}(e:o=some x)(h:K x):Is o K:=by subst e;exact h
noncomputable def zAt (x:PyData):Bool:=@PyData.casesOn (λ _=>Bool) x true (λ _=>true) (λ _=>true) (λ _=>true) (λ _=>false) (λ _=>false) (λ _=>false)
noncomputable def Sh (x y:PyData):Prop:=min x.depth y.depth<=64
theorem Sh.h {x y:PyData}(h:Sh x y):min x.depth y.depth<=64:=h
noncomputable def Fit (i:Int):Prop:=i.natAbs<2 ^ 100000
abbrev Few (n:Nat):Prop:=n<=100000
noncomputable def Kd (x:PyData):Prop:=x.depth<=6
noncomputable def Nd (l:List Int):Prop:=l.Nodup
abbrev Lt64 (n:Nat):Prop:=n<64
structure Nz (i:Int):Prop where
 h:i≠0
 lo:i.natAbs<2 ^ 9000
structure Pw (a b:Int):Prop where
 h:0<=b
 fit:(Builtin.Int.intBits a:Int) * b<=2 ^ 27
abbrev Rg (a b:Int):Prop:=-4611686018427387904<=a/\a<4611686018427387904/\-4611686018427387904<=b/\b<4611686018427387904
abbrev Sm (i:Int):Prop:=-9223372036854775808<=i/\i<9223372036854775808
theorem Few.h {n:Nat}(h:Few n):n<=100000:=h
theorem Fit.h {i:Int}(h:Fit i):i.natAbs<2 ^ 100000:=h
theorem Kd.h {x:PyData}(h:Kd x):x.depth<=6:=h
theorem Nd.h {l:List Int}(h:Nd l):l.Nodup:=h
theorem Lt64.h {n:Nat}(h:Lt64 n):n<64:=h
theorem Rg.h {a b:Int}(h:Rg a b):-(2 ^ 62)<=a/\a<2 ^ 62/\-(2 ^ 62)<=b/\b<2 ^ 62:=h
theorem Sm.h {i:Int}(h:Sm i):-(2 ^ 63)<=i/\i<2 ^ 63:=h
theorem nn {α:Type}{x:α}{P:Prop}(h:none=some x):P:=nomatch h
theorem ob {α β:Type}{o:Option α}{f:α->Option β}{c:β}(h:o.bind f=some c):∃ x,o=some x/\f x=some c:=by
 cases o with
 | none=>exact nn h
 | some x=>exact ⟨x,rfl,h⟩
noncomputable def gd {α:Type}(b:Bool)(o:Option α):Option α:=match b with
 | true=>o
 | false=>none
theorem og {α:Type}{b:Bool}{o:Option α}{c:α}(h:gd b o=some c):b=true/\o=some c:=by
 cases b with
 | true=>exact ⟨rfl,h⟩
 | false=>exact nn h
theorem obE {α β:Type}{o:Option α}{f:α->Option β}{c:β}{P:Prop}(h:o.bind f=some c)(k:∀ x,o=some x->f x=some c->P):P:=let ⟨x,a,b⟩:=ob h;k x a b
theorem ogE {α:Type}{b:Bool}{o:Option α}{c:α}{P:Prop}(h:gd b o=some c)(k:b=true->o=some c->P):P:=k (og h).1 (og h).2
theorem IsE {α:Type}{o:Option α}{K:α->Prop}{P:Prop}(h:Is o K)(k:∀ x,o=some x->K x->P):P:=let ⟨x,a,b⟩:=h.h;k x a b
theorem atE {a b:Bool}{P:Prop}(h:(a&&b)=true)(k:a=true->b=true->P):P:=k ((Bool.and_eq_true a b).mp h).1 ((Bool.and_eq_true a b).mp h).2
theorem so {α:Type}{x y:α}(h:some x=some y):x=y:=Option.some.inj h
noncomputable def look {α:Type}(k:Nat):List (Nat×α)->Option α
 | []=>none
 | (j,d)::r=>match Nat.beq j k with
  | true=>some d
  | false=>look k r
theorem zCc {α:Type}{k:Nat}:look k ([]:List (Nat×α))=none:=rfl
theorem zDI {α:Type}{k j:Nat}{d:α}{r:List (Nat×α)}:look k ((j,d)::r)=(match Nat.beq j k with | true=>some d | false=>look k r):=rfl
noncomputable def put {α:Type}(k:Nat)(d:α):List (Nat×α)->List (Nat×α)
 | []=>[(k,d)]
 | (j,e)::r=>match Nat.beq j k with
  | true=>(j,d)::r
  | false=>(j,e)::put k d r
theorem Xa {α:Type}{k:Nat}{d:α}:put k d []=[(k,d)]:=rfl
theorem XV {α:Type}{k j:Nat}{d e:α}{r:List (Nat×α)}:put k d ((j,e)::r)=(match Nat.beq j k with | true=>(j,d)::r | false=>(j,e)::put k d r):=rfl
noncomputable def zS (k:Int)(es:List (Int×D)):Option D:=(es.find? λ e=>decide (e.1=k)).map (·.2)
noncomputable def Qt (k:Int)(d:D):List (Int×D)->List (Int×D)
 | []=>[(k,d)]
 | e::r=>if e.1=k then (e.1,d)::r else e::Qt k d r
theorem UQ {k:Int}{d:D}:Qt k d []=[(k,d)]:=rfl
theorem UA {k:Int}{d:D}{e:Int×D}{r:List (Int×D)}:Qt k d (e::r)=if e.1=k then (e.1,d)::r else e::Qt k d r:=rfl
noncomputable def zo (k:Ky)(es:List (Ky×D)):Option D:=(es.find? λ e=>decide (e.1=k)).map (·.2)
noncomputable def qg (x:PyData):Option (List PyData):=@PyData.casesOn (λ _=>Option (List PyData)) x none (λ _=>none) (λ _=>none) (λ _=>none) some some (λ _=>none)
noncomputable def z0 (mo:MO):Option (List PyData):=@MO.casesOn (λ _=>Option (List PyData)) mo some (λ _=>none) (λ _=>none) (λ _=>none) (λ _=>none) (λ _ _=>none) none
noncomputable def ZA (σ:zA)(d:D):Option (List PyData):=@D.casesOn (λ _=>Option (List PyData)) d qg (λ i=>σ[i]?.bind z0) (λ _=>none) (λ _=>none) (λ _=>none) (λ _ _=>none) (λ _ _ _ _=>none)
mutual
noncomputable def qI (σ:zA):D->Option PyData
 | .p x=>some x
 | .obj i=>(σ[i]?.bind z0).bind λ xs=>some (.list xs)
 | .tup ds=>(derefs σ ds).bind λ xs=>some (.tuple xs)
 | _=>none
noncomputable def derefs (σ:zA):List D->Option (List PyData)
 | []=>some []
 | d::ds=>(qI σ d).bind λ x=>(derefs σ ds).bind λ xs=>some (x::xs)
end
noncomputable def isP (d:D):Option PyData:=@D.casesOn (λ _=>Option PyData) d some (λ _=>none) (λ _=>none) (λ _=>none) (λ _=>none) (λ _ _=>none) (λ _ _ _ _=>none)
noncomputable def Xv (d:D):Option Nat:=@D.casesOn (λ _=>Option Nat) d (λ _=>none) some (λ _=>none) (λ _=>none) (λ _=>none) (λ _ _=>none) (λ _ _ _ _=>none)
noncomputable def VJ:List D->Option (PyData×Nat)
 | []=>none
 | d::r=>match r with
  | []=>none
  | e::r=>match r with
   | []=>(isP d).bind λ x=>(Xv e).bind λ i=>some (x,i)
   | _::_=>none
noncomputable def qW (σ:zA):D->Option (PyData×zA)
 | .p x=>some (x,σ)
 | .obj i=>(σ[i]?.bind z0).bind λ xs=>some (.list xs,σ.set i .dead)
 | .tup ds=>(VJ ds).bind λ p=>(σ[p.2]?.bind z0).bind λ xs=>some (.tuple [p.1,.list xs],σ.set p.2 .dead)
 | _=>none
noncomputable def qx:List D->Option (List PyData)
 | []=>some []
 | d::ds=>(isP d).bind λ x=>(qx ds).bind λ xs=>some (x::xs)
noncomputable def jf (ds:List D):Option (List PyData)->D
 | some xs=>.p (.tuple xs)
 | none=>.tup ds
noncomputable def Yx (ds:List D):D:=jf ds (qx ds)
noncomputable def idx (n:Nat):Int->Option Nat
 | .ofNat k=>some k
 | .negSucc k=>match Nat.blt k n with
  | true=>some (n - (k + 1))
  | false=>none
noncomputable def isInt (x:PyData):Option Int:=@PyData.casesOn (λ _=>Option Int) x none (λ _=>none) some (λ _=>none) (λ _=>none) (λ _=>none) (λ _=>none)
noncomputable def Yl (x:PyData):Option (List PyData):=@PyData.casesOn (λ _=>Option (List PyData)) x none (λ _=>none) (λ _=>none) (λ _=>none) (λ _=>none) some (λ _=>none)
noncomputable def ints?:List PyData->Option (List Int)
 | []=>some []
 | x::r=>(isInt x).bind λ i=>(ints? r).bind λ l=>some (i::l)
theorem zDa:ints? []=some []:=rfl
theorem zD0 {x:PyData}{r:List PyData}:ints? (x::r)=(isInt x).bind λ i=>(ints? r).bind λ l=>some (i::l):=rfl
noncomputable def y5 {α:Type}(l:List α):Option (α×α):=@List.casesOn α (λ _=>Option (α×α)) l none λ x r=>@List.casesOn α (λ _=>Option (α×α)) r none λ y r=>@List.casesOn α (λ _=>Option (α×α)) r (some (x,y)) λ _ _=>none
noncomputable def Zv:List PyData->Option (List (Int×D))
 | []=>some []
 | x::r=>(Yl x).bind λ xs=>(y5 xs).bind λ p=>(isInt p.1).bind λ k=>(Zv r).bind λ l=>some ((k,.p p.2)::l)
noncomputable def zu:Int->List Int->Int
 | a,[]=>a
 | a,b::r=>zu (if a<b then b else a) r
theorem Qz {a:Int}:zu a []=a:=rfl
theorem Q7 {a b:Int}{r:List Int}:zu a (b::r)=zu (if a<b then b else a) r:=rfl
noncomputable def ZC:Int->List Int->Int
 | a,[]=>a
 | a,b::r=>ZC (if b<a then b else a) r
theorem y1 {a:Int}:ZC a []=a:=rfl
theorem YR {a b:Int}{r:List Int}:ZC a (b::r)=ZC (if b<a then b else a) r:=rfl
noncomputable def Ql (a:Int):List Int->List Int
 | []=>[a]
 | b::r=>if a<=b then a::b::r else b::Ql a r
theorem jt {a:Int}:Ql a []=[a]:=rfl
theorem Q8 {a b:Int}{r:List Int}:Ql a (b::r)=if a<=b then a::b::r else b::Ql a r:=rfl
noncomputable def zg:List Int->List Int
 | []=>[]
 | a::r=>Ql a (zg r)
theorem zBA:zg []=[]:=rfl
theorem Je {a:Int}{r:List Int}:zg (a::r)=Ql a (zg r):=rfl
noncomputable def zJ {α:Type}(step:PyData->α->(α->Prop)->Prop):List PyData->α->(α->Prop)->Prop
 | [],a,Q=>Q a
 | x::xs,a,Q=>step x a λ a'=>zJ step xs a' Q
theorem zw {α:Type}{step:PyData->α->(α->Prop)->Prop}{a:α}{Q:α->Prop}:zJ step [] a Q=Q a:=rfl
theorem zt {α:Type}{step:PyData->α->(α->Prop)->Prop}{x:PyData}{xs:List PyData}{a:α}{Q:α->Prop}:zJ step (x::xs) a Q=step x a λ a'=>zJ step xs a' Q:=rfl
mutual
noncomputable def Zc:Pt->PyData->Rho->Option Rho
 | .nm i,x,ρ=>some (ρ.set i (some (.p x)))
 | .tup ps,x,ρ=>(Yl x).bind λ xs=>bindPs ps xs ρ
noncomputable def bindPs:List Pt->List PyData->Rho->Option Rho
 | [],xs,ρ=>match xs with
  | []=>some ρ
  | _::_=>none
 | p::ps,xs,ρ=>match xs with
  | []=>none
  | x::xs=>(Zc p x ρ).bind λ ρ'=>bindPs ps xs ρ'
end
structure Cx where
 prog:Program
 w:World
 K:Frag
 h₀:Heap
 mg:Str->Option Value
 mb:Str->Option Value
noncomputable def QC:Bi->Value
 | .len=>.builtin "len"
 | .isinst=>.builtin "isinstance"
 | .abs=>.builtin "abs"
 | .max=>.builtin "max"
 | .min=>.builtin "min"
 | .sum=>.builtin "sum"
 | .sorted=>.builtin "sorted"
 | .zip=>.type "zip"
 | .tuple=>.type "tuple"
 | .list=>.type "list"
 | .int=>.type "int"
 | .bool=>.type "bool"
 | .dict=>.type "dict"
 | .set=>.type "set"
 | .range=>.type "range"
mutual
inductive VD (h:Heap)(φ:Addr->Prop)(μ:List Addr):Value->D->Prop
 | p {v:Value} {x:PyData}:VP h φ v x->VD h φ μ v (.p x)
 | obj {i:Nat} {a:Addr}:μ[i]?=some a->VD h φ μ (.ref a) (.obj i)
 | fn (a:Addr):VD h φ μ (.ref a) (.fn a)
 | bi (b:Bi):VD h φ μ (QC b) (.bi b)
 | tup {a:Addr} {vs:List Value} {ds:List D}:φ a->Tup h a vs.toArray->VDs h φ μ vs ds->VD h φ μ (.ref a) (.tup ds)
 | rng {r:Addr} {a b:Int} {t u v:Tok}:φ r->IsRange h r a b 1 t u v->VD h φ μ (.ref r) (.rng a b)
inductive VDs (h:Heap)(φ:Addr->Prop)(μ:List Addr):List Value->List D->Prop
 | nil:VDs h φ μ [] []
 | cons {v:Value} {vs:List Value} {d:D} {ds:List D}:VD h φ μ v d->VDs h φ μ vs ds->VDs h φ μ (v::vs) (d::ds)
end
theorem Us (b:Bi):handedIn (QC b)=true:=by cases b <;> rfl
theorem VD.handed {h:Heap}{φ:Addr->Prop}{μ:List Addr}{v:Value}{d:D}(p:VD h φ μ v d):handedIn v=true :=
 @VD.rec h φ μ (λ v _ _=>handedIn v=true) (λ _ _ _=>True) (λ q=>q.handed) (λ _=>rfl) (λ _=>rfl) Us (λ _ _ _ _=>rfl) (λ _ _=>rfl) trivial (λ _ _ _ _=>trivial) v d p
theorem IsRange.eqAt {h h':Heap}{r:Addr}{a b:Int}{t u v:Tok}(x:IsRange h r a b 1 t u v)(e:h'.get? r=h.get? r):IsRange h' r a b 1 t u v:=by
 unfold IsRange at x ⊢
 refine rwE e ?_;exact x
theorem VD.mono {h h':Heap}{φ φ':Addr->Prop}{μ μ':List Addr}(k:∀ a,φ a->φ' a/\h'.get? a=h.get? a)(m:∀ (i:Nat) (a:Addr),μ[i]?=some a->μ'[i]?=some a){v:Value}{d:D}(V:VD h φ μ v d):VD h' φ' μ' v d :=
 @VD.rec h φ μ (λ v d _=>VD h' φ' μ' v d) (λ vs ds _=>VDs h' φ' μ' vs ds) (λ q=>.p (q.mono k)) (λ e=>.obj (m _ _ e)) .fn .bi (λ f ht _ r=>.tup (k _ f).1 (Tup.eqAt ht (k _ f).2) r) (λ f ht=>.rng (k _ f).1 (IsRange.eqAt ht (k _ f).2)) .nil (λ _ _ p r=>.cons p r) v d V
theorem VDs.mono {h h':Heap}{φ φ':Addr->Prop}{μ μ':List Addr}(k:∀ a,φ a->φ' a/\h'.get? a=h.get? a)(m:∀ (i:Nat) (a:Addr),μ[i]?=some a->μ'[i]?=some a){vs:List Value}{ds:List D}(V:VDs h φ μ vs ds):VDs h' φ' μ' vs ds :=
 @VDs.rec h φ μ (λ v d _=>VD h' φ' μ' v d) (λ vs ds _=>VDs h' φ' μ' vs ds) (λ q=>.p (q.mono k)) (λ e=>.obj (m _ _ e)) .fn .bi (λ f ht _ r=>.tup (k _ f).1 (Tup.eqAt ht (k _ f).2) r) (λ f ht=>.rng (k _ f).1 (IsRange.eqAt ht (k _ f).2)) .nil (λ _ _ p r=>.cons p r) vs ds V
section
variable {h:Heap}{φ:Addr->Prop}{μ:List Addr}{v:Value}{vs:List Value}{d:D}{ds:List D}
noncomputable def VDI (h:Heap)(φ:Addr->Prop)(μ:List Addr)(v:Value)(d:D):Prop:=@D.casesOn (λ _=>Prop) d (λ x=>VP h φ v x) (λ i=>∃ a,v=.ref a/\μ[i]?=some a) (λ a=>v=.ref a) (λ b=>v=QC b)
 (λ ds=>∃ a vs,v=.ref a/\φ a/\Tup h a vs.toArray/\VDs h φ μ vs ds) (λ a b=>∃ r t u w,v=.ref r/\φ r/\IsRange h r a b 1 t u w) (λ _ _ _ _=>False)
noncomputable def zD9 (h:Heap)(φ:Addr->Prop)(μ:List Addr)(vs:List Value)(ds:List D):Prop:=@List.casesOn D (λ _=>Prop) ds (vs=[]) λ d ds=>∃ v r,vs=v::r/\VD h φ μ v d/\VDs h φ μ r ds
theorem VD.inv (V:VD h φ μ v d):VDI h φ μ v d :=
 @VD.rec h φ μ (λ v d _=>VDI h φ μ v d) (λ _ _ _=>True) (λ q=>q) (λ e=>⟨_,rfl,e⟩) (λ _=>rfl) (λ _=>rfl) (λ f t r _=>⟨_,_,rfl,f,t,r⟩) (λ f t=>⟨_,_,_,_,rfl,f,t⟩) trivial (λ _ _ _ _=>trivial) v d V
theorem VDs.inv (V:VDs h φ μ vs ds):zD9 h φ μ vs ds :=
 @VDs.rec h φ μ (λ _ _ _=>True) (λ vs ds _=>zD9 h φ μ vs ds) (λ _=>trivial) (λ _=>trivial) (λ _=>trivial) (λ _=>trivial) (λ _ _ _ _=>trivial) (λ _ _=>trivial) rfl (λ p r _ _=>⟨_,_,rfl,p,r⟩) vs ds V
theorem VD.ip {x:PyData}(V:VD h φ μ v (.p x)):VP h φ v x:=V.inv
theorem VD.iobj {i:Nat}(V:VD h φ μ v (.obj i)):∃ a,v=.ref a/\μ[i]?=some a:=V.inv
theorem VD.ifn {a:Addr}(V:VD h φ μ v (.fn a)):v=.ref a:=V.inv
theorem VD.ibi {b:Bi}(V:VD h φ μ v (.bi b)):v=QC b:=V.inv
theorem VD.itup (V:VD h φ μ v (.tup ds)):∃ a vs,v=.ref a/\φ a/\Tup h a vs.toArray/\VDs h φ μ vs ds:=V.inv
theorem VD.irng {a b:Int}(V:VD h φ μ v (.rng a b)):∃ r t u w,v=.ref r/\φ r/\IsRange h r a b 1 t u w:=V.inv
theorem VD.izp {d e:D}{xs ys:List PyData}{P:Prop}(V:VD h φ μ v (.zp d e xs ys)):P:=False.elim V.inv
theorem VDs.inil (V:VDs h φ μ vs []):vs=[]:=V.inv
theorem VDs.icons (V:VDs h φ μ vs (d::ds)):∃ v r,vs=v::r/\VD h φ μ v d/\VDs h φ μ r ds:=V.inv
end
noncomputable def onP (d:D)(K:PyData->Prop):Prop:=@D.casesOn (λ _=>Prop) d K (λ _=>False) (λ _=>False) (λ _=>False) (λ _=>False) (λ _ _=>False) (λ _ _ _ _=>False)
noncomputable def onI (d:D)(K:Int->Prop):Prop:=onP d λ x=>Is (isInt x) K
noncomputable def onT (d:D)(K:List PyData->Prop):Prop:=onP d λ x=>Is (Yl x) K
noncomputable def asL (x:PyData):Option (List PyData):=@PyData.casesOn (λ _=>Option (List PyData)) x none (λ _=>none) (λ _=>none) (λ _=>none) some (λ _=>none) (λ _=>none)
noncomputable def asS (x:PyData):Option Str:=@PyData.casesOn (λ _=>Option Str) x none (λ _=>none) (λ _=>none) some (λ _=>none) (λ _=>none) (λ _=>none)
noncomputable def vw (x:PyData):Option Bool:=@PyData.casesOn (λ _=>Option Bool) x none some (λ _=>none) (λ _=>none) (λ _=>none) (λ _=>none) (λ _=>none)
noncomputable def onL (d:D)(K:List PyData->Prop):Prop:=onP d λ x=>Is (asL x) K
noncomputable def isB (d:D)(K:Bool->Prop):Prop:=onP d λ x=>Is (vw x) K
noncomputable def onO (d:D)(K:Nat->Prop):Prop:=@D.casesOn (λ _=>Prop) d (λ _=>False) K (λ _=>False) (λ _=>False) (λ _=>False) (λ _ _=>False) (λ _ _ _ _=>False)
theorem JY {x:PyData}{i:Int}(h:isInt x=some i):x=.int i :=
 @PyData.casesOn (λ x=>isInt x=some i->x=.int i) x nn (λ _=>nn) (λ _ e=>congrArg PyData.int (so e)) (λ _=>nn) (λ _=>nn) (λ _=>nn) (λ _=>nn) h
theorem Y1 {x:PyData}{xs:List PyData}(h:Yl x=some xs):x=.tuple xs :=
 @PyData.casesOn (λ x=>Yl x=some xs->x=.tuple xs) x nn (λ _=>nn) (λ _=>nn) (λ _=>nn) (λ _=>nn) (λ _ e=>congrArg PyData.tuple (so e)) (λ _=>nn) h
theorem zAw {x:PyData}{xs:List PyData}(h:asL x=some xs):x=.list xs :=
 @PyData.casesOn (λ x=>asL x=some xs->x=.list xs) x nn (λ _=>nn) (λ _=>nn) (λ _=>nn) (λ _ e=>congrArg PyData.list (so e)) (λ _=>nn) (λ _=>nn) h
theorem zEa {x:PyData}{y:Str}(h:asS x=some y):x=.str y :=
 @PyData.casesOn (λ x=>asS x=some y->x=.str y) x nn (λ _=>nn) (λ _=>nn) (λ _ e=>congrArg PyData.str (so e)) (λ _=>nn) (λ _=>nn) (λ _=>nn) h
theorem zCt {x:PyData}{b:Bool}(h:vw x=some b):x=.bool b :=
 @PyData.casesOn (λ x=>vw x=some b->x=.bool b) x nn (λ _ e=>congrArg PyData.bool (so e)) (λ _=>nn) (λ _=>nn) (λ _=>nn) (λ _=>nn) (λ _=>nn) h
theorem zBy {mo:MO}{xs:List PyData}(h:z0 mo=some xs):mo=.lst xs :=
 @MO.casesOn (λ mo=>z0 mo=some xs->mo=.lst xs) mo (λ _ e=>congrArg MO.lst (so e)) (λ _=>nn) (λ _=>nn) (λ _=>nn) (λ _=>nn) (λ _ _=>nn) nn h
theorem Xm {d:D}{x:PyData}(h:isP d=some x):d=.p x :=
 @D.casesOn (λ d=>isP d=some x->d=.p x) d (λ _ e=>congrArg D.p (so e)) (λ _=>nn) (λ _=>nn) (λ _=>nn) (λ _=>nn) (λ _ _=>nn) (λ _ _ _ _=>nn) h
theorem zAG {d:D}{i:Nat}(h:Xv d=some i):d=.obj i :=
 @D.casesOn (λ d=>Xv d=some i->d=.obj i) d (λ _=>nn) (λ _ e=>congrArg D.obj (so e)) (λ _=>nn) (λ _=>nn) (λ _=>nn) (λ _ _=>nn) (λ _ _ _ _=>nn) h
theorem Vu {α:Type}{xs:List α}{p:α×α}(h:y5 xs=some p):xs=[p.1,p.2] :=
 @List.casesOn α (λ xs=>y5 xs=some p->xs=[p.1,p.2]) xs nn (λ x r=>@List.casesOn α (λ r=>y5 (x::r)=some p->x::r=[p.1,p.2]) r nn λ y r=>@List.casesOn α (λ r=>y5 (x::y::r)=some p->x::y::r=[p.1,p.2]) r (λ e=>congrArg (λ q:α×α=>[q.1,q.2]) (so e)) λ _ _=>nn) h
theorem QY {σ:zA}{i:Nat}{xs:List PyData}(h:σ[i]?.bind z0=some xs):σ[i]?=some (.lst xs):=by
 refine Eea (ob h) λ mo e h=>?_
 (refine rwE e ?_;refine rwE (zBy h) ?_;rfl)
section
variable {h:Heap}{φ:Addr->Prop}{μ:List Addr}{v:Value}{d:D}
theorem Qg {K:PyData->Prop}(V:VD h φ μ v d)(k:onP d K):∃ x,d=.p x/\VP h φ v x/\K x :=
 @D.casesOn (λ d=>VD h φ μ v d->onP d K->∃ x,d=.p x/\VP h φ v x/\K x) d (λ x V k=>⟨x,rfl,V.ip,k⟩) (λ _ _ k=>k.elim) (λ _ _ k=>k.elim) (λ _ _ k=>k.elim) (λ _ _ k=>k.elim) (λ _ _ _ k=>k.elim) (λ _ _ _ _ _ k=>k.elim) V k
theorem ui {α:Type}{f:PyData->Option α}{g:α->PyData}{K:α->Prop}(hf:∀ x i,f x=some i->x=g i)(V:VD h φ μ v d)(k:onP d λ x=>Is (f x) K):∃ i,d=.p (g i)/\VP h φ v (g i)/\K i:=by
 refine Eeaa (Qg V k) λ x e V k=>?_
 refine Eea k.h λ i e' k=>?_
 exact ⟨i,e.trans (congrArg D.p (hf _ _ e')),hf _ _ e'▸V,k⟩
theorem zy {K:Int->Prop}(V:VD h φ μ v d)(k:onI d K):∃ i t,d=.p (.int i)/\v=.int i t/\K i :=
 Eeaa (ui (g:=.int) (λ _ _=>JY) V k) λ i e V k=>Ee V.iint λ t q=>⟨i,t,e,q,k⟩
theorem ju {K:List PyData->Prop}(V:VD h φ μ v d)(k:onT d K):∃ xs,d=.p (.tuple xs)/\VP h φ v (.tuple xs)/\K xs:=ui (g:=.tuple) (λ _ _=>Y1) V k
theorem zEp {K:List PyData->Prop}(V:VD h φ μ v d)(k:onL d K):∃ xs,d=.p (.list xs)/\VP h φ v (.list xs)/\K xs:=ui (g:=.list) (λ _ _=>zAw) V k
theorem uT {K:Bool->Prop}(V:VD h φ μ v d)(k:isB d K):∃ b,d=.p (.bool b)/\v=.bool b/\K b :=
 Eeaa (ui (g:=.bool) (λ _ _=>zCt) V k) λ b e V k=>⟨b,e,V.ibool,k⟩
theorem ye {K:Nat->Prop}(V:VD h φ μ v d)(k:onO d K):∃ i a,d=.obj i/\v=.ref a/\μ[i]?=some a/\K i :=
 @D.casesOn (λ d=>VD h φ μ v d->onO d K->∃ i a,d=.obj i/\v=.ref a/\μ[i]?=some a/\K i) d (λ _ _ k=>k.elim) (λ i V k=>Eea V.iobj λ a e m=>⟨i,a,rfl,e,m,k⟩) (λ _ _ k=>k.elim) (λ _ _ k=>k.elim) (λ _ _ k=>k.elim) (λ _ _ _ k=>k.elim) (λ _ _ _ _ _ k=>k.elim) V k
end
end Mine
namespace Mine
open PySem PySem.Calls PyProof PyProof.Rows PySem.W
set_option tactic.hygienic false
mutual
noncomputable def hashK (P:Params):Ky->Int
 | .int i=>hashInt i
 | .str x=>PyData.keyHash P x
 | .nil=>reduceHash (Builtin.Tuple.tupleHashOf [])
 | .cons a r=>reduceHash (Builtin.Tuple.tupleHashOf (hashK P a::hashesK P r))
noncomputable def hashesK (P:Params):Ky->List Int
 | .cons a r=>hashK P a::hashesK P r
 | _=>[]
end
section
variable (T:Tabs)(P:Params)(h:Heap)(φ:Addr->Prop)(μ:List Addr)
inductive IEs:List (Int×Value)->List (Int×D)->Prop
 | nil:IEs [] []
 | cons {k:Int} {v:Value} {d:D} {r:List (Int×Value)} {es:List (Int×D)}:VD h φ μ v d->IEs r es->IEs ((k,v)::r) ((k,d)::es)
inductive REs:List (Str×Value)->List (Nat×D)->Prop
 | nil:REs [] []
 | cons {k:Nat} {x:Str} {v:Value} {d:D} {r:List (Str×Value)} {es:List (Nat×D)}:T.names[k]?=some x->VD h φ μ v d->REs r es->REs ((x,v)::r) ((k,d)::es)
inductive SEs:List DictEntry->List (Nat×D)->Prop
 | nil:SEs [] []
 | cons {k:Nat} {x:Str} {t:Tok} {v:Value} {d:D} {r:List DictEntry} {es:List (Nat×D)}:T.names[k]?=some x->VD h φ μ v d->SEs r es->SEs (⟨PyData.keyHash P x,.str x t,v⟩::r) ((k,d)::es)
inductive TEs:List (Ky×Addr×Value)->List (Ky×D)->Prop
 | nil:TEs [] []
 | cons {k:Ky} {xs:List PyData} {a:Addr} {v:Value} {d:D} {r:List (Ky×Addr×Value)} {es:List (Ky×D)}:VP h φ (.ref a) (.tuple xs)->keyDs xs=some k->(PyData.tuple xs).depth<=6->VD h φ μ v d->TEs r es ->
   TEs ((k,a,v)::r) ((k,d)::es)
end
noncomputable def qY (T:Tabs)(prog:Program)(w:World)(h:Heap)(φ:Addr->Prop)(μ:List Addr)(a:Addr)(zz:MO):Prop:=@MO.casesOn (λ _=>Prop) zz (λ xs=>∃ vs n,h.get? a=some (listOf vs.toArray n)/\VPs h φ vs xs) (λ es=>(a==sysModules)=false/\∃ kvs,h.DictOf (intKind prog w) a kvs/\IEs h φ μ kvs es) (λ es=>(a==sysModules)=false/\∃ kvs,h.DictOf (strKind prog w) a kvs/\REs T h φ μ kvs es) (λ es=>∃ ds n,h.get? a=some (dictOf ds n)/\SEs T w.params h φ μ ds es) (λ es=>(a==sysModules)=false/\∃ xs,(∃ o ds ep,h.get? a=some o/\o.ExactDict/\o.data=.dict ds ep/\ds.toList=xs.map (λ x=>(⟨hashK w.params x.1,.ref x.2.1,x.2.2⟩:DictEntry))/\(xs.map (·.1)).Nodup)/\TEs h φ μ xs es) (λ C j=>C∈T.classes/\∃ d,μ[j]?=some d/\h.get? a=some (instObj C d)) True
structure Rel (C:Cx)(T:Tabs)(h:Heap)(φ:Addr->Prop)(μ:List Addr)(σ:zA):Prop where
 keep:∀ b o,C.h₀.get? b=some o->h.get? b=some o
 base:∀ b o,C.h₀.get? b=some o->φ b
 frz:∀ a,φ a->∃ o,h.get? a=some o
 len:μ.length=σ.length
 nodup:∀ (i j:Nat) (a:Addr),μ[i]?=some a->μ[j]?=some a->i=j
 lt:∀ (i:Nat) (a:Addr),μ[i]?=some a->∃ o,h.get? a=some o
 apart:∀ (i:Nat) (a:Addr),μ[i]?=some a->φ a->σ[i]?=some .dead
 at_:∀ (i:Nat) (a:Addr) (mo:MO),μ[i]?=some a->σ[i]?=some mo->qY T C.prog C.w h φ μ a mo
noncomputable def FrO (o:Obj):Prop:=∃ es n,o.data=.dict es n
noncomputable def Kept (fr:List Addr)(b:Addr)(o:Obj)(x:Option Obj):Prop:=x=some o∨(b∈fr/\∃ sl,x=some {o with slots:=sl})
structure Ext (h:Heap)(φ:Addr->Prop)(μ:List Addr)(h':Heap)(φ':Addr->Prop)(μ':List Addr)(wr:List Addr)(fr:List Addr:=[]):Prop where
 frz:∀ a,φ a->φ' a/\h'.get? a=h.get? a
 new:∀ a,φ' a->φ a∨h.get? a=none∨a∈μ
 pre:∀ (i:Nat) (a:Addr),μ[i]?=some a->μ'[i]?=some a
 fresh:∀ (i:Nat) (a:Addr),μ'[i]?=some a->μ[i]?=some a∨h.get? a=none
 ex:∀ b o,h.get? b=some o->∃ o',h'.get? b=some o'
 oth:∀ b o,h.get? b=some o->b∉μ->b∉wr->Kept fr b o (h'.get? b)
theorem Kept.refl {fr:List Addr}{b:Addr}(o:Obj):Kept fr b o (some o):=.inl rfl
theorem Kept.trans {fr:List Addr}{b:Addr}{o:Obj}{x y:Option Obj}(p:Kept fr b o x)(q:∀ o',x=some o'->Kept fr b o' y):Kept fr b o y:=by
 refine p.elim (λ e=>q _ e) λ p=>.inr ⟨p.1,Ee p.2 λ sl e=>(q _ e).elim (λ e'=>⟨sl,e'⟩) λ p'=>Ee p'.2 λ sl' e'=>⟨sl',e'⟩⟩
theorem Kept.exact {fr:List Addr}{b:Addr}{o:Obj}{x:Option Obj}(p:Kept fr b o x)(hc:b∉fr):x=some o:=by
 rcases p with h | ⟨h,_⟩
 ·exact h
 ·exact absurd h hc
section
variable {h h' h'':Heap}{φ φ' φ'':Addr->Prop}{μ μ' μ'' wr wr' fr:List Addr}
theorem Ext.refl:Ext h φ μ h φ μ wr fr:=⟨λ _ f=>⟨f,rfl⟩,λ _ f=>.inl f,λ _ _ e=>e,λ _ _ e=>.inl e,λ _ o e=>⟨o,e⟩,λ _ _ e _ _=>e▸Kept.refl _⟩
theorem Ext.back (x:Ext h φ μ h' φ' μ' wr fr){b:Addr}(hb:h'.get? b=none):h.get? b=none:=by
 cases e:h.get? b with
 | none=>rfl
 | some o=>refine Ee (x.ex b o e) λ o' e'=>?_;rw [hb] at e';cases e'
theorem Ext.notin (x:Ext h φ μ h' φ' μ' wr fr){b:Addr}{o:Obj}(hb:h.get? b=some o)(n:b∉μ):b∉μ':=λ m=>by
 refine Ee (List.mem_iff_getElem?.mp m) λ i hi=>?_
 rcases x.fresh i b hi with e | e
 ·exact n (List.mem_iff_getElem?.mpr ⟨i,e⟩)
 ·rw [hb] at e;cases e
theorem Ext.notfrz (x:Ext h φ μ h' φ' μ' wr fr){b:Addr}{o:Obj}(hb:h.get? b=some o)(n:b∉μ)(f:¬ φ b):¬ φ' b:=λ m=>by
 rcases x.new b m with e | e | e
 ·exact f e
 ·rw [hb] at e;cases e
 ·exact n e
theorem Ext.trans (x:Ext h φ μ h' φ' μ' wr fr)(y:Ext h' φ' μ' h'' φ'' μ'' wr fr):Ext h φ μ h'' φ'' μ'' wr fr:=by
 refine ⟨λ a f=>⟨(y.frz a (x.frz a f).1).1,(y.frz a (x.frz a f).1).2.trans (x.frz a f).2⟩,λ a f=>?_,λ i a e=>y.pre i a (x.pre i a e),λ i a e=>?_,λ b o e=>?_,λ b o e n w=>?_⟩
 ·rcases y.new a f with e | e | e
  ·exact x.new a e
  ·exact .inr (.inl (x.back e))
  ·refine Ee (List.mem_iff_getElem?.mp e) λ i hi=>?_
   rcases x.fresh i a hi with q | q
   ·exact .inr (.inr (List.mem_iff_getElem?.mpr ⟨i,q⟩))
   ·exact .inr (.inl q)
 ·rcases y.fresh i a e with q | q
  ·exact x.fresh i a q
  ·exact .inr (x.back q)
 ·refine Ee (x.ex b o e) λ o' e'=>?_
  exact y.ex b o' e'
 ·exact (x.oth b o e n w).trans λ o' e'=>y.oth b o' e' (x.notin e n) w
theorem Ext.wider (x:Ext h φ μ h' φ' μ' wr fr)(s:∀ b o,b∈wr->h.get? b=some o->b∈wr'):Ext h φ μ h' φ' μ' wr' fr :=
 ⟨x.frz,x.new,x.pre,x.fresh,x.ex,λ b o e n w=>x.oth b o e n λ m=>w (s b o m e)⟩
theorem Ext.wid {fr':List Addr}(x:Ext h φ μ h' φ' μ' wr fr)(s:∀ b o,b∈wr->h.get? b=some o->b∈wr')(t:∀ b o,b∈fr->h.get? b=some o->b∈fr'):Ext h φ μ h' φ' μ' wr' fr' :=
 ⟨x.frz,x.new,x.pre,x.fresh,x.ex,λ b o e n w=>(x.oth b o e n λ m=>w (s b o m e)).imp id λ q=>⟨t b o q.1 e,q.2⟩⟩
theorem Ext.slack (x:Ext h φ μ h' φ' μ' wr):Ext h φ μ h' φ' μ' wr fr :=
 ⟨x.frz,x.new,x.pre,x.fresh,x.ex,λ b o e n w=>.inl ((x.oth b o e n w).exact λ h=>nomatch h)⟩
theorem Ext.vd (x:Ext h φ μ h' φ' μ' wr fr){v:Value}{d:D}(p:VD h φ μ v d):VD h' φ' μ' v d:=p.mono x.frz x.pre
theorem Ext.vds (x:Ext h φ μ h' φ' μ' wr fr){vs:List Value}{ds:List D}(p:VDs h φ μ vs ds):VDs h' φ' μ' vs ds:=p.mono x.frz x.pre
theorem Ext.vp (x:Ext h φ μ h' φ' μ' wr fr){v:Value}{d:PyData}(p:VP h φ v d):VP h' φ' v d:=p.mono x.frz
theorem Ext.vps (x:Ext h φ μ h' φ' μ' wr fr){vs:List Value}{ds:List PyData}(p:VPs h φ vs ds):VPs h' φ' vs ds:=p.mono x.frz
end
structure Room (n:Nat)(A:Around):Prop where
 hd:A.handled=none
 depth:A.depth + 2 * n + 10<recursionLimit
 units:A.units + 20 * n + 400<cLine
noncomputable def frL (fs:List Env):List Addr:=fs.filterMap (·.frame)
noncomputable def frA (A:Around):List Addr:=frL (A.frames.getD [])
structure Out (A:Around)(h:Heap)(φ:Addr->Prop)(μ:List Addr):Prop where
 h:∃ fs,A.frames=some fs/\∀ e,e∈fs->e.scope.kind≠.module/\∃ L o,e.frame=some L/\h.get? L=some o/\FrO o/\L∉μ/\¬ φ L
theorem Kept.dat {fr:List Addr}{b:Addr}{o:Obj}{x:Option Obj}(p:Kept fr b o x):∃ o',x=some o'/\o'.data=o.data:=by
 rcases p with h | ⟨_,sl,h⟩
 ·exact ⟨o,h,rfl⟩
 ·exact ⟨_,h,rfl⟩
theorem Out.ext {A:Around}{h h':Heap}{φ φ':Addr->Prop}{μ μ':List Addr}{fr:List Addr}(x:Out A h φ μ)(e:Ext h φ μ h' φ' μ' [] fr):Out A h' φ' μ':=by
 refine Eea (x.h) λ fs hf k=>?_
 refine ⟨fs,hf,λ v hv=>?_⟩
 refine Ea (k v hv) λ k1 k=>?_
 refine Eeeaaaa k λ L o k2 k3 k4 k5 k6=>?_
 refine Eea ((e.oth L o k3 k5 List.not_mem_nil).dat) λ o' h1 h2=>?_
 exact ⟨k1,L,o',k2,h1,Eee k4 λ es n q=>⟨es,n,h2.trans q⟩,e.notin k3 k5,e.notfrz k3 k5 k6⟩
structure SatCall (C:Cx)(T:Tabs)(n:Nat)(f:Addr)(ds:List D)(σ:zA)(Q:D->zA->Prop):Prop where
 keep:keepIn C.K (.ref f)=true
 code:∀ (A:Around) (s:Shared) (φ:Addr->Prop) (μ:List Addr) (vs:List Value),Room n A->Out A s.heap φ μ->Rel C T s.heap φ μ σ->VDs s.heap φ μ vs ds ->
  codeAny (model C.prog C.w) A (.call (.ref f) ⟨vs,[]⟩) (λ r s'=>match r with
   | .ok (.ret v)=>∃ h' tk φ' μ' d σ',s'={s with heap:=h',toks:=tk}/\Rel C T h' φ' μ' σ'/\Ext s.heap φ μ h' φ' μ' [] (frA A)/\VD h' φ' μ' v d/\Q d σ'
   | _=>False) s
theorem VK {K K':Value->Prop}{r:Except Value Flow}(k:∀ v,K v->K' v):(match r with | .ok (.ret v)=>K v | _=>False)->(match r with | .ok (.ret v)=>K' v | _=>False):=by
 cases r with
 | error e=>exact id
 | ok fl=>cases fl with
  | ret v=>exact k v
  | _=>exact id
theorem SatCall.run {C:Cx}{T:Tabs}{n:Nat}{f:Addr}{ds:List D}{σ:zA}{Q:D->zA->Prop}(x:SatCall C T n f ds σ Q)(A:Around)(s:Shared)(φ:Addr->Prop)(μ:List Addr)(vs:List Value)(r:Room n A)(ou:Out A s.heap φ μ)(R:Rel C T s.heap φ μ σ)(V:VDs s.heap φ μ vs ds) :
  wpAny (model C.prog C.w) A (call (.ref f) vs) (λ v s'=>∃ h' tk φ' μ' d σ',s'={s with heap:=h',toks:=tk}/\Rel C T h' φ' μ' σ'/\Ext s.heap φ μ h' φ' μ' [] (frA A)/\VD h' φ' μ' v d/\Q d σ')
   (λ _ _=>False) s:=wpAny_call (codeAny_mono (x.code A s φ μ vs r ou R V) λ r s' h=>by
 cases r with
 | error e=>exact h
 | ok fl=>cases fl <;> exact h)
theorem SatCall.mono {C:Cx}{T:Tabs}{n:Nat}{f:Addr}{ds:List D}{σ:zA}{Q Q':D->zA->Prop}(x:SatCall C T n f ds σ Q)(k:∀ d σ',Q d σ'->Q' d σ'):SatCall C T n f ds σ Q' :=
 ⟨x.keep,λ A s φ μ vs r ou R v=>codeAny_mono (x.code A s φ μ vs r ou R v) λ r s' h=>VK (λ v h=>Eee h λ h' tk h=>Eeeeeaaaa h λ φ' μ' d σ' e R' X V q=>⟨h',tk,φ',μ',d,σ',e,R',X,V,k d σ' q⟩) h⟩
theorem Room.le {n m:Nat}{A:Around}(r:Room m A)(h:n<=m):Room n A:=⟨r.hd,by have:=r.depth;exact lin [_,_,_,_] [] (.a (.a (.a (.v 0) (.m 2 (.v 1))) (.k 10)) (.k 1)) (.v 2) [(2,.l (.v 1) (.v 3)),(1,.l (.a (.a (.a (.v 0) (.m 2 (.v 3))) (.k 10)) (.k 1)) (.v 2))] tT9 h this,by have:=r.units;exact lin [_,_,_,_] [] (.a (.a (.a (.v 0) (.m 20 (.v 1))) (.k 400)) (.k 1)) (.v 2) [(20,.l (.v 1) (.v 3)),(1,.l (.a (.a (.a (.v 0) (.m 20 (.v 3))) (.k 400)) (.k 1)) (.v 2))] tT9 h this⟩
theorem SatCall.up {C:Cx}{T:Tabs}{n m:Nat}{f:Addr}{ds:List D}{σ:zA}{Q:D->zA->Prop}(x:SatCall C T n f ds σ Q)(h:n<=m):SatCall C T m f ds σ Q :=
 ⟨x.keep,λ A s φ μ vs r ou R v=>x.code A s φ μ vs (r.le h) ou R v⟩
noncomputable def zC4 (C:Cx)(T:Tabs)(A:Around)(s:Shared)(φ:Addr->Prop)(μ:List Addr)(X:zA->Prop)(e:Value)(s':Shared):Prop :=
 ∃ a h' tk φ' μ' σ' H fr a0,e=.ref a/\s'={s with heap:=h',toks:=tk}/\Rel C T H φ' μ' σ'/\Ext s.heap φ μ H φ' μ' [] (frA A)/\(∀ b,b∈fr->(s.heap.get? b=none∨b∈frA A)/\b∉μ'/\¬ φ' b/\∃ o,H.get? b=some o/\FrO o) /\
  Heap.FlyingW (hideAll H fr) (A.frames.getD []) a (.ref T.exc) a0 h'/\H.UpToSlots h'/\X σ'
structure SatRaise (C:Cx)(T:Tabs)(n:Nat)(f:Addr)(ds:List D)(σ:zA)(X:zA->Prop):Prop where
 keep:keepIn C.K (.ref f)=true
 code:∀ (A:Around) (s:Shared) (φ:Addr->Prop) (μ:List Addr) (vs:List Value),Room n A->Out A s.heap φ μ->Rel C T s.heap φ μ σ->VDs s.heap φ μ vs ds ->
  codeAny (model C.prog C.w) A (.call (.ref f) ⟨vs,[]⟩) (λ r s'=>match r with
   | .error e=>zC4 C T A s φ μ X e s'
   | .ok _=>False) s
noncomputable def ifT (b:Bool)(P:Prop):Prop:=@Bool.casesOn (λ _=>Prop) b False P
theorem uh {b:Bool}{P:Prop}(h:ifT b P):b=true/\P:=by
 cases b with
 | true=>exact ⟨rfl,h⟩
 | false=>exact h.elim
abbrev Get (σ:zA) (i:Nat) (K:MO->Prop):Prop:=Is σ[i]? K
abbrev Yo (σ:zA) (d:D) (K:PyData->Prop):Prop:=Is (qI σ d) K
abbrev qm (σ:zA) (d:D) (K:List PyData->Prop):Prop:=Is (ZA σ d) K
noncomputable def zFe (zz:MO):Option (List (Ky×D)):=@MO.casesOn (λ _=>Option (List (Ky×D))) zz (λ _=>none) (λ _=>none) (λ _=>none) (λ _=>none) (λ es=>some es) (λ _ _=>none) none
noncomputable def zF3 (zz:MO):Option (List (Int×D)):=@MO.casesOn (λ _=>Option (List (Int×D))) zz (λ _=>none) (λ es=>some es) (λ _=>none) (λ _=>none) (λ _=>none) (λ _ _=>none) none
noncomputable def JP (zz:MO):Option (List (Nat×D)):=@MO.casesOn (λ _=>Option (List (Nat×D))) zz (λ _=>none) (λ _=>none) (λ es=>some es) (λ _=>none) (λ _=>none) (λ _ _=>none) none
noncomputable def YG (zz:MO):Option (List (Nat×D)):=@MO.casesOn (λ _=>Option (List (Nat×D))) zz (λ _=>none) (λ _=>none) (λ _=>none) (λ es=>some es) (λ _=>none) (λ _ _=>none) none
theorem zFF {mo:MO}{es:List (Ky×D)}(h:zFe mo=some es):mo=.tdict es:=by cases mo with | tdict j=>(refine rwE (so h) ?_;rfl) | _=>exact nn h
theorem zFJ {mo:MO}{es:List (Int×D)}(h:zF3 mo=some es):mo=.idict es:=by cases mo with | idict j=>(refine rwE (so h) ?_;rfl) | _=>exact nn h
theorem Wn {mo:MO}{es:List (Nat×D)}(h:JP mo=some es):mo=.rdict es:=by cases mo with | rdict j=>(refine rwE (so h) ?_;rfl) | _=>exact nn h
theorem vS {mo:MO}{es:List (Nat×D)}(h:YG mo=some es):mo=.sdict es:=by cases mo with | sdict j=>(refine rwE (so h) ?_;rfl) | _=>exact nn h
noncomputable def Xh (xs:List PyData)(x:D)(K:Bool->Prop):Prop:=onP x λ y=>Sh (.tuple xs) y/\K (xs.any λ z=>PyData.eqv z y)
noncomputable def XR (x:D)(K:Bool->Prop)(mo:MO):Prop:=@MO.casesOn (λ _=>Prop) mo (λ xs=>Xh xs x K) (λ _=>False) (λ _=>False) (λ _=>False) (λ es=>onT x λ k=>Kd (.tuple k)/\Is (keyDs k) λ q=>K (zo q es).isSome) (λ _ _=>False) False
noncomputable def un (σ:zA)(x:D)(c:D)(K:Bool->Prop):Prop:=@D.casesOn (λ _=>Prop) c (λ y=>Is (qg y) λ xs=>Xh xs x K) (λ i=>Get σ i (XR x K)) (λ _=>False) (λ _=>False) (λ _=>False) (λ _ _=>False) (λ _ _ _ _=>False)
noncomputable def uf (zz:PyData):Option Bool:=@PyData.casesOn (λ _=>Option Bool) zz (some true) (λ _=>some false) (λ _=>some false) (λ _=>some false) (λ _=>some false) (λ _=>some false) (λ _=>none)
noncomputable def isNone (zz:D):Option Bool:=@D.casesOn (λ _=>Option Bool) zz (λ x=>uf x) (λ _=>some false) (λ _=>none) (λ _=>none) (λ _=>some false) (λ _ _=>some false) (λ _ _ _ _=>none)
noncomputable def yD (zz:D):Option Unit:=@D.casesOn (λ _=>Option Unit) zz (λ x=>@PyData.casesOn (λ _=>Option Unit) x (some ()) (λ _=>none) (λ _=>none) (λ _=>none) (λ _=>none) (λ _=>none) (λ _=>none)) (λ _=>none) (λ _=>none) (λ _=>none) (λ _=>none) (λ _ _=>none) (λ _ _ _ _=>none)
noncomputable def wpC (op:CmpOp)(σ:zA)(x y:D)(K:Bool->Prop):Prop:=@CmpOp.casesOn (λ _=>Prop) op (Yo σ x λ a=>Yo σ y λ b=>Sh a b/\K (PyData.eqv a b)) (Yo σ x λ a=>Yo σ y λ b=>Sh a b/\K (!PyData.eqv a b)) (onI x λ a=>onI y λ b=>K (decide (a<b))) (onI x λ a=>onI y λ b=>K (decide (a<=b))) (onI x λ a=>onI y λ b=>K (decide (b<a))) (onI x λ a=>onI y λ b=>K (decide (b<=a))) (Is (yD y) λ _=>Is (isNone x) K) (Is (yD y) λ _=>Is (isNone x) λ b=>K (!b)) (un σ x y K) (un σ x y λ b=>K (!b))
noncomputable def yE (a:List PyData)(y:D)(K:D->Prop):Prop:=onL y λ b=>Few (a.length + b.length)/\K (.p (.list (a++b)))
noncomputable def Y3 (σ:zA)(x y:D)(K:D->Prop):Prop:=@D.casesOn (λ _=>Prop) x (λ x=>@PyData.casesOn (λ _=>Prop) x False (λ _=>False) (λ a=>onI y λ b=>K (.p (.int (a + b)))) (λ _=>False) (λ a=>yE a y K) (λ a=>onT y λ b=>Few (a.length + b.length)/\K (.p (.tuple (a++b)))) (λ _=>False)) (λ i=>Is (σ[i]?.bind z0) λ a=>yE a y K) (λ _=>False) (λ _=>False) (λ _=>False) (λ _ _=>False) (λ _ _ _ _=>False)
noncomputable def QD (σ:zA)(op:Operator)(x y:D)(K:D->Prop):Prop:=@Operator.casesOn (λ _=>Prop) op (Y3 σ x y K) (onI x λ a=>onI y λ b=>K (.p (.int (a - b)))) (onI x λ a=>onI y λ b=>Fit a/\Fit b/\K (.p (.int (a * b)))) False False (onI x λ a=>onI y λ b=>Nz b/\K (.p (.int (Int.fmod a b)))) (onI x λ a=>onI y λ b=>Pw a b/\K (.p (.int (a ^ b.toNat)))) False False False False False (onI x λ a=>onI y λ b=>Nz b/\K (.p (.int (Int.fdiv a b))))
noncomputable def jN (zz:MO):Option (List Int):=@MO.casesOn (λ _=>Option (List Int)) zz (λ xs=>ints? xs) (λ es=>some (es.map (·.1))) (λ _=>none) (λ _=>none) (λ _=>none) (λ _ _=>none) none
noncomputable def QO (σ:zA)(zz:D):Option (List Int):=@D.casesOn (λ _=>Option (List Int)) zz (λ x=>(asL x).bind ints?) (λ i=>σ[i]?.bind jN) (λ _=>none) (λ _=>none) (λ _=>none) (λ _ _=>none) (λ _ _ _ _=>none)
noncomputable def Ju (zz:Bi):Option Nat:=@Bi.casesOn (λ _=>Option Nat) zz none none none none none none none none (some 0) (some 1) (some 2) (some 3) none none none
noncomputable def qE:PyData->Nat->Option Bool
 | .none,_=>some false
 | .bool _,k=>some (Nat.beq k 2 || Nat.beq k 3)
 | .int _,k=>some (Nat.beq k 2)
 | .str _,_=>some false
 | .list _,k=>some (Nat.beq k 1)
 | .tuple _,k=>some (Nat.beq k 0)
 | .dict _,_=>none
noncomputable def Ul (zz:D):Option Bi:=@D.casesOn (λ _=>Option Bi) zz (λ _=>none) (λ _=>none) (λ _=>none) (λ b=>some b) (λ _=>none) (λ _ _=>none) (λ _ _ _ _=>none)
noncomputable def on1 (ds:List D)(K:D->Prop):Prop:=@List.casesOn _ (λ _=>Prop) ds False (λ d r=>@List.casesOn _ (λ _=>Prop) r (K d) (λ _ _=>False))
noncomputable def on2 (ds:List D)(K:D->D->Prop):Prop:=@List.casesOn _ (λ _=>Prop) ds False (λ d r=>on1 r λ e=>K d e)
noncomputable def yV (ds:List D)(K:D->Prop)(K2:D->D->Prop):Prop:=@List.casesOn _ (λ _=>Prop) ds False (λ d r=>@List.casesOn _ (λ _=>Prop) r (K d) (λ e r=>@List.casesOn _ (λ _=>Prop) r (K2 d e) (λ _ _=>False)))
noncomputable def qG (m:Bool)(xs:List PyData)(σ:zA)(Q:D->zA->Prop):Prop:=@Bool.casesOn (λ _=>Prop) m (Q (.p (.list xs)) σ) (Q (.obj σ.length) (σ++[.lst xs]))
noncomputable def hdL (l:List Int)(K:Int->List Int->Prop):Prop:=@List.casesOn _ (λ _=>Prop) l False (λ a r=>K a r)
noncomputable def Xi (d:D)(t:Nat)(σ:zA)(Q:D->zA->Prop):Prop:=@D.casesOn (λ _=>Prop) d (λ x=>Is (qE x t) λ r=>Q (.p (.bool r)) σ) (λ i=>Is (σ[i]?.bind z0) λ _=>Q (.p (.bool (Nat.beq t 1))) σ) (λ _=>False) (λ _=>False) (λ _=>False) (λ _ _=>False) (λ _ _ _ _=>False)
noncomputable def b2i (b:Bool):Int:=@Bool.casesOn (λ _=>Int) b 0 1
noncomputable def uW (zz:PyData):Option Int:=@PyData.casesOn (λ _=>Option Int) zz none (λ b=>some (b2i b)) (λ a=>some a) (λ _=>none) (λ _=>none) (λ _=>none) (λ _=>none)
noncomputable def Zo (m:Bool)(b:Bi)(ds:List D)(σ:zA)(Q:D->zA->Prop):Prop:=@Bi.casesOn (λ _=>Prop) b (on1 ds λ d=>qm σ d λ xs=>Few xs.length/\Q (.p (.int xs.length)) σ) (on2 ds λ d t=>Is ((Ul t).bind Ju) λ t=>Xi d t σ Q) (on1 ds λ d=>onI d λ a=>Q (.p (.int a.natAbs)) σ) (yV ds (λ d=>qm σ d λ xs=>Is (ints? xs) λ l=>hdL l λ a r=>Q (.p (.int (zu a r))) σ) λ d e=>onI d λ a=>onI e λ b=>Q (.p (.int (zu a [b]))) σ) (yV ds (λ d=>qm σ d λ xs=>Is (ints? xs) λ l=>hdL l λ a r=>Q (.p (.int (ZC a r))) σ) λ d e=>onI d λ a=>onI e λ b=>Q (.p (.int (ZC a [b]))) σ) (on1 ds λ d=>qm σ d λ xs=>Is (ints? xs) λ l=>Q (.p (.int l.sum)) σ) (on1 ds λ d=>Is (QO σ d) λ l=>Lt64 l.length/\qG m ((zg l).map .int) σ Q) False (on1 ds λ d=>qm σ d λ xs=>Few xs.length/\Q (.p (.tuple xs)) σ) (on1 ds λ d=>qm σ d λ xs=>Few xs.length/\qG m xs σ Q) (on1 ds λ d=>onP d λ x=>Is (uW x) λ a=>Q (.p (.int a)) σ) False (on1 ds λ d=>onT d λ xs=>Is (Zv xs) λ es=>Nd (es.map (·.1))/\Few xs.length/\Q (.obj σ.length) (σ++[.idict es])) False (yV ds (λ e=>onI e λ b=>Q (.rng 0 b) σ) λ d e=>onI d λ a=>onI e λ b=>Q (.rng a b) σ)
noncomputable def ud (i:Nat)(es:List (Int×D))(k:Int)(d:D)(σ:zA)(Q:D->zA->Prop)(zz:Option D):Prop:=@Option.casesOn _ (λ _=>Prop) zz (Q d (σ.set i (.idict (es++[(k,d)])))) (λ d'=>Q d' σ)
noncomputable def Ym (mo:MO)(k:Nat):Bool:=@MO.casesOn (λ _=>Bool) mo (λ _=>Nat.beq k 0) (λ _=>Nat.beq k 1 || Nat.beq k 2) (λ _=>false) (λ _=>false) (λ _=>false) (λ _ _=>false) false
noncomputable def YN (i:Nat)(mo:MO)(k:Nat)(ds:List D)(σ:zA)(Q:D->zA->Prop):Prop:=match mo with
 | .lst xs=>ifT (Nat.beq k 0) (on1 ds λ d=>onP d λ x=>Few xs.length/\Q (.p .none) (σ.set i (.lst (xs++[x]))))
 | .idict es=>ifT (Nat.beq k 1 || Nat.beq k 2) (on2 ds λ e d=>onI e λ q=>match Nat.beq k 1 with
  | true=>Q ((zS q es).getD d) σ
  | false=>Few es.length/\ud i es q d σ Q (zS q es))
 | _=>False
noncomputable def zY (C:Addr)(k:Nat):List ((Addr×Nat)×Addr)->Option Addr
 | []=>none
 | ((a,j),f)::r=>match Nat.beq a C&&Nat.beq j k with
  | true=>some f
  | false=>zY C k r
noncomputable def QW (xs:List PyData)(i:D)(Q:D->Prop):Prop:=onI i λ k=>Sm k/\Is ((idx xs.length k).bind λ j=>xs[j]?) λ x=>Q (.p x)
noncomputable def YE (i:D)(Q:D->Prop)(mo:MO):Prop:=@MO.casesOn (λ _=>Prop) mo (λ xs=>QW xs i Q) (λ es=>onI i λ k=>Is (zS k es) Q) (λ _=>False) (λ _=>False) (λ es=>onT i λ k=>Kd (.tuple k)/\Is (keyDs k) λ q=>Is (zo q es) Q) (λ _ _=>False) False
noncomputable def Yw (σ:zA)(o i:D)(Q:D->Prop):Prop:=@D.casesOn (λ _=>Prop) o (λ x=>Is (qg x) λ xs=>QW xs i Q) (λ j=>Get σ j (YE i Q)) (λ _=>False) (λ _=>False) (λ _=>False) (λ _ _=>False) (λ _ _ _ _=>False)
noncomputable def xq (o:Option (List PyData))(k:Int)(Q:D->Prop):Prop:=Is o λ xs=>Sm k/\0<=k/\Few xs.length/\Q (.p (.list (xs.take k.toNat)))
noncomputable def xj (o:Option (List PyData))(k:Int)(Q:D->Prop):Prop:=Is o λ xs=>Sm k/\0<=k/\Few xs.length/\Q (.p (.list (xs.drop k.toNat)))
noncomputable def YX (σ:zA)(o hi:D)(Q:D->Prop):Prop:=onI hi λ k=>match o with
 | .p x=>match x with
  | .str x=>Sm k/\Few x.cps.size/\PyData.strOk (Txt.slice x none (some k))=true/\Q (.p (.str (Txt.slice x none (some k))))
  | .list xs=>xq (some xs) k Q
  | _=>False
 | .obj i=>xq (σ[i]?.bind z0) k Q
 | _=>False
noncomputable def YZ (σ:zA)(o lo:D)(Q:D->Prop):Prop:=onI lo λ k=>match o with
 | .p x=>match x with
  | .tuple xs=>Sm k/\1<=k/\k<=xs.length/\Few xs.length/\Q (.p (.tuple (xs.drop k.toNat)))
  | .list xs=>xj (some xs) k Q
  | _=>False
 | .obj i=>xj (σ[i]?.bind z0) k Q
 | _=>False
noncomputable def Q9 (T:Tabs)(σ:zA)(i:Nat)(K:Addr->Nat->List (Nat×D)->Prop):Prop:=Get σ i λ mo=>match mo with
 | .inst C j=>Is (σ[j]?.bind YG) λ fs=>K C j fs
 | _=>False
noncomputable def noO {α:Type}(o:Option α)(P:Prop):Prop:=@Option.casesOn _ (λ _=>Prop) o P (λ _=>False)
noncomputable def jx (T:Tabs)(σ:zA)(o:D)(k:Nat)(Q:D->Prop):Prop:=onO o λ i=>Q9 T σ i λ K _ fs=>noO (zY K k T.meth) (Is (look k fs) Q)
noncomputable def QH (a b:Int):List PyData:=(List.range (b - a).toNat).map λ (j:Nat)=>PyData.int (a + j)
noncomputable def Uq (xs ys:List PyData):List PyData:=(xs.zip ys).map λ p=>.tuple [p.1,p.2]
noncomputable def zpO (d e:D):Option (Option Nat):=(isP e).bind λ _=>match d with
 | .p _=>some none
 | .obj i=>some (some i)
 | _=>none
noncomputable def zf (σ:zA)(d:D)(Q:List PyData->Option (Nat×List PyData)->Prop):Prop:=@D.casesOn (λ _=>Prop) d (λ x=>Is (qg x) λ xs=>Q xs none) (λ i=>Is (σ[i]?.bind z0) λ xs=>Q xs (some (i,xs))) (λ _=>False) (λ _=>False) (λ _=>False) (λ a b=>Rg a b/\Q (QH a b) none) (λ d e xs ys=>Is (zpO d e) λ o=>Q (Uq xs ys) (o.map λ i=>(i,xs)))
noncomputable def zZ (i:Option (Nat×List PyData))(σ:zA)(K:Prop):Prop:=match i with
 | none=>K
 | some (i,xs)=>σ[i]?=some (.lst xs)/\K
noncomputable def mkD (kind:Nat)(ks:List Nat)(ds:List D):Option MO:=@Nat.casesOn (λ _=>Option MO) kind (gd (Nat.beq ks.length ds.length) (some (.rdict (ks.zip ds)))) (λ k=>@Nat.casesOn (λ _=>Option MO) k (some (.idict [])) (λ _=>some (.tdict [])))
noncomputable def onN (ρ:Rho)(i:Nat)(K:D->Prop):Prop:=Is (ρ[i]?.bind id) K
noncomputable def wE (m:Bool)(P:Prop):Prop:=@Bool.casesOn (λ _=>Prop) m P False
noncomputable def j6 (d:D)(acc:List PyData)(K:List PyData->Prop):Prop:=onP d λ x=>Few acc.length/\K (acc++[x])
noncomputable def zE0 (zz:PyData):Bool:=@PyData.casesOn (λ _=>Bool) zz true (λ _=>true) (λ _=>true) (λ _=>false) (λ _=>false) (λ _=>false) (λ _=>false)
noncomputable def Yi (d:D)(P:Prop):Prop:=onP d λ x=>ifT (zE0 x) P
section
variable (C:Cx)(T:Tabs)(n:Nat)
mutual
noncomputable def wpE:Ex->Rho->zA->(D->zA->Prop)->Prop
 | .nm i,ρ,σ,Q=>onN ρ i λ d=>Q d σ
 | .gl g,_,σ,Q=>Is T.glob[g]? λ p=>Q p.2 σ
 | .c d,_,σ,Q=>Q (.p d) σ
 | .tup es,ρ,σ,Q=>wpEs es ρ σ λ ds σ'=>Q (Yx ds) σ'
 | .lst m es,ρ,σ,Q=>wpEs es ρ σ λ ds σ'=>Is (qx ds) λ xs=>qG m xs σ' Q
 | .dct kind ks es,ρ,σ,Q=>wpEs es ρ σ λ ds σ'=>Is (mkD kind ks ds) λ mo=>Q (.obj σ'.length) (σ'++[mo])
 | .bin op a b,ρ,σ,Q=>wpE a ρ σ λ x σ'=>wpE b ρ σ' λ y σ''=>QD σ'' op x y λ d=>Q d σ''
 | .neg a,ρ,σ,Q=>wpE a ρ σ λ x σ'=>onI x λ i=>Q (.p (.int (-i))) σ'
 | .not a,ρ,σ,Q=>wpE a ρ σ λ x σ'=>isB x λ b=>Q (.p (.bool (!b))) σ'
 | .and es,ρ,σ,Q=>wpAnd es ρ σ Q
 | .or es,ρ,σ,Q=>wpOr es ρ σ Q
 | .cmp a op b,ρ,σ,Q=>wpE a ρ σ λ x σ'=>wpE b ρ σ' λ y σ''=>wpC op σ'' x y λ r=>Q (.p (.bool r)) σ''
 | .ite c a b,ρ,σ,Q=>wpE c ρ σ λ x σ'=>isB x λ r=>Br r (wpE a ρ σ' Q) (wpE b ρ σ' Q)
 | .call m f args,ρ,σ,Q=>wpE f ρ σ λ g σ'=>wpEs args ρ σ' λ ds σ''=>match g with
  | .fn a=>wE m (SatCall C T n a ds σ'' Q)
  | .bi b=>Zo m b ds σ'' Q
  | _=>False
 | .meth o k args,ρ,σ,Q=>wpE o ρ σ λ x σ'=>onO x λ i=>Get σ' i λ mo=>match mo with
  | .inst K j=>Is (σ'[j]?.bind YG) λ fs=>noO (look k fs) (Is (zY K k T.meth) λ f=>wpEs args ρ σ' λ ds σ''=>SatCall C T n f (.obj i::ds) σ'' Q)
  | mo=>ifT (Ym mo k) (wpEs args ρ σ' λ ds σ''=>Get σ'' i λ mo'=>YN i mo' k ds σ'' Q)
 | .attr o k,ρ,σ,Q=>wpE o ρ σ λ x σ'=>jx T σ' x k λ d=>Q d σ'
 | .sub o i,ρ,σ,Q=>wpE o ρ σ λ x σ'=>wpE i ρ σ' λ y σ''=>Yw σ'' x y λ d=>Q d σ''
 | .subk o k,ρ,σ,Q=>wpE o ρ σ λ x σ'=>onO x λ i=>Is (σ'[i]?.bind JP) λ fs=>Is (look k fs) λ d=>Q d σ'
 | .upto o hi,ρ,σ,Q=>wpE o ρ σ λ x σ'=>wpE hi ρ σ' λ y σ''=>YX σ'' x y λ d=>Q d σ''
 | .from o lo,ρ,σ,Q=>wpE o ρ σ λ x σ'=>wpE lo ρ σ' λ y σ''=>YZ σ'' x y λ d=>Q d σ''
 | .comp m k elt t it ifs gens,ρ,σ,Q=>wpE it ρ σ λ d σ'=>zf σ' d λ xs i=>Few xs.length /\
   zJ (λ x (a:List PyData×zA) K=>Is (Zc t x (ρ++List.replicate k none)) λ ρ'=>wpIfs ifs ρ' a.2 λ b σ₂ =>
    Br b (wpG (λ ρ σ K=>wpE elt ρ σ K) gens ρ' σ₂ a.1 λ acc' σ₃=>zZ i σ₃ (K (acc',σ₃))) (zZ i σ₂ (K (a.1,σ₂)))) xs ([],σ') λ a=>qG m a.1 a.2 Q
 | .zip a b,ρ,σ,Q=>wpE a ρ σ λ x σ'=>wpE b ρ σ' λ y σ''=>qm σ'' x λ xs=>qm σ'' y λ ys=>Q (.zp x y xs ys) σ''
 | .fstr pre e,ρ,σ,Q=>wpE e ρ σ λ x σ'=>onI x λ i=>Sm i/\Q (.p (.str (pre++Str.ofString (toString i)))) σ'
 | .fsuf e post,ρ,σ,Q=>wpE e ρ σ λ x σ'=>onP x λ y=>Is (asS y) λ z=>Few z.cps.size/\Q (.p (.str (z++post))) σ'
noncomputable def wpEs:List Ex->Rho->zA->(List D->zA->Prop)->Prop
 | [],_,σ,Q=>Q [] σ
 | e::es,ρ,σ,Q=>wpE e ρ σ λ d σ'=>wpEs es ρ σ' λ ds σ''=>Q (d::ds) σ''
noncomputable def wpAnd:List Ex->Rho->zA->(D->zA->Prop)->Prop
 | [],_,_,_=>False
 | e::es,ρ,σ,Q=>match es with
  | []=>wpE e ρ σ Q
  | e'::r=>wpE e ρ σ λ x σ'=>isB x λ b=>Br b (wpAnd (e'::r) ρ σ' Q) (Q (.p (.bool false)) σ')
noncomputable def wpOr:List Ex->Rho->zA->(D->zA->Prop)->Prop
 | [],_,_,_=>False
 | e::es,ρ,σ,Q=>match es with
  | []=>wpE e ρ σ Q
  | e'::r=>wpE e ρ σ λ x σ'=>isB x λ b=>Br b (Q (.p (.bool true)) σ') (wpOr (e'::r) ρ σ' Q)
noncomputable def wpIfs:List Ex->Rho->zA->(Bool->zA->Prop)->Prop
 | [],_,σ,K=>K true σ
 | e::es,ρ,σ,K=>wpE e ρ σ λ x σ'=>isB x λ b=>Br b (wpIfs es ρ σ' K) (K false σ')
noncomputable def wpG (W:Rho->zA->(D->zA->Prop)->Prop):List Gn->Rho->zA->List PyData->(List PyData->zA->Prop)->Prop
 | [],ρ,σ,acc,Q=>W ρ σ λ d σ'=>j6 d acc λ acc'=>Q acc' σ'
 | .mk t it ifs::gs,ρ,σ,acc,Q=>wpE it ρ σ λ d σ'=>zf σ' d λ xs i=>Few xs.length /\
   zJ (λ x (a:List PyData×zA) K=>Is (Zc t x ρ) λ ρ'=>wpIfs ifs ρ' a.2 λ b σ₂ =>
    Br b (wpG W gs ρ' σ₂ a.1 λ acc' σ₃=>zZ i σ₃ (K (acc',σ₃))) (zZ i σ₂ (K (a.1,σ₂)))) xs (acc,σ') λ a=>Q a.1 a.2
end
noncomputable def zA4 (p:Pt)(d:D)(ρ:Rho)(K:Rho->Prop):Prop:=match p with
 | .nm i=>K (ρ.set i (some d))
 | .tup ps=>onP d λ x=>Is (Zc (.tup ps) x ρ) K
noncomputable def VI (i:Nat)(es:List (Ky×D))(q:Ky)(d:D)(σ:zA)(K:zA->Prop)(zz:Option D):Prop:=@Option.casesOn _ (λ _=>Prop) zz (K (σ.set i (.tdict (es++[(q,d)])))) (λ _=>False)
noncomputable def Um (σ:zA)(i:Nat)(y d:D)(K:zA->Prop):Prop:=Get σ i λ mo=>match mo with
 | .idict es=>onI y λ k=>Few es.length/\K (σ.set i (.idict (Qt k d es)))
 | .tdict es=>onT y λ k=>Kd (.tuple k)/\Is (keyDs k) λ q=>Few es.length/\VI i es q d σ K (zo q es)
 | _=>False
noncomputable def Yh (zz:D):Option (List D):=@D.casesOn (λ _=>Option (List D)) zz (λ x=>(Yl x).bind λ xs=>some (xs.map .p)) (λ _=>none) (λ _=>none) (λ _=>none) (λ ds=>some ds) (λ _ _=>none) (λ _ _ _ _=>none)
mutual
noncomputable def wpT:Tg->D->Rho->zA->(Rho->zA->Prop)->Prop
 | .pt p,d,ρ,σ,Q=>zA4 p d ρ λ ρ'=>Q ρ' σ
 | .attr o k,d,ρ,σ,Q=>wpE C T n o ρ σ λ x σ'=>onO x λ i=>Q9 T σ' i λ K j fs=>noO (zY K k T.meth) (Lt64 fs.length/\Q ρ (σ'.set j (.sdict (put k d fs))))
 | .sub o i,d,ρ,σ,Q=>wpE C T n o ρ σ λ x σ'=>wpE C T n i ρ σ' λ y σ''=>onO x λ i=>Um σ'' i y d λ σ₃=>Q ρ σ₃
 | .subk o k,d,ρ,σ,Q=>wpE C T n o ρ σ λ x σ'=>onO x λ i=>Is (σ'[i]?.bind JP) λ fs=>Few fs.length/\Q ρ (σ'.set i (.rdict (put k d fs)))
 | .tup ts,d,ρ,σ,Q=>Is (Yh d) λ ds=>ifT (Nat.beq ts.length ds.length) (wpTs ts ds ρ σ Q)
noncomputable def wpTs:List Tg->List D->Rho->zA->(Rho->zA->Prop)->Prop
 | [],ds,ρ,σ,Q=>match ds with
  | []=>Q ρ σ
  | _::_=>False
 | t::ts,ds,ρ,σ,Q=>match ds with
  | []=>False
  | d::ds=>wpT t d ρ σ λ ρ' σ'=>wpTs ts ds ρ' σ' Q
end
noncomputable def jr (T:Tabs)(g:Nat):Prop:=∃ x,T.glob[g]?=some (x,.fn T.exc)/\(x==("__debug__":Str))=false
noncomputable def Jk (o:Ex)(k:Nat)(args:List Ex)(ρ:Rho)(σ:zA)(X:zA->Prop):Prop:=wpE C T n o ρ σ λ x σ'=>onO x λ i=>Get σ' i λ mo=>match mo with
 | .inst K j=>Is (σ'[j]?.bind YG) λ fs=>noO (look k fs) (Is (zY K k T.meth) λ f=>wpEs C T n args ρ σ' λ ds σ''=>SatRaise C T n f (.obj i::ds) σ'' X)
 | _=>False
noncomputable def Yp (fl:Fl)(P X:Prop):Prop:=@Fl.casesOn (λ _=>Prop) fl P X (λ _=>X)
noncomputable def yQ (fl:Fl)(X:D->Prop)(P:Prop):Prop:=@Fl.casesOn (λ _=>Prop) fl P P (λ d=>X d)
mutual
noncomputable def wpS:St->Rho->zA->(Fl->Rho->zA->Prop)->Prop
 | .expr e,ρ,σ,Q=>wpE C T n e ρ σ λ d σ'=>Yi d (Q .next ρ σ')
 | .asg t e,ρ,σ,Q=>wpE C T n e ρ σ λ d σ'=>wpT C T n t d ρ σ' λ ρ' σ''=>Q .next ρ' σ''
 | .ite c a b,ρ,σ,Q=>wpE C T n c ρ σ λ x σ'=>isB x λ r=>Br r (wpSs a ρ σ' Q) (wpSs b ρ σ' Q)
 | .for t it body,ρ,σ,Q=>wpE C T n it ρ σ λ d σ'=>zf σ' d λ xs i=>Few xs.length /\
   zJ (λ x (a:Rho×zA) K=>Is (Zc t x a.1) λ ρ'=>wpSs body ρ' a.2 λ fl ρ'' σ''=>yQ fl (λ d=>Q (.ret d) ρ'' σ'') (zZ i σ'' (K (ρ'',σ'')))) xs (ρ,σ') λ a=>Q .next a.1 a.2
 | .ret e,ρ,σ,Q=>wpE C T n e ρ σ λ d σ'=>Q (.ret d) ρ σ'
 | .retF e,ρ,σ,Q=>wpE C T n e ρ σ λ d σ'=>Is (qW σ' d) λ x=>Q (.ret (.p x.1)) ρ x.2
 | .retN,ρ,σ,Q=>Q (.ret (.p .none)) ρ σ
 | .cont,ρ,σ,Q=>Q .cont ρ σ
 | .raise,_,_,_=>False
 | .rai _ _,_,_,_=>False
 | .try_ xs o k args g i d,ρ,σ,Q=>wpSs xs ρ σ Q∨(jr T g/\Jk C T n o k args ρ σ λ σ'=>Q .next (ρ.set i (some (.p d))) σ')
noncomputable def wpSs:List St->Rho->zA->(Fl->Rho->zA->Prop)->Prop
 | [],ρ,σ,Q=>Q .next ρ σ
 | s::ss,ρ,σ,Q=>wpS s ρ σ λ fl ρ' σ'=>Yp fl (wpSs ss ρ' σ' Q) (Q fl ρ' σ')
end
mutual
noncomputable def rxS:St->Rho->zA->(zA->Prop)->Prop
 | .ite c a b,ρ,σ,X=>wpE C T n c ρ σ λ x σ'=>isB x λ r=>Br r (rxSs a ρ σ' X) (rxSs b ρ σ' X)
 | .rai g es,ρ,σ,X=>5<=n/\jr T g/\wpEs C T n es ρ σ λ ds σ'=>ds.length=2/\X σ'
 | _,_,_,_=>False
noncomputable def rxSs:List St->Rho->zA->(zA->Prop)->Prop
 | [],_,_,_=>False
 | s::_,ρ,σ,X=>rxS s ρ σ X
end
end
section
variable {h:Heap}{φ:Addr->Prop}{μ:List Addr}{vs:List Value}{ds:List D}
theorem qQ {K:D->Prop}(V₀:VDs h φ μ vs ds)(k:on1 ds K):∃ v d,vs=[v]/\ds=[d]/\VD h φ μ v d/\K d :=
 @List.casesOn D (λ ds=>VDs h φ μ vs ds->on1 ds K->∃ v d,vs=[v]/\ds=[d]/\VD h φ μ v d/\K d) ds (λ _ k=>k.elim) (λ d r=>@List.casesOn D (λ r=>VDs h φ μ vs (d::r)->on1 (d::r) K->∃ v d',vs=[v]/\d::r=[d']/\VD h φ μ v d'/\K d') r
  (λ V₀ k=>Eeeaa V₀.icons λ v w e V W=>⟨v,d,e.trans (congrArg (v::·) W.inil),rfl,V,k⟩) λ _ _ _ k=>k.elim) V₀ k
theorem wN {K:D->D->Prop}(V₀:VDs h φ μ vs ds)(k:on2 ds K):∃ v w d e,vs=[v,w]/\ds=[d,e]/\VD h φ μ v d/\VD h φ μ w e/\K d e :=
 @List.casesOn D (λ ds=>VDs h φ μ vs ds->on2 ds K->∃ v w d e,vs=[v,w]/\ds=[d,e]/\VD h φ μ v d/\VD h φ μ w e/\K d e) ds (λ _ k=>k.elim)
  (λ d r V₀ k=>Eeeaa V₀.icons λ v w e1 V W₀=>Eeeaaa (qQ W₀ k) λ w' e e2 e3 W k=>⟨v,w',d,e,e1.trans (congrArg (v::·) e2),congrArg (d::·) e3,V,W,k⟩) V₀ k
theorem um {K:D->Prop}{K2:D->D->Prop}(V₀:VDs h φ μ vs ds)(k:yV ds K K2):(∃ v d,vs=[v]/\VD h φ μ v d/\K d)∨∃ v w d e,vs=[v,w]/\VD h φ μ v d/\VD h φ μ w e/\K2 d e:=by
 cases ds with
 | nil=>exact k.elim
 | cons d r =>
  refine Eeeaa V₀.icons λ v w e1 V W₀=>?_
  cases r with
  | nil=>exact .inl ⟨v,d,e1.trans (congrArg (v::·) W₀.inil),V,k⟩
  | cons e r=>exact .inr (Eeeaaa (qQ (K:=K2 d) W₀ k) λ w' e' e2 e3 W k=>⟨v,w',d,e',e1.trans (congrArg (v::·) e2),V,W,k⟩)
end
theorem wK {α:Type}{o:Option α}{P:Prop}(h:noO o P):o=none/\P:=by
 cases o with
 | none=>exact ⟨rfl,h⟩
 | some _=>exact h.elim
theorem Uy {T:Tabs}{σ:zA}{i:Nat}{K:Addr->Nat->List (Nat×D)->Prop}(h:Q9 T σ i K):∃ C j fs,σ[i]?=some (.inst C j)/\σ[j]?=some (.sdict fs)/\K C j fs:=by
 refine Eea (Is.h h) λ mo e h=>?_
 cases mo with
 | inst C j =>
  refine Eea (Is.h h) λ fs e' h=>?_
  refine Eea (ob e') λ mo e2 e3=>?_
  cases vS e3
  exact ⟨C,j,fs,e,e2,h⟩
 | _=>exact h.elim
end Mine
namespace Mine
open PySem PySem.Calls PyProof.Rows PySem.W
set_option tactic.hygienic false
structure Fm where
 env:Env
 ks:List (Str×NameKind)
 own:List Addr
 fs:List Env
inductive OptV (h:Heap)(φ:Addr->Prop)(μ:List Addr):Option Value->Option (Option D)->Prop
 | no (o:Option Value):OptV h φ μ o (some none)
 | is {v:Value} {d:D}:VD h φ μ v d->OptV h φ μ (some v) (some (some d))
noncomputable def acc (k:NameKind):Prop:=k=.local∨k=.cell∨k=.free
structure FrI (F:Fm)(h:Heap)(φ:Addr->Prop)(μ:List Addr)(ρ:Rho):Prop where
 kind:F.env.scope.kind=.function
 glob:F.env.globals=mainGlobals
 blt:F.env.builtins=builtinsNs
 len:ρ.length=F.ks.length
 loc:∃ m,h.Ns F.env.locals m/\∀ (i:Nat) (x:Str),F.ks[i]?=some (x,NameKind.local)->F.env.kindOf x=some .local/\OptV h φ μ (m x) ρ[i]?
 cell:∀ (i:Nat) (x:Str) (k:NameKind),F.ks[i]?=some (x,k)->(k=.cell∨k=.free)->(F.env.kindOf x=some .cell∨(k=.free/\F.env.kindOf x=some .free))/\∃ c v,F.env.cells.lookup x=some c/\h.IsCell c v/\OptV h φ μ v ρ[i]?/\(k=.cell->c∈F.own)
 uniq:∀ (i j:Nat) (x:Str) (k k':NameKind),F.ks[i]?=some (x,k)->F.ks[j]?=some (x,k')->acc k->acc k'->i=j
 Lμ:F.env.locals∉μ
 Lφ:¬ φ F.env.locals
 cμ:∀ x c,F.env.cells.lookup x=some c->(∃ o,h.get? c=some o)/\c∉μ/\¬ φ c/\c≠F.env.locals
 cinj:∀ x y c,F.env.cells.lookup x=some c->F.env.cells.lookup y=some c->x=y
 own:∀ c,c∈F.own->∃ o,h.get? c=some o
 outs:∀ v,v∈F.fs->v.scope.kind≠.module/\∃ L,v.frame=some L/\(L=F.env.locals∨∃ o,h.get? L=some o/\FrO o/\L∉μ/\¬ φ L/\L∉F.own/\L≠F.env.locals)
theorem OptV.mono {h h':Heap}{φ φ':Addr->Prop}{μ μ':List Addr}(k:∀ a,φ a->φ' a/\h'.get? a=h.get? a)(m:∀ (i:Nat) (a:Addr),μ[i]?=some a->μ'[i]?=some a)
  {o:Option Value} {d:Option (Option D)} (p:OptV h φ μ o d):OptV h' φ' μ' o d:=by
 cases p with
 | no o=>exact .no o
 | is q=>exact .is (q.mono k m)
theorem Jb {h h':Heap}{a:Addr}{m:Str->Option Value}(n:h.Ns a m){fr:List Addr}{b:Addr}(k:∀ o,h.get? a=some o->Kept fr b o (h'.get? a)):h'.Ns a m:=by
 (refine Eeeeaa (n) λ o es ep ho hd r=>?_;try clear n)
 rcases k o ho with e | ⟨_,sl,e⟩
 ·exact ⟨o,es,ep,e,hd,r⟩
 ·exact ⟨_,es,ep,e,hd,r⟩
theorem vZ {h h':Heap}{a:Addr}{v:Option Value}(n:h.IsCell a v){fr:List Addr}{b:Addr}(k:∀ o,h.get? a=some o->Kept fr b o (h'.get? a)):h'.IsCell a v:=by
 (refine Eea (n) λ o ho hd=>?_;try clear n)
 rcases k o ho with e | ⟨_,sl,e⟩
 ·exact ⟨o,e,hd⟩
 ·exact ⟨_,e,hd⟩
theorem zF9 {h:Heap}{b:Addr}(o:Obj)(hb:b<h.objs.size):(h.push o).get? b=h.get? b:=Heap.get?_push_ne h b o (Nat.ne_of_lt hb)
theorem FrI.outsK {F:Fm}{h h':Heap}{φ φ':Addr->Prop}{μ μ':List Addr}{ρ:Rho}(x:FrI F h φ μ ρ)(k:∀ v L o,v∈F.fs->v.frame=some L->h.get? L=some o->L∉μ->¬ φ L->L∉F.own->L≠F.env.locals->(∃ o',h'.get? L=some o'/\o'.data=o.data)/\L∉μ'/\¬ φ' L) :
  ∀ v,v∈F.fs->v.scope.kind≠.module/\∃ L,v.frame=some L/\(L=F.env.locals∨∃ o,h'.get? L=some o/\FrO o/\L∉μ'/\¬ φ' L/\L∉F.own/\L≠F.env.locals):=λ v hv=>by
 obtain ⟨h1,L,h2,h3⟩:=x.outs v hv
 refine ⟨h1,L,h2,h3.imp id λ ⟨o,a,b,c,f,d,e⟩=>?_⟩
 refine Eaa (k v L o hv h2 a c f d e) λ q5q e3 e4=>?_
 refine Eea q5q λ o' e1 e2=>?_
 exact ⟨o',e1,let ⟨es,n,q⟩:=b;⟨es,n,e2.trans q⟩,e3,e4,d,e⟩
theorem FrI.ne_out {F:Fm}{h:Heap}{φ:Addr->Prop}{μ:List Addr}{ρ:Rho}{B:Addr}(x:FrI F h φ μ ρ)(hB:h.get? B=none){v:Env}{L:Addr}(hv:v∈F.fs)(hL:v.frame=some L):L≠B:=λ e=>by
 subst e
 obtain ⟨_,L',h2,h3⟩:=x.outs v hv
 rw [hL] at h2;cases h2
 rcases h3 with h3 | ⟨o,h3,_⟩
 ·(refine Eea (x.loc) λ m q9q=>?_;(refine Eeeea (q9q) λ o _ _ ho _=>?_;try clear q9q);intro _)
  rw [<- h3,hB] at ho;cases ho
 ·rw [hB] at h3;cases h3
theorem Q6 {A:Around}{fs:List Env}(h:A.frames=some fs):frA A=frL fs:=by
 unfold frA;refine rwE h ?_;rfl
theorem FrI.ne_fr {F:Fm}{h:Heap}{φ:Addr->Prop}{μ:List Addr}{ρ:Rho}{B:Addr}(x:FrI F h φ μ ρ)(hB:h.get? B=none):B∉frL F.fs:=λ m=>by
 refine Eea (List.mem_filterMap.mp m) λ v hv hL=>?_
 exact x.ne_out hB hv hL rfl
theorem FrI.out {F:Fm}{h:Heap}{φ:Addr->Prop}{μ:List Addr}{ρ:Rho}{A:Around}(x:FrI F h φ μ ρ)(hF:A.frames=some F.fs):Out A h φ μ:=⟨F.fs,hF,λ v hv=>by
 obtain ⟨h1,L,h2,h3⟩:=x.outs v hv
 rcases h3 with h3 | ⟨o,h3,h4,h5,h6,_⟩
 ·(refine Eea (x.loc) λ m q13q=>?_;(refine Eeeeaa (q13q) λ o es ep ho hd _=>?_;try clear q13q);intro _)
  exact ⟨h1,L,o,h2,h3▸ho,⟨es,ep,hd⟩,h3▸x.Lμ,h3▸x.Lφ⟩
 ·exact ⟨h1,L,o,h2,h3,h4,h5,h6⟩⟩
theorem FrI.ext {F:Fm}{h h':Heap}{φ φ':Addr->Prop}{μ μ' wr fr:List Addr}{ρ:Rho}(x:FrI F h φ μ ρ)(e:Ext h φ μ h' φ' μ' wr fr)
  (hL:F.env.locals∉wr) (hc:∀ y c,F.env.cells.lookup y=some c->c∉wr) (ho:∀ v L,v∈F.fs->v.frame=some L->L≠F.env.locals->L∉wr):FrI F h' φ' μ' ρ:=by
 refine Eea (x.loc) λ m hn hm=>?_
 refine ⟨x.kind,x.glob,x.blt,x.len,⟨m,Jb hn λ o ho=>e.oth _ o ho x.Lμ hL,λ i y hi=>⟨(hm i y hi).1,(hm i y hi).2.mono e.frz e.pre⟩⟩,λ i y k hi hk=>?_,x.uniq,
  (by (refine Eeeea (hn) λ o _ _ ho _=>?_;try clear hn);exact e.notin ho x.Lμ),(by (refine Eeeea (hn) λ o _ _ ho _=>?_;try clear hn);exact e.notfrz ho x.Lμ x.Lφ),λ y c hy=>?_,x.cinj,λ c hc=>let ⟨o,ho⟩:=x.own c hc;e.ex c o ho,x.outsK λ v L o hv hf h1 h2 h3 _ h4=>⟨(e.oth L o h1 h2 (ho v L hv hf h4)).dat,e.notin h1 h2,e.notfrz h1 h2 h3⟩⟩
 ·obtain ⟨h1,c,v,hc1,hc2,hc3,hc4⟩:=x.cell i y k hi hk
  exact ⟨h1,c,v,hc1,vZ hc2 λ o ho=>e.oth _ o ho (x.cμ y c hc1).2.1 (hc y c hc1),hc3.mono e.frz e.pre,hc4⟩
 ·(refine qN (x.cμ y c hy) λ q20q=>?_;(refine Ee (q20q) λ o h0=>?_;try clear q20q);intro h1 h2 h3)
  exact ⟨e.ex c o h0,e.notin h0 h1,e.notfrz h0 h1 h2,h3⟩
structure Go (C:Cx)(T:Tabs)(F:Fm)(s:Shared)(φ:Addr->Prop)(μ:List Addr)(s':Shared)(φ':Addr->Prop)(μ':List Addr)(ρ':Rho)(σ':zA):Prop where
 st:∃ h tk,s'={s with heap:=h,toks:=tk}
 rel:Rel C T s'.heap φ' μ' σ'
 fr:FrI F s'.heap φ' μ' ρ'
 ext:Ext s.heap φ μ s'.heap φ' μ' (F.env.locals::F.own) (frL F.fs)
theorem Go.refl {C:Cx}{T:Tabs}{F:Fm}{s:Shared}{φ:Addr->Prop}{μ:List Addr}{ρ:Rho}{σ:zA}(R:Rel C T s.heap φ μ σ)(I:FrI F s.heap φ μ ρ):Go C T F s φ μ s φ μ ρ σ :=
 ⟨⟨s.heap,s.toks,rfl⟩,R,I,.refl⟩
theorem Go.trans {C:Cx}{T:Tabs}{F:Fm}{s s' s'':Shared}{φ φ' φ'':Addr->Prop}{μ μ' μ'':List Addr}{ρ' ρ'':Rho}{σ' σ'':zA}
  (x:Go C T F s φ μ s' φ' μ' ρ' σ') (y:Go C T F s' φ' μ' s'' φ'' μ'' ρ'' σ''):Go C T F s φ μ s'' φ'' μ'' ρ'' σ'':=by
 (refine Eee (x.st) λ h tk q23q=>?_;obtain rfl:=q23q)
 (refine Eee (y.st) λ h' tk' q25q=>?_;obtain rfl:=q25q)
 exact ⟨⟨h',tk',rfl⟩,y.rel,y.fr,x.ext.trans y.ext⟩
theorem Go.tok {C:Cx}{T:Tabs}{F:Fm}{s s':Shared}{φ φ':Addr->Prop}{μ μ':List Addr}{ρ':Rho}{σ':zA}
  (x:Go C T F s φ μ s' φ' μ' ρ' σ') (tk:Nat):Go C T F s φ μ {s' with toks:=tk} φ' μ' ρ' σ':=by
 (refine Eee (x.st) λ h tk' q27q=>?_;obtain rfl:=q27q)
 exact ⟨⟨h,tk,rfl⟩,x.rel,x.fr,x.ext⟩
section
variable {C:Cx}{T:Tabs}{F:Fm}{s s':Shared}{φ φ':Addr->Prop}{μ μ':List Addr}{ρ ρ':Rho}{σ σ':zA}
theorem Go.of_extF {h':Heap}{tk:Nat}(I:FrI F s.heap φ μ ρ)(R':Rel C T h' φ' μ' σ')(e:Ext s.heap φ μ h' φ' μ' [] (frL F.fs)) :
  Go C T F s φ μ {s with heap:=h',toks:=tk} φ' μ' ρ σ' :=
 ⟨⟨h',tk,rfl⟩,R',I.ext e (λ h=>nomatch h) (λ _ _ _ h=>nomatch h) (λ _ _ _ _ _ h=>nomatch h),e.wider λ _ _ h=>nomatch h⟩
theorem Go.of_ext {h':Heap}{tk:Nat}(I:FrI F s.heap φ μ ρ)(R':Rel C T h' φ' μ' σ')(e:Ext s.heap φ μ h' φ' μ' []) :
  Go C T F s φ μ {s with heap:=h',toks:=tk} φ' μ' ρ σ':=Go.of_extF I R' e.slack
theorem zi (h:Heap):h.get? h.objs.size=none:=Heap.get?_none_of_le (Nat.le_refl _)
noncomputable def vG (mo:MO):Bool:=@MO.casesOn (λ _=>Bool) mo (λ _=>false) (λ _=>false) (λ _=>false) (λ _=>false) (λ _=>false) (λ _ _=>false) true
theorem Rel.notin_none (R:Rel C T s.heap φ μ σ){b:Addr}(hb:s.heap.get? b=none):b∉μ:=λ h=>Ee (List.mem_iff_getElem?.mp h) λ i hi=>Ee (R.lt i _ hi) λ _ e=>nn (hb.symm.trans e)
theorem Rel.notfrz_none (R:Rel C T s.heap φ μ σ){b:Addr}(hb:s.heap.get? b=none):¬ φ b:=λ h=>Ee (R.frz _ h) λ _ e=>nn (hb.symm.trans e)
theorem Y2 {mo:MO}{P:Prop}(e:mo=.dead∨P)(h:vG mo=false):P:=e.resolve_left λ q=>Bool.false_ne_true (h.symm.trans (congrArg vG q))
theorem DictOf.eqAt {prog:Program}{w:World}{K:Type}[DecidableEq K]{kd:KeyKind prog w K}{h h':Heap}{a:Addr}{kvs:List (K×Value)}(x:h.DictOf kd a kvs)(e:h'.get? a=h.get? a):h'.DictOf kd a kvs :=
 Eeeea x λ o es ep ho r=>⟨o,es,ep,e.trans ho,r⟩
section
variable {h h':Heap}{μ μ':List Addr}{P:Params}
theorem IEs.mono {kvs:List (Int×Value)}{es:List (Int×D)}(q:IEs h φ μ kvs es)(k:∀ a,φ a->φ' a/\h'.get? a=h.get? a)(m:∀ (i:Nat) (a:Addr),μ[i]?=some a->μ'[i]?=some a):IEs h' φ' μ' kvs es:=@IEs.rec h φ μ (λ kvs es _=>IEs h' φ' μ' kvs es) .nil (λ p _ ih=>.cons (p.mono k m) ih) kvs es q
theorem REs.mono {kvs:List (Str×Value)}{es:List (Nat×D)}(q:REs T h φ μ kvs es)(k:∀ a,φ a->φ' a/\h'.get? a=h.get? a)(m:∀ (i:Nat) (a:Addr),μ[i]?=some a->μ'[i]?=some a):REs T h' φ' μ' kvs es:=@REs.rec T h φ μ (λ kvs es _=>REs T h' φ' μ' kvs es) .nil (λ n p _ ih=>.cons n (p.mono k m) ih) kvs es q
theorem SEs.mono {kvs:List DictEntry}{es:List (Nat×D)}(q:SEs T P h φ μ kvs es)(k:∀ a,φ a->φ' a/\h'.get? a=h.get? a)(m:∀ (i:Nat) (a:Addr),μ[i]?=some a->μ'[i]?=some a):SEs T P h' φ' μ' kvs es:=@SEs.rec T P h φ μ (λ kvs es _=>SEs T P h' φ' μ' kvs es) .nil (λ n p _ ih=>.cons n (p.mono k m) ih) kvs es q
theorem TEs.mono {kvs:List (Ky×Addr×Value)}{es:List (Ky×D)}(q:TEs h φ μ kvs es)(k:∀ a,φ a->φ' a/\h'.get? a=h.get? a)(m:∀ (i:Nat) (a:Addr),μ[i]?=some a->μ'[i]?=some a):TEs h' φ' μ' kvs es:=@TEs.rec h φ μ (λ kvs es _=>TEs h' φ' μ' kvs es) .nil (λ p hk hd v _ ih=>.cons (p.mono k) hk hd (v.mono k m) ih) kvs es q
end
theorem Zb {h h':Heap}{μ μ':List Addr}{a:Addr}{mo:MO}{prog:Program}{w:World}(x:qY T prog w h φ μ a mo)(k:∀ a,φ a->φ' a/\h'.get? a=h.get? a)(m:∀ (i:Nat) (a:Addr),μ[i]?=some a->μ'[i]?=some a)
  (e:mo=.dead∨h'.get? a=h.get? a):qY T prog w h' φ' μ' a mo :=
 @MO.casesOn (λ mo=>qY T prog w h φ μ a mo->(mo=.dead∨h'.get? a=h.get? a)->qY T prog w h' φ' μ' a mo) mo
  (λ _ x e=>Eeea x λ vs n ho r=>⟨vs,n,(Y2 e rfl).trans ho,r.mono k⟩)
  (λ _ x e=>⟨x.1,Eea x.2 λ kvs p q=>⟨kvs,DictOf.eqAt p (Y2 e rfl),q.mono k m⟩⟩)
  (λ _ x e=>⟨x.1,Eea x.2 λ kvs p q=>⟨kvs,DictOf.eqAt p (Y2 e rfl),q.mono k m⟩⟩)
  (λ _ x e=>Eeea x λ ds n ho r=>⟨ds,n,(Y2 e rfl).trans ho,r.mono k m⟩)
  (λ _ x e=>⟨x.1,Eea x.2 λ xs p q=>⟨xs,Eeeea p λ o ds ep ho r=>⟨o,ds,ep,(Y2 e rfl).trans ho,r⟩,q.mono k m⟩⟩)
  (λ _ _ x e=>⟨x.1,Eea x.2 λ d h1 h2=>⟨d,m _ _ h1,(Y2 e rfl).trans h2⟩⟩)
  (λ _ _=>trivial) x e
theorem Q1 {α:Type}{l:List α}{i:Nat}{a:α}(e:l[i]?=some a):a∈l:=List.mem_iff_getElem?.mpr ⟨i,e⟩
theorem Qh {α:Type}{l:List α}{i:Nat}{a:α}(e:l[i]?=some a):i<l.length:=(List.getElem?_eq_some_iff.mp e).1
theorem XB {α:Type}{l:List α}{x:α}{i:Nat}{a:α}(e:l[i]?=some a):(l++[x])[i]?=some a:=(List.getElem?_append_left (Qh e)).trans e
theorem qF {α:Type}{x:α}(l:List α):∀ {i:Nat} {a:α},(l++[x])[i]?=some a->l[i]?=some a∨(i=l.length/\a=x) :=
 @List.rec α (λ l=>∀ {i:Nat} {a:α},(l++[x])[i]?=some a->l[i]?=some a∨(i=l.length/\a=x)) (λ {i _}=>@Nat.casesOn (λ i=>[x][i]?=some _->([]:List α)[i]?=some _∨(i=0/\_=x)) i (λ e=>.inr ⟨rfl,(so e).symm⟩) λ _ e=>nn e)
  (λ b l ih {i _}=>@Nat.casesOn (λ i=>(b::l++[x])[i]?=some _->(b::l)[i]?=some _∨(i=l.length + 1/\_=x)) i (λ e=>.inl e) λ _ e=>(ih e).imp id λ q=>⟨congrArg (· + 1) q.1,q.2⟩) l
theorem zFC {α:Type}{o:Option α}{a:α}{P:Prop}(e:o=some a)(n:o=none):P:=nn (n.symm.trans e)
theorem zAu {α:Type}{l:List α}{i j:Nat}{x a:α}(e:(l.set i x)[j]?=some a):(i=j/\a=x)∨(i≠j/\l[j]?=some a):=by
 by_cases h:i=j
 ·subst h
  have hl:i<l.length:=by have:=Qh e;rw [List.length_set] at this;exact this
  rw [List.getElem?_set_self hl] at e
  exact .inl ⟨rfl,(so e).symm⟩
 ·rw [List.getElem?_set_ne h] at e;exact .inr ⟨h,e⟩
theorem Rel.grow {h':Heap}(R:Rel C T s.heap φ μ σ)(k:∀ b o,s.heap.get? b=some o->h'.get? b=some o):Rel C T h' φ μ σ/\Ext s.heap φ μ h' φ μ []:=by
 have kf:∀ a,φ a->φ a/\h'.get? a=s.heap.get? a:=λ a f=>⟨f,by refine Ee (R.frz a f) λ o e=>?_;refine rwE e ?_;exact k a o e⟩
 have X:Ext s.heap φ μ h' φ μ []:=⟨kf,λ a f=>.inl f,λ _ _ e=>e,λ _ _ e=>.inl e,λ b o e=>⟨o,k b o e⟩,λ b o e _ _=>(k b o e)▸Kept.refl _⟩
 refine ⟨⟨λ b o e=>k b o (R.keep b o e),R.base,λ a f=>let ⟨o,e⟩:=R.frz a f;⟨o,k a o e⟩,R.len,R.nodup,λ i a e=>let ⟨o,e'⟩:=R.lt i a e;⟨o,k a o e'⟩,R.apart,λ i a mo e e'=>?_⟩,X⟩
 refine Ee (R.lt i a e) λ o eo=>?_
 exact Zb (R.at_ i a mo e e') kf (λ _ _ e=>e) (.inr ((k a o eo).trans eo.symm))
theorem Rel.more {D:Addr}{o:Obj}{h:Heap}(R:Rel C T h φ μ σ)(hD:h.get? D=some o)(hm:D∉μ):Rel C T h (λ a=>φ a∨a=D) μ σ:=by
 have kf:∀ a,φ a->(φ a∨a=D)/\h.get? a=h.get? a:=λ a f=>⟨.inl f,rfl⟩
 refine ⟨R.keep,λ b o e=>.inl (R.base b o e),λ a f=>f.elim (R.frz a) λ e=>⟨o,e▸hD⟩,R.len,R.nodup,R.lt,λ i a e f=>f.elim (R.apart i a e) λ q=>absurd (List.mem_iff_getElem?.mpr ⟨i,q▸e⟩) hm,λ i a mo e e'=>?_⟩
 exact Zb (R.at_ i a mo e e') kf (λ _ _ e=>e) (.inr rfl)
theorem Rel.newF {D:Addr}{o:Obj}{h':Heap}(R:Rel C T s.heap φ μ σ)(k:∀ b o,s.heap.get? b=some o->h'.get? b=some o)(hD:s.heap.get? D=none)(hD':h'.get? D=some o) :
  Rel C T h' (λ a=>φ a∨a=D) μ σ/\Ext s.heap φ μ h' (λ a=>φ a∨a=D) μ []:=by
 refine Ea (R.grow k) λ R' X=>?_
 refine ⟨R'.more hD' (R.notin_none hD),⟨λ a f=>⟨.inl f,(X.frz a f).2⟩,λ a f=>f.elim .inl λ e=>.inr (.inl (e▸hD)),X.pre,X.fresh,X.ex,X.oth⟩⟩
theorem Rel.pushF (R:Rel C T s.heap φ μ σ)(o:Obj)(hf:o.isFreed=false):Rel C T (s.heap.push o) (λ a=>φ a∨a=s.heap.objs.size) μ σ /\
  Ext s.heap φ μ (s.heap.push o) (λ a=>φ a∨a=s.heap.objs.size) μ []/\(s.heap.push o).get? s.heap.objs.size=some o:=by
 have g:=Heap.get?_push_size s.heap hf
 refine Ea (R.newF (λ b o' e=>Heap.get?_push_of_some o e) (zi _) g) λ R' X=>?_
 exact ⟨R',X,g⟩
theorem Rel.newM {D:Addr}{h':Heap}(R:Rel C T s.heap φ μ σ)(k:∀ b o,s.heap.get? b=some o->h'.get? b=some o)(hD:s.heap.get? D=none)(o:Obj)(hD':h'.get? D=some o)(mo:MO)
  (hm:(∀ a,φ a->φ a/\h'.get? a=s.heap.get? a)->qY T C.prog C.w h' φ (μ++[D]) D mo) :
  Rel C T h' φ (μ++[D]) (σ++[mo])/\Ext s.heap φ μ h' φ (μ++[D]) []/\(μ++[D])[σ.length]?=some D:=by
 refine Ea (R.grow k) λ R' X'=>?_
 have nm:=R.notin_none hD
 have X:Ext s.heap φ μ h' φ (μ++[D]) []:=⟨X'.frz,λ _ f=>.inl f,λ _ _ e=>XB e,λ i a e=>(qF μ e).imp id λ (q:i=μ.length/\a=D)=>q.2▸hD,X'.ex,X'.oth⟩
 refine ⟨⟨R'.keep,R'.base,R'.frz,?_,λ i j a ei ej=>?_,λ i a e=>?_,λ i a e f=>?_,λ i a mo' e e'=>?_⟩,X,R.len▸List.getElem?_concat_length⟩
 ·(refine rwE List.length_append ?_;refine rwE List.length_append ?_;refine rwE R.len ?_);rfl
 ·exact (qF μ ei).elim (λ h=>(qF μ ej).elim (λ h'=>R.nodup i j a h h') λ h'=>absurd (h'.2▸Q1 h) nm) λ h=>(qF μ ej).elim (λ h'=>absurd (h.2▸Q1 h') nm) λ h'=>h.1.trans h'.1.symm
 ·exact (qF μ e).elim (λ h=>R'.lt i a h) λ h=>⟨o,h.2▸hD'⟩
 ·exact (qF μ e).elim (λ h=>XB (R.apart i a h f)) λ h=>absurd (h.2▸f) (R.notfrz_none hD)
 ·refine (qF μ e).elim (λ h=>?_) λ h=>?_
  ·refine (qF σ e').elim (λ e'=>Ee (R.lt i a h) λ o2 e2=>Zb (R.at_ i a mo' h e') X'.frz X.pre (.inr ((k a o2 e2).trans e2.symm))) λ q=>absurd (Qh h) (Nat.not_lt_of_le (R.len▸q.1▸Nat.le_refl _))
  ·refine (qF σ e').elim (λ e'=>absurd (Qh e') (Nat.not_lt_of_le (R.len▸h.1▸Nat.le_refl _))) λ q=>?_
   (refine rwE h.2 ?_;refine rwE q.2 ?_);exact hm X'.frz
theorem Rel.pushM (R:Rel C T s.heap φ μ σ)(o:Obj)(mo:MO)(hf:o.isFreed=false)(hm:∀ h',h'.get? s.heap.objs.size=some o->(∀ a,φ a->φ a/\h'.get? a=s.heap.get? a)->qY T C.prog C.w h' φ (μ++[s.heap.objs.size]) s.heap.objs.size mo) :
  Rel C T (s.heap.push o) φ (μ++[s.heap.objs.size]) (σ++[mo])/\Ext s.heap φ μ (s.heap.push o) φ (μ++[s.heap.objs.size]) []/\(μ++[s.heap.objs.size])[σ.length]?=some s.heap.objs.size:=by
 have g:=Heap.get?_push_size s.heap hf
 exact R.newM (λ b o' e=>Heap.get?_push_of_some o e) (zi _) o g mo (hm _ g)
theorem Rel.upd {i:Nat}{a:Addr}{mo mo':MO}{h':Heap}(R:Rel C T s.heap φ μ σ)(ha:μ[i]?=some a)(hi:σ[i]?=some mo)(hd:mo≠.dead)(hs:Heap.SameBut a s.heap h')(hx:∃ o,h'.get? a=some o)
  (hm:(∀ a,φ a->φ a/\h'.get? a=s.heap.get? a)->qY T C.prog C.w h' φ μ a mo'):Rel C T h' φ μ (σ.set i mo')/\Ext s.heap φ μ h' φ μ []:=by
 have na:¬ φ a:=λ f=>hd (so (hi.symm.trans (R.apart i a ha f)))
 have k:∀ b,φ b->φ b/\h'.get? b=s.heap.get? b:=λ b f=>⟨f,hs.2 b λ e=>na (e▸f)⟩
 have ex:∀ b o,s.heap.get? b=some o->∃ o',h'.get? b=some o':=λ b o e=>(Decidable.em (b=a)).elim (λ q=>q▸hx) λ q=>⟨o,(hs.2 b q).trans e⟩
 refine ⟨⟨λ b o e=>(hs.2 b λ q=>na (q▸R.base b o e)).trans (R.keep b o e),R.base,λ b f=>Ee (R.frz b f) λ o e=>ex b o e,by refine rwE List.length_set ?_;exact R.len,R.nodup,
  λ j b e=>Ee (R.lt j b e) λ o e'=>ex b o e',λ j b e f=>?_,λ j b mo'' e e'=>?_⟩,⟨k,λ _ f=>.inl f,λ _ _ e=>e,λ _ _ e=>.inl e,ex,λ b o e nb _=>.inl ((hs.2 b λ q=>nb (q▸Q1 ha)).trans e)⟩⟩
 ·exact (List.getElem?_set_ne λ (h:i=j)=>na (so (ha.symm.trans (h▸e))▸f)).trans (R.apart j b e f)
 ·refine (zAu e').elim (λ (q:i=j/\mo''=mo')=>?_) λ q=>Zb (R.at_ j b mo'' e q.2) k (λ _ _ e=>e) (.inr (hs.2 b λ x=>q.1 (R.nodup i j a ha (x▸e))))
  (refine rwE q.2 ?_;refine rwE (so ((show μ[i]?=some b from q.1.symm▸e).symm.trans ha)) ?_)
  exact hm k
theorem Rel.freeze {i:Nat}{a:Addr}{xs:List PyData}(R:Rel C T s.heap φ μ σ)(ha:μ[i]?=some a)(hi:σ[i]?=some (.lst xs)) :
  Rel C T s.heap (λ b=>φ b∨b=a) μ (σ.set i .dead)/\Ext s.heap φ μ s.heap (λ b=>φ b∨b=a) μ []/\VP s.heap (λ b=>φ b∨b=a) (.ref a) (.list xs):=by
 have k:∀ b,φ b->(φ b∨b=a)/\s.heap.get? b=s.heap.get? b:=λ b f=>⟨.inl f,rfl⟩
 refine Eeea (R.at_ i a _ ha hi) λ vs n ho hp=>?_
 refine ⟨⟨R.keep,λ b o e=>.inl (R.base b o e),λ b f=>f.elim (R.frz b) λ e=>e▸R.lt i a ha,by refine rwE List.length_set ?_;exact R.len,R.nodup,R.lt,λ j b e f=>?_,λ j b mo'' e e'=>?_⟩,
  ⟨k,λ b f=>f.elim .inl λ e=>.inr (.inr (e▸Q1 ha)),λ _ _ e=>e,λ _ _ e=>.inl e,λ b o e=>⟨o,e⟩,λ b o e _ _=>.inl e⟩,.lst (.inr rfl) ⟨_,ho,rfl,_,rfl⟩ (hp.mono k)⟩
 ·refine (Decidable.em (i=j)).elim (λ q=>q▸List.getElem?_set_self (Qh hi)) λ q=>(List.getElem?_set_ne q).trans (f.elim (R.apart j b e) λ x=>absurd (R.nodup i j b (x▸ha) e) q)
 ·exact (zAu e').elim (λ (q:i=j/\mo''=.dead)=>q.2▸trivial) λ q=>Zb (R.at_ j b mo'' e q.2) k (λ _ _ e=>e) (.inr rfl)
end
noncomputable def NoE:Value->Shared->Prop:=λ _ _=>False
noncomputable def PV (C:Cx)(T:Tabs)(F:Fm)(s:Shared)(φ:Addr->Prop)(μ:List Addr)(ρ:Rho)(Q:D->zA->Prop):Value->Shared->Prop:=λ v s' =>
 ∃ φ' μ' d σ',Go C T F s φ μ s' φ' μ' ρ σ'/\VD s'.heap φ' μ' v d/\Q d σ'
noncomputable def PVs (C:Cx)(T:Tabs)(F:Fm)(s:Shared)(φ:Addr->Prop)(μ:List Addr)(ρ:Rho)(Q:List D->zA->Prop):List Value->Shared->Prop:=λ vs s' =>
 ∃ φ' μ' ds σ',Go C T F s φ μ s' φ' μ' ρ σ'/\VDs s'.heap φ' μ' vs ds/\Q ds σ'
noncomputable def PB (C:Cx)(T:Tabs)(F:Fm)(s:Shared)(φ:Addr->Prop)(μ:List Addr)(ρ:Rho)(K:Bool->zA->Prop):Bool->Shared->Prop:=λ b s' =>
 ∃ φ' μ' σ',Go C T F s φ μ s' φ' μ' ρ σ'/\K b σ'
section
variable {C:Cx}{T:Tabs}{F:Fm}{s s':Shared}{φ φ':Addr->Prop}{μ μ':List Addr}{ρ ρ':Rho}{σ σ':zA}{A:Around}
theorem PV.up {Q:D->zA->Prop}{ρ₁:Rho}{v:Value}{s'':Shared}(G:Go C T F s φ μ s' φ' μ' ρ₁ σ')(h:PV C T F s' φ' μ' ρ Q v s''):PV C T F s φ μ ρ Q v s'':=by
 (refine Eeeeeaa (h) λ φ₂ μ₂ d σ₂ G₂ V q=>?_;try clear h)
 exact ⟨φ₂,μ₂,d,σ₂,G.trans G₂,V,q⟩
theorem PVs.up {Q:List D->zA->Prop}{ρ₁:Rho}{v:List Value}{s'':Shared}(G:Go C T F s φ μ s' φ' μ' ρ₁ σ')(h:PVs C T F s' φ' μ' ρ Q v s''):PVs C T F s φ μ ρ Q v s'':=by
 (refine Eeeeeaa (h) λ φ₂ μ₂ d σ₂ G₂ V q=>?_;try clear h)
 exact ⟨φ₂,μ₂,d,σ₂,G.trans G₂,V,q⟩
theorem PB.up {Q:Bool->zA->Prop}{ρ₁:Rho}{v:Bool}{s'':Shared}(G:Go C T F s φ μ s' φ' μ' ρ₁ σ')(h:PB C T F s' φ' μ' ρ Q v s''):PB C T F s φ μ ρ Q v s'':=by
 (refine Eeeea (h) λ φ₂ μ₂ σ₂ G₂ q=>?_;try clear h)
 exact ⟨φ₂,μ₂,σ₂,G.trans G₂,q⟩
noncomputable def DX (C:Cx)(T:Tabs)(F:Fm)(A:Around)(t:Sem Value)(ρ:Rho)(σ:zA)(Q:D->zA->Prop):Prop :=
 ∀ (s:Shared) (φ:Addr->Prop) (μ:List Addr),Rel C T s.heap φ μ σ->FrI F s.heap φ μ ρ->wpAny (model C.prog C.w) A t (PV C T F s φ μ ρ Q) NoE s
noncomputable def DXs (C:Cx)(T:Tabs)(F:Fm)(A:Around)(t:Sem (List Value))(ρ:Rho)(σ:zA)(Q:List D->zA->Prop):Prop :=
 ∀ (s:Shared) (φ:Addr->Prop) (μ:List Addr),Rel C T s.heap φ μ σ->FrI F s.heap φ μ ρ->wpAny (model C.prog C.w) A t (PVs C T F s φ μ ρ Q) NoE s
noncomputable def DB (C:Cx)(T:Tabs)(F:Fm)(A:Around)(t:Sem Bool)(ρ:Rho)(σ:zA)(K:Bool->zA->Prop):Prop :=
 ∀ (s:Shared) (φ:Addr->Prop) (μ:List Addr),Rel C T s.heap φ μ σ->FrI F s.heap φ μ ρ->wpAny (model C.prog C.w) A t (PB C T F s φ μ ρ K) NoE s
theorem DX.seq {t:Sem Value}{W:D->zA->Prop}{E:Value->Shared->Prop}{X:Value->Shared->Prop}(hx:DX C T F A t ρ σ W)(R:Rel C T s.heap φ μ σ)(I:FrI F s.heap φ μ ρ)
  (k:∀ s' φ' μ' v d σ',Go C T F s φ μ s' φ' μ' ρ σ'->VD s'.heap φ' μ' v d->W d σ'->X v s'):wpAny (model C.prog C.w) A t X E s :=
 wpAny_mono (hx s φ μ R I) (λ v s' h=>Eeeeeaa h λ φ' μ' d σ' G V q=>k s' φ' μ' v d σ' G V q) λ _ _ e=>False.elim e
theorem DXs.seq {t:Sem (List Value)}{W:List D->zA->Prop}{E:Value->Shared->Prop}{X:List Value->Shared->Prop}(hx:DXs C T F A t ρ σ W)(R:Rel C T s.heap φ μ σ)(I:FrI F s.heap φ μ ρ)
  (k:∀ s' φ' μ' v d σ',Go C T F s φ μ s' φ' μ' ρ σ'->VDs s'.heap φ' μ' v d->W d σ'->X v s'):wpAny (model C.prog C.w) A t X E s :=
 wpAny_mono (hx s φ μ R I) (λ v s' h=>Eeeeeaa h λ φ' μ' d σ' G V q=>k s' φ' μ' v d σ' G V q) λ _ _ e=>False.elim e
theorem DB.seq {t:Sem Bool}{W:Bool->zA->Prop}{E:Value->Shared->Prop}{X:Bool->Shared->Prop}(hx:DB C T F A t ρ σ W)(R:Rel C T s.heap φ μ σ)(I:FrI F s.heap φ μ ρ)
  (k:∀ s' φ' μ' b σ',Go C T F s φ μ s' φ' μ' ρ σ'->W b σ'->X b s'):wpAny (model C.prog C.w) A t X E s :=
 wpAny_mono (hx s φ μ R I) (λ b s' h=>Eeeea h λ φ' μ' σ' G q=>k s' φ' μ' b σ' G q) λ _ _ e=>False.elim e
theorem zc {Q:D->zA->Prop}{v:Value}{d:D}(R:Rel C T s.heap φ μ σ)(I:FrI F s.heap φ μ ρ)(V:VD s.heap φ μ v d)(q:Q d σ)(tk:Nat) :
  PV C T F s φ μ ρ Q v {s with toks:=tk}:=⟨φ,μ,d,σ,(Go.refl R I).tok tk,V,q⟩
theorem zx {Q:D->zA->Prop}{v:Value}{d:D}(R:Rel C T s.heap φ μ σ)(I:FrI F s.heap φ μ ρ)(V:VD s.heap φ μ v d)(q:Q d σ) :
  PV C T F s φ μ ρ Q v s:=⟨φ,μ,d,σ,Go.refl R I,V,q⟩
theorem Go.of_rel {h':Heap}{tk:Nat}(I:FrI F s.heap φ μ ρ)(x:Rel C T h' φ' μ' σ'/\Ext s.heap φ μ h' φ' μ' []) :
  Go C T F s φ μ {s with heap:=h',toks:=tk} φ' μ' ρ σ':=Go.of_ext I x.1 x.2
theorem qJ {h:Heap}:∀ {vs:List Value} {ds:List D} {xs:List PyData},VDs h φ μ vs ds->qx ds=some xs->VPs h φ vs xs
 | _,[],_,V,e=>by cases V.inil;cases so e;exact .nil
 | _,_::_,_,V₀,e=>by
  (refine Eeeaa (V₀.icons) λ v w q4q=>?_;obtain rfl:=q4q;intro V W)
  refine Eea (ob e) λ x e1 e3=>?_
  refine Eea (ob e3) λ ys e2 e4=>?_
  cases Xm e1
  cases so e4
  exact .cons V.ip (qJ W e2)
theorem ZX {h:Heap}:∀ {vs:List Value} {ds:List D},VDs h φ μ vs ds->vs.length=ds.length
 | _,[],V=>by cases V.inil;rfl
 | _,_::_,V₀=>by (refine Eeeaa (V₀.icons) λ v w q8q=>?_;obtain rfl:=q8q;intro V W);exact congrArg (· + 1) (ZX W)
theorem v8 {h:Heap}{a:Addr}{vs:List Value}{ds:List D}(f:φ a)(t:Tup h a vs.toArray)(V:VDs h φ μ vs ds):VD h φ μ (.ref a) (Yx ds):=by
 show VD h φ μ (.ref a) (jf ds (qx ds))
 cases e:qx ds with
 | some xs=>exact .p (.tup f t (qJ V e))
 | none=>exact .tup f t V
theorem WD {Q:D->zA->Prop}{vs:List Value}{ds:List D}(R:Rel C T s.heap φ μ σ)(I:FrI F s.heap φ μ ρ)(V:VDs s.heap φ μ vs ds)(hn:vs.length<=sizeLine)(q:Q (Yx ds) σ) :
  wpAny (model C.prog C.w) A (newTuple vs) (PV C T F s φ μ ρ Q) NoE s:=by
 refine Eaa (R.pushF {cls:=.type "tuple",data:=.seq vs.toArray} rfl) λ R' X g=>?_
 refine wpAny_newObj_type ?_ (by show vs.toArray.size<=sizeLine;refine rwE List.size_toArray ?_;exact hn)
 exact ⟨_,μ,Yx ds,σ,Go.of_ext (tk:=s.toks) I R' X,v8 (.inr rfl) (Tup.new g) (X.vds V),q⟩
theorem vF {Q:D->zA->Prop}{vs:List Value}{xs:List PyData}(R:Rel C T s.heap φ μ σ)(I:FrI F s.heap φ μ ρ)(V:VPs s.heap φ vs xs)(hn:vs.length<=sizeLine)(q:Q (.p (.list xs)) σ) :
  wpAny (model C.prog C.w) A (newList vs) (PV C T F s φ μ ρ Q) NoE s:=by
 refine Eaa (R.pushF {cls:=.type "list",data:=.seq vs.toArray} rfl) λ R' X g=>?_
 refine wpAny_newObj_type ?_ (by show vs.toArray.size<=sizeLine;refine rwE List.size_toArray ?_;exact hn)
 exact ⟨_,μ,_,σ,Go.of_ext (tk:=s.toks) I R' X,.p (.lst (.inr rfl) ⟨_,g,rfl,_,rfl⟩ (X.vps V)),q⟩
theorem WS {Q:D->zA->Prop}{vs:List Value}{xs:List PyData}(R:Rel C T s.heap φ μ σ)(I:FrI F s.heap φ μ ρ)(V:VPs s.heap φ vs xs)(hn:vs.length<=sizeLine)
  (q:Q (.obj σ.length) (σ++[.lst xs])):wpAny (model C.prog C.w) A (newList vs) (PV C T F s φ μ ρ Q) NoE s:=by
 refine Eaa (R.pushM {cls:=.type "list",data:=.seq vs.toArray} (.lst xs) rfl λ h' e k=>⟨vs,_,e,V.mono k⟩) λ R' X g=>?_
 refine wpAny_newObj_type ?_ (by show vs.toArray.size<=sizeLine;refine rwE List.size_toArray ?_;exact hn)
 exact ⟨_,_,_,_,Go.of_ext (tk:=s.toks) I R' X,.obj g,q⟩
theorem OptV.iis {h:Heap}{o:Option Value}{d:D}(x:OptV h φ μ o (some (some d))):∃ v,o=some v/\VD h φ μ v d:=by cases x with | is V=>exact ⟨_,rfl,V⟩
theorem zBL {Q:D->zA->Prop}{i:Nat}{x:Str}{k:NameKind}{pos:Pos}{d:D}(R:Rel C T s.heap φ μ σ)(I:FrI F s.heap φ μ ρ)(hk:F.ks[i]?=some (x,k))(ha:k=.local∨k=.cell∨k=.free)
  (hd:ρ[i]?=some (some d)) (hx:(x==("__debug__":Str))=false) (hc:(x==("__classdict__":Str))=false) (q:Q d σ) :
  wpAny (model C.prog C.w) A (eval (.Name x pos) F.env) (PV C T F s φ μ ρ Q) NoE s:=by
 rcases ha with rfl | ha
 ·refine Eea (I.loc) λ m hn hm=>?_
  refine Ea (hm i x hk) λ h1 h2=>?_
  rw [hd] at h2
  refine Eea (h2.iis) λ v hv V=>?_
  exact wpAny_Name (wpAny_loadName_local I.kind h1 hn hv (zx R I V q)) hx
 ·obtain ⟨h1,c,v,h2,h3,h4,_⟩:=I.cell i x k hk ha
  rw [hd] at h4
  (refine Eea (h4.iis) λ v q17q=>?_;obtain rfl:=q17q;intro V)
  rcases h1 with h1 | ⟨_,h1⟩
  ·exact wpAny_Name (wpAny_loadName_cell I.kind h1 h2 h3 (zx R I V q)) hx
  ·exact wpAny_Name (wpAny_loadName_free I.kind h1 h2 h3 (zx R I V q) hc) hx
noncomputable def j8 (C:Cx)(x:Str)(d:D):Prop:=∃ v,(C.mg x=some v∨(C.mg x=none/\C.mb x=some v))/\(∀ (h:Heap) (φ:Addr->Prop) (μ:List Addr),(∀ b o,C.h₀.get? b=some o->h.get? b=some o)->(∀ b o,C.h₀.get? b=some o->φ b)->VD h φ μ v d)
structure Cx.Good (C:Cx):Prop where
 X:C.K.In C.h₀
 g:C.h₀.Ns mainGlobals C.mg
 b:C.h₀.Ns builtinsNs C.mb
 lim:C.h₀.NoLimit
theorem xx {X:Value->Shared->Prop}{E:Value->Shared->Prop}{x:Str}{pos:Pos}{d:D}(Y:C.Good)(R:Rel C T s.heap φ μ σ)(I:FrI F s.heap φ μ ρ)(hk:F.env.kindOf x=some .globalImplicit)(hg:j8 C x d)
  (hx:(x==("__debug__":Str))=false) (q:∀ v,VD s.heap φ μ v d->X v s):wpAny (model C.prog C.w) A (eval (.Name x pos) F.env) X E s:=by
 (refine Eea (hg) λ v hv V=>?_;try clear hg)
 have n1:s.heap.Ns F.env.globals C.mg:=by refine rwE I.glob ?_;exact Y.g.keeps R.keep
 have n2:s.heap.Ns F.env.builtins C.mb:=by refine rwE I.blt ?_;exact Y.b.keeps R.keep
 have q:=q v (V _ _ _ R.keep R.base)
 rcases hv with hv | ⟨hm,hv⟩
 ·exact Name_function_global I.kind hk (loadGlobal_global n1 hv q) hx
 ·exact Name_function_global I.kind hk (loadGlobal_builtin n1 hm n2 hv q) hx
theorem Jg {Q:D->zA->Prop}{x:Str}{pos:Pos}{d:D}(Y:C.Good)(R:Rel C T s.heap φ μ σ)(I:FrI F s.heap φ μ ρ)(hk:F.env.kindOf x=some .globalImplicit)(hg:j8 C x d)
  (hx:(x==("__debug__":Str))=false) (q:Q d σ):wpAny (model C.prog C.w) A (eval (.Name x pos) F.env) (PV C T F s φ μ ρ Q) NoE s :=
 xx Y R I hk hg hx λ _ V=>zx R I V q
noncomputable def wM:Const->Option PyData
 | .none=>some .none
 | .bool b=>some (.bool b)
 | .int i=>some (.int i)
 | .str x=>gd (PyData.strOk x) (some (.str x))
 | _=>none
theorem Vy {Q:D->zA->Prop}{c:Const}{k:Nat}{pos:Pos}{x:PyData}(R:Rel C T s.heap φ μ σ)(I:FrI F s.heap φ μ ρ)(h:wM c=some x)(q:Q (.p x) σ) :
  wpAny (model C.prog C.w) A (eval (.Constant c k pos) F.env) (PV C T F s φ μ ρ Q) NoE s:=by
 cases c with
 | none=>cases so h;exact wpAny_Constant_none (zx R I (.p .none) q)
 | bool b=>cases so h;exact wpAny_Constant_bool (zx R I (.p (.bool _)) q)
 | int i=>cases so h;exact wpAny_Constant_int (zc R I (.p (.int _ _)) q _)
 | str y=>refine Ea (og h) λ o h'=>?_;cases so h';exact wpAny_Constant_str (zc R I (.p (.str _ _ o)) q _)
 | _=>exact nn h
end
end Mine
namespace Mine
open PySem PySem.Calls PyProof.Rows PySem.W PySem.SeqAt
set_option tactic.hygienic false
section
variable {C:Cx}{T:Tabs}{F:Fm}{s s':Shared}{φ φ':Addr->Prop}{μ μ':List Addr}{ρ ρ':Rho}{σ σ':zA}{A:Around}{n:Nat}
theorem y2 (R:Rel C T s.heap φ μ σ){i:Nat}{a:Addr}{xs:List PyData}(m:μ[i]?=some a)(h:σ[i]?.bind z0=some xs):∃ vs k,s.heap.get? a=some (listOf vs.toArray k)/\VPs s.heap φ vs xs:=R.at_ i a _ m (QY h)
mutual
theorem Qj (R:Rel C T s.heap φ μ σ):∀ (d:D) {v:Value} {x:PyData},VD s.heap φ μ v d->qI σ d=some x->(∃ as,Reads s.heap v x as)/\x.canLay0=true
 | .p y,v,x,V,e=>by cases so e;exact ⟨V.ip.reads,V.ip.canLay⟩
 | .obj i,v,x,V,e=>by
  (refine Eea (V.iobj) λ a q1q=>?_;obtain rfl:=q1q;intro ha)
  refine Eea (ob e) λ xs hi e1=>?_
  cases so e1
  refine Eeea (y2 R ha hi) λ vs k ho hp=>?_
  refine Ee (hp.reads) λ as r=>?_
  exact ⟨⟨_,.list ho rfl rfl r⟩,hp.canLay⟩
 | .tup ds,v,x,V,e=>by
  (refine Eeeaaa (V.itup) λ a vs q6q=>?_;obtain rfl:=q6q;intro f ht r)
  refine Eea (ob e) λ xs hxs e1=>?_
  cases so e1
  (refine Ea (derefs_reads R ds r hxs) λ q9q=>?_;(refine Ee (q9q) λ as q=>?_;try clear q9q);intro c)
  obtain ⟨o,ho,hc,k,hd⟩:=ht.t
  exact ⟨⟨as,.tuple ho hc hd q⟩,c⟩
 | .fn _,_,_,_,e=>nn e
 | .bi _,_,_,_,e=>nn e
 | .rng _ _,_,_,_,e=>nn e
 | .zp _ _ _ _,_,_,_,e=>nn e
theorem derefs_reads (R:Rel C T s.heap φ μ σ):∀ (ds:List D) {vs:List Value} {xs:List PyData},VDs s.heap φ μ vs ds->derefs σ ds=some xs->(∃ as,ReadsAll s.heap vs xs as)/\PyData.canLayAll0 xs=true
 | [],vs,xs,V,e=>by
  cases V.inil;cases so e
  exact ⟨⟨_,.nil⟩,rfl⟩
 | d::ds,vs,xs,V,e=>by
  (refine Eeeaa (V.icons) λ v w q13q=>?_;obtain rfl:=q13q;intro p r)
  refine Eea (ob e) λ x hx e1=>?_
  refine Eea (ob e1) λ ys hys e2=>?_
  cases so e2
  (refine Ea (Qj R d p hx) λ q17q=>?_;(refine Ee (q17q) λ as q=>?_;try clear q17q);intro c)
  (refine Ea (derefs_reads R ds r hys) λ q20q=>?_;(refine Ee (q20q) λ bs q'=>?_;try clear q20q);intro c')
  exact ⟨⟨_,.cons q q'⟩,(Bool.and_eq_true ..).mpr ⟨c,c'⟩⟩
end
theorem zBp {x y:PyData}(hA:Room n A)(h:Sh x y):A.units + min x.depth y.depth<cLine :=
 Nat.lt_of_le_of_lt (Nat.le_trans (Nat.add_le_add_left h.h _) (Nat.add_le_add (Nat.le_add_right _ (20 * n)) (of_decide_eq_true rfl:64<=400))) hA.units
theorem UI (xs:List PyData):(PyData.tuple xs).depth=PyData.depthAll xs + 1:=by simp [PyData.depth]
theorem zDL (xs:List PyData):(PyData.list xs).depth=PyData.depthAll xs + 1:=by simp [PyData.depth]
theorem QG {xs:List PyData}{y:PyData}(hA:Room n A)(h:Sh (.tuple xs) y):A.units + 1 + min (PyData.depthAll xs) y.depth<cLine :=
 Nat.lt_of_le_of_lt (Nat.le_trans (Nat.add_le_add_left (Nat.le_trans (Nat.le_min.mpr ⟨Nat.le_trans (Nat.min_le_left _ _) (Nat.le_succ _),Nat.min_le_right _ _⟩) (UI xs▸h.h)) _) (show A.units + 65<=A.units + 20 * n + 400 from Nat.add_le_add (Nat.le_add_right _ (20 * n)) (oD9 rfl))) hA.units
theorem yC {h:Heap}{v:Value}{x:PyData}{xs:List PyData}(V:VP h φ v x)(e:qg x=some xs):∃ a vs,v=.ref a/\φ a/\VPs h φ vs xs/\((x=.tuple xs/\Tup h a vs.toArray)∨(x=.list xs/\h.IsList a vs.toArray)):=by
 cases x with
 | tuple ys=>cases so e;(refine Eeeaaa (V.itup) λ a vs q23q=>?_;obtain rfl:=q23q;intro f t r);exact ⟨a,vs,rfl,f,r,.inl ⟨rfl,t⟩⟩
 | list ys=>cases so e;(refine Eeeaaa (V.ilst) λ a vs q25q=>?_;obtain rfl:=q25q;intro f t r);exact ⟨a,vs,rfl,f,r,.inr ⟨rfl,t⟩⟩
 | _=>exact nn e
theorem QX (R:Rel C T s.heap φ μ σ){d:D}{v:Value}{xs:List PyData}(V:VD s.heap φ μ v d)(e:ZA σ d=some xs) :
  ∃ a vs,v=.ref a/\(IsTup s.heap a vs.toArray∨s.heap.IsList a vs.toArray)/\VPs s.heap φ vs xs:=by
 cases d with
 | p x =>
  refine Eeeaaa (yC V.ip e) λ a vs e1 _ r h=>?_
  exact ⟨a,vs,e1,h.imp (·.2.t) (·.2),r⟩
 | obj i =>
  refine Eea (V.iobj) λ a e1 m=>?_
  refine Eeea (y2 R m e) λ vs k ho hp=>?_
  exact ⟨a,vs,e1,.inr ⟨_,ho,rfl,_,rfl⟩,hp⟩
 | _=>exact nn e
theorem Uw {v:Value}{d:D}{b:Bool}(V:VD s.heap φ μ v d)(e:isNone d=some b):(v==.none)=b:=by
 cases d with
 | p x=>cases x with
  | none=>cases V.ip.inone;exact so e
  | bool _=>cases V.ip.ibool;exact so e
  | int _=>(refine Ee (V.ip.iint) λ _ q30q=>?_;obtain rfl:=q30q);exact so e
  | str _=>(refine Eea (V.ip.istr) λ _ q32q=>?_;obtain rfl:=q32q;intro _);exact so e
  | list _=>(refine Eeea (V.ip.ilst) λ _ _ q34q=>?_;obtain rfl:=q34q;intro _);exact so e
  | tuple _=>(refine Eeea (V.ip.itup) λ _ _ q36q=>?_;obtain rfl:=q36q;intro _);exact so e
  | dict _=>exact nn e
 | obj i=>(refine Eea (V.iobj) λ _ q38q=>?_;obtain rfl:=q38q;intro _);exact so e
 | tup ds=>(refine Eeea (V.itup) λ _ _ q40q=>?_;obtain rfl:=q40q;intro _);exact so e
 | rng _ _=>(refine Eeeeea (V.irng) λ _ _ _ _ q42q=>?_;obtain rfl:=q42q;intro _);exact so e
 | _=>exact nn e
theorem uK {v:Value}{d:D}{u:Unit}(V:VD s.heap φ μ v d)(e:yD d=some u):v=.none:=by
 cases d with
 | p x=>cases x with
  | none=>exact V.ip.inone
  | _=>exact nn e
 | _=>exact nn e
theorem Wf {K:Bool->Prop}{v:Value}{a:Addr}{x:D}{y:PyData}{xs:List PyData}{vs:List Value}{bs:List Addr}(hA:Room n A)(V:VD s.heap φ μ v x)(rb:Reads s.heap (.ref a) y bs)(cb:y.canLay0=true)(hy:y=.tuple xs∨y=.list xs)(h:Xh xs x K) :
  wpAny (model C.prog C.w) A (compareOp .In v (.ref a)) (λ r s'=>∃ b,r=.bool b/\s'=s/\K b) NoE s/\wpAny (model C.prog C.w) A (compareOp .NotIn v (.ref a)) (λ r s'=>∃ b,r=.bool (!b)/\s'=s/\K b) NoE s:=by
 (refine Eeaaa (Qg V h) λ z q44q=>?_;obtain rfl:=q44q;intro V hs h)
 refine Ee (V.reads) λ as ra=>?_
 rcases hy with rfl | rfl
 ·exact ⟨in_tuple_reads rb ra cb V.canLay (QG hA hs) ⟨_,rfl,rfl,h⟩,notIn_tuple_reads rb ra cb V.canLay (QG hA hs) ⟨_,rfl,rfl,h⟩⟩
 ·exact ⟨in_list_reads rb ra cb V.canLay (QG hA hs) ⟨_,rfl,rfl,h⟩,notIn_list_reads rb ra cb V.canLay (QG hA hs) ⟨_,rfl,rfl,h⟩⟩
noncomputable def zAn (C:Cx)(A:Around)(s:Shared)(φ:Addr->Prop)(μ:List Addr)(σ:zA):Prop:=∀ (i:Nat) (es:List (Ky×D)) (k:List PyData) (q:Ky) (a b:Addr) (P:Bool->Prop),σ[i]?=some (.tdict es)->μ[i]?=some a->VP s.heap φ (.ref b) (.tuple k)->Kd (.tuple k)->keyDs k=some q->P (zo q es).isSome ->
   wpAny (model C.prog C.w) A (contains (.ref a) (.ref b)) (λ r s'=>∃ tk,s'={s with toks:=tk}/\P r) NoE s
theorem zAy {K:Bool->Prop}{v w:Value}{x y:D}(hA:Room n A)(R:Rel C T s.heap φ μ σ)(V:VD s.heap φ μ v x)(W:VD s.heap φ μ w y)(hin:zAn C A s φ μ σ)(h:un σ x y K) :
  wpAny (model C.prog C.w) A (compareOp .In v w) (λ r s'=>∃ b tk,r=.bool b/\s'={s with toks:=tk}/\K b) NoE s/\wpAny (model C.prog C.w) A (compareOp .NotIn v w) (λ r s'=>∃ b tk,r=.bool (!b)/\s'={s with toks:=tk}/\K b) NoE s:=by
 have fin:∀ {X Y:Sem Value} ,wpAny (model C.prog C.w) A X (λ r s'=>∃ b,r=.bool b/\s'=s/\K b) NoE s/\wpAny (model C.prog C.w) A Y (λ r s'=>∃ b,r=.bool (!b)/\s'=s/\K b) NoE s ->
   wpAny (model C.prog C.w) A X (λ r s'=>∃ b tk,r=.bool b/\s'={s with toks:=tk}/\K b) NoE s/\wpAny (model C.prog C.w) A Y (λ r s'=>∃ b tk,r=.bool (!b)/\s'={s with toks:=tk}/\K b) NoE s :=
  λ h=>⟨wpAny_mono h.1 (λ r s' ⟨b,e1,e2,k⟩=>⟨b,s.toks,e1,e2,k⟩) λ _ _ e=>e,wpAny_mono h.2 (λ r s' ⟨b,e1,e2,k⟩=>⟨b,s.toks,e1,e2,k⟩) λ _ _ e=>e⟩
 cases y with
 | p y =>
  refine Eea (Is.h h) λ xs e h=>?_
  refine Ee (W.ip.reads) λ bs rb=>?_
  (refine Eeeaaa (yC W.ip e) λ a vs q49q=>?_;obtain rfl:=q49q;intro _ _ hy)
  exact fin (Wf (vs:=vs) hA V rb W.ip.canLay (hy.imp (·.1) (·.1)) h)
 | obj i =>
  refine Eea (Is.h h) λ mo hi h=>?_
  (refine Eea (W.iobj) λ a q52q=>?_;obtain rfl:=q52q;intro ha)
  cases mo with
  | lst xs =>
   refine Eeea (R.at_ i a _ ha hi) λ vs k ho hp=>?_
   refine Ee (hp.reads) λ bs r=>?_
   exact fin (Wf (vs:=vs) hA V (.list ho rfl rfl r) hp.canLay (.inr rfl) h)
  | tdict es =>
   (refine Eeaaa (ju V h) λ k q56q=>?_;obtain rfl:=q56q;intro V hk h)
   refine Eea (Is.h h) λ q hq h=>?_
   (refine Eeea (V.itup) λ b vs q59q=>?_;obtain rfl:=q59q;intro _)
   exact ⟨wpAny_bind (wpAny_mono (hin _ _ _ _ _ _ K hi ha V hk hq h) (λ r s' ⟨tk,e,hr⟩=>wpAny_pure ⟨r,tk,rfl,e,hr⟩) λ _ _ e=>e),wpAny_bind (wpAny_mono (hin _ _ _ _ _ _ K hi ha V hk hq h) (λ r s' ⟨tk,e,hr⟩=>wpAny_pure ⟨r,tk,rfl,e,hr⟩) λ _ _ e=>e)⟩
  | _=>exact h.elim
 | _=>exact h.elim
theorem JH {Q:D->zA->Prop}{op:CmpOp}{v w:Value}{x y:D}(hA:Room n A)(R:Rel C T s.heap φ μ σ)(I:FrI F s.heap φ μ ρ)(V:VD s.heap φ μ v x)(W:VD s.heap φ μ w y)
  (hin:zAn C A s φ μ σ) (h:wpC op σ x y λ r=>Q (.p (.bool r)) σ):wpAny (model C.prog C.w) A (compareOp op v w) (PV C T F s φ μ ρ Q) NoE s:=by
 have fin:∀ r,Q (.p (.bool r)) σ->PV C T F s φ μ ρ Q (.bool r) s:=λ r hk=>zx R I (.p (.bool _)) hk
 have eqs:∀ {K:Bool->Prop},(Yo σ x λ a=>Yo σ y λ b=>Sh a b/\K (PyData.eqv a b))->∃ a b as bs,Reads s.heap v a as/\Reads s.heap w b bs/\a.canLay0=true/\b.canLay0=true/\A.units + min a.depth b.depth<cLine/\K (PyData.eqv a b):=λ h=>by
  refine Eea (Is.h h) λ a ea h=>?_
  refine Eeaa (Is.h h) λ b eb hs hk=>?_
  (refine Ea (Qj R x V ea) λ q63q=>?_;(refine Ee (q63q) λ as ra=>?_;try clear q63q);intro ca)
  (refine Ea (Qj R y W eb) λ q66q=>?_;(refine Ee (q66q) λ bs rb=>?_;try clear q66q);intro cb)
  exact ⟨a,b,as,bs,ra,rb,ca,cb,zBp hA hs,hk⟩
 have twoI:∀ {K:Int->Int->Prop},(onI x λ a=>onI y λ b=>K a b)->∃ a t b u,v=.int a t/\w=.int b u/\K a b:=λ h=>by
  refine Eeeaa (zy V h) λ a t _ e h=>?_
  refine Eeeaa (zy W h) λ b u _ e' h=>?_
  exact ⟨a,t,b,u,e,e',h⟩
 cases op with
 | Eq=>obtain ⟨a,b,as,bs,ra,rb,ca,cb,hr,hk⟩:=eqs (K:=λ r=>Q (.p (.bool r)) σ) h;exact compareEq_reads ra rb ca cb hr (fin _ hk)
 | NotEq=>obtain ⟨a,b,as,bs,ra,rb,ca,cb,hr,hk⟩:=eqs (K:=λ r=>Q (.p (.bool (!r))) σ) h;exact compareNe_reads ra rb ca cb hr (fin _ hk)
 | Lt=>(refine Eeeeeaa (twoI h) λ a t b u q71q=>?_;obtain rfl:=q71q;intro q72q;obtain rfl:=q72q;intro h);exact lt_int (fin _ h)
 | LtE=>(refine Eeeeeaa (twoI h) λ a t b u q74q=>?_;obtain rfl:=q74q;intro q75q;obtain rfl:=q75q;intro h);exact le_int (fin _ h)
 | Gt=>(refine Eeeeeaa (twoI h) λ a t b u q77q=>?_;obtain rfl:=q77q;intro q78q;obtain rfl:=q78q;intro h);exact gt_int (fin _ h)
 | GtE=>(refine Eeeeeaa (twoI h) λ a t b u q80q=>?_;obtain rfl:=q80q;intro q81q;obtain rfl:=q81q;intro h);exact ge_int (fin _ h)
 | Is =>
  refine Eea (Mine.Is.h h) λ u e h=>?_
  refine Eea (Mine.Is.h h) λ b e' h=>?_
  cases uK W e
  exact is_none (Uw V e'▸fin _ h)
 | IsNot =>
  refine Eea (Mine.Is.h h) λ u e h=>?_
  refine Eea (Mine.Is.h h) λ b e' h=>?_
  cases uK W e
  exact isNot_none (Uw V e'▸fin _ h)
 | In=>exact wpAny_mono (zAy hA R V W hin h).1 (λ r s' ⟨b,tk,e1,e2,k⟩=>by subst e1 e2;exact zc R I (.p (.bool _)) k tk) λ _ _ e=>e
 | NotIn=>exact wpAny_mono (zAy hA R V W hin (K:=λ b=>Q (.p (.bool (!b))) σ) h).2 (λ r s' ⟨b,tk,e1,e2,k⟩=>by subst e1 e2;exact zc R I (.p (.bool _)) k tk) λ _ _ e=>e
end
section
variable {C:Cx}{T:Tabs}{F:Fm}{s s':Shared}{φ φ':Addr->Prop}{μ μ':List Addr}{ρ ρ':Rho}{σ σ':zA}{A:Around}{n:Nat}
theorem zh {k:Nat}(h:Few k):k<=sizeLine:=by have:=h.h;refine rwE sizeLine_eq ?_;exact Nat.le_trans h (nB9 rfl)
theorem UT {i:Int}(h:Fit i):Builtin.Int.intBits i<=100000:=by
 have:=h.h
 unfold Builtin.Int.intBits
 split
 ·lia
 ·rename_i hz
  have hn:i.natAbs≠0:=by simpa using hz
  have:=(Nat.log2_lt hn).mpr this
  exact this
theorem zAC {a b:Int}(ha:Fit a)(hb:Fit b):IntMulOk a b:=by
 have h1:=UT ha
 have h2:=UT hb
 unfold IntMulOk Builtin.Int.intTooBig bitsLine
 simp only [Bool.and_eq_true,decide_eq_true_eq,not_and,Nat.not_lt]
 intro _ _
 lia
theorem Wr {a b:Int}(h:Nz b):Builtin.divisionGoesByPylong a b=false:=by
 unfold Builtin.divisionGoesByPylong
 have hl:=h.lo
 have hz:(b==0)=false:=by simpa using h.h
 simp only [hz,Bool.false_eq_true,if_false,Bool.and_eq_false_iff,decide_eq_false_iff_not]
 left
 have hn:b.natAbs≠0:=by simpa using h.h
 have:=(Nat.log2_lt hn).mpr hl
 lia
theorem UE {vs ws:List Value}{xs ys:List PyData}(r:VPs s.heap φ vs xs)(r':VPs s.heap φ ws ys)(hf:Few (xs.length + ys.length)):vs.toArray.size + ws.toArray.size<=sizeLine:=by
 (refine rwE List.size_toArray ?_;refine rwE List.size_toArray ?_;refine rwE r.length ?_;refine rwE r'.length ?_);exact zh hf
theorem xS {Q:D->zA->Prop}{t b:Addr}{vs ws:List Value}{xs ys:List PyData}(R:Rel C T s.heap φ μ σ)(I:FrI F s.heap φ μ ρ)(ht:s.heap.IsList t vs.toArray)(r:VPs s.heap φ vs xs)
  (ht':s.heap.IsList b ws.toArray) (r':VPs s.heap φ ws ys) (hf:Few (xs.length + ys.length)) (hq:Q (.p (.list (xs++ys))) σ):wpAny (model C.prog C.w) A (binaryOp .Add (.ref t) (.ref b)) (PV C T F s φ μ ρ Q) NoE s:=by
 obtain ⟨⟨cls,dd,data,sl⟩,ho,hc,n,hd⟩:=ht
 obtain ⟨⟨cls2,dd2,data2,sl2⟩,ho2,hc2,n2,hd2⟩:=ht'
 cases hc;cases hd;cases hc2;cases hd2
 refine concat_meets ⟨_,ho,rfl⟩ ⟨_,ho2,rfl⟩ noFill_list_add seq_list_add PySem.F.slot_list_add PySem.F.entry_list_add (PySem.F.args_list_add_2 _ _) (list_addW t b vs.toArray ws.toArray n n2 dd dd2 sl sl2 (UE r r' hf)) ⟨ho,ho2,?_⟩
 refine rwE (List.append_toArray ..) ?_
 refine Eaa (R.pushF {cls:=.type "list",data:=.seq (vs++ws).toArray} rfl) λ R' X g=>?_
 exact ⟨_,μ,_,σ,Go.of_ext (tk:=s.toks) I R' X,.p (.lst (.inr rfl) ⟨_,g,rfl,_,rfl⟩ ((X.vps r).append (X.vps r'))),hq⟩
theorem Xn {Q:D->zA->Prop}{v w:Value}{xs ys:List PyData}(R:Rel C T s.heap φ μ σ)(I:FrI F s.heap φ μ ρ)(V:VP s.heap φ v (.tuple xs))(W:VP s.heap φ w (.tuple ys))(hf:Few (xs.length + ys.length))(hq:Q (.p (.tuple (xs++ys))) σ) :
  wpAny (model C.prog C.w) A (binaryOp .Add v w) (PV C T F s φ μ ρ Q) NoE s:=by
 (refine Eeeaaa (V.itup) λ t vs q8q=>?_;obtain rfl:=q8q;intro f ht r)
 (refine Eeeaaa (W.itup) λ b ws q10q=>?_;obtain rfl:=q10q;intro f' ht' r')
 obtain ⟨⟨cls,dd,data,sl⟩,ho,hc,n,hd⟩:=ht.t
 obtain ⟨⟨cls2,dd2,data2,sl2⟩,ho2,hc2,n2,hd2⟩:=ht'.t
 cases hc;cases hd;cases hc2;cases hd2
 refine wpAny_binaryOp_concat ⟨_,ho,rfl⟩ ⟨_,ho2,rfl⟩ noFill_tuple_add seq_tuple_add ?_
 cases vs with
 | nil =>
  cases xs with
  | nil=>exact call_meets PySem.F.slot_tuple_add ⟨_,ho,rfl⟩ PySem.F.entry_tuple_add (PySem.F.args_tuple_add_2 _ _) (tuple_addW0 t b #[] ws.toArray n n2 dd dd2 sl sl2 rfl) ⟨ho,ho2,zx R I (.p (.tup f' ht' r')) hq⟩
  | cons _ _=>exact nomatch r
 | cons v vs=>cases ws with
  | nil =>
   cases ys with
   | nil=>exact call_meets PySem.F.slot_tuple_add ⟨_,ho,rfl⟩ PySem.F.entry_tuple_add (PySem.F.args_tuple_add_2 _ _) (tuple_addW1 t b (v::vs).toArray #[] n n2 dd dd2 sl sl2 Bool.false_ne_true rfl) ⟨ho,ho2,zx R I (.p (.tup f ht r)) (by rw [List.append_nil] at hq;exact hq)⟩
   | cons _ _=>exact nomatch r'
  | cons w ws =>
   refine call_meets PySem.F.slot_tuple_add ⟨_,ho,rfl⟩ PySem.F.entry_tuple_add (PySem.F.args_tuple_add_2 _ _) (tuple_addW2 t b (v::vs).toArray (w::ws).toArray n n2 dd dd2 sl sl2 Bool.false_ne_true Bool.false_ne_true (UE r r' hf)) ⟨ho,ho2,?_⟩
   refine rwE (List.append_toArray ..) ?_
   refine Eaa (R.pushF {cls:=.type "tuple",data:=.seq ((v::vs)++(w::ws)).toArray} rfl) λ R' X g=>?_
   exact ⟨_,μ,_,σ,Go.of_ext (tk:=s.toks) I R' X,.p (.tup (.inr rfl) (Tup.new g) ((X.vps r).append (X.vps r'))),hq⟩
theorem zCe {Q:D->zA->Prop}{op:Operator}{v w:Value}{x y:D}(R:Rel C T s.heap φ μ σ)(I:FrI F s.heap φ μ ρ)(V:VD s.heap φ μ v x)(W:VD s.heap φ μ w y)
  (h:QD σ op x y λ d=>Q d σ):wpAny (model C.prog C.w) A (binaryOp op v w) (PV C T F s φ μ ρ Q) NoE s:=by
 have twoI:∀ {K:Int->Int->Prop},(onI x λ a=>onI y λ b=>K a b)->∃ a t b u,v=.int a t/\w=.int b u/\K a b:=λ h=>by
  refine Eeeaa (zy V h) λ a t _ e h=>?_
  refine Eeeaa (zy W h) λ b u _ e' h=>?_
  exact ⟨a,t,b,u,e,e',h⟩
 have fin:∀ {i:Int} {t:Tok} {tk:Nat},Q (.p (.int i)) σ->PV C T F s φ μ ρ Q (.int i t) {s with toks:=tk}:=λ h=>zc R I (.p (.int _ _)) h _
 have lst:∀ {t:Addr} {vs:List Value} {xs:List PyData},s.heap.IsList t vs.toArray->VPs s.heap φ vs xs->yE xs y (λ d=>Q d σ)->wpAny (model C.prog C.w) A (binaryOp .Add (.ref t) w) (PV C T F s φ μ ρ Q) NoE s:=λ ht r h=>by
  refine Eeaaa (zEp W h) λ ys _ W hf h=>?_
  (refine Eeeaaa (W.ilst) λ b ws q22q=>?_;obtain rfl:=q22q;intro f' ht' r')
  exact xS R I ht r ht' r' hf h
 cases op with
 | Add =>
  cases x with
  | p x=>cases x with
   | int a=>(refine Ee (V.ip.iint) λ t q24q=>?_;obtain rfl:=q24q);(refine Eeeaa (zy W h) λ b u _ q26q=>?_;obtain rfl:=q26q;intro h);exact add_int (fin h)
   | tuple xs=>(refine Eeaaa (ju W h) λ ys q28q=>?_;obtain rfl:=q28q;intro W hf h);exact Xn R I V.ip W hf h
   | list xs=>(refine Eeeaaa (V.ip.ilst) λ t vs q30q=>?_;obtain rfl:=q30q;intro f ht r);exact lst ht r h
   | _=>exact h.elim
  | obj i =>
   refine Eea (Is.h h) λ xs e h=>?_
   (refine Eea (V.iobj) λ a q33q=>?_;obtain rfl:=q33q;intro m)
   refine Eeea (y2 R m e) λ vs k ho hp=>?_
   exact lst ⟨_,ho,rfl,_,rfl⟩ hp h
  | _=>exact h.elim
 | Sub=>(refine Eeeeeaa (twoI h) λ a t b u q36q=>?_;obtain rfl:=q36q;intro q37q;obtain rfl:=q37q;intro h);exact PyProof.Rows.sub_int (fin h)
 | Mult=>obtain ⟨a,t,b,u,rfl,rfl,h1,h2,h⟩:=twoI h;exact PyProof.Rows.mul_int (fin h) (zAC h1 h2)
 | Mod=>obtain ⟨a,t,b,u,rfl,rfl,h1,h⟩:=twoI h;exact PyProof.Rows.mod_int h1.h (fin h)
 | Pow=>obtain ⟨a,t,b,u,rfl,rfl,h1,h⟩:=twoI h;exact pow_int h1.h h1.fit (fin h)
 | FloorDiv=>obtain ⟨a,t,b,u,rfl,rfl,h1,h⟩:=twoI h;exact floordiv_int h1.h (fin h) (.inl (Wr h1))
 | _=>exact h.elim
theorem zDj {Q:D->zA->Prop}{v:Value}{x:D}(R:Rel C T s.heap φ μ σ)(I:FrI F s.heap φ μ ρ)(V:VD s.heap φ μ v x)
  (h:onI x λ i=>Q (.p (.int (-i))) σ):wpAny (model C.prog C.w) A (unaryOp .USub v) (PV C T F s φ μ ρ Q) NoE s:=by
 (refine Eeeaa (zy V h) λ a t q51q=>?_;obtain rfl:=q51q;intro q52q;obtain rfl:=q52q;intro h)
 exact neg_int (zc R I (.p (.int _ _)) h _)
theorem uN {K:Bool->zA->Prop}{v:Value}{x:D}(R:Rel C T s.heap φ μ σ)(I:FrI F s.heap φ μ ρ)(V:VD s.heap φ μ v x)
  (h:isB x λ b=>K b σ):wpAny (model C.prog C.w) A (truthy v) (PB C T F s φ μ ρ K) NoE s:=by
 (refine Eeaa (uT V h) λ b q54q=>?_;obtain rfl:=q54q;intro q55q;obtain rfl:=q55q;intro h)
 exact wpAny_truthy_bool ⟨φ,μ,σ,Go.refl R I,h⟩
theorem zCf {Q:D->zA->Prop}{v:Value}{x:D}(R:Rel C T s.heap φ μ σ)(I:FrI F s.heap φ μ ρ)(V:VD s.heap φ μ v x)
  (h:isB x λ b=>Q (.p (.bool (!b))) σ):wpAny (model C.prog C.w) A (unaryOp .Not v) (PV C T F s φ μ ρ Q) NoE s:=by
 (refine Eeaa (uT V h) λ b q57q=>?_;obtain rfl:=q57q;intro q58q;obtain rfl:=q58q;intro h)
 exact not_value (wpAny_truthy_bool (zx R I (.p (.bool _)) h))
end
theorem QU {h:Heap}{φ:Addr->Prop}:∀ {vs:List Value} {xs:List PyData} {l:List Int},VPs h φ vs xs->ints? xs=some l->IntsAre vs l
 | _,[],_,V,e=>by cases V.inil;cases so e;exact .nil
 | _,_::_,_,V₀,e=>by
  (refine Eeeaa (V₀.icons) λ v r q1q=>?_;obtain rfl:=q1q;intro V W)
  refine Eea (ob e) λ i e1 e2=>?_
  refine Eea (ob e2) λ l e3 e4=>?_
  cases JY e1
  cases so e4
  (refine Ee (V.iint) λ t q5q=>?_;obtain rfl:=q5q)
  exact .cons _ _ (QU W e3)
theorem Qy {vs:List Value}{l:List Int}(H:IntsAre vs l){i:Nat}{v:Value}(e:vs[i]?=some v):∃ t,v=.int (l.getD i 0) t:=by
 induction H generalizing i with
 | nil=>simp at e
 | cons n t _ ih =>
  cases i with
  | zero=>simp at e;subst e;exact ⟨t,by simp⟩
  | succ i=>refine Ee (ih (i:=i) (by simpa using e)) λ u hu=>?_;exact ⟨u,by simpa using hu⟩
theorem j1 {vs:List Value}{i:Nat}{v:Value}(h:vs.toArray[i]?=some v):vs[i]?=some v:=by simpa using h
theorem V4 (r:List Int):∀ a,zu a r∈a::r/\∀ x∈a::r,x<=zu a r:=by
 induction r with
 | nil=>intro a;simp [Qz,Q7]
 | cons b r ih =>
  intro a
  refine Ea (ih (if a<b then b else a)) λ h1 h2=>?_
  simp only [Qz,Q7]
  generalize hm:(if a<b then b else a)=m at h1 h2 ⊢
  have hm1:(m=a∨m=b)/\a<=m/\b<=m:=by refine rwS hm ?_;split <;> constructor <;> first | lia | simp
  have hb:=h2 _ (List.mem_cons_self)
  refine ⟨?_,λ x hx=>?_⟩
  ·rcases List.mem_cons.mp h1 with h | h
   ·refine rwE h ?_;rcases hm1.1 with e | e <;> refine rwE e ?_ <;> simp
   ·simp [h]
  ·rcases List.mem_cons.mp hx with rfl | hx
   ·exact liZ [] [_,_,_] (.v 0) (.v 1) [(1,.L (.v 2) (.v 1)),(1,.L (.v 0) (.v 2))] tT9 hb hm1.2.1
   ·rcases List.mem_cons.mp hx with rfl | hx
    ·exact liZ [] [_,_,_] (.v 0) (.v 1) [(1,.L (.v 2) (.v 1)),(1,.L (.v 0) (.v 2))] tT9 hb hm1.2.2
    ·exact h2 x (List.mem_cons_of_mem _ hx)
theorem vg (r:List Int):∀ a,ZC a r∈a::r/\∀ x∈a::r,ZC a r<=x:=by
 induction r with
 | nil=>intro a;simp [y1,YR]
 | cons b r ih =>
  intro a
  refine Ea (ih (if b<a then b else a)) λ h1 h2=>?_
  simp only [y1,YR]
  generalize hm:(if b<a then b else a)=m at h1 h2 ⊢
  have hm1:(m=a∨m=b)/\m<=a/\m<=b:=by refine rwS hm ?_;split <;> constructor <;> first | lia | simp
  have hb:=h2 _ (List.mem_cons_self)
  refine ⟨?_,λ x hx=>?_⟩
  ·rcases List.mem_cons.mp h1 with h | h
   ·refine rwE h ?_;rcases hm1.1 with e | e <;> refine rwE e ?_ <;> simp
   ·simp [h]
  ·rcases List.mem_cons.mp hx with rfl | hx
   ·exact liZ [] [_,_,_] (.v 0) (.v 1) [(1,.L (.v 0) (.v 2)),(1,.L (.v 2) (.v 1))] tT9 hb hm1.2.1
   ·rcases List.mem_cons.mp hx with rfl | hx
    ·exact liZ [] [_,_,_] (.v 0) (.v 1) [(1,.L (.v 0) (.v 2)),(1,.L (.v 2) (.v 1))] tT9 hb hm1.2.2
    ·exact h2 x (List.mem_cons_of_mem _ hx)
theorem uF {l:List Int}{i:Nat}(h:i<l.length):l.getD i 0∈l:=by
 (refine rwE List.getD_eq_getElem?_getD ?_;refine rwE (List.getElem?_eq_getElem h) ?_);simp
theorem uO {l:List Int}{x:Int}(h:x∈l):∃ i,i<l.length/\l.getD i 0=x:=by
 obtain ⟨i,hi,e⟩:=List.mem_iff_getElem.mp h
 exact ⟨i,hi,by (refine rwE List.getD_eq_getElem?_getD ?_;refine rwE (List.getElem?_eq_getElem hi) ?_);simpa using e⟩
theorem vc (a:Int)(r:List Int):(a::r).getD (argBest (λ i j=>decide ((a::r).getD i 0 > (a::r).getD j 0)) ((a::r).length - 1)) 0=zu a r:=by
 refine Ea (argBest_gt (λ i=>(a::r).getD i 0) ((a::r).length - 1)) λ h1 h2=>?_
 refine Ea (V4 r a) λ m1 m2=>?_
 generalize hk:argBest (λ i j=>decide ((a::r).getD i 0 > (a::r).getD j 0)) ((a::r).length - 1)=k at h1 h2
 have hlt:k<(a::r).length:=by simp only [List.length_cons] at h1 ⊢;exact Nat.succ_le_succ h1
 refine Int.le_antisymm (m2 _ (uF hlt)) ?_
 refine Eea (uO m1) λ i hi e=>?_
 refine rwS e ?_
 exact h2 i (Nat.le_of_lt_succ hi)
theorem vf (a:Int)(r:List Int):(a::r).getD (argBest (λ i j=>decide ((a::r).getD i 0<(a::r).getD j 0)) ((a::r).length - 1)) 0=ZC a r:=by
 refine Ea (argBest_lt (λ i=>(a::r).getD i 0) ((a::r).length - 1)) λ h1 h2=>?_
 refine Ea (vg r a) λ m1 m2=>?_
 generalize hk:argBest (λ i j=>decide ((a::r).getD i 0<(a::r).getD j 0)) ((a::r).length - 1)=k at h1 h2
 have hlt:k<(a::r).length:=by simp only [List.length_cons] at h1 ⊢;exact Nat.succ_le_succ h1
 refine Int.le_antisymm ?_ (m2 _ (uF hlt))
 refine Eea (uO m1) λ i hi e=>?_
 refine rwS e ?_
 exact h2 i (Nat.le_of_lt_succ hi)
theorem jD (l:List Int):∀ j,preSum (λ i=>l.getD i 0) j=(l.take j).sum
 | 0=>by simp [preSum]
 | j + 1=>by
  (rewrite [preSum];refine rwE (jD l j) ?_)
  by_cases h:j<l.length
  ·(refine rwE List.take_add_one ?_;refine rwE (List.getElem?_eq_getElem h) ?_;refine rwE List.sum_append ?_);simp [List.getD_eq_getElem?_getD,List.getElem?_eq_getElem h]
  ·(refine rwE (List.take_of_length_le (by exact (Nat.le_of_not_lt h))) ?_;refine rwE (List.take_of_length_le (by exact Nat.le_succ_of_le (Nat.le_of_not_lt h))) ?_;refine rwE List.getD_eq_getElem?_getD ?_;refine rwE (List.getElem?_eq_none (by exact (Nat.le_of_not_lt h))) ?_);simp
section
variable {prog:Program}{w:World}{A:Around}{E:Value->Shared->Prop}{s:Shared}
theorem jW {a:Addr}{items:Array Value}{Q:Value->Shared->Prop}(hh:A.handled=none)(ht:IsTup s.heap a items∨s.heap.IsList a items)
  (h:∀ s₂ I fp wr St,(∃ ob,s₂={s with heap:=s.heap.push ob})->Walks prog w A I fp wr items.size (λ i v=>items[i]?=some v) St->St 0 s₂.heap->(∀ b∈fp,b<s₂.heap.objs.size)->(∀ b∈wr,s.heap.get? b=none) ->
   (∀ b o,s.heap.get? b=some o->s₂.heap.get? b=some o)->Q (.ref I) s₂):wpAny (model prog w) A (pyIter (.ref a)) Q E s:=by
 have top:∀ b∈[s.heap.objs.size],s.heap.get? b=none:=λ b hb=>by
  simp at hb;subst hb;exact zi _
 rcases ht with ht | ht
 ·have hlt:a<s.heap.objs.size:=by (refine Eea (ht) λ _ e _=>?_;try clear ht);exact Heap.lt_size e
  refine wpAny_pyIter_tuple ht (h _ _ _ _ _ ⟨_,rfl⟩ (Walks.tuple hh _ a (Nat.ne_of_lt hlt) items) ⟨⟨_,Heap.get?_push_size _ rfl,rfl,rfl⟩,?_⟩ (λ b hb=>?_) top λ b o e=>Heap.get?_push_of_some _ e)
  ·(refine Eea (ht) λ o ho r=>?_;try clear ht);exact ⟨o,Heap.get?_push_of_some _ ho,r⟩
  ·show b<(s.heap.push _).objs.size
   refine rwE (Heap.size_push ..) ?_
   simp at hb
   rcases hb with rfl | rfl
   ·exact Nat.lt_succ_self _
   ·exact Nat.lt_succ_of_lt hlt
 ·have hlt:a<s.heap.objs.size:=by (refine Eea (ht) λ _ e _=>?_;try clear ht);exact Heap.lt_size e
  refine wpAny_pyIter_list ht (h _ _ _ _ _ ⟨_,rfl⟩ (Walks.list hh _ a (Nat.ne_of_lt hlt) items) ⟨⟨_,Heap.get?_push_size _ rfl,rfl,rfl⟩,?_⟩ (λ b hb=>?_) top λ b o e=>Heap.get?_push_of_some _ e)
  ·(refine Eea (ht) λ o ho r=>?_;try clear ht);exact ⟨o,Heap.get?_push_of_some _ ho,r⟩
  ·show b<(s.heap.push _).objs.size
   refine rwE (Heap.size_push ..) ?_
   simp at hb
   rcases hb with rfl | rfl
   ·exact Nat.lt_succ_self _
   ·exact Nat.lt_succ_of_lt hlt
end
section
variable {C:Cx}{T:Tabs}{F:Fm}{s s':Shared}{φ φ':Addr->Prop}{μ μ':List Addr}{ρ ρ':Rho}{σ σ':zA}{A:Around}{n:Nat}
theorem qU {Q:D->zA->Prop}{v:Value}{d:D}{h':Heap}{tk:Nat}(R:Rel C T s.heap φ μ σ)(I:FrI F s.heap φ μ ρ)(k:∀ b o,s.heap.get? b=some o->h'.get? b=some o)(V:VD s.heap φ μ v d)(q:Q d σ) :
  PV C T F s φ μ ρ Q v {s with heap:=h',toks:=tk} :=
 let ⟨R',X⟩:=R.grow k
 ⟨φ,μ,d,σ,Go.of_ext I R' X,X.vd V,q⟩
theorem Xo {h h₂ h':Heap}{wr:List Addr}(hw:∀ b∈wr,h.get? b=none)(k:∀ b o,h.get? b=some o->h₂.get? b=some o)(k':∀ b o,b∉wr->h₂.get? b=some o->h'.get? b=some o):∀ b o,h.get? b=some o->h'.get? b=some o :=
 λ b o e=>k' b o (λ m=>by rw [hw b m] at e;cases e) (k b o e)
theorem zCv {Q:D->zA->Prop}{v:Value}{d:D}{xs:List PyData}{a:Int}{r:List Int}(hA:A.handled=none)(R:Rel C T s.heap φ μ σ)(I:FrI F s.heap φ μ ρ)(V:VD s.heap φ μ v d)
  (e:ZA σ d=some xs) (hi:ints? xs=some (a::r)) (q:Q (.p (.int (zu a r))) σ):wpAny (model C.prog C.w) A (call (.builtin "max") [v]) (PV C T F s φ μ ρ Q) NoE s:=by
 (refine Eeeaa (QX R V e) λ ad vs q21q=>?_;obtain rfl:=q21q;intro hs vp)
 have H:=QU vp hi
 have hl:=H.length
 refine call_max_walk (jW (A:=A.in1) hA hs λ s₂ I₂ fp wr St he W st hfp hwr hk=>?_)
 (refine Ee (he) λ ob q23q=>?_;try clear he;obtain rfl:=q23q)
 refine ⟨I₂,fp,wr,_,_,St,_,rfl,W,st,hfp,?_,CmpOf.ints_gt (λ i=>(a::r).getD i 0) (λ i v hv=>Qy H (j1 hv)),λ v h' tk hP hk'=>?_⟩
 ·(refine rwE List.size_toArray ?_;refine rwE hl ?_);simp
 ·rw [List.size_toArray,hl] at hP
  (refine Ee (Qy H (j1 hP)) λ t q25q=>?_;obtain rfl:=q25q)
  refine rwE (vc ..) ?_
  exact qU R I (Xo hwr hk hk') (.p (.int _ _)) q
theorem zCw {Q:D->zA->Prop}{v:Value}{d:D}{xs:List PyData}{a:Int}{r:List Int}(hA:A.handled=none)(R:Rel C T s.heap φ μ σ)(I:FrI F s.heap φ μ ρ)(V:VD s.heap φ μ v d)
  (e:ZA σ d=some xs) (hi:ints? xs=some (a::r)) (q:Q (.p (.int (ZC a r))) σ):wpAny (model C.prog C.w) A (call (.builtin "min") [v]) (PV C T F s φ μ ρ Q) NoE s:=by
 (refine Eeeaa (QX R V e) λ ad vs q27q=>?_;obtain rfl:=q27q;intro hs vp)
 have H:=QU vp hi
 have hl:=H.length
 refine call_min_walk (jW (A:=A.in1) hA hs λ s₂ I₂ fp wr St he W st hfp hwr hk=>?_)
 (refine Ee (he) λ ob q29q=>?_;try clear he;obtain rfl:=q29q)
 refine ⟨I₂,fp,wr,_,_,St,_,rfl,W,st,hfp,?_,CmpOf.ints_lt (λ i=>(a::r).getD i 0) (λ i v hv=>Qy H (j1 hv)),λ v h' tk hP hk'=>?_⟩
 ·(refine rwE List.size_toArray ?_;refine rwE hl ?_);simp
 ·rw [List.size_toArray,hl] at hP
  (refine Ee (Qy H (j1 hP)) λ t q31q=>?_;obtain rfl:=q31q)
  refine rwE (vf ..) ?_
  exact qU R I (Xo hwr hk hk') (.p (.int _ _)) q
theorem zDh {Q:D->zA->Prop}{v:Value}{d:D}{xs:List PyData}{l:List Int}(hA:A.handled=none)(R:Rel C T s.heap φ μ σ)(I:FrI F s.heap φ μ ρ)(V:VD s.heap φ μ v d)
  (e:ZA σ d=some xs) (hi:ints? xs=some l) (q:Q (.p (.int l.sum)) σ):wpAny (model C.prog C.w) A (call (.builtin "sum") [v]) (PV C T F s φ μ ρ Q) NoE s:=by
 (refine Eeeaa (QX R V e) λ ad vs q33q=>?_;obtain rfl:=q33q;intro hs vp)
 have H:=QU vp hi
 have hl:=H.length
 refine call_sum_walkG (jW (A:=A.in1) hA hs λ s₂ I₂ fp wr St he W st hfp hwr hk=>?_)
 (refine Ee (he) λ ob q35q=>?_;try clear he;obtain rfl:=q35q)
 refine ⟨I₂,fp,wr,_,_,St,(λ i=>l.getD i 0),rfl,W,st,hfp,(λ i v hv=>Qy H (j1 hv)),λ h' tk t' hk'=>?_⟩
 (refine rwE List.size_toArray ?_;refine rwE hl ?_;refine rwE (jD ..) ?_;refine rwE List.take_length ?_)
 exact qU R I (Xo hwr hk hk') (.p (.int _ _)) q
end
set_option tactic.hygienic true
theorem z9 {x:PyData}{xs:List PyData}{k:Ky}(e:keyDs (x::xs)=some k):∃ a r,k=.cons a r/\Zn x=some a/\keyDs xs=some r:=by
 refine Eea (ob e) λ a e1 e2=>?_
 refine Eea (ob e2) λ r e3 e4=>?_
 exact ⟨a,r,(so e4).symm,e1,e3⟩
theorem ZE {xs:List PyData}{k:Ky}(e:keyDs xs=some k):k=.nil∨∃ a r,k=.cons a r:=by
 cases xs with
 | nil=>exact .inl (so e).symm
 | cons x xs=>refine Eeea (z9 e) λ a r h _=>?_;exact .inr ⟨a,r,h⟩
theorem QS {a:PyData}{x:Ky}(e:Zn a=some x):(∃ i,a=.int i/\x=.int i)∨(∃ s,a=.str s/\x=.str s)∨∃ xs,a=.tuple xs/\keyDs xs=some x:=by
 cases a with
 | int i=>exact .inl ⟨i,rfl,(so e).symm⟩
 | str i=>exact .inr (.inl ⟨i,rfl,(so e).symm⟩)
 | tuple xs=>exact .inr (.inr ⟨xs,rfl,e⟩)
 | _=>exact nn e
theorem ZZ {x y:Ky}(h:x=y->False):false=decide (x=y):=(decide_eq_false h).symm
theorem zAE:∀ (x:Ky),(∀ (a b:PyData) (y:Ky),Zn a=some x->Zn b=some y->PyData.eqv a b=decide (x=y))/\(∀ (as bs:List PyData) (y:Ky),keyDs as=some x->keyDs bs=some y->PyData.eqvAll as bs=decide (x=y)):=by
 have tup:∀ (x:Ky),(x=.nil∨∃ p r,x=.cons p r)->(∀ (as bs:List PyData) (y:Ky),keyDs as=some x->keyDs bs=some y->PyData.eqvAll as bs=decide (x=y))->∀ (a b:PyData) (y:Ky),Zn a=some x->Zn b=some y->PyData.eqv a b=decide (x=y):=λ x hx ih a b y ha hb=>by
  rcases QS ha with ⟨i,_,rfl⟩ | ⟨i,_,rfl⟩ | ⟨as,rfl,ha⟩
  ·rcases hx with h | ⟨_,_,h⟩ <;> cases h
  ·rcases hx with h | ⟨_,_,h⟩ <;> cases h
  ·rcases QS hb with ⟨j,rfl,rfl⟩ | ⟨j,rfl,rfl⟩ | ⟨bs,rfl,hb⟩
   ·exact ZZ λ h=>by subst h;rcases hx with h | ⟨_,_,h⟩ <;> cases h
   ·exact ZZ λ h=>by subst h;rcases hx with h | ⟨_,_,h⟩ <;> cases h
   ·exact ih as bs y ha hb
 have seq:∀ {as:List PyData} {x:Ky} {P:Prop},keyDs as=some x->(∀ p r,x≠.cons p r)->x≠.nil->P:=λ e h1 h2=>by
  rcases ZE e with rfl | ⟨p,r,rfl⟩
  ·exact absurd rfl h2
  ·exact absurd rfl (h1 p r)
 intro x
 induction x with
 | int i =>
  refine ⟨λ a b y ha hb=>?_,λ as bs y ha _=>seq ha (λ _ _ h=>nomatch h) (λ h=>nomatch h)⟩
  rcases QS ha with ⟨k,rfl,e⟩ | ⟨k,_,e⟩ | ⟨as,_,ha⟩
  ·cases e
   rcases QS hb with ⟨j,rfl,rfl⟩ | ⟨j,rfl,rfl⟩ | ⟨bs,rfl,hb⟩
   ·show (i==j)=_
    by_cases e:i=j
    ·subst e;refine rwE (decide_eq_true rfl) ?_;exact beq_self_eq_true i
    ·refine rwS (ZZ λ h=>e (by cases h;rfl)) ?_;exact beq_eq_false_iff_ne.mpr e
   ·exact ZZ λ h=>nomatch h
   ·exact ZZ λ h=>by rcases ZE hb with rfl | ⟨_,_,rfl⟩ <;> cases h
  ·cases e
  ·exact seq ha (λ _ _ h=>nomatch h) (λ h=>nomatch h)
 | str i =>
  refine ⟨λ a b y ha hb=>?_,λ as bs y ha _=>seq ha (λ _ _ h=>nomatch h) (λ h=>nomatch h)⟩
  rcases QS ha with ⟨k,_,e⟩ | ⟨k,rfl,e⟩ | ⟨as,_,ha⟩
  ·cases e
  ·cases e
   rcases QS hb with ⟨j,rfl,rfl⟩ | ⟨j,rfl,rfl⟩ | ⟨bs,rfl,hb⟩
   ·exact ZZ λ h=>nomatch h
   ·show (i==j)=_
    by_cases e:i=j
    ·subst e;refine rwE (decide_eq_true rfl) ?_;exact beq_self_eq_true i
    ·refine rwS (ZZ λ h=>e (by cases h;rfl)) ?_;exact beq_eq_false_iff_ne.mpr e
   ·exact ZZ λ h=>by rcases ZE hb with rfl | ⟨_,_,rfl⟩ <;> cases h
  ·exact seq ha (λ _ _ h=>nomatch h) (λ h=>nomatch h)
 | nil =>
  have h2:∀ (as bs:List PyData) (y:Ky),keyDs as=some .nil->keyDs bs=some y->PyData.eqvAll as bs=decide (Ky.nil=y):=λ as bs y ha hb=>by
   cases as with
   | cons a as=>refine Eeea (z9 ha) λ _ _ h _=>?_;cases h
   | nil=>cases bs with
    | nil=>cases so hb;rfl
    | cons b bs=>(refine Eeea (z9 hb) λ _ _ q5q=>?_;obtain rfl:=q5q;intro _);exact ZZ λ h=>nomatch h
  exact ⟨tup _ (.inl rfl) h2,h2⟩
 | cons p r ih1 ih2 =>
  have h2:∀ (as bs:List PyData) (y:Ky),keyDs as=some (.cons p r)->keyDs bs=some y->PyData.eqvAll as bs=decide (Ky.cons p r=y):=λ as bs y ha hb=>by
   cases as with
   | nil=>cases so ha
   | cons a as =>
    refine Eeeaa (z9 ha) λ p' r' e ha1 ha2=>?_
    cases e
    cases bs with
    | nil=>cases so hb;exact ZZ λ h=>nomatch h
    | cons b bs =>
     (refine Eeeaa (z9 hb) λ q t q8q=>?_;obtain rfl:=q8q;intro hb1 hb2)
     show (PyData.eqv a b&&PyData.eqvAll as bs)=_
     (refine rwE (ih1.1 a b q ha1 hb1) ?_;refine rwE (ih2.2 as bs t ha2 hb2) ?_)
     by_cases e1:p=q
     ·by_cases e2:r=t
      ·rw [decide_eq_true e1,decide_eq_true e2,decide_eq_true (by rw [e1,e2])];rfl
      ·(refine rwE (decide_eq_false e2) ?_;refine rwE (Bool.and_false ..) ?_;refine rwS (ZZ λ h=>e2 (by cases h;rfl)) ?_;rfl)
     ·(refine rwE (decide_eq_false e1) ?_;refine rwE (Bool.false_and ..) ?_;refine rwS (ZZ λ h=>e1 (by cases h;rfl)) ?_;rfl)
  exact ⟨tup _ (.inr ⟨_,_,rfl⟩) h2,h2⟩
section
variable {h:Heap}{v:Value}{as:List Addr}{vs:List Value}
noncomputable def zCA (h:Heap)(v:Value)(as:List Addr)(x:PyData):Prop:=@PyData.casesOn (λ _=>Prop) x True (λ _=>True) (λ i=>∃ t,v=.int i t/\as=[]) (λ x=>∃ t,v=.str x t/\as=[]) (λ _=>True)
 (λ xs=>∃ a o vs n,v=.ref a/\h.get? a=some o/\o.cls=.type "tuple"/\o.data=.seq vs n/\ReadsAll h vs.toList xs as) (λ _=>True)
theorem Yc {x:PyData}(r:Reads h v x as):zCA h v as x:=by
 cases r with
 | int i t=>exact ⟨_,rfl,rfl⟩
 | str x t=>exact ⟨_,rfl,rfl⟩
 | tuple h1 h2 h3 h4=>exact ⟨_,_,_,_,rfl,h1,h2,h3,h4⟩
 | _=>trivial
theorem zFi {i:Int}(r:Reads h v (.int i) as):∃ t,v=.int i t/\as=[]:=Yc r
theorem zET {x:Str}(r:Reads h v (.str x) as):∃ t,v=.str x t/\as=[]:=Yc r
theorem zF6 {xs:List PyData}(r:Reads h v (.tuple xs) as):∃ a o vs n,v=.ref a/\h.get? a=some o/\o.cls=.type "tuple"/\o.data=.seq vs n/\ReadsAll h vs.toList xs as:=Yc r
noncomputable def WP (h:Heap)(vs:List Value)(xs:List PyData)(as:List Addr):Prop:=@List.casesOn Value (λ _=>Prop) vs (xs=[]/\as=[]) λ v vs=>∃ x ys bs cs,xs=x::ys/\as=bs++cs/\Reads h v x bs/\ReadsAll h vs ys cs
theorem YK {xs:List PyData}(r:ReadsAll h vs xs as):WP h vs xs as:=by
 cases r with
 | nil=>exact ⟨rfl,rfl⟩
 | cons p q=>exact ⟨_,_,_,_,rfl,rfl,p,q⟩
theorem zEl {xs:List PyData}(r:ReadsAll h [] xs as):xs=[]:=And.left (YK r)
theorem uz {v:Value}{xs:List PyData}(r:ReadsAll h (v::vs) xs as):∃ x ys bs cs,xs=x::ys/\as=bs++cs/\Reads h v x bs/\ReadsAll h vs ys cs:=YK r
theorem zAq {x:PyData}{xs:List PyData}(r:ReadsAll h vs (x::xs) as):∃ v ws bs cs,vs=v::ws/\as=bs++cs/\Reads h v x bs/\ReadsAll h ws xs cs:=by
 cases vs with
 | nil=>exact absurd (zEl r) (List.cons_ne_nil _ _)
 | cons v ws=>exact Eeeeeaaa (uz r) λ x' ys bs cs e e' p q=>⟨v,ws,bs,cs,rfl,e',(List.cons.inj e).1▸p,(List.cons.inj e).2▸q⟩
theorem wy {x:PyData}{k:Ky}{P:Value->PyData->Ky->List Addr->Prop}(hk:Zn x=some k)(hr:Reads h v x as)(ci:∀ i t,P (.int i t) (.int i) (.int i) [])(cs:∀ s t,P (.str s t) (.str s) (.str s) [])
  (ct:∀ a o vs n xs,h.get? a=some o->o.cls=.type "tuple"->o.data=.seq vs n->ReadsAll h vs.toList xs as->keyDs xs=some k->P (.ref a) (.tuple xs) k as):P v x k as:=by
 rcases QS hk with ⟨i,rfl,rfl⟩ | ⟨i,rfl,rfl⟩ | ⟨xs,rfl,hk⟩
 ·refine Eea (zFi hr) λ t e e'=>?_;(refine rwE e ?_;refine rwE e' ?_);exact ci i t
 ·refine Eea (zET hr) λ t e e'=>?_;(refine rwE e ?_;refine rwE e' ?_);exact cs i t
 ·refine Eeeeeaaaa (zF6 hr) λ a o vs n e ho hc hd hi=>?_;refine rwE e ?_;exact ct a o vs n xs ho hc hd hi hk
end
noncomputable def Q5:Ky->Nat
 | .int _=>1
 | .str _=>1
 | .nil=>1
 | .cons a r=>Q5 a + Q5 r
theorem xR {P:Params}{xs:List PyData}{k:Ky}(e:keyDs xs=some k):hashK P k=reduceHash (Builtin.Tuple.tupleHashOf (hashesK P k)):=by
 rcases ZE e with rfl | ⟨_,_,rfl⟩ <;> rfl
theorem wV {x:PyData}{xs:List PyData}{n:Nat}(h:PyData.depthAll (x::xs)<=n):x.depth<=n/\PyData.depthAll xs<=n:=by
 exact Nat.max_le.mp h
section
variable {prog:Program}{w:World}
theorem J8 {xs:List PyData}{i:Int}{P:Prop}(e:keyDs xs=some (.int i)):P:=(ZE e).elim (λ h=>Ky.noConfusion h) λ h=>Eee h λ _ _ h=>Ky.noConfusion h
theorem uJ {xs:List PyData}{i:Str}{P:Prop}(e:keyDs xs=some (.str i)):P:=(ZE e).elim (λ h=>Ky.noConfusion h) λ h=>Eee h λ _ _ h=>Ky.noConfusion h
noncomputable def zAk (prog:Program)(w:World)(k:Ky):Prop:=∀ (x:PyData) (v:Value) (as:List Addr) (A:Around) (E:Value->Shared->Prop) (s:Shared) (Q:Int->Shared->Prop),Zn x=some k->Reads s.heap v x as->A.units + x.depth<cLine ->
 Q (hashK w.params k) {s with toks:=s.toks + Q5 k}->wpAny (model prog w) A (pyHash v) Q E s
noncomputable def jh (prog:Program)(w:World)(k:Ky):Prop:=∀ (xs:List PyData) (vs:List Value) (as:List Addr) (A:Around) (E:Value->Shared->Prop) (s:Shared) (b:Array Int) (Q:Array Int->Shared->Prop),keyDs xs=some k->ReadsAll s.heap vs xs as->A.units + PyData.depthAll xs<cLine ->
 (∀ tk b',tk + 1=s.toks + Q5 k->b'.toList=b.toList++hashesK w.params k->Q b' {s with toks:=tk})->wpAny (model prog w) A (forIn vs b λ x r=>do let h<-pyHash x;pure PUnit.unit;pure (ForInStep.yield (r.push h))) Q E s
theorem yt {k:Ky}(ih:jh prog w k):zAk prog w k:=λ x v as A E s Q hk hr hu h=>by
 refine wy (P:=λ v x k _=>A.units + x.depth<cLine->Q (hashK w.params k) {s with toks:=s.toks + Q5 k}->jh prog w k->wpAny (model prog w) A (pyHash v) Q E s)
  hk hr (λ _ _ _ h _=>wpAny_pyHash_int h) (λ _ _ _ h _=>wpAny_pyHash_str h) (λ a o items n' xs ho hc hdat hi hk hu h ih=>?_) hu h ih
 have hT:s.TypeIs (.ref a) "tuple":=⟨o,ho,hc⟩
 have hu:A.units + (PyData.depthAll xs + 1)<cLine:=hu
 refine (show wpAny _ _ (pyHashByItsType (.ref a)) Q E s from pyHash_slot hT F.slot_tuple_hash F.entry_tuple_hash (F.args_tuple_hash_1 _) (beq_builtin_none _) (.inr (Nat.lt_of_le_of_lt (Nat.le_add_right _ _) hu)) ?_)
 show wpAny _ _ (Builtin.Tuple.tupleItemsOf (.ref a) >>= _) _ _ s
 refine wpAny_bind (wpAny_tupleItemsOf ho hdat ?_)
 refine wpAny_bind ?_
 refine rwS Array.forIn_toList ?_
 refine ih _ _ _ _ _ _ _ _ hk hi (lin [_,_,_] [] (.a (.a (.a (.v 0) (.k 1)) (.v 1)) (.k 1)) (.v 2) [(1,.l (.a (.a (.v 0) (.a (.v 1) (.k 1))) (.k 1)) (.v 2))] tT9 hu) λ tk b' ht hb=>?_
 rw [xR hk,<- ht] at h
 show wpAny _ _ (retInt (Builtin.Tuple.tupleHashOf b'.toList)) _ _ _
 refine rwE hb ?_
 exact wpAny_bind (wpAny_mkInt (wpAny_pure ⟨_,_,rfl,h⟩))
theorem Vd (k:Ky):zAk prog w k/\jh prog w k:=by
 induction k with
 | int i=>exact ⟨yt λ _ _ _ _ _ _ _ _ e=>J8 e,λ _ _ _ _ _ _ _ _ e=>J8 e⟩
 | str i=>exact ⟨yt λ _ _ _ _ _ _ _ _ e=>uJ e,λ _ _ _ _ _ _ _ _ e=>uJ e⟩
 | nil =>
  have two:jh prog w .nil:=λ xs vs as A E s b Q e r _ h=>by
   cases xs with
   | cons _ _=>exact Eeea (z9 e) λ _ _ e _=>Ky.noConfusion e
   | nil =>
    cases vs with
    | nil=>exact wpAny_pure (h s.toks b rfl (List.append_nil _).symm)
    | cons _ _=>exact Eeeeea (uz r) λ _ _ _ _ e _=>List.noConfusion rfl (heq_of_eq e)
  exact ⟨yt two,two⟩
 | cons p r ih1 ih2 =>
  have two:jh prog w (.cons p r):=λ xs vs as A E s b Q e q hu h=>by
   cases xs with
   | nil=>exact Ky.noConfusion (so e)
   | cons x xs =>
    refine Eeeaa (z9 e) λ p' r' e' e1 e2=>?_
    cases e'
    refine Eeeeeaaa (zAq q) λ v ws bs cs ev _ q1 q2=>?_
    (refine rwE ev ?_;refine rwE (List.forIn_cons ..) ?_)
    refine wpAny_bind (wpAny_bind (ih1.1 _ _ _ _ _ _ _ e1 q1 (Nat.lt_of_le_of_lt (Nat.add_le_add_left (Nat.le_max_left _ _) _) hu) ?_))
    refine wpAny_bind (wpAny_pure (wpAny_pure ?_))
    refine ih2.2 _ _ _ _ _ _ _ _ e2 q2 (Nat.lt_of_le_of_lt (Nat.add_le_add_left (Nat.le_max_right _ _) _) hu) λ tk b' ht hb=>h tk b' (ht.trans (Nat.add_assoc _ _ _)) ?_
    (refine rwE hb ?_;refine rwE Array.toList_push ?_;refine rwE (List.append_assoc ..) ?_);rfl
  exact ⟨yt two,two⟩
theorem xN:∀ (n:Nat) (x:PyData) (k:Ky) (v:Value) (as:List Addr) (A:Around) (E:Value->Shared->Prop) (s:Shared) (Q:Bool->Shared->Prop),x.depth<=n->Zn x=some k->Reads s.heap v x as ->
  Q true s->wpAny (model prog w) A (eqIsQuiet n v) Q E s:=by
 intro n
 have one:∀ (n:Nat) (v:Value) (A:Around) (E:Value->Shared->Prop) (s:Shared) (Q:Bool->Shared->Prop),Q true s->(eqIsQuiet n v=pure true)->wpAny (model prog w) A (eqIsQuiet n v) Q E s:=λ n v A E s Q h e=>by refine rwE e ?_;exact wpAny_pure h
 induction n with
 | zero =>
  intro x k v as A E s Q hd hk hr h
  exact wy (P:=λ v x k _=>x.depth<=0->wpAny (model prog w) A (eqIsQuiet 0 v) Q E s) hk hr (λ _ _ _=>one _ _ _ _ _ _ h (eqIsQuiet_byValue _ rfl)) (λ _ _ _=>one _ _ _ _ _ _ h (eqIsQuiet_byValue _ rfl)) (λ _ _ _ _ _ _ _ _ _ _ hd=>absurd hd (Nat.not_succ_le_zero _)) hd
 | succ n ih =>
  intro x k v as A E s Q hd hk hr h
  ·refine wy (P:=λ v x k _=>x.depth<=n + 1->wpAny (model prog w) A (eqIsQuiet (n + 1) v) Q E s) hk hr (λ _ _ _=>one _ _ _ _ _ _ h (eqIsQuiet_byValue _ rfl)) (λ _ _ _=>one _ _ _ _ _ _ h (eqIsQuiet_byValue _ rfl)) (λ a o items n' xs ho hc hdat hi hk hd=>?_) hd
   have hdx:PyData.depthAll xs<=n:=Nat.le_of_succ_le_succ hd
   have hT:s.TypeIs (.ref a) "tuple":=⟨o,ho,hc⟩
   unfold eqIsQuiet
   refine wpAny_bind (wpAny_specialOf hT PySem.F.slot_tuple_eq.lookup ?_)
   show wpAny _ _ (isInstance (.ref a) (.type "tuple") >>= _) _ _ s
   refine wpAny_bind (wpAny_isInstance hT isSubtype_tuple_tuple ?_)
   simp only [Bool.not_true,Bool.false_eq_true,if_false]
   refine wpAny_bind (wpAny_seqItems ho hdat ?_)
   refine wpAny_bind ?_
   show wpAny _ _ (forIn items _ _) _ _ s
   refine rwS Array.forIn_toList ?_
   refine wpAny_forIn_list _ (λ rest r s'=>r.1=none/\s'=s/\∃ (left:List PyData) (kl:Ky) (al:List Addr),ReadsAll s.heap rest left al/\keyDs left=some kl/\PyData.depthAll left<=n) _ ?_ ?_ _ _ ⟨rfl,rfl,xs,k,_,hi,hk,hdx⟩
   ·rintro v rest r s' ⟨hr,rfl,left,kl,al,hl,hkl,hdl⟩
    ·(refine Eeeeeaaa (uz hl) λ d ds bs as' q35q=>?_;obtain rfl:=q35q;intro _ p r')
     (refine Eeeaa (z9 hkl) λ ka kr q37q=>?_;obtain rfl:=q37q;intro h1 h2)
     refine Ea (wV hdl) λ d1 d2=>?_
     refine wpAny_bind (ih d ka v _ _ E s' _ d1 h1 p ?_)
     simp only [Bool.not_true,Bool.false_eq_true,if_false]
     exact wpAny_pure ⟨rfl,rfl,ds,kr,_,r',h2,d2⟩
   ·rintro ⟨r1,r2⟩ s' ⟨hr1,rfl,_⟩
    have hr2:r1=none:=hr1
    subst hr2
    exact wpAny_pure h
end
theorem WL {h h':Heap}{d:Addr}{od:Obj}{es:Array DictEntry}{ep:Nat}(hd:h.get? d=some od)(hdd:od.data=.dict es ep)(hs:Heap.SameBut d h h'):∀ (k:Ky),(∀ {v:Value} {x:PyData} {as:List Addr},Zn x=some k->Reads h v x as->Reads h' v x as) /\
  (∀ {vs:List Value} {xs:List PyData} {as:List Addr},keyDs xs=some k->ReadsAll h vs xs as->ReadsAll h' vs xs as):=by
 have one:∀ (k:Ky),(∀ {vs:List Value} {xs:List PyData} {as:List Addr},keyDs xs=some k->ReadsAll h vs xs as->ReadsAll h' vs xs as)->∀ {v:Value} {x:PyData} {as:List Addr},Zn x=some k->Reads h v x as->Reads h' v x as:=λ k ih v x as e r=>by
  refine wy (P:=λ v x k as=>(∀ {vs:List Value} {xs:List PyData} {as:List Addr},keyDs xs=some k->ReadsAll h vs xs as->ReadsAll h' vs xs as)->Reads h' v x as) e r (λ i t _=>.int i t) (λ i t _=>.str i t) (λ a o vs n xs ho hc hdat hi e ih=>?_) ih
  have hne:a≠d:=λ q=>by
   rw [<- q,ho] at hd
   rw [so hd] at hdat
   exact Data.noConfusion (hdd.symm.trans hdat)
  exact .tuple ((hs.2 a hne).trans ho) hc hdat (ih e hi)
 intro k
 induction k with
 | cons p r ih1 ih2 =>
  have two:∀ {vs:List Value} {xs:List PyData} {as:List Addr},keyDs xs=some (.cons p r)->ReadsAll h vs xs as->ReadsAll h' vs xs as:=λ {vs xs as} e q=>by
   cases xs with
   | nil=>cases so e
   | cons x xs =>
    refine Eeeaa (z9 e) λ p' r' e' e1 e2=>?_
    cases e'
    (refine Eeeeeaaa (zAq q) λ v ws bs cs q49q=>?_;obtain rfl:=q49q;intro q50q;obtain rfl:=q50q;intro q1 q2)
    exact .cons (ih1.1 e1 q1) (ih2.2 e2 q2)
  exact ⟨one _ two,two⟩
 | int i =>
  have two:∀ {vs:List Value} {xs:List PyData} {as:List Addr},keyDs xs=some (.int i)->ReadsAll h vs xs as->ReadsAll h' vs xs as:=λ e q=>by rcases ZE e with h | ⟨_,_,h⟩ <;> cases h
  exact ⟨one _ two,two⟩
 | str i =>
  have two:∀ {vs:List Value} {xs:List PyData} {as:List Addr},keyDs xs=some (.str i)->ReadsAll h vs xs as->ReadsAll h' vs xs as:=λ e q=>by rcases ZE e with h | ⟨_,_,h⟩ <;> cases h
  exact ⟨one _ two,two⟩
 | nil =>
  have two:∀ {vs:List Value} {xs:List PyData} {as:List Addr},keyDs xs=some .nil->ReadsAll h vs xs as->ReadsAll h' vs xs as:=λ {vs xs as} e q=>by
   cases xs with
   | nil=>cases q;exact .nil
   | cons x xs=>refine Eeea (z9 e) λ p' r' e' _=>?_;cases e'
  exact ⟨one _ two,two⟩
noncomputable def vv (h:Heap)(k:Ky)(a:Addr):Prop:=∃ xs as,Reads h (.ref a) (.tuple xs) as/\keyDs xs=some k/\(PyData.tuple xs).depth<=6/\(PyData.tuple xs).canLay0=true
noncomputable def JD (prog:Program)(w:World):HeapKind prog w Ky where
 is:=vv
 hash:=hashK w.params
 draws:=Q5
 room:=λ A=>A.units + 20<cLine
 inj:=λ {h a x y} ⟨xs,as,r,k,d,c⟩ ⟨ys,bs,r',k',d',c'⟩=>by
  refine Ea (PySem.Reads.unique r _ _ r') λ e _=>?_
  cases e
  rw [k] at k';cases k';rfl
 keeps:=λ {h h' k a d o es ep} ⟨xs,as,r,e,dd,c⟩ ho hd hs=>⟨xs,as,(WL ho hd hs k).1 e r,e,dd,c⟩
 pyHash:=λ {A E s k a Q} hu ⟨xs,as,r,e,dd,c⟩ h=>(Vd k).1 (.tuple xs) _ _ _ _ _ _ e r (lin [_,_,_] [] (.a (.a (.v 0) (.v 1)) (.k 1)) (.v 2) [(1,.l (.a (.a (.v 0) (.k 20)) (.k 1)) (.v 2)),(1,.l (.v 1) (.k 6))] tT9 hu dd) h
 eqBool:=λ {A E s x y a b Q} hu ⟨xs,as,r,e,dd,c⟩ ⟨ys,bs,r',e',dd',c'⟩ h=>eqBoolOverData prog w A E s _ _ _ _ _ _ Q r r' c c' (by lia)
  (by refine rwE ((zAE x).1 (.tuple xs) (.tuple ys) y e e') ?_;exact h)
 quiet:=λ {A E s k a Q} ⟨xs,as,r,e,dd,c⟩ h=>xN 8 (.tuple xs) k _ _ A E s Q (by exact Nat.le_trans dd (nB9 rfl)) e r h
section
variable {C:Cx}{T:Tabs}{F:Fm}{s s':Shared}{φ φ':Addr->Prop}{μ μ':List Addr}{ρ ρ':Rho}{σ σ':zA}{A:Around}{n:Nat}
theorem Ys {h:Heap}{a:Addr}{xs:List PyData}{k:Ky}(v:VP h φ (.ref a) (.tuple xs))(e:keyDs xs=some k)(d:(PyData.tuple xs).depth<=6):vv h k a:=by
 refine Ee (v.reads) λ as r=>?_
 exact ⟨xs,as,r,e,d,v.canLay⟩
theorem Vx {h:Heap}{xs:List (Ky×Addr×Value)}{es:List (Ky×D)}(t:TEs h φ μ xs es):∀ x∈xs,vv h x.1 x.2.1:=by
 induction t with
 | nil=>exact λ x hx=>nomatch hx
 | cons v e d _ _ ih =>
  intro x hx
  rcases List.mem_cons.mp hx with rfl | hx
  ·exact Ys v e d
  ·exact ih x hx
theorem jH {h:Heap}{xs:List (Ky×Addr×Value)}{es:List (Ky×D)}(t:TEs h φ μ xs es)(k:Ky) :
  (∃ d p,zo k es=some d/\atKey xs k=some p/\VD h φ μ p.2 d)∨(zo k es=none/\atKey xs k=none):=by
 induction t with
 | nil=>exact .inr ⟨rfl,rfl⟩
 | cons v e d w _ ih =>
  rename_i k' xs' a v' d' r es' t'
  by_cases hk:k'=k
  ·refine .inl ⟨d',(a,v'),?_,?_,w⟩
   ·show (List.find? _ _).map _=_
    (refine rwE List.find?_cons ?_;refine rwE (decide_eq_true hk) ?_);rfl
   ·show (List.find? _ _).map _=_
    (refine rwE List.find?_cons ?_;refine rwE (decide_eq_true hk) ?_);rfl
  ·have e1:zo k ((k',d')::es')=zo k es':=by
    show (List.find? _ _).map _=_
    (refine rwE List.find?_cons ?_;refine rwE (decide_eq_false hk) ?_);rfl
   have e2:atKey ((k',a,v')::r) k=atKey r k:=by
    show (List.find? _ _).map _=_
    (refine rwE List.find?_cons ?_;refine rwE (decide_eq_false hk) ?_);rfl
   (refine rwE e1 ?_;refine rwE e2 ?_)
   exact ih
theorem yT (R:Rel C T s.heap φ μ σ){i:Nat}{a:Addr}{es:List (Ky×D)}(ha:μ[i]?=some a)(hi:σ[i]?=some (.tdict es)) :
  (a==sysModules)=false/\∃ xs,s.heap.DictOfH (JD C.prog C.w) a xs/\TEs s.heap φ μ xs es:=by
 obtain ⟨h1,xs,⟨o,ds,ep,ho,hx,hd,he,hn⟩,t⟩:=R.at_ i a _ ha hi
 exact ⟨h1,xs,⟨o,ds,ep,ho,hx,hd,he,Vx t,hn⟩,t⟩
theorem je (hA:Room n A):(JD C.prog C.w).room A.in1:=by
 show A.units + 1 + 20<cLine
 have:=hA.units;exact lin [_,_,_] [] (.a (.a (.a (.v 0) (.k 1)) (.k 20)) (.k 1)) (.v 1) [(1,.l (.a (.a (.a (.v 0) (.m 20 (.v 2))) (.k 400)) (.k 1)) (.v 1))] tT9 this
theorem JV {M:Model}{E:Value->Shared->Prop}{c x:Value}{P:Bool->Shared->Prop}(h:wpAny M A (compareOp .In x c) (λ v s'=>∃ r,v=.bool r/\P r s') E s):wpAny M A (contains c x) P E s:=λ Γ p hΓ=>by
 have:=h Γ p hΓ
 rw [show compareOp .In x c=(contains c x >>= λ b=>pure (.bool b)) from rfl,Sem.wp_bind'] at this
 refine Sem.wp_mono M Γ _ (λ a p' s' h'=>?_) (λ _ _ _ h'=>h') p s this
 obtain ⟨r,e,hp⟩:∃ r,Value.bool a=.bool r/\P r s':=h'
 cases e;exact hp
theorem vL (hA:Room n A)(R:Rel C T s.heap φ μ σ)(i:Nat)(es:List (Ky×D))(k:List PyData)(q:Ky)(a b:Addr)(P:Bool->Prop)(hi:σ[i]?=some (.tdict es))(ha:μ[i]?=some a)(v:VP s.heap φ (.ref b) (.tuple k))
  (hd:Kd (.tuple k)) (hq:keyDs k=some q) (p:P (zo q es).isSome):wpAny (model C.prog C.w) A (contains (.ref a) (.ref b)) (λ r s'=>∃ tk,s'={s with toks:=tk}/\P r) NoE s:=by
 obtain ⟨h1,xs,hm,t⟩:=yT R ha hi
 have e:(atKey xs q).isSome=(zo q es).isSome:=by
  rcases jH t q with ⟨d,p,hd,hp,_⟩ | ⟨hd,hp⟩
  ·(refine rwE hp ?_;refine rwE hd ?_);rfl
  ·(refine rwE hp ?_;refine rwE hd ?_);rfl
 have key:=wpAny_in_heap (E:=NoE) (Q:=λ v s'=>∃ r,v=.bool r/\∃ tk,s'={s with toks:=tk}/\P r) (knd:=JD C.prog C.w) (je hA) (Ys v hq hd.h) h1 hm ⟨_,rfl,_,rfl,by refine rwE e ?_;exact p⟩
 exact JV key
end
set_option tactic.hygienic false
theorem YT (a:Int):∀ l:List Int,(Ql a l).Perm (a::l)
 | []=>.refl _
 | b::r=>by
  simp only [jt,Q8]
  split
  ·exact .refl _
  ·exact ((YT a r).cons b).trans (.swap a b r)
theorem JG:∀ l:List Int,(zg l).Perm l
 | []=>.refl _
 | a::r=>(YT a (zg r)).trans ((JG r).cons a)
theorem jE (a:Int):∀ l:List Int,l.Pairwise (·<=·)->(Ql a l).Pairwise (·<=·)
 | [],_=>by simp [jt,Q8]
 | b::r,h=>by
  simp only [jt,Q8]
  rw [List.pairwise_cons] at h
  split
  ·rename_i hab
   exact List.pairwise_cons.mpr ⟨λ x hx=>by rcases List.mem_cons.mp hx with rfl | hx;exact hab;exact Int.le_trans hab (h.1 x hx),List.pairwise_cons.mpr h⟩
  ·rename_i hab
   refine List.pairwise_cons.mpr ⟨λ x hx=>?_,jE a r h.2⟩
   rcases List.mem_cons.mp ((YT a r).mem_iff.mp hx) with rfl | hx
   ·exact Int.le_of_lt (Int.not_le.mp hab)
   ·exact h.1 x hx
theorem Qa:∀ l:List Int,(zg l).Pairwise (·<=·)
 | []=>.nil
 | a::r=>jE a _ (Qa r)
section
variable {prog:Program}{w:World}{A:Around}{E:Value->Shared->Prop}{s:Shared}
theorem Xw {x:Value}{l:List Int}{Q:Value->Shared->Prop}(hc:∀ (Q':List Value->Shared->Prop),(∀ h' tk vs,(∀ b o,s.heap.get? b=some o->h'.get? b=some o)->IntsAre vs l->Q' vs {s with heap:=h',toks:=tk})->wpAny (model prog w) A.in1 (collect x) Q' E s)
  (h64:l.length<64) (h:∀ D h' tk vs e,(∀ b o,s.heap.get? b=some o->h'.get? b=some o)->s.heap.get? D=none->h'.get? D=some (seqObj "list" vs.toArray e)->IntsAre vs (zg l)->Q (.ref D) {s with heap:=h',toks:=tk}) :
  wpAny (model prog w) A (call (.builtin "sorted") [x]) Q E s:=by
 refine call_function_entry kind_sorted plain_sorted entry_sorted (args_sorted1 _) ?_
 unfold Builtin.«sorted»
 refine wpAny_bind (m:=checkCount "sorted" 1 1 _) (wpAny_pure ?_)
 refine wpAny_bind (hc _ λ h' tk vs hk hI=>?_)
 have hl:=hI.length
 refine wpAny_bind (wpAny_newList ?_ (by refine rwE sizeLine_eq ?_;exact lin [_,_] [] (.v 0) (.k 16777216) [(1,.l (.a (.v 1) (.k 1)) (.k 64)),(1,.e (.v 0) (.v 1))] tT9 h64 hl))
 have hoL:(h'.push (seqObj "list" vs.toArray 0)).get? h'.objs.size=some (seqObj "list" vs.toArray 0):=Heap.get?_push_size _ rfl
 refine wpAny_bind (wpAny_holding (wpAny_call_entry slot_list_sort ⟨_,hoL,rfl⟩ entry_list_sort (list_sort_tree hoL hI (by exact lin [_,_] [] (.a (.v 0) (.k 1)) (.k 64) [(1,.l (.a (.v 1) (.k 1)) (.k 64)),(1,.e (.v 0) (.v 1))] tT9 h64 hl) λ out ns' a1 a2 a3=>⟨_,rfl,?_⟩) (args_list_sort _)))
 have e:ns'=zg l:=ksm_same (a2.trans (JG l).symm) a3 (Qa l)
 subst e
 refine Ee (sortedHeap_at (vs:=vs) (out:=out) hoL) λ e he=>?_
 have hD:s.heap.get? h'.objs.size=none:=by
  cases q:s.heap.get? h'.objs.size with
  | none=>rfl
  | some o=>exact absurd (Heap.lt_size (hk _ _ q)) (Nat.lt_irrefl _)
 refine wpAny_pure ⟨_,rfl,h _ _ tk out.toList e (λ b o q=>?_) hD (by simpa using he) a1⟩
 have hb:=hk _ _ q
 have hlt:=Heap.lt_size hb
 exact (sortedHeap_old (Nat.ne_of_lt hlt) (by refine rwE (size_push' ..) ?_;exact Nat.lt_succ_of_lt hlt)).trans (Heap.get?_push_of_some _ hb)
end
section
variable {C:Cx}{T:Tabs}{F:Fm}{s s':Shared}{φ φ':Addr->Prop}{μ μ':List Addr}{ρ ρ':Rho}{σ σ':zA}{A:Around}{n:Nat}
theorem Vq {h:Heap}{kvs:List (Int×Value)}{es:List (Int×D)}(t:IEs h φ μ kvs es):kvs.map (·.1)=es.map (·.1):=by
 induction t with
 | nil=>rfl
 | cons _ _ ih=>simp [ih]
theorem UP {kvs:List (Int×Value)}:∀ {vs:List Value},vs.length=kvs.length->(∀ (j:Nat) (v:Value),vs[j]?=some v->∃ k x,kvs[j]?=some (k,x)/\Value.isInt k v=true)->IntsAre vs (kvs.map (·.1)):=by
 induction kvs with
 | nil=>intro vs h _;cases vs with | nil=>exact .nil | cons _ _=>simp at h
 | cons p r ih =>
  intro vs h hk
  cases vs with
  | nil=>simp at h
  | cons v vs =>
   refine Eeea (hk 0 v rfl) λ k x e hv=>?_
   (refine Ee (Value.isInt_shape hv) λ t q3q=>?_;obtain rfl:=q3q)
   simp at e
   subst e
   exact .cons _ _ (ih (by simpa using h) λ j v' e'=>by simpa using hk (j + 1) v' (by simpa using e'))
theorem Up (hA:Room n A)(R:Rel C T s.heap φ μ σ){v:Value}{d:D}{l:List Int}(V:VD s.heap φ μ v d)(e:QO σ d=some l)(hl:l.length<64)(E:Value->Shared->Prop)(Q':List Value->Shared->Prop)
  (h:∀ h' tk vs,(∀ b o,s.heap.get? b=some o->h'.get? b=some o)->IntsAre vs l->Q' vs {s with heap:=h',toks:=tk}):wpAny (model C.prog C.w) A.in1 (collect v) Q' E s:=by
 have fromList:∀ {a:Addr} {vs:List Value} {xs:List PyData},s.heap.IsList a vs.toArray->VPs s.heap φ vs xs->ints? xs=some l->wpAny (model C.prog C.w) A.in1 (collect (.ref a)) Q' E s:=by
  rintro a vs xs ⟨o,ho,hc,n,hd⟩ hp hx
  have H:=QU hp hx
  have hn:=H.length
  exact wpAny_collect_seq a (.inl rfl) ho hc hd (λ h' hk=>h h' s.toks _ hk H) (by (refine rwE List.size_toArray ?_;refine rwE sizeLine_eq ?_);exact lin [_,_] [] (.v 0) (.k 16777216) [(1,.l (.a (.v 1) (.k 1)) (.k 64)),(1,.e (.v 0) (.v 1))] tT9 hl hn)
 cases d with
 | p x =>
  refine Eea (ob e) λ xs e1 e2=>?_
  cases zAw e1
  (refine Eeeaaa (V.ip.ilst) λ a vs q6q=>?_;obtain rfl:=q6q;intro f ht r)
  exact fromList ht r e2
 | obj i =>
  refine Eea (ob e) λ mo hi e=>?_
  (refine Eea (V.iobj) λ a q9q=>?_;obtain rfl:=q9q;intro ha)
  cases mo with
  | lst xs =>
   refine Eeea (R.at_ _ _ _ ha hi) λ vs k ho hp=>?_
   exact fromList ⟨_,ho,rfl,_,rfl⟩ hp e
  | idict es =>
   cases so e
   obtain ⟨h1,kvs,hm,t⟩:=R.at_ _ _ _ ha hi
   have hkeys:=Vq t
   refine Ee (hm.dictAt) λ ep hat=>?_
   have hn:kvs.length<64:=by (refine rwS (List.length_map (f:=(·.1))) ?_;refine rwE hkeys ?_);exact hl
   exact kdu_collect (kdl_dict (knd:=intKind C.prog C.w) h1) hA.hd hat (by refine rwE sizeLine_eq ?_;exact lin [_] [] (.v 0) (.k 16777216) [(1,.l (.a (.v 0) (.k 1)) (.k 64))] tT9 hn) λ h' tk acc hk hacc =>
    h h' tk _ hk (by refine rwS hkeys ?_;exact UP (by simpa using hacc.1) λ j v e=>hacc.2 j v (by simpa using e))
  | _=>exact nn e
 | _=>exact nn e
theorem zA8 {h:Heap}{vs:List Value}{l:List Int}(H:IntsAre vs l):VPs h φ vs (l.map .int):=by
 induction H with
 | nil=>exact .nil
 | cons k t _ ih=>exact .cons (.int k t) ih
theorem Go.of_rel3 {h':Heap}{tk:Nat}{mo:MO}{D:Addr}(I:FrI F s.heap φ μ ρ)(x:Rel C T h' φ (μ++[D]) (σ++[mo])/\Ext s.heap φ μ h' φ (μ++[D]) []/\(μ++[D])[σ.length]?=some D) :
  Go C T F s φ μ {s with heap:=h',toks:=tk} φ (μ++[D]) ρ (σ++[mo]):=Go.of_ext I x.1 x.2.1
theorem JS {Q:D->zA->Prop}{m:Bool}{D:Addr}{h':Heap}{tk:Nat}{vs:List Value}{xs:List PyData}{e:Nat}(R:Rel C T s.heap φ μ σ)(I:FrI F s.heap φ μ ρ)(k:∀ b o,s.heap.get? b=some o->h'.get? b=some o)
  (hD:s.heap.get? D=none) (hD':h'.get? D=some (listOf vs.toArray e)) (V:VPs s.heap φ vs xs) (q:qG m xs σ Q) :
  PV C T F s φ μ ρ Q (.ref D) {s with heap:=h',toks:=tk}:=by
 cases m with
 | true =>
  have x:=R.newM k hD _ hD' (.lst xs) λ kk=>⟨vs,e,hD',V.mono kk⟩
  exact ⟨_,_,_,_,Go.of_ext I x.1 x.2.1,.obj x.2.2,q⟩
 | false =>
  refine Ea (R.newF k hD hD') λ R' X=>?_
  exact ⟨_,_,_,_,Go.of_ext I R' X,.p (.lst (.inr rfl) ⟨_,hD',rfl,_,rfl⟩ (X.vps V)),q⟩
theorem WA {Q:D->zA->Prop}{m:Bool}{v:Value}{d:D}{l:List Int}(hA:Room n A)(R:Rel C T s.heap φ μ σ)(I:FrI F s.heap φ μ ρ)(V:VD s.heap φ μ v d)(e:QO σ d=some l)(hl:l.length<64)
  (q:qG m ((zg l).map .int) σ Q) :
  wpAny (model C.prog C.w) A (call (.builtin "sorted") [v]) (PV C T F s φ μ ρ Q) NoE s :=
 Xw (λ Q' h=>Up hA R V e hl NoE Q' h) hl λ D h' tk vs e hk hD hD' hI=>JS R I hk hD hD' (zA8 hI) q
end
section
variable {C:Cx}{T:Tabs}{F:Fm}{s s':Shared}{φ φ':Addr->Prop}{μ μ':List Addr}{ρ ρ':Rho}{σ σ':zA}{A:Around}{n:Nat}
noncomputable def tyS:Nat->String
 | 0=>"tuple"
 | 1=>"list"
 | 2=>"int"
 | _=>"bool"
noncomputable def zGT:Nat->PyData->Bool
 | k,x=>(qE x k).getD false
theorem zCB {b:Bi}{k:Nat}(h:Ju b=some k):QC b=.type (tyS k)/\k<4:=by
 cases b with
 | tuple=>cases so h;exact ⟨rfl,by decide⟩
 | list=>cases so h;exact ⟨rfl,by decide⟩
 | int=>cases so h;exact ⟨rfl,by decide⟩
 | bool=>cases so h;exact ⟨rfl,by decide⟩
 | _=>exact nn h
@[elab_as_elim] theorem jM {P:Nat->Prop}(k:Nat)(h:k<4)(h0:P 0)(h1:P 1)(h2:P 2)(h3:P 3):P k:=by
 rcases k with _ | _ | _ | _ | k
 ·exact h0
 ·exact h1
 ·exact h2
 ·exact h3
 ·exact absurd h (Nat.not_lt.mpr (Nat.le_add_left 4 k))
theorem zCg {Q:D->zA->Prop}{v:Value}{x:PyData}{t:Nat}{r:Bool}(R:Rel C T s.heap φ μ σ)(I:FrI F s.heap φ μ ρ)(V:VP s.heap φ v x)(ht:t<4)(e:qE x t=some r)(q:Q (.p (.bool r)) σ) :
  wpAny (model C.prog C.w) A (call (.builtin "isinstance") [v,.type (tyS t)]) (PV C T F s φ μ ρ Q) NoE s:=by
 revert e
 have yes:∀ {Tx U:String},s.TypeIs v Tx->typeOf (.type U)=pure (.type "type")->isSubtype (.type Tx) (.type U)=pure true->some true=some r->wpAny (model C.prog C.w) A (call (.builtin "isinstance") [v,.type U]) (PV C T F s φ μ ρ Q) NoE s :=
  λ h1 h2 h3 e=>call_isinstance_yes h1 h2 h3 (zx R I (.p (.bool _)) (so e▸q))
 have no:some false=some r->PV C T F s φ μ ρ Q (.bool false) {s with toks:=s.toks + 1}:=λ e=>zc R I (.p (.bool _)) (so e▸q) _
 cases x with
 | none =>
  cases V.inone
  refine jM t ht (λ e=>call_isinstance (isinstance_false_none (by decide +kernel) meta_tuple sub_NoneType_tuple) (no e)) (λ e=>call_isinstance (isinstance_false_none (by decide +kernel) meta_list sub_NoneType_list) (no e))
   (λ e=>call_isinstance (isinstance_false_none (by decide +kernel) meta_int sub_NoneType_int) (no e)) (λ e=>call_isinstance (isinstance_false_none (by decide +kernel) meta_bool sub_NoneType_bool) (no e))
 | bool b =>
  cases V.ibool
  refine jM t ht (λ e=>call_isinstance (isinstance_false_bool (by decide +kernel) meta_tuple sub_bool_tuple) (no e)) (λ e=>call_isinstance (isinstance_false_bool (by decide +kernel) meta_list sub_bool_list) (no e))
   (yes (PySem.typeIs_bool s b) meta_int sub_bool_int) (yes (PySem.typeIs_bool s b) meta_bool sub_bool_bool)
 | int i =>
  (refine Ee (V.iint) λ tk q1q=>?_;obtain rfl:=q1q)
  refine jM t ht (λ e=>call_isinstance (isinstance_false_int (by decide +kernel) meta_tuple sub_int_tuple) (no e)) (λ e=>call_isinstance (isinstance_false_int (by decide +kernel) meta_list sub_int_list) (no e))
   (yes (typeIs_int s i tk) meta_int sub_int_int) (λ e=>call_isinstance (isinstance_false_int (by decide +kernel) meta_bool sub_int_bool) (no e))
 | str x =>
  (refine Eea (V.istr) λ tk q3q=>?_;obtain rfl:=q3q;intro _)
  refine jM t ht (λ e=>call_isinstance (isinstance_false_str (by decide +kernel) meta_tuple sub_str_tuple) (no e)) (λ e=>call_isinstance (isinstance_false_str (by decide +kernel) meta_list sub_str_list) (no e))
   (λ e=>call_isinstance (isinstance_false_str (by decide +kernel) meta_int sub_str_int) (no e)) (λ e=>call_isinstance (isinstance_false_str (by decide +kernel) meta_bool sub_str_bool) (no e))
 | tuple xs =>
  (refine Eeeaaa (V.itup) λ a vs q5q=>?_;obtain rfl:=q5q;intro f q6q;obtain ⟨⟨o,ho,hc,k,hd⟩,_⟩:=q6q;intro rr)
  refine jM t ht (yes ⟨o,ho,hc⟩ meta_tuple sub_tuple_tuple) (λ e=>call_isinstance (isinstance_false_tuple (by decide +kernel) meta_list sub_tuple_list) ⟨⟨o,ho,hc⟩,no e⟩)
   (λ e=>call_isinstance (isinstance_false_tuple (by decide +kernel) meta_int sub_tuple_int) ⟨⟨o,ho,hc⟩,no e⟩) (λ e=>call_isinstance (isinstance_false_tuple (by decide +kernel) meta_bool sub_tuple_bool) ⟨⟨o,ho,hc⟩,no e⟩)
 | list xs =>
  (refine Eeeaaa (V.ilst) λ a vs q11q=>?_;obtain rfl:=q11q;intro f q12q;obtain ⟨o,ho,hc,k,hd⟩:=q12q;intro rr)
  refine jM t ht (λ e=>call_isinstance (isinstance_false_list (by decide +kernel) meta_tuple sub_list_tuple) ⟨⟨o,ho,hc⟩,no e⟩) (yes ⟨o,ho,hc⟩ meta_list sub_list_list)
   (λ e=>call_isinstance (isinstance_false_list (by decide +kernel) meta_int sub_list_int) ⟨⟨o,ho,hc⟩,no e⟩) (λ e=>call_isinstance (isinstance_false_list (by decide +kernel) meta_bool sub_list_bool) ⟨⟨o,ho,hc⟩,no e⟩)
 | dict es=>exact V.idict.elim
theorem zCK {Q:D->zA->Prop}{v:Value}{d:D}{xs:List PyData}(R:Rel C T s.heap φ μ σ)(I:FrI F s.heap φ μ ρ)(V:VD s.heap φ μ v d)(e:ZA σ d=some xs)(hf:Few xs.length)(q:Q (.p (.int xs.length)) σ) :
  wpAny (model C.prog C.w) A (call (.builtin "len") [v]) (PV C T F s φ μ ρ Q) NoE s:=by
 (refine Eeeaa (QX R V e) λ a vs q15q=>?_;obtain rfl:=q15q;intro hs vp)
 have hl:=vp.length
 have hfit:(vs.toArray.size:Int)<2 ^ 63:=by refine rwE List.size_toArray ?_;have:=hf.h;lia
 have key:PV C T F s φ μ ρ Q (.int vs.toArray.size (s.toks + 1)) {s with toks:=s.toks + 1 + 1}:=by
  (refine rwE List.size_toArray ?_;refine rwE hl ?_);exact zc R I (.p (.int _ _)) q _
 rcases hs with hs | hs
 ·exact PyProof.Rows.len_tuple hs hfit key
 ·exact PyProof.Rows.len_list hs hfit key
theorem vj {Q:D->zA->Prop}{v:Value}{d:D}{xs:List PyData}(R:Rel C T s.heap φ μ σ)(I:FrI F s.heap φ μ ρ)(V:VD s.heap φ μ v d)(e:ZA σ d=some xs)(hf:Few xs.length)(q:Q (.p (.tuple xs)) σ) :
  wpAny (model C.prog C.w) A (call (.type "tuple") [v]) (PV C T F s φ μ ρ Q) NoE s:=by
 have fromList:∀ {a:Addr} {vs:List Value},s.heap.IsList a vs.toArray->VPs s.heap φ vs xs->wpAny (model C.prog C.w) A (call (.type "tuple") [.ref a]) (PV C T F s φ μ ρ Q) NoE s:=by
  intro a vs ht hp
  have hl:=hp.length
  refine call_tuple_list ht (λ h' hk=>?_) (by (refine rwE List.size_toArray ?_;refine rwE hl ?_);exact zh hf)
  have hD:s.heap.get? h'.objs.size=none:=by
   cases q:s.heap.get? h'.objs.size with
   | none=>rfl
   | some o=>exact absurd (Heap.lt_size (hk _ _ q)) (Nat.lt_irrefl _)
  refine Ea (R.newF (h':=h'.push {cls:=.type "tuple",data:=.seq vs.toArray}) (λ b o e=>Heap.get?_push_of_some _ (hk b o e)) hD (Heap.get?_push_size _ rfl)) λ R' X=>?_
  exact ⟨_,_,_,_,Go.of_ext (tk:=s.toks) I R' X,.p (.tup (.inr rfl) (Tup.new (Heap.get?_push_size _ rfl)) (X.vps hp)),q⟩
 cases d with
 | p x =>
  obtain ⟨a,vs,rfl,f,r,⟨rfl,ht⟩ | ⟨rfl,ht⟩⟩:=yC V.ip e
  ·exact call_tuple_tup ht.t (zx R I (.p (.tup f ht r)) q)
  ·exact fromList ht r
 | obj i =>
  (refine Eea (V.iobj) λ a q18q=>?_;obtain rfl:=q18q;intro ha)
  refine Eeea (y2 R ha e) λ vs k ho hp=>?_
  exact fromList ⟨_,ho,rfl,_,rfl⟩ hp
 | _=>exact nn e
theorem zBv {Q:D->zA->Prop}{m:Bool}{v:Value}{d:D}{xs:List PyData}(R:Rel C T s.heap φ μ σ)(I:FrI F s.heap φ μ ρ)(V:VD s.heap φ μ v d)(e:ZA σ d=some xs)(hf:Few xs.length)
  (q:qG m xs σ Q) :
  wpAny (model C.prog C.w) A (call (.type "list") [v]) (PV C T F s φ μ ρ Q) NoE s:=by
 (refine Eeeaa (QX R V e) λ a vs q21q=>?_;obtain rfl:=q21q;intro hs vp)
 have hl:=vp.length
 have hz:vs.toArray.size<=sizeLine:=by (refine rwE List.size_toArray ?_;refine rwE hl ?_);exact zh hf
 rcases hs with ⟨o,ho,hc,k,hd⟩ | ⟨o,ho,hc,k,hd⟩
 ·exact call_list_seq a (.inr rfl) ho hc hd (λ h' c' hk hD=>JS (tk:=s.toks) R I hk (zi _) hD vp q) hz
 ·exact call_list_seq a (.inl rfl) ho hc hd (λ h' c' hk hD=>JS (tk:=s.toks) R I hk (zi _) hD vp q) hz
end
set_option tactic.hygienic true
section
variable {prog:Program}{w:World}{K:Type}[DecidableEq K]{knd:KeyKind prog w K}{A:Around}{E:Value->Shared->Prop}{s:Shared}
theorem wS {kvs:List (K×Value)}{k:K}{v:Value}(h:valueAt kvs k=none):stored kvs k v=kvs++[(k,v)]:=by
 unfold valueAt at h
 rw [Option.map_eq_none_iff,List.find?_eq_none] at h
 unfold stored
 rw [if_neg]
 rw [List.any_eq_true]
 rintro ⟨x,hx,e⟩
 exact h x hx e
theorem JR {d:Addr}{kvs:List (K×Value)}{k:K}{key dflt:Value}{Q:Value->Shared->Prop}(hkey:knd.is k key=true)(hm:s.heap.DictOf knd d kvs)(hnone:valueAt kvs k=none)
  (hQ:∀ h',h'.DictOf knd d (kvs++[(k,dflt)])->Heap.SameBut d s.heap h'->Q dflt {s with heap:=h',toks:=s.toks + 1}) (hsz:kvs.length<=sizeLine) :
  wpAny (model prog w) A (dictSetDefault d key dflt) Q E s:=by
 refine Eeeeaaaaa (id hm) λ o es ep ho hc hd hk hp hn=>?_
 have hes:es.size<=sizeLine:=by
  have e1:=hp.length
  have e2:es.toList.length=es.size:=by simp
  lia
 have hf:findBy knd.is es k=none:=by
  refine Eeeeaaaa (hm.mapOf) λ o' es' ep' ho' hc' hd' hk' hf'=>?_
  rw [ho] at ho';cases ho'
  rw [hd] at hd';cases hd'
  refine rwE (hf' k) ?_;exact hnone
 have hi:(es.findIdx? λ e=>knd.is k e.key)=none:=by
  cases q:es.findIdx? λ e=>knd.is k e.key with
  | none=>rfl
  | some i =>
   rw [findBy_of_findIdx?,q] at hf
   have:=Array.findIdx?_eq_some_iff_findIdx_eq.mp q
   have hlt:i<es.size:=this.1
   simp [Array.getElem?_eq_getElem hlt] at hf
 have hnot:k∉kvs.map (·.1):=by
  intro hmem
  refine Eea (List.mem_map.mp hmem) λ x hx e=>?_
  unfold valueAt at hnone
  rw [Option.map_eq_none_iff,List.find?_eq_none] at hnone
  exact hnone x hx (by simpa using e)
 unfold dictSetDefault
 try with_reducible refine wpAny_holding ?_
 refine wpAny_bind (knd.pyHash hkey ?_)
 refine wpAny_bind (wpAny_dictFind_of (s:={s with toks:=s.toks + 1}) hkey ho hd hk ?_)
 refine rwE hi ?_
 refine wpAny_bind (wpAny_rule (wpAny_bind (wpAny_updateDictKeys (hz:=hes) (s:={s with toks:=s.toks + 1}) ho hd (wpAny_pure (hQ _ ⟨_,_,ep + 1,Heap.get?_update_self _ ho (Obj.isFreed_of_dict (Obj.data_mapDictKeys hd _)),
   hc.mapDictKeys _,Obj.data_mapDictKeys hd _,hk.push hkey _,?_,?_⟩ (Heap.SameBut.update ..))))))
 ·have:=hp.append hkey (knd.hash k) dflt
  obtain ⟨l⟩:=es
  simpa using this
 ·(refine rwE List.map_append ?_;rewrite [List.nodup_append])
  refine ⟨hn,List.nodup_cons.mpr ⟨List.not_mem_nil,List.nodup_nil⟩,?_⟩
  intro a ha b hb
  simp only [List.map_cons,List.map_nil,List.mem_singleton] at hb
  subst hb
  rintro rfl
  exact hnot ha
theorem yc {d:Addr}{kvs:List (K×Value)}{k:K}{key dflt:Value}(hkey:knd.is k key=true)(hd:(d==sysModules)=false) :
  MeetsIn prog w (Builtin.«dict.setdefault» ⟨[.ref d,key,dflt],[]⟩) (λ _ R s=>s.heap.DictOf knd d kvs/\valueAt kvs k=none/\kvs.length<=sizeLine /\
   (∀ h',h'.DictOf knd d (kvs++[(k,dflt)])->Heap.SameBut d s.heap h'->R (.ok (.ret dflt)) {s with heap:=h',toks:=s.toks + 1})) :=
 .of_wp λ A R s ⟨hm,hn,hz,h2⟩=>by
  unfold Builtin.«dict.setdefault»
  refine wpAny_bind ?_
  unfold Builtin.Dict.keyAndDefault
  refine wpAny_bind (wpAny_notOrdered_dict hm.typeIs ?_)
  show wpAny _ _ (pure (d,key,some dflt)) _ _ s
  refine wpAny_pure ?_
  show wpAny _ _ (if (d==sysModules)=true then _ else (dictSetDefault d key dflt >>= _)) _ _ s
  rw [if_neg (by rw [hd];exact Bool.false_ne_true)]
  exact wpAny_bind (JR hkey hm hn (λ h' hm' hs'=>wpAny_pure ⟨dflt,rfl,h2 h' hm' hs'⟩) hz)
end
section
variable {C:Cx}{T:Tabs}{F:Fm}{s s':Shared}{φ φ':Addr->Prop}{μ μ':List Addr}{ρ ρ':Rho}{σ σ':zA}{A:Around}{n:Nat}
theorem yg {h:Heap}{kvs:List (Int×Value)}{es:List (Int×D)}(t:IEs h φ μ kvs es)(k:Int) :
  (∃ d v,zS k es=some d/\valueAt kvs k=some v/\VD h φ μ v d)∨(zS k es=none/\valueAt kvs k=none):=by
 induction t with
 | nil=>exact .inr ⟨rfl,rfl⟩
 | cons w _ ih =>
  rename_i k' v' d' r es' t'
  by_cases hk:k'=k
  ·refine .inl ⟨d',v',?_,?_,w⟩
   ·show (List.find? _ _).map _=_
    (refine rwE List.find?_cons ?_;refine rwE (decide_eq_true hk) ?_);rfl
   ·show (List.find? _ _).map _=_
    (refine rwE List.find?_cons ?_;refine rwE (decide_eq_true hk) ?_);rfl
  ·have e1:zS k ((k',d')::es')=zS k es':=by
    show (List.find? _ _).map _=_
    (refine rwE List.find?_cons ?_;refine rwE (decide_eq_false hk) ?_);rfl
   have e2:valueAt ((k',v')::r) k=valueAt r k:=by
    show (List.find? _ _).map _=_
    (refine rwE List.find?_cons ?_;refine rwE (decide_eq_false hk) ?_);rfl
   (refine rwE e1 ?_;refine rwE e2 ?_)
   exact ih
theorem yh {h:Heap}{kvs:List (Int×Value)}{es:List (Int×D)}(t:IEs h φ μ kvs es):kvs.length=es.length:=by
 induction t with
 | nil=>rfl
 | cons _ _ ih=>simp [ih]
theorem uq {h:Heap}{kvs:List (Int×Value)}{es:List (Int×D)}{k:Int}{v:Value}{d:D}(t:IEs h φ μ kvs es)(w:VD h φ μ v d):IEs h φ μ (kvs++[(k,v)]) (es++[(k,d)]):=by
 induction t with
 | nil=>exact .cons w .nil
 | cons p _ ih=>exact .cons p ih
theorem UL {h h':Heap}{kvs:List (Int×Value)}{es:List (Int×D)}(k:∀ a,φ a->φ' a/\h'.get? a=h.get? a)(m:∀ (i:Nat) (a:Addr),μ[i]?=some a->μ'[i]?=some a)(t:IEs h φ μ kvs es):IEs h' φ' μ' kvs es:=by
 induction t with
 | nil=>exact .nil
 | cons p _ ih=>exact .cons (p.mono k m) ih
theorem Z7 (k:Int)(t:Tok):(intKind C.prog C.w).is k (.int k t)=true:=by simp [intKind,Value.isInt]
theorem zAL {Q:D->zA->Prop}{i:Nat}{a:Addr}{es:List (Int×D)}{k:Int}{t:Tok}{v:Value}{d:D}(R:Rel C T s.heap φ μ σ)(I:FrI F s.heap φ μ ρ)(ha:μ[i]?=some a)(hi:σ[i]?=some (.idict es))(V:VD s.heap φ μ v d)
  (q:Q ((zS k es).getD d) σ):wpAny (model C.prog C.w) A (call (.builtin "dict.get") [.ref a,.int k t,v]) (PV C T F s φ μ ρ Q) NoE s:=by
 obtain ⟨h1,kvs,hm,te⟩:=R.at_ i a _ ha hi
 refine call_meetsIn PySem.F.slot_dict_get hm.typeIs PySem.F.entry_dict_get (PySem.F.args_dict_get_3 _ _ _) (meets_dict_get_default (intKind C.prog C.w) a (Z7 k t) h1 v) ⟨_,hm.mapOf,?_⟩
 rcases yg te k with ⟨d',u,e,hu,w⟩ | ⟨e,hu⟩
 ·rw [e] at q;refine rwE hu ?_;exact zc R I w q _
 ·rw [e] at q;refine rwE hu ?_;exact zc R I V q _
theorem zB5 {Q:D->zA->Prop}{i:Nat}{a:Addr}{es:List (Int×D)}{k:Int}{t:Tok}{d:D}(R:Rel C T s.heap φ μ σ)(I:FrI F s.heap φ μ ρ)(ha:μ[i]?=some a)(hi:σ[i]?=some (.idict es))(e:zS k es=some d)
  (q:Q d σ):wpAny (model C.prog C.w) A (getItem (.ref a) (.int k t)) (PV C T F s φ μ ρ Q) NoE s:=by
 obtain ⟨h1,kvs,hm,te⟩:=R.at_ i a _ ha hi
 rcases yg te k with ⟨d',v,e',hv,w⟩ | ⟨e',_⟩
 ·rw [e] at e';cases e';exact wpAny_getItem_of (Z7 k t) hm.mapOf hv (zc R I w q _)
 ·rw [e] at e';cases e'
theorem uC {i:Nat}{a:Addr}{es es':List (Int×D)}{kvs':List (Int×Value)}{h':Heap}(R:Rel C T s.heap φ μ σ)(ha:μ[i]?=some a)(hi:σ[i]?=some (.idict es))(hs:Heap.SameBut a s.heap h')
  (hm':h'.DictOf (intKind C.prog C.w) a kvs') (te:IEs s.heap φ μ kvs' es'):Rel C T h' φ μ (σ.set i (.idict es'))/\Ext s.heap φ μ h' φ μ []:=by
 refine Ea (R.at_ i a _ ha hi) λ h1 _=>?_
 exact R.upd ha hi (λ h=>nomatch h) hs (by (refine Eeeea (hm') λ o _ _ ho _=>?_;try clear hm');exact ⟨o,ho⟩) λ k=>⟨h1,kvs',hm',UL k (λ _ _ e=>e) te⟩
theorem Xl {Q:D->zA->Prop}{i:Nat}{a:Addr}{es:List (Int×D)}{k:Int}{t:Tok}{v:Value}{d:D}(R:Rel C T s.heap φ μ σ)(I:FrI F s.heap φ μ ρ)(ha:μ[i]?=some a)(hi:σ[i]?=some (.idict es))(V:VD s.heap φ μ v d)
  (hf:Few es.length) (q:ud i es k d σ Q (zS k es)) :
  wpAny (model C.prog C.w) A (call (.builtin "dict.setdefault") [.ref a,.int k t,v]) (PV C T F s φ μ ρ Q) NoE s:=by
 obtain ⟨h1,kvs,hm,te⟩:=R.at_ i a _ ha hi
 have hz:kvs.length<=sizeLine:=by refine rwE (yh te) ?_;exact zh hf
 rcases yg te k with ⟨d',u,e,hu,w⟩ | ⟨e,this⟩
 ·rw [e] at q
  refine call_meetsIn PySem.F.slot_dict_setdefault hm.typeIs PySem.F.entry_dict_setdefault (PySem.F.args_dict_setdefault_3 _ _ _) (meets_dict_setdefault (intKind C.prog C.w) a (Z7 k t) h1 v) ⟨_,hm.mapOf,?_,λ v' hv'=>?_,λ hn=>?_⟩
  ·refine Eeeeaaaaa (id hm) λ o ds ep ho hx hd hk hp hn=>?_
   intro o' ds' ep' ho' hd'
   rw [ho] at ho';cases ho'
   rw [hd] at hd';cases hd'
   have e1:=hp.length
   have e2:ds.toList.length=ds.size:=by simp
   lia
  ·rw [hu] at hv';cases hv';exact zc R I w q _
  ·rw [hu] at hn;cases hn
 ·rw [e] at q
  refine call_meetsIn PySem.F.slot_dict_setdefault hm.typeIs PySem.F.entry_dict_setdefault (PySem.F.args_dict_setdefault_3 _ _ _) (yc (knd:=intKind C.prog C.w) (Z7 k t) h1) ⟨hm,this,hz,λ h' hm' hs=>?_⟩
  refine Ea (uC R ha hi hs hm' (uq te V)) λ R' X=>?_
  exact ⟨_,_,_,_,Go.of_ext I R' X,X.vd V,q⟩
theorem wi {h:Heap}{kvs:List (Int×Value)}{es:List (Int×D)}(t:IEs h φ μ kvs es)(hn:(kvs.map (·.1)).Nodup){k:Int}{v:Value}{d:D}(w:VD h φ μ v d):IEs h φ μ (stored kvs k v) (Qt k d es):=by
 have key:∀ {kvs:List (Int×Value)} {es:List (Int×D)},IEs h φ μ kvs es->(kvs.map (·.1)).Nodup->IEs h φ μ (if kvs.any (λ kv=>kv.1=k) then kvs.map (λ kv=>if kv.1=k then (kv.1,v) else kv) else kvs++[(k,v)]) (Qt k d es):=by
  intro kvs es t
  induction t with
  | nil=>intro _;exact .cons w .nil
  | cons p t' ih =>
   rename_i k' v' d' r es'
   intro hn
   rw [List.map_cons,List.nodup_cons] at hn
   by_cases hk:k'=k
   ·subst hk
    simp only [List.any_cons,decide_true,Bool.true_or,if_true,List.map_cons,UQ,UA]
    have same:r.map (λ kv=>if kv.1=k' then (kv.1,v) else kv)=r:=by
     refine (List.map_congr_left λ x hx=>?_).trans (List.map_id r)
     refine rwE (if_neg λ e=>hn.1 (List.mem_map.mpr ⟨x,hx,e⟩)) ?_;rfl
    refine rwE same ?_
    exact .cons w t'
   ·have:=ih hn.2
    simp only [List.any_cons,hk,decide_false,Bool.false_or,if_false,List.map_cons,UQ,UA,List.cons_append]
    split
    ·rename_i h;rw [if_pos h] at this;exact .cons p this
    ·rename_i h;rw [if_neg h] at this;exact .cons p this
 exact key t hn
theorem zBD {i:Nat}{a:Addr}{es:List (Int×D)}{k:Int}{t:Tok}{v:Value}{d:D}{P:Unit->Shared->Prop}(R:Rel C T s.heap φ μ σ)(ha:μ[i]?=some a)(hi:σ[i]?=some (.idict es))(V:VD s.heap φ μ v d)
  (hf:Few es.length) (q:∀ h',Rel C T h' φ μ (σ.set i (.idict (Qt k d es)))->Ext s.heap φ μ h' φ μ []->P () {s with heap:=h',toks:=s.toks + 1}) :
  wpAny (model C.prog C.w) A (setItem (.ref a) (.int k t) v) P NoE s:=by
 obtain ⟨h1,kvs,hm,te⟩:=R.at_ i a _ ha hi
 have hz:kvs.length<=sizeLine:=by refine rwE (yh te) ?_;exact zh hf
 refine wpAny_setItem_pairs (Z7 k t) hm (λ h' hm' hs=>?_) hz
 refine Ea (uC R ha hi hs hm' (wi te (by obtain ⟨_,_,_,_,_,_,_,_,hn⟩:=hm;exact hn) V)) λ R' X=>?_
 exact q h' R' X
end
theorem ZF {j k:Nat}(h:Nat.beq j k=true):j=k:=Nat.eq_of_beq_eq_true h
theorem zC0 {j k:Nat}(h:Nat.beq j k=false):j≠k:=Nat.ne_of_beq_eq_false h
theorem Qb {T:Tabs}(hn:T.names.Nodup){j k:Nat}{x:Str}(h1:T.names[j]?=some x)(h2:T.names[k]?=some x):j=k :=
 (List.getElem?_inj (List.getElem?_eq_some_iff.mp h1).1 hn).mp (h1.trans h2.symm)
section
variable {C:Cx}{T:Tabs}{F:Fm}{s s':Shared}{φ φ':Addr->Prop}{μ μ':List Addr}{ρ ρ':Rho}{σ σ':zA}{A:Around}{n:Nat}
theorem xp {α:Type}{k' k:Nat}{d:α}{es:List (Nat×α)}(h:k'≠k):look k ((k',d)::es)=look k es:=by
 show (match Nat.beq k' k with | true=>some d | false=>look k es)=_
 cases e:Nat.beq k' k with
 | false=>rfl
 | true=>exact absurd (ZF e) h
theorem xz {α:Type}{k:Nat}{d:α}{es:List (Nat×α)}:look k ((k,d)::es)=some d:=by
 show (match Nat.beq k k with | true=>some d | false=>look k es)=_
 (refine rwE (Nat.beq_refl k) ?_;rfl)
theorem zCj {α:Type}{k' k:Nat}{d e:α}{es:List (Nat×α)}(h:k'≠k):put k d ((k',e)::es)=(k',e)::put k d es:=by
 show (match Nat.beq k' k with | true=>(k',d)::es | false=>(k',e)::put k d es)=_
 cases e:Nat.beq k' k with
 | false=>rfl
 | true=>exact absurd (ZF e) h
theorem zCN {α:Type}{k:Nat}{d e:α}{es:List (Nat×α)}:put k d ((k,e)::es)=(k,d)::es:=by
 show (match Nat.beq k k with | true=>(k,d)::es | false=>(k,e)::put k d es)=_
 (refine rwE (Nat.beq_refl k) ?_;rfl)
theorem vz (hN:T.names.Nodup){h:Heap}{kvs:List (Str×Value)}{es:List (Nat×D)}(t:REs T h φ μ kvs es){k:Nat}{x:Str}(hx:T.names[k]?=some x){d:D}(e:look k es=some d) :
  ∃ v,valueAt kvs x=some v/\VD h φ μ v d:=by
 induction t with
 | nil=>exact nn e
 | cons hk w _ ih =>
  rename_i k' x' v' d' r es' t'
  by_cases q:k'=k
  ·subst q
   rw [xz] at e
   cases so e
   rw [hk] at hx;cases hx
   refine ⟨v',?_,w⟩
   show (List.find? _ _).map _=_
   (refine rwE List.find?_cons ?_;refine rwE (decide_eq_true rfl) ?_);rfl
  ·rw [xp q] at e
   refine Eea (ih e) λ v hv hw=>?_
   refine ⟨v,?_,hw⟩
   show (List.find? _ _).map _=_
   (refine rwE List.find?_cons ?_;refine rwE (decide_eq_false (show ¬ x'=x from λ h=>q (Qb hN (h▸hk) hx))) ?_);exact hv
theorem wH {h:Heap}{kvs:List (Str×Value)}{es:List (Nat×D)}(t:REs T h φ μ kvs es):kvs.length=es.length:=by
 induction t with
 | nil=>rfl
 | cons _ _ _ ih=>simp [ih]
theorem VC {h h':Heap}{kvs:List (Str×Value)}{es:List (Nat×D)}(k:∀ a,φ a->φ' a/\h'.get? a=h.get? a)(m:∀ (i:Nat) (a:Addr),μ[i]?=some a->μ'[i]?=some a)(t:REs T h φ μ kvs es):REs T h' φ' μ' kvs es:=by
 induction t with
 | nil=>exact .nil
 | cons q p _ ih=>exact .cons q (p.mono k m) ih
theorem XY (hN:T.names.Nodup){h:Heap}{kvs:List (Str×Value)}{es:List (Nat×D)}(t:REs T h φ μ kvs es)(hn:(kvs.map (·.1)).Nodup){k:Nat}{x:Str}(hx:T.names[k]?=some x){v:Value}{d:D}(w:VD h φ μ v d) :
  REs T h φ μ (stored kvs x v) (put k d es):=by
 have key:∀ {kvs:List (Str×Value)} {es:List (Nat×D)},REs T h φ μ kvs es->(kvs.map (·.1)).Nodup->REs T h φ μ (if kvs.any (λ kv=>kv.1=x) then kvs.map (λ kv=>if kv.1=x then (kv.1,v) else kv) else kvs++[(x,v)]) (put k d es):=by
  intro kvs es t
  induction t with
  | nil=>intro _;exact .cons hx w .nil
  | cons q p t' ih =>
   rename_i k' x' v' d' r es'
   intro hn
   rw [List.map_cons,List.nodup_cons] at hn
   by_cases hk:k'=k
   ·subst hk
    rw [q] at hx;cases hx
    refine rwE zCN ?_
    simp only [List.any_cons,decide_true,Bool.true_or,if_true,List.map_cons]
    have same:r.map (λ kv=>if kv.1=x then (kv.1,v) else kv)=r:=by
     refine (List.map_congr_left λ y hy=>?_).trans (List.map_id r)
     refine rwE (if_neg λ e=>hn.1 (List.mem_map.mpr ⟨y,hy,e⟩)) ?_;rfl
    refine rwE same ?_
    exact .cons q w t'
   ·have:=ih hn.2
    have hxx:x'≠x:=λ e=>hk (Qb hN (e▸q) hx)
    (refine rwE (zCj hk) ?_;refine rwE List.any_cons ?_;refine rwE (decide_eq_false hxx) ?_;refine rwE (Bool.false_or ..) ?_)
    by_cases h:(r.any λ kv=>decide (kv.1=x))=true
    ·rw [if_pos h] at this ⊢;(refine rwE List.map_cons ?_;refine rwE (if_neg hxx) ?_);exact .cons q p this
    ·rw [if_neg h] at this ⊢;exact .cons q p this
 exact key t hn
theorem Jy (x:Str)(t:Tok):(PySem.strKind C.prog C.w).is x (.str x t)=true:=strKind_is C.prog C.w x t
theorem zBm (hN:T.names.Nodup){Q:D->zA->Prop}{i k:Nat}{a:Addr}{es:List (Nat×D)}{x:Str}{t:Tok}{d:D}(R:Rel C T s.heap φ μ σ)(I:FrI F s.heap φ μ ρ)(ha:μ[i]?=some a)(hi:σ[i]?=some (.rdict es))
  (hx:T.names[k]?=some x) (e:look k es=some d) (q:Q d σ):wpAny (model C.prog C.w) A (getItem (.ref a) (.str x t)) (PV C T F s φ μ ρ Q) NoE s:=by
 obtain ⟨h1,kvs,hm,te⟩:=R.at_ i a _ ha hi
 refine Eea (vz hN te hx e) λ v hv w=>?_
 exact wpAny_getItem_of (Jy x t) hm.mapOf hv (zc R I w q _)
theorem zAR (hN:T.names.Nodup){i k:Nat}{a:Addr}{es:List (Nat×D)}{x:Str}{t:Tok}{v:Value}{d:D}{P:Unit->Shared->Prop}(R:Rel C T s.heap φ μ σ)(ha:μ[i]?=some a)(hi:σ[i]?=some (.rdict es))(hx:T.names[k]?=some x)(V:VD s.heap φ μ v d)
  (hf:Few es.length) (q:∀ h',Rel C T h' φ μ (σ.set i (.rdict (put k d es)))->Ext s.heap φ μ h' φ μ []->P () {s with heap:=h',toks:=s.toks + 1}) :
  wpAny (model C.prog C.w) A (setItem (.ref a) (.str x t) v) P NoE s:=by
 obtain ⟨h1,kvs,hm,te⟩:=R.at_ i a _ ha hi
 have hz:kvs.length<=sizeLine:=by refine rwE (wH te) ?_;exact zh hf
 refine wpAny_setItem_pairs (Jy x t) hm (λ h' hm' hs=>?_) hz
 have te':=XY hN te (by (refine Eeeeaaaaa (hm) λ _ _ _ _ _ _ _ _ hn=>?_;try clear hm);exact hn) hx V
 refine Ea (R.upd (mo':=.rdict (put k d es)) ha hi (λ h=>nomatch h) hs (by obtain ⟨o,_,_,ho,_⟩:=hm';exact ⟨o,ho⟩) λ kk=>⟨h1,_,hm',VC kk (λ _ _ e=>e) te'⟩) λ R' X=>?_
 exact q h' R' X
theorem zAH {Q:D->zA->Prop}{i:Nat}{a b:Addr}{es:List (Ky×D)}{k:List PyData}{kq:Ky}{d:D}(hA:Room n A)(R:Rel C T s.heap φ μ σ)(I:FrI F s.heap φ μ ρ)(ha:μ[i]?=some a)(hi:σ[i]?=some (.tdict es))
  (v:VP s.heap φ (.ref b) (.tuple k)) (hd:Kd (.tuple k)) (hq:keyDs k=some kq) (e:zo kq es=some d) (q:Q d σ):wpAny (model C.prog C.w) A (getItem (.ref a) (.ref b)) (PV C T F s φ μ ρ Q) NoE s:=by
 obtain ⟨h1,xs,hm,t⟩:=yT R ha hi
 rcases jH t kq with ⟨d',p,e',hp,w⟩ | ⟨e',_⟩
 case inr=>rw [e] at e';cases e'
 rw [e] at e';cases e'
 exact wpAny_getItem_heap (knd:=JD C.prog C.w) (je hA) (Ys v hq hd.h) hm hp (zc R I w q _)
theorem Xg {h:Heap}{xs:List (Ky×Addr×Value)}{es:List (Ky×D)}(t:TEs h φ μ xs es):xs.length=es.length:=by
 induction t with
 | nil=>rfl
 | cons _ _ _ _ _ ih=>simp [ih]
theorem V6 {h:Heap}{xs:List (Ky×Addr×Value)}{es:List (Ky×D)}{k:Ky}{ys:List PyData}{a:Addr}{v:Value}{d:D}(t:TEs h φ μ xs es)(p:VP h φ (.ref a) (.tuple ys))(e:keyDs ys=some k)(dd:(PyData.tuple ys).depth<=6)(w:VD h φ μ v d) :
  TEs h φ μ (xs++[(k,a,v)]) (es++[(k,d)]):=by
 induction t with
 | nil=>exact .cons p e dd w .nil
 | cons p' e' d' w' _ ih=>exact .cons p' e' d' w' ih
theorem Vw {h h':Heap}{xs:List (Ky×Addr×Value)}{es:List (Ky×D)}(k:∀ a,φ a->φ' a/\h'.get? a=h.get? a)(m:∀ (i:Nat) (a:Addr),μ[i]?=some a->μ'[i]?=some a)(t:TEs h φ μ xs es):TEs h' φ' μ' xs es:=by
 induction t with
 | nil=>exact .nil
 | cons p e d w _ ih=>exact .cons (p.mono k) e d (w.mono k m) ih
theorem zBO {i:Nat}{a b:Addr}{es:List (Ky×D)}{k:List PyData}{kq:Ky}{v:Value}{d:D}{P:Unit->Shared->Prop}(hA:Room n A)(R:Rel C T s.heap φ μ σ)(ha:μ[i]?=some a)(hi:σ[i]?=some (.tdict es))
  (vk:VP s.heap φ (.ref b) (.tuple k)) (hd:Kd (.tuple k)) (hq:keyDs k=some kq) (V:VD s.heap φ μ v d) (hf:Few es.length) (e:zo kq es=none)
  (q:∀ h' tk,Rel C T h' φ μ (σ.set i (.tdict (es++[(kq,d)])))->Ext s.heap φ μ h' φ μ []->P () {s with heap:=h',toks:=tk}) :
  wpAny (model C.prog C.w) A (setItem (.ref a) (.ref b) v) P NoE s:=by
 obtain ⟨h1,xs,hm,t⟩:=yT R ha hi
 have hl:atKey xs kq=none:=by
  rcases jH t kq with ⟨d',p,e',hp,w⟩ | ⟨_,hp⟩
  ·rw [e] at e';cases e'
  ·exact hp
 have hz:xs.length<=sizeLine:=by refine rwE (Xg t) ?_;exact zh hf
 refine wpAny_setItem_heap (knd:=JD C.prog C.w) (je hA) (Ys vk hq hd.h) hm (λ h' hm' hs=>?_) hz
 rw [storedH_new hl] at hm'
 (refine Eeeeaaaaa (hm') λ o ds ep ho hx hdd he hk hn=>?_;try clear hm')
 refine Ea (R.upd (mo':=.tdict (es++[(kq,d)])) ha hi (λ h=>nomatch h) hs ⟨o,ho⟩ λ kk=>⟨h1,_,⟨o,ds,ep,ho,hx,hdd,he,hn⟩,Vw kk (λ _ _ e=>e) (V6 t vk hq hd.h V)⟩) λ R' X=>?_
 exact q h' _ R' X
theorem w0 {Q:D->zA->Prop}{i:Nat}{a:Addr}{xs:List PyData}{v:Value}{x:PyData}(R:Rel C T s.heap φ μ σ)(I:FrI F s.heap φ μ ρ)(ha:μ[i]?=some a)(hi:σ[i]?=some (.lst xs))(V:VP s.heap φ v x)(hf:Few xs.length)
  (q:Q (.p .none) (σ.set i (.lst (xs++[x])))):wpAny (model C.prog C.w) A (call (.builtin "list.append") [.ref a,v]) (PV C T F s φ μ ρ Q) NoE s:=by
 refine Eeea (R.at_ i a _ ha hi) λ vs k ho hp=>?_
 have hl:=hp.length
 refine wpAny_list_append_plain ⟨k,ho⟩ (λ h' hp' hs=>?_) (by (refine rwE List.size_toArray ?_;refine rwE hl ?_);exact zh hf)
 (refine Ee (hp') λ k' ho'=>?_;try clear hp')
 refine Ea (R.upd (mo':=.lst (xs++[x])) ha hi (λ h=>nomatch h) hs ⟨_,ho'⟩ λ kk=>⟨vs++[v],k',by (refine rwE ho' ?_;refine rwE (List.push_toArray ..) ?_;rfl),(hp.append (.cons V .nil)).mono kk⟩) λ R' X=>?_
 exact ⟨_,_,_,_,Go.of_ext (tk:=s.toks) I R' X,.p .none,q⟩
end
set_option tactic.hygienic false
noncomputable def WG (slice:Expr):Prop:=∀ o i,subscripted slice false o i=operate [o,i] (getItem o i)
theorem wa {a:Int}{n:Nat}(h1:-(n:Int)<=a)(h2:a<=n):a.natAbs<=n:=(Int.natAbs_eq a).elim (λ e=>Int.ofNat_le.mp (Int.le_trans (Int.le_of_eq e.symm) h2)) (λ e=>Int.ofNat_le.mp (Int.neg_le_neg_iff.mp (Int.le_trans h1 (Int.le_of_eq e))))
theorem zAc {n:Nat}{k:Int}{j:Nat}(h:idx n k=some j):k=j∨(k<0/\k + n=j):=by
 cases k with
 | ofNat k=>cases so h;exact .inl rfl
 | negSucc k =>
  have h:(match Nat.blt k n with | true=>some (n - (k + 1)) | false=>none)=some j:=h
  cases e:Nat.blt k n with
  | false=>rw [e] at h;exact nn h
  | true =>
   rw [e] at h
   cases so h
   have:=Nat.le_of_ble_eq_true e
   exact .inr ⟨Int.negSucc_lt_zero k,Int.subNatNat_of_le this⟩
theorem zBb {n:Nat}{k:Int}{j:Nat}(h:idx n k=some j)(hj:j<n):seqIndex? k n=some j:=by
 unfold seqIndex?
 rcases zAc h with rfl | ⟨h0,h1⟩
 ·have h2:(j:Int)<n:=Int.ofNat_lt.mpr hj
  simp only [Int.not_lt.mpr (Int.natCast_nonneg j),if_false,Int.natCast_nonneg,h2,decide_true,Bool.and_self,if_true,Int.toNat_natCast]
 ·have h2:(j:Int)<n:=Int.ofNat_lt.mpr hj
  simp only [h0,if_true,h1,Int.natCast_nonneg,h2,decide_true,Bool.and_self,Int.toNat_natCast]
section
variable {C:Cx}{T:Tabs}{F:Fm}{s s':Shared}{φ φ':Addr->Prop}{μ μ':List Addr}{ρ ρ':Rho}{σ σ':zA}{A:Around}{n:Nat}
theorem zBk {Q:D->zA->Prop}{t:Addr}{vs:List Value}{xs:List PyData}{k:Int}{u:Tok}(R:Rel C T s.heap φ μ σ)(I:FrI F s.heap φ μ ρ)(ht:IsTup s.heap t vs.toArray)(r:VPs s.heap φ vs xs)(sm:Sm k)
  (h:Is ((idx xs.length k).bind λ j=>xs[j]?) λ x=>Q (.p x) σ):wpAny (model C.prog C.w) A (getItem (.ref t) (.int k u)) (PV C T F s φ μ ρ Q) NoE s:=by
 refine Eea (h.h) λ x e q=>?_
 refine Eea (ob e) λ j hj hx=>?_
 refine Eea (r.get hx) λ v hv p=>?_
 exact getItem_tuple ht sm.h.1 sm.h.2 (by (refine rwE List.size_toArray ?_;refine rwE r.length ?_);exact zBb hj (List.getElem?_eq_some_iff.mp hx).1) (List.getElem?_toArray.trans hv) (zx R I (.p p) q)
theorem XN {Q:D->zA->Prop}{t:Addr}{vs:List Value}{xs:List PyData}{k:Int}{u:Tok}(R:Rel C T s.heap φ μ σ)(I:FrI F s.heap φ μ ρ)(ht:s.heap.IsList t vs.toArray)(r:VPs s.heap φ vs xs)(sm:Sm k)
  (h:Is ((idx xs.length k).bind λ j=>xs[j]?) λ x=>Q (.p x) σ):wpAny (model C.prog C.w) A (getItem (.ref t) (.int k u)) (PV C T F s φ μ ρ Q) NoE s:=by
 refine Eea (h.h) λ x e q=>?_
 refine Eea (ob e) λ j hj hx=>?_
 refine Eea (r.get hx) λ v hv p=>?_
 have hl:vs.toArray.size=xs.length:=by (refine rwE List.size_toArray ?_;refine rwE r.length ?_;rfl)
 rcases zAc hj with rfl | ⟨h0,h1⟩
 ·exact wpAny_getItem_list ht (Int.natCast_nonneg j) sm.h.2 (by refine rwE (Int.toNat_natCast ..) ?_;exact List.getElem?_toArray.trans hv) (zx R I (.p p) q)
 ·exact wpAny_getItem_list_neg ht h0 (by refine rwE hl ?_;lia) sm.h.1 (by (refine rwE hl ?_;refine rwE h1 ?_;refine rwE (Int.toNat_natCast ..) ?_);exact List.getElem?_toArray.trans hv) (zx R I (.p p) q)
theorem zDJ {Q:D->zA->Prop}{value slice:Expr}{v w:Value}{x y:D}(hA:Room n A)(hs:WG slice)(R:Rel C T s.heap φ μ σ)(I:FrI F s.heap φ μ ρ)(V:VD s.heap φ μ v x)(W:VD s.heap φ μ w y)
  (h:Yw σ x y λ d=>Q d σ):wpAny (model C.prog C.w) A (subscriptTail value slice v w) (PV C T F s φ μ ρ Q) NoE s:=by
 cases x with
 | p x =>
  refine Eea (h.h) λ xs e h=>?_
  obtain ⟨k,t,_,rfl,sm,h⟩:=zy W h
  obtain ⟨a,vs,rfl,_,r,⟨_,ht⟩ | ⟨_,ht⟩⟩:=yC V.ip e
  ·exact tail_any ht.t.typeIs slot_tuple_getitem.lookup (zBk R I ht.t r sm h) (hs _ _)
  ·exact tail_any ht.typeIs slot_list_getitem.lookup (XN R I ht r sm h) (hs _ _)
 | obj j =>
  (refine Eea (V.iobj) λ a q10q=>?_;obtain rfl:=q10q;intro ha)
  refine Eea (h.h) λ mo hi h=>?_
  cases mo with
  | lst xs =>
   obtain ⟨k,t,_,rfl,sm,h⟩:=zy W h
   refine Eeea (R.at_ _ _ _ ha hi) λ vs k ho hp=>?_
   have ht:s.heap.IsList _ vs.toArray:=⟨_,ho,rfl,_,rfl⟩
   exact tail_any ht.typeIs slot_list_getitem.lookup (XN R I ht hp sm h) (hs _ _)
  | idict es =>
   (refine Eeeaa (zy W h) λ k t _ q16q=>?_;obtain rfl:=q16q;intro h)
   refine Eea (h.h) λ d e q=>?_
   obtain ⟨_,kvs,hm,_⟩:=R.at_ _ _ _ ha hi
   exact tail_any hm.typeIs slot_dict_getitem.lookup (zB5 R I ha hi e q) (hs _ _)
  | tdict es =>
   refine Eeaaa (ju W h) λ k _ W kd h=>?_
   refine Eea (h.h) λ q hq h=>?_
   refine Eea (h.h) λ d e hQ=>?_
   (refine Eeea (W.itup) λ b vs q23q=>?_;obtain rfl:=q23q;intro _)
   obtain ⟨_,xs,⟨o,ds,ep,ho,hx,_⟩,_⟩:=yT R ha hi
   exact tail_any (T:="dict") ⟨o,ho,hx.1⟩ slot_dict_getitem.lookup (zAH hA R I ha hi W kd hq e hQ) (hs _ _)
  | _=>exact h.elim
 | _=>exact h.elim
theorem zCU {Q:D->zA->Prop}{a:Int}{t:Tok}(R:Rel C T s.heap φ μ σ)(I:FrI F s.heap φ μ ρ)(q:Q (.p (.int a.natAbs)) σ) :
  wpAny (model C.prog C.w) A (call (.builtin "abs") [.int a t]) (PV C T F s φ μ ρ Q) NoE s:=by
 refine call_abs_int λ u tk=>?_
 have e:(if a<0 then -a else a)=a.natAbs:=by
  split
  ·next h=>exact (Int.ofNat_natAbs_of_nonpos (Int.le_of_lt h)).symm
  ·next h=>exact (Int.natAbs_of_nonneg (Int.not_lt.mp h)).symm
 refine rwE e ?_
 exact zc R I (.p (.int _ _)) q _
theorem zBF {Q:D->zA->Prop}{a b:Int}{t u:Tok}(hA:A.handled=none)(R:Rel C T s.heap φ μ σ)(I:FrI F s.heap φ μ ρ)(q:Q (.p (.int (zu a [b]))) σ) :
  wpAny (model C.prog C.w) A (call (.builtin "max") [.int a t,.int b u]) (PV C T F s φ μ ρ Q) NoE s:=by
 refine max_two_ints hA λ h' tk k=>?_
 have q:Q (.p (.int (if a<b then b else a))) σ:=q
 by_cases hb:b > a
 ·rw [if_pos hb] at q ⊢;exact qU R I k (.p (.int _ _)) q
 ·rw [if_neg hb] at q ⊢;exact qU R I k (.p (.int _ _)) q
theorem zBI {Q:D->zA->Prop}{a b:Int}{t u:Tok}(hA:A.handled=none)(R:Rel C T s.heap φ μ σ)(I:FrI F s.heap φ μ ρ)(q:Q (.p (.int (ZC a [b]))) σ) :
  wpAny (model C.prog C.w) A (call (.builtin "min") [.int a t,.int b u]) (PV C T F s φ μ ρ Q) NoE s:=by
 refine min_two_ints hA λ h' tk k=>?_
 have q:Q (.p (.int (if b<a then b else a))) σ:=q
 by_cases hb:b<a
 ·rw [if_pos hb] at q ⊢;exact qU R I k (.p (.int _ _)) q
 ·rw [if_neg hb] at q ⊢;exact qU R I k (.p (.int _ _)) q
theorem VF {Q:D->zA->Prop}{a b:Int}{t u:Tok}(R:Rel C T s.heap φ μ σ)(I:FrI F s.heap φ μ ρ)(q:Q (.rng a b) σ) :
  wpAny (model C.prog C.w) A (call (.type "range") [.int a t,.int b u]) (PV C T F s φ μ ρ Q) NoE s:=by
 refine call_range_2 ?_
 refine Eaa (R.pushF {cls:=.type "range",data:=.fields #[.int a t,.int b u,.int 1 s.toks]} rfl) λ R' X g=>?_
 exact ⟨_,μ,_,σ,Go.of_ext (tk:=s.toks + 1) I R' X,.rng (.inr rfl) g,q⟩
theorem vD {Q:D->zA->Prop}{b:Int}{u:Tok}(R:Rel C T s.heap φ μ σ)(I:FrI F s.heap φ μ ρ)(q:Q (.rng 0 b) σ) :
  wpAny (model C.prog C.w) A (call (.type "range") [.int b u]) (PV C T F s φ μ ρ Q) NoE s:=by
 refine call_range_1 ?_
 refine Eaa (R.pushF {cls:=.type "range",data:=.fields #[.int 0 s.toks,.int b u,.int 1 (s.toks + 1)]} rfl) λ R' X g=>?_
 exact ⟨_,μ,_,σ,Go.of_ext (tk:=s.toks + 1 + 1) I R' X,.rng (.inr rfl) g,q⟩
end
end Mine
namespace Mine
open PySem PySem.Calls PyProof PyProof.Rows PySem.W PySem.SeqAt
set_option tactic.hygienic false
section
variable {C:Cx}{T:Tabs}{F:Fm}{s s':Shared}{φ φ' φ'':Addr->Prop}{μ μ' μ'':List Addr}{ρ ρ':Rho}{σ σ':zA}{A:Around}{n:Nat}{h h' h'':Heap}{wr wr':List Addr}{D:Addr}
theorem Rel.but {o:Obj}(R:Rel C T h φ μ σ)(hm:D∉μ)(hf:¬ φ D)(hs:Heap.SameBut D h h')(hD:h'.get? D=some o):Rel C T h' φ μ σ/\Ext h φ μ h' φ μ [D]:=by
 have k:∀ b,φ b->φ b/\h'.get? b=h.get? b:=λ b f=>⟨f,hs.2 b λ e=>hf (e▸f)⟩
 have ex:∀ b o,h.get? b=some o->∃ o',h'.get? b=some o':=λ b o' e=>by
  by_cases q:b=D
  ·exact ⟨o,q▸hD⟩
  ·exact ⟨o',(hs.2 b q).trans e⟩
 refine ⟨⟨λ b o e=>(hs.2 b λ q=>hf (q▸R.base b o e)).trans (R.keep b o e),R.base,λ b f=>let ⟨o,e⟩:=R.frz b f;ex b o e,R.len,R.nodup,λ j b e=>let ⟨o,e'⟩:=R.lt j b e;ex b o e',R.apart,λ j b mo e e'=>?_⟩,
  ⟨k,λ _ f=>.inl f,λ _ _ e=>e,λ _ _ e=>.inl e,ex,λ b o e _ nw=>by (refine rwE (hs.2 b λ q=>nw (by simp [q])) ?_;refine rwE e ?_);exact Kept.refl _⟩⟩
 exact Zb (R.at_ j b mo e e') k (λ _ _ e=>e) (.inr (hs.2 b λ q=>hm (List.mem_iff_getElem?.mpr ⟨j,q▸e⟩)))
theorem Ext.stepF {wr₂ fr fr₂:List Addr}(x:Ext h φ μ h' φ' μ' wr fr)(y:Ext h' φ' μ' h'' φ'' μ'' wr₂ fr₂)(k:∀ b∈wr₂,h.get? b=none∨b∈wr)(kf:∀ b∈fr₂,h.get? b=none∨b∈fr):Ext h φ μ h'' φ'' μ'' wr fr:=by
 have y':Ext h' φ' μ' h'' φ'' μ'' (wr++wr₂) (fr++fr₂):=y.wid (λ b _ m _=>List.mem_append_right _ m) λ b _ m _=>List.mem_append_right _ m
 have x':Ext h φ μ h' φ' μ' (wr++wr₂) (fr++fr₂):=x.wid (λ b _ m _=>List.mem_append_left _ m) λ b _ m _=>List.mem_append_left _ m
 refine (x'.trans y').wid (λ b o m e=>?_) λ b o m e=>?_
 ·exact (List.mem_append.mp m).elim id λ m=>(k b m).elim (λ q=>by rw [e] at q;cases q) id
 ·exact (List.mem_append.mp m).elim id λ m=>(kf b m).elim (λ q=>by rw [e] at q;cases q) id
theorem Ext.step {wr₂ fr:List Addr}(x:Ext h φ μ h' φ' μ' wr fr)(y:Ext h' φ' μ' h'' φ'' μ'' wr₂)(k:∀ b∈wr₂,h.get? b=none∨b∈wr):Ext h φ μ h'' φ'' μ'' wr fr:=x.stepF y k λ _ m=>nomatch m
theorem Rel.adopt {o:Obj}{mo:MO}(R:Rel C T h φ μ σ)(hm:D∉μ)(hf:¬ φ D)(hD:h.get? D=some o)(hmo:qY T C.prog C.w h φ (μ++[D]) D mo) :
  Rel C T h φ (μ++[D]) (σ++[mo])/\(μ++[D])[σ.length]?=some D:=by
 have pre:∀ (i:Nat) (a:Addr),μ[i]?=some a->(μ++[D])[i]?=some a:=λ i a e=>by
  refine rwE (List.getElem?_append_left (List.getElem?_eq_some_iff.mp e).1) ?_;exact e
 have inv:∀ (i:Nat) (a:Addr),(μ++[D])[i]?=some a->μ[i]?=some a∨(i=μ.length/\a=D):=λ i a e=>by
  rcases Nat.lt_trichotomy i μ.length with h | h | h
  ·rw [List.getElem?_append_left h] at e;exact .inl e
  ·subst h;simp at e;exact .inr ⟨rfl,e.symm⟩
  ·rw [List.getElem?_eq_none (by simp;exact h)] at e;cases e
 refine ⟨⟨R.keep,R.base,R.frz,?_,λ i j a ei ej=>?_,λ i a e=>?_,λ i a e f=>?_,λ i a mo' e e'=>?_⟩,?_⟩
 ·(refine rwE List.length_append ?_;refine rwE List.length_append ?_;refine rwE R.len ?_);rfl
 ·rcases inv i a ei with h | ⟨rfl,h⟩ <;> rcases inv j a ej with h' | ⟨rfl,h'⟩
  ·exact R.nodup i j a h h'
  ·exact absurd (List.mem_iff_getElem?.mpr ⟨i,h'▸h⟩) hm
  ·exact absurd (List.mem_iff_getElem?.mpr ⟨j,h▸h'⟩) hm
  ·rfl
 ·rcases inv i a e with h | ⟨_,rfl⟩
  ·exact R.lt i a h
  ·exact ⟨o,hD⟩
 ·rcases inv i a e with h | ⟨_,rfl⟩
  ·have q:=R.apart i a h f
   refine rwE (List.getElem?_append_left (List.getElem?_eq_some_iff.mp q).1) ?_;exact q
  ·exact absurd f hf
 ·rcases inv i a e with h | ⟨rfl,rfl⟩
  ·have hi:i<σ.length:=by refine rwS R.len ?_;exact (List.getElem?_eq_some_iff.mp h).1
   rw [List.getElem?_append_left hi] at e'
   exact Zb (R.at_ i a mo' h e') (λ a f=>⟨f,rfl⟩) pre (.inr rfl)
  ·rw [R.len] at e'
   simp at e'
   subst e'
   exact hmo
 ·refine rwS R.len ?_;simp
theorem Ext.adopt {fr:List Addr}(x:Ext h φ μ h' φ' μ' wr fr)(hD:h.get? D=none):Ext h φ μ h' φ' (μ'++[D]) wr fr:=by
 refine ⟨x.frz,x.new,λ i a e=>?_,λ i a e=>?_,x.ex,x.oth⟩
 ·have:=x.pre i a e
  refine rwE (List.getElem?_append_left (List.getElem?_eq_some_iff.mp this).1) ?_;exact this
 ·rcases Nat.lt_trichotomy i μ'.length with h | h | h
  ·rw [List.getElem?_append_left h] at e;exact x.fresh i a e
  ·subst h;simp at e;exact .inr (e▸hD)
  ·rw [List.getElem?_eq_none (by simp;exact h)] at e;cases e
theorem Ext.more {fr:List Addr}(x:Ext h φ μ h' φ' μ' wr fr)(hD:h.get? D=none):Ext h φ μ h' (λ a=>φ' a∨a=D) μ' wr fr :=
 ⟨λ a f=>⟨.inl (x.frz a f).1,(x.frz a f).2⟩,λ a f=>f.elim (x.new a) λ e=>.inr (.inl (e▸hD)),x.pre,x.fresh,x.ex,x.oth⟩
end
section
variable {C:Cx}{T:Tabs}{F:Fm}{s s':Shared}{φ φ' φ'':Addr->Prop}{μ μ' μ'':List Addr}{ρ ρ':Rho}{σ σ':zA}{A:Around}{n:Nat}
theorem Go.push (R:Rel C T s.heap φ μ σ)(I:FrI F s.heap φ μ ρ)(o:Obj):Go C T F s φ μ {s with heap:=s.heap.push o} φ μ ρ σ :=
 let ⟨R',X⟩:=R.grow (h':=s.heap.push o) λ _ _ e=>Heap.get?_push_of_some _ e
 Go.of_ext (tk:=s.toks) I R' X
theorem Jw {Q:D->zA->Prop}{value slice:Expr}{t sl:Addr}{vs:List Value}{ys:List PyData}{vl vu:Value}{lo hi:Option Int}(hs:∀ o i,subscripted slice false o i=operate [i,o] (getItem o i))
  (R:Rel C T s.heap φ μ σ) (I:FrI F s.heap φ μ ρ) (ht:s.heap.IsList t vs.toArray) (hz:vs.length<=sizeLine)
  (hsl:s.heap.IsSliceOf sl vl vu .none) (pl:IsPart vl lo) (pu:IsPart vu hi) {zs:List Value} (e:slicePick vs.toArray lo hi none=zs.toArray) (r:VPs s.heap φ zs ys) (q:Q (.p (.list ys)) σ) :
  wpAny (model C.prog C.w) A (subscriptTail value slice (.ref t) (.ref sl)) (PV C T F s φ μ ρ Q) NoE s:=by
 refine tail_any ht.typeIs slot_list_getitem.lookup (wpAny_getItem_list_slice ht hsl pl pu .none (by simp) ?_ (by refine rwE List.size_toArray ?_;exact hz)) (hs _ _)
 refine rwE e ?_
 refine Eaa (R.pushF {cls:=.type "list",data:=.seq zs.toArray} rfl) λ R' X g=>?_
 exact ⟨_,μ,_,σ,Go.of_ext (tk:=s.toks) I R' X,.p (.lst (.inr rfl) ⟨_,g,rfl,_,rfl⟩ (X.vps r)),q⟩
theorem Wt {vs:List Value}{k:Int}(h:0<=k):slicePick vs.toArray none (some k) none=(vs.take k.toNat).toArray:=by
 have:=slicePick_upto' vs.toArray k.toNat
 rwa [Int.toNat_of_nonneg h] at this
theorem Wv {vs:List Value}{k:Int}(h:0<=k):slicePick vs.toArray (some k) none none=(vs.drop k.toNat).toArray:=by
 have:=slicePick_from' vs.toArray k.toNat
 rwa [Int.toNat_of_nonneg h] at this
theorem wz (R:Rel C T s.heap φ μ σ){a:Addr}{i:Nat}{xs:List PyData}(ha:μ[i]?=some a)(e:σ[i]?.bind z0=some xs):∃ vs,s.heap.IsList a vs.toArray/\VPs s.heap φ vs xs:=by
 refine Eeea (y2 R ha e) λ vs k ho hp=>?_
 exact ⟨vs,⟨_,ho,rfl,_,rfl⟩,hp⟩
theorem zB7 {Q:D->zA->Prop}{value slice:Expr}{v w:Value}{x y:D}(hs:∀ o i,subscripted slice false o i=operate [i,o] (getItem o i))(R:Rel C T s.heap φ μ σ)(I:FrI F s.heap φ μ ρ)
  (V:VD s.heap φ μ v x) (W:VD s.heap φ μ w y) (h:YX σ x y λ d=>Q d σ) :
  wpAny (model C.prog C.w) A (subscriptTail value slice v (.ref s.heap.objs.size)) (PV C T F s φ μ ρ Q) NoE {s with heap:=s.heap.push {cls:=.type "slice",data:=.fields #[.none,w,.none]}}:=by
 have G:=Go.push R I {cls:=.type "slice",data:=.fields #[.none,w,.none]}
 have V':=G.ext.vd V
 (refine Eeeaa (zy W h) λ k t q3q=>?_;obtain rfl:=q3q;intro q4q;obtain rfl:=q4q;intro h)
 have lst:∀ {a:Addr} {vs:List Value} {xs:List PyData},(s.heap.push {cls:=.type "slice",data:=.fields #[.none,.int k t,.none]}).IsList a vs.toArray->VPs (s.heap.push {cls:=.type "slice",data:=.fields #[.none,.int k t,.none]}) φ vs xs->(Sm k/\0<=k/\Few xs.length/\Q (.p (.list (xs.take k.toNat))) σ) ->
   wpAny (model C.prog C.w) A (subscriptTail value slice (.ref a) (.ref s.heap.objs.size)) (PV C T F s φ μ ρ Q) NoE {s with heap:=s.heap.push {cls:=.type "slice",data:=.fields #[.none,.int k t,.none]}}:=λ ht r h =>
  wpAny_mono (Jw (Q:=Q) hs G.rel G.fr ht (by refine rwE r.length ?_;exact zh h.2.2.1) (Heap.IsSliceOf.new ..) .none (.int k t) (Wt h.2.1) (r.take _) h.2.2.2) (λ _ _ p=>PV.up G p) λ _ _ p=>p
 cases x with
 | p x=>cases x with
  | str x' =>
   (refine qN (h) λ sm hf ok q=>?_;try clear h)
   (refine Eea (V.ip.istr) λ u q7q=>?_;obtain rfl:=q7q;intro _)
   refine tail_any (typeIs_str _ _ _) PySem.F.slot_str_getitem.lookup (wpAny_getItem_str_slice (l:=none) (u:=some (k,t)) (st:=none) ⟨_,Heap.get?_push_size _ rfl,rfl,rfl⟩ rfl
    (post_val_or_str ⟨Nat.le_trans (Txt.slice_le x' _ _) (zh hf),λ t' k'=>?_⟩)) (hs _ _)
   exact PV.up G (zc G.rel G.fr (.p (.str _ _ ok)) q k')
  | list xs=>(refine Eeeaaa (V'.ip.ilst) λ a vs q9q=>?_;obtain rfl:=q9q;intro f ht r);exact lst ht r h
  | _=>exact h.elim
 | obj i =>
  refine Eea (h.h) λ xs e h=>?_
  (refine Eea (V.iobj) λ a q12q=>?_;obtain rfl:=q12q;intro ha)
  refine Eea (wz G.rel ha e) λ vs ht r=>?_
  exact lst ht r h
 | _=>exact h.elim
theorem zBX {Q:D->zA->Prop}{value slice:Expr}{v w:Value}{x y:D}(hs:∀ o i,subscripted slice false o i=operate [i,o] (getItem o i))(R:Rel C T s.heap φ μ σ)(I:FrI F s.heap φ μ ρ)
  (V:VD s.heap φ μ v x) (W:VD s.heap φ μ w y) (h:YZ σ x y λ d=>Q d σ) :
  wpAny (model C.prog C.w) A (subscriptTail value slice v (.ref s.heap.objs.size)) (PV C T F s φ μ ρ Q) NoE {s with heap:=s.heap.push {cls:=.type "slice",data:=.fields #[w,.none,.none]}}:=by
 have G:=Go.push R I {cls:=.type "slice",data:=.fields #[w,.none,.none]}
 have V':=G.ext.vd V
 (refine Eeeaa (zy W h) λ k t q15q=>?_;obtain rfl:=q15q;intro q16q;obtain rfl:=q16q;intro h)
 have lst:∀ {a:Addr} {vs:List Value} {xs:List PyData},(s.heap.push {cls:=.type "slice",data:=.fields #[.int k t,.none,.none]}).IsList a vs.toArray->VPs (s.heap.push {cls:=.type "slice",data:=.fields #[.int k t,.none,.none]}) φ vs xs->(Sm k/\0<=k/\Few xs.length/\Q (.p (.list (xs.drop k.toNat))) σ) ->
   wpAny (model C.prog C.w) A (subscriptTail value slice (.ref a) (.ref s.heap.objs.size)) (PV C T F s φ μ ρ Q) NoE {s with heap:=s.heap.push {cls:=.type "slice",data:=.fields #[.int k t,.none,.none]}}:=λ ht r h =>
  wpAny_mono (Jw (Q:=Q) hs G.rel G.fr ht (by refine rwE r.length ?_;exact zh h.2.2.1) (Heap.IsSliceOf.new ..) (.int k t) .none (Wv h.2.1) (r.drop _) h.2.2.2) (λ _ _ p=>PV.up G p) λ _ _ p=>p
 cases x with
 | p x=>cases x with
  | tuple xs =>
   (refine ub (h) λ sm h1 hle hf q=>?_;try clear h)
   (refine Eeeaaa (V'.ip.itup) λ a vs q19q=>?_;obtain rfl:=q19q;intro f ht r)
   have hl:=r.length
   refine tail_any ht.t.typeIs slot_tuple_getitem.lookup (getItem_tuple_from (a:=k.toNat) (u:=t) ht.t ?_ (by lia) (by (refine rwE List.size_toArray ?_;refine rwE hl ?_);exact lin [k.toNat,xs.length] [k] (.v 0) (.v 1) [(1,.L (.v 0) (.c (.v 1))),(1,.E (.c (.v 0)) (.v 0))] tT9 hle (Int.toNat_of_nonneg (liZ [] [_] (.k 0) (.v 0) [(1,.L (.k 1) (.v 0))] tT9 h1))) ?_ (by (refine rwE List.size_toArray ?_;refine rwE hl ?_);exact zh hf)) (hs _ _)
   ·refine rwE (Int.toNat_of_nonneg (by exact Int.le_of_lt h1)) ?_;exact Heap.IsSliceOf.new ..
   ·refine Eaa (G.rel.pushF {cls:=.type "tuple",data:=.seq (List.drop k.toNat (List.toArray vs).toList).toArray} rfl) λ R' X g=>?_
    refine PV.up G ⟨_,μ,_,σ,Go.of_ext (tk:=s.toks) G.fr R' X,.p (.tup (vs:=List.drop k.toNat vs) (.inr rfl) (Tup.new g) ((X.vps r).drop _)),q⟩
  | list xs=>(refine Eeeaaa (V'.ip.ilst) λ a vs q22q=>?_;obtain rfl:=q22q;intro f ht r);exact lst ht r h
  | _=>exact h.elim
 | obj i =>
  refine Eea (h.h) λ xs e h=>?_
  (refine Eea (V.iobj) λ a q25q=>?_;obtain rfl:=q25q;intro ha)
  refine Eea (wz G.rel ha e) λ vs ht r=>?_
  exact lst ht r h
 | _=>exact h.elim
theorem Jh (x:String):PyData.strOk (Str.ofString x)=true:=by
 refine rwE (Str.ofString_eq_toList ..) ?_
 unfold PyData.strOk
 simp only [List.all_toArray,List.all_map,List.all_eq_true,Function.comp,decide_eq_true_eq]
 intro c _
 have:=c.valid
 have e:c.toNat=c.val.toNat:=rfl
 refine rwE e ?_
 rcases this with h | h
 ·exact Nat.le_trans h (nB9 rfl)
 ·have:=h.2;exact this
theorem Yb {x y:Str}(hx:PyData.strOk x=true)(hy:PyData.strOk y=true):PyData.strOk (x++y)=true:=by
 unfold PyData.strOk at *
 show (x.cps++y.cps).all _=true
 (refine rwE Array.all_append ?_;refine rwE hx ?_;refine rwE hy ?_);rfl
theorem zDp {i:Int}(h:Sm i):i.natAbs.log2<1920:=by
 by_cases hz:i.natAbs=0
 ·refine rwE hz ?_;decide
 ·have h2:i.natAbs<2 ^ 1920:=Nat.lt_of_lt_of_le (m:=2 ^ 64) (Nat.lt_of_le_of_lt (wa (n:=9223372036854775808) h.1 (Int.le_of_lt h.2)) (oD9 rfl)) (Nat.pow_le_pow_right (by decide) (by decide))
  exact (Nat.log2_lt hz).mpr h2
theorem zBG {Q:D->zA->Prop}{pre:Str}{e:Expr}{k:Nat}{pos pos' pos'':Pos}{W:D->zA->Prop}(hp:PyData.strOk pre=true/\pre.length<=1000)
  (he:DX C T F A (eval e F.env) ρ σ W) (hW:∀ d σ',W d σ'->onI d λ i=>Sm i/\Q (.p (.str (pre++Str.ofString (toString i)))) σ') :
  DX C T F A (eval (.JoinedStr [.Constant (.str pre) k pos,.FormattedValue e (-1) none pos'] pos'') F.env) ρ σ Q:=by
 intro s φ μ R I
 refine wpAny_JoinedStr ?_
 show wpAny _ A (eval (.Constant (.str pre) k pos) F.env) _ NoE s
 refine wpAny_Constant_str ?_
 refine ⟨pre,_,rfl,by refine rwE (Str.empty_append ..) ?_;have:=hp.2;refine rwE sizeLine_eq ?_;exact Nat.le_trans this (nB9 rfl),?_⟩
 show wpAny _ A (eval (.FormattedValue e (-1) none pos') F.env) _ NoE _
 have G0:Go C T F s φ μ {s with toks:=s.toks + 1} φ μ ρ σ:=(Go.refl R I).tok _
 refine wpAny_FormattedValue_plain (he.seq G0.rel G0.fr λ s' φ' μ' v d σ' G V q=>?_)
 obtain ⟨i,t,rfl,rfl,sm,q⟩:=zy V (hW d σ' q)
 have hl:=zDp sm
 have hz:=int_text_length_le (k:=1920) (by decide) hl
 refine wpAny_formatField_int hl ?_
 have ok:PyData.strOk (pre++Str.ofString (toString i))=true:=Yb hp.1 (Jh _)
 have hlen:(pre++Str.ofString (toString i)).length<=sizeLine:=by
  (refine rwE (strLen_append ..) ?_;refine rwE (PySem.ofString_length ..) ?_;refine rwE sizeLine_eq ?_)
  have:=hp.2
  exact lin [pre.length,(toString i).length] [] (.a (.v 0) (.v 1)) (.k 16777216) [(1,.l (.v 0) (.k 1000)),(1,.l (.v 1) (.a (.k 1920) (.k 1)))] tT9 hp.2 hz
 refine rwE (Str.empty_append ..) ?_
 exact ⟨_,_,rfl,hlen,hlen,φ',μ',_,σ',(G0.trans G).tok _,.p (.str _ _ ok),q⟩
end
theorem uR:typeLookup (.type "tuple") "keys"=pure none:=am_miss_of_fast (by decide +kernel)
section
variable {prog:Program}{w:World}{A:Around}{E:Value->Shared->Prop}{s:Shared}
theorem uQ {a:Addr}{items:Array Value}{Q:Option Value->Shared->Prop}(ht:s.heap.IsTuple a items)(hd:∀ o,s.heap.get? a=some o->o.dict=none)(hA:A.handled=none)
  (h:∀ h' tk,(∀ b o,s.heap.get? b=some o->h'.get? b=some o)->Q none {s with heap:=h',toks:=tk}):wpAny (model prog w) A (getAttr? (.ref a) "keys") Q E s:=by
 obtain ⟨o,hx,hc,k,hdat⟩:=ht
 have hd:=hd _ hx
 obtain ⟨c,dct,dat,sl⟩:=o
 simp only at hc hdat hd
 subst hc hdat hd
 obtain ⟨hp,g,d,tk,os⟩:=s
 have hT:∀ tk',(⟨hp,g,d,tk',os⟩:Shared).TypeIs (.ref a) "tuple":=λ _=>⟨_,hx,rfl⟩
 have f1:=sub_AttributeError
 have f3:=F.slot_tuple_getattribute.lookup
 have f4:=F.slot_tuple_getattribute.bind (.ref a)
 have f5:=am_tuple_getattr_none
 unfold getAttr? getAttrBy? getAttrBy
 repeat (any_goals (first | assumption | exact hT _ | ((with_reducible show wpAny _ _ (call (Value.builtin "tuple.__getattribute__") _ _) _ _ _);refine call_meets F.slot_tuple_getattribute (hT _) am_entry_tuple_getattribute (F.args_tuple_getattribute_2 _ _) (meets_getattribute_miss_tuple a items k sl _ _ uR (by decide +kernel) (by decide)) ⟨hx,hA,λ h' tk' e hx'=>?_⟩) | wp_step))
 refine Eee (hx'.there) λ t' u' he=>?_
 show wpAny _ _ (getattributeRaised _ _ _ _ _ _ _) _ _ _
 unfold getattributeRaised
 repeat (any_goals (first | assumption | wp_step))
 exact h _ _ hx'.keeps
end
theorem Zx:entryFor table "dict.update.loop"=some Builtin.«dict.update.loop»:=entryFor_of_fast (by kernel_rfl)
theorem z8:plainId "dict.update.loop"=true:=by decide +kernel
theorem Y6 {x:PyData}{xs:List PyData}{es:List (Int×D)}(e:Zv (x::xs)=some es):∃ k y es',x=.tuple [.int k,y]/\Zv xs=some es'/\es=(k,.p y)::es':=by
 refine Eea (ob e) λ ys e1 e2=>?_
 refine Eea (ob e2) λ p e3 e4=>?_
 refine Eea (ob e4) λ k e5 e6=>?_
 refine Eea (ob e6) λ l e7 e8=>?_
 obtain ⟨p1,p2⟩:=p
 cases Y1 e1
 cases Vu e3
 cases JY e5
 exact ⟨k,p2,l,rfl,e7,(so e8).symm⟩
section
variable {C:Cx}{T:Tabs}{F:Fm}{s s':Shared}{φ φ':Addr->Prop}{μ μ':List Addr}{ρ ρ':Rho}{σ σ':zA}{A:Around}{n:Nat}
theorem vV {h₀:Heap}{B I ax:Addr}{vs:List Value}{RR:Result->Shared->Prop}(hh:A.handled=none)(hBI:B≠I)(hBa:B≠ax)(hne:ax≠I)(hI0:h₀.get? I=none)(hB0:h₀.get? B=none) :
  ∀ (ys:List PyData) (us:List Value) (i:Nat) (es':List (Int×D)) (kvs:List (Int×Value)) (es:List (Int×D)) (s:Shared) (t:Tok),vs.drop i=us->VPs h₀ φ us ys->Zv ys=some es'->((es++es').map (·.1)).Nodup->(es++es').length<=sizeLine ->
   (∀ b o,h₀.get? b=some o->s.heap.get? b=some o)->(s.heap.IsTupleIter I ax i/\s.heap.IsTuple ax vs.toArray)->s.heap.DictOf (intKind C.prog C.w) B kvs->IEs h₀ φ μ kvs es ->
   (∀ h' tk kvs',h'.DictOf (intKind C.prog C.w) B kvs'->IEs h₀ φ μ kvs' (es++es')->(∀ b o,h₀.get? b=some o->h'.get? b=some o)->RR (.ok (.ret .none)) {s with heap:=h',toks:=tk}) ->
   codeAny (model C.prog C.w) A (.builtin "dict.update.loop" ⟨[.ref B,.ref I,.int i t,.none],[]⟩) RR s:=by
 have W:=Walks.tuple (prog:=C.prog) (w:=C.w) (A:=A.in1) hh I ax hne vs.toArray
 intro ys
 induction ys with
 | nil =>
  intro us i es' kvs es s t hd hv hp hn hl hk hst hm he hR
  cases hv.inil
  cases so hp
  have hi:vs.toArray.size<=i:=by refine rwE List.size_toArray ?_;exact List.drop_eq_nil_iff.mp hd
  refine codeAny_builtin Zx ?_
  refine rwE (Around.under_plainId z8 _) ?_
  show wpAny _ A.in1 (pyNext (.ref I) >>= _) _ _ s
  refine wpAny_bind (wpAny_pyNext_tuple_end hh hst.1 hst.2 (by simpa using hi) λ h' he'=>?_)
  show wpAny _ A.in1 (Builtin.Dict.addKeywords B [] >>= _) _ _ _
  refine wpAny_bind (wpAny_pure (wpAny_pure ?_))
  rw [List.append_nil] at hR
  exact hR h' s.toks kvs (hm.extBut he' hBI) he λ b o e=>he' b o (by rintro rfl;rw [hI0] at e;cases e) (hk b o e)
 | cons y ys ih =>
  intro us i es' kvs es s t hd hv hp hn hl hk hst hm he hR
  (refine Eeeeaa (Y6 hp) λ k x es₂ q10q=>?_;obtain rfl:=q10q;intro hp' q11q;obtain rfl:=q11q)
  (refine Eeeaa (hv.icons) λ v us q13q=>?_;obtain rfl:=q13q;intro p r)
  (refine Eeeaaa (p.itup) λ a ws q15q=>?_;obtain rfl:=q15q;intro f ht rr)
  (refine Eeeaa (rr.icons) λ v1 ws q17q=>?_;obtain rfl:=q17q;intro p1 r1)
  (refine Ee (p1.iint) λ tk1 q19q=>?_;obtain rfl:=q19q)
  (refine Eeeaa (r1.icons) λ v2 ws q21q=>?_;obtain rfl:=q21q;intro p2 r2)
  cases r2.inil
  have hlt:i<vs.length:=by
   rcases Nat.lt_or_ge i vs.length with h | h
   ·exact h
   ·rw [List.drop_eq_nil_iff.mpr h] at hd;cases hd
  have hvi:vs[i]?=some (.ref a):=by
   have:=congrArg (λ l=>l[0]?) hd
   simpa using this
  have hd':vs.drop (i + 1)=us:=by
   (refine rwS List.drop_drop ?_;refine rwE hd ?_);rfl
  refine codeAny_builtin Zx ?_
  refine rwE (Around.under_plainId z8 _) ?_
  show wpAny _ A.in1 (pyNext (.ref I) >>= _) _ _ s
  refine wpAny_bind (wpAny_pyNext_tuple_item hst.1 hst.2 (x:=.ref a) (by simpa using hvi) λ h' hit' hs'=>?_)
  have hk':∀ b o,h₀.get? b=some o->h'.get? b=some o:=λ b o e=>hs'.extBut b o (by rintro rfl;rw [hI0] at e;cases e) (hk b o e)
  obtain ⟨o,ho,hc,nn,hdat⟩:=id ht.t
  have ho':=hk' _ _ ho
  have hT:({s with heap:=h'}:Shared).TypeIs (.ref a) "tuple":=⟨o,ho',hc⟩
  show wpAny _ A.in1 (holding [.ref a] _ >>= λ _=>_) _ _ _
  refine wpAny_bind (wpAny_holding ?_)
  show wpAny _ A.in1 (tryCatch (Builtin.Dict.pairItems (.ref a)) _ >>= _) _ _ _
  refine wpAny_bind (wpAny_tryCatch ?_)
  unfold Builtin.Dict.pairItems
  refine wpAny_bind (wpAny_typeOf hT ?_)
  show wpAny _ _ (seqItems? (.ref a) >>= _) _ _ _
  refine wpAny_bind (wpAny_seqItems ho' hdat (wpAny_pure ?_))
  show wpAny _ _ (holding [.int k tk1,v2] (dictSet B (.int k tk1) v2)) _ _ _
  have hnk:k∉es.map (·.1):=by
   rw [List.map_append,List.nodup_append] at hn
   intro hm'
   exact hn.2.2 k hm' k (by simp) rfl
  have hnone:valueAt kvs k=none:=by
   rcases yg he k with ⟨d,_,hd,_⟩ | ⟨_,this⟩
   ·unfold zS at hd
    rw [Option.map_eq_some_iff] at hd
    (refine Eea (hd) λ e h1 _=>?_;try clear hd)
    have h2:=List.find?_some h1
    exact absurd (List.mem_map.mpr ⟨e,List.mem_of_find?_eq_some h1,by simpa using h2⟩) hnk
   ·exact this
  have hlen:=yh he
  refine wpAny_holding (wpAny_dictSet_pairs (s:={s with heap:=h'}) (Z7 k tk1) (hm.sameBut hs' hBI) (λ h'' hm'' hs''=>?_) (by refine rwE hlen ?_;rw [List.length_append] at hl;exact Nat.le_trans (Nat.le_add_right _ _) hl))
  rw [wS hnone] at hm''
  refine wpAny_pure ⟨plainId_quiet z8 _,ih us (i + 1) es₂ _ (es++[(k,.p x)]) _ _ hd' r hp' (by simpa using hn) (by simpa using hl) (λ b o e=>hs''.extBut b o (by rintro rfl;rw [hB0] at e;cases e) (hk' b o e)) ?_ hm'' (uq he (.p p2)) λ h3 tk3 kvs3 a1 a2 a3=>?_⟩
  ·exact ⟨hit'.extBut hs''.extBut (Ne.symm hBI),(hst.2.extBut hs'.extBut hne).extBut hs''.extBut (Ne.symm hBa)⟩
  ·exact hR h3 tk3 kvs3 a1 (by simpa using a2) a3
theorem yv:∀ {xs:List PyData} {es:List (Int×D)},Zv xs=some es->es.length=xs.length
 | [],es,e=>by cases e;rfl
 | x::xs,es,e=>by (refine Eeeeaa (Y6 e) λ k y es' q25q=>?_;obtain rfl:=q25q;intro h q26q;obtain rfl:=q26q);simp [yv h]
theorem zAM {Q:D->zA->Prop}{v:Value}{xs:List PyData}{es:List (Int×D)}(hA:A.handled=none)(hsm:sysModules<s.heap.objs.size)(R:Rel C T s.heap φ μ σ)(I:FrI F s.heap φ μ ρ)(V:VP s.heap φ v (.tuple xs))(e:Zv xs=some es)(nd:(es.map (·.1)).Nodup)(hf:Few xs.length)
  (q:Q (.obj σ.length) (σ++[.idict es])):wpAny (model C.prog C.w) A (call (.type "dict") [v]) (PV C T F s φ μ ρ Q) NoE s:=by
 (refine Eeeaaa (V.itup) λ a vs q28q=>?_;obtain rfl:=q28q;intro f ht r)
 ·skip
  refine callType_codes (Q₁:=λ obj s₁=>obj=.ref s.heap.objs.size/\s₁={s with heap:=s.heap.push {cls:=.type "dict",data:=.dict #[]}}) PySem.F.kt_called_dict (PySem.F.kt_typeCall_dict_1 _) PySem.F.entry_dict_init (kt_code_dict_new _ ⟨rfl,rfl⟩) ?_
  rintro obj s₁ ⟨rfl,rfl⟩
  have hnew:(s.heap.push {cls:=.type "dict",data:=.dict #[]}).DictOf (intKind C.prog C.w) s.heap.objs.size []:=Heap.DictOf.new s.heap
  refine ⟨hnew.typeIs,PySem.F.args_dict_init_2 _ _,?_⟩
  unfold Builtin.«dict.__init__»
  refine wpAny_bind ?_
  unfold Builtin.Dict.selfAndRest
  refine wpAny_bind (wpAny_notOrdered_dict hnew.typeIs ?_)
  show wpAny _ _ (pure (s.heap.objs.size,[Value.ref a])) _ _ _
  refine wpAny_pure ?_
  show wpAny _ _ (Builtin.Dict.updateFrom "dict.__init__" s.heap.objs.size (.ref a) [] .none) _ _ _
  unfold Builtin.Dict.updateFrom
  have k1:∀ b o,s.heap.get? b=some o->(s.heap.push {cls:=.type "dict",data:=.dict #[]}).get? b=some o:=λ b o e=>Heap.get?_push_of_some _ e
  have ht1:IsTup (s.heap.push {cls:=.type "dict",data:=.dict #[]}) a vs.toArray:=ht.t.push _
  obtain ⟨o,ho,hc,nn,hdat⟩:=id ht.t
  have ho1:=k1 _ _ ho
  refine wpAny_bind (wpAny_typeOf (T:="tuple") ⟨o,ho1,hc⟩ ?_)
  refine rwE (if_pos (by decide)) ?_
  refine wpAny_bind (uQ (items:=vs.toArray) ⟨o,ho1,hc,nn,hdat⟩ (λ o' e=>by rw [ho1] at e;cases e;exact ht.p _ ho) hA λ h2 tk2 k2=>?_)
  have ho2:=k2 _ _ ho1
  have hal:a<h2.objs.size:=Heap.lt_size ho2
  have hBl:s.heap.objs.size<h2.objs.size:=Heap.lt_size (k2 _ _ (Heap.get?_push_size _ rfl))
  have hBa:s.heap.objs.size≠a:=λ e=>Nat.lt_irrefl _ (e▸Heap.lt_size ho)
  refine wpAny_bind (wpAny_rule (wpAny_bind (wpAny_pyIter_tuple (items:=vs.toArray) ⟨o,ho2,hc,nn,hdat⟩ ?_)))
  have hI0:s.heap.get? h2.objs.size=none:=Heap.get?_none_of_le (Nat.le_of_lt hBl)
  have hfin:∀ h' tk kvs',h'.DictOf (intKind C.prog C.w) s.heap.objs.size kvs'->IEs s.heap φ μ kvs' es->(∀ b o,s.heap.get? b=some o->h'.get? b=some o) ->
    PV C T F s φ μ ρ Q (.ref s.heap.objs.size) {s with heap:=h',toks:=tk}:=λ h' tk kvs' a1 a2 a3=>by
   obtain ⟨o',ho'⟩:∃ o',h'.get? s.heap.objs.size=some o':=by (refine Eeeea (a1) λ o' _ _ e _=>?_;try clear a1);exact ⟨o',e⟩
   refine Eaa (R.newM (D:=s.heap.objs.size) a3 (zi _) o' ho' (.idict es) λ kk=>⟨by simpa using Nat.ne_of_gt hsm,kvs',a1,UL kk (λ i a e=>by refine rwE (List.getElem?_append_left (List.getElem?_eq_some_iff.mp e).1) ?_;exact e) a2⟩) λ R' X g=>?_
   exact ⟨_,_,_,_,Go.of_ext I R' X,.obj g,q⟩
  have hst:(h2.push {cls:=.type "tuple_iterator",data:=.fields #[.ref a,.int 0 0]}).IsTupleIter h2.objs.size a 0/\(h2.push {cls:=.type "tuple_iterator",data:=.fields #[.ref a,.int 0 0]}).IsTuple a vs.toArray :=
   ⟨⟨_,Heap.get?_push_size _ rfl,rfl,rfl⟩,⟨o,Heap.get?_push_of_some _ ho2,hc,nn,hdat⟩⟩
  have hm2:(h2.push {cls:=.type "tuple_iterator",data:=.fields #[.ref a,.int 0 0]}).DictOf (intKind C.prog C.w) s.heap.objs.size []:=(hnew.at λ o e=>k2 _ _ e).push _
  refine wpAny_pure ⟨plainId_quiet z8 _,vV (C:=C) (A:=A.in1) (h₀:=s.heap) (μ:=μ) (i:=0) (kvs:=[]) (es:=[]) hA (Nat.ne_of_lt hBl) hBa (Nat.ne_of_lt hal) hI0 (zi _) xs vs (es':=es) _ _ rfl r e (by simpa using nd)
   (by (refine rwE (List.nil_append ..) ?_;refine rwE (yv e) ?_);exact zh hf) (λ b o e=>Heap.get?_push_of_some _ (k2 _ _ (k1 _ _ e))) hst hm2 .nil λ h' tk kvs' a1 a2 a3=>?_⟩
  exact ⟨rfl,hfin h' tk kvs' a1 a2 a3⟩
end
section
variable {C:Cx}{T:Tabs}{F:Fm}{s s' s₁:Shared}{φ φ' φ₁:Addr->Prop}{μ μ' μ₁:List Addr}{ρ ρ' ρ₁:Rho}{σ σ' σ₁:zA}{A:Around}{n:Nat}{B:Addr}
theorem FrI.ne_locals (I:FrI F s.heap φ μ ρ)(h:s.heap.get? B=none):F.env.locals≠B:=λ e=>by
 (refine Eea (I.loc) λ m q1q=>?_;(refine Eeeea (q1q) λ o _ _ ho _=>?_;try clear q1q);intro _)
 rw [e,h] at ho;cases ho
theorem FrI.ne_cells (I:FrI F s.heap φ μ ρ)(h:s.heap.get? B=none){y:Str}{c:Addr}(hc:F.env.cells.lookup y=some c):c≠B:=λ e=>by
 (refine Ea (I.cμ y c hc) λ q4q=>?_;(refine Ee (q4q) λ o ho=>?_;try clear q4q);intro _)
 rw [e,h] at ho;cases ho
theorem FrI.ne_own (I:FrI F s.heap φ μ ρ)(h:s.heap.get? B=none):B∉F.env.locals::F.own:=λ m=>by
 rcases List.mem_cons.mp m with e | m
 ·exact I.ne_locals h e.symm
 ·refine Ee (I.own _ m) λ o ho=>?_
  rw [h] at ho;cases ho
theorem Go.but {o:Obj}{h':Heap}{tk:Nat}(I:FrI F s.heap φ μ ρ)(G:Go C T F s φ μ s₁ φ₁ μ₁ ρ₁ σ₁)(hf:s.heap.get? B=none)(nm:B∉μ₁)(nf:¬ φ₁ B)(hs:Heap.SameBut B s₁.heap h')(hB:h'.get? B=some o) :
  Go C T F s φ μ {s₁ with heap:=h',toks:=tk} φ₁ μ₁ ρ₁ σ₁:=by
 refine Ea (G.rel.but nm nf hs hB) λ R' X=>?_
 (refine Eee (G.st) λ h tk' q9q=>?_;obtain rfl:=q9q)
 refine ⟨⟨h',tk,rfl⟩,R',G.fr.ext X (by simpa using I.ne_locals hf) (λ y c hc=>by simpa using I.ne_cells hf hc) (λ v L hv hl _=>by simpa using I.ne_out hf hv hl),G.ext.step X λ b hb=>?_⟩
 rw [List.mem_singleton] at hb
 subst hb
 exact .inl hf
theorem FrI.adopt {h:Heap}(I:FrI F h φ μ ρ)(hL:F.env.locals≠B)(hc:∀ y c,F.env.cells.lookup y=some c->c≠B)(ho:∀ v L,v∈F.fs->v.frame=some L->L≠B):FrI F h φ (μ++[B]) ρ:=by
 have pre:∀ (i:Nat) (a:Addr),μ[i]?=some a->(μ++[B])[i]?=some a:=λ i a e=>by
  refine rwE (List.getElem?_append_left (List.getElem?_eq_some_iff.mp e).1) ?_;exact e
 have k:∀ a,φ a->φ a/\h.get? a=h.get? a:=λ a f=>⟨f,rfl⟩
 refine Eea (I.loc) λ m hn hm=>?_
 refine ⟨I.kind,I.glob,I.blt,I.len,⟨m,hn,λ i y hi=>⟨(hm i y hi).1,(hm i y hi).2.mono k pre⟩⟩,λ i y kk hi hk=>?_,I.uniq,λ m=>?_,I.Lφ,λ y c hy=>?_,I.cinj,I.own,I.outsK λ v L o hv hf h1 h2 h3 _ _=>⟨⟨o,h1,rfl⟩,λ m=>(List.mem_append.mp m).elim h2 λ m=>ho v L hv hf (by simpa using m),h3⟩⟩
 ·obtain ⟨h1,c,v,hc1,hc2,hc3,hc4⟩:=I.cell i y kk hi hk
  exact ⟨h1,c,v,hc1,hc2,hc3.mono k pre,hc4⟩
 ·rcases List.mem_append.mp m with m | m
  ·exact I.Lμ m
  ·exact hL (by simpa using m)
 ·refine qN (I.cμ y c hy) λ h0 h1 h2 h3=>?_
  refine ⟨h0,λ m=>?_,h2,h3⟩
  rcases List.mem_append.mp m with m | m
  ·exact h1 m
  ·exact hc y c hy (by simpa using m)
theorem FrI.more {h:Heap}(I:FrI F h φ μ ρ)(hL:F.env.locals≠B)(hc:∀ y c,F.env.cells.lookup y=some c->c≠B)(ho:∀ v L,v∈F.fs->v.frame=some L->L≠B):FrI F h (λ a=>φ a∨a=B) μ ρ:=by
 have k:∀ a,φ a->(φ a∨a=B)/\h.get? a=h.get? a:=λ a f=>⟨.inl f,rfl⟩
 have pre:∀ (i:Nat) (a:Addr),μ[i]?=some a->μ[i]?=some a:=λ i a e=>e
 refine Eea (I.loc) λ m hn hm=>?_
 refine ⟨I.kind,I.glob,I.blt,I.len,⟨m,hn,λ i y hi=>⟨(hm i y hi).1,(hm i y hi).2.mono k pre⟩⟩,λ i y kk hi hk=>?_,I.uniq,I.Lμ,λ m=>?_,λ y c hy=>?_,I.cinj,I.own,I.outsK λ v L o hv hf h1 h2 h3 _ _=>⟨⟨o,h1,rfl⟩,h2,λ m=>m.elim h3 (ho v L hv hf)⟩⟩
 ·obtain ⟨h1,c,v,hc1,hc2,hc3,hc4⟩:=I.cell i y kk hi hk
  exact ⟨h1,c,v,hc1,hc2,hc3.mono k pre,hc4⟩
 ·rcases m with m | m
  ·exact I.Lφ m
  ·exact hL m
 ·refine qN (I.cμ y c hy) λ h0 h1 h2 h3=>?_
  refine ⟨h0,h1,λ m=>?_,h3⟩
  rcases m with m | m
  ·exact h2 m
  ·exact hc y c hy m
theorem Go.adopt {o:Obj}{mo:MO}(G:Go C T F s φ μ s₁ φ₁ μ₁ ρ₁ σ₁)(hf:s.heap.get? B=none)(nm:B∉μ₁)(nf:¬ φ₁ B)(hB:s₁.heap.get? B=some o)(hL:F.env.locals≠B)(hc:∀ y c,F.env.cells.lookup y=some c->c≠B)(hoB:∀ v L,v∈F.fs->v.frame=some L->L≠B)
  (hmo:qY T C.prog C.w s₁.heap φ₁ (μ₁++[B]) B mo):Go C T F s φ μ s₁ φ₁ (μ₁++[B]) ρ₁ (σ₁++[mo])/\(μ₁++[B])[σ₁.length]?=some B:=by
 refine Ea (G.rel.adopt nm nf hB hmo) λ R' g=>?_
 exact ⟨⟨G.st,R',G.fr.adopt hL hc hoB,G.ext.adopt hf⟩,g⟩
theorem Go.more {o:Obj}(G:Go C T F s φ μ s₁ φ₁ μ₁ ρ₁ σ₁)(hf:s.heap.get? B=none)(nm:B∉μ₁)(hB:s₁.heap.get? B=some o)(hL:F.env.locals≠B)(hc:∀ y c,F.env.cells.lookup y=some c->c≠B)(ho:∀ v L,v∈F.fs->v.frame=some L->L≠B) :
  Go C T F s φ μ s₁ (λ a=>φ₁ a∨a=B) μ₁ ρ₁ σ₁:=⟨G.st,G.rel.more hB nm,G.fr.more hL hc ho,G.ext.more hf⟩
inductive KV (h:Heap)(φ:Addr->Prop)(μ:List Addr):List (Value×Value)->List Str->List D->Prop
 | nil:KV h φ μ [] [] []
 | cons {x:Str} {t:Tok} {v:Value} {d:D} {kvs:List (Value×Value)} {ks:List Str} {ds:List D}:VD h φ μ v d->KV h φ μ kvs ks ds->KV h φ μ ((.str x t,v)::kvs) (x::ks) (d::ds)
theorem KV.mono {h h':Heap}{kvs:List (Value×Value)}{ks:List Str}{ds:List D}(k:∀ a,φ a->φ' a/\h'.get? a=h.get? a)(m:∀ (i:Nat) (a:Addr),μ[i]?=some a->μ'[i]?=some a)(x:KV h φ μ kvs ks ds):KV h' φ' μ' kvs ks ds:=by
 induction x with
 | nil=>exact .nil
 | cons p _ ih=>exact .cons (p.mono k m) ih
noncomputable def YC:List (Value×Value)->List (Str×Value)
 | (.str x _,v)::r=>(x,v)::YC r
 | _::r=>YC r
 | []=>[]
theorem KV.carries {h:Heap}{kvs:List (Value×Value)}{ks:List Str}{ds:List D}{prog:Program}{w:World}(x:KV h φ μ kvs ks ds):Carries (PySem.strKind prog w) kvs (YC kvs):=by
 induction x with
 | nil=>trivial
 | cons p _ ih=>exact ⟨strKind_is _ _ _ _,rfl,ih⟩
theorem KV.keys {h:Heap}{kvs:List (Value×Value)}{ks:List Str}{ds:List D}(x:KV h φ μ kvs ks ds):(YC kvs).map (·.1)=ks:=by
 induction x with
 | nil=>rfl
 | cons p _ ih=>simp [YC,ih]
theorem KV.res {h:Heap}{kvs:List (Value×Value)}{ks:List Str}{ds:List D}(x:KV h φ μ kvs ks ds):∀ {ns:List Nat},ns.map (T.names[·]?)=ks.map some->REs T h φ μ (YC kvs) (ns.zip ds):=by
 induction x with
 | nil=>intro ns h;cases ns with | nil=>exact .nil | cons _ _=>simp at h
 | cons p _ ih =>
  intro ns h
  cases ns with
  | nil=>simp at h
  | cons n ns =>
   simp only [List.map_cons,List.cons.injEq] at h
   exact .cons h.1 p (ih h.2)
theorem KV.length {h:Heap}{kvs:List (Value×Value)}{ks:List Str}{ds:List D}(x:KV h φ μ kvs ks ds):ks.length=ds.length:=by
 induction x with
 | nil=>rfl
 | cons p _ ih=>simp [ih]
noncomputable def DPs (C:Cx)(T:Tabs)(F:Fm)(A:Around)(t:Sem (List (Value×Value)))(ks:List Str)(ρ:Rho)(σ:zA)(Q:List D->zA->Prop):Prop :=
 ∀ (s:Shared) (φ:Addr->Prop) (μ:List Addr),Rel C T s.heap φ μ σ->FrI F s.heap φ μ ρ->wpAny (model C.prog C.w) A t (λ kvs s'=>∃ φ' μ' ds σ',Go C T F s φ μ s' φ' μ' ρ σ'/\KV s'.heap φ' μ' kvs ks ds/\Q ds σ') NoE s
theorem zBC {pos:Pos}{Q:List D->zA->Prop}(q:Q [] σ):DPs C T F A (evalPairs (pairTrees [] [] F.env pos)) [] ρ σ Q:=λ s φ μ R I =>
 pairTrees_nil_walk ⟨φ,μ,[],σ,Go.refl R I,.nil,q⟩
theorem Vl {x:Str}{k:Nat}{p:Pos}{v:Expr}{ks:List (Option Expr)}{vs:List Expr}{xs:List Str}{pos:Pos}{W:D->zA->Prop}{Q:List D->zA->Prop}(hv:DX C T F A (eval v F.env) ρ σ W)
  (hr:∀ d σ',W d σ'->DPs C T F A (evalPairs (pairTrees ks vs F.env pos)) xs ρ σ' λ ds σ''=>Q (d::ds) σ'') :
  DPs C T F A (evalPairs (pairTrees (some (.Constant (.str x) k p)::ks) (v::vs) F.env pos)) (x::xs) ρ σ Q:=λ s φ μ R I=>by
 refine pairTrees_cons_walk (wpAny_Constant_str ?_)
 have G0:Go C T F s φ μ {s with toks:=s.toks + 1} φ μ ρ σ:=(Go.refl R I).tok _
 refine hv.seq G0.rel G0.fr λ s' φ' μ' u d σ' G V q=>?_
 refine wpAny_mono (hr d σ' q s' φ' μ' G.rel G.fr) (λ kvs s'' hh=>Eeeeeaa hh λ φ₂ μ₂ ds σ₂ G₂ K q₂=>?_) λ _ _ e=>e
 exact ⟨φ₂,μ₂,d::ds,σ₂,(G0.trans G).trans G₂,.cons (G₂.ext.vd V) K,q₂⟩
theorem zCa {keys:List (Option Expr)}{values:List Expr}{pos:Pos}{ks:List Str}{ns:List Nat}{Q:D->zA->Prop}{W:List D->zA->Prop}(Y:C.Good)(h0:keys≠[])(hall:keys.all (·.isSome)=true)(hl:keys.length=values.length)(hlen:keys.length<=15)
  (nd:ks.Nodup) (hn:ns.map (T.names[·]?)=ks.map some) (hp:DPs C T F A (evalPairs (pairTrees keys values F.env pos)) ks ρ σ W) (hW:∀ ds σ',W ds σ'->Q (.obj σ'.length) (σ'++[.rdict (ns.zip ds)])) :
  DX C T F A (eval (.Dict keys values pos) F.env) ρ σ Q:=by
 intro s φ μ R I
 refine wpAny_Dict_walk (knd:=PySem.strKind C.prog C.w) hall hl h0 hlen ?_
 have G0:=Go.push R I {cls:=.type "dict",data:=.dict #[]}
 have hD:=zi s.heap
 refine wpAny_mono (hp _ _ _ G0.rel G0.fr) (λ kvs s₁ hh=>Eeeeeaa hh λ φ₁ μ₁ ds σ₁ G₁ K q=>?_) λ _ _ e=>e
 have e0:(s.heap.push {cls:=.type "dict",data:=.dict #[]}).get? s.heap.objs.size=some {cls:=.type "dict",data:=.dict #[]}:=Heap.get?_push_size _ rfl
 have nm0:s.heap.objs.size∉μ:=R.notin_none hD
 have nf0:¬ φ s.heap.objs.size:=R.notfrz_none hD
 have nm:s.heap.objs.size∉μ₁:=G₁.ext.notin e0 nm0
 have nf:¬ φ₁ s.heap.objs.size:=G₁.ext.notfrz e0 nm0 nf0
 have e1:s₁.heap.get? s.heap.objs.size=some {cls:=.type "dict",data:=.dict #[]}:=(G₁.ext.oth _ _ e0 nm0 (I.ne_own hD)).exact (I.ne_fr hD)
 have G:=G0.trans G₁
 refine ⟨YC kvs,K.carries,?_,λ h' hm hs=>?_⟩
 ·refine Eeeea (Heap.DictOf.new (knd:=PySem.strKind C.prog C.w) s.heap) λ o es ep ho r=>?_
  rw [e0] at ho;cases ho
  exact ⟨_,es,ep,e1,r⟩
 ·rw [merged_nil_of_nodup _ (by refine rwE K.keys ?_;exact nd)] at hm
  obtain ⟨o,ho⟩:∃ o,h'.get? s.heap.objs.size=some o:=by (refine Eeeea (hm) λ o' _ _ e _=>?_;try clear hm);exact ⟨o',e⟩
  have G2:=Go.but (tk:=s₁.toks + kvs.length) I G hD nm nf hs ho
  refine Ea (G.rel.but nm nf hs ho) λ R3 X3=>?_
  have hsm:sysModules<s.heap.objs.size:=modules_low (Y.lim.keeps R.keep)
  have pre:∀ (i:Nat) (a:Addr),μ₁[i]?=some a->(μ₁++[s.heap.objs.size])[i]?=some a:=λ i a e=>by
   refine rwE (List.getElem?_append_left (List.getElem?_eq_some_iff.mp e).1) ?_;exact e
  refine Ea (Go.adopt (mo:=.rdict (ns.zip ds)) G2 hD nm nf ho (I.ne_locals hD) (λ y c hc=>I.ne_cells hD hc) (λ v L hv hl=>I.ne_out hD hv hl) ⟨by simpa using Nat.ne_of_gt hsm,YC kvs,hm,(K.mono X3.frz pre).res hn⟩) λ G3 g=>?_
  exact ⟨_,_,_,_,G3,.obj g,hW _ _ q⟩
theorem xn {pos:Pos}{mo:MO}{Q:D->zA->Prop}(Y:C.Good)(hmo:mo=.idict []∨mo=.tdict [])(q:Q (.obj σ.length) (σ++[mo])):DX C T F A (eval (.Dict [] [] pos) F.env) ρ σ Q:=by
 intro s φ μ R I
 refine wpAny_Dict_empty ?_
 have hsm:sysModules<s.heap.objs.size:=modules_low (Y.lim.keeps R.keep)
 have hne:(s.heap.objs.size==sysModules)=false:=by simpa using Nat.ne_of_gt hsm
 obtain ⟨R',X,g⟩:=R.pushM {cls:=.type "dict",data:=.dict #[]} mo rfl λ h' e k=>by
  rcases hmo with rfl | rfl
  ·refine ⟨hne,[],⟨_,#[],0,e,⟨rfl,rfl,rfl⟩,rfl,λ _ he=>by simp at he,Pairs.nil,List.nodup_nil⟩,.nil⟩
  ·exact ⟨hne,[],⟨_,#[],0,e,⟨rfl,rfl,rfl⟩,rfl,by simp,by simp⟩,.nil⟩
 exact ⟨_,_,_,_,Go.of_ext (tk:=s.toks) I R' X,.obj g,q⟩
end
set_option tactic.hygienic true
structure ClsOk (C:Cx)(T:Tabs)(a:Addr):Prop where
 ga:findIn C.K (.ref a) "__getattribute__"=some (some (.builtin "object.__getattribute__"))
 gt:findIn C.K (.ref a) "__getattr__"=some none
 sa:findIn C.K (.ref a) "__setattr__"=some (some (.builtin "object.__setattr__"))
 over:plainOver C.K a=true
 dict:hasDictIn C.K a=true
 plain:∀ (k:Nat) (x:Str),T.names[k]?=some x->zY a k T.meth=none->findIn C.K (.ref a) x=some none
 meth:∀ (k:Nat) (x:Str) (f:Addr),T.names[k]?=some x->zY a k T.meth=some f->findIn C.K (.ref a) x=some (some (.ref f))/\typeIn C.K (.ref f)=some (.type "function")/\keepIn C.K (.ref f)=true
noncomputable def uU (X:Addr)(s:Shared)(v:Value)(s':Shared):Prop:=∃ e h' tk oe vs a0,v=.ref e/\s'={s with heap:=h',toks:=tk}/\(∀ b o,s.heap.get? b=some o->h'.get? b=some o)/\s.heap.get? e=none /\
 h'.get? e=some oe/\oe.cls=.ref X/\oe.data=.fields vs/\vs[0]?=some a0/\vs[1]?=some .none
structure ExcOk (C:Cx)(X:Addr):Prop where
 kept:keepIn C.K (.ref X)=true
 cls:(clsIn C.K X).isSome=true
 typ:typeIn C.K (.ref X)=some (.type "type")
 base:mroIn C.K X (.type "BaseException")=some true
 self:mroIn C.K X (.ref X)=some true
 ntup:instIn C.K (.ref X) (.type "tuple")=some false
 made:∀ (A:Around) (s:Shared) (wv sv:Value),Room 5 A->(∀ b o,C.h₀.get? b=some o->s.heap.get? b=some o)->wpAny (model C.prog C.w) A (call (.ref X) [wv,sv]) (uU X s) NoE s
structure TOk (C:Cx)(T:Tabs):Prop where
 nd:T.names.Nodup
 cls:∀ a,a∈T.classes->ClsOk C T a
 glob:∀ (g:Nat) (x:Str) (d:D),T.glob[g]?=some (x,d)->j8 C x d
 n0:T.names[zBh]?=some "append"
 n1:T.names[zEX]?=some "get"
 n2:T.names[xV]?=some "setdefault"
 n3:T.names[zDR]?=some "sort"
 n4:T.names[zBW]?=some "extend"
 n5:T.names[zDD]?=some "count"
 exc:T.exc≠0->ExcOk C T.exc
section
variable {C:Cx}{T:Tabs}{F:Fm}{s s' s₁:Shared}{φ φ' φ₁:Addr->Prop}{μ μ' μ₁:List Addr}{ρ ρ' ρ₁:Rho}{σ σ' σ₁:zA}{A:Around}{n:Nat}{B:Addr}
theorem WI {P:Params}{h:Heap}{ds:List DictEntry}{fs:List (Nat×D)}(t:SEs T P h φ μ ds fs):ds.any (·.refKey)=false:=by
 induction t with
 | nil=>rfl
 | cons _ _ _ ih=>simp only [List.any_cons,ih,Bool.or_false];rfl
theorem JQ (hN:T.names.Nodup){P:Params}{h:Heap}{ds:List DictEntry}{fs:List (Nat×D)}(t:SEs T P h φ μ ds fs){k:Nat}{x:Str}(hx:T.names[k]?=some x) :
  (∃ d v,look k fs=some d/\getL x ds=some (some v)/\VD h φ μ v d)∨(look k fs=none/\getL x ds=some none):=by
 have key:(∃ d e,look k fs=some d/\ds.find? (·.key.isStr x)=some e/\VD h φ μ e.val d)∨(look k fs=none/\ds.find? (·.key.isStr x)=none):=by
  induction t with
  | nil=>exact .inr ⟨rfl,rfl⟩
  | cons hk w t' ih =>
   rename_i k' x' tk v d r es
   by_cases q:k'=k
   ·subst q
    rw [hk] at hx;cases hx
    exact .inl ⟨d,_,xz,List.find?_cons_of_pos (by simp [Value.isStr]),w⟩
   ·have hxx:x'≠x:=λ e=>q (Qb hN (e▸hk) hx)
    have e2:(Value.str x' tk).isStr x=false:=by simp [Value.isStr,hxx]
    (refine rwE (xp q) ?_;refine rwE List.find?_cons ?_;refine rwE e2 ?_)
    exact ih
 have nr:=WI t
 unfold getL
 rcases key with ⟨d,e,h0,h1,h2⟩ | ⟨h0,h1⟩
 ·refine rwE h1 ?_;exact .inl ⟨d,_,h0,rfl,h2⟩
 ·(refine rwE h1 ?_;refine rwE nr ?_);exact .inr ⟨h0,rfl⟩
theorem wX {P:Params}{h:Heap}{ds:List DictEntry}{fs:List (Nat×D)}(t:SEs T P h φ μ ds fs):ds.length=fs.length:=by
 induction t with
 | nil=>rfl
 | cons _ _ _ ih=>simp [ih]
theorem zA2 {P:Params}{h h':Heap}{ds:List DictEntry}{fs:List (Nat×D)}(k:∀ a,φ a->φ' a/\h'.get? a=h.get? a)(m:∀ (i:Nat) (a:Addr),μ[i]?=some a->μ'[i]?=some a)(t:SEs T P h φ μ ds fs):SEs T P h' φ' μ' ds fs:=by
 induction t with
 | nil=>exact .nil
 | cons q p _ ih=>exact .cons q (p.mono k m) ih
theorem zAF (hN:T.names.Nodup){P:Params}{h:Heap}{ds:List DictEntry}{fs:List (Nat×D)}(t:SEs T P h φ μ ds fs){k:Nat}{x:Str}{tk:Tok}{v:Value}{d:D}(hx:T.names[k]?=some x)(w:VD h φ μ v d) :
  SEs T P h φ μ (putL x (PyData.keyHash P x) (.str x tk) v ds) (put k d fs):=by
 induction t with
 | nil=>exact .cons hx w .nil
 | cons hk w' t' ih =>
  rename_i k' x' tk' v' d' r es
  by_cases q:k'=k
  ·subst q
   rw [hk] at hx;cases hx
   have e1:Nat.beq k' k'=true:=Nat.beq_refl k'
   have e2:(Value.str x tk').isStr x=true:=by simp [Value.isStr]
   simp only [Xa,XV,e1,putL,e2,if_true]
   exact .cons hk w t'
  ·have hxx:x'≠x:=λ e=>q (Qb hN (e▸hk) hx)
   have e1:Nat.beq k' k=false:=by
    cases h:Nat.beq k' k with
    | false=>rfl
    | true=>exact absurd (ZF h) q
   have e2:(Value.str x' tk').isStr x=false:=by simp [Value.isStr,hxx]
   simp only [Xa,XV,e1,putL,e2,Bool.false_eq_true,if_false]
   exact .cons hk w' ih
theorem jG (x:Str)(hs:Int)(key v:Value):∀ ds:List DictEntry,(putL x hs key v ds).length<=ds.length + 1
 | []=>by simp [putL]
 | e::r=>by
  simp only [putL]
  split
  ·simp
  ·have:=jG x hs key v r;simp only [List.length_cons];exact Nat.succ_le_succ this
theorem Yk (R:Rel C T s.heap φ μ σ){i j:Nat}{a K:Addr}{fs:List (Nat×D)}(ha:μ[i]?=some a)(hi:σ[i]?=some (.inst K j))(hj:σ[j]?=some (.sdict fs)) :
  K∈T.classes/\∃ dx ds n,μ[j]?=some dx/\s.heap.get? dx=some (dictOf ds n)/\SEs T C.w.params s.heap φ μ ds fs/\InstAt s.heap a (instObj K dx) K (some (dictOf ds n)):=by
 obtain ⟨hc,dx,hdx,ho⟩:=R.at_ i a _ ha hi
 refine Eeea (R.at_ j dx _ hdx hj) λ ds n hd t=>?_
 exact ⟨hc,dx,ds,n,hdx,hd,t,⟨ho,rfl,rfl,hd⟩⟩
theorem zAI {Q:D->zA->Prop}{v:Value}{o:D}{k:Nat}{x:Str}{expr:Bool}(Y:C.Good)(TT:TOk C T)(hx:T.names[k]?=some x)(R:Rel C T s.heap φ μ σ)(I:FrI F s.heap φ μ ρ)(V:VD s.heap φ μ v o)
  (h:jx T σ o k λ d=>Q d σ):wpAny (model C.prog C.w) A (getAttr v x expr) (PV C T F s φ μ ρ Q) NoE s:=by
 (refine Eeeaaa (ye V h) λ i a q3q=>?_;obtain rfl:=q3q;intro q4q;obtain rfl:=q4q;intro ha h)
 refine Eeeeaa (Uy h) λ K j fs hi hj h=>?_
 refine Ea (wK h) λ hm h=>?_
 refine Eea (h.h) λ d hl h=>?_
 obtain ⟨hc,dx,ds,nn,hdx,hd,t,II⟩:=Yk R ha hi hj
 have CK:=TT.cls _ hc
 rcases JQ TT.nd t hx with ⟨d',v,e,g1,g2⟩ | ⟨e,_⟩
 ·rw [hl] at e;cases e
  exact get_value (Y.X.keeps R.keep) II CK.ga (findObj_own CK.dict (CK.plain k x hx hm) rfl g1) g2.handed (zc R I g2 h _)
 ·rw [hl] at e;cases e
theorem vA {a K:Addr}{i j k:Nat}{x:Str}{fs:List (Nat×D)}{f:Addr}{pl:Sem Bool}{Q:Value×List Value->Shared->Prop}{E:Value->Shared->Prop}(Y:C.Good)(TT:TOk C T)(hx:T.names[k]?=some x)(R:Rel C T s.heap φ μ σ)(ha:μ[i]?=some a)(hi:σ[i]?=some (.inst K j))(hj:σ[j]?=some (.sdict fs))
  (hl:look k fs=none) (hm:zY K k T.meth=some f) (q:Q (.ref f,[.ref a]) s):wpAny (model C.prog C.w) A (getMethod (.ref a) x pl) Q E s:=by
 obtain ⟨hc,dx,ds,nn,hdx,hd,t,II⟩:=Yk R ha hi hj
 have CK:=TT.cls _ hc
 have X:=Y.X.keeps R.keep
 have g:getL x ds=some none:=by
  rcases JQ TT.nd t hx with ⟨d',v,e,_⟩ | ⟨_,g⟩
  ·rw [hl] at e;cases e
  ·exact g
 refine Eaa (CK.meth k x f hx hm) λ h1 h2 _=>?_
 exact method_fn X II CK.ga CK.gt h1 h2 (by show (lookIn x (dictOf ds nn)).map _=_;(refine rwE (lookIn_dict ..) ?_;refine rwE g ?_);rfl) q
end
section
variable {prog:Program}{w:World}{A:Around}{E:Value->Shared->Prop}{s:Shared}{K:Frag}{x C dx:Addr}{es:List DictEntry}{n:Nat}{name:Str}{v:Value}
theorem VU {R:Result->Shared->Prop}{tk:Tok}(X:K.In s.heap)(I:InstAt s.heap x (instObj C dx) C (some (dictOf es n)))(hp:plainOver K C=true)
  (ht:takerIn K C name=some none) (hh:hasDictIn K C=true) (hl:(getL name es).isSome=true) (hz:(putL name (PyData.keyHash w.params name) (.str name s.toks) v es).length<=1000)
  (h:∀ h',h'.get? dx=some (dictOf (putL name (PyData.keyHash w.params name) (.str name s.toks) v es) (putN name es n))->Heap.SameBut dx s.heap h'->R (.ok (.ret .none)) {s with heap:=h',toks:=s.toks + 1}) :
  codeAny (model prog w) A (.call (.builtin "object.__setattr__") ⟨[.ref x,.str name tk,v],[]⟩) R s:=by
 refine osa_open X I hp ht λ b=>?_
 refine Eea (any_some hh) λ cd hc hd'=>?_
 obtain ⟨hx,hcl,hn,D⟩:=I
 refine wpAny_bind (wpAny_pure (wpAny_bind (wpAny_bind (wpAny_loadPart hx (wpAny_bind ((looks_clsIn X hc).here ?_))))))
 refine rwE hd' ?_
 refine wpAny_pure (a:=some dx) (wpAny_bind (wpAny_pure (wpAny_bind ?_)))
 unfold nsSet
 refine wpAny_bind (wpAny_bind (wpAny_askSetting (wpAny_pure (wpAny_bind (wpAny_mkText (wpAny_bind (wpAny_loadPart D ?_)))))))
 have c:(!es.toArray.any (·.key.isStr name)&&es.toArray.any (·.refKey))=false:=by
  unfold getL at hl
  (refine rwE List.any_toArray ?_;refine rwE List.any_toArray ?_)
  split at hl
  ·rename_i en he
   refine rwE (List.any_eq_true.mpr ⟨en,List.mem_of_find?_eq_some he,List.find?_some he⟩) ?_;rfl
  ·split at hl
   ·cases hl
   ·rename_i z;rw [Bool.not_eq_true] at z;(refine rwE z ?_;refine rwE (Bool.and_false ..) ?_;rfl)
 dsimp only
 (refine rwE (aRefKeyMayBeTheName_at ..) ?_;refine rwE c ?_)
 have up:∀ tk,(Obj.putName name (PyData.keyHash w.params name) (.str name tk) v (dictOf es n)).isFreed=false:=λ tk=>by refine rwE (putName_dict ..) ?_;rfl
 have D':=Heap.get?_update_self (h:=s.heap) (Obj.putName name (PyData.keyHash w.params name) (.str name s.toks) v) D (up _)
 have D₂:=D'
 rw [putName_dict] at D₂
 refine wpAny_updatePart D ?_
 refine wpAny_bind (wpAny_lookBehind D₂ (pastItsLine_dict (by (refine rwE List.size_toArray ?_;refine rwE sizeLine_eq ?_);exact Nat.le_trans hz (nB9 rfl))) ?_)
 exact wpAny_pure (h _ D₂ (Heap.SameBut.update ..))
theorem V7 {Q:Unit->Shared->Prop}(X:K.In s.heap)(I:InstAt s.heap x (instObj C dx) C (some (dictOf es n)))(hs:findIn K (.ref C) "__setattr__"=some (some (.builtin "object.__setattr__")))(hp:plainOver K C=true)
  (ht:takerIn K C name=some none) (hh:hasDictIn K C=true) (hl:(getL name es).isSome=true) (hz:(putL name (PyData.keyHash w.params name) (.str name (s.toks + 1)) v es).length<=1000)
  (h:∀ h',h'.get? dx=some (dictOf (putL name (PyData.keyHash w.params name) (.str name (s.toks + 1)) v es) (putN name es n))->Heap.SameBut dx s.heap h'->Q () {s with heap:=h',toks:=s.toks + 2}) :
  wpAny (model prog w) A (setAttr (.ref x) name v) Q E s :=
 set_plain X I hs (VU (s:={s with toks:=s.toks + 1}) X I hp ht hh hl hz λ h' a b=>h h' a b)
end
section
variable {C:Cx}{T:Tabs}{F:Fm}{s s' s₁:Shared}{φ φ' φ₁:Addr->Prop}{μ μ' μ₁:List Addr}{ρ ρ' ρ₁:Rho}{σ σ' σ₁:zA}{A:Around}{n:Nat}{B:Addr}
theorem JC {Q:Unit->Shared->Prop}{v:Value}{d:D}{a K:Addr}{i j k:Nat}{x:Str}{fs:List (Nat×D)}(Y:C.Good)(TT:TOk C T)(hx:T.names[k]?=some x)(R:Rel C T s.heap φ μ σ)(ha:μ[i]?=some a)(hi:σ[i]?=some (.inst K j))(hj:σ[j]?=some (.sdict fs))
  (V:VD s.heap φ μ v d) (hm:zY K k T.meth=none) (hf:Lt64 fs.length)
  (q:∀ h' tk,Rel C T h' φ μ (σ.set j (.sdict (put k d fs)))->Ext s.heap φ μ h' φ μ []->Q () {s with heap:=h',toks:=tk}):wpAny (model C.prog C.w) A (setAttr (.ref a) x v) Q NoE s:=by
 obtain ⟨hc,dx,ds,nn,hdx,hd,t,II⟩:=Yk R ha hi hj
 have CK:=TT.cls _ hc
 have X:=Y.X.keeps R.keep
 have g:=JQ TT.nd t hx
 have hl:=wX t
 refine V7 X II CK.sa CK.over (by unfold takerIn;refine rwE (CK.plain k x hx hm) ?_;rfl) CK.dict ?_ ?_ λ h' ho hs=>?_
 ·rcases g with ⟨_,v,_,g,_⟩ | ⟨_,g⟩
  ·refine rwE g ?_;rfl
  ·refine rwE g ?_;rfl
 ·have:=jG x (PyData.keyHash C.w.params x) (.str x (s.toks + 1)) v ds
  have:=hf.h
  lia
 ·refine Ea (R.upd (mo':=.sdict (put k d fs)) hdx hj (λ h=>nomatch h) hs ⟨_,ho⟩ λ kk=>⟨_,_,ho,zA2 kk (λ _ _ e=>e) (zAF TT.nd t hx V)⟩) λ R' X'=>?_
  exact q h' _ R' X'
end
set_option tactic.hygienic false
mutual
noncomputable def clD (k:Nat):D->Bool
 | .p _=>true
 | .obj i=>decide (i<k)
 | .fn _=>true
 | .bi _=>true
 | .tup ds=>clDs k ds
 | .rng _ _=>true
 | .zp d e _ _=>clD k d&&clD k e
noncomputable def clDs (k:Nat):List D->Bool
 | []=>true
 | d::ds=>clD k d&&clDs k ds
end
noncomputable def clM (k:Nat)(zz:MO):Bool:=@MO.casesOn (λ _=>Bool) zz (λ _=>true) (λ es=>es.all λ e=>clD k e.2) (λ es=>es.all λ e=>clD k e.2) (λ es=>es.all λ e=>clD k e.2) (λ es=>es.all λ e=>clD k e.2) (λ _ j=>decide (j<k)) true
theorem zR {a b:Bool}(h:(a&&b)=true):a=true/\b=true:=(Bool.and_eq_true a b).mp h
theorem yO {a b:Bool}(h:a=true)(k:b=true):(a&&b)=true:=(Bool.and_eq_true a b).mpr ⟨h,k⟩
mutual
theorem yq {k k':Nat}(h:k<=k'):∀ (d:D),clD k d=true->clD k' d=true
 | .p _,_=>rfl
 | .obj i,e=>decide_eq_true (Nat.lt_of_lt_of_le (of_decide_eq_true e) h)
 | .fn _,_=>rfl
 | .bi _,_=>rfl
 | .tup ds,e=>clDs_mono h ds e
 | .rng _ _,_=>rfl
 | .zp d e _ _,x=>yO (yq h d (zR x).1) (yq h e (zR x).2)
theorem clDs_mono {k k':Nat}(h:k<=k'):∀ (ds:List D),clDs k ds=true->clDs k' ds=true
 | [],_=>rfl
 | d::ds,x=>yO (yq h d (zR x).1) (clDs_mono h ds (zR x).2)
end
theorem QA {α:Type}{k k':Nat}(h:k<=k'){es:List (α×D)}(e:(es.all λ e=>clD k e.2)=true):(es.all λ e=>clD k' e.2)=true:=by
 rw [List.all_eq_true] at e ⊢
 exact λ x hx=>yq h _ (e x hx)
theorem Ur {k k':Nat}(h:k<=k')(mo:MO)(e:clM k mo=true):clM k' mo=true:=by
 cases mo with
 | lst _=>rfl
 | dead=>rfl
 | inst _ j=>exact decide_eq_true (Nat.lt_of_lt_of_le (of_decide_eq_true e) h)
 | idict es=>exact QA h e
 | rdict es=>exact QA h e
 | sdict es=>exact QA h e
 | tdict es=>exact QA h e
theorem ja {μ:List Addr}{k i:Nat}{a:Addr}(h:i<k)(e:μ[i]?=some a):(μ.take k)[i]?=some a:=by
 refine rwE (List.getElem?_take_of_lt h) ?_;exact e
theorem qV {α:Type}{μ:List α}{k i:Nat}{a:α}(e:(μ.take k)[i]?=some a):i<k/\μ[i]?=some a:=by
 rw [List.getElem?_take] at e
 split at e
 ·rename_i h;exact ⟨h,e⟩
 ·cases e
section
variable {C:Cx}{T:Tabs}{h h':Heap}{φ φ':Addr->Prop}{μ μ':List Addr}{σ σ' σ'':zA}
mutual
theorem VD.cut' {k:Nat}:∀ (d:D) {v:Value},VD h φ μ v d->clD k d=true->VD h φ (μ.take k) v d
 | .p _,_,V,_=>.p V.ip
 | .obj _,_,V,c=>by (refine Eea (V.iobj) λ a q1q=>?_;obtain rfl:=q1q;intro m);exact .obj (ja (of_decide_eq_true c) m)
 | .fn a,_,V,_=>by cases V.ifn;exact .fn a
 | .bi b,_,V,_=>by cases V.ibi;exact .bi b
 | .tup ds,_,V,c=>by (refine Eeeaaa (V.itup) λ a vs q3q=>?_;obtain rfl:=q3q;intro f t r);exact .tup f t (VDs.cut' ds r c)
 | .rng _ _,_,V,_=>by (refine Eeeeeaa (V.irng) λ a t u w q5q=>?_;obtain rfl:=q5q;intro f r);exact .rng f r
 | .zp _ _ _ _,_,V,_=>V.izp
theorem VDs.cut' {k:Nat}:∀ (ds:List D) {vs:List Value},VDs h φ μ vs ds->clDs k ds=true->VDs h φ (μ.take k) vs ds
 | [],_,V,_=>by cases V.inil;exact .nil
 | d::ds,_,V,c=>by (refine Eeeaa (V.icons) λ v w q7q=>?_;obtain rfl:=q7q;intro p r);exact .cons (VD.cut' d p (zR c).1) (VDs.cut' ds r (zR c).2)
end
theorem VD.cut {k:Nat}{v:Value}{d:D}(V:VD h φ μ v d)(c:clD k d=true):VD h φ (μ.take k) v d:=VD.cut' d V c
mutual
theorem VD.closed':∀ (d:D) {v:Value},VD h φ μ v d->clD μ.length d=true
 | .p _,_,_=>rfl
 | .obj _,_,V=>by refine Eea (V.iobj) λ a _ m=>?_;exact decide_eq_true (List.getElem?_eq_some_iff.mp m).1
 | .fn _,_,_=>rfl
 | .bi _,_,_=>rfl
 | .tup ds,_,V=>by refine Eeeaaa (V.itup) λ a vs _ f t r=>?_;exact VDs.closed' ds r
 | .rng _ _,_,_=>rfl
 | .zp _ _ _ _,_,V=>V.izp
theorem VDs.closed':∀ (ds:List D) {vs:List Value},VDs h φ μ vs ds->clDs μ.length ds=true
 | [],_,_=>rfl
 | d::ds,_,V=>by refine Eeeaa (V.icons) λ v w _ p r=>?_;exact yO (VD.closed' d p) (VDs.closed' ds r)
end
theorem VD.closed {v:Value}{d:D}(V:VD h φ μ v d):clD μ.length d=true:=VD.closed' d V
theorem zDr {k:Nat}{a:Addr}{mo:MO}{prog:Program}{w:World}(x:qY T prog w h φ μ a mo)(c:clM k mo=true):qY T prog w h φ (μ.take k) a mo:=by
 cases mo with
 | dead=>trivial
 | lst xs=>exact x
 | inst K j=>obtain ⟨hc,d,h1,h2⟩:=x;exact ⟨hc,d,ja (of_decide_eq_true c) h1,h2⟩
 | idict es =>
  obtain ⟨hs,kvs,r,q⟩:=x
  refine ⟨hs,kvs,r,?_⟩
  clear r
  change (es.all λ e=>clD k e.2)=true at c
  induction q with
  | nil=>exact .nil
  | cons p _ ih=>have c:=zR c;exact .cons (p.cut c.1) (ih c.2)
 | rdict es =>
  obtain ⟨hs,kvs,r,q⟩:=x
  refine ⟨hs,kvs,r,?_⟩
  clear r
  change (es.all λ e=>clD k e.2)=true at c
  induction q with
  | nil=>exact .nil
  | cons q p _ ih=>have c:=zR c;exact .cons q (p.cut c.1) (ih c.2)
 | sdict es =>
  (refine Eeea (x) λ ds n ho r=>?_;try clear x)
  refine ⟨ds,n,ho,?_⟩
  clear ho
  change (es.all λ e=>clD k e.2)=true at c
  induction r with
  | nil=>exact .nil
  | cons q p _ ih=>have c:=zR c;exact .cons q (p.cut c.1) (ih c.2)
 | tdict es =>
  obtain ⟨hs,xs,r,q⟩:=x
  refine ⟨hs,xs,r,?_⟩
  clear r
  change (es.all λ e=>clD k e.2)=true at c
  induction q with
  | nil=>exact .nil
  | cons p hk hd v _ ih=>have c:=zR c;exact .cons p hk hd (v.cut c.1) (ih c.2)
theorem WW {a:Addr}{mo:MO}{prog:Program}{w:World}(x:qY T prog w h φ μ a mo):clM μ.length mo=true:=by
 cases mo with
 | dead=>rfl
 | lst xs=>rfl
 | inst K j=>obtain ⟨hc,d,h1,h2⟩:=x;exact decide_eq_true (List.getElem?_eq_some_iff.mp h1).1
 | idict es =>
  obtain ⟨hs,kvs,r,q⟩:=x
  clear r
  show es.all _=true
  induction q with
  | nil=>rfl
  | cons p _ ih=>exact yO p.closed ih
 | rdict es =>
  obtain ⟨hs,kvs,r,q⟩:=x
  clear r
  show es.all _=true
  induction q with
  | nil=>rfl
  | cons _ p _ ih=>exact yO p.closed ih
 | sdict es =>
  (refine Eeea (x) λ ds n ho r=>?_;try clear x)
  clear ho
  show es.all _=true
  induction r with
  | nil=>rfl
  | cons _ p _ ih=>exact yO p.closed ih
 | tdict es =>
  obtain ⟨hs,xs,r,q⟩:=x
  clear r
  show es.all _=true
  induction q with
  | nil=>rfl
  | cons p hk hd v _ ih=>exact yO v.closed ih
theorem Rel.cut {k:Nat}(R:Rel C T h φ μ σ)(hk:∀ (i:Nat) (mo:MO),i<k->σ[i]?=some mo->clM k mo=true):Rel C T h φ (μ.take k) (σ.take k):=by
 refine ⟨R.keep,R.base,R.frz,by (refine rwE List.length_take ?_;refine rwE List.length_take ?_;refine rwE R.len ?_;rfl),λ i j a ei ej=>R.nodup i j a (qV ei).2 (qV ej).2,λ i a e=>R.lt i a (qV e).2,λ i a e f=>?_,λ i a mo e e'=>?_⟩
 ·refine Ea (qV e) λ h1 h2=>?_
  refine rwE (List.getElem?_take_of_lt h1) ?_;exact R.apart i a h2 f
 ·refine Ea (qV e) λ h1 h2=>?_
  refine Ea (qV e') λ _ h3=>?_
  exact zDr (R.at_ i a mo h2 h3) (hk i mo h1 h3)
theorem Ext.cut {wr fr:List Addr}{k:Nat}(X:Ext h φ μ h' φ' μ' wr fr)(hk:μ.length<=k):Ext h φ μ h' φ' (μ'.take k) wr fr :=
 ⟨X.frz,X.new,λ i a e=>ja (Nat.lt_of_lt_of_le (List.getElem?_eq_some_iff.mp e).1 hk) (X.pre i a e),λ i a e=>X.fresh i a (qV e).2,X.ex,X.oth⟩
inductive Kp (σ σ':zA):zA->D->Prop
 | all {d:D}:Kp σ σ' σ' d
 | cut {d:D} (k:Nat):σ.length<=k->clD k d=true->(∀ (i:Nat) (mo:MO),i<k->σ'[i]?=some mo->σ[i]?=some mo∨clM k mo=true)->Kp σ σ' (σ'.take k) d
theorem Rel.closed (R:Rel C T h φ μ σ){i:Nat}{mo:MO}(e:σ[i]?=some mo):clM σ.length mo=true:=by
 have hl:i<μ.length:=by refine rwE R.len ?_;exact (List.getElem?_eq_some_iff.mp e).1
 refine rwS R.len ?_
 exact WW (R.at_ i _ mo (List.getElem?_eq_getElem hl) e)
theorem Kp.go {wr fr:List Addr}{v:Value}{d:D}(K:Kp σ σ' σ'' d)(R₀:Rel C T h φ μ σ)(R:Rel C T h' φ' μ' σ')(X:Ext h φ μ h' φ' μ' wr fr)(V:VD h' φ' μ' v d) :
  ∃ μ'',Rel C T h' φ' μ'' σ''/\Ext h φ μ h' φ' μ'' wr fr/\VD h' φ' μ'' v d:=by
 cases K with
 | all=>exact ⟨μ',R,X,V⟩
 | cut k hk hd hm =>
  refine ⟨μ'.take k,R.cut λ i mo hi e=>?_,X.cut (by refine rwE R₀.len ?_;exact hk),V.cut hd⟩
  rcases hm i mo hi e with q | q
  ·exact Ur hk _ (R₀.closed q)
  ·exact q
end
inductive FlI (h:Heap)(φ:Addr->Prop)(μ:List Addr):Flow->Fl->Prop
 | next:FlI h φ μ .next .next
 | cont:FlI h φ μ .cont .cont
 | ret {v:Value} {d:D}:VD h φ μ v d->FlI h φ μ (.ret v) (.ret d)
noncomputable def PS (C:Cx)(T:Tabs)(F:Fm)(s:Shared)(φ:Addr->Prop)(μ:List Addr)(Q:Fl->Rho->zA->Prop):Flow->Shared->Prop:=λ fl s' =>
 ∃ φ' μ' f ρ' σ',Go C T F s φ μ s' φ' μ' ρ' σ'/\FlI s'.heap φ' μ' fl f/\Q f ρ' σ'
noncomputable def DS (C:Cx)(T:Tabs)(F:Fm)(A:Around)(t:Sem Flow)(ρ:Rho)(σ:zA)(Q:Fl->Rho->zA->Prop):Prop :=
 ∀ (s:Shared) (φ:Addr->Prop) (μ:List Addr),Rel C T s.heap φ μ σ->FrI F s.heap φ μ ρ->wpAny (model C.prog C.w) A t (PS C T F s φ μ Q) NoE s
noncomputable def uX (zz:Fl):Option D:=@Fl.casesOn (λ _=>Option D) zz (some (.p .none)) none (λ d=>some d)
noncomputable def qa (σ:zA)(Q:D->zA->Prop)(fl:Fl)(σ':zA):Prop:=∃ d σ'',uX fl=some d/\Kp σ σ' σ'' d/\Q d σ''
structure FnOk (C:Cx)(f:Addr)(fd:FuncData)(ps:List Str)(ks:List (Str×NameKind))(body:List Stmt):Prop where
 at_:∃ oc od sl,C.K.lookup f=some ⟨oc,od,.func fd,sl⟩
 code:codeIn C.K fd.code fd.qualname=true
 body:fd.body=.stmts body
 bind:∀ vals:List Value,vals.length=ps.length->bindArgs fd ⟨vals,[]⟩=pure (ps.zip vals)
 clo:fd.closure=[]
 glob:fd.globals=mainGlobals
 blt:fd.builtins=builtinsNs
 co:fd.scope.isCoroutine=false
 gen:fd.scope.isGenerator=false
 kind:fd.scope.kind=.function
 nd:(ks.map (·.1)).Nodup
 pre:(ks.map (·.1)).take ps.length=ps
 kinds:∀ x k,(x,k)∈ks->(k=.local∨k=.cell)/\fd.scope.names.lookup x=some k
 cells:∀ x L,(x,NameKind.cell)∈ks->((cellsFrom L fd.scope.names []).lookup x).isSome=true
theorem WU {kindOf:Str->Option NameKind}{y:Str}(hy:kindOf y=some .local):∀ (binds:List (Str×Value)) (m:Str->Option Value),(binds.map (·.1)).Nodup->bindL kindOf binds m y=match binds.lookup y with | some v=>some v | none=>m y:=by
 intro binds
 induction binds with
 | nil =>
  intro m _
  exact rfl
 | cons zzh r ih =>
  intro m nd
  obtain ⟨n,v⟩:=zzh
  rw [List.map_cons,List.nodup_cons] at nd
  (rewrite [bindL];refine rwE (ih _ nd.2) ?_;refine rwE List.lookup_cons ?_)
  by_cases q:y=n
  ·subst q
   have:r.lookup y=none:=by
    cases e:r.lookup y with
    | none=>rfl
    | some w=>exact absurd (List.mem_map.mpr ⟨_,mem_of_lookup e,rfl⟩) nd.1
   simp [this,hy]
  ·have:(y==n)=false:=by simpa using q
   simp only [this]
   cases r.lookup y with
   | some w=>rfl
   | none=>simp only;split <;> simp [q]
theorem WE {kindOf:Str->Option NameKind}{y:Str}(hy:kindOf y≠some .local):∀ (binds:List (Str×Value)) (m:Str->Option Value),(binds.map (·.1)).Nodup->bindC kindOf binds m y=match binds.lookup y with | some v=>some v | none=>m y:=by
 intro binds
 induction binds with
 | nil =>
  intro m _
  exact rfl
 | cons zzh r ih =>
  intro m nd
  obtain ⟨n,v⟩:=zzh
  rw [List.map_cons,List.nodup_cons] at nd
  (rewrite [bindC];refine rwE (ih _ nd.2) ?_;refine rwE List.lookup_cons ?_)
  by_cases q:y=n
  ·subst q
   have:r.lookup y=none:=by
    cases e:r.lookup y with
    | none=>rfl
    | some w=>exact absurd (List.mem_map.mpr ⟨_,mem_of_lookup e,rfl⟩) nd.1
   simp [this,hy]
  ·have:(y==n)=false:=by simpa using q
   simp only [this]
   cases r.lookup y with
   | some w=>rfl
   | none=>simp only;split <;> simp [q]
theorem QF:∀ {ps:List Str} {vals:List Value} {i:Nat} {x:Str},ps.Nodup->ps.length=vals.length->ps[i]?=some x->(ps.zip vals).lookup x=vals[i]?
 | [],_,i,x,_,_,e=>by simp at e
 | p::ps,[],_,_,_,hl,_=>by simp at hl
 | p::ps,v::vals,0,x,_,_,e=>by simp at e;subst e;simp
 | p::ps,v::vals,i + 1,x,nd,hl,e=>by
  rw [List.nodup_cons] at nd
  have e':ps[i]?=some x:=by simpa using e
  have:(x==p)=false:=by
   rw [beq_eq_false_iff_ne];rintro rfl;exact nd.1 (List.mem_iff_getElem?.mpr ⟨i,e'⟩)
  (refine rwE List.zip_cons_cons ?_;refine rwE List.lookup_cons ?_;refine rwE this ?_)
  simpa using QF (vals:=vals) nd.2 (by simpa using hl) e'
theorem JK {ps:List Str}{vals:List Value}{x:Str}(h:x∉ps):(ps.zip vals).lookup x=none:=by
 cases e:(ps.zip vals).lookup x with
 | none=>rfl
 | some w=>exact absurd (List.of_mem_zip (mem_of_lookup e)).1 h
theorem zAJ {h:Heap}{φ:Addr->Prop}{μ:List Addr}{vs:List Value}{ds:List D}(V:VDs h φ μ vs ds):∀ {i:Nat} {v:Value} {d:D},vs[i]?=some v->ds[i]?=some d->VD h φ μ v d:=by
 induction ds generalizing vs with
 | nil=>intro i v d _ e;simp at e
 | cons d' ds ih =>
  cases V with
  | cons p r =>
   intro i v d e e'
   cases i with
   | zero=>simp at e e';subst e e';exact p
   | succ i=>exact ih r (by simpa using e) (by simpa using e')
noncomputable def qT (ds:List D)(n:Nat):Rho:=ds.map some++List.replicate (n - ds.length) none
theorem uB {h:Heap}{φ:Addr->Prop}{μ:List Addr}{ps:List Str}{ks:List (Str×NameKind)}{vals:List Value}{ds:List D}(nd:(ks.map (·.1)).Nodup)(pre:(ks.map (·.1)).take ps.length=ps)(V:VDs h φ μ vals ds)(hl:vals.length=ps.length)
  {i:Nat} {x:Str} {k:NameKind} (e:ks[i]?=some (x,k)):OptV h φ μ (match (ps.zip vals).lookup x with | some v=>some v | none=>none) (qT ds ks.length)[i]?:=by
 have hlen:=ZX V
 have hx:(ks.map (·.1))[i]?=some x:=by (refine rwE List.getElem?_map ?_;refine rwE e ?_);rfl
 have hik:i<ks.length:=(List.getElem?_eq_some_iff.mp e).1
 have ndp:ps.Nodup:=by refine rwS pre ?_;exact nd.sublist (List.take_sublist _ _)
 unfold qT
 by_cases hi:i<ps.length
 ·have hp:ps[i]?=some x:=by (refine rwS pre ?_;refine rwE (List.getElem?_take_of_lt hi) ?_);exact hx
  have hiv:i<vals.length:=Nat.lt_of_lt_of_eq hi hl.symm
  have hid:i<ds.length:=by exact lin [_,_,_] [] (.a (.v 0) (.k 1)) (.v 1) [(1,.e (.v 2) (.v 1)),(1,.l (.a (.v 0) (.k 1)) (.v 2))] tT9 hlen hiv
  rw [QF ndp hl.symm hp,List.getElem?_append_left (by refine rwE (List.length_map ..) ?_;exact hid),List.getElem?_map]
  (refine rwE (List.getElem?_eq_getElem hiv) ?_;refine rwE (List.getElem?_eq_getElem hid) ?_)
  exact .is (zAJ V (List.getElem?_eq_getElem hiv) (List.getElem?_eq_getElem hid))
 ·have hnp:x∉ps:=by
   intro hm
   refine Ee (List.mem_iff_getElem?.mp hm) λ j hj=>?_
   have hjl:=(List.getElem?_eq_some_iff.mp hj).1
   have hj':(ks.map (·.1))[j]?=some x:=by
    rw [<- pre,List.getElem?_take_of_lt hjl] at hj;exact hj
   have:=(List.getElem?_inj (by refine rwE (List.length_map ..) ?_;exact hik) nd).mp (hx.trans hj'.symm)
   exact liF [_,_,_] [] [(1,.l (.v 0) (.v 1)),(1,.l (.a (.v 2) (.k 1)) (.v 0)),(1,.e (.v 1) (.v 2))] tT9 (Nat.le_of_not_lt hi) hjl this
  have hge:ds.length<=i:=by refine rwS hlen ?_;refine rwE hl ?_;exact Nat.le_of_not_lt hi
  rw [JK hnp,List.getElem?_append_right (by refine rwE (List.length_map ..) ?_;exact hge),List.getElem?_replicate,if_pos (by refine rwE (List.length_map ..) ?_;exact Nat.sub_lt_sub_right hge hik)]
  exact .no _
section
variable {C:Cx}{T:Tabs}
theorem jB {n:Nat}{A:Around}{env:Env}(h:Room (n + 1) A):Room n (A.deeper env) :=
 ⟨h.hd,by have:=h.depth;refine rwE (depth_deeper ..) ?_;exact lin [_,_,_] [] (.a (.a (.a (.a (.v 0) (.k 1)) (.m 2 (.v 1))) (.k 10)) (.k 1)) (.v 2) [(1,.l (.a (.a (.a (.v 0) (.m 2 (.a (.v 1) (.k 1)))) (.k 10)) (.k 1)) (.v 2))] tT9 this,by have:=h.units;refine rwE (Around.deeper_units ..) ?_;exact lin [_,_,_] [] (.a (.a (.a (.a (.v 0) (.k 3)) (.m 20 (.v 1))) (.k 400)) (.k 1)) (.v 2) [(1,.l (.a (.a (.a (.v 0) (.m 20 (.a (.v 1) (.k 1)))) (.k 400)) (.k 1)) (.v 2))] tT9 this⟩
structure Entry (n:Nat)(A:Around)(h:Heap)(F:Fm)(h₁:Heap):Prop where
 fs:∃ fs,A.frames=some fs/\F.fs=F.env::fs
 room:Room n (A.deeper F.env)
 keep:∀ b o,h.get? b=some o->h₁.get? b=some o
 L:h.get? F.env.locals=none
 fr:F.env.frame=some F.env.locals
 own:∀ b,b∈F.own->h.get? b=none
theorem Entry.deep {n:Nat}{A:Around}{h h₁:Heap}{F:Fm}(x:Entry n A h F h₁):(A.deeper F.env).frames=some F.fs:=by
 refine Eea x.fs λ fs h1 h2=>?_
 refine rwE h2 ?_;exact Around.frames_deeper h1
theorem Entry.tops {n:Nat}{A:Around}{h h₁:Heap}{F:Fm}(x:Entry n A h F h₁):∃ fs,F.fs=F.env::fs:=let ⟨fs,_,e⟩:=x.fs;⟨fs,e⟩
theorem Entry.back {n:Nat}{A:Around}{h h₁ h':Heap}{F:Fm}{φ φ':Addr->Prop}{μ μ':List Addr}(x:Entry n A h F h₁)(X₁:Ext h φ μ h₁ φ μ [])(X:Ext h₁ φ μ h' φ' μ' (F.env.locals::F.own) (frL F.fs)):Ext h φ μ h' φ' μ' [] (frA A):=by
 refine X₁.slack.stepF X (λ b hb=>.inl ?_) λ b hb=>?_
 ·rcases List.mem_cons.mp hb with rfl | hb
  ·exact x.L
  ·exact x.own b hb
 ·refine Eea x.fs λ fs h1 h2=>?_
  refine Eea (List.mem_filterMap.mp hb) λ v hv hL=>?_
  rw [h2] at hv
  rcases List.mem_cons.mp hv with rfl | hv
  ·rw [x.fr] at hL;exact .inl (so hL▸x.L)
  ·refine .inr (List.mem_filterMap.mpr ⟨v,?_,hL⟩)
   refine rwE h1 ?_;exact hv
theorem xr {n:Nat}{f:Addr}{fd:FuncData}{ps:List Str}{ks:List (Str×NameKind)}{body:List Stmt}{ds:List D}{σ:zA}{A:Around}{s:Shared}{φ:Addr->Prop}{μ:List Addr}{vs:List Value}{P:Result->Shared->Prop}(Y:C.Good)(O:FnOk C f fd ps ks body)(hds:ds.length=ps.length)
  (r:Room (n + 1) A) (ou:Out A s.heap φ μ) (R:Rel C T s.heap φ μ σ) (V:VDs s.heap φ μ vs ds)
  (h:∀ (F:Fm) (h₁:Heap) (tk₁:Nat),F.ks=ks->F.env.scope=fd.scope->Entry n A s.heap F h₁->Rel C T h₁ φ μ σ->FrI F h₁ φ μ (qT ds ks.length)->wpAny (model C.prog C.w) (A.deeper F.env) (execs body F.env) (λ f s'=>P (.ok (.ret (match f with | .ret v=>v | _=>.none))) s')
   (λ e s'=>wpAny (model C.prog C.w) (A.deeper F.env) (leaving F.env e) (λ _ s''=>P (.error e) s'') (λ e' s''=>P (.error e') s'') s') {s with heap:=h₁,toks:=tk₁}):codeAny (model C.prog C.w) A (.call (.ref f) ⟨vs,[]⟩) P s:=by
 refine Eeee (O.at_) λ oc od sl ho=>?_
 refine Eea (ou.h) λ fs hfs hout=>?_
 have X:=Y.X.keeps R.keep
 have hvl:vs.length=ps.length:=by (refine rwE (ZX V) ?_;refine rwE hds ?_;rfl)
 have pmem:∀ x,x∈ps->∃ k,(x,k)∈ks:=λ x hx=>by
  have:x∈ks.map (·.1):=by rw [<- O.pre] at hx;exact List.mem_of_mem_take hx
  (refine Eea (List.mem_map.mp this) λ q4q=>?_;obtain ⟨y,k⟩:=q4q;intro h1 q6q;obtain rfl:=q6q)
  exact ⟨k,h1⟩
 refine codeAny_call_cells (R:=P) (by have:=r.depth;exact lin [_,_,_] [] (.a (.v 0) (.k 1)) (.v 1) [(1,.l (.a (.a (.a (.v 0) (.m 2 (.a (.v 2) (.k 1)))) (.k 10)) (.k 1)) (.v 1))] tT9 this) (X _ _ ho) rfl (Y.lim.keeps R.keep) (codeRec_of X O.code) O.body (O.bind vs hvl) O.clo (λ x hx=>?_) (λ s₁ IC=>?_) O.co O.gen O.kind
 ·refine Ee (pmem x.1 (List.of_mem_zip hx).1) λ k hk=>?_
  refine Ea (O.kinds _ _ hk) λ h1 h2=>?_
  rcases h1 with rfl | rfl
  ·exact .inl h2
  ·exact .inr ⟨h2,O.cells _ _ hk⟩
 ·generalize henv:callEnvC fd s.heap.objs.size f=env at IC
  have eL:env.locals=s.heap.objs.size:=by refine rwS henv ?_;rfl
  have eS:env.scope=fd.scope:=by refine rwS henv ?_;rfl
  have eC:env.cells=cellsFrom (s.heap.objs.size + 1) fd.scope.names []:=by refine rwS henv ?_;rfl
  have eG:env.globals=mainGlobals:=by refine rwS henv ?_;exact O.glob
  have eB:env.builtins=builtinsNs:=by refine rwS henv ?_;exact O.blt
  (refine Eee (IC.toInCall.same) λ h₁ tk₁ q10q=>?_;obtain rfl:=q10q)
  refine Ea (R.grow (h':=h₁) IC.toInCall.keep) λ R₁ X₁=>?_
  have ndp:ps.Nodup:=by refine rwS O.pre ?_;exact O.nd.sublist (List.take_sublist _ _)
  have ndb:((ps.zip vs).map (·.1)).Nodup:=by refine rwE (List.map_fst_zip (by exact Nat.le_of_eq hvl.symm)) ?_;exact ndp
  have V₁:=X₁.vds V
  have cfresh:∀ x c,(x,c)∈env.cells->s.heap.get? c=none:=λ x c hm=>Heap.get?_none_of_le (by have:=IC.above x c hm;rw [eL] at this;exact Nat.le_of_lt this)
  obtain ⟨own,hown⟩:∃ own,own=env.cells.filterMap λ p=>env.cells.lookup p.1:=⟨_,rfl⟩
  have own1:∀ x c,env.cells.lookup x=some c->c∈own:=λ x c hc=>by refine rwE hown ?_;exact List.mem_filterMap.mpr ⟨_,mem_of_lookup hc,hc⟩
  have own2:∀ c,c∈own->∃ x,env.cells.lookup x=some c:=λ c hc=>by rw [hown] at hc;refine Eea (List.mem_filterMap.mp hc) λ p _ h2=>?_;exact ⟨_,h2⟩
  have I:FrI ⟨env,ks,own,env::fs⟩ h₁ φ μ (qT ds ks.length):=by
   refine ⟨by show env.scope.kind=_;refine rwE eS ?_;exact O.kind,eG,eB,?_,⟨_,IC.toInCall.ns,λ i x hx=>?_⟩,λ i x k hx hk=>?_,λ i j x k k' hi hj _ _=>?_,?_,?_,λ x c hc=>?_,λ x y c hx hy=>?_,λ c hc=>?_,λ v hv=>?_⟩
   ·have hle:ps.length<=ks.length:=by
     have:=congrArg List.length O.pre
     rw [List.length_take,List.length_map] at this;exact Nat.le_trans (Nat.le_of_eq this.symm) (Nat.min_le_right _ _)
    show (qT ds ks.length).length=ks.length
    unfold qT
    (refine rwE List.length_append ?_;refine rwE (List.length_map ..) ?_;refine rwE List.length_replicate ?_);lia
   ·have hk:env.kindOf x=some .local:=by
     unfold Env.kindOf;refine rwE eS ?_;exact (O.kinds _ _ (List.mem_iff_getElem?.mpr ⟨i,hx⟩)).2
    refine ⟨hk,?_⟩
    refine rwE (WU hk _ _ ndb) ?_
    exact uB O.nd O.pre V₁ hvl hx
   ·refine Ea (O.kinds _ _ (List.mem_iff_getElem?.mpr ⟨i,hx⟩)) λ h1 h2=>?_
    have hkc:k=.cell:=by rcases hk with rfl | rfl;rfl;rcases h1 with h1 | h1 <;> cases h1
    subst hkc
    have hk':env.kindOf x=some .cell:=by unfold Env.kindOf;refine rwE eS ?_;exact h2
    have hs:=O.cells x (s.heap.objs.size + 1) (List.mem_iff_getElem?.mpr ⟨i,hx⟩)
    rw [<- eC] at hs
    refine Ee (Option.isSome_iff_exists.mp hs) λ c hc=>?_
    refine ⟨.inl hk',c,_,hc,IC.cell x c hc,?_,λ _=>own1 _ _ hc⟩
    rw [WE (by rw [hk'];simp) _ _ ndb]
    exact uB O.nd O.pre V₁ hvl hx
   ·have hi':(ks.map (·.1))[i]?=some x:=by (refine rwE List.getElem?_map ?_;refine rwE hi ?_);rfl
    have hj':(ks.map (·.1))[j]?=some x:=by (refine rwE List.getElem?_map ?_;refine rwE hj ?_);rfl
    exact (List.getElem?_inj (by refine rwE (List.length_map ..) ?_;exact (List.getElem?_eq_some_iff.mp hi).1) O.nd).mp (hi'.trans hj'.symm)
   ·refine rwE eL ?_;exact R.notin_none (zi _)
   ·refine rwE eL ?_;exact R.notfrz_none (zi _)
   ·have hf:=cfresh x c (mem_of_lookup hc)
    refine Eea (IC.cell x c hc) λ o ho _=>?_
    exact ⟨⟨o,ho⟩,R.notin_none hf,R.notfrz_none hf,by have:=IC.above x c (mem_of_lookup hc);exact Nat.ne_of_gt this⟩
   ·exact name_of_addr IC.apart (mem_of_lookup hx) (mem_of_lookup hy)
   ·refine Ee (own2 c hc) λ x hx=>?_
    refine Eea (IC.cell x c hx) λ o ho _=>?_
    exact ⟨o,ho⟩
   ·rcases List.mem_cons.mp hv with rfl | hv
    ·exact ⟨by (refine rwE eS ?_;refine rwE O.kind ?_);decide,v.locals,by refine rwS henv ?_;rfl,.inl rfl⟩
    ·obtain ⟨k1,L,o,k2,k3,k4,k5,k6⟩:=hout v hv
     refine ⟨k1,L,k2,.inr ⟨o,IC.toInCall.keep _ _ k3,k4,k5,k6,λ m=>?_,λ e=>?_⟩⟩
     ·refine Ee (own2 L m) λ x hx=>?_
      rw [cfresh x L (mem_of_lookup hx)] at k3;cases k3
     ·have e':L=env.locals:=e
      rw [e',eL,zi] at k3;cases k3
  have E:Entry n A s.heap ⟨env,ks,own,env::fs⟩ h₁:=⟨⟨fs,hfs,rfl⟩,jB r,IC.toInCall.keep,by show s.heap.get? env.locals=none;refine rwE eL ?_;exact zi _,by refine rwS henv ?_;rfl,λ b hb=>by refine Ee (own2 b hb) λ x hx=>?_;exact cfresh x b (mem_of_lookup hx)⟩
  have:=h ⟨env,ks,own,env::fs⟩ h₁ tk₁ rfl eS E R₁ I
  exact this
theorem zCG {n:Nat}{f:Addr}{fd:FuncData}{ps:List Str}{ks:List (Str×NameKind)}{body:List Stmt}{ds:List D}{σ:zA}{Q:D->zA->Prop}(Y:C.Good)(O:FnOk C f fd ps ks body)(hds:ds.length=ps.length)
  (h:∀ (F:Fm) (A:Around),F.ks=ks->F.env.scope=fd.scope->A.frames=some F.fs->(∃ fs,F.fs=F.env::fs)->F.env.frame=some F.env.locals->Room n A->DS C T F A (execs body F.env) (qT ds ks.length) σ λ fl _ σ'=>qa σ Q fl σ'):SatCall C T (n + 1) f ds σ Q:=by
 refine ⟨by refine Eeee (O.at_) λ oc od sl ho=>?_;unfold keepIn;simp only [ho],λ A s φ μ vs r ou R V=>xr Y O hds r ou R V λ F h₁ tk₁ hk hs E R₁ I=>?_⟩
 refine wpAny_mono (h F _ hk hs E.deep E.tops E.fr E.room _ φ μ R₁ I) (λ fl s' hp=>?_) λ _ _ e=>e.elim
 obtain ⟨φ',μ',fl',ρ',σ',G,hf,d,σ'',hr,K,q⟩:=hp
 have X':Ext s.heap φ μ s'.heap φ' μ' [] (frA A):=E.back (R.grow E.keep).2 G.ext
 have fin:∀ v,VD s'.heap φ' μ' v d->∃ h' tk φ' μ' d σ',s'={s with heap:=h',toks:=tk}/\Rel C T h' φ' μ' σ'/\Ext s.heap φ μ h' φ' μ' [] (frA A)/\VD h' φ' μ' v d/\Q d σ':=λ v V'=>by
  refine Eeaa (K.go R G.rel X' V') λ μ'' R'' X'' V''=>?_
  (refine Eee (G.st) λ h' tk' q23q=>?_;obtain rfl:=q23q)
  exact ⟨h',tk',φ',μ'',d,σ'',rfl,R'',X'',V'',q⟩
 cases hf with
 | next=>cases hr;exact fin _ (.p .none)
 | cont=>cases hr
 | ret V'=>cases hr;exact fin _ V'
end
noncomputable def Xe:NameKind->Bool
 | .local=>true
 | .cell=>true
 | _=>false
noncomputable def zA6:NameKind->Bool
 | .local=>true
 | .cell=>true
 | .free=>true
 | _=>false
noncomputable def bix:List (Str×NameKind)->Str->Option Nat
 | [],_=>none
 | (y,k)::r,x=>if (y==x&&Xe k)=true then some 0 else (bix r x).map (· + 1)
noncomputable def aix:List (Str×NameKind)->Str->Option Nat
 | [],_=>none
 | (y,k)::r,x=>if (y==x&&zA6 k)=true then some 0 else (aix r x).map (· + 1)
theorem Q0:∀ {ks:List (Str×NameKind)} {x:Str} {i:Nat},bix ks x=some i->∃ k,ks[i]?=some (x,k)/\(k=.local∨k=.cell)
 | [],_,_,e=>nn e
 | (y,k)::r,x,i,e=>by
  have e:(if (y==x&&Xe k)=true then some 0 else (bix r x).map (· + 1))=some i:=e
  by_cases h:(y==x&&Xe k)=true
  ·rw [if_pos h] at e
   cases so e
   refine Ea ((Bool.and_eq_true ..).mp h) λ h1 h2=>?_
   cases eq_of_beq h1
   refine ⟨k,rfl,?_⟩
   cases k with
   | «local»=>exact .inl rfl
   | cell=>exact .inr rfl
   | _=>exact Bool.noConfusion h2
  ·rw [if_neg h] at e
   (refine Eea (Option.map_eq_some_iff.mp e) λ j hj q2q=>?_;obtain rfl:=q2q)
   exact Q0 (ks:=r) hj
theorem vY:∀ {ks:List (Str×NameKind)} {x:Str} {i:Nat},aix ks x=some i->∃ k,ks[i]?=some (x,k)/\(k=.local∨k=.cell∨k=.free)
 | [],_,_,e=>nn e
 | (y,k)::r,x,i,e=>by
  have e:(if (y==x&&zA6 k)=true then some 0 else (aix r x).map (· + 1))=some i:=e
  by_cases h:(y==x&&zA6 k)=true
  ·rw [if_pos h] at e
   cases so e
   refine Ea ((Bool.and_eq_true ..).mp h) λ h1 h2=>?_
   cases eq_of_beq h1
   refine ⟨k,rfl,?_⟩
   cases k with
   | «local»=>exact .inl rfl
   | cell=>exact .inr (.inl rfl)
   | free=>exact .inr (.inr rfl)
   | _=>exact Bool.noConfusion h2
  ·rw [if_neg h] at e
   (refine Eea (Option.map_eq_some_iff.mp e) λ j hj q5q=>?_;obtain rfl:=q5q)
   exact vY (ks:=r) hj
section
variable {C:Cx}{T:Tabs}{F:Fm}{s s' s₁:Shared}{φ φ' φ₁:Addr->Prop}{μ μ' μ₁:List Addr}{ρ ρ' ρ₁:Rho}{σ σ' σ₁:zA}{A:Around}{n:Nat}{B:Addr}
theorem OptV.of_eq {h h':Heap}{o:Option Value}{d:Option (Option D)}(p:OptV h φ μ o d)(k:∀ a,φ a->h'.get? a=h.get? a):OptV h' φ μ o d :=
 p.mono (λ a f=>⟨f,k a f⟩) λ _ _ e=>e
theorem Yu {ρ:Rho}{i j:Nat}{d:D}(hi:i<ρ.length):(ρ.set i (some d))[j]?=if i=j then some (some d) else ρ[j]?:=by
 by_cases h:i=j
 ·subst h;(refine rwE (if_pos rfl) ?_;refine rwE (List.getElem?_set_self hi) ?_;rfl)
 ·(refine rwE (if_neg h) ?_;refine rwE (List.getElem?_set_ne h) ?_;rfl)
theorem qd {Q:Unit->Shared->Prop}{x:Str}{k:NameKind}{i:Nat}{v:Value}{d:D}(R:Rel C T s.heap φ μ σ)(I:FrI F s.heap φ μ ρ)(V:VD s.heap φ μ v d)(hi:F.ks[i]?=some (x,k))(hk:k=.local∨k=.cell)
  (q:∀ s',Go C T F s φ μ s' φ μ (ρ.set i (some d)) σ->Q () s'):wpAny (model C.prog C.w) A (bindName F.env x v) Q NoE s:=by
 have hlen:i<ρ.length:=by refine rwE I.len ?_;exact (List.getElem?_eq_some_iff.mp hi).1
 refine wpAny_bindName ?_
 rcases hk with rfl | rfl
 ·refine Eea (I.loc) λ m hn hm=>?_
  have hx:=(hm i x hi).1
  refine wpAny_storeName_local hx hn (λ h' hn' hs=>?_) (by refine rwE I.kind ?_;rfl)
  obtain ⟨o',ho'⟩:∃ o,h'.get? F.env.locals=some o:=by (refine Eeeea (hn') λ o _ _ e _=>?_;try clear hn');exact ⟨o,e⟩
  refine Ea (R.but I.Lμ I.Lφ hs ho') λ R' X=>?_
  have kφ:∀ a,φ a->h'.get? a=s.heap.get? a:=λ a f=>(X.frz a f).2
  refine q _ ⟨⟨h',_,rfl⟩,R',⟨I.kind,I.glob,I.blt,by refine rwE List.length_set ?_;exact I.len,⟨_,hn',λ j y hj=>⟨(hm j y hj).1,?_⟩⟩,λ j y kk hj hkk=>?_,I.uniq,I.Lμ,I.Lφ,λ y c hc=>?_,I.cinj,λ c hc=>let ⟨o,ho⟩:=I.own c hc;X.ex c o ho,I.outsK λ v L o hv hf h1 h2 h3 _ h4=>⟨⟨o,(hs.2 L h4).trans h1,rfl⟩,h2,h3⟩⟩,?_⟩
  ·refine rwE (Yu hlen) ?_
   by_cases e:i=j
   ·subst e
    rw [hi] at hj;cases hj
    (refine rwE (if_pos rfl) ?_;refine rwE (if_pos rfl) ?_)
    exact .is (X.vd V)
   ·(refine rwE (if_neg e) ?_;refine rwE (if_neg (λ e':y=x=>e (I.uniq i j x _ _ hi (e'▸hj) (.inl rfl) (.inl rfl)))) ?_)
    exact (hm j y hj).2.of_eq kφ
  ·obtain ⟨h1,c,v',hc1,hc2,hc3,hc4⟩:=I.cell j y kk hj hkk
   have hne:=(I.cμ y c hc1).2.2.2
   refine ⟨h1,c,v',hc1,?_,?_,hc4⟩
   ·(refine Eea (hc2) λ o ho hd=>?_;try clear hc2);exact ⟨o,(hs.2 c hne).trans ho,hd⟩
   ·(refine rwE (Yu hlen) ?_;rewrite [if_neg])
    ·exact hc3.of_eq kφ
    ·intro e
     subst e
     rw [hi] at hj;cases hj
     rcases hkk with h | h <;> cases h
  ·(refine qN (I.cμ y c hc) λ q12q=>?_;(refine Ee (q12q) λ o h0=>?_;try clear q12q);intro h1 h2 h3)
   exact ⟨X.ex c o h0,h1,h2,h3⟩
  ·exact (X.wider λ b o m _=>by rw [List.mem_singleton] at m;refine rwE m ?_;exact List.mem_cons_self).slack
 ·obtain ⟨hx,c,v',hc1,hc2,_,hown⟩:=I.cell i x _ hi (.inl rfl)
  have hx:=hx.resolve_right (λ h=>by cases h.1)
  refine wpAny_storeName_cell I.kind hx hc1 hc2 λ h' hc' hs=>?_
  obtain ⟨o',ho'⟩:∃ o,h'.get? c=some o:=by (refine Eea (hc') λ o e _=>?_;try clear hc');exact ⟨o,e⟩
  refine qN (I.cμ x c hc1) λ _ cm cf cL=>?_
  refine Ea (R.but cm cf hs ho') λ R' X=>?_
  have kφ:∀ a,φ a->h'.get? a=s.heap.get? a:=λ a f=>(X.frz a f).2
  refine Eea (I.loc) λ m hn hm=>?_
  refine q _ ⟨⟨h',_,rfl⟩,R',⟨I.kind,I.glob,I.blt,by refine rwE List.length_set ?_;exact I.len,⟨m,?_,λ j y hj=>⟨(hm j y hj).1,?_⟩⟩,λ j y kk hj hkk=>?_,I.uniq,I.Lμ,I.Lφ,λ y c' hc'=>?_,I.cinj,λ c hc=>let ⟨o,ho⟩:=I.own c hc;X.ex c o ho,I.outsK λ v L o hv hf h1 h2 h4 h3 _=>⟨⟨o,(hs.2 L λ e=>h3 (e▸hown rfl)).trans h1,rfl⟩,h2,h4⟩⟩,?_⟩
  ·(refine Eeeea (hn) λ o es ep ho r=>?_;try clear hn);exact ⟨o,es,ep,(hs.2 _ (Ne.symm cL)).trans ho,r⟩
  ·(refine rwE (Yu hlen) ?_;rewrite [if_neg])
   ·exact (hm j y hj).2.of_eq kφ
   ·intro e
    subst e
    rw [hi] at hj;cases hj
  ·obtain ⟨h1,c₂,v₂,hc1',hc2',hc3',hc4'⟩:=I.cell j y kk hj hkk
   refine rwE (Yu hlen) ?_
   by_cases e:i=j
   ·subst e
    rw [hi] at hj;cases hj
    rw [hc1] at hc1';cases hc1'
    refine ⟨h1,c,_,hc1,hc',?_,hc4'⟩
    refine rwE (if_pos rfl) ?_
    exact .is (X.vd V)
   ·refine rwE (if_neg e) ?_
    have hne:c₂≠c:=λ h=>by
     subst h
     have:=I.cinj x y _ hc1 hc1'
     subst this
     exact e (I.uniq i j x _ _ hi hj (.inr (.inl rfl)) (by rcases hkk with h | h;exact .inr (.inl h);exact .inr (.inr h)))
    refine ⟨h1,c₂,v₂,hc1',?_,hc3'.of_eq kφ,hc4'⟩
    (refine Eea (hc2') λ o ho hd=>?_;try clear hc2');exact ⟨o,(hs.2 c₂ hne).trans ho,hd⟩
  ·(refine qN (I.cμ y c' hc') λ q23q=>?_;(refine Ee (q23q) λ o h0=>?_;try clear q23q);intro h1 h2 h3)
   exact ⟨X.ex c' o h0,h1,h2,h3⟩
  ·exact (X.wider λ b o m _=>by rw [List.mem_singleton] at m;refine rwE m ?_;exact List.mem_cons_of_mem _ (hown rfl)).slack
end
mutual
noncomputable def trP (ks:List (Str×NameKind)):Expr->Option Pt
 | .Name x _=>(bix ks x).bind λ i=>some (.nm i)
 | .Tuple es _ _=>(trPs ks es).bind λ ps=>some (.tup ps)
 | _=>none
noncomputable def trPs (ks:List (Str×NameKind)):List Expr->Option (List Pt)
 | []=>some []
 | e::es=>(trP ks e).bind λ p=>(trPs ks es).bind λ ps=>some (p::ps)
end
section
variable {C:Cx}{T:Tabs}{F:Fm}{A:Around}{σ:zA}
theorem uZ {ks:List (Str×NameKind)}{e:Expr}{p:Pt}(h:trP ks e=some p):(∃ x pos i,e=.Name x pos/\bix ks x=some i/\p=.nm i)∨∃ es c pos ps,e=.Tuple es c pos/\trPs ks es=some ps/\p=.tup ps:=by
 cases e with
 | Name x pos=>refine Eea (ob h) λ i h1 h2=>?_;exact .inl ⟨x,pos,i,rfl,h1,(so h2).symm⟩
 | Tuple es c pos=>refine Eea (ob h) λ ps h1 h2=>?_;exact .inr ⟨es,c,pos,ps,rfl,h1,(so h2).symm⟩
 | _=>exact nn h
theorem jF {ks:List (Str×NameKind)}{e:Expr}{p:Pt}(h:trP ks e=some p){rest:List Expr}{env:Env}:assignEach (e::rest) env=(false,assign e env)::assignEach rest env:=by
 rcases uZ h with ⟨x,pos,i,rfl,_⟩ | ⟨es,c,pos,ps,rfl,_⟩ <;> rfl
theorem Ya {ks:List (Str×NameKind)}{e:Expr}{es:List Expr}{ps:List Pt}(h:trPs ks (e::es)=some ps):∃ p qs,trP ks e=some p/\trPs ks es=some qs/\ps=p::qs:=by
 refine Eea (ob h) λ p h1 h2=>?_
 refine Eea (ob h2) λ qs h3 h4=>?_
 exact ⟨p,qs,h1,h3,(so h4).symm⟩
theorem uE {ks:List (Str×NameKind)}:∀ {es:List Expr} {ps:List Pt},trPs ks es=some ps->∀ env,(assignEach es env).length=ps.length/\(assignEach es env).findIdx? (·.1)=none
 | [],ps,h,env=>by cases so h;exact ⟨rfl,rfl⟩
 | e::es,ps,h,env=>by
  (refine Eeeaa (Ya h) λ p qs hp hq q30q=>?_;obtain rfl:=q30q)
  refine Ea (uE hq env) λ h1 h2=>?_
  refine rwE (jF hp) ?_
  refine ⟨congrArg (· + 1) h1,?_⟩
  (refine rwE List.findIdx?_cons ?_;refine rwE h2 ?_);rfl
theorem yw:∀ {ps:List Pt} {xs:List PyData} {ρ ρ':Rho},bindPs ps xs ρ=some ρ'->ps.length=xs.length
 | [],[],_,_,_=>rfl
 | [],_::_,_,_,h=>nn h
 | _::_,[],_,_,h=>nn h
 | p::ps,x::xs,ρ,ρ',h=>by
  refine Eea (ob h) λ _ _ h=>?_
  exact congrArg (· + 1) (yw h)
mutual
theorem j0 (hA:A.handled=none):∀ (p:Pt) (e:Expr) (x:PyData) (ρ ρ':Rho) (s:Shared) (φ:Addr->Prop) (μ:List Addr) (v:Value),trP F.ks e=some p->Zc p x ρ=some ρ'->Rel C T s.heap φ μ σ->FrI F s.heap φ μ ρ->VP s.heap φ v x ->
  wpAny (model C.prog C.w) A (assign e F.env v) (λ _ s'=>Go C T F s φ μ s' φ μ ρ' σ) NoE s
 | .nm i,e,x,ρ,ρ',s,φ,μ,v,ht,hb,R,I,V=>by
  rcases uZ ht with ⟨y,pos,j,rfl,hi,h⟩ | ⟨_,_,_,_,_,_,h⟩
  ·cases h
   cases so hb
   refine Eea (Q0 hi) λ k h1 h2=>?_
   refine rwE (arm_assign_Name ..) ?_
   exact wpAny_bind (wpAny_standAt (qd R I (.p V) h1 h2 λ s' G=>G))
  ·cases h
 | .tup ps,e,x,ρ,ρ',s,φ,μ,v,ht,hb,R,I,V=>by
  rcases uZ ht with ⟨_,_,_,_,_,h⟩ | ⟨es,c,pos,qs,rfl,hps,h⟩
  ·cases h
  ·cases h
   refine Eea (ob hb) λ xs e1 hb=>?_
   cases Y1 e1
   (refine Eeeaaa (V.itup) λ a vs q36q=>?_;obtain rfl:=q36q;intro f t r)
   refine Ea (uE hps F.env) λ h1 h2=>?_
   refine wpAny_assign_Tuple hA t.t (by (refine rwE h1 ?_;refine rwE (yw hb) ?_;refine rwE List.size_toArray ?_;refine rwE r.length ?_;rfl)) h2 λ h' hs=>?_
   have kk:∀ b o,s.heap.get? b=some o->h'.get? b=some o:=λ b o e=>hs b o (Nat.ne_of_lt (Heap.lt_size e)) e
   refine Ea (R.grow kk) λ R' X=>?_
   have G:=Go.of_ext (tk:=s.toks) I R' X
   exact wpAny_mono (asg_pts hA ps es xs ρ ρ' {s with heap:=h'} φ μ _ hps hb R' G.fr (X.vps r)) (λ _ s' G'=>G.trans G') λ _ _ e=>e
theorem asg_pts (hA:A.handled=none):∀ (ps:List Pt) (es:List Expr) (xs:List PyData) (ρ ρ':Rho) (s:Shared) (φ:Addr->Prop) (μ:List Addr) (vs:List Value),trPs F.ks es=some ps->bindPs ps xs ρ=some ρ'->Rel C T s.heap φ μ σ->FrI F s.heap φ μ ρ->VPs s.heap φ vs xs ->
  wpAny (model C.prog C.w) A (assignInOrder ((assignEach es F.env).map (·.2)) vs) (λ _ s'=>Go C T F s φ μ s' φ μ ρ' σ) NoE s
 | [],es,xs,ρ,ρ',s,φ,μ,vs,ht,hb,R,I,V=>by
  cases es with
  | cons _ _=>refine Eeeaa (Ya ht) λ _ _ _ _ h=>?_;cases h
  | nil=>cases xs with
   | cons _ _=>exact nn hb
   | nil =>
    cases V.inil
    cases so hb
    exact wpAny_assignInOrder_none (Go.refl R I)
 | p::ps,es,xs,ρ,ρ',s,φ,μ,vs,ht,hb,R,I,V=>by
  cases es with
  | nil=>cases so ht
  | cons e es =>
   refine Eeeaa (Ya ht) λ _ _ hp hq h=>?_
   cases h
   cases xs with
   | nil=>exact nn hb
   | cons x xs =>
    (refine Eeeaa (V.icons) λ v ws q42q=>?_;obtain rfl:=q42q;intro p1 r)
    refine Eea (ob hb) λ ρ₁ h1 hb=>?_
    refine rwE (jF hp) ?_
    refine wpAny_assignInOrder_more (wpAny_mono (j0 hA p e _ ρ ρ₁ s φ μ _ hp h1 R I p1) (λ _ s₁ G=>?_) λ _ _ e=>e)
    exact wpAny_mono (asg_pts hA ps es _ ρ₁ ρ' s₁ φ μ _ hq hb G.rel G.fr (G.ext.vps r)) (λ _ s' G'=>G.trans G') λ _ _ e=>e
end
end
noncomputable def SAt (l:Bool)(h:Heap)(a:Addr)(vs:Array Value):Prop:=if l then h.IsList a vs else h.IsTuple a vs
noncomputable def SIt (l:Bool)(h:Heap)(I a:Addr)(i:Nat):Prop:=if l then h.IsListIter I a i else h.IsTupleIter I a i
theorem SAt.extBut {l:Bool}{h h':Heap}{a b:Addr}{vs:Array Value}(x:SAt l h a vs)(hs:Heap.ExtBut b h h')(ne:a≠b):SAt l h' a vs:=by
 cases l
 ·exact Heap.IsTuple.extBut x hs ne
 ·exact Heap.IsList.extBut x hs ne
theorem SIt.extBut {l:Bool}{h h':Heap}{I a b:Addr}{i:Nat}(x:SIt l h I a i)(hs:Heap.ExtBut b h h')(ne:I≠b):SIt l h' I a i:=by
 cases l
 ·exact Heap.IsTupleIter.extBut x hs ne
 ·exact Heap.IsListIter.extBut x hs ne
theorem SAt.push {l:Bool}{h:Heap}{a:Addr}{vs:Array Value}(x:SAt l h a vs)(o:Obj):SAt l (h.push o) a vs:=by
 cases l
 ·exact Heap.IsTuple.push x o
 ·exact Heap.IsList.push x o
theorem SIt.at {l:Bool}{h h':Heap}{I a:Addr}{i:Nat}(x:SIt l h I a i)(k:∀ o,h.get? I=some o->h'.get? I=some o):SIt l h' I a i:=by
 cases l
 ·exact Heap.IsTupleIter.at x k
 ·exact Heap.IsListIter.at x k
theorem SAt.at {l:Bool}{h h':Heap}{a:Addr}{vs:Array Value}(x:SAt l h a vs)(k:∀ o,h.get? a=some o->h'.get? a=some o):SAt l h' a vs:=by
 cases l
 ·exact Heap.IsTuple.at x k
 ·exact Heap.IsList.at x k
theorem SAt.lt {l:Bool}{h:Heap}{a:Addr}{vs:Array Value}(x:SAt l h a vs):a<h.objs.size:=by
 cases l
 ·(refine Eea (x) λ o ho _=>?_;try clear x);exact Heap.lt_size ho
 ·(refine Eea (x) λ o ho _=>?_;try clear x);exact Heap.lt_size ho
noncomputable def qP (zz:Bool):String:=@Bool.casesOn (λ _=>String) zz "tuple_iterator" "list_iterator"
theorem SIt.obj {l:Bool}{h:Heap}{I a:Addr}{i:Nat}(x:SIt l h I a i):∃ o,h.get? I=some o/\o.cls=.type (qP l)/\∃ vs,o.data=.fields vs:=by
 cases l
 ·(refine Eeaa (x) λ o ho hc hd=>?_;try clear x);exact ⟨o,ho,hc,_,hd⟩
 ·(refine Eeaa (x) λ o ho hc hd=>?_;try clear x);exact ⟨o,ho,hc,_,hd⟩
section
variable {prog:Program}{w:World}{A:Around}{E:Value->Shared->Prop}{s:Shared}{l:Bool}{I a:Addr}{i:Nat}{vs:Array Value}
theorem zAY {Q:Value->Shared->Prop}(ht:SAt l s.heap a vs)(h:∀ h',SIt l h' s.heap.objs.size a 0->(∀ b o,s.heap.get? b=some o->h'.get? b=some o)->Q (.ref s.heap.objs.size) {s with heap:=h'}) :
  wpAny (model prog w) A (pyIter (.ref a)) Q E s:=by
 cases l
 ·exact wpAny_pyIter_tuple ht (h _ ⟨_,Heap.get?_push_size _ rfl,rfl,rfl⟩ λ b o e=>Heap.get?_push_of_some _ e)
 ·exact wpAny_pyIter_list ht (h _ ⟨_,Heap.get?_push_size _ rfl,rfl,rfl⟩ λ b o e=>Heap.get?_push_of_some _ e)
theorem VV {Q:Option Value->Shared->Prop}{x:Value}(hi:SIt l s.heap I a i)(ht:SAt l s.heap a vs)(hx:vs[i]?=some x)(h:∀ h',SIt l h' I a (i + 1)->Heap.SameBut I s.heap h'->Q (some x) {s with heap:=h'}) :
  wpAny (model prog w) A (pyNext (.ref I)) Q E s:=by
 cases l
 ·exact wpAny_pyNext_tuple_item hi ht hx h
 ·exact wpAny_pyNext_list_item hi ht hx h
theorem zAW {Q:Option Value->Shared->Prop}(hh:A.handled=none)(hi:SIt l s.heap I a i)(ht:SAt l s.heap a vs)(hx:vs[i]?=none)(h:∀ h',Heap.ExtBut I s.heap h'->Q none {s with heap:=h'}) :
  wpAny (model prog w) A (pyNext (.ref I)) Q E s:=by
 cases l
 ·exact wpAny_pyNext_tuple_end hh hi ht hx h
 ·exact wpAny_pyNext_list_end hh hi ht hx h
theorem V8 {Q:Value->Shared->Prop}(hi:SIt l s.heap I a i)(h:Q (.ref I) s):wpAny (model prog w) A (pyIter (.ref I)) Q E s:=by
 cases l
 ·exact wpAny_pyIter_tupleiter hi h
 ·exact wpAny_pyIter_listiter hi h
theorem wc {Q:Value->Shared->Prop}{x:Value}(hit:s.heap.IsTupleIter I a i)(ht:s.heap.IsTuple a vs)(hx:vs[i]?=some x)(hQ:∀ h',h'.IsTupleIter I a (i + 1)->Heap.SameBut I s.heap h'->Q x {s with heap:=h'}) :
  wpAny (model prog w) A (Builtin.SmallTypes.nextOf (.ref I)) Q E s:=by
 refine Eeaa (id hit) λ o ho hc hd=>?_
 obtain ⟨ol,hol,_,nl,hdl⟩:=ht
 unfold Builtin.SmallTypes.nextOf
 refine wpAny_bind (wpAny_callSpecial?_slot (name:=Str.ofString "__next__") hit.typeIs F.slot_tuple_iterator_next
  (wpAny_call_entry F.slot_tuple_iterator_next hit.typeIs F.entry_tuple_iterator_next ?_ (F.args_tuple_iterator_next_1 _)))
 show wpAny _ _ (field (.ref I) 0 >>= _) _ _ s
 refine wpAny_bind (wpAny_field ho hd (x:=.ref a) rfl ?_)
 show wpAny _ _ (if (Value.ref a==Value.none)=true then _ else _) _ _ s
 refine rwE (if_neg (show ¬ ((Value.ref a==Value.none)=true) from Bool.false_ne_true)) ?_
 show wpAny _ _ (field (.ref I) 1 >>= _) _ _ s
 refine wpAny_bind (wpAny_field ho hd (x:=.int i 0) rfl ?_)
 show wpAny _ _ (seqItems? (.ref a) >>= _) _ _ s
 refine wpAny_bind (wpAny_seqItems hol hdl ?_)
 simp only [Int.toNat_natCast,hx]
 refine wpAny_bind (wpAny_setField ho hd (by simp) (wpAny_pure ⟨x,rfl,wpAny_pure (hQ _ ?_ (Heap.SameBut.update ..))⟩))
 exact ⟨_,Heap.get?_update_self _ ho (Obj.isFreed_of_fields (Obj.data_mapFields hd _)),(Obj.cls_mapFields ..).trans hc,by rw [Obj.data_mapFields hd];simp [rawInt]⟩
theorem WY {Q:Value->Shared->Prop}(hh:A.handled=none)(hit:s.heap.IsTupleIter I a i)(ht:s.heap.IsTuple a vs)(hx:vs[i]?=none)
  (hE:∀ h' e,Heap.ExtBut I s.heap h'->(∃ o,h'.get? e=some o/\o.cls=.type "StopIteration")->E (.ref e) {s with heap:=h'}) :
  wpAny (model prog w) A (Builtin.SmallTypes.nextOf (.ref I)) Q E s:=by
 refine Eeaa (id hit) λ o ho hc hd=>?_
 obtain ⟨ol,hol,_,nl,hdl⟩:=ht
 unfold Builtin.SmallTypes.nextOf
 refine wpAny_bind (wpAny_callSpecial?_slot (name:=Str.ofString "__next__") hit.typeIs F.slot_tuple_iterator_next
  (wpAny_call_entry F.slot_tuple_iterator_next hit.typeIs F.entry_tuple_iterator_next ?_ (F.args_tuple_iterator_next_1 _)))
 show wpAny _ _ (field (.ref I) 0 >>= _) _ _ s
 refine wpAny_bind (wpAny_field ho hd (x:=.ref a) rfl ?_)
 show wpAny _ _ (if (Value.ref a==Value.none)=true then _ else _) _ _ s
 refine rwE (if_neg (show ¬ ((Value.ref a==Value.none)=true) from Bool.false_ne_true)) ?_
 show wpAny _ _ (field (.ref I) 1 >>= _) _ _ s
 refine wpAny_bind (wpAny_field ho hd (x:=.int i 0) rfl ?_)
 show wpAny _ _ (seqItems? (.ref a) >>= _) _ _ s
 refine wpAny_bind (wpAny_seqItems hol hdl ?_)
 simp only [Int.toNat_natCast,hx]
 refine wpAny_bind (wpAny_rule (wpAny_bind (wpAny_setField ho hd (by simp) ?_)))
 show wpAny _ _ (newExc (.type "StopIteration") [] >>= _) _ _ _
 refine wpAny_bind ?_
 simp only [newExc,newTuple]
 refine wpAny_bind (wpAny_newObj_type ?_ (by size_fits))
 refine wpAny_bind (m:=firstArgMember _ _) (wpAny_of_eq (a:=Value.none) (by first | rfl | (simp only [firstArgMember];rfl)) ?_)
 refine wpAny_newObj_type ?_ (by size_fits)
 simp only [raiseNew]
 refine wpAny_bind (wpAny_handled ?_)
 first | refine rwE (show A.in1.handled=none from hh) ?_ | rw [hh]
 refine wpAny_bind (wpAny_pure (wpAny_throw ?_))
 exact hE _ _ (((Heap.SameBut.update ..).extBut.push _).push _) ⟨_,Heap.get?_push_size _ rfl,rfl⟩
theorem yY {Q:Value->Shared->Prop}{x:Value}(hi:SIt l s.heap I a i)(ht:SAt l s.heap a vs)(hx:vs[i]?=some x)(h:∀ h',SIt l h' I a (i + 1)->Heap.SameBut I s.heap h'->Q x {s with heap:=h'}) :
  wpAny (model prog w) A (Builtin.SmallTypes.nextOf (.ref I)) Q E s:=by
 cases l
 ·exact wc hi ht hx h
 ·exact wpAny_nextOf_list_item hi ht hx h
theorem uA {Q:Value->Shared->Prop}(hh:A.handled=none)(hi:SIt l s.heap I a i)(ht:SAt l s.heap a vs)(hx:vs[i]?=none)(hE:∀ h' e,Heap.ExtBut I s.heap h'->(∃ o,h'.get? e=some o/\o.cls=.type "StopIteration")->E (.ref e) {s with heap:=h'}) :
  wpAny (model prog w) A (Builtin.SmallTypes.nextOf (.ref I)) Q E s:=by
 cases l
 ·exact WY hh hi ht hx hE
 ·exact wpAny_nextOf_list_end hh hi ht hx hE
theorem jl {tgt:Expr}{v:Value}{o:Obj}{n:String}{fs:Array Value}{Q:Unit->Shared->Prop}(ho:s.heap.get? I=some o)(hc:o.cls=.type n)(hd:o.data=.fields fs)
  (hn:(["enumerate","zip","dict_itemiterator","dict_reverseitemiterator","odict_iterator","itertools.zip_longest","itertools.pairwise"].contains n)=false) (q:Q () s) :
  wpAny (model prog w) A (letOwnedTupleGo tgt (.ref I) v) Q E s:=by
 have key:∀ a,wpAny (model prog w) A (do
   let o<-load I
   match o.cls,o.data with
   | .type n,.fields vs =>
    if ["enumerate","zip","dict_itemiterator","dict_reverseitemiterator","odict_iterator","itertools.zip_longest","itertools.pairwise"].contains n&&vs[0]?==some (rawInt a) then
     rule "for.unpacks-the-owned-tuple"
     updateField I 0 .none
   | _,_=>pure ():Sem Unit) Q E s:=λ a=>by
  refine wpAny_bind (wpAny_load ho ?_)
  (refine rwE hc ?_;refine rwE hd ?_)
  dsimp only
  (refine rwE hn ?_;refine rwE (Bool.false_and ..) ?_;refine rwE (if_neg (by decide)) ?_)
  exact wpAny_pure q
 unfold letOwnedTupleGo
 cases tgt <;> first | exact wpAny_pure q | skip
 all_goals cases v <;> first | exact wpAny_pure q | exact key _
end
structure ZSt (h:Heap)(L:Nat)(l1 l2:Addr)(a b:Bool)(f0:Value)(k:Nat):Prop where
 z:IsZip h (L + 4) (L + 2) (L + 3) f0
 ti:IsPair h (L + 2) (.ref L) (.ref (L + 1))
 to:∃ x y,IsPair h (L + 3) x y
 i1:SIt a h L l1 k
 i2:SIt b h (L + 1) l2 k
theorem ZSt.at {h h':Heap}{L:Nat}{l1 l2:Addr}{a b:Bool}{f0:Value}{k:Nat}(x:ZSt h L l1 l2 a b f0 k)(q:∀ (c:Nat) o,L<=c->c<=L + 4->h.get? c=some o->h'.get? c=some o):ZSt h' L l1 l2 a b f0 k:=by
 refine Eee (x.to) λ u v to=>?_
 exact ⟨q _ _ (by exact Nat.le_add_right _ _) (by exact Nat.le_refl _) x.z,q _ _ (by exact Nat.le_add_right _ _) (by exact lin [_] [] (.a (.v 0) (.k 2)) (.a (.v 0) (.k 4)) [] tT9) x.ti,⟨u,v,q _ _ (by exact Nat.le_add_right _ _) (by exact lin [_] [] (.a (.v 0) (.k 3)) (.a (.v 0) (.k 4)) [] tT9) to⟩,x.i1.at λ o e=>q _ _ (by exact Nat.le_refl _) (by exact Nat.le_add_right _ _) e,x.i2.at λ o e=>q _ _ (by exact Nat.le_add_right _ _) (by exact lin [_] [] (.a (.v 0) (.k 1)) (.a (.v 0) (.k 4)) [] tT9) e⟩
noncomputable abbrev itO (n:String) (a:Addr):Obj:={cls:=.type n,data:=.fields #[.ref a,.int 0 0]}
noncomputable abbrev zH2 (h:Heap) (o1 o2:Obj):Heap:=(h.push o1).push o2
noncomputable abbrev zH3 (h:Heap) (o1 o2:Obj):Heap:=(zH2 h o1 o2).push {cls:=.type "tuple",data:=.seq #[.ref h.objs.size,.ref (h.push o1).objs.size]}
noncomputable abbrev zH4 (h:Heap) (o1 o2:Obj):Heap:=(zH3 h o1 o2).push {cls:=.type "tuple",data:=.seq #[.none,.none]}
noncomputable abbrev zH5 (h:Heap) (o1 o2:Obj):Heap:=(zH4 h o1 o2).push {cls:=.type "zip",data:=.fields #[.none,.bool false,.bool false,.ref (zH2 h o1 o2).objs.size,.ref (zH3 h o1 o2).objs.size]}
theorem xB (l1 l2:Addr)(xs ys:Array Value) :
  Meets (Builtin.«zip.__new__» ⟨[.type "zip",.ref l1,.ref l2],[]⟩) (λ _ R s=>s.heap.IsTuple l1 xs/\s.heap.IsTuple l2 ys /\
   R (.ok (.ret (.ref (zH4 s.heap (itO "tuple_iterator" l1) (itO "tuple_iterator" l2)).objs.size))) {s with heap:=zH5 s.heap (itO "tuple_iterator" l1) (itO "tuple_iterator" l2)}) :=
 .of_wp λ prog w A R s h=>by
  obtain ⟨hp,g,d,tk,os⟩:=s;refine Eaa (h) λ hl1 hl2 h=>?_
  have hsub:=sub_zip
  have hL1:Heap.IsTuple (Shared.heap ⟨hp,g,d,tk,os⟩) l1 xs:=hl1
  have hL2:Heap.IsTuple (Shared.heap ⟨hp.push {cls:=.type "tuple_iterator",data:=.fields #[.ref l1,.int 0 0]},g,d,tk,os⟩) l2 ys:=Heap.IsTuple.push hl2 _
  wp_walk using wpAny_pyIter_tuple hL1,wpAny_pyIter_tuple hL2
  exact ⟨_,rfl,h⟩
theorem US (l1 l2:Addr)(xs ys:Array Value) :
  Meets (Builtin.«zip.__new__» ⟨[.type "zip",.ref l1,.ref l2],[]⟩) (λ _ R s=>s.heap.IsTuple l1 xs/\s.heap.IsList l2 ys /\
   R (.ok (.ret (.ref (zH4 s.heap (itO "tuple_iterator" l1) (itO "list_iterator" l2)).objs.size))) {s with heap:=zH5 s.heap (itO "tuple_iterator" l1) (itO "list_iterator" l2)}) :=
 .of_wp λ prog w A R s h=>by
  obtain ⟨hp,g,d,tk,os⟩:=s;refine Eaa (h) λ hl1 hl2 h=>?_
  have hsub:=sub_zip
  have hL1:Heap.IsTuple (Shared.heap ⟨hp,g,d,tk,os⟩) l1 xs:=hl1
  have hL2:Heap.IsList (Shared.heap ⟨hp.push {cls:=.type "tuple_iterator",data:=.fields #[.ref l1,.int 0 0]},g,d,tk,os⟩) l2 ys:=Heap.IsList.push hl2 _
  wp_walk using wpAny_pyIter_tuple hL1,wpAny_pyIter_list hL2
  exact ⟨_,rfl,h⟩
theorem ur (l1 l2:Addr)(xs ys:Array Value) :
  Meets (Builtin.«zip.__new__» ⟨[.type "zip",.ref l1,.ref l2],[]⟩) (λ _ R s=>s.heap.IsList l1 xs/\s.heap.IsTuple l2 ys /\
   R (.ok (.ret (.ref (zH4 s.heap (itO "list_iterator" l1) (itO "tuple_iterator" l2)).objs.size))) {s with heap:=zH5 s.heap (itO "list_iterator" l1) (itO "tuple_iterator" l2)}) :=
 .of_wp λ prog w A R s h=>by
  obtain ⟨hp,g,d,tk,os⟩:=s;refine Eaa (h) λ hl1 hl2 h=>?_
  have hsub:=sub_zip
  have hL1:Heap.IsList (Shared.heap ⟨hp,g,d,tk,os⟩) l1 xs:=hl1
  have hL2:Heap.IsTuple (Shared.heap ⟨hp.push {cls:=.type "list_iterator",data:=.fields #[.ref l1,.int 0 0]},g,d,tk,os⟩) l2 ys:=Heap.IsTuple.push hl2 _
  wp_walk using wpAny_pyIter_list hL1,wpAny_pyIter_tuple hL2
  exact ⟨_,rfl,h⟩
theorem UG (l1 l2:Addr)(xs ys:Array Value) :
  Meets (Builtin.«zip.__new__» ⟨[.type "zip",.ref l1,.ref l2],[]⟩) (λ _ R s=>s.heap.IsList l1 xs/\s.heap.IsList l2 ys /\
   R (.ok (.ret (.ref (zH4 s.heap (itO "list_iterator" l1) (itO "list_iterator" l2)).objs.size))) {s with heap:=zH5 s.heap (itO "list_iterator" l1) (itO "list_iterator" l2)}) :=
 .of_wp λ prog w A R s h=>by
  obtain ⟨hp,g,d,tk,os⟩:=s;refine Eaa (h) λ hl1 hl2 h=>?_
  have hsub:=sub_zip
  have hL1:Heap.IsList (Shared.heap ⟨hp,g,d,tk,os⟩) l1 xs:=hl1
  have hL2:Heap.IsList (Shared.heap ⟨hp.push {cls:=.type "list_iterator",data:=.fields #[.ref l1,.int 0 0]},g,d,tk,os⟩) l2 ys:=Heap.IsList.push hl2 _
  wp_walk using wpAny_pyIter_list hL1,wpAny_pyIter_list hL2
  exact ⟨_,rfl,h⟩
theorem zC7 (h:Heap)(a b:Bool)(l1 l2:Addr):ZSt (zH5 h (itO (qP a) l1) (itO (qP b) l2)) h.objs.size l1 l2 a b .none 0/\(zH4 h (itO (qP a) l1) (itO (qP b) l2)).objs.size=h.objs.size + 4:=by
 generalize e1:itO (qP a) l1=o1
 generalize e2:itO (qP b) l2=o2
 have f1:o1.isFreed=false:=by refine rwS e1 ?_;rfl
 have f2:o2.isFreed=false:=by refine rwS e2 ?_;rfl
 have z1:(h.push o1).objs.size=h.objs.size + 1:=Heap.size_push ..
 have z2:(zH2 h o1 o2).objs.size=h.objs.size + 2:=by (refine rwE (Heap.size_push ..) ?_;refine rwE z1 ?_;rfl)
 have z3:(zH3 h o1 o2).objs.size=h.objs.size + 3:=by (refine rwE (Heap.size_push ..) ?_;refine rwE z2 ?_;rfl)
 have z4:(zH4 h o1 o2).objs.size=h.objs.size + 4:=by (refine rwE (Heap.size_push ..) ?_;refine rwE z3 ?_;rfl)
 have g5:(zH5 h o1 o2).get? (zH4 h o1 o2).objs.size=some _:=Heap.get?_push_size _ rfl
 have g4:(zH5 h o1 o2).get? (zH3 h o1 o2).objs.size=some _:=Heap.get?_push_of_some _ (Heap.get?_push_size _ rfl)
 have g3:(zH5 h o1 o2).get? (zH2 h o1 o2).objs.size=some _:=Heap.get?_push_of_some _ (Heap.get?_push_of_some _ (Heap.get?_push_size _ rfl))
 have g2:(zH5 h o1 o2).get? (h.push o1).objs.size=some o2:=Heap.get?_push_of_some _ (Heap.get?_push_of_some _ (Heap.get?_push_of_some _ (Heap.get?_push_size _ f2)))
 have g1:(zH5 h o1 o2).get? h.objs.size=some o1:=Heap.get?_push_of_some _ (Heap.get?_push_of_some _ (Heap.get?_push_of_some _ (Heap.get?_push_of_some _ (Heap.get?_push_size _ f1))))
 rw [z2,z3,z4] at g5
 rw [z1,z2] at g3
 rw [z3] at g4
 rw [z1] at g2
 refine ⟨⟨g5,g3,⟨_,_,g4⟩,?_,?_⟩,z4⟩
 ·subst e1
  cases a
  ·exact ⟨_,g1,rfl,rfl⟩
  ·exact ⟨_,g1,rfl,rfl⟩
 ·subst e2
  cases b
  ·exact ⟨_,g2,rfl,rfl⟩
  ·exact ⟨_,g2,rfl,rfl⟩
theorem V9 (h:Heap)(o1 o2:Obj):∀ c o,h.get? c=some o->(zH5 h o1 o2).get? c=some o:=λ c o x =>
 Heap.get?_push_of_some _ (Heap.get?_push_of_some _ (Heap.get?_push_of_some _ (Heap.get?_push_of_some _ (Heap.get?_push_of_some _ x))))
section
variable {prog:Program}{w:World}{A:Around}{E:Value->Shared->Prop}{s:Shared}{a b:Bool}{l1 l2 L:Nat}{xs ys:Array Value}{k:Nat}
theorem zAZ {Q:Value->Shared->Prop}(hl1:SAt a s.heap l1 xs)(hl2:SAt b s.heap l2 ys)
  (h:∀ h',ZSt h' s.heap.objs.size l1 l2 a b .none 0->(∀ c o,s.heap.get? c=some o->h'.get? c=some o)->Q (.ref (s.heap.objs.size + 4)) {s with heap:=h'}) :
  wpAny (model prog w) A (call (.type "zip") [.ref l1,.ref l2]) Q E s:=by
 have go:∀ n m,n=qP a->m=qP b->({s with heap:=zH5 s.heap (itO n l1) (itO m l2)}:Shared).TypeIs (.ref (zH4 s.heap (itO n l1) (itO m l2)).objs.size) "zip"/\Q (.ref (zH4 s.heap (itO n l1) (itO m l2)).objs.size) {s with heap:=zH5 s.heap (itO n l1) (itO m l2)}:=by
  rintro n m rfl rfl
  refine Ea (zC7 s.heap a b l1 l2) λ z e=>?_
  refine rwE e ?_
  exact ⟨⟨_,z.z,rfl⟩,h _ z (V9 _ _ _)⟩
 cases a <;> cases b
 ·exact callType_new F.called_zip (by decide) (F.typeCall_zip_2 _ _) (F.newCall_zip_2 _ _) (λ obj=>F.args_object_init_3 obj _ _) F.entry_zip_new (xB l1 l2 xs ys) ⟨hl1,hl2,go _ _ rfl rfl⟩
 ·exact callType_new F.called_zip (by decide) (F.typeCall_zip_2 _ _) (F.newCall_zip_2 _ _) (λ obj=>F.args_object_init_3 obj _ _) F.entry_zip_new (US l1 l2 xs ys) ⟨hl1,hl2,go _ _ rfl rfl⟩
 ·exact callType_new F.called_zip (by decide) (F.typeCall_zip_2 _ _) (F.newCall_zip_2 _ _) (λ obj=>F.args_object_init_3 obj _ _) F.entry_zip_new (ur l1 l2 xs ys) ⟨hl1,hl2,go _ _ rfl rfl⟩
 ·exact callType_new F.called_zip (by decide) (F.typeCall_zip_2 _ _) (F.newCall_zip_2 _ _) (λ obj=>F.args_object_init_3 obj _ _) F.entry_zip_new (UG l1 l2 xs ys) ⟨hl1,hl2,go _ _ rfl rfl⟩
theorem Vm {Q:Option Value->Shared->Prop}{x y:Value}(Z:ZSt s.heap L l1 l2 a b .none k)(hl1:SAt a s.heap l1 xs)(hl2:SAt b s.heap l2 ys)(b1:l1<L)(b2:l2<L)(hx:xs[k]?=some x)(hy:ys[k]?=some y)
  (hQ:∀ h',ZSt h' L l1 l2 a b (rawInt s.heap.objs.size) (k + 1)->IsPair h' s.heap.objs.size x y->(∀ c o,c≠L + 4->c≠L + 3->c≠L->c≠L + 1->s.heap.get? c=some o->h'.get? c=some o)->Q (some (.ref s.heap.objs.size)) {s with heap:=h'}) :
  wpAny (model prog w) A (pyNext (.ref (L + 4))) Q E s:=by
 obtain ⟨hz,hTI,⟨u,v,hTO⟩,h1,h2⟩:=Z
 have ne:∀ {m n:Nat},m≠n->((m:Addr)≠(n:Addr)):=λ h=>h
 have hT:s.TypeIs (.ref (L + 4)) "zip":=⟨_,hz,rfl⟩
 unfold pyNext
 refine wpAny_bind (wpAny_attempt (wpAny_callSpecial?_slot (name:=Str.ofString "__next__") hT F.slot_zip_next
  (wpAny_call_entry F.slot_zip_next hT F.entry_zip_next ?_ (F.args_zip_next_1 _))))
 show wpAny _ _ (field (.ref (L + 4)) 2 >>= _) _ _ _
 refine wpAny_bind (wpAny_field hz rfl (x:=.bool false) rfl ?_)
 show wpAny _ _ (field (.ref (L + 4)) 3 >>= _) _ _ _
 refine wpAny_bind (wpAny_field hz rfl (x:=.ref (L + 2)) rfl ?_)
 refine wpAny_bind (wpAny_seqItems hTI rfl ?_)
 show wpAny _ _ (Builtin.SmallTypes.ownedTupleIsFree (.ref (L + 4)) >>= _) _ _ _
 refine wpAny_bind ?_
 unfold Builtin.SmallTypes.ownedTupleIsFree
 refine wpAny_bind (wpAny_field hz rfl (x:=.none) rfl (wpAny_pure ?_))
 simp only [if_true]
 refine wpAny_bind (wpAny_rule ?_)
 refine wpAny_bind (wpAny_field hz rfl (x:=.ref (L + 3)) rfl ?_)
 refine wpAny_bind (wpAny_setField_rec hz (by simp) λ h₁ hz₁ hs₁=>?_)
 replace hz₁:IsZip h₁ (L + 4) (L + 2) (L + 3) .ellipsis:=hz₁
 refine wpAny_bind ?_
 simp only [List.zipIdx_cons,List.zipIdx_nil,List.forIn_cons,List.forIn_nil]
 refine wpAny_bind (wpAny_bind (wpAny_onRaise ?_))
 show wpAny _ _ (Builtin.SmallTypes.nextOf (.ref L) >>= _) _ _ _
 refine wpAny_bind (yY (h1.extBut hs₁.extBut (ne (by exact Nat.ne_of_lt (lin [_] [] (.a (.v 0) (.k 1)) (.a (.v 0) (.k 4)) [] tT9)))) (hl1.extBut hs₁.extBut (ne (by exact Nat.ne_of_lt (Nat.le_trans b1 (Nat.le_add_right _ _))))) hx λ h₂ h1₂ hs₂=>wpAny_pure ?_)
 have hTO₂:IsPair h₂ (L + 3) u v:=hs₂.extBut _ _ (ne (by exact Nat.ne_of_gt (lin [_] [] (.a (.v 0) (.k 1)) (.a (.v 0) (.k 3)) [] tT9))) (hs₁.extBut _ _ (ne (by exact Nat.ne_of_lt (Nat.lt_succ_self _))) hTO)
 refine wpAny_bind (wpAny_seqItems hTO₂ rfl ?_)
 refine wpAny_bind (wpAny_updateSeq_pair hTO₂ λ h₃ hTO₃ hs₃=>?_)
 replace hTO₃:IsPair h₃ (L + 3) x v:=hTO₃
 refine wpAny_bind (wpAny_letGo (wpAny_pure ?_))
 refine wpAny_bind (wpAny_bind (wpAny_onRaise ?_))
 show wpAny _ _ (Builtin.SmallTypes.nextOf (.ref (L + 1)) >>= _) _ _ _
 refine wpAny_bind (yY (((h2.extBut hs₁.extBut (ne (by exact Nat.ne_of_lt (lin [_] [] (.a (.a (.v 0) (.k 1)) (.k 1)) (.a (.v 0) (.k 4)) [] tT9)))).extBut hs₂.extBut (ne (by exact Nat.ne_of_gt (Nat.lt_succ_self _)))).extBut hs₃.extBut (ne (by exact Nat.ne_of_lt (lin [_] [] (.a (.a (.v 0) (.k 1)) (.k 1)) (.a (.v 0) (.k 3)) [] tT9))))
  (((hl2.extBut hs₁.extBut (ne (by exact Nat.ne_of_lt (Nat.le_trans b2 (Nat.le_add_right _ _))))).extBut hs₂.extBut (ne (by exact Nat.ne_of_lt (b2)))).extBut hs₃.extBut (ne (by exact Nat.ne_of_lt (Nat.le_trans b2 (Nat.le_add_right _ _))))) hy λ h₄ h2₄ hs₄=>wpAny_pure ?_)
 have hTO₄:IsPair h₄ (L + 3) x v:=hs₄.extBut _ _ (ne (by exact Nat.ne_of_gt (lin [_] [] (.a (.a (.v 0) (.k 1)) (.k 1)) (.a (.v 0) (.k 3)) [] tT9))) hTO₃
 refine wpAny_bind (wpAny_seqItems hTO₄ rfl ?_)
 refine wpAny_bind (wpAny_updateSeq_pair hTO₄ λ h₅ hTO₅ hs₅=>?_)
 replace hTO₅:IsPair h₅ (L + 3) x y:=hTO₅
 refine wpAny_bind (wpAny_letGo (wpAny_pure (wpAny_pure ?_)))
 refine wpAny_bind (wpAny_seqItems hTO₅ rfl ?_)
 refine wpAny_bind (wpAny_newTuple ?_)
 have hsz:h₅.objs.size=s.heap.objs.size:=by (refine rwE hs₅.1 ?_;refine rwE hs₄.1 ?_;refine rwE hs₃.1 ?_;refine rwE hs₂.1 ?_;refine rwE hs₁.1 ?_;rfl)
 have hz₅:IsZip h₅ (L + 4) (L + 2) (L + 3) .ellipsis:=hs₅.extBut _ _ (ne (by exact Nat.ne_of_gt (Nat.lt_succ_self _))) (hs₄.extBut _ _ (ne (by exact Nat.ne_of_gt (lin [_] [] (.a (.a (.v 0) (.k 1)) (.k 1)) (.a (.v 0) (.k 4)) [] tT9))) (hs₃.extBut _ _ (ne (by exact Nat.ne_of_gt (Nat.lt_succ_self _))) (hs₂.extBut _ _ (ne (by exact Nat.ne_of_gt (lin [_] [] (.a (.v 0) (.k 1)) (.a (.v 0) (.k 4)) [] tT9))) hz₁)))
 have hk₅:∀ (c:Nat) o,c≠L + 4->c≠L + 3->c≠L->c≠L + 1->s.heap.get? c=some o->h₅.get? c=some o:=λ c o c1 c2 c3 c4 e =>
  hs₅.extBut _ _ c2 (hs₄.extBut _ _ c4 (hs₃.extBut _ _ c2 (hs₂.extBut _ _ c3 (hs₁.extBut _ _ c1 e))))
 have h1₅:SIt a h₅ L l1 (k + 1):=((h1₂.extBut hs₃.extBut (ne (by exact Nat.ne_of_lt (lin [_] [] (.a (.v 0) (.k 1)) (.a (.v 0) (.k 3)) [] tT9)))).extBut hs₄.extBut (ne (by exact Nat.ne_of_lt (Nat.lt_succ_self _)))).extBut hs₅.extBut (ne (by exact Nat.ne_of_lt (lin [_] [] (.a (.v 0) (.k 1)) (.a (.v 0) (.k 3)) [] tT9)))
 have h2₅:SIt b h₅ (L + 1) l2 (k + 1):=h2₄.extBut hs₅.extBut (ne (by exact Nat.ne_of_lt (lin [_] [] (.a (.a (.v 0) (.k 1)) (.k 1)) (.a (.v 0) (.k 3)) [] tT9)))
 have hzlt:L + 4<h₅.objs.size:=Heap.lt_size hz₅
 show wpAny _ _ (Builtin.SmallTypes.ownedTupleHandOut (.ref (L + 4)) (.ref h₅.objs.size) >>= _) _ _ _
 refine wpAny_bind ?_
 unfold Builtin.SmallTypes.ownedTupleHandOut
 have hz₆:IsZip (h₅.push {cls:=.type "tuple",data:=.seq #[x,y]}) (L + 4) (L + 2) (L + 3) .ellipsis:=Heap.get?_push_of_some _ hz₅
 refine wpAny_bind (wpAny_setField_rec hz₆ (by simp) λ h₇ hz₇ hs₇=>?_)
 replace hz₇:IsZip h₇ (L + 4) (L + 2) (L + 3) (rawInt h₅.objs.size):=hz₇
 refine wpAny_setField_rec hz₇ (by simp) λ h₈ hz₈ hs₈=>?_
 replace hz₈:IsZip h₈ (L + 4) (L + 2) (L + 3) (rawInt h₅.objs.size):=hz₈
 have up:∀ (c:Nat) o,c≠L + 4->h₅.get? c=some o->h₈.get? c=some o:=λ c o c1 e=>hs₈.extBut _ _ c1 (hs₇.extBut _ _ c1 (Heap.get?_push_of_some _ e))
 have hT₈:IsPair h₈ h₅.objs.size x y:=hs₈.extBut _ _ (Nat.ne_of_gt hzlt) (hs₇.extBut _ _ (Nat.ne_of_gt hzlt) (Heap.get?_push_size _ rfl))
 have hTI₅:IsPair h₅ (L + 2) (.ref L) (.ref (L + 1)):=hk₅ _ _ (by exact Nat.ne_of_lt (lin [_] [] (.a (.a (.v 0) (.k 2)) (.k 1)) (.a (.v 0) (.k 4)) [] tT9)) (by exact Nat.ne_of_lt (Nat.lt_succ_self _)) (by exact Nat.ne_of_gt (lin [_] [] (.a (.v 0) (.k 1)) (.a (.v 0) (.k 2)) [] tT9)) (by exact Nat.ne_of_gt (Nat.lt_succ_self _)) hTI
 rw [hsz] at hz₈ hT₈
 have fin:=hQ h₈ ⟨hz₈,up _ _ (by exact Nat.ne_of_lt (lin [_] [] (.a (.a (.v 0) (.k 2)) (.k 1)) (.a (.v 0) (.k 4)) [] tT9)) hTI₅,⟨_,_,up _ _ (by exact Nat.ne_of_lt (Nat.lt_succ_self _)) hTO₅⟩,h1₅.at λ o e=>up _ o (by exact Nat.ne_of_lt (lin [_] [] (.a (.v 0) (.k 1)) (.a (.v 0) (.k 4)) [] tT9)) e,h2₅.at λ o e=>up _ o (by exact Nat.ne_of_lt (lin [_] [] (.a (.a (.v 0) (.k 1)) (.k 1)) (.a (.v 0) (.k 4)) [] tT9)) e⟩ hT₈ λ c o c1 c2 c3 c4 e=>up c o c1 (hk₅ c o c1 c2 c3 c4 e)
 rw [<- hsz] at fin
 exact wpAny_pure ⟨_,rfl,wpAny_pure fin⟩
theorem zBc {Q:Option Value->Shared->Prop}(hh:A.handled=none)(Z:ZSt s.heap L l1 l2 a b .none k)(hl1:SAt a s.heap l1 xs)(hl2:SAt b s.heap l2 ys)(b1:l1<L)(b2:l2<L)(hend:xs[k]?=none∨ys[k]?=none)
  (hQ:∀ h',(∀ c o,c≠L + 4->c≠L + 3->c≠L->c≠L + 1->s.heap.get? c=some o->h'.get? c=some o)->Q none {s with heap:=h'}):wpAny (model prog w) A (pyNext (.ref (L + 4))) Q E s:=by
 obtain ⟨hz,hTI,⟨u,v,hTO⟩,h1,h2⟩:=Z
 have ne:∀ {m n:Nat},m≠n->((m:Addr)≠(n:Addr)):=λ h=>h
 have hT:s.TypeIs (.ref (L + 4)) "zip":=⟨_,hz,rfl⟩
 have hE:∀ h' e,(∀ (c:Nat) o,c≠L + 4->c≠L + 3->c≠L->c≠L + 1->s.heap.get? c=some o->h'.get? c=some o)->(∃ o,h'.get? e=some o/\o.cls=.type "StopIteration") ->
   wpAny (model prog w) A (do if<-isInstance (.ref e) (.type "StopIteration") then pure none else throw (.ref e)) Q E {s with heap:=h'}:=λ h' e hk ⟨o,ho,hc⟩ =>
  wpAny_bind (wpAny_isInstance (T:="StopIteration") (b:=true) ⟨o,ho,hc⟩ isSubtype_stop (wpAny_pure (hQ _ hk)))
 unfold pyNext
 refine wpAny_bind (wpAny_attempt (wpAny_callSpecial?_slot (name:=Str.ofString "__next__") hT F.slot_zip_next
  (wpAny_call_entry F.slot_zip_next hT F.entry_zip_next ?_ (F.args_zip_next_1 _))))
 show wpAny _ _ (field (.ref (L + 4)) 2 >>= _) _ _ _
 refine wpAny_bind (wpAny_field hz rfl (x:=.bool false) rfl ?_)
 show wpAny _ _ (field (.ref (L + 4)) 3 >>= _) _ _ _
 refine wpAny_bind (wpAny_field hz rfl (x:=.ref (L + 2)) rfl ?_)
 refine wpAny_bind (wpAny_seqItems hTI rfl ?_)
 show wpAny _ _ (Builtin.SmallTypes.ownedTupleIsFree (.ref (L + 4)) >>= _) _ _ _
 refine wpAny_bind ?_
 unfold Builtin.SmallTypes.ownedTupleIsFree
 refine wpAny_bind (wpAny_field hz rfl (x:=.none) rfl (wpAny_pure ?_))
 simp only [if_true]
 refine wpAny_bind (wpAny_rule ?_)
 refine wpAny_bind (wpAny_field hz rfl (x:=.ref (L + 3)) rfl ?_)
 refine wpAny_bind (wpAny_setField_rec hz (by simp) λ h₁ hz₁ hs₁=>?_)
 replace hz₁:IsZip h₁ (L + 4) (L + 2) (L + 3) .ellipsis:=hz₁
 refine wpAny_bind ?_
 simp only [List.zipIdx_cons,List.zipIdx_nil,List.forIn_cons,List.forIn_nil]
 refine wpAny_bind (wpAny_bind (wpAny_onRaise ?_))
 show wpAny _ _ (Builtin.SmallTypes.nextOf (.ref L) >>= _) _ _ _
 cases hx:xs[k]? with
 | none =>
  refine wpAny_bind (uA hh (h1.extBut hs₁.extBut (ne (by exact Nat.ne_of_lt (lin [_] [] (.a (.v 0) (.k 1)) (.a (.v 0) (.k 4)) [] tT9)))) (hl1.extBut hs₁.extBut (ne (by exact Nat.ne_of_lt (Nat.le_trans b1 (Nat.le_add_right _ _))))) hx λ h₂ e hs₂ he=>?_)
  (refine Eea (he) λ oe hoe hce=>?_;try clear he)
  have hz₂:IsZip h₂ (L + 4) (L + 2) (L + 3) .ellipsis:=hs₂ _ _ (ne (by exact Nat.ne_of_gt (lin [_] [] (.a (.v 0) (.k 1)) (.a (.v 0) (.k 4)) [] tT9))) hz₁
  have hez:e≠L + 4:=λ x=>by subst x;rw [hz₂] at hoe;cases hoe;simp at hce
  refine wpAny_setField_rec hz₂ (by simp) λ h₃ _ hs₃=>hE h₃ e (λ c o c1 _ c3 _ x=>hs₃.extBut _ _ c1 (hs₂ _ _ c3 (hs₁.extBut _ _ c1 x))) ⟨oe,hs₃.extBut _ _ hez hoe,hce⟩
 | some x =>
  have hy:ys[k]?=none:=by rcases hend with h | h;rw [hx] at h;cases h;exact h
  refine wpAny_bind (yY (h1.extBut hs₁.extBut (ne (by exact Nat.ne_of_lt (lin [_] [] (.a (.v 0) (.k 1)) (.a (.v 0) (.k 4)) [] tT9)))) (hl1.extBut hs₁.extBut (ne (by exact Nat.ne_of_lt (Nat.le_trans b1 (Nat.le_add_right _ _))))) hx λ h₂ h1₂ hs₂=>wpAny_pure ?_)
  have hTO₂:IsPair h₂ (L + 3) u v:=hs₂.extBut _ _ (ne (by exact Nat.ne_of_gt (lin [_] [] (.a (.v 0) (.k 1)) (.a (.v 0) (.k 3)) [] tT9))) (hs₁.extBut _ _ (ne (by exact Nat.ne_of_lt (Nat.lt_succ_self _))) hTO)
  refine wpAny_bind (wpAny_seqItems hTO₂ rfl ?_)
  refine wpAny_bind (wpAny_updateSeq_pair hTO₂ λ h₃ hTO₃ hs₃=>?_)
  refine wpAny_bind (wpAny_letGo (wpAny_pure ?_))
  refine wpAny_bind (wpAny_bind (wpAny_onRaise ?_))
  show wpAny _ _ (Builtin.SmallTypes.nextOf (.ref (L + 1)) >>= _) _ _ _
  refine wpAny_bind (uA hh (((h2.extBut hs₁.extBut (ne (by exact Nat.ne_of_lt (lin [_] [] (.a (.a (.v 0) (.k 1)) (.k 1)) (.a (.v 0) (.k 4)) [] tT9)))).extBut hs₂.extBut (ne (by exact Nat.ne_of_gt (Nat.lt_succ_self _)))).extBut hs₃.extBut (ne (by exact Nat.ne_of_lt (lin [_] [] (.a (.a (.v 0) (.k 1)) (.k 1)) (.a (.v 0) (.k 3)) [] tT9))))
   (((hl2.extBut hs₁.extBut (ne (by exact Nat.ne_of_lt (Nat.le_trans b2 (Nat.le_add_right _ _))))).extBut hs₂.extBut (ne (by exact Nat.ne_of_lt (b2)))).extBut hs₃.extBut (ne (by exact Nat.ne_of_lt (Nat.le_trans b2 (Nat.le_add_right _ _))))) hy λ h₄ e hs₄ he=>?_)
  (refine Eea (he) λ oe hoe hce=>?_;try clear he)
  have hz₄:IsZip h₄ (L + 4) (L + 2) (L + 3) .ellipsis:=hs₄ _ _ (ne (by exact Nat.ne_of_gt (lin [_] [] (.a (.a (.v 0) (.k 1)) (.k 1)) (.a (.v 0) (.k 4)) [] tT9))) (hs₃.extBut _ _ (ne (by exact Nat.ne_of_gt (Nat.lt_succ_self _))) (hs₂.extBut _ _ (ne (by exact Nat.ne_of_gt (lin [_] [] (.a (.v 0) (.k 1)) (.a (.v 0) (.k 4)) [] tT9))) hz₁))
  have hez:e≠L + 4:=λ x=>by subst x;rw [hz₄] at hoe;cases hoe;simp at hce
  refine wpAny_setField_rec hz₄ (by simp) λ h₅ _ hs₅=>hE h₅ e (λ c o c1 c2 c3 c4 x=>hs₅.extBut _ _ c1 (hs₄ _ _ c4 (hs₃.extBut _ _ c2 (hs₂.extBut _ _ c3 (hs₁.extBut _ _ c1 x))))) ⟨oe,hs₅.extBut _ _ hez hoe,hce⟩
theorem zD5 {elts:List Expr}{x1:Nat}{pos:Pos}{T:Addr}{Q:Unit->Shared->Prop}(Z:ZSt s.heap L l1 l2 a b (rawInt T) k)(hQ:∀ h',ZSt h' L l1 l2 a b .none k->Heap.SameBut (L + 4) s.heap h'->Q () {s with heap:=h'}) :
  wpAny (model prog w) A (letOwnedTupleGo (.Tuple elts x1 pos) (.ref (L + 4)) (.ref T)) Q E s:=by
 have ne:∀ {m n:Nat},m≠n->((m:Addr)≠(n:Addr)):=λ h=>h
 refine wpAny_letOwnedTupleGo_zip Z.z λ h' hz' hs'=>hQ h' ⟨hz',hs'.extBut _ _ (ne (by exact Nat.ne_of_lt (lin [_] [] (.a (.a (.v 0) (.k 2)) (.k 1)) (.a (.v 0) (.k 4)) [] tT9))) Z.ti,?_,Z.i1.extBut hs'.extBut (ne (by exact Nat.ne_of_lt (lin [_] [] (.a (.v 0) (.k 1)) (.a (.v 0) (.k 4)) [] tT9))),Z.i2.extBut hs'.extBut (ne (by exact Nat.ne_of_lt (lin [_] [] (.a (.a (.v 0) (.k 1)) (.k 1)) (.a (.v 0) (.k 4)) [] tT9)))⟩ hs'
 refine Eee (Z.to) λ u v e=>?_
 exact ⟨u,v,hs'.extBut _ _ (ne (by exact Nat.ne_of_lt (Nat.lt_succ_self _))) e⟩
end
section
variable {C:Cx}{T:Tabs}{F:Fm}{s s' s₁:Shared}{φ φ' φ₁:Addr->Prop}{μ μ' μ₁:List Addr}{ρ ρ' ρ₁:Rho}{σ σ' σ₁:zA}{A:Around}{h h':Heap}{own:List Addr}
structure Lone (h:Heap)(φ:Addr->Prop)(μ:List Addr)(own:List Addr):Prop where
 nm:∀ b,b∈own->b∉μ
 nf:∀ b,b∈own->¬ φ b
 at_:∀ b,b∈own->∃ o,h.get? b=some o
theorem Rel.butL (R:Rel C T h φ μ σ)(nm:∀ b,b∈own->b∉μ)(nf:∀ b,b∈own->¬ φ b)(k:∀ c o,c∉own->h.get? c=some o->h'.get? c=some o)(ex:∀ b,b∈own->∃ o,h'.get? b=some o) :
  Rel C T h' φ μ σ/\Ext h φ μ h' φ μ own:=by
 have kf:∀ b,φ b->φ b/\h'.get? b=h.get? b:=λ b f=>⟨f,by refine Ee (R.frz b f) λ o e=>?_;refine rwE e ?_;exact k b o (λ m=>nf b m f) e⟩
 have exx:∀ b o,h.get? b=some o->∃ o',h'.get? b=some o':=λ b o e=>by
  by_cases q:b∈own
  ·exact ex b q
  ·exact ⟨o,k b o q e⟩
 refine ⟨⟨λ b o e=>by refine rwE ((kf b (R.base b o e)).2) ?_;exact R.keep b o e,R.base,λ b f=>let ⟨o,e⟩:=R.frz b f;exx b o e,R.len,R.nodup,λ j b e=>let ⟨o,e'⟩:=R.lt j b e;exx b o e',R.apart,λ j b mo e e'=>?_⟩,
  ⟨kf,λ _ f=>.inl f,λ _ _ e=>e,λ _ _ e=>.inl e,exx,λ b o e _ nw=>by refine rwE (k b o nw e) ?_;exact Kept.refl _⟩⟩
 refine Ee (R.lt j b e) λ o eo=>?_
 exact Zb (R.at_ j b mo e e') kf (λ _ _ e=>e) (.inr ((k b o (λ m=>nm b m (List.mem_iff_getElem?.mpr ⟨j,e⟩)) eo).trans eo.symm))
theorem Lone.ext {wr fr:List Addr}(N:Lone h φ μ own)(X:Ext h φ μ h' φ' μ' wr fr)(hw:∀ b,b∈own->b∉wr)(hf:∀ b,b∈own->b∉fr):Lone h' φ' μ' own/\∀ b,b∈own->h'.get? b=h.get? b:=by
 have e:∀ b,b∈own->h'.get? b=h.get? b:=λ b m=>by
  refine Ee (N.at_ b m) λ o ho=>?_
  refine rwE ho ?_;exact (X.oth b o ho (N.nm b m) (hw b m)).exact (hf b m)
 refine ⟨⟨λ b m=>?_,λ b m=>?_,λ b m=>?_⟩,e⟩
 ·refine Ee (N.at_ b m) λ o ho=>?_;exact X.notin ho (N.nm b m)
 ·refine Ee (N.at_ b m) λ o ho=>?_;exact X.notfrz ho (N.nm b m) (N.nf b m)
 ·refine rwE (e b m) ?_;exact N.at_ b m
structure Walk (C:Cx)(T:Tabs)(A:Around)(it:Value)(tgt:Expr)(own:List Addr)(src:Option (Nat×List PyData))(xs:List PyData)(It:Nat->Heap->Prop)(Sr:Heap->(Addr->Prop)->List Addr->Prop):Prop where
 frame:∀ (k:Nat) (h h':Heap),It k h->(∀ b,b∈own->h'.get? b=h.get? b)->It k h'
 live:∀ (k:Nat) (h:Heap),It k h->∀ b,b∈own->∃ o,h.get? b=some o
 sr:∀ (h h':Heap) (φ φ':Addr->Prop) (μ μ' wr fr:List Addr),Sr h φ μ->Ext h φ μ h' φ' μ' wr fr->Sr h' φ' μ'
 turn:∀ (k:Nat) (x:PyData) (s:Shared) (φ:Addr->Prop) (μ:List Addr) (σ:zA) (Q:Value->Shared->Prop),xs[k]?=some x->It k s.heap->Rel C T s.heap φ μ σ->Sr s.heap φ μ->zZ src σ True->Lone s.heap φ μ own ->
  (∀ v h' φ' tk,Rel C T h' φ' μ σ->Ext s.heap φ μ h' φ' μ own->VP h' φ' v x->It (k + 1) h'->Lone h' φ' μ own->Q v {s with heap:=h',toks:=tk}) ->
  wpAny (model C.prog C.w) A (pyNext it) (λ r s₁=>match r with | none=>False | some v=>wpAny (model C.prog C.w) A (letOwnedTupleGo tgt it v) (λ _ s₂=>Q v s₂) NoE s₁) NoE s
 done:∀ (s:Shared) (φ:Addr->Prop) (μ:List Addr) (σ:zA) (Q:Option Value->Shared->Prop),It xs.length s.heap->Rel C T s.heap φ μ σ->Sr s.heap φ μ->zZ src σ True->Lone s.heap φ μ own ->
  (∀ h' tk,(∀ c o,c∉own->s.heap.get? c=some o->h'.get? c=some o)->Q none {s with heap:=h',toks:=tk})->wpAny (model C.prog C.w) A (pyNext it) Q NoE s
 self:∀ (k:Nat) (s:Shared) (Q:Value->Shared->Prop),It k s.heap->Q it s->wpAny (model C.prog C.w) A (pyIter it) Q NoE s
inductive Srt where
 | fz (l:Bool) (a:Addr)
 | ob (i:Nat) (a:Addr)
noncomputable def Srt.l:Srt->Bool
 | .fz l _=>l
 | .ob _ _=>true
noncomputable def Srt.a:Srt->Addr
 | .fz _ a=>a
 | .ob _ a=>a
noncomputable def Srt.ok (S:Srt)(xs:List PyData)(h:Heap)(φ:Addr->Prop)(μ:List Addr):Prop:=match S with
 | .fz l a=>φ a/\∃ vs:List Value,SAt l h a vs.toArray/\VPs h φ vs xs
 | .ob i a=>μ[i]?=some a
noncomputable def Srt.stay (S:Srt)(xs:List PyData)(σ:zA):Prop:=match S with
 | .fz _ _=>True
 | .ob i _=>σ[i]?=some (.lst xs)
theorem Srt.at_ {S:Srt}{xs:List PyData}(R:Rel C T h φ μ σ)(o:S.ok xs h φ μ)(t:S.stay xs σ):∃ vs:List Value,SAt S.l h S.a vs.toArray/\VPs h φ vs xs:=by
 cases S with
 | fz l a=>exact o.2
 | ob i a =>
  refine Eeea (R.at_ i a _ o t) λ vs n ho hp=>?_
  exact ⟨vs,⟨_,ho,rfl,_,rfl⟩,hp⟩
theorem Srt.ext {S:Srt}{xs:List PyData}{wr fr:List Addr}(o:S.ok xs h φ μ)(X:Ext h φ μ h' φ' μ' wr fr):S.ok xs h' φ' μ':=by
 cases S with
 | fz l a =>
  obtain ⟨f,vs,h1,h2⟩:=o
  exact ⟨(X.frz a f).1,vs,h1.at λ o e=>(X.frz a f).2.trans e,X.vps h2⟩
 | ob i a=>exact X.pre i a o
theorem Wc (R:Rel C T h φ μ σ){d:D}{v:Value}{xs:List PyData}(V:VD h φ μ v d)(e:ZA σ d=some xs):∃ S:Srt,v=.ref S.a/\S.ok xs h φ μ/\S.stay xs σ/\(∀ i,d=.obj i->S=.ob i S.a)/\((∀ i,d≠.obj i)->∃ l,S=.fz l S.a):=by
 cases d with
 | p x =>
  obtain ⟨a,vs,rfl,f,r,⟨_,ht⟩ | ⟨_,ht⟩⟩:=yC V.ip e
  ·exact ⟨.fz false a,rfl,⟨f,_,ht.t,r⟩,trivial,λ i h=>(nomatch h),λ _=>⟨_,rfl⟩⟩
  ·exact ⟨.fz true a,rfl,⟨f,_,ht,r⟩,trivial,λ i h=>(nomatch h),λ _=>⟨_,rfl⟩⟩
 | obj i =>
  (refine Eea (V.iobj) λ a q8q=>?_;obtain rfl:=q8q;intro ha)
  exact ⟨.ob i a,rfl,ha,QY e,λ j h=>by cases h;rfl,λ h=>absurd rfl (h _)⟩
 | _=>exact nn e
theorem vP {I:Addr}{tgt:Expr}{S:Srt}{xs:List PyData}{src:Option (Nat×List PyData)}(hA:A.handled=none)(hs:∀ σ,zZ src σ True->S.stay xs σ) :
  Walk C T A (.ref I) tgt [I] src xs (λ k h=>SIt S.l h I S.a k) (λ h φ μ=>S.ok xs h φ μ):=by
 have liv:∀ (k:Nat) (h:Heap),SIt S.l h I S.a k->∃ o,h.get? I=some o:=λ k h x=>by
  refine Eeaa (x.obj) λ o ho hc _=>?_
  exact ⟨o,ho⟩
 refine ⟨λ k h h' x e=>x.at λ o q=>(e I (by simp)).trans q,λ k h x b m=>by rw [List.mem_singleton] at m;refine rwE m ?_;exact liv k h x,λ h h' φ φ' μ μ' wr fr o X=>Srt.ext o X,?_,?_,λ k s Q x q=>V8 x q⟩
 ·intro k x s φ μ σ Q hx hit R o st N hQ
  refine Eea (Srt.at_ R o (hs σ st)) λ vs h1 h2=>?_
  refine Eea (h2.get hx) λ v hv hp=>?_
  refine VV hit h1 (by simpa using hv) λ h' hit' hs'=>?_
  obtain ⟨o',ho',hc',fs,hd'⟩:=hit'.obj
  refine jl ho' hc' hd' (by cases S.l <;> decide) ?_
  obtain ⟨R',X⟩:=R.butL (h':=h') N.nm N.nf (λ c o m e=>hs'.extBut c o (λ q=>m (by simp [q])) e) λ b m=>by rw [List.mem_singleton] at m;refine rwE m ?_;exact ⟨o',ho'⟩
  refine hQ v h' φ s.toks R' X (X.vp hp) hit' ⟨N.nm,N.nf,λ b m=>by rw [List.mem_singleton] at m;refine rwE m ?_;exact liv _ _ hit'⟩
 ·intro s φ μ σ Q hit R o st N hQ
  refine Eea (Srt.at_ R o (hs σ st)) λ vs h1 h2=>?_
  have hl:=h2.length
  exact zAW hA hit h1 (by simp [hl]) λ h' he=>hQ h' s.toks λ c o m e=>he c o (λ q=>m (by simp [q])) e
theorem vh {I:Addr}{tgt:Expr}{a:Int}{m:Nat}(hA:A.handled=none) :
  Walk C T A (.ref I) tgt [I] none ((List.range m).map λ (j:Nat)=>PyData.int (a + j)) (λ k h=>IsRangeIter h I (a + (k:Nat)) ((m:Int) - (k:Nat)) 1) (λ _ _ _=>True):=by
 have W:=Walks.range (prog:=C.prog) (w:=C.w) hA I a 1 m
 have liv:∀ (k:Nat) (h:Heap),IsRangeIter h I (a + (k:Nat)) ((m:Int) - (k:Nat)) 1->∃ o,h.get? I=some o:=λ k h x=>⟨_,x⟩
 refine ⟨λ k h h' x e=>by unfold IsRangeIter at x ⊢;refine rwE (e I (by simp)) ?_;exact x,λ k h x b m=>by rw [List.mem_singleton] at m;refine rwE m ?_;exact liv k h x,λ h h' φ φ' μ μ' wr fr o X=>trivial,?_,?_,λ k s Q x q=>?_⟩
 ·intro k x s φ μ σ Q hx hit R o st N hQ
  rw [List.getElem?_map,Option.map_eq_some_iff] at hx
  (refine Eea (hx) λ j hj q15q=>?_;try clear hx;obtain rfl:=q15q)
  have hkm:k<m:=by have:=(List.getElem?_eq_some_iff.mp hj).1;simpa using this
  have hjk:j=k:=by rw [List.getElem?_range hkm] at hj;cases hj;rfl
  subst hjk
  refine W.item j s _ _ hkm (by simpa using hit) λ v h' tk hv hst hk=>?_
  (refine Ee (hv) λ t q17q=>?_;try clear hv;obtain rfl:=q17q)
  have hst':IsRangeIter h' I (a + ((j + 1:Nat):Nat)) ((m:Int) - ((j + 1:Nat):Nat)) 1:=by simpa using hst
  refine jl hst' rfl rfl (by decide) ?_
  obtain ⟨R',X⟩:=R.butL (h':=h') N.nm N.nf (λ c o m e=>hk c o m e) λ b m=>by rw [List.mem_singleton] at m;refine rwE m ?_;exact ⟨_,hst'⟩
  refine hQ _ h' φ tk R' X (by simpa using VP.int _ _) hst' ⟨N.nm,N.nf,λ b m=>by rw [List.mem_singleton] at m;refine rwE m ?_;exact liv _ _ hst'⟩
 ·intro s φ μ σ Q hit R o st N hQ
  refine W.done s Q NoE (by simpa using hit) λ h' tk hk=>hQ h' tk hk
 ·exact W.self k s _ _ (by simpa using x) q
theorem vn {L c:Nat}(h1:L<=c)(h2:c<=L + 4):c∈[L,L + 1,L + 2,L + 3,L + 4] :=
 (List.mem_map.mpr ⟨c - L,List.mem_range.mpr (Nat.sub_lt_left_of_lt_add h1 (Nat.lt_succ_of_le h2)),Nat.add_sub_of_le h1⟩:c∈(List.range 5).map (L + ·))
theorem VX {P:Nat->Prop}{a b c d e:Nat}(ha:P a)(hb:P b)(hc:P c)(hd:P d)(he:P e)(x:Nat)(m:x∈[a,b,c,d,e]):P x :=
 List.forall_mem_cons.mpr ⟨ha,List.forall_mem_cons.mpr ⟨hb,List.forall_mem_cons.mpr ⟨hc,List.forall_mem_cons.mpr ⟨hd,List.forall_mem_cons.mpr ⟨he,λ _ m=>absurd m List.not_mem_nil⟩⟩⟩⟩⟩ x m
theorem VW {L:Nat}{elts:List Expr}{x1:Nat}{pos:Pos}{S1 S2:Srt}{xs ys:List PyData}{src:Option (Nat×List PyData)}(hA:A.handled=none)(hs:∀ σ,zZ src σ True->S1.stay xs σ/\S2.stay ys σ)(b1:(show Nat from S1.a)<L)(b2:(show Nat from S2.a)<L) :
  Walk C T A (.ref (L + 4)) (.Tuple elts x1 pos) [L,L + 1,L + 2,L + 3,L + 4] src ((xs.zip ys).map λ p=>.tuple [p.1,p.2]) (λ k h=>ZSt h L S1.a S2.a S1.l S2.l .none k) (λ h φ μ=>S1.ok xs h φ μ/\S2.ok ys h φ μ):=by
 have liv:∀ (k:Nat) (f0:Value) (h:Heap),ZSt h L S1.a S2.a S1.l S2.l f0 k->∀ b,b∈[L,L + 1,L + 2,L + 3,L + 4]->∃ o,h.get? b=some o:=λ k f0 h x b m=>by
  exact VX (P:=λ b=>∃ o,h.get? b=some o) (Eeaa (x.i1.obj) λ o ho _ _=>⟨o,ho⟩) (Eeaa (x.i2.obj) λ o ho _ _=>⟨o,ho⟩) ⟨_,x.ti⟩ (Eee (x.to) λ _ _ e=>⟨_,e⟩) ⟨_,x.z⟩ b m
 have mem:∀ c:Nat,c∉[L,L + 1,L + 2,L + 3,L + 4]->c≠L + 4/\c≠L + 3/\c≠L/\c≠L + 1:=λ c m=>by
  exact ⟨λ e=>m (e▸.tail _ (.tail _ (.tail _ (.tail _ (.head _))))),λ e=>m (e▸.tail _ (.tail _ (.tail _ (.head _)))),λ e=>m (e▸.head _),λ e=>m (e▸.tail _ (.head _))⟩
 refine ⟨λ k h h' x e=>x.at λ c o h1 h2 q=>(e c ?_).trans q,λ k h x=>liv k _ h x,λ h h' φ φ' μ μ' wr fr o X=>⟨Srt.ext o.1 X,Srt.ext o.2 X⟩,?_,?_,λ k s Q x q=>wpAny_pyIter_zip x.z q⟩
 ·exact vn h1 h2
 ·intro k x s φ μ σ Q hx hit R o st N hQ
  refine Ea (hs σ st) λ st1 st2=>?_
  refine Eea (Srt.at_ R o.1 st1) λ vs h1 h2=>?_
  refine Eea (Srt.at_ R o.2 st2) λ ws h3 h4=>?_
  rw [List.getElem?_map,Option.map_eq_some_iff] at hx
  (refine Eea (hx) λ q25q=>?_;try clear hx;obtain ⟨x₁,x₂⟩:=q25q;intro hz q27q;obtain rfl:=q27q)
  refine Ea (List.getElem?_zip_eq_some.mp hz) λ hx1 hx2=>?_
  refine Eea (h2.get hx1) λ v₁ hv1 hp1=>?_
  refine Eea (h4.get hx2) λ v₂ hv2 hp2=>?_
  refine Vm hit h1 h3 b1 b2 (by simpa using hv1) (by simpa using hv2) λ h' Z' hP hk=>?_
  refine zD5 Z' λ h'' Z'' hs''=>?_
  have hlt:L + 4<s.heap.objs.size:=Heap.lt_size hit.z
  have keep:∀ c o,c∉[L,L + 1,L + 2,L + 3,L + 4]->s.heap.get? c=some o->h''.get? c=some o:=λ c o m e=>by
   refine qN (mem c m) λ c1 c2 c3 c4=>?_
   exact (hs''.2 c c1).trans (hk c o c1 c2 c3 c4 e)
  have liv'':=liv _ _ _ Z''
  obtain ⟨R',X⟩:=R.butL (h':=h'') N.nm N.nf keep liv''
  have hT:h''.get? s.heap.objs.size=some {cls:=.type "tuple",data:=.seq #[v₁,v₂]}:=(hs''.2 _ (Nat.ne_of_gt hlt)).trans hP
  have hfr:s.heap.get? s.heap.objs.size=none:=zi _
  have hTμ:s.heap.objs.size∉μ:=R.notin_none hfr
  have R'':=R'.more hT hTμ
  have X'':Ext s.heap φ μ h'' (λ a=>φ a∨a=s.heap.objs.size) μ [L,L + 1,L + 2,L + 3,L + 4]:=X.more hfr
  refine hQ (.ref s.heap.objs.size) h'' (λ a=>φ a∨a=s.heap.objs.size) s.toks R'' X'' (.tup (vs:=[v₁,v₂]) (.inr rfl) (Tup.new hT) (.cons (X''.vp hp1) (.cons (X''.vp hp2) .nil))) Z'' ⟨N.nm,λ b m f=>?_,liv''⟩
  rcases f with f | rfl
  ·exact N.nf b m f
  ·refine Ee (N.at_ _ m) λ o ho=>?_
   rw [hfr] at ho;cases ho
 ·intro s φ μ σ Q hit R o st N hQ
  refine Ea (hs σ st) λ st1 st2=>?_
  refine Eea (Srt.at_ R o.1 st1) λ vs h1 h2=>?_
  refine Eea (Srt.at_ R o.2 st2) λ ws h3 h4=>?_
  have l1:=h2.length
  have l2:=h4.length
  refine zBc hA hit h1 h3 b1 b2 ?_ λ h' hk=>hQ h' s.toks λ c o m e=>?_
  ·simp only [List.length_map,List.length_zip,List.getElem?_toArray,List.getElem?_eq_none_iff]
   lia
  ·refine qN (mem c m) λ c1 c2 c3 c4=>?_
   exact hk c o c1 c2 c3 c4 e
end
section
variable {C:Cx}{T:Tabs}{F:Fm}{s s' s₀ s₁:Shared}{φ φ' φ₀ φ₁:Addr->Prop}{μ μ' μ₀ μ₁:List Addr}{ρ ρ' ρ₀ ρ₁:Rho}{σ σ' σ₁:zA}{A:Around}{h h':Heap}{own:List Addr}{n:Nat}
theorem zDF (I:FrI F s₀.heap φ₀ μ₀ ρ₀)(hf:∀ b,b∈own->s₀.heap.get? b=none):∀ b,b∈own->b∉F.env.locals::F.own:=λ b m=>I.ne_own (hf b m)
theorem Go.butL {tk:Nat}(I:FrI F s₀.heap φ₀ μ₀ ρ₀)(G:Go C T F s₀ φ₀ μ₀ s φ μ ρ σ)(hf:∀ b,b∈own->s₀.heap.get? b=none)(R':Rel C T h' φ' μ σ)(X:Ext s.heap φ μ h' φ' μ own):Go C T F s₀ φ₀ μ₀ {s with heap:=h',toks:=tk} φ' μ ρ σ:=by
 (refine Eee (G.st) λ hh tk' q1q=>?_;obtain rfl:=q1q)
 refine ⟨⟨h',tk,rfl⟩,R',G.fr.ext X (λ m=>I.ne_locals (hf _ m) rfl) (λ y c hc m=>?_) (λ v L hv hl _ m=>I.ne_out (hf _ m) hv hl rfl),G.ext.step X λ b m=>.inl (hf b m)⟩
 obtain ⟨c',hc',e⟩:∃ c',F.env.cells.lookup y=some c'/\c'=c:=⟨c,hc,rfl⟩
 exact I.ne_cells (hf _ m) hc rfl
theorem Go.endL {tk:Nat}(I:FrI F s₀.heap φ₀ μ₀ ρ₀)(G:Go C T F s₀ φ₀ μ₀ s φ μ ρ σ)(hf:∀ b,b∈own->s₀.heap.get? b=none)(nm:∀ b,b∈own->b∉μ)(nf:∀ b,b∈own->¬ φ b)(k:∀ c o,c∉own->s.heap.get? c=some o->h'.get? c=some o) :
  Go C T F s₀ φ₀ μ₀ {s with heap:=h',toks:=tk} φ μ ρ σ:=by
 (refine Eee (G.st) λ hh tk' q3q=>?_;obtain rfl:=q3q)
 have R:=G.rel
 have kf:∀ b,φ b->φ b/\h'.get? b=hh.get? b:=λ b f=>⟨f,by refine Ee (R.frz b f) λ o e=>?_;refine rwE (show hh.get? b=some o from e) ?_;exact k b o (λ m=>nf b m f) e⟩
 have km:∀ (j:Nat) (b:Addr),μ[j]?=some b->h'.get? b=hh.get? b:=λ j b e=>by
  refine Ee (R.lt j b e) λ o eo=>?_
  refine rwE (show hh.get? b=some o from eo) ?_;exact k b o (λ m=>nm b m (List.mem_iff_getElem?.mpr ⟨j,e⟩)) eo
 have R':Rel C T h' φ μ σ:=⟨λ b o e=>by refine rwE ((kf b (R.base b o e)).2) ?_;exact R.keep b o e,R.base,λ b f=>by refine rwE ((kf b f).2) ?_;exact R.frz b f,R.len,R.nodup,λ j b e=>by refine rwE (km j b e) ?_;exact R.lt j b e,R.apart,
  λ j b mo e e'=>Zb (R.at_ j b mo e e') kf (λ _ _ e=>e) (.inr (km j b e))⟩
 have old:∀ b o,s₀.heap.get? b=some o->b∉own:=λ b o e m=>by rw [hf b m] at e;cases e
 have keep0:∀ b o,s₀.heap.get? b=some o->∀ o',hh.get? b=some o'->h'.get? b=some o':=λ b o e o' e'=>k b o' (old b o e) e'
 refine ⟨⟨h',tk,rfl⟩,R',?_,⟨λ a f=>⟨(G.ext.frz a f).1,(kf a (G.ext.frz a f).1).2.trans (G.ext.frz a f).2⟩,G.ext.new,G.ext.pre,G.ext.fresh,λ b o e=>?_,λ b o e nm nw=>?_⟩⟩
 ·refine Eea (G.fr.loc) λ m hn hm=>?_
  have hL:F.env.locals∉own:=λ m=>I.ne_locals (hf _ m) rfl
  refine ⟨G.fr.kind,G.fr.glob,G.fr.blt,G.fr.len,⟨m,?_,λ i y hi=>⟨(hm i y hi).1,(hm i y hi).2.mono kf λ _ _ e=>e⟩⟩,λ i y kk hi hk=>?_,G.fr.uniq,G.fr.Lμ,G.fr.Lφ,λ y c hc=>?_,G.fr.cinj,λ c hc=>?_,G.fr.outsK λ v L o hv hl h1 h2 h3 _ _=>⟨⟨o,k _ _ (λ m=>I.ne_out (hf _ m) hv hl rfl) h1,rfl⟩,h2,h3⟩⟩
  ·(refine Eeeea (hn) λ o es ep ho r=>?_;try clear hn);exact ⟨o,es,ep,k _ _ hL ho,r⟩
  ·obtain ⟨h1,c,v,hc1,hc2,hc3,hc4⟩:=G.fr.cell i y kk hi hk
   refine ⟨h1,c,v,hc1,?_,hc3.mono kf λ _ _ e=>e,hc4⟩
   (refine Eea (hc2) λ o ho hd=>?_;try clear hc2)
   exact ⟨o,k _ _ (λ m=>I.ne_cells (hf _ m) hc1 rfl) ho,hd⟩
  ·(refine qN (G.fr.cμ y c hc) λ q11q=>?_;(refine Ee (q11q) λ o h0=>?_;try clear q11q);intro h1 h2 h3)
   exact ⟨⟨o,k _ _ (λ m=>I.ne_cells (hf _ m) hc rfl) h0⟩,h1,h2,h3⟩
  ·refine Ee (G.fr.own c hc) λ o ho=>?_
   exact ⟨o,k _ _ (λ m=>I.ne_own (hf _ m) (List.mem_cons_of_mem _ hc)) ho⟩
 ·refine Ee (G.ext.ex b o e) λ o' e'=>?_
  exact ⟨o',keep0 b o e o' e'⟩
 ·rcases G.ext.oth b o e nm nw with q | ⟨hc,sl,q⟩
  ·exact .inl (keep0 b o e _ q)
  ·exact .inr ⟨hc,sl,keep0 b o e _ q⟩
theorem QI {src:Option (Nat×List PyData)}{σ:zA}{K:Prop}(h:zZ src σ K):zZ src σ True/\K:=by
 cases src with
 | none=>exact ⟨trivial,h⟩
 | some p=>exact ⟨⟨h.1,trivial⟩,h.2⟩
noncomputable def za (C:Cx)(T:Tabs)(n:Nat)(t:Pt)(body:List St)(src:Option (Nat×List PyData))(Q:Fl->Rho->zA->Prop):PyData->Rho×zA->(Rho×zA->Prop)->Prop :=
 λ x a K=>Is (Zc t x a.1) λ ρ'=>wpSs C T n body ρ' a.2 λ fl ρ'' σ''=>yQ fl (λ d=>Q (.ret d) ρ'' σ'') (zZ src σ'' (K (ρ'',σ'')))
abbrev zAo (C:Cx) (T:Tabs) (n:Nat) (F:Fm) (s₀:Shared) (φ₀:Addr->Prop) (μ₀ own:List Addr) (It:Nat->Heap->Prop) (Sr:Heap->(Addr->Prop)->List Addr->Prop) (src:Option (Nat×List PyData)) (t:Pt) (body:List St) (xs:List PyData) (Q:Fl->Rho->zA->Prop) (m:Nat) (s:Shared):Prop :=
 ∃ k φ μ ρ σ,m=xs.length - k/\k<=xs.length/\Go C T F s₀ φ₀ μ₀ s φ μ ρ σ/\It k s.heap/\Lone s.heap φ μ own/\Sr s.heap φ μ/\zZ src σ True/\zJ (za C T n t body src Q) (xs.drop k) (ρ,σ) λ a=>Q .next a.1 a.2
theorem zA1 {it:Value}{tgt:Expr}{t:Pt}{bodyA:List Stmt}{body:List St}{src:Option (Nat×List PyData)}{xs:List PyData}{It:Nat->Heap->Prop}{Sr:Heap->(Addr->Prop)->List Addr->Prop}{Q:Fl->Rho->zA->Prop}
  (W:Walk C T A it tgt own src xs It Sr) (hA:A.handled=none) (ht:trP F.ks tgt=some t) (hb:∀ ρ σ Q,wpSs C T n body ρ σ Q->DS C T F A (execs bodyA F.env) ρ σ Q)
  (I₀:FrI F s₀.heap φ₀ μ₀ ρ₀) (hf:∀ b,b∈own->s₀.heap.get? b=none) (G:Go C T F s₀ φ₀ μ₀ s φ μ ρ σ) (hit:It 0 s.heap) (N:Lone s.heap φ μ own) (hsr:Sr s.heap φ μ) (hst:zZ src σ True)
  (hw:zJ (za C T n t body src Q) xs (ρ,σ) λ a=>Q .next a.1 a.2) :
  codeAny (model C.prog C.w) A (.forLoop tgt it bodyA [] F.env) (λ r s'=>match r with | .ok f=>PS C T F s₀ φ₀ μ₀ Q f s' | .error e=>cameBackBy (model C.prog C.w) A F.env NoE e s') s:=by
 refine codeAny_forLoop_any (zAo C T n F s₀ φ₀ μ₀ own It Sr src t body xs Q)
  (λ m s hI=>?_) xs.length ⟨0,φ,μ,ρ,σ,by exact rfl,by exact Nat.zero_le _,G,hit,N,hsr,hst,by simpa using hw⟩
 clear G hit N hsr hst hw
 refine Eee hI λ k φ hI=>?_
 refine Eeeea hI λ μ ρ σ hm hI=>?_
 refine ub hI λ hk G hit N hI=>?_
 refine Eaa hI λ hsr hst hw=>?_
 rw [hm]
 clear hm
 by_cases hlt:k<xs.length
 ·have hx:xs[k]?=some xs[k]:=List.getElem?_eq_getElem hlt
  rw [List.drop_eq_getElem_cons hlt] at hw
  refine Eea (Is.h hw) λ ρ' hbp hw=>?_
  refine wpAny_mono (W.turn k xs[k] s φ μ σ (λ v s₁'=>wpAny (model C.prog C.w) A (assign tgt F.env v) (λ _ s₂=>wpAny (model C.prog C.w) A (execs bodyA F.env) (λ f s₃=>match f with
    | .next | .cont=>∃ m,m<xs.length - k/\zAo C T n F s₀ φ₀ μ₀ own It Sr src t body xs Q m s₃
    | .brk=>PS C T F s₀ φ₀ μ₀ Q .next s₃
    | .ret v=>PS C T F s₀ φ₀ μ₀ Q (.ret v) s₃) NoE s₂) NoE s₁') hx hit G.rel hsr hst N λ v h' φ' tk R' X V hit' N'=>?_) (λ r s₁ hr=>?_) λ _ _ e=>e.elim
  ·have G1:Go C T F s₀ φ₀ μ₀ {s with heap:=h',toks:=tk} φ' μ ρ σ:=Go.butL I₀ G hf R' X
   refine wpAny_mono (j0 hA t tgt xs[k] ρ ρ' _ φ' μ v ht hbp G1.rel G1.fr V) (λ _ s₂ G2=>?_) λ _ _ e=>e
   have hne:=zDF I₀ hf
   have hnf:∀ b,b∈own->b∉frL F.fs:=λ b m=>I₀.ne_fr (hf b m)
   refine Ea (N'.ext G2.ext hne hnf) λ N2 e2=>?_
   have hit2:=W.frame _ _ _ hit' e2
   have hsr2:=W.sr _ _ _ _ _ _ _ _ (W.sr _ _ _ _ _ _ _ _ hsr X) G2.ext
   refine wpAny_mono (hb ρ' σ _ hw s₂ φ' μ G2.rel G2.fr) (λ f s₃ hp=>?_) λ _ _ e=>e
   (refine Eeeeeeaa (hp) λ φ₃ μ₃ fl ρ₃ σ₃ G3 hfl hq=>?_;try clear hp)
   have G03:=(G1.trans G2).trans G3
   refine Ea (N2.ext G3.ext hne hnf) λ N3 e3=>?_
   cases hfl with
   | next =>
    refine Ea (QI hq) λ q1 q2=>?_
    exact ⟨xs.length - (k + 1),Nat.sub_lt_sub_left hlt (Nat.lt_succ_self k),k + 1,φ₃,μ₃,ρ₃,σ₃,rfl,hlt,G03,W.frame _ _ _ hit2 e3,N3,W.sr _ _ _ _ _ _ _ _ hsr2 G3.ext,q1,q2⟩
   | cont =>
    refine Ea (QI hq) λ q1 q2=>?_
    exact ⟨xs.length - (k + 1),Nat.sub_lt_sub_left hlt (Nat.lt_succ_self k),k + 1,φ₃,μ₃,ρ₃,σ₃,rfl,hlt,G03,W.frame _ _ _ hit2 e3,N3,W.sr _ _ _ _ _ _ _ _ hsr2 G3.ext,q1,q2⟩
   | ret V'=>exact ⟨φ₃,μ₃,_,ρ₃,σ₃,G03,.ret V',hq⟩
  ·cases r with
   | none=>exact hr.elim
   | some v=>exact wpAny_mono hr (λ _ s₂ h2=>wpAny_mono h2 (λ _ s₃ h3=>wpAny_mono h3 (λ f s₄ h4=>h4) λ _ _ e=>e.elim) λ _ _ e=>e.elim) λ _ _ e=>e.elim
 ·have hkl:k=xs.length:=by exact Nat.le_antisymm (hk) ((Nat.le_of_not_lt hlt))
  subst hkl
  rw [List.drop_length] at hw
  refine wpAny_mono (W.done s φ μ σ (λ r s₁=>r=none/\Go C T F s₀ φ₀ μ₀ s₁ φ μ ρ σ) hit G.rel hsr hst N λ h' tk kk=>⟨rfl,Go.endL I₀ G hf N.nm N.nf kk⟩) (λ r s₁ ⟨hr,G1⟩=>?_) λ _ _ e=>e.elim
  subst hr
  exact wpAny_execs_nil ⟨φ,μ,_,ρ,σ,G1,.next,hw⟩
end
section
variable {C:Cx}{T:Tabs}{F:Fm}{s s' s₀ s₁:Shared}{φ φ' φ₀ φ₁:Addr->Prop}{μ μ' μ₀ μ₁:List Addr}{ρ ρ' ρ₀ ρ₁:Rho}{σ σ' σ₁:zA}{A:Around}{h h':Heap}{own:List Addr}{n:Nat}
theorem FrI.weaken (I:FrI F h φ μ ρ)(hl:ρ'.length=ρ.length)(hw:∀ j,j<ρ.length->ρ'[j]?=some none∨ρ'[j]?=ρ[j]?):FrI F h φ μ ρ':=by
 have w:∀ {j:Nat} {o:Option Value},j<ρ.length->OptV h φ μ o ρ[j]?->OptV h φ μ o ρ'[j]?:=λ {j o} hj p=>by
  rcases hw j hj with e | e
  ·refine rwE e ?_;exact .no o
  ·refine rwE e ?_;exact p
 refine Eea (I.loc) λ m hn hm=>?_
 refine ⟨I.kind,I.glob,I.blt,hl.trans I.len,⟨m,hn,λ i x hi=>⟨(hm i x hi).1,w ?_ (hm i x hi).2⟩⟩,λ i x k hi hk=>?_,I.uniq,I.Lμ,I.Lφ,I.cμ,I.cinj,I.own,I.outs⟩
 ·refine rwE I.len ?_;exact (List.getElem?_eq_some_iff.mp hi).1
 ·obtain ⟨h1,c,v,hc1,hc2,hc3,hc4⟩:=I.cell i x k hi hk
  exact ⟨h1,c,v,hc1,hc2,w (by refine rwE I.len ?_;exact (List.getElem?_eq_some_iff.mp hi).1) hc3,hc4⟩
theorem Lone.one {b:Addr}{o:Obj}(h1:b∉μ)(h2:¬ φ b)(h3:h.get? b=some o):Lone h φ μ [b] :=
 ⟨λ c m=>by rw [List.mem_singleton] at m;refine rwE m ?_;exact h1,λ c m=>by rw [List.mem_singleton] at m;refine rwE m ?_;exact h2,λ c m=>by rw [List.mem_singleton] at m;refine rwE m ?_;exact ⟨o,h3⟩⟩
noncomputable def DI (C:Cx)(T:Tabs)(F:Fm)(A:Around)(itA tgt:Expr)(ρ:Rho)(σ:zA)(K:List PyData->Option (Nat×List PyData)->zA->Prop):Prop :=
 ∀ (s:Shared) (φ:Addr->Prop) (μ:List Addr) (X:Value->Shared->Prop),Rel C T s.heap φ μ σ->FrI F s.heap φ μ ρ ->
  (∀ it s' φ' μ' σ' own src xs It Sr,Go C T F s φ μ s' φ' μ' ρ σ'->Walk C T A it tgt own src xs It Sr->It 0 s'.heap->Lone s'.heap φ' μ' own->(∀ b,b∈own->s.heap.get? b=none)->Sr s'.heap φ' μ'->zZ src σ' True->K xs src σ'->X it s') ->
  wpAny (model C.prog C.w) A (eval itA F.env) (λ x s₁=>wpAny (model C.prog C.w) A (pyIter x) X NoE s₁) NoE s
theorem UZ {S:Srt}{xs:List PyData}{src:Option (Nat×List PyData)}{tgt:Expr}{X:Value->Shared->Prop}{K:List PyData->Option (Nat×List PyData)->zA->Prop}(hA:A.handled=none)(G:Go C T F s φ μ s' φ' μ' ρ σ')(o:S.ok xs s'.heap φ' μ')(t:S.stay xs σ')(hs:∀ σ,zZ src σ True->S.stay xs σ)(st:zZ src σ' True)(q:K xs src σ')
  (hX:∀ it s' φ' μ' σ' own src xs It Sr,Go C T F s φ μ s' φ' μ' ρ σ'->Walk C T A it tgt own src xs It Sr->It 0 s'.heap->Lone s'.heap φ' μ' own->(∀ b,b∈own->s.heap.get? b=none)->Sr s'.heap φ' μ'->zZ src σ' True->K xs src σ'->X it s') :
  wpAny (model C.prog C.w) A (pyIter (.ref S.a)) X NoE s':=by
 refine Eea (Srt.at_ G.rel o t) λ vs h1 h2=>?_
 refine zAY h1 λ h' hit hk=>?_
 refine Ea (G.rel.grow hk) λ R' X'=>?_
 have G':Go C T F s φ μ {s' with heap:=h'} φ' μ' ρ σ':=G.trans (Go.of_ext (tk:=s'.toks) G.fr R' X')
 have fr:=zi s'.heap
 refine Eeaa (hit.obj) λ o' ho' _ hd'=>?_
 refine hX _ _ φ' μ' σ' [s'.heap.objs.size] src xs _ _ G' (vP hA hs) hit (Lone.one (G.rel.notin_none fr) (G.rel.notfrz_none fr) ho') (λ b m=>?_) (Srt.ext o X') st q
 rw [List.mem_singleton] at m;refine rwE m ?_;exact G.ext.back fr
theorem vH (a b:Int):Builtin.Range.rangeSize a b 1=((b - a).toNat:Int):=by
 refine rwE (rangeSize_one ..) ?_
 split
 ·next h=>exact (Int.toNat_of_nonneg (Int.le_of_lt (Int.sub_pos_of_lt h))).symm
 ·next h=>exact (congrArg Int.ofNat (Int.toNat_of_nonpos (Int.sub_nonpos_of_le (Int.not_lt.mp h)))).symm
theorem vx {itA tgt:Expr}{K:List PyData->Option (Nat×List PyData)->zA->Prop}(hA:A.handled=none)(hx:DX C T F A (eval itA F.env) ρ σ λ d σ'=>zf σ' d λ xs i=>K xs i σ'):DI C T F A itA tgt ρ σ K:=by
 intro s φ μ X R I hX
 refine hx.seq R I λ s' φ' μ' v d σ' G V q=>?_
 cases d with
 | p x =>
  refine Eea (q.h) λ xs e q=>?_
  obtain ⟨a,vs,rfl,f,r,⟨_,ht⟩ | ⟨_,ht⟩⟩:=yC V.ip e
  ·exact UZ (S:=.fz false _) (src:=none) hA G ⟨f,_,ht.t,r⟩ trivial (λ _ _=>trivial) trivial q hX
  ·exact UZ (S:=.fz true _) (src:=none) hA G ⟨f,_,ht,r⟩ trivial (λ _ _=>trivial) trivial q hX
 | obj i =>
  refine Eea (q.h) λ xs e q=>?_
  (refine Eea (V.iobj) λ a q8q=>?_;obtain rfl:=q8q;intro ha)
  exact UZ (S:=.ob i a) (src:=some (i,xs)) hA G ha (QY e) (λ _ st=>st.1) ⟨QY e,trivial⟩ q hX
 | rng a b =>
  refine Ea (q) λ rg q=>?_
  (refine Eeeeeaa (V.irng) λ r t u w q11q=>?_;obtain rfl:=q11q;intro f ht)
  refine wpAny_pyIter_range ht (small_one rg.h.1 rg.h.2.1 rg.h.2.2.1 rg.h.2.2.2) ?_
  have hsz:Builtin.Range.rangeSize a b 1=((b - a).toNat:Int):=vH a b
  refine rwE hsz ?_
  have g:=Heap.get?_push_size s'.heap (o:={cls:=.type "range_iterator",data:=.fields #[rawInt a,rawInt ((b - a).toNat:Int),rawInt 1]}) rfl
  have hit:IsRangeIter (s'.heap.push {cls:=.type "range_iterator",data:=.fields #[rawInt a,rawInt ((b - a).toNat:Int),rawInt 1]}) s'.heap.objs.size (a + (0:Nat)) (((b - a).toNat:Int) - (0:Nat)) 1:=by
   (refine rwE (show a + ((0:Nat):Int)=a from Int.add_zero a) ?_;refine rwE (show ((b - a).toNat:Int) - ((0:Nat):Int)=_ from Int.sub_zero _) ?_);exact g
  refine Ea (G.rel.grow (h':=s'.heap.push {cls:=.type "range_iterator",data:=.fields #[rawInt a,rawInt ((b - a).toNat:Int),rawInt 1]}) λ _ _ e=>Heap.get?_push_of_some _ e) λ R' X'=>?_
  have G':=G.trans (Go.of_ext (tk:=s'.toks) G.fr R' X')
  have fr:=zi s'.heap
  refine hX _ _ φ' μ' σ' [s'.heap.objs.size] none _ _ _ G' (vh hA) hit (Lone.one (G.rel.notin_none fr) (G.rel.notfrz_none fr) g) (λ b m=>?_) trivial trivial q
  rw [List.mem_singleton] at m;refine rwE m ?_;exact G.ext.back fr
 | zp _ _ _ _=>exact V.izp
 | _=>exact q.elim
end
section
variable {C:Cx}{T:Tabs}{F:Fm}{s s' s₀ s₁:Shared}{φ φ' φ₀ φ₁:Addr->Prop}{μ μ' μ₀ μ₁:List Addr}{ρ ρ' ρ₀ ρ₁:Rho}{σ σ' σ₁:zA}{A:Around}{h h':Heap}{own:List Addr}{n:Nat}
theorem zBf {Q:D->zA->Prop}{a:Addr}{i:Nat}{xs:List PyData}{t:Nat}(R:Rel C T s.heap φ μ σ)(I:FrI F s.heap φ μ ρ)(ha:μ[i]?=some a)(hi:σ[i]?=some (.lst xs))(ht:t<4)
  (q:Q (.p (.bool (Nat.beq t 1))) σ):wpAny (model C.prog C.w) A (call (.builtin "isinstance") [.ref a,.type (tyS t)]) (PV C T F s φ μ ρ Q) NoE s:=by
 refine Eeea (R.at_ i a _ ha hi) λ vs n ho hp=>?_
 have hT:s.TypeIs (.ref a) "list":=⟨_,ho,rfl⟩
 revert q
 refine jM t ht (λ q=>?_) (λ q=>?_) (λ q=>?_) (λ q=>?_)
 ·exact call_isinstance (isinstance_false_list (by decide +kernel) meta_tuple sub_list_tuple) ⟨hT,zc R I (.p (.bool _)) q _⟩
 ·exact call_isinstance_yes hT meta_list sub_list_list (zx R I (.p (.bool _)) q)
 ·exact call_isinstance (isinstance_false_list (by decide +kernel) meta_int sub_list_int) ⟨hT,zc R I (.p (.bool _)) q _⟩
 ·exact call_isinstance (isinstance_false_list (by decide +kernel) meta_bool sub_list_bool) ⟨hT,zc R I (.p (.bool _)) q _⟩
theorem vK {d:D}{b:Bi}(h:Ul d=some b):d=.bi b:=by cases d with | bi j=>(refine rwE (so h) ?_;rfl) | _=>exact nn h
theorem zAh {l:List Int}{K:Int->List Int->Prop}(h:hdL l K):∃ a r,l=a::r/\K a r:=by
 cases l with
 | nil=>exact h.elim
 | cons a r=>exact ⟨a,r,rfl,h⟩
theorem zE1 {Q:D->zA->Prop}{m:Bool}{b:Bi}{vs:List Value}{ds:List D}(Y:C.Good)(hA:Room n A)(R:Rel C T s.heap φ μ σ)(I:FrI F s.heap φ μ ρ)(V₀:VDs s.heap φ μ vs ds)(h:Zo m b ds σ Q) :
  wpAny (model C.prog C.w) A (call (QC b) vs) (PV C T F s φ μ ρ Q) NoE s:=by
 cases b with
 | len=>(refine Eeeaaa (qQ V₀ h) λ v d q2q=>?_;obtain rfl:=q2q;intro _ V h);refine Eeaa (h.h) λ xs e hf q=>?_;exact zCK R I V e hf q
 | isinst =>
  (refine Eeeeeaaaa (wN V₀ h) λ v w d e q5q=>?_;obtain rfl:=q5q;intro _ V W h1)
  refine Eea (h1.h) λ t e1 h2=>?_
  refine Eea (ob e1) λ b e2 e3=>?_
  refine Ea (zCB e3) λ e4 ht=>?_
  cases vK e2
  cases W.ibi
  clear e1 h h1
  show wpAny _ _ (call (.builtin "isinstance") [v,QC b]) _ _ _
  refine rwE e4 ?_
  cases d with
  | p x=>refine Eea (Is.h h2) λ r e q=>?_;exact zCg R I V.ip ht e q
  | obj i=>refine Eea (Is.h h2) λ xs e q=>?_;(refine Eea (V.iobj) λ a q12q=>?_;obtain rfl:=q12q;intro ha);exact zBf R I ha (QY e) ht q
  | _=>exact h2.elim
 | abs=>(refine Eeeaaa (qQ V₀ h) λ v d q14q=>?_;obtain rfl:=q14q;intro _ V h);(refine Eeeaa (zy V h) λ a t _ q16q=>?_;obtain rfl:=q16q;intro q);exact zCU R I q
 | max =>
  rcases um V₀ h with ⟨v,d,rfl,V,h⟩ | ⟨v,w,d,e,rfl,V,W,h⟩
  ·refine Eea (h.h) λ xs e h=>?_;refine Eea (h.h) λ l hl h=>?_;(refine Eeea (zAh h) λ a r q20q=>?_;obtain rfl:=q20q;intro q);exact zCv hA.hd R I V e hl q
  ·(refine Eeeaa (zy V h) λ a t _ q22q=>?_;obtain rfl:=q22q;intro h);(refine Eeeaa (zy W h) λ b u _ q24q=>?_;obtain rfl:=q24q;intro q);exact zBF hA.hd R I q
 | min =>
  rcases um V₀ h with ⟨v,d,rfl,V,h⟩ | ⟨v,w,d,e,rfl,V,W,h⟩
  ·refine Eea (h.h) λ xs e h=>?_;refine Eea (h.h) λ l hl h=>?_;(refine Eeea (zAh h) λ a r q28q=>?_;obtain rfl:=q28q;intro q);exact zCw hA.hd R I V e hl q
  ·(refine Eeeaa (zy V h) λ a t _ q30q=>?_;obtain rfl:=q30q;intro h);(refine Eeeaa (zy W h) λ b u _ q32q=>?_;obtain rfl:=q32q;intro q);exact zBI hA.hd R I q
 | sum=>(refine Eeeaaa (qQ V₀ h) λ v d q34q=>?_;obtain rfl:=q34q;intro _ V h);refine Eea (h.h) λ xs e h=>?_;refine Eea (h.h) λ l hl q=>?_;exact zDh hA.hd R I V e hl q
 | tuple=>(refine Eeeaaa (qQ V₀ h) λ v d q38q=>?_;obtain rfl:=q38q;intro _ V h);refine Eeaa (h.h) λ xs e hf q=>?_;exact vj R I V e hf q
 | list=>(refine Eeeaaa (qQ V₀ h) λ v d q41q=>?_;obtain rfl:=q41q;intro _ V h);refine Eeaa (h.h) λ xs e hf q=>?_;exact zBv R I V e hf q
 | sorted=>(refine Eeeaaa (qQ V₀ h) λ v d q44q=>?_;obtain rfl:=q44q;intro _ V h);refine Eeaa (h.h) λ l e hf q=>?_;exact WA hA R I V e hf q
 | dict=>(refine Eeeaaa (qQ V₀ h) λ v d q47q=>?_;obtain rfl:=q47q;intro _ V h);(refine Eeaa (ju V h) λ xs q49q=>?_;obtain rfl:=q49q;intro V h);refine Eeaaa (h.h) λ es e nd hf q=>?_;exact zAM hA.hd (modules_low (Y.lim.keeps R.keep)) R I V e nd hf q
 | int =>
  (refine Eeeaaa (qQ V₀ h) λ v d q52q=>?_;obtain rfl:=q52q;intro _ V h)
  refine Eeaa (Qg V h) λ x _ V h=>?_
  refine Eea (h.h) λ a e q=>?_
  cases x with
  | int i=>cases so e;(refine Ee (V.iint) λ t q56q=>?_;obtain rfl:=q56q);exact call_int_int (zx R I (.p (.int _ _)) q)
  | bool b=>cases V.ibool;refine call_int_bool (zc R I (.p (.int _ _)) ?_ _);cases b <;> (cases so e;exact q)
  | _=>exact nn e
 | range =>
  rcases um V₀ h with ⟨v,d,rfl,V,h⟩ | ⟨v,w,d,e,rfl,V,W,h⟩
  ·(refine Eeeaa (zy V h) λ b t _ q58q=>?_;obtain rfl:=q58q;intro q);exact vD R I q
  ·(refine Eeeaa (zy V h) λ a t _ q60q=>?_;obtain rfl:=q60q;intro h);(refine Eeeaa (zy W h) λ b u _ q62q=>?_;obtain rfl:=q62q;intro q);exact VF R I q
 | _=>exact h.elim
noncomputable def zA9 (k:Nat):Option (String×Str×String):=gd (Nat.beq k 0) (some ("list","append","list.append"))
noncomputable def JB (k:Nat):Option (String×Str×String):=match Nat.beq k 1 with
 | true=>some ("dict","get","dict.get")
 | false=>gd (Nat.beq k 2) (some ("dict","setdefault","dict.setdefault"))
noncomputable def Jp:MO->Nat->Option (String×Str×String)
 | .lst _,k=>zA9 k
 | .idict _,k=>JB k
 | _,_=>none
theorem Yt {k:Nat}{r:String×Str×String}(h:zA9 k=some r):k=0/\r=(("list",("append":Str),"list.append"):String×Str×String):=by
 refine Ea (og h) λ h1 h2=>?_;exact ⟨ZF h1,(so h2).symm⟩
theorem Yj {k:Nat}{r:String×Str×String}(h:JB k=some r):(k=1/\r=(("dict",("get":Str),"dict.get"):String×Str×String))∨(k=2/\r=(("dict",("setdefault":Str),"dict.setdefault"):String×Str×String)):=by
 cases e:Nat.beq k 1 with
 | true=>cases ZF e;exact .inl ⟨rfl,(so h).symm⟩
 | false =>
  have h:gd (Nat.beq k 2) (some (("dict",("setdefault":Str),"dict.setdefault"):String×Str×String))=some r:=by unfold JB at h;rw [e] at h;exact h
  refine Ea (og h) λ h1 h2=>?_;exact .inr ⟨ZF h1,(so h2).symm⟩
theorem zEk {Q:D->zA->Prop}{i k:Nat}{a:Addr}{mo:MO}{vs:List Value}{ds:List D}{ty id:String}{nm:Str}(R:Rel C T s.heap φ μ σ)(I:FrI F s.heap φ μ ρ)(ha:μ[i]?=some a)(hi:σ[i]?=some mo)(V₀:VDs s.heap φ μ vs ds)(hid:Jp mo k=some (ty,nm,id))(h:YN i mo k ds σ Q) :
  wpAny (model C.prog C.w) A (call (.builtin id) (.ref a::vs)) (PV C T F s φ μ ρ Q) NoE s:=by
 cases mo with
 | lst xs =>
  (refine Ea (Yt hid) λ q66q=>?_;obtain rfl:=q66q;intro e)
  cases e
  (refine Eeeaaa (qQ V₀ h) λ v d q68q=>?_;obtain rfl:=q68q;intro _ V h)
  refine Eeaaa (Qg V h) λ x _ V hf q=>?_
  exact w0 R I ha hi V hf q
 | idict es =>
  (refine Eeeeeaaaa (wN V₀ (uh h).2) λ v w d e q71q=>?_;obtain rfl:=q71q;intro _ V W h)
  (refine Eeeaa (zy V h) λ q t _ q73q=>?_;obtain rfl:=q73q;intro h)
  rcases Yj hid with ⟨rfl,e⟩ | ⟨rfl,e⟩
  ·cases e;exact zAL R I ha hi W h
  ·cases e;exact Xl R I ha hi W h.1 h.2
 | _=>exact h.elim
theorem VT {Q:Value×List Value->Shared->Prop}{E:Value->Shared->Prop}{i k:Nat}{a:Addr}{mo:MO}{ty id:String}{nm:Str}{pl:Sem Bool}(R:Rel C T s.heap φ μ σ)(ha:μ[i]?=some a)(hi:σ[i]?=some mo)(hid:Jp mo k=some (ty,nm,id))(q:Q (.builtin id,[.ref a]) s) :
  wpAny (model C.prog C.w) A (getMethod (.ref a) nm pl) Q E s:=by
 cases mo with
 | lst xs =>
  (refine Ea (Yt hid) λ q75q=>?_;obtain rfl:=q75q;intro e)
  cases e
  refine Eeea (R.at_ i a _ ha hi) λ vs n ho hp=>?_
  exact getMethod_list_append ho rfl rfl q
 | idict es =>
  obtain ⟨_,kvs,hm,_⟩:=R.at_ i a _ ha hi
  rcases Yj hid with ⟨rfl,e⟩ | ⟨rfl,e⟩
  ·cases e;exact getMethod_builtin hm.typeIs PySem.F.plainAttrs_dict PySem.F.slot_dict_get PySem.F.type_dict_get hm.mapOf.noDict q
  ·cases e;exact getMethod_builtin hm.typeIs PySem.F.plainAttrs_dict PySem.F.slot_dict_setdefault PySem.F.type_dict_setdefault hm.mapOf.noDict q
 | _=>exact nn hid
theorem YO {M:Model}{E:Value->Shared->Prop}{f:Value}{l:List (Bool×Sem Value)}{Q:Args->Shared->Prop}(hl:l.any (·.1)=false)(h:wpAny M A (spliced l) (λ vs s'=>Q ⟨vs,[]⟩ s') E s):wpAny M A (evalArgs f true l []) Q E s:=by
 cases l with
 | nil =>
  unfold evalArgs
  show wpAny M A (spliced [] >>= _) Q E s
  refine wpAny_bind (wpAny_mono h (λ vs s' h'=>wpAny_bind (wpAny_pure ?_)) λ _ _ x=>x)
  refine wpAny_holding ?_
  exact wpAny_bind (wpAny_pure (wpAny_bind (wpAny_pure (wpAny_pure h'))))
 | cons x l =>
  obtain ⟨b,x⟩:=x
  simp only [List.any_cons,Bool.or_eq_false_iff] at hl
  (refine Ea (hl) λ q80q=>?_;try clear hl;obtain rfl:=q80q;intro _)
  exact evalArgs_plain h
end
mutual
noncomputable def Z2:Pt->List Nat
 | .nm i=>[i]
 | .tup ps=>idxPs ps
noncomputable def idxPs:List Pt->List Nat
 | []=>[]
 | p::ps=>Z2 p++idxPs ps
end
mutual
theorem J1:∀ (p:Pt) (x:PyData) (ρ ρ':Rho),Zc p x ρ=some ρ'->ρ'.length=ρ.length/\∀ j,j∉Z2 p->ρ'[j]?=ρ[j]?
 | .nm i,x,ρ,ρ',h=>by
  cases so h
  exact ⟨List.length_set,λ j hj=>List.getElem?_set_ne λ (e:i=j)=>hj (List.mem_singleton.mpr e.symm)⟩
 | .tup ps,x,ρ,ρ',h=>by
  refine Eea (ob h) λ xs _ h=>?_
  exact bindPs_off ps xs ρ ρ' h
theorem bindPs_off:∀ (ps:List Pt) (xs:List PyData) (ρ ρ':Rho),bindPs ps xs ρ=some ρ'->ρ'.length=ρ.length/\∀ j,j∉idxPs ps->ρ'[j]?=ρ[j]?
 | [],xs,ρ,ρ',h=>by
  cases xs with
  | nil=>cases so h;exact ⟨rfl,λ _ _=>rfl⟩
  | cons _ _=>exact nn h
 | p::ps,xs,ρ,ρ',h=>by
  cases xs with
  | nil=>exact nn h
  | cons x xs =>
   refine Eea (ob h) λ ρ₁ h1 h=>?_
   refine Ea (J1 p x ρ ρ₁ h1) λ a1 a2=>?_
   refine Ea (bindPs_off ps xs ρ₁ ρ' h) λ b1 b2=>?_
   exact ⟨b1.trans a1,λ j hj=>(b2 j λ m=>hj (List.mem_append_right _ m)).trans (a2 j λ m=>hj (List.mem_append_left _ m))⟩
end
noncomputable def Z6:List Gn->List Nat
 | []=>[]
 | .mk t _ _::gs=>Z2 t++Z6 gs
noncomputable def AccAt (h:Heap)(φ:Addr->Prop)(B:Addr)(acc:List PyData):Prop:=∃ (vs:List Value) (n:Nat),h.get? B=some (listOf vs.toArray n)/\VPs h φ vs acc
section
variable {C:Cx}{T:Tabs}{F:Fm}{s s' s₀ s₁ s₂:Shared}{φ φ' φ₀ φ₁ φ₂:Addr->Prop}{μ μ' μ₀ μ₁ μ₂:List Addr}{ρ ρ' ρ₀ ρ₁ ρ₂:Rho}{σ σ' σ₁ σ₂:zA}{A:Around}{h h':Heap}{own:List Addr}{n:Nat}{B:Addr}
structure GC (C:Cx)(T:Tabs)(F Fo:Fm)(ρo:Rho)(wr:List Addr)(B:Addr)(s:Shared)(φ:Addr->Prop)(μ:List Addr)(s':Shared)(φ':Addr->Prop)(μ':List Addr)(ρ':Rho)(σ':zA)(acc:List PyData):Prop where
 st:∃ h tk,s'={s with heap:=h,toks:=tk}
 rel:Rel C T s'.heap φ' μ' σ'
 fr:FrI F s'.heap φ' μ' ρ'
 ext:Ext s.heap φ μ s'.heap φ' μ' wr (frL Fo.fs)
 acc:AccAt s'.heap φ' B acc
 nm:B∉μ'
 nf:¬ φ' B
 wL:F.env.locals∈wr
 wB:B∈wr
 wx:∀ b,b∈wr->∃ o,s'.heap.get? b=some o
 fo:FrI Fo s'.heap φ' μ' ρo
 foL:∀ a,a=F.env.locals∨a=B->Fo.env.locals≠a/\(∀ y c,Fo.env.cells.lookup y=some c->c≠a)/\∀ v L,v∈Fo.fs->v.frame=some L->L≠a
 fs:F.fs=Fo.fs
theorem AccAt.ext {wr fr:List Addr}{acc:List PyData}(x:AccAt h φ B acc)(X:Ext h φ μ h' φ' μ' wr fr)(nm:B∉μ)(nw:B∉wr)(nf:B∉fr):AccAt h' φ' B acc:=by
 (refine Eeea (x) λ vs n e p=>?_;try clear x)
 exact ⟨vs,n,(X.oth B _ e nm nw).exact nf,X.vps p⟩
theorem Ua {wr wr' fr:List Addr}(w:∀ b,b∈wr->∃ o,h.get? b=some o)(X:Ext h φ μ h' φ' μ' wr' fr):∀ b,b∈wr->∃ o,h'.get? b=some o:=λ b m=>let ⟨o,e⟩:=w b m;X.ex b o e
theorem GC.nfr {Fo:Fm}{ρo:Rho}{wr:List Addr}{acc:List PyData}(G:GC C T F Fo ρo wr B s φ μ s₁ φ₁ μ₁ ρ₁ σ₁ acc):B∉frL F.fs:=λ m=>by
 refine Eea (List.mem_filterMap.mp m) λ v hv hL=>?_
 exact (G.foL _ (.inr rfl)).2.2 v B (G.fs▸hv) hL rfl
theorem GC.go {Fo:Fm}{ρo:Rho}{wr:List Addr}{acc:List PyData}(hown:F.own=[])(hBL:B≠F.env.locals)(G:GC C T F Fo ρo wr B s φ μ s₁ φ₁ μ₁ ρ₁ σ₁ acc)(G':Go C T F s₁ φ₁ μ₁ s₂ φ₂ μ₂ ρ₂ σ₂):GC C T F Fo ρo wr B s φ μ s₂ φ₂ μ₂ ρ₂ σ₂ acc:=by
 (refine Eee (G.st) λ h1 t1 q6q=>?_;obtain rfl:=q6q)
 (refine Eee (G'.st) λ h2 t2 q8q=>?_;obtain rfl:=q8q)
 refine Eeea (id G.acc) λ vs nn e p=>?_
 have nw:B∉F.env.locals::F.own:=by refine rwE hown ?_;simpa using hBL
 refine ⟨⟨h2,t2,rfl⟩,G'.rel,G'.fr,G.ext.trans ((G.fs▸G'.ext).wider λ b o m _=>?_),G.acc.ext G'.ext G.nm nw G.nfr,G'.ext.notin e G.nm,G'.ext.notfrz e G.nm G.nf,G.wL,G.wB,Ua G.wx G'.ext,G.fo.ext G'.ext (by refine rwE hown ?_;simpa using (G.foL _ (.inl rfl)).1) (λ y c e=>by refine rwE hown ?_;simpa using (G.foL _ (.inl rfl)).2.1 y c e) (λ v L hv hl _=>by refine rwE hown ?_;simpa using (G.foL _ (.inl rfl)).2.2 v L hv hl),G.foL,G.fs⟩
 rw [hown,List.mem_singleton] at m
 refine rwE m ?_;exact G.wL
theorem GC.weaken {Fo:Fm}{ρo:Rho}{wr:List Addr}{acc:List PyData}(G:GC C T F Fo ρo wr B s φ μ s₁ φ₁ μ₁ ρ₁ σ₁ acc)(hl:ρ'.length=ρ₁.length)(hw:∀ j,j<ρ₁.length->ρ'[j]?=some none∨ρ'[j]?=ρ₁[j]?):GC C T F Fo ρo wr B s φ μ s₁ φ₁ μ₁ ρ' σ₁ acc :=
 ⟨G.st,G.rel,G.fr.weaken hl hw,G.ext,G.acc,G.nm,G.nf,G.wL,G.wB,G.wx,G.fo,G.foL,G.fs⟩
theorem GC.trans {Fo:Fm}{ρo:Rho}{wr:List Addr}{acc acc':List PyData}(G:GC C T F Fo ρo wr B s φ μ s₁ φ₁ μ₁ ρ₁ σ₁ acc)(G':GC C T F Fo ρo wr B s₁ φ₁ μ₁ s₂ φ₂ μ₂ ρ₂ σ₂ acc'):GC C T F Fo ρo wr B s φ μ s₂ φ₂ μ₂ ρ₂ σ₂ acc':=by
 (refine Eee (G.st) λ h1 t1 q11q=>?_;obtain rfl:=q11q)
 (refine Eee (G'.st) λ h2 t2 q13q=>?_;obtain rfl:=q13q)
 exact ⟨⟨h2,t2,rfl⟩,G'.rel,G'.fr,G.ext.trans G'.ext,G'.acc,G'.nm,G'.nf,G'.wL,G'.wB,G'.wx,G'.fo,G'.foL,G'.fs⟩
theorem GC.butL {Fo:Fm}{ρo:Rho}{wr:List Addr}{acc:List PyData}{tk:Nat}(hL:F.env.locals∉own)(hc:∀ y c,F.env.cells.lookup y=some c->c∉own)(hB:B∉own)(hoL:Fo.env.locals∉own)(hoc:∀ y c,Fo.env.cells.lookup y=some c->c∉own)(hoo:∀ v L,v∈Fo.fs->v.frame=some L->L∉own)(G:GC C T F Fo ρo wr B s₀ φ₀ μ₀ s φ μ ρ σ acc)(hf:∀ b,b∈own->s₀.heap.get? b=none)(R':Rel C T h' φ' μ σ)(X:Ext s.heap φ μ h' φ' μ own) :
  GC C T F Fo ρo wr B s₀ φ₀ μ₀ {s with heap:=h',toks:=tk} φ' μ ρ σ acc:=by
 (refine Eee (G.st) λ hh tk' q15q=>?_;obtain rfl:=q15q)
 refine Eeea (id G.acc) λ vs nn e p=>?_
 exact ⟨⟨h',tk,rfl⟩,R',G.fr.ext X hL hc (λ v L hv hl _=>hoo v L (G.fs▸hv) hl),G.ext.step X λ b m=>.inl (hf b m),G.acc.ext X G.nm hB (λ h=>nomatch h),G.nm,X.notfrz e G.nm G.nf,G.wL,G.wB,Ua G.wx X,G.fo.ext X hoL hoc (λ v L hv hl _=>hoo v L hv hl),G.foL,G.fs⟩
theorem GC.append {Fo:Fm}{ρo:Rho}{wr:List Addr}{acc:List PyData}{v:Value}{x:PyData}{Q:Value->Shared->Prop}(hBL:B≠F.env.locals)(hc:∀ y c,F.env.cells.lookup y=some c->c≠B)(G:GC C T F Fo ρo wr B s₀ φ₀ μ₀ s φ μ ρ σ acc)(V:VP s.heap φ v x)(hf:Few acc.length)
  (q:∀ s',GC C T F Fo ρo wr B s₀ φ₀ μ₀ s' φ μ ρ σ (acc++[x])->Q .none s'):wpAny (model C.prog C.w) A (call (.builtin "list.append") [.ref B,v]) Q NoE s:=by
 refine Eeea (G.acc) λ vs k ho hp=>?_
 have hl:=hp.length
 (refine Eee (G.st) λ hh tk' q19q=>?_;obtain rfl:=q19q)
 refine wpAny_list_append_plain ⟨k,ho⟩ (λ h' hp' hs=>?_) (by (refine rwE List.size_toArray ?_;refine rwE hl ?_);exact zh hf)
 (refine Ee (hp') λ k' ho'=>?_;try clear hp')
 refine Ea (G.rel.but G.nm G.nf hs ho') λ R' X=>?_
 exact q _ ⟨⟨h',tk',rfl⟩,R',G.fr.ext X (by simpa using Ne.symm hBL) (λ y c h=>by simpa using hc y c h) (λ v L hv hl _=>by simpa using (G.foL _ (.inr rfl)).2.2 v L (G.fs▸hv) hl),G.ext.trans (X.wider λ b o m _=>by rw [List.mem_singleton] at m;refine rwE m ?_;exact G.wB).slack,
  ⟨vs++[v],k',by refine rwE ho' ?_;simp [W.listOf],(X.vps hp).append (.cons (X.vp V) .nil)⟩,G.nm,G.nf,G.wL,G.wB,Ua G.wx X,G.fo.ext X (by simpa using (G.foL _ (.inr rfl)).1) (λ y c h=>by simpa using (G.foL _ (.inr rfl)).2.1 y c h) (λ v L hv hl _=>by simpa using (G.foL _ (.inr rfl)).2.2 v L hv hl),G.foL,G.fs⟩
end
section
variable {C:Cx}{T:Tabs}{n:Nat}{A:Around}
noncomputable def zF (C:Cx)(T:Tabs)(n:Nat)(W:Rho->zA->(D->zA->Prop)->Prop)(t:Pt)(ifs:List Ex)(gens:List Gn)(ρ:Rho)(src:Option (Nat×List PyData)):PyData->List PyData×zA->(List PyData×zA->Prop)->Prop :=
 λ x a K=>Is (Zc t x ρ) λ ρ'=>wpIfs C T n ifs ρ' a.2 λ b σ₂=>Br b (wpG C T n W gens ρ' σ₂ a.1 λ acc' σ₃=>zZ src σ₃ (K (acc',σ₃))) (zZ src σ₂ (K (a.1,σ₂)))
end
noncomputable def Z9 (ifsA:List Expr)(env:Env):Sem Bool:=forIn ifsA true λ c r=>if r=true then do let ok<-isTrue c env (eval c env);pure (ForInStep.yield ok) else pure (ForInStep.yield r)
noncomputable def ZK (e elt:Expr)(og:Option Comprehension)(d:Nat)(B:Addr)(env:Env):Sem Unit:=@Option.casesOn _ (λ _=>Sem Unit) og (eval elt env >>= λ x=>call (.builtin "list.append") [.ref B,x] >>= λ _=>pure ()) (λ g'=>eval g'.iter env >>= λ x=>standAt g'.iter.pos >>= λ _=>foldedSetIterable g'.iter env x >>= λ x=>holding [x] (pyIter x) >>= λ it=>runOwn (.compStart e (d + 1) it (.ref B) env) env >>= λ _=>pure ())
theorem xG {elt target iter:Expr}{ifsA:List Expr}{gensA:List Comprehension}{scope:Scope}{pos:Pos}{d:Nat}{it:Value}{B:Addr}{env:Env}(hg:gensA[d]?=some ⟨target,iter,ifsA,0⟩)(hg':∀ g',gensA[d + 1]?=some g'->g'.is_async=0) :
  compTurn (.ListComp elt gensA scope pos) d it (.ref B) env=(standAt iter.pos >>= λ _=>pyNext it >>= λ r=>match r with
   | none=>pure (.done .next)
   | some v=>letOwnedTupleGo target it v >>= λ _=>assign target env v >>= λ _=>Z9 ifsA env >>= λ ok =>
    if ok=true then (ZK (.ListComp elt gensA scope pos) elt (gensA[d + 1]?) d B env >>= λ _=>again (.compLoop (.ListComp elt gensA scope pos) d it (.ref B) env)) else again (.compLoop (.ListComp elt gensA scope pos) d it (.ref B) env)):=by
 cases hh:gensA[d + 1]? with
 | none =>
  unfold compTurn
  simp only [hg,hh,ZK,bind_assoc,pure_bind]
  rfl
 | some g' =>
  obtain ⟨t',i',f',a'⟩:=g'
  have ha:=hg' _ hh
  dsimp only at ha;subst ha
  unfold compTurn
  simp only [hg,hh,ZK,bind_assoc,pure_bind]
  rfl
section
variable {C:Cx}{T:Tabs}{F:Fm}{A:Around}{n:Nat}{s s' s₀ s₁:Shared}{φ φ' φ₀ φ₁:Addr->Prop}{μ μ' μ₀ μ₁:List Addr}{ρ ρ' ρ₀ ρ₁:Rho}{σ σ' σ₁:zA}{h h':Heap}{own:List Addr}{B:Addr}{wr:List Addr}{Fo:Fm}{ρo:Rho}
noncomputable def jR (C:Cx)(T:Tabs)(n:Nat)(A:Around)(F Fo:Fm)(ρo:Rho)(wr:List Addr)(B:Addr)(W:Rho->zA->(D->zA->Prop)->Prop)(gs:List Gn)(tree:Sem Unit):Prop :=
 ∀ (s:Shared) (φ:Addr->Prop) (μ:List Addr) (ρ:Rho) (σ:zA) (acc:List PyData) (Q:List PyData->zA->Prop),(∀ j,j∈Z6 gs->ρ[j]?=some none) ->
  GC C T F Fo ρo wr B s φ μ s φ μ ρ σ acc->wpG C T n W gs ρ σ acc Q ->
  wpAny (model C.prog C.w) A tree (λ _ s'=>∃ φ' μ' σ' acc',GC C T F Fo ρo wr B s φ μ s' φ' μ' ρ σ' acc'/\Q acc' σ') NoE s
theorem GC.self {acc:List PyData}(R:Rel C T s.heap φ μ σ)(I:FrI F s.heap φ μ ρ)(a:AccAt s.heap φ B acc)(nm:B∉μ)(nf:¬ φ B)(wL:F.env.locals∈wr)(wB:B∈wr)(wx:∀ b,b∈wr->∃ o,s.heap.get? b=some o)(fo:FrI Fo s.heap φ μ ρo)(foL:∀ a,a=F.env.locals∨a=B->Fo.env.locals≠a/\(∀ y c,Fo.env.cells.lookup y=some c->c≠a)/\∀ v L,v∈Fo.fs->v.frame=some L->L≠a)(fs:F.fs=Fo.fs):GC C T F Fo ρo wr B s φ μ s φ μ ρ σ acc :=
 ⟨⟨s.heap,s.toks,rfl⟩,R,I,.refl,a,nm,nf,wL,wB,wx,fo,foL,fs⟩
theorem GC.here {acc:List PyData}(G:GC C T F Fo ρo wr B s₀ φ₀ μ₀ s φ μ ρ σ acc):GC C T F Fo ρo wr B s φ μ s φ μ ρ σ acc:=GC.self G.rel G.fr G.acc G.nm G.nf G.wL G.wB G.wx G.fo G.foL G.fs
theorem FrI.gone (I:FrI F h φ μ ρ)(k:∀ c o,c∉own->h.get? c=some o->h'.get? c=some o)(kf:∀ b,φ b->φ b/\h'.get? b=h.get? b)(hL:F.env.locals∉own)(hC:∀ y c,F.env.cells.lookup y=some c->c∉own)(ho:∀ c,c∈F.own->c∉own)(hoo:∀ v L,v∈F.fs->v.frame=some L->L∉own):FrI F h' φ μ ρ:=by
 refine Eea (I.loc) λ m hn hm=>?_
 refine ⟨I.kind,I.glob,I.blt,I.len,⟨m,?_,λ i y hi=>⟨(hm i y hi).1,(hm i y hi).2.mono kf λ _ _ e=>e⟩⟩,λ i y kk hi hk=>?_,I.uniq,I.Lμ,I.Lφ,λ y c hc=>?_,I.cinj,λ c hc=>?_,I.outsK λ v L o hv hl h1 h2 h3 _ _=>⟨⟨o,k _ _ (hoo v L hv hl) h1,rfl⟩,h2,h3⟩⟩
 ·(refine Eeeea (hn) λ o es ep ho r=>?_;try clear hn);exact ⟨o,es,ep,k _ _ hL ho,r⟩
 ·obtain ⟨h1,c,v,hc1,hc2,hc3,hc4⟩:=I.cell i y kk hi hk
  refine ⟨h1,c,v,hc1,?_,hc3.mono kf λ _ _ e=>e,hc4⟩
  (refine Eea (hc2) λ o ho hd=>?_;try clear hc2)
  exact ⟨o,k _ _ (hC _ _ hc1) ho,hd⟩
 ·(refine qN (I.cμ y c hc) λ q6q=>?_;(refine Ee (q6q) λ o h0=>?_;try clear q6q);intro h1 h2 h3)
  exact ⟨⟨o,k _ _ (hC _ _ hc) h0⟩,h1,h2,h3⟩
 ·refine Ee (I.own c hc) λ o e=>?_
  exact ⟨o,k _ _ (ho c hc) e⟩
theorem GC.endL {tk:Nat}{acc:List PyData}(I₀:FrI Fo s₀.heap φ₀ μ₀ ρo)(hown:F.own=[])(hL:F.env.locals∉own)(hC:∀ y c,F.env.cells.lookup y=some c->c∉own)(hne:∀ b,b∈own->b∉wr)(G:GC C T F Fo ρo wr B s₀ φ₀ μ₀ s φ μ ρ σ acc)(hf:∀ b,b∈own->s₀.heap.get? b=none)(N:Lone s.heap φ μ own)(k:∀ c o,c∉own->s.heap.get? c=some o->h'.get? c=some o) :
  GC C T F Fo ρo wr B s₀ φ₀ μ₀ {s with heap:=h',toks:=tk} φ μ ρ σ acc:=by
 (refine Eee (G.st) λ hh tk' q10q=>?_;obtain rfl:=q10q)
 have R:=G.rel
 have kf:∀ b,φ b->φ b/\h'.get? b=hh.get? b:=λ b f=>⟨f,by refine Ee (R.frz b f) λ o e=>?_;refine rwE (show hh.get? b=some o from e) ?_;exact k b o (λ m=>N.nf b m f) e⟩
 have km:∀ (j:Nat) (b:Addr),μ[j]?=some b->h'.get? b=hh.get? b:=λ j b e=>by
  refine Ee (R.lt j b e) λ o eo=>?_
  refine rwE (show hh.get? b=some o from eo) ?_;exact k b o (λ m=>N.nm b m (List.mem_iff_getElem?.mpr ⟨j,e⟩)) eo
 have R':Rel C T h' φ μ σ:=⟨λ b o e=>by refine rwE ((kf b (R.base b o e)).2) ?_;exact R.keep b o e,R.base,λ b f=>by refine rwE ((kf b f).2) ?_;exact R.frz b f,R.len,R.nodup,λ j b e=>by refine rwE (km j b e) ?_;exact R.lt j b e,R.apart,
  λ j b mo e e'=>Zb (R.at_ j b mo e e') kf (λ _ _ e=>e) (.inr (km j b e))⟩
 have old:∀ b o,s₀.heap.get? b=some o->b∉own:=λ b o e m=>by rw [hf b m] at e;cases e
 have keep0:∀ b o,s₀.heap.get? b=some o->∀ o',hh.get? b=some o'->h'.get? b=some o':=λ b o e o' e'=>k b o' (old b o e) e'
 refine ⟨⟨h',tk,rfl⟩,R',G.fr.gone k kf hL hC (λ c m=>by rw [hown] at m;cases m) (λ v L hv hl m=>I₀.ne_out (hf _ m) (G.fs▸hv) hl rfl),⟨λ a f=>⟨(G.ext.frz a f).1,(kf a (G.ext.frz a f).1).2.trans (G.ext.frz a f).2⟩,G.ext.new,G.ext.pre,G.ext.fresh,λ b o e=>?_,λ b o e nm nw=>?_⟩,?_,G.nm,G.nf,G.wL,G.wB,λ b m=>?_,
  G.fo.gone k kf (λ m=>I₀.ne_locals (hf _ m) rfl) (λ y c hc m=>I₀.ne_cells (hf _ m) hc rfl) (λ c hc m=>I₀.ne_own (hf _ m) (List.mem_cons_of_mem _ hc)) (λ v L hv hl m=>I₀.ne_out (hf _ m) hv hl rfl),G.foL,G.fs⟩
 ·refine Ee (G.ext.ex b o e) λ o' e'=>?_
  exact ⟨o',keep0 b o e o' e'⟩
 ·rcases G.ext.oth b o e nm nw with q | ⟨hc,sl,q⟩
  ·exact .inl (keep0 b o e _ q)
  ·exact .inr ⟨hc,sl,keep0 b o e _ q⟩
 ·refine Eeea (G.acc) λ vs nn e p=>?_
  exact ⟨vs,nn,k _ _ (λ m=>hne _ m G.wB) e,p.mono kf⟩
 ·refine Ee (G.wx b m) λ o ho=>?_
  exact ⟨o,k _ _ (λ q=>hne _ q m) ho⟩
theorem J5 {it:Value}{elt target iter:Expr}{ifsA:List Expr}{gensA:List Comprehension}{scope:Scope}{pos:Pos}{d:Nat}{t:Pt}{ifs:List Ex}{gs:List Gn}{src:Option (Nat×List PyData)}{xs acc₀:List PyData}{It:Nat->Heap->Prop}{Sr:Heap->(Addr->Prop)->List Addr->Prop}
  {W₀:Rho->zA->(D->zA->Prop)->Prop} {Q:List PyData->zA->Prop}
  (hg:gensA[d]?=some ⟨target,iter,ifsA,0⟩) (hg':∀ g',gensA[d + 1]?=some g'->g'.is_async=0)
  (W:Walk C T A it target own src xs It Sr) (hA:A.handled=none) (ht:trP F.ks target=some t)
  (hifs:∀ ρ σ K,wpIfs C T n ifs ρ σ K->DB C T F A (Z9 ifsA F.env) ρ σ K)
  (hin:jR C T n A F Fo ρo wr B W₀ gs (ZK (.ListComp elt gensA scope pos) elt (gensA[d + 1]?) d B F.env))
  (hown:F.own=[]) (hBL:B≠F.env.locals) (hBc:∀ y c,F.env.cells.lookup y=some c->c≠B)
  (hfree:∀ j,j∈Z2 t->ρ[j]?=some none) (hfree':∀ j,j∈Z6 gs->ρ[j]?=some none) (hdis:∀ j,j∈Z2 t->j∉Z6 gs)
  (I₀:FrI Fo s₀.heap φ₀ μ₀ ρo) (hne:∀ b,b∈own->b∉wr) (hC:∀ y c,F.env.cells.lookup y=some c->c∉own) (hf:∀ b,b∈own->s₀.heap.get? b=none) (G:GC C T F Fo ρo wr B s₀ φ₀ μ₀ s φ μ ρ σ acc₀) (hit:It 0 s.heap) (N:Lone s.heap φ μ own) (hsr:Sr s.heap φ μ) (hst:zZ src σ True)
  (hw:zJ (zF C T n W₀ t ifs gs ρ src) xs (acc₀,σ) λ a=>Q a.1 a.2) :
  codeAny (model C.prog C.w) A (.compLoop (.ListComp elt gensA scope pos) d it (.ref B) F.env) (λ r s'=>match r with | .ok f=>f=.next/\∃ φ' μ' σ' acc',GC C T F Fo ρo wr B s₀ φ₀ μ₀ s' φ' μ' ρ σ' acc'/\Q acc' σ' | .error e=>False) s:=by
 have hL:F.env.locals∉own:=λ m=>hne _ m G.wL
 have hB:B∉own:=λ m=>hne _ m G.wB
 have hwL:=G.wL
 have hnf:∀ b,b∈own->b∉frL Fo.fs:=λ b m=>I₀.ne_fr (hf b m)
 have hfs:=G.fs
 refine codeAny_loop rfl (λ m s=>∃ k φ μ σ acc,m=xs.length - k/\k<=xs.length/\GC C T F Fo ρo wr B s₀ φ₀ μ₀ s φ μ ρ σ acc/\It k s.heap/\Lone s.heap φ μ own/\Sr s.heap φ μ/\zZ src σ True/\zJ (zF C T n W₀ t ifs gs ρ src) (xs.drop k) (acc,σ) λ a=>Q a.1 a.2)
  (λ m s hI=>?_) xs.length ⟨0,φ,μ,σ,acc₀,by exact rfl,by exact Nat.zero_le _,G,hit,N,hsr,hst,by simpa using hw⟩
 clear G hit N hsr hst hw
 obtain ⟨k,φ,μ,σ,acc,rfl,hk,G,hit,N,hsr,hst,hw⟩:=hI
 show wpAny _ A ((compTurn (.ListComp elt gensA scope pos) d it (.ref B) F.env).onRaise (λ x=>do noteFrame x F.env;theTreesLotGoes x)) _ _ s
 refine wpAny_noted ?_
 refine rwE (xG hg hg') ?_
 refine wpAny_bind (wpAny_standAt (wpAny_bind ?_))
 by_cases hlt:k<xs.length
 ·have hx:xs[k]?=some xs[k]:=List.getElem?_eq_getElem hlt
  rw [List.drop_eq_getElem_cons hlt] at hw
  refine Eea (Is.h hw) λ ρ' hbp hw=>?_
  have hoff:=J1 t _ _ _ hbp
  have back:∀ {s':Shared} {φ μ σ acc} ,GC C T F Fo ρo wr B s₀ φ₀ μ₀ s' φ μ ρ' σ acc->GC C T F Fo ρo wr B s₀ φ₀ μ₀ s' φ μ ρ σ acc:=λ G=>G.weaken hoff.1.symm λ j _=>by
   by_cases q:j∈Z2 t
   ·exact .inl (hfree j q)
   ·exact .inr (hoff.2 j q).symm
  refine wpAny_mono (W.turn k xs[k] s φ μ σ (λ v s₁'=>wpAny (model C.prog C.w) A (assign target F.env v) (λ _ s₂=>wpAny (model C.prog C.w) A (Z9 ifsA F.env) (λ ok s₃ =>
    wpAny (model C.prog C.w) A (if ok=true then ZK (.ListComp elt gensA scope pos) elt (gensA[d + 1]?) d B F.env else pure ()) (λ _ s₄=>∃ m,m<xs.length - k/\∃ k φ μ σ acc,m=xs.length - k/\k<=xs.length/\GC C T F Fo ρo wr B s₀ φ₀ μ₀ s₄ φ μ ρ σ acc/\It k s₄.heap/\Lone s₄.heap φ μ own/\Sr s₄.heap φ μ/\zZ src σ True/\zJ (zF C T n W₀ t ifs gs ρ src) (xs.drop k) (acc,σ) λ a=>Q a.1 a.2) NoE s₃) NoE s₂) NoE s₁') hx hit G.rel hsr hst N λ v h' φ' tk R' X V hit' N'=>?_) (λ r s₁ hr=>?_) λ _ _ e=>e.elim
  ·have G1:GC C T F Fo ρo wr B s₀ φ₀ μ₀ {s with heap:=h',toks:=tk} φ' μ ρ σ acc:=GC.butL hL hC hB (λ m=>I₀.ne_locals (hf _ m) rfl) (λ y c hc m=>I₀.ne_cells (hf _ m) hc rfl) (λ v L hv hl m=>I₀.ne_out (hf _ m) hv hl rfl) G hf R' X
   refine wpAny_mono (j0 hA t target xs[k] ρ ρ' _ φ' μ v ht hbp G1.rel G1.fr V) (λ _ s₂ Gx=>?_) λ _ _ e=>e
   have G2:=G1.go hown hBL Gx
   have xt:∀ {s φ μ s' φ' μ' ρ' σ'},Go C T F s φ μ s' φ' μ' ρ' σ'->Ext s.heap φ μ s'.heap φ' μ' wr (frL Fo.fs):=λ g=>(hfs▸g.ext).wider λ b o m _=>by rw [hown,List.mem_singleton] at m;refine rwE m ?_;exact hwL
   refine Ea (N'.ext (xt Gx) hne hnf) λ N2 e2=>?_
   have hit2:=W.frame _ _ _ hit' e2
   have hsr2:=W.sr _ _ _ _ _ _ _ _ (W.sr _ _ _ _ _ _ _ _ hsr X) Gx.ext
   refine wpAny_mono (hifs ρ' σ _ hw s₂ φ' μ G2.rel G2.fr) (λ ok s₃ hp=>?_) λ _ _ e=>e
   (refine Eeeea (hp) λ φ₃ μ₃ σ₃ Gy hq=>?_;try clear hp)
   have G3:=G2.go hown hBL Gy
   refine Ea (N2.ext (xt Gy) hne hnf) λ N3 e3=>?_
   have hit3:=W.frame _ _ _ hit2 e3
   have hsr3:=W.sr _ _ _ _ _ _ _ _ hsr2 Gy.ext
   cases ok with
   | false =>
    refine Ea (QI (hq.f rfl)) λ q1 q2=>?_
    exact wpAny_pure ⟨xs.length - (k + 1),Nat.sub_lt_sub_left hlt (Nat.lt_succ_self k),k + 1,φ₃,μ₃,σ₃,acc,rfl,hlt,back G3,hit3,N3,hsr3,q1,q2⟩
   | true =>
    refine wpAny_mono (hin s₃ φ₃ μ₃ ρ' σ₃ acc _ (λ j m=>?_) G3.here (hq.t rfl)) (λ _ s₄ h4=>?_) λ _ _ e=>e
    ·refine rwE (hoff.2 j λ q=>hdis j q m) ?_;exact hfree' j m
    ·(refine Eeeeea (h4) λ φ₄ μ₄ σ₄ acc' Gz hq4=>?_;try clear h4)
     refine Ea (N3.ext Gz.ext hne hnf) λ N4 e4=>?_
     refine Ea (QI hq4) λ q1 q2=>?_
     exact ⟨xs.length - (k + 1),Nat.sub_lt_sub_left hlt (Nat.lt_succ_self k),k + 1,φ₄,μ₄,σ₄,acc',rfl,hlt,back (G3.trans Gz),W.frame _ _ _ hit3 e4,N4,W.sr _ _ _ _ _ _ _ _ hsr3 Gz.ext,q1,q2⟩
  ·cases r with
   | none=>exact hr.elim
   | some v =>
    refine wpAny_bind (wpAny_mono hr (λ _ s₂ h2=>wpAny_bind (wpAny_mono h2 (λ _ s₃ h3=>wpAny_bind (wpAny_mono h3 (λ ok s₄ h4=>?_) λ _ _ e=>e.elim)) λ _ _ e=>e.elim)) λ _ _ e=>e.elim)
    cases ok with
    | true=>exact wpAny_bind (wpAny_mono h4 (λ _ s₅ h5=>wpAny_pure ⟨rfl,h5⟩) λ _ _ e=>e.elim)
    | false =>
     show wpAny _ _ ((pure ():Sem Unit) >>= λ _=>again (.compLoop (.ListComp elt gensA scope pos) d it (.ref B) F.env)) _ _ _
     exact wpAny_bind (wpAny_mono h4 (λ _ s₅ h5=>wpAny_pure ⟨rfl,h5⟩) λ _ _ e=>e.elim)
 ·have hkl:k=xs.length:=by exact Nat.le_antisymm (hk) ((Nat.le_of_not_lt hlt))
  subst hkl
  rw [List.drop_length] at hw
  refine wpAny_mono (W.done s φ μ σ (λ r s₁=>r=none/\GC C T F Fo ρo wr B s₀ φ₀ μ₀ s₁ φ μ ρ σ acc) hit G.rel hsr hst N λ h' tk kk=>⟨rfl,GC.endL I₀ hown hL hC hne G hf N kk⟩) (λ r s₁ ⟨hr,G1⟩=>?_) λ _ _ e=>e.elim
  subst hr
  exact wpAny_pure ⟨rfl,φ,μ,σ,acc,G1,hw⟩
end
theorem qS {prog:Program}{w:World}{A:Around}{R:Result->Shared->Prop}{s:Shared}{elt target iter:Expr}{ifs:List Expr}{gensA:List Comprehension}{scope:Scope}{pos:Pos}{d:Nat}{it acc:Value}{env:Env}(hg:gensA[d]?=some ⟨target,iter,ifs,0⟩)
  (h0:codeAny (model prog w) A (.compLoop (.ListComp elt gensA scope pos) d it acc env) R s)
  (h:wpAny (model prog w) A (pyIter it) (λ it' s'=>codeAny (model prog w) A (.compLoop (.ListComp elt gensA scope pos) d it' acc env) R s') NoE s) :
  codeAny (model prog w) A (.compStart (.ListComp elt gensA scope pos) d it acc env) R s:=by
 refine codeAny_of_tree ?_
 show wpAny _ _ ((compStart (.ListComp elt gensA scope pos) d it acc env).onRaise (λ x=>do noteFrame x env;standAt theWindowsPlace)) _ _ s
 refine wpAny_notedAt ?_
 unfold compStart
 have hc:clausesOf (Expr.ListComp elt gensA scope pos)=gensA:=rfl
 simp only [hc,hg]
 show wpAny _ _ (ask >>= _) _ _ s
 refine wpAny_bind (wpAny_askSetting (wpAny_ite ?_))
 split
 ·first
   | exact wpAny_bind (wpAny_pure (wpAny_pure (And.intro rfl h0)))
   | exact wpAny_pure (And.intro rfl h0)
 ·first
   | exact wpAny_bind (wpAny_rule (wpAny_bind (wpAny_standAt (wpAny_bind (wpAny_mono h (λ it' s' h'=>wpAny_pure (And.intro rfl h')) λ _ _ x=>x.elim)))))
   | (refine wpAny_bind (wpAny_rule ?_);show wpAny _ _ (standAt iter.pos >>= _) _ _ s;exact wpAny_bind (wpAny_standAt (wpAny_bind (wpAny_mono h (λ it' s' h'=>wpAny_pure (And.intro rfl h')) λ _ _ x=>x.elim))))
section
variable {C:Cx}{T:Tabs}{F:Fm}{A:Around}{n:Nat}{s s' s₀ s₁:Shared}{φ φ' φ₀ φ₁:Addr->Prop}{μ μ' μ₀ μ₁:List Addr}{ρ ρ' ρ₀ ρ₁:Rho}{σ σ' σ₁:zA}{h h':Heap}{own:List Addr}{B:Addr}{wr:List Addr}{Fo:Fm}{ρo:Rho}{W₀:Rho->zA->(D->zA->Prop)->Prop}
theorem vE {e elt:Expr}{d:Nat}(hown:F.own=[])(hBL:B≠F.env.locals)(hBc:∀ y c,F.env.cells.lookup y=some c->c≠B)
  (hW:∀ ρ σ K,W₀ ρ σ K->DX C T F A (eval elt F.env) ρ σ K):jR C T n A F Fo ρo wr B W₀ [] (ZK e elt none d B F.env):=by
 intro s φ μ ρ σ acc Q _ G hw
 unfold ZK
 refine wpAny_bind ((hW ρ σ _ hw).seq G.rel G.fr λ s' φ' μ' v dd σ' Gx V q=>?_)
 refine Eeaaa (Qg V q) λ x _ p q1 q2=>?_
 exact wpAny_bind (GC.append hBL hBc (G.go hown hBL Gx) p q1 λ s₂ G2=>wpAny_pure ⟨φ',μ',σ',_,G2,q2⟩)
theorem wm {elt:Expr}{gensA:List Comprehension}{scope:Scope}{pos:Pos}{d:Nat}{target iter:Expr}{ifsA:List Expr}{t:Pt}{it:Ex}{ifs:List Ex}{gs:List Gn}
  (hown:F.own=[]) (hBL:B≠F.env.locals) (hBc:∀ y c,F.env.cells.lookup y=some c->c≠B)
  (hg:gensA[d + 1]?=some ⟨target,iter,ifsA,0⟩) (hg':∀ g',gensA[d + 2]?=some g'->g'.is_async=0) (hfold:∀ x,foldedSetIterable iter F.env x=pure x)
  (hA:A.handled=none) (hA':A.mark none=A) (ht:trP F.ks target=some t) (hdis:∀ j,j∈Z2 t->j∉Z6 gs)
  (hdi:∀ ρ σ K,(wpE C T n it ρ σ λ d σ'=>zf σ' d λ xs i=>K xs i σ')->DI C T F A iter target ρ σ K)
  (hifs:∀ ρ σ K,wpIfs C T n ifs ρ σ K->DB C T F A (Z9 ifsA F.env) ρ σ K)
  (hin:jR C T n A F Fo ρo wr B W₀ gs (ZK (.ListComp elt gensA scope pos) elt (gensA[d + 2]?) (d + 1) B F.env)) :
  jR C T n A F Fo ρo wr B W₀ (.mk t it ifs::gs) (ZK (.ListComp elt gensA scope pos) elt (some ⟨target,iter,ifsA,0⟩) d B F.env):=by
 intro s φ μ ρ σ acc Q hfree G hw
 have hw':wpE C T n it ρ σ λ d σ'=>zf σ' d λ xs i=>Few xs.length/\zJ (zF C T n W₀ t ifs gs ρ i) xs (acc,σ') λ a=>Q a.1 a.2:=hw
 refine wpAny_bind ?_
 refine wpAny_mono (hdi ρ σ _ hw' s φ μ (λ v s'=>wpAny (model C.prog C.w) A (runOwn (.compStart (.ListComp elt gensA scope pos) (d + 1) v (.ref B) F.env) F.env) (λ _ s'=>∃ φ' μ' σ' acc',GC C T F Fo ρo wr B s φ μ s' φ' μ' ρ σ' acc'/\Q acc' σ') NoE s') G.rel G.fr ?_) (λ x s₁ hx=>?_) λ _ _ e=>e.elim
 ·intro itv s' φ' μ' σ' own src xs It Sr G' W hit N hf hsr hst hq
  have G1:=G.go hown hBL G'
  have loop:codeAny (model C.prog C.w) A (.compLoop (.ListComp elt gensA scope pos) (d + 1) itv (.ref B) F.env) (λ r s'=>match r with | .ok f=>f=.next/\∃ φ' μ' σ' acc',GC C T F Fo ρo wr B s φ μ s' φ' μ' ρ σ' acc'/\Q acc' σ' | .error e=>False) s' :=
   J5 hg hg' W hA ht hifs hin hown hBL hBc (λ j m=>hfree j (List.mem_append_left _ m)) (λ j m=>hfree j (List.mem_append_right _ m)) hdis G.fo (λ b m q=>by refine Ee (G.wx b q) λ o e=>?_;rw [hf b m] at e;cases e) (λ y c hc m=>G.fr.ne_cells (hf _ m) hc rfl) hf G1 hit N hsr hst hq.2
  refine wpAny_runOwn ?_
  refine rwE hA' ?_
  refine codeAny_mono (qS hg loop (W.self 0 _ _ hit loop)) λ r s'' hr=>?_
  cases r with
  | ok f=>exact hr.2
  | error e=>exact hr.elim
 ·refine wpAny_bind (wpAny_standAt (wpAny_bind (wpAny_of_eq (hfold x) (wpAny_bind (wpAny_holding (wpAny_mono hx (λ itv s₂ h2=>wpAny_bind (wpAny_mono h2 (λ _ s₃ h3=>wpAny_pure h3) λ _ _ e=>e.elim)) λ _ _ e=>e.elim))))))
end
noncomputable def YY (scope:Scope):Str×NameKind->Str×NameKind:=λ xk=>(xk.1,if scope.names.lookup xk.1=some .free/\(xk.2=.cell∨xk.2=.free) then .free else .globalExplicit)
noncomputable def zU (scope:Scope):List (Str×NameKind):=scope.names.filter λ xk=>xk.2==.local
noncomputable def zj (ks:List (Str×NameKind))(scope:Scope):List (Str×NameKind):=ks.map (YY scope)++zU scope
noncomputable def z7 (scope:Scope)(cells:List (Str×Addr)):List (Str×Addr):=((scope.names.filter λ xk=>xk.2==.free).map λ xk=>(xk.1,(cells.lookup xk.1).getD 0)).reverse
noncomputable def Uz (ks:List (Str×NameKind))(scope:Scope):Bool:=scope.kind==.function&&scope.names.all (λ xk=>xk.2 != .cell&&scope.names.lookup xk.1==some xk.2&&(xk.2 != .free || ks.any λ yk=>yk.1==xk.1&&(yk.2==.cell || yk.2==.free)))&&decide ((zU scope).map (·.1)).Nodup
theorem ul {env:Env}:∀ (l:List (Str×NameKind)) (cs:List (Str×Addr)),(∀ xk∈l,xk.2=.free->∃ c,env.cells.lookup xk.1=some c) ->
  (forIn l cs λ x r=>(match x with | (name,kind)=>if (kind==NameKind.free)=true then do let c<-cellOf env name;pure (ForInStep.yield ((name,c)::r)) else pure (ForInStep.yield r):Sem (ForInStep (List (Str×Addr))))) =
   pure (((l.filter λ xk=>xk.2==.free).map λ xk=>(xk.1,(env.cells.lookup xk.1).getD 0)).reverse++cs):=by
 intro l
 induction l with
 | nil =>
  intro cs _
  exact rfl
 | cons zzh l ih =>
  intro cs h
  obtain ⟨x,k⟩:=zzh
  have ih:=λ cs'=>ih cs' λ xk m=>h xk (List.mem_cons_of_mem _ m)
  refine rwE (List.forIn_cons ..) ?_
  by_cases hk:k=.free
  ·subst hk
   refine Ee (h (x,.free) (by simp) rfl) λ c hc=>?_
   have hc':env.cells.lookup x=some c:=hc
   simp only [beq_self_eq_true,if_true,cellOf,hc',pure_bind,List.filter_cons,List.map_cons,Option.getD_some,List.reverse_cons,List.append_assoc,List.singleton_append]
   exact ih ((x,c)::cs)
  ·have hk':(k==NameKind.free)=false:=by simpa using hk
   simp only [hk',List.filter_cons,pure_bind,ih,Bool.false_eq_true,if_false]
theorem ux {scope:Scope}{env:Env}(h:∀ xk∈scope.names,xk.2=.free->∃ c,env.cells.lookup xk.1=some c):closureFor scope env=pure (z7 scope env.cells):=by
 have:=ul (env:=env) scope.names [] h
 rw [List.append_nil] at this
 unfold closureFor
 exact (congrArg (λ m=>m >>= λ cs=>pure cs) this).trans (pure_bind _ _)
theorem yl {α:Type}:∀ {l:List (Str×α)} {x:Str} {a:α},l.lookup x=some a->(x,a)∈l
 | [],_,_,h=>by simp at h
 | (y,b)::l,x,a,h=>by
  rw [List.lookup_cons] at h
  cases hb:x==y with
  | true=>rw [hb] at h;simp only [Option.some.injEq] at h;have:x=y:=(by simpa using hb);subst this;subst h;simp
  | false=>rw [hb] at h;simp only at h;exact List.mem_cons_of_mem _ (yl h)
theorem yz {α:Type}(f:Str->α):∀ {l:List (Str×α)} {x:Str},(∀ ya∈l,ya.2=f ya.1)->(∃ a,(x,a)∈l)->l.lookup x=some (f x)
 | [],_,_,h=>by refine Ee (h) λ a h=>?_;simp at h
 | (y,b)::l,x,hf,h=>by
  refine rwE List.lookup_cons ?_
  cases hb:x==y with
  | true=>have:x=y:=(by simpa using hb);subst this;simp;exact hf (x,b) (by simp)
  | false =>
   refine yz f (λ ya m=>hf ya (List.mem_cons_of_mem _ m)) ?_
   refine Ee (h) λ a h=>?_
   rcases List.mem_cons.mp h with h | h
   ·cases h;simp at hb
   ·exact ⟨a,h⟩
theorem Xf {scope:Scope}{cells:List (Str×Addr)}{x:Str}(h:(x,NameKind.free)∈scope.names):(z7 scope cells).lookup x=some ((cells.lookup x).getD 0):=by
 refine yz (λ y=>(cells.lookup y).getD 0) (λ ya m=>?_) ⟨(cells.lookup x).getD 0,?_⟩
 ·simp only [z7,List.mem_reverse,List.mem_map] at m
  (refine Eea (m) λ xk _ q4q=>?_;try clear m;obtain rfl:=q4q);rfl
 ·simp only [z7,List.mem_reverse,List.mem_map]
  exact ⟨(x,.free),List.mem_filter.mpr ⟨h,rfl⟩,rfl⟩
theorem Qw {scope:Scope}{cells:List (Str×Addr)}{x:Str}{c:Addr}(h:(z7 scope cells).lookup x=some c):(x,NameKind.free)∈scope.names/\c=(cells.lookup x).getD 0:=by
 have:=yl h
 simp only [z7,List.mem_reverse,List.mem_map,Prod.mk.injEq] at this
 (refine Eeaa (this) λ xk h1 h2 h3=>?_;try clear this)
 refine Ea (List.mem_filter.mp h1) λ h4 h5=>?_
 have h5':xk.2=.free:=by simpa using h5
 obtain ⟨y,k⟩:=xk
 dsimp only at h2 h3 h5'
 subst h2;subst h5'
 exact ⟨h4,h3.symm⟩
structure CompOk (ks:List (Str×NameKind))(scope:Scope):Prop where
 kind:scope.kind=.function
 nocell:∀ x∈scope.names,x.2≠.cell
 look:∀ x∈scope.names,scope.names.lookup x.1=some x.2
 free:∀ x∈scope.names,x.2=.free->∃ (i:Nat) (k:NameKind),ks[i]?=some (x.1,k)/\(k=.cell∨k=.free)
 nodup:((zU scope).map (·.1)).Nodup
theorem CompOk.of {ks:List (Str×NameKind)}{scope:Scope}(h:Uz ks scope=true):CompOk ks scope:=by
 simp only [Uz,Bool.and_eq_true,decide_eq_true_eq,List.all_eq_true,beq_iff_eq,bne_iff_ne,ne_eq,Bool.or_eq_true,List.any_eq_true] at h
 (refine Ea (h) λ q9q=>?_;try clear h;(refine Ea (q9q) λ h1 h2=>?_;try clear q9q);intro h3)
 refine ⟨h1,λ x m=>(h2 x m).1.1,λ x m=>(h2 x m).1.2,λ x m hx=>?_,h3⟩
 rcases (h2 x m).2 with q | ⟨yk,q1,q2,q3⟩
 ·exact absurd hx q
 ·refine Ee (List.mem_iff_getElem?.mp q1) λ i hi=>?_
  obtain ⟨y,k⟩:=yk
  dsimp only at q2 q3
  subst q2
  exact ⟨i,k,hi,q3⟩
theorem qf {env:Env}:∀ {names:List (Str×NameKind)} {x:Str} {k:NameKind},names.lookup x=some k ->
  (names.map λ (n,k)=>if (k==NameKind.free&&env.scope.kind==.function&&env.kindOf n==some .cell) then (n,NameKind.cell) else (n,k)).lookup x=some (if k=.free/\env.scope.kind=.function/\env.kindOf x=some .cell then .cell else k)
 | [],_,_,h=>by simp at h
 | (n,k₀)::r,x,k,h=>by
  have ih:=@qf env r x k
  show List.lookup x ((if (k₀==NameKind.free&&env.scope.kind==.function&&env.kindOf n==some .cell)=true then (n,NameKind.cell) else (n,k₀))::_)=_
  cases hx:x==n with
  | true =>
   simp only [List.lookup_cons,hx] at h
   cases h
   have:x=n:=(by simpa using hx)
   subst this
   by_cases hc:(k₀==NameKind.free&&env.scope.kind==.function&&env.kindOf x==some .cell)=true
   ·refine rwE (if_pos hc) ?_
    simp only [Bool.and_eq_true,beq_iff_eq] at hc
    simp [List.lookup_cons,hc.1.1,hc.1.2,hc.2]
   ·refine rwE (if_neg hc) ?_
    simp only [Bool.and_eq_true,beq_iff_eq,not_and] at hc
    refine rwE (if_neg (λ q=>hc ⟨q.1,q.2.1⟩ q.2.2)) ?_
    simp [List.lookup_cons]
  | false =>
   simp only [List.lookup_cons,hx] at h
   by_cases hc:(k₀==NameKind.free&&env.scope.kind==.function&&env.kindOf n==some .cell)=true
   ·refine rwE (if_pos hc) ?_;simp only [List.lookup_cons,hx];exact ih h
   ·refine rwE (if_neg hc) ?_;simp only [List.lookup_cons,hx];exact ih h
section
variable {C:Cx}{T:Tabs}{F:Fm}{A:Around}{n:Nat}{s s' s₀ s₁:Shared}{φ φ' φ₀ φ₁:Addr->Prop}{μ μ' μ₀ μ₁:List Addr}{ρ ρ' ρ₀ ρ₁:Rho}{σ σ' σ₁:zA}{h h':Heap}{own:List Addr}{B L:Addr}
noncomputable def zW (F:Fm)(scope:Scope)(L:Addr):Fm:=⟨compEnvC scope (z7 scope F.env.cells) L F.env,zj F.ks scope,[],F.fs⟩
theorem FrI.clo {scope:Scope}(I:FrI F h φ μ ρ)(K:CompOk F.ks scope):∀ xk∈scope.names,xk.2=.free->∃ c,F.env.cells.lookup xk.1=some c:=λ xk m hx=>by
 refine Eeea (K.free xk m hx) λ i k hi hk=>?_
 obtain ⟨_,c,v,hc,_⟩:=I.cell i _ k hi hk
 exact ⟨c,hc⟩
theorem wA {scope:Scope}(K:CompOk F.ks scope)(I:FrI F h φ μ ρ)(hL:h.Ns L λ _=>none)(Lμ:L∉μ)(Lφ:¬ φ L)(hcL:∀ y c,F.env.cells.lookup y=some c->c≠L)(hoL:∀ v L',v∈F.fs->v.frame=some L'->L'≠L) :
  FrI (zW F scope L) h φ μ (ρ++List.replicate (zU scope).length none):=by
 have hlen:=I.len
 have e1:∀ i,i<F.ks.length->(zj F.ks scope)[i]?=F.ks[i]?.map (YY scope):=λ i hi=>by
  unfold zj
  (refine rwE (List.getElem?_append_left (by simpa using hi)) ?_;refine rwE List.getElem?_map ?_;rfl)
 have e2:∀ i,F.ks.length<=i->(zj F.ks scope)[i]?=(zU scope)[i - F.ks.length]?:=λ i hi=>by
  unfold zj
  (refine rwE (List.getElem?_append_right (by simpa using hi)) ?_;refine rwE (List.length_map ..) ?_;rfl)
 have r1:∀ i,i<F.ks.length->(ρ++List.replicate (zU scope).length (none:Option D))[i]?=ρ[i]?:=λ i hi=>List.getElem?_append_left (Nat.lt_of_lt_of_eq hi hlen.symm)
 have r2:∀ i x,F.ks.length<=i->(zj F.ks scope)[i]?=some x->(ρ++List.replicate (zU scope).length (none:Option D))[i]?=some none:=λ i x hi hx=>by
  rw [e2 i hi] at hx
  have:=(List.getElem?_eq_some_iff.mp hx).1
  (refine rwE (List.getElem?_append_right (by exact lin [_,_,_] [] (.v 0) (.v 1) [(1,.e (.v 0) (.v 2)),(1,.l (.v 2) (.v 1))] tT9 hlen hi)) ?_;refine rwE (List.getElem?_replicate_of_lt (by refine rwE hlen ?_;exact this)) ?_;rfl)
 have out:∀ i x k,i<F.ks.length->(zj F.ks scope)[i]?=some (x,k)->acc k->k=.free/\scope.names.lookup x=some .free/\∃ k',F.ks[i]?=some (x,k')/\(k'=.cell∨k'=.free):=λ i x k hi hx hk=>by
  rw [e1 i hi,Option.map_eq_some_iff] at hx
  (refine Eea (hx) λ q16q=>?_;try clear hx;obtain ⟨y,k'⟩:=q16q;intro h1 h2)
  simp only [YY,Prod.mk.injEq] at h2
  (refine Ea (h2) λ q19q=>?_;try clear h2;obtain rfl:=q19q;intro h3)
  split at h3
  ·rename_i hc
   exact ⟨h3.symm,hc.1,k',h1,hc.2⟩
  ·subst h3;rcases hk with q | q | q <;> cases q
 have inn:∀ i x k,F.ks.length<=i->(zj F.ks scope)[i]?=some (x,k)->k=.local/\scope.names.lookup x=some .local:=λ i x k hi hx=>by
  rw [e2 i hi] at hx
  have hm:=List.mem_iff_getElem?.mpr ⟨_,hx⟩
  refine Ea (List.mem_filter.mp hm) λ hm1 hm2=>?_
  have hk:k=.local:=by simpa using hm2
  subst hk
  exact ⟨rfl,K.look _ hm1⟩
 have kof:∀ x k,scope.names.lookup x=some k->(zW F scope L).env.kindOf x=some (if k=.free/\F.env.scope.kind=.function/\F.env.kindOf x=some .cell then .cell else k):=λ x k hx=>qf hx
 refine ⟨K.kind,I.glob,I.blt,?_,⟨_,hL,λ i x hi=>?_⟩,λ i x k hi hk=>?_,λ i j x k k' hi hj hk hk'=>?_,Lμ,Lφ,λ y c hc=>?_,λ x y c hx hy=>?_,(λ c m=>by simp [zW] at m),λ v hv=>?_⟩
 ·show _=(zj F.ks scope).length
  simp [zj,hlen]
 ·by_cases hlt:i<F.ks.length
  ·refine Ea (out i x _ hlt hi (.inl rfl)) λ q _=>?_;cases q
  ·have hge:F.ks.length<=i:=by exact (Nat.le_of_not_lt hlt)
   refine Ea (inn i x _ hge hi) λ _ hx=>?_
   refine ⟨by refine rwE (kof x _ hx) ?_;simp,?_⟩
   refine rwE (r2 i _ hge hi) ?_;exact .no _
 ·by_cases hlt:i<F.ks.length
  ·obtain ⟨rfl,hx,k',h1,h2⟩:=out i x k hlt hi (by rcases hk with q | q <;> simp [acc,q])
   obtain ⟨g1,c,v,g2,g3,g4,_⟩:=I.cell i x k' h1 h2
   refine ⟨?_,c,v,?_,g3,?_,λ q=>nomatch q⟩
   ·refine rwE (kof x _ hx) ?_
    by_cases q:F.env.kindOf x=some .cell
    ·left;simp [q,I.kind]
    ·right;simp [q]
   ·show (z7 scope F.env.cells).lookup x=some c
    (refine rwE (Xf (yl hx)) ?_;refine rwE g2 ?_);rfl
   ·refine rwE (r1 i hlt) ?_;exact g4
  ·have hge:F.ks.length<=i:=by exact (Nat.le_of_not_lt hlt)
   refine Ea (inn i x k hge hi) λ q _=>?_
   subst q;rcases hk with q | q <;> cases q
 ·by_cases hli:i<F.ks.length
  ·obtain ⟨rfl,hx,k1,h1,h2⟩:=out i x k hli hi hk
   by_cases hlj:j<F.ks.length
   ·obtain ⟨rfl,hx',k2,h3,h4⟩:=out j x k' hlj hj hk'
    exact I.uniq i j x k1 k2 h1 h3 (.inr h2) (.inr h4)
   ·refine Ea (inn j x k' (by exact (Nat.le_of_not_lt hlj)) hj) λ q hx'=>?_
    rw [hx] at hx';cases hx'
  ·refine Ea (inn i x k (by exact (Nat.le_of_not_lt hli)) hi) λ q hx=>?_
   by_cases hlj:j<F.ks.length
   ·obtain ⟨rfl,hx',k2,h3,h4⟩:=out j x k' hlj hj hk'
    rw [hx] at hx';cases hx'
   ·have hi':(zj F.ks scope)[i]?=some (x,k):=hi
    have hj':(zj F.ks scope)[j]?=some (x,k'):=hj
    rw [e2 i (by exact (Nat.le_of_not_lt hli))] at hi'
    rw [e2 j (by exact (Nat.le_of_not_lt hlj))] at hj'
    have n1:((zU scope).map (·.1))[i - F.ks.length]?=some x:=by (refine rwE List.getElem?_map ?_;refine rwE hi' ?_);rfl
    have n2:((zU scope).map (·.1))[j - F.ks.length]?=some x:=by (refine rwE List.getElem?_map ?_;refine rwE hj' ?_);rfl
    have:=K.nodup
    have l1:=(List.getElem?_eq_some_iff.mp n1).1
    have:=(List.getElem?_inj l1 this).mp (n1.trans n2.symm)
    exact (Nat.sub_add_cancel (Nat.le_of_not_lt hli)).symm.trans ((congrArg (· + F.ks.length) this).trans (Nat.sub_add_cancel (Nat.le_of_not_lt hlj)))
 ·refine Ea (Qw (show (z7 scope F.env.cells).lookup y=some c from hc)) λ h1 h2=>?_
  refine Ee (I.clo K _ h1 rfl) λ c' hc'=>?_
  rw [hc'] at h2
  simp only [Option.getD_some] at h2
  subst h2
  refine qN (I.cμ y c hc') λ g1 g2 g3 g4=>?_
  exact ⟨g1,g2,g3,hcL y c hc'⟩
 ·refine Ea (Qw (show (z7 scope F.env.cells).lookup x=some c from hx)) λ h1 h2=>?_
  refine Ea (Qw (show (z7 scope F.env.cells).lookup y=some c from hy)) λ h3 h4=>?_
  refine Ee (I.clo K _ h1 rfl) λ c1 hc1=>?_
  refine Ee (I.clo K _ h3 rfl) λ c2 hc2=>?_
  rw [hc1] at h2;rw [hc2] at h4
  simp only [Option.getD_some] at h2 h4
  exact I.cinj x y c (h2▸hc1) (h4▸hc2)
 ·obtain ⟨k1,L',k2,k3⟩:=I.outs v hv
  refine ⟨k1,L',k2,.inr ?_⟩
  have hne:=hoL v L' hv k2
  rcases k3 with k3 | ⟨o,k3,k4,k5,k6,_⟩
  ·(refine Eea (I.loc) λ m' q44q=>?_;(refine Eeeeaa (q44q) λ o es ep ho hd _=>?_;try clear q44q);intro _)
   exact ⟨o,k3▸ho,⟨es,ep,hd⟩,k3▸I.Lμ,k3▸I.Lφ,λ m=>by simp [zW] at m,hne⟩
  ·exact ⟨o,k3,k4,k5,k6,λ m=>by simp [zW] at m,hne⟩
end
section
variable {C:Cx}{T:Tabs}{F:Fm}{A:Around}{n:Nat}{s s' s₀ s₁:Shared}{φ φ' φ₀ φ₁:Addr->Prop}{μ μ' μ₀ μ₁:List Addr}{ρ ρ' ρ₀ ρ₁:Rho}{σ σ' σ₁:zA}{h h':Heap}{own:List Addr}{B L:Addr}{W₀:Rho->zA->(D->zA->Prop)->Prop}
noncomputable def ZU (F:Fm)(L B:Addr):List Addr:=L::B::F.env.locals::F.own
theorem WO {it:Value}{elt target iter:Expr}{ifsA:List Expr}{restA:List Comprehension}{scope:Scope}{pos:Pos}{t:Pt}{ifs:List Ex}{gs:List Gn}{src:Option (Nat×List PyData)}{xs:List PyData}{It:Nat->Heap->Prop}{Sr:Heap->(Addr->Prop)->List Addr->Prop}
  {Q:List PyData->zA->Prop} {RR:Value->Addr->Result->Shared->Prop}
  (K:CompOk F.ks scope) (hg':∀ g',restA[0]?=some g'->g'.is_async=0) (W:Walk C T A it target own src xs It Sr) (hA:A.handled=none) (ht:trP (zj F.ks scope) target=some t)
  (hix:∀ j,j∈Z2 t∨j∈Z6 gs->F.ks.length<=j/\j<F.ks.length + (zU scope).length) (hdis:∀ j,j∈Z2 t->j∉Z6 gs)
  (hifs:∀ L ρ σ K,wpIfs C T n ifs ρ σ K->DB C T (zW F scope L) A (Z9 ifsA (zW F scope L).env) ρ σ K)
  (hin:∀ L B,B≠L->(∀ y c,(zW F scope L).env.cells.lookup y=some c->c≠B)->jR C T n A (zW F scope L) F ρ (ZU F L B) B W₀ gs (ZK (.ListComp elt (⟨target,iter,ifsA,0⟩::restA) scope pos) elt (restA[0]?) 0 B (zW F scope L).env))
  (I:FrI F s.heap φ μ ρ) (G:Go C T F s φ μ s₁ φ₁ μ₁ ρ σ₁) (hit:It 0 s₁.heap) (N:Lone s₁.heap φ₁ μ₁ own) (hf:∀ b,b∈own->s.heap.get? b=none) (hsr:Sr s₁.heap φ₁ μ₁) (hst:zZ src σ₁ True)
  (hw:zJ (zF C T n W₀ t ifs gs (ρ++List.replicate (zU scope).length none) src) xs ([],σ₁) λ a=>Q a.1 a.2)
  (hRR:∀ B L s' φ' μ' σ' acc ρ',s.heap.get? B=none->s.heap.get? L=none->B≠L->GC C T (zW F scope L) F ρ (ZU F L B) B s φ μ s' φ' μ' ρ' σ' acc->Q acc σ'->RR (.ref B) L (.ok .next) s') :
  wpAny (model C.prog C.w) A (newList []) (λ ac s₃=>wpAny (model C.prog C.w) A (newFunctionEnv scope F.env.globals (z7 scope F.env.cells) [] F.env.qual none .none (some F.env)) (λ cenv s₄ =>
   codeAny (model C.prog C.w) A (.compStart (.ListComp elt (⟨target,iter,ifsA,0⟩::restA) scope pos) 0 it ac {cenv with scope:=relabel scope F.env}) (RR ac cenv.locals) s₄) NoE s₃) NoE s₁:=by
 refine wpAny_newObj_type (wpAny_newFunctionEnv K.nocell (by intro y hy;simp at hy) (λ h₁ hns₁ hsb₁=>?_) K.kind)
 dsimp only at hns₁ hsb₁ ⊢
 (refine Eee (id G.st) λ hh tk' q1q=>?_;obtain rfl:=q1q)
 dsimp only at *
 generalize hH2:hh.push {cls:=.type "list",dict:=none,data:=.seq ([]:List Value).toArray}=H2 at hns₁ hsb₁ ⊢
 have hC:H2.objs.size=hh.objs.size + 1:=by (refine rwS hH2 ?_;refine rwE (Heap.size_push ..) ?_;rfl)
 have hDC:hh.objs.size≠H2.objs.size:=by refine rwE hC ?_;exact Nat.ne_of_lt (Nat.lt_succ_self _)
 have old2:∀ b o,hh.get? b=some o->H2.get? b=some o:=λ b o e=>hH2▸Heap.get?_push_of_some _ e
 have hB2:H2.get? hh.objs.size=some (PySem.W.listOf ([]:List Value).toArray 0):=hH2▸Heap.get?_push_size _ rfl
 have fB:=zi hh
 have fL:hh.get? H2.objs.size=none:=Heap.get?_none_of_le (by refine rwE hC ?_;exact Nat.le_succ _)
 refine Ea (G.rel.grow (h':=H2.push {cls:=.type "dict",data:=.dict #[]}) λ b o e=>Heap.get?_push_of_some _ (old2 b o e)) λ R3 X3=>?_
 have Lμ:H2.objs.size∉μ₁:=G.rel.notin_none fL
 have Lφ:¬ φ₁ H2.objs.size:=G.rel.notfrz_none fL
 obtain ⟨m₁,hL₁⟩:∃ o,h₁.get? H2.objs.size=some o:=by (refine Eeeea (hns₁) λ o es ep ho _=>?_;try clear hns₁);exact ⟨o,ho⟩
 refine Ea (R3.but Lμ Lφ hsb₁ hL₁) λ R4 X4=>?_
 have X:Ext hh φ₁ μ₁ h₁ φ₁ μ₁ [H2.objs.size]:=(X3.wider (λ b o m _=>by simp at m)).trans X4
 have hLown:H2.objs.size∉own:=λ m=>by refine Ee (N.at_ _ m) λ o ho=>?_;rw [fL] at ho;cases ho
 have hBown:hh.objs.size∉own:=λ m=>by refine Ee (N.at_ _ m) λ o ho=>?_;rw [fB] at ho;cases ho
 have exL:∀ y c,F.env.cells.lookup y=some c->c≠H2.objs.size/\c≠hh.objs.size:=λ y c hc=>by
  (refine Ea (G.fr.cμ y c hc) λ q8q=>?_;(refine Ee (q8q) λ o h0=>?_;try clear q8q);intro _)
  exact ⟨λ q=>(by rw [q,fL] at h0;cases h0),λ q=>(by rw [q,fB] at h0;cases h0)⟩
 have exF:F.env.locals≠H2.objs.size/\F.env.locals≠hh.objs.size:=by
  refine Eea (G.fr.loc) λ m' hn _=>?_
  (refine Eeeea (hn) λ o es ep ho r=>?_;try clear hn)
  exact ⟨λ q=>(by rw [q,fL] at ho;cases ho),λ q=>(by rw [q,fB] at ho;cases ho)⟩
 have fo:FrI F h₁ φ₁ μ₁ ρ:=G.fr.ext X (by simpa using exF.1) (λ y c hc=>by simpa using (exL y c hc).1) (λ v L hv hl _=>by simpa using G.fr.ne_out fL hv hl)
 have I':FrI (zW F scope H2.objs.size) h₁ φ₁ μ₁ (ρ++List.replicate (zU scope).length none):=wA K fo (by simpa using hns₁) Lμ Lφ (λ y c hc=>(exL y c hc).1) (λ v L hv hl=>G.fr.ne_out fL hv hl)
 refine Ea (N.ext X (λ b m=>by simp only [List.mem_singleton];rintro rfl;exact hLown m) λ _ _ h=>nomatch h) λ N' e'=>?_
 have hit':=W.frame _ _ _ hit e'
 have hsr':=W.sr _ _ _ _ _ _ _ _ hsr X
 have G':GC C T (zW F scope H2.objs.size) F ρ (ZU F H2.objs.size hh.objs.size) hh.objs.size s φ μ {s with heap:=h₁,toks:=tk' + ([]:List (Str×Value)).length} φ₁ μ₁ (ρ++List.replicate (zU scope).length none) σ₁ []:=by
  refine ⟨⟨_,_,rfl⟩,R4,I',(G.ext.wider λ b o m _=>?_).trans (X.wider λ b o m _=>?_).slack,⟨[],0,?_,.nil⟩,G.rel.notin_none fB,G.rel.notfrz_none fB,by simp [ZU,zW,compEnvC],by simp [ZU],λ b m=>?_,fo,λ a ha=>?_,rfl⟩
  ·simp only [ZU,List.mem_cons] at m ⊢;exact .inr (.inr m)
  ·rw [List.mem_singleton] at m;simp [ZU,m]
  ·show h₁.get? hh.objs.size=_
   exact hsb₁.extBut _ _ hDC (Heap.get?_push_of_some _ hB2)
  ·simp only [ZU,List.mem_cons] at m
   rcases m with rfl | rfl | rfl | m
   ·exact ⟨_,hL₁⟩
   ·exact ⟨_,hsb₁.extBut _ _ hDC (Heap.get?_push_of_some _ hB2)⟩
   ·refine Eea (fo.loc) λ m' hn _=>?_;(refine Eeeea (hn) λ o es ep ho r=>?_;try clear hn);exact ⟨o,ho⟩
   ·exact fo.own _ m
  ·rcases ha with rfl | rfl
   ·exact ⟨exF.1,λ y c hc=>(exL y c hc).1,λ v L hv hl=>G.fr.ne_out fL hv hl⟩
   ·exact ⟨exF.2,λ y c hc=>(exL y c hc).2,λ v L hv hl=>G.fr.ne_out fB hv hl⟩
 have hcB:∀ y c,(zW F scope H2.objs.size).env.cells.lookup y=some c->c≠hh.objs.size:=λ y c hc=>by
  (refine Ea (I'.cμ y c hc) λ q16q=>?_;(refine Ee (q16q) λ o h0=>?_;try clear q16q);intro _)
  refine Ea (Qw (show (z7 scope F.env.cells).lookup y=some c from hc)) λ h1 h2=>?_
  refine Ee (fo.clo K _ h1 rfl) λ c' hc'=>?_
  rw [hc'] at h2;simp only [Option.getD_some] at h2;subst h2
  exact (exL y c hc').2
 have hcO:∀ y c,(zW F scope H2.objs.size).env.cells.lookup y=some c->c∉own:=λ y c hc m=>by
  refine Ea (Qw (show (z7 scope F.env.cells).lookup y=some c from hc)) λ h1 h2=>?_
  refine Ee (fo.clo K _ h1 rfl) λ c' hc'=>?_
  rw [hc'] at h2;simp only [Option.getD_some] at h2;subst h2
  exact I.ne_cells (hf _ m) hc' rfl
 have hlen:=I.len
 have free:∀ j,j∈Z2 t∨j∈Z6 gs->(ρ++List.replicate (zU scope).length (none:Option D))[j]?=some none:=λ j m=>by
  refine Ea (hix j m) λ h1 h2=>?_
  (refine rwE (List.getElem?_append_right (by exact lin [_,_,_] [] (.v 0) (.v 1) [(1,.e (.v 0) (.v 2)),(1,.l (.v 2) (.v 1))] tT9 hlen h1)) ?_;refine rwE (List.getElem?_replicate_of_lt (by refine rwE hlen ?_;exact Nat.sub_lt_left_of_lt_add h1 h2)) ?_;rfl)
 have loop:codeAny (model C.prog C.w) A (.compLoop (.ListComp elt (⟨target,iter,ifsA,0⟩::restA) scope pos) 0 it (.ref hh.objs.size) (zW F scope H2.objs.size).env)
   (λ r s'=>match r with | .ok f=>f=.next/\∃ φ' μ' σ' acc',GC C T (zW F scope H2.objs.size) F ρ (ZU F H2.objs.size hh.objs.size) hh.objs.size s φ μ s' φ' μ' (ρ++List.replicate (zU scope).length none) σ' acc'/\Q acc' σ' | .error e=>False) _ :=
  J5 (d:=0) rfl (λ g' e=>hg' g' (by simpa using e)) W hA ht (hifs _) (by simpa using hin H2.objs.size hh.objs.size hDC hcB) rfl hDC hcB (λ j m=>free j (.inl m)) (λ j m=>free j (.inr m)) hdis I
   (λ b m q=>by
    simp only [ZU,List.mem_cons] at q
    rcases q with rfl | rfl | rfl | q
    ·exact hLown m
    ·exact hBown m
    ·exact I.ne_locals (hf _ m) rfl
    ·exact I.ne_own (hf _ m) (List.mem_cons_of_mem _ q)) hcO hf G' hit' N' hsr' hst hw
 refine codeAny_mono (qS (d:=0) rfl loop (W.self 0 _ _ hit' loop)) λ r s'' hr=>?_
 cases r with
 | ok f =>
  obtain ⟨rfl,φ',μ',σ',acc',g,q⟩:=hr
  exact hRR hh.objs.size H2.objs.size s'' φ' μ' σ' acc' _ (G.ext.back fB) (G.ext.back fL) hDC g q
 | error e=>exact hr.elim
end
structure CompSpec (C:Cx)(T:Tabs)(n:Nat)(A:Around)(F:Fm)(elt target iter:Expr)(ifsA:List Expr)(restA:List Comprehension)(scope:Scope)(pos:Pos)(t:Pt)(it:Ex)(ifs:List Ex)(gs:List Gn)(W₀:Rho->zA->(D->zA->Prop)->Prop):Prop where
 K:CompOk F.ks scope
 hg':∀ g',restA[0]?=some g'->g'.is_async=0
 ht:trP (zj F.ks scope) target=some t
 hix:∀ j,j∈Z2 t∨j∈Z6 gs->F.ks.length<=j/\j<F.ks.length + (zU scope).length
 hdis:∀ j,j∈Z2 t->j∉Z6 gs
 fold:∀ x,foldedSetIterable iter F.env x=pure x
 hdi:∀ ρ σ K,(wpE C T n it ρ σ λ d σ'=>zf σ' d λ xs i=>K xs i σ')->DI C T F A iter target ρ σ K
 hifs:∀ L ρ σ K,wpIfs C T n ifs ρ σ K->DB C T (zW F scope L) A (Z9 ifsA (zW F scope L).env) ρ σ K
 hin:∀ L B ρ,B≠L->(∀ y c,(zW F scope L).env.cells.lookup y=some c->c≠B)->jR C T n A (zW F scope L) F ρ (ZU F L B) B W₀ gs (ZK (.ListComp elt (⟨target,iter,ifsA,0⟩::restA) scope pos) elt (restA[0]?) 0 B (zW F scope L).env)
section
variable {C:Cx}{T:Tabs}{F:Fm}{A:Around}{n:Nat}{s s' s₀ s₁:Shared}{φ φ' φ₀ φ₁:Addr->Prop}{μ μ' μ₀ μ₁:List Addr}{ρ ρ' ρ₀ ρ₁:Rho}{σ σ' σ₁:zA}{h h':Heap}{own:List Addr}{B L:Addr}{W₀:Rho->zA->(D->zA->Prop)->Prop}
 {elt target iter:Expr} {ifsA:List Expr} {restA:List Comprehension} {scope:Scope} {pos:Pos} {t:Pt} {it:Ex} {ifs:List Ex} {gs:List Gn}
theorem w7 {acc:List PyData}(I:FrI F s.heap φ μ ρ)(g:GC C T (zW F scope L) F ρ (ZU F L B) B s φ μ s' φ' μ' ρ' σ' acc)(fB:s.heap.get? B=none)(fL:s.heap.get? L=none):Go C T F s φ μ s' φ' μ' ρ σ' :=
 ⟨g.st,g.rel,g.fo,g.ext.wider λ b o m e=>by
  simp only [ZU,List.mem_cons] at m ⊢
  rcases m with rfl | rfl | m
  ·rw [fL] at e;cases e
  ·rw [fB] at e;cases e
  ·exact m⟩
theorem jg {m:Bool}{acc:List PyData}{Q:D->zA->Prop}(I:FrI F s.heap φ μ ρ)(G:Go C T F s φ μ s' φ' μ' ρ σ')(a:AccAt s'.heap φ' B acc)(nm:B∉μ')(nf:¬ φ' B)(fB:s.heap.get? B=none)
  (q:qG m acc σ' Q):∃ φ₂ μ₂ d σ₂,Go C T F s φ μ s' φ₂ μ₂ ρ σ₂/\VD s'.heap φ₂ μ₂ (.ref B) d/\Q d σ₂/\∀ b,b≠B->b∉μ'->¬ φ' b->b∉μ₂/\¬ φ₂ b:=by
 (refine Eeea (a) λ vs nn e p=>?_;try clear a)
 cases m with
 | true =>
  refine Ea (Go.adopt (mo:=.lst acc) G fB nm nf e (I.ne_locals fB) (λ y c hc=>I.ne_cells fB hc) (λ v L hv hl=>I.ne_out fB hv hl) ⟨vs,nn,e,p⟩) λ G3 g=>?_
  exact ⟨_,_,_,_,G3,.obj g,q,λ b h1 h2 h3=>⟨by simp [h1,h2],h3⟩⟩
 | false =>
  have G3:=Go.more G fB nm e (I.ne_locals fB) (λ y c hc=>I.ne_cells fB hc) (λ v L hv hl=>I.ne_out fB hv hl)
  exact ⟨_,_,_,_,G3,.p (.lst (.inr rfl) ⟨_,e,rfl,_,rfl⟩ (p.mono λ a f=>⟨.inl f,rfl⟩)),q,λ b h1 h2 h3=>⟨h2,λ f=>f.elim h3 h1⟩⟩
noncomputable def zv (m:Bool)(Q:D->zA->Prop):List PyData×zA->Prop:=λ a=>qG m a.1 a.2 Q
theorem uw {m:Bool}{use:Option (Value->Sem Unit)}{Q:D->zA->Prop}{X:Value->Shared->Prop}(S:CompSpec C T n A F elt target iter ifsA restA scope pos t it ifs gs W₀)(hA:A.handled=none)
  (hw:wpE C T n it ρ σ λ d σ'=>zf σ' d λ xs i=>Few xs.length/\zJ (zF C T n W₀ t ifs gs (ρ++List.replicate (zU scope).length none) i) xs ([],σ') (zv m Q))
  (R:Rel C T s.heap φ μ σ) (I:FrI F s.heap φ μ ρ)
  (k:∀ B L s' φ' μ' σ' acc,s.heap.get? B=none->s.heap.get? L=none->B≠L->L∉μ'->¬ φ' L->(∃ mm,s'.heap.Ns L mm)->Go C T F s φ μ s' φ' μ' ρ σ'->AccAt s'.heap φ' B acc->B∉μ'->¬ φ' B->zv m Q (acc,σ')->compPost (model C.prog C.w) A NoE use X (.ref B) L (.ok .next) s') (pos':Pos) :
  wpAny (model C.prog C.w) A (comprehension (.ListComp elt (⟨target,iter,ifsA,0⟩::restA) scope pos) scope F.env pos' (newList []) false (eval iter F.env) use) X NoE s:=by
 refine wpAny_comprehension_free (cl:=z7 scope F.env.cells) (use:=use) rfl S.fold (ux (I.clo S.K)) S.K.kind (λ x hx hl=>hl▸S.K.look x hx) ?_
 refine S.hdi ρ σ _ hw s φ μ _ R I λ itv s' φ' μ' σ' own src xs It Sr G W hit N hf hsr hst hq=>?_
 refine WO S.K S.hg' W hA S.ht S.hix S.hdis S.hifs (λ L B h1 h2=>S.hin L B ρ h1 h2) I G hit N hf hsr hst hq.2 (Q:=λ acc σ'=>zv m Q (acc,σ')) λ B L s'' φ'' μ'' σ'' acc ρ'' fB fL hBL g q=>?_
 have G':=w7 I g fB fL
 refine Eea (g.fr.loc) λ mm hn _=>?_
 exact k B L s'' φ'' μ'' σ'' acc fB fL hBL g.fr.Lμ g.fr.Lφ ⟨mm,hn⟩ G' g.acc g.nm g.nf q
theorem zB9 {m:Bool}{Q:D->zA->Prop}(S:CompSpec C T n A F elt target iter ifsA restA scope pos t it ifs gs W₀)(hA:A.handled=none)
  (hw:wpE C T n it ρ σ λ d σ'=>zf σ' d λ xs i=>Few xs.length/\zJ (zF C T n W₀ t ifs gs (ρ++List.replicate (zU scope).length none) i) xs ([],σ') (zv m Q)) :
  DX C T F A (eval (.ListComp elt (⟨target,iter,ifsA,0⟩::restA) scope pos) F.env) ρ σ Q:=by
 intro s φ μ R I
 refine rwE (eval_ListComp ..) ?_
 refine uw (use:=none) S hA hw R I (λ B L s' φ' μ' σ' acc fB fL hBL Lμ Lφ hn G a nm nf q=>?_) _
 refine Ee (hn) λ mm hn=>?_
 refine ⟨mm,hn,λ h' hs=>?_⟩
 have kk:∀ c o,c∉[L]->s'.heap.get? c=some o->h'.get? c=some o:=λ c o m e=>hs.extBut c o (by simpa using m) e
 have G1:=Go.endL (own:=[L]) (tk:=s'.toks) I G (λ b m=>by rw [List.mem_singleton] at m;refine rwE m ?_;exact fL) (λ b m=>by rw [List.mem_singleton] at m;refine rwE m ?_;exact Lμ) (λ b m=>by rw [List.mem_singleton] at m;refine rwE m ?_;exact Lφ) kk
 (refine Eeea (a) λ vs nn e p=>?_;try clear a)
 obtain ⟨φ₂,μ₂,d,σ₂,G2,V,q2,_⟩:=jg (m:=m) I G1 ⟨vs,nn,kk _ _ (by simpa using hBL) e,p.mono λ a f=>⟨f,by
  refine Ee (G.rel.frz a f) λ o eo=>?_
  refine rwE eo ?_;exact kk a o (λ q=>by rw [List.mem_singleton] at q;exact Lφ (q▸f)) eo⟩⟩ nm nf fB q
 exact ⟨φ₂,μ₂,d,σ₂,G2,V,q2⟩
theorem WT {m:Bool}{Q:Fl->Rho->zA->Prop}{x:Str}{iy:Nat}{px spos:Pos}(S:CompSpec C T n A F elt target iter ifsA restA scope pos t it ifs gs W₀)(hA:A.handled=none)
  (hsw:swapsWith (.ListComp elt (⟨target,iter,ifsA,0⟩::restA) scope pos) (some (.Name x px)) spos.line F.env=pure true) (hi:F.ks[iy]?=some (x,.local))
  (hw:wpE C T n it ρ σ λ d σ'=>zf σ' d λ xs i=>Few xs.length/\zJ (zF C T n W₀ t ifs gs (ρ++List.replicate (zU scope).length none) i) xs ([],σ') (zv m λ d σ''=>Q .next (ρ.set iy (some d)) σ'')) :
  DS C T F A (exec (.Assign [.Name x px] (.ListComp elt (⟨target,iter,ifsA,0⟩::restA) scope pos) spos) F.env) ρ σ Q:=by
 intro s φ μ R I
 refine rwE (exec_Assign_Name_used _ _ _ _ hsw) ?_
 refine wpAny_bind (wpAny_standAt (wpAny_bind ?_))
 show wpAny _ A (do let _<-comprehension (.ListComp elt (⟨target,iter,ifsA,0⟩::restA) scope pos) scope F.env _ (newList []) false (eval iter F.env) (some (assign (.Name x px) F.env))) _ _ s
 refine wpAny_bind (wpAny_mono (uw (use:=some (assign (.Name x px) F.env)) (X:=λ _ s'=>PS C T F s φ μ Q .next s') S hA hw R I (λ B L s' φ' μ' σ' acc fB fL hBL Lμ Lφ hn G a nm nf q=>?_) _) (λ _ s' hq=>wpAny_pure (wpAny_pure hq)) λ _ _ e=>e)
 refine Ee (hn) λ mm hn=>?_
 refine Eeeeeaaa (jg (m:=m) (Q:=λ d σ''=>Q .next (ρ.set iy (some d)) σ'') I G a nm nf fB q) λ φ₂ μ₂ d σ₂ G2 V q2 hb=>?_
 refine Ea (hb L (Ne.symm hBL) Lμ Lφ) λ l1 l2=>?_
 show wpAny _ A (assign (.Name x px) F.env (.ref B)) _ _ _
 refine rwE (arm_assign_Name ..) ?_
 refine wpAny_bind (wpAny_standAt (qd G2.rel G2.fr V hi (.inl rfl) λ s₃ G3=>?_))
 obtain ⟨oL,hoL⟩:∃ o,s'.heap.get? L=some o:=by (refine Eeeea (hn) λ o es ep ho _=>?_;try clear hn);exact ⟨o,ho⟩
 have nL:L∉F.env.locals::F.own:=I.ne_own fL
 have hn3:s₃.heap.Ns L mm:=Jb hn λ o ho=>G3.ext.oth _ o ho l1 nL
 have m1:=G3.ext.notin hoL l1
 have m2:=G3.ext.notfrz hoL l1 l2
 refine ⟨mm,hn3,λ h' hs=>?_⟩
 have kk:∀ c o,c∉[L]->s₃.heap.get? c=some o->h'.get? c=some o:=λ c o m e=>hs.extBut c o (by simpa using m) e
 have G4:=Go.endL (own:=[L]) (tk:=s₃.toks) I (G2.trans G3) (λ b m=>by rw [List.mem_singleton] at m;refine rwE m ?_;exact fL) (λ b m=>by rw [List.mem_singleton] at m;refine rwE m ?_;exact m1) (λ b m=>by rw [List.mem_singleton] at m;refine rwE m ?_;exact m2) kk
 exact ⟨_,_,_,_,_,G4,.next,q2⟩
end
noncomputable def SE (C:Cx)(T:Tabs)(n:Nat)(A:Around)(F:Fm)(e:Expr)(x:Ex):Prop:=∀ ρ σ Q,wpE C T n x ρ σ Q->DX C T F A (eval e F.env) ρ σ Q
noncomputable def SB (C:Cx)(T:Tabs)(n:Nat)(A:Around)(F:Fm)(e:Expr)(x:Ex):Prop:=∀ ρ σ K,(wpE C T n x ρ σ λ d σ'=>isB d λ b=>K b σ')->DB C T F A (isTrue e F.env (eval e F.env)) ρ σ K
noncomputable def SL (C:Cx)(T:Tabs)(n:Nat)(A:Around)(F:Fm)(es:List Expr)(xs:List Ex):Prop:=∀ pos ρ σ Q,wpEs C T n xs ρ σ Q->DXs C T F A (spliced (backTo pos (starEach es F.env))) ρ σ λ ds σ'=>ds.length=es.length/\Q ds σ'
section
variable {C:Cx}{T:Tabs}{F:Fm}{A:Around}{n:Nat}{s s' s₀ s₁:Shared}{φ φ':Addr->Prop}{μ μ':List Addr}{ρ ρ':Rho}{σ σ':zA}{pos pos':Pos}{e e' a b c o:Expr}{x y z xa xb xc:Ex}{es:List Expr}{xs:List Ex}
theorem SE.sb (h:SE C T n A F e x)(hp:∀ env whole,isTrue e env whole=(do let v<-whole;standAt e.pos;holding [v] (truthy v)):=by intros;rfl):SB C T n A F e x:=λ ρ σ K hw s φ μ R I=>by
 refine isTrue_plain ((h ρ σ _ hw).seq R I λ s' φ' μ' v d σ' G V q=>?_) (hp _ _)
 exact wpAny_mono (uN G.rel G.fr V q) (λ b s₂ hb=>PB.up G hb) λ _ _ e=>e
theorem WX:SL C T n A F [] []:=λ pos ρ σ Q h s φ μ R I=>wpAny_pure ⟨φ,μ,[],σ,Go.refl R I,.nil,rfl,h⟩
theorem JT (he:starEach (e::es) F.env=(false,eval e F.env)::starEach es F.env)(h1:SE C T n A F e x)(h2:SL C T n A F es xs):SL C T n A F (e::es) (x::xs):=λ pos ρ σ Q h s φ μ R I=>by
 refine wpAny_items_cons ((h1 ρ σ _ h).seq R I λ s' φ' μ' v d σ' G V q=>?_) he
 refine (h2 pos ρ σ' _ q).seq G.rel G.fr λ s'' φ'' μ'' vs ds σ'' G' V' q'=>?_
 exact ⟨φ'',μ'',d::ds,σ'',G.trans G',.cons (G'.ext.vd V) V',congrArg (· + 1) q'.1,q'.2⟩
theorem zBq {i:Nat}{x:Str}(hi:aix F.ks x=some i)(hx:(x==("__debug__":Str))=false)(hc:(x==("__classdict__":Str))=false):SE C T n A F (.Name x pos) (.nm i):=λ ρ σ Q h s φ μ R I=>by
 refine Eea (vY hi) λ k h1 h2=>?_
 refine Eea (Is.h h) λ d e h=>?_
 refine Eea (ob e) λ o e1 e2=>?_
 cases (show o=some d from e2)
 exact zBL R I h1 h2 e1 hx hc h
theorem zAN {g:Nat}{x:Str}{d:D}(Y:C.Good)(TT:TOk C T)(hg:T.glob[g]?=some (x,d))(hk:F.env.kindOf x=some .globalImplicit)(hx:(x==("__debug__":Str))=false):SE C T n A F (.Name x pos) (.gl g):=λ ρ σ Q h s φ μ R I=>by
 refine Eea (Is.h h) λ p e h=>?_
 cases hg.symm.trans e
 exact Jg Y R I hk (TT.glob g x d hg) hx h
theorem Uj {k:Const}{i:Nat}{p:PyData}(h:wM k=some p):SE C T n A F (.Constant k i pos) (.c p):=λ ρ σ Q hw s φ μ R I=>Vy R I h hw
theorem zCr {k:Nat}(h:SL C T n A F es xs)(hl:es.length<=100000):SE C T n A F (.Tuple es k pos) (.tup xs):=λ ρ σ Q hw s φ μ R I=>by
 refine rwE (arm_eval_Tuple ..) ?_
 refine wpAny_bind (wpAny_standAt (wpAny_bind ((h pos ρ σ _ hw).seq R I λ s' φ' μ' vs ds σ' G V q=>?_)))
 exact wpAny_mono (WD G.rel G.fr V (zh (show Few vs.length from (ZX V).trans q.1▸hl)) q.2) (λ v s₂ hv=>PV.up G hv) λ _ _ e=>e
theorem zFD {h:Heap}{vs:List Value}{ds:List D}{ps:List PyData}(V:VDs h φ μ vs ds)(e:qx ds=some ps):VPs h φ vs ps:=qJ V e
theorem zCb {m:Bool}(h:SL C T n A F es xs)(hl:es.length<=100000):SE C T n A F (.List es pos) (.lst m xs):=λ ρ σ Q hw s φ μ R I=>by
 refine rwE (arm_eval_List ..) ?_
 refine wpAny_bind (wpAny_standAt (wpAny_bind ((h pos ρ σ _ hw).seq R I λ s' φ' μ' vs ds σ' G V q=>?_)))
 refine Ea (q) λ q0 q=>?_
 refine Eea (q.h) λ ps hps q=>?_
 have hv:=zh (show Few vs.length from (ZX V).trans q0▸hl)
 cases m with
 | true=>exact wpAny_mono (WS G.rel G.fr (qJ V hps) hv q) (λ v s₂ hv=>PV.up G hv) λ _ _ e=>e
 | false=>exact wpAny_mono (vF G.rel G.fr (qJ V hps) hv q) (λ v s₂ hv=>PV.up G hv) λ _ _ e=>e
theorem zDt {op:Operator}(ha:SE C T n A F a x)(hb:SE C T n A F b y):SE C T n A F (.BinOp a op b pos) (.bin op x y):=λ ρ σ Q hw s φ μ R I=>by
 refine wpAny_BinOp ((ha ρ σ _ hw).seq R I λ s' φ' μ' v d σ' G V q=>?_)
 refine (hb ρ σ' _ q).seq G.rel G.fr λ s'' φ'' μ'' w d' σ'' G' W q'=>?_
 exact wpAny_mono (zCe G'.rel G'.fr (G'.ext.vd V) W q') (λ v s₂ hv=>PV.up (G.trans G') hv) λ _ _ e=>e
theorem zCh (ha:SE C T n A F a x):SE C T n A F (.UnaryOp .USub a pos) (.neg x):=λ ρ σ Q hw s φ μ R I=>by
 refine UnaryOp_ ((ha ρ σ _ hw).seq R I λ s' φ' μ' v d σ' G V q=>?_)
 exact wpAny_mono (zDj (Q:=Q) G.rel G.fr V q) (λ v s₂ hv=>PV.up G hv) λ _ _ e=>e
theorem zCE (ha:SE C T n A F a x):SE C T n A F (.UnaryOp .Not a pos) (.not x):=λ ρ σ Q hw s φ μ R I=>by
 refine UnaryOp_ ((ha ρ σ _ hw).seq R I λ s' φ' μ' v d σ' G V q=>?_)
 exact wpAny_mono (zCf G.rel G.fr V q) (λ v s₂ hv=>PV.up G hv) λ _ _ e=>e
theorem zDy (ha:SB C T n A F a x):SB C T n A F (.UnaryOp .Not a pos) (.not x):=λ ρ σ K hw s φ μ R I=>by
 refine isTrue_not (wpAny_mono (ha ρ σ (λ b σ'=>K (!b) σ') hw s φ μ R I) (λ b s₂ hh=>Eeeea hh λ φ' μ' σ' G q=>⟨φ',μ',σ',G,q⟩) λ _ _ e=>e)
theorem zDC (hc:SB C T n A F c z)(ha:SE C T n A F a x)(hb:SE C T n A F b y):SE C T n A F (.IfExp c a b pos) (.ite z x y):=λ ρ σ Q hw s φ μ R I=>by
 refine IfExp_ ((hc ρ σ _ hw).seq R I λ s' φ' μ' r σ' G q=>?_)
 cases r with
 | true=>exact wpAny_mono (ha ρ σ' Q (q.t rfl) s' φ' μ' G.rel G.fr) (λ v s₂ hv=>PV.up G hv) λ _ _ e=>e
 | false=>exact wpAny_mono (hb ρ σ' Q (q.f rfl) s' φ' μ' G.rel G.fr) (λ v s₂ hv=>PV.up G hv) λ _ _ e=>e
theorem zC5 (hc:SB C T n A F c z)(ha:SB C T n A F a x)(hb:SB C T n A F b y):SB C T n A F (.IfExp c a b pos) (.ite z x y):=λ ρ σ K hw s φ μ R I=>by
 refine isTrue_IfExp ((hc ρ σ _ hw).seq R I λ s' φ' μ' r σ' G q=>?_)
 cases r with
 | true=>exact wpAny_mono (ha ρ σ' K (q.t rfl) s' φ' μ' G.rel G.fr) (λ v s₂ hv=>PB.up G hv) λ _ _ e=>e
 | false=>exact wpAny_mono (hb ρ σ' K (q.f rfl) s' φ' μ' G.rel G.fr) (λ v s₂ hv=>PB.up G hv) λ _ _ e=>e
inductive Each (P:Expr->Ex->Prop):List Expr->List Ex->Prop
 | nil:Each P [] []
 | cons {e:Expr} {x:Ex} {es:List Expr} {xs:List Ex}:P e x->Each P es xs->Each P (e::es) (x::xs)
theorem zCM {es:List Expr}{xs:List Ex}(h:Each (SE C T n A F) es xs):SE C T n A F (.BoolOp .And es pos) (.and xs):=by
 induction h with
 | nil=>exact λ ρ σ Q hw=>hw.elim
 | cons h r ih=>cases r with
  | nil=>exact λ ρ σ Q hw s φ μ R I=>BoolOp_one (h ρ σ Q hw s φ μ R I)
  | cons h' t =>
   exact λ ρ σ Q hw s φ μ R I=>BoolOp_and ((h ρ σ _ hw).seq R I λ s' φ' μ' v d σ' G V q=>by
    (refine Eeaa (uT V q) λ r q7q=>?_;obtain rfl:=q7q;intro q8q;obtain rfl:=q8q;intro q)
    refine wpAny_truthy_bool ?_
    cases r with
    | true=>exact wpAny_mono (ih ρ σ' Q q s' φ' μ' G.rel G.fr) (λ v s₂ hv=>PV.up G hv) λ _ _ e=>e
    | false=>exact PV.up G (zx G.rel G.fr V q))
theorem zEs {es:List Expr}{xs:List Ex}(h:Each (SE C T n A F) es xs):SE C T n A F (.BoolOp .Or es pos) (.or xs):=by
 induction h with
 | nil=>exact λ ρ σ Q hw=>hw.elim
 | cons h r ih=>cases r with
  | nil=>exact λ ρ σ Q hw s φ μ R I=>BoolOp_one (h ρ σ Q hw s φ μ R I)
  | cons h' t =>
   exact λ ρ σ Q hw s φ μ R I=>BoolOp_or ((h ρ σ _ hw).seq R I λ s' φ' μ' v d σ' G V q=>by
    (refine Eeaa (uT V q) λ r q10q=>?_;obtain rfl:=q10q;intro q11q;obtain rfl:=q11q;intro q)
    refine wpAny_truthy_bool ?_
    cases r with
    | true=>exact PV.up G (zx G.rel G.fr V q)
    | false=>exact wpAny_mono (ih ρ σ' Q q s' φ' μ' G.rel G.fr) (λ v s₂ hv=>PV.up G hv) λ _ _ e=>e)
theorem zCm {es:List Expr}{xs:List Ex}(h:Each (SB C T n A F) es xs):SB C T n A F (.BoolOp .And es pos) (.and xs):=by
 induction h with
 | nil=>exact λ ρ σ Q hw=>hw.elim
 | cons h r ih=>cases r with
  | nil =>
   exact λ ρ σ K hw s φ μ R I=>isTrue_and ((h ρ σ K hw).seq R I λ s' φ' μ' r σ' G q=>by
    cases r with
    | true=>exact isTrue_and_nil ⟨φ',μ',σ',G,q⟩
    | false=>exact ⟨φ',μ',σ',G,q⟩)
  | cons h' t =>
   exact λ ρ σ K hw s φ μ R I=>isTrue_and ((h ρ σ _ hw).seq R I λ s' φ' μ' r σ' G q=>by
    cases r with
    | true=>exact wpAny_mono (ih ρ σ' K q s' φ' μ' G.rel G.fr) (λ v s₂ hv=>PB.up G hv) λ _ _ e=>e
    | false=>exact ⟨φ',μ',σ',G,q⟩)
theorem zDT {es:List Expr}{xs:List Ex}(h:Each (SB C T n A F) es xs):SB C T n A F (.BoolOp .Or es pos) (.or xs):=by
 induction h with
 | nil=>exact λ ρ σ Q hw=>hw.elim
 | cons h r ih=>cases r with
  | nil =>
   exact λ ρ σ K hw s φ μ R I=>isTrue_or ((h ρ σ K hw).seq R I λ s' φ' μ' r σ' G q=>by
    cases r with
    | true=>exact ⟨φ',μ',σ',G,q⟩
    | false=>exact isTrue_or_nil ⟨φ',μ',σ',G,q⟩)
  | cons h' t =>
   exact λ ρ σ K hw s φ μ R I=>isTrue_or ((h ρ σ _ hw).seq R I λ s' φ' μ' r σ' G q=>by
    cases r with
    | true=>exact ⟨φ',μ',σ',G,q⟩
    | false=>exact wpAny_mono (ih ρ σ' K q s' φ' μ' G.rel G.fr) (λ v s₂ hv=>PB.up G hv) λ _ _ e=>e)
theorem zCz {op:CmpOp}(hA:Room n A)(ha:SE C T n A F a x)(hb:SE C T n A F b y)(hm:behindInMarks op b=false):SE C T n A F (.Compare a [op] [b] pos) (.cmp x op y):=λ ρ σ Q hw s φ μ R I=>by
 refine wpAny_Compare1 ((ha ρ σ _ hw).seq R I λ s' φ' μ' v d σ' G V q=>?_) hm
 refine (hb ρ σ' _ q).seq G.rel G.fr λ s'' φ'' μ'' w d' σ'' G' W q'=>?_
 exact wpAny_mono (JH hA G'.rel G'.fr (G'.ext.vd V) W (vL hA G'.rel) q') (λ v s₂ hv=>PV.up (G.trans G') hv) λ _ _ e=>e
theorem zCo {op:CmpOp}(hA:Room n A)(ha:SE C T n A F a x)(hb:SE C T n A F b y)(hm:behindInMarks op b=false):SB C T n A F (.Compare a [op] [b] pos) (.cmp x op y):=λ ρ σ K hw s φ μ R I=>by
 refine wpAny_isTrue_Compare1 ((ha ρ σ _ hw).seq R I λ s' φ' μ' v d σ' G V q=>?_) hm
 refine (hb ρ σ' _ q).seq G.rel G.fr λ s'' φ'' μ'' w d' σ'' G' W q'=>?_
 refine wpAny_mono (JH (Q:=λ d σ'=>isB d λ b=>K b σ') hA G'.rel G'.fr (G'.ext.vd V) W (vL hA G'.rel) q') (λ v s₂ hv=>?_) λ _ _ e=>e
 (refine Eeeeeaa (hv) λ φ₃ μ₃ d₃ σ₃ G₃ V₃ q₃=>?_;try clear hv)
 exact wpAny_mono (uN G₃.rel G₃.fr V₃ q₃) (λ b s₂ hb=>PB.up ((G.trans G').trans G₃) hb) λ _ _ e=>e
end
noncomputable def zT (e:Expr):Bool:=!Nat.beq e.ctorIdx 22
theorem ZY {e:Expr}{es:List Expr}{env:Env}(h:zT e=true):starEach (e::es) env=(false,eval e env)::starEach es env:=by
 cases e <;> first | rfl | exact absurd h Bool.false_ne_true
theorem Z3 {α:Type}{p:α->Bool}{a:α}{l:List α}(h:(a::l).all p=true):p a=true/\l.all p=true:=(Bool.and_eq_true ..).mp h
theorem qL {pos:Pos}{env:Env}:∀ {es:List Expr},es.all zT=true->(backTo pos (starEach es env)).any (·.1)=false
 | [],_=>rfl
 | e::es,h=>by
  have h:=Z3 h
  refine rwE (ZY h.1) ?_
  show ((false || (backTo pos (starEach es env)).any (·.1)))=false
  refine rwE (qL h.2) ?_;rfl
theorem jA {pos:Pos}{env:Env}:∀ {es:List Expr},es.all zT=true->(backTo pos (starEach es env)).all (!·.1)=true
 | [],_=>rfl
 | e::es,h=>by
  have h:=Z3 h
  refine rwE (ZY h.1) ?_
  show ((true&&(backTo pos (starEach es env)).all (!·.1)))=true
  refine rwE (jA h.2) ?_;rfl
theorem jw {pos:Pos}{env:Env}{es:List Expr}(hp:es.all zT=true)(hlen:es.length<30):methodCallForm (es.length + ([]:List Keyword).length) (backTo pos (starEach es env)) (backToKw pos (keywordEach [] env))=true:=by
 show ((backTo pos (starEach es env)).all (!·.1)&&true&&decide (es.length<30))=true
 (refine rwE (jA hp) ?_;refine rwE (decide_eq_true hlen) ?_);rfl
noncomputable def qu (e:Expr):Bool:=by cases e with
 | Call f es kw p=>cases es with
  | nil=>exact false
  | cons _ _=>exact true
 | _=>exact true
theorem YU {o:Expr}{name:Str}{env:Env}{w:Sem Value}(h:qu o=true):attributeBase o name env w=w:=by
 cases o with
 | Call f es kw p=>cases es with
  | nil=>exact absurd h Bool.false_ne_true
  | cons _ _=>cases f <;> rfl
 | _=>rfl
section
variable {C:Cx}{T:Tabs}{F:Fm}{A:Around}{n:Nat}{s s' s₀ s₁:Shared}{φ φ':Addr->Prop}{μ μ':List Addr}{ρ ρ':Rho}{σ σ':zA}{pos pos' apos:Pos}{e e' a b c o:Expr}{x y z xa xb xc xo:Ex}{es:List Expr}{xs:List Ex}
theorem qo {E:Value->Shared->Prop}{f:Value}{first:List Value}{Q:Value->Shared->Prop}(hp:es.all zT=true)
  (h:wpAny (model C.prog C.w) A (spliced (backTo pos (starEach es F.env))) (λ vs s₁=>(C.K.In s₁.heap/\∀ a,f=.ref a->keepIn C.K (.ref a)=true)/\wpAny (model C.prog C.w) A (call f (first++vs)) Q E s₁) E s) :
  wpAny (model C.prog C.w) A (callWith pos f first (backTo pos (starEach es F.env)) []) Q E s:=by
 refine callWith_of (P:=λ h=>C.K.In h/\∀ a,f=.ref a->keepIn C.K (.ref a)=true) (by show ((backTo pos (starEach es F.env)).any (·.1) || false)=false;refine rwE (qL hp) ?_;rfl) (λ hh q=>Ea q λ X k=>?_) (YO (qL hp) h)
 by_cases hf:∃ a,f=.ref a
 ·(refine Ee (hf) λ a q1q=>?_;try clear hf;obtain rfl:=q1q)
  exact keeps_K (k a rfl) hh X
 ·refine ⟨.machine,.inr (.inl rfl),?_⟩
  have:keeperOf f=pure .machine:=by
   cases f <;> first | rfl | exact absurd ⟨_,rfl⟩ hf
  refine rwE this ?_;exact Looks.now
noncomputable def zCR (C:Cx)(T:Tabs)(n:Nat)(m:Bool)(g:D)(ds:List D)(σ:zA)(Q:D->zA->Prop):Prop:=match g with
 | .fn a=>wE m (SatCall C T n a ds σ Q)
 | .bi b=>Zo m b ds σ Q
 | _=>False
theorem VB {m:Bool}{v:Value}{g:D}{vs:List Value}{ds:List D}{Q:D->zA->Prop}(Y:C.Good)(hA:Room n A)(hF:A.frames=some F.fs)(R:Rel C T s.heap φ μ σ)(I:FrI F s.heap φ μ ρ)(V:VD s.heap φ μ v g)(W:VDs s.heap φ μ vs ds)
  (h:zCR C T n m g ds σ Q) :
  (∀ a,v=.ref a->keepIn C.K (.ref a)=true)/\wpAny (model C.prog C.w) A (call v vs) (PV C T F s φ μ ρ Q) NoE s:=by
 cases g with
 | fn a =>
  cases V.ifn
  cases m with
  | true=>exact h.elim
  | false =>
   have sc:SatCall C T n a ds σ Q:=h
   refine ⟨λ a' e=>by cases e;exact sc.keep,wpAny_mono (sc.run A s φ μ vs hA (I.out hF) R W) (λ r s' hh=>Eee hh λ h' tk hh=>Eeeeeaaaa hh λ φ' μ' d σ' e R' X V' q=>?_) λ _ _ e=>e⟩
   subst e
   exact ⟨φ',μ',d,σ',Go.of_extF I R' (Q6 hF▸X),V',q⟩
 | bi b=>cases V.ibi;exact ⟨λ a e=>(by cases b <;> cases e),zE1 Y hA R I W h⟩
 | _=>exact h.elim
theorem zBa {m:Bool}{id:Str}{p:Pos}{xf:Ex}(Y:C.Good)(hA:Room n A)(hF:A.frames=some F.fs)(hf:SE C T n A F (.Name id p) xf)(ha:SL C T n A F es xs)(hp:es.all zT=true):SE C T n A F (.Call (.Name id p) es [] pos) (.call m xf xs):=λ ρ σ Q h s φ μ R I=>by
 refine rwE (arm_eval_Call_Name' ..) ?_
 refine wpAny_bind ((hf ρ σ _ h).seq R I λ s' φ' μ' v g σ' G V q=>?_)
 show wpAny _ _ (callWith pos v [] (backTo pos (starEach es F.env)) []) _ _ _
 refine qo hp ((ha pos ρ σ' _ q).seq G.rel G.fr λ s'' φ'' μ'' vs ds σ'' G' V' q'=>?_)
 refine Ea (VB Y hA hF G'.rel G'.fr (G'.ext.vd V) V' q'.2) λ h1 h2=>?_
 exact ⟨⟨Y.X.keeps G'.rel.keep,h1⟩,wpAny_mono h2 (λ v s₂ hv=>PV.up (G.trans G') hv) λ _ _ e=>e⟩
theorem zEb {mo:MO}{k:Nat}(h:Ym mo k=true):∃ r,Jp mo k=some r:=by
 cases mo with
 | lst _=>exact ⟨_,by show gd (Nat.beq k 0) _=_;refine rwE (show Nat.beq k 0=true from h) ?_;rfl⟩
 | idict _ =>
  show ∃ r,JB k=some r
  unfold JB
  cases e:Nat.beq k 1 with
  | true=>exact ⟨_,rfl⟩
  | false =>
   have h:(Nat.beq k 1 || Nat.beq k 2)=true:=h
   rw [e] at h
   exact ⟨_,by refine rwE (show Nat.beq k 2=true from h) ?_;rfl⟩
 | _=>exact Bool.noConfusion h
theorem zBd {mo mo':MO}{k i:Nat}{ds:List D}{σ:zA}{Q:D->zA->Prop}{r:String×Str×String}(h:Jp mo k=some r)(h':YN i mo' k ds σ Q):Jp mo' k=some r:=by
 cases mo with
 | lst _ =>
  (refine Ea (Yt h) λ q4q=>?_;obtain rfl:=q4q;intro q5q;obtain rfl:=q5q)
  cases mo' with
  | lst _=>exact h
  | _=>exact h'.elim
 | idict _=>cases mo' with
  | idict _=>exact h
  | lst _=>rcases Yj h with ⟨rfl,rfl⟩ | ⟨rfl,rfl⟩ <;> exact h'.elim
  | _=>exact h'.elim
 | _=>exact nn h
theorem zBl (TT:TOk C T){mo:MO}{k:Nat}{r:String×Str×String}(h:Jp mo k=some r):T.names[k]?=some r.2.1:=by
 cases mo with
 | lst _=>(refine Ea (Yt h) λ q7q=>?_;obtain rfl:=q7q;intro q8q;obtain rfl:=q8q);exact TT.n0
 | idict _=>rcases Yj h with ⟨rfl,rfl⟩ | ⟨rfl,rfl⟩;exact TT.n1;exact TT.n2
 | _=>exact nn h
noncomputable def jQ (F:Fm)(o:Expr)(nm:Str)(es:List Expr)(apos pos:Pos)(v:Value):Sem Value:=do
 let (f,first)<-holding [v] (calleeOf true o F.env v nm)
 let callPos<-methodCallPos true o F.env apos pos
 callWith callPos f first (backTo pos (starEach es F.env)) []
theorem J2 {X:Value->Shared->Prop}{E:Value->Shared->Prop}{nm:Str}(hp:es.all zT=true)(hb:qu o=true)(hlen:es.length<30)(h:wpAny (model C.prog C.w) A (eval o F.env) (λ v s'=>wpAny (model C.prog C.w) A (jQ F o nm es apos pos v) X E s') E s) :
  wpAny (model C.prog C.w) A (eval (.Call (.Attribute o nm apos) es [] pos) F.env) X E s:=by
 (refine rwE (arm_eval_Call ..) ?_;refine rwE (YU hb) ?_)
 have hform:=jw (pos:=pos) (env:=F.env) hp hlen
 refine wpAny_bind (wpAny_mono h (λ v s' hv=>wpAny_bind (wpAny_standAt ?_)) λ _ _ e=>e)
 unfold methodCall
 refine rwE hform ?_
 exact hv
theorem J4 {X:Value->Shared->Prop}{E:Value->Shared->Prop}{nm:Str}{k i:Nat}{a:Addr}{mo:MO}{W:Addr->List D->zA->Prop}(Y:C.Good)(TT:TOk C T)(hk:T.names[k]?=some nm)(ha:SL C T n A F es xs)(hp:es.all zT=true)(hl:(apos.endLine==pos.line)=true)(R:Rel C T s.heap φ μ σ)(I:FrI F s.heap φ μ ρ)(hai:μ[i]?=some a)(hi:σ[i]?=some mo)
  (h:∃ K j,mo=.inst K j/\Is (σ[j]?.bind YG) λ fs=>noO (look k fs) (Is (zY K k T.meth) λ f=>wpEs C T n xs ρ σ λ ds σ''=>W f (.obj i::ds) σ''))
  (kk:∀ f ds σ'' s'' φ'' μ'' vs,W f ds σ''->Go C T F s φ μ s'' φ'' μ'' ρ σ''->VDs s''.heap φ'' μ'' vs ds->keepIn C.K (.ref f)=true/\wpAny (model C.prog C.w) A (call (.ref f) vs) X E s''):wpAny (model C.prog C.w) A (jQ F o nm es apos pos (.ref a)) X E s:=by
 (refine Eeea h λ K j q1 q=>?_;subst q1)
 have hpos:methodCallPos true o F.env apos pos=pure pos:=by unfold methodCallPos;simp [hl]
 refine Eea (Is.h q) λ fs e1 q=>?_
 refine Eea (ob e1) λ mo' hj e2=>?_
 cases vS e2
 refine Ea (wK q) λ hl1 q=>?_
 refine Eea (Is.h q) λ f hl2 q=>?_
 refine wpAny_bind (wpAny_holding (vA Y TT hk R hai hi hj hl1 hl2 ?_))
 refine wpAny_bind (wpAny_of_eq hpos ?_)
 refine qo hp ((ha pos ρ σ _ q).seq R I λ s'' φ'' μ'' vs ds σ'' G' V' q'=>?_)
 refine Ea (kk f _ σ'' s'' φ'' μ'' (.ref a::vs) q'.2 G' (.cons (G'.ext.vd (.obj hai)) V')) λ k1 k2=>?_
 exact ⟨⟨Y.X.keeps G'.rel.keep,λ a' e=>by cases e;exact k1⟩,k2⟩
theorem zBV {k:Nat}{nm:Str}(Y:C.Good)(TT:TOk C T)(hA:Room n A)(hF:A.frames=some F.fs)(hk:T.names[k]?=some nm)(ho:SE C T n A F o xo)(ha:SL C T n A F es xs)(hp:es.all zT=true)(hb:qu o=true)(hl:(apos.endLine==pos.line)=true)(hlen:es.length<30) :
  SE C T n A F (.Call (.Attribute o nm apos) es [] pos) (.meth xo k xs):=λ ρ σ Q h s φ μ R I=>by
 refine J2 hp hb hlen ((ho ρ σ _ h).seq R I λ s' φ' μ' v g σ' G V q=>?_)
 (refine Eeeaaa (ye V q) λ i a q10q=>?_;obtain rfl:=q10q;intro q11q;obtain rfl:=q11q;intro hai q)
 refine Eea (q.h) λ mo hi q=>?_
 have bi:ifT (Ym mo k) (wpEs C T n xs ρ σ' λ ds σ''=>Get σ'' i λ mo'=>YN i mo' k ds σ'' Q)->wpAny (model C.prog C.w) A (jQ F o nm es apos pos (.ref a)) (PV C T F s φ μ ρ Q) NoE s':=λ q=>by
  refine Ea (uh q) λ hh q=>?_
  (refine Ee (zEb hh) λ q15q=>?_;obtain ⟨ty,nm',id⟩:=q15q;intro hid)
  cases Option.some.inj (hk.symm.trans (zBl TT hid))
  refine wpAny_bind (wpAny_holding (VT G.rel hai hi hid ?_))
  have hpos:methodCallPos true o F.env apos pos=pure pos:=by unfold methodCallPos;simp [hl]
  refine wpAny_bind (wpAny_of_eq hpos ?_)
  refine qo hp ((ha pos ρ σ' _ q).seq G.rel G.fr λ s'' φ'' μ'' vs ds σ'' G' V' q'=>?_)
  refine Eea (q'.2.h) λ mo' hi' hw=>?_
  exact ⟨⟨Y.X.keeps G'.rel.keep,λ a' e=>by cases e⟩,wpAny_mono (zEk G'.rel G'.fr (G'.ext.pre _ _ hai) hi' V' (zBd hid hw) hw) (λ v s₂ hv=>PV.up (G.trans G') hv) λ _ _ e=>e⟩
 cases mo with
 | inst K j =>
  refine J4 (W:=λ f ds σ''=>SatCall C T n f ds σ'' Q) Y TT hk ha hp hl G.rel G.fr hai hi ⟨K,j,rfl,q⟩ λ f ds σ'' s'' φ'' μ'' vs sc G' V'=>⟨sc.keep,?_⟩
  refine wpAny_mono (sc.run A s'' φ'' μ'' vs hA (G'.fr.out hF) G'.rel V') (λ r s₃ hh=>?_) λ _ _ e=>e
  obtain ⟨h',tk,φ₃,μ₃,d,σ₃,e,R',X,V₃,q₃⟩:=hh
  subst e
  exact ⟨φ₃,μ₃,d,σ₃,(G.trans G').trans (Go.of_extF G'.fr R' (Q6 hF▸X)),V₃,q₃⟩
 | lst _=>exact bi q
 | idict _=>exact bi q
 | _=>exact q.elim
theorem zB4 {k:Nat}{nm:Str}(Y:C.Good)(TT:TOk C T)(hk:T.names[k]?=some nm)(ho:SE C T n A F o xo)(hb:qu o=true):SE C T n A F (.Attribute o nm pos) (.attr xo k):=λ ρ σ Q h s φ μ R I=>by
 (refine rwE (arm_eval_Attribute ..) ?_;refine rwE (YU hb) ?_)
 refine wpAny_bind ((ho ρ σ _ h).seq R I λ s' φ' μ' v g σ' G V q=>wpAny_bind (wpAny_standAt (wpAny_bind (wpAny_holding ?_))))
 exact wpAny_mono (zAI Y TT hk G.rel G.fr V q) (λ v s₂ hv=>wpAny_bind (wpAny_letTemporaryGo (wpAny_pure (PV.up G hv)))) λ _ _ e=>e
noncomputable def UX (e:Expr):Bool:=!Nat.beq e.ctorIdx 26
theorem Jx {e:Expr}(h:UX e=true):WG e:=λ o i=>by
 cases e <;> first | rfl | exact absurd h Bool.false_ne_true
theorem zDs (hA:Room n A)(ho:SE C T n A F o xo)(ha:SE C T n A F a x)(hs:UX a=true):SE C T n A F (.Subscript o a pos) (.sub xo x):=λ ρ σ Q h s φ μ R I=>by
 refine Subscript_ ((ho ρ σ _ h).seq R I λ s' φ' μ' v d σ' G V q=>?_)
 refine (ha ρ σ' _ q).seq G.rel G.fr λ s'' φ'' μ'' w d' σ'' G' W q'=>?_
 exact wpAny_mono (zDJ hA (Jx hs) G'.rel G'.fr (G'.ext.vd V) W q') (λ v s₂ hv=>PV.up (G.trans G') hv) λ _ _ e=>e
theorem zBK {k i:Nat}{nm:Str}{p:Pos}(TT:TOk C T)(hk:T.names[k]?=some nm)(ho:SE C T n A F o xo):SE C T n A F (.Subscript o (.Constant (.str nm) i p) pos) (.subk xo k):=λ ρ σ Q h s φ μ R I=>by
 refine Subscript_ ((ho ρ σ _ h).seq R I λ s' φ' μ' v d σ' G V q=>wpAny_Constant_str ?_)
 (refine Eeeaaa (ye V q) λ j a q23q=>?_;obtain rfl:=q23q;intro q24q;obtain rfl:=q24q;intro hai q)
 refine Eea (q.h) λ fs e1 q=>?_
 refine Eea (ob e1) λ mo hi e2=>?_
 cases Wn e2
 refine Eea (q.h) λ d hl q=>?_
 have G':Go C T F s φ μ {s' with toks:=s'.toks + 1} φ' μ' ρ σ':=G.tok _
 obtain ⟨_,kvs,hm,_⟩:=G.rel.at_ _ _ _ hai hi
 exact wpAny_mono (tail_any hm.typeIs slot_dict_getitem.lookup (zBm TT.nd G'.rel G'.fr hai hi hk hl q) (Jx rfl _ _)) (λ v s₂ hv=>PV.up G' hv) λ _ _ e=>e
theorem J3 {l u:Option Expr}{p:Pos}:∀ o i,subscripted (.Slice l u none p) false o i=operate [i,o] (getItem o i):=λ _ _=>rfl
theorem Go.slice (G:Go C T F s φ μ s' φ' μ' ρ' σ')(o:Obj):Go C T F s φ μ {s' with heap:=s'.heap.push o} φ' μ' ρ' σ':=G.trans (Go.push G.rel G.fr o)
theorem zAS {p:Pos}(ho:SE C T n A F o xo)(ha:SE C T n A F a x):SE C T n A F (.Subscript o (.Slice none (some a) none p) pos) (.upto xo x):=λ ρ σ Q h s φ μ R I=>by
 refine Subscript_ ((ho ρ σ _ h).seq R I λ s' φ' μ' v d σ' G V q=>?_)
 refine wpAny_Slice (wpAny_pure ((ha ρ σ' _ q).seq G.rel G.fr λ s'' φ'' μ'' w d' σ'' G' W q'=>wpAny_pure ?_))
 exact wpAny_mono (zB7 J3 G'.rel G'.fr (G'.ext.vd V) W q') (λ v s₂ hv=>PV.up (G.trans G') hv) λ _ _ e=>e
theorem zBr {p:Pos}(ho:SE C T n A F o xo)(ha:SE C T n A F a x):SE C T n A F (.Subscript o (.Slice (some a) none none p) pos) (.from xo x):=λ ρ σ Q h s φ μ R I=>by
 refine Subscript_ ((ho ρ σ _ h).seq R I λ s' φ' μ' v d σ' G V q=>?_)
 refine wpAny_Slice ((ha ρ σ' _ q).seq G.rel G.fr λ s'' φ'' μ'' w d' σ'' G' W q'=>wpAny_pure (wpAny_pure ?_))
 exact wpAny_mono (zBX J3 G'.rel G'.fr (G'.ext.vd V) W q') (λ v s₂ hv=>PV.up (G.trans G') hv) λ _ _ e=>e
theorem zBe {post:Str}{k:Nat}{p1 p2:Pos}(hp:PyData.strOk post=true/\post.length<=1000)(ha:SE C T n A F a x):SE C T n A F (.JoinedStr [.FormattedValue a (-1) none p2,.Constant (.str post) k p1] pos) (.fsuf x post):=λ ρ σ Q h s φ μ R I=>by
 refine wpAny_JoinedStr ?_
 show wpAny _ A (eval (.FormattedValue a (-1) none p2) F.env) _ NoE _
 refine wpAny_FormattedValue_plain ((ha ρ σ _ h).seq R I λ s' φ' μ' v d σ' G V q=>?_)
 (refine Eeaa (Qg V q) λ y q1 V1 q2=>?_;subst q1)
 refine Eeaa (Is.h q2) λ z e1 fz q3=>?_
 cases zEa e1
 refine Eea V1.istr λ t ht hz=>?_
 subst ht
 have ok:PyData.strOk (z++post)=true:=Yb hz hp.1
 have lz:z.length<=sizeLine:=zh fz
 have hlen:(z++post).length<=sizeLine:=by
  (refine rwE (strLen_append ..) ?_;refine rwE sizeLine_eq ?_)
  have:=hp.2
  have:z.length<=100000:=fz
  exact lin [_,_] [] (.a (.v 0) (.v 1)) (.k 16777216) [(1,.l (.v 1) (.k 1000)),(1,.l (.v 0) (.k 100000))] tT9 hp.2 this
 have fin:∀ tk u,∃ x tk',Value.str z u=.str x tk'/\(Str.empty++x).length<=sizeLine/\Joins (model C.prog C.w) A NoE [eval (.Constant (.str post) k p1) F.env] (Str.empty++x) (λ out s₁=>out.length<=sizeLine/\PV C T F s φ μ ρ Q (.str out s₁.toks) {s₁ with toks:=s₁.toks + 1}) {s' with toks:=tk}:=λ tk u=>by
  refine ⟨z,u,rfl,by refine rwE (Str.empty_append ..) ?_;exact lz,?_⟩
  show wpAny _ A (eval (.Constant (.str post) k p1) F.env) _ NoE _
  refine wpAny_Constant_str ?_
  refine rwE (Str.empty_append ..) ?_
  exact ⟨post,_,rfl,hlen,hlen,φ',μ',_,σ',(G.tok _),.p (.str _ _ ok),q3⟩
 exact wpAny_formatField_str (fin _ _) (fin _ _) lz
theorem zBz {pre:Str}{k:Nat}{p1 p2:Pos}(hp:PyData.strOk pre=true/\pre.length<=1000)(ha:SE C T n A F a x):SE C T n A F (.JoinedStr [.Constant (.str pre) k p1,.FormattedValue a (-1) none p2] pos) (.fstr pre x):=λ ρ σ Q h =>
 zBG hp (ha ρ σ _ h) λ d σ' q=>q
end
section
variable {C:Cx}{T:Tabs}{F:Fm}{A:Around}{n:Nat}{s s' s₀ s₁:Shared}{φ φ':Addr->Prop}{μ μ':List Addr}{ρ ρ':Rho}{σ σ':zA}{pos pos' apos:Pos}{e e' a b c o:Expr}{x y z xa xb xc xo:Ex}{es:List Expr}{xs:List Ex}
inductive KeyL:List (Option Expr)->List Str->Prop
 | nil:KeyL [] []
 | cons {x:Str} {k:Nat} {p:Pos} {ks:List (Option Expr)} {xs:List Str}:KeyL ks xs->KeyL (some (.Constant (.str x) k p)::ks) (x::xs)
theorem KeyL.inil {ss:List Str}(h:KeyL [] ss):ss=[]:=by cases h;rfl
theorem zBj {es:List Expr}{xs:List Ex}(hv:Each (SE C T n A F) es xs):∀ {ks:List (Option Expr)} {ss:List Str} {ρ:Rho} {σ:zA} {Q:List D->zA->Prop},KeyL ks ss->ks.length=es.length->wpEs C T n xs ρ σ Q->DPs C T F A (evalPairs (pairTrees ks es F.env pos)) ss ρ σ Q:=by
 induction hv with
 | nil=>intro ks ss ρ σ Q hk hl h;cases ks with
  | nil=>cases hk.inil;exact zBC h
  | cons _ _=>cases hl
 | cons v r ih=>intro ks ss ρ σ Q hk hl h;cases hk with
  | nil=>cases hl
  | cons k=>exact Vl (v _ _ _ h) λ d σ' q=>ih k (Nat.succ.inj hl) q
theorem vQ {ks:List (Option Expr)}{ss:List Str}(h:KeyL ks ss):ks.all (·.isSome)=true:=by
 induction h with
 | nil=>rfl
 | cons k ih=>exact ih
theorem zD2 {ks:List (Option Expr)}{ss:List Str}{ns:List Nat}(Y:C.Good)(hk:KeyL ks ss)(hv:Each (SE C T n A F) es xs)(h0:ks≠[])(hl:ks.length=es.length)(hlen:ks.length<=15)(nd:ss.Nodup)(hn:ns.map (T.names[·]?)=ss.map some):SE C T n A F (.Dict ks es pos) (.dct 0 ns xs):=λ ρ σ Q h=>by
 refine zCa Y h0 (vQ hk) hl hlen nd hn (zBj hv hk hl h) λ ds σ' q=>?_
 refine Eea (Is.h q) λ mo e q=>?_
 cases so (og e).2
 exact q
theorem XC {k:Nat}(Y:C.Good)(hk:k=1∨k=2):SE C T n A F (.Dict [] [] pos) (.dct k [] []):=λ ρ σ Q h=>by
 rcases hk with rfl | rfl
 ·exact xn Y (.inl rfl) h
 ·exact xn Y (.inr rfl) h
variable {elt target iter:Expr}{ifsA:List Expr}{restA:List Comprehension}{scope:Scope}{t:Pt}{it:Ex}{ifs:List Ex}{gs:List Gn}
theorem zAU {m:Bool}{xe:Ex}{k:Nat}(hA:A.handled=none)(hk:k=(zU scope).length)(S:CompSpec C T n A F elt target iter ifsA restA scope pos t it ifs gs λ ρ σ K=>wpE C T n xe ρ σ K) :
  SE C T n A F (.ListComp elt (⟨target,iter,ifsA,0⟩::restA) scope pos) (.comp m k xe t it ifs gs):=λ ρ σ Q h=>by
 subst hk
 refine zB9 (m:=m) S hA ?_
 cases m <;> exact h
noncomputable def SI (C:Cx)(T:Tabs)(n:Nat)(A:Around)(F:Fm)(tgt:Expr)(e:Expr)(x:Ex):Prop:=∀ ρ σ K,(wpE C T n x ρ σ λ d σ'=>zf σ' d λ xs i=>K xs i σ')->DI C T F A e tgt ρ σ K
theorem SE.si {tgt:Expr}(hA:A.handled=none)(h:SE C T n A F e x):SI C T n A F tgt e x:=λ ρ σ K hw=>vx hA (h ρ σ _ hw)
theorem Srt.lt {S:Srt}{xs:List PyData}(R:Rel C T s.heap φ μ σ)(o:S.ok xs s.heap φ μ):(show Nat from S.a)<s.heap.objs.size:=by
 cases S with
 | fz l a=>refine Ee (R.frz a o.1) λ o' e=>?_;exact Heap.lt_size e
 | ob i a=>refine Ee (R.lt i a o) λ o' e=>?_;exact Heap.lt_size e
theorem zDk {g:Nat}{zn:Str}{p:Pos}{elts:List Expr}{x1:Nat}{tp:Pos}(Y:C.Good)(TT:TOk C T)(hA:A.handled=none)(hg:T.glob[g]?=some (zn,.bi .zip))(hk:F.env.kindOf zn=some .globalImplicit)(hx:(zn==("__debug__":Str))=false)
  (ha:SE C T n A F a xa) (hb:SE C T n A F b xb) (hp:[a,b].all zT=true):SI C T n A F (.Tuple elts x1 tp) (.Call (.Name zn p) [a,b] [] pos) (.zip xa xb):=λ ρ σ K hw s φ μ X R I hX=>by
 have hw':wpEs C T n [xa,xb] ρ σ λ ds σ''=>on2 ds λ x y=>qm σ'' x λ xs=>qm σ'' y λ ys=>zf σ'' (.zp x y xs ys) λ zs i=>K zs i σ'':=hw
 refine rwE (arm_eval_Call_Name' ..) ?_
 refine wpAny_bind (wpAny_mono (Jg (Q:=λ d σ'=>d=.bi .zip/\σ'=σ) Y R I hk (TT.glob g zn _ hg) hx ⟨rfl,rfl⟩) (λ v s' hv=>?_) λ _ _ e=>e.elim)
 (refine Eeeeeaaa (hv) λ φ' μ' d σ' G V q4q=>?_;try clear hv;obtain rfl:=q4q;intro q5q;obtain rfl:=q5q)
 have e0:v=.type "zip":=V.ibi
 subst e0
 have SS:SL C T n A F [a,b] [xa,xb]:=JT (ZY (Z3 hp).1) ha (JT (ZY (Z3 (Z3 hp).2).1) hb WX)
 show wpAny _ _ (callWith pos (.type "zip") [] (backTo pos (starEach [a,b] F.env)) []) _ _ _
 refine qo hp ((SS pos ρ σ' _ hw').seq G.rel G.fr λ s'' φ'' μ'' vs ds σ'' G' V' q'=>⟨⟨Y.X.keeps G'.rel.keep,λ a' e=>by cases e⟩,?_⟩)
 (refine Ea (q') λ hl q=>?_;try clear q')
 (refine Eeeeeaaaa (wN V' q) λ v1 v2 dx dy q8q=>?_;obtain rfl:=q8q;intro _ p1 p2 q)
 refine Eea (q.h) λ ys1 e1 q=>?_
 refine Eea (q.h) λ ys2 e2 q=>?_
 refine Eea (Is.h q) λ os e3 q=>?_
 refine Eea (ob e3) λ x2 e4 e5=>?_
 cases Xm e4
 have G2:=G.trans G'
 (refine Eeaaaa (Wc G'.rel p1 e1) λ S1 q14q=>?_;obtain rfl:=q14q;intro o1 t1 ob1 fz1)
 (refine Eeaaaa (Wc G'.rel p2 e2) λ S2 q16q=>?_;obtain rfl:=q16q;intro o2 t2 ob2 fz2)
 refine Eea (Srt.at_ G'.rel o1 t1) λ vs1 h1 _=>?_
 refine Eea (Srt.at_ G'.rel o2 t2) λ vs2 h2 _=>?_
 have go:∀ src,(∀ σ,zZ src σ True->S1.stay ys1 σ/\S2.stay ys2 σ)->zZ src σ'' True->K ((ys1.zip ys2).map λ p=>.tuple [p.1,p.2]) src σ'' ->
   wpAny (model C.prog C.w) A (call (.type "zip") [.ref S1.a,.ref S2.a]) (λ v s=>wpAny (model C.prog C.w) A (pyIter v) X NoE s) NoE s'':=λ src hs st q=>by
  refine zAZ h1 h2 λ h' Z keep=>?_
  refine Ea (G'.rel.grow keep) λ R' X'=>?_
  have G3:Go C T F s φ μ {s'' with heap:=h'} φ'' μ'' ρ σ'':=G2.trans (Go.of_ext (tk:=s''.toks) G'.fr R' X')
  have W:=VW (C:=C) (T:=T) (A:=A) (L:=s''.heap.objs.size) (elts:=elts) (x1:=x1) (pos:=tp) (xs:=ys1) (ys:=ys2) hA hs (Srt.lt G'.rel o1) (Srt.lt G'.rel o2)
  have fr:∀ c∈([s''.heap.objs.size,s''.heap.objs.size + 1,s''.heap.objs.size + 2,s''.heap.objs.size + 3,s''.heap.objs.size + 4]:List Nat),s''.heap.get? c=none:=λ c m=>Heap.get?_none_of_le (by
   simp only [List.mem_cons,List.not_mem_nil,or_false] at m
   rcases m with rfl | rfl | rfl | rfl | rfl <;> lia)
  refine W.self 0 _ _ Z ?_
  refine hX _ _ φ'' μ'' σ'' _ src _ _ _ G3 W Z ⟨λ c m=>G'.rel.notin_none (fr c m),λ c m=>G'.rel.notfrz_none (fr c m),λ c m=>W.live 0 _ Z c m⟩ (λ c m=>G2.ext.back (fr c m)) ⟨Srt.ext o1 X',Srt.ext o2 X'⟩ st q
 refine Ee (fz2 λ i h=>nomatch h) λ l2 hS2=>?_
 cases dx with
 | p x1 =>
  cases so e5
  refine Ee (fz1 λ i h=>nomatch h) λ l1 hS1=>?_
  exact go none (λ σ _=>⟨by refine rwE hS1 ?_;trivial,by refine rwE hS2 ?_;trivial⟩) trivial q
 | obj i =>
  cases so e5
  have hS1:=ob1 i rfl
  have t1':σ''[i]?=some (.lst ys1):=by rw [hS1] at t1;exact t1
  exact go (some (i,ys1)) (λ σ st=>⟨by refine rwE hS1 ?_;exact st.1,by refine rwE hS2 ?_;trivial⟩) ⟨t1',trivial⟩ q
 | _=>exact nn e5
end
noncomputable def SX (C:Cx)(T:Tabs)(n:Nat)(A:Around)(F:Fm)(st:Stmt)(x:St):Prop:=∀ ρ σ Q,wpS C T n x ρ σ Q->DS C T F A (exec st F.env) ρ σ Q
noncomputable def SS (C:Cx)(T:Tabs)(n:Nat)(A:Around)(F:Fm)(b:List Stmt)(xs:List St):Prop:=∀ ρ σ Q,wpSs C T n xs ρ σ Q->DS C T F A (execs b F.env) ρ σ Q
noncomputable def SA (C:Cx)(T:Tabs)(n:Nat)(A:Around)(F:Fm)(e:Expr)(t:Tg):Prop:=∀ d ρ σ Q,wpT C T n t d ρ σ Q->∀ (s:Shared) (φ:Addr->Prop) (μ:List Addr) (v:Value),Rel C T s.heap φ μ σ->FrI F s.heap φ μ ρ->VD s.heap φ μ v d ->
 wpAny (model C.prog C.w) A (assign e F.env v) (λ _ s'=>∃ φ' μ' ρ' σ',Go C T F s φ μ s' φ' μ' ρ' σ'/\Q ρ' σ') NoE s
section
variable {C:Cx}{T:Tabs}{F:Fm}{A:Around}{n:Nat}{s s' s₀ s₁:Shared}{φ φ':Addr->Prop}{μ μ':List Addr}{ρ ρ':Rho}{σ σ':zA}{pos pos' apos:Pos}{e e' a b c o:Expr}{x y z xa xb xc xo:Ex}{es:List Expr}{xs:List Ex}
theorem Go.rho (G:Go C T F s φ μ s' φ' μ' ρ' σ'){h':Heap}{tk:Nat}{σ₂:zA}(R:Rel C T h' φ' μ' σ₂)(X:Ext s'.heap φ' μ' h' φ' μ' []):Go C T F s φ μ {s' with heap:=h',toks:=tk} φ' μ' ρ' σ₂ :=
 G.trans (Go.of_ext (tk:=tk) G.fr R X)
theorem Jt {x:Str}{i:Nat}(hi:bix F.ks x=some i):SA C T n A F (.Name x pos) (.pt (.nm i)):=λ d ρ σ Q h s φ μ v R I V=>by
 refine Eea (Q0 hi) λ k h1 h2=>?_
 refine rwE (arm_assign_Name ..) ?_
 exact wpAny_bind (wpAny_standAt (qd R I V h1 h2 λ s' G=>⟨φ,μ,_,σ,G,h⟩))
theorem zGC {p:Pt}(hA:A.handled=none)(ht:trP F.ks e=some p):SA C T n A F e (.pt p):=λ d ρ σ Q h s φ μ v R I V=>by
 cases p with
 | nm i =>
  rcases uZ ht with ⟨x,pos,j,rfl,hj,h'⟩ | ⟨_,_,_,_,_,_,h'⟩
  ·cases h'
   exact Jt hj d ρ σ Q h s φ μ v R I V
  ·cases h'
 | tup ps =>
  refine Eeaa (Qg V h) λ x _ V h=>?_
  refine Eea (Is.h h) λ ρ' hb q=>?_
  exact wpAny_mono (j0 hA (.tup ps) e x ρ ρ' s φ μ v ht hb R I V) (λ _ s' G=>⟨φ,μ,ρ',σ,G,q⟩) λ _ _ e=>e
theorem zBH {k:Nat}{nm:Str}(Y:C.Good)(TT:TOk C T)(hk:T.names[k]?=some nm)(ho:SE C T n A F o xo):SA C T n A F (.Attribute o nm pos) (.attr xo k):=λ d ρ σ Q h s φ μ v R I V=>by
 refine rwE (arm_assign_Attribute ..) ?_
 refine wpAny_bind (wpAny_holding ((ho ρ σ _ h).seq R I λ s' φ' μ' w g σ' G W q=>wpAny_bind (wpAny_standAt (wpAny_bind (wpAny_holding ?_)))))
 (refine Eeeaaa (ye W q) λ i a _ q4q=>?_;obtain rfl:=q4q;intro hai q)
 refine Eeeeaa (Uy q) λ K j fs hi hj q=>?_
 refine Eaa (wK q) λ hm q1 q2=>?_
 exact JC Y TT hk G.rel hai hi hj (G.ext.vd V) hm q1 λ h' tk R' X=>wpAny_release ⟨φ',μ',ρ,_,G.rho R' X,q2⟩
theorem zDv (hA:Room n A)(ho:SE C T n A F o xo)(ha:SE C T n A F a x):SA C T n A F (.Subscript o a pos) (.sub xo x):=λ d ρ σ Q h s φ μ v R I V=>by
 refine rwE (arm_assign_Subscript ..) ?_
 refine wpAny_bind (wpAny_holding ((ho ρ σ _ h).seq R I λ s' φ' μ' w g σ' G W q=>wpAny_bind (wpAny_holding ?_)))
 refine (ha ρ σ' _ q).seq G.rel G.fr λ s'' φ'' μ'' u g' σ'' G' U q'=>wpAny_bind (wpAny_standAt (wpAny_bind (wpAny_holding ?_)))
 have G2:=G.trans G'
 (refine Eeeaaa (ye W q') λ i a _ q8q=>?_;obtain rfl:=q8q;intro hai q')
 refine Eea (Is.h q') λ mo hi q'=>?_
 have hai':=G'.ext.pre _ _ hai
 cases mo with
 | idict es =>
  obtain ⟨k,t,_,rfl,hf,q'⟩:=zy U q'
  exact zBD G'.rel hai' hi (G2.ext.vd V) hf λ h' R' X=>wpAny_release ⟨φ'',μ'',ρ,_,G2.rho R' X,q'⟩
 | tdict es =>
  refine Eeaaa (ju U q') λ k _ U hd q'=>?_
  refine Eeaa (Is.h q') λ kq hq hf q'=>?_
  (refine Eeea (U.itup) λ b vs q15q=>?_;obtain rfl:=q15q;intro _)
  cases hn:zo kq es with
  | none=>rw [hn] at q';exact zBO hA G'.rel hai' hi U hd hq (G2.ext.vd V) hf hn λ h' tk R' X=>wpAny_release ⟨φ'',μ'',ρ,_,G2.rho R' X,q'⟩
  | some _=>rw [hn] at q';exact q'.elim
 | _=>exact q'.elim
theorem zB3 {k i:Nat}{nm:Str}{p:Pos}(TT:TOk C T)(hk:T.names[k]?=some nm)(ho:SE C T n A F o xo):SA C T n A F (.Subscript o (.Constant (.str nm) i p) pos) (.subk xo k):=λ d ρ σ Q h s φ μ v R I V=>by
 refine rwE (arm_assign_Subscript ..) ?_
 refine wpAny_bind (wpAny_holding ((ho ρ σ _ h).seq R I λ s' φ' μ' w g σ' G W q=>wpAny_bind (wpAny_holding (wpAny_Constant_str ?_))))
 refine wpAny_bind (wpAny_standAt (wpAny_bind (wpAny_holding ?_)))
 have G':Go C T F s φ μ {s' with toks:=s'.toks + 1} φ' μ' ρ σ':=G.tok _
 (refine Eeeaaa (ye W q) λ j a _ q17q=>?_;obtain rfl:=q17q;intro hai q)
 refine Eeaa (Is.h q) λ fs e1 q1 q2=>?_
 refine Eea (ob e1) λ mo hi e2=>?_
 cases Wn e2
 exact zAR TT.nd G'.rel hai hi hk (G.ext.vd V) q1 λ h' R' X=>wpAny_release ⟨φ',μ',ρ,_,G'.rho R' X,q2⟩
inductive EachT (P:Expr->Tg->Prop):List Expr->List Tg->Prop
 | nil:EachT P [] []
 | cons {e:Expr} {x:Tg} {es:List Expr} {xs:List Tg}:P e x->zT e=true->EachT P es xs->EachT P (e::es) (x::xs)
theorem qR {e:Expr}{es:List Expr}{env:Env}(h:zT e=true):assignEach (e::es) env=(false,assign e env)::assignEach es env:=by
 cases e <;> first | rfl | exact absurd h Bool.false_ne_true
theorem Vt {es:List Expr}{ts:List Tg}(h:EachT (SA C T n A F) es ts):(assignEach es F.env).length=ts.length/\(assignEach es F.env).findIdx? (·.1)=none:=by
 induction h with
 | nil=>exact ⟨rfl,rfl⟩
 | cons _ hs r ih =>
  (refine rwE (qR hs) ?_;refine rwE List.findIdx?_cons ?_;refine rwE ih.2 ?_)
  exact ⟨congrArg (· + 1) ih.1,rfl⟩
theorem sas {es:List Expr}{ts:List Tg}(h:EachT (SA C T n A F) es ts):∀ {ds:List D} {ρ:Rho} {σ:zA} {Q:Rho->zA->Prop},wpTs C T n ts ds ρ σ Q->∀ (s:Shared) (φ:Addr->Prop) (μ:List Addr) (vs:List Value),Rel C T s.heap φ μ σ->FrI F s.heap φ μ ρ->VDs s.heap φ μ vs ds ->
  wpAny (model C.prog C.w) A (assignInOrder ((assignEach es F.env).map (·.2)) vs) (λ _ s'=>∃ φ' μ' ρ' σ',Go C T F s φ μ s' φ' μ' ρ' σ'/\Q ρ' σ') NoE s:=by
 induction h with
 | nil =>
  intro ds ρ σ Q h s φ μ vs R I V
  cases ds with
  | nil=>cases V.inil;exact wpAny_assignInOrder_none ⟨φ,μ,ρ,σ,Go.refl R I,h⟩
  | cons _ _=>exact h.elim
 | cons p hs r ih =>
  intro ds ρ σ Q h s φ μ vs R I V
  cases ds with
  | nil=>exact h.elim
  | cons d ds =>
   (refine Eeeaa (V.icons) λ v1 vr q21q=>?_;obtain rfl:=q21q;intro V1 W)
   refine rwE (qR hs) ?_
   show wpAny _ _ (do holding _ (assign _ F.env _);assignInOrder _ _) _ _ _
   refine wpAny_bind (wpAny_holding (wpAny_mono (p d ρ σ _ h s φ μ _ R I V1) (λ _ s' hh=>Eeeeea hh λ φ' μ' ρ' σ' G q=>?_) λ _ _ e=>e))
   exact wpAny_mono (ih q s' φ' μ' _ G.rel G.fr (G.ext.vds W)) (λ _ s'' hh=>Eeeeea hh λ φ'' μ'' ρ'' σ'' G' q'=>⟨φ'',μ'',ρ'',σ'',G.trans G',q'⟩) λ _ _ e=>e
theorem zAr {h:Heap}:∀ {vs:List Value} {xs:List PyData},VPs h φ vs xs->VDs h φ μ vs (xs.map .p)
 | _,[],V=>by cases V.inil;exact .nil
 | _,_::_,V₀=>by (refine Eeeaa (V₀.icons) λ v r q23q=>?_;obtain rfl:=q23q;intro V W);exact .cons (.p V) (zAr W)
theorem Ja {h:Heap}{v:Value}{d:D}{ts:List Tg}{Q:Rho->zA->Prop}(V:VD h φ μ v d)(hw:wpT C T n (.tup ts) d ρ σ Q):∃ a vs ds,v=.ref a/\IsTup h a vs.toArray/\VDs h φ μ vs ds/\ts.length=vs.length/\wpTs C T n ts ds ρ σ Q:=by
 refine Eea (Is.h hw) λ ds e hw1=>?_
 refine Ea (uh hw1) λ hl1 hw2=>?_
 have hl:=ZF hl1
 clear hw hw1 hl1
 cases d with
 | tup ds'=>cases so e;(refine Eeeaaa (V.itup) λ a vs q27q=>?_;obtain rfl:=q27q;intro f t r);exact ⟨_,_,_,rfl,t.t,r,hl.trans (ZX r).symm,hw2⟩
 | p x =>
  refine Eea (ob e) λ xs e1 e2=>?_
  cases Y1 e1
  cases so e2
  (refine Eeeaaa (V.ip.itup) λ a vs q30q=>?_;obtain rfl:=q30q;intro f t r)
  exact ⟨_,_,_,rfl,t.t,zAr r,hl.trans ((List.length_map _).trans r.length.symm),hw2⟩
 | _=>exact nn e
theorem zDo {ts:List Tg}{k:Nat}(hA:A.handled=none)(h:EachT (SA C T n A F) es ts):SA C T n A F (.Tuple es k pos) (.tup ts):=λ d ρ σ Q hw s φ μ v R I V=>by
 (refine Eeeeaaaa (Ja V hw) λ a vs ds q32q=>?_;obtain rfl:=q32q;intro ht W hl hw)
 refine Ea (Vt h) λ h1 h2=>?_
 refine wpAny_assign_Tuple hA ht (by (refine rwE h1 ?_;refine rwE hl ?_;refine rwE List.size_toArray ?_;rfl)) h2 λ h' hs=>?_
 have kk:∀ b o,s.heap.get? b=some o->h'.get? b=some o:=λ b o e=>hs b o (Nat.ne_of_lt (Heap.lt_size e)) e
 refine Ea (R.grow kk) λ R' X=>?_
 have G:=Go.of_ext (tk:=s.toks) I R' X
 exact wpAny_mono (sas h hw {s with heap:=h'} φ μ vs R' G.fr (X.vds W)) (λ _ s' hh=>Eeeeea hh λ φ' μ' ρ' σ' G' q=>⟨φ',μ',ρ',σ',G.trans G',q⟩) λ _ _ e=>e
theorem Uk:SS C T n A F [] []:=λ ρ σ Q h s φ μ R I=>wpAny_execs_nil ⟨φ,μ,_,ρ,σ,Go.refl R I,.next,h⟩
theorem PS.up {Q:Fl->Rho->zA->Prop}{fl:Flow}{s'':Shared}(G:Go C T F s φ μ s' φ' μ' ρ' σ')(h:PS C T F s' φ' μ' Q fl s''):PS C T F s φ μ Q fl s'':=by
 (refine Eeeeeeaa (h) λ φ₂ μ₂ f ρ₂ σ₂ G₂ V q=>?_;try clear h)
 exact ⟨φ₂,μ₂,f,ρ₂,σ₂,G.trans G₂,V,q⟩
theorem Jr {st:Stmt}{sts:List Stmt}{x:St}{xs:List St}(h1:SX C T n A F st x)(h2:SS C T n A F sts xs):SS C T n A F (st::sts) (x::xs):=λ ρ σ Q h s φ μ R I=>by
 refine wpAny_execs_cons (wpAny_mono (h1 ρ σ _ h s φ μ R I) (λ fl s' h=>Eeeeeeaa h λ φ' μ' f ρ' σ' G hf q=>?_) λ _ _ e=>e)
 cases hf with
 | next=>exact wpAny_mono (h2 ρ' σ' Q q s' φ' μ' G.rel G.fr) (λ fl s'' hq=>PS.up G hq) λ _ _ e=>e
 | cont=>exact ⟨φ',μ',_,ρ',σ',G,.cont,q⟩
 | ret V=>exact ⟨φ',μ',_,ρ',σ',G,.ret V,q⟩
theorem Wy (I:FrI F s.heap φ μ ρ):interactive F.env=false:=by
 unfold interactive;refine rwE I.kind ?_;rfl
noncomputable def Q4 (e:Expr):Bool:=!(Nat.ble 8 e.ctorIdx&&Nat.ble e.ctorIdx 10)
theorem YQ {e:Expr}{t:Option Expr}{l:Nat}{env:Env}(h:Q4 e=true):swapsWith e t l env=pure false:=by
 cases e <;> first | rfl | exact absurd h Bool.false_ne_true
theorem zAV (h:SE C T n A F e x)(hn:Q4 e=true):SX C T n A F (.Expr e pos) (.expr x):=λ ρ σ Q hw s φ μ R I=>by
 refine wpAny_Expr_any ((h ρ σ _ hw).seq R I λ s' φ' μ' v d σ' G V q=>?_) (Wy I) (YQ hn)
 refine Eeaa (Qg V q) λ x _ _ q=>?_
 exact ⟨φ',μ',_,ρ,σ',G,.next,(uh q).2⟩
theorem zEw {sa sb:List Stmt}{ya yb:List St}(hc:SB C T n A F c z)(ha:SS C T n A F sa ya)(hb:SS C T n A F sb yb):SX C T n A F (.If c sa sb pos) (.ite z ya yb):=λ ρ σ Q hw s φ μ R I=>by
 refine wpAny_If ((hc ρ σ _ hw).seq R I λ s' φ' μ' r σ' G q=>?_)
 cases r with
 | true=>exact wpAny_mono (ha ρ σ' Q (q.t rfl) s' φ' μ' G.rel G.fr) (λ v s₂ hv=>PS.up G hv) λ _ _ e=>e
 | false=>exact wpAny_mono (hb ρ σ' Q (q.f rfl) s' φ' μ' G.rel G.fr) (λ v s₂ hv=>PS.up G hv) λ _ _ e=>e
theorem zCZ (h:SE C T n A F e x):SX C T n A F (.Return (some e) pos) (.ret x):=λ ρ σ Q hw s φ μ R I=>by
 refine wpAny_Return_some ((h ρ σ _ hw).seq R I λ s' φ' μ' v d σ' G V q=>?_)
 exact ⟨φ',μ',_,ρ,σ',G,.ret V,q⟩
theorem zAT:SX C T n A F (.Return none pos) .retN:=λ ρ σ Q hw s φ μ R I=>wpAny_Return_none ⟨φ,μ,_,ρ,σ,Go.refl R I,.ret (.p .none),hw⟩
theorem zBx:SX C T n A F (.Continue pos) .cont:=λ ρ σ Q hw s φ μ R I=>by
 show wpAny _ _ (do standAt pos;pure Flow.cont) _ _ _
 exact wpAny_bind (wpAny_standAt (wpAny_pure ⟨φ,μ,_,ρ,σ,Go.refl R I,.cont,hw⟩))
theorem VS {st:Stmt}:SX C T n A F st .raise:=λ ρ σ Q hw=>(show False from hw).elim
theorem zDc {ds:List D}{q:PyData×Nat}(h:VJ ds=some q):ds=[.p q.1,.obj q.2]:=by
 cases ds with
 | nil=>exact nn h
 | cons d r=>cases r with
  | nil=>exact nn h
  | cons e r=>cases r with
   | cons _ _=>exact nn h
   | nil=>exact Eea (ob h) λ x h1 h2=>Eea (ob h2) λ i h3 h4=>so h4▸Xm h1▸zAG h3▸rfl
theorem Wm {v:Value}{d:D}{r:PyData×zA}(R:Rel C T s.heap φ μ σ)(V:VD s.heap φ μ v d)(e:qW σ d=some r):∃ φ',Rel C T s.heap φ' μ r.2/\Ext s.heap φ μ s.heap φ' μ []/\VP s.heap φ' v r.1:=by
 cases d with
 | p x=>exact so e▸⟨φ,R,.refl,V.ip⟩
 | obj i=>exact Eea (ob e) λ xs e1 e2=>Eea V.iobj λ a ev ha=>Eaa (R.freeze ha (QY e1)) λ R' X V'=>so e2▸⟨_,R',X,ev▸V'⟩
 | tup ds =>
  refine Eea (ob e) λ q e1 e2=>?_
  refine Eea (ob e2) λ xs e3 e4=>?_
  rw [zDc e1] at V
  refine Eeeaaa V.itup λ a vs ev f t r=>?_
  refine Eeeaa r.icons λ v1 vs1 h1 p1 r=>?_
  refine Eeeaa r.icons λ v2 vs2 h2 p2 r=>?_
  refine Eea p2.iobj λ b hb ha=>?_
  refine Eaa (R.freeze ha (QY e3)) λ R' X V'=>?_
  rw [<- so e4,ev]
  refine ⟨_,R',X,.tup (.inl f) t ?_⟩
  rw [h1,h2,r.inil,hb]
  exact .cons (X.vp p1.ip) (.cons V' .nil)
 | _=>exact nn e
theorem zBU (h:SE C T n A F e x):SX C T n A F (.Return (some e) pos) (.retF x):=λ ρ σ Q hw s φ μ R I=>by
 refine wpAny_Return_some ((h ρ σ _ hw).seq R I λ s' φ' μ' v d σ' G V q=>?_)
 refine Eea (Is.h q) λ r hr q=>?_
 refine Eeaa (Wm G.rel V hr) λ φ₂ R' X V'=>?_
 exact ⟨φ₂,μ',_,ρ,_,G.trans (Go.of_ext (tk:=s'.toks) G.fr R' X),.ret (.p V'),q⟩
theorem va {t:Tg}{tgt:Expr}{e:Expr}(h:SE C T n A F e x)(ht:SA C T n A F tgt t)(hn:zT tgt=true)(hs:swapsWithSole [tgt] e pos.line F.env=pure false)(hw:swappedStores [tgt] e F.env=pure none):SX C T n A F (.Assign [tgt] e pos) (.asg t x):=λ ρ σ Q hw' s φ μ R I=>by
 refine wpAny_Assign_stores ((h ρ σ _ hw').seq R I λ s' φ' μ' v d σ' G V q=>?_) hs hw
 have e0:(assignEach [tgt] F.env).map (·.2)=[assign tgt F.env]:=by refine rwE (qR hn) ?_;rfl
 refine rwE e0 ?_
 show wpAny _ _ (assign tgt F.env v) _ _ _
 exact wpAny_mono (ht d ρ σ' _ q s' φ' μ' v G.rel G.fr V) (λ _ s'' hh=>Eeeeea hh λ φ₂ μ₂ ρ₂ σ₂ G₂ q₂=>⟨φ₂,μ₂,_,ρ₂,σ₂,G.trans G₂,.next,q₂⟩) λ _ _ e=>e
theorem zAx {v1 v2:Value}{d1 d2:D}{x1 x2:Str}{i1 i2:Nat}{Q:Rho->zA->Prop}(h1:bix F.ks x1=some i1)(h2:bix F.ks x2=some i2)(R:Rel C T s.heap φ μ σ)(I:FrI F s.heap φ μ ρ)(V1:VD s.heap φ μ v1 d1)(V2:VD s.heap φ μ v2 d2)(hq:Q ((ρ.set i2 (some d2)).set i1 (some d1)) σ) :
  wpAny (model C.prog C.w) A (assignInOrder [bindName F.env x2,bindName F.env x1] [v2,v1]) (λ _ s'=>∃ φ' μ' ρ' σ',Go C T F s φ μ s' φ' μ' ρ' σ'/\Q ρ' σ') NoE s:=by
 refine Eea (Q0 h1) λ k1 a1 b1=>?_
 refine Eea (Q0 h2) λ k2 a2 b2=>?_
 show wpAny _ _ (do holding [v1] (bindName F.env x2 v2);holding [] (bindName F.env x1 v1);assignInOrder _ _) _ _ _
 refine wpAny_bind (wpAny_holding (qd R I V2 a2 b2 λ s' G=>wpAny_bind (wpAny_holding (qd G.rel G.fr (G.ext.vd V1) a1 b1 λ s'' G'=>?_))))
 exact wpAny_assignInOrder_none ⟨φ,μ,_,σ,G.trans G',hq⟩
theorem zE6 {v1 v2 v3:Value}{d1 d2 d3:D}{x1 x2 x3:Str}{i1 i2 i3:Nat}{Q:Rho->zA->Prop}(h1:bix F.ks x1=some i1)(h2:bix F.ks x2=some i2)(h3:bix F.ks x3=some i3)(R:Rel C T s.heap φ μ σ)(I:FrI F s.heap φ μ ρ)(V1:VD s.heap φ μ v1 d1)(V2:VD s.heap φ μ v2 d2)(V3:VD s.heap φ μ v3 d3)(hq:Q (((ρ.set i3 (some d3)).set i2 (some d2)).set i1 (some d1)) σ) :
  wpAny (model C.prog C.w) A (assignInOrder [bindName F.env x3,bindName F.env x2,bindName F.env x1] [v3,v2,v1]) (λ _ s'=>∃ φ' μ' ρ' σ',Go C T F s φ μ s' φ' μ' ρ' σ'/\Q ρ' σ') NoE s:=by
 refine Eea (Q0 h3) λ k3 a3 b3=>?_
 show wpAny _ _ (do holding [v2,v1] (bindName F.env x3 v3);assignInOrder [bindName F.env x2,bindName F.env x1] [v2,v1]) _ _ _
 refine wpAny_bind (wpAny_holding (qd R I V3 a3 b3 λ s' G=>?_))
 exact wpAny_mono (zAx h1 h2 G.rel G.fr (G.ext.vd V1) (G.ext.vd V2) hq) (λ _ s' hh=>Eeeeea hh λ φ' μ' ρ' σ' G' q=>⟨φ',μ',ρ',σ',G.trans G',q⟩) λ _ _ e=>e
theorem wQ {h:Heap}{vs:List Value}{ds:List D}{k:Nat}(W:VDs h φ μ vs ds)(hl:k + 1=vs.length):∃ v vs' d ds',vs=v::vs'/\ds=d::ds'/\VD h φ μ v d/\VDs h φ μ vs' ds'/\k=vs'.length:=by
 cases W with
 | nil=>exact absurd hl (Nat.succ_ne_zero k)
 | cons V W=>exact ⟨_,_,_,_,rfl,rfl,V,W,Nat.succ.inj hl⟩
theorem zEj {h:Heap}{vs:List Value}{ds:List D}(W:VDs h φ μ vs ds)(hl:0=vs.length):vs=[]/\ds=[]:=by
 cases W with
 | nil=>exact ⟨rfl,rfl⟩
 | cons _ _=>exact absurd hl.symm (Nat.succ_ne_zero _)
theorem zD8 {h:Heap}{vs:List Value}{ds:List D}(W:VDs h φ μ vs ds)(hl:2=vs.length):∃ v1 v2 d1 d2,vs=[v1,v2]/\ds=[d1,d2]/\VD h φ μ v1 d1/\VD h φ μ v2 d2:=by
 refine Eeeeeaaaa (wQ W hl) λ v1 vs1 d1 ds1 a1 b1 V1 W1 l1=>?_
 refine Eeeeeaaaa (wQ W1 l1) λ v2 vs2 d2 ds2 a2 b2 V2 W2 l2=>?_
 refine Ea (zEj W2 l2) λ a3 b3=>?_
 exact ⟨v1,v2,d1,d2,a1.trans (congrArg _ (a2.trans (congrArg _ a3))),b1.trans (congrArg _ (b2.trans (congrArg _ b3))),V1,V2⟩
theorem zFg {h:Heap}{vs:List Value}{ds:List D}(W:VDs h φ μ vs ds)(hl:3=vs.length):∃ v1 v2 v3 d1 d2 d3,vs=[v1,v2,v3]/\ds=[d1,d2,d3]/\VD h φ μ v1 d1/\VD h φ μ v2 d2/\VD h φ μ v3 d3:=by
 refine Eeeeeaaaa (wQ W hl) λ v1 vs1 d1 ds1 a1 b1 V1 W1 l1=>?_
 refine Eeeeeaaa (zD8 W1 l1) λ v2 v3 d2 d3 a2 b2 V2 V3=>?_
 exact ⟨v1,v2,v3,d1,d2,d3,a1.trans (congrArg _ a2),b1.trans (congrArg _ b2),V1,V2,V3⟩
theorem zBR {e:Expr}{x1 x2:Str}{i1 i2 k:Nat}{p1 p2 tp:Pos}(hA:A.handled=none)(h:SE C T n A F e x)(h1:bix F.ks x1=some i1)(h2:bix F.ks x2=some i2)(hne:i1≠i2)(hs:swapsWithSole [.Tuple [.Name x1 p1,.Name x2 p2] k tp] e pos.line F.env=pure false)
  (hw:swappedStores [.Tuple [.Name x1 p1,.Name x2 p2] k tp] e F.env=pure (some [x1,x2])):SX C T n A F (.Assign [.Tuple [.Name x1 p1,.Name x2 p2] k tp] e pos) (.asg (.tup [.pt (.nm i1),.pt (.nm i2)]) x):=λ ρ σ Q hw' s φ μ R I=>by
 refine Assign_Tuple_swapped ((h ρ σ _ hw').seq R I λ s' φ' μ' v d σ' G V q=>?_) hs hw
 refine Eeeeaaaa (Ja V q) λ a vs ds ev ht W hl hw=>?_
 refine Eeeeeaaa (zD8 W hl) λ v1 v2 d1 d2 a1 b1 V1 V2=>?_
 rw [a1] at ht
 rw [b1] at hw
 rw [ev,show [x1,x2].length=[v1,v2].toArray.size from rfl]
 refine unpackItems_tuple hA ht λ h' hs=>?_
 have kk:∀ b o,s'.heap.get? b=some o->h'.get? b=some o:=λ b o e=>hs b o (Nat.ne_of_lt (Heap.lt_size e)) e
 refine Ea (G.rel.grow kk) λ R' X=>?_
 have G1:=Go.of_ext (tk:=s'.toks) G.fr R' X
 have hw2:Q .next ((ρ.set i2 (some d2)).set i1 (some d1)) σ':=List.set_comm _ _ hne▸(show Q .next ((ρ.set i1 (some d1)).set i2 (some d2)) σ' from hw)
 exact wpAny_mono (zAx (Q:=λ ρ σ=>Q .next ρ σ) h1 h2 R' G1.fr (X.vd V1) (X.vd V2) hw2) (λ _ s'' hh=>Eeeeea hh λ φ₂ μ₂ ρ₂ σ₂ G₂ q₂=>⟨φ₂,μ₂,_,ρ₂,σ₂,(G.trans G1).trans G₂,.next,q₂⟩) λ _ _ e=>e
theorem zBw {e:Expr}{x1 x2 x3:Str}{i1 i2 i3 k:Nat}{p1 p2 p3 tp:Pos}(hA:A.handled=none)(h:SE C T n A F e x)(h1:bix F.ks x1=some i1)(h2:bix F.ks x2=some i2)(h3:bix F.ks x3=some i3)(hne:i1≠i2/\i1≠i3/\i2≠i3)(hs:swapsWithSole [.Tuple [.Name x1 p1,.Name x2 p2,.Name x3 p3] k tp] e pos.line F.env=pure false)
  (hw:swappedStores [.Tuple [.Name x1 p1,.Name x2 p2,.Name x3 p3] k tp] e F.env=pure (some [x1,x2,x3])):SX C T n A F (.Assign [.Tuple [.Name x1 p1,.Name x2 p2,.Name x3 p3] k tp] e pos) (.asg (.tup [.pt (.nm i1),.pt (.nm i2),.pt (.nm i3)]) x):=λ ρ σ Q hw' s φ μ R I=>by
 refine Assign_Tuple_swapped ((h ρ σ _ hw').seq R I λ s' φ' μ' v d σ' G V q=>?_) hs hw
 refine Eeeeaaaa (Ja V q) λ a vs ds ev ht W hl hw=>?_
 obtain ⟨v1,v2,v3,d1,d2,d3,a1,b1,V1,V2,V3⟩:=zFg W hl
 rw [a1] at ht
 rw [b1] at hw
 rw [ev,show [x1,x2,x3].length=[v1,v2,v3].toArray.size from rfl]
 refine unpackItems_tuple hA ht λ h' hs=>?_
 have kk:∀ b o,s'.heap.get? b=some o->h'.get? b=some o:=λ b o e=>hs b o (Nat.ne_of_lt (Heap.lt_size e)) e
 refine Ea (G.rel.grow kk) λ R' X=>?_
 have G1:=Go.of_ext (tk:=s'.toks) G.fr R' X
 have hw2:Q .next (((ρ.set i1 (some d1)).set i2 (some d2)).set i3 (some d3)) σ':=hw
 rw [List.set_comm _ _ hne.1,List.set_comm _ _ hne.2.1,List.set_comm _ _ hne.2.2] at hw2
 exact wpAny_mono (zE6 (Q:=λ ρ σ=>Q .next ρ σ) h1 h2 h3 R' G1.fr (X.vd V1) (X.vd V2) (X.vd V3) hw2) (λ _ s'' hh=>Eeeeea hh λ φ₂ μ₂ ρ₂ σ₂ G₂ q₂=>⟨φ₂,μ₂,_,ρ₂,σ₂,(G.trans G1).trans G₂,.next,q₂⟩) λ _ _ e=>e
theorem zC9 {tgt iter:Expr}{body:List Stmt}{t:Pt}{it:Ex}{ys:List St}(hA:A.handled=none)(ht:trP F.ks tgt=some t)(hi:SI C T n A F tgt iter it)(hb:SS C T n A F body ys)(hf:∀ x,foldedSetIterable iter F.env x=pure x):SX C T n A F (.For tgt iter body [] pos) (.for t it ys):=λ ρ σ Q hw s φ μ R I=>by
 refine wpAny_For ?_ hf
 refine hi ρ σ _ hw s φ μ _ R I λ itv s' φ' μ' σ' own src xs It Sr G W hit N hfr hsr hst hq=>?_
 exact zA1 (n:=n) W hA ht hb I hfr G hit N hsr hst hq.2
end
section
variable {C:Cx}{T:Tabs}{F:Fm}{A:Around}{n:Nat}{s s' s₀ s₁:Shared}{φ φ':Addr->Prop}{μ μ':List Addr}{ρ ρ':Rho}{σ σ':zA}{h h':Heap}
theorem WH {fr:List Addr}(R:Rel C T h φ μ σ)(hf:∀ b,b∈fr->b∉μ/\¬ φ b/\∃ o,h.get? b=some o/\FrO o)(st:(hideAll h fr).StaysIn h')(up:h.UpToSlots h'):Rel C T h' φ μ σ/\Ext h φ μ h' φ μ [] fr:=by
 have k:∀ c o,c∉fr->h.get? c=some o->h'.get? c=some o:=λ c o m e=>st c o (hideAll_get _ e m)
 have sl:∀ b,b∈fr->∀ o,h.get? b=some o->∃ sl,h'.get? b=some {o with slots:=sl}:=λ b m o e=>by
  refine Eea (hf b m).2.2 λ o' e' q=>?_
  rw [e] at e';cases e'
  exact up b o e λ vs z=>by refine Eee q λ es nn z'=>?_;rw [z'] at z;cases z
 refine Ea (R.butL (λ b m=>(hf b m).1) (λ b m=>(hf b m).2.1) k λ b m=>?_) λ R' X=>?_
 ·refine Eea (hf b m).2.2 λ o e _=>?_
  refine Ee (sl b m o e) λ x q=>?_
  exact ⟨_,q⟩
 ·refine ⟨R',X.frz,X.new,X.pre,X.fresh,X.ex,λ b o e _ _=>?_⟩
  by_cases m:b∈fr
  ·exact .inr ⟨m,sl b m o e⟩
  ·exact .inl (k b o m e)
noncomputable def PX (C:Cx)(T:Tabs)(F:Fm)(s:Shared)(φ:Addr->Prop)(μ:List Addr)(X:zA->Prop)(e:Value)(s':Shared):Prop :=
 ∃ s₁ φ' μ' ρ' σ',Go C T F s φ μ s₁ φ' μ' ρ' σ'/\X σ'/\uU T.exc s₁ e s'
noncomputable def SR (C:Cx)(T:Tabs)(n:Nat)(A:Around)(F:Fm)(st:Stmt)(x:St):Prop:=∀ ρ σ X,rxS C T n x ρ σ X->∀ (s:Shared) (φ:Addr->Prop) (μ:List Addr),Rel C T s.heap φ μ σ->FrI F s.heap φ μ ρ->wpAny (model C.prog C.w) A (exec st F.env) (λ _ _=>False) (PX C T F s φ μ X) s
noncomputable def SSR (C:Cx)(T:Tabs)(n:Nat)(A:Around)(F:Fm)(b:List Stmt)(xs:List St):Prop:=∀ ρ σ X,rxSs C T n xs ρ σ X->∀ (s:Shared) (φ:Addr->Prop) (μ:List Addr),Rel C T s.heap φ μ σ->FrI F s.heap φ μ ρ->wpAny (model C.prog C.w) A (execs b F.env) (λ _ _=>False) (PX C T F s φ μ X) s
theorem PX.up {X:zA->Prop}{e:Value}{s'':Shared}(G:Go C T F s φ μ s' φ' μ' ρ' σ')(h:PX C T F s' φ' μ' X e s''):PX C T F s φ μ X e s'':=by
 obtain ⟨s₁,φ₂,μ₂,ρ₂,σ₂,G₂,q,m⟩:=h
 exact ⟨s₁,φ₂,μ₂,ρ₂,σ₂,G.trans G₂,q,m⟩
theorem zBN:SSR C T n A F [] []:=λ _ _ _ h=>h.elim
theorem Vg {st:Stmt}{sts:List Stmt}{x:St}{xs:List St}(h1:SR C T n A F st x):SSR C T n A F (st::sts) (x::xs):=λ ρ σ X h s φ μ R I =>
 wpAny_execs_cons (wpAny_mono (h1 ρ σ X h s φ μ R I) (λ _ _ e=>e.elim) λ _ _ e=>e)
theorem zDZ {c:Expr}{z:Ex}{pos:Pos}{sa sb:List Stmt}{ya yb:List St}(hc:SB C T n A F c z)(ha:SSR C T n A F sa ya)(hb:SSR C T n A F sb yb):SR C T n A F (.If c sa sb pos) (.ite z ya yb):=λ ρ σ X hw s φ μ R I=>by
 refine wpAny_If (wpAny_mono ((hc ρ σ _ hw).seq (X:=λ b s'=>wpAny (model C.prog C.w) A (execs (if b then sa else sb) F.env) (λ _ _=>False) (PX C T F s φ μ X) s') R I λ s' φ' μ' r σ' G q=>?_) (λ b s' hb=>?_) λ _ _ e=>e)
 ·cases r with
  | true=>exact wpAny_mono (ha ρ σ' X (q.t rfl) s' φ' μ' G.rel G.fr) (λ _ _ e=>e) λ _ _ e=>PX.up G e
  | false=>exact wpAny_mono (hb ρ σ' X (q.f rfl) s' φ' μ' G.rel G.fr) (λ _ _ e=>e) λ _ _ e=>PX.up G e
 ·cases b <;> exact hb
end
section
variable {C:Cx}{T:Tabs}{F:Fm}{A:Around}{n:Nat}{s s' s₀ s₁:Shared}{φ φ':Addr->Prop}{μ μ':List Addr}{ρ ρ':Rho}{σ σ':zA}{h h':Heap}{X:Addr}
theorem excType {e:Addr}{oe:Obj}{M:Model}(he:h.get? e=some oe)(hc:oe.cls=.ref X):Looks M h (typeOf (.ref e)) (.ref X):=hc▸(Looks.ld he).andThen .now
theorem Xb {env:Env}{x:Sem Value}{P:Value->Shared->Prop}(O:ExcOk C X)(hh:A.handled=none)(h:wpAny (model C.prog C.w) A x (λ v s'=>∃ s₁,uU X s₁ v s'/\C.K.In s'.heap/\P v s') NoE s):wpAny (model C.prog C.w) A (raiseStmt env (some x) none) (λ _ _=>False) P s:=by
 unfold raiseStmt
 refine wpAny_bind (wpAny_mono h (λ v s' hv=>?_) λ _ _ e=>e.elim)
 obtain ⟨s₁,⟨e,h',tk,oe,vs,a0,rfl,rfl,kp,new,he,hc,hd,h0,h1⟩,K,p⟩:=hv
 obtain ⟨hp,g,d,t,os⟩:=s₁
 have nc:∀ c,oe.data≠.cls c:=λ c q=>by rw [hd] at q;cases q
 have t1:Looks (model C.prog C.w) h' (typeOf (.ref e)) (.ref X):=excType he hc
 have i1:Looks (model C.prog C.w) h' (isInstance (.ref e) (.type "BaseException")) true:=t1.andThen (looks_mroIn K O.base)
 refine wpAny_bind (wpAny_pure (wpAny_bind (wpAny_holding ?_)))
 unfold excFromValue isExcClass
 refine wpAny_bind (wpAny_bind (ks_wpAny_isType_inst he nc ?_))
 refine wpAny_pure ?_
 refine wpAny_bind (i1.here ?_)
 refine wpAny_pure ?_
 refine wpAny_bind (ks_wpAny_isType_inst he nc ?_)
 unfold raisedInstance
 refine wpAny_bind (wpAny_bind (t1.here (wpAny_bind ((looks_typeIn K O.typ).here (wpAny_pure ?_)))))
 unfold setFlight
 refine wpAny_bind (wpAny_bind (wpAny_field he hd h1 (wpAny_pure ?_)))
 exact wpAny_raiseNew_none hh p
theorem zCn {g:Nat}{gx:Str}{d:D}{es:List Expr}{xs:List Ex}{np cp rp:Pos}(Y:C.Good)(TT:TOk C T)(hA:Room n A)(hx:T.exc≠0)(hk:F.env.kindOf gx=some .globalImplicit)(hg:T.glob[g]?=some (gx,d))(SS:SL C T n A F es xs)(hp:es.all zT=true) :
  SR C T n A F (.Raise (some (.Call (.Name gx np) es [] cp)) none rp) (.rai g xs):=λ ρ σ X hw s φ μ R I=>by
 refine Eaa hw λ hn hw1 hw2=>?_
 refine Eea hw1 λ gx' hg' hd=>?_
 rw [hg] at hg'
 cases hg'
 have O:=TT.exc hx
 refine rwE (arm_exec_Raise ..) ?_
 refine wpAny_bind (wpAny_standAt (Xb O hA.hd ?_))
 refine wpAny_bind (wpAny_mono ?_ (λ v s₃ h₃=>wpAny_bind (wpAny_standAt (wpAny_pure h₃))) λ _ _ e=>e)
 refine rwE (arm_eval_Call_Name' ..) ?_
 refine wpAny_bind (wpAny_mono (Jg (Q:=λ d σ'=>d=.fn T.exc/\σ'=σ) Y R I hk (TT.glob g _ _ hg) hd ⟨rfl,rfl⟩) (λ v s' hv=>?_) λ _ _ e=>e)
 (refine Eeeeeaaa (hv) λ φ' μ' d σ' G V q4q=>?_;try clear hv;obtain rfl:=q4q;intro q5q;obtain rfl:=q5q)
 cases V.ifn
 refine qo hp ((SS cp ρ σ' _ hw2).seq G.rel G.fr λ s'' φ'' μ'' vs ds σ'' G' V' q'=>⟨⟨Y.X.keeps G'.rel.keep,λ a' e=>by cases e;exact O.kept⟩,?_⟩)
 refine Eaa q' λ _ hl q2=>?_
 have hvl:=ZX V'
 obtain ⟨wv,sv,rfl⟩:∃ a b,vs=[a,b]:=by
  have:=hvl.trans hl
  cases vs with
  | nil=>cases this
  | cons a r=>cases r with
   | nil=>cases this
   | cons b r=>cases r with
    | nil=>exact ⟨a,b,rfl⟩
    | cons _ _=>cases this
 refine wpAny_mono (O.made A s'' wv sv (hA.le hn) G'.rel.keep) (λ v s₃ m=>?_) λ _ _ e=>e
 refine ⟨s'',m,?_,s'',φ'',μ'',ρ,σ'',G.trans G',q2,m⟩
 obtain ⟨e,h',tk,oe,vs',a0,rfl,rfl,kp,_⟩:=m
 exact Frag.In.keeps (Y.X.keeps G'.rel.keep) kp
theorem zDH {f:Addr}{fd:FuncData}{ps:List Str}{ks:List (Str×NameKind)}{body:List Stmt}{ds:List D}{X:zA->Prop}(Y:C.Good)(O:FnOk C f fd ps ks body)(hds:ds.length=ps.length)
  (h:∀ (F:Fm) (A:Around),F.ks=ks->F.env.scope=fd.scope->A.frames=some F.fs->(∃ fs,F.fs=F.env::fs)->F.env.frame=some F.env.locals->Room n A->∀ (s:Shared) (φ:Addr->Prop) (μ:List Addr),Rel C T s.heap φ μ σ->FrI F s.heap φ μ (qT ds ks.length)->wpAny (model C.prog C.w) A (execs body F.env) (λ _ _=>False) (PX C T F s φ μ X) s):SatRaise C T (n + 1) f ds σ X:=by
 refine ⟨by refine Eeee (O.at_) λ oc od sl ho=>?_;unfold keepIn;simp only [ho],λ A s φ μ vs r ou R V=>xr Y O hds r ou R V λ F h₁ tk₁ hk hs E R₁ I=>?_⟩
 refine wpAny_mono (h F _ hk hs E.deep E.tops E.fr E.room _ φ μ R₁ I) (λ _ _ e=>e.elim) λ e s' hp=>?_
 obtain ⟨s₁,φ',μ',ρ',σ',G,q,a,h',tk,oe,ws,a0,rfl,rfl,kp,new,he,hc,hd,h0,h1⟩:=hp
 obtain ⟨fs,hfs,hF⟩:=E.fs
 have X':Ext s.heap φ μ s₁.heap φ' μ' [] (frA A):=E.back (R.grow E.keep).2 G.ext
 have fr:∀ b,b∈frL F.fs->(s.heap.get? b=none∨b∈frA A)/\b∉μ'/\¬ φ' b/\∃ o,s₁.heap.get? b=some o/\FrO o:=λ b m=>by
  refine Eea (List.mem_filterMap.mp m) λ v hv hL=>?_
  refine ⟨?_,?_⟩
  ·rw [hF] at hv
   rcases List.mem_cons.mp hv with rfl | hv
   ·rw [E.fr] at hL;exact .inl (so hL▸E.L)
   ·exact .inr (by refine rwE (Q6 hfs) ?_;exact List.mem_filterMap.mpr ⟨v,hv,hL⟩)
  ·obtain ⟨_,L,h2,h3⟩:=G.fr.outs v hv
   rw [hL] at h2
   cases so h2
   rcases h3 with rfl | ⟨o,ho,hfo,hm,hf,_⟩
   ·refine Eea (G.fr.loc) λ m' hn _=>?_
    refine Eeeeaa hn λ o es ep ho hdd _=>?_
    exact ⟨G.fr.Lμ,G.fr.Lφ,o,ho,es,ep,hdd⟩
   ·exact ⟨hm,hf,o,ho,hfo⟩
 obtain ⟨B,hB⟩:∃ B,B=hideAll s₁.heap (frL F.fs):=⟨_,rfl⟩
 have ob:∀ b o,B.get? b=some o->s₁.heap.get? b=some o:=λ b o e=>by rw [hB] at e;exact of_hideAll _ e
 have nb:B.get? a=none:=by
  cases z:B.get? a with
  | none=>rfl
  | some o=>rw [ob _ _ z] at new;cases new
 have ff:∀ l:List Env,(∀ v,v∈l->v∈F.fs)->h'.FunFrames B l:=by
  intro l
  induction l with
  | nil=>intro _;trivial
  | cons v l ih =>
   intro hm
   obtain ⟨k1,L,h2,h3⟩:=G.fr.outs v (hm v List.mem_cons_self)
   have hin:L∈frL F.fs:=List.mem_filterMap.mpr ⟨v,hm v List.mem_cons_self,h2⟩
   obtain ⟨o,ho,es,ep,q⟩:=(fr L hin).2.2.2
   exact ⟨k1,⟨L,o,h2,by refine rwE hB ?_;exact hideAll_none _ hin,kp _ _ ho,λ vs z=>by rw [q] at z;cases z⟩,ih λ u hu=>hm u (List.mem_cons_of_mem _ hu)⟩
 refine wpAny_leaving_firstW (base:=B) (outer:=fs) (hF▸E.deep) (ff _ λ v m=>hF▸m) E.fr he (λ b o e=>kp b o (ob b o e)) nb hd h1 h0 λ h₂ L=>?_
 obtain ⟨l1,l2,l3,l4⟩:=L
 (refine Eee (G.st) λ hh tk' q23q=>?_;obtain rfl:=q23q)
 refine ⟨a,h₂,tk,φ',μ',σ',hh,frL F.fs,a0,rfl,rfl,G.rel,X',fr,?_,λ b o e hnf=>l4 b o (kp b o e) hnf,q⟩
 (refine rwE hfs ?_;refine rwS hB ?_)
 exact ⟨l1,nb,l2.2.2,hc▸l3⟩
end
section
variable {C:Cx}{T:Tabs}{F:Fm}{A:Around}{n:Nat}{s s' s₀ s₁:Shared}{φ φ':Addr->Prop}{μ μ':List Addr}{ρ ρ':Rho}{σ σ':zA}{pos pos' apos:Pos}{e e' a b c o:Expr}{x y z xa xb xc xo:Ex}{es:List Expr}{xs:List Ex}
theorem xJ:∀ (ifsA:List Expr) (env:Env),(forIn ifsA false λ c r=>if r=true then do let ok<-isTrue c env (eval c env);pure (ForInStep.yield ok) else pure (ForInStep.yield r):Sem Bool)=pure false:=by
 intro ifsA
 induction ifsA with
 | nil =>
  intro _
  exact rfl
 | cons c cs ih =>
  intro env
  refine rwE (List.forIn_cons ..) ?_
  simp only [Bool.false_eq_true,if_false,pure_bind]
  exact ih env
theorem Wj {ifsA:List Expr}{ifs:List Ex}(h:Each (SB C T n A F) ifsA ifs):∀ ρ σ K,wpIfs C T n ifs ρ σ K->DB C T F A (Z9 ifsA F.env) ρ σ K:=by
 induction h with
 | nil=>exact λ ρ σ K h s φ μ R I=>wpAny_pure ⟨φ,μ,σ,Go.refl R I,h⟩
 | cons hc r ih =>
  intro ρ σ K h s φ μ R I
  unfold Z9
  refine rwE (List.forIn_cons ..) ?_
  simp only [if_true,bind_assoc,pure_bind]
  refine wpAny_bind ((hc ρ σ _ h).seq R I λ s' φ' μ' b σ' G q=>?_)
  cases b with
  | true=>exact wpAny_mono (ih ρ σ' K q s' φ' μ' G.rel G.fr) (λ b s₂ hb=>PB.up G hb) λ _ _ e=>e
  | false =>
   refine rwE (xJ ..) ?_
   exact wpAny_pure ⟨φ',μ',σ',G,q⟩
noncomputable def yF (e:Expr):Bool:=!Nat.beq e.ctorIdx 7
theorem JZ {e:Expr}{env:Env}(h:yF e=true):∀ x,foldedSetIterable e env x=pure x:=λ x=>by
 cases e <;> first | rfl | exact absurd h Bool.false_ne_true
inductive EachG (C:Cx)(T:Tabs)(n:Nat)(A:Around)(F:Fm):List Comprehension->List Gn->Prop
 | nil:EachG C T n A F [] []
 | cons {target iter:Expr} {ifsA:List Expr} {rest:List Comprehension} {t:Pt} {it:Ex} {ifs:List Ex} {gs:List Gn}:trP F.ks target=some t->SI C T n A F target iter it->Each (SB C T n A F) ifsA ifs->yF iter=true->EachG C T n A F rest gs->EachG C T n A F (⟨target,iter,ifsA,0⟩::rest) (.mk t it ifs::gs)
theorem EachG.async {rest:List Comprehension}{gs:List Gn}(h:EachG C T n A F rest gs)(g':Comprehension)(e:rest[0]?=some g'):g'.is_async=0:=by
 cases h with
 | nil=>exact nn e
 | cons _ _ _ _ _=>cases so e;rfl
theorem zBn {Fo:Fm}{ρo:Rho}{wr:List Addr}{B:Addr}{W₀:Rho->zA->(D->zA->Prop)->Prop}{elt:Expr}{gensA:List Comprehension}{scope:Scope}(hown:F.own=[])(hBL:B≠F.env.locals)(hBc:∀ y c,F.env.cells.lookup y=some c->c≠B)
  (hA:A.handled=none) (hA':A.mark none=A) (hW:∀ ρ σ K,W₀ ρ σ K->DX C T F A (eval elt F.env) ρ σ K) :
  ∀ {rest:List Comprehension} {gs:List Gn},EachG C T n A F rest gs->∀ d,gensA.drop (d + 1)=rest->(Z6 gs).Nodup->jR C T n A F Fo ρo wr B W₀ gs (ZK (.ListComp elt gensA scope pos) elt (gensA[d + 1]?) d B F.env):=by
 intro rest gs h
 induction h with
 | nil =>
  intro d hd _
  have:gensA[d + 1]?=none:=by
   have:=congrArg (·[0]?) hd
   simpa using this
  refine rwE this ?_
  exact vE hown hBL hBc hW
 | @cons target iter ifsA rest t it ifs gs ht hi hf hs r ih =>
  intro d hd nd
  have e0:gensA[d + 1]?=some ⟨target,iter,ifsA,0⟩:=by
   have:=congrArg (·[0]?) hd
   simpa using this
  have e1:gensA.drop (d + 1 + 1)=rest:=by
   have:=congrArg (·.drop 1) hd
   simpa using this
  simp only [Z6] at nd
  have e2:∀ g',gensA[d + 2]?=some g'->g'.is_async=0:=λ g' h=>by
   refine r.async g' ?_
   refine rwS e1 ?_;simpa using h
  refine rwE e0 ?_
  exact wm hown hBL hBc e0 e2 (JZ hs) hA hA' ht (λ j h1 h2=>(List.nodup_append.mp nd).2.2 j h1 j h2 rfl) hi (Wj hf) (ih (d + 1) e1 (List.nodup_append.mp nd).2.1)
theorem Wb {elt target iter:Expr}{ifsA:List Expr}{restA:List Comprehension}{scope:Scope}{t:Pt}{it:Ex}{ifs:List Ex}{gs:List Gn}{xe:Ex}(hA:A.handled=none)(hA':A.mark none=A)(K:CompOk F.ks scope)(ht:trP (zj F.ks scope) target=some t)(hs:yF iter=true)(hi:SI C T n A F target iter it)
  (hifs:∀ L,Each (SB C T n A (zW F scope L)) ifsA ifs) (hgs:∀ L,EachG C T n A (zW F scope L) restA gs) (he:∀ L,SE C T n A (zW F scope L) elt xe)
  (hix:∀ j,j∈Z2 t∨j∈Z6 gs->F.ks.length<=j/\j<F.ks.length + (zU scope).length) (nd:(Z2 t++Z6 gs).Nodup) :
  CompSpec C T n A F elt target iter ifsA restA scope pos t it ifs gs λ ρ σ K=>wpE C T n xe ρ σ K :=
 ⟨K,(hgs 0).async,ht,hix,λ j h1 h2=>(List.nodup_append.mp nd).2.2 j h1 j h2 rfl,JZ hs,hi,λ L=>Wj (hifs L),λ L B ρ hB hc=>zBn (gensA:=⟨target,iter,ifsA,0⟩::restA) rfl hB hc hA hA' (λ ρ σ K h=>he L ρ σ K h) (hgs L) 0 (by simp) (List.nodup_append.mp nd).2.1⟩
theorem zAQ {elt target iter:Expr}{ifsA:List Expr}{restA:List Comprehension}{scope:Scope}{t:Pt}{it:Ex}{ifs:List Ex}{gs:List Gn}{xe:Ex}{m:Bool}{x:Str}{iy k:Nat}{px spos:Pos}(hA:A.handled=none)(S:CompSpec C T n A F elt target iter ifsA restA scope pos t it ifs gs λ ρ σ K=>wpE C T n xe ρ σ K)
  (hsw:swapsWith (.ListComp elt (⟨target,iter,ifsA,0⟩::restA) scope pos) (some (.Name x px)) spos.line F.env=pure true) (hi:F.ks[iy]?=some (x,.local)) (hk:k=(zU scope).length) :
  SX C T n A F (.Assign [.Name x px] (.ListComp elt (⟨target,iter,ifsA,0⟩::restA) scope pos) spos) (.asg (.pt (.nm iy)) (.comp m k xe t it ifs gs)):=λ ρ σ Q h=>by
 subst hk
 refine WT (m:=m) S hA hsw hi ?_
 cases m <;> exact h
end
end Mine
namespace Mine
open PySem PySem.Calls PyProof PyProof.Rows PySem.W PySem.SeqAt
set_option tactic.hygienic false
structure TX where
 mu:List (Nat×Nat)
 td:List (Nat×Nat)
noncomputable def j3 (l:List (Nat×Nat))(p:Pos):Bool:=l.any λ q=>q.1==p.line&&q.2==p.col
noncomputable def gix:List (Str×D)->Str->Option Nat
 | [],_=>none
 | (y,_)::r,x=>if (y==x)=true then some 0 else (gix r x).map (· + 1)
noncomputable def nix:List Str->Str->Option Nat
 | [],_=>none
 | y::r,x=>if (y==x)=true then some 0 else (nix r x).map (· + 1)
theorem YW:∀ {l:List (Str×D)} {x:Str} {i:Nat},gix l x=some i->∃ d,l[i]?=some (x,d)
 | [],_,_,e=>nn e
 | (y,d)::r,x,i,e=>by
  have e:(if (y==x)=true then some 0 else (gix r x).map (· + 1))=some i:=e
  by_cases h:(y==x)=true
  ·rw [if_pos h] at e;cases so e;cases eq_of_beq h;exact ⟨d,rfl⟩
  ·rw [if_neg h] at e
   (refine Eea (Option.map_eq_some_iff.mp e) λ j hj q1q=>?_;obtain rfl:=q1q)
   exact YW (l:=r) hj
theorem qr:∀ {l:List Str} {x:Str} {i:Nat},nix l x=some i->l[i]?=some x
 | [],_,_,e=>nn e
 | y::r,x,i,e=>by
  have e:(if (y==x)=true then some 0 else (nix r x).map (· + 1))=some i:=e
  by_cases h:(y==x)=true
  ·rw [if_pos h] at e;cases so e;cases eq_of_beq h;rfl
  ·rw [if_neg h] at e
   (refine Eea (Option.map_eq_some_iff.mp e) λ j hj q3q=>?_;obtain rfl:=q3q)
   exact qr (l:=r) hj
noncomputable def Jq (x:Str):Bool:=x==("__debug__":Str) || x==("__classdict__":Str)
noncomputable def gdE {α:Type}(b:Bool)(k:b=true->Option α):Option α:=match b,k with
 | true,k=>k rfl
 | false,_=>none
noncomputable def bnE {α β:Type}(o:Option α)(k:∀ a,o=some a->Option β):Option β:=match o,k with
 | some a,k=>k a rfl
 | none,_=>none
noncomputable def opE {α β:Type}(o:Option α)(k:∀ a,o=some a->Option β)(d:o=none->Option β):Option β:=match o,k,d with
 | some a,k,_=>k a rfl
 | none,_,d=>d rfl
noncomputable def orE {α:Type}(o d:Option α):Option α:=@Option.casesOn _ (λ _=>Option α) o d (λ a=>some a)
section
variable {β:Expr->Type}
noncomputable def Xu (e:Expr)(k:∀ es c p,Option (β (.Tuple es c p))):Option (β e):=by
 apply @Expr.casesOn (λ e=>Option (β e)) e <;> intros <;> first | exact k _ _ _ | exact none
noncomputable def JO (e:Expr)(k:∀ f es kw p,Option (β (.Call f es kw p))):Option (β e):=by
 apply @Expr.casesOn (λ e=>Option (β e)) e <;> intros <;> first | exact k _ _ _ _ | exact none
noncomputable def QT (e:Expr)(k:∀ x p,Option (β (.Name x p))):Option (β e):=by
 apply @Expr.casesOn (λ e=>Option (β e)) e <;> intros <;> first | exact k _ _ | exact none
noncomputable def Ut (e:Expr)(k:∀ o nm p,Option (β (.Attribute o nm p))):Option (β e):=by
 apply @Expr.casesOn (λ e=>Option (β e)) e <;> intros <;> first | exact k _ _ _ | exact none
noncomputable def zEd (e:Expr)(k:∀ l u st p,Option (β (.Slice l u st p))):Option (β e):=by
 apply @Expr.casesOn (λ e=>Option (β e)) e <;> intros <;> first | exact k _ _ _ _ | exact none
noncomputable def zE4 (e:Expr)(k:∀ c i p,Option (β (.Constant c i p))):Option (β e):=by
 apply @Expr.casesOn (λ e=>Option (β e)) e <;> intros <;> first | exact k _ _ _ | exact none
noncomputable def zEm (e:Expr)(k:∀ a c sp p,Option (β (.FormattedValue a c sp p))):Option (β e):=by
 apply @Expr.casesOn (λ e=>Option (β e)) e <;> intros <;> first | exact k _ _ _ _ | exact none
noncomputable def Yv (e:Expr)(k:∀ x i p,Option (β (.Constant (.str x) i p))):Option (β e):=zE4 e λ c i p=>by
 apply @Const.casesOn (λ c=>Option (β (.Constant c i p))) c <;> intros <;> first | exact k _ _ _ | exact none
noncomputable def zCT (e:Expr)(k:∀ a p,Option (β (.FormattedValue a (-1) none p))):Option (β e):=zEm e λ a c sp p =>
 @Option.casesOn _ (λ sp=>Option (β (.FormattedValue a c sp p))) sp (if h:c=-1 then h▸k a p else none) λ _=>none
end
noncomputable def zDz (ks:List (Option Expr)):={ss:List Str // KeyL ks ss}
noncomputable def zAA:(ks:List (Option Expr))->Option (zDz ks)
 | []=>some ⟨[],.nil⟩
 | o::r=>match o with
  | none=>none
  | some e=>Yv (β:=λ e=>zDz (some e::r)) e λ x _ _=>(zAA r).bind λ s=>some ⟨x::s.1,.cons s.2⟩
noncomputable def zEZ (T:Tabs)(ss:List Str):={ns:List Nat // ns.map (T.names[·]?)=ss.map some}
noncomputable def zDg (T:Tabs):(ss:List Str)->Option (zEZ T ss)
 | []=>some ⟨[],rfl⟩
 | x::r=>bnE (nix T.names x) λ k hk=>(zDg T r).bind λ ns=>some ⟨k::ns.1,by (refine rwE List.map_cons ?_;refine rwE List.map_cons ?_;refine rwE ns.2 ?_;refine rwE (qr hk) ?_;rfl)⟩
structure FOk (A:Around)(F:Fm)(sc:Scope)(ks:List (Str×NameKind)):Prop where
 ks:F.ks=ks
 gl:∀ x,sc.names.lookup x=some .globalImplicit->F.env.kindOf x=some .globalImplicit
 fr:A.frames=some F.fs
theorem FOk.comp {A:Around}{F:Fm}{sc:Scope}{ks:List (Str×NameKind)}(h:FOk A F sc ks)(scope:Scope)(L:Addr):FOk A (zW F scope L) scope (zj ks scope) :=
 ⟨by show zj F.ks scope=_;(refine rwE h.ks ?_;rfl),(λ x hx=>by
  show Env.kindOf (compEnvC scope _ L F.env) x=_
  exact (qf (env:=F.env) hx).trans (by simp)),h.fr⟩
structure EC (T:Tabs)(sc:Scope)(ks:List (Str×NameKind)) where
 C:Cx
 n:Nat
 A:Around
 F:Fm
 Y:C.Good
 TT:TOk C T
 hA:Room n A
 K:FOk A F sc ks
noncomputable def EC.comp {T:Tabs}{sc:Scope}{ks:List (Str×NameKind)}(c:EC T sc ks)(scope:Scope)(L:Addr):EC T scope (zj ks scope):=⟨c.C,c.n,c.A,zW c.F scope L,c.Y,c.TT,c.hA,c.K.comp scope L⟩
section
variable (T:Tabs)(X:TX)(sc:Scope)(ks:List (Str×NameKind))
noncomputable def RE (e:Expr):={x:Ex // ∀ c:EC T sc ks,SE c.C T c.n c.A c.F e x/\SB c.C T c.n c.A c.F e x}
noncomputable def RL (es:List Expr):={xs:List Ex // ∀ c:EC T sc ks,Each (SE c.C T c.n c.A c.F) es xs/\Each (SB c.C T c.n c.A c.F) es xs}
noncomputable def RI (target iter:Expr):={x:Ex // ∀ c:EC T sc ks,SI c.C T c.n c.A c.F target iter x}
noncomputable def RG (gs:List Comprehension):={xs:List Gn // ∀ c:EC T sc ks,EachG c.C T c.n c.A c.F gs xs}
end
section
variable {T:Tabs}{X:TX}{sc:Scope}{ks:List (Str×NameKind)}
theorem QL {C:Cx}{F:Fm}{A:Around}{n:Nat}{es:List Expr}{xs:List Ex}(hs:es.all zT=true)(h:Each (SE C T n A F) es xs):SL C T n A F es xs:=by
 induction h with
 | nil=>exact WX
 | cons p r ih=>exact JT (ZY (Z3 hs).1) p (ih (Z3 hs).2)
theorem qn {b:Bool}(h:(!b)=true):b=false:=by
 cases b with
 | true=>exact Bool.noConfusion h
 | false=>rfl
theorem yf {x:Str}(h:(!Jq x)=true):(x==("__debug__":Str))=false/\(x==("__classdict__":Str))=false:=(Bool.or_eq_false_iff).mp (qn h)
theorem ZQ {C:Cx}{F:Fm}{A:Around}{n:Nat}{e:Expr}{x:Ex}(h:SE C T n A F e x)(hp:∀ env whole,isTrue e env whole=(do let v<-whole;standAt e.pos;holding [v] (truthy v)):=by intros;rfl):SE C T n A F e x/\SB C T n A F e x:=⟨h,h.sb hp⟩
theorem vC (A:Around):A.mark none=A:=rfl
noncomputable def Qn (tr:∀ e,Option (RE T sc ks e)):(es:List Expr)->Option (RL T sc ks es)
 | []=>some ⟨[],λ _=>⟨.nil,.nil⟩⟩
 | e::r=>(tr e).bind λ x=>(Qn tr r).bind λ xs=>some ⟨x.1::xs.1,λ c=>⟨.cons (x.2 c).1 (xs.2 c).1,.cons (x.2 c).2 (xs.2 c).2⟩⟩
noncomputable def zFc (tr:∀ e,Option (RE T sc ks e))(target iter:Expr):Option (RI T sc ks target iter) :=
 Xu (β:=λ t=>RI T sc ks t iter) target λ elts x1 tp=>JO (β:=λ i=>RI T sc ks (.Tuple elts x1 tp) i) iter λ f es kw p=>match es with
  | []=>none
  | a::es=>match es with
   | []=>none
   | b::es=>match es with
    | _::_=>none
    | []=>match kw with
     | _::_=>none
     | []=>QT (β:=λ f=>RI T sc ks (.Tuple elts x1 tp) (.Call f [a,b] [] p)) f λ z np =>
      gdE ([a,b].all zT) λ hs=>gdE (sc.names.lookup z==some .globalImplicit) λ h1=>gdE (!Jq z) λ h2=>bnE (gix T.glob z) λ g hg=>gdE (((T.glob[g]?).bind λ p=>Ul p.2)==some .zip) λ h3=>(tr a).bind λ xa=>(tr b).bind λ xb =>
       some ⟨.zip xa.1 xb.1,λ c=>Ee (YW hg) λ d hd=>zDk c.Y c.TT c.hA.hd (by rw [hd] at h3;cases vK (eq_of_beq h3);exact hd) (c.K.gl _ (eq_of_beq h1)) (yf h2).1 (xa.2 c).1 (xb.2 c).1 hs⟩
noncomputable def trI (tr:∀ e,Option (RE T sc ks e))(target iter:Expr):Option (RI T sc ks target iter) :=
 orE (zFc tr target iter) ((tr iter).bind λ x=>some ⟨x.1,λ c=>(x.2 c).1.si c.hA.hd⟩)
noncomputable def trG (tr:∀ e,Option (RE T sc ks e)):(gs:List Comprehension)->Option (RG T sc ks gs)
 | []=>some ⟨[],λ _=>.nil⟩
 | g::r=>gdE (g.is_async==0) λ h1=>gdE (yF g.iter) λ h2=>bnE (trP ks g.target) λ t h3=>(trI tr g.target g.iter).bind λ it=>(Qn tr g.ifs).bind λ ifs=>(trG tr r).bind λ gs =>
  some ⟨.mk t it.1 ifs.1::gs.1,λ c=>by
   obtain ⟨a,b,e,i⟩:=g
   cases (show i=0 from eq_of_beq h1)
   exact .cons (by refine rwE c.K.ks ?_;exact h3) (it.2 c) (ifs.2 c).2 h2 (gs.2 c)⟩
noncomputable def zFt (a b:Nat)(ix:List Nat):Bool:=ix.all (λ j=>decide (a<=j)&&decide (j<a + b))&&decide ix.Nodup
structure CR (elt target iter:Expr)(ifsA:List Expr)(restA:List Comprehension)(scope:Scope)(T:Tabs)(sc:Scope)(ks:List (Str×NameKind)) where
 t:Pt
 it:Ex
 ifs:List Ex
 gs:List Gn
 xe:Ex
 ok:∀ (pos:Pos) (c:EC T sc ks),CompSpec c.C T c.n c.A c.F elt target iter ifsA restA scope pos t it ifs gs λ ρ σ K=>wpE c.C T c.n xe ρ σ K
noncomputable def W9 (tr:∀ (sc:Scope) (ks:List (Str×NameKind)) e,Option (RE T sc ks e))(elt target iter:Expr)(ifsA:List Expr)(restA:List Comprehension)(scope:Scope):Option (CR elt target iter ifsA restA scope T sc ks) :=
 gdE (Uz ks scope) λ h1=>gdE (yF iter) λ h2=>bnE (trP (zj ks scope) target) λ t h3=>(trI (tr sc ks) target iter).bind λ it=>(Qn (tr scope (zj ks scope)) ifsA).bind λ ifs=>(trG (tr scope (zj ks scope)) restA).bind λ gs=>(tr scope (zj ks scope) elt).bind λ xe =>
  gdE (zFt ks.length (zU scope).length (Z2 t++Z6 gs.1)) λ h4=>some ⟨t,it.1,ifs.1,gs.1,xe.1,λ pos c=>Wb c.hA.hd (vC _) (CompOk.of (by refine rwE c.K.ks ?_;exact h1)) (by refine rwE c.K.ks ?_;exact h3) h2 (it.2 c) (λ L=>(ifs.2 (c.comp scope L)).2) (λ L=>gs.2 (c.comp scope L)) (λ L=>(xe.2 (c.comp scope L)).1)
   (λ j hj=>Ea (zR (List.all_eq_true.mp (zR h4).1 j (List.mem_append.mpr hj))) λ a b=>by refine rwE c.K.ks ?_;exact ⟨of_decide_eq_true a,of_decide_eq_true b⟩) (of_decide_eq_true (zR h4).2)⟩
noncomputable def zCk (X:TX)(tr:∀ e,Option (RE T sc ks e))(f:Expr)(es:List Expr)(pos:Pos):Option (RE T sc ks (.Call f es [] pos)):=gdE (es.all zT) λ hs=>(Qn tr es).bind λ xs=>orE
 (QT (β:=λ f=>RE T sc ks (.Call f es [] pos)) f λ id p=>(tr (.Name id p)).bind λ xf=>some ⟨.call (j3 X.mu pos) xf.1 xs.1,λ c=>ZQ (zBa c.Y c.hA c.K.fr (xf.2 c).1 (QL hs (xs.2 c).1) hs)⟩)
 (Ut (β:=λ f=>RE T sc ks (.Call f es [] pos)) f λ o nm apos=>gdE (qu o) λ h1=>gdE (apos.endLine==pos.line) λ h2=>gdE (Nat.ble es.length 29) λ h3=>bnE (nix T.names nm) λ k hk=>(tr o).bind λ xo=>some ⟨.meth xo.1 k xs.1,λ c=>ZQ (zBV c.Y c.TT c.hA c.K.fr (qr hk) (xo.2 c).1 (QL hs (xs.2 c).1) hs h1 h2 (Nat.lt_succ_of_le (Nat.le_of_ble_eq_true h3)))⟩)
noncomputable def zFv (tr:∀ e,Option (RE T sc ks e)){o:Expr}(xo:RE T sc ks o)(i:Expr)(pos:Pos):Option (RE T sc ks (.Subscript o i pos)) :=
 orE (Yv (β:=λ i=>RE T sc ks (.Subscript o i pos)) i λ nm _ _=>bnE (nix T.names nm) λ k hk=>some ⟨.subk xo.1 k,λ c=>ZQ (zBK c.TT (qr hk) (xo.2 c).1)⟩)
  (orE (zEd (β:=λ i=>RE T sc ks (.Subscript o i pos)) i λ l u st p=>match st with
   | some _=>none
   | none=>match l with
    | none=>match u with
     | none=>none
     | some b=>(tr b).bind λ x=>some ⟨.upto xo.1 x.1,λ c=>ZQ (zAS (xo.2 c).1 (x.2 c).1)⟩
    | some a=>match u with
     | none=>(tr a).bind λ x=>some ⟨.from xo.1 x.1,λ c=>ZQ (zBr (xo.2 c).1 (x.2 c).1)⟩
     | some _=>none)
   (gdE (UX i) λ h=>(tr i).bind λ x=>some ⟨.sub xo.1 x.1,λ c=>ZQ (zDs c.hA (xo.2 c).1 (x.2 c).1 h)⟩))
noncomputable def trE (X:TX):Nat->(sc:Scope)->(ks:List (Str×NameKind))->(e:Expr)->Option (RE T sc ks e)
 | 0,_,_,_=>none
 | f + 1,sc,ks,e=>match e with
  | .Constant k _ _=>bnE (wM k) λ p h=>some ⟨.c p,λ _=>ZQ (Uj h)⟩
  | .Name x _=>gdE (!Jq x) λ h1=>opE (aix ks x) (λ i h=>some ⟨.nm i,λ c=>ZQ (zBq (by refine rwE c.K.ks ?_;exact h) (yf h1).1 (yf h1).2)⟩)
   λ _=>gdE (sc.names.lookup x==some .globalImplicit) λ h2=>bnE (gix T.glob x) λ g hg=>some ⟨.gl g,λ c=>Ee (YW hg) λ _ hd=>ZQ (zAN c.Y c.TT hd (c.K.gl _ (eq_of_beq h2)) (yf h1).1)⟩
  | .Tuple es _ _=>gdE (es.all zT) λ h1=>gdE (Nat.ble es.length 100000) λ h2=>(Qn (trE X f sc ks) es).bind λ xs=>some ⟨.tup xs.1,λ c=>ZQ (zCr (QL h1 (xs.2 c).1) (Nat.le_of_ble_eq_true h2))⟩
  | .List es pos=>gdE (es.all zT) λ h1=>gdE (Nat.ble es.length 100000) λ h2=>(Qn (trE X f sc ks) es).bind λ xs=>some ⟨.lst (j3 X.mu pos) xs.1,λ c=>ZQ (zCb (QL h1 (xs.2 c).1) (Nat.le_of_ble_eq_true h2))⟩
  | .Dict keys es pos=>match keys with
   | []=>match es with
    | []=>match j3 X.td pos with
     | true=>some ⟨.dct 2 [] [],λ c=>ZQ (XC c.Y (.inr rfl))⟩
     | false=>some ⟨.dct 1 [] [],λ c=>ZQ (XC c.Y (.inl rfl))⟩
    | _::_=>none
   | k::r=>(zAA (k::r)).bind λ ss=>(Qn (trE X f sc ks) es).bind λ xs=>(zDg T ss.1).bind λ ns=>gdE (Nat.beq (k::r).length es.length) λ h1=>gdE (Nat.ble (k::r).length 15) λ h2=>gdE (decide ss.1.Nodup) λ h3 =>
    some ⟨.dct 0 ns.1 xs.1,λ c=>ZQ (zD2 c.Y ss.2 (xs.2 c).1 (List.cons_ne_nil _ _) (Nat.eq_of_beq_eq_true h1) (Nat.le_of_ble_eq_true h2) (of_decide_eq_true h3) ns.2)⟩
  | .BinOp a op b _=>(trE X f sc ks a).bind λ x=>(trE X f sc ks b).bind λ y=>some ⟨.bin op x.1 y.1,λ c=>ZQ (zDt (x.2 c).1 (y.2 c).1)⟩
  | .UnaryOp op a _=>(trE X f sc ks a).bind λ x=>match op with
   | .USub=>some ⟨.neg x.1,λ c=>ZQ (zCh (x.2 c).1)⟩
   | .Not=>some ⟨.not x.1,λ c=>⟨zCE (x.2 c).1,zDy (x.2 c).2⟩⟩
   | _=>none
  | .BoolOp op es _=>(Qn (trE X f sc ks) es).bind λ xs=>match op with
   | .And=>some ⟨.and xs.1,λ c=>⟨zCM (xs.2 c).1,zCm (xs.2 c).2⟩⟩
   | .Or=>some ⟨.or xs.1,λ c=>⟨zEs (xs.2 c).1,zDT (xs.2 c).2⟩⟩
  | .IfExp a b d _=>(trE X f sc ks a).bind λ z=>(trE X f sc ks b).bind λ x=>(trE X f sc ks d).bind λ y=>some ⟨.ite z.1 x.1 y.1,λ c=>⟨zDC (z.2 c).2 (x.2 c).1 (y.2 c).1,zC5 (z.2 c).2 (x.2 c).2 (y.2 c).2⟩⟩
  | .Compare a ops bs _=>match ops with
   | []=>none
   | op::r=>match r with
    | _::_=>none
    | []=>match bs with
     | []=>none
     | b::s=>match s with
      | _::_=>none
      | []=>gdE (!behindInMarks op b) λ h=>(trE X f sc ks a).bind λ x=>(trE X f sc ks b).bind λ y=>some ⟨.cmp x.1 op y.1,λ c=>⟨zCz c.hA (x.2 c).1 (y.2 c).1 (qn h),zCo c.hA (x.2 c).1 (y.2 c).1 (qn h)⟩⟩
  | .Call fn es kw pos=>match kw with
   | []=>zCk X (trE X f sc ks) fn es pos
   | _::_=>none
  | .Attribute o nm _=>gdE (qu o) λ h=>bnE (nix T.names nm) λ k hk=>(trE X f sc ks o).bind λ xo=>some ⟨.attr xo.1 k,λ c=>ZQ (zB4 c.Y c.TT (qr hk) (xo.2 c).1 h)⟩
  | .Subscript o i pos=>(trE X f sc ks o).bind λ xo=>zFv (trE X f sc ks) xo i pos
  | .ListComp elt gs scope pos=>match gs with
   | []=>none
   | ⟨target,iter,ifsA,a⟩::restA=>gdE (a==0) λ h=>(W9 (sc:=sc) (ks:=ks) (trE X f) elt target iter ifsA restA scope).bind λ r=>some ⟨.comp (j3 X.mu pos) (zU scope).length r.xe r.t r.it r.ifs r.gs,λ c=>by
     cases (show a=0 from eq_of_beq h)
     exact ZQ (zAU c.hA.hd rfl (r.ok pos c))⟩
  | .JoinedStr vs pos=>match vs with
   | []=>none
   | v::r=>match r with
    | []=>none
    | w::r=>match r with
     | _::_=>none
     | []=>orE (Yv (β:=λ v=>RE T sc ks (.JoinedStr [v,w] pos)) v λ pre k p1=>zCT (β:=λ w=>RE T sc ks (.JoinedStr [.Constant (.str pre) k p1,w] pos)) w λ a p2 =>
      gdE (PyData.strOk pre) λ h1=>gdE (Nat.ble pre.length 1000) λ h2=>(trE X f sc ks a).bind λ x=>some ⟨.fstr pre x.1,λ c=>ZQ (zBz ⟨h1,Nat.le_of_ble_eq_true h2⟩ (x.2 c).1)⟩)
      (zCT (β:=λ v=>RE T sc ks (.JoinedStr [v,w] pos)) v λ a p2=>Yv (β:=λ w=>RE T sc ks (.JoinedStr [.FormattedValue a (-1) none p2,w] pos)) w λ post k p1=>gdE (PyData.strOk post) λ h1=>gdE (Nat.ble post.length 1000) λ h2=>(trE X f sc ks a).bind λ x=>some ⟨.fsuf x.1 post,λ c=>ZQ (zBe ⟨h1,Nat.le_of_ble_eq_true h2⟩ (x.2 c).1)⟩)
  | _=>none
end
end Mine
namespace Mine
open PySem PySem.Calls PyProof PyProof.Rows PySem.W PySem.SeqAt
set_option tactic.hygienic false
noncomputable def kOf (sc:Scope)(x:Str):Option NameKind:=sc.names.lookup x
noncomputable def blk (sc:Scope):ScopeKind:=if sc.kind.isAnnotationScope then .function else sc.kind
noncomputable def swC (sc scope:Scope)(t:Str)(p pos:Pos):Bool:=blk sc==.function&&kOf sc t==some .local&&p.line==pos.line&&!(scope.names.any λ (n,k)=>n==t&&(k==.local || k==.cell))
theorem Wu {sc scope:Scope}{env:Env}{elt:Expr}{gs:List Comprehension}{pos p:Pos}{t:Str}{l:Nat}(h:env.scope=sc):swapsWith (.ListComp elt gs scope pos) (some (.Name t p)) l env=pure (swC sc scope t p pos):=by
 subst h;rfl
noncomputable def Uo (e:Expr):Bool:=!Nat.ble 24 e.ctorIdx || Nat.beq e.ctorIdx 26
noncomputable def W0 (e:Expr):Bool:=!Nat.beq e.ctorIdx 25
theorem yX {t v:Expr}{env:Env}(h:Uo t=true):swappedStores [t] v env=pure none:=by
 cases t <;> first | rfl | exact absurd h Bool.false_ne_true
theorem Vp {ts:List Expr}{k:Nat}{p:Pos}{v:Expr}{env:Env}(h:W0 v=true):swappedStores [.Tuple ts k p] v env=pure none:=by
 cases v <;> first | rfl | exact absurd h Bool.false_ne_true
noncomputable def ZM (sc:Scope)(ts:List Expr):List Str :=
 let line:=(ts.head?.map (·.pos.line)).getD 0
 ts.filterMap fun
  | .Name id pos=>if kOf sc id==some .local&&pos.line==line then some id else none
  | _=>none
noncomputable def swS (sc:Scope)(ts vs:List Expr):Option (Option (List Str)) :=
 if (!(ts.length==2 || ts.length==3) || vs.length != ts.length || blk sc != .function)=true then some none
 else if (vs.any λ | .Starred ..=>true | _=>false)=true then some none
 else if ((ZM sc ts).length != ts.length || (ZM sc ts).eraseDups.length != (ZM sc ts).length)=true then some none
 else if (vs.all (foldedForSure 8))=true then some none
 else if (vs.all (constantsAlone 8))=true then none
 else some (some (ZM sc ts))
theorem Wk {sc:Scope}{env:Env}{ts vs:List Expr}{k k':Nat}{p p':Pos}{r:Option (List Str)}(h:env.scope=sc)(e:swS sc ts vs=some r):swappedStores [.Tuple ts k p] (.Tuple vs k' p') env=pure r:=by
 subst h
 have e0:swappedStores [.Tuple ts k p] (.Tuple vs k' p') env=(if (!(ts.length==2 || ts.length==3) || vs.length != ts.length || blk env.scope != .function)=true then pure none
  else if (vs.any λ | .Starred ..=>true | _=>false)=true then pure none
  else if ((ZM env.scope ts).length != ts.length || (ZM env.scope ts).eraseDups.length != (ZM env.scope ts).length)=true then pure none
  else if (vs.all (foldedForSure 8))=true then pure none
  else if (vs.all (constantsAlone 8))=true then (do unsupported "assign.tuple-of-constant-expressions:order-of-the-stores";return some (ZM env.scope ts))
  else pure (some (ZM env.scope ts))):=rfl
 refine rwE e0 ?_
 unfold swS at e
 by_cases h1:(!(ts.length==2 || ts.length==3) || vs.length != ts.length || blk env.scope != .function)=true
 ·rw [if_pos h1] at e ⊢;cases so e;rfl
 rw [if_neg h1] at e ⊢
 by_cases h2:(vs.any λ | .Starred ..=>true | _=>false)=true
 ·rw [if_pos h2] at e ⊢;cases so e;rfl
 rw [if_neg h2] at e ⊢
 by_cases h3:((ZM env.scope ts).length != ts.length || (ZM env.scope ts).eraseDups.length != (ZM env.scope ts).length)=true
 ·rw [if_pos h3] at e ⊢;cases so e;rfl
 rw [if_neg h3] at e ⊢
 by_cases h4:(vs.all (foldedForSure 8))=true
 ·rw [if_pos h4] at e ⊢;cases so e;rfl
 rw [if_neg h4] at e ⊢
 by_cases h5:(vs.all (constantsAlone 8))=true
 ·rw [if_pos h5] at e;exact nn e
 rw [if_neg h5] at e ⊢
 cases so e;rfl
section
variable {C:Cx}{T:Tabs}{F:Fm}{A:Around}{n:Nat}{s s' s₀ s₁:Shared}{φ φ':Addr->Prop}{μ μ':List Addr}{ρ ρ':Rho}{σ σ':zA}{h h':Heap}{X:Addr}
theorem zA3 {e:Addr}{oe:Obj}{Q:Bool->Shared->Prop}{E:Value->Shared->Prop}(O:ExcOk C X)(K:C.K.In s.heap)(he:s.heap.get? e=some oe)(hc:oe.cls=.ref X)(q:Q true s):wpAny (model C.prog C.w) A (excMatches (.ref e) (.ref X)) Q E s:=by
 obtain ⟨hp,g,d,t,os⟩:=s
 refine Ee (Option.isSome_iff_exists.mp O.cls) λ cd hcd=>?_
 obtain ⟨oD,hD,hdd⟩:∃ oD,hp.get? X=some oD/\oD.data=.cls cd:=by
  unfold clsIn at hcd
  cases hl:C.K.lookup X with
  | none=>rw [hl] at hcd;cases hcd
  | some o =>
   rw [hl] at hcd
   obtain ⟨c,d,dat,sl⟩:=o
   cases dat with
   | cls cd'=>exact ⟨_,K _ _ hl,congrArg _ (so hcd)⟩
   | _=>cases hcd
 unfold excMatches isExcClass
 refine wpAny_bind ((looks_instIn K O.ntup).here ?_)
 refine wpAny_bind (wpAny_pure ?_)
 refine wpAny_bind ?_
 refine rwE (List.forIn_cons ..) ?_
 refine wpAny_bind (wpAny_bind (wpAny_bind (ks_wpAny_isType_cls hD hdd ?_)))
 refine (looks_mroIn K O.base).here ?_
 refine wpAny_pure ?_
 refine wpAny_pure ?_
 refine wpAny_bind ((excType he hc:Looks (model C.prog C.w) hp _ _).here ?_)
 refine rwE (List.forIn_cons ..) ?_
 refine wpAny_bind (wpAny_bind (wpAny_bind ((looks_mroIn K O.self).here ?_)))
 exact wpAny_pure (wpAny_pure (wpAny_pure q))
noncomputable def FX (C:Cx)(T:Tabs)(A:Around)(F:Fm)(ρ:Rho)(s:Shared)(φ:Addr->Prop)(μ:List Addr)(X:zA->Prop)(e:Value)(s':Shared):Prop :=
 ∃ s₁ φ' μ' σ',Go C T F s φ μ s₁ φ' μ' ρ σ'/\zC4 C T A s₁ φ' μ' X e s'
theorem zAB {k:Nat}{nm:Str}{o:Expr}{xo:Ex}{es:List Expr}{xs:List Ex}{apos pos:Pos}{X:zA->Prop}(Y:C.Good)(TT:TOk C T)(hA:Room n A)(hF:A.frames=some F.fs)(hk:T.names[k]?=some nm)(ho:SE C T n A F o xo)(ha:SL C T n A F es xs)(hp:es.all zT=true)(hb:qu o=true)(hl:(apos.endLine==pos.line)=true)(hlen:es.length<30)
  (h:Jk C T n xo k xs ρ σ X) (R:Rel C T s.heap φ μ σ) (I:FrI F s.heap φ μ ρ):wpAny (model C.prog C.w) A (eval (.Call (.Attribute o nm apos) es [] pos) F.env) (λ _ _=>False) (FX C T A F ρ s φ μ X) s:=by
 refine J2 hp hb hlen ((ho ρ σ _ h).seq R I λ s' φ' μ' v g σ' G V q=>?_)
 (refine Eeeaaa (ye V q) λ i a q10q=>?_;obtain rfl:=q10q;intro q11q;obtain rfl:=q11q;intro hai q)
 refine Eea (q.h) λ mo hi q=>?_
 cases mo with
 | inst K j =>
  refine J4 (W:=λ f ds σ''=>SatRaise C T n f ds σ'' X) Y TT hk ha hp hl G.rel G.fr hai hi ⟨K,j,rfl,q⟩ λ f ds σ'' s'' φ'' μ'' vs sc G' V'=>⟨sc.keep,wpAny_call (codeAny_mono (sc.code A s'' φ'' μ'' vs hA (G'.fr.out hF) G'.rel V') λ r s₃ hr=>?_)⟩
  cases r with
  | error e=>exact ⟨s'',φ'',μ'',σ'',G.trans G',hr⟩
  | ok f=>exact hr.elim
 | _=>exact q.elim
structure TopF (F:Fm)(sc:Scope):Prop where
 sc:F.env.scope=sc
 top:∃ fs,F.fs=F.env::fs
 fr:F.env.frame=some F.env.locals
theorem zDb {tgt e:Expr}{apos hpos np p1 p2 p3 pos:Pos}{gx xnm sx:Str}{g i k kk:Nat}{d:D}{xs:List St}{o:Ex}{args:List Ex}{sc:Scope}(Y:C.Good)(TT:TOk C T)(hF:A.frames=some F.fs)(top:TopF F sc)(hx:T.exc≠0)
  (hb:SS C T n A F [.Assign [tgt] e apos] xs) (hsole:swapsWithSole [tgt] e apos.line F.env=pure false) (hsw:swappedStores [tgt] e F.env=pure none)
  (hr:∀ ρ σ X (s:Shared) (φ:Addr->Prop) (μ:List Addr),Jk C T n o k args ρ σ X->Rel C T s.heap φ μ σ->FrI F s.heap φ μ ρ->wpAny (model C.prog C.w) A (eval e F.env) (λ _ _=>False) (FX C T A F ρ s φ μ X) s)
  (hk:F.env.kindOf gx=some .globalImplicit) (hg:T.glob[g]?=some (gx,d)) (hi:bix F.ks xnm=some i) (hs:PyData.strOk sx=true) :
  SX C T n A F (.Try [.Assign [tgt] e apos] [.ExceptHandler (some (.Name gx np)) none [.Assign [.Name xnm p1] (.Constant (.str sx) kk p2) p3] hpos] [] [] pos) (.try_ xs o k args g i (.str sx)):=λ ρ σ Q hw s φ μ R I=>by
 rcases hw with hw | ⟨hx',hw⟩
 ·refine wpAny_Try_except (wpAny_mono (hb ρ σ Q hw s φ μ R I) (λ f s₁ hf=>?_) λ _ _ e=>False.elim e)
  refine Eeeeeeaa hf λ φ' μ' fl ρ' σ' G hfl q=>?_
  cases hfl with
  | next=>exact wpAny_execs_nil ⟨φ',μ',_,ρ',σ',G,.next,q⟩
  | cont=>exact ⟨φ',μ',_,ρ',σ',G,.cont,q⟩
  | ret V=>exact ⟨φ',μ',_,ρ',σ',G,.ret V,q⟩
 ·refine Eea hx' λ gx' hg' hd=>?_
  rw [hg] at hg'
  cases hg'
  have O:=TT.exc hx
  refine wpAny_Try_except (wpAny_execs_cons (wpAny_Assign_stores (wpAny_mono (hr ρ σ _ s φ μ hw R I) (λ _ _ e=>e.elim) λ e s' hp=>?_) hsole hsw))
  obtain ⟨s₁,φ',μ',σ',G,a,h',tk,φ₂,μ₂,σ₂,H,fr,a0,rfl,rfl,R2,X2,hfr,fl,up,q⟩:=hp
  refine Ee top.top λ outer ho=>?_
  have hF':A.frames=some (F.env::outer):=ho▸hF
  rw [hF'] at fl
  refine wpAny_looks_onW hF' top.fr fl λ h₄ held up4=>wpAny_landsW held λ h₅ fl5 up5=>?_
  have back:∀ {h₆:Heap},(hideAll H fr).StaysIn h₆->H.UpToSlots h₆->Rel C T h₆ φ₂ μ₂ σ₂/\Ext s₁.heap φ' μ' h₆ φ₂ μ₂ [] (frL F.fs):=λ st u=>by
   refine Ea (WH R2 (λ b m=>(hfr b m).2) st u) λ R6 X6=>?_
   exact ⟨R6,Q6 hF▸X2.stepF X6 (λ _ m=>nomatch m) λ b m=>(hfr b m).1⟩
  have u5:=(up.trans up4).trans up5
  refine Ea (back fl5.1 u5) λ R5 X5=>?_
  have G5:Go C T F s φ μ {s₁ with heap:=h₅,toks:=tk} φ₂ μ₂ ρ σ₂:=G.trans (Go.of_extF G.fr R5 X5)
  refine wpAny_handleBy_cons (codeAny_handlers_test (xx Y R5 G5.fr hk (TT.glob g _ _ hg) hd λ v V=>?_)) (λ z=>by cases z)
  cases V.ifn
  obtain ⟨ob,hob,hobc⟩:=fl5.there
  refine zA3 O (Y.X.keeps R5.keep) hob hobc ?_
  refine codeAny_handlers_suite (lands_againW fl5 λ h₇ fl7 up7=>?_)
  refine Ea (back fl7.1 (u5.trans up7)) λ R7 X7=>?_
  have G7:Go C T F s φ μ {s₁ with heap:=h₇,toks:=tk} φ₂ μ₂ ρ σ₂:=G.trans (Go.of_extF G.fr R7 X7)
  have one:=Jr (va (pos:=p3) (Uj (C:=C) (T:=T) (n:=n) (A:=A.mark (some (.ref a))) (F:=F) (k:=.str sx) (i:=kk) (pos:=p2) (p:=.str sx) (by show gd _ _=_;refine rwE hs ?_;rfl)) (Jt (pos:=p1) hi) rfl rfl (yX rfl)) Uk ρ σ₂ Q q {s₁ with heap:=h₇,toks:=tk} φ₂ μ₂ R7 G7.fr
  exact wpAny_noRaise (wpAny_mono one (λ f s₂ h2=>PS.up G7 h2) λ _ _ e=>e)
end
end Mine
namespace Mine
open PySem PySem.Calls PyProof PyProof.Rows PySem.W PySem.SeqAt
set_option tactic.hygienic false
section
variable (T:Tabs)(sc:Scope)(ks:List (Str×NameKind))
noncomputable def RT (e:Expr):={t:Tg // ∀ c:EC T sc ks,SA c.C T c.n c.A c.F e t}
noncomputable def RTs (es:List Expr):={ts:List Tg // ∀ c:EC T sc ks,EachT (SA c.C T c.n c.A c.F) es ts}
noncomputable def RS (s:Stmt):={x:St // ∀ c:EC T sc ks,TopF c.F sc->SX c.C T c.n c.A c.F s x/\SR c.C T c.n c.A c.F s x}
noncomputable def RSs (s:List Stmt):={x:List St // ∀ c:EC T sc ks,TopF c.F sc->SS c.C T c.n c.A c.F s x/\SSR c.C T c.n c.A c.F s x}
end
structure TS where
 X:TX
 fz:List Nat
section
variable {T:Tabs}{sc:Scope}{ks:List (Str×NameKind)}
noncomputable def zCQ (tr:∀ e,Option (RT T sc ks e)):(es:List Expr)->Option (RTs T sc ks es)
 | []=>some ⟨[],λ _=>.nil⟩
 | e::r=>gdE (zT e) λ h=>(tr e).bind λ x=>(zCQ tr r).bind λ xs=>some ⟨x.1::xs.1,λ c=>.cons (x.2 c) h (xs.2 c)⟩
noncomputable def trT (X:TX)(f':Nat):Nat->(e:Expr)->Option (RT T sc ks e)
 | 0,_=>none
 | f + 1,e=>match e with
  | .Name x _=>bnE (bix ks x) λ i h=>some ⟨.pt (.nm i),λ c=>Jt (by refine rwE c.K.ks ?_;exact h)⟩
  | .Tuple es _ _=>(zCQ (trT X f' f) es).bind λ ts=>some ⟨.tup ts.1,λ c=>zDo c.hA.hd (ts.2 c)⟩
  | .Attribute o nm _=>bnE (nix T.names nm) λ k hk=>(trE (T:=T) X f' sc ks o).bind λ xo=>some ⟨.attr xo.1 k,λ c=>zBH c.Y c.TT (qr hk) (xo.2 c).1⟩
  | .Subscript o a pos=>(trE (T:=T) X f' sc ks o).bind λ xo=>orE (Yv (β:=λ i=>RT T sc ks (.Subscript o i pos)) a λ nm _ _=>bnE (nix T.names nm) λ k hk=>some ⟨.subk xo.1 k,λ c=>zB3 c.TT (qr hk) (xo.2 c).1⟩)
    ((trE (T:=T) X f' sc ks a).bind λ x=>some ⟨.sub xo.1 x.1,λ c=>zDv c.hA (xo.2 c).1 (x.2 c).1⟩)
  | _=>none
noncomputable def wT (X:TX)(f:Nat)(tgt e:Expr)(pos:Pos)(hs:∀ F:Fm,F.env.scope=sc->swapsWithSole [tgt] e pos.line F.env=pure false)(hw:∀ F:Fm,F.env.scope=sc->swappedStores [tgt] e F.env=pure none):Option (RS T sc ks (.Assign [tgt] e pos)) :=
 gdE (zT tgt) λ h=>(trE (T:=T) X f sc ks e).bind λ x=>(trT X f f tgt).bind λ t=>some ⟨.asg t.1 x.1,λ c q=>⟨va (x.2 c).1 (t.2 c) h (hs _ q.sc) (hw _ q.sc),λ _ _ _ h=>False.elim h⟩⟩
noncomputable def yd (e:Expr):Option {q:Str×Pos // e=.Name q.1 q.2}:=QT (β:=λ e=>{q:Str×Pos // e=.Name q.1 q.2}) e λ x p=>some ⟨(x,p),rfl⟩
noncomputable def zFn (ts:List Expr):Option {q:Expr×Expr // ts=[q.1,q.2]}:=match ts with
 | []=>none
 | a::r=>match r with
  | []=>none
  | b::r=>match r with
   | []=>some ⟨(a,b),rfl⟩
   | _::_=>none
noncomputable def zDB (ts:List Expr):Option {q:Expr×Expr×Expr // ts=[q.1,q.2.1,q.2.2]}:=match ts with
 | []=>none
 | a::r=>match r with
  | []=>none
  | b::r=>match r with
   | []=>none
   | c::r=>match r with
    | []=>some ⟨(a,b,c),rfl⟩
    | _::_=>none
theorem ji {a b:Nat}(h:(!Nat.beq a b)=true):a≠b:=λ e=>by subst e;rw [Nat.beq_refl] at h;exact Bool.noConfusion h
theorem Zz {tgt e:Expr}{l:Nat}{env:Env}(h:Q4 e=true):swapsWithSole [tgt] e l env=pure false:=YQ h
theorem w2 {c:EC T sc ks}{ts:List Expr}{t1 t2 e:Expr}{k i1 i2:Nat}{p p1 p2 pos:Pos}{x1 x2:Str}{x:Ex}{names:List Str}(e0:ts=[t1,t2])(e1:t1=.Name x1 p1)(e2:t2=.Name x2 p2)(hx:SE c.C T c.n c.A c.F e x)(b1:bix ks x1=some i1)(b2:bix ks x2=some i2)(hn:(names==[x1,x2])=true)(d:(!Nat.beq i1 i2)=true)
  (hs:swapsWithSole [.Tuple ts k p] e pos.line c.F.env=pure false) (hw:swappedStores [.Tuple ts k p] e c.F.env=pure (some names)):SX c.C T c.n c.A c.F (.Assign [.Tuple ts k p] e pos) (.asg (.tup [.pt (.nm i1),.pt (.nm i2)]) x):=by
 subst e0 e1 e2
 cases eq_of_beq hn
 rw [<- c.K.ks] at b1 b2
 exact zBR c.hA.hd hx b1 b2 (ji d) hs hw
theorem w3 {c:EC T sc ks}{ts:List Expr}{t1 t2 t3 e:Expr}{k i1 i2 i3:Nat}{p p1 p2 p3 pos:Pos}{x1 x2 x3:Str}{x:Ex}{names:List Str}(e0:ts=[t1,t2,t3])(e1:t1=.Name x1 p1)(e2:t2=.Name x2 p2)(e3:t3=.Name x3 p3)(hx:SE c.C T c.n c.A c.F e x)(b1:bix ks x1=some i1)(b2:bix ks x2=some i2)(b3:bix ks x3=some i3)(hn:(names==[x1,x2,x3])=true)(d1:(!Nat.beq i1 i2)=true)(d2:(!Nat.beq i1 i3)=true)(d3:(!Nat.beq i2 i3)=true)
  (hs:swapsWithSole [.Tuple ts k p] e pos.line c.F.env=pure false) (hw:swappedStores [.Tuple ts k p] e c.F.env=pure (some names)):SX c.C T c.n c.A c.F (.Assign [.Tuple ts k p] e pos) (.asg (.tup [.pt (.nm i1),.pt (.nm i2),.pt (.nm i3)]) x):=by
 subst e0 e1 e2 e3
 cases eq_of_beq hn
 rw [<- c.K.ks] at b1 b2 b3
 exact zBw c.hA.hd hx b1 b2 b3 ⟨ji d1,ji d2,ji d3⟩ hs hw
noncomputable def trW (X:TX)(f:Nat)(ts:List Expr)(k:Nat)(p:Pos)(e:Expr)(pos:Pos)(names:List Str)(hs:∀ F:Fm,F.env.scope=sc->swapsWithSole [.Tuple ts k p] e pos.line F.env=pure false)(hw:∀ F:Fm,F.env.scope=sc->swappedStores [.Tuple ts k p] e F.env=pure (some names)):Option (RS T sc ks (.Assign [.Tuple ts k p] e pos)) :=
 (trE (T:=T) X f sc ks e).bind λ x=>orE
  ((zFn ts).bind λ q=>(yd q.1.1).bind λ n1=>(yd q.1.2).bind λ n2=>bnE (bix ks n1.1.1) λ i1 b1=>bnE (bix ks n2.1.1) λ i2 b2=>gdE (names==[n1.1.1,n2.1.1]) λ hn=>gdE (!Nat.beq i1 i2) λ d =>
   some ⟨.asg (.tup [.pt (.nm i1),.pt (.nm i2)]) x.1,λ c h=>⟨w2 q.2 n1.2 n2.2 (x.2 c).1 b1 b2 hn d (hs c.F h.sc) (hw c.F h.sc),λ _ _ _ h=>False.elim h⟩⟩)
  ((zDB ts).bind λ q=>(yd q.1.1).bind λ n1=>(yd q.1.2.1).bind λ n2=>(yd q.1.2.2).bind λ n3=>bnE (bix ks n1.1.1) λ i1 b1=>bnE (bix ks n2.1.1) λ i2 b2=>bnE (bix ks n3.1.1) λ i3 b3=>gdE (names==[n1.1.1,n2.1.1,n3.1.1]) λ hn=>gdE (!Nat.beq i1 i2) λ d1=>gdE (!Nat.beq i1 i3) λ d2=>gdE (!Nat.beq i2 i3) λ d3 =>
   some ⟨.asg (.tup [.pt (.nm i1),.pt (.nm i2),.pt (.nm i3)]) x.1,λ c h=>⟨w3 q.2 n1.2 n2.2 n3.2 (x.2 c).1 b1 b2 b3 hn d1 d2 d3 (hs c.F h.sc) (hw c.F h.sc),λ _ _ _ h=>False.elim h⟩⟩)
noncomputable def zFb (X:TX)(f:Nat)(pos:Pos)(elt:Expr)(gs:List Comprehension)(scope:Scope)(p:Pos)(x:Str)(px:Pos):Option (RS T sc ks (.Assign [.Name x px] (.ListComp elt gs scope p) pos)) :=
 orE (gdE (!swC sc scope x px p) λ hb=>wT X f _ _ pos (λ _ h=>(Wu (l:=pos.line) h).trans (by (refine rwE (qn hb) ?_;rfl))) (λ _ _=>yX rfl))
  (gdE (swC sc scope x px p) λ hb=>match gs with
   | []=>none
   | ⟨target,iter,ifsA,a⟩::restA=>gdE (a==0) λ ha=>bnE (bix ks x) λ iy _=>gdE (ks[iy]?==some (x,.local)) λ hk=>(W9 (T:=T) (sc:=sc) (ks:=ks) (trE X f) elt target iter ifsA restA scope).bind λ r =>
    some ⟨.asg (.pt (.nm iy)) (.comp (j3 X.mu p) (zU scope).length r.xe r.t r.it r.ifs r.gs),λ c h=>by
     cases (show a=0 from eq_of_beq ha)
     exact ⟨zAQ c.hA.hd (r.ok p c) ((Wu h.sc).trans (by (refine rwE hb ?_;rfl))) (by refine rwE c.K.ks ?_;exact eq_of_beq hk) rfl,λ _ _ _ h=>False.elim h⟩⟩)
noncomputable def zFp {β:Expr->Type}(e:Expr)(k:∀ elt gs scope p,Option (β (.ListComp elt gs scope p))):Option (β e):=by
 apply @Expr.casesOn (λ e=>Option (β e)) e <;> intros <;> first | exact k _ _ _ _ | exact none
noncomputable def trL (X:TX)(f:Nat)(tgt e:Expr)(pos:Pos):Option (RS T sc ks (.Assign [tgt] e pos)):=zFp (β:=λ e=>RS T sc ks (.Assign [tgt] e pos)) e λ elt gs scope p=>QT (β:=λ t=>RS T sc ks (.Assign [t] (.ListComp elt gs scope p) pos)) tgt λ x px=>zFb X f pos elt gs scope p x px
noncomputable def trA (X:TX)(f:Nat)(tgt e:Expr)(pos:Pos):Option (RS T sc ks (.Assign [tgt] e pos)) :=
 orE (trL X f tgt e pos) (gdE (Q4 e) λ hn=>orE (gdE (Uo tgt) λ h=>wT X f tgt e pos (λ _ _=>Zz hn) (λ _ _=>yX h))
  (Xu (β:=λ t=>RS T sc ks (.Assign [t] e pos)) tgt λ ts k p=>orE (gdE (W0 e) λ h=>wT X f _ e pos (λ _ _=>Zz hn) (λ _ _=>Vp h))
   (Xu (β:=λ e=>RS T sc ks (.Assign [.Tuple ts k p] e pos)) e λ vs k' p'=>bnE (swS sc ts vs) λ r hr=>match r,hr with
    | none,hr=>wT X f _ _ pos (λ _ _=>Zz rfl) (λ _ h=>Wk h hr)
    | some names,hr=>trW X f ts k p _ pos names (λ _ _=>Zz rfl) (λ _ h=>Wk h hr))))
noncomputable def UB (tr:∀ s,Option (RS T sc ks s)):(ss:List Stmt)->Option (RSs T sc ks ss)
 | []=>some ⟨[],λ _ _=>⟨Uk,zBN⟩⟩
 | s::r=>(tr s).bind λ x=>(UB tr r).bind λ xs=>some ⟨x.1::xs.1,λ c q=>⟨Jr (x.2 c q).1 (xs.2 c q).1,Vg (x.2 c q).2⟩⟩
noncomputable def zF0 {β:Stmt->Type}(ts:List Expr)(e:Expr)(p:Pos)(k:∀ t e p,Option (β (.Assign [t] e p))):Option (β (.Assign ts e p)) :=
 @List.casesOn _ (λ ts=>Option (β (.Assign ts e p))) ts none λ t r=>@List.casesOn _ (λ r=>Option (β (.Assign (t::r) e p))) r (k t e p) λ _ _=>none
noncomputable def wo {β:Stmt->Type}(s:Stmt)(k:∀ t e p,Option (β (.Assign [t] e p))):Option (β s):=by
 apply @Stmt.casesOn (λ s=>Option (β s)) s <;> intros <;> first | exact zF0 _ _ _ k | exact none
structure MR (T:Tabs)(sc:Scope)(ks:List (Str×NameKind))(e:Expr) where
 o:Ex
 k:Nat
 xs:List Ex
 ok:∀ c:EC T sc ks,∀ ρ σ X (s:Shared) (φ:Addr->Prop) (μ:List Addr),Jk c.C T c.n o k xs ρ σ X->Rel c.C T s.heap φ μ σ->FrI c.F s.heap φ μ ρ->wpAny (model c.C.prog c.C.w) c.A (eval e c.F.env) (λ _ _=>False) (FX c.C T c.A c.F ρ s φ μ X) s
noncomputable def zFf (tr:∀ e,Option (RE T sc ks e))(e:Expr):Option (MR T sc ks e):=JO (β:=MR T sc ks) e λ f es kw pos=>match kw with
 | _::_=>none
 | []=>gdE (es.all zT) λ hs=>(Qn tr es).bind λ xs=>Ut (β:=λ f=>MR T sc ks (.Call f es [] pos)) f λ o nm apos=>gdE (qu o) λ h1=>gdE (apos.endLine==pos.line) λ h2=>gdE (Nat.ble es.length 29) λ h3=>bnE (nix T.names nm) λ k hk=>(tr o).bind λ xo =>
  some ⟨xo.1,k,xs.1,λ c _ _ _ _ _ _ hw R I=>zAB c.Y c.TT c.hA c.K.fr (qr hk) (xo.2 c).1 (QL hs (xs.2 c).1) hs h1 h2 (Nat.lt_succ_of_le (Nat.le_of_ble_eq_true h3)) hw R I⟩
noncomputable def zEB (X:TX)(f:Nat)(b:Stmt)(h:ExceptHandler)(pos:Pos):Option (RS T sc ks (.Try [b] [h] [] [] pos)):=wo (β:=λ b=>RS T sc ks (.Try [b] [h] [] [] pos)) b λ tgt e apos=>match h with
 | .ExceptHandler ty nm hb hpos=>match ty with
  | none=>none
  | some t=>match nm with
   | some _=>none
   | none=>match hb with
    | []=>none
    | b::r=>match r with
     | _::_=>none
     | []=>QT (β:=λ t=>RS T sc ks (.Try [.Assign [tgt] e apos] [.ExceptHandler (some t) none [b] hpos] [] [] pos)) t λ gx np=>wo (β:=λ b=>RS T sc ks (.Try [.Assign [tgt] e apos] [.ExceptHandler (some (.Name gx np)) none [b] hpos] [] [] pos)) b λ t2 v p3 =>
      QT (β:=λ t2=>RS T sc ks (.Try [.Assign [tgt] e apos] [.ExceptHandler (some (.Name gx np)) none [.Assign [t2] v p3] hpos] [] [] pos)) t2 λ xnm p1=>Yv (β:=λ v=>RS T sc ks (.Try [.Assign [tgt] e apos] [.ExceptHandler (some (.Name gx np)) none [.Assign [.Name xnm p1] v p3] hpos] [] [] pos)) v λ sx kk p2 =>
      gdE (PyData.strOk sx) λ hs=>gdE (Q4 e) λ hn=>gdE (Uo tgt) λ hq=>gdE (T.exc != 0) λ hx=>gdE (sc.names.lookup gx==some .globalImplicit) λ h2=>bnE (gix T.glob gx) λ g hg=>bnE (bix ks xnm) λ i hi=>(zFf (trE X f sc ks) e).bind λ m=>(trA X f tgt e apos).bind λ x =>
       some ⟨.try_ [x.1] m.o m.k m.xs g i (.str sx),λ c q=>⟨Ee (YW hg) λ _ hd=>zDb c.Y c.TT c.K.fr q (bne_iff_ne.mp hx) (Jr (x.2 c q).1 Uk) (Zz hn) (yX hq) (m.ok c) (c.K.gl _ (eq_of_beq h2)) hd (by refine rwE c.K.ks ?_;exact hi) hs,λ _ _ _ h=>False.elim h⟩⟩
noncomputable def zDX (X:TX)(f:Nat)(e:Expr)(pos:Pos):Option (RS T sc ks (.Raise (some e) none pos)):=JO (β:=λ e=>RS T sc ks (.Raise (some e) none pos)) e λ c es kw p=>match kw with
 | _::_=>none
 | []=>QT (β:=λ c=>RS T sc ks (.Raise (some (.Call c es [] p)) none pos)) c λ gx np=>gdE (es.all zT) λ hs=>gdE (T.exc != 0) λ hx=>gdE (sc.names.lookup gx==some .globalImplicit) λ h2=>bnE (gix T.glob gx) λ g hg=>(Qn (trE X f sc ks) es).bind λ xs =>
  some ⟨.rai g xs.1,λ c _=>⟨λ _ _ _ h=>False.elim h,Ee (YW hg) λ _ hd=>zCn c.Y c.TT c.hA (bne_iff_ne.mp hx) (c.K.gl _ (eq_of_beq h2)) hd (QL hs (xs.2 c).1) hs⟩⟩
noncomputable def wG {s:Stmt}:RS T sc ks s:=⟨.raise,λ _ _=>⟨VS,λ _ _ _ h=>False.elim h⟩⟩
noncomputable def trS (Z:TS):Nat->(s:Stmt)->Option (RS T sc ks s)
 | 0,_=>none
 | f + 1,st=>match st with
  | .Expr e _=>gdE (Q4 e) λ h=>(trE (T:=T) Z.X f sc ks e).bind λ x=>some ⟨.expr x.1,λ c _=>⟨zAV (x.2 c).1 h,λ _ _ _ h=>False.elim h⟩⟩
  | .Assign ts e pos=>match ts with
   | []=>none
   | tgt::r=>match r with
    | []=>trA Z.X f tgt e pos
    | _::_=>none
  | .If c a b _=>(trE (T:=T) Z.X f sc ks c).bind λ z=>(UB (trS Z f) a).bind λ x=>(UB (trS Z f) b).bind λ y=>some ⟨.ite z.1 x.1 y.1,λ c q=>⟨zEw (z.2 c).2 (x.2 c q).1 (y.2 c q).1,zDZ (z.2 c).2 (x.2 c q).2 (y.2 c q).2⟩⟩
  | .For tgt iter body orelse _=>match orelse with
   | []=>gdE (yF iter) λ h=>bnE (trP ks tgt) λ t ht=>(trI (T:=T) (sc:=sc) (ks:=ks) (trE Z.X f sc ks) tgt iter).bind λ it=>(UB (trS Z f) body).bind λ ys=>some ⟨.for t it.1 ys.1,λ c q=>⟨zC9 c.hA.hd (by refine rwE c.K.ks ?_;exact ht) (it.2 c) (ys.2 c q).1 (JZ h),λ _ _ _ h=>False.elim h⟩⟩
   | _::_=>none
  | .Return v pos=>match v with
   | some e=>(trE (T:=T) Z.X f sc ks e).bind λ x=>match Z.fz.contains pos.line with
    | true=>some ⟨.retF x.1,λ c _=>⟨zBU (x.2 c).1,λ _ _ _ h=>False.elim h⟩⟩
    | false=>some ⟨.ret x.1,λ c _=>⟨zCZ (x.2 c).1,λ _ _ _ h=>False.elim h⟩⟩
   | none=>some ⟨.retN,λ _ _=>⟨zAT,λ _ _ _ h=>False.elim h⟩⟩
  | .Continue _=>some ⟨.cont,λ _ _=>⟨zBx,λ _ _ _ h=>False.elim h⟩⟩
  | .Raise exc cause pos=>match exc with
   | some e=>match cause with
    | none=>orE (zDX Z.X f e pos) (some wG)
    | some _=>some wG
   | none=>some wG
  | .Try body hs orelse final pos=>match body with
   | []=>none
   | b::r=>match r with
    | _::_=>none
    | []=>match hs with
     | []=>none
     | h::r=>match r with
      | _::_=>none
      | []=>match orelse with
       | _::_=>none
       | []=>match final with
        | _::_=>none
        | []=>zEB Z.X f b h pos
  | _=>some wG
end
structure FOkS (A:Around)(F:Fm)(sc:Scope)(ks:List (Str×NameKind)):Prop where
 ks:F.ks=ks
 top:TopF F sc
 fr:A.frames=some F.fs
theorem FOkS.ok {A:Around}{F:Fm}{sc:Scope}{ks:List (Str×NameKind)}(h:FOkS A F sc ks):FOk A F sc ks:=⟨h.ks,(λ x e=>by show F.env.scope.names.lookup x=_;refine rwE h.top.sc ?_;exact e),h.fr⟩
theorem zCW {C:Cx}{T:Tabs}{n:Nat}{f:Addr}{fd:FuncData}{ps:List Str}{ks:List (Str×NameKind)}{body:List Stmt}{ds:List D}{σ:zA}{Q:D->zA->Prop}(Y:C.Good)(TT:TOk C T)(O:FnOk C f fd ps ks body)(hds:ds.length=ps.length)
  (r:RSs T fd.scope ks body) (h:wpSs C T n r.1 (qT ds ks.length) σ λ fl _ σ'=>qa σ Q fl σ'):SatCall C T (n + 1) f ds σ Q :=
 zCG Y O hds λ F A hk hs hf ht hfr q=>(r.2 ⟨C,n,A,F,Y,TT,q,FOkS.ok ⟨hk,⟨hs,ht,hfr⟩,hf⟩⟩ ⟨hs,ht,hfr⟩).1 _ _ _ h
theorem zDl {C:Cx}{T:Tabs}{n:Nat}{f:Addr}{fd:FuncData}{ps:List Str}{ks:List (Str×NameKind)}{body:List Stmt}{ds:List D}{σ:zA}{X:zA->Prop}(Y:C.Good)(TT:TOk C T)(O:FnOk C f fd ps ks body)(hds:ds.length=ps.length)
  (r:RSs T fd.scope ks body) (h:rxSs C T n r.1 (qT ds ks.length) σ X):SatRaise C T (n + 1) f ds σ X :=
 zDH Y O hds λ F A hk hs hf ht hfr q=>(r.2 ⟨C,n,A,F,Y,TT,q,FOkS.ok ⟨hk,⟨hs,ht,hfr⟩,hf⟩⟩ ⟨hs,ht,hfr⟩).2 _ _ _ h
end Mine
namespace Mine
open PySem PySem.Calls PyProof PyProof.Rows PySem.W PySem.SeqAt
set_option tactic.hygienic false
noncomputable def yr (p:Arguments):Option (List Str):=gd (p.posonlyargs.isEmpty&&p.vararg.isNone&&p.kwonlyargs.isEmpty&&p.kw_defaults.isEmpty&&p.kwarg.isNone&&p.defaults.isEmpty) (some (p.args.map (·.arg)))
noncomputable def yS (l:List Bool):Bool:=List.rec true (λ b _ r=>b&&r) l
theorem zC {l:List Bool}:∀ {i:Nat} {b:Bool},yS l=true->l[i]?=some b->b=true :=
 @List.rec Bool (λ l=>∀ {i:Nat} {b:Bool},yS l=true->l[i]?=some b->b=true) (λ _ e=>nn e) (λ c r ih {i b} h=>@Nat.casesOn (λ i=>(c::r)[i]?=some b->b=true) i (λ e=>so e▸(zR h).1) λ _ e=>ih (zR h).2 e) l
theorem zBg {a b d:List Arg}{c f:Option Arg}{e:List (Option Expr)}{g:List Expr}(h1:a=[])(h2:c=none)(h3:d=[])(h4:e=[])(h5:f=none)(h6:g=[]):Arguments.mk a b c d e f g=⟨[],b,none,[],[],none,[]⟩:=by
 subst h1 h2 h3 h4 h5 h6;rfl
theorem Y5 {p:Arguments}{ps:List Str}(h:yr p=some ps):∃ as,p=⟨[],as,none,[],[],none,[]⟩/\as.map (·.arg)=ps:=by
 obtain ⟨a,b,c,d,e,f,g⟩:=p
 exact Ea (og h) λ h1 h2=>Ea (zR h1) λ h1 h3=>Ea (zR h1) λ h1 h4=>Ea (zR h1) λ h1 h5=>Ea (zR h1) λ h1 h6=>Ea (zR h1) λ h1 h7 =>
  ⟨b,zBg (List.isEmpty_iff.mp h1) (Option.isNone_iff_eq_none.mp h7) (List.isEmpty_iff.mp h6) (List.isEmpty_iff.mp h5) (Option.isNone_iff_eq_none.mp h4) (List.isEmpty_iff.mp h3),so h2⟩
theorem UR {ps:List Str}{vals:List Value}(nd:ps.Nodup)(hl:vals.length=ps.length):∀ n∈ps,∃ v,(ps.zip vals).lookup n=some v:=λ n hn=>by
 refine Ee (List.mem_iff_getElem?.mp hn) λ i hi=>?_
 have:=QF nd hl.symm hi
 have hlt:i<vals.length:=by refine rwE hl ?_;exact (List.getElem?_eq_some_iff.mp hi).1
 exact ⟨vals[i],by (refine rwE this ?_;refine rwE (List.getElem?_eq_getElem hlt) ?_;rfl)⟩
theorem zDi:∀ {ps:List Str} {vals:List Value},ps.Nodup->vals.length=ps.length->ps.filterMap (λ n=>((ps.zip vals).lookup n).map (n,·))=ps.zip vals:=by
 intro ps vals nd hl
 apply List.ext_getElem?
 intro i
 have key:∀ (l:List Str) (f:Str->Option (Str×Value)) (g:List (Str×Value)),l.length=g.length->(∀ (j:Nat) x y,l[j]?=some x->g[j]?=some y->f x=some y)->l.filterMap f=g:=by
  intro l f
  induction l with
  | nil=>intro g hg _;cases g with | nil=>rfl | cons _ _=>simp at hg
  | cons x l ih =>
   intro g hg h
   cases g with
   | nil=>simp at hg
   | cons y g =>
    (refine rwE List.filterMap_cons ?_;refine rwE (h 0 x y rfl rfl) ?_)
    simp only [List.cons.injEq,true_and]
    exact ih g (by simpa using hg) λ j a b h1 h2=>h (j + 1) a b (by simpa using h1) (by simpa using h2)
 refine rwE (key ps _ (ps.zip vals) (by simp [hl]) λ j x y hx hy=>?_) rfl
 refine Ea (List.getElem?_zip_eq_some.mp (show (ps.zip vals)[j]?=some (y.1,y.2) from hy)) λ h1 h2=>?_
 rw [hx] at h1;cases h1
 (refine rwE (QF nd hl.symm hx) ?_;refine rwE h2 ?_)
 rfl
theorem j7 {fd:FuncData}{ps:List Str}{as:List Arg}(hp:fd.params=⟨[],as,none,[],[],none,[]⟩)(hd:fd.defaults=.none)(hn:as.map (·.arg)=ps)(nd:ps.Nodup)(vals:List Value)(hl:vals.length=ps.length):bindArgs fd ⟨vals,[]⟩=pure (ps.zip vals):=by
 have e1:(ps.filter λ n=>((ps.zip vals).lookup n).isNone)=[]:=by
  rw [List.filter_eq_nil_iff]
  intro n hm
  refine Ee (UR nd hl n hm) λ v e=>?_
  simp [e]
 have key:∃ (X Y:Sem (List (Str×Value))) (f:Str×Value->List (Str×Value)->Sem (ForInStep (List (Str×Value)))) (g:List (Str×Value)->Sem (List (Str×Value))),(bindArgs fd ⟨vals,[]⟩=if (decide (vals.length > (as.map Arg.arg).length)&&true)=true then X else if (!(((as.map Arg.arg).take ((as.map Arg.arg).length - (List.drop (0 - (as.map Arg.arg).length) ([]:List Value)).length)).filter λ n=>(((as.map Arg.arg).zip vals).lookup n).isNone).isEmpty)=true then Y else (forIn (((as.map Arg.arg).drop ((as.map Arg.arg).length - (List.drop (0 - (as.map Arg.arg).length) ([]:List Value)).length)).zip (List.drop (0 - (as.map Arg.arg).length) ([]:List Value))) ((as.map Arg.arg).zip vals) f >>= g))/\∀ s,g s=pure (((as.map Arg.arg)++[]).filterMap λ n=>(s.lookup n).map (n,·)):=by
  obtain ⟨q1,q2,q3,q4,q5,q6,q7,q8,q9,q10,q11,q12,q13,q14,q15⟩:=fd
  cases hp
  cases hd
  exact ⟨_,_,_,_,rfl,λ _=>rfl⟩
 obtain ⟨X,Y,f,g,e,hg⟩:=key
 (refine rwE e ?_;refine rwE hn ?_;refine rwE hl ?_;refine rwE List.drop_nil ?_;refine rwE List.length_nil ?_;refine rwE (Nat.sub_zero ..) ?_;refine rwE (if_neg (by simp)) ?_;refine rwE List.take_length ?_;refine rwE e1 ?_;refine rwE List.zip_nil_right ?_;refine rwE List.forIn_nil ?_;refine rwE (pure_bind ..) ?_;refine rwE (hg ..) ?_;refine rwE hn ?_;refine rwE (List.append_nil ..) ?_;refine rwE (zDi nd hl) ?_)
 rfl
theorem Yf {n:Nat}:∀ {l:List (Str×NameKind)} {acc:List (Str×Addr)} {x:Str} {n:Nat},(acc.lookup x).isSome=true->((cellsFrom n l acc).lookup x).isSome=true
 | [],_,_,_,h=>h
 | (y,k)::r,acc,x,n,h=>by
  simp only [cellsFrom]
  split
  ·refine Yf (n:=n) ?_
   refine rwE List.lookup_cons ?_
   split
   ·rfl
   ·exact h
  ·exact Yf (n:=n) h
theorem Ye:∀ {l:List (Str×NameKind)} {acc:List (Str×Addr)} {x:Str} {n:Nat},(x,NameKind.cell)∈l->((cellsFrom n l acc).lookup x).isSome=true
 | [],_,_,_,h=>nomatch h
 | (y,k)::r,acc,x,n,h=>by
  simp only [cellsFrom]
  rcases List.mem_cons.mp h with e | e
  ·cases e
   simp only [beq_self_eq_true,if_true]
   exact Yf (n:=n) (by simp [List.lookup_cons])
  ·split
   ·exact Ye e
   ·exact Ye e
noncomputable def dFn:Data->Option FuncData
 | .func fd=>some fd
 | _=>none
theorem zAs {d:Data}{fd:FuncData}(h:dFn d=some fd):d=.func fd:=by cases d with | func x=>(refine rwE (so h) ?_;rfl) | _=>exact nn h
noncomputable def wb:FuncBody->Option (List Stmt)
 | .stmts b=>some b
 | _=>none
theorem Wi {d:FuncBody}{b:List Stmt}(h:wb d=some b):d=.stmts b:=by cases d with | stmts x=>(refine rwE (so h) ?_;rfl) | _=>exact nn h
noncomputable def keep (fd:FuncData):List (Str×NameKind):=fd.scope.names.filter λ x=>x.2==.local || x.2==.cell
noncomputable def fnB (K:Frag)(f:Addr):Option (FuncData×List Str×List (Str×NameKind)×List Stmt):=(K.lookup f).bind λ o=>(dFn o.data).bind λ fd=>(yr fd.params).bind λ ps=>(wb fd.body).bind λ b =>
 gd (yS [codeIn K fd.code fd.qualname,fd.closure.isEmpty,fd.globals==mainGlobals,fd.builtins==builtinsNs,fd.defaults==.none,!fd.scope.isCoroutine,!fd.scope.isGenerator,fd.scope.kind==.function,decide (fd.scope.names.map (·.1)).Nodup,((keep fd).map (·.1)).take ps.length==ps]) (some (fd,ps,keep fd,b))
theorem qK {α:Type}:∀ {l:List (Str×α)} {x:Str} {a:α},(l.map (·.1)).Nodup->(x,a)∈l->l.lookup x=some a
 | [],_,_,_,h=>nomatch h
 | (y,b)::l,x,a,nd,h=>by
  rw [List.map_cons,List.nodup_cons] at nd
  refine rwE List.lookup_cons ?_
  rcases List.mem_cons.mp h with e | e
  ·cases e;simp
  ·have:(x==y)=false:=by
    rw [beq_eq_false_iff_ne];rintro rfl;exact nd.1 (List.mem_map.mpr ⟨_,e,rfl⟩)
   refine rwE this ?_;exact qK nd.2 e
theorem xi {C:Cx}{f:Addr}{q:FuncData×List Str×List (Str×NameKind)×List Stmt}(h:fnB C.K f=some q):FnOk C f q.1 q.2.1 q.2.2.1 q.2.2.2:=by
 refine Eea (ob h) λ o hl k1=>?_
 refine Eea (ob k1) λ fd e1 k2=>?_
 refine Eea (ob k2) λ ps hp k3=>?_
 refine Eea (ob k3) λ b hb k4=>?_
 refine Ea (og k4) λ k5 e2=>?_
 cases so e2
 clear h k1 k2 k3 k4 e2
 obtain ⟨oc,od,dat,sl⟩:=o
 cases zAs e1
 have c9:=of_decide_eq_true (zC (i:=8) k5 rfl)
 have c10:=eq_of_beq (zC (i:=9) k5 rfl)
 refine Eea (Y5 hp) λ as hp1 hp2=>?_
 have ndk:((keep fd).map (·.1)).Nodup:=c9.sublist (List.filter_sublist.map _)
 have ndp:ps.Nodup:=c10▸ndk.sublist (List.take_sublist _ _)
 exact ⟨⟨oc,od,sl,hl⟩,(zC (i:=0) k5 rfl),Wi hb,λ vals hv=>j7 hp1 (eq_of_beq (zC (i:=4) k5 rfl)) hp2 ndp vals hv,List.isEmpty_iff.mp (zC (i:=1) k5 rfl),eq_of_beq (zC (i:=2) k5 rfl),eq_of_beq (zC (i:=3) k5 rfl),qn (zC (i:=5) k5 rfl),qn (zC (i:=6) k5 rfl),eq_of_beq (zC (i:=7) k5 rfl),ndk,c10,λ x k m=>Ea (List.mem_filter.mp m) λ m1 m2=>⟨((Bool.or_eq_true ..).mp m2).imp eq_of_beq eq_of_beq,qK c9 m1⟩,λ x L m=>Ye (List.mem_filter.mp m).1⟩
noncomputable def trF (K:Frag)(T:Tabs)(Z:TS)(fuel:Nat)(f:Addr):Option (Nat×Nat×List St):=(fnB K f).bind λ r=>(UB (T:=T) (sc:=r.1.scope) (ks:=r.2.2.1) (trS Z fuel) r.2.2.2).bind λ sts=>some (r.2.1.length,r.2.2.1.length,sts.1)
theorem zN {C:Cx}{T:Tabs}{Z:TS}{fuel n np nk:Nat}{f:Addr}{sts:List St}{ds:List D}{σ:zA}{Q:D->zA->Prop}(Y:C.Good)(TT:TOk C T)(h:trF C.K T Z fuel f=some (np,nk,sts))(hds:ds.length=np)
  (hw:wpSs C T n sts (qT ds nk) σ λ fl _ σ'=>qa σ Q fl σ'):SatCall C T (n + 1) f ds σ Q:=by
 refine Eea (ob h) λ q hf h1=>?_
 refine Eea (ob h1) λ sts' _ h2=>?_
 cases so h2
 exact zCW (fd:=q.1) (ps:=q.2.1) (ks:=q.2.2.1) (body:=q.2.2.2) Y TT (xi hf) hds sts' hw
theorem zDG {C:Cx}{T:Tabs}{Z:TS}{fuel n np nk:Nat}{f:Addr}{sts:List St}{ds:List D}{σ:zA}{X:zA->Prop}(Y:C.Good)(TT:TOk C T)(h:trF C.K T Z fuel f=some (np,nk,sts))(hds:ds.length=np)
  (hw:rxSs C T n sts (qT ds nk) σ X):SatRaise C T (n + 1) f ds σ X:=by
 refine Eea (ob h) λ q hf h1=>?_
 refine Eea (ob h1) λ sts' _ h2=>?_
 cases so h2
 exact zDl (fd:=q.1) (ps:=q.2.1) (ks:=q.2.2.1) (body:=q.2.2.2) Y TT (xi hf) hds sts' hw
noncomputable def XK (K:Frag)(a:Addr)(x:Str)(zz:Option Addr):Bool:=@Option.casesOn _ (λ _=>Bool) zz (findIn K (.ref a) x==some none) (λ f=>findIn K (.ref a) x==some (some (.ref f))&&typeIn K (.ref f)==some (.type "function")&&keepIn K (.ref f))
noncomputable def jd (K:Frag)(T:Tabs)(a:Addr):Nat->List Str->Bool
 | _,[]=>true
 | k,x::r=>XK K a x (zY a k T.meth)&&jd K T a (k + 1) r
noncomputable def zDu (K:Frag)(T:Tabs)(a:Addr):Bool :=
 findIn K (.ref a) "__getattribute__"==some (some (.builtin "object.__getattribute__"))&&findIn K (.ref a) "__getattr__"==some none&&findIn K (.ref a) "__setattr__"==some (some (.builtin "object.__setattr__"))
 && plainOver K a&&hasDictIn K a&&jd K T a 0 T.names
noncomputable def w6:Option (Option Value)->Option Int
 | none=>none
 | some o=>o.bind λ v=>match v with
  | .int j _=>some j
  | _=>none
noncomputable def zAl (K:Frag)(e:Str×D):Bool:=match e.2 with
 | .fn a=>nsIn K mainGlobals e.1==some (some (.ref a))
 | .bi b=>nsIn K mainGlobals e.1==some none&&bootBuiltins e.1==some (QC b)&&e.1 != "__name__"
 | .p x=>(isInt x).isSome&&w6 (nsIn K mainGlobals e.1)==isInt x
 | _=>false
noncomputable def zAd (K:Frag)(T:Tabs):Bool :=
 decide T.names.Nodup&&T.classes.all (zDu K T)&&T.glob.all (zAl K)&&T.names.take 6==(["append","get","setdefault","sort","extend","count"]:List Str)
theorem Qv {K:Frag}{T:Tabs}{a:Addr}:∀ {l:List Str} {i k:Nat} {x:Str},jd K T a i l=true->l[k]?=some x->XK K a x (zY a (i + k) T.meth)=true
 | [],i,k,x,_,e=>nn e
 | y::r,i,0,x,h,e=>by cases so e;exact (zR h).1
 | y::r,i,k + 1,x,h,e=>by
  have:=Qv (l:=r) (i:=i + 1) (k:=k) (zR h).2 e
  rw [Nat.add_assoc,Nat.add_comm 1 k] at this
  exact this
theorem zA7 {C:Cx}{T:Tabs}{a:Addr}(h:zDu C.K T a=true):ClsOk C T a:=by
 refine Ea (zR h) λ h h6=>?_
 refine Ea (zR h) λ h h5=>?_
 refine Ea (zR h) λ h h4=>?_
 refine Ea (zR h) λ h h3=>?_
 refine Ea (zR h) λ h1 h2=>?_
 refine ⟨eq_of_beq h1,eq_of_beq h2,eq_of_beq h3,h4,h5,λ k x hx hl=>?_,λ k x f hx hl=>?_⟩
 ·have:=Qv h6 hx
  rw [Nat.zero_add,hl] at this
  exact eq_of_beq this
 ·have:=Qv h6 hx
  rw [Nat.zero_add,hl] at this
  refine Ea (zR this) λ q q3=>?_
  refine Ea (zR q) λ q1 q2=>?_
  exact ⟨eq_of_beq q1,eq_of_beq q2,q3⟩
theorem vq {o:Option (Option Value)}{i:Int}(h:w6 o=some i):∃ t,o=some (some (.int i t)):=by
 cases o with
 | none=>exact nn h
 | some o =>
  (refine Eea (ob h) λ v q8q=>?_;obtain rfl:=q8q;intro h)
  cases v with
  | int j t=>cases so h;exact ⟨t,rfl⟩
  | _=>exact nn h
theorem vR {C:Cx}{x:Str}{d:D}(Y:C.Good)(hb:∀ y:Str,y≠"__name__"->C.mb y=bootBuiltins y)(h:zAl C.K (x,d)=true):j8 C x d:=by
 cases d with
 | fn a=>exact ⟨.ref a,.inl (mg_of Y.X Y.g (eq_of_beq h)),λ _ _ _ _ _=>.fn a⟩
 | bi b =>
  refine Ea (zR h) λ h h3=>?_
  refine Ea (zR h) λ h1 h2=>?_
  exact ⟨QC b,.inr ⟨mg_none_of Y.X Y.g (eq_of_beq h1),(hb x (bne_iff_ne.mp h3)).trans (eq_of_beq h2)⟩,λ _ _ _ _ _=>.bi b⟩
 | p y =>
  refine Ea (zR h) λ h1 h2=>?_
  cases y with
  | int i=>refine Ee (vq (eq_of_beq h2)) λ t e=>?_;exact ⟨.int i t,.inl (mg_of Y.X Y.g e),λ _ _ _ _ _=>.p (.int i t)⟩
  | _=>exact Bool.noConfusion h1
 | _=>exact Bool.noConfusion h
theorem zDe {C:Cx}{T:Tabs}(Y:C.Good)(hb:∀ y:Str,y≠"__name__"->C.mb y=bootBuiltins y)(hx:T.exc≠0->ExcOk C T.exc)(h:zAd C.K T=true):TOk C T:=by
 refine Ea (zR h) λ h h4=>?_
 refine Ea (zR h) λ h h3=>?_
 refine Ea (zR h) λ h1 h2=>?_
 have h1:=of_decide_eq_true h1
 have h2:=List.all_eq_true.mp h2
 have h3:=List.all_eq_true.mp h3
 have h4:=eq_of_beq h4
 have nth:∀ (k:Nat),k<6->T.names[k]?=(["append","get","setdefault","sort","extend","count"]:List Str)[k]?:=λ k hk=>by
  (refine rwS h4 ?_;refine rwE (List.getElem?_take_of_lt hk) ?_;rfl)
 exact ⟨h1,λ a m=>zA7 (h2 a m),λ g x d e=>vR Y hb (h3 _ (List.mem_iff_getElem?.mpr ⟨g,e⟩)),nth 0 (by decide),nth 1 (by decide),nth 2 (by decide),nth 3 (by decide),nth 4 (by decide),nth 5 (by decide),hx⟩
theorem Wd {C:Cx}{T:Tabs}:Rel C T C.h₀ (λ a=>∃ o,C.h₀.get? a=some o) [] [] :=
 ⟨λ _ _ e=>e,λ _ o e=>⟨o,e⟩,λ _ f=>f,rfl,λ _ _ _ e _=>nn e,λ _ _ e=>nn e,λ _ _ e _=>nn e,λ _ _ _ e _=>nn e⟩
theorem Ux {h:Heap}{φ:Addr->Prop}:∀ {vs:List Value} {ns:List Int},IntsAre vs ns->VPs h φ vs (ns.map .int)
 | _,_,.nil=>.nil
 | _,_,.cons _ _ r=>.cons (.int _ _) (Ux r)
theorem xP:Room 60 callerA:=⟨rfl,by decide +kernel,by decide +kernel⟩
theorem Xq {h:Heap}{φ:Addr->Prop}{μ:List Addr}:Out callerA h φ μ:=⟨[],rfl,λ _ m=>nomatch m⟩
section
variable {C:Cx}{T:Tabs}{n:Nat}{σ:zA}{ds:List D}{Q:D->zA->Prop}
theorem xl {n:Nat}{A:Around}(r:Room (n + 1) A)(a:Addr)(vs:List Value):Room n (A.under (.builtin "type.__call__" ⟨.ref a::vs,[]⟩)):=by
 have hw:(Code.builtin "type.__call__" ⟨.ref a::vs,[]⟩).weight<=1:=by
  have:(Code.builtin "type.__call__" ⟨.ref a::vs,[]⟩).weight=(Code.builtin "type.__call__" ⟨.ref a::vs,[]⟩).weight:=rfl
  first | (exact Nat.le_of_eq (by kernel_rfl)) | (exact Nat.le_of_eq_of_le (show _=0 by kernel_rfl) (Nat.zero_le _))
 have hu:(Code.builtin "type.__call__" ⟨.ref a::vs,[]⟩).cUnits=1:=by kernel_rfl
 refine ⟨r.hd,?_,?_⟩
 ·have e:(A.under (.builtin "type.__call__" ⟨.ref a::vs,[]⟩)).depth=A.depth + (Code.builtin "type.__call__" ⟨.ref a::vs,[]⟩).weight:=rfl
  have:=r.depth;exact lin [(A.under (Code.builtin "type.__call__" {pos:=Value.ref a::vs})).depth,n,recursionLimit,(Code.builtin "type.__call__" {pos:=Value.ref a::vs}).weight,A.depth] [] (.a (.a (.a (.v 0) (.m 2 (.v 1))) (.k 10)) (.k 1)) (.v 2) [(1,.l (.v 3) (.k 1)),(1,.e (.v 0) (.a (.v 4) (.v 3))),(1,.l (.a (.a (.a (.v 4) (.m 2 (.a (.v 1) (.k 1)))) (.k 10)) (.k 1)) (.v 2))] tT9 hw e this
 ·have e:(A.under (.builtin "type.__call__" ⟨.ref a::vs,[]⟩)).units=A.units + (Code.builtin "type.__call__" ⟨.ref a::vs,[]⟩).cUnits:=rfl
  have:=r.units;exact lin [(A.under (Code.builtin "type.__call__" {pos:=Value.ref a::vs})).units,n,cLine,(Code.builtin "type.__call__" {pos:=Value.ref a::vs}).cUnits,A.units] [] (.a (.a (.a (.v 0) (.m 20 (.v 1))) (.k 400)) (.k 1)) (.v 2) [(1,.e (.v 3) (.k 1)),(1,.e (.v 0) (.a (.v 4) (.v 3))),(1,.l (.a (.a (.a (.v 4) (.m 20 (.a (.v 1) (.k 1)))) (.k 400)) (.k 1)) (.v 2))] tT9 hu e this
theorem Out.builtin {A:Around}{h:Heap}{φ:Addr->Prop}{μ:List Addr}(o:Out A h φ μ)(a:Addr)(vs:List Value):Out (A.under (.builtin "type.__call__" ⟨.ref a::vs,[]⟩)) h φ μ:=by
 refine Eea (o.h) λ fs hf k=>?_
 exact ⟨fs,by show pushEnvs [] A.frames=_;exact hf,k⟩
theorem Uh {cls fI:Addr}(Y:C.Good)(hT:cls∈T.classes)(hm:makesIn C.K cls=true)(hk:keepIn C.K (.ref cls)=true)(hi:findIn C.K (.ref cls) "__init__"=some (some (.ref fI)))(hf:typeIn C.K (.ref fI)=some (.type "function"))
  (h:SatCall C T n fI (.obj (σ.length + 1)::ds) (σ++[.sdict []]++[.inst cls σ.length]) λ d σ'=>d=.p .none/\Q (.obj (σ.length + 1)) σ'):SatCall C T (n + 1) cls ds σ Q:=by
 refine ⟨hk,λ A s φ μ vs r ou R V=>?_⟩
 obtain ⟨hp,g,d,t,os⟩:=s
 have X:=Y.X.keeps R.keep
 refine make_core (makes_of X hm) (looks_findIn X hi) (λ self=>bind_fn X self hf) (.inl rfl) ?_
 refine Eaa (Rel.pushM (s:=⟨hp,g,d,t,os⟩) R emptyDict (.sdict []) rfl λ h' e _=>⟨[],0,e,.nil⟩) λ R1 X1 m1=>?_
 refine Eaa (Rel.pushM (s:=⟨hp.push emptyDict,g,d,t,os⟩) R1 (instObj cls hp.objs.size) (.inst cls σ.length) rfl λ h' e _=>⟨hT,hp.objs.size,by refine rwE (List.getElem?_append_left (List.getElem?_eq_some_iff.mp m1).1) ?_;exact m1,e⟩) λ R2 X2 m2=>?_
 have hl:(σ++[MO.sdict []]).length=σ.length + 1:=by simp
 have hs:(hp.push emptyDict).objs.size=hp.objs.size + 1:=Heap.size_push ..
 simp only [hl,hs] at m2 R2 X2
 refine codeAny_mono (h.code _ ⟨(hp.push emptyDict).push (instObj cls hp.objs.size),g,d,t,os⟩ φ _ (.ref (hp.objs.size + 1)::vs) (xl r _ _) ((ou.ext (X1.trans X2)).builtin _ _) R2 (.cons (.obj m2) ((X1.trans X2).vds V))) λ res s' hr=>?_
 rcases res with e | fl
 ·exact hr.elim
 ·cases fl with
  | ret v =>
   obtain ⟨h',tk,φ',μ',d',σ',rfl,R',X',V',rfl,q⟩:=hr
   cases V'.ip.inone
   exact ⟨rfl,h',tk,φ',μ',_,σ',rfl,R',(X1.trans X2).slack.trans X',.obj (X'.pre _ _ m2),q⟩
  | _=>exact hr.elim
end
set_option tactic.hygienic true
noncomputable def XX {α β:Type}(f:α->Option β):List α->Option (List β)
 | []=>some []
 | a::r=>(f a).bind λ b=>(XX f r).bind λ bs=>some (b::bs)
theorem VL {K:Frag}{D:Addr}{cd:ClassData}(e:clsIn K D=some cd):∃ o,K.lookup D=some o/\o.data=.cls cd:=by
 unfold clsIn at e
 cases h:K.lookup D with
 | none=>rw [h] at e;exact nn e
 | some o =>
  rw [h] at e
  obtain ⟨c,d,da,sl⟩:=o
  cases da <;> first | exact nn e | exact ⟨_,rfl,congrArg Data.cls (so e)⟩
theorem uH {α β:Type}{f:α->Option β}{a:α}{r:List α}{xs:List β}(h:XX f (a::r)=some xs):∃ b bs,f a=some b/\XX f r=some bs/\xs=b::bs:=by
 refine Eea (ob h) λ b h1 h2=>?_
 refine Eea (ob h2) λ bs h3 h4=>?_
 exact ⟨b,bs,h1,h3,(so h4).symm⟩
noncomputable def zAb:Expr->Option Str
 | .Name x _=>some x
 | _=>none
theorem XF {e:Expr}{x:Str}(h:zAb e=some x):∃ p,e=.Name x p:=by
 cases e with
 | Name y p=>cases so h;exact ⟨p,rfl⟩
 | _=>exact nn h
abbrev SV:=Option Str
noncomputable def QP (as:List Expr):Option (List Str):=XX zAb as
noncomputable def zEv:Const->Bool
 | .none=>true
 | _=>false
noncomputable def UO:Expr->Option SV
 | .Constant c _ _=>gd (zEv c) (some none)
 | .Name x _=>some (some x)
 | _=>none
noncomputable def zD7 (ps:List Str):SV->Bool
 | none=>true
 | some x=>ps.contains x&&x != "__debug__"
structure SupR where
 D:Addr
 self:Str
 ps:List Str
 an:List Str
 attr:Str
 sv:SV
noncomputable def zAz (m:Str->Option Value):SV->Value
 | none=>.none
 | some x=>(m x).getD .none
theorem zEh {a b:Str}(h:(a != b)=true):(a==b)=false:=beq_eq_false_iff_ne.mpr (bne_iff_ne.mp h)
section
variable {M:Model}{A:Around}{E:Value->Shared->Prop}{s:Shared}{env:Env}{m:Str->Option Value}{pos:Pos}
theorem Q2:∀ {as:List Expr} {an:List Str},QP as=some an->as.all zT=true
 | [],_,_=>rfl
 | a::r,an,e=>by
  (refine Eeeaa (uH e) λ x xs h1 h2 q1q=>?_;obtain rfl:=q1q)
  (refine Ee (XF h1) λ p q3q=>?_;obtain rfl:=q3q)
  exact Q2 (as:=r) h2
theorem JI (hk:env.scope.kind=.function):∀ {as:List Expr} {an:List Str} {Q:List Value->Shared->Prop},QP as=some an->(∀ x,x∈an->env.kindOf x=some .local/\(∃ v,m x=some v)/\(x==("__debug__":Str))=false)->s.heap.Ns env.locals m->Q (an.map λ x=>(m x).getD .none) s ->
  wpAny M A (spliced (backTo pos (starEach as env))) Q E s
 | [],an,Q,e,_,_,h=>by
  cases so e
  exact spliced_nil h
 | a::r,an,Q,e,hl,hn,h=>by
  (refine Eeeaa (uH e) λ x l e1 hr q5q=>?_;obtain rfl:=q5q)
  (refine Ee (XF e1) λ p q7q=>?_;obtain rfl:=q7q)
  (refine Eaa (hl x List.mem_cons_self) λ h1 q9q=>?_;(refine Ee (q9q) λ v h2=>?_;try clear q9q);intro h3)
  refine args_cons (wpAny_Name (wpAny_loadName_local hk h1 hn h2 ?_) h3)
  refine JI hk hr (λ y hy=>hl y (List.mem_cons_of_mem _ hy)) hn ?_
  rw [List.map_cons,h2] at h
  exact h
theorem zBQ {v:Expr}{sv:SV}{Q:Value->Shared->Prop}(hk:env.scope.kind=.function)(e:UO v=some sv)(hl:∀ x,sv=some x->env.kindOf x=some .local/\(∃ u,m x=some u)/\(x==("__debug__":Str))=false)(hn:s.heap.Ns env.locals m)
  (h:Q (zAz m sv) s):wpAny M A (eval v env) Q E s:=by
 cases v with
 | Name x p =>
  cases so e
  (refine Eaa (hl x rfl) λ h1 q12q=>?_;(refine Ee (q12q) λ u h2=>?_;try clear q12q);intro h3)
  refine wpAny_Name (wpAny_loadName_local hk h1 hn h2 ?_) h3
  have h:Q ((m x).getD .none) s:=h
  rw [h2] at h
  exact h
 | Constant c k p =>
  refine Ea (og e) λ h1 h2=>?_
  cases so h2
  cases c with
  | none=>exact wpAny_Constant_none h
  | _=>exact Bool.noConfusion h1
 | _=>exact nn e
end
section
variable {C:Cx}{n:Nat}{A:Around}{s:Shared}{R:Result->Shared->Prop}
structure SupF (K:Frag)(file:Str)(f D:Addr)(sf:Str)(ps an:List Str)(attr:Str)(sv:SV)(fd:FuncData)(p0 p1 ap cp ep q0 q1 q2:Pos)(as:List Expr)(v:Expr)(cc cda:Addr)(vsC:Array Value)(tf:Tok)(cdD:ClassData):Prop where
 at_:∃ oc od sl,K.lookup f=some ⟨oc,od,.func fd,sl⟩
 prm:yr fd.params=some (sf::ps)
 body:fd.body=.stmts [.Expr (.Call (.Attribute (.Call (.Name "super" p0) [] [] p1) "__init__" ap) as [] cp) ep,.Assign [.Attribute (.Name sf q0) attr q1] v q2]
 clo:fd.closure=[(("__class__":Str),cc)]
 code:fd.code=.ref cda
 han:QP as=some an
 hsv:UO v=some sv
 hcda:∃ oc od sl,K.lookup cda=some ⟨oc,od,.fields vsC,sl⟩
 file:vsC[2]?=some (.str file tf)
 cell:∃ oc od sl,K.lookup cc=some ⟨oc,od,.cell (some (.ref D)),sl⟩
 cls:clsIn K D=some cdD
 c6:codeIn K fd.code fd.qualname=true
 c7:fd.globals=mainGlobals
 c8:fd.builtins=builtinsNs
 c9:fd.defaults=.none
 c10:fd.scope.isCoroutine=false
 c11:fd.scope.isGenerator=false
 c12:fd.scope.kind=.function
 c13:∀ y,y∈fd.scope.names->¬ y.2=.cell
 c14:∀ y,y∈sf::ps->fd.scope.names.lookup y=some .local
 c15:(sf::ps).Nodup
 c16:∀ y,y∈an->y∈sf::ps/\¬ y="__debug__"
 c17:zD7 (sf::ps) sv=true
 c18:¬ sf="__debug__"
 c21:(ap.endLine==cp.line)=true
 c22:as.length<30
 c19:fd.scope.names.lookup ("super":Str)=some .globalImplicit
 c20:fd.scope.names.lookup ("__class__":Str)=some .free
structure SupS where
 fd:FuncData
 p0:Pos
 p1:Pos
 ap:Pos
 cp:Pos
 ep:Pos
 q0:Pos
 q1:Pos
 q2:Pos
 as:List Expr
 v:Expr
 cc:Addr
 cda:Addr
 vsC:Array Value
 tf:Tok
 cdD:ClassData
noncomputable def Jm (K:Frag)(file:Str)(f:Addr)(r:SupR):Prop:=∃ S:SupS,SupF K file f r.D r.self r.ps r.an r.attr r.sv S.fd S.p0 S.p1 S.ap S.cp S.ep S.q0 S.q1 S.q2 S.as S.v S.cc S.cda S.vsC S.tf S.cdD
theorem jX (Y:C.Good){f x c D:Addr}{ox:Obj}{self':Str}{ps an:List Str}{attr:Str}{sv:SV}{fd:FuncData}{p0 p1 ap cp ep q0 q1 q2:Pos}{as:List Expr}{v:Expr}{cc cda:Addr}{vsC:Array Value}{tf:Tok}{cdD:ClassData}{vs:List Value}{file:Str}(S:SupF C.K file f D self' ps an attr sv fd p0 p1 ap cp ep q0 q1 q2 as v cc cda vsC tf cdD)(hfile:((C.prog.main.file:Str)==file)=true)(htop:(C.prog.main.scope.names.lookup ("super":Str)).isSome=false)
  (hg:C.mg "super"=none) (hb:C.mb "super"=some (.type "super")) (hA:Room (n + 1) A) (kp:∀ b o,C.h₀.get? b=some o->s.heap.get? b=some o) (hvs:vs.length=ps.length) (hx:s.heap.get? x=some ox) (hxc:ox.cls=.ref c) (hxn:notCls ox=true) (hsub:mroIn C.K c (.ref D)=some true)
  (H:∀ (A':Around) (h₁:Heap) (tk:Nat) (so L:Addr) (m:Str->Option Value) (pl:Sem Bool),m=(λ y=>((self'::ps).zip (.ref x::vs)).reverse.lookup y)->Room n A'->(∀ φ μ,Out A s.heap φ μ->L∉μ->¬ φ L->Out A' h₁ φ μ/\∀ b,b∈frA A'->b=L∨b∈frA A)->(∀ b o,s.heap.get? b=some o->h₁.get? b=some o)->h₁.get? so=some (ks_superObj D x c)->s.heap.get? L=none->h₁.Ns L m ->
   wpAny (model C.prog C.w) A' (getMethod (.ref so) "__init__" pl) (λ fx s₂=>s₂.heap.Ns L m/\(∃ k,(k=Keeper.frame∨k=Keeper.machine∨k=Keeper.boundFrame)/\Looks (model C.prog C.w) s₂.heap (keeperOf fx.1) k) /\
    wpAny (model C.prog C.w) A' (call fx.1 (fx.2++an.map λ y=>(m y).getD .none)) (λ _ s₃=>s₃.heap.Ns L m/\wpAny (model C.prog C.w) A' (setAttr (.ref x) attr (zAz m sv)) (λ _ s₄=>R (.ok (.ret .none)) s₄) NoE s₃) NoE s₂) NoE {s with heap:=h₁,toks:=tk}) :
  codeAny (model C.prog C.w) A (.call (.ref f) ⟨.ref x::vs,[]⟩) R s:=by
 have X:=Y.X.keeps kp
 refine Eeee (S.at_) λ oc od sl hf=>?_
 refine Eeee (S.hcda) λ occ odc slc hcda=>?_
 refine Eeee (S.cell) λ ocd odd sld hcc=>?_
 have hps:=S.prm
 have hbody:=S.body
 have hclo:=S.clo
 have hcode:=S.code
 have han:=S.han
 have hsv:=S.hsv
 have hv2:=S.file
 have hcD:=S.cls
 refine Eea (Y5 hps) λ asA hp1 hp2=>?_
 have hvl:(Value.ref x::vs).length=(self'::ps).length:=by simp [hvs]
 have hbind:bindArgs fd ⟨.ref x::vs,[]⟩=pure ((self'::ps).zip (.ref x::vs)):=j7 hp1 S.c9 hp2 S.c15 _ hvl
 obtain ⟨ar,arest,rfl,har⟩:∃ ar arest,asA=ar::arest/\ar.arg=self':=by
  cases asA with
  | nil=>simp at hp2
  | cons ar arest=>exact ⟨ar,arest,rfl,by simpa using (List.cons.inj hp2).1⟩
 obtain ⟨m,hm⟩:∃ m:Str->Option Value,m=λ y=>((self'::ps).zip (.ref x::vs)).reverse.lookup y:=⟨_,rfl⟩
 have ndz:((((self'::ps).zip (Value.ref x::vs)).reverse).map (·.1)).Nodup:=by
  (refine rwE List.map_reverse ?_;refine rwE (List.map_fst_zip (by exact Nat.le_of_eq hvl.symm)) ?_)
  exact List.pairwise_reverse.mpr (S.c15.imp λ h=>h.symm)
 have mget:∀ y,y∈self'::ps->∃ v,m y=some v:=λ y hy=>by
  refine Ee (UR S.c15 hvl y hy) λ v hv=>?_
  exact ⟨v,by refine rwE hm ?_;exact qK ndz (List.mem_reverse.mpr (mem_of_lookup hv))⟩
 have mself:m self'=some (.ref x):=by
  refine rwE hm ?_;exact qK ndz (List.mem_reverse.mpr (by simp))
 refine ks_codeAny_call_defAt (fd:=fd) (binds:=(self'::ps).zip (.ref x::vs)) (by have:=hA.depth;exact lin [_,_,_] [] (.a (.v 0) (.k 1)) (.v 1) [(1,.l (.a (.a (.a (.v 0) (.m 2 (.a (.v 2) (.k 1)))) (.k 10)) (.k 1)) (.v 1))] tT9 this) (X _ _ hf) rfl (Y.lim.keeps kp) (codeRec_of X S.c6) hbody (.of_eq hbind) (λ y hy=>S.c13 y hy) (λ y hy=>S.c14 y.1 (List.of_mem_zip hy).1) (λ h₀ hns hk0=>?_) S.c10 S.c11 S.c12
 rw [<- hm] at hns
 have X0:=X.keeps hk0
 have rm:=jB (env:=callEnv fd s.heap.objs.size f) hA
 generalize henv:callEnv fd s.heap.objs.size f=env at rm ⊢
 have eL:env.locals=s.heap.objs.size:=by refine rwS henv ?_;rfl
 have eS:env.scope=fd.scope:=by refine rwS henv ?_;rfl
 have eC:env.cells=[(("__class__":Str),cc)]:=by refine rwS henv ?_;exact hclo
 have eG:env.globals=mainGlobals:=by refine rwS henv ?_;exact S.c7
 have eB:env.builtins=builtinsNs:=by refine rwS henv ?_;exact S.c8
 have eF:env.func=some f:=by refine rwS henv ?_;rfl
 have eD:env.code=.ref cda:=by refine rwS henv ?_;exact hcode
 have hk:env.scope.kind=.function:=by refine rwE eS ?_;exact S.c12
 have eFr:env.frame=some s.heap.objs.size:=by refine rwS henv ?_;rfl
 have hOut:∀ (h':Heap) (φ:Addr->Prop) (μ:List Addr),(∀ b o,s.heap.get? b=some o->h'.get? b=some o)->h'.Ns s.heap.objs.size m->Out A s.heap φ μ->s.heap.objs.size∉μ->¬ φ s.heap.objs.size->Out (A.deeper env) h' φ μ/\∀ b,b∈frA (A.deeper env)->b=s.heap.objs.size∨b∈frA A:=λ h' φ μ kk hn' ou hLm hLf=>by
  refine Eea (ou.h) λ fs hf' k'=>?_
  refine ⟨⟨env::fs,Around.frames_deeper hf',λ v hv=>?_⟩,λ b hb=>?_⟩
  ·rcases List.mem_cons.mp hv with rfl | hv
   ·(refine Eeeeaa (hn') λ o es ep ho hd _=>?_;try clear hn')
    exact ⟨by refine rwE hk ?_;decide,_,o,eFr,ho,⟨es,ep,hd⟩,hLm,hLf⟩
   ·obtain ⟨a1,L,o,a2,a3,a4⟩:=k' v hv
    exact ⟨a1,L,o,a2,kk _ _ a3,a4⟩
  ·rw [Q6 (Around.frames_deeper hf')] at hb
   refine Eea (List.mem_filterMap.mp hb) λ v hv hL=>?_
   rcases List.mem_cons.mp hv with rfl | hv
   ·rw [eFr] at hL;exact .inl (so hL).symm
   ·exact .inr (by refine rwE (Q6 hf') ?_;exact List.mem_filterMap.mpr ⟨v,hv,hL⟩)
 have hks:env.kindOf "super"=some .globalImplicit:=by unfold Env.kindOf;refine rwE eS ?_;exact S.c19
 have hkc:env.kindOf "__class__"=some .free:=by unfold Env.kindOf;refine rwE eS ?_;exact S.c20
 have hloc:∀ y,y∈self'::ps->env.kindOf y=some .local:=λ y hy=>by unfold Env.kindOf;refine rwE eS ?_;exact S.c14 y hy
 obtain ⟨oD,hD1,hD2⟩:∃ oD,h₀.get? D=some oD/\oD.data=.cls cdD:=by
  refine Eea (VL hcD) λ o ho hd=>?_
  exact ⟨o,X0 _ _ ho,hd⟩
 refine ks_wpAt_mono (E:=NoE) ?_ (λ _ _ z=>z) (λ _ _ z=>z.elim)
 have hst:=Q2 han
 have hform:=jw (pos:=cp) (env:=env) hst S.c22
 have hpos:methodCallPos true (.Call (.Name "super" p0) [] [] p1) env ap cp=pure cp:=by unfold methodCallPos;simp [S.c21]
 have he:eval (.Call (.Attribute (.Call (.Name "super" p0) [] [] p1) "__init__" ap) as [] cp) env=(do
   let ov<-attributeBase (.Call (.Name "super" p0) [] [] p1) "__init__" env (eval (.Call (.Name "super" p0) [] [] p1) env)
   standAt ap.atName
   let (f,first)<-holding [ov] (calleeOf true (.Call (.Name "super" p0) [] [] p1) env ov "__init__")
   callWith cp f first (backTo cp (starEach as env)) []):=by
  refine rwE (arm_eval_Call ..) ?_
  unfold methodCall
  (refine rwE hform ?_;refine rwE hpos ?_)
  rfl
 refine ks_wpAt_execs_cons (ks_wpAt_Expr_any (ks_wpAt_MethodCall ?_ he) ?_ ?_)
 ·refine ks_wpAt_super_base hks hkc (by decide) eF (X0 _ _ hf) rfl (by refine rwE hp1 ?_;rfl) eD (X0 _ _ hcda) rfl hv2 hfile htop ?_
  refine ks_loadName_global hk hks (loadGlobal_builtin (by refine rwE eG ?_;exact (Y.g.keeps kp).keeps hk0) hg (by refine rwE eB ?_;exact (Y.b.keeps kp).keeps hk0) hb ⟨rfl,?_⟩)
  refine wpAny_loadName_free hk hkc (by refine rwE eC ?_;rfl) ⟨_,X0 _ _ hcc,rfl⟩ ?_
  refine rwE har ?_
  refine wpAny_loadName_local hk (hloc _ List.mem_cons_self) (by refine rwE eL ?_;exact hns) mself ?_
  refine ks_wpAny_isType_cls hD1 hD2 ⟨rfl,?_⟩
  refine ks_wpAny_call_super hD1 hD2 (hk0 _ _ hx) hxc (λ c e=>?_) (looks_mroIn X0 hsub) (λ h' e k=>?_)
  ·have:=hxn
   unfold notCls at this
   rw [e] at this
   exact Bool.noConfusion this
  ·refine wpAny_mono (H _ h' _ h₀.objs.size s.heap.objs.size m _ hm rm (λ φ μ ou hLm hLf=>hOut _ φ μ (λ b o e=>k b o (hk0 b o e)) (hns.keeps k) ou hLm hLf) (λ b o e=>k b o (hk0 b o e)) e (zi _) (hns.keeps k)) (λ fx s₂ hx=>?_) λ _ _ z=>z
   (refine Eaa (hx) λ n2 k2 call2=>?_;try clear hx)
   refine callWith_of (P:=λ h=>∃ k,(k=Keeper.frame∨k=Keeper.machine∨k=Keeper.boundFrame)/\Looks (model C.prog C.w) h (keeperOf fx.1) k) (by show ((backTo cp (starEach as env)).any (·.1) || false)=false;refine rwE (qL hst) ?_;rfl) (λ _ z=>z) (YO (qL hst) ?_)
   refine JI hk han (λ y hy=>?_) (by refine rwE eL ?_;exact n2) ⟨k2,?_⟩
   ·refine Ea (S.c16 y hy) λ h1 h2=>?_
    have h1:y∈self'::ps:=by simpa using h1
    exact ⟨hloc y h1,mget y h1,by simpa using h2⟩
   ·refine wpAny_mono call2 (λ _ s₃ h3=>?_) λ _ _ z=>z
    (refine Ea (h3) λ n3 set3=>?_;try clear h3)
    refine ks_wpAt_execs_cons (ks_wpAt_Assign_Attr ?_ ?_)
    ·refine wpAt_of_wpAny (zBQ hk hsv (λ y hy=>?_) (by refine rwE eL ?_;exact n3) ?_)
     ·subst hy
      refine Ea (zR S.c17) λ d1 d2=>?_
      have h1:y∈self'::ps:=List.contains_iff_mem.mp d1
      exact ⟨hloc y h1,mget y h1,zEh d2⟩
     ·refine wpAny_Name (wpAny_loadName_local hk (hloc _ List.mem_cons_self) (by refine rwE eL ?_;exact n3) mself ?_) (beq_eq_false_iff_ne.mpr S.c18)
      exact wpAny_mono set3 (λ _ s₄ h4=>wpAt_of_wpAny (wpAny_pure h4)) λ _ _ z=>z
    ·cases v <;> first | rfl | (simp [UO] at hsv)
 ·unfold interactive;refine rwE hk ?_;rfl
 ·rfl
end
set_option tactic.hygienic false
section
variable {C:Cx}{T:Tabs}{n:Nat}{σ:zA}{Q:D->zA->Prop}
structure SupX (C:Cx)(file:Str):Prop where
 hfile:((C.prog.main.file:Str)==file)=true
 htop:(C.prog.main.scope.names.lookup ("super":Str)).isSome=false
 hg:C.mg "super"=none
 hb:C.mb "super"=some (.type "super")
 ho:nsIn C.K cStatics "thirdparty.any"=some none
theorem Vi {file:Str}{f f2 D cls:Addr}{self attr:Str}{i j k:Nat}{fs0:List (Nat×Mine.D)}(Y:C.Good)(TT:TOk C T)(SX:SupX C file)(hkp:keepIn C.K (.ref f)=true)(hB:Jm C.K file f ⟨D,self,[],[],attr,none⟩)(hk:T.names[k]?=some attr)(hlm:zY cls k T.meth=none)(hsub:mroIn C.K cls (.ref D)=some true)
  (hsup:ks_superIn C.K cls D "__init__"=some (some (.ref f2))) (ht:typeIn C.K (.ref f2)=some (.type "function")) (hfn:fnIn C.K f2=true) (hi:σ[i]?=some (.inst cls j)) (hj:σ[j]?=some (.sdict fs0))
  (h:SatCall C T n f2 [.obj i] σ λ _ σ'=>∃ fs,σ'[i]?=some (.inst cls j)/\σ'[j]?=some (.sdict fs)/\fs.length<64/\Q (.p .none) (σ'.set j (.sdict (put k (.p .none) fs)))):SatCall C T (n + 1) f [.obj i] σ Q:=by
 refine ⟨hkp,λ A s φ μ vs r ou R V=>?_⟩
 (refine Eeeaa (V.icons) λ v0 vr q1q=>?_;obtain rfl:=q1q;intro V0 V1)
 cases V1.inil
 (refine Eea (V0.iobj) λ x q3q=>?_;obtain rfl:=q3q;intro ha)
 obtain ⟨hc,dx,ds,nn,hdx,hd,t,II⟩:=Yk R ha hi hj
 refine Ee hB λ S hB=>?_
 refine jX Y hB SX.hfile SX.htop SX.hg SX.hb r R.keep rfl II.at_ rfl II.no hsub λ A' h₁ tk so L m pl hm rA oA kk hso hL hns=>?_
 refine Ea (R.grow kk) λ R1 X1=>?_
 have X:=Y.X.keeps R1.keep
 obtain ⟨hp,g,d,t,os⟩:=s
 cases hcls:clsIn C.K cls with
 | none=>unfold ks_superIn at hsup;rw [hcls] at hsup;cases hsup
 | some cd =>
  unfold ks_superIn at hsup
  rw [hcls] at hsup
  obtain ⟨of,hof,hofc⟩:∃ of,h₁.get? f2=some of/\of.cls=.type "function":=by
   have ht':(C.K.lookup f2).map (·.cls)=some (.type "function"):=ht
   cases z:C.K.lookup f2 with
   | none=>rw [z] at ht';cases ht'
   | some of=>rw [z] at ht';exact ⟨of,X _ _ z,Option.some.inj ht'⟩
  have II':InstAt h₁ x (instObj cls dx) cls (some (dictOf ds nn)):=⟨kk _ _ II.at_,rfl,rfl,kk _ _ hd⟩
  refine ks_wpAny_getMethod_super hso (looks_opaque X SX.ho) (l₀:=cd.mro) ?_ rfl X hsup hof hofc (ks_ne X II' hcls) (by decide) ?_
  ·exact λ A Q E s k q=>wpAny_bind ((looks_clsIn X hcls) A _ E s k (wpAny_pure q))
  ·have gq:(h₁.push {cls:=.type "method",data:=.fields #[.ref f2,.ref x]}).get? h₁.objs.size=some (methodObj (.ref f2) (.ref x)):=Heap.get?_push_at rfl rfl
   have kq:∀ b o,h₁.get? b=some o->(h₁.push {cls:=.type "method",data:=.fields #[.ref f2,.ref x]}).get? b=some o:=λ b o e=>Heap.get?_push_of_some _ e
   refine Ea (Rel.grow (s:=⟨h₁,g,d,tk,os⟩) R1 kq) λ R2 X2=>?_
   refine ⟨hns.keeps kq,keeps_M hfn _ ⟨gq,X.keeps kq⟩,?_⟩
   refine wpAny_call (ks_codeAny_call_bound gq (codeAny_mono (h.code A' ⟨h₁.push {cls:=.type "method",data:=.fields #[.ref f2,.ref x]},g,d,tk + 1,os⟩ φ μ [.ref x] rA ((oA φ μ ou (R.notin_none hL) (R.notfrz_none hL)).1.ext X2) R2 (.cons (.obj ha) .nil)) λ res s' hr=>?_))
   rcases res with e | fl
   ·exact hr.elim
   ·cases fl with
    | ret v =>
     obtain ⟨h',tk',φ',μ',d',σ',rfl,R',X',V',fs,e1,e2,e3,q⟩:=hr
     have hLμ:L∉μ:=R.notin_none hL
     have oB:=(oA φ μ ou hLμ (R.notfrz_none hL)).2
     refine ⟨Jb (hns.keeps kq) λ o ho=>X'.oth L o ho hLμ (λ h=>nomatch h),?_⟩
     refine JC Y TT hk R' (X'.pre _ _ ha) e1 e2 (.p .none) hlm e3 λ h'' tk'' R'' X''=>?_
     exact ⟨h'',tk'',φ',μ',.p .none,_,rfl,R'',(((X1.trans X2).slack (fr:=frA A)).stepF X' (λ _ m=>nomatch m) λ b m=>(oB b m).imp (λ (e:b=L)=>e▸hL) id).trans X''.slack,.p .none,q⟩
    | _=>exact hr.elim
end
end Mine
namespace Mine
open PySem
set_option tactic.hygienic false
noncomputable def zBM:List Str:=["append","get","setdefault","sort","extend","count","vars","tolds","goal","shown","flat","made","partial","cells","spot","what",
 "new_var","post","size","domain_of","once","bounds","var_of","vars_of","note","made_number","extreme","require_some"]
noncomputable def zAK:List (Str×D):=[("len",.bi .len),("isinstance",.bi .isinst),("abs",.bi .abs),("max",.bi .max),("min",.bi .min),("sum",.bi .sum),("sorted",.bi .sorted),("zip",.bi .zip),("tuple",.bi .tuple),("list",.bi .list),("int",.bi .int),("bool",.bi .bool),("dict",.bi .dict),("set",.bi .set),("range",.bi .range)]
noncomputable def zBP:List (Str×D):=[("MOST_SHOWN",.p (.int 1000)),("range_of",.fn 28),("least",.fn 35),("greatest",.fn 42),("within_figures",.fn 179),("is_made",.fn 186),("sum_of",.fn 193),("plus",.fn 198),("Functions",.fn 485),("Flat",.fn 168),
  ("_law_next",.fn 494),("_law_things",.fn 501),("_law_asked",.fn 508),("_law_is_number",.fn 515),("_law_worth",.fn 520),("_law_about",.fn 527),("_law_holds",.fn 532),("_law_whole",.fn 537),("EvalFault",.fn 109)]
noncomputable def zCD:List ((Addr×Nat)×Addr):=[((168,16),144),((168,17),151),((168,18),158),((168,19),165),((485,20),233),((485,21),240),((485,22),245),((485,23),250),((485,24),339),((485,25),346),((485,26),384),((485,27),302)]
noncomputable def T1:Tabs where
 glob:=zAK++zBP
 names:=zBM
 meth:=zCD
 classes:=[168,485]
 exc:=109
noncomputable def Z1:TS:=⟨⟨[(36,20),(37,21),(262,43),(286,10),(290,15),(300,86),(306,11),(325,55),(332,25)],[(88,20)]⟩,[268,298]⟩
noncomputable def yN:List St:=[(.ret (.ite (.cmp (.nm 0) .LtE (.nm 1)) (.tup [(.tup [(.nm 0),(.nm 1)])]) (.tup [])))]
noncomputable def Jc:List St:=[(.ret (.sub (.sub (.nm 0) (.c (.int (0)))) (.c (.int (0)))))]
noncomputable def yu:List St:=[(.ret (.sub (.sub (.nm 0) (.neg (.c (.int (1))))) (.c (.int (1)))))]
noncomputable def Z4:List St:=[(.ite (.cmp (.call false (.gl 2) [(.nm 0)]) .GtE (.bin .Pow (.c (.int (10))) (.gl 15))) [.raise] []),(.ret (.nm 0))]
noncomputable def qt:List St:=[(.ret (.and [(.call false (.gl 1) [(.nm 0),(.gl 8)]),(.cmp (.call false (.gl 0) [(.nm 0)]) .Eq (.c (.int (3)))),(.cmp (.sub (.nm 0) (.c (.int (0)))) .Eq (.nm 1))]))]
noncomputable def jS:List St:=[(.ite (.call false (.gl 20) [(.nm 0),(.c (.str "sum"))]) [(.ret (.nm 0))] []),(.ite (.not (.call false (.gl 20) [(.nm 0),(.c (.str "bit"))])) [(.ret (.tup [(.c (.str "sum")),(.tup []),(.call false (.gl 10) [(.nm 0)])]))] []),(.ret (.ite (.sub (.nm 0) (.c (.int (2)))) (.tup [(.c (.str "sum")),(.tup [(.tup [(.sub (.nm 0) (.c (.int (1)))),(.c (.int (1)))])]),(.c (.int (0)))]) (.tup [(.c (.str "sum")),(.tup [(.tup [(.sub (.nm 0) (.c (.int (1)))),(.neg (.c (.int (1))))])]),(.c (.int (1)))])))]
noncomputable def uk:List St:=[(.asg (.tup [(.pt (.nm 0)),(.pt (.nm 1))]) (.tup [(.call false (.gl 21) [(.nm 0)]),(.call false (.gl 21) [(.nm 1)])])),(.asg (.tup [(.pt (.nm 3)),(.pt (.nm 4))]) (.tup [(.call false (.gl 12) [(.sub (.nm 0) (.c (.int (1))))]),(.call false (.gl 19) [(.bin .Add (.sub (.nm 0) (.c (.int (2)))) (.bin .Mult (.nm 2) (.sub (.nm 1) (.c (.int (2))))))])])),(.for (.tup [(.nm 5),(.nm 6)]) (.sub (.nm 1) (.c (.int (1)))) [(.asg (.sub (.nm 3) (.nm 5)) (.call false (.gl 19) [(.bin .Add (.meth (.nm 3) 1 [(.nm 5),(.c (.int (0)))]) (.bin .Mult (.nm 2) (.nm 6)))]))]),(.asg (.pt (.nm 7)) (.call false (.gl 8) [(.comp false 2 (.tup [(.nm 9),(.sub (.nm 3) (.nm 9))]) (.nm 9) (.call false (.gl 6) [(.nm 3)]) [(.cmp (.sub (.nm 3) (.nm 9)) .NotEq (.c (.int (0))))] [])])),(.ret (.ite (.cmp (.nm 7) .NotEq (.tup [])) (.tup [(.c (.str "sum")),(.nm 7),(.nm 4)]) (.nm 4)))]
noncomputable def y6:List St:=[(.expr (.meth (.attr (.nm 0) 6) 0 [(.tup [(.nm 1),(.nm 2)])])),(.ret (.bin .Sub (.call false (.gl 0) [(.attr (.nm 0) 6)]) (.c (.int (1)))))]
noncomputable def Ud:List St:=[(.expr (.meth (.attr (.nm 0) 7) 0 [(.nm 1)]))]
noncomputable def Ui:List St:=[(.ret (.call false (.gl 0) [(.attr (.nm 0) 6)]))]
noncomputable def Qs:List St:=[(.ret (.sub (.sub (.attr (.nm 0) 6) (.nm 1)) (.c (.int (1)))))]
noncomputable def Qr:List St:=[(.asg (.attr (.nm 0) 6) (.lst true [])),(.asg (.attr (.nm 0) 7) (.lst true [])),(.asg (.attr (.nm 0) 8) (.tup [(.c (.str "satisfy")),(.c .none)])),(.asg (.attr (.nm 0) 9) (.tup []))]
noncomputable def Qo:List St:=[(.asg (.attr (.nm 0) 10) (.call false (.gl 24) [])),(.asg (.attr (.nm 0) 11) (.dct 2 [] []))]
noncomputable def j2:List St:=[(.asg (.pt (.nm 3)) (.cmp (.nm 1) .NotIn (.attr (.nm 0) 11))),(.ite (.nm 3) [(.for (.tup [(.nm 4),(.nm 5)]) (.nm 2) [(.expr (.call false (.gl 19) [(.call false (.gl 3) [(.call false (.gl 2) [(.nm 4)]),(.call false (.gl 2) [(.nm 5)])])]))]),(.asg (.sub (.attr (.nm 0) 11) (.nm 1)) (.meth (.attr (.nm 0) 10) 16 [(.fstr "#" (.meth (.attr (.nm 0) 10) 18 [])),(.nm 2)]))] []),(.ret (.tup [(.sub (.attr (.nm 0) 11) (.nm 1)),(.nm 3)]))]
noncomputable def jZ:List St:=[(.asg (.pt (.nm 2)) (.call false (.gl 21) [(.nm 1)])),(.asg (.tup [(.pt (.nm 3)),(.pt (.nm 4))]) (.tup [(.sub (.nm 2) (.c (.int (2)))),(.sub (.nm 2) (.c (.int (2))))])),(.for (.tup [(.nm 5),(.nm 6)]) (.sub (.nm 2) (.c (.int (1)))) [(.asg (.pt (.nm 7)) (.tup [(.bin .Mult (.nm 6) (.call false (.gl 17) [(.meth (.attr (.nm 0) 10) 19 [(.nm 5)])])),(.bin .Mult (.nm 6) (.call false (.gl 18) [(.meth (.attr (.nm 0) 10) 19 [(.nm 5)])]))])),(.asg (.tup [(.pt (.nm 3)),(.pt (.nm 4))]) (.tup [(.bin .Add (.nm 3) (.call false (.gl 4) [(.nm 7)])),(.bin .Add (.nm 4) (.call false (.gl 3) [(.nm 7)]))]))]),(.ret (.tup [(.nm 3),(.nm 4)]))]
noncomputable def b_var_of:List St:=[(.asg (.pt (.nm 2)) (.call false (.gl 21) [(.nm 1)])),(.ite (.and [(.cmp (.call false (.gl 0) [(.sub (.nm 2) (.c (.int (1))))]) .Eq (.c (.int (1)))),(.cmp (.sub (.sub (.sub (.nm 2) (.c (.int (1)))) (.c (.int (0)))) (.c (.int (1)))) .Eq (.c (.int (1)))),(.cmp (.sub (.nm 2) (.c (.int (2)))) .Eq (.c (.int (0))))]) [(.ret (.sub (.sub (.sub (.nm 2) (.c (.int (1)))) (.c (.int (0)))) (.c (.int (0)))))] []),(.asg (.tup [(.pt (.nm 3)),(.pt (.nm 4))]) (.meth (.nm 0) 21 [(.nm 2)])),(.asg (.tup [(.pt (.nm 5)),(.pt (.nm 6))]) (.meth (.nm 0) 20 [(.nm 2),(.call false (.gl 16) [(.nm 3),(.nm 4)])])),(.ite (.and [(.nm 6),(.cmp (.sub (.nm 2) (.c (.int (1)))) .NotEq (.tup []))]) [(.asg (.tup [(.pt (.nm 7)),(.pt (.nm 8))]) (.tup [(.bin .Add (.comp false 3 (.nm 11) (.tup [(.nm 10),(.nm 11)]) (.sub (.nm 2) (.c (.int (1)))) [] []) (.lst false [(.neg (.c (.int (1))))])),(.bin .Add (.comp false 3 (.nm 10) (.tup [(.nm 10),(.nm 11)]) (.sub (.nm 2) (.c (.int (1)))) [] []) (.lst false [(.nm 5)]))])),(.expr (.meth (.attr (.nm 0) 10) 17 [(.tup [(.c (.str "linear_eq")),(.call false (.gl 8) [(.nm 7)]),(.call false (.gl 8) [(.nm 8)]),(.neg (.sub (.nm 2) (.c (.int (2)))))])]))] []),(.ret (.nm 5))]
noncomputable def YB:List St:=[(.ret (.call false (.gl 8) [(.comp false 2 (.meth (.nm 0) 22 [(.nm 3)]) (.nm 3) (.nm 1) [] [])]))]
noncomputable def UH:List St:=[(.ite (.cmp (.attr (.nm 0) 12) .Is (.c .none)) [(.expr (.meth (.nm 0) 27 [(.lst false [(.nm 1)])]))] [(.ite (.cmp (.nm 1) .NotEq (.c (.bool true))) [(.expr (.meth (.attr (.nm 0) 12) 0 [(.nm 1)]))] [])])]
noncomputable def qy:List St:=[(.asg (.tup [(.pt (.nm 3)),(.pt (.nm 4))]) (.meth (.nm 0) 20 [(.nm 1),(.nm 2)])),(.ite (.nm 4) [(.expr (.meth (.attr (.nm 0) 10) 17 [(.bin .Add (.nm 1) (.tup [(.nm 3)]))]))] []),(.ret (.tup [(.c (.str "sum")),(.tup [(.tup [(.nm 3),(.c (.int (1)))])]),(.c (.int (0)))]))]
noncomputable def qA:List St:=[(.ite (.and [(.cmp (.call false (.gl 0) [(.nm 2)]) .Eq (.c (.int (0)))),(.cmp (.attr (.nm 0) 12) .Is (.c .none))]) [(.rai 33 [(.fsuf (.nm 1) " of nothing has no value"),(.nm 3)])] []),(.ite (.cmp (.call false (.gl 0) [(.nm 2)]) .Eq (.c (.int (0)))) [(.expr (.meth (.nm 0) 24 [(.c (.bool false))])),(.ret (.c (.int (0))))] []),(.ite (.cmp (.call false (.gl 0) [(.nm 2)]) .Eq (.c (.int (1)))) [(.ret (.call false (.gl 22) [(.c (.int (0))),(.sub (.nm 2) (.c (.int (0)))),(.c (.int (1)))]))] []),(.asg (.tup [(.pt (.nm 4)),(.pt (.nm 5))]) (.tup [(.comp false 2 (.meth (.nm 0) 21 [(.nm 8)]) (.nm 8) (.nm 2) [] []),(.ite (.cmp (.nm 1) .Eq (.c (.str "max"))) (.gl 3) (.gl 4))])),(.asg (.pt (.nm 6)) (.call false (.gl 16) [(.call false (.nm 5) [(.comp false 3 (.nm 8) (.tup [(.nm 8),(.nm 9)]) (.nm 4) [] [])]),(.call false (.nm 5) [(.comp false 3 (.nm 9) (.tup [(.nm 8),(.nm 9)]) (.nm 4) [] [])])])),(.ret (.meth (.nm 0) 25 [(.tup [(.nm 1),(.meth (.nm 0) 23 [(.nm 2)])]),(.nm 6)]))]
noncomputable def yR:List St:=[(.asg (.pt (.nm 2)) (.subk (.nm 0) 14)),(.asg (.subk (.nm 0) 14) (.bin .Add (.nm 2) (.c (.int (1))))),(.ret (.bin .Mod (.ite (.cmp (.nm 2) .Lt (.call false (.gl 0) [(.subk (.nm 0) 13)])) (.sub (.subk (.nm 0) 13) (.nm 2)) (.bin .Add (.bin .Add (.bin .Mult (.c (.int (5))) (.nm 2)) (.bin .FloorDiv (.nm 2) (.c (.int (3))))) (.call false (.gl 0) [(.subk (.nm 0) 13)]))) (.nm 1)))]
noncomputable def QR:List St:=[(.ret (.lst false [(.tup [(.tup [(.c (.str "bit")),(.c (.int (2))),(.c (.bool true))]),(.tup [(.c (.int (0))),(.c (.int (0))),(.c (.int (1))),(.c (.int (0)))])]),(.tup [(.tup [(.c (.str "bit")),(.c (.int (2))),(.c (.bool false))]),(.tup [(.c (.int (0))),(.c (.int (0))),(.neg (.c (.int (1)))),(.c (.int (1)))])]),(.tup [(.c (.bool true)),(.tup [(.c (.int (0))),(.c (.int (0))),(.c (.int (0))),(.c (.int (1)))])]),(.tup [(.c (.bool false)),(.tup [(.c (.int (0))),(.c (.int (0))),(.c (.int (0))),(.c (.int (0)))])]),(.tup [(.nm 0),(.tup [(.c (.int (0))),(.c (.int (0))),(.c (.int (0))),(.nm 0)])]),(.tup [(.tup [(.c (.str "sum")),(.tup [(.tup [(.c (.int (0))),(.c (.int (1)))])]),(.c (.int (0)))]),(.tup [(.c (.int (1))),(.c (.int (0))),(.c (.int (0))),(.c (.int (0)))])]),(.tup [(.tup [(.c (.str "sum")),(.tup [(.tup [(.c (.int (1))),(.c (.int (1)))])]),(.c (.int (0)))]),(.tup [(.c (.int (0))),(.c (.int (1))),(.c (.int (0))),(.c (.int (0)))])]),(.tup [(.tup [(.c (.str "sum")),(.tup [(.tup [(.c (.int (0))),(.c (.int (1)))]),(.tup [(.c (.int (1))),(.neg (.c (.int (1))))])]),(.c (.int (1)))]),(.tup [(.c (.int (1))),(.neg (.c (.int (1)))),(.c (.int (0))),(.c (.int (1)))])]),(.tup [(.tup [(.c (.str "sum")),(.tup [(.tup [(.c (.int (0))),(.neg (.c (.int (1))))])]),(.c (.int (2)))]),(.tup [(.neg (.c (.int (1)))),(.c (.int (0))),(.c (.int (0))),(.c (.int (2)))])]),(.tup [(.tup [(.c (.str "sum")),(.tup [(.tup [(.c (.int (1))),(.c (.int (1)))]),(.tup [(.c (.int (2))),(.c (.int (2)))])]),(.c (.int (0)))]),(.tup [(.c (.int (0))),(.c (.int (1))),(.c (.int (2))),(.c (.int (0)))])])]))]
noncomputable def Zy:List St:=[(.asg (.attr (.nm 0) 12) (.ite (.cmp (.nm 3) .Is (.c .none)) (.c .none) (.call true (.gl 9) [(.nm 3)]))),(.try_ [(.asg (.pt (.nm 4)) (.meth (.nm 0) 26 [(.nm 1),(.call false (.gl 9) [(.nm 2)]),(.c (.int (0)))]))] (.nm 0) 26 [(.nm 1),(.call false (.gl 9) [(.nm 2)]),(.c (.int (0)))] 33 4 (.str "refused")),(.asg (.tup [(.pt (.nm 5)),(.attr (.nm 0) 12)]) (.tup [(.attr (.nm 0) 12),(.c .none)])),(.retF (.tup [(.nm 4),(.nm 5)]))]
noncomputable def Zd:List St:=[(.ite (.call false (.gl 1) [(.nm 0),(.gl 8)]) [(.ret (.and [(.cmp (.call false (.gl 0) [(.nm 0)]) .Eq (.c (.int (3)))),(.cmp (.sub (.nm 0) (.c (.int (0)))) .Eq (.c (.str "sum")))]))] []),(.ret (.and [(.call false (.gl 1) [(.nm 0),(.gl 10)]),(.not (.call false (.gl 1) [(.nm 0),(.gl 11)]))]))]
noncomputable def qj:List St:=[(.ite (.call false (.gl 1) [(.nm 0),(.gl 10)]) [(.ret (.nm 0))] []),(.ret (.bin .Add (.sub (.nm 0) (.c (.int (2)))) (.call false (.gl 5) [(.comp false 3 (.bin .Mult (.nm 4) (.sub (.nm 1) (.nm 3))) (.tup [(.nm 3),(.nm 4)]) (.sub (.nm 0) (.c (.int (1)))) [] [])])))]
noncomputable def qk:List St:=[(.ret (.ite (.cmp (.upto (.sub (.nm 0) (.c (.int (0)))) (.c (.int (6)))) .Eq (.c (.str "linear"))) (.sub (.nm 0) (.c (.int (2)))) (.bin .Add (.sub (.nm 0) (.c (.int (1)))) (.from (.nm 0) (.c (.int (2)))))))]
noncomputable def qi:List St:=[(.ite (.cmp (.upto (.sub (.nm 0) (.c (.int (0)))) (.c (.int (6)))) .Eq (.c (.str "linear"))) [(.asg (.pt (.nm 2)) (.call false (.gl 5) [(.comp false 3 (.bin .Mult (.nm 5) (.sub (.nm 1) (.nm 6))) (.tup [(.nm 5),(.nm 6)]) (.zip (.sub (.nm 0) (.c (.int (1)))) (.sub (.nm 0) (.c (.int (2))))) [] [])])),(.ret (.ite (.cmp (.sub (.nm 0) (.c (.int (0)))) .Eq (.c (.str "linear_le"))) (.cmp (.nm 2) .LtE (.sub (.nm 0) (.c (.int (3))))) (.cmp (.cmp (.nm 2) .Eq (.sub (.nm 0) (.c (.int (3))))) .Eq (.cmp (.sub (.nm 0) (.c (.int (0)))) .Eq (.c (.str "linear_eq"))))))] []),(.asg (.pt (.nm 3)) (.call false (.gl 6) [(.comp false 2 (.sub (.nm 1) (.nm 5)) (.nm 5) (.sub (.nm 0) (.c (.int (1)))) [] [])])),(.ret (.cmp (.sub (.nm 1) (.sub (.nm 0) (.c (.int (2))))) .Eq (.sub (.nm 3) (.ite (.cmp (.sub (.nm 0) (.c (.int (0)))) .Eq (.c (.str "min"))) (.c (.int (0))) (.bin .Sub (.call false (.gl 0) [(.nm 3)]) (.c (.int (1))))))))]
noncomputable def b_law_whole:List St:=[(.asg (.pt (.nm 2)) (.call true (.gl 9) [(.nm 2)])),(.ite (.cmp (.comp false 3 (.nm 10) (.nm 9) (.tup [(.neg (.c (.int (1)))),(.c (.int (0))),(.c (.int (1))),(.c (.int (2)))]) [] [(.mk (.nm 10) (.meth (.nm 1) 1 [(.nm 9),(.lst false [])]) [(.not (.call false (.gl 31) [(.nm 10),(.nm 2)]))])]) .NotEq (.lst false [])) [(.ret (.c .none))] []),(.for (.nm 3) (.call false (.gl 14) [(.c (.int (3))),(.meth (.nm 0) 18 [])]) [(.asg (.pt (.nm 4)) (.lst true [])),(.for (.tup [(.nm 5),(.nm 6)]) (.meth (.nm 0) 19 [(.nm 3)]) [(.for (.nm 7) (.call false (.gl 14) [(.nm 5),(.bin .Add (.nm 6) (.c (.int (1))))]) [(.ite (.cmp (.comp false 2 (.nm 9) (.nm 9) (.meth (.nm 1) 1 [(.nm 3),(.lst false [])]) [(.not (.call false (.gl 31) [(.nm 9),(.bin .Add (.nm 2) (.lst false [(.nm 7)]))]))] []) .Eq (.lst false [])) [(.expr (.meth (.nm 4) 0 [(.nm 7)]))] [])])]),(.ite (.cmp (.call false (.gl 0) [(.nm 4)]) .NotEq (.c (.int (1)))) [(.ret (.c .none))] []),(.expr (.meth (.nm 2) 0 [(.sub (.nm 4) (.c (.int (0))))]))]),(.retF (.nm 2))]
noncomputable def b_law:List St:=[(.asg (.tup [(.pt (.nm 1)),(.pt (.nm 2)),(.pt (.nm 3)),(.pt (.nm 4))]) (.tup [(.dct 0 [13,14] [(.call false (.gl 9) [(.upto (.nm 0) (.c (.int (40))))]),(.c (.int (0)))]),(.call false (.gl 23) []),(.dct 1 [] []),(.lst true [])])),(.asg (.tup [(.pt (.nm 5)),(.pt (.nm 6)),(.pt (.nm 7))]) (.tup [(.bin .Sub (.call false (.gl 25) [(.nm 1),(.c (.int (3)))]) (.c (.int (1)))),(.call false (.gl 25) [(.nm 1),(.c (.int (2)))]),(.bin .Sub (.call false (.gl 25) [(.nm 1),(.c (.int (2)))]) (.c (.int (1))))])),(.expr (.meth (.attr (.nm 2) 10) 16 [(.c (.str "x")),(.ite (.cmp (.nm 6) .Eq (.c (.int (0)))) (.tup [(.tup [(.nm 5),(.bin .Add (.nm 5) (.c (.int (2))))])]) (.tup [(.tup [(.nm 5),(.bin .Add (.nm 5) (.c (.int (1))))]),(.tup [(.bin .Add (.nm 5) (.c (.int (3)))),(.bin .Add (.nm 5) (.c (.int (3))))])]))])),(.expr (.meth (.attr (.nm 2) 10) 16 [(.c (.str "y")),(.tup [(.tup [(.nm 7),(.bin .Add (.nm 7) (.c (.int (1))))])])])),(.expr (.meth (.attr (.nm 2) 10) 16 [(.c (.str "b")),(.tup [(.tup [(.c (.int (0))),(.c (.int (1)))])])])),(.asg (.pt (.nm 8)) (.call false (.gl 26) [(.bin .Sub (.call false (.gl 25) [(.nm 1),(.c (.int (6)))]) (.c (.int (2))))])),(.asg (.pt (.nm 9)) (.comp true 3 (.nm 27) (.tup [(.nm 27),(.nm 28)]) (.nm 8) [] [])),(.for (.nm 10) (.call false (.gl 14) [(.bin .Add (.c (.int (2))) (.call false (.gl 25) [(.nm 1),(.c (.int (2)))]))]) [(.asg (.tup [(.pt (.nm 11)),(.pt (.nm 12))]) (.tup [(.sub (.tup [(.c (.str "max")),(.c (.str "min"))]) (.call false (.gl 25) [(.nm 1),(.c (.int (2)))])),(.sub (.tup [(.c .none),(.lst false []),(.lst false [(.tup [(.c (.str "bit")),(.c (.int (2))),(.c (.bool true))])])]) (.call false (.gl 25) [(.nm 1),(.c (.int (3)))]))])),(.asg (.pt (.nm 13)) (.comp false 2 (.call false (.gl 25) [(.nm 1),(.call false (.gl 0) [(.nm 9)])]) (.nm 27) (.call false (.gl 14) [(.call false (.gl 25) [(.nm 1),(.c (.int (5)))])]) [] [])),(.asg (.tup [(.pt (.nm 14)),(.pt (.nm 15)),(.pt (.nm 16))]) (.tup [(.comp false 2 (.sub (.nm 9) (.nm 27)) (.nm 27) (.nm 13) [] []),(.meth (.attr (.nm 2) 10) 18 []),(.call false (.gl 9) [(.attr (.attr (.nm 2) 10) 7)])])),(.asg (.tup [(.pt (.nm 17)),(.pt (.nm 18))]) (.call false (.gl 27) [(.nm 2),(.nm 11),(.nm 14),(.nm 12)])),(.ite (.cmp (.nm 13) .Eq (.lst false [])) [(.asg (.pt (.nm 19)) (.ite (.cmp (.nm 12) .Is (.c .none)) (.tup [(.c (.str "refused")),(.c .none)]) (.tup [(.c (.int (0))),(.bin .Add (.nm 12) (.lst false [(.c (.bool false))]))]))),(.ite (.or [(.cmp (.tup [(.nm 17),(.nm 18)]) .NotEq (.nm 19)),(.call false (.gl 1) [(.nm 17),(.gl 11)]),(.cmp (.tup [(.meth (.attr (.nm 2) 10) 18 []),(.attr (.attr (.nm 2) 10) 7)]) .NotEq (.tup [(.nm 15),(.nm 16)]))]) [(.ret (.c (.bool false)))] []),.cont] []),(.ite (.or [(.cmp (.nm 18) .NotEq (.nm 12)),(.not (.call false (.gl 28) [(.nm 17)]))]) [(.ret (.c (.bool false)))] []),(.asg (.tup [(.pt (.nm 15)),(.pt (.nm 16))]) (.tup [(.meth (.attr (.nm 2) 10) 18 []),(.call false (.gl 9) [(.attr (.attr (.nm 2) 10) 7)])])),(.ite (.or [(.cmp (.call false (.gl 27) [(.nm 2),(.nm 11),(.nm 14),(.nm 12)]) .NotEq (.tup [(.nm 17),(.nm 18)])),(.cmp (.tup [(.meth (.attr (.nm 2) 10) 18 []),(.attr (.attr (.nm 2) 10) 7)]) .NotEq (.tup [(.nm 15),(.nm 16)]))]) [(.ret (.c (.bool false)))] []),(.expr (.meth (.nm 9) 0 [(.nm 17)])),(.expr (.meth (.nm 4) 0 [(.tup [(.nm 11),(.nm 13)])]))]),(.for (.nm 20) (.attr (.attr (.nm 2) 10) 7) [(.expr (.meth (.meth (.nm 3) 2 [(.call false (.gl 3) [(.bin .Add (.tup [(.neg (.c (.int (1))))]) (.call false (.gl 30) [(.nm 20)]))]),(.lst true [])]) 0 [(.nm 20)]))]),(.for (.nm 21) (.tup [(.nm 5),(.bin .Add (.nm 5) (.c (.int (1)))),(.bin .Add (.bin .Add (.nm 5) (.c (.int (2)))) (.nm 6))]) [(.for (.nm 22) (.tup [(.nm 7),(.bin .Add (.nm 7) (.c (.int (1))))]) [(.for (.nm 23) (.tup [(.c (.int (0))),(.c (.int (1)))]) [(.asg (.pt (.nm 24)) (.call false (.gl 32) [(.attr (.nm 2) 10),(.nm 3),(.lst false [(.nm 21),(.nm 22),(.nm 23)])])),(.ite (.cmp (.nm 24) .Is (.c .none)) [(.ret (.c (.bool false)))] []),(.asg (.pt (.nm 25)) (.comp true 6 (.bin .Add (.bin .Add (.bin .Add (.bin .Mult (.nm 28) (.nm 21)) (.bin .Mult (.nm 29) (.nm 22))) (.bin .Mult (.nm 30) (.nm 23))) (.nm 31)) (.tup [(.nm 27),(.tup [(.nm 28),(.nm 29),(.nm 30),(.nm 31)])]) (.nm 8) [] [])),(.for (.tup [(.tup [(.nm 11),(.nm 13)]),(.nm 17)]) (.zip (.nm 4) (.from (.nm 9) (.call false (.gl 0) [(.nm 8)]))) [(.asg (.pt (.nm 14)) (.comp false 2 (.sub (.nm 25) (.nm 27)) (.nm 27) (.nm 13) [] [])),(.expr (.meth (.nm 25) 0 [(.ite (.cmp (.nm 11) .Eq (.c (.str "max"))) (.call false (.gl 3) [(.nm 14)]) (.call false (.gl 4) [(.nm 14)]))])),(.ite (.cmp (.call false (.gl 29) [(.nm 17),(.nm 24)]) .NotEq (.sub (.nm 25) (.neg (.c (.int (1)))))) [(.ret (.c (.bool false)))] [])])])])]),(.ret (.c (.bool true)))]
end Mine
namespace Mine
open PySem PySem.Calls PyProof PyProof.Rows PySem.W PySem.SeqAt
set_option tactic.hygienic false
structure Law1 (C:Cx):Prop where
 Y:C.Good
 TT:TOk C T1
 range_of:trF C.K T1 Z1 60 28=some (2,2,yN)
 least:trF C.K T1 Z1 60 35=some (1,1,Jc)
 greatest:trF C.K T1 Z1 60 42=some (1,1,yu)
 within_figures:trF C.K T1 Z1 60 179=some (1,1,Z4)
 is_made:trF C.K T1 Z1 60 186=some (2,2,qt)
 sum_of:trF C.K T1 Z1 60 193=some (1,1,jS)
 plus:trF C.K T1 Z1 60 198=some (3,8,uk)
 new_var:trF C.K T1 Z1 60 144=some (3,3,y6)
 post:trF C.K T1 Z1 60 151=some (2,2,Ud)
 size:trF C.K T1 Z1 60 158=some (1,1,Ui)
 domain_of:trF C.K T1 Z1 60 165=some (2,2,Qs)
 flat_init:trF C.K T1 Z1 60 137=some (1,1,Qr)
 gath_init:trF C.K T1 Z1 60 226=some (1,1,Qo)
 once:trF C.K T1 Z1 60 233=some (3,6,j2)
 bounds:trF C.K T1 Z1 60 240=some (2,8,jZ)
 var_of:trF C.K T1 Z1 60 245=some (2,9,b_var_of)
 vars_of:trF C.K T1 Z1 60 250=some (2,2,YB)
 note:trF C.K T1 Z1 60 339=some (2,2,UH)
 made_number:trF C.K T1 Z1 60 346=some (3,5,qy)
 extreme:trF C.K T1 Z1 60 384=some (4,7,qA)
 law_next:trF C.K T1 Z1 60 494=some (2,3,yR)
 law_things:trF C.K T1 Z1 60 501=some (1,1,QR)
 law_asked:trF C.K T1 Z1 60 508=some (4,6,Zy)
 law_is_number:trF C.K T1 Z1 60 515=some (1,1,Zd)
 law_worth:trF C.K T1 Z1 60 520=some (2,2,qj)
 law_about:trF C.K T1 Z1 60 527=some (1,1,qk)
 law_holds:trF C.K T1 Z1 60 532=some (2,4,qi)
 law_whole:trF C.K T1 Z1 60 537=some (3,8,b_law_whole)
 law:trF C.K T1 Z1 60 542=some (1,26,b_law)
noncomputable def elW (C:Cx)(T:Tabs)(n:Nat)(elt:Ex):Rho->zA->(D->zA->Prop)->Prop:=λ ρ σ K=>wpE C T n elt ρ σ K
noncomputable def JE:D:=.p (.tuple [.str (Str.ofString "satisfy"),.none])
noncomputable def zB (fd:MO)(pt:D)(vars tolds:List PyData)(made:List (Ky×D)):zA:=[fd,.sdict [(10,.obj 4),(11,.obj 7),(12,pt)],.inst 485 1,.sdict [(6,.obj 5),(7,.obj 6),(8,JE),(9,.p (.tuple []))],.inst 168 3,.lst vars,.lst tolds,.tdict made]
@[simp ↓] theorem zGK {α:Type}{o:Option α}{K:α->Prop}:Is o K=(match o with | some x=>K x | none=>False):=rfl
@[simp ↓] theorem zFq {α β:Type}{a:α}{f:α->Option β}:(some a).bind f=f a:=rfl
@[simp ↓,simp] theorem zGD {α:Type}{P:Prop}:noO (none:Option α) P=P:=rfl
@[simp ↓,simp] theorem zGA {P:Prop}:ifT true P=P:=rfl
@[simp ↓] theorem zGx {α:Type}{b:Bool}{o:Option α}:gd b o=(match b with | true=>o | false=>none):=rfl
@[simp ↓] theorem zFz {ds:List D}{o:Option (List PyData)}:jf ds o=(match o with | some xs=>.p (.tuple xs) | none=>.tup ds):=rfl
@[simp ↓,simp] theorem zDP {i:Nat}{es:List (Int×D)}{k:Int}{d:D}{σ:zA}{Q:D->zA->Prop}:ud i es k d σ Q none=Q d (σ.set i (.idict (es++[(k,d)]))):=rfl
@[simp ↓,simp] theorem zI5 {i:Nat}{es:List (Ky×D)}{q:Ky}{d:D}{σ:zA}{K:zA->Prop}:VI i es q d σ K none=K (σ.set i (.tdict (es++[(q,d)]))):=rfl
@[simp ↓] theorem BrT {P Q:Prop}:Br true P Q=P:=rfl
@[simp ↓] theorem BrF {P Q:Prop}:Br false P Q=Q:=rfl
@[simp ↓] theorem zHC {x:PyData}{K:PyData->Prop}:onP (.p x) K=K x:=rfl
@[simp ↓] theorem zH1 {i:Int}{K:Int->Prop}:onI (.p (.int i)) K=K i:=rfl
@[simp ↓] theorem zI2 {xs:List PyData}{K:List PyData->Prop}:onT (.p (.tuple xs)) K=K xs:=rfl
@[simp ↓] theorem zHm {b:Bool}{K:Bool->Prop}:isB (.p (.bool b)) K=K b:=rfl
@[simp ↓] theorem zHQ {i:Nat}{K:Nat->Prop}:onO (.obj i) K=K i:=rfl
@[simp ↓] theorem zHM {ρ:Rho}{i:Nat}{K:D->Prop}:onN ρ i K=Is (ρ[i]?.bind id) K:=rfl
@[simp ↓] theorem idS {α:Type}{a:α}:id a=a:=rfl
@[simp ↓] theorem zG7 {P:Prop}:wE false P=P:=rfl
@[simp ↓] theorem thN {P X:Prop}:Yp .next P X=P:=rfl
@[simp ↓] theorem thC {P X:Prop}:Yp .cont P X=X:=rfl
@[simp ↓] theorem thR {d:D}{P X:Prop}:Yp (.ret d) P X=X:=rfl
@[simp ↓] theorem tlN {X:D->Prop}{P:Prop}:yQ .next X P=P:=rfl
@[simp ↓] theorem tlC {X:D->Prop}{P:Prop}:yQ .cont X P=P:=rfl
@[simp ↓] theorem tlR {d:D}{X:D->Prop}{P:Prop}:yQ (.ret d) X P=X d:=rfl
@[simp ↓] theorem zG5 {x:PyData}{acc:List PyData}{K:List PyData->Prop}:j6 (.p x) acc K=(Few acc.length/\K (acc++[x])):=rfl
@[simp ↓] theorem drN {P:Prop}:Yi (.p .none) P=P:=rfl
@[simp ↓] theorem drI {i:Int}{P:Prop}:Yi (.p (.int i)) P=P:=rfl
@[simp ↓] theorem zH9 {σ:zA}{x:PyData}:qI σ (.p x)=some x:=rfl
@[simp ↓] theorem zHT {σ:zA}{i:Nat}:qI σ (.obj i)=(σ[i]?.bind z0).bind λ xs=>some (.list xs):=rfl
@[simp ↓] theorem zH0 {σ:zA}{ds:List D}:qI σ (.tup ds)=(derefs σ ds).bind λ xs=>some (.tuple xs):=rfl
@[simp ↓] theorem zGr {σ:zA} :derefs σ []=some []:=rfl
@[simp ↓] theorem zGF {σ:zA}{d:D}{ds:List D}:derefs σ (d::ds)=(qI σ d).bind λ x=>(derefs σ ds).bind λ xs=>some (x::xs):=rfl
@[simp ↓] theorem zFM {xs:List PyData}:z0 (.lst xs)=some xs:=rfl
@[simp ↓] theorem zFN {xs:List PyData}:qg (.tuple xs)=some xs:=rfl
@[simp ↓] theorem zFG {xs:List PyData}:qg (.list xs)=some xs:=rfl
@[simp ↓] theorem zGI {es:List (Nat×D)}:YG (.sdict es)=some es:=rfl
@[simp ↓] theorem zGd {es:List (Nat×D)}:JP (.rdict es)=some es:=rfl
@[simp ↓] theorem zI6 {σ:zA}{x:PyData}:ZA σ (.p x)=qg x:=rfl
@[simp ↓] theorem zGY {σ:zA}{i:Nat}:ZA σ (.obj i)=σ[i]?.bind z0:=rfl
@[simp ↓] theorem zIl {x:PyData}:isP (.p x)=some x:=rfl
@[simp ↓] theorem zIf {i:Nat}:isP (.obj i)=none:=rfl
@[simp ↓] theorem zH7 {i:Int}:isInt (.int i)=some i:=rfl
@[simp ↓] theorem zHD:qx []=some []:=rfl
@[simp ↓] theorem zHy {d:D}{ds:List D}:qx (d::ds)=(isP d).bind λ x=>(qx ds).bind λ xs=>some (x::xs):=rfl
@[simp ↓] theorem zHO {ds:List D}:Yx ds=jf ds (qx ds):=rfl
@[simp ↓] theorem zG8:ints? []=some []:=rfl
@[simp ↓] theorem zGP {x:PyData}{r:List PyData}:ints? (x::r)=(isInt x).bind λ i=>(ints? r).bind λ l=>some (i::l):=rfl
@[simp ↓] theorem bpN {i:Nat}{x:PyData}{ρ:Rho}:Zc (.nm i) x ρ=some (ρ.set i (some (.p x))):=rfl
@[simp ↓] theorem bpT {ps:List Pt}{xs:List PyData}{ρ:Rho}:Zc (.tup ps) (.tuple xs) ρ=bindPs ps xs ρ:=rfl
@[simp ↓] theorem zHg {ρ:Rho}:bindPs [] [] ρ=some ρ:=rfl
@[simp ↓] theorem zHF {p:Pt}{ps:List Pt}{x:PyData}{xs:List PyData}{ρ:Rho}:bindPs (p::ps) (x::xs) ρ=(Zc p x ρ).bind λ ρ'=>bindPs ps xs ρ':=rfl
@[simp ↓] theorem cEq {σ:zA}{x y:D}{K:Bool->Prop}:wpC .Eq σ x y K=Is (qI σ x) λ a=>Is (qI σ y) λ b=>Sh a b/\K (PyData.eqv a b):=rfl
@[simp ↓] theorem cNe {σ:zA}{x y:D}{K:Bool->Prop}:wpC .NotEq σ x y K=Is (qI σ x) λ a=>Is (qI σ y) λ b=>Sh a b/\K (!PyData.eqv a b):=rfl
@[simp ↓] theorem cIs {σ:zA}{x y:D}{K:Bool->Prop}:wpC .Is σ x y K=Is (yD y) λ _=>Is (isNone x) K:=rfl
@[simp ↓] theorem cLt {σ:zA}{x y:D}{K:Bool->Prop}:wpC .Lt σ x y K=onI x λ a=>onI y λ b=>K (decide (a<b)):=rfl
@[simp ↓] theorem cLe {σ:zA}{x y:D}{K:Bool->Prop}:wpC .LtE σ x y K=onI x λ a=>onI y λ b=>K (decide (a<=b)):=rfl
@[simp ↓] theorem cGe {σ:zA}{x y:D}{K:Bool->Prop}:wpC .GtE σ x y K=onI x λ a=>onI y λ b=>K (decide (b<=a)):=rfl
@[simp ↓] theorem cNI {σ:zA}{x y:D}{K:Bool->Prop}:wpC .NotIn σ x y K=un σ x y λ b=>K (!b):=rfl
@[simp ↓] theorem inO {σ:zA}{x:D}{i:Nat}{K:Bool->Prop}:un σ x (.obj i) K=Is σ[i]? (XR x K):=rfl
@[simp ↓,simp] theorem zHZ {x:D}{K:Bool->Prop}{es:List (Ky×D)}:XR x K (.tdict es)=onT x λ k=>Kd (.tuple k)/\Is (keyDs k) λ q=>K (zo q es).isSome:=rfl
@[simp ↓] theorem zHk {x:PyData}:isNone (.p x)=uf x:=rfl
@[simp ↓] theorem zHI {i:Nat}:isNone (.obj i)=some false:=rfl
@[simp ↓] theorem nbN:uf .none=some true:=rfl
@[simp ↓] theorem nbL {x:List PyData}:uf (.list x)=some false:=rfl
@[simp ↓] theorem ncN:yD (.p .none)=some ():=rfl
@[simp ↓] theorem biA {σ:zA}{x y:D}{K:D->Prop}:QD σ .Add x y K=Y3 σ x y K:=rfl
@[simp ↓] theorem biS {σ:zA}{x y:D}{K:D->Prop}:QD σ .Sub x y K=onI x λ a=>onI y λ b=>K (.p (.int (a - b))):=rfl
@[simp ↓] theorem biM {σ:zA}{x y:D}{K:D->Prop}:QD σ .Mult x y K=onI x λ a=>onI y λ b=>Fit a/\Fit b/\K (.p (.int (a * b))):=rfl
@[simp ↓] theorem biF {σ:zA}{x y:D}{K:D->Prop}:QD σ .FloorDiv x y K=onI x λ a=>onI y λ b=>Nz b/\K (.p (.int (Int.fdiv a b))):=rfl
@[simp ↓] theorem biO {σ:zA}{x y:D}{K:D->Prop}:QD σ .Mod x y K=onI x λ a=>onI y λ b=>Nz b/\K (.p (.int (Int.fmod a b))):=rfl
@[simp ↓] theorem biP {σ:zA}{x y:D}{K:D->Prop}:QD σ .Pow x y K=onI x λ a=>onI y λ b=>Pw a b/\K (.p (.int (a ^ b.toNat))):=rfl
@[simp ↓] theorem adI {σ:zA}{a:Int}{y:D}{K:D->Prop}:Y3 σ (.p (.int a)) y K=onI y λ b=>K (.p (.int (a + b))):=rfl
@[simp ↓] theorem adT {σ:zA}{a:List PyData}{y:D}{K:D->Prop}:Y3 σ (.p (.tuple a)) y K=onT y λ b=>Few (a.length + b.length)/\K (.p (.tuple (a++b))):=rfl
@[simp ↓] theorem adL {σ:zA}{a:List PyData}{y:D}{K:D->Prop}:Y3 σ (.p (.list a)) y K=yE a y K:=rfl
@[simp ↓] theorem adO {σ:zA}{i:Nat}{y:D}{K:D->Prop}:Y3 σ (.obj i) y K=Is (σ[i]?.bind z0) λ a=>yE a y K:=rfl
@[simp ↓] theorem zGX {a b:List PyData}{K:D->Prop}:yE a (.p (.list b)) K=(Few (a.length + b.length)/\K (.p (.list (a++b)))):=rfl
@[simp ↓] theorem siO {σ:zA}{i:Nat}:QO σ (.obj i)=σ[i]?.bind jN:=rfl
@[simp ↓] theorem siP {σ:zA}{x:PyData}:QO σ (.p x)=(asL x).bind ints?:=rfl
@[simp ↓] theorem zI4 {es:List (Int×D)}:jN (.idict es)=some (es.map (·.1)):=rfl
@[simp ↓] theorem zHc {xs:List PyData}:asL (.list xs)=some xs:=rfl
@[simp ↓] theorem zHP {m:Bool}{ds:List D}{σ:zA}{Q:D->zA->Prop}:Zo m .len ds σ Q=on1 ds λ d=>Is (ZA σ d) λ xs=>Few xs.length/\Q (.p (.int xs.length)) σ:=rfl
@[simp ↓] theorem zHY {m:Bool}{ds:List D}{σ:zA}{Q:D->zA->Prop}:Zo m .isinst ds σ Q=on2 ds λ d t=>Is ((Ul t).bind Ju) λ t=>Xi d t σ Q:=rfl
@[simp ↓] theorem zIh {m:Bool}{ds:List D}{σ:zA}{Q:D->zA->Prop}:Zo m .abs ds σ Q=on1 ds λ d=>onI d λ a=>Q (.p (.int a.natAbs)) σ:=rfl
@[simp ↓] theorem zHl {m:Bool}{ds:List D}{σ:zA}{Q:D->zA->Prop}:Zo m .max ds σ Q=yV ds (λ d=>Is (ZA σ d) λ xs=>Is (ints? xs) λ l=>hdL l λ a r=>Q (.p (.int (zu a r))) σ) λ d e=>onI d λ a=>onI e λ b=>Q (.p (.int (zu a [b]))) σ:=rfl
@[simp ↓] theorem zGW {m:Bool}{ds:List D}{σ:zA}{Q:D->zA->Prop}:Zo m .min ds σ Q=yV ds (λ d=>Is (ZA σ d) λ xs=>Is (ints? xs) λ l=>hdL l λ a r=>Q (.p (.int (ZC a r))) σ) λ d e=>onI d λ a=>onI e λ b=>Q (.p (.int (ZC a [b]))) σ:=rfl
@[simp ↓] theorem zI8 {m:Bool}{ds:List D}{σ:zA}{Q:D->zA->Prop}:Zo m .sum ds σ Q=on1 ds λ d=>Is (ZA σ d) λ xs=>Is (ints? xs) λ l=>Q (.p (.int l.sum)) σ:=rfl
@[simp ↓] theorem zHR {m:Bool}{ds:List D}{σ:zA}{Q:D->zA->Prop}:Zo m .tuple ds σ Q=on1 ds λ d=>Is (ZA σ d) λ xs=>Few xs.length/\Q (.p (.tuple xs)) σ:=rfl
@[simp ↓] theorem zIn {m:Bool}{ds:List D}{σ:zA}{Q:D->zA->Prop}:Zo m .list ds σ Q=on1 ds λ d=>Is (ZA σ d) λ xs=>Few xs.length/\qG m xs σ Q:=rfl
@[simp ↓] theorem zHV {m:Bool}{ds:List D}{σ:zA}{Q:D->zA->Prop}:Zo m .sorted ds σ Q=on1 ds λ d=>Is (QO σ d) λ l=>Lt64 l.length/\qG m ((zg l).map .int) σ Q:=rfl
@[simp ↓] theorem zI7 {m:Bool}{ds:List D}{σ:zA}{Q:D->zA->Prop}:Zo m .dict ds σ Q=on1 ds λ d=>onT d λ xs=>Is (Zv xs) λ es=>Nd (es.map (·.1))/\Few xs.length/\Q (.obj σ.length) (σ++[.idict es]):=rfl
@[simp ↓] theorem zHq {m:Bool}{ds:List D}{σ:zA}{Q:D->zA->Prop}:Zo m .int ds σ Q=on1 ds λ d=>onP d λ x=>Is (uW x) λ a=>Q (.p (.int a)) σ:=rfl
@[simp ↓] theorem zHi {m:Bool}{ds:List D}{σ:zA}{Q:D->zA->Prop}:Zo m .range ds σ Q=yV ds (λ e=>onI e λ b=>Q (.rng 0 b) σ) λ d e=>onI d λ a=>onI e λ b=>Q (.rng a b) σ:=rfl
@[simp ↓] theorem o1 {d:D}{K:D->Prop}:on1 [d] K=K d:=rfl
@[simp ↓] theorem o2 {d e:D}{K:D->D->Prop}:on2 [d,e] K=K d e:=rfl
@[simp ↓] theorem zHK {d:D}{K:D->Prop}{K2:D->D->Prop}:yV [d] K K2=K d:=rfl
@[simp ↓] theorem zHr {d e:D}{K:D->Prop}{K2:D->D->Prop}:yV [d,e] K K2=K2 d e:=rfl
@[simp ↓] theorem rtT {xs:List PyData}{σ:zA}{Q:D->zA->Prop}:qG true xs σ Q=Q (.obj σ.length) (σ++[.lst xs]):=rfl
@[simp ↓] theorem rtF {xs:List PyData}{σ:zA}{Q:D->zA->Prop}:qG false xs σ Q=Q (.p (.list xs)) σ:=rfl
@[simp ↓] theorem hdC {a:Int}{r:List Int}{K:Int->List Int->Prop}:hdL (a::r) K=K a r:=rfl
@[simp ↓] theorem zGh {b:Bi}:Ul (.bi b)=some b:=rfl
@[simp ↓] theorem zFy:Ju .tuple=some 0:=rfl
@[simp ↓] theorem zGs:Ju .int=some 2:=rfl
@[simp ↓] theorem zG4:Ju .bool=some 3:=rfl
@[simp ↓] theorem zGU {x:PyData}{t:Nat}{σ:zA}{Q:D->zA->Prop}:Xi (.p x) t σ Q=Is (qE x t) λ r=>Q (.p (.bool r)) σ:=rfl
@[simp ↓] theorem zFx {b:Bool}:qE (.bool b) 0=some false:=rfl
@[simp ↓] theorem zFQ {b:Int}:qE (.int b) 0=some false:=rfl
@[simp ↓] theorem zEY {b:List PyData}:qE (.tuple b) 0=some true:=rfl
@[simp ↓] theorem zG2 {b:Int}:qE (.int b) 2=some true:=rfl
@[simp ↓] theorem zEU {b:List PyData}:qE (.tuple b) 2=some false:=rfl
@[simp ↓] theorem zFK {b:Int}:qE (.int b) 3=some false:=rfl
@[simp ↓] theorem zFZ {b:Str}:qE (.str b) 3=some false:=rfl
@[simp ↓] theorem toI {a:Int}:uW (.int a)=some a:=rfl
@[simp ↓] theorem toB {a:Bool}:uW (.bool a)=some (b2i a):=rfl
@[simp ↓] theorem mh0 {xs:List PyData}:Ym (.lst xs) 0=true:=rfl
@[simp ↓] theorem mh1 {es:List (Int×D)}:Ym (.idict es) 1=true:=rfl
@[simp ↓] theorem mb0 {xs:List PyData}{i:Nat}{ds:List D}{σ:zA}{Q:D->zA->Prop}:YN i (.lst xs) 0 ds σ Q=on1 ds λ d=>onP d λ x=>Few xs.length/\Q (.p .none) (σ.set i (.lst (xs++[x]))):=rfl
@[simp ↓] theorem mb1 {es:List (Int×D)}{i:Nat}{ds:List D}{σ:zA}{Q:D->zA->Prop}:YN i (.idict es) 1 ds σ Q=on2 ds λ e d=>onI e λ q=>Q ((zS q es).getD d) σ:=rfl
@[simp ↓] theorem mb2 {es:List (Int×D)}{i:Nat}{ds:List D}{σ:zA}{Q:D->zA->Prop}:YN i (.idict es) 2 ds σ Q=on2 ds λ e d=>onI e λ q=>Few es.length/\ud i es q d σ Q (zS q es):=rfl
@[simp ↓] theorem suP {x:PyData}{σ:zA}{i:D}{Q:D->Prop}:Yw σ (.p x) i Q=Is (qg x) λ xs=>QW xs i Q:=rfl
@[simp ↓] theorem suO {j:Nat}{σ:zA}{i:D}{Q:D->Prop}:Yw σ (.obj j) i Q=Is σ[j]? (YE i Q):=rfl
@[simp ↓,simp] theorem zHX {i:D}{Q:D->Prop}{xs:List PyData}:YE i Q (.lst xs)=QW xs i Q:=rfl
@[simp ↓,simp] theorem zIa {i:D}{Q:D->Prop}{es:List (Int×D)}:YE i Q (.idict es)=onI i λ k=>Is (zS k es) Q:=rfl
@[simp ↓,simp] theorem zHf {i:D}{Q:D->Prop}{es:List (Ky×D)}:YE i Q (.tdict es)=onT i λ k=>Kd (.tuple k)/\Is (keyDs k) λ q=>Is (zo q es) Q:=rfl
@[simp ↓] theorem suS {xs:List PyData}{k:Int}{Q:D->Prop}:QW xs (.p (.int k)) Q=(Sm k/\Is ((idx xs.length k).bind λ j=>xs[j]?) λ x=>Q (.p x)):=rfl
@[simp ↓] theorem upS {x:Str}{k:Int}{σ:zA}{Q:D->Prop}:YX σ (.p (.str x)) (.p (.int k)) Q=(Sm k/\Few x.cps.size/\PyData.strOk (Txt.slice x none (some k))=true/\Q (.p (.str (Txt.slice x none (some k))))):=rfl
@[simp ↓] theorem upL {xs:List PyData}{k:Int}{σ:zA}{Q:D->Prop}:YX σ (.p (.list xs)) (.p (.int k)) Q=(Sm k/\0<=k/\Few xs.length/\Q (.p (.list (xs.take k.toNat)))):=rfl
@[simp ↓] theorem frT {xs:List PyData}{k:Int}{σ:zA}{Q:D->Prop}:YZ σ (.p (.tuple xs)) (.p (.int k)) Q=(Sm k/\1<=k/\k<=xs.length/\Few xs.length/\Q (.p (.tuple (xs.drop k.toNat)))):=rfl
@[simp ↓] theorem frO {j:Nat}{k:Int}{σ:zA}{Q:D->Prop}:YZ σ (.obj j) (.p (.int k)) Q=Is (σ[j]?.bind z0) λ xs=>Sm k/\0<=k/\Few xs.length/\Q (.p (.list (xs.drop k.toNat))):=rfl
@[simp ↓] theorem atO {T:Tabs}{σ:zA}{i k:Nat}{Q:D->Prop}:jx T σ (.obj i) k Q=Q9 T σ i λ K _ fs=>noO (zY K k T.meth) (Is (look k fs) Q):=rfl
@[simp ↓] theorem zI3 {T:Tabs}{σ:zA}{i:Nat}{K:Addr->Nat->List (Nat×D)->Prop}:Q9 T σ i K=Is σ[i]? λ mo=>match mo with
 | .inst C j=>Is (σ[j]?.bind YG) λ fs=>K C j fs
 | _=>False:=rfl
@[simp ↓] theorem itP {x:PyData}{σ:zA}{Q:List PyData->Option (Nat×List PyData)->Prop}:zf σ (.p x) Q=Is (qg x) λ xs=>Q xs none:=rfl
@[simp ↓] theorem zHx {i:Nat}{σ:zA}{Q:List PyData->Option (Nat×List PyData)->Prop}:zf σ (.obj i) Q=Is (σ[i]?.bind z0) λ xs=>Q xs (some (i,xs)):=rfl
@[simp ↓] theorem itR {a b:Int}{σ:zA}{Q:List PyData->Option (Nat×List PyData)->Prop}:zf σ (.rng a b) Q=(Rg a b/\Q (QH a b) none):=rfl
@[simp ↓] theorem zHJ {x y:PyData}{xs ys:List PyData}{σ:zA}{Q:List PyData->Option (Nat×List PyData)->Prop}:zf σ (.zp (.p x) (.p y) xs ys) Q=Q (Uq xs ys) none:=rfl
@[simp ↓] theorem zH6 {i:Nat}{y:PyData}{xs ys:List PyData}{σ:zA}{Q:List PyData->Option (Nat×List PyData)->Prop}:zf σ (.zp (.obj i) (.p y) xs ys) Q=Q (Uq xs ys) (some (i,xs)):=rfl
@[simp ↓] theorem zHb {σ:zA}{P:Prop}:zZ none σ P=P:=rfl
@[simp ↓] theorem zIb {σ:zA}{P:Prop}{i:Nat}{xs:List PyData}:zZ (some (i,xs)) σ P=(σ[i]?=some (.lst xs)/\P):=rfl
@[simp ↓] theorem mk0 {ks:List Nat}{ds:List D}:mkD 0 ks ds=gd (Nat.beq ks.length ds.length) (some (.rdict (ks.zip ds))):=rfl
@[simp ↓] theorem mk1 {ks:List Nat}{ds:List D}:mkD 1 ks ds=some (.idict []):=rfl
@[simp ↓] theorem mk2 {ks:List Nat}{ds:List D}:mkD 2 ks ds=some (.tdict []):=rfl
@[simp ↓] theorem fzO {σ:zA}{i:Nat}:qW σ (.obj i)=(σ[i]?.bind z0).bind λ xs=>some (.list xs,σ.set i .dead):=rfl
@[simp ↓] theorem fzT {σ:zA}{x:PyData}{i:Nat}:qW σ (.tup [.p x,.obj i])=(σ[i]?.bind z0).bind λ xs=>some (.tuple [x,.list xs],σ.set i .dead):=rfl
@[simp ↓] theorem zIo {C:Cx}{T:Tabs}{n:Nat}{ρ:Rho}{σ:zA}{Q:D->zA->Prop}{i:Nat}:wpE C T n (.nm i) ρ σ Q=onN ρ i λ d=>Q d σ:=rfl
@[simp ↓] theorem zHt {C:Cx}{T:Tabs}{n:Nat}{ρ:Rho}{σ:zA}{Q:D->zA->Prop}{g:Nat}:wpE C T n (.gl g) ρ σ Q=Is T.glob[g]? λ p=>Q p.2 σ:=rfl
@[simp ↓] theorem e_c {C:Cx}{T:Tabs}{n:Nat}{ρ:Rho}{σ:zA}{Q:D->zA->Prop}{d:PyData}:wpE C T n (.c d) ρ σ Q=Q (.p d) σ:=rfl
@[simp ↓] theorem zGy {C:Cx}{T:Tabs}{n:Nat}{ρ:Rho}{σ:zA}{Q:D->zA->Prop}{es:List Ex}:wpE C T n (.tup es) ρ σ Q=wpEs C T n es ρ σ λ ds σ'=>Q (Yx ds) σ':=rfl
@[simp ↓] theorem zGJ {C:Cx}{T:Tabs}{n:Nat}{ρ:Rho}{σ:zA}{Q:D->zA->Prop}{m:Bool}{es:List Ex}:wpE C T n (.lst m es) ρ σ Q=wpEs C T n es ρ σ λ ds σ'=>Is (qx ds) λ xs=>qG m xs σ' Q:=rfl
@[simp ↓] theorem zGl {C:Cx}{T:Tabs}{n:Nat}{ρ:Rho}{σ:zA}{Q:D->zA->Prop}{k:Nat}{ks:List Nat}{es:List Ex}:wpE C T n (.dct k ks es) ρ σ Q=wpEs C T n es ρ σ λ ds σ'=>Is (mkD k ks ds) λ mo=>Q (.obj σ'.length) (σ'++[mo]):=rfl
@[simp ↓] theorem zGG {C:Cx}{T:Tabs}{n:Nat}{ρ:Rho}{σ:zA}{Q:D->zA->Prop}{op:Operator}{a b:Ex}:wpE C T n (.bin op a b) ρ σ Q=wpE C T n a ρ σ λ x σ'=>wpE C T n b ρ σ' λ y σ''=>QD σ'' op x y λ d=>Q d σ'':=rfl
@[simp ↓] theorem zGt {C:Cx}{T:Tabs}{n:Nat}{ρ:Rho}{σ:zA}{Q:D->zA->Prop}{a:Ex}:wpE C T n (.neg a) ρ σ Q=wpE C T n a ρ σ λ x σ'=>onI x λ i=>Q (.p (.int (-i))) σ':=rfl
@[simp ↓] theorem zGO {C:Cx}{T:Tabs}{n:Nat}{ρ:Rho}{σ:zA}{Q:D->zA->Prop}{a:Ex}:wpE C T n (.not a) ρ σ Q=wpE C T n a ρ σ λ x σ'=>isB x λ b=>Q (.p (.bool (!b))) σ':=rfl
@[simp ↓] theorem zGj {C:Cx}{T:Tabs}{n:Nat}{ρ:Rho}{σ:zA}{Q:D->zA->Prop}{es:List Ex}:wpE C T n (.and es) ρ σ Q=wpAnd C T n es ρ σ Q:=rfl
@[simp ↓] theorem zHN {C:Cx}{T:Tabs}{n:Nat}{ρ:Rho}{σ:zA}{Q:D->zA->Prop}{es:List Ex}:wpE C T n (.or es) ρ σ Q=wpOr C T n es ρ σ Q:=rfl
@[simp ↓] theorem zEx {C:Cx}{T:Tabs}{n:Nat}{ρ:Rho}{σ:zA}{Q:D->zA->Prop}{a b:Ex}{op:CmpOp}:wpE C T n (.cmp a op b) ρ σ Q=wpE C T n a ρ σ λ x σ'=>wpE C T n b ρ σ' λ y σ''=>wpC op σ'' x y λ r=>Q (.p (.bool r)) σ'':=rfl
@[simp ↓] theorem zGq {C:Cx}{T:Tabs}{n:Nat}{ρ:Rho}{σ:zA}{Q:D->zA->Prop}{a b c:Ex}:wpE C T n (.ite c a b) ρ σ Q=wpE C T n c ρ σ λ x σ'=>isB x λ r=>Br r (wpE C T n a ρ σ' Q) (wpE C T n b ρ σ' Q):=rfl
@[simp ↓] theorem zFR {C:Cx}{T:Tabs}{n:Nat}{ρ:Rho}{σ:zA}{Q:D->zA->Prop}{m:Bool}{f:Ex}{es:List Ex}:wpE C T n (.call m f es) ρ σ Q=wpE C T n f ρ σ λ g σ'=>wpEs C T n es ρ σ' λ ds σ''=>match g with
  | .fn a=>wE m (SatCall C T n a ds σ'' Q)
  | .bi b=>Zo m b ds σ'' Q
  | _=>False:=rfl
@[simp ↓] theorem zFS {C:Cx}{T:Tabs}{n:Nat}{ρ:Rho}{σ:zA}{Q:D->zA->Prop}{o:Ex}{k:Nat}{es:List Ex}:wpE C T n (.meth o k es) ρ σ Q=wpE C T n o ρ σ λ x σ'=>onO x λ i=>Is σ'[i]? λ mo=>match mo with
  | .inst K j=>Is (σ'[j]?.bind YG) λ fs=>noO (look k fs) (Is (zY K k T.meth) λ f=>wpEs C T n es ρ σ' λ ds σ''=>SatCall C T n f (.obj i::ds) σ'' Q)
  | mo=>ifT (Ym mo k) (wpEs C T n es ρ σ' λ ds σ''=>Is σ''[i]? λ mo'=>YN i mo' k ds σ'' Q):=rfl
@[simp ↓] theorem zFP {C:Cx}{T:Tabs}{n:Nat}{ρ:Rho}{σ:zA}{Q:D->zA->Prop}{o:Ex}{k:Nat}:wpE C T n (.attr o k) ρ σ Q=wpE C T n o ρ σ λ x σ'=>jx T σ' x k λ d=>Q d σ':=rfl
@[simp ↓] theorem zGu {C:Cx}{T:Tabs}{n:Nat}{ρ:Rho}{σ:zA}{Q:D->zA->Prop}{o i:Ex}:wpE C T n (.sub o i) ρ σ Q=wpE C T n o ρ σ λ x σ'=>wpE C T n i ρ σ' λ y σ''=>Yw σ'' x y λ d=>Q d σ'':=rfl
@[simp ↓] theorem zFW {C:Cx}{T:Tabs}{n:Nat}{ρ:Rho}{σ:zA}{Q:D->zA->Prop}{o:Ex}{k:Nat}:wpE C T n (.subk o k) ρ σ Q=wpE C T n o ρ σ λ x σ'=>onO x λ i=>Is (σ'[i]?.bind JP) λ fs=>Is (look k fs) λ d=>Q d σ':=rfl
@[simp ↓] theorem zFU {C:Cx}{T:Tabs}{n:Nat}{ρ:Rho}{σ:zA}{Q:D->zA->Prop}{o i:Ex}:wpE C T n (.upto o i) ρ σ Q=wpE C T n o ρ σ λ x σ'=>wpE C T n i ρ σ' λ y σ''=>YX σ'' x y λ d=>Q d σ'':=rfl
@[simp ↓] theorem zG0 {C:Cx}{T:Tabs}{n:Nat}{ρ:Rho}{σ:zA}{Q:D->zA->Prop}{o i:Ex}:wpE C T n (.from o i) ρ σ Q=wpE C T n o ρ σ λ x σ'=>wpE C T n i ρ σ' λ y σ''=>YZ σ'' x y λ d=>Q d σ'':=rfl
@[simp ↓] theorem zFI {C:Cx}{T:Tabs}{n:Nat}{ρ:Rho}{σ:zA}{Q:D->zA->Prop}{m:Bool}{k:Nat}{elt it:Ex}{t:Pt}{ifs:List Ex}{gs:List Gn}:wpE C T n (.comp m k elt t it ifs gs) ρ σ Q=wpE C T n it ρ σ λ d σ'=>zf σ' d λ xs i=>Few xs.length/\zJ (zF C T n (elW C T n elt) t ifs gs (ρ++List.replicate k none) i) xs ([],σ') (zv m Q):=rfl
@[simp ↓] theorem zGN {C:Cx}{T:Tabs}{n:Nat}{ρ:Rho}{σ:zA}{Q:D->zA->Prop}{a b:Ex}:wpE C T n (.zip a b) ρ σ Q=wpE C T n a ρ σ λ x σ'=>wpE C T n b ρ σ' λ y σ''=>Is (ZA σ'' x) λ xs=>Is (ZA σ'' y) λ ys=>Q (.zp x y xs ys) σ'':=rfl
@[simp ↓] theorem zFT {C:Cx}{T:Tabs}{n:Nat}{ρ:Rho}{σ:zA}{Q:D->zA->Prop}{p:Str}{e:Ex}:wpE C T n (.fsuf e p) ρ σ Q=wpE C T n e ρ σ λ x σ'=>onP x λ y=>Is (asS y) λ z=>Few z.cps.size/\Q (.p (.str (z++p))) σ':=rfl
@[simp ↓] theorem zIe {x:Str}:asS (.str x)=some x:=rfl
@[simp ↓] theorem zFL {C:Cx}{T:Tabs}{n:Nat}{ρ:Rho}{σ:zA}{Q:D->zA->Prop}{p:Str}{e:Ex}:wpE C T n (.fstr p e) ρ σ Q=wpE C T n e ρ σ λ x σ'=>onI x λ i=>Sm i/\Q (.p (.str (p++Str.ofString (toString i)))) σ':=rfl
@[simp ↓] theorem elA {C:Cx}{T:Tabs}{n:Nat}{ρ:Rho}{σ:zA}{Q:D->zA->Prop}{elt:Ex}:elW C T n elt ρ σ Q=wpE C T n elt ρ σ Q:=rfl
@[simp ↓] theorem esN {C:Cx}{T:Tabs}{n:Nat}{ρ:Rho}{σ:zA}{R:List D->zA->Prop}:wpEs C T n [] ρ σ R=R [] σ:=rfl
@[simp ↓] theorem esC {C:Cx}{T:Tabs}{n:Nat}{ρ:Rho}{σ:zA}{R:List D->zA->Prop}{e:Ex}{es:List Ex}:wpEs C T n (e::es) ρ σ R=wpE C T n e ρ σ λ d σ'=>wpEs C T n es ρ σ' λ ds σ''=>R (d::ds) σ'':=rfl
@[simp ↓] theorem anO {C:Cx}{T:Tabs}{n:Nat}{ρ:Rho}{σ:zA}{Q:D->zA->Prop}{e:Ex}:wpAnd C T n [e] ρ σ Q=wpE C T n e ρ σ Q:=rfl
@[simp ↓] theorem anC {C:Cx}{T:Tabs}{n:Nat}{ρ:Rho}{σ:zA}{Q:D->zA->Prop}{e e':Ex}{r:List Ex}:wpAnd C T n (e::e'::r) ρ σ Q=wpE C T n e ρ σ λ x σ'=>isB x λ b=>Br b (wpAnd C T n (e'::r) ρ σ' Q) (Q (.p (.bool false)) σ'):=rfl
@[simp ↓] theorem orO {C:Cx}{T:Tabs}{n:Nat}{ρ:Rho}{σ:zA}{Q:D->zA->Prop}{e:Ex}:wpOr C T n [e] ρ σ Q=wpE C T n e ρ σ Q:=rfl
@[simp ↓] theorem orC {C:Cx}{T:Tabs}{n:Nat}{ρ:Rho}{σ:zA}{Q:D->zA->Prop}{e e':Ex}{r:List Ex}:wpOr C T n (e::e'::r) ρ σ Q=wpE C T n e ρ σ λ x σ'=>isB x λ b=>Br b (Q (.p (.bool true)) σ') (wpOr C T n (e'::r) ρ σ' Q):=rfl
@[simp ↓] theorem ifN {C:Cx}{T:Tabs}{n:Nat}{ρ:Rho}{σ:zA}{K:Bool->zA->Prop}:wpIfs C T n [] ρ σ K=K true σ:=rfl
@[simp ↓] theorem ifC {C:Cx}{T:Tabs}{n:Nat}{ρ:Rho}{σ:zA}{K:Bool->zA->Prop}{e:Ex}{es:List Ex}:wpIfs C T n (e::es) ρ σ K=wpE C T n e ρ σ λ x σ'=>isB x λ b=>Br b (wpIfs C T n es ρ σ' K) (K false σ'):=rfl
@[simp ↓] theorem gnN {C:Cx}{T:Tabs}{n:Nat}{ρ:Rho}{σ:zA}{W:Rho->zA->(D->zA->Prop)->Prop}{acc:List PyData}{K:List PyData->zA->Prop} :wpG C T n W [] ρ σ acc K=W ρ σ λ d σ'=>j6 d acc λ acc'=>K acc' σ':=rfl
@[simp ↓] theorem gnC {C:Cx}{T:Tabs}{n:Nat}{ρ:Rho}{σ:zA}{W:Rho->zA->(D->zA->Prop)->Prop}{acc:List PyData}{K:List PyData->zA->Prop}{t:Pt}{it:Ex}{ifs:List Ex}{gs:List Gn}:wpG C T n W (.mk t it ifs::gs) ρ σ acc K=wpE C T n it ρ σ λ d σ'=>zf σ' d λ xs i=>Few xs.length/\zJ (zF C T n W t ifs gs ρ i) xs (acc,σ') λ a=>K a.1 a.2:=rfl
@[simp ↓] theorem tP {C:Cx}{T:Tabs}{n:Nat}{ρ:Rho}{σ:zA}{d:D}{R:Rho->zA->Prop}{p:Pt}:wpT C T n (.pt p) d ρ σ R=zA4 p d ρ λ ρ'=>R ρ' σ:=rfl
@[simp ↓] theorem tgN {i:Nat}{d:D}{ρ:Rho}{K:Rho->Prop}:zA4 (.nm i) d ρ K=K (ρ.set i (some d)):=rfl
@[simp ↓] theorem tA {C:Cx}{T:Tabs}{n:Nat}{ρ:Rho}{σ:zA}{d:D}{R:Rho->zA->Prop}{o:Ex}{k:Nat}:wpT C T n (.attr o k) d ρ σ R=wpE C T n o ρ σ λ x σ'=>onO x λ i=>Q9 T σ' i λ K j fs=>noO (zY K k T.meth) (Lt64 fs.length/\R ρ (σ'.set j (.sdict (put k d fs)))):=rfl
@[simp ↓] theorem tS {C:Cx}{T:Tabs}{n:Nat}{ρ:Rho}{σ:zA}{d:D}{R:Rho->zA->Prop}{o i:Ex}:wpT C T n (.sub o i) d ρ σ R=wpE C T n o ρ σ λ x σ'=>wpE C T n i ρ σ' λ y σ''=>onO x λ i=>Um σ'' i y d λ σ₃=>R ρ σ₃:=rfl
@[simp ↓] theorem tK {C:Cx}{T:Tabs}{n:Nat}{ρ:Rho}{σ:zA}{d:D}{R:Rho->zA->Prop}{o:Ex}{k:Nat}:wpT C T n (.subk o k) d ρ σ R=wpE C T n o ρ σ λ x σ'=>onO x λ i=>Is (σ'[i]?.bind JP) λ fs=>Few fs.length/\R ρ (σ'.set i (.rdict (put k d fs))):=rfl
@[simp ↓] theorem tT {C:Cx}{T:Tabs}{n:Nat}{ρ:Rho}{σ:zA}{d:D}{R:Rho->zA->Prop}{ts:List Tg}:wpT C T n (.tup ts) d ρ σ R=Is (Yh d) λ ds=>ifT (Nat.beq ts.length ds.length) (wpTs C T n ts ds ρ σ R):=rfl
@[simp ↓] theorem tsN {C:Cx}{T:Tabs}{n:Nat}{ρ:Rho}{σ:zA}{R:Rho->zA->Prop}:wpTs C T n [] [] ρ σ R=R ρ σ:=rfl
@[simp ↓] theorem tsC {C:Cx}{T:Tabs}{n:Nat}{ρ:Rho}{σ:zA}{R:Rho->zA->Prop}{t:Tg}{ts:List Tg}{d:D}{ds:List D}:wpTs C T n (t::ts) (d::ds) ρ σ R=wpT C T n t d ρ σ λ ρ' σ'=>wpTs C T n ts ds ρ' σ' R:=rfl
@[simp ↓] theorem ptT {ds:List D}:Yh (.tup ds)=some ds:=rfl
@[simp ↓] theorem ptP {xs:List PyData}:Yh (.p (.tuple xs))=some (xs.map .p):=rfl
@[simp ↓] theorem sSu {σ:zA}{i:Nat}{y d:D}{K:zA->Prop}:Um σ i y d K=Is σ[i]? λ mo=>match mo with
 | .idict es=>onI y λ k=>Few es.length/\K (σ.set i (.idict (Qt k d es)))
 | .tdict es=>onT y λ k=>Kd (.tuple k)/\Is (keyDs k) λ q=>Few es.length/\VI i es q d σ K (zo q es)
 | _=>False:=rfl
@[simp ↓] theorem zFO {C:Cx}{T:Tabs}{n:Nat}{ρ:Rho}{σ:zA}{S:Fl->Rho->zA->Prop}{e:Ex}:wpS C T n (.expr e) ρ σ S=wpE C T n e ρ σ λ d σ'=>Yi d (S .next ρ σ'):=rfl
@[simp ↓] theorem zGS {C:Cx}{T:Tabs}{n:Nat}{ρ:Rho}{σ:zA}{S:Fl->Rho->zA->Prop}{t:Tg}{e:Ex}:wpS C T n (.asg t e) ρ σ S=wpE C T n e ρ σ λ d σ'=>wpT C T n t d ρ σ' λ ρ' σ''=>S .next ρ' σ'':=rfl
@[simp ↓] theorem zEc {C:Cx}{T:Tabs}{n:Nat}{ρ:Rho}{σ:zA}{S:Fl->Rho->zA->Prop}{c:Ex}{a b:List St}:wpS C T n (.ite c a b) ρ σ S=wpE C T n c ρ σ λ x σ'=>isB x λ r=>Br r (wpSs C T n a ρ σ' S) (wpSs C T n b ρ σ' S):=rfl
@[simp ↓] theorem zGR {C:Cx}{T:Tabs}{n:Nat}{ρ:Rho}{σ:zA}{S:Fl->Rho->zA->Prop}{t:Pt}{it:Ex}{b:List St}:wpS C T n (.for t it b) ρ σ S=wpE C T n it ρ σ λ d σ'=>zf σ' d λ xs i=>Few xs.length/\zJ (za C T n t b i S) xs (ρ,σ') λ a=>S .next a.1 a.2:=rfl
@[simp ↓] theorem zGw {C:Cx}{T:Tabs}{n:Nat}{ρ:Rho}{σ:zA}{S:Fl->Rho->zA->Prop}{e:Ex}:wpS C T n (.ret e) ρ σ S=wpE C T n e ρ σ λ d σ'=>S (.ret d) ρ σ':=rfl
@[simp ↓] theorem zFY {C:Cx}{T:Tabs}{n:Nat}{ρ:Rho}{σ:zA}{S:Fl->Rho->zA->Prop}{e:Ex}:wpS C T n (.retF e) ρ σ S=wpE C T n e ρ σ λ d σ'=>Is (qW σ' d) λ x=>S (.ret (.p x.1)) ρ x.2:=rfl
@[simp ↓] theorem zFV {C:Cx}{T:Tabs}{n:Nat}{ρ:Rho}{σ:zA}{S:Fl->Rho->zA->Prop} :wpS C T n .cont ρ σ S=S .cont ρ σ:=rfl
@[simp ↓] theorem ssN {C:Cx}{T:Tabs}{n:Nat}{ρ:Rho}{σ:zA}{S:Fl->Rho->zA->Prop} :wpSs C T n [] ρ σ S=S .next ρ σ:=rfl
@[simp ↓] theorem fsA {C:Cx}{T:Tabs}{n:Nat}{ρ:Rho}{σ:zA}{S:Fl->Rho->zA->Prop}{t:Pt}{b:List St}{i:Option (Nat×List PyData)}{x:PyData}{a:Rho×zA}{K:Rho×zA->Prop}:za C T n t b i S x a K=Is (Zc t x a.1) λ ρ'=>wpSs C T n b ρ' a.2 λ fl ρ'' σ''=>yQ fl (λ d=>S (.ret d) ρ'' σ'') (zZ i σ'' (K (ρ'',σ''))):=rfl
@[simp ↓] theorem csA {C:Cx}{T:Tabs}{n:Nat}{ρ:Rho}{W:Rho->zA->(D->zA->Prop)->Prop}{t:Pt}{ifs:List Ex}{gs:List Gn}{i:Option (Nat×List PyData)}{x:PyData}{a:List PyData×zA}{K:List PyData×zA->Prop}:zF C T n W t ifs gs ρ i x a K=Is (Zc t x ρ) λ ρ'=>wpIfs C T n ifs ρ' a.2 λ b σ₂=>Br b (wpG C T n W gs ρ' σ₂ a.1 λ acc' σ₃=>zZ i σ₃ (K (acc',σ₃))) (zZ i σ₂ (K (a.1,σ₂))):=rfl
@[simp ↓] theorem ix0 {m:Nat}:idx m 0=some 0:=rfl
@[simp ↓] theorem ix1 {m:Nat}:idx m 1=some 1:=rfl
@[simp ↓] theorem ix2 {m:Nat}:idx m 2=some 2:=rfl
@[simp ↓] theorem ix3 {m:Nat}:idx m 3=some 3:=rfl
@[simp ↓] theorem ixn {m j:Nat}:idx m (j:Int)=some j:=rfl
@[simp ↓] theorem ixm {m:Nat}:idx (m + 1) (-1)=some m:=rfl
@[simp ↓] theorem zDN:PyData.eqv .none .none=true:=rfl
@[simp ↓] theorem zDM {a:Bool}{b:Bool}:PyData.eqv (.bool a) (.bool b)=(a==b):=rfl
@[simp ↓] theorem zEK {a:Int}{b:Int}:PyData.eqv (.int a) (.int b)=(a==b):=rfl
@[simp ↓] theorem zEO {a:Str}{b:Str}:PyData.eqv (.str a) (.str b)=(a==b):=rfl
@[simp ↓] theorem zDO {a:List PyData}{b:List PyData}:PyData.eqv (.list a) (.list b)=PyData.eqvAll a b:=rfl
@[simp ↓] theorem zC2 {a:List PyData}{b:List PyData}:PyData.eqv (.tuple a) (.tuple b)=PyData.eqvAll a b:=rfl
@[simp ↓] theorem qNN:PyData.eqvAll [] []=true:=rfl
@[simp ↓] theorem qCC {x y:PyData}{a b:List PyData}:PyData.eqvAll (x::a) (y::b)=(PyData.eqv x y&&PyData.eqvAll a b):=rfl
@[simp ↓] theorem qCN {x:PyData}{a:List PyData}:PyData.eqvAll (x::a) []=false:=rfl
@[simp ↓] theorem anT {b:Bool}:(true&&b)=b:=rfl
@[simp ↓] theorem ntT:(!true)=false:=rfl
@[simp ↓] theorem ntF:(!false)=true:=rfl
@[simp ↓] theorem zEo:(Str.ofString "sum"==Str.ofString "sum")=true:=rfl
@[simp ↓] theorem wp:(Str.ofString "sum"==Str.ofString "max")=false:=rfl
@[simp ↓] theorem wZ:(Str.ofString "sum"==Str.ofString "min")=false:=rfl
@[simp ↓] theorem zE9:(Str.ofString "bit"==Str.ofString "sum")=false:=rfl
@[simp ↓] theorem zEq:(Str.ofString "bit"==Str.ofString "bit")=true:=rfl
@[simp ↓] theorem st_max_max:(Str.ofString "max"==Str.ofString "max")=true:=rfl
@[simp ↓] theorem Xy:(Str.ofString "max"==Str.ofString "min")=false:=rfl
@[simp ↓] theorem zBY:(Str.ofString "max"==Str.ofString "linear")=false:=rfl
@[simp ↓] theorem st_min_max:(Str.ofString "min"==Str.ofString "max")=false:=rfl
@[simp ↓] theorem zEA:(Str.ofString "min"==Str.ofString "min")=true:=rfl
@[simp ↓] theorem zC1:(Str.ofString "min"==Str.ofString "linear")=false:=rfl
@[simp ↓] theorem Vf:(Str.ofString "linear"==Str.ofString "linear")=true:=rfl
@[simp ↓] theorem xZ:(Str.ofString "linear_eq"==Str.ofString "linear_eq")=true:=rfl
@[simp ↓] theorem xC:(Str.ofString "linear_eq"==Str.ofString "linear_le")=false:=rfl
@[simp ↓] theorem zBZ:Txt.slice (Str.ofString "linear_eq") none (some 6)=Str.ofString "linear":=rfl
@[simp ↓] theorem zFE:Txt.slice (Str.ofString "max") none (some 6)=Str.ofString "max":=rfl
@[simp ↓] theorem zFB:Txt.slice (Str.ofString "min") none (some 6)=Str.ofString "min":=rfl
@[simp ↓] theorem zHS {α β:Type}{f:α->β}{a:α}{l:List α}:List.map f (a::l)=f a::List.map f l:=rfl
@[simp ↓] theorem zHA {α β:Type}{f:α->β}:List.map f []=[]:=rfl
@[simp ↓] theorem zHj {α:Type}{a:α}{l:List α}:(a::l)[0]?=some a:=rfl
@[simp ↓] theorem zHs {α:Type}{a:α}{l:List α}{n:Nat}:(a::l)[n + 1]?=l[n]?:=rfl
@[simp ↓] theorem zIk {α:Type}{a b:α}{l:List α}:(a::l).set 0 b=b::l:=rfl
@[simp ↓] theorem zIg {α:Type}{a b:α}{l:List α}{n:Nat}:(a::l).set (n + 1) b=a::l.set n b:=rfl
@[simp ↓] theorem zIi {α:Type}{a:α}{l:List α}:(a::l).length=l.length + 1:=rfl
@[simp ↓] theorem zIc {α:Type}:([]:List α).length=0:=rfl
@[simp ↓] theorem zHn {α:Type}{a:α}:List.replicate 0 a=[]:=rfl
@[simp ↓] theorem zHw {α:Type}{a:α}{n:Nat}:List.replicate (n + 1) a=a::List.replicate n a:=rfl
@[simp ↓] theorem zId {α:Type}{a:α}{l m:List α}:a::l++m=a::(l++m):=rfl
@[simp ↓] theorem zHh {α:Type}{m:List α}:[]++m=m:=rfl
@[simp ↓] theorem zHW {α β:Type}{a:α}{b:β}{l:List α}{m:List β}:(a::l).zip (b::m)=(a,b)::l.zip m:=rfl
@[simp ↓] theorem zGZ {α β:Type}{m:List β}:([]:List α).zip m=[]:=rfl
@[simp ↓] theorem zI9:T1.glob[0]?=some ((Str.ofString "len":Str),(.bi .len:D)):=rfl
@[simp ↓] theorem zHo:T1.glob[1]?=some ((Str.ofString "isinstance":Str),(.bi .isinst:D)):=rfl
@[simp ↓] theorem zI1:T1.glob[2]?=some ((Str.ofString "abs":Str),(.bi .abs:D)):=rfl
@[simp ↓] theorem zHu:T1.glob[3]?=some ((Str.ofString "max":Str),(.bi .max:D)):=rfl
@[simp ↓] theorem zHB:T1.glob[4]?=some ((Str.ofString "min":Str),(.bi .min:D)):=rfl
@[simp ↓] theorem zHE:T1.glob[5]?=some ((Str.ofString "sum":Str),(.bi .sum:D)):=rfl
@[simp ↓] theorem zHH:T1.glob[6]?=some ((Str.ofString "sorted":Str),(.bi .sorted:D)):=rfl
@[simp ↓] theorem zHL:T1.glob[8]?=some ((Str.ofString "tuple":Str),(.bi .tuple:D)):=rfl
@[simp ↓] theorem zHe:T1.glob[9]?=some ((Str.ofString "list":Str),(.bi .list:D)):=rfl
@[simp ↓] theorem zGa:T1.glob[10]?=some ((Str.ofString "int":Str),(.bi .int:D)):=rfl
@[simp ↓] theorem zGB:T1.glob[11]?=some ((Str.ofString "bool":Str),(.bi .bool:D)):=rfl
@[simp ↓] theorem zGf:T1.glob[12]?=some ((Str.ofString "dict":Str),(.bi .dict:D)):=rfl
@[simp ↓] theorem zGi:T1.glob[14]?=some ((Str.ofString "range":Str),(.bi .range:D)):=rfl
@[simp ↓] theorem zGn:T1.glob[15]?=some ((Str.ofString "MOST_SHOWN":Str),(.p (.int 1000):D)):=rfl
@[simp ↓] theorem zGM:T1.glob[16]?=some ((Str.ofString "range_of":Str),(.fn 28:D)):=rfl
@[simp ↓] theorem zG9:T1.glob[17]?=some ((Str.ofString "least":Str),(.fn 35:D)):=rfl
@[simp ↓] theorem zGc:T1.glob[18]?=some ((Str.ofString "greatest":Str),(.fn 42:D)):=rfl
@[simp ↓] theorem zGz:T1.glob[19]?=some ((Str.ofString "within_figures":Str),(.fn 179:D)):=rfl
@[simp ↓] theorem zGp:T1.glob[20]?=some ((Str.ofString "is_made":Str),(.fn 186:D)):=rfl
@[simp ↓] theorem zGo:T1.glob[21]?=some ((Str.ofString "sum_of":Str),(.fn 193:D)):=rfl
@[simp ↓] theorem zGb:T1.glob[22]?=some ((Str.ofString "plus":Str),(.fn 198:D)):=rfl
@[simp ↓] theorem zGm:T1.glob[23]?=some ((Str.ofString "Functions":Str),(.fn 485:D)):=rfl
@[simp ↓] theorem zGk:T1.glob[24]?=some ((Str.ofString "Flat":Str),(.fn 168:D)):=rfl
@[simp ↓] theorem zGQ:T1.glob[25]?=some ((Str.ofString "_law_next":Str),(.fn 494:D)):=rfl
@[simp ↓] theorem zGL:T1.glob[26]?=some ((Str.ofString "_law_things":Str),(.fn 501:D)):=rfl
@[simp ↓] theorem zGg:T1.glob[27]?=some ((Str.ofString "_law_asked":Str),(.fn 508:D)):=rfl
@[simp ↓] theorem zGH:T1.glob[28]?=some ((Str.ofString "_law_is_number":Str),(.fn 515:D)):=rfl
@[simp ↓] theorem zGv:T1.glob[29]?=some ((Str.ofString "_law_worth":Str),(.fn 520:D)):=rfl
@[simp ↓] theorem zG6:T1.glob[30]?=some ((Str.ofString "_law_about":Str),(.fn 527:D)):=rfl
@[simp ↓] theorem zGe:T1.glob[31]?=some ((Str.ofString "_law_holds":Str),(.fn 532:D)):=rfl
@[simp ↓] theorem zGE:T1.glob[32]?=some ((Str.ofString "_law_whole":Str),(.fn 537:D)):=rfl
@[simp ↓] theorem zDW:T1.glob[33]?=some ((Str.ofString "EvalFault":Str),(.fn 109:D)):=rfl
@[simp ↓] theorem zF4:zY 168 6 T1.meth=none:=rfl
@[simp ↓] theorem zF7:zY 168 7 T1.meth=none:=rfl
@[simp ↓] theorem zFd:zY 168 8 T1.meth=none:=rfl
@[simp ↓] theorem zFm:zY 168 9 T1.meth=none:=rfl
@[simp ↓] theorem zEL:zY 168 16 T1.meth=some 144:=rfl
@[simp ↓] theorem zEI:zY 168 17 T1.meth=some 151:=rfl
@[simp ↓] theorem zEN:zY 168 18 T1.meth=some 158:=rfl
@[simp ↓] theorem zEM:zY 168 19 T1.meth=some 165:=rfl
@[simp ↓] theorem zEJ:zY 485 10 T1.meth=none:=rfl
@[simp ↓] theorem zEE:zY 485 11 T1.meth=none:=rfl
@[simp ↓] theorem zED:zY 485 12 T1.meth=none:=rfl
@[simp ↓] theorem zEG:zY 485 20 T1.meth=some 233:=rfl
@[simp ↓] theorem zEF:zY 485 21 T1.meth=some 240:=rfl
@[simp ↓] theorem zER:zY 485 22 T1.meth=some 245:=rfl
@[simp ↓] theorem zEH:zY 485 23 T1.meth=some 250:=rfl
@[simp ↓] theorem zEP:zY 485 24 T1.meth=some 339:=rfl
@[simp ↓] theorem zEC:zY 485 25 T1.meth=some 346:=rfl
@[simp ↓] theorem zEQ:zY 485 26 T1.meth=some 384:=rfl
@[simp ↓] theorem zHG {fd:MO}{pt:D}{vars tolds:List PyData}{made:List (Ky×D)}{τ:zA}:(zB fd pt vars tolds made++τ)[0]?=some fd:=rfl
@[simp ↓] theorem zHU {fd:MO}{pt:D}{vars tolds:List PyData}{made:List (Ky×D)}{τ:zA}:(zB fd pt vars tolds made++τ)[1]?=some (.sdict [(10,.obj 4),(11,.obj 7),(12,pt)]):=rfl
@[simp ↓] theorem zIp {fd:MO}{pt:D}{vars tolds:List PyData}{made:List (Ky×D)}{τ:zA}:(zB fd pt vars tolds made++τ)[2]?=some (.inst 485 1):=rfl
@[simp ↓] theorem zFl {fd:MO}{pt:D}{vars tolds:List PyData}{made:List (Ky×D)}{τ:zA}:(zB fd pt vars tolds made++τ)[3]?=some (.sdict [(6,.obj 5),(7,.obj 6),(8,JE),(9,.p (.tuple []))]):=rfl
@[simp ↓] theorem zEW {fd:MO}{pt:D}{vars tolds:List PyData}{made:List (Ky×D)}{τ:zA}:(zB fd pt vars tolds made++τ)[4]?=some (.inst 168 3):=rfl
@[simp ↓] theorem zHv {fd:MO}{pt:D}{vars tolds:List PyData}{made:List (Ky×D)}{τ:zA}:(zB fd pt vars tolds made++τ)[5]?=some (.lst vars):=rfl
@[simp ↓] theorem zH8 {fd:MO}{pt:D}{vars tolds:List PyData}{made:List (Ky×D)}{τ:zA}:(zB fd pt vars tolds made++τ)[6]?=some (.lst tolds):=rfl
@[simp ↓] theorem zGV {fd:MO}{pt:D}{vars tolds:List PyData}{made:List (Ky×D)}{τ:zA}:(zB fd pt vars tolds made++τ)[7]?=some (.tdict made):=rfl
@[simp ↓] theorem zHd {fd:MO}{pt:D}{vars tolds:List PyData}{made:List (Ky×D)}{τ:zA}{x:MO}:(zB fd pt vars tolds made++τ).set 0 x=zB x pt vars tolds made++τ:=rfl
@[simp ↓] theorem zHa {fd:MO}{pt:D}{vars tolds:List PyData}{made:List (Ky×D)}{τ:zA}{d:D}:(zB fd pt vars tolds made++τ).set 1 (.sdict [(10,.obj 4),(11,.obj 7),(12,d)])=zB fd d vars tolds made++τ:=rfl
@[simp ↓] theorem zHp {fd:MO}{pt:D}{vars tolds:List PyData}{made:List (Ky×D)}{τ:zA}{v:List PyData}:(zB fd pt vars tolds made++τ).set 5 (.lst v)=zB fd pt v tolds made++τ:=rfl
@[simp ↓] theorem zIm {fd:MO}{pt:D}{vars tolds:List PyData}{made:List (Ky×D)}{τ:zA}{v:List PyData}:(zB fd pt vars tolds made++τ).set 6 (.lst v)=zB fd pt vars v made++τ:=rfl
@[simp ↓] theorem zI0 {fd:MO}{pt:D}{vars tolds:List PyData}{made:List (Ky×D)}{τ:zA}{m:List (Ky×D)}:(zB fd pt vars tolds made++τ).set 7 (.tdict m)=zB fd pt vars tolds m++τ:=rfl
theorem yU {σ τ:zA}{Q:D->zA->Prop}{fl:Fl}{x:PyData}(h:uX fl=some (.p x))(q:Q (.p x) σ):qa σ Q fl (σ++τ) :=
 ⟨.p x,σ,h,by
  have:=Kp.cut (σ:=σ) (σ':=σ++τ) (d:=.p x) σ.length (Nat.le_refl _) rfl λ i mo hi e=>.inl (by rwa [List.getElem?_append_left hi] at e)
  rwa [List.take_left] at this,q⟩
theorem zE {σ σ':zA}{Q:D->zA->Prop}{fl:Fl}{d:D}(h:uX fl=some d)(q:Q d σ'):qa σ Q fl σ':=⟨d,σ',h,.all,q⟩
theorem zr {i:Int}(h:-1000000<=i/\i<=1000000):Fit i:=Nat.lt_of_le_of_lt (wa (n:=1000000) h.1 h.2) (Nat.lt_of_lt_of_le (show 1000000<2 ^ 20 from of_decide_eq_true rfl) (Nat.pow_le_pow_right (oD9 rfl) (oD9 rfl)))
theorem wq {i:Int}(h:0<i/\i<=1000000):Nz i:=⟨Int.ne_of_gt h.1,Nat.lt_of_le_of_lt (wa (n:=1000000) (Int.le_of_lt (Int.lt_trans (oD9 rfl) h.1)) h.2) (Nat.lt_of_lt_of_le (show 1000000<2 ^ 20 from of_decide_eq_true rfl) (Nat.pow_le_pow_right (oD9 rfl) (oD9 rfl)))⟩
theorem zEn:Pw 10 1000:=⟨by decide,by decide +kernel⟩
theorem zCH {i:Int}(h:i<=1000000):¬ (10:Int) ^ (1000:Int).toNat<=i:=by
 have:(1000001:Int)<=10 ^ (1000:Int).toNat:=by
  have h1:(1000:Int).toNat=7 + 993:=rfl
  rw [h1,Int.pow_add]
  have h2:(0:Int)<10 ^ 993:=Int.pow_pos (by decide)
  have h3:(10:Int) ^ 7=10000000:=by decide
  rw [h3]
  omega
 omega
theorem qM {α:Type}(σ:List α)(x y:α):(σ++[x]).set σ.length y=σ++[y]:=by
 rw [List.set_append_right _ _ (Nat.le_refl _),Nat.sub_self];rfl
theorem zCq {p:Prop}[Decidable p]{P Q:Prop}(h1:p->P)(h2:¬ p->Q):Br (decide p) P Q:=by
 by_cases h:p
 ·rw [decide_eq_true h];exact h1 h
 ·rw [decide_eq_false h];exact h2 h
theorem y8 {b:Bool}{P Q:Prop}(h1:b=true->P)(h2:b=false->Q):Br b P Q:=by
 cases b with
 | true=>exact h1 rfl
 | false=>exact h2 rfl
theorem w9 {p:Prop}[Decidable p]{P Q:Prop}:Br (decide p) P Q=((p->P)/\(¬ p->Q)):=propext ⟨λ h=>⟨λ q=>h.t (decide_eq_true q),λ q=>h.f (decide_eq_false q)⟩,λ h=>zCq h.1 h.2⟩
theorem zFX {b:Bool}{P Q:Prop}:Br b P Q=((b=true->P)/\(b=false->Q)):=propext ⟨λ h=>⟨h.t,h.f⟩,λ h=>y8 h.1 h.2⟩
theorem Y4 {x y:PyData}(h:zAt y=true):Sh x y:=by
 have:y.depth=0:=by cases y <;> first | rfl | exact Bool.noConfusion h
 show min _ _<=64
 rw [this,Nat.min_zero];exact Nat.zero_le _
theorem yZ {x y:PyData}(h:zAt x=true):Sh x y:=by
 have:x.depth=0:=by cases x <;> first | rfl | exact Bool.noConfusion h
 show min _ _<=64
 rw [this,Nat.zero_min];exact Nat.zero_le _
theorem sh1 {y:PyData}:Sh .none y=True:=eq_true (yZ rfl)
theorem sh2 {b:Bool}{y:PyData}:Sh (.bool b) y=True:=eq_true (yZ rfl)
theorem sh3 {b:Int}{y:PyData}:Sh (.int b) y=True:=eq_true (yZ rfl)
theorem sh4 {b:Str}{y:PyData}:Sh (.str b) y=True:=eq_true (yZ rfl)
theorem sh5 {y:PyData}:Sh y .none=True:=eq_true (Y4 rfl)
theorem sh6 {b:Bool}{y:PyData}:Sh y (.bool b)=True:=eq_true (Y4 rfl)
theorem sh7 {b:Int}{y:PyData}:Sh y (.int b)=True:=eq_true (Y4 rfl)
theorem sh8 {b:Str}{y:PyData}:Sh y (.str b)=True:=eq_true (Y4 rfl)
theorem sh9 {y:PyData}:Sh (.tuple []) y=True:=eq_true (Nat.le_trans (Nat.min_le_left _ _) (by decide))
theorem zDm {y:PyData}:Sh y (.tuple [])=True:=eq_true (Nat.le_trans (Nat.min_le_right _ _) (by decide))
theorem zCP {y:PyData}:Sh (.list []) y=True:=eq_true (Nat.le_trans (Nat.min_le_left _ _) (by decide))
theorem zCs {y:PyData}:Sh y (.list [])=True:=eq_true (Nat.le_trans (Nat.min_le_right _ _) (by decide))
theorem uP:PyData.strOk (Str.ofString "linear")=true:=by decide +kernel
theorem Wq:PyData.strOk (Str.ofString "max")=true:=by decide +kernel
theorem vN:PyData.strOk (Str.ofString "min")=true:=by decide +kernel
theorem YJ:(Str.ofString "linear_eq").cps.size<=100000:=by decide +kernel
theorem Yd:(Str.ofString "linear_le").cps.size<=100000:=by decide +kernel
theorem Un:(Str.ofString "max").cps.size<=100000:=by decide +kernel
theorem UM:(Str.ofString "min").cps.size<=100000:=by decide +kernel
theorem zH {C:Cx}{T:Tabs}{n:Nat}{ρ:Rho}{σ:zA}{S:Fl->Rho->zA->Prop}{s:St}{ss:List St}(h:wpS C T n s ρ σ λ fl ρ' σ'=>Yp fl (wpSs C T n ss ρ' σ' S) (S fl ρ' σ')):wpSs C T n (s::ss) ρ σ S:=h
theorem ZL {α:Type}{step:PyData->α->(α->Prop)->Prop}{x:PyData}{xs:List PyData}{a:α}{K:α->Prop}(h:step x a λ a'=>zJ step xs a' K):zJ step (x::xs) a K:=h
theorem y9 {α:Type}{step:PyData->α->(α->Prop)->Prop}{a:α}{K:α->Prop}(h:K a):zJ step [] a K:=h
theorem YM {fd:MO}{pt:D}{vars tolds:List PyData}{made:List (Ky×D)}{τ:zA}:(zB fd pt vars tolds made++τ).length=8 + τ.length:=Nat.add_comm τ.length 8
theorem xg {n j:Nat}:idx n (j:Int)=some j:=rfl
theorem SXL:(type_of% @w9)/\(type_of% @sh1)/\(type_of% @sh2)/\(type_of% @sh3)/\(type_of% @sh4)/\(type_of% @sh5)/\(type_of% @sh6)/\(type_of% @sh7)/\(type_of% @sh8)/\(type_of% @sh9)/\(type_of% @zDm)/\(type_of% @zCP)/\(type_of% @zCs)/\(type_of% @uP)/\(type_of% @Wq)/\(type_of% @vN)/\(type_of% @YJ)/\(type_of% @Yd)/\(type_of% @Un)/\(type_of% @UM)/\(type_of% @decide_true)/\(type_of% @decide_false)/\(type_of% @true_and)/\(type_of% @and_true)/\(type_of% @List.getElem?_concat_length.{0})/\(type_of% @qM)/\(type_of% @List.append_nil.{0})/\(type_of% @beq_self_eq_true.{0})/\(type_of% @Bool.and_true)/\(type_of% @Bool.and_false)/\(type_of% @Nat.zero_le)/\(type_of% @List.getElem?_nil.{0})/\(type_of% @Int.natCast_zero)/\(type_of% @Int.natCast_one) :=
 ⟨@w9,@sh1,@sh2,@sh3,@sh4,@sh5,@sh6,@sh7,@sh8,@sh9,@zDm,@zCP,@zCs,@uP,@Wq,@vN,@YJ,@Yd,@Un,@UM,@decide_true,@decide_false,@true_and,@and_true,@List.getElem?_concat_length.{0},@qM,@List.append_nil.{0},@beq_self_eq_true.{0},@Bool.and_true,@Bool.and_false,@Nat.zero_le,@List.getElem?_nil.{0},@Int.natCast_zero,@Int.natCast_one⟩
local macro_rules | `(tactic| walk_at "ds")=>`(tactic| dsimp [qT,zCc,zDI,Xa,XV,-Int.reducePow])
local macro_rules | `(tactic| walk_at "sx")=>`(tactic| simp only [SXL,Sm,Few,Lt64,Rg,Int.reduceLE,Int.reduceLT,Int.reduceNeg,Int.reduceToNat,Nat.reduceLeDiff,Nat.reduceLT,↓reduceIte,reduceCtorEq])
local macro_rules | `(tactic| walk_at "st")=>`(tactic| ((try walk_at "ds");repeat (walk_at "sx";try walk_at "ds")))
local macro_rules | `(tactic| walk_at "go")=>`(tactic| (walk_at "st";repeat (refine zH ?_;walk_at "st")))
section
variable {C:Cx}{n:Nat}{σ:zA}{Q:D->zA->Prop}
theorem QJ (L:Law1 C){lo hi:Int}(q:Q (.p (.tuple (if lo<=hi then [.tuple [.int lo,.int hi]] else []))) σ):SatCall C T1 (n + 1) 28 [.p (.int lo),.p (.int hi)] σ Q:=by
 refine zN L.Y L.TT L.range_of rfl ?_
 unfold yN
 walk_at "go"
 exact ⟨λ h=>zE rfl (by simpa [h] using q),λ h=>zE rfl (by simpa [h] using q)⟩
theorem zBE (L:Law1 C){lo hi:Int}{r:List PyData}(q:Q (.p (.int lo)) σ):SatCall C T1 (n + 1) 35 [.p (.tuple (.tuple [.int lo,.int hi]::r))] σ Q:=by
 refine zN L.Y L.TT L.least rfl ?_
 unfold Jc
 walk_at "go"
 exact zE rfl q
theorem wl (L:Law1 C){lo hi:Int}{r:List PyData}(q:Q (.p (.int hi)) σ):SatCall C T1 (n + 1) 42 [.p (.tuple (r++[.tuple [.int lo,.int hi]]))] σ Q:=by
 refine zN L.Y L.TT L.greatest rfl ?_
 unfold yu
 walk_at "go"
 simp only [List.length_append,List.length_cons,List.length_nil,Nat.zero_add,ixm,Option.bind_some,List.getElem?_concat_length]
 walk_at "go"
 exact zE rfl q
theorem jP (L:Law1 C){i:Int}(h:-1000000<=i/\i<=1000000)(q:Q (.p (.int i)) σ):SatCall C T1 (n + 1) 179 [.p (.int i)] σ Q:=by
 refine zN L.Y L.TT L.within_figures rfl ?_
 unfold Z4
 walk_at "go"
 exact ⟨zEn,λ hh=>absurd hh (zCH (by lia)),λ _=>zE rfl q⟩
theorem yx (L:Law1 C){i:Int}{k:Str}(q:Q (.p (.bool false)) σ):SatCall C T1 (n + 1) 186 [.p (.int i),.p (.str k)] σ Q:=by
 refine zN L.Y L.TT L.is_made rfl ?_
 unfold qt
 walk_at "go"
 exact zE rfl q
theorem yG (L:Law1 C){i:Bool}{k:Str}(q:Q (.p (.bool false)) σ):SatCall C T1 (n + 1) 186 [.p (.bool i),.p (.str k)] σ Q:=by
 refine zN L.Y L.TT L.is_made rfl ?_
 unfold qt
 walk_at "go"
 exact zE rfl q
theorem qz (L:Law1 C){j k:Str}{a b:PyData}(q:Q (.p (.bool (j==k))) σ):SatCall C T1 (n + 1) 186 [.p (.tuple [.str j,a,b]),.p (.str k)] σ Q:=by
 refine zN L.Y L.TT L.is_made rfl ?_
 unfold qt
 walk_at "go"
 exact zE rfl q
end
inductive Th where
 | tru (b:Bool)
 | num (i:Int)
 | bit (x:Int) (s:Bool)
 | sum (ps:List (Int×Int)) (c:Int)
noncomputable def zL (ps:List (Int×Int)):List PyData:=ps.map λ p=>.tuple [.int p.1,.int p.2]
noncomputable def Zq (ps:List (Int×Int))(c:Int):PyData:=.tuple [.str (Str.ofString "sum"),.tuple (zL ps),.int c]
noncomputable def enc:Th->PyData
 | .tru b=>.bool b
 | .num i=>.int i
 | .bit x s=>.tuple [.str (Str.ofString "bit"),.int x,.bool s]
 | .sum ps c=>Zq ps c
noncomputable def zD:Th->List (Int×Int)
 | .tru _=>[]
 | .num _=>[]
 | .bit x s=>if s then [(x,1)] else [(x,-1)]
 | .sum ps _=>ps
noncomputable def cOf:Th->Int
 | .tru b=>if b then 1 else 0
 | .num i=>i
 | .bit _ s=>if s then 0 else 1
 | .sum _ c=>c
section
variable {C:Cx}{n:Nat}{σ:zA}{Q:D->zA->Prop}
theorem QQ (L:Law1 C){t:Th}(q:Q (.p (Zq (zD t) (cOf t))) σ):SatCall C T1 (n + 2) 193 [.p (enc t)] σ Q:=by
 refine zN L.Y L.TT L.sum_of rfl ?_
 unfold jS
 cases t with
 | tru b =>
  unfold enc
  walk_at "go"
  refine yG L ?_
  walk_at "go"
  refine yG L ?_
  walk_at "go"
  cases b <;> exact zE rfl q
 | num i =>
  unfold enc
  walk_at "go"
  refine yx L ?_
  walk_at "go"
  refine yx L ?_
  walk_at "go"
  exact zE rfl q
 | bit x s =>
  unfold enc
  walk_at "go"
  refine qz L ?_
  walk_at "go"
  refine qz L ?_
  cases s <;> walk_at "go" <;> exact zE rfl q
 | sum ps c =>
  unfold enc Zq
  walk_at "go"
  refine qz L ?_
  walk_at "go"
  exact zE rfl q
end
noncomputable def zq (k:Int):List (Int×Int)->Option Int
 | []=>none
 | e::r=>if e.1=k then some e.2 else zq k r
theorem zDf {k:Int}:zq k []=none:=rfl
theorem Wp {k:Int}{e:Int×Int}{r:List (Int×Int)}:zq k (e::r)=if e.1=k then some e.2 else zq k r:=rfl
noncomputable def qX (k v:Int):List (Int×Int)->List (Int×Int)
 | []=>[(k,v)]
 | e::r=>if e.1=k then (e.1,v)::r else e::qX k v r
theorem zCx {k v:Int}:qX k v []=[(k,v)]:=rfl
theorem zCl {k v:Int}{e:Int×Int}{r:List (Int×Int)}:qX k v (e::r)=if e.1=k then (e.1,v)::r else e::qX k v r:=rfl
noncomputable def qH (es:List (Int×Int)):List (Int×D):=es.map λ e=>(e.1,.p (.int e.2))
theorem YH (k:Int):∀ es:List (Int×Int),zS k (qH es)=(zq k es).map λ v=>D.p (.int v)
 | []=>rfl
 | e::r=>by
  have ih:=YH k r
  unfold zS qH at *
  simp only [List.map_cons,List.find?_cons,zDf,Wp]
  by_cases h:e.1=k
  ·simp [h]
  ·simp only [h,decide_false,if_false];exact ih
theorem ut (k v:Int):∀ es:List (Int×Int),Qt k (.p (.int v)) (qH es)=qH (qX k v es)
 | []=>rfl
 | e::r=>by
  have ih:=ut k v r
  unfold qH at *
  simp only [List.map_cons,UQ,UA,zCx,zCl]
  by_cases h:e.1=k
  ·simp [h]
  ·simp only [h,if_false,List.map_cons,ih]
theorem xO (es:List (Int×Int)):(qH es).length=es.length:=List.length_map ..
theorem J0 (es:List (Int×Int)):(qH es).map (·.1)=es.map (·.1):=by simp [qH]
theorem js:∀ ps:List (Int×Int),Zv (zL ps)=some (qH ps)
 | []=>rfl
 | p::ps=>by
  have ih:=js ps
  unfold zL qH at *
  simp only [List.map_cons,Zv,ih];rfl
theorem zX (ps:List (Int×Int)):(zL ps).length=ps.length:=List.length_map ..
noncomputable def zk (k:Int)(es:List (Int×Int))(ps:List (Int×Int)):List (Int×Int):=ps.foldl (λ es p=>qX p.1 ((zq p.1 es).getD 0 + k * p.2) es) es
noncomputable def YF (k:Int):List (Int×Int)->List (Int×Int)->Prop
 | _,[]=>True
 | es,p::ps=>(-1000000<=p.2/\p.2<=1000000)/\(-1000000<=(zq p.1 es).getD 0 + k * p.2/\(zq p.1 es).getD 0 + k * p.2<=1000000)/\(-9223372036854775808<=p.1/\p.1<9223372036854775808)/\es.length<=1000/\YF k (qX p.1 ((zq p.1 es).getD 0 + k * p.2) es) ps
noncomputable def Zm (es:List (Int×Int)):List Int->List (Int×Int)
 | []=>[]
 | x::r=>if (zq x es).getD 0=0 then Zm es r else (x,(zq x es).getD 0)::Zm es r
theorem Jo {es:List (Int×Int)}:Zm es []=[]:=rfl
theorem Yq {es:List (Int×Int)}{x:Int}{r:List Int}:Zm es (x::r)=if (zq x es).getD 0=0 then Zm es r else (x,(zq x es).getD 0)::Zm es r:=rfl
noncomputable def YD (k:Int)(p1 p2:List (Int×Int)):List (Int×Int):=Zm (zk k p1 p2) (zg ((zk k p1 p2).map (·.1)))
noncomputable def Jv:List (Int×Int)->Int->Th
 | [],c=>.num c
 | p::ps,c=>.sum (p::ps) c
theorem Ue:∀ {es:List (Int×Int)} {x:Int},x∈es.map (·.1)->∃ v,zq x es=some v
 | [],x,h=>by simp at h
 | e::r,x,h=>by
  rw [Wp]
  by_cases q:e.1=x
  ·refine rwE (if_pos q) ?_;exact ⟨_,rfl⟩
  ·refine rwE (if_neg q) ?_
   rw [List.map_cons,List.mem_cons] at h
   exact Ue (h.resolve_left λ e'=>q e'.symm)
theorem uv {a x:Int}:∀ {l:List Int},x∈Ql a l ↔ x=a∨x∈l
 | []=>by simp [jt,Q8]
 | b::r=>by
  rw [Q8]
  split
  ·simp
  ·simp only [List.mem_cons,uv (l:=r)]
   constructor
   ·rintro (h | h | h) <;> simp [h]
   ·rintro (h | h | h) <;> simp [h]
theorem mem_sortI {x:Int}:∀ {l:List Int},x∈zg l ↔ x∈l
 | []=>by simp [zBA,Je]
 | a::r=>by rw [Je];rw [uv,mem_sortI,List.mem_cons]
theorem Y7 {a:Int}:∀ {l:List Int},(Ql a l).length=l.length + 1
 | []=>rfl
 | b::r=>by rw [Q8];split <;> simp [Y7 (l:=r)]
theorem ZT:∀ {l:List Int},(zg l).length=l.length
 | []=>rfl
 | a::r=>by rw [Je];(refine rwE Y7 ?_;refine rwE ZT ?_;refine rwE List.length_cons ?_;rfl)
theorem VA {o:Option Int}:(o.map λ v=>D.p (.int v)).getD (.p (.int 0))=.p (.int (o.getD 0)):=by cases o <;> rfl
theorem uo (es:List (Int×Int)):∀ l:List Int,(Zm es l).length<=l.length
 | []=>Nat.le_refl _
 | x::l=>by
  have:=uo es l
  rw [Yq]
  split
  ·simp only [List.length_cons];exact Nat.le_succ_of_le this
  ·simp only [List.length_cons];exact Nat.succ_le_succ this
section
variable {C:Cx}{n:Nat}{σ:zA}{Q:D->zA->Prop}
theorem We (L:Law1 C){k:Int}{d0 d1 d4:Option D}{u7:Option D}{S:Fl->Rho->zA->Prop}(hk:-1000000<=k/\k<=1000000){K:Rho×zA->Prop}:∀ (ps es:List (Int×Int)) (u5 u6:Option D),YF k es ps ->
  (∀ v5 v6,K ([d0,d1,some (.p (.int k)),some (.obj σ.length),d4,v5,v6,u7],σ++[.idict (qH (zk k es ps))])) ->
  zJ (za C T1 (n + 1) (.tup [(.nm 5),(.nm 6)]) [(.asg (.sub (.nm 3) (.nm 5)) (.call false (.gl 19) [(.bin .Add (.meth (.nm 3) 1 [(.nm 5),(.c (.int (0)))]) (.bin .Mult (.nm 2) (.nm 6)))]))] none S) (zL ps)
   ([d0,d1,some (.p (.int k)),some (.obj σ.length),d4,u5,u6,u7],σ++[.idict (qH es)]) K:=by
 intro ps
 induction ps with
 | nil =>
  intro es u5 u6 _ h
  exact h u5 u6
 | cons p ps ih =>
  intro es u5 u6 hs h
  refine ub (hs) λ h1 h2 h3 h4 hs=>?_
  show za _ _ _ _ _ _ _ (PyData.tuple [.int p.1,.int p.2]) _ (λ a'=>zJ _ (zL ps) a' K)
  walk_at "go"
  (refine rwE (YH ..) ?_;refine rwE VA ?_)
  refine ⟨zr hk,zr h1,?_⟩
  walk_at "go"
  refine jP L h2 ?_
  walk_at "go"
  refine rwE (ut ..) ?_
  exact ⟨by refine rwE (xO ..) ?_;exact Nat.le_trans h4 (nB9 rfl),ih _ _ _ hs λ v5 v6=>h v5 v6⟩
theorem W7 {d0 d1 d2 d4 d5 d6 d7 d8:Option D}{es:List (Int×Int)}{K:List PyData×zA->Prop}:∀ (l:List Int) (acc:List PyData),(∀ x,x∈l->(∃ v,zq x es=some v)/\(-9223372036854775808<=x/\x<9223372036854775808))->acc.length + l.length<=1000 ->
  K (acc++zL (Zm es l),σ++[.idict (qH es)]) ->
  zJ (zF C T1 n (elW C T1 n (.tup [(.nm 9),(.sub (.nm 3) (.nm 9))])) (.nm 9) [(.cmp (.sub (.nm 3) (.nm 9)) .NotEq (.c (.int (0))))] [] [d0,d1,d2,some (.obj σ.length),d4,d5,d6,d7,d8,none] none) (l.map .int) (acc,σ++[.idict (qH es)]) K:=by
 intro l
 induction l with
 | nil =>
  intro acc _ _ h
  simpa [Jo,Yq,zL,zw,zt] using h
 | cons x l ih =>
  intro acc hl hlen h
  (refine Ea (hl x (by simp)) λ q2q=>?_;(refine Ee (q2q) λ v hv=>?_;try clear q2q);intro hx)
  have hl':∀ y,y∈l->(∃ v,zq y es=some v)/\(-9223372036854775808<=y/\y<9223372036854775808):=λ y m=>hl y (by simp [m])
  simp only [List.length_cons] at hlen
  show zF _ _ _ _ _ _ _ _ _ (PyData.int x) _ (λ a'=>zJ _ (l.map .int) a' K)
  walk_at "go"
  simp only [YH,hv,Option.map_some]
  walk_at "go"
  by_cases h0:v=0
  ·subst h0
   walk_at "go"
   refine ih acc hl' (by exact Nat.le_of_lt hlen) ?_
   simpa [Jo,Yq,hv] using h
  ·have hb:(v==0)=false:=by simpa using h0
   simp only [hb]
   walk_at "go"
   refine ⟨by exact lin [_,_] [] (.v 0) (.k 100000) [(1,.l (.a (.v 0) (.a (.v 1) (.k 1))) (.k 1000))] tT9 hlen,ih _ hl' (by simp;exact lin [_,_] [] (.a (.a (.v 0) (.k 1)) (.v 1)) (.k 1000) [(1,.l (.a (.v 0) (.a (.v 1) (.k 1))) (.k 1000))] tT9 hlen) ?_⟩
   simpa [Jo,Yq,hv,h0,zL] using h
theorem zCX (L:Law1 C){t1 t2:Th}{k:Int}(hk:-1000000<=k/\k<=1000000)(hc:(-1000000<=cOf t2/\cOf t2<=1000000)/\-1000000<=cOf t1 + k * cOf t2/\cOf t1 + k * cOf t2<=1000000)(hn:((zD t1).map (·.1)).Nodup)(hl:(zD t1).length<=100/\(zD t2).length<=100)(hs:YF k (zD t1) (zD t2))
  (hm:(zk k (zD t1) (zD t2)).length<64/\∀ x,x∈(zk k (zD t1) (zD t2)).map (·.1)->-9223372036854775808<=x/\x<9223372036854775808)
  (q:Q (.p (enc (Jv (YD k (zD t1) (zD t2)) (cOf t1 + k * cOf t2)))) σ):SatCall C T1 (n + 3) 198 [.p (enc t1),.p (enc t2),.p (.int k)] σ Q:=by
 refine zN L.Y L.TT L.plus rfl ?_
 unfold uk
 walk_at "go"
 refine QQ L ?_
 walk_at "go"
 refine QQ L ?_
 unfold Zq
 walk_at "go"
 refine rwE (js ..) ?_
 refine ⟨by refine rwE (J0 ..) ?_;exact hn,by refine rwE (zX ..) ?_;exact Nat.le_trans hl.1 (nB9 rfl),zr hk,zr hc.1,jP L hc.2 ?_⟩
 walk_at "go"
 refine ⟨by refine rwE (zX ..) ?_;exact Nat.le_trans hl.2 (nB9 rfl),We L hk _ _ _ _ hs λ v5 v6=>?_⟩
 walk_at "go"
 simp only [J0]
 refine ⟨by refine rwE (List.length_map ..) ?_;exact hm.1,by (refine rwE (List.length_map ..) ?_;refine rwE ZT ?_;refine rwE (List.length_map ..) ?_);exact lin [_] [] (.v 0) (.k 100000) [(1,.l (.a (.v 0) (.k 1)) (.k 64))] tT9 hm.1,?_⟩
 refine W7 _ [] (λ x m=>⟨Ue (mem_sortI.mp m),hm.2 x (mem_sortI.mp m)⟩) (by (refine rwE ZT ?_;refine rwE (List.length_map ..) ?_;refine rwE List.length_nil ?_);exact lin [_] [] (.a (.k 0) (.v 0)) (.k 1000) [(1,.l (.a (.v 0) (.k 1)) (.k 64))] tT9 hm.1) ?_
 unfold zv
 unfold YD at q
 have hlen:=uo (zk k (zD t1) (zD t2)) (zg ((zk k (zD t1) (zD t2)).map (·.1)))
 rw [ZT,List.length_map] at hlen
 generalize Zm (zk k (zD t1) (zD t2)) (zg ((zk k (zD t1) (zD t2)).map (·.1)))=P at *
 walk_at "go"
 refine ⟨by refine rwE (zX ..) ?_;exact lin [_,_] [] (.v 0) (.k 100000) [(1,.l (.a (.v 1) (.k 1)) (.k 64)),(1,.l (.v 0) (.v 1))] tT9 hm.1 hlen,?_⟩
 cases P with
 | nil =>
  unfold zL
  walk_at "go"
  exact yU rfl q
 | cons p P =>
  simp only [zL,List.map_cons]
  walk_at "go"
  exact yU rfl q
end
section
variable {C:Cx}{n:Nat}{fd:MO}{pt:D}{vars tolds:List PyData}{made:List (Ky×D)}{τ:zA}{Q:D->zA->Prop}
theorem qv (L:Law1 C){nm dom:PyData}(h:vars.length<=10000)(q:Q (.p (.int vars.length)) (zB fd pt (vars++[.tuple [nm,dom]]) tolds made++τ)):SatCall C T1 (n + 1) 144 [.obj 4,.p nm,.p dom] (zB fd pt vars tolds made++τ) Q:=by
 refine zN L.Y L.TT L.new_var rfl ?_
 unfold y6
 walk_at "go"
 refine ⟨by exact Nat.le_trans h (nB9 rfl),?_⟩
 walk_at "go"
 refine ⟨by simp;exact Nat.le_trans h (nB9 rfl),zE rfl ?_⟩
 simpa using q
theorem WZ (L:Law1 C){told:PyData}(h:tolds.length<=10000)(q:Q (.p .none) (zB fd pt vars (tolds++[told]) made++τ)):SatCall C T1 (n + 1) 151 [.obj 4,.p told] (zB fd pt vars tolds made++τ) Q:=by
 refine zN L.Y L.TT L.post rfl ?_
 unfold Ud
 walk_at "go"
 exact ⟨by exact Nat.le_trans h (nB9 rfl),zE rfl q⟩
theorem QV (L:Law1 C)(h:vars.length<=10000)(q:Q (.p (.int vars.length)) (zB fd pt vars tolds made++τ)):SatCall C T1 (n + 1) 158 [.obj 4] (zB fd pt vars tolds made++τ) Q:=by
 refine zN L.Y L.TT L.size rfl ?_
 unfold Ui
 walk_at "go"
 exact ⟨by exact Nat.le_trans h (nB9 rfl),zE rfl q⟩
theorem Qk (L:Law1 C){x:Nat}{nm dom:PyData}(hx:x<=10000)(h:vars[x]?=some (.tuple [nm,dom]))(q:Q (.p dom) (zB fd pt vars tolds made++τ)):SatCall C T1 (n + 1) 165 [.obj 4,.p (.int x)] (zB fd pt vars tolds made++τ) Q:=by
 refine zN L.Y L.TT L.domain_of rfl ?_
 unfold Qs
 walk_at "go"
 simp only [Option.bind_some,h]
 walk_at "go"
 exact ⟨⟨by exact of_decide_eq_true rfl,by lia⟩,zE rfl q⟩
end
noncomputable def Zi (k:Nat):PyData:=.str (Str.ofString "#"++Str.ofString (toString (k:Int)))
noncomputable def z5 (lo hi:Int):PyData:=.tuple [.tuple [.int lo,.int hi]]
theorem Xp {q:Ky}{d:D}{es:List (Ky×D)}(h:zo q es=none):zo q (es++[(q,d)])=some d:=by
 unfold zo at *
 rw [Option.map_eq_none_iff] at h
 (refine rwE List.find?_append ?_;refine rwE h ?_)
 simp
theorem zD4 {a:Int}(h:-1000000<=a/\a<=1000000):-1000000<=(a.natAbs:Int)/\(a.natAbs:Int)<=1000000:=⟨Int.le_trans (oD9 rfl) (Int.natCast_nonneg _),Int.ofNat_le.mpr (wa (n:=1000000) h.1 h.2)⟩
theorem zE8 {a b:Int}(ha:-1000000<=a/\a<=1000000)(hb:-1000000<=b/\b<=1000000):-1000000<=zu (a.natAbs:Int) [(b.natAbs:Int)]/\zu (a.natAbs:Int) [(b.natAbs:Int)]<=1000000:=by
 simp only [Qz,Q7]
 split
 ·exact zD4 hb
 ·exact zD4 ha
section
variable {C:Cx}{n:Nat}{fd:MO}{pt:D}{vars tolds:List PyData}{made:List (Ky×D)}{τ:zA}{Q:D->zA->Prop}
theorem JM (L:Law1 C){k:List PyData}{q:Ky}{dom:PyData}{j:Int}(hd:Kd (.tuple k))(hq:keyDs k=some q)(h:zo q made=some (.p (.int j)))(hQ:Q (.p (.tuple [.int j,.bool false])) (zB fd pt vars tolds made++τ)) :
  SatCall C T1 (n + 2) 233 [.obj 2,.p (.tuple k),.p dom] (zB fd pt vars tolds made++τ) Q:=by
 refine zN L.Y L.TT L.once rfl ?_
 unfold j2
 walk_at "go"
 simp only [hq,h,Option.isSome_some]
 refine ⟨hd,?_⟩
 walk_at "go"
 simp only [hq,h]
 walk_at "go"
 exact ⟨hd,zE rfl hQ⟩
theorem yn (L:Law1 C){k:List PyData}{q:Ky}{lo hi:Int}(hlo:-1000000<=lo/\lo<=1000000)(hhi:-1000000<=hi/\hi<=1000000)(hv:vars.length<=10000)(hm:made.length<=10000)(hd:Kd (.tuple k))(hq:keyDs k=some q)(h:zo q made=none)
  (hQ:Q (.p (.tuple [.int vars.length,.bool true])) (zB fd pt (vars++[.tuple [Zi vars.length,z5 lo hi]]) tolds (made++[(q,.p (.int vars.length))])++τ)) :
  SatCall C T1 (n + 2) 233 [.obj 2,.p (.tuple k),.p (z5 lo hi)] (zB fd pt vars tolds made++τ) Q:=by
 refine zN L.Y L.TT L.once rfl ?_
 unfold j2 z5
 walk_at "go"
 simp only [hq,h,Option.isSome_none]
 refine ⟨hd,?_⟩
 walk_at "go"
 refine jP L (zE8 hlo hhi) ?_
 walk_at "go"
 refine QV L hv ?_
 walk_at "go"
 refine ⟨by lia,qv L hv ?_⟩
 walk_at "go"
 simp only [hq,h]
 refine ⟨hd,by exact Nat.le_trans hm (nB9 rfl),?_⟩
 walk_at "go"
 simp only [hq,Xp h]
 refine ⟨hd,?_⟩
 walk_at "go"
 exact zE rfl hQ
end
noncomputable def HasDom (vars:List PyData)(x:Int)(b:Int×Int):Prop:=0<=x/\x<=10000/\∃ nm l1 h1 r l2 h2 r2,vars[x.toNat]?=some (.tuple [nm,.tuple (.tuple [.int l1,.int h1]::r)])/\(PyData.tuple [.int l1,.int h1]::r)=r2++[.tuple [.int l2,.int h2]]/\b=(l1,h2)
noncomputable def sm3 (i:Int):Prop:=-1000<=i/\i<=1000
noncomputable def bnd (B:Int->Int×Int):List (Int×Int)->Int×Int->Int×Int
 | [],p=>p
 | (x,a)::ps,(l,h)=>bnd B ps (l + ZC (a * (B x).1) [a * (B x).2],h + zu (a * (B x).1) [a * (B x).2])
theorem j9 {B:Int->Int×Int}{p:Int×Int}:bnd B [] p=p:=rfl
theorem jv {B:Int->Int×Int}{x a l h:Int}{ps:List (Int×Int)}:bnd B ((x,a)::ps) (l,h)=bnd B ps (l + ZC (a * (B x).1) [a * (B x).2],h + zu (a * (B x).1) [a * (B x).2]):=rfl
noncomputable def BOk (vars:List PyData)(B:Int->Int×Int)(ps:List (Int×Int)):Prop:=∀ p,p∈ps->HasDom vars p.1 (B p.1)/\sm3 p.2/\sm3 (B p.1).1/\sm3 (B p.1).2
section
variable {C:Cx}{n:Nat}{fd:MO}{pt:D}{vars tolds:List PyData}{made:List (Ky×D)}{τ:zA}{Q:D->zA->Prop}
theorem vi (L:Law1 C){B:Int->Int×Int}{d1 d2:Option D}{S:Fl->Rho->zA->Prop}{K:Rho×zA->Prop}:∀ (ps:List (Int×Int)) (l h:Int) (u5 u6 u7:Option D),BOk vars B ps ->
  (∀ v5 v6 v7,K ([some (.obj 2),d1,d2,some (.p (.int (bnd B ps (l,h)).1)),some (.p (.int (bnd B ps (l,h)).2)),v5,v6,v7],zB fd pt vars tolds made++τ)) ->
  zJ (za C T1 (n + 1) (.tup [(.nm 5),(.nm 6)]) [(.asg (.pt (.nm 7)) (.tup [(.bin .Mult (.nm 6) (.call false (.gl 17) [(.meth (.attr (.nm 0) 10) 19 [(.nm 5)])])),(.bin .Mult (.nm 6) (.call false (.gl 18) [(.meth (.attr (.nm 0) 10) 19 [(.nm 5)])]))])),(.asg (.tup [(.pt (.nm 3)),(.pt (.nm 4))]) (.tup [(.bin .Add (.nm 3) (.call false (.gl 4) [(.nm 7)])),(.bin .Add (.nm 4) (.call false (.gl 3) [(.nm 7)]))]))] none S) (zL ps)
   ([some (.obj 2),d1,d2,some (.p (.int l)),some (.p (.int h)),u5,u6,u7],zB fd pt vars tolds made++τ) K:=by
 intro ps
 induction ps with
 | nil =>
  intro l h u5 u6 u7 _ hk
  exact hk u5 u6 u7
 | cons p ps ih =>
  intro l h u5 u6 u7 hb hk
  (refine qN (hb p (by simp)) λ q1q=>?_;obtain ⟨x0,x1,nm,l1,h1,r,l2,h2,r2,e1,e2,e3⟩:=q1q;intro sa sl sh)
  rw [e3] at sl sh
  obtain ⟨x,a⟩:=p
  dsimp only at *
  (refine Ee (Int.eq_ofNat_of_zero_le x0) λ k q4q=>?_;obtain rfl:=q4q)
  have ek:(k:Int).toNat=k:=Int.toNat_natCast k
  rw [ek] at e1
  show za _ _ _ _ _ _ _ (PyData.tuple [.int k,.int a]) _ (λ a'=>zJ _ (zL ps) a' K)
  walk_at "go"
  refine Qk L (by exact lin [_] [] (.v 0) (.k 10000) [(1,.L (.c (.v 0)) (.k 10000))] tT9 x1) e1 ?_
  walk_at "go"
  refine zBE L ?_
  walk_at "go"
  refine ⟨zr (by unfold sm3 at *;exact ⟨Int.le_trans (oD9 rfl) sa.1,Int.le_trans sa.2 (oD9 rfl)⟩),zr (by unfold sm3 at *;exact ⟨Int.le_trans (oD9 rfl) sl.1,Int.le_trans sl.2 (oD9 rfl)⟩),Qk L (by exact lin [_] [] (.v 0) (.k 10000) [(1,.L (.c (.v 0)) (.k 10000))] tT9 x1) e1 ?_⟩
  refine rwE e2 ?_
  walk_at "go"
  refine wl L ?_
  walk_at "go"
  refine ⟨zr (by unfold sm3 at *;exact ⟨Int.le_trans (oD9 rfl) sa.1,Int.le_trans sa.2 (oD9 rfl)⟩),zr (by unfold sm3 at *;exact ⟨Int.le_trans (oD9 rfl) sh.1,Int.le_trans sh.2 (oD9 rfl)⟩),?_⟩
  walk_at "go"
  refine ih _ _ _ _ _ (λ q m=>hb q (by simp [m])) λ v5 v6 v7=>?_
  have:=hk v5 v6 v7
  simpa only [j9,jv,e3] using this
noncomputable def bounds (B:Int->Int×Int)(t:Th):Int×Int:=bnd B (zD t) (cOf t,cOf t)
theorem yi (L:Law1 C){B:Int->Int×Int}{t:Th}(hb:BOk vars B (zD t))(hl:(zD t).length<=100)(q:Q (.p (.tuple [.int (bounds B t).1,.int (bounds B t).2])) (zB fd pt vars tolds made++τ)) :
  SatCall C T1 (n + 3) 240 [.obj 2,.p (enc t)] (zB fd pt vars tolds made++τ) Q:=by
 refine zN L.Y L.TT L.bounds rfl ?_
 unfold jZ
 walk_at "go"
 refine QQ L ?_
 unfold Zq
 walk_at "go"
 refine ⟨by refine rwE (zX ..) ?_;exact Nat.le_trans hl (nB9 rfl),vi L _ _ _ _ _ _ hb λ v5 v6 v7=>?_⟩
 walk_at "go"
 exact zE rfl q
end
noncomputable def y0:List (Int×Int)->Ky
 | []=>.nil
 | p::ps=>.cons (.cons (.int p.1) (.cons (.int p.2) .nil)) (y0 ps)
theorem jk:y0 []=.nil:=rfl
theorem JL {p:Int×Int}{ps:List (Int×Int)}:y0 (p::ps)=.cons (.cons (.int p.1) (.cons (.int p.2) .nil)) (y0 ps):=rfl
noncomputable def kyS (ps:List (Int×Int))(c:Int):Ky:=.cons (.str (Str.ofString "sum")) (.cons (y0 ps) (.cons (.int c) .nil))
theorem zAf:∀ ps:List (Int×Int),keyDs (zL ps)=some (y0 ps)
 | []=>rfl
 | p::ps=>by
  have ih:=zAf ps
  unfold zL at *
  simp only [List.map_cons,jp,jy,uj,uV,uc,ih,jk,JL];rfl
theorem ve (ps:List (Int×Int))(c:Int):keyDs [.str (Str.ofString "sum"),.tuple (zL ps),.int c]=some (kyS ps c):=by
 simp only [jp,jy,uj,uV,uc,zAf,kyS];rfl
theorem Jd:∀ ps:List (Int×Int),PyData.depthAll (zL ps)<=1
 | []=>by simp [zL,PyData.depthAll]
 | p::ps=>by
  have ih:=Jd ps
  unfold zL at *
  simp only [List.map_cons,PyData.depthAll,PyData.depth]
  exact Nat.max_le.mpr ⟨Nat.succ_le_succ (Nat.max_le.mpr ⟨Nat.le_refl _,Nat.max_le.mpr ⟨Nat.le_refl _,Nat.le_refl _⟩⟩),ih⟩
theorem kdS (ps:List (Int×Int))(c:Int):Kd (.tuple [.str (Str.ofString "sum"),.tuple (zL ps),.int c]):=by
 have:=Jd ps
 show PyData.depth _<=6
 simp only [PyData.depth,PyData.depthAll]
 exact Nat.succ_le_succ (Nat.max_le.mpr ⟨Nat.zero_le _,Nat.max_le.mpr ⟨lin [_] [] (.a (.v 0) (.k 1)) (.k 5) [(1,.l (.v 0) (.k 1))] tT9 this,Nat.max_le.mpr ⟨Nat.zero_le _,Nat.zero_le _⟩⟩⟩)
noncomputable def Yr (ps:List (Int×Int))(c:Int)(j:Int):PyData:=.tuple [.str (Str.ofString "linear_eq"),.tuple (ps.map (λ p=>.int p.2)++[.int (-1)]),.tuple (ps.map (λ p=>.int p.1)++[.int j]),.int (-c)]
section
variable {C:Cx}{n:Nat}{fd:MO}{pt:D}{vars tolds:List PyData}{made:List (Ky×D)}{τ:zA}{Q:D->zA->Prop}
theorem XW (L:Law1 C){t:Th}{x:Int}(h1:zD t=[(x,1)])(h2:cOf t=0)(q:Q (.p (.int x)) (zB fd pt vars tolds made++τ)) :
  SatCall C T1 (n + 4) 245 [.obj 2,.p (enc t)] (zB fd pt vars tolds made++τ) Q:=by
 refine zN L.Y L.TT L.var_of rfl ?_
 unfold b_var_of
 walk_at "go"
 refine QQ L ?_
 (refine rwE h1 ?_;refine rwE h2 ?_)
 simp only [Zq,zL,List.map_cons,List.map_nil]
 walk_at "go"
 exact zE rfl q
theorem jO (L:Law1 C){t:Th}(hA:∀ x,¬ (zD t=[(x,1)]/\cOf t=0))(hl:(zD t).length<=100)
  (h:wpSs C T1 (n + 3) (b_var_of.drop 2) [some (.obj 2),some (.p (enc t)),some (.p (Zq (zD t) (cOf t))),none,none,none,none,none,none] (zB fd pt vars tolds made++τ) λ fl _ σ'=>qa (zB fd pt vars tolds made++τ) Q fl σ') :
  SatCall C T1 (n + 4) 245 [.obj 2,.p (enc t)] (zB fd pt vars tolds made++τ) Q:=by
 refine zN L.Y L.TT L.var_of rfl ?_
 unfold b_var_of at *
 walk_at "go"
 refine QQ L ?_
 simp only [List.drop] at h
 unfold Zq at *
 walk_at "go"
 refine ⟨by refine rwE (zX ..) ?_;exact Nat.le_trans hl (nB9 rfl),y8 (λ e=>?_) λ _=>h⟩
 have e1:(zD t).length=1:=by
  have:((zL (zD t)).length:Int)=1:=by simpa using e
  rw [zX] at this;lia
 refine Ee (List.length_eq_one_iff.mp e1) λ p hp=>?_
 obtain ⟨x,a⟩:=p
 rw [hp] at h hA ⊢
 simp only [zL,List.map_cons,List.map_nil] at h ⊢
 walk_at "go"
 by_cases ha:a=1
 ·subst ha
  have hc:(cOf t==0)=false:=by
   have:=hA x
   simpa using this
  simp only [hc]
  walk_at "st"
  exact h
 ·have:(a==1)=false:=by simpa using ha
  simp only [this]
  walk_at "st"
  exact h
theorem w4 (L:Law1 C){t:Th}{B:Int->Int×Int}{j:Int}(hA:∀ x,¬ (zD t=[(x,1)]/\cOf t=0))(hl:(zD t).length<=100)(hb:BOk vars B (zD t))(hle:(bounds B t).1<=(bounds B t).2)(hj:zo (kyS (zD t) (cOf t)) made=some (.p (.int j)))
  (q:Q (.p (.int j)) (zB fd pt vars tolds made++τ)):SatCall C T1 (n + 4) 245 [.obj 2,.p (enc t)] (zB fd pt vars tolds made++τ) Q:=by
 refine jO L hA hl ?_
 unfold b_var_of
 simp only [List.drop]
 refine zH ?_
 walk_at "st"
 refine yi L (t:=.sum (zD t) (cOf t)) hb hl ?_
 walk_at "go"
 refine QJ L ?_
 have hle':(bounds B (.sum (zD t) (cOf t))).1<=(bounds B (.sum (zD t) (cOf t))).2:=hle
 simp only [hle',if_true]
 unfold Zq
 refine JM L (kdS _ _) (ve _ _) hj ?_
 walk_at "go"
 exact zE rfl q
theorem wY (L:Law1 C){t:Th}{B:Int->Int×Int}(hl:zD t=[])(hc:-1000000<=cOf t/\cOf t<=1000000)(hv:vars.length<=10000)(hm:made.length<=10000)(hj:zo (kyS [] (cOf t)) made=none)
  (q:Q (.p (.int vars.length)) (zB fd pt (vars++[.tuple [Zi vars.length,z5 (cOf t) (cOf t)]]) tolds (made++[(kyS [] (cOf t),.p (.int vars.length))])++τ)):SatCall C T1 (n + 4) 245 [.obj 2,.p (enc t)] (zB fd pt vars tolds made++τ) Q:=by
 refine jO L (λ x h=>by rw [hl] at h;simp at h) (by refine rwE hl ?_;simp) ?_
 refine rwE hl ?_
 unfold b_var_of
 simp only [List.drop]
 refine zH ?_
 walk_at "st"
 refine yi L (B:=B) (t:=.sum [] (cOf t)) (by intro p m;simp [zD] at m) (by simp [zD]) ?_
 simp only [bounds,zD,j9,jv]
 walk_at "go"
 refine QJ L ?_
 have e0:cOf (.sum [] (cOf t))=cOf t:=rfl
 simp only [e0,Int.le_refl,if_true]
 unfold Zq
 refine yn L hc hc hv hm (kdS _ _) (ve _ _) hj ?_
 simp only [zL,List.map_nil]
 walk_at "go"
 exact zE rfl q
theorem zB1 {d0 d1 d2 d3 d4 d5 d6 d7 d8:Option D}{σ:zA}{K:List PyData×zA->Prop}:∀ (ps:List (Int×Int)) (acc:List PyData),acc.length + ps.length<=1000->K (acc++ps.map λ p=>.int p.2,σ) ->
  zJ (zF C T1 n (elW C T1 n (.nm 11)) (.tup [(.nm 10),(.nm 11)]) [] [] [d0,d1,d2,d3,d4,d5,d6,d7,d8,none,none,none] none) (zL ps) (acc,σ) K:=by
 intro ps
 induction ps with
 | nil =>
  intro acc _ h
  simpa [zL,zw,zt] using h
 | cons p ps ih =>
  intro acc hl h
  simp only [List.length_cons] at hl
  show zF _ _ _ _ _ _ _ _ _ (PyData.tuple [.int p.1,.int p.2]) _ (λ a'=>zJ _ (zL ps) a' K)
  walk_at "go"
  exact ⟨by exact lin [_,_] [] (.v 0) (.k 100000) [(1,.l (.a (.v 0) (.a (.v 1) (.k 1))) (.k 1000))] tT9 hl,ih _ (by simp;exact lin [_,_] [] (.a (.a (.v 0) (.k 1)) (.v 1)) (.k 1000) [(1,.l (.a (.v 0) (.a (.v 1) (.k 1))) (.k 1000))] tT9 hl) (by simpa using h)⟩
theorem zAD {d0 d1 d2 d3 d4 d5 d6 d7 d8:Option D}{σ:zA}{K:List PyData×zA->Prop}:∀ (ps:List (Int×Int)) (acc:List PyData),acc.length + ps.length<=1000->K (acc++ps.map λ p=>.int p.1,σ) ->
  zJ (zF C T1 n (elW C T1 n (.nm 10)) (.tup [(.nm 10),(.nm 11)]) [] [] [d0,d1,d2,d3,d4,d5,d6,d7,d8,none,none,none] none) (zL ps) (acc,σ) K:=by
 intro ps
 induction ps with
 | nil =>
  intro acc _ h
  simpa [zL,zw,zt] using h
 | cons p ps ih =>
  intro acc hl h
  simp only [List.length_cons] at hl
  show zF _ _ _ _ _ _ _ _ _ (PyData.tuple [.int p.1,.int p.2]) _ (λ a'=>zJ _ (zL ps) a' K)
  walk_at "go"
  exact ⟨by exact lin [_,_] [] (.v 0) (.k 100000) [(1,.l (.a (.v 0) (.a (.v 1) (.k 1))) (.k 1000))] tT9 hl,ih _ (by simp;exact lin [_,_] [] (.a (.a (.v 0) (.k 1)) (.v 1)) (.k 1000) [(1,.l (.a (.v 0) (.a (.v 1) (.k 1))) (.k 1000))] tT9 hl) (by simpa using h)⟩
theorem vX (L:Law1 C){t:Th}{B:Int->Int×Int}(hA:∀ x,¬ (zD t=[(x,1)]/\cOf t=0))(hne:zD t≠[])(hl:(zD t).length<=100)(hb:BOk vars B (zD t))(hle:(bounds B t).1<=(bounds B t).2)
  (hlo:-1000000<=(bounds B t).1/\(bounds B t).1<=1000000) (hhi:-1000000<=(bounds B t).2/\(bounds B t).2<=1000000) (hv:vars.length<=10000) (hm:made.length<=10000) (ht:tolds.length<=10000) (hj:zo (kyS (zD t) (cOf t)) made=none)
  (q:Q (.p (.int vars.length)) (zB fd pt (vars++[.tuple [Zi vars.length,z5 (bounds B t).1 (bounds B t).2]]) (tolds++[Yr (zD t) (cOf t) vars.length]) (made++[(kyS (zD t) (cOf t),.p (.int vars.length))])++τ)):SatCall C T1 (n + 4) 245 [.obj 2,.p (enc t)] (zB fd pt vars tolds made++τ) Q:=by
 refine jO L hA hl ?_
 unfold b_var_of
 simp only [List.drop]
 refine zH ?_
 walk_at "st"
 refine yi L (t:=.sum (zD t) (cOf t)) hb hl ?_
 walk_at "go"
 refine QJ L ?_
 have hle':(bounds B (.sum (zD t) (cOf t))).1<=(bounds B (.sum (zD t) (cOf t))).2:=hle
 simp only [hle',if_true]
 unfold Zq
 refine yn L hlo hhi hv hm (kdS _ _) (ve _ _) hj ?_
 walk_at "go"
 have hnz:PyData.eqvAll (zL (zD t)) []=false:=by
  cases hp:zD t with
  | nil=>exact absurd hp hne
  | cons p ps=>rfl
 simp only [hnz]
 walk_at "go"
 refine ⟨by refine rwE (zX ..) ?_;exact Nat.le_trans hl (nB9 rfl),zB1 _ [] (by simp;exact Nat.le_trans hl (nB9 rfl)) ?_⟩
 unfold zv
 walk_at "go"
 refine ⟨by simp;exact Nat.le_trans hl (nB9 rfl),by refine rwE (zX ..) ?_;exact Nat.le_trans hl (nB9 rfl),zAD _ [] (by simp;exact Nat.le_trans hl (nB9 rfl)) ?_⟩
 walk_at "go"
 refine ⟨by simp;exact Nat.le_trans hl (nB9 rfl),?_⟩
 walk_at "go"
 refine ⟨by simp;exact Nat.le_trans hl (nB9 rfl),by simp;exact Nat.le_trans hl (nB9 rfl),WZ L ht ?_⟩
 walk_at "go"
 exact zE rfl q
end
set_option tactic.hygienic true
inductive Df where
 | lin (ps:List (Int×Int)) (c:Int)
 | ext (mx:Bool) (vs:List Int)
structure Dd where
 d:Df
 lo:Int
 hi:Int
noncomputable def z6 (mx:Bool):Str:=if mx then Str.ofString "max" else Str.ofString "min"
noncomputable def qw:List Int->Ky
 | []=>.nil
 | x::r=>.cons (.int x) (qw r)
theorem yj:qw []=.nil:=rfl
theorem yp {x:Int}{r:List Int}:qw (x::r)=.cons (.int x) (qw r):=rfl
noncomputable def ZJ:Df->Ky
 | .lin ps c=>kyS ps c
 | .ext mx vs=>.cons (.str (z6 mx)) (.cons (qw vs) .nil)
noncomputable def zQ (j:Nat):Df->List PyData
 | .lin ps c=>if ps=[] then [] else [Yr ps c j]
 | .ext mx vs=>[.tuple [.str (z6 mx),.tuple (vs.map .int),.int j]]
noncomputable def zb:Nat->List Dd->List PyData
 | _,[]=>[]
 | k,d::r=>.tuple [Zi k,z5 d.lo d.hi]::zb (k + 1) r
theorem Jl {k:Nat}:zb k []=[]:=rfl
theorem JW {k:Nat}{d:Dd}{r:List Dd}:zb k (d::r)=.tuple [Zi k,z5 d.lo d.hi]::zb (k + 1) r:=rfl
noncomputable def zV:Nat->List Dd->List PyData
 | _,[]=>[]
 | k,d::r=>zQ k d.d++zV (k + 1) r
theorem ZH {k:Nat}:zV k []=[]:=rfl
theorem ZI {k:Nat}{d:Dd}{r:List Dd}:zV k (d::r)=zQ k d.d++zV (k + 1) r:=rfl
noncomputable def ZW:Nat->List Dd->List (Ky×D)
 | _,[]=>[]
 | k,d::r=>(ZJ d.d,.p (.int k))::ZW (k + 1) r
theorem JU {k:Nat}:ZW k []=[]:=rfl
theorem JX {k:Nat}{d:Dd}{r:List Dd}:ZW k (d::r)=(ZJ d.d,.p (.int k))::ZW (k + 1) r:=rfl
theorem yW:∀ (ds:List Dd) (k:Nat) (d:Dd),zb k (ds++[d])=zb k ds++[.tuple [Zi (k + ds.length),z5 d.lo d.hi]]:=by
 intro ds
 induction ds with
 | nil =>
  intro k d
  exact rfl
 | cons e r ih =>
  intro k d
  have:=ih (k + 1) d
  simp only [List.cons_append,Jl,JW,this,List.length_cons]
  (refine rwE (show k + 1 + r.length=k + (r.length + 1) by exact Nat.le_antisymm (lin [_,_] [] (.a (.a (.v 0) (.k 1)) (.v 1)) (.a (.v 0) (.a (.v 1) (.k 1))) [] tT9) (lin [_,_] [] (.a (.v 0) (.a (.v 1) (.k 1))) (.a (.a (.v 0) (.k 1)) (.v 1)) [] tT9)) ?_;rfl)
theorem Y8:∀ (ds:List Dd) (k:Nat) (d:Dd),zV k (ds++[d])=zV k ds++zQ (k + ds.length) d.d:=by
 intro ds
 induction ds with
 | nil =>
  intro k d
  simp [ZH,ZI]
 | cons e r ih =>
  intro k d
  have:=ih (k + 1) d
  simp only [List.cons_append,ZH,ZI,this,List.length_cons,List.append_assoc]
  (refine rwE (show k + 1 + r.length=k + (r.length + 1) by exact Nat.le_antisymm (lin [_,_] [] (.a (.a (.v 0) (.k 1)) (.v 1)) (.a (.v 0) (.a (.v 1) (.k 1))) [] tT9) (lin [_,_] [] (.a (.v 0) (.a (.v 1) (.k 1))) (.a (.a (.v 0) (.k 1)) (.v 1)) [] tT9)) ?_;rfl)
theorem jj:∀ (ds:List Dd) (k:Nat) (d:Dd),ZW k (ds++[d])=ZW k ds++[(ZJ d.d,.p (.int ((k + ds.length:Nat):Int)))]:=by
 intro ds
 induction ds with
 | nil =>
  intro k d
  exact rfl
 | cons e r ih =>
  intro k d
  have:=ih (k + 1) d
  simp only [List.cons_append,JU,JX,this,List.length_cons]
  (refine rwE (show k + 1 + r.length=k + (r.length + 1) by exact Nat.le_antisymm (lin [_,_] [] (.a (.a (.v 0) (.k 1)) (.v 1)) (.a (.v 0) (.a (.v 1) (.k 1))) [] tT9) (lin [_,_] [] (.a (.v 0) (.a (.v 1) (.k 1))) (.a (.a (.v 0) (.k 1)) (.v 1)) [] tT9)) ?_;rfl)
theorem Zl:∀ (ds:List Dd) (k:Nat),(zb k ds).length=ds.length:=by
 intro ds
 induction ds with
 | nil =>
  intro _
  exact rfl
 | cons _ r ih =>
  intro k
  simp [Jl,JW,ih (k + 1)]
theorem YV:∀ (ds:List Dd) (k:Nat),(ZW k ds).length=ds.length:=by
 intro ds
 induction ds with
 | nil =>
  intro _
  exact rfl
 | cons _ r ih =>
  intro k
  simp [JU,JX,ih (k + 1)]
theorem Za:∀ (ds:List Dd) (k:Nat),(zV k ds).length<=ds.length:=by
 intro ds
 induction ds with
 | nil =>
  intro _
  exact Nat.le_refl _
 | cons d r ih =>
  intro k
  have:=ih (k + 1)
  have h1:(zQ k d.d).length<=1:=by
   cases d.d with
   | lin ps c=>simp only [zQ];split <;> simp
   | ext mx vs=>simp [zQ]
  simp only [ZH,ZI,List.length_append,List.length_cons];exact lin [_,_,_] [] (.a (.v 0) (.v 1)) (.a (.v 2) (.k 1)) [(1,.l (.v 1) (.v 2)),(1,.l (.v 0) (.k 1))] tT9 this h1
noncomputable def ZP (q:Ky):Nat->List Dd->Option Nat
 | _,[]=>none
 | k,d::r=>if ZJ d.d=q then some k else ZP q (k + 1) r
theorem qc {q:Ky}{k:Nat}:ZP q k []=none:=rfl
theorem qZ {q:Ky}{k:Nat}{d:Dd}{r:List Dd}:ZP q k (d::r)=if ZJ d.d=q then some k else ZP q (k + 1) r:=rfl
theorem JJ (q:Ky):∀ (ds:List Dd) (k:Nat),zo q (ZW k ds)=(ZP q k ds).map λ j=>D.p (.int (j:Nat)):=by
 intro ds
 induction ds with
 | nil =>
  intro _
  exact rfl
 | cons d r ih =>
  intro k
  have:=ih (k + 1)
  unfold zo at *
  simp only [JU,JX,List.find?_cons,qc,qZ]
  by_cases h:ZJ d.d=q
  ·simp [h]
  ·simp only [h,decide_false,if_false];exact this
theorem Xj {q:Ky}{d:Dd}:∀ (ds:List Dd) (k:Nat),ZP q k (ds++[d])=match ZP q k ds with | some j=>some j | none=>if ZJ d.d=q then some (k + ds.length) else none:=by
 intro ds
 induction ds with
 | nil =>
  intro k
  simp [qc,qZ]
 | cons e r ih =>
  intro k
  have:=ih (k + 1)
  simp only [List.cons_append,qc,qZ]
  by_cases h:ZJ e.d=q
  ·simp [h]
  ·simp only [h,if_false,this,List.length_cons]
   (refine rwE (show k + 1 + r.length=k + (r.length + 1) by exact Nat.le_antisymm (lin [_,_] [] (.a (.a (.v 0) (.k 1)) (.v 1)) (.a (.v 0) (.a (.v 1) (.k 1))) [] tT9) (lin [_,_] [] (.a (.v 0) (.a (.v 1) (.k 1))) (.a (.a (.v 0) (.k 1)) (.v 1)) [] tT9)) ?_;rfl)
noncomputable def yo (ps:List (Int×Int))(c:Int):Option Int:=match ps with
 | [(x,a)]=>if a=1/\c=0 then some x else none
 | _=>none
noncomputable def varOf (B:Int->Int×Int)(ds:List Dd)(t:Th):List Dd×Int:=match yo (zD t) (cOf t) with
 | some x=>(ds,x)
 | none=>match ZP (kyS (zD t) (cOf t)) 3 ds with
  | some j=>(ds,j)
  | none=>(ds++[⟨.lin (zD t) (cOf t),(bounds B t).1,(bounds B t).2⟩],((3 + ds.length:Nat):Int))
noncomputable def stt (fd:MO)(pt:D)(vb:List PyData)(ds:List Dd):zA:=zB fd pt (vb++zb 3 ds) (zV 3 ds) (ZW 3 ds)
section
variable {C:Cx}{n:Nat}{fd:MO}{pt:D}{vb:List PyData}{ds:List Dd}{τ:zA}{Q:D->zA->Prop}
theorem Vn (L:Law1 C){t:Th}{B:Int->Int×Int}(h3:vb.length=3)(hds:ds.length<=1000)(hl:(zD t).length<=100)(hb:BOk (vb++zb 3 ds) B (zD t))(hle:(bounds B t).1<=(bounds B t).2)
  (hlo:-1000000<=(bounds B t).1/\(bounds B t).1<=1000000) (hhi:-1000000<=(bounds B t).2/\(bounds B t).2<=1000000)
  (q:Q (.p (.int (varOf B ds t).2)) (stt fd pt vb (varOf B ds t).1++τ)):SatCall C T1 (n + 4) 245 [.obj 2,.p (enc t)] (stt fd pt vb ds++τ) Q:=by
 unfold varOf at q
 unfold stt at *
 have hvl:(vb++zb 3 ds).length=3 + ds.length:=by (refine rwE List.length_append ?_;refine rwE (Zl ..) ?_;refine rwE h3 ?_;rfl)
 have hml:=YV ds 3
 have htl:=Za ds 3
 by_cases hx:∃ x,zD t=[(x,1)]/\cOf t=0
 ·(refine Eea (hx) λ x e1 e2=>?_;try clear hx)
  have:yo (zD t) (cOf t)=some x:=by (refine rwE e1 ?_;refine rwE e2 ?_);simp [yo]
  rw [this] at q
  exact XW L e1 e2 q
 ·have hA:∀ x,¬ (zD t=[(x,1)]/\cOf t=0):=λ x h=>hx ⟨x,h⟩
  have:yo (zD t) (cOf t)=none:=by
   unfold yo
   split
   ·rename_i x a e
    by_cases hh:a=1/\cOf t=0
    ·(refine Ea (hh) λ q2q=>?_;try clear hh;obtain rfl:=q2q;intro h0);exact absurd ⟨e,h0⟩ (hA x)
    ·(refine rwE (if_neg hh) ?_;rfl)
   ·rfl
  rw [this] at q
  dsimp only at q
  have hlk:=JJ (kyS (zD t) (cOf t)) ds 3
  split at q
  ·rename_i j hj
   rw [hj] at hlk
   exact w4 L hA hl hb hle hlk q
  ·rename_i hj
   rw [hj] at hlk
   rw [yW,Y8,jj] at q
   simp only [zQ,ZJ] at q
   by_cases hne:zD t=[]
   ·have e0:bounds B t=(cOf t,cOf t):=by unfold bounds;refine rwE hne ?_;rfl
    rw [e0] at q hlo
    rw [hne] at hlk q
    refine wY (B:=B) L hne hlo (by exact lin [_,_] [] (.v 0) (.k 10000) [(1,.l (.v 1) (.k 1000)),(1,.e (.v 0) (.a (.k 3) (.v 1)))] tT9 hds hvl) (by exact lin [_,_] [] (.v 0) (.k 10000) [(1,.l (.v 1) (.k 1000)),(1,.e (.v 0) (.v 1))] tT9 hds hml) hlk ?_
    refine rwE hvl ?_
    simpa [List.append_assoc] using q
   ·rw [if_neg hne] at q
    refine vX L hA hne hl hb hle hlo hhi (by exact lin [_,_] [] (.v 0) (.k 10000) [(1,.l (.v 1) (.k 1000)),(1,.e (.v 0) (.a (.k 3) (.v 1)))] tT9 hds hvl) (by exact lin [_,_] [] (.v 0) (.k 10000) [(1,.l (.v 1) (.k 1000)),(1,.e (.v 0) (.v 1))] tT9 hds hml) (by exact lin [_,_] [] (.v 0) (.k 10000) [(1,.l (.v 1) (.k 1000)),(1,.l (.v 0) (.v 1))] tT9 hds htl) hlk ?_
    refine rwE hvl ?_
    simpa [List.append_assoc] using q
end
set_option tactic.hygienic false
structure TG (vb:List PyData)(B:Int->Int×Int)(ds:List Dd)(t:Th):Prop where
 len:(zD t).length<=100
 ok:BOk (vb++zb 3 ds) B (zD t)
 le:(bounds B t).1<=(bounds B t).2
 lo:-1000000<=(bounds B t).1
 hi:(bounds B t).2<=1000000
theorem HasDom.snoc {vars:List PyData}{x:Int}{b:Int×Int}{v:PyData}(h:HasDom vars x b):HasDom (vars++[v]) x b:=by
 obtain ⟨h0,h1,nm,l1,a1,r,l2,a2,r2,e1,e2,e3⟩:=h
 refine ⟨h0,h1,nm,l1,a1,r,l2,a2,r2,?_,e2,e3⟩
 refine rwE (List.getElem?_append_left (List.getElem?_eq_some_iff.mp e1).1) ?_;exact e1
theorem TG.snoc {vb:List PyData}{B:Int->Int×Int}{ds:List Dd}{t:Th}{d:Dd}(h:TG vb B ds t):TG vb B (ds++[d]) t :=
 ⟨h.len,λ p m=>by
  refine Ea (h.ok p m) λ a b=>?_
  (refine rwE (yW ..) ?_;refine rwS (List.append_assoc ..) ?_)
  exact ⟨a.snoc,b⟩,h.le,h.lo,h.hi⟩
theorem Qm (B:Int->Int×Int)(ds:List Dd)(t:Th):(varOf B ds t).1=ds∨∃ d,(varOf B ds t).1=ds++[d]:=by
 unfold varOf
 split
 ·exact .inl rfl
 ·split
  ·exact .inl rfl
  ·exact .inr ⟨_,rfl⟩
theorem TG.varOf {vb:List PyData}{B:Int->Int×Int}{ds:List Dd}{t u:Th}(h:TG vb B ds t):TG vb B (varOf B ds u).1 t:=by
 rcases Qm B ds u with e | ⟨d,e⟩
 ·refine rwE e ?_;exact h
 ·refine rwE e ?_;exact h.snoc
noncomputable def zG (B:Int->Int×Int):List Dd->List Th->List Dd×List Int
 | ds,[]=>(ds,[])
 | ds,t::r=>((zG B (varOf B ds t).1 r).1,(varOf B ds t).2::(zG B (varOf B ds t).1 r).2)
theorem qe {B:Int->Int×Int}{ds:List Dd}:zG B ds []=(ds,[]):=rfl
theorem qb {B:Int->Int×Int}{ds:List Dd}{t:Th}{r:List Th}:zG B ds (t::r)=((zG B (varOf B ds t).1 r).1,(varOf B ds t).2::(zG B (varOf B ds t).1 r).2):=rfl
theorem yy (B:Int->Int×Int):∀ (ts:List Th) (ds:List Dd),(zG B ds ts).2.length=ts.length:=by
 intro ts
 induction ts with
 | nil =>
  intro _
  exact rfl
 | cons t r ih =>
  intro ds
  simp [qe,qb,ih]
section
variable {C:Cx}{n:Nat}{fd:MO}{pt:D}{vb:List PyData}{ds:List Dd}{τ:zA}{Q:D->zA->Prop}
theorem w5 (L:Law1 C){B:Int->Int×Int}{d1:Option D}{K:List PyData×zA->Prop}(h3:vb.length=3):∀ (ts:List Th) (ds:List Dd) (acc:List PyData),ds.length + ts.length<=1000->acc.length + ts.length<=1000->(∀ t,t∈ts->TG vb B ds t) ->
  K (acc++(zG B ds ts).2.map .int,stt fd pt vb (zG B ds ts).1++τ) ->
  zJ (zF C T1 (n + 4) (elW C T1 (n + 4) (.meth (.nm 0) 22 [(.nm 3)])) (.nm 3) [] [] [some (.obj 2),d1,none,none] none) (ts.map enc) (acc,stt fd pt vb ds++τ) K:=by
 intro ts
 induction ts with
 | nil =>
  intro ds acc _ _ _ h
  simpa [qe,qb,zw,zt] using h
 | cons t ts ih =>
  intro ds acc hl ha hg h
  simp only [List.length_cons] at hl ha
  have g:=hg t (by simp)
  show zF _ _ _ _ _ _ _ _ _ (enc t) _ (λ a'=>zJ _ (ts.map enc) a' K)
  have go:SatCall C T1 (n + 4) 245 [.obj 2,.p (enc t)] (stt fd pt vb ds++τ) λ d σ'=>j6 d acc λ acc'=>zJ (zF C T1 (n + 4) (elW C T1 (n + 4) (.meth (.nm 0) 22 [(.nm 3)])) (.nm 3) [] [] [some (.obj 2),d1,none,none] none) (ts.map enc) (acc',σ') K:=by
   refine Vn L h3 (by exact Nat.le_trans (Nat.le_add_right _ _) hl) g.len g.ok g.le ⟨g.lo,by have:=g.le;have:=g.hi;lia⟩ ⟨by have:=g.le;have:=g.lo;lia,g.hi⟩ ?_
   show acc.length<=100000/\_
   refine ⟨by exact lin [_,_] [] (.v 0) (.k 100000) [(1,.l (.a (.v 0) (.a (.v 1) (.k 1))) (.k 1000))] tT9 ha,ih _ _ ?_ (by simp;exact lin [_,_] [] (.a (.a (.v 0) (.k 1)) (.v 1)) (.k 1000) [(1,.l (.a (.v 0) (.a (.v 1) (.k 1))) (.k 1000))] tT9 ha) (λ u m=>(hg u (by simp [m])).varOf) ?_⟩
   ·rcases Qm B ds t with e | ⟨d,e⟩
    ·refine rwE e ?_;exact Nat.le_of_lt hl
    ·(refine rwE e ?_;refine rwE List.length_append ?_;refine rwE List.length_singleton ?_);exact lin [_,_] [] (.a (.a (.v 0) (.k 1)) (.v 1)) (.k 1000) [(1,.l (.a (.v 0) (.a (.v 1) (.k 1))) (.k 1000))] tT9 hl
   ·simpa [qe,qb] using h
  unfold stt at go ⊢
  walk_at "go"
  exact go
theorem Ws (L:Law1 C){B:Int->Int×Int}{ts:List Th}(h3:vb.length=3)(hl:ds.length + ts.length<=1000)(hg:∀ t,t∈ts->TG vb B ds t)
  (q:Q (.p (.tuple ((zG B ds ts).2.map .int))) (stt fd pt vb (zG B ds ts).1++τ)):SatCall C T1 (n + 5) 250 [.obj 2,.p (.list (ts.map enc))] (stt fd pt vb ds++τ) Q:=by
 refine zN L.Y L.TT L.vars_of rfl ?_
 unfold YB
 walk_at "go"
 refine ⟨by simp;exact lin [_,_] [] (.v 0) (.k 100000) [(1,.l (.a (.v 1) (.v 0)) (.k 1000))] tT9 hl,w5 L h3 ts ds [] hl (by simp;exact Nat.le_trans (Nat.le_add_left _ _) hl) hg ?_⟩
 unfold zv
 walk_at "go"
 refine ⟨by simp [yy];exact lin [_,_] [] (.v 0) (.k 100000) [(1,.l (.a (.v 1) (.v 0)) (.k 1000))] tT9 hl,?_⟩
 exact zE rfl q
end
set_option tactic.hygienic true
noncomputable def Zr (ds:List Dd)(mx:Bool)(vs:List Int)(lo hi:Int):List Dd×Int:=match ZP (ZJ (.ext mx vs)) 3 ds with
 | some j=>(ds,j)
 | none=>(ds++[⟨.ext mx vs,lo,hi⟩],((3 + ds.length:Nat):Int))
theorem xv:∀ vs:List Int,keyDs (vs.map .int)=some (qw vs)
 | []=>rfl
 | x::r=>by simp only [List.map_cons,jp,jy,uj,uV,uc,xv r,yj,yp];rfl
theorem zDd (mx:Bool)(vs:List Int):keyDs [.str (z6 mx),.tuple (vs.map .int)]=some (ZJ (.ext mx vs)):=by
 simp only [jp,jy,uj,uV,uc,xv,ZJ];rfl
theorem qp:∀ vs:List Int,PyData.depthAll (vs.map .int)=0
 | []=>by simp [PyData.depthAll]
 | x::r=>by simp [PyData.depthAll,PyData.depth,qp r]
theorem kdE (mx:Bool)(vs:List Int):Kd (.tuple [.str (z6 mx),.tuple (vs.map .int)]):=by
 have:=qp vs
 show PyData.depth _<=6
 simp only [PyData.depth,PyData.depthAll]
 exact Nat.succ_le_succ (Nat.max_le.mpr ⟨Nat.zero_le _,Nat.max_le.mpr ⟨lin [_] [] (.a (.v 0) (.k 1)) (.k 5) [(1,.e (.v 0) (.k 0))] tT9 this,Nat.zero_le _⟩⟩)
section
variable {C:Cx}{n:Nat}{fd:MO}{pt:D}{vb:List PyData}{ds:List Dd}{τ:zA}{Q:D->zA->Prop}
theorem zCV (L:Law1 C){mx:Bool}{vs:List Int}{lo hi:Int}(h3:vb.length=3)(hds:ds.length<=1000)(hlo:-1000000<=lo/\lo<=1000000)(hhi:-1000000<=hi/\hi<=1000000)
  (q:Q (.p (enc (.sum [((Zr ds mx vs lo hi).2,1)] 0))) (stt fd pt vb (Zr ds mx vs lo hi).1++τ)):SatCall C T1 (n + 3) 346 [.obj 2,.p (.tuple [.str (z6 mx),.tuple (vs.map .int)]),.p (z5 lo hi)] (stt fd pt vb ds++τ) Q:=by
 refine zN L.Y L.TT L.made_number rfl ?_
 unfold qy
 unfold Zr at q
 unfold stt at *
 have hvl:(vb++zb 3 ds).length=3 + ds.length:=by (refine rwE List.length_append ?_;refine rwE (Zl ..) ?_;refine rwE h3 ?_;rfl)
 have hml:=YV ds 3
 have htl:=Za ds 3
 have hlk:=JJ (ZJ (.ext mx vs)) ds 3
 walk_at "go"
 split at q
 ·rename_i j hj
  rw [hj] at hlk
  refine JM L (kdE _ _) (zDd _ _) hlk ?_
  walk_at "go"
  exact zE rfl q
 ·rename_i hj
  rw [hj] at hlk
  rw [yW,Y8,jj] at q
  simp only [zQ] at q
  refine yn L hlo hhi (by exact lin [_,_] [] (.v 0) (.k 10000) [(1,.l (.v 1) (.k 1000)),(1,.e (.v 0) (.a (.k 3) (.v 1)))] tT9 hds hvl) (by exact lin [_,_] [] (.v 0) (.k 10000) [(1,.l (.v 1) (.k 1000)),(1,.e (.v 0) (.v 1))] tT9 hds hml) (kdE _ _) (zDd _ _) hlk ?_
  refine rwE hvl ?_
  walk_at "go"
  refine WZ L (by exact lin [_,_] [] (.v 0) (.k 10000) [(1,.l (.v 1) (.k 1000)),(1,.l (.v 0) (.v 1))] tT9 hds htl) ?_
  walk_at "go"
  refine zE rfl ?_
  simpa [List.append_assoc,enc,Zq,zL] using q
end
set_option tactic.hygienic false
theorem Ze:∀ l:List Int,ints? (l.map .int)=some l
 | []=>rfl
 | x::r=>by simp only [List.map_cons,zDa,zD0,Ze r];rfl
theorem Qc {a b:Int}{l:List Int}:ints? (.int a::.int b::l.map .int)=some (a::b::l):=Ze (a::b::l)
noncomputable def zP (mx:Bool)(zz:List Int):Int:=@List.casesOn _ (λ _=>Int) zz 0 (λ a r=>if mx then zu a r else ZC a r)
noncomputable def ZN (B:Int->Int×Int)(ds:List Dd)(mx:Bool)(ts:List Th):List Dd×Int :=
 Zr (zG B ds ts).1 mx (zG B ds ts).2 (zP mx (ts.map λ t=>(bounds B t).1)) (zP mx (ts.map λ t=>(bounds B t).2))
theorem WR (B:Int->Int×Int):∀ (ts:List Th) (ds:List Dd),(zG B ds ts).1.length<=ds.length + ts.length:=by
 intro ts
 induction ts with
 | nil =>
  intro _
  exact Nat.le_refl _
 | cons t r ih =>
  intro ds
  have:=ih (varOf B ds t).1
  simp only [qe,qb,List.length_cons]
  rcases Qm B ds t with e | ⟨d,e⟩
  ·rw [e] at this ⊢;exact Nat.le_succ_of_le this
  ·rw [e] at this ⊢;rw [List.length_append,List.length_singleton] at this;exact lin [_,_,_] [] (.v 0) (.a (.v 1) (.a (.v 2) (.k 1))) [(1,.l (.v 0) (.a (.a (.v 1) (.k 1)) (.v 2)))] tT9 this
section
variable {C:Cx}{n:Nat}{fd:MO}{pt:D}{vb:List PyData}{ds:List Dd}{τ:zA}{Q:D->zA->Prop}
theorem Wh (L:Law1 C){B:Int->Int×Int}{d1 d2 d3 d4 d5 d6:Option D}{K:List PyData×zA->Prop}:∀ (ts:List Th) (acc:List PyData),acc.length + ts.length<=1000->(∀ t,t∈ts->TG vb B ds t) ->
  K (acc++zL (ts.map (bounds B)),stt fd pt vb ds++τ) ->
  zJ (zF C T1 (n + 3) (elW C T1 (n + 3) (.meth (.nm 0) 21 [(.nm 8)])) (.nm 8) [] [] [some (.obj 2),d1,d2,d3,d4,d5,d6,none,none] none) (ts.map enc) (acc,stt fd pt vb ds++τ) K:=by
 intro ts
 induction ts with
 | nil =>
  intro acc _ _ h
  simpa [zw,zt,zL] using h
 | cons t ts ih =>
  intro acc ha hg h
  simp only [List.length_cons] at ha
  have g:=hg t (by simp)
  show zF _ _ _ _ _ _ _ _ _ (enc t) _ (λ a'=>zJ _ (ts.map enc) a' K)
  have go:SatCall C T1 (n + 3) 240 [.obj 2,.p (enc t)] (stt fd pt vb ds++τ) λ d σ'=>j6 d acc λ acc'=>zJ (zF C T1 (n + 3) (elW C T1 (n + 3) (.meth (.nm 0) 21 [(.nm 8)])) (.nm 8) [] [] [some (.obj 2),d1,d2,d3,d4,d5,d6,none,none] none) (ts.map enc) (acc',σ') K:=by
   refine yi L g.ok g.len ?_
   show acc.length<=100000/\_
   refine ⟨by exact lin [_,_] [] (.v 0) (.k 100000) [(1,.l (.a (.v 0) (.a (.v 1) (.k 1))) (.k 1000))] tT9 ha,ih _ (by simp;exact lin [_,_] [] (.a (.a (.v 0) (.k 1)) (.v 1)) (.k 1000) [(1,.l (.a (.v 0) (.a (.v 1) (.k 1))) (.k 1000))] tT9 ha) (λ u m=>hg u (by simp [m])) ?_⟩
   simpa [zL] using h
  unfold stt at go ⊢
  walk_at "go"
  exact go
theorem UN {d0 d1 d2 d3 d4 d5 d6:Option D}{σ:zA}{K:List PyData×zA->Prop}:∀ (ps:List (Int×Int)) (acc:List PyData),acc.length + ps.length<=1000->K (acc++(ps.map (·.1)).map .int,σ) ->
  zJ (zF C T1 n (elW C T1 n (.nm 8)) (.tup [(.nm 8),(.nm 9)]) [] [] [d0,d1,d2,d3,d4,d5,d6,none,none,none] none) (zL ps) (acc,σ) K:=by
 intro ps
 induction ps with
 | nil =>
  intro acc _ h
  simpa [zL,zw,zt] using h
 | cons p ps ih =>
  intro acc hl h
  simp only [List.length_cons] at hl
  show zF _ _ _ _ _ _ _ _ _ (PyData.tuple [.int p.1,.int p.2]) _ (λ a'=>zJ _ (zL ps) a' K)
  walk_at "go"
  exact ⟨by exact lin [_,_] [] (.v 0) (.k 100000) [(1,.l (.a (.v 0) (.a (.v 1) (.k 1))) (.k 1000))] tT9 hl,ih _ (by simp;exact lin [_,_] [] (.a (.a (.v 0) (.k 1)) (.v 1)) (.k 1000) [(1,.l (.a (.v 0) (.a (.v 1) (.k 1))) (.k 1000))] tT9 hl) (by simpa using h)⟩
theorem Jz {d0 d1 d2 d3 d4 d5 d6:Option D}{σ:zA}{K:List PyData×zA->Prop}:∀ (ps:List (Int×Int)) (acc:List PyData),acc.length + ps.length<=1000->K (acc++(ps.map (·.2)).map .int,σ) ->
  zJ (zF C T1 n (elW C T1 n (.nm 9)) (.tup [(.nm 8),(.nm 9)]) [] [] [d0,d1,d2,d3,d4,d5,d6,none,none,none] none) (zL ps) (acc,σ) K:=by
 intro ps
 induction ps with
 | nil =>
  intro acc _ h
  simpa [zL,zw,zt] using h
 | cons p ps ih =>
  intro acc hl h
  simp only [List.length_cons] at hl
  show zF _ _ _ _ _ _ _ _ _ (PyData.tuple [.int p.1,.int p.2]) _ (λ a'=>zJ _ (zL ps) a' K)
  walk_at "go"
  exact ⟨by exact lin [_,_] [] (.v 0) (.k 100000) [(1,.l (.a (.v 0) (.a (.v 1) (.k 1))) (.k 1000))] tT9 hl,ih _ (by simp;exact lin [_,_] [] (.a (.a (.v 0) (.k 1)) (.v 1)) (.k 1000) [(1,.l (.a (.v 0) (.a (.v 1) (.k 1))) (.k 1000))] tT9 hl) (by simpa using h)⟩
theorem W8 (L:Law1 C){B:Int->Int×Int}{mx:Bool}{t t':Th}{ts:List Th}{sp:PyData}(h3:vb.length=3)(hl:ds.length + (ts.length + 2)<=900)(hg:∀ u,u∈t::t'::ts->TG vb B ds u)
  (hle:zP mx ((t::t'::ts).map λ t=>(bounds B t).1)<=zP mx ((t::t'::ts).map λ t=>(bounds B t).2)) (hlo:-1000000<=zP mx ((t::t'::ts).map λ t=>(bounds B t).1)) (hhi:zP mx ((t::t'::ts).map λ t=>(bounds B t).2)<=1000000)
  (q:Q (.p (enc (.sum [((ZN B ds mx (t::t'::ts)).2,1)] 0))) (stt fd pt vb (ZN B ds mx (t::t'::ts)).1++τ)) :
  SatCall C T1 (n + 6) 384 [.obj 2,.p (.str (z6 mx)),.p (.list ((t::t'::ts).map enc)),.p sp] (stt fd pt vb ds++τ) Q:=by
 refine zN L.Y L.TT L.extreme rfl ?_
 unfold qA
 have e0:(((ts.map enc).length:Int) + 1 + 1==0)=false:=by
  rw [beq_eq_false_iff_ne];exact Int.ne_of_gt (liZ [_] [] (.a (.k 0) (.k 1)) (.a (.a (.c (.v 0)) (.k 1)) (.k 1)) [] tT9)
 have e1:(((ts.map enc).length:Int) + 1 + 1==1)=false:=by
  rw [beq_eq_false_iff_ne];exact Int.ne_of_gt (liZ [_] [] (.a (.k 1) (.k 1)) (.a (.a (.c (.v 0)) (.k 1)) (.k 1)) [] tT9)
 have hlen:(ts.map enc).length=ts.length:=List.length_map ..
 walk_at "go"
 simp only [e0]
 refine ⟨by exact lin [_,_,_] [] (.v 0) (.k 99998) [(1,.l (.a (.v 1) (.a (.v 2) (.k 2))) (.k 900)),(1,.e (.v 0) (.v 2))] tT9 hl hlen,?_⟩
 walk_at "go"
 simp only [e0]
 refine ⟨by exact lin [_,_,_] [] (.v 0) (.k 99998) [(1,.l (.a (.v 1) (.a (.v 2) (.k 2))) (.k 900)),(1,.e (.v 0) (.v 2))] tT9 hl hlen,?_⟩
 walk_at "go"
 simp only [e1]
 refine ⟨by exact lin [_,_,_] [] (.v 0) (.k 99998) [(1,.l (.a (.v 1) (.a (.v 2) (.k 2))) (.k 900)),(1,.e (.v 0) (.v 2))] tT9 hl hlen,?_⟩
 walk_at "st"
 refine zH ?_
 walk_at "st"
 refine ⟨by exact lin [_,_,_] [] (.v 0) (.k 99998) [(1,.l (.a (.v 1) (.a (.v 2) (.k 2))) (.k 900)),(1,.e (.v 0) (.v 2))] tT9 hl hlen,Wh (n:=n + 2) L (t::t'::ts) [] (by simp;exact lin [_,_] [] (.v 0) (.k 998) [(1,.l (.a (.v 1) (.a (.v 0) (.k 2))) (.k 900))] tT9 hl) hg ?_⟩
 have hr:SatCall C T1 (n + 5) 28 [.p (.int (zP mx ((t::t'::ts).map λ t=>(bounds B t).1))),.p (.int (zP mx ((t::t'::ts).map λ t=>(bounds B t).2)))] (stt fd pt vb ds++τ) λ d σ'=>d=.p (z5 (zP mx ((t::t'::ts).map λ t=>(bounds B t).1)) (zP mx ((t::t'::ts).map λ t=>(bounds B t).2)))/\σ'=stt fd pt vb ds++τ:=by
  refine QJ L ?_
  refine rwE (if_pos hle) ?_
  exact ⟨rfl,rfl⟩
 have hq:SatCall C T1 (n + 5) 250 [.obj 2,.p (.list ((t::t'::ts).map enc))] (stt fd pt vb ds++τ) λ d σ'=>d=.p (.tuple ((zG B ds (t::t'::ts)).2.map .int))/\σ'=stt fd pt vb (zG B ds (t::t'::ts)).1++τ :=
  Ws L h3 (by simp;exact Nat.le_trans hl (nB9 rfl)) hg ⟨rfl,rfl⟩
 have hm:∀ Q':D->zA->Prop,(Q' (.p (enc (.sum [((ZN B ds mx (t::t'::ts)).2,1)] 0))) (stt fd pt vb (ZN B ds mx (t::t'::ts)).1++τ))->SatCall C T1 (n + 5) 346 [.obj 2,.p (.tuple [.str (z6 mx),.tuple ((zG B ds (t::t'::ts)).2.map .int)]),.p (z5 (zP mx ((t::t'::ts).map λ t=>(bounds B t).1)) (zP mx ((t::t'::ts).map λ t=>(bounds B t).2)))] (stt fd pt vb (zG B ds (t::t'::ts)).1++τ) Q':=λ Q' h =>
  zCV L h3 (by have:=WR B (t::t'::ts) ds;simp only [List.length_cons] at this;exact lin [_,_,_] [] (.v 0) (.k 1000) [(1,.l (.a (.v 1) (.a (.v 2) (.k 2))) (.k 900)),(1,.l (.v 0) (.a (.v 1) (.a (.a (.v 2) (.k 1)) (.k 1))))] tT9 hl this) ⟨hlo,by exact liZ [] [zP mx (List.map (λ t=>(bounds B t).fst) (t::t'::ts)),zP mx (List.map (λ t=>(bounds B t).snd) (t::t'::ts))] (.v 0) (.k 1000000) [(1,.L (.v 0) (.v 1)),(1,.L (.v 1) (.k 1000000))] tT9 hle hhi⟩ ⟨by lia,hhi⟩ h
 unfold zv
 cases mx with
 | true =>
  simp only [z6,if_true]
  walk_at "go"
  refine ⟨by refine rwE (zX ..) ?_;simp;exact lin [_,_] [] (.v 0) (.k 99998) [(1,.l (.a (.v 1) (.a (.v 0) (.k 2))) (.k 900))] tT9 hl,UN _ [] (by simp;exact lin [_,_] [] (.v 0) (.k 998) [(1,.l (.a (.v 1) (.a (.v 0) (.k 2))) (.k 900))] tT9 hl) ?_⟩
  simp only [zv,List.nil_append]
  walk_at "go"
  simp only [Qc]
  walk_at "go"
  refine ⟨by refine rwE (zX ..) ?_;simp;exact lin [_,_] [] (.v 0) (.k 99998) [(1,.l (.a (.v 1) (.a (.v 0) (.k 2))) (.k 900))] tT9 hl,Jz _ [] (by simp;exact lin [_,_] [] (.v 0) (.k 998) [(1,.l (.a (.v 1) (.a (.v 0) (.k 2))) (.k 900))] tT9 hl) ?_⟩
  simp only [zv,List.nil_append]
  walk_at "go"
  simp only [Qc]
  walk_at "go"
  simp only [List.map_map,Function.comp_def]
  refine hr.mono λ d σ' hd=>?_
  (refine Ea (hd) λ q1q=>?_;try clear hd;obtain rfl:=q1q;intro q2q;obtain rfl:=q2q)
  unfold stt at hq hm ⊢
  walk_at "go"
  refine hq.mono λ d σ' hd=>?_
  (refine Ea (hd) λ q4q=>?_;try clear hd;obtain rfl:=q4q;intro q5q;obtain rfl:=q5q)
  walk_at "go"
  refine hm _ ?_
  exact zE rfl q
 | false =>
  simp only [z6,Bool.false_eq_true,if_false]
  walk_at "go"
  refine ⟨by refine rwE (zX ..) ?_;simp;exact lin [_,_] [] (.v 0) (.k 99998) [(1,.l (.a (.v 1) (.a (.v 0) (.k 2))) (.k 900))] tT9 hl,UN _ [] (by simp;exact lin [_,_] [] (.v 0) (.k 998) [(1,.l (.a (.v 1) (.a (.v 0) (.k 2))) (.k 900))] tT9 hl) ?_⟩
  simp only [zv,List.nil_append]
  walk_at "go"
  simp only [Qc]
  walk_at "go"
  refine ⟨by refine rwE (zX ..) ?_;simp;exact lin [_,_] [] (.v 0) (.k 99998) [(1,.l (.a (.v 1) (.a (.v 0) (.k 2))) (.k 900))] tT9 hl,Jz _ [] (by simp;exact lin [_,_] [] (.v 0) (.k 998) [(1,.l (.a (.v 1) (.a (.v 0) (.k 2))) (.k 900))] tT9 hl) ?_⟩
  simp only [zv,List.nil_append]
  walk_at "go"
  simp only [Qc]
  walk_at "go"
  simp only [List.map_map,Function.comp_def]
  refine hr.mono λ d σ' hd=>?_
  (refine Ea (hd) λ q7q=>?_;try clear hd;obtain rfl:=q7q;intro q8q;obtain rfl:=q8q)
  unfold stt at hq hm ⊢
  walk_at "go"
  refine hq.mono λ d σ' hd=>?_
  (refine Ea (hd) λ q10q=>?_;try clear hd;obtain rfl:=q10q;intro q11q;obtain rfl:=q11q)
  walk_at "go"
  refine hm _ ?_
  exact zE rfl q
end
theorem Js {fd:MO}{pt:D}{vars tolds:List PyData}{made:List (Ky×D)}{τ:zA}{x:MO}:(zB fd pt vars tolds made++(τ++[x]))[8 + τ.length]?=some x:=by
 (refine rwS (List.append_assoc ..) ?_;refine rwS (YM (fd:=fd) (pt:=pt) (vars:=vars) (tolds:=tolds) (made:=made)) ?_;refine rwE List.getElem?_concat_length ?_;rfl)
theorem xd {fd:MO}{pt:D}{vars tolds:List PyData}{made:List (Ky×D)}{τ:zA}{x y:MO}:(zB fd pt vars tolds made++(τ++[x])).set (8 + τ.length) y=zB fd pt vars tolds made++(τ++[y]):=by
 (refine rwS (List.append_assoc ..) ?_;refine rwS (YM (fd:=fd) (pt:=pt) (vars:=vars) (tolds:=tolds) (made:=made)) ?_;refine rwE (qM ..) ?_;refine rwE (List.append_assoc ..) ?_;rfl)
section
variable {C:Cx}{n:Nat}{fd:MO}{vars tolds:List PyData}{made:List (Ky×D)}{τ:zA}{Q:D->zA->Prop}
theorem zDq (L:Law1 C){xs:List PyData}(hx:xs.length<=1000)(q:Q (.p .none) (zB fd (.obj (8 + τ.length)) vars tolds made++(τ++[.lst (xs++[.bool false])]))) :
  SatCall C T1 (n + 1) 339 [.obj 2,.p (.bool false)] (zB fd (.obj (8 + τ.length)) vars tolds made++(τ++[.lst xs])) Q:=by
 refine zN L.Y L.TT L.note rfl ?_
 unfold UH
 walk_at "go"
 simp only [Js]
 walk_at "go"
 simp only [Js,xd]
 refine ⟨by exact Nat.le_trans hx (nB9 rfl),?_⟩
 walk_at "go"
 exact zE rfl q
theorem wk (L:Law1 C){nm:Str}{sp:PyData}{xs:List PyData}(hx:xs.length<=1000)(q:Q (.p (.int 0)) (zB fd (.obj (8 + τ.length)) vars tolds made++(τ++[.lst (xs++[.bool false])]))) :
  SatCall C T1 (n + 2) 384 [.obj 2,.p (.str nm),.p (.list []),.p sp] (zB fd (.obj (8 + τ.length)) vars tolds made++(τ++[.lst xs])) Q:=by
 refine zN L.Y L.TT L.extreme rfl ?_
 unfold qA
 walk_at "go"
 refine zDq L hx ?_
 walk_at "go"
 exact zE rfl q
theorem wf (L:Law1 C){nm:Str}{sp:PyData}{pt:D}{t:Th}(hc:-1000000<=cOf t/\cOf t<=1000000)(hl:(zD t).length<=50)(hs:YF 1 [] (zD t))(hm:(zk 1 [] (zD t)).length<64/\∀ x,x∈(zk 1 [] (zD t)).map (·.1)->-9223372036854775808<=x/\x<9223372036854775808)
  (q:Q (.p (enc (Jv (YD 1 [] (zD t)) (cOf t)))) (zB fd pt vars tolds made++τ)) :
  SatCall C T1 (n + 4) 384 [.obj 2,.p (.str nm),.p (.list [enc t]),.p sp] (zB fd pt vars tolds made++τ) Q:=by
 refine zN L.Y L.TT L.extreme rfl ?_
 unfold qA
 walk_at "go"
 have hp:SatCall C T1 (n + 3) 198 [.p (enc (.num 0)),.p (enc t),.p (.int 1)] (zB fd pt vars tolds made++τ) λ d σ'=>d=.p (enc (Jv (YD 1 [] (zD t)) (cOf t)))/\σ'=zB fd pt vars tolds made++τ:=by
  refine zCX L (t1:=.num 0) (by exact ⟨of_decide_eq_true rfl,Int.natCast_nonneg _⟩) ⟨hc,by have e:cOf (.num 0)=0:=rfl;refine rwE e ?_;lia⟩ (by simp [zD]) ⟨by simp [zD],by exact Nat.le_trans hl (nB9 rfl)⟩ hs hm ?_
  have e:cOf (.num 0)=0:=rfl
  have e':zD (.num 0)=[]:=rfl
  (refine rwE e ?_;refine rwE e' ?_;refine rwE (Int.zero_add ..) ?_;refine rwE (Int.one_mul ..) ?_)
  exact ⟨rfl,rfl⟩
 refine hp.mono λ d σ' hd=>?_
 (refine Ea (hd) λ q1q=>?_;try clear hd;obtain rfl:=q1q;intro q2q;obtain rfl:=q2q)
 exact zE rfl q
end
noncomputable def ZG (cells:List Int)(k:Nat):MO:=.rdict [(13,.p (.list (cells.map .int))),(14,.p (.int k))]
section
variable {C:Cx}{n:Nat}{fd:MO}{pt:D}{vars tolds:List PyData}{made:List (Ky×D)}{τ:zA}{Q:D->zA->Prop}
theorem qD (L:Law1 C){cells:List Int}{k:Nat}{m:Int}(hm:0<m/\m<=1000)(hk:k<=10000)(hl:cells.length<=100)(q:∀ v:Int,0<=v->v<m->Q (.p (.int v)) (zB (ZG cells (k + 1)) pt vars tolds made++τ)) :
  SatCall C T1 (n + 1) 494 [.obj 0,.p (.int m)] (zB (ZG cells k) pt vars tolds made++τ) Q:=by
 refine zN L.Y L.TT L.law_next rfl ?_
 unfold yR
 unfold ZG at *
 walk_at "go"
 simp only [List.length_map]
 have fin:∀ a:Int,qa (zB (ZG cells k) pt vars tolds made++τ) Q (.ret (.p (.int (a.fmod m)))) (zB (ZG cells (k + 1)) pt vars tolds made++τ):=λ a =>
  zE rfl (q _ (Int.fmod_nonneg_of_pos a hm.1) (Int.fmod_lt_of_pos a hm.1))
 unfold ZG at fin
 refine ⟨by exact Nat.le_trans hl (nB9 rfl),λ h=>?_,λ h=>?_⟩
 ·have hlt:k<cells.length:=by exact lin [_,_] [] (.a (.v 0) (.k 1)) (.v 1) [(1,.L (.a (.c (.v 0)) (.k 1)) (.c (.v 1)))] tT9 h
  have hg:(cells.map PyData.int)[k]?=some (.int cells[k]):=by (refine rwE List.getElem?_map ?_;refine rwE (List.getElem?_eq_getElem hlt) ?_);rfl
  refine ⟨⟨by exact Int.natCast_nonneg _,by lia⟩,?_⟩
  simp only [Option.bind_some,hg]
  exact ⟨wq (by exact ⟨hm.1,Int.le_trans hm.2 (oD9 rfl)⟩),fin _⟩
 ·refine ⟨zr (by exact ⟨Int.natCast_nonneg _,Int.natCast_nonneg _⟩),zr (by lia),wq (by exact ⟨Int.natCast_nonneg _,Int.natCast_nonneg _⟩),by exact Nat.le_trans hl (nB9 rfl),wq (by exact ⟨hm.1,Int.le_trans hm.2 (oD9 rfl)⟩),fin _⟩
theorem jq (L:Law1 C){σ:zA}{ps:List (Int×Int)}{c:Int}(q:Q (.p (.bool true)) σ):SatCall C T1 (n + 1) 515 [.p (enc (.sum ps c))] σ Q:=by
 refine zN L.Y L.TT L.law_is_number rfl ?_
 unfold Zd enc Zq
 walk_at "go"
 exact zE rfl q
theorem jm (L:Law1 C){σ:zA}{c:Int}(q:Q (.p (.bool true)) σ):SatCall C T1 (n + 1) 515 [.p (enc (.num c))] σ Q:=by
 refine zN L.Y L.TT L.law_is_number rfl ?_
 unfold Zd enc
 walk_at "go"
 exact zE rfl q
end
noncomputable def zK (row:List Int)(p:Int):Int:=row.getD p.toNat 0
noncomputable def jI (σ:zA)(d:D)(row:List Int):Prop:=d=.p (.list (row.map .int))∨∃ i,d=.obj i/\σ[i]?=some (.lst (row.map .int))
theorem Q3 {σ:zA}{d:D}{row:List Int}{p:Int}{Q:D->Prop}(h:jI σ d row)(hp:0<=p/\p<row.length)(hl:row.length<=10000)(q:Q (.p (.int (zK row p)))):Yw σ d (.p (.int p)) Q:=by
 (refine Ee (Int.eq_ofNat_of_zero_le hp.1) λ k q1q=>?_;obtain rfl:=q1q)
 have hlt:k<row.length:=by exact lin [_,_] [] (.a (.v 0) (.k 1)) (.v 1) [(1,.L (.a (.c (.v 0)) (.k 1)) (.c (.v 1)))] tT9 hp.2
 have hg:((idx (row.map PyData.int).length (k:Int)).bind λ j=>(row.map PyData.int)[j]?)=some (.int (zK row k)):=by
  refine rwE xg ?_
  simp only [Option.bind_some,List.getElem?_map,List.getElem?_eq_getElem hlt,Option.map_some,zK,Int.toNat_natCast,List.getD_eq_getElem?_getD,Option.getD_some]
 rcases h with rfl | ⟨i,rfl,e⟩
 ·exact ⟨⟨by exact of_decide_eq_true rfl,by lia⟩,.mk hg q⟩
 ·exact .mk (o:=σ[i]?) e ⟨⟨by exact of_decide_eq_true rfl,by lia⟩,.mk hg q⟩
noncomputable def dot (row:List Int):List (Int×Int)->List Int
 | []=>[]
 | z::r=>z.1 * zK row z.2::dot row r
theorem ug {row:List Int}:dot row []=[]:=rfl
theorem uY {row:List Int}{z:Int×Int}{r:List (Int×Int)}:dot row (z::r)=z.1 * zK row z.2::dot row r:=rfl
noncomputable def QM (zs:List (Int×Int))(r:Int):PyData:=.tuple [.str (Str.ofString "linear_eq"),.tuple (zs.map λ z=>.int z.1),.tuple (zs.map λ z=>.int z.2),.int r]
theorem XL:∀ zs:List (Int×Int),Uq (zs.map λ z=>PyData.int z.1) (zs.map λ z=>PyData.int z.2)=zL zs
 | []=>rfl
 | z::r=>by
  have:=XL r
  unfold zL Uq at *
  simp only [List.map_cons,List.zip_cons_cons,this]
noncomputable def ZOk (row:List Int)(zs:List (Int×Int)):Prop:=∀ z,z∈zs->(0<=z.2/\z.2<row.length)/\sm3 z.1/\(-1000000<=zK row z.2/\zK row z.2<=1000000)
section
variable {C:Cx}{n:Nat}{σ:zA}{Q:D->zA->Prop}
theorem Vz {row:List Int}{d0 d2 d3:Option D}{rd:D}{K:List PyData×zA->Prop}(hr:jI σ rd row)(hl:row.length<=10000):∀ (zs:List (Int×Int)) (acc:List PyData),acc.length + zs.length<=1000->ZOk row zs->K (acc++(dot row zs).map .int,σ) ->
  zJ (zF C T1 n (elW C T1 n (.bin .Mult (.nm 5) (.sub (.nm 1) (.nm 6)))) (.tup [(.nm 5),(.nm 6)]) [] [] [d0,some rd,d2,d3,none,none,none] none) (zL zs) (acc,σ) K:=by
 intro zs
 induction zs with
 | nil =>
  intro acc _ _ h
  simpa [ug,uY,zL,zw,zt] using h
 | cons z zs ih =>
  intro acc ha hz h
  simp only [List.length_cons] at ha
  refine Eaa (hz z (by simp)) λ z1 z2 z3=>?_
  show zF _ _ _ _ _ _ _ _ _ (PyData.tuple [.int z.1,.int z.2]) _ (λ a'=>zJ _ (zL zs) a' K)
  walk_at "go"
  refine Q3 hr z1 hl ?_
  walk_at "go"
  refine ⟨zr (by unfold sm3 at z2;exact ⟨Int.le_trans (oD9 rfl) z2.1,Int.le_trans z2.2 (oD9 rfl)⟩),zr z3,by exact lin [_,_] [] (.v 0) (.k 100000) [(1,.l (.a (.v 0) (.a (.v 1) (.k 1))) (.k 1000))] tT9 ha,ih _ (by simp;exact lin [_,_] [] (.a (.a (.v 0) (.k 1)) (.v 1)) (.k 1000) [(1,.l (.a (.v 0) (.a (.v 1) (.k 1))) (.k 1000))] tT9 ha) (λ y m=>hz y (by simp [m])) ?_⟩
  simpa [ug,uY] using h
theorem xU (L:Law1 C){row:List Int}{rd:D}{zs:List (Int×Int)}{r:Int}(hr:jI σ rd row)(hl:row.length<=10000)(hz:ZOk row zs)(hzl:zs.length<=100)(q:Q (.p (.bool ((dot row zs).sum==r))) σ) :
  SatCall C T1 (n + 1) 532 [.p (QM zs r),rd] σ Q:=by
 refine zN L.Y L.TT L.law_holds rfl ?_
 unfold qi QM
 walk_at "go"
 refine rwE (XL ..) ?_
 refine ⟨by refine rwE (zX ..) ?_;exact Nat.le_trans hzl (nB9 rfl),Vz hr hl zs [] (by simp;exact Nat.le_trans hzl (nB9 rfl)) hz ?_⟩
 simp only [zv,List.nil_append]
 walk_at "go"
 simp only [Ze]
 walk_at "go"
 refine zE rfl ?_
 have e:(((dot row zs).sum==r)==true)=((dot row zs).sum==r):=by cases ((dot row zs).sum==r) <;> rfl
 refine rwE e ?_;exact q
noncomputable def uS (mx:Bool)(vs:List Int)(j:Int):PyData:=.tuple [.str (z6 mx),.tuple (vs.map .int),.int j]
theorem XJ {row:List Int}{d0 d2 d3:Option D}{rd:D}{K:List PyData×zA->Prop}(hr:jI σ rd row)(hl:row.length<=10000):∀ (vs:List Int) (acc:List PyData),acc.length + vs.length<=1000->(∀ v,v∈vs->0<=v/\v<row.length)->K (acc++(vs.map (zK row)).map .int,σ) ->
  zJ (zF C T1 n (elW C T1 n (.sub (.nm 1) (.nm 5))) (.nm 5) [] [] [d0,some rd,d2,d3,none,none] none) (vs.map .int) (acc,σ) K:=by
 intro vs
 induction vs with
 | nil =>
  intro acc _ _ h
  simpa [zw,zt] using h
 | cons v vs ih =>
  intro acc ha hz h
  simp only [List.length_cons] at ha
  show zF _ _ _ _ _ _ _ _ _ (PyData.int v) _ (λ a'=>zJ _ (vs.map .int) a' K)
  walk_at "go"
  refine Q3 hr (hz v (by simp)) hl ?_
  walk_at "go"
  refine ⟨by exact lin [_,_] [] (.v 0) (.k 100000) [(1,.l (.a (.v 0) (.a (.v 1) (.k 1))) (.k 1000))] tT9 ha,ih _ (by simp;exact lin [_,_] [] (.a (.a (.v 0) (.k 1)) (.v 1)) (.k 1000) [(1,.l (.a (.v 0) (.a (.v 1) (.k 1))) (.k 1000))] tT9 ha) (λ y m=>hz y (by simp [m])) ?_⟩
  simpa using h
noncomputable def JA (mx:Bool)(l:List Int):Int:=if mx then l.getD (l.length - 1) 0 else l.getD 0 0
theorem xM (L:Law1 C){mx:Bool}{row:List Int}{rd:D}{vs:List Int}{j:Int}(hr:jI σ rd row)(hl:row.length<=10000)(hv:∀ v,v∈vs->0<=v/\v<row.length)(hj:0<=j/\j<row.length)(hvl:vs.length<64)(hne:vs≠[])
  (q:Q (.p (.bool (zK row j==JA mx (zg (vs.map (zK row)))))) σ):SatCall C T1 (n + 1) 532 [.p (uS mx vs j),rd] σ Q:=by
 refine zN L.Y L.TT L.law_holds rfl ?_
 have hsl:(zg (vs.map (zK row))).length=vs.length:=by (refine rwE ZT ?_;refine rwE (List.length_map ..) ?_;rfl)
 have hpos:0<(zg (vs.map (zK row))).length:=by refine rwE hsl ?_;exact List.length_pos_iff.mpr hne
 unfold qi uS
 cases mx with
 | true =>
  simp only [z6,if_true]
  walk_at "go"
  refine ⟨by simp;exact lin [_] [] (.v 0) (.k 100000) [(1,.l (.a (.v 0) (.k 1)) (.k 64))] tT9 hvl,XJ hr hl vs [] (by simp;exact lin [_] [] (.v 0) (.k 1000) [(1,.l (.a (.v 0) (.k 1)) (.k 64))] tT9 hvl) hv ?_⟩
  simp only [zv,List.nil_append]
  walk_at "st"
  refine rwE (Ze ..) ?_
  walk_at "st"
  refine ⟨by refine rwE (List.length_map ..) ?_;exact hvl,?_⟩
  refine zH ?_
  walk_at "st"
  refine Q3 hr hj hl ?_
  walk_at "go"
  generalize zg (vs.map (zK row))=S at *
  have hlt:S.length - 1<S.length:=Nat.sub_lt hpos Nat.one_pos
  have hm:(((S.map PyData.int).length:Nat):Int) - 1=((S.length - 1:Nat):Int):=by refine rwE (List.length_map ..) ?_;exact (Int.ofNat_sub hpos).symm
  (refine rwE hm ?_;refine rwE xg ?_)
  simp only [zFq,List.getElem?_map,List.getElem?_eq_getElem hlt,Option.map_some]
  walk_at "st"
  refine ⟨by exact lin [_,_,_,_] [] (.v 0) (.k 100000) [(1,.l (.a (.v 1) (.k 1)) (.k 64)),(1,.e (.v 2) (.v 1)),(1,.l (.a (.v 3) (.k 1)) (.v 2)),(1,.E (.s (.c (.v 0)) (.k 1)) (.c (.v 3)))] tT9 hvl hsl hlt hm,⟨by exact of_decide_eq_true rfl,by lia⟩,zE rfl ?_⟩
  simpa [JA,List.getD_eq_getElem?_getD,List.getElem?_eq_getElem hlt] using q
 | false =>
  simp only [z6,Bool.false_eq_true,if_false]
  walk_at "go"
  refine ⟨by simp;exact lin [_] [] (.v 0) (.k 100000) [(1,.l (.a (.v 0) (.k 1)) (.k 64))] tT9 hvl,XJ hr hl vs [] (by simp;exact lin [_] [] (.v 0) (.k 1000) [(1,.l (.a (.v 0) (.k 1)) (.k 64))] tT9 hvl) hv ?_⟩
  simp only [zv,List.nil_append]
  walk_at "st"
  refine rwE (Ze ..) ?_
  walk_at "st"
  refine ⟨by refine rwE (List.length_map ..) ?_;exact hvl,?_⟩
  refine zH ?_
  walk_at "st"
  refine Q3 hr hj hl ?_
  walk_at "go"
  generalize zg (vs.map (zK row))=S at *
  have hlt:0<S.length:=by exact hpos
  simp only [List.getElem?_map,List.getElem?_eq_getElem hlt,Option.map_some]
  walk_at "st"
  refine zE rfl ?_
  simpa [JA,List.getD_eq_getElem?_getD,List.getElem?_eq_getElem hlt] using q
end
noncomputable def Zp (row:List Int):List (Int×Int)->List Int
 | []=>[]
 | p::r=>p.2 * zK row p.1::Zp row r
theorem Zg {row:List Int}:Zp row []=[]:=rfl
theorem Zf {row:List Int}{p:Int×Int}{r:List (Int×Int)}:Zp row (p::r)=p.2 * zK row p.1::Zp row r:=rfl
noncomputable def POk (row:List Int)(ps:List (Int×Int)):Prop:=∀ p,p∈ps->(0<=p.1/\p.1<row.length)/\sm3 p.2/\(-1000000<=zK row p.1/\zK row p.1<=1000000)
section
variable {C:Cx}{n:Nat}{σ:zA}{Q:D->zA->Prop}
theorem W4 {row:List Int}{d0:Option D}{rd:D}{K:List PyData×zA->Prop}(hr:jI σ rd row)(hl:row.length<=10000):∀ (ps:List (Int×Int)) (acc:List PyData),acc.length + ps.length<=1000->POk row ps->K (acc++(Zp row ps).map .int,σ) ->
  zJ (zF C T1 n (elW C T1 n (.bin .Mult (.nm 4) (.sub (.nm 1) (.nm 3)))) (.tup [(.nm 3),(.nm 4)]) [] [] [d0,some rd,none,none,none] none) (zL ps) (acc,σ) K:=by
 intro ps
 induction ps with
 | nil =>
  intro acc _ _ h
  simpa [Zg,Zf,zL,zw,zt] using h
 | cons z zs ih =>
  intro acc ha hz h
  simp only [List.length_cons] at ha
  refine Eaa (hz z (by simp)) λ z1 z2 z3=>?_
  show zF _ _ _ _ _ _ _ _ _ (PyData.tuple [.int z.1,.int z.2]) _ (λ a'=>zJ _ (zL zs) a' K)
  walk_at "go"
  refine Q3 hr z1 hl ?_
  walk_at "go"
  refine ⟨zr (by unfold sm3 at z2;exact ⟨Int.le_trans (oD9 rfl) z2.1,Int.le_trans z2.2 (oD9 rfl)⟩),zr z3,by exact lin [_,_] [] (.v 0) (.k 100000) [(1,.l (.a (.v 0) (.a (.v 1) (.k 1))) (.k 1000))] tT9 ha,ih _ (by simp;exact lin [_,_] [] (.a (.a (.v 0) (.k 1)) (.v 1)) (.k 1000) [(1,.l (.a (.v 0) (.a (.v 1) (.k 1))) (.k 1000))] tT9 ha) (λ y m=>hz y (by simp [m])) ?_⟩
  simpa [Zg,Zf] using h
theorem xL (L:Law1 C){rd:D}{c:Int}(q:Q (.p (.int c)) σ):SatCall C T1 (n + 1) 520 [.p (enc (.num c)),rd] σ Q:=by
 refine zN L.Y L.TT L.law_worth rfl ?_
 unfold qj enc
 walk_at "go"
 exact zE rfl q
theorem xI (L:Law1 C){row:List Int}{rd:D}{ps:List (Int×Int)}{c:Int}(hr:jI σ rd row)(hl:row.length<=10000)(hz:POk row ps)(hzl:ps.length<=100)(q:Q (.p (.int (c + (Zp row ps).sum))) σ):SatCall C T1 (n + 1) 520 [.p (enc (.sum ps c)),rd] σ Q:=by
 refine zN L.Y L.TT L.law_worth rfl ?_
 unfold qj enc Zq
 walk_at "go"
 refine ⟨by refine rwE (zX ..) ?_;exact Nat.le_trans hzl (nB9 rfl),W4 hr hl ps [] (by simp;exact Nat.le_trans hzl (nB9 rfl)) hz ?_⟩
 simp only [zv,List.nil_append]
 walk_at "go"
 simp only [Ze]
 walk_at "go"
 exact zE rfl q
theorem xD (L:Law1 C){zs:List (Int×Int)}{r:Int}(q:Q (.p (.tuple (zs.map λ z=>.int z.2))) σ):SatCall C T1 (n + 1) 527 [.p (QM zs r)] σ Q:=by
 refine zN L.Y L.TT L.law_about rfl ?_
 unfold qk QM
 walk_at "go"
 exact zE rfl q
theorem xY (L:Law1 C){mx:Bool}{vs:List Int}{j:Int}(hl:vs.length<=1000)(q:Q (.p (.tuple (vs.map .int++[.int j]))) σ):SatCall C T1 (n + 1) 527 [.p (uS mx vs j)] σ Q:=by
 refine zN L.Y L.TT L.law_about rfl ?_
 unfold qk uS
 cases mx with
 | true =>
  simp only [z6,if_true]
  walk_at "go"
  refine ⟨by simp;exact Nat.le_trans hl (nB9 rfl),zE rfl q⟩
 | false =>
  simp only [z6,Bool.false_eq_true,if_false]
  walk_at "go"
  refine ⟨by simp;exact Nat.le_trans hl (nB9 rfl),zE rfl q⟩
noncomputable def zM (k:Int):List (Th×List Int):=[(.bit 2 true,[0,0,1,0]),(.bit 2 false,[0,0,-1,1]),(.tru true,[0,0,0,1]),(.tru false,[0,0,0,0]),(.num k,[0,0,0,k]),(.sum [(0,1)] 0,[1,0,0,0]),(.sum [(1,1)] 0,[0,1,0,0]),(.sum [(0,1),(1,-1)] 1,[1,-1,0,1]),(.sum [(0,-1)] 2,[-1,0,0,2]),(.sum [(1,1),(2,2)] 0,[0,1,2,0])]
noncomputable def ZO (l:List (Th×List Int)):List PyData:=l.map λ p=>.tuple [enc p.1,.tuple (p.2.map .int)]
theorem vm (L:Law1 C){k:Int}(q:Q (.p (.list (ZO (zM k)))) σ):SatCall C T1 (n + 1) 501 [.p (.int k)] σ Q:=by
 refine zN L.Y L.TT L.law_things rfl ?_
 unfold QR
 walk_at "go"
 exact zE rfl q
end
theorem UD {src:Option (Nat×List PyData)}{σ:zA}{K:Prop}(h:zZ src σ True)(k:K):zZ src σ K:=by
 cases src with
 | none=>exact k
 | some p=>exact ⟨h.1,k⟩
section
variable {C:Cx}{n:Nat}{σ:zA}{Q:D->zA->Prop}
theorem zEu {row:List Int}{w:Int}{H:PyData->Bool}{ir:Nat}{src:Option (Nat×List PyData)}{d0 d1 d3 d4 d5 d6:Option D}{K:List PyData×zA->Prop}(hrow:σ[ir]?=some (.lst (row.map .int)))(hl:row.length<=1000)(hs:zZ src σ True) :
  ∀ (tl acc:List PyData),acc.length + tl.length<=10000->(∀ told,told∈tl->∀ Q:D->zA->Prop,Q (.p (.bool (H told))) σ->SatCall C T1 n 532 [.p told,.p (.list ((row++[w]).map .int))] σ Q) ->
  K (acc++tl.filter λ t=>!H t,σ) ->
  zJ (zF C T1 n (elW C T1 n (.nm 9)) (.nm 9) [(.not (.call false (.gl 31) [(.nm 9),(.bin .Add (.nm 2) (.lst false [(.nm 7)]))]))] [] [d0,d1,some (.obj ir),d3,d4,d5,d6,some (.p (.int w)),none,none] src) tl (acc,σ) K:=by
 intro tl
 induction tl with
 | nil =>
  intro acc _ _ h
  simpa [zw,zt] using h
 | cons told tl ih =>
  intro acc ha hh h
  simp only [List.length_cons] at ha
  show zF _ _ _ _ _ _ _ _ _ told _ (λ a'=>zJ _ tl a' K)
  walk_at "go"
  simp only [hrow]
  walk_at "go"
  refine ⟨by simp;exact Nat.le_trans hl (nB9 rfl),?_⟩
  have hh1:=hh told (by simp)
  rw [List.map_append] at hh1
  refine hh1 _ ?_
  have again:∀ acc',acc'.length + tl.length<=10000->K (acc'++tl.filter λ t=>!H t,σ)->zJ (zF C T1 n (elW C T1 n (.nm 9)) (.nm 9) [(.not (.call false (.gl 31) [(.nm 9),(.bin .Add (.nm 2) (.lst false [(.nm 7)]))]))] [] [d0,d1,some (.obj ir),d3,d4,d5,d6,some (.p (.int w)),none,none] src) tl (acc',σ) K:=λ acc' h1 h2 =>
   ih acc' h1 (λ t m=>hh t (by simp [m])) h2
  cases hb:H told with
  | true =>
   walk_at "go"
   exact UD hs (again acc (by exact Nat.le_of_lt ha) (by simpa [hb] using h))
  | false =>
   walk_at "go"
   exact ⟨by exact lin [_,_] [] (.v 0) (.k 100000) [(1,.l (.a (.v 0) (.a (.v 1) (.k 1))) (.k 10000))] tT9 ha,UD hs (again _ (by simp;exact lin [_,_] [] (.a (.a (.v 0) (.k 1)) (.v 1)) (.k 10000) [(1,.l (.a (.v 0) (.a (.v 1) (.k 1))) (.k 10000))] tT9 ha) (by simpa [hb] using h))⟩
end
section
variable {C:Cx}{n:Nat}{fd:MO}{pt:D}{vars tolds:List PyData}{made:List (Ky×D)}{τ:zA}{Q:D->zA->Prop}
theorem wJ (L:Law1 C){row:List Int}{es:List (Int×D)}(hes:zS (-1) es=none/\zS 0 es=none/\zS 1 es=none/\zS 2 es=none)(hrl:row.length<=1000)(hv:vars.length<=1000)
  (h:wpSs C T1 n (b_law_whole.drop 2) [some (.obj 4),some (.obj 8),some (.obj ((zB fd pt vars tolds made++.idict es::τ).length)),none,none,none,none,none] (zB fd pt vars tolds made++.idict es::τ++[.lst (row.map .int)]) λ fl _ σ'=>qa (zB fd pt vars tolds made++.idict es::τ) Q fl σ') :
  SatCall C T1 (n + 1) 537 [.obj 4,.obj 8,.p (.list (row.map .int))] (zB fd pt vars tolds made++.idict es::τ) Q:=by
 refine zN L.Y L.TT L.law_whole rfl ?_
 unfold b_law_whole at *
 simp only [List.drop] at h
 have h8:(zB fd pt vars tolds made++.idict es::τ++[.lst (row.map .int)])[8]?=some (.idict es):=rfl
 walk_at "go"
 refine ⟨by simp;exact Nat.le_trans hrl (nB9 rfl),?_⟩
 have one:∀ (p:Int) (K:List PyData×zA->Prop) (acc:List PyData) (d0 d2 d3 d4 d5 d6 d7:Option D),zS p es=none->K (acc,zB fd pt vars tolds made++.idict es::τ++[.lst (row.map .int)]) ->
   zF C T1 n (elW C T1 n (.nm 10)) (.nm 9) [] [.mk (.nm 10) (.meth (.nm 1) 1 [.nm 9,.lst false []]) [.not (.call false (.gl 31) [.nm 10,.nm 2])]] [d0,some (.obj 8),d2,d3,d4,d5,d6,d7,none,none,none] none (.int p) (acc,zB fd pt vars tolds made++.idict es::τ++[.lst (row.map .int)]) K:=λ p K acc d0 d2 d3 d4 d5 d6 d7 hp k=>by
  walk_at "go"
  simp only [h8]
  walk_at "go"
  simp only [hp,Option.getD_none]
  walk_at "go"
  exact k
 refine zH ?_
 walk_at "st"
 refine ZL ?_
 refine one _ _ _ _ _ _ _ _ _ _ hes.1 ?_
 refine ZL ?_
 refine one _ _ _ _ _ _ _ _ _ _ hes.2.1 ?_
 refine ZL ?_
 refine one _ _ _ _ _ _ _ _ _ _ hes.2.2.1 ?_
 refine ZL ?_
 refine one _ _ _ _ _ _ _ _ _ _ hes.2.2.2 ?_
 refine y9 ?_
 unfold zv
 walk_at "st"
 exact h
end
noncomputable def LateAt (σ:zA)(es:List (Int×D))(p:Int)(tl:List PyData):Prop:=(zS p es=none/\tl=[])∨∃ i,zS p es=some (.obj i)/\σ[i]?=some (.lst tl)
noncomputable def XZ:Ex:=.comp false 2 (.nm 9) (.nm 9) (.meth (.nm 1) 1 [.nm 3,.lst false []]) [.not (.call false (.gl 31) [.nm 9,.bin .Add (.nm 2) (.lst false [.nm 7])])] []
section
variable {C:Cx}{n:Nat}{σ:zA}{Q:D->zA->Prop}
theorem zD1 {row:List Int}{w p:Int}{H:PyData->Bool}{ir:Nat}{es:List (Int×D)}{tl:List PyData}{d0 d4 d5 d6:Option D}(hrow:σ[ir]?=some (.lst (row.map .int)))(hl:row.length<=1000)(h8:σ[8]?=some (.idict es))(hlate:LateAt σ es p tl)(htl:tl.length<=1000)
  (hh:∀ told,told∈tl->∀ Q:D->zA->Prop,Q (.p (.bool (H told))) σ->SatCall C T1 n 532 [.p told,.p (.list ((row++[w]).map .int))] σ Q)
  (q:Q (.p (.list (tl.filter λ t=>!H t))) σ):wpE C T1 n XZ [d0,some (.obj 8),some (.obj ir),some (.p (.int p)),d4,d5,d6,some (.p (.int w))] σ Q:=by
 unfold XZ
 walk_at "st"
 simp only [h8]
 walk_at "st"
 rcases hlate with ⟨h1,rfl⟩ | ⟨i,h1,h2⟩
 ·simp only [h1,Option.getD_none]
  walk_at "st"
  exact q
 ·simp only [h1,Option.getD_some]
  walk_at "st"
  simp only [h2]
  walk_at "st"
  exact ⟨by exact Nat.le_trans htl (nB9 rfl),zEu (src:=some (i,tl)) hrow hl ⟨h2,trivial⟩ tl [] (by simp;exact Nat.le_trans htl (nB9 rfl)) hh (show Q (.p (.list ([]++tl.filter λ t=>!H t))) σ from q)⟩
theorem LateAt.app {es:List (Int×D)}{p:Int}{tl:List PyData}{x:MO}(h:LateAt σ es p tl):LateAt (σ++[x]) es p tl:=by
 rcases h with h | ⟨i,h1,h2⟩
 ·exact .inl h
 ·exact .inr ⟨i,h1,by refine rwE (List.getElem?_append_left (List.getElem?_eq_some_iff.mp h2).1) ?_;exact h2⟩
noncomputable def W5:List St:=[.ite (.cmp XZ .Eq (.lst false [])) [.expr (.meth (.nm 4) 0 [.nm 7])] []]
theorem wP {P:Int->Prop}{row:List Int}{p:Int}{H:Int->PyData->Bool}{ir:Nat}{es:List (Int×D)}{tl:List PyData}{d0 d5 d6:Option D}{S:Fl->Rho->zA->Prop}{K:Rho×zA->Prop}(hrow:σ[ir]?=some (.lst (row.map .int)))(hl:row.length<=1000)(h8:σ[8]?=some (.idict es))(hlate:LateAt σ es p tl)(htl:tl.length<=1000)
  (hh:∀ (w:Int) (acc:List PyData) (told:PyData),P w->told∈tl->∀ Q:D->zA->Prop,Q (.p (.bool (H w told))) (σ++[.lst acc])->SatCall C T1 n 532 [.p told,.p (.list ((row++[w]).map .int))] (σ++[.lst acc]) Q) :
  ∀ (ws:List Int) (acc:List PyData) (u7:Option D),(∀ w,w∈ws->P w)->acc.length + ws.length<=10000 ->
  (∀ v7,K ([d0,some (.obj 8),some (.obj ir),some (.p (.int p)),some (.obj σ.length),d5,d6,v7],σ++[.lst (acc++(ws.filter λ w=>tl.all (H w)).map .int)])) ->
  zJ (za C T1 n (.nm 7) W5 none S) (ws.map .int) ([d0,some (.obj 8),some (.obj ir),some (.p (.int p)),some (.obj σ.length),d5,d6,u7],σ++[.lst acc]) K:=by
 intro ws
 induction ws with
 | nil =>
  intro acc u7 _ _ h
  simpa [zw,zt] using h u7
 | cons w ws ih =>
  intro acc u7 hP ha h
  simp only [List.length_cons] at ha
  show za _ _ _ _ _ _ _ (PyData.int w) _ (λ a'=>zJ _ (ws.map .int) a' K)
  have hir:(σ++[MO.lst acc])[ir]?=some (.lst (row.map .int)):=by refine rwE (List.getElem?_append_left (List.getElem?_eq_some_iff.mp hrow).1) ?_;exact hrow
  have hi8:(σ++[MO.lst acc])[8]?=some (.idict es):=by refine rwE (List.getElem?_append_left (List.getElem?_eq_some_iff.mp h8).1) ?_;exact h8
  walk_at "ds"
  unfold W5
  refine zH ?_
  (refine rwE zEc ?_;refine rwE zEx ?_)
  refine zD1 (H:=H w) hir hl hi8 hlate.app htl (λ told m=>hh w acc told (hP w (by simp)) m) ?_
  by_cases hw:tl.all (H w)=true
  ·have hf:(tl.filter λ t=>!H w t)=[]:=by
    rw [List.filter_eq_nil_iff]
    intro t m
    have:=List.all_eq_true.mp hw t m
    simp [this]
   refine rwE hf ?_
   walk_at "go"
   refine ⟨by exact lin [_,_] [] (.v 0) (.k 100000) [(1,.l (.a (.v 0) (.a (.v 1) (.k 1))) (.k 10000))] tT9 ha,?_⟩
   refine ih _ _ (λ v m=>hP v (by simp [m])) (by simp;exact lin [_,_] [] (.a (.a (.v 0) (.k 1)) (.v 1)) (.k 10000) [(1,.l (.a (.v 0) (.a (.v 1) (.k 1))) (.k 10000))] tT9 ha) λ v7=>?_
   have:=h v7
   simpa [hw] using this
  ·have hw':tl.all (H w)=false:=by simpa using hw
   obtain ⟨t,m,ht⟩:∃ t,t∈tl/\H w t=false:=by
    rw [List.all_eq_false] at hw'
    (refine Eea (hw') λ t m ht=>?_;try clear hw')
    exact ⟨t,m,by simpa using ht⟩
   have hne:(tl.filter λ t=>!H w t)≠[]:=λ e=>by
    have:=List.filter_eq_nil_iff.mp e t m
    simp [ht] at this
   refine Eee (List.exists_cons_of_ne_nil hne) λ y ys hy=>?_
   refine rwE hy ?_
   walk_at "go"
   refine ih acc _ (λ v m=>hP v (by simp [m])) (by exact Nat.le_of_lt ha) λ v7=>?_
   have:=h v7
   simpa [hw'] using this
end
noncomputable def rng (lo hi:Int):List Int:=(List.range (hi + 1 - lo).toNat).map λ (j:Nat)=>lo + j
theorem zBT {lo hi w:Int}(m:w∈rng lo hi):lo<=w/\w<=hi :=
 Eea (List.mem_map.mp m) λ j hj e=>e▸⟨Int.le_add_of_nonneg_right (Int.natCast_nonneg j),Int.lt_add_one_iff.mp (Int.add_lt_of_lt_sub_left (Int.lt_toNat.mp (List.mem_range.mp hj)))⟩
theorem zBS (lo hi:Int):QH lo (hi + 1)=(rng lo hi).map .int:=by simp [rng,QH]
noncomputable def zG3:List St:=[.asg (.pt (.nm 4)) (.lst true []),.for (.tup [.nm 5,.nm 6]) (.meth (.attr (.nm 0) 0) 0 []) []]
section
variable {C:Cx}{n:Nat}{fd:MO}{pt:D}{vars tolds:List PyData}{made:List (Ky×D)}{τ ex:zA}{Q:D->zA->Prop}
theorem XT (L:Law1 C){row:List Int}{j:Nat}{nm:PyData}{lo hi w:Int}{H:Int->PyData->Bool}{es:List (Int×D)}{tl:List PyData}{u3 u4 u5 u6 u7:Option D}{S:Fl->Rho->zA->Prop}{K:Rho×zA->Prop}{body:List St}(hb:∃ it,b_law_whole=(b_law_whole.take 2)++[.for (.nm 3) it body]++b_law_whole.drop 3)
  (hj:j<=1000) (hv:vars[j]?=some (.tuple [nm,z5 lo hi])) (hlo:-1000000<=lo/\lo<=1000000) (hhi:-1000000<=hi/\hi<=1000000) (hsz:hi - lo<=1000) (hl:row.length<=900) (htl:tl.length<=1000)
  (hlate:LateAt (zB fd pt vars tolds made++.idict es::τ++[.lst (row.map .int)]++ex) es j tl)
  (hh:∀ (w:Int) (acc:List PyData) (told:PyData),lo<=w/\w<=hi->told∈tl->∀ Q:D->zA->Prop,Q (.p (.bool (H w told))) (zB fd pt vars tolds made++.idict es::τ++[.lst (row.map .int)]++ex++[.lst acc])->SatCall C T1 (n + 1) 532 [.p told,.p (.list ((row++[w]).map .int))] (zB fd pt vars tolds made++.idict es::τ++[.lst (row.map .int)]++ex++[.lst acc]) Q)
  (hw:(rng lo hi).filter (λ w=>tl.all (H w))=[w])
  (k:∀ v3 v4 v5 v6 v7,K ([some (.obj 4),some (.obj 8),some (.obj (zB fd pt vars tolds made++.idict es::τ).length),v3,v4,v5,v6,v7],zB fd pt vars tolds made++.idict es::τ++[.lst ((row++[w]).map .int)]++(ex++[.lst [.int w]]))) :
  za C T1 (n + 1) (.nm 3) body none S (.int j) ([some (.obj 4),some (.obj 8),some (.obj (zB fd pt vars tolds made++.idict es::τ).length),u3,u4,u5,u6,u7],zB fd pt vars tolds made++.idict es::τ++[.lst (row.map .int)]++ex) K:=by
 refine Ee (hb) λ it hb=>?_
 unfold b_law_whole at hb
 simp only [List.take,List.drop,List.cons_append,List.nil_append] at hb
 cases hb
 walk_at "st"
 refine zH ?_
 walk_at "st"
 refine zH ?_
 walk_at "st"
 generalize hσ:zB fd pt vars tolds made++.idict es::τ++[.lst (row.map .int)]++ex=σ0 at *
 have e4:∀ x:MO,σ0++[x]=zB fd pt vars tolds made++(.idict es::τ++[.lst (row.map .int)]++ex++[x]):=λ x=>by refine rwS (hσ) ?_;simp only [List.append_assoc]
 have hd:SatCall C T1 (n + 1) 165 [.obj 4,.p (.int j)] (σ0++[.lst []]) λ d σ'=>d=.p (z5 lo hi)/\σ'=σ0++[.lst []]:=by
  refine rwE (e4 ..) ?_;exact Qk L (by exact Nat.le_trans hj (nB9 rfl)) hv ⟨rfl,rfl⟩
 have h4:(σ0++[MO.lst []])[4]?=some (.inst 168 3):=by refine rwE (e4 ..) ?_;exact zEW
 have h3:(σ0++[MO.lst []])[3]?=some (.sdict [(6,.obj 5),(7,.obj 6),(8,JE),(9,.p (.tuple []))]):=by refine rwE (e4 ..) ?_;exact zFl
 simp only [h4,h3]
 walk_at "st"
 refine hd.mono λ d σ' he=>?_
 (refine Ea (he) λ q2q=>?_;try clear he;obtain rfl:=q2q;intro q3q;obtain rfl:=q3q)
 unfold z5
 walk_at "st"
 refine ZL ?_
 walk_at "st"
 refine zH ?_
 walk_at "st"
 refine rwE (zBS ..) ?_
 have hrl:(rng lo hi).length<=1001:=by simp [rng];exact liZ [] [_,_] (.s (.a (.v 0) (.k 1)) (.v 1)) (.k 1001) [(1,.L (.s (.v 0) (.v 1)) (.k 1000))] tT9 hsz
 have hrow:σ0[(zB fd pt vars tolds made++.idict es::τ).length]?=some (.lst (row.map .int)):=by
  (refine rwS (hσ) ?_;refine rwE (List.getElem?_append_left (by simp)) ?_;refine rwE List.getElem?_concat_length ?_;rfl)
 have h8:σ0[8]?=some (.idict es):=by refine rwS (hσ) ?_;rfl
 refine ⟨⟨by exact Int.le_trans (oD9 rfl) hlo.1,by exact Int.lt_of_le_of_lt hlo.2 (oD9 rfl),by lia,by exact liZ [] [_] (.a (.a (.v 0) (.k 1)) (.k 1)) (.k 4611686018427387904) [(1,.L (.v 0) (.k 1000000))] tT9 hhi.2⟩,by refine rwE (List.length_map ..) ?_;exact Nat.le_trans hrl (nB9 rfl),?_⟩
 refine wP (P:=λ w=>lo<=w/\w<=hi) hrow (by exact Nat.le_trans hl (nB9 rfl)) h8 hlate htl hh _ [] _ (λ w m=>?_) (by simp;exact Nat.le_trans hrl (nB9 rfl)) λ v7=>?_
 ·exact zBT m
 refine rwE hw ?_
 refine y9 ?_
 walk_at "st"
 refine zH ?_
 walk_at "st"
 refine zH ?_
 have hrow':(σ0++[MO.lst [.int w]])[(zB fd pt vars tolds made++.idict es::τ).length]?=some (.lst (row.map .int)):=by
  refine rwE (List.getElem?_append_left (List.getElem?_eq_some_iff.mp hrow).1) ?_;exact hrow
 walk_at "st"
 simp only [hrow']
 try walk_at "st"
 refine ⟨by refine rwE (List.length_map ..) ?_;exact Nat.le_trans hl (nB9 rfl),?_⟩
 have hset:∀ (A ex:zA) (r x y:MO),(A++[r]++ex++[x]).set A.length y=A++[y]++(ex++[x]):=λ A ex r x y=>by
  (refine rwE (List.append_assoc ..) ?_;refine rwE (List.append_assoc ..) ?_;refine rwE (List.set_append_right _ _ (Nat.le_refl _)) ?_;refine rwE (Nat.sub_self ..) ?_)
  simp
 (refine rwS (hσ) ?_;refine rwE (hset ..) ?_)
 have:=k (some (.p (.int j))) (some (.obj σ0.length)) (some (.p (.int lo))) (some (.p (.int hi))) v7
 refine rwE (hσ) ?_
 simpa using this
end
theorem zDn (a b:Int):(if b<a then b else a)<=a/\(if b<a then b else a)<=b/\((if b<a then b else a)=a∨(if b<a then b else a)=b):=by
 split
 ·next h=>exact ⟨Int.le_of_lt h,Int.le_refl _,.inr rfl⟩
 ·next h=>exact ⟨Int.le_refl _,Int.not_lt.mp h,.inl rfl⟩
theorem zD6 (a b:Int):a<=(if a<b then b else a)/\b<=(if a<b then b else a)/\((if a<b then b else a)=a∨(if a<b then b else a)=b):=by
 split
 ·next h=>exact ⟨Int.le_of_lt h,Int.le_refl _,.inr rfl⟩
 ·next h=>exact ⟨Int.le_refl _,Int.not_lt.mp h,.inl rfl⟩
theorem Qf:∀ (r:List Int) (a:Int),(∀ x,x∈a::r->ZC a r<=x)/\ZC a r∈a::r:=by
 intro r
 induction r with
 | nil =>
  intro a
  simp [y1,YR]
 | cons b r ih =>
  intro a
  obtain ⟨c,hc,e⟩:∃ c,(c<=a/\c<=b/\(c=a∨c=b))/\(if b<a then b else a)=c:=⟨_,zDn a b,rfl⟩
  refine Ea (ih c) λ h1 h2=>?_
  simp only [y1,YR,e]
  have h0:=h1 _ (List.mem_cons_self ..)
  constructor
  ·intro x hx
   rcases List.mem_cons.mp hx with rfl | hx
   ·exact liZ [] [_,_,_] (.v 0) (.v 1) [(1,.L (.v 0) (.v 2)),(1,.L (.v 2) (.v 1))] tT9 h0 hc.1
   ·rcases List.mem_cons.mp hx with rfl | hx
    ·exact liZ [] [_,_,_] (.v 0) (.v 1) [(1,.L (.v 0) (.v 2)),(1,.L (.v 2) (.v 1))] tT9 h0 hc.2.1
    ·exact h1 x (by simp [hx])
  ·rcases List.mem_cons.mp h2 with h | h
   ·refine rwE h ?_;rcases hc.2.2 with rfl | rfl <;> simp
   ·simp [h]
theorem qq:∀ (r:List Int) (a:Int),(∀ x,x∈a::r->x<=zu a r)/\zu a r∈a::r:=by
 intro r
 induction r with
 | nil =>
  intro a
  simp [Qz,Q7]
 | cons b r ih =>
  intro a
  obtain ⟨c,hc,e⟩:∃ c,(a<=c/\b<=c/\(c=a∨c=b))/\(if a<b then b else a)=c:=⟨_,zD6 a b,rfl⟩
  refine Ea (ih c) λ h1 h2=>?_
  simp only [Qz,Q7,e]
  have h0:=h1 _ (List.mem_cons_self ..)
  constructor
  ·intro x hx
   rcases List.mem_cons.mp hx with rfl | hx
   ·exact liZ [] [_,_,_] (.v 0) (.v 1) [(1,.L (.v 2) (.v 1)),(1,.L (.v 0) (.v 2))] tT9 h0 hc.1
   ·rcases List.mem_cons.mp hx with rfl | hx
    ·exact liZ [] [_,_,_] (.v 0) (.v 1) [(1,.L (.v 2) (.v 1)),(1,.L (.v 0) (.v 2))] tT9 h0 hc.2.1
    ·exact h1 x (by simp [hx])
  ·rcases List.mem_cons.mp h2 with h | h
   ·refine rwE h ?_;rcases hc.2.2 with rfl | rfl <;> simp
   ·simp [h]
theorem UF:∀ (mx:Bool) (l:List Int),l≠[]->JA mx (zg l)=zP mx l
 | mx,[],h=>absurd rfl h
 | mx,a::r,_=>by
  have hs:=Qa (a::r)
  have hm:∀ x,x∈zg (a::r) ↔ x∈a::r:=λ x=>mem_sortI
  have hl:0<(zg (a::r)).length:=by refine rwE ZT ?_;simp
  generalize zg (a::r)=S at *
  unfold JA zP
  cases mx with
  | true =>
   simp only [if_true]
   have hlt:S.length - 1<S.length:=Nat.sub_lt hl Nat.one_pos
   (refine rwE List.getD_eq_getElem?_getD ?_;refine rwE (List.getElem?_eq_getElem hlt) ?_;refine rwE Option.getD_some ?_)
   have h1:=(qq r a).1 _ ((hm _).mp (List.getElem_mem hlt))
   obtain ⟨i,hi,he⟩:=List.getElem_of_mem ((hm _).mpr (qq r a).2)
   rcases Nat.lt_or_ge i (S.length - 1) with h | h
   ·have:=List.pairwise_iff_getElem.mp hs i (S.length - 1) hi hlt h
    exact Int.le_antisymm h1 (Int.le_trans (Int.le_of_eq he.symm) this)
   ·have:i=S.length - 1:=Nat.le_antisymm (Nat.le_sub_one_of_lt hi) h
    subst this;exact he
  | false =>
   simp only [Bool.false_eq_true,if_false]
   (refine rwE List.getD_eq_getElem?_getD ?_;refine rwE (List.getElem?_eq_getElem hl) ?_;refine rwE Option.getD_some ?_)
   have h1:=(Qf r a).1 _ ((hm _).mp (List.getElem_mem hl))
   obtain ⟨i,hi,he⟩:=List.getElem_of_mem ((hm _).mpr (Qf r a).2)
   rcases Nat.lt_or_ge 0 i with h | h
   ·have:=List.pairwise_iff_getElem.mp hs 0 i hl hi h
    exact Int.le_antisymm (liZ [] [_,_,_] (.v 0) (.v 1) [(1,.E (.v 2) (.v 1)),(1,.L (.v 0) (.v 2))] tT9 he this) (h1)
   ·have:i=0:=by exact Nat.le_antisymm (h) (Nat.zero_le _)
    subst this;exact he
theorem y7 {row:List Int}{w p:Int}(h:0<=p/\p<row.length):zK (row++[w]) p=zK row p:=by
 unfold zK
 (refine rwE List.getD_eq_getElem?_getD ?_;refine rwE List.getD_eq_getElem?_getD ?_;refine rwE (List.getElem?_append_left (by exact lin [p.toNat,row.length] [p] (.a (.v 0) (.k 1)) (.v 1) [(1,.L (.a (.v 0) (.k 1)) (.c (.v 1))),(1,.E (.c (.v 0)) (.v 0))] tT9 h.2 (Int.toNat_of_nonneg h.1))) ?_;rfl)
theorem qB {row:List Int}{w:Int}:zK (row++[w]) (row.length:Int)=w:=by
 unfold zK
 (refine rwE List.getD_eq_getElem?_getD ?_;refine rwE (Int.toNat_natCast ..) ?_;refine rwE List.getElem?_concat_length ?_;refine rwE Option.getD_some ?_;rfl)
noncomputable def zm (row:List Int):Df->Int
 | .lin ps c=>c + (Zp row ps).sum
 | .ext mx vs=>zP mx (vs.map (zK row))
noncomputable def grow:List Int->List Dd->List Int
 | row,[]=>row
 | row,d::r=>grow (row++[zm row d.d]) r
theorem Zu {row:List Int}:grow row []=row:=rfl
theorem Zw {row:List Int}{d:Dd}{r:List Dd}:grow row (d::r)=grow (row++[zm row d.d]) r:=rfl
noncomputable def zC8 (row:List Int)(lo hi:Int):Df->Prop
 | .lin ps c=>(∀ p,p∈ps->(0<=p.1/\p.1<row.length)/\sm3 p.2/\(-1000<=zK row p.1/\zK row p.1<=1000))/\ps.length<=50/\(ps=[]->lo=c/\hi=c)
 | .ext _ vs=>vs≠[]/\vs.length<64/\∀ v,v∈vs->0<=v/\v<row.length
structure DOk (row:List Int)(d:Dd):Prop where
 ok:zC8 row d.lo d.hi d.d
 lo:-400<=d.lo
 hi:d.hi<=400
 le:d.lo<=zm row d.d
 ge:zm row d.d<=d.hi
noncomputable def Z0:List Int->List Dd->Prop
 | _,[]=>True
 | row,d::r=>DOk row d/\Z0 (row++[zm row d.d]) r
theorem XD {row:List Int}:Z0 row []=True:=rfl
theorem xh {row:List Int}{d:Dd}{r:List Dd}:Z0 row (d::r)=(DOk row d/\Z0 (row++[zm row d.d]) r):=rfl
noncomputable def yK (ps:List (Int×Int))(j:Nat):List (Int×Int):=ps.map (λ p=>(p.2,p.1))++[(-1,(j:Int))]
theorem Ub (ps:List (Int×Int))(c:Int)(j:Nat):Yr ps c j=QM (yK ps j) (-c):=by
 unfold Yr QM yK
 simp [List.map_map,Function.comp_def]
theorem WV {row:List Int}{w:Int}:∀ {ps:List (Int×Int)},(∀ p,p∈ps->0<=p.1/\p.1<row.length)->(dot (row++[w]) (yK ps row.length)).sum=(Zp row ps).sum - w
 | [],_=>by simp [yK,ug,uY,Zg,Zf,qB]
 | p::ps,h=>by
  have ih:=WV (w:=w) (ps:=ps) λ q m=>h q (by simp [m])
  unfold yK at *
  simp only [List.map_cons,List.cons_append,ug,uY,Zg,Zf,List.sum_cons,ih,y7 (h p (by simp))]
  exact Int.le_antisymm (liZ [] [p.snd * zK row p.fst,(Zp row ps).sum,w] (.a (.v 0) (.s (.v 1) (.v 2))) (.s (.a (.v 0) (.v 1)) (.v 2)) [] tT9) (liZ [] [p.snd * zK row p.fst,(Zp row ps).sum,w] (.s (.a (.v 0) (.v 1)) (.v 2)) (.a (.v 0) (.s (.v 1) (.v 2))) [] tT9)
theorem Xr {lo hi v:Int}(h1:lo<=v)(h2:v<=hi):(rng lo hi).filter (λ w=>w==v)=[v]:=by
 have key:∀ (n:Nat) (lo:Int),lo<=v->v<lo + n->((List.range n).map λ (j:Nat)=>lo + (j:Int)).filter (λ w=>w==v)=[v]:=by
  intro n
  induction n with
  | zero=>intro lo a b;exact absurd (Int.lt_of_le_of_lt a b) (by refine rwE (Int.add_zero lo) ?_;exact Int.lt_irrefl _)
  | succ n ih =>
   intro lo a b
   (refine rwE List.range_succ_eq_map ?_;refine rwE List.map_cons ?_;refine rwE List.map_map ?_;refine rwE List.filter_cons ?_)
   have e:((λ (j:Nat)=>lo + (j:Int)) ∘ Nat.succ)=λ (j:Nat)=>(lo + 1) + (j:Int):=by
    funext j;simp only [Function.comp_apply];exact Int.le_antisymm (liZ [_] [_] (.a (.v 0) (.c (.a (.v 0) (.k 1)))) (.a (.a (.v 0) (.k 1)) (.c (.v 0))) [] tT9) (liZ [_] [_] (.a (.a (.v 0) (.k 1)) (.c (.v 0))) (.a (.v 0) (.c (.a (.v 0) (.k 1)))) [] tT9)
   refine rwE e ?_
   by_cases q:lo=v
   ·subst q
    have hn:(((List.range n).map λ (j:Nat)=>(lo + 1) + (j:Int)).filter (λ w=>w==lo))=[]:=by
     rw [List.filter_eq_nil_iff]
     intro x hx
     (refine Eea (List.mem_map.mp hx) λ j _ q5q=>?_;obtain rfl:=q5q)
     simp;exact Int.ne_of_gt (liZ [_] [_] (.a (.v 0) (.k 1)) (.a (.a (.v 0) (.k 1)) (.c (.v 0))) [] tT9)
    refine rwE hn ?_;simp
   ·refine rwE (if_neg (by simpa using q)) ?_
    exact ih (lo + 1) (Int.lt_iff_le_and_ne.mpr ⟨a,q⟩) (by exact liZ [_] [_,_] (.a (.v 0) (.k 1)) (.a (.a (.v 1) (.k 1)) (.c (.v 0))) [(1,.L (.a (.v 0) (.k 1)) (.a (.v 1) (.c (.a (.v 0) (.k 1)))))] tT9 b)
 unfold rng
 exact key _ lo h1 (by refine rwE (Int.toNat_of_nonneg (Int.sub_nonneg_of_le (Int.le_trans h1 (Int.le_trans h2 (Int.le_add_of_nonneg_right (oD9 rfl)))))) ?_;exact Int.lt_of_le_of_lt h2 (by lia))
section
variable {C:Cx}{n:Nat}{σ:zA}{Q:D->zA->Prop}
theorem ww (L:Law1 C){row:List Int}{w:Int}{d:Dd}(hd:DOk row d)(hl:row.length<=800)(hw:-1000000<=w/\w<=1000000){told:PyData}(ht:told∈zQ row.length d.d)
  (q:Q (.p (.bool (w==zm row d.d))) σ):SatCall C T1 (n + 1) 532 [.p told,.p (.list ((row++[w]).map .int))] σ Q:=by
 have ok:=hd.ok
 cases h:d.d with
 | lin ps c =>
  rw [h] at ok q ht
  (refine Eaa (ok) λ h1 h2 h3=>?_;try clear ok)
  simp only [zQ] at ht
  split at ht
  ·simp at ht
  ·rw [List.mem_singleton] at ht
   subst ht
   refine rwE (Ub ..) ?_
   refine xU L (.inl rfl) (by simp;exact Nat.le_trans hl (nB9 rfl)) ?_ (by simp [yK];exact Nat.le_trans h2 (nB9 rfl)) ?_
   ·intro z hz
    unfold yK at hz
    rcases List.mem_append.mp hz with hz | hz
    ·(refine Eea (List.mem_map.mp hz) λ p hp q8q=>?_;obtain rfl:=q8q)
     refine Eaa (h1 p hp) λ a b c=>?_
     refine ⟨⟨a.1,by simp;exact liZ [_] [_] (.a (.v 0) (.k 1)) (.a (.c (.v 0)) (.k 1)) [(1,.L (.a (.v 0) (.k 1)) (.c (.v 0)))] tT9 a.2⟩,b,?_⟩
     refine rwE (y7 a) ?_;exact ⟨Int.le_trans (oD9 rfl) c.1,Int.le_trans c.2 (oD9 rfl)⟩
    ·rw [List.mem_singleton] at hz;subst hz
     refine ⟨⟨by simp,by simp;exact Int.le_refl _⟩,by simp [sm3],?_⟩
     refine rwE qB ?_;exact hw
   ·refine rwE (WV λ p m=>(h1 p m).1) ?_
    have e:((Zp row ps).sum - w==-c)=(w==zm row (.lin ps c)):=by
     rw [Bool.eq_iff_iff];simp only [beq_iff_eq,zm];lia
    refine rwE e ?_;exact q
 | ext mx vs =>
  rw [h] at ok q ht
  (refine Eaa (ok) λ h1 h2 h3=>?_;try clear ok)
  simp only [zQ,List.mem_singleton] at ht
  subst ht
  refine xM (mx:=mx) (row:=row++[w]) L (.inl rfl) (by simp;exact Nat.le_trans hl (nB9 rfl)) (λ v m=>⟨(h3 v m).1,by have:=(h3 v m).2;simp;exact liZ [_] [_] (.a (.v 0) (.k 1)) (.a (.c (.v 0)) (.k 1)) [(1,.L (.a (.v 0) (.k 1)) (.c (.v 0)))] tT9 this⟩) ⟨by exact Int.natCast_nonneg _,by simp;exact Int.le_refl _⟩ h2 h1 ?_
  have e1:vs.map (zK (row++[w]))=vs.map (zK row):=List.map_congr_left λ v m=>y7 (h3 v m)
  (refine rwE e1 ?_;refine rwE qB ?_;refine rwE (UF _ _ (by simpa using h1)) ?_)
  exact q
end
theorem LateAt.apps {σ:zA}{es:List (Int×D)}{p:Int}{tl:List PyData}{X:zA}(h:LateAt σ es p tl):LateAt (σ++X) es p tl:=by
 rcases h with h | ⟨i,h1,h2⟩
 ·exact .inl h
 ·exact .inr ⟨i,h1,by refine rwE (List.getElem?_append_left (List.getElem?_eq_some_iff.mp h2).1) ?_;exact h2⟩
theorem xT:∀ (ds:List Dd) (row:List Int),(grow row ds).length=row.length + ds.length:=by
 intro ds
 induction ds with
 | nil =>
  intro row
  simp [Zu,Zw]
 | cons d r ih =>
  intro row
  simp only [Zu,Zw,ih,List.length_append,List.length_cons,List.length_nil];exact Nat.le_antisymm (lin [_,_] [] (.a (.a (.v 0) (.a (.k 0) (.k 1))) (.v 1)) (.a (.v 0) (.a (.v 1) (.k 1))) [] tT9) (lin [_,_] [] (.a (.v 0) (.a (.v 1) (.k 1))) (.a (.a (.v 0) (.a (.k 0) (.k 1))) (.v 1)) [] tT9)
theorem yM (k:Nat)(d:Df):(zQ k d).length<=1:=by
 cases d with
 | lin ps c=>simp only [zQ];split <;> simp
 | ext mx vs=>simp [zQ]
theorem Wz {row:List Int}{d:Dd}(hd:DOk row d):(rng d.lo d.hi).filter (λ w=>(zQ row.length d.d).all λ _=>w==zm row d.d)=[zm row d.d]:=by
 by_cases h:zQ row.length d.d=[]
 ·refine rwE h ?_
  have ok:=hd.ok
  cases e:d.d with
  | lin ps c =>
   rw [e] at ok h
   simp only [zQ] at h
   split at h
   ·rename_i hp
    refine Ea (ok.2.2 hp) λ e1 e2=>?_
    subst hp
    (refine rwE e1 ?_;refine rwE e2 ?_)
    have:c + 1 - c=1:=by exact Int.le_antisymm (liZ [] [_] (.s (.a (.v 0) (.k 1)) (.v 0)) (.k 1) [] tT9) (liZ [] [_] (.k 1) (.s (.a (.v 0) (.k 1)) (.v 0)) [] tT9)
    simp [rng,zm,Zg,Zf,this]
   ·simp at h
  | ext mx vs=>rw [e] at h;simp [zQ] at h
 ·have e:∀ w,((zQ row.length d.d).all λ _=>w==zm row d.d)=(w==zm row d.d):=λ w=>by
   refine Eee (List.exists_cons_of_ne_nil h) λ y ys hy=>?_
   have:=yM row.length d.d
   rw [hy] at this ⊢
   have:ys=[]:=List.length_eq_zero_iff.mp (by simp at this;exact List.length_eq_zero_iff.mpr this)
   subst this
   simp
  simp only [e]
  exact Xr hd.le hd.ge
section
variable {C:Cx}{n:Nat}{fd:MO}{pt:D}{vars tolds:List PyData}{made:List (Ky×D)}{τ:zA}{Q:D->zA->Prop}
theorem XQ (L:Law1 C){es:List (Int×D)}{S:Fl->Rho->zA->Prop}{K:Rho×zA->Prop}{body:List St}(hb:∃ it,b_law_whole=(b_law_whole.take 2)++[.for (.nm 3) it body]++b_law_whole.drop 3) :
  ∀ (ds:List Dd) (row:List Int) (ex:zA) (u3 u4 u5 u6 u7:Option D),row.length + ds.length<=800 ->
  (∀ i d,ds[i]?=some d->vars[row.length + i]?=some (.tuple [Zi (row.length + i),z5 d.lo d.hi])) ->
  (∀ i d,ds[i]?=some d->LateAt (zB fd pt vars tolds made++.idict es::τ) es ((row.length + i:Nat):Int) (zQ (row.length + i) d.d)) ->
  Z0 row ds ->
  (∀ v3 v4 v5 v6 v7 ex',K ([some (.obj 4),some (.obj 8),some (.obj (zB fd pt vars tolds made++.idict es::τ).length),v3,v4,v5,v6,v7],zB fd pt vars tolds made++.idict es::τ++[.lst ((grow row ds).map .int)]++ex')) ->
  zJ (za C T1 (n + 1) (.nm 3) body none S) ((List.range' row.length ds.length).map λ (j:Nat)=>.int j) ([some (.obj 4),some (.obj 8),some (.obj (zB fd pt vars tolds made++.idict es::τ).length),u3,u4,u5,u6,u7],zB fd pt vars tolds made++.idict es::τ++[.lst (row.map .int)]++ex) K:=by
 intro ds
 induction ds with
 | nil =>
  intro row ex u3 u4 u5 u6 u7 _ _ _ _ h
  simpa [zw,zt,Zu,Zw] using h u3 u4 u5 u6 u7 ex
 | cons d ds ih =>
  intro row ex u3 u4 u5 u6 u7 hl hv hlt hok h
  simp only [List.length_cons] at hl
  refine Ea (hok) λ hd hok=>?_
  have hv0:=hv 0 d rfl
  have hl0:=hlt 0 d rfl
  rw [Nat.add_zero] at hv0 hl0
  (refine rwE List.length_cons ?_;refine rwE List.range'_succ ?_;refine rwE List.map_cons ?_)
  show za _ _ _ _ _ _ _ (PyData.int (row.length:Nat)) _ (λ a'=>zJ _ _ a' K)
  have h1:=hd.lo
  have h2:=hd.hi
  have h3:=hd.le
  have h4:=hd.ge
  refine XT (w:=zm row d.d) (H:=λ w _=>w==zm row d.d) L hb (by exact lin [_,_] [] (.v 0) (.k 1000) [(1,.l (.a (.v 0) (.a (.v 1) (.k 1))) (.k 800))] tT9 hl) hv0 (by exact ⟨Int.le_trans (oD9 rfl) h1,liZ [] [d.lo,d.hi,zm row d.d] (.v 0) (.k 1000000) [(1,.L (.v 1) (.k 400)),(1,.L (.v 0) (.v 2)),(1,.L (.v 2) (.v 1))] tT9 h2 h3 h4⟩) (by lia) (by lia) (by exact lin [_,_] [] (.v 0) (.k 900) [(1,.l (.a (.v 0) (.a (.v 1) (.k 1))) (.k 800))] tT9 hl) (by have:=yM row.length d.d;exact Nat.le_trans this (nB9 rfl)) (by refine rwE (List.append_assoc ..) ?_;exact hl0.apps) (λ w acc told hw ht Q q=>ww L hd (by exact Nat.le_trans (Nat.le_add_right _ _) hl) (by lia) ht q) (Wz hd) λ v3 v4 v5 v6 v7=>?_
  ·have hlen:(row++[zm row d.d]).length=row.length + 1:=by simp
   have go:=ih (row++[zm row d.d]) (ex++[.lst [.int (zm row d.d)]]) v3 v4 v5 v6 v7 (by refine rwE hlen ?_;exact lin [_,_] [] (.a (.a (.v 0) (.k 1)) (.v 1)) (.k 800) [(1,.l (.a (.v 0) (.a (.v 1) (.k 1))) (.k 800))] tT9 hl) (λ i e he=>?_) (λ i e he=>?_) hok h
   ·rw [hlen] at go;exact go
   ·have:=hv (i + 1) e (by simpa using he)
    (refine rwE hlen ?_;refine rwE (show row.length + 1 + i=row.length + (i + 1) by exact Nat.le_antisymm (lin [_,_] [] (.a (.a (.v 0) (.k 1)) (.v 1)) (.a (.v 0) (.a (.v 1) (.k 1))) [] tT9) (lin [_,_] [] (.a (.v 0) (.a (.v 1) (.k 1))) (.a (.a (.v 0) (.k 1)) (.v 1)) [] tT9)) ?_);exact this
   ·have:=hlt (i + 1) e (by simpa using he)
    (refine rwE hlen ?_;refine rwE (show row.length + 1 + i=row.length + (i + 1) by exact Nat.le_antisymm (lin [_,_] [] (.a (.a (.v 0) (.k 1)) (.v 1)) (.a (.v 0) (.a (.v 1) (.k 1))) [] tT9) (lin [_,_] [] (.a (.v 0) (.a (.v 1) (.k 1))) (.a (.a (.v 0) (.k 1)) (.v 1)) [] tT9)) ?_);exact this
theorem zB6 (L:Law1 C){row:List Int}{ds:List Dd}{es:List (Int×D)}(h3:row.length=3)(hds:ds.length<=700)(hv:vars.length=3 + ds.length)
  (hes:zS (-1) es=none/\zS 0 es=none/\zS 1 es=none/\zS 2 es=none)
  (hvar:∀ i d,ds[i]?=some d->vars[3 + i]?=some (.tuple [Zi (3 + i),z5 d.lo d.hi]))
  (hlate:∀ i d,ds[i]?=some d->LateAt (zB fd pt vars tolds made++.idict es::τ) es ((3 + i:Nat):Int) (zQ (3 + i) d.d))
  (hok:Z0 row ds) (q:Q (.p (.list ((grow row ds).map .int))) (zB fd pt vars tolds made++.idict es::τ)) :
  SatCall C T1 (n + 3) 537 [.obj 4,.obj 8,.p (.list (row.map .int))] (zB fd pt vars tolds made++.idict es::τ) Q:=by
 refine wJ L hes (by exact lin [_] [] (.v 0) (.k 1000) [(1,.e (.v 0) (.k 3))] tT9 h3) (by exact lin [_,_] [] (.v 0) (.k 1000) [(1,.l (.v 1) (.k 700)),(1,.e (.v 0) (.a (.k 3) (.v 1)))] tT9 hds hv) ?_
 generalize hS:(λ (fl:Fl) (_:Rho) (σ':zA)=>qa (zB fd pt vars tolds made++.idict es::τ) Q fl σ')=S
 unfold b_law_whole
 simp only [List.drop]
 refine zH ?_
 have h4:(zB fd pt vars tolds made++.idict es::τ++[.lst (row.map .int)])[4]?=some (.inst 168 3):=rfl
 have h3':(zB fd pt vars tolds made++.idict es::τ++[.lst (row.map .int)])[3]?=some (.sdict [(6,.obj 5),(7,.obj 6),(8,JE),(9,.p (.tuple []))]):=rfl
 have hsz:SatCall C T1 (n + 2) 158 [.obj 4] (zB fd pt vars tolds made++.idict es::τ++[.lst (row.map .int)]) λ d σ'=>d=.p (.int vars.length)/\σ'=zB fd pt vars tolds made++.idict es::τ++[.lst (row.map .int)]:=by
  refine rwE (List.append_assoc ..) ?_
  exact QV L (by exact lin [_,_] [] (.v 0) (.k 10000) [(1,.l (.v 1) (.k 700)),(1,.e (.v 0) (.a (.k 3) (.v 1)))] tT9 hds hv) ⟨rfl,rfl⟩
 walk_at "st"
 simp only [h4,h3']
 walk_at "st"
 refine hsz.mono λ d σ' hd=>?_
 (refine Ea (hd) λ q4q=>?_;try clear hd;obtain rfl:=q4q;intro q5q;obtain rfl:=q5q)
 walk_at "st"
 have hr:QH 3 ((vars.length:Nat):Int)=(List.range' row.length ds.length).map λ (j:Nat)=>.int j:=by
  show (List.range (((vars.length:Nat):Int) - 3).toNat).map (λ (j:Nat)=>PyData.int (3 + j))=_
  (refine rwE hv ?_;refine rwE (show (((3 + ds.length:Nat):Int) - 3).toNat=ds.length by lia) ?_;refine rwE h3 ?_;refine rwE List.range'_eq_map_range ?_;refine rwE List.map_map ?_)
  congr 1
 refine rwE hr ?_
 refine ⟨⟨by exact Int.natCast_nonneg _,by lia⟩,by (refine rwE (List.length_map ..) ?_;refine rwE List.length_range' ?_);exact Nat.le_trans hds (nB9 rfl),?_⟩
 have hl:=XQ (n:=n + 1) (fd:=fd) (pt:=pt) (vars:=vars) (tolds:=tolds) (made:=made) (τ:=τ) L (es:=es) (S:=λ fl ρ' σ'=>Yp fl (wpSs C T1 (n + 2) [St.retF (Ex.nm 2)] ρ' σ' S) (S fl ρ' σ')) (K:=λ a=>wpSs C T1 (n + 2) [St.retF (Ex.nm 2)] a.fst a.snd S) ⟨_,rfl⟩ ds row [] none none none none none (by exact lin [_,_] [] (.a (.v 0) (.v 1)) (.k 800) [(1,.e (.v 0) (.k 3)),(1,.l (.v 1) (.k 700))] tT9 h3 hds) (by refine rwE h3 ?_;exact hvar) (by refine rwE h3 ?_;exact hlate) hok λ v3 v4 v5 v6 v7 ex'=>?_
 ·rw [List.append_nil] at hl
  exact hl
 ·refine zH ?_
  generalize hσ:zB fd pt vars tolds made++.idict es::τ=σ0 at *
  have hrow:(σ0++[MO.lst ((grow row ds).map .int)]++ex')[σ0.length]?=some (.lst ((grow row ds).map .int)):=by
   (refine rwE (List.getElem?_append_left (by simp)) ?_;refine rwE List.getElem?_concat_length ?_;rfl)
  walk_at "st"
  simp only [qW,hrow]
  subst hS
  have hset:(σ0++[MO.lst ((grow row ds).map .int)]++ex').set σ0.length .dead=σ0++([.dead]++ex'):=by
   (refine rwE (List.append_assoc ..) ?_;refine rwE (List.set_append_right _ _ (Nat.le_refl _)) ?_;refine rwE (Nat.sub_self ..) ?_)
   simp
  refine rwE hset ?_
  exact yU rfl q
end
structure Law1X (C:Cx):Prop where
 L:Law1 C
 S:SupX C "/claim/cut.py"
 m485:makesIn C.K 485=true
 k485:keepIn C.K (.ref 485)=true
 i485:findIn C.K (.ref 485) "__init__"=some (some (.ref 332))
 f332:typeIn C.K (.ref 332)=some (.type "function")
 k332:keepIn C.K (.ref 332)=true
 m168:makesIn C.K 168=true
 k168:keepIn C.K (.ref 168)=true
 i168:findIn C.K (.ref 168) "__init__"=some (some (.ref 137))
 f137:typeIn C.K (.ref 137)=some (.type "function")
 sup:Jm C.K "/claim/cut.py" 332 ⟨485,"self",[],[],"partial",none⟩
 sub:mroIn C.K 485 (.ref 485)=some true
 sin:ks_superIn C.K 485 485 "__init__"=some (some (.ref 226))
 f226:typeIn C.K (.ref 226)=some (.type "function")
 n226:fnIn C.K 226=true
section
variable {C:Cx}{n:Nat}{Q:D->zA->Prop}
theorem zDA (X:Law1X C){a b c:MO}(q:Q (.obj 4) [a,b,c,.sdict [(6,.obj 5),(7,.obj 6),(8,JE),(9,.p (.tuple []))],.inst 168 3,.lst [],.lst []]):SatCall C T1 (n + 2) 168 [] [a,b,c] Q:=by
 refine Uh X.L.Y (by decide) X.m168 X.k168 X.i168 X.f137 ?_
 refine zN X.L.Y X.L.TT X.L.flat_init rfl ?_
 unfold Qr
 walk_at "go"
 exact zE rfl ⟨rfl,q⟩
theorem xW (X:Law1X C){fd:MO}(q:Q (.obj 2) (zB fd (.p .none) [] [] [])):SatCall C T1 (n + 6) 485 [] [fd] Q:=by
 refine Uh X.L.Y (by decide) X.m485 X.k485 X.i485 X.f332 ?_
 refine Vi X.L.Y X.L.TT X.S X.k332 X.sup (k:=12) rfl rfl X.sub X.sin X.f226 X.n226 (i:=2) (j:=1) rfl rfl ?_
 refine zN X.L.Y X.L.TT X.L.gath_init rfl ?_
 unfold Qo
 walk_at "go"
 refine zDA X ?_
 walk_at "go"
 exact zE rfl ⟨_,rfl,rfl,by decide,q⟩
end
noncomputable def zO (row:List Int)(t:Th):Int:=cOf t + (Zp row (zD t)).sum
theorem qO {row l:List Int}{p:Int}(h:0<=p/\p<row.length):zK (row++l) p=zK row p:=by
 unfold zK
 (refine rwE List.getD_eq_getElem?_getD ?_;refine rwE List.getD_eq_getElem?_getD ?_;refine rwE (List.getElem?_append_left (by exact lin [p.toNat,row.length] [p] (.a (.v 0) (.k 1)) (.v 1) [(1,.L (.a (.v 0) (.k 1)) (.c (.v 1))),(1,.E (.c (.v 0)) (.v 0))] tT9 h.2 (Int.toNat_of_nonneg h.1))) ?_;rfl)
theorem Qi {row l:List Int}:∀ {ps:List (Int×Int)},(∀ p,p∈ps->0<=p.1/\p.1<row.length)->Zp (row++l) ps=Zp row ps
 | [],_=>rfl
 | p::ps,h=>by
  have ih:=Qi (row:=row) (l:=l) (ps:=ps) λ q m=>h q (List.mem_cons_of_mem _ m)
  simp only [Zg,Zf,qO (h p (by simp)),ih]
theorem qh:∀ (ds es:List Dd) (row:List Int),grow row (ds++es)=grow (grow row ds) es:=by
 intro ds
 induction ds with
 | nil =>
  intro es row
  exact rfl
 | cons d ds ih =>
  intro es row
  simp only [List.cons_append,Zu,Zw,ih es]
theorem QK:∀ (ds:List Dd) (row:List Int),∃ l,grow row ds=row++l/\l.length=ds.length:=by
 intro ds
 induction ds with
 | nil =>
  intro row
  exact ⟨[],by simp [Zu,Zw],rfl⟩
 | cons d ds ih =>
  intro row
  refine Eea (ih (row++[zm row d.d])) λ l h hl=>?_
  exact ⟨zm row d.d::l,by simp only [Zu,Zw,h,List.append_assoc,List.cons_append,List.nil_append],by simp [hl]⟩
theorem allOk_append:∀ {ds es:List Dd} {row:List Int},Z0 row (ds++es) ↔ Z0 row ds/\Z0 (grow row ds) es
 | [],es,row=>by simp [XD,xh,Zu,Zw]
 | d::ds,es,row=>by simp only [List.cons_append,XD,xh,Zu,Zw,allOk_append (ds:=ds),and_assoc]
theorem xK {row l:List Int}{lo hi:Int}{d:Df}(h:zC8 row lo hi d):zm (row++l) d=zm row d:=by
 cases d with
 | lin ps c=>simp only [zm,Qi λ p m=>(h.1 p m).1]
 | ext mx vs =>
  simp only [zm]
  congr 1
  exact List.map_congr_left λ v m=>qO (h.2.2 v m)
theorem Yz:∀ {ds:List Dd} {row:List Int} {i:Nat} {d:Dd},Z0 row ds->ds[i]?=some d->zK (grow row ds) ((row.length + i:Nat):Int)=zm (grow row ds) d.d/\d.lo<=zm (grow row ds) d.d/\zm (grow row ds) d.d<=d.hi
 | [],row,i,d,_,e=>by simp at e
 | d0::ds,row,0,d,h,e=>by
  simp at e;subst e
  (refine Ea (h) λ h1 h2=>?_;try clear h)
  refine Eea (QK ds (row++[zm row d0.d])) λ l hl _=>?_
  simp only [Zu,Zw,hl]
  have e1:zm (row++[zm row d0.d]++l) d0.d=zm row d0.d:=by refine rwE (List.append_assoc ..) ?_;exact xK h1.ok
  (refine rwE e1 ?_;refine rwE (qO (by simp only [List.length_append,List.length_singleton];exact ⟨Int.natCast_nonneg _,Int.le_refl _⟩)) ?_;refine rwE (Nat.add_zero ..) ?_;refine rwE qB ?_)
  exact ⟨rfl,h1.le,h1.ge⟩
 | d0::ds,row,i + 1,d,h,e=>by
  have:=Yz (i:=i) (d:=d) h.2 (by simpa using e)
  rw [List.length_append,List.length_singleton,show row.length + 1 + i=row.length + (i + 1) by exact Nat.le_antisymm (lin [_,_] [] (.a (.a (.v 0) (.k 1)) (.v 1)) (.a (.v 0) (.a (.v 1) (.k 1))) [] tT9) (lin [_,_] [] (.a (.v 0) (.a (.v 1) (.k 1))) (.a (.a (.v 0) (.k 1)) (.v 1)) [] tT9)] at this
  simpa only [Zu,Zw] using this
theorem Ky.cons.injEq {a b c d:Ky}:(Ky.cons a b=Ky.cons c d)=(a=c/\b=d):=propext ⟨λ h=>by cases h;exact ⟨rfl,rfl⟩,λ h=>by (refine rwE h.1 ?_;refine rwE h.2 ?_;rfl)⟩
theorem Ky.int.injEq {a b:Int}:(Ky.int a=Ky.int b)=(a=b):=propext ⟨λ h=>by cases h;rfl,λ h=>by (refine rwE h ?_;rfl)⟩
theorem Ky.str.injEq {a b:Str}:(Ky.str a=Ky.str b)=(a=b):=propext ⟨λ h=>by cases h;rfl,λ h=>by (refine rwE h ?_;rfl)⟩
theorem Uu:∀ {ps ps':List (Int×Int)},y0 ps=y0 ps'->ps=ps'
 | [],[],_=>rfl
 | [],_::_,h=>by simp [jk,JL] at h
 | _::_,[],h=>by simp [jk,JL] at h
 | p::ps,q::qs,h=>by
  simp only [jk,JL,Ky.cons.injEq,Ky.int.injEq,and_true] at h
  (refine Ea (h) λ q4q=>?_;try clear h;(refine Ea (q4q) λ h1 h2=>?_;try clear q4q);intro h3)
  refine rwE (Uu h3) ?_
  congr 1
  exact Prod.ext h1 h2
theorem jz:∀ {ps ps':List Int},qw ps=qw ps'->ps=ps'
 | [],[],_=>rfl
 | [],_::_,h=>by simp [yj,yp] at h
 | _::_,[],h=>by simp [yj,yp] at h
 | p::ps,q::qs,h=>by
  simp only [yj,yp,Ky.cons.injEq,Ky.int.injEq] at h
  (refine rwE h.1 ?_;refine rwE (jz h.2) ?_;rfl)
theorem ue {a b:Str}(h:(a==b)=false):a≠b:=by simpa using h
theorem Uf (mx:Bool):Str.ofString "sum"≠z6 mx:=by
 cases mx
 ·exact ue wZ
 ·exact ue wp
theorem VO {mx mx':Bool}(h:z6 mx=z6 mx'):mx=mx':=by
 cases mx <;> cases mx' <;> first | rfl | exact absurd h (ue st_min_max) | exact absurd h (ue Xy)
theorem Uc {d d':Df}(h:ZJ d=ZJ d'):d=d':=by
 cases d with
 | lin ps c=>cases d' with
  | lin ps' c' =>
   simp only [ZJ,kyS,Ky.cons.injEq,Ky.int.injEq,and_true,true_and] at h
   (refine rwE (Uu h.1) ?_;refine rwE h.2 ?_;rfl)
  | ext mx vs=>simp only [ZJ,kyS,Ky.cons.injEq,Ky.str.injEq] at h;exact absurd h.1 (Uf mx)
 | ext mx vs=>cases d' with
  | lin ps' c'=>simp only [ZJ,kyS,Ky.cons.injEq,Ky.str.injEq] at h;exact absurd h.1.symm (Uf mx)
  | ext mx' vs' =>
   simp only [ZJ,Ky.cons.injEq,Ky.str.injEq,and_true] at h
   (refine rwE (VO h.1) ?_;refine rwE (jz h.2) ?_;rfl)
theorem yL {q:Ky}:∀ {ds:List Dd} {k j:Nat},ZP q k ds=some j->∃ i d,j=k + i/\ds[i]?=some d/\ZJ d.d=q
 | [],k,j,h=>by simp [qc,qZ] at h
 | d::ds,k,j,h=>by
  simp only [qc,qZ] at h
  split at h
  ·rename_i e;cases h;exact ⟨0,d,rfl,rfl,e⟩
  ·refine Eeeaa (yL h) λ i d' h1 h2 h3=>?_
   exact ⟨i + 1,d',by lia,by simpa using h2,h3⟩
theorem YA {q:Ky}{es:List Dd}:∀ {ds:List Dd} {k j:Nat},ZP q k ds=some j->ZP q k (ds++es)=some j
 | [],k,j,h=>by simp [qc,qZ] at h
 | d::ds,k,j,h=>by
  simp only [List.cons_append,qc,qZ] at h ⊢
  split at h
  ·rename_i e;refine rwE (if_pos e) ?_;exact h
  ·rename_i e;refine rwE (if_neg e) ?_;exact YA h
theorem uI {q:Ky}{d:Dd}{es ds:List Dd}(h:ZP q 3 ds=none)(e:ZJ d.d=q):ZP q 3 (ds++[d]++es)=some (3 + ds.length) :=
 YA (by (refine rwE (Xj ..) ?_;refine rwE h ?_);simp [e])
theorem jc (mx:Bool):∀ {l:List Int},l≠[]->zP mx l∈l
 | [],h=>absurd rfl h
 | a::r,_=>by
  unfold zP
  cases mx
  ·exact (Qf r a).2
  ·exact (qq r a).2
theorem Qd {α:Type}(mx:Bool){ts:List α}{f g:α->Int}(h:∀ t,t∈ts->f t<=g t):zP mx (ts.map f)<=zP mx (ts.map g):=by
 cases ts with
 | nil=>exact Int.le_refl _
 | cons t r =>
  cases mx with
  | true =>
   have h1:=jc true (l:=(t::r).map f) (by simp)
   refine Eea (List.mem_map.mp h1) λ u hu e=>?_
   have h2:=(qq (r.map g) (g t)).1 (g u) (by refine rwS List.map_cons ?_;exact List.mem_map_of_mem hu)
   have h3:=h u hu
   have e2:zP true ((t::r).map g)=zu (g t) (r.map g):=rfl
   lia
  | false =>
   have h1:=jc false (l:=(t::r).map g) (by simp)
   refine Eea (List.mem_map.mp h1) λ u hu e=>?_
   have h2:=(Qf (r.map f) (f t)).1 (f u) (by refine rwS List.map_cons ?_;exact List.mem_map_of_mem hu)
   have h3:=h u hu
   have e2:zP false ((t::r).map f)=ZC (f t) (r.map f):=rfl
   exact liZ [] [_,_,_,_,_] (.v 0) (.v 1) [(1,.E (.v 2) (.v 1)),(1,.L (.v 3) (.v 4)),(1,.L (.v 4) (.v 2)),(1,.E (.v 0) (.v 3))] tT9 e h2 h3 e2
theorem Yy {α:Type}(mx:Bool){ts:List α}{f:α->Int}{a b:Int}(hne:ts≠[])(h:∀ t,t∈ts->a<=f t/\f t<=b):a<=zP mx (ts.map f)/\zP mx (ts.map f)<=b:=by
 refine Eea (List.mem_map.mp (jc mx (l:=ts.map f) (by simpa using hne))) λ u hu e=>?_
 refine rwS e ?_;exact h u hu
theorem Qe {B B':Int->Int×Int}:∀ {ps:List (Int×Int)} {l h:Int},(∀ p,p∈ps->B p.1=B' p.1)->bnd B ps (l,h)=bnd B' ps (l,h)
 | [],_,_,_=>rfl
 | (x,a)::ps,l,h,e=>by
  have e1:B x=B' x:=e (x,a) (by simp)
  simp only [j9,jv,e1]
  exact Qe λ p m=>e p (by simp [m])
theorem zAp (x y:Int):ZC x [y]<=x/\ZC x [y]<=y:=by
 simp only [y1,YR];split
 ·next h=>exact ⟨Int.le_of_lt h,Int.le_refl _⟩
 ·next h=>exact ⟨Int.le_refl _,Int.not_lt.mp h⟩
theorem zAm (x y:Int):x<=zu x [y]/\y<=zu x [y]:=by
 simp only [Qz,Q7];split
 ·next h=>exact ⟨Int.le_of_lt h,Int.le_refl _⟩
 ·next h=>exact ⟨Int.le_refl _,Int.not_lt.mp h⟩
theorem xQ {a lo hi w:Int}(h1:lo<=w)(h2:w<=hi):ZC (a * lo) [a * hi]<=a * w/\a * w<=zu (a * lo) [a * hi]:=by
 rcases Int.le_total 0 a with h | h
 ·exact ⟨Int.le_trans (zAp _ _).1 (Int.mul_le_mul_of_nonneg_left h1 h),Int.le_trans (Int.mul_le_mul_of_nonneg_left h2 h) (zAm _ _).2⟩
 ·exact ⟨Int.le_trans (zAp _ _).2 (Int.mul_le_mul_of_nonpos_left h h2),Int.le_trans (Int.mul_le_mul_of_nonpos_left h h1) (zAm _ _).1⟩
theorem J9 {B:Int->Int×Int}{row:List Int}:∀ {ps:List (Int×Int)} {l h v:Int},(∀ p,p∈ps->(B p.1).1<=zK row p.1/\zK row p.1<=(B p.1).2)->l<=v->v<=h->(bnd B ps (l,h)).1<=v + (Zp row ps).sum/\v + (Zp row ps).sum<=(bnd B ps (l,h)).2
 | [],l,h,v,_,h1,h2=>by simp [j9,jv,Zg,Zf];exact ⟨h1,h2⟩
 | (x,a)::ps,l,h,v,hb,h1,h2=>by
  refine Ea (hb (x,a) (by simp)) λ b1 b2=>?_
  refine Ea (xQ (a:=a) b1 b2) λ m1 m2=>?_
  have ih:=J9 (B:=B) (row:=row) (ps:=ps) (l:=l + ZC (a * (B x).1) [a * (B x).2]) (h:=h + zu (a * (B x).1) [a * (B x).2]) (v:=v + a * zK row x) (λ p m=>hb p (by simp [m])) (by dsimp only at m1;exact liZ [] [l,ZC (a * (B x).fst) [a * (B x).snd],v,a * zK row x] (.a (.v 0) (.v 1)) (.a (.v 2) (.v 3)) [(1,.L (.v 0) (.v 2)),(1,.L (.v 1) (.v 3))] tT9 h1 m1) (by dsimp only at m2;exact liZ [] [v,a * zK row (x,a).fst,h,zu (a * (B x).fst) [a * (B x).snd]] (.a (.v 0) (.v 1)) (.a (.v 2) (.v 3)) [(1,.L (.v 0) (.v 2)),(1,.L (.v 1) (.v 3))] tT9 h2 m2)
  simp only [j9,jv,Zg,Zf,List.sum_cons] at ih ⊢
  refine rwS (Int.add_assoc ..) ?_;exact ih
set_option tactic.hygienic true
structure Dr where
 low:Int
 hole:Int
 base:Int
structure Dr.Ok (r:Dr):Prop where
 low:-1<=r.low/\r.low<=1
 hole:0<=r.hole/\r.hole<=1
 base:-1<=r.base/\r.base<=0
noncomputable def Dr.domX (r:Dr):PyData:=if r.hole==0 then .tuple [.tuple [.int r.low,.int (r.low + 2)]] else .tuple [.tuple [.int r.low,.int (r.low + 1)],.tuple [.int (r.low + 3),.int (r.low + 3)]]
noncomputable def Dr.vb (r:Dr):List PyData:=[.tuple [.str (Str.ofString "x"),r.domX],.tuple [.str (Str.ofString "y"),.tuple [.tuple [.int r.base,.int (r.base + 1)]]],.tuple [.str (Str.ofString "b"),.tuple [.tuple [.int 0,.int 1]]]]
noncomputable def Bv (r:Dr)(ds:List Dd)(x:Int):Int×Int:=if x=0 then (r.low,r.low + 2 + r.hole) else if x=1 then (r.base,r.base + 1) else if x=2 then (0,1) else match ds[(x - 3).toNat]? with
 | some d=>(d.lo,d.hi)
 | none=>(0,0)
structure BRow (r:Dr)(row:List Int):Prop where
 h:∃ p q b,row=[p,q,b]/\(p=r.low∨p=r.low + 1∨p=r.low + 2 + r.hole)/\(q=r.base∨q=r.base + 1)/\(b=0∨b=1)
theorem BRow.len {r:Dr}{row:List Int}(h:BRow r row):row.length=3:=by (refine Eeeea (h.h) λ p q b q1q=>?_;obtain rfl:=q1q;intro _);rfl
theorem YL (r:Dr):BRow r [r.low,r.base,0]:=⟨_,_,_,rfl,.inl rfl,.inl rfl,.inl rfl⟩
structure GD (r:Dr)(ds:List Dd):Prop where
 all:∀ row,BRow r row->Z0 row ds
 sm:∀ d,d∈ds->-10<=d.lo/\d.lo<=d.hi/\d.hi<=10
inductive PsOk (N:Int):List (Int×Int)->Prop
 | nil:PsOk N []
 | one {x a:Int}:0<=x->x<N->a≠0->-2<=a->a<=2->PsOk N [(x,a)]
 | two {x a y b:Int}:0<=x->x<y->y<N->a≠0->-2<=a->a<=2->b≠0->-2<=b->b<=2->PsOk N [(x,a),(y,b)]
structure GT (r:Dr)(ds:List Dd)(t:Th):Prop where
 ps:PsOk (3 + ds.length) (zD t)
 c:-10<=cOf t/\cOf t<=10
 bd:-10<=(bounds (Bv r ds) t).1/\(bounds (Bv r ds) t).2<=10
theorem PsOk.mem {N:Int}{ps:List (Int×Int)}(h:PsOk N ps):∀ p,p∈ps->(0<=p.1/\p.1<N)/\-2<=p.2/\p.2<=2:=by
 cases h with
 | nil=>intro p m;simp at m
 | one h1 h2 h3 h4 h5=>intro p m;simp at m;subst m;exact ⟨⟨h1,h2⟩,h4,h5⟩
 | two h1 h2 h3 h4 h5 h6 h7 h8 h9 =>
  intro p m
  simp at m
  rcases m with rfl | rfl
  ·exact ⟨⟨h1,by simp only;exact liZ [] [_,_,_] (.a (.v 0) (.k 1)) (.v 1) [(1,.L (.a (.v 0) (.k 1)) (.v 2)),(1,.L (.a (.v 2) (.k 1)) (.v 1))] tT9 h2 h3⟩,h5,h6⟩
  ·exact ⟨⟨by simp only;exact liZ [] [_,_] (.k 0) (.v 0) [(1,.L (.k 0) (.v 1)),(1,.L (.a (.v 1) (.k 1)) (.v 0))] tT9 h1 h2,h3⟩,h8,h9⟩
theorem PsOk.len {N:Int}{ps:List (Int×Int)}(h:PsOk N ps):ps.length<=2:=by cases h <;> simp
theorem PsOk.mono {N M:Int}{ps:List (Int×Int)}(h:PsOk N ps)(l:N<=M):PsOk M ps:=by
 cases h with
 | nil=>exact .nil
 | one h1 h2 h3 h4 h5=>exact .one h1 (by exact liZ [] [_,_,_] (.a (.v 0) (.k 1)) (.v 1) [(1,.L (.v 2) (.v 1)),(1,.L (.a (.v 0) (.k 1)) (.v 2))] tT9 l h2) h3 h4 h5
 | two h1 h2 h3 h4 h5 h6 h7 h8 h9=>exact .two h1 h2 (by exact liZ [] [_,_,_] (.a (.v 0) (.k 1)) (.v 1) [(1,.L (.v 2) (.v 1)),(1,.L (.a (.v 0) (.k 1)) (.v 2))] tT9 l h3) h4 h5 h6 h7 h8 h9
theorem wj {r:Dr}{ds:List Dd}{i:Nat}{d:Dd}(h:ds[i]?=some d):Bv r ds ((3 + i:Nat):Int)=(d.lo,d.hi):=by
 refine rwE (Nat.add_comm 3 i) ?_
 show (match ds[(((i + 3:Nat):Int) - 3).toNat]? with | some d=>(d.lo,d.hi) | none=>(0,0))=_
 refine rwE (show (((i + 3:Nat):Int) - 3).toNat=i from congrArg Int.toNat (Int.add_sub_cancel (i:Int) 3)) ?_
 refine rwE h ?_;rfl
theorem yH {r:Dr}{ds:List Dd}{x:Int}{P:Int->Int×Int->Prop}(h:0<=x)(hx:x<3 + ds.length)(p0:P 0 (r.low,r.low + 2 + r.hole))(p1:P 1 (r.base,r.base + 1))(p2:P 2 (0,1))
  (p3:∀ (i:Nat) (d:Dd),ds[i]?=some d->P ((3 + i:Nat):Int) (d.lo,d.hi)):P x (Bv r ds x):=by
 refine Ee (Int.eq_ofNat_of_zero_le h) λ k e=>?_
 subst e
 match k with
 | 0=>exact p0
 | 1=>exact p1
 | 2=>exact p2
 | i + 3 =>
  have hi:i<ds.length:=lin [_,_] [] (.a (.v 0) (.k 1)) (.v 1) [(1,.L (.a (.c (.a (.v 0) (.k 3))) (.k 1)) (.a (.k 3) (.c (.v 1))))] tT9 hx
  have e:=List.getElem?_eq_getElem hi
  have:=p3 i _ e
  rw [<- wj (r:=r) e,Nat.add_comm 3 i] at this
  exact this
theorem WF {r:Dr}{ds X:List Dd}{x:Int}(h:0<=x)(hx:x<3 + ds.length):Bv r (ds++X) x=Bv r ds x :=
 yH (P:=λ x b=>Bv r (ds++X) x=b) h hx rfl rfl rfl λ i d e=>wj ((List.getElem?_append_left (Qh e)).trans e)
theorem jn {r:Dr}{ds X:List Dd}{t:Th}(h:PsOk (3 + ds.length) (zD t)):bounds (Bv r (ds++X)) t=bounds (Bv r ds) t :=
 Qe λ p m=>WF (h.mem p m).1.1 (h.mem p m).1.2
theorem GT.app {r:Dr}{ds X:List Dd}{t:Th}(h:GT r ds t):GT r (ds++X) t :=
 ⟨h.ps.mono (by refine rwE List.length_append ?_;exact liZ [_,_] [] (.a (.k 3) (.c (.v 0))) (.a (.k 3) (.c (.a (.v 0) (.v 1)))) [] tT9),h.c,by refine rwE (jn h.ps) ?_;exact h.bd⟩
theorem zDx {l h p:Int}(o:0<=h)(hp:p=l∨p=l + 1∨p=l + 2 + h):l<=p/\p<=l + 2 + h:=by
 rcases hp with rfl | rfl | rfl
 ·exact ⟨Int.le_refl _,by exact liZ [] [_,_] (.v 0) (.a (.a (.v 0) (.k 2)) (.v 1)) [(1,.L (.k 0) (.v 1))] tT9 o⟩
 ·exact ⟨by exact liZ [] [_] (.v 0) (.a (.v 0) (.k 1)) [] tT9,by exact liZ [] [_,_] (.a (.v 0) (.k 1)) (.a (.a (.v 0) (.k 2)) (.v 1)) [(1,.L (.k 0) (.v 1))] tT9 o⟩
 ·exact ⟨by exact liZ [] [_,_] (.v 0) (.a (.a (.v 0) (.k 2)) (.v 1)) [(1,.L (.k 0) (.v 1))] tT9 o,Int.le_refl _⟩
theorem zCC {l p:Int}(hp:p=l∨p=l + 1):l<=p/\p<=l + 1:=by
 rcases hp with rfl | rfl
 ·exact ⟨Int.le_refl _,by exact liZ [] [_] (.v 0) (.a (.v 0) (.k 1)) [] tT9⟩
 ·exact ⟨by exact liZ [] [_] (.v 0) (.a (.v 0) (.k 1)) [] tT9,Int.le_refl _⟩
theorem zFs {l h:Int}(o1:-1<=l)(o2:0<=h)(p1:l<=1)(p2:h<=1):-10<=l/\l<=l + 2 + h/\l + 2 + h<=10:=by
 exact ⟨by exact Int.le_trans (oD9 rfl) o1,by exact liZ [] [_,_] (.v 0) (.a (.a (.v 0) (.k 2)) (.v 1)) [(1,.L (.k 0) (.v 1))] tT9 o2,by exact liZ [] [_,_] (.a (.a (.v 0) (.k 2)) (.v 1)) (.k 10) [(1,.L (.v 0) (.k 1)),(1,.L (.v 1) (.k 1))] tT9 p1 p2⟩
theorem zFr {l:Int}(o1:-1<=l)(p1:l<=1):-10<=l/\l<=l + 1/\l + 1<=10:=by
 exact ⟨by exact Int.le_trans (oD9 rfl) o1,by exact liZ [] [_] (.v 0) (.a (.v 0) (.k 1)) [] tT9,by exact Int.lt_of_le_of_lt p1 (oD9 rfl)⟩
theorem UK {r:Dr}{ds:List Dd}{row:List Int}{x:Int}(o:r.Ok)(g:GD r ds)(hr:BRow r row)(h:0<=x)(hx:x<3 + ds.length):(Bv r ds x).1<=zK (grow row ds) x/\zK (grow row ds) x<=(Bv r ds x).2:=by
 have hall:=g.all row hr
 have hlen:=hr.len
 refine Eea (QK ds row) λ l hl _=>?_
 refine Eeeeaaa hr.h λ p q b e hp hq hb=>?_
 have o1:=o.hole.1
 have f0:zK (grow row ds) 0=p:=by rw [hl,e];rfl
 have f1:zK (grow row ds) 1=q:=by rw [hl,e];rfl
 have f2:zK (grow row ds) 2=b:=by rw [hl,e];rfl
 refine yH (P:=λ x b=>b.1<=zK (grow row ds) x/\zK (grow row ds) x<=b.2) h hx ?_ ?_ ?_ λ i d e=>?_
 ·rw [f0];exact zDx o1 hp
 ·rw [f1];exact zCC hq
 ·rw [f2];rcases hb with rfl | rfl <;> exact of_decide_eq_true rfl
 ·have:=Yz hall e
  rw [hlen] at this
  rw [this.1];exact this.2
theorem wO {r:Dr}{ds:List Dd}{x:Int}(o:r.Ok)(g:GD r ds)(h:0<=x)(hx:x<3 + ds.length):-10<=(Bv r ds x).1/\(Bv r ds x).1<=(Bv r ds x).2/\(Bv r ds x).2<=10:=by
 refine Ea o.low λ o1 p1=>?_
 refine Ea o.hole λ o2 p2=>?_
 refine Ea o.base λ o3 p3=>?_
 refine yH (P:=λ x b=>-10<=b.1/\b.1<=b.2/\b.2<=10) h hx ?_ ?_ ?_ λ i d e=>g.sm d (Q1 e)
 ·exact zFs o1 o2 p1 p2
 ·exact zFr o3 (Int.le_trans p3 (oD9 rfl))
 ·exact of_decide_eq_true rfl
theorem yP {r:Dr}{ds:List Dd}{row:List Int}{t:Th}(o:r.Ok)(g:GD r ds)(h:PsOk (3 + ds.length) (zD t))(hr:BRow r row):(bounds (Bv r ds) t).1<=zO (grow row ds) t/\zO (grow row ds) t<=(bounds (Bv r ds) t).2 :=
 J9 (λ p m=>UK o g hr (h.mem p m).1.1 (h.mem p m).1.2) (Int.le_refl _) (Int.le_refl _)
theorem GT.le {r:Dr}{ds:List Dd}{t:Th}(o:r.Ok)(g:GD r ds)(h:GT r ds t):(bounds (Bv r ds) t).1<=(bounds (Bv r ds) t).2:=by
 have:=yP o g h.ps (YL r)
 exact liZ [] [(bounds (Bv r ds) t).fst,(bounds (Bv r ds) t).snd,zO (grow [r.low,r.base,0] ds) t] (.v 0) (.v 1) [(1,.L (.v 0) (.v 2)),(1,.L (.v 2) (.v 1))] tT9 this.1 this.2
theorem Zk {r:Dr}{ds:List Dd}{row:List Int}(hr:BRow r row):(grow row ds).length=3 + ds.length:=by (refine rwE (xT ..) ?_;refine rwE hr.len ?_;rfl)
theorem WM {r:Dr}{ds:List Dd}{row:List Int}{x:Int}(o:r.Ok)(g:GD r ds)(hr:BRow r row)(h:0<=x)(hx:x<3 + ds.length):-10<=zK (grow row ds) x/\zK (grow row ds) x<=10 :=
 ⟨Int.le_trans (wO o g h hx).1 (UK o g hr h hx).1,Int.le_trans (UK o g hr h hx).2 (wO o g h hx).2.2⟩
theorem YI {r:Dr}{ds X:List Dd}{row:List Int}{t:Th}(h:PsOk (3 + ds.length) (zD t))(hr:BRow r row):zO (grow row (ds++X)) t=zO (grow row ds) t:=by
 refine rwE (qh ..) ?_
 refine Eea (QK X (grow row ds)) λ l hl _=>?_
 unfold zO
 rw [hl,Qi λ p m=>by
  have:=(h.mem p m).1
  refine rwE (Zk hr) ?_
  exact ⟨this.1,this.2⟩]
theorem we {r:Dr}{ds X:List Dd}{row:List Int}{x:Int}(hr:BRow r row)(h:0<=x)(hx:x<3 + ds.length):zK (grow row (ds++X)) x=zK (grow row ds) x:=by
 refine rwE (qh ..) ?_
 refine Eea (QK X (grow row ds)) λ l hl _=>?_
 rw [hl,qO (by rw [Zk hr];exact ⟨h,hx⟩)]
theorem GD.snoc {r:Dr}{ds:List Dd}{d:Dd}(g:GD r ds)(hd:∀ row,BRow r row->DOk (grow row ds) d)(hs:-10<=d.lo/\d.lo<=d.hi/\d.hi<=10):GD r (ds++[d]) :=
 ⟨λ row hr=>allOk_append.mpr ⟨g.all row hr,hd row hr,trivial⟩,λ e m=>by
  rcases List.mem_append.mp m with m | m
  ·exact g.sm e m
  ·rw [List.mem_singleton] at m;exact m▸hs⟩
structure VarR (r:Dr)(B:Int->Int×Int)(ds:List Dd)(t:Th)(R:List Dd×Int):Prop where
 g:GD r R.1
 ex:∃ X,R.1=ds++X/\X.length<=1
 rg:0<=R.2/\R.2<3 + R.1.length
 val:∀ row,BRow r row->zK (grow row R.1) R.2=zO (grow row ds) t
 again:∀ Y,varOf B (R.1++Y) t=(R.1++Y,R.2)
theorem wu {r:Dr}{B:Int->Int×Int}{ds:List Dd}{t:Th}(o:r.Ok)(g:GD r ds)(h:GT r ds t)(hB:bounds B t=bounds (Bv r ds) t):VarR r B ds t (varOf B ds t):=by
 have hle:=h.le o g
 cases hv:yo (zD t) (cOf t) with
 | some x =>
  have hp:zD t=[(x,1)]/\cOf t=0:=by
   unfold yo at hv
   split at hv
   ·rename_i y a e
    split at hv
    ·rename_i c;cases hv;exact ⟨by (refine rwE e ?_;refine rwE c.1 ?_;rfl),c.2⟩
    ·cases hv
   ·cases hv
  have e:∀ Y,varOf B (ds++Y) t=(ds++Y,x):=λ Y=>by unfold varOf;(refine rwE hv ?_;rfl)
  have e0:varOf B ds t=(ds,x):=by unfold varOf;(refine rwE hv ?_;rfl)
  have hx:=(h.ps.mem (x,1) (by refine rwE hp.1 ?_;simp)).1
  refine rwE e0 ?_
  refine ⟨g,⟨[],by simp,by simp⟩,hx,λ row hr=>?_,e⟩
  unfold zO
  (refine rwE hp.1 ?_;refine rwE hp.2 ?_)
  simp [Zg,Zf]
 | none =>
  cases hk:ZP (kyS (zD t) (cOf t)) 3 ds with
  | some j =>
   have e:∀ Y,varOf B (ds++Y) t=(ds++Y,(j:Int)):=λ Y=>by unfold varOf;refine rwE hv ?_;simp only [YA hk]
   have e0:varOf B ds t=(ds,(j:Int)):=by unfold varOf;refine rwE hv ?_;simp only [hk]
   (refine Eeeaa (yL hk) λ i d q8q=>?_;obtain rfl:=q8q;intro hd hky)
   have hi:=(List.getElem?_eq_some_iff.mp hd).1
   refine rwE e0 ?_
   refine ⟨g,⟨[],by simp,by simp⟩,⟨by exact Int.natCast_nonneg _,by dsimp only;exact liZ [_,_] [] (.a (.c (.a (.k 3) (.v 0))) (.k 1)) (.a (.k 3) (.c (.v 1))) [(1,.l (.a (.v 0) (.k 1)) (.v 1))] tT9 hi⟩,λ row hr=>?_,e⟩
   have e1:=(Yz (g.all row hr) hd).1
   rw [hr.len] at e1
   dsimp only
   (refine rwE e1 ?_;refine rwE (Uc (d':=.lin (zD t) (cOf t)) hky) ?_)
   rfl
  | none =>
   have e0:varOf B ds t=(ds++[⟨.lin (zD t) (cOf t),(bounds (Bv r ds) t).1,(bounds (Bv r ds) t).2⟩],((3 + ds.length:Nat):Int)):=by unfold varOf;refine rwE hv ?_;simp only [hk,hB]
   have e:∀ Y,varOf B (ds++[⟨.lin (zD t) (cOf t),(bounds (Bv r ds) t).1,(bounds (Bv r ds) t).2⟩]++Y) t=(ds++[⟨.lin (zD t) (cOf t),(bounds (Bv r ds) t).1,(bounds (Bv r ds) t).2⟩]++Y,((3 + ds.length:Nat):Int)):=λ Y=>by
    unfold varOf
    (refine rwE hv ?_;refine rwE (uI hk (d:=⟨.lin (zD t) (cOf t),(bounds (Bv r ds) t).1,(bounds (Bv r ds) t).2⟩) rfl) ?_;rfl)
   refine rwE e0 ?_
   have hdok:∀ row,BRow r row->DOk (grow row ds) ⟨.lin (zD t) (cOf t),(bounds (Bv r ds) t).1,(bounds (Bv r ds) t).2⟩:=λ row hr=>by
    have hw:=yP o g h.ps hr
    refine ⟨⟨λ p m=>?_,by have:=h.ps.len;exact Nat.le_trans this (nB9 rfl),λ hn=>?_⟩,by dsimp only;have:=h.bd;exact Int.le_trans (oD9 rfl) this.1,by dsimp only;have:=h.bd;exact Int.le_trans this.2 (oD9 rfl),hw.1,hw.2⟩
    ·refine Ea (h.ps.mem p m) λ m1 m2=>?_
     have:=WM o g hr m1.1 m1.2
     refine ⟨⟨m1.1,by refine rwE (Zk hr) ?_;exact m1.2⟩,by unfold sm3;exact ⟨Int.le_trans (oD9 rfl) m2.1,Int.le_trans m2.2 (oD9 rfl)⟩,by exact ⟨Int.le_trans (oD9 rfl) this.1,Int.le_trans this.2 (oD9 rfl)⟩⟩
    ·unfold bounds;refine rwE hn ?_;exact ⟨rfl,rfl⟩
   refine ⟨g.snoc hdok ⟨h.bd.1,hle,h.bd.2⟩,⟨_,rfl,by simp⟩,⟨by dsimp only;exact Int.natCast_nonneg _,by dsimp only;(refine rwE List.length_append ?_;refine rwE List.length_singleton ?_);exact Int.le_refl _⟩,λ row hr=>?_,e⟩
   have hg:=(g.snoc hdok ⟨h.bd.1,hle,h.bd.2⟩).all row hr
   dsimp only
   refine rwE (qh ..) ?_
   have e3:((3 + ds.length:Nat):Int)=((grow row ds).length:Nat):=by (refine rwE (Zk hr) ?_;rfl)
   refine rwE e3 ?_
   show zK (grow row ds++[_]) _=_
   refine rwE qB ?_
   rfl
structure VarsR (r:Dr)(B:Int->Int×Int)(ds:List Dd)(ts:List Th)(R:List Dd×List Int):Prop where
 g:GD r R.1
 ex:∃ X,R.1=ds++X/\X.length<=ts.length
 rg:∀ v,v∈R.2->0<=v/\v<3 + R.1.length
 val:∀ row,BRow r row->R.2.map (zK (grow row R.1))=ts.map (zO (grow row ds))
 again:∀ Y,zG B (R.1++Y) ts=(R.1++Y,R.2)
theorem Y9 {r:Dr}{B:Int->Int×Int}(o:r.Ok):∀ {ts:List Th} {ds:List Dd},GD r ds->(∀ t,t∈ts->GT r ds t/\bounds B t=bounds (Bv r ds) t)->VarsR r B ds ts (zG B ds ts)
 | [],ds,g,_=>⟨g,⟨[],by simp [qe,qb],by simp⟩,λ v m=>by simp [qe,qb] at m,λ row hr=>rfl,λ Y=>rfl⟩
 | t::ts,ds,g,h=>by
  have h1:=wu o g (h t (by simp)).1 (h t (by simp)).2
  refine Eea (h1.ex) λ X hX hXl=>?_
  have hh:∀ u,u∈ts->GT r (varOf B ds t).1 u/\bounds B u=bounds (Bv r (varOf B ds t).1) u:=λ u m=>by
   refine Ea (h u (by simp [m])) λ a b=>?_
   refine rwE hX ?_
   exact ⟨a.app,by refine rwE (jn a.ps) ?_;exact b⟩
  have h2:=Y9 o (ts:=ts) h1.g hh
  refine Eea (h2.ex) λ Z hZ hZl=>?_
  refine ⟨h2.g,⟨X++Z,by show (zG B (varOf B ds t).1 ts).1=_;(refine rwE hZ ?_;refine rwE hX ?_;refine rwE (List.append_assoc ..) ?_;rfl),by simp only [List.length_append,List.length_cons];exact lin [_,_,_] [] (.a (.v 0) (.v 1)) (.a (.v 2) (.k 1)) [(1,.l (.v 0) (.k 1)),(1,.l (.v 1) (.v 2))] tT9 hXl hZl⟩,λ v m=>?_,λ row hr=>?_,λ Y=>?_⟩
  ·rcases List.mem_cons.mp m with rfl | m
   ·have e:=h1.rg
    show _/\_<3 + (((zG B (varOf B ds t).1 ts).1).length:Int)
    (refine rwE hZ ?_;refine rwE List.length_append ?_)
    exact ⟨e.1,liZ [_,_] [_] (.a (.v 0) (.k 1)) (.a (.k 3) (.c (.a (.v 0) (.v 1)))) [(1,.L (.a (.v 0) (.k 1)) (.a (.k 3) (.c (.v 0))))] tT9 e.2⟩
   ·exact h2.rg v m
  ·show zK (grow row (zG B (varOf B ds t).1 ts).1) (varOf B ds t).2::(zG B (varOf B ds t).1 ts).2.map (zK (grow row (zG B (varOf B ds t).1 ts).1))=_
   (refine rwE (h2.val row hr) ?_;refine rwE List.map_cons ?_)
   congr 1
   ·(refine rwE hZ ?_;refine rwE (we hr h1.rg.1 h1.rg.2) ?_;refine rwE (h1.val row hr) ?_;rfl)
   ·refine List.map_congr_left λ u m=>?_
    (refine rwE hX ?_;refine rwE (YI (h u (by simp [m])).1.ps hr) ?_;rfl)
  ·show ((zG B (varOf B (_++Y) t).1 ts).1,(varOf B (_++Y) t).2::(zG B (varOf B (_++Y) t).1 ts).2)=_
   have e1:varOf B ((zG B (varOf B ds t).1 ts).1++Y) t=((zG B (varOf B ds t).1 ts).1++Y,(varOf B ds t).2):=by
    (refine rwE hZ ?_;refine rwE (List.append_assoc ..) ?_)
    exact h1.again (Z++Y)
   have e2:=h2.again Y
   show ((zG B (varOf B ((zG B (varOf B ds t).1 ts).1++Y) t).1 ts).1,(varOf B ((zG B (varOf B ds t).1 ts).1++Y) t).2::(zG B (varOf B ((zG B (varOf B ds t).1 ts).1++Y) t).1 ts).2)=_
   refine rwE e1 ?_
   dsimp only
   refine rwE e2 ?_
   rfl
set_option tactic.hygienic false
structure ExtR (r:Dr)(B:Int->Int×Int)(ds:List Dd)(mx:Bool)(ts:List Th)(R:List Dd×Int):Prop where
 g:GD r R.1
 ex:∃ X,R.1=ds++X/\X.length<=ts.length + 1
 gt:GT r R.1 (.sum [(R.2,1)] 0)
 val:∀ row,BRow r row->zO (grow row R.1) (.sum [(R.2,1)] 0)=zP mx (ts.map (zO (grow row ds)))
 again:ZN B R.1 mx ts=R
theorem WC {r:Dr}{ds:List Dd}{i:Nat}{d:Dd}(g:GD r ds)(h:ds[i]?=some d):GT r ds (.sum [(((3 + i:Nat):Int),1)] 0):=by
 have hs:=g.sm d (Q1 h)
 refine ⟨.one (Int.natCast_nonneg _) (liZ [_,_] [] (.a (.c (.a (.k 3) (.v 0))) (.k 1)) (.a (.k 3) (.c (.v 1))) [(1,.l (.a (.v 0) (.k 1)) (.v 1))] tT9 (Qh h)) (by decide) (by decide) (by decide),of_decide_eq_true rfl,?_⟩
 show -10<=0 + ZC (1 * (Bv r ds ((3 + i:Nat):Int)).1) [1 * (Bv r ds ((3 + i:Nat):Int)).2]/\0 + zu (1 * (Bv r ds ((3 + i:Nat):Int)).1) [1 * (Bv r ds ((3 + i:Nat):Int)).2]<=10
 refine rwE (wj h) ?_
 show -10<=0 + (if 1 * d.hi<1 * d.lo then 1 * d.hi else 1 * d.lo)/\0 + (if 1 * d.lo<1 * d.hi then 1 * d.hi else 1 * d.lo)<=10
 refine rwE (Int.one_mul d.hi) ?_
 refine rwE (Int.one_mul d.lo) ?_
 refine rwE (if_neg (Int.not_lt.mpr hs.2.1)) ?_
 exact ⟨Int.le_trans hs.1 (Int.le_of_eq (Int.zero_add _).symm),by refine rwE (Int.zero_add _) ?_;split;exact hs.2.2;exact Int.le_trans hs.2.1 hs.2.2⟩
theorem uD {row:List Int}{x:Int}:zO row (.sum [(x,1)] 0)=zK row x:=by simp [zO,zD,cOf,Zg,Zf]
theorem wU {r:Dr}{B:Int->Int×Int}{ds:List Dd}{mx:Bool}{ts:List Th}(o:r.Ok)(g:GD r ds)(hne:ts≠[])(hl:ts.length<64)(h:∀ t,t∈ts->GT r ds t/\bounds B t=bounds (Bv r ds) t):ExtR r B ds mx ts (ZN B ds mx ts):=by
 have V:=Y9 o g h
 refine Eea (V.ex) λ X hX hXl=>?_
 have hvl:=yy B ts ds
 have hvne:(zG B ds ts).2≠[]:=λ e=>by rw [e] at hvl;exact hne (List.length_eq_zero_iff.mp (by simpa using hvl.symm))
 have hval:∀ row,BRow r row->zP mx ((zG B ds ts).2.map (zK (grow row (zG B ds ts).1)))=zP mx (ts.map (zO (grow row ds))):=λ row hr=>by (refine rwE (V.val row hr) ?_;rfl)
 have e0:ZN B ds mx ts=Zr (zG B ds ts).1 mx (zG B ds ts).2 (zP mx (ts.map λ t=>(bounds B t).1)) (zP mx (ts.map λ t=>(bounds B t).2)):=rfl
 have eA:∀ Y,ZN B ((zG B ds ts).1++Y) mx ts=Zr ((zG B ds ts).1++Y) mx (zG B ds ts).2 (zP mx (ts.map λ t=>(bounds B t).1)) (zP mx (ts.map λ t=>(bounds B t).2)):=λ Y=>by
  unfold ZN;(refine rwE (V.again Y) ?_;rfl)
 cases hk:ZP (ZJ (.ext mx (zG B ds ts).2)) 3 (zG B ds ts).1 with
 | some j =>
  have e1:ZN B ds mx ts=((zG B ds ts).1,(j:Int)):=by refine rwE e0 ?_;unfold Zr;(refine rwE hk ?_;rfl)
  (refine Eeeaa (yL hk) λ i d q2q=>?_;obtain rfl:=q2q;intro hd hky)
  refine rwE e1 ?_
  refine ⟨V.g,⟨X,hX,by exact Nat.le_succ_of_le hXl⟩,WC V.g hd,λ row hr=>?_,?_⟩
  ·have e2:=(Yz (V.g.all row hr) hd).1
   rw [hr.len] at e2
   dsimp only
   (refine rwE uD ?_;refine rwE e2 ?_;refine rwE (Uc (d':=.ext mx (zG B ds ts).2) hky) ?_)
   exact hval row hr
  ·have:=eA []
   rw [List.append_nil] at this
   dsimp only
   refine rwE this ?_
   unfold Zr;(refine rwE hk ?_;rfl)
 | none =>
  have e1:ZN B ds mx ts=((zG B ds ts).1++[⟨.ext mx (zG B ds ts).2,zP mx (ts.map λ t=>(bounds B t).1),zP mx (ts.map λ t=>(bounds B t).2)⟩],((3 + (zG B ds ts).1.length:Nat):Int)):=by refine rwE e0 ?_;unfold Zr;(refine rwE hk ?_;rfl)
  have lo:=Yy mx hne (f:=λ t=>(bounds B t).1) (a:=-10) (b:=10) λ t m=>by
   refine Ea (h t m) λ a b=>?_
   refine rwE b ?_;exact ⟨a.bd.1,Int.le_trans (a.le o g) a.bd.2⟩
  have hi:=Yy mx hne (f:=λ t=>(bounds B t).2) (a:=-10) (b:=10) λ t m=>by
   refine Ea (h t m) λ a b=>?_
   refine rwE b ?_;exact ⟨Int.le_trans a.bd.1 (a.le o g),a.bd.2⟩
  have le:=Qd mx (ts:=ts) (f:=λ t=>(bounds B t).1) (g:=λ t=>(bounds B t).2) λ t m=>by
   refine Ea (h t m) λ a b=>?_
   refine rwE b ?_;exact a.le o g
  have hdok:∀ row,BRow r row->DOk (grow row (zG B ds ts).1) ⟨.ext mx (zG B ds ts).2,zP mx (ts.map λ t=>(bounds B t).1),zP mx (ts.map λ t=>(bounds B t).2)⟩:=λ row hr=>by
   have w1:=Qd mx (ts:=ts) (f:=λ t=>(bounds B t).1) (g:=zO (grow row ds)) λ t m=>by
    refine Ea (h t m) λ a b=>?_
    refine rwE b ?_;exact (yP o g a.ps hr).1
   have w2:=Qd mx (ts:=ts) (f:=zO (grow row ds)) (g:=λ t=>(bounds B t).2) λ t m=>by
    refine Ea (h t m) λ a b=>?_
    refine rwE b ?_;exact (yP o g a.ps hr).2
   refine ⟨⟨hvne,by refine rwE hvl ?_;exact hl,λ v m=>?_⟩,by dsimp only;exact Int.le_trans (oD9 rfl) lo.1,by dsimp only;exact Int.le_trans hi.2 (oD9 rfl),?_,?_⟩
   ·have:=V.rg v m
    refine rwE (Zk hr) ?_
    exact ⟨this.1,this.2⟩
   ·show _<=zP mx _
    refine rwE (hval row hr) ?_;exact w1
   ·show zP mx _<=_
    refine rwE (hval row hr) ?_;exact w2
  have G2:=V.g.snoc hdok ⟨lo.1,le,hi.2⟩
  have hd:((zG B ds ts).1++[⟨.ext mx (zG B ds ts).2,zP mx (ts.map λ t=>(bounds B t).1),zP mx (ts.map λ t=>(bounds B t).2)⟩]:List Dd)[(zG B ds ts).1.length]?=some ⟨.ext mx (zG B ds ts).2,zP mx (ts.map λ t=>(bounds B t).1),zP mx (ts.map λ t=>(bounds B t).2)⟩:=List.getElem?_concat_length
  refine rwE e1 ?_
  refine ⟨G2,⟨X++[_],by dsimp only;(refine rwE hX ?_;refine rwE (List.append_assoc ..) ?_;rfl),by simp only [List.length_append,List.length_singleton];exact Nat.succ_le_succ hXl⟩,WC G2 hd,λ row hr=>?_,?_⟩
  ·dsimp only
   (refine rwE uD ?_;refine rwE (qh ..) ?_)
   have e3:((3 + (zG B ds ts).1.length:Nat):Int)=((grow row (zG B ds ts).1).length:Nat):=by (refine rwE (Zk hr) ?_;rfl)
   refine rwE e3 ?_
   show zK (grow row (zG B ds ts).1++[_]) _=_
   refine rwE qB ?_
   exact hval row hr
  ·dsimp only
   refine rwE (eA ..) ?_
   unfold Zr
   have:=uI (es:=[]) hk (d:=⟨.ext mx (zG B ds ts).2,zP mx (ts.map λ t=>(bounds B t).1),zP mx (ts.map λ t=>(bounds B t).2)⟩) rfl
   rw [List.append_nil] at this
   (refine rwE this ?_;rfl)
theorem yA (a:Int):(0:Int) + 1 * a=a:=by rw [Int.one_mul,Int.zero_add]
theorem QN {a:Int}(h:-2<=a)(h':a<=2):-1000000<=a/\a<=1000000:=⟨Int.le_trans (oD9 rfl) h,Int.le_trans h' (oD9 rfl)⟩
theorem jK {N x:Int}(hN:N<=1000)(h:0<=x)(h':x<N):-9223372036854775808<=x/\x<9223372036854775808:=⟨Int.le_trans (oD9 rfl) h,Int.lt_of_lt_of_le h' (Int.le_trans hN (oD9 rfl))⟩
theorem w8 {N:Int}{ps:List (Int×Int)}(hN:N<=1000)(h:PsOk N ps):YD 1 [] ps=ps/\YF 1 [] ps/\(zk 1 [] ps).length<=2/\∀ x,x∈(zk 1 [] ps).map (·.1)->0<=x/\x<N:=by
 have in_:∀ {ps:List (Int×Int)},PsOk N ps->zk 1 [] ps=ps->(zk 1 [] ps).length<=2/\∀ x,x∈(zk 1 [] ps).map (·.1)->0<=x/\x<N:=λ h e=>by
  rw [e];exact ⟨h.len,λ x m=>Eea (List.mem_map.mp m) λ p m e=>e▸(h.mem p m).1⟩
 have h0:=h
 cases h with
 | nil=>exact ⟨rfl,trivial,in_ h0 rfl⟩
 | @one x a h1 h2 h3 h4 h5 =>
  have e:zk 1 [] [(x,a)]=[(x,a)]:=congrArg (λ v=>[(x,v)]) (yA a)
  refine ⟨?_,⟨QN h4 h5,(yA a).symm▸QN h4 h5,jK hN h1 h2,Nat.zero_le _,trivial⟩,in_ h0 e⟩
  show Zm (zk 1 [] [(x,a)]) (zg ((zk 1 [] [(x,a)]).map (·.1)))=_
  rw [e]
  show (if (zq x [(x,a)]).getD 0=0 then [] else [(x,(zq x [(x,a)]).getD 0)])=_
  rw [show zq x [(x,a)]=some a from if_pos rfl]
  exact if_neg h3
 | @two x a y b h1 h2 h3 h4 h5 h6 h7 h8 h9 =>
  have hxy:¬ x=y:=Int.ne_of_lt h2
  have g:zq y [(x,a)]=none:=if_neg hxy
  have g1:qX x (0 + 1 * a) []=[(x,a)]:=congrArg (λ v=>[(x,v)]) (yA a)
  have g2:(zq y [(x,a)]).getD 0 + 1 * b=b:=by rw [g];exact yA b
  have e:zk 1 [] [(x,a),(y,b)]=[(x,a),(y,b)]:=by
   show qX y ((zq y (qX x (0 + 1 * a) [])).getD 0 + 1 * b) (qX x (0 + 1 * a) [])=_
   rw [g1,g2]
   show (if x=y then [(x,b)] else (x,a)::[(y,b)])=_
   exact if_neg hxy
  refine ⟨?_,⟨QN h5 h6,(yA a).symm▸QN h5 h6,jK hN h1 (Int.lt_trans h2 h3),Nat.zero_le _,QN h8 h9,?_,jK hN (Int.le_of_lt (Int.lt_of_le_of_lt h1 h2)) h3,Nat.le_of_ble_eq_true rfl,trivial⟩,in_ h0 e⟩
  ·show Zm (zk 1 [] [(x,a),(y,b)]) (zg ((zk 1 [] [(x,a),(y,b)]).map (·.1)))=_
   rw [e]
   show Zm [(x,a),(y,b)] (if x<=y then [x,y] else [y,x])=_
   rw [if_pos (Int.le_of_lt h2)]
   show (if (zq x [(x,a),(y,b)]).getD 0=0 then (if (zq y [(x,a),(y,b)]).getD 0=0 then [] else [(y,(zq y [(x,a),(y,b)]).getD 0)]) else (x,(zq x [(x,a),(y,b)]).getD 0)::(if (zq y [(x,a),(y,b)]).getD 0=0 then [] else [(y,(zq y [(x,a),(y,b)]).getD 0)]))=_
   rw [show zq x [(x,a),(y,b)]=some a from if_pos rfl,show zq y [(x,a),(y,b)]=some b from (if_neg hxy).trans (if_pos rfl)]
   rw [if_neg (show ¬ (some a).getD 0=0 from h4),if_neg (show ¬ (some b).getD 0=0 from h7)]
   rfl
  ·show -1000000<=(zq y (qX x (0 + 1 * a) [])).getD 0 + 1 * b/\(zq y (qX x (0 + 1 * a) [])).getD 0 + 1 * b<=1000000
   rw [g1,g2];exact QN h8 h9
theorem XH (ps:List (Int×Int))(c:Int):zD (Jv ps c)=ps/\cOf (Jv ps c)=c:=by
 cases ps <;> exact ⟨rfl,rfl⟩
noncomputable def same (t:Th):Th:=Jv (zD t) (cOf t)
theorem zBB {r:Dr}{ds:List Dd}{t:Th}(h:GT r ds t):GT r ds (same t):=by
 refine Ea (XH (zD t) (cOf t)) λ e1 e2=>?_
 unfold same
 refine ⟨by refine rwE e1 ?_;exact h.ps,by refine rwE e2 ?_;exact h.c,?_⟩
 unfold bounds
 (refine rwE e1 ?_;refine rwE e2 ?_)
 exact h.bd
theorem Xz {row:List Int}{t:Th}:zO row (same t)=zO row t:=by
 refine Ea (XH (zD t) (cOf t)) λ e1 e2=>?_
 unfold zO same
 (refine rwE e1 ?_;refine rwE e2 ?_;rfl)
noncomputable def psB (ps:List (Int×Int)):Bool:=@List.casesOn _ (λ _=>Bool) ps true λ p r=>@List.casesOn _ (λ _=>Bool) r (decide (0<=p.1/\p.1<3/\p.2≠0/\-2<=p.2/\p.2<=2)) λ q r=>@List.casesOn _ (λ _=>Bool) r (decide (0<=p.1/\p.1<q.1/\q.1<3/\p.2≠0/\-2<=p.2/\p.2<=2/\q.2≠0/\-2<=q.2/\q.2<=2)) λ _ _=>false
theorem zE3 {ps:List (Int×Int)}(h:psB ps=true):PsOk 3 ps:=by
 cases ps with
 | nil=>exact .nil
 | cons p r=>cases r with
  | nil=>have h:=of_decide_eq_true h;exact .one h.1 h.2.1 h.2.2.1 h.2.2.2.1 h.2.2.2.2
  | cons q r=>cases r with
   | nil=>have h:=of_decide_eq_true h;exact .two h.1 h.2.1 h.2.2.1 h.2.2.2.1 h.2.2.2.2.1 h.2.2.2.2.2.1 h.2.2.2.2.2.2.1 h.2.2.2.2.2.2.2.1 h.2.2.2.2.2.2.2.2
   | cons _ _=>exact absurd h Bool.false_ne_true
noncomputable def gtB (r:Dr)(t:Th):Bool:=psB (zD t)&&decide ((-10<=cOf t/\cOf t<=10)/\-10<=(bounds (Bv r []) t).1/\(bounds (Bv r []) t).2<=10)
theorem zEi {r:Dr}{t:Th}(h:gtB r t=true):GT r [] t:=atE h λ a b=>⟨zE3 a,(of_decide_eq_true b).1,(of_decide_eq_true b).2⟩
noncomputable def Qq (a:Int)(n:Nat):List Int:=(List.range n).map λ (j:Nat)=>a + j
theorem ZV {a b:Int}{n:Nat}(h:a<=b)(hb:b<a + n):b∈Qq a n :=
 List.mem_map.mpr ⟨(b - a).toNat,List.mem_range.mpr ((Int.toNat_lt (Int.sub_nonneg_of_le h)).mpr (Int.sub_left_lt_of_lt_add hb)),(Int.add_comm _ _).trans ((congrArg (· + a) (Int.toNat_of_nonneg (Int.sub_nonneg_of_le h))).trans (Int.sub_add_cancel b a))⟩
theorem zES {b:Int}(h:b=0∨b=1):b∈Qq 0 2:=by
 rcases h with rfl | rfl
 ·exact ZV (Int.le_refl _) (oD9 rfl)
 ·exact ZV (oD9 rfl) (oD9 rfl)
theorem vO:((Qq (-1) 3).all λ a=>(Qq 0 2).all λ h=>(Qq (-1) 2).all λ b=>(Qq (-2) 6).all λ k=>(zM k).all λ p=>gtB ⟨a,h,b⟩ p.1)=true:=by kernel_rfl
theorem J6 {r:Dr}{k:Int}(o:r.Ok)(hk:-2<=k/\k<=3):∀ p,p∈zM k->GT r [] p.1:=λ p m =>
 zEi (List.all_eq_true.mp (List.all_eq_true.mp (List.all_eq_true.mp (List.all_eq_true.mp (List.all_eq_true.mp vO r.low (ZV o.low.1 (Int.lt_of_le_of_lt o.low.2 (oD9 rfl)))) r.hole (ZV o.hole.1 (Int.lt_of_le_of_lt o.hole.2 (oD9 rfl)))) r.base (ZV o.base.1 (Int.lt_of_le_of_lt o.base.2 (oD9 rfl)))) k (ZV hk.1 (Int.lt_of_le_of_lt hk.2 (oD9 rfl)))) p m)
noncomputable def jo (ms row:List Int):Int:=ms.getD 0 0 * row.getD 0 0 + ms.getD 1 0 * row.getD 1 0 + ms.getD 2 0 * row.getD 2 0 + ms.getD 3 0
theorem wd:((Qq (-1) 6).all λ p=>(Qq (-1) 3).all λ q=>(Qq 0 2).all λ b=>(Qq (-2) 6).all λ k=>(zM k).all λ t=>decide (zO [p,q,b] t.1=jo t.2 [p,q,b]))=true:=by kernel_rfl
theorem Ug {r:Dr}{k p q b:Int}(o:r.Ok)(hk:-2<=k/\k<=3)(hr:BRow r [p,q,b]):∀ t,t∈zM k->zO [p,q,b] t.1=jo t.2 [p,q,b]:=λ t m=>by
 refine Ea o.low λ o1 p1=>?_
 refine Ea o.hole λ o2 p2=>?_
 refine Ea o.base λ o3 p3=>?_
 refine Eeeeaaa hr.h λ p' q' b' e hp hq hb=>?_
 cases e
 refine Ea (zDx o2 hp) λ a1 a2=>?_
 refine Ea (zCC hq) λ b1 b2=>?_
 exact of_decide_eq_true (List.all_eq_true.mp (List.all_eq_true.mp (List.all_eq_true.mp (List.all_eq_true.mp (List.all_eq_true.mp wd p (ZV (Int.le_trans o1 a1) (by show p<5;exact liZ [] [_,_,_] (.a (.v 0) (.k 1)) (.k 5) [(1,.L (.v 1) (.k 1)),(1,.L (.v 2) (.k 1)),(1,.L (.v 0) (.a (.a (.v 1) (.k 2)) (.v 2)))] tT9 p1 p2 a2))) q (ZV (Int.le_trans o3 b1) (by show q<2;exact liZ [] [_,_] (.a (.v 0) (.k 1)) (.k 2) [(1,.L (.v 1) (.k 0)),(1,.L (.v 0) (.a (.v 1) (.k 1)))] tT9 p3 b2))) b (zES hb)) k (ZV hk.1 (Int.lt_of_le_of_lt hk.2 (oD9 rfl)))) t m)
structure Law1A (C:Cx):Prop where
 X:Law1X C
 refused:∀ {n:Nat} {fd:MO} {nm:Str} {vars tolds:List PyData} {made:List (Ky×D)} {τ:zA} {Q:D->zA->Prop},Few nm.cps.size->Q (.p (.tuple [.str (Str.ofString "refused"),.none])) (zB fd (.p .none) vars tolds made++τ) ->
  SatCall C T1 (n + 12) 508 [.obj 2,.p (.str nm),.p (.list []),.p .none] (zB fd (.p .none) vars tolds made++τ) Q
 quiet:∀ {n:Nat} {fd:MO} {nm:Str} {some:List PyData} {found:PyData} {vars tolds vars' tolds':List PyData} {made made':List (Ky×D)} {τ:zA} {Q:D->zA->Prop},some.length<=1000 ->
  (∀ Q':D->zA->Prop,Q' (.p found) (zB fd (.p .none) vars' tolds' made'++τ)->SatCall C T1 (n + 9) 384 [.obj 2,.p (.str nm),.p (.list some),.p (.int 0)] (zB fd (.p .none) vars tolds made++τ) Q') ->
  Q (.p (.tuple [found,.none])) (zB fd (.p .none) vars' tolds' made'++τ)->SatCall C T1 (n + 12) 508 [.obj 2,.p (.str nm),.p (.list some),.p .none] (zB fd (.p .none) vars tolds made++τ) Q
 within:∀ {n:Nat} {fd:MO} {nm:Str} {some xs ys:List PyData} {found:PyData} {vars tolds vars' tolds':List PyData} {made made':List (Ky×D)} {τ:zA} {Q:D->zA->Prop},some.length<=1000->xs.length<=1000->clM 8 (.tdict made')=true ->
  (∀ Q':D->zA->Prop,Q' (.p found) (zB fd (.obj (8 + τ.length)) vars' tolds' made'++(τ++[.lst ys]))->SatCall C T1 (n + 9) 384 [.obj 2,.p (.str nm),.p (.list some),.p (.int 0)] (zB fd (.obj (8 + τ.length)) vars tolds made++(τ++[.lst xs])) Q') ->
  Q (.p (.tuple [found,.list ys])) (zB fd (.p .none) vars' tolds' made'++τ)->SatCall C T1 (n + 12) 508 [.obj 2,.p (.str nm),.p (.list some),.p (.list xs)] (zB fd (.p .none) vars tolds made++τ) Q
noncomputable def y3 (B:Int->Int×Int)(ds:List Dd)(mx:Bool):List Th->List Dd×Th
 | []=>(ds,.num 0)
 | [t]=>(ds,same t)
 | t::t'::ts=>((ZN B ds mx (t::t'::ts)).1,.sum [((ZN B ds mx (t::t'::ts)).2,1)] 0)
noncomputable def Xd (t:Th):Prop:=(∃ ps c,t=.sum ps c)∨∃ c,t=.num c
theorem v9 (t:Th):Xd (same t):=by
 unfold same
 cases zD t with
 | nil=>exact .inr ⟨_,rfl⟩
 | cons p ps=>exact .inl ⟨_,_,rfl⟩
structure AskR (r:Dr)(B:Int->Int×Int)(ds:List Dd)(mx:Bool)(ts:List Th)(R:List Dd×Th):Prop where
 g:GD r R.1
 ex:∃ X,R.1=ds++X/\X.length<=ts.length + 1
 gt:GT r R.1 R.2
 num:Xd R.2
 val:∀ row,BRow r row->zO (grow row R.1) R.2=zP mx (ts.map (zO (grow row ds)))
 again:y3 B R.1 mx ts=R
theorem Vr {r:Dr}{B:Int->Int×Int}{ds:List Dd}{mx:Bool}{ts:List Th}(o:r.Ok)(g:GD r ds)(hne:ts≠[])(hl:ts.length<64)(h:∀ t,t∈ts->GT r ds t/\bounds B t=bounds (Bv r ds) t):AskR r B ds mx ts (y3 B ds mx ts):=by
 match ts,hne with
 | [t],_=>exact ⟨g,⟨[],by simp [y3],by simp⟩,zBB (h t (by simp)).1,v9 t,λ row hr=>by
   show zO (grow row ds) (same t)=_
   refine rwE Xz ?_
   cases mx <;> rfl,rfl⟩
 | t::t'::ts,_ =>
  have E:=wU (mx:=mx) o g (by simp) hl h
  refine ⟨E.g,E.ex,E.gt,.inl ⟨_,_,rfl⟩,E.val,?_⟩
  show ((ZN B (ZN B ds mx (t::t'::ts)).1 mx (t::t'::ts)).1,Th.sum [((ZN B (ZN B ds mx (t::t'::ts)).1 mx (t::t'::ts)).2,1)] 0)=_
  refine rwE E.again ?_
  rfl
theorem vo:∀ (ds:List Dd) (k i:Nat) (d:Dd),ds[i]?=some d->(zb k ds)[i]?=some (.tuple [Zi (k + i),z5 d.lo d.hi]):=by
 intro ds
 induction ds with
 | nil=>intro k i d e;exact nn e
 | cons d ds ih =>
  intro k i d' e
  cases i with
  | zero=>cases so e;rfl
  | succ i =>
   have:=ih (k + 1) i d' e
   rw [Nat.add_assoc,Nat.add_comm 1 i] at this
   exact this
theorem zCd {r:Dr}{ds:List Dd}{x:Int}(o:r.Ok)(hl:ds.length<=900)(h:0<=x)(hx:x<3 + ds.length):HasDom (r.vb++zb 3 ds) x (Bv r ds x):=by
 have o2:=o.hole
 refine yH (P:=λ x b=>HasDom (r.vb++zb 3 ds) x b) h hx ?_ ⟨by decide,by decide,.str (Str.ofString "y"),r.base,r.base + 1,[],r.base,r.base + 1,[],rfl,rfl,rfl⟩ ⟨by decide,by decide,.str (Str.ofString "b"),0,1,[],0,1,[],rfl,rfl,rfl⟩ λ i d e=>?_
 ·have:r.hole=0∨r.hole=1:=by lia
  refine ⟨by decide,by decide,.str (Str.ofString "x"),?_⟩
  obtain ⟨low,hole,base⟩:=r
  rcases this with e | e
  ·cases (show hole=0 from e)
   exact ⟨low,low + 2,[],low,low + 2,[],rfl,rfl,congrArg (λ z=>(low,z)) (Int.add_zero _)⟩
  ·cases (show hole=1 from e)
   exact ⟨low,low + 1,[.tuple [.int (low + 3),.int (low + 3)]],low + 3,low + 3,[.tuple [.int low,.int (low + 1)]],rfl,rfl,congrArg (λ z=>(low,z)) (Int.add_assoc _ _ _)⟩
 ·have hi:=Qh e
  refine ⟨Int.natCast_nonneg _,liZ [_,_] [] (.c (.a (.k 3) (.v 0))) (.k 10000) [(1,.l (.v 1) (.k 900)),(1,.l (.a (.v 0) (.k 1)) (.v 1))] tT9 hl hi,Zi (3 + i),d.lo,d.hi,[],d.lo,d.hi,[],?_,rfl,rfl⟩
  refine rwE (Int.toNat_natCast ..) ?_
  refine rwE (List.getElem?_append_right (Nat.le_add_right 3 i)) ?_
  show (zb 3 ds)[3 + i - 3]?=_
  refine rwE (Nat.add_sub_cancel_left ..) ?_
  exact vo ds 3 i d e
theorem zEr {r:Dr}{B:Int->Int×Int}{ds:List Dd}{t:Th}(o:r.Ok)(g:GD r ds)(hl:ds.length<=900)(h:GT r ds t)(hB:∀ p,p∈zD t->B p.1=Bv r ds p.1):TG r.vb B ds t:=by
 have e:bounds B t=bounds (Bv r ds) t:=Qe hB
 have hb:=h.bd
 refine ⟨Nat.le_trans h.ps.len (nB9 rfl),λ p m=>?_,by refine rwE e ?_;exact h.le o g,by refine rwE e ?_;exact Int.le_trans (oD9 rfl) hb.1,by refine rwE e ?_;exact Int.le_trans hb.2 (oD9 rfl)⟩
 refine Ea (h.ps.mem p m) λ m1 m2=>?_
 refine rwE (hB p m) ?_
 have s:=wO o g m1.1 m1.2
 exact ⟨zCd o hl m1.1 m1.2,⟨Int.le_trans (oD9 rfl) m2.1,Int.le_trans m2.2 (oD9 rfl)⟩,⟨Int.le_trans (oD9 rfl) s.1,Int.le_trans s.2.1 (Int.le_trans s.2.2 (oD9 rfl))⟩,⟨Int.le_trans (oD9 rfl) (Int.le_trans s.1 s.2.1),Int.le_trans s.2.2 (oD9 rfl)⟩⟩
section
variable {C:Cx}{n:Nat}{fd:MO}{pt:D}{τ:zA}{Q:D->zA->Prop}
theorem zAv (L:Law1 C){r:Dr}{B:Int->Int×Int}{ds:List Dd}{mx:Bool}{ts:List Th}{sp:PyData}(o:r.Ok)(g:GD r ds)(hne:ts≠[])(hl:ts.length<=10)(hds:ds.length<=800)(h:∀ t,t∈ts->GT r ds t/\∀ p,p∈zD t->B p.1=Bv r ds p.1)
  (q:Q (.p (enc (y3 B ds mx ts).2)) (stt fd pt r.vb (y3 B ds mx ts).1++τ)):SatCall C T1 (n + 9) 384 [.obj 2,.p (.str (z6 mx)),.p (.list (ts.map enc)),.p sp] (stt fd pt r.vb ds++τ) Q:=by
 match ts,hne with
 | [t],_ =>
  have ht:=(h t (by simp)).1
  refine qN (w8 (by exact liZ [_] [] (.a (.k 3) (.c (.v 0))) (.k 1000) [(1,.l (.v 0) (.k 800))] tT9 hds) ht.ps) λ e1 e2 e3 e4=>?_
  have:=ht.ps.len
  refine SatCall.up (wf (n:=n) L (by have:=ht.c;exact ⟨Int.le_trans (oD9 rfl) this.1,Int.le_trans this.2 (oD9 rfl)⟩) (by exact Nat.le_trans this (nB9 rfl)) e2 ⟨by exact lin [_] [] (.a (.v 0) (.k 1)) (.k 64) [(1,.l (.v 0) (.k 2))] tT9 e3,λ x m=>by have:=e4 x m;exact ⟨Int.le_trans (oD9 rfl) this.1,liZ [_] [_] (.a (.v 0) (.k 1)) (.k 9223372036854775808) [(1,.l (.v 0) (.k 800)),(1,.L (.a (.v 0) (.k 1)) (.a (.k 3) (.c (.v 0))))] tT9 hds this.2⟩⟩ ?_) (by exact lin [_] [] (.a (.v 0) (.k 4)) (.a (.v 0) (.k 9)) [] tT9)
  refine rwE e1 ?_
  exact q
 | t::t'::ts,_ =>
  have hb:∀ u,u∈t::t'::ts->bounds B u=bounds (Bv r ds) u:=λ u m=>Qe (h u m).2
  have lo:=Yy mx (ts:=t::t'::ts) (by simp) (f:=λ t=>(bounds B t).1) (a:=-10) (b:=10) λ t m=>by
   have a:=(h t m).1
   refine rwE (hb t m) ?_;exact ⟨a.bd.1,Int.le_trans (a.le o g) a.bd.2⟩
  have hi:=Yy mx (ts:=t::t'::ts) (by simp) (f:=λ t=>(bounds B t).2) (a:=-10) (b:=10) λ t m=>by
   have a:=(h t m).1
   refine rwE (hb t m) ?_;exact ⟨Int.le_trans a.bd.1 (a.le o g),a.bd.2⟩
  have le:=Qd mx (ts:=t::t'::ts) (f:=λ t=>(bounds B t).1) (g:=λ t=>(bounds B t).2) λ t m=>by
   refine rwE (hb t m) ?_;exact (h t m).1.le o g
  exact SatCall.up (W8 (n:=n) L rfl (by simp only [List.length_cons] at hl;exact lin [_,_] [] (.a (.v 0) (.a (.v 1) (.k 2))) (.k 900) [(1,.l (.v 0) (.k 800)),(1,.l (.a (.a (.v 1) (.k 1)) (.k 1)) (.k 10))] tT9 hds hl) (λ u m=>zEr o g (by exact Nat.le_trans hds (nB9 rfl)) (h u m).1 (h u m).2) le (by exact Int.le_trans (oD9 rfl) lo.1) (by exact Int.le_trans hi.2 (oD9 rfl)) q) (by exact lin [_] [] (.a (.v 0) (.k 6)) (.a (.v 0) (.k 9)) [] tT9)
end
section
variable {C:Cx}{n:Nat}{Q:D->zA->Prop}
theorem WK {d0 d1 d2 d3 d4 d5 d6 d7 d8 d9 d10 d11 d12 d13 d14 d15 d16 d17 d18 d19 d20 d21 d22 d23 d24 d25:Option D}{σ:zA}{K:List PyData×zA->Prop}:∀ (l:List (Th×List Int)) (acc:List PyData),acc.length + l.length<=1000->K (acc++l.map λ p=>enc p.1,σ) ->
  zJ (zF C T1 n (elW C T1 n (.nm 27)) (.tup [(.nm 27),(.nm 28)]) [] [] [d0,d1,d2,d3,d4,d5,d6,d7,d8,d9,d10,d11,d12,d13,d14,d15,d16,d17,d18,d19,d20,d21,d22,d23,d24,d25,none,none,none] none) (ZO l) (acc,σ) K:=by
 intro l
 induction l with
 | nil =>
  intro acc _ h
  simpa [ZO,zw,zt] using h
 | cons p l ih =>
  intro acc hl h
  simp only [List.length_cons] at hl
  show zF _ _ _ _ _ _ _ _ _ (PyData.tuple [enc p.1,.tuple (p.2.map .int)]) _ (λ a'=>zJ _ (ZO l) a' K)
  walk_at "st"
  exact ⟨by exact lin [_,_] [] (.v 0) (.k 100000) [(1,.l (.a (.v 0) (.a (.v 1) (.k 1))) (.k 1000))] tT9 hl,ih _ (by simp;exact lin [_,_] [] (.a (.a (.v 0) (.k 1)) (.v 1)) (.k 1000) [(1,.l (.a (.v 0) (.a (.v 1) (.k 1))) (.k 1000))] tT9 hl) (by simpa using h)⟩
noncomputable def vI (script low hole base things:D)(late asked pool:Nat):Rho :=
 [some script,some (.obj 0),some (.obj 2),some (.obj late),some (.obj asked),some low,some hole,some base,some things,some (.obj pool),none,none,none,none,none,none,none,none,none,none,none,none,none,none,none,none]
theorem VZ (A:Law1A C){ns:List Int}(hl:ns.length<=63)
  (h:∀ r:Dr,r.Ok->∀ k:Int,-2<=k/\k<=3->wpSs C T1 59 (b_law.drop 7) (vI (.p (.list (ns.map .int))) (.p (.int r.low)) (.p (.int r.hole)) (.p (.int r.base)) (.p (.list (ZO (zM k)))) 8 9 10)
   (stt (ZG (ns.take 40) 4) (.p .none) r.vb []++[.idict [],.lst [],.lst ((zM k).map λ p=>enc p.1)]) λ fl _ σ'=>qa [] Q fl σ') :
  SatCall C T1 60 542 [.p (.list (ns.map .int))] [] Q:=by
 have L:=A.X.L
 refine zN L.Y L.TT L.law rfl ?_
 generalize hS:(λ (fl:Fl) (_:Rho) (σ':zA)=>qa [] Q fl σ')=S at h ⊢
 have e:b_law=b_law.take 7++b_law.drop 7:=(List.take_append_drop ..).symm
 refine rwE e ?_
 generalize b_law.drop 7=tail at h ⊢
 unfold b_law
 simp only [List.take,List.cons_append,List.nil_append]
 refine zH ?_
 walk_at "st"
 refine ⟨by refine rwE (List.length_map ..) ?_;exact Nat.le_trans hl (nB9 rfl),Nat.le_trans (List.length_take_le ..) (nB9 rfl),?_⟩
 have hf:MO.rdict [(13,D.p (PyData.list (List.take 40 (List.map PyData.int ns)))),(14,D.p (PyData.int 0))]=ZG (ns.take 40) 0:=by
  unfold ZG;refine rwE List.map_take ?_;rfl
 refine rwE hf ?_
 refine SatCall.up (xW (n:=0) A.X ?_) (by exact Nat.le_add_left _ _)
 have hcl:(ns.take 40).length<=100:=Nat.le_trans (List.length_take_le ..) (nB9 rfl)
 generalize ns.take 40=cells at hf hcl h ⊢
 show wpSs C T1 59 _ [some (.p (.list (ns.map .int))),some (.obj 0),some (.obj 2),some (.obj 8),some (.obj 9),none,none,none,none,none,none,none,none,none,none,none,none,none,none,none,none,none,none,none,none,none] (zB (ZG cells 0) (.p .none) [] [] []++[.idict [],.lst []]) S
 refine zH ?_
 walk_at "st"
 refine qD L ⟨by decide,by decide⟩ (by decide) hcl λ v0 a0 b0=>?_
 walk_at "st"
 refine qD L ⟨by decide,by decide⟩ (by decide) hcl λ v1 a1 b1=>?_
 walk_at "st"
 refine qD L ⟨by decide,by decide⟩ (by decide) hcl λ v2 a2 b2=>?_
 obtain ⟨r,hr⟩:∃ r:Dr,r=⟨v0 - 1,v1,v2 - 1⟩:=⟨_,rfl⟩
 have e1:v0 - 1=r.low:=by (refine rwE hr ?_;rfl)
 have e2:v1=r.hole:=by (refine rwE hr ?_;rfl)
 have e3:v2 - 1=r.base:=by (refine rwE hr ?_;rfl)
 have hro:r.Ok:=⟨by refine rwS e1 ?_;exact ⟨liZ [] [_] (.k (-1)) (.s (.v 0) (.k 1)) [(1,.L (.k 0) (.v 0))] tT9 a0,liZ [] [_] (.s (.v 0) (.k 1)) (.k 1) [(1,.L (.a (.v 0) (.k 1)) (.k 3))] tT9 b0⟩,by refine rwS e2 ?_;exact ⟨a1,liZ [] [_] (.v 0) (.k 1) [(1,.L (.a (.v 0) (.k 1)) (.k 2))] tT9 b1⟩,by refine rwS e3 ?_;exact ⟨liZ [] [_] (.k (-1)) (.s (.v 0) (.k 1)) [(1,.L (.k 0) (.v 0))] tT9 a2,liZ [] [_] (.s (.v 0) (.k 1)) (.k 0) [(1,.L (.a (.v 0) (.k 1)) (.k 2))] tT9 b2⟩⟩
 walk_at "st"
 (refine rwE e1 ?_;refine rwE e2 ?_;refine rwE e3 ?_)
 refine zH ?_
 walk_at "st"
 have key:∀ K:D->zA->Prop,K (.p (.int 0)) (zB (ZG cells 3) (.p .none) [.tuple [.str (Str.ofString "x"),r.domX]] [] []++[.idict [],.lst []]) ->
   Br (r.hole==0) (SatCall C T1 59 144 [.obj 4,.p (.str (Str.ofString "x")),.p (.tuple [.tuple [.int r.low,.int (r.low + 2)]])] (zB (ZG cells 3) (.p .none) [] [] []++[.idict [],.lst []]) K)
    (SatCall C T1 59 144 [.obj 4,.p (.str (Str.ofString "x")),.p (.tuple [.tuple [.int r.low,.int (r.low + 1)],.tuple [.int (r.low + 3),.int (r.low + 3)]])] (zB (ZG cells 3) (.p .none) [] [] []++[.idict [],.lst []]) K):=λ K k =>
  y8 (λ e=>qv L (by decide) (by unfold Dr.domX at k;rw [e] at k;exact k)) (λ e=>qv L (by decide) (by unfold Dr.domX at k;rw [e] at k;exact k))
 refine key _ ?_
 walk_at "st"
 refine zH ?_
 walk_at "st"
 refine qv L (by simp) ?_
 walk_at "st"
 refine zH ?_
 walk_at "st"
 refine qv L (by simp) ?_
 walk_at "st"
 refine zH ?_
 walk_at "st"
 refine qD L ⟨by decide,by decide⟩ (by decide) hcl λ v3 a3 b3=>?_
 walk_at "st"
 refine vm L ?_
 refine zH ?_
 walk_at "st"
 refine ⟨by simp [ZO,zM],WK (zM (v3 - 2)) [] (by simp [zM]) ?_⟩
 have go:=h r hro (v3 - 2) (by exact ⟨liZ [] [_] (.k (-2)) (.s (.v 0) (.k 2)) [(1,.L (.k 0) (.v 0))] tT9 a3,liZ [] [_] (.s (.v 0) (.k 2)) (.k 3) [(1,.L (.a (.v 0) (.k 1)) (.k 6))] tT9 b3⟩)
 exact go
end
noncomputable def ZD (zz:Option (List PyData)):PyData:=@Option.casesOn _ (λ _=>PyData) zz .none (λ l=>.list l)
noncomputable def AhOk (a:Option (List PyData)):Prop:=a=none∨a=some []∨a=some [.tuple [.str (Str.ofString "bit"),.int 2,.bool true]]
theorem AhOk.len {l:List PyData}(h:AhOk (some l)):l.length<=1:=by
 rcases h with h | h | h
 ·cases h
 ·cases h;simp
 ·cases h;simp
theorem qC (a b:Int):(QH a b).length=(b - a).toNat:=by simp [QH]
theorem jU {x y:PyData}(h:PyData.depth x<=64):Sh x y:=Nat.le_trans (Nat.min_le_left _ _) h
theorem zHz {x y:PyData}(h:PyData.depth y<=64):Sh x y:=Nat.le_trans (Nat.min_le_right _ _) h
theorem zA0 {v:Int}{K:D->Prop}(a:0<=v)(b:v<2)(k:∀ mx:Bool,K (.p (.str (z6 mx)))):QW [.str (Str.ofString "max"),.str (Str.ofString "min")] (.p (.int v)) K:=by
 have:v=0∨v=1:=by lia
 rcases this with rfl | rfl
 ·exact ⟨⟨by decide,by decide⟩,k true⟩
 ·exact ⟨⟨by decide,by decide⟩,k false⟩
theorem Wa {v:Int}{K:D->Prop}(a:0<=v)(b:v<3)(k:∀ o,AhOk o->K (.p (ZD o))):QW [.none,.list [],.list [.tuple [.str (Str.ofString "bit"),.int 2,.bool true]]] (.p (.int v)) K:=by
 have:v=0∨v=1∨v=2:=by lia
 rcases this with rfl | rfl | rfl
 ·exact ⟨⟨by decide,by decide⟩,k none (.inl rfl)⟩
 ·exact ⟨⟨by decide,by decide⟩,k (some []) (.inr (.inl rfl))⟩
 ·exact ⟨⟨by decide,by decide⟩,k (some _) (.inr (.inr rfl))⟩
noncomputable def Zh (pl:List Th)(v:Int):Th:=pl.getD v.toNat (.num 0)
theorem jJ {pl:List Th}{v:Int}(h:0<=v/\v<pl.length):Zh pl v∈pl:=by
 unfold Zh
 have:v.toNat<pl.length:=by exact lin [v.toNat,pl.length] [v] (.a (.v 0) (.k 1)) (.v 1) [(1,.L (.a (.v 0) (.k 1)) (.c (.v 1))),(1,.E (.c (.v 0)) (.v 0))] tT9 h.2 (Int.toNat_of_nonneg h.1)
 (refine rwE List.getD_eq_getElem?_getD ?_;refine rwE (List.getElem?_eq_getElem this) ?_;refine rwE Option.getD_some ?_)
 exact List.getElem_mem this
section
variable {C:Cx}{n:Nat}{fd:MO}{τ:zA}{Q:D->zA->Prop}
theorem Jn:∀ (k:Nat) (ds:List Dd),clM 8 (.tdict (ZW k ds))=true
 | _,[]=>rfl
 | k,_::r=>Jn (k + 1) r
theorem uL (A:Law1A C){r:Dr}{B:Int->Int×Int}{ds:List Dd}{mx:Bool}{ts:List Th}{a:Option (List PyData)}(o:r.Ok)(g:GD r ds)(ha:AhOk a)(hne:ts≠[])(hl:ts.length<=10)(hds:ds.length<=800)(h:∀ t,t∈ts->GT r ds t/\∀ p,p∈zD t->B p.1=Bv r ds p.1)
  (q:Q (.p (.tuple [enc (y3 B ds mx ts).2,ZD a])) (stt fd (.p .none) r.vb (y3 B ds mx ts).1++τ)):SatCall C T1 (n + 12) 508 [.obj 2,.p (.str (z6 mx)),.p (.list (ts.map enc)),.p (ZD a)] (stt fd (.p .none) r.vb ds++τ) Q:=by
 have L:=A.X.L
 cases a with
 | none=>exact A.quiet (by refine rwE (List.length_map ..) ?_;exact Nat.le_trans hl (nB9 rfl)) (λ Q' q'=>zAv L o g hne hl hds h q') q
 | some xs =>
  have:=ha.len
  exact A.within (by refine rwE (List.length_map ..) ?_;exact Nat.le_trans hl (nB9 rfl)) (by exact Nat.le_trans this (nB9 rfl)) (Jn _ _) (λ Q' q'=>zAv L o g hne hl hds h q') q
theorem Xx (A:Law1A C){r:Dr}{ds:List Dd}{mx:Bool}{a:Option (List PyData)}(ha:AhOk a)
  (q:Q (.p (match a with | none=>.tuple [.str (Str.ofString "refused"),.none] | some xs=>.tuple [.int 0,.list (xs++[.bool false])])) (stt fd (.p .none) r.vb ds++τ)):SatCall C T1 (n + 12) 508 [.obj 2,.p (.str (z6 mx)),.p (.list []),.p (ZD a)] (stt fd (.p .none) r.vb ds++τ) Q:=by
 have L:=A.X.L
 cases a with
 | none=>exact A.refused (by cases mx;exact UM;exact Un) q
 | some xs =>
  have:=ha.len
  exact A.within (by simp) (by exact Nat.le_trans this (nB9 rfl)) (Jn _ _) (λ Q' q'=>SatCall.up (wk (n:=n) L (by exact Nat.le_trans this (nB9 rfl)) q') (by exact lin [_] [] (.a (.v 0) (.k 2)) (.a (.v 0) (.k 9)) [] tT9)) q
theorem xE (L:Law1 C){cells:List Int}{vars tolds:List PyData}{made:List (Ky×D)}{d0 d2 d3 d4 d5 d6 d7 d8 d10 d11 d12 d13 d14 d15 d16 d17 d18 d19 d20 d21 d22 d23 d24 d25:Option D}{x0 x1:MO}{pool:List PyData}{K:List PyData×zA->Prop}(hcl:cells.length<=100)(hp:0<pool.length/\pool.length<=1000) :
  ∀ (xs:List PyData) (acc:List PyData) (k:Nat),k + xs.length<=1000->acc.length + xs.length<=1000 ->
  (∀ vs:List Int,vs.length=xs.length->(∀ v,v∈vs->0<=v/\v<pool.length)->K (acc++vs.map .int,zB (ZG cells (k + xs.length)) (.p .none) vars tolds made++[x0,x1,.lst pool])) ->
  zJ (zF C T1 (n + 1) (elW C T1 (n + 1) (.call false (.gl 25) [(.nm 1),(.call false (.gl 0) [(.nm 9)])])) (.nm 27) [] [] [d0,some (.obj 0),d2,d3,d4,d5,d6,d7,d8,some (.obj 10),d10,d11,d12,d13,d14,d15,d16,d17,d18,d19,d20,d21,d22,d23,d24,d25,none,none] none) xs (acc,zB (ZG cells k) (.p .none) vars tolds made++[x0,x1,.lst pool]) K:=by
 intro xs
 induction xs with
 | nil =>
  intro acc k _ _ h
  simpa [zw,zt] using h [] rfl (by simp)
 | cons x xs ih =>
  intro acc k hk ha h
  simp only [List.length_cons] at hk ha h
  show zF _ _ _ _ _ _ _ _ _ x _ (λ a'=>zJ _ xs a' K)
  walk_at "st"
  have h10:(zB (ZG cells k) (.p .none) vars tolds made++[x0,x1,.lst pool])[10]?=some (.lst pool):=rfl
  simp only [h10]
  walk_at "st"
  refine ⟨by exact Nat.le_trans hp.2 (nB9 rfl),qD L (by exact ⟨liZ [_] [] (.a (.k 0) (.k 1)) (.c (.v 0)) [(1,.l (.a (.k 0) (.k 1)) (.v 0))] tT9 hp.1,liZ [_] [] (.c (.v 0)) (.k 1000) [(1,.l (.v 0) (.k 1000))] tT9 hp.2⟩) (by exact lin [_,_] [] (.v 0) (.k 10000) [(1,.l (.a (.v 0) (.a (.v 1) (.k 1))) (.k 1000))] tT9 hk) hcl λ v a b=>?_⟩
  refine ⟨by exact lin [_,_] [] (.v 0) (.k 100000) [(1,.l (.a (.v 0) (.a (.v 1) (.k 1))) (.k 1000))] tT9 ha,ih _ (k + 1) (by exact lin [_,_] [] (.a (.a (.v 0) (.k 1)) (.v 1)) (.k 1000) [(1,.l (.a (.v 0) (.a (.v 1) (.k 1))) (.k 1000))] tT9 hk) (by simp;exact lin [_,_] [] (.a (.a (.v 0) (.k 1)) (.v 1)) (.k 1000) [(1,.l (.a (.v 0) (.a (.v 1) (.k 1))) (.k 1000))] tT9 ha) λ vs e hv=>?_⟩
  have:=h (v::vs) (by simp [e]) (λ u m=>by rcases List.mem_cons.mp m with rfl | m;exact ⟨a,b⟩;exact hv u m)
  refine rwE (show k + 1 + xs.length=k + (xs.length + 1) by exact Nat.le_antisymm (lin [_,_] [] (.a (.a (.v 0) (.k 1)) (.v 1)) (.a (.v 0) (.a (.v 1) (.k 1))) [] tT9) (lin [_,_] [] (.a (.v 0) (.a (.v 1) (.k 1))) (.a (.a (.v 0) (.k 1)) (.v 1)) [] tT9)) ?_
  simpa using this
theorem W3 {d0 d1 d2 d3 d4 d5 d6 d7 d8 d10 d11 d12 d13 d14 d15 d16 d17 d18 d19 d20 d21 d22 d23 d24 d25:Option D}{i:Nat}{σ:zA}{pl:List Th}{K:List PyData×zA->Prop}(hi:σ[i]?=some (.lst (pl.map enc)))(hpl:pl.length<=1000) :
  ∀ (vs:List Int) (acc:List PyData),acc.length + vs.length<=1000->(∀ v,v∈vs->0<=v/\v<pl.length)->K (acc++(vs.map (Zh pl)).map enc,σ) ->
  zJ (zF C T1 n (elW C T1 n (.sub (.nm 9) (.nm 27))) (.nm 27) [] [] [d0,d1,d2,d3,d4,d5,d6,d7,d8,some (.obj i),d10,d11,d12,d13,d14,d15,d16,d17,d18,d19,d20,d21,d22,d23,d24,d25,none,none] none) (vs.map .int) (acc,σ) K:=by
 intro vs
 induction vs with
 | nil =>
  intro acc _ _ h
  simpa [zw,zt] using h
 | cons v vs ih =>
  intro acc ha hv h
  simp only [List.length_cons] at ha
  refine Ea (hv v (by simp)) λ v0 v1=>?_
  (refine Ee (Int.eq_ofNat_of_zero_le v0) λ j q2q=>?_;obtain rfl:=q2q)
  have hlt:j<pl.length:=by exact lin [_,_] [] (.a (.v 0) (.k 1)) (.v 1) [(1,.L (.a (.c (.v 0)) (.k 1)) (.c (.v 1)))] tT9 v1
  show zF _ _ _ _ _ _ _ _ _ (PyData.int (j:Nat)) _ (λ a'=>zJ _ (vs.map .int) a' K)
  walk_at "st"
  simp only [hi]
  walk_at "st"
  simp only [List.getElem?_map,List.getElem?_eq_getElem hlt,Option.map_some]
  walk_at "st"
  refine ⟨by lia,by exact lin [_,_] [] (.v 0) (.k 100000) [(1,.l (.a (.v 0) (.a (.v 1) (.k 1))) (.k 1000))] tT9 ha,ih _ (by simp;exact lin [_,_] [] (.a (.a (.v 0) (.k 1)) (.v 1)) (.k 1000) [(1,.l (.a (.v 0) (.a (.v 1) (.k 1))) (.k 1000))] tT9 ha) (λ u m=>hv u (by simp [m])) ?_⟩
  have e:Zh pl (j:Nat)=pl[j]:=by unfold Zh;(refine rwE (Int.toNat_natCast ..) ?_;refine rwE List.getD_eq_getElem?_getD ?_;refine rwE (List.getElem?_eq_getElem hlt) ?_;refine rwE Option.getD_some ?_;rfl)
  simpa [e] using h
end
theorem zCu:PyData.strOk (Str.ofString "sum")=true:=by decide +kernel
theorem WJ:PyData.strOk (Str.ofString "bit")=true:=by decide +kernel
theorem zCp:PyData.strOk (Str.ofString "linear_eq")=true:=by decide +kernel
theorem zCi (mx:Bool):PyData.strOk (z6 mx)=true:=by cases mx <;> decide +kernel
theorem ym:∀ l:List Int,PyData.canLayAll0 (l.map .int)=true
 | []=>by simp [PyData.canLayAll0]
 | x::l=>by simp [PyData.canLayAll0,PyData.canLay0,ym l]
theorem yB:∀ {a b:List PyData},PyData.canLayAll0 a=true->PyData.canLayAll0 b=true->PyData.canLayAll0 (a++b)=true
 | [],b,_,h=>h
 | x::a,b,h,h'=>by
  simp only [PyData.canLayAll0,Bool.and_eq_true] at h
  simp only [List.cons_append,PyData.canLayAll0,Bool.and_eq_true]
  exact ⟨h.1,yB h.2 h'⟩
theorem uM:∀ ps:List (Int×Int),PyData.canLayAll0 (zL ps)=true
 | []=>by simp [zL,PyData.canLayAll0]
 | p::ps=>by
  have:=uM ps
  unfold zL at *
  simp [PyData.canLayAll0,PyData.canLay0,this]
theorem zB8 (t:Th):PyData.canLay0 (enc t)=true:=by
 cases t with
 | tru b=>simp [enc,PyData.canLay0]
 | num i=>simp [enc,PyData.canLay0]
 | bit x s=>simp [enc,PyData.canLay0,PyData.canLayAll0,WJ]
 | sum ps c=>simp [enc,Zq,PyData.canLay0,PyData.canLayAll0,zCu,uM]
theorem W6 (t:Th):(enc t).depth<=3:=by
 cases t with
 | tru b=>simp [enc,PyData.depth]
 | num i=>simp [enc,PyData.depth]
 | bit x s=>simp [enc,PyData.depth,PyData.depthAll]
 | sum ps c =>
  have:=Jd ps
  simp only [enc,Zq,PyData.depth,PyData.depthAll]
  exact Nat.succ_le_succ (Nat.max_le.mpr ⟨Nat.zero_le _,Nat.max_le.mpr ⟨Nat.succ_le_succ this,Nat.max_le.mpr ⟨Nat.zero_le _,Nat.zero_le _⟩⟩⟩)
theorem VN (j:Nat)(d:Df):PyData.canLayAll0 (zQ j d)=true:=by
 cases d with
 | lin ps c =>
  simp only [zQ]
  split
  ·simp [PyData.canLayAll0]
  ·have h1:PyData.canLayAll0 (ps.map (λ p=>PyData.int p.2)++[.int (-1)])=true:=yB (by have:=ym (ps.map (·.2));simpa [List.map_map,Function.comp_def] using this) (by simp [PyData.canLayAll0,PyData.canLay0])
   have h2:PyData.canLayAll0 (ps.map (λ p=>PyData.int p.1)++[.int (j:Nat)])=true:=yB (by have:=ym (ps.map (·.1));simpa [List.map_map,Function.comp_def] using this) (by simp [PyData.canLayAll0,PyData.canLay0])
   simp [Yr,PyData.canLay0,PyData.canLayAll0,zCp,h1,h2]
 | ext mx vs=>simp [zQ,PyData.canLay0,PyData.canLayAll0,zCi,ym]
theorem Ww:∀ (ds:List Dd) (k:Nat),PyData.canLayAll0 (zV k ds)=true:=by
 intro ds
 induction ds with
 | nil =>
  intro k
  simp [ZH,ZI,PyData.canLayAll0]
 | cons d ds ih =>
  intro k
  exact yB (VN k d.d) (ih (k + 1))
theorem Zj:∀ {a b:List PyData} {n:Nat},PyData.depthAll a<=n->PyData.depthAll b<=n->PyData.depthAll (a++b)<=n
 | [],b,n,_,h=>h
 | x::a,b,n,h,h'=>by
  simp only [PyData.depthAll] at h
  simp only [List.cons_append,PyData.depthAll]
  have:=Zj (a:=a) (b:=b) (n:=n) (by exact (Nat.max_le.mp h).2) h'
  exact Nat.max_le.mpr ⟨(Nat.max_le.mp h).1,this⟩
theorem wR (j:Nat)(d:Df):PyData.depthAll (zQ j d)<=3:=by
 cases d with
 | lin ps c =>
  simp only [zQ]
  split
  ·simp [PyData.depthAll]
  ·have h1:PyData.depthAll (ps.map (λ p=>PyData.int p.2)++[.int (-1)])<=0:=Zj (by have:=qp (ps.map (·.2));simp [List.map_map,Function.comp_def] at this;simp [this]) (by simp [PyData.depthAll,PyData.depth])
   have h2:PyData.depthAll (ps.map (λ p=>PyData.int p.1)++[.int (j:Nat)])<=0:=Zj (by have:=qp (ps.map (·.1));simp [List.map_map,Function.comp_def] at this;simp [this]) (by simp [PyData.depthAll,PyData.depth])
   simp only [Yr,PyData.depth,PyData.depthAll]
   exact Nat.max_le.mpr ⟨Nat.succ_le_succ (Nat.max_le.mpr ⟨Nat.zero_le _,Nat.max_le.mpr ⟨Nat.succ_le_succ (Nat.le_trans h1 (Nat.zero_le _)),Nat.max_le.mpr ⟨Nat.succ_le_succ (Nat.le_trans h2 (Nat.zero_le _)),Nat.zero_le _⟩⟩⟩),Nat.zero_le _⟩
 | ext mx vs =>
  have:=qp vs
  simp only [zQ,PyData.depth,PyData.depthAll]
  exact Nat.max_le.mpr ⟨Nat.succ_le_succ (Nat.max_le.mpr ⟨Nat.zero_le _,Nat.max_le.mpr ⟨lin [_] [] (.a (.v 0) (.k 1)) (.k 2) [(1,.e (.v 0) (.k 0))] tT9 this,Nat.max_le.mpr ⟨Nat.zero_le _,Nat.zero_le _⟩⟩⟩),Nat.zero_le _⟩
theorem Qu:∀ (ds:List Dd) (k:Nat),PyData.depthAll (zV k ds)<=3:=by
 intro ds
 induction ds with
 | nil =>
  intro k
  simp [ZH,ZI,PyData.depthAll]
 | cons d ds ih =>
  intro k
  exact Zj (wR k d.d) (ih (k + 1))
theorem yJ (ds:List Dd)(k:Nat):PyData.eqvAll (zV k ds) (zV k ds)=true:=eqvAll_refl _ (Ww ds k)
theorem Vo (t:Th):PyData.eqv (enc t) (enc t)=true:=eqv_refl _ (zB8 t)
theorem J7 {a:Option (List PyData)}(h:AhOk a):PyData.canLay0 (ZD a)=true:=by
 rcases h with rfl | rfl | rfl <;> simp [ZD,PyData.canLay0,PyData.canLayAll0,WJ]
theorem jC {a:Option (List PyData)}(h:AhOk a):(ZD a).depth<=3:=by
 rcases h with rfl | rfl | rfl <;> simp [ZD,PyData.depth,PyData.depthAll]
theorem wI {a:Option (List PyData)}(h:AhOk a):PyData.eqv (ZD a) (ZD a)=true:=eqv_refl _ (J7 h)
noncomputable def wD:List St:=match b_law.drop 7 with
 | .for _ _ b::_=>b
 | _=>[]
noncomputable def zI (k:Int)(as:List (Bool×List Int×Th)):List Th:=(zM k).map (·.1)++as.map (·.2.2)
noncomputable def zd (as:List (Bool×List Int×Th)):List PyData:=as.map λ a=>.tuple [.str (z6 a.1),.list (a.2.1.map .int)]
structure AsOk (r:Dr)(ds:List Dd)(k:Int)(as:List (Bool×List Int×Th)):Prop where
 gt:∀ t,t∈zI k as->GT r ds t
 ok:∀ (i:Nat) (a:Bool×List Int×Th),as[i]?=some a->a.2.1≠[]/\a.2.1.length<=4/\(∀ v,v∈a.2.1->0<=v/\v<10 + (i:Int))/\Xd a.2.2/\∀ row,BRow r row->zO (grow row ds) a.2.2=zP a.1 (a.2.1.map λ v=>zO (grow row ds) (Zh (zI k as) v))
theorem QB (k:Int)(as:List (Bool×List Int×Th)):(zI k as).length=10 + as.length:=by simp [zI,zM];exact Nat.le_antisymm (lin [_] [] (.a (.a (.a (.a (.a (.a (.a (.a (.a (.a (.v 0) (.k 1)) (.k 1)) (.k 1)) (.k 1)) (.k 1)) (.k 1)) (.k 1)) (.k 1)) (.k 1)) (.k 1)) (.a (.k 10) (.v 0)) [] tT9) (lin [_] [] (.a (.k 10) (.v 0)) (.a (.a (.a (.a (.a (.a (.a (.a (.a (.a (.v 0) (.k 1)) (.k 1)) (.k 1)) (.k 1)) (.k 1)) (.k 1)) (.k 1)) (.k 1)) (.k 1)) (.k 1)) [] tT9)
theorem UY {pl ql:List Th}{v:Int}(h:0<=v/\v<pl.length):Zh (pl++ql) v=Zh pl v:=by
 unfold Zh
 (refine rwE List.getD_eq_getElem?_getD ?_;refine rwE List.getD_eq_getElem?_getD ?_;refine rwE (List.getElem?_append_left (by exact lin [v.toNat,pl.length] [v] (.a (.v 0) (.k 1)) (.v 1) [(1,.L (.a (.v 0) (.k 1)) (.c (.v 1))),(1,.E (.c (.v 0)) (.v 0))] tT9 h.2 (Int.toNat_of_nonneg h.1))) ?_;rfl)
theorem Qp (k:Int)(as:List (Bool×List Int×Th))(a:Bool×List Int×Th):zI k (as++[a])=zI k as++[a.2.2]:=by simp [zI]
theorem vM {r:Dr}{ds:List Dd}{k:Int}{as:List (Bool×List Int×Th)}{mx:Bool}{vs:List Int}{R:List Dd×Th}{B:Int->Int×Int}(h:AsOk r ds k as)(hne:vs≠[])(hl:vs.length<=4)(hv:∀ v,v∈vs->0<=v/\v<(zI k as).length)
  (a:AskR r B ds mx (vs.map (Zh (zI k as))) R):AsOk r R.1 k (as++[(mx,vs,R.2)]):=by
 refine Eea (a.ex) λ X hX _=>?_
 have hpl:=QB k as
 have hw:∀ t,t∈zI k as->∀ row,BRow r row->zO (grow row R.1) t=zO (grow row ds) t:=λ t m row hr=>by
  refine rwE hX ?_;exact YI (h.gt t m).ps hr
 refine ⟨λ t m=>?_,λ i b hb=>?_⟩
 ·rw [Qp] at m
  rcases List.mem_append.mp m with m | m
  ·refine rwE hX ?_;exact (h.gt t m).app
  ·rw [List.mem_singleton] at m;refine rwE m ?_;exact a.gt
 ·refine rwE (Qp ..) ?_
  by_cases hi:i<as.length
  ·rw [List.getElem?_append_left hi] at hb
   refine ub (h.ok i b hb) λ h1 h2 h3 h4 h5=>?_
   refine ⟨h1,h2,h3,h4,λ row hr=>?_⟩
   have hbm:b.2.2∈zI k as:=by
    unfold zI
    exact List.mem_append_right _ (List.mem_map_of_mem (List.mem_iff_getElem?.mpr ⟨i,hb⟩))
   (refine rwE (hw _ hbm row hr) ?_;refine rwE (h5 row hr) ?_)
   congr 1
   refine List.map_congr_left λ v m=>?_
   have hvv:0<=v/\v<((zI k as).length:Int):=⟨(h3 v m).1,Int.lt_of_lt_of_le (h3 v m).2 (by refine rwE hpl ?_;exact Int.ofNat_le.mpr (Nat.add_le_add_left (Nat.le_of_lt hi) 10))⟩
   (rewrite [UY hvv];refine rwE (hw _ (jJ hvv) row hr) ?_;rfl)
  ·have hi':i=as.length:=by
    have:=(List.getElem?_eq_some_iff.mp hb).1
    simp at this;exact Nat.le_antisymm (lin [_,_] [] (.v 0) (.v 1) [(1,.l (.a (.v 0) (.k 1)) (.a (.v 1) (.k 1)))] tT9 this) ((Nat.le_of_not_lt hi))
   subst hi'
   rw [List.getElem?_concat_length] at hb
   cases hb
   refine ⟨hne,hl,λ v m=>by have:=hv v m;exact ⟨this.1,liZ [as.length,(zI k as).length] [v] (.a (.v 0) (.k 1)) (.a (.k 10) (.c (.v 0))) [(1,.e (.v 1) (.a (.k 10) (.v 0))),(1,.L (.a (.v 0) (.k 1)) (.c (.v 1)))] tT9 hpl this.2⟩,a.num,λ row hr=>?_⟩
   (refine rwE (a.val row hr) ?_;refine rwE List.map_map ?_)
   congr 1
   refine List.map_congr_left λ v m=>?_
   have:=hv v m
   simp only [Function.comp_apply]
   (refine rwE (UY this) ?_;refine rwE (hw _ (jJ this) row hr) ?_;rfl)
section
variable {C:Cx}{n:Nat}{Q:D->zA->Prop}
theorem Vh (A:Law1A C){cells:List Int}{r:Dr}{kk:Int}{ds:List Dd}{k:Nat}{d0 d5 d6 d7 d8 u10 u11 u12 u13 u14 u15 u16 u17 u18 u19 u20 u21 u22 u23 u24 u25:Option D}{x:PyData}{as:List (Bool×List Int×Th)}{S:Fl->Rho->zA->Prop}{K:Rho×zA->Prop}(hcl:cells.length<=100)(o:r.Ok)(g:GD r ds)(ok:AsOk r ds kk as)(hk:k<=500)(hds:ds.length<=500)(has:as.length<=100)
  (hK:∀ (k':Nat) (ds':List Dd) (as':List (Bool×List Int×Th)) (v10 v11 v12 v13 v14 v15 v16 v17 v18 v19 v20 v21 v22 v23 v24 v25:Option D),k'<=k + 10->ds'.length<=ds.length + 5->as'.length<=as.length + 1->GD r ds'->AsOk r ds' kk as' ->
   K ([d0,some (.obj 0),some (.obj 2),some (.obj 8),some (.obj 9),d5,d6,d7,d8,some (.obj 10),v10,v11,v12,v13,v14,v15,v16,v17,v18,v19,v20,v21,v22,v23,v24,v25],stt (ZG cells k') (.p .none) r.vb ds'++[.idict [],.lst (zd as'),.lst ((zI kk as').map enc)])) :
  za C T1 (n + 12) (.nm 10) wD none S x ([d0,some (.obj 0),some (.obj 2),some (.obj 8),some (.obj 9),d5,d6,d7,d8,some (.obj 10),u10,u11,u12,u13,u14,u15,u16,u17,u18,u19,u20,u21,u22,u23,u24,u25],stt (ZG cells k) (.p .none) r.vb ds++[.idict [],.lst (zd as),.lst ((zI kk as).map enc)]) K:=by
 have L:=A.X.L
 have hpl:=QB kk as
 have hvl:(r.vb++zb 3 ds).length=3 + ds.length:=by (refine rwE List.length_append ?_;refine rwE (Zl ..) ?_);rfl
 have htl:=Za ds 3
 unfold wD b_law
 simp only [List.drop]
 unfold stt
 walk_at "st"
 refine zH ?_
 walk_at "st"
 refine qD L ⟨by decide,by decide⟩ (by exact Nat.le_trans hk (nB9 rfl)) hcl λ v0 a0 b0=>?_
 refine zA0 a0 b0 λ mx=>?_
 walk_at "st"
 refine qD L ⟨by decide,by decide⟩ (by exact lin [_] [] (.a (.v 0) (.k 1)) (.k 10000) [(1,.l (.v 0) (.k 500))] tT9 hk) hcl λ v1 a1 b1=>?_
 refine Wa a1 b1 λ a ha=>?_
 walk_at "st"
 refine zH ?_
 walk_at "st"
 refine qD L ⟨by decide,by decide⟩ (by exact lin [_] [] (.a (.a (.v 0) (.k 1)) (.k 1)) (.k 10000) [(1,.l (.v 0) (.k 500))] tT9 hk) hcl λ m a2 b2=>?_
 walk_at "st"
 refine ⟨by exact ⟨Int.le_trans (oD9 rfl) a2,Int.lt_of_lt_of_le b2 (oD9 rfl)⟩,by refine rwE (qC ..) ?_;exact lin [(m - 0).toNat] [m] (.v 0) (.k 100000) [(1,.L (.a (.v 0) (.k 1)) (.k 5)),(1,.E (.c (.v 0)) (.s (.v 0) (.k 0)))] tT9 b2 (Int.toNat_of_nonneg (liZ [] [_] (.k 0) (.s (.v 0) (.k 0)) [(1,.L (.k 0) (.v 0))] tT9 a2)),xE (pool:=(zI kk as).map enc) L hcl (by refine rwE (List.length_map ..) ?_;exact ⟨Nat.le_of_ble_eq_true rfl,lin [(zI kk as).length,as.length] [] (.v 0) (.k 1000) [(1,.l (.v 1) (.k 100)),(1,.e (.v 0) (.a (.k 10) (.v 1)))] tT9 has hpl⟩) _ [] _ (by refine rwE (qC ..) ?_;exact lin [k,(m - 0).toNat] [m] (.a (.a (.a (.a (.v 0) (.k 1)) (.k 1)) (.k 1)) (.v 1)) (.k 1000) [(1,.l (.v 0) (.k 500)),(1,.L (.a (.v 0) (.k 1)) (.k 5)),(1,.E (.c (.v 1)) (.s (.v 0) (.k 0)))] tT9 hk b2 (Int.toNat_of_nonneg (liZ [] [_] (.k 0) (.s (.v 0) (.k 0)) [(1,.L (.k 0) (.v 0))] tT9 a2))) (by (refine rwE (qC ..) ?_;refine rwE List.length_nil ?_);exact lin [(m - 0).toNat] [m] (.a (.k 0) (.v 0)) (.k 1000) [(1,.L (.a (.v 0) (.k 1)) (.k 5)),(1,.E (.c (.v 0)) (.s (.v 0) (.k 0)))] tT9 b2 (Int.toNat_of_nonneg (liZ [] [_] (.k 0) (.s (.v 0) (.k 0)) [(1,.L (.k 0) (.v 0))] tT9 a2))) λ vs hvsl hvs=>?_⟩
 rw [qC] at hvsl ⊢
 rw [List.length_map] at hvs
 generalize hk':k + 1 + 1 + 1 + (m - 0).toNat=k'
 have hk2:k'<=k + 10:=by refine rwS hk' ?_;exact Nat.add_le_add_left (k:=k + 3) (m:=7) (Int.toNat_le.mpr (by refine rwE (Int.sub_zero m) ?_;exact Int.le_of_lt (Int.lt_of_lt_of_le b2 (oD9 rfl))))
 simp only [zv,List.nil_append]
 refine zH ?_
 walk_at "st"
 refine ⟨by refine rwE (List.length_map ..) ?_;exact lin [vs.length,(m - 0).toNat] [m] (.v 0) (.k 100000) [(1,.L (.a (.v 0) (.k 1)) (.k 5)),(1,.e (.v 0) (.v 1)),(1,.E (.c (.v 1)) (.s (.v 0) (.k 0)))] tT9 b2 hvsl (Int.toNat_of_nonneg (liZ [] [_] (.k 0) (.s (.v 0) (.k 0)) [(1,.L (.k 0) (.v 0))] tT9 a2)),W3 (pl:=zI kk as) rfl (by exact lin [(zI kk as).length,as.length] [] (.v 0) (.k 1000) [(1,.l (.v 1) (.k 100)),(1,.e (.v 0) (.a (.k 10) (.v 1)))] tT9 has hpl) vs [] (by simp;exact lin [vs.length,(m - 0).toNat] [m] (.v 0) (.k 1000) [(1,.L (.a (.v 0) (.k 1)) (.k 5)),(1,.e (.v 0) (.v 1)),(1,.E (.c (.v 1)) (.s (.v 0) (.k 0)))] tT9 b2 hvsl (Int.toNat_of_nonneg (liZ [] [_] (.k 0) (.s (.v 0) (.k 0)) [(1,.L (.k 0) (.v 0))] tT9 a2))) hvs ?_⟩
 simp only [zv,List.nil_append]
 walk_at "st"
 refine QV L (by exact lin [(r.vb++zb 3 ds).length,ds.length] [] (.v 0) (.k 10000) [(1,.l (.v 1) (.k 500)),(1,.e (.v 0) (.a (.k 3) (.v 1)))] tT9 hds hvl) ?_
 walk_at "st"
 refine ⟨by exact lin [_,_] [] (.v 0) (.k 100000) [(1,.l (.v 1) (.k 500)),(1,.l (.v 0) (.v 1))] tT9 hds htl,?_⟩
 refine zH ?_
 walk_at "st"
 cases vs with
 | nil =>
  simp only [List.map_nil]
  refine Xx (r:=r) (ds:=ds) (n:=n) A ha ?_
  unfold stt
  cases a with
  | none =>
   walk_at "st"
   refine zH ?_
   walk_at "st"
   refine ⟨jU (by simp [PyData.depth,PyData.depthAll]),?_⟩
   simp only [ZD]
   walk_at "go"
   refine QV L (by exact lin [(r.vb++zb 3 ds).length,ds.length] [] (.v 0) (.k 10000) [(1,.l (.v 1) (.k 500)),(1,.e (.v 0) (.a (.k 3) (.v 1)))] tT9 hds hvl) ?_
   walk_at "st"
   have hdt:=Qu ds 3
   repeat walk_at "ds"
   simp only [yJ]
   walk_at "st"
   refine ⟨jU (by simp only [PyData.depth,PyData.depthAll];exact Nat.succ_le_succ (Nat.max_le.mpr ⟨Nat.zero_le _,Nat.max_le.mpr ⟨lin [_] [] (.a (.v 0) (.k 1)) (.k 63) [(1,.l (.v 0) (.k 3))] tT9 hdt,Nat.zero_le _⟩⟩)),?_⟩
   walk_at "go"
   exact hK k' ds as _ _ _ _ _ _ _ _ _ _ _ _ _ _ _ _ hk2 (by exact Nat.le_add_right _ _) (by exact Nat.le_add_right _ _) g ok
  | some xs =>
   have hxl:=ha.len
   simp only [ZD]
   walk_at "go"
   refine ⟨by exact Nat.le_trans hxl (nB9 rfl),?_⟩
   walk_at "go"
   have hlx:PyData.canLayAll0 (xs++[.bool false])=true:=yB (by have:=J7 ha;simpa [ZD,PyData.canLay0] using this) (by simp [PyData.canLayAll0,PyData.canLay0])
   have hdx:PyData.depthAll (xs++[.bool false])<=3:=Zj (by have:=jC ha;simp only [ZD,PyData.depth] at this;exact Nat.le_of_lt this) (by simp [PyData.depthAll,PyData.depth])
   repeat walk_at "ds"
   simp only [eqvAll_refl _ hlx]
   refine ⟨jU (by simp only [PyData.depth,PyData.depthAll];exact Nat.succ_le_succ (Nat.max_le.mpr ⟨Nat.zero_le _,Nat.max_le.mpr ⟨lin [_] [] (.a (.v 0) (.k 1)) (.k 63) [(1,.l (.v 0) (.k 3))] tT9 hdx,Nat.zero_le _⟩⟩)),?_⟩
   walk_at "go"
   refine QV L (by exact lin [(r.vb++zb 3 ds).length,ds.length] [] (.v 0) (.k 10000) [(1,.l (.v 1) (.k 500)),(1,.e (.v 0) (.a (.k 3) (.v 1)))] tT9 hds hvl) ?_
   walk_at "st"
   have hdt:=Qu ds 3
   repeat walk_at "ds"
   simp only [yJ]
   walk_at "st"
   refine ⟨jU (by simp only [PyData.depth,PyData.depthAll];exact Nat.succ_le_succ (Nat.max_le.mpr ⟨Nat.zero_le _,Nat.max_le.mpr ⟨lin [_] [] (.a (.v 0) (.k 1)) (.k 63) [(1,.l (.v 0) (.k 3))] tT9 hdt,Nat.zero_le _⟩⟩)),?_⟩
   walk_at "go"
   exact hK k' ds as _ _ _ _ _ _ _ _ _ _ _ _ _ _ _ _ hk2 (by exact Nat.le_add_right _ _) (by exact Nat.le_add_right _ _) g ok
 | cons v vs =>
  have ts_gt:∀ t,t∈(v::vs).map (Zh (zI kk as))->GT r ds t/\∀ p,p∈zD t->Bv r ds p.1=Bv r ds p.1:=λ t m=>by
   (refine Eea (List.mem_map.mp m) λ u hu q3q=>?_;obtain rfl:=q3q)
   exact ⟨ok.gt _ (jJ (hvs u hu)),λ _ _=>rfl⟩
  have hvl4:(v::vs).length<=4:=by exact lin [vs.length,(m - 0).toNat] [m] (.a (.v 0) (.k 1)) (.k 4) [(1,.L (.a (.v 0) (.k 1)) (.k 5)),(1,.e (.a (.v 0) (.k 1)) (.v 1)),(1,.E (.c (.v 1)) (.s (.v 0) (.k 0)))] tT9 b2 hvsl (Int.toNat_of_nonneg (liZ [] [_] (.k 0) (.s (.v 0) (.k 0)) [(1,.L (.k 0) (.v 0))] tT9 a2))
  have AR:=Vr (mx:=mx) o g (by simp) (by refine rwE (List.length_map ..) ?_;exact lin [_] [] (.a (.a (.v 0) (.k 1)) (.k 1)) (.k 64) [(1,.l (.a (.v 0) (.k 1)) (.k 4))] tT9 hvl4) (λ t m=>⟨(ts_gt t m).1,rfl⟩)
  refine Eea (AR.ex) λ X hX hXl=>?_
  rw [List.length_map] at hXl
  have ok':=vM ok (by simp) hvl4 hvs AR
  have ag:=AR.again
  refine uL (r:=r) (B:=Bv r ds) (ds:=ds) (n:=n) A o g ha (by simp) (by refine rwE (List.length_map ..) ?_;exact Nat.le_trans hvl4 (nB9 rfl)) (by exact Nat.le_trans hds (nB9 rfl)) ts_gt ?_
  generalize hR:y3 (Bv r ds) ds mx ((v::vs).map (Zh (zI kk as)))=R at *
  have hdsR:R.1.length<=ds.length + 5:=by (refine rwE hX ?_;refine rwE List.length_append ?_);exact lin [_,_,_] [] (.a (.v 0) (.v 1)) (.a (.v 0) (.k 5)) [(1,.l (.a (.v 2) (.k 1)) (.k 4)),(1,.l (.v 1) (.a (.a (.v 2) (.k 1)) (.k 1)))] tT9 hvl4 hXl
  have hvlR:(r.vb++zb 3 R.1).length=3 + R.1.length:=by (refine rwE List.length_append ?_;refine rwE (Zl ..) ?_);rfl
  have htlR:=Za R.1 3
  unfold stt
  have hda:=jC ha
  have hla:=wI ha
  walk_at "go"
  refine ⟨jU (by exact Nat.le_trans hda (nB9 rfl)),?_⟩
  simp only [hla]
  walk_at "go"
  have hnum:∀ {σ:zA} {Q:D->zA->Prop},Q (.p (.bool true)) σ->SatCall C T1 (n + 12) 515 [.p (enc R.2)] σ Q:=λ {σ Q} q=>by
   rcases AR.num with ⟨ps,c,e⟩ | ⟨c,e⟩
   ·refine rwE e ?_;exact jq L q
   ·refine rwE e ?_;exact jm L q
  refine hnum ?_
  walk_at "go"
  refine QV L (by exact lin [(r.vb++zb 3 R.fst).length,ds.length,R.fst.length] [] (.v 0) (.k 10000) [(1,.l (.v 1) (.k 500)),(1,.l (.v 2) (.a (.v 1) (.k 5))),(1,.e (.v 0) (.a (.k 3) (.v 2)))] tT9 hds hdsR hvlR) ?_
  walk_at "go"
  refine ⟨by exact lin [_,_,_] [] (.v 0) (.k 100000) [(1,.l (.v 1) (.k 500)),(1,.l (.v 2) (.a (.v 1) (.k 5))),(1,.l (.v 0) (.v 2))] tT9 hds hdsR htlR,?_⟩
  walk_at "go"
  refine uL (r:=r) (B:=Bv r ds) (ds:=R.1) (mx:=mx) (ts:=(v::vs).map (Zh (zI kk as))) (n:=n) A o AR.g ha (by simp) (by refine rwE (List.length_map ..) ?_;exact Nat.le_trans hvl4 (nB9 rfl)) (by exact lin [_,_] [] (.v 0) (.k 800) [(1,.l (.v 1) (.k 500)),(1,.l (.v 0) (.a (.v 1) (.k 5)))] tT9 hds hdsR) (λ t m=>⟨by refine rwE hX ?_;exact (ts_gt t m).1.app,λ p hp=>?_⟩) ?_
  ·have:=((ts_gt t m).1.ps.mem p hp).1
   (refine rwE hX ?_;refine rwE (WF this.1 this.2) ?_;rfl)
  refine rwE ag ?_
  unfold stt
  have hde:=W6 R.2
  have hse:=Vo R.2
  have hdt:=Qu R.1 3
  walk_at "st"
  simp only [hse,hla]
  refine ⟨jU (by simp only [PyData.depth,PyData.depthAll];exact Nat.succ_le_succ (Nat.max_le.mpr ⟨Nat.le_trans hde (nB9 rfl),Nat.max_le.mpr ⟨Nat.le_trans hda (nB9 rfl),Nat.zero_le _⟩⟩)),?_⟩
  walk_at "st"
  refine QV L (by exact lin [(r.vb++zb 3 R.fst).length,ds.length,R.fst.length] [] (.v 0) (.k 10000) [(1,.l (.v 1) (.k 500)),(1,.l (.v 2) (.a (.v 1) (.k 5))),(1,.e (.v 0) (.a (.k 3) (.v 2)))] tT9 hds hdsR hvlR) ?_
  walk_at "st"
  repeat walk_at "ds"
  simp only [yJ]
  refine ⟨jU (by simp only [PyData.depth,PyData.depthAll];exact Nat.succ_le_succ (Nat.max_le.mpr ⟨Nat.zero_le _,Nat.max_le.mpr ⟨lin [_] [] (.a (.v 0) (.k 1)) (.k 63) [(1,.l (.v 0) (.k 3))] tT9 hdt,Nat.zero_le _⟩⟩)),?_⟩
  walk_at "go"
  refine ⟨by refine rwE (List.length_map ..) ?_;exact lin [(zI kk as).length,as.length] [] (.v 0) (.k 100000) [(1,.l (.v 1) (.k 100)),(1,.e (.v 0) (.a (.k 10) (.v 1)))] tT9 has hpl,?_⟩
  have e10:∀ (fd:MO) (pt:D) (vars tolds:List PyData) (made:List (Ky×D)) (a b c x:MO),(zB fd pt vars tolds made++[a,b,c]).set 10 x=zB fd pt vars tolds made++[a,b,x]:=λ _ _ _ _ _ _ _ _ _=>rfl
  have e9:∀ (fd:MO) (pt:D) (vars tolds:List PyData) (made:List (Ky×D)) (a b c x:MO),(zB fd pt vars tolds made++[a,b,c]).set 9 x=zB fd pt vars tolds made++[a,x,c]:=λ _ _ _ _ _ _ _ _ _=>rfl
  refine rwE (e10 ..) ?_
  refine zH ?_
  walk_at "st"
  have g9:∀ (fd:MO) (pt:D) (vars tolds:List PyData) (made:List (Ky×D)) (a b c:MO),(zB fd pt vars tolds made++[a,b,c])[9]?=some b:=λ _ _ _ _ _ _ _ _=>rfl
  simp only [g9]
  walk_at "st"
  refine rwE (e9 ..) ?_
  refine ⟨by unfold zd;refine rwE (List.length_map ..) ?_;exact Nat.le_trans has (nB9 rfl),?_⟩
  have:=hK k' R.1 (as++[(mx,v::vs,R.2)]) (some (.p x)) (some (.p (.str (z6 mx)))) (some (.p (ZD a))) (some (.p (.list (.int v::vs.map .int)))) (some (.p (.list (enc (Zh (zI kk as) v)::(vs.map (Zh (zI kk as))).map enc)))) (some (.p (.int (r.vb++zb 3 R.1).length))) (some (.p (.list (zV 3 R.1)))) (some (.p (enc R.2))) (some (.p (ZD a))) u19 u20 u21 u22 u23 u24 u25 hk2 hdsR (by simp) AR.g ok'
  rw [Qp,List.map_append] at this
  unfold zd at this ⊢
  rw [List.map_append] at this
  exact this
end
set_option tactic.hygienic true
section
variable {C:Cx}{n:Nat}{Q:D->zA->Prop}
theorem zFa (A:Law1A C){cells:List Int}{r:Dr}{kk:Int}{d0 d5 d6 d7 d8:Option D}{S:Fl->Rho->zA->Prop}{K:Rho×zA->Prop}(hcl:cells.length<=100)(o:r.Ok) :
  ∀ (xs:List PyData) (ds:List Dd) (k:Nat) (as:List (Bool×List Int×Th)) (u10 u11 u12 u13 u14 u15 u16 u17 u18 u19 u20 u21 u22 u23 u24 u25:Option D),k + 10 * xs.length<=500->ds.length + 5 * xs.length<=500->as.length + xs.length<=100->GD r ds->AsOk r ds kk as ->
  (∀ (k':Nat) (ds':List Dd) (as':List (Bool×List Int×Th)) (v10 v11 v12 v13 v14 v15 v16 v17 v18 v19 v20 v21 v22 v23 v24 v25:Option D),ds'.length<=500->as'.length<=100->GD r ds'->AsOk r ds' kk as' ->
   K ([d0,some (.obj 0),some (.obj 2),some (.obj 8),some (.obj 9),d5,d6,d7,d8,some (.obj 10),v10,v11,v12,v13,v14,v15,v16,v17,v18,v19,v20,v21,v22,v23,v24,v25],stt (ZG cells k') (.p .none) r.vb ds'++[.idict [],.lst (zd as'),.lst ((zI kk as').map enc)])) ->
  zJ (za C T1 (n + 12) (.nm 10) wD none S) xs ([d0,some (.obj 0),some (.obj 2),some (.obj 8),some (.obj 9),d5,d6,d7,d8,some (.obj 10),u10,u11,u12,u13,u14,u15,u16,u17,u18,u19,u20,u21,u22,u23,u24,u25],stt (ZG cells k) (.p .none) r.vb ds++[.idict [],.lst (zd as),.lst ((zI kk as).map enc)]) K:=by
 intro xs
 induction xs with
 | nil =>
  intro ds k as u10 u11 u12 u13 u14 u15 u16 u17 u18 u19 u20 u21 u22 u23 u24 u25 h1 h2 h3 g ok hK
  exact hK k ds as u10 u11 u12 u13 u14 u15 u16 u17 u18 u19 u20 u21 u22 u23 u24 u25 (by simpa using h2) (by simpa using h3) g ok
 | cons x xs ih =>
  intro ds k as u10 u11 u12 u13 u14 u15 u16 u17 u18 u19 u20 u21 u22 u23 u24 u25 h1 h2 h3 g ok hK
  simp only [List.length_cons] at h1 h2 h3
  show za _ _ _ _ _ _ _ x _ (λ a'=>zJ _ xs a' K)
  refine Vh A hcl o g ok (by exact Nat.le_trans (Nat.le_add_right _ _) h1) (by exact Nat.le_trans (Nat.le_add_right _ _) h2) (by exact Nat.le_trans (Nat.le_add_right _ _) h3) λ k' ds' as' v10 v11 v12 v13 v14 v15 v16 v17 v18 v19 v20 v21 v22 v23 v24 v25 e1 e2 e3 g' ok'=>?_
  exact ih ds' k' as' _ _ _ _ _ _ _ _ _ _ _ _ _ _ _ _ (by exact lin [_,_,_] [] (.a (.v 0) (.m 10 (.v 1))) (.k 500) [(1,.l (.a (.v 2) (.m 10 (.a (.v 1) (.k 1)))) (.k 500)),(1,.l (.v 0) (.a (.v 2) (.k 10)))] tT9 h1 e1) (by exact lin [_,_,_] [] (.a (.v 0) (.m 5 (.v 1))) (.k 500) [(1,.l (.a (.v 2) (.m 5 (.a (.v 1) (.k 1)))) (.k 500)),(1,.l (.v 0) (.a (.v 2) (.k 5)))] tT9 h2 e2) (by exact lin [_,_,_] [] (.a (.v 0) (.v 1)) (.k 100) [(1,.l (.a (.v 2) (.a (.v 1) (.k 1))) (.k 100)),(1,.l (.v 0) (.a (.v 2) (.k 1)))] tT9 h3 e3) g' ok' hK
end
noncomputable def ZR:Df->List Int
 | .lin ps _=>ps.map (·.1)
 | .ext _ vs=>vs
noncomputable def j5:Nat->List Dd->Prop
 | _,[]=>True
 | k,d::r=>(∀ v,v∈ZR d.d->0<=v/\v<(k:Int))/\(ZR d.d).length<=70/\j5 (k + 1) r
theorem XI:∀ {ds:List Dd} {row:List Int},Z0 row ds->j5 row.length ds
 | [],_,_=>trivial
 | d::ds,row,h=>by
  (refine Ea (h) λ h1 h2=>?_;try clear h)
  have ih:=XI h2
  rw [List.length_append,List.length_singleton] at ih
  have ok:=h1.ok
  refine ⟨λ v m=>?_,?_,ih⟩
  ·cases e:d.d with
   | lin ps c =>
    rw [e] at ok m
    (refine Eea (List.mem_map.mp m) λ p hp q2q=>?_;obtain rfl:=q2q)
    exact (ok.1 p hp).1
   | ext mx vs =>
    rw [e] at ok m
    exact ok.2.2 v m
  ·cases e:d.d with
   | lin ps c =>
    rw [e] at ok
    simp only [ZR,List.length_map]
    have:=ok.2.1
    exact Nat.le_trans this (nB9 rfl)
   | ext mx vs =>
    rw [e] at ok
    have:=ok.2.1
    simp only [ZR];exact lin [_] [] (.v 0) (.k 70) [(1,.l (.a (.v 0) (.k 1)) (.k 64))] tT9 this
noncomputable def ze:Nat->Nat->List Dd->List (Int×D)
 | _,_,[]=>[]
 | k,b,d::r=>match zQ k d.d with
  | []=>ze (k + 1) b r
  | _::_=>((k:Int),.obj b)::ze (k + 1) (b + 1) r
noncomputable def QE (k:Nat)(ds:List Dd):zA:=(zV k ds).map λ t=>.lst [t]
theorem Z5:∀ {ds:List Dd} {k b:Nat} {p:Int},p<(k:Int)->zS p (ze k b ds)=none
 | [],_,_,_,_=>rfl
 | d::ds,k,b,p,h=>by
  unfold ze
  split
  ·exact Z5 (k:=k + 1) (by exact liZ [_] [_] (.a (.v 0) (.k 1)) (.c (.a (.v 0) (.k 1))) [(1,.L (.a (.v 0) (.k 1)) (.c (.v 0)))] tT9 h)
  ·have:=Z5 (ds:=ds) (k:=k + 1) (b:=b + 1) (p:=p) (by exact liZ [_] [_] (.a (.v 0) (.k 1)) (.c (.a (.v 0) (.k 1))) [(1,.L (.a (.v 0) (.k 1)) (.c (.v 0)))] tT9 h)
   unfold zS at this ⊢
   refine rwE List.find?_cons ?_
   have e:decide (((k:Int),D.obj b).1=p)=false:=by simp;exact Int.ne_of_gt (h)
   refine rwE e ?_;exact this
theorem jL {k:Nat}{d:Df}{t:PyData}{r:List PyData}(h:zQ k d=t::r):r=[]:=by
 have:=yM k d
 rw [h] at this
 exact List.length_eq_zero_iff.mp (by simp at this;exact List.length_eq_zero_iff.mpr this)
theorem Ji:∀ {ds:List Dd} {k b i:Nat} {d:Dd} {σ:zA},(∀ j t,(zV k ds)[j]?=some t->σ[b + j]?=some (.lst [t]))->ds[i]?=some d->LateAt σ (ze k b ds) ((k + i:Nat):Int) (zQ (k + i) d.d)
 | [],_,_,i,d,σ,_,h=>by simp at h
 | d0::ds,k,b,0,d,σ,hσ,h=>by
  simp at h;subst h
  refine rwE (Nat.add_zero ..) ?_
  unfold ze
  split
  ·rename_i e
   refine rwE e ?_
   exact .inl ⟨Z5 (by exact Int.le_refl _),rfl⟩
  ·rename_i t r e
   have hr:=jL e
   subst hr
   refine rwE e ?_
   refine .inr ⟨b,by simp [zS],?_⟩
   exact hσ 0 t (by simp [ZH,ZI,e])
 | d0::ds,k,b,i + 1,d,σ,hσ,h=>by
  unfold ze
  split
  ·rename_i e
   have:=Ji (ds:=ds) (k:=k + 1) (b:=b) (i:=i) (d:=d) (σ:=σ) (λ j t hj=>hσ j t (by simpa [ZH,ZI,e] using hj)) (by simpa using h)
   refine rwE (show k + (i + 1)=k + 1 + i by exact Nat.le_antisymm (lin [_,_] [] (.a (.v 0) (.a (.v 1) (.k 1))) (.a (.a (.v 0) (.k 1)) (.v 1)) [] tT9) (lin [_,_] [] (.a (.a (.v 0) (.k 1)) (.v 1)) (.a (.v 0) (.a (.v 1) (.k 1))) [] tT9)) ?_
   exact this
  ·rename_i t r e
   have hr:=jL e
   subst hr
   have:=Ji (ds:=ds) (k:=k + 1) (b:=b + 1) (i:=i) (d:=d) (σ:=σ) (λ j u hj=>by
    have:=hσ (j + 1) u (by simpa [ZH,ZI,e] using hj)
    refine rwE (show b + 1 + j=b + (j + 1) by exact Nat.le_antisymm (lin [_,_] [] (.a (.a (.v 0) (.k 1)) (.v 1)) (.a (.v 0) (.a (.v 1) (.k 1))) [] tT9) (lin [_,_] [] (.a (.v 0) (.a (.v 1) (.k 1))) (.a (.a (.v 0) (.k 1)) (.v 1)) [] tT9)) ?_;exact this) (by simpa using h)
   refine rwE (show k + (i + 1)=k + 1 + i by exact Nat.le_antisymm (lin [_,_] [] (.a (.v 0) (.a (.v 1) (.k 1))) (.a (.a (.v 0) (.k 1)) (.v 1)) [] tT9) (lin [_,_] [] (.a (.a (.v 0) (.k 1)) (.v 1)) (.a (.v 0) (.a (.v 1) (.k 1))) [] tT9)) ?_
   have hne:¬ ((k:Int)=((k + 1 + i:Nat):Int)):=by exact Int.ne_of_lt (liZ [_,_] [] (.a (.c (.v 0)) (.k 1)) (.c (.a (.a (.v 0) (.k 1)) (.v 1))) [] tT9)
   unfold LateAt at this ⊢
   have el:zS ((k + 1 + i:Nat):Int) (((k:Int),D.obj b)::ze (k + 1) (b + 1) ds)=zS ((k + 1 + i:Nat):Int) (ze (k + 1) (b + 1) ds):=by
    unfold zS
    refine rwE List.find?_cons ?_
    have e2:decide (((k:Int),D.obj b).1=((k + 1 + i:Nat):Int))=false:=by simpa using hne
    (refine rwE e2 ?_;rfl)
   refine rwE el ?_
   exact this
theorem vy {l:List Int}{k:Int}(hk:-1<=k)(h:∀ v,v∈l->v<=k):zu (-1) (l++[k])=k:=by
 refine Ea (qq (l++[k]) (-1)) λ h1 h2=>?_
 have h3:=h1 k (by simp)
 rcases List.mem_cons.mp h2 with e | e
 ·lia
 ·rcases List.mem_append.mp e with e | e
  ·have:=h _ e;exact Int.le_antisymm (this) (h3)
  ·rw [List.mem_singleton] at e;exact e
set_option tactic.hygienic false
noncomputable def ua:List St:=match b_law.drop 8 with
 | .for _ _ b::_=>b
 | _=>[]
section
variable {C:Cx}{n:Nat}{Q:D->zA->Prop}
theorem zB2 (L:Law1 C){σ:zA}{k:Nat}{d:Df}{t:PyData}(ht:zQ k d=[t])(hl:(ZR d).length<=70)(q:Q (.p (.tuple ((ZR d).map .int++[.int (k:Nat)]))) σ):SatCall C T1 (n + 1) 527 [.p t] σ Q:=by
 cases d with
 | lin ps c =>
  simp only [zQ] at ht
  split at ht
  ·cases ht
  ·cases ht
   refine rwE (Ub ..) ?_
   refine xD L ?_
   have e:(yK ps k).map (λ z=>PyData.int z.2)=(ZR (.lin ps c)).map .int++[.int (k:Nat)]:=by
    unfold yK ZR
    simp [List.map_map,Function.comp_def]
   refine rwE e ?_;exact q
 | ext mx vs =>
  simp only [zQ,List.cons.injEq,and_true] at ht
  subst ht
  exact xY L (by simp only [ZR] at hl;exact Nat.le_trans hl (nB9 rfl)) q
theorem Wo (L:Law1 C){fd:MO}{pt:D}{vars tolds:List PyData}{made:List (Ky×D)}{a b:MO}{d0 d1 d2 d4 d5 d6 d7 d8 d9 d10 d11 d12 d13 d14 d15 d16 d17 d18 d19 d21 d22 d23 d24 d25:Option D}{S:Fl->Rho->zA->Prop}{K:Rho×zA->Prop} :
  ∀ (ds:List Dd) (k:Nat) (es:List (Int×D)) (X:zA) (u20:Option D),j5 k ds->k + ds.length<=900->(∀ p,(k:Int)<=p->zS p es=none)->es.length<=k ->
  (∀ v20,K ([d0,d1,d2,some (.obj 8),d4,d5,d6,d7,d8,d9,d10,d11,d12,d13,d14,d15,d16,d17,d18,d19,v20,d21,d22,d23,d24,d25],zB fd pt vars tolds made++.idict (es++ze k (11 + X.length) ds)::a::b::(X++QE k ds))) ->
  zJ (za C T1 (n + 1) (.nm 20) ua (some (6,tolds)) S) (zV k ds) ([d0,d1,d2,some (.obj 8),d4,d5,d6,d7,d8,d9,d10,d11,d12,d13,d14,d15,d16,d17,d18,d19,u20,d21,d22,d23,d24,d25],zB fd pt vars tolds made++.idict es::a::b::X) K:=by
 intro ds
 induction ds with
 | nil =>
  intro k es X u20 _ _ _ _ h
  simpa [ZH,ZI,ze,QE,zw,zt] using h u20
 | cons d ds ih =>
  intro k es X u20 hr hk hes hel h
  obtain ⟨r1,r2,r3⟩:=hr
  simp only [List.length_cons] at hk
  cases ht:zQ k d.d with
  | nil =>
   have e1:zV k (d::ds)=zV (k + 1) ds:=by simp [ZH,ZI,ht]
   have e2:ze k (11 + X.length) (d::ds)=ze (k + 1) (11 + X.length) ds:=by simp only [ze,ht]
   refine rwE e1 ?_
   refine ih (k + 1) es X u20 r3 (by exact lin [_,_] [] (.a (.a (.v 0) (.k 1)) (.v 1)) (.k 900) [(1,.l (.a (.v 0) (.a (.v 1) (.k 1))) (.k 900))] tT9 hk) (λ p hp=>hes p (by exact Int.le_of_lt hp)) (by exact Nat.le_succ_of_le hel) λ v20=>?_
   have:=h v20
   rw [e2] at this
   unfold QE at *
   rw [e1] at this
   exact this
  | cons t rest =>
   have hrest:=jL ht
   subst hrest
   have e1:zV k (d::ds)=t::zV (k + 1) ds:=by simp [ZH,ZI,ht]
   have e2:ze k (11 + X.length) (d::ds)=((k:Int),.obj (11 + X.length))::ze (k + 1) (11 + X.length + 1) ds:=by simp only [ze,ht]
   refine rwE e1 ?_
   show za _ _ _ _ _ _ _ t _ (λ a'=>zJ _ (zV (k + 1) ds) a' K)
   unfold ua b_law
   simp only [List.drop]
   have h8:∀ (es:List (Int×D)) (Y:zA),(zB fd pt vars tolds made++.idict es::a::b::Y)[8]?=some (.idict es):=λ _ _=>rfl
   walk_at "st"
   refine zH ?_
   walk_at "st"
   simp only [h8]
   refine zB2 L ht r2 ?_
   have hi:ints? ((ZR d.d).map .int++[.int (k:Nat)])=some (ZR d.d++[(k:Int)]):=by
    have:=Ze (ZR d.d++[(k:Int)])
    rw [List.map_append] at this;exact this
   have hm:zu (-1) (ZR d.d++[(k:Int)])=k:=vy (by exact Int.natCast_nonneg _) λ v m=>by have:=r1 v m;exact Int.le_of_lt this.2
   have hlen:(zB fd pt vars tolds made++.idict es::a::b::X).length=11 + X.length:=by simp [zB];exact Nat.le_antisymm (lin [_] [] (.a (.a (.a (.a (.a (.a (.a (.a (.a (.a (.a (.v 0) (.k 1)) (.k 1)) (.k 1)) (.k 1)) (.k 1)) (.k 1)) (.k 1)) (.k 1)) (.k 1)) (.k 1)) (.k 1)) (.a (.k 11) (.v 0)) [] tT9) (lin [_] [] (.a (.k 11) (.v 0)) (.a (.a (.a (.a (.a (.a (.a (.a (.a (.a (.a (.v 0) (.k 1)) (.k 1)) (.k 1)) (.k 1)) (.k 1)) (.k 1)) (.k 1)) (.k 1)) (.k 1)) (.k 1)) (.k 1)) [] tT9)
   have happ:∀ y:MO,zB fd pt vars tolds made++.idict es::a::b::X++[y]=zB fd pt vars tolds made++.idict es::a::b::(X++[y]):=λ y=>by simp
   have s8:∀ (m m':MO) (Y:zA),(zB fd pt vars tolds made++m::a::b::Y).set 8 m'=zB fd pt vars tolds made++m'::a::b::Y:=λ _ _ _=>rfl
   have gN:∀ m y:MO,(zB fd pt vars tolds made++m::a::b::(X++[y]))[11 + X.length]?=some y:=λ m y=>by
    have e:zB fd pt vars tolds made++m::a::b::(X++[y])=(zB fd pt vars tolds made++m::a::b::X)++[y]:=by simp
    have e3:(zB fd pt vars tolds made++m::a::b::X).length=11 + X.length:=by simp [zB];exact hlen
    rw [e,<- e3,List.getElem?_concat_length]
   have sN:∀ m y z:MO,(zB fd pt vars tolds made++m::a::b::(X++[y])).set (11 + X.length) z=zB fd pt vars tolds made++m::a::b::(X++[z]):=λ m y z=>by
    have e:∀ y,zB fd pt vars tolds made++m::a::b::(X++[y])=(zB fd pt vars tolds made++m::a::b::X)++[y]:=λ y=>by simp
    have e3:(zB fd pt vars tolds made++m::a::b::X).length=11 + X.length:=by simp [zB];exact hlen
    rw [e,e,<- e3,qM]
   have g6:∀ (m:MO) (Y:zA),(zB fd pt vars tolds made++m::a::b::Y)[6]?=some (.lst tolds):=λ _ _=>rfl
   refine rwE hlen ?_
   simp only [happ]
   walk_at "st"
   have hkl:k<=900:=by exact Nat.le_trans (Nat.le_add_right _ _) hk
   simp only [hi]
   walk_at "st"
   simp only [h8]
   walk_at "st"
   simp only [hm,hes (k:Int) (Int.le_refl _),zDP,s8]
   walk_at "st"
   simp only [gN]
   walk_at "st"
   simp only [sN,g6]
   walk_at "st"
   refine ⟨by (refine rwE List.length_append ?_;refine rwE (List.length_map ..) ?_);simp only [List.length_singleton];exact lin [_] [] (.a (.k 1) (.a (.v 0) (.k 1))) (.k 100000) [(1,.l (.v 0) (.k 70))] tT9 r2,by exact lin [_,_,_] [] (.v 0) (.k 100000) [(1,.l (.a (.v 1) (.a (.v 2) (.k 1))) (.k 900)),(1,.l (.v 0) (.v 1))] tT9 hk hel,?_⟩
   have go:=ih (k + 1) (es++[((k:Int),.obj (11 + X.length))]) (X++[.lst [t]]) (some (.p t)) r3 (by exact lin [_,_] [] (.a (.a (.v 0) (.k 1)) (.v 1)) (.k 900) [(1,.l (.a (.v 0) (.a (.v 1) (.k 1))) (.k 900))] tT9 hk) (λ p hp=>?_) (by (refine rwE List.length_append ?_;refine rwE List.length_singleton ?_);exact Nat.succ_le_succ hel) (λ v20=>?_)
   ·unfold ua b_law at go
    simp only [List.drop] at go
    exact go
   ·unfold zS
    refine rwE List.find?_append ?_
    have h0:=hes p (by exact Int.le_of_lt hp)
    unfold zS at h0
    rw [Option.map_eq_none_iff] at h0
    refine rwE h0 ?_
    have:¬ (k:Int)=p:=by exact Int.ne_of_lt (hp)
    simp [this]
   ·have:=h v20
    rw [e2] at this
    have e3:QE k (d::ds)=.lst [t]::QE (k + 1) ds:=by unfold QE;refine rwE e1 ?_;rfl
    rw [e3] at this
    have e4:11 + (X++[MO.lst [t]]).length=11 + X.length + 1:=by simp;exact rfl
    refine rwE e4 ?_
    simpa only [List.append_assoc,List.cons_append,List.nil_append] using this
end
noncomputable def rowB:List St:=match b_law.drop 9 with
 | .for _ _ [.for _ _ [.for _ _ b]]::_=>b
 | _=>[]
noncomputable def Xc:List St:=match rowB.drop 3 with
 | .for _ _ b::_=>b
 | _=>[]
noncomputable def jY (a:Bool×List Int×Th):PyData:=.tuple [.tuple [.str (z6 a.1),.list (a.2.1.map .int)],enc a.2.2]
noncomputable def vals (full:List Int)(kk:Int)(as:List (Bool×List Int×Th))(i:Nat):List Int:=((zI kk as).take (10 + i)).map (zO full)
section
variable {C:Cx}{n:Nat}{Q:D->zA->Prop}
theorem vW {d0 d1 d2 d3 d4 d5 d6 d7 d8 d9 d10 d11 d12 d13 d14 d15 d16 d17 d18 d19 d20 d21 d22 d23 d24:Option D}{σ:zA}{w:Nat}{ws:List Int}{K:List PyData×zA->Prop}(hw:σ[w]?=some (.lst (ws.map .int)))(hl:ws.length<=1000) :
  ∀ (vs:List Int) (acc:List PyData),acc.length + vs.length<=1000->(∀ v,v∈vs->0<=v/\v<ws.length)->K (acc++(vs.map λ v=>ws.getD v.toNat 0).map .int,σ) ->
  zJ (zF C T1 n (elW C T1 n (.sub (.nm 25) (.nm 27))) (.nm 27) [] [] [d0,d1,d2,d3,d4,d5,d6,d7,d8,d9,d10,d11,d12,d13,d14,d15,d16,d17,d18,d19,d20,d21,d22,d23,d24,some (.obj w),none,none] none) (vs.map .int) (acc,σ) K:=by
 intro vs
 induction vs with
 | nil =>
  intro acc _ _ h
  simpa [zw,zt] using h
 | cons v vs ih =>
  intro acc ha hv h
  simp only [List.length_cons] at ha
  obtain ⟨v0,v1⟩:=hv v (by simp)
  obtain ⟨j,rfl⟩:=Int.eq_ofNat_of_zero_le v0
  have hlt:j<ws.length:=by exact lin [_,_] [] (.a (.v 0) (.k 1)) (.v 1) [(1,.L (.a (.c (.v 0)) (.k 1)) (.c (.v 1)))] tT9 v1
  show zF _ _ _ _ _ _ _ _ _ (PyData.int (j:Nat)) _ (λ a'=>zJ _ (vs.map .int) a' K)
  walk_at "st"
  simp only [hw]
  walk_at "st"
  simp only [List.getElem?_map,List.getElem?_eq_getElem hlt,Option.map_some]
  walk_at "st"
  refine ⟨by lia,by exact lin [_,_] [] (.v 0) (.k 100000) [(1,.l (.a (.v 0) (.a (.v 1) (.k 1))) (.k 1000))] tT9 ha,ih _ (by simp;exact lin [_,_] [] (.a (.a (.v 0) (.k 1)) (.v 1)) (.k 1000) [(1,.l (.a (.v 0) (.a (.v 1) (.k 1))) (.k 1000))] tT9 ha) (λ u m=>hv u (by simp [m])) ?_⟩
  have e:ws[j]?.getD 0=ws[j]:=by (refine rwE (List.getElem?_eq_getElem hlt) ?_;refine rwE Option.getD_some ?_;rfl)
  simpa [e] using h
theorem Vb (L:Law1 C){β:zA}{full:List Int}{mx:Bool}{vs:List Int}{t:Th}{ws:List Int}{asE:List PyData}{d0 d1 d2 d3 d4 d5 d6 d7 d8 d9 d10 d12 d15 d16 d18 d19 d20 d21 d22 d23 u11 u13 u14 u17:Option D}{S:Fl->Rho->zA->Prop}{K:Rho×zA->Prop}
  (h9:β[9]?=some (.lst asE)) (hvs:∀ v,v∈vs->0<=v/\v<ws.length) (hvl:vs.length<=4) (hne:vs≠[]) (hws:ws.length<=900)
  (hworth:∀ (σ:zA) (Q:D->zA->Prop),Q (.p (.int (zO full t))) σ->SatCall C T1 (n + 1) 520 [.p (enc t),.p (.list (full.map .int))] σ Q)
  (hval:zO full t=zP mx (vs.map λ v=>ws.getD v.toNat 0))
  (hK:∀ v11 v13 v14 v17,K ([d0,d1,d2,d3,d4,d5,d6,d7,d8,d9,d10,v11,d12,v13,v14,d15,d16,v17,d18,d19,d20,d21,d22,d23,some (.p (.list (full.map .int))),some (.obj β.length)],β++[.lst ((ws++[zO full t]).map .int)])) :
  za C T1 (n + 1) (.tup [(.tup [(.nm 11),(.nm 13)]),(.nm 17)]) Xc (some (9,asE)) S (jY (mx,vs,t)) ([d0,d1,d2,d3,d4,d5,d6,d7,d8,d9,d10,u11,d12,u13,u14,d15,d16,u17,d18,d19,d20,d21,d22,d23,some (.p (.list (full.map .int))),some (.obj β.length)],β++[.lst (ws.map .int)]) K:=by
 unfold Xc rowB b_law jY
 simp only [List.drop]
 have g9:∀ y:MO,(β++[y])[9]?=some (.lst asE):=λ y=>by
  refine rwE (List.getElem?_append_left (List.getElem?_eq_some_iff.mp h9).1) ?_;exact h9
 have gN:∀ y:MO,(β++[y])[β.length]?=some y:=λ y=>List.getElem?_concat_length
 have sN:∀ y z:MO,(β++[y]).set β.length z=β++[z]:=λ y z=>qM _ _ _
 walk_at "st"
 refine zH ?_
 walk_at "st"
 refine ⟨by refine rwE (List.length_map ..) ?_;exact Nat.le_trans hvl (nB9 rfl),vW (ws:=ws) (gN _) (by exact Nat.le_trans hws (nB9 rfl)) vs [] (by simp;exact Nat.le_trans hvl (nB9 rfl)) hvs ?_⟩
 simp only [zv,List.nil_append]
 walk_at "go"
 refine rwE (Ze ..) ?_
 have key:∀ b:Int,b=zO full t->(ws.map PyData.int).length<=100000 /\
   wpSs C T1 (n + 1) [.ite (.cmp (.call false (.gl 29) [.nm 17,.nm 24]) .NotEq (.sub (.nm 25) (.neg (.c (.int 1))))) [.ret (.c (.bool false))] []]
    [d0,d1,d2,d3,d4,d5,d6,d7,d8,d9,d10,some (.p (.str (z6 mx))),d12,some (.p (.list (vs.map .int))),some (.p (.list ((vs.map λ v=>ws.getD v.toNat 0).map .int))),d15,d16,some (.p (enc t)),d18,d19,d20,d21,d22,d23,some (.p (.list (full.map .int))),some (.obj β.length)]
    (β++[.lst (ws.map .int++[.int b])]) λ fl ρ'' σ''=>yQ fl (λ d=>S (.ret d) ρ'' σ'') (σ''[9]?=some (.lst asE)/\K (ρ'',σ'')):=λ b hb=>by
  subst hb
  refine ⟨by refine rwE (List.length_map ..) ?_;exact Nat.le_trans hws (nB9 rfl),?_⟩
  refine zH ?_
  walk_at "st"
  refine hworth _ _ ?_
  walk_at "st"
  have eL:(idx (ws.map PyData.int++[PyData.int (zO full t)]).length (-1)).bind (λ j=>(ws.map PyData.int++[PyData.int (zO full t)])[j]?)=some (.int (zO full t)):=by
   (refine rwE List.length_append ?_;refine rwE List.length_singleton ?_;refine rwE ixm ?_;refine rwE (Option.bind_some ..) ?_;refine rwE List.getElem?_concat_length ?_;rfl)
  refine rwE eL ?_
  walk_at "st"
  refine ⟨g9 _,?_⟩
  have:=hK (some (.p (.str (z6 mx)))) (some (.p (.list (vs.map .int)))) (some (.p (.list ((vs.map λ v=>ws.getD v.toNat 0).map .int)))) (some (.p (enc t)))
  rw [List.map_append] at this
  exact this
 have hl:(vs.map λ v=>ws.getD v.toNat 0)≠[]:=by simpa using hne
 obtain ⟨a0,r0,e0⟩:=List.exists_cons_of_ne_nil hl
 rw [e0] at hval key ⊢
 cases mx with
 | true=>exact y8 (λ _=>key _ hval.symm) λ h=>absurd (st_max_max.symm.trans h) (by decide)
 | false=>exact y8 (λ h=>absurd (st_min_max.symm.trans h) (by decide)) λ _=>key _ hval.symm
theorem Wl {α:Type}{l:List α}{i:Nat}{x:α}(h:l[i]?=some x):l.take (i + 1)=l.take i++[x]:=by
 (refine rwE List.take_add_one ?_;refine rwE h ?_);rfl
theorem VR (L:Law1 C){r:Dr}{ds:List Dd}{kk:Int}{row:List Int}{as:List (Bool×List Int×Th)}{β:zA}{d0 d1 d2 d3 d4 d5 d6 d7 d8 d9 d10 d12 d15 d16 d18 d19 d20 d21 d22 d23:Option D}{S:Fl->Rho->zA->Prop}{K:Rho×zA->Prop}
  (o:r.Ok) (g:GD r ds) (ok:AsOk r ds kk as) (hr:BRow r row) (hds:ds.length<=500) (has:as.length<=100) (h9:β[9]?=some (.lst (zd as)))
  (hK:∀ v11 v13 v14 v17,K ([d0,d1,d2,d3,d4,d5,d6,d7,d8,d9,d10,v11,d12,v13,v14,d15,d16,v17,d18,d19,d20,d21,d22,d23,some (.p (.list ((grow row ds).map .int))),some (.obj β.length)],β++[.lst ((vals (grow row ds) kk as as.length).map .int)])) :
  ∀ (suf:List (Bool×List Int×Th)) (i:Nat) (u11 u13 u14 u17:Option D),as.drop i=suf->i<=as.length ->
  zJ (za C T1 (n + 1) (.tup [(.tup [(.nm 11),(.nm 13)]),(.nm 17)]) Xc (some (9,zd as)) S) (suf.map jY) ([d0,d1,d2,d3,d4,d5,d6,d7,d8,d9,d10,u11,d12,u13,u14,d15,d16,u17,d18,d19,d20,d21,d22,d23,some (.p (.list ((grow row ds).map .int))),some (.obj β.length)],β++[.lst ((vals (grow row ds) kk as i).map .int)]) K:=by
 intro suf
 induction suf with
 | nil =>
  intro i u11 u13 u14 u17 hs hi
  have:i=as.length:=by have:=List.drop_eq_nil_iff.mp hs;exact Nat.le_antisymm (hi) (this)
  subst this
  exact hK u11 u13 u14 u17
 | cons zzh suf ih =>
  intro i u11 u13 u14 u17 hs hi
  obtain ⟨mx,vs,t⟩:=zzh
  have hpl:=QB kk as
  have hi2:i<as.length:=by
   rcases Nat.lt_or_ge i as.length with h | h
   ·exact h
   ·rw [List.drop_of_length_le h] at hs;cases hs
  have ha:as[i]?=some (mx,vs,t):=by
   rw [List.drop_eq_getElem_cons hi2] at hs
   (refine rwE (List.getElem?_eq_getElem hi2) ?_;refine rwE ((List.cons.inj hs).1) ?_;rfl)
  have hsuf:as.drop (i + 1)=suf:=by
   rw [List.drop_eq_getElem_cons hi2] at hs
   exact (List.cons.inj hs).2
  obtain ⟨o1,o2,o3,o4,o5⟩:=ok.ok i _ ha
  have hvl:(vals (grow row ds) kk as i).length=10 + i:=by
   unfold vals
   (refine rwE (List.length_map ..) ?_;refine rwE List.length_take ?_;refine rwE hpl ?_);exact Nat.min_eq_left (Nat.add_le_add_left (Nat.le_of_lt (List.getElem?_eq_some_iff.mp ha).1) 10)
  have hp:(zI kk as)[10 + i]?=some t:=by
   unfold zI
   refine rwE (List.getElem?_append_right (by simp [zM])) ?_
   have:10 + i - ((zM kk).map (·.1)).length=i:=by simp [zM]
   (refine rwE this ?_;refine rwE List.getElem?_map ?_;refine rwE ha ?_);rfl
  have gt:=ok.gt t (List.mem_iff_getElem?.mpr ⟨_,hp⟩)
  have hnext:vals (grow row ds) kk as (i + 1)=vals (grow row ds) kk as i++[zO (grow row ds) t]:=by
   unfold vals
   (refine rwE (show 10 + (i + 1)=10 + i + 1 by exact rfl) ?_;refine rwE (Wl hp) ?_;refine rwE List.map_append ?_)
   rfl
  have hget:∀ v,v∈vs->(vals (grow row ds) kk as i).getD v.toNat 0=zO (grow row ds) (Zh (zI kk as) v):=λ v m=>by
   have hv:=o3 v m
   have hlt:v.toNat<10 + i:=by exact lin [v.toNat,i] [v] (.a (.v 0) (.k 1)) (.a (.k 10) (.v 1)) [(1,.L (.a (.v 0) (.k 1)) (.a (.k 10) (.c (.v 1)))),(1,.E (.c (.v 0)) (.v 0))] tT9 hv.2 (Int.toNat_of_nonneg hv.1)
   have hlt2:v.toNat<(zI kk as).length:=Nat.lt_of_lt_of_le hlt (by refine rwE hpl ?_;exact Nat.add_le_add_left (Nat.le_of_lt (List.getElem?_eq_some_iff.mp ha).1) 10)
   unfold vals Zh
   (refine rwE List.getD_eq_getElem?_getD ?_;refine rwE List.getElem?_map ?_;refine rwE (List.getElem?_take_of_lt hlt) ?_;refine rwE (List.getElem?_eq_getElem hlt2) ?_;refine rwE List.getD_eq_getElem?_getD ?_;refine rwE (List.getElem?_eq_getElem hlt2) ?_)
   rfl
  show za _ _ _ _ _ _ _ (jY (mx,vs,t)) _ (λ a'=>zJ _ (suf.map jY) a' K)
  refine Vb (ws:=vals (grow row ds) kk as i) L h9 (λ v m=>by have:=o3 v m;refine rwE hvl ?_;exact ⟨this.1,this.2⟩) o2 o1 (by refine rwE hvl ?_;exact lin [_,_] [] (.a (.k 10) (.v 0)) (.k 900) [(1,.l (.v 1) (.k 100)),(1,.l (.v 0) (.v 1))] tT9 has hi) (λ σ Q q=>?_) ?_ λ v11 v13 v14 v17=>?_
  ·have hlen:(grow row ds).length=3 + ds.length:=Zk hr
   have hz:POk (grow row ds) (zD t):=λ p m=>by
    obtain ⟨m1,m2⟩:=gt.ps.mem p m
    have:=WM o g hr m1.1 m1.2
    exact ⟨⟨m1.1,by refine rwE hlen ?_;exact m1.2⟩,by unfold sm3;exact ⟨Int.le_trans (oD9 rfl) m2.1,Int.le_trans m2.2 (oD9 rfl)⟩,by exact ⟨Int.le_trans (oD9 rfl) this.1,Int.le_trans this.2 (oD9 rfl)⟩⟩
   rcases o4 with ⟨ps,c,e⟩ | ⟨c,e⟩
   ·have e:t=.sum ps c:=e
    subst e
    exact xI L (.inl rfl) (by refine rwE hlen ?_;exact lin [_] [] (.a (.k 3) (.v 0)) (.k 10000) [(1,.l (.v 0) (.k 500))] tT9 hds) hz (by have:=gt.ps.len;simp only [zD] at this;exact Nat.le_trans this (nB9 rfl)) q
   ·have e:t=.num c:=e
    subst e
    have e1:zO (grow row ds) (.num c)=c:=by simp [zO,zD,cOf,Zg,Zf]
    rw [e1] at q
    exact xL L q
  ·refine rwE (o5 row hr) ?_
   congr 1
   exact List.map_congr_left λ v m=>(hget v m).symm
  ·refine rwS hnext ?_
   exact ih (i + 1) v11 v13 v14 v17 hsuf (by exact hi2)
end
theorem uG:∀ (ds:List Dd) (k i:Nat) (d:Dd),ds[i]?=some d->(zb k ds)[i]?=some (.tuple [Zi (k + i),z5 d.lo d.hi])
 | [],k,i,d,h=>by simp at h
 | e::ds,k,0,d,h=>by simp at h;subst h;rfl
 | e::ds,k,i + 1,d,h=>by
  have:=uG ds (k + 1) i d (by simpa using h)
  rw [show k + 1 + i=k + (i + 1) by exact Nat.le_antisymm (lin [_,_] [] (.a (.a (.v 0) (.k 1)) (.v 1)) (.a (.v 0) (.a (.v 1) (.k 1))) [] tT9) (lin [_,_] [] (.a (.v 0) (.a (.v 1) (.k 1))) (.a (.a (.v 0) (.k 1)) (.v 1)) [] tT9)] at this
  simpa [Jl,JW] using this
noncomputable def zC6 (m:List Int):Prop:=∃ a c d e,m=[a,c,d,e]/\(-1000<=a/\a<=1000)/\(-1000<=c/\c<=1000)/\(-1000<=d/\d<=1000)
theorem vB {k:Int}:∀ t,t∈zM k->zC6 t.2:=by
 intro t m
 simp only [zM,List.mem_cons,List.not_mem_nil,or_false] at m
 rcases m with rfl | rfl | rfl | rfl | rfl | rfl | rfl | rfl | rfl | rfl <;> exact ⟨_,_,_,_,rfl,by decide,by decide,by decide⟩
section
variable {C:Cx}{n:Nat}{Q:D->zA->Prop}
theorem Xk {p q b:Int}{d0 d1 d2 d3 d4 d5 d6 d7 d8 d9 d10 d11 d12 d13 d14 d15 d16 d17 d18 d19 d20 d24 d25:Option D}{σ:zA}{K:List PyData×zA->Prop}(hp:-1000<=p/\p<=1000)(hq:-1000<=q/\q<=1000)(hb:-1000<=b/\b<=1000) :
  ∀ (l:List (Th×List Int)) (acc:List PyData),acc.length + l.length<=1000->(∀ t,t∈l->zC6 t.2)->K (acc++(l.map λ t=>jo t.2 [p,q,b]).map .int,σ) ->
  zJ (zF C T1 n (elW C T1 n (.bin .Add (.bin .Add (.bin .Add (.bin .Mult (.nm 28) (.nm 21)) (.bin .Mult (.nm 29) (.nm 22))) (.bin .Mult (.nm 30) (.nm 23))) (.nm 31))) (.tup [(.nm 27),(.tup [(.nm 28),(.nm 29),(.nm 30),(.nm 31)])]) [] [] [d0,d1,d2,d3,d4,d5,d6,d7,d8,d9,d10,d11,d12,d13,d14,d15,d16,d17,d18,d19,d20,some (.p (.int p)),some (.p (.int q)),some (.p (.int b)),d24,d25,none,none,none,none,none,none] none) (ZO l) (acc,σ) K:=by
 intro l
 induction l with
 | nil =>
  intro acc _ _ h
  simpa [ZO,zw,zt] using h
 | cons t l ih =>
  intro acc hl hm h
  simp only [List.length_cons] at hl
  obtain ⟨a,c,d,e,he,h1,h2,h3⟩:=hm t (by simp)
  show zF _ _ _ _ _ _ _ _ _ (PyData.tuple [enc t.1,.tuple (t.2.map .int)]) _ (λ a'=>zJ _ (ZO l) a' K)
  refine rwE he ?_
  simp only [List.map_cons,List.map_nil]
  walk_at "st"
  refine ⟨zr (by exact ⟨Int.le_trans (oD9 rfl) h1.1,Int.le_trans h1.2 (oD9 rfl)⟩),zr (by exact ⟨Int.le_trans (oD9 rfl) hp.1,Int.le_trans hp.2 (oD9 rfl)⟩),zr (by exact ⟨Int.le_trans (oD9 rfl) h2.1,Int.le_trans h2.2 (oD9 rfl)⟩),zr (by exact ⟨Int.le_trans (oD9 rfl) hq.1,Int.le_trans hq.2 (oD9 rfl)⟩),zr (by exact ⟨Int.le_trans (oD9 rfl) h3.1,Int.le_trans h3.2 (oD9 rfl)⟩),zr (by exact ⟨Int.le_trans (oD9 rfl) hb.1,Int.le_trans hb.2 (oD9 rfl)⟩),by exact lin [_,_] [] (.v 0) (.k 100000) [(1,.l (.a (.v 0) (.a (.v 1) (.k 1))) (.k 1000))] tT9 hl,ih _ (by simp;exact lin [_,_] [] (.a (.a (.v 0) (.k 1)) (.v 1)) (.k 1000) [(1,.l (.a (.v 0) (.a (.v 1) (.k 1))) (.k 1000))] tT9 hl) (λ u m=>hm u (by simp [m])) ?_⟩
  simpa [he,jo] using h
theorem WB (kk:Int)(as:List (Bool×List Int×Th)):((zd as).zip ((zI kk as).map enc |>.drop 10)).map (λ p=>PyData.tuple [p.1,p.2])=as.map jY:=by
 have e:((zI kk as).map enc).drop 10=as.map λ a=>enc a.2.2:=by
  unfold zI
  (refine rwE List.map_append ?_;refine rwE (List.drop_append_of_le_length (by simp [zM])) ?_;refine rwE (List.drop_of_length_le (by simp [zM])) ?_)
  simp
 show ((zd as).zip (((zI kk as).map enc).drop 10)).map _=_
 refine rwE e ?_
 unfold zd
 (refine rwE List.zip_map' ?_;refine rwE List.map_map ?_)
 rfl
theorem zC3 {r:Dr}{ds:List Dd}{kk p q b:Int}{as:List (Bool×List Int×Th)}(o:r.Ok)(hkk:-2<=kk/\kk<=3)(hr:BRow r [p,q,b]):(zM kk).map (λ t=>jo t.2 [p,q,b])=vals (grow [p,q,b] ds) kk as 0:=by
 unfold vals zI
 (refine rwE (Nat.add_zero ..) ?_;refine rwE (List.take_append_of_le_length (by simp [zM])) ?_;refine rwE (List.take_of_length_le (by simp [zM])) ?_;refine rwE List.map_map ?_)
 refine List.map_congr_left λ t m=>?_
 have:=YI (X:=ds) (J6 o hkk t m).ps hr
 rw [List.nil_append] at this
 simp only [Function.comp_apply]
 refine rwE this ?_
 exact (Ug o hkk hr t m).symm
theorem Uv (A:Law1A C){r:Dr}{ds:List Dd}{kk p q b:Int}{as:List (Bool×List Int×Th)}{fd:MO}{Y:zA}{d0 d1 d10 d12 d15 d16 d18 d19 d20 u11 u13 u14 u17 u23 u24 u25:Option D}{S:Fl->Rho->zA->Prop}{K:Rho×zA->Prop}
  (o:r.Ok) (hkk:-2<=kk/\kk<=3) (g:GD r ds) (ok:AsOk r ds kk as) (hr:BRow r [p,q,b]) (hds:ds.length<=500) (has:as.length<=100) (hY:∀ (j:Nat) (t:PyData),(zV 3 ds)[j]?=some t->Y[j]?=some (.lst [t]))
  (hK:∀ v11 v13 v14 v17 v23 v24 v25 x,K ([d0,d1,some (.obj 2),some (.obj 8),some (.obj 9),some (.p (.int r.low)),some (.p (.int r.hole)),some (.p (.int r.base)),some (.p (.list (ZO (zM kk)))),some (.obj 10),d10,v11,d12,v13,v14,d15,d16,v17,d18,d19,d20,some (.p (.int p)),some (.p (.int q)),v23,v24,v25],stt fd (.p .none) r.vb ds++.idict (ze 3 11 ds)::.lst (zd as)::.lst ((zI kk as).map enc)::(Y++[x]))) :
  za C T1 (n + 12) (.nm 23) rowB none S (.int b) ([d0,d1,some (.obj 2),some (.obj 8),some (.obj 9),some (.p (.int r.low)),some (.p (.int r.hole)),some (.p (.int r.base)),some (.p (.list (ZO (zM kk)))),some (.obj 10),d10,u11,d12,u13,u14,d15,d16,u17,d18,d19,d20,some (.p (.int p)),some (.p (.int q)),u23,u24,u25],stt fd (.p .none) r.vb ds++.idict (ze 3 11 ds)::.lst (zd as)::.lst ((zI kk as).map enc)::Y) K:=by
 have L:=A.X.L
 have hall:=g.all _ hr
 have hvl:(r.vb++zb 3 ds).length=3 + ds.length:=by (refine rwE List.length_append ?_;refine rwE (Zl ..) ?_);rfl
 have hpl:=QB kk as
 unfold rowB b_law
 simp only [List.drop]
 unfold stt at *
 walk_at "st"
 refine zH ?_
 walk_at "st"
 have hwh:=zB6 (n:=n + 9) (fd:=fd) (pt:=.p .none) (vars:=r.vb++zb 3 ds) (tolds:=zV 3 ds) (made:=ZW 3 ds) (es:=ze 3 11 ds) (τ:=.lst (zd as)::.lst ((zI kk as).map enc)::Y) (row:=[p,q,b]) (ds:=ds) (Q:=λ d σ'=>d=.p (.list ((grow [p,q,b] ds).map .int))/\σ'=zB fd (.p .none) (r.vb++zb 3 ds) (zV 3 ds) (ZW 3 ds)++.idict (ze 3 11 ds)::.lst (zd as)::.lst ((zI kk as).map enc)::Y) L rfl (by exact Nat.le_trans hds (nB9 rfl)) hvl ⟨Z5 (by decide),Z5 (by decide),Z5 (by decide),Z5 (by decide)⟩
  (λ i d h=>by
   refine rwE (List.getElem?_append_right (by show 3<=_;exact Nat.le_add_right _ _)) ?_
   show (zb 3 ds)[3 + i - 3]?=_
   refine rwE (Nat.add_sub_cancel_left ..) ?_
   exact uG ds 3 i d h)
  (λ i d h=>Ji (λ j t hj=>by
   have:=hY j t hj
   refine rwE (show 11 + j=(j + 3) + 8 by exact Nat.le_antisymm (lin [_] [] (.a (.k 11) (.v 0)) (.a (.a (.v 0) (.k 3)) (.k 8)) [] tT9) (lin [_] [] (.a (.a (.v 0) (.k 3)) (.k 8)) (.a (.k 11) (.v 0)) [] tT9)) ?_
   exact this) h)
  hall ⟨rfl,rfl⟩
 refine hwh.mono λ d σ' hd=>?_
 obtain ⟨rfl,rfl⟩:=hd
 have o1:=o.low
 have o2:=o.hole
 have o3:=o.base
 obtain ⟨p',q',b',hpq,hp',hq',hb'⟩:=hr.h
 have hpe:p'=p/\q'=q/\b'=b:=by
  have:=hpq
  simp only [List.cons.injEq,and_true] at this
  exact ⟨this.1.symm,this.2.1.symm,this.2.2.symm⟩
 obtain ⟨rfl,rfl,rfl⟩:=hpe
 refine zH ?_
 walk_at "st"
 refine zH ?_
 walk_at "st"
 refine ⟨by simp [ZO,zM],Xk (by lia) (by lia) (by lia) (zM kk) [] (by simp [zM]) vB ?_⟩
 simp only [zv,List.nil_append]
 generalize hβ:zB fd (.p .none) (r.vb++zb 3 ds) (zV 3 ds) (ZW 3 ds)++.idict (ze 3 11 ds)::.lst (zd as)::.lst ((zI kk as).map enc)::Y=β
 have g9:β[9]?=some (.lst (zd as)):=by refine rwS (hβ) ?_;rfl
 have g10:β[10]?=some (.lst ((zI kk as).map enc)):=by refine rwS (hβ) ?_;rfl
 have g9':∀ y:MO,(β++[y])[9]?=some (.lst (zd as)):=λ y=>by
  refine rwE (List.getElem?_append_left (List.getElem?_eq_some_iff.mp g9).1) ?_;exact g9
 have g10':∀ y:MO,(β++[y])[10]?=some (.lst ((zI kk as).map enc)):=λ y=>by
  refine rwE (List.getElem?_append_left (List.getElem?_eq_some_iff.mp g10).1) ?_;exact g10
 refine zH ?_
 walk_at "st"
 simp only [ZA,g9',g10']
 have e10:(ZO (zM kk)).length=10:=by simp [ZO,zM]
 refine rwE e10 ?_
 have hzi:=WB kk as
 refine ⟨by decide,?_⟩
 show (_/\_)/\_
 refine ⟨⟨by decide,by decide⟩,by decide,by refine rwE (List.length_map ..) ?_;exact lin [(zI kk as).length,as.length] [] (.v 0) (.k 100000) [(1,.l (.v 1) (.k 100)),(1,.e (.v 0) (.a (.k 10) (.v 1)))] tT9 has hpl,?_⟩
 show (((zd as).zip (((zI kk as).map enc).drop 10)).map _).length<=100000/\zJ _ (((zd as).zip (((zI kk as).map enc).drop 10)).map _) _ _
 have hzi':((zd as).zip (((zI kk as).map enc).drop 10)).map (λ p=>PyData.tuple [p.1,p.2])=as.map jY:=hzi
 (refine rwE hzi' ?_;refine rwE (zC3 (ds:=ds) (as:=as) o hkk hr) ?_)
 refine ⟨by refine rwE (List.length_map ..) ?_;exact Nat.le_trans has (nB9 rfl),?_⟩
 have zl:=VR (n:=n + 11) (β:=β) (d0:=d0) (d1:=d1) (d2:=some (.obj 2)) (d3:=some (.obj 8)) (d4:=some (.obj 9)) (d5:=some (.p (.int r.low))) (d6:=some (.p (.int r.hole))) (d7:=some (.p (.int r.base))) (d8:=some (.p (.list (ZO (zM kk))))) (d9:=some (.obj 10)) (d10:=d10) (d12:=d12) (d15:=d15) (d16:=d16) (d18:=d18) (d19:=d19) (d20:=d20) (d21:=some (.p (.int p'))) (d22:=some (.p (.int q'))) (d23:=some (.p (.int b')))
  (S:=λ fl ρ' σ'=>match fl with
   | Fl.next=>K (ρ',σ')
   | fl=>match fl with
    | Fl.ret d=>S (Fl.ret d) ρ' σ'
    | x=>K (ρ',σ')) (K:=λ a=>K (a.1,a.2)) L o g ok hr hds has g9 (λ v11 v13 v14 v17=>by
  have:=hK v11 v13 v14 v17 (some (.p (.int b'))) (some (.p (.list ((grow [p',q',b'] ds).map .int)))) (some (.obj β.length)) (.lst ((vals (grow [p',q',b'] ds) kk as as.length).map .int))
  have e:zB fd (.p .none) (r.vb++zb 3 ds) (zV 3 ds) (ZW 3 ds)++.idict (ze 3 11 ds)::.lst (zd as)::.lst ((zI kk as).map enc)::(Y++[.lst ((vals (grow [p',q',b'] ds) kk as as.length).map .int)])=β++[.lst ((vals (grow [p',q',b'] ds) kk as as.length).map .int)]:=by refine rwS (hβ) ?_;simp
  rw [e] at this
  exact this) as 0 u11 u13 u14 u17 rfl (Nat.zero_le _)
 unfold Xc rowB b_law at zl
 simp only [List.drop] at zl
 exact zl
end
noncomputable def TailOk (ds:List Dd)(Y:zA):Prop:=∀ (j:Nat) (t:PyData),(zV 3 ds)[j]?=some t->Y[j]?=some (.lst [t])
theorem TailOk.app {ds:List Dd}{Y:zA}(h:TailOk ds Y)(x:MO):TailOk ds (Y++[x]):=λ j t e=>by
 have:=h j t e
 refine rwE (List.getElem?_append_left (List.getElem?_eq_some_iff.mp this).1) ?_;exact this
section
variable {C:Cx}{n:Nat}{Q:D->zA->Prop}
noncomputable def Qx (r:Dr)(kk:Int)(d0 d1 d10 d12 d15 d16 d18 d19 d20 u11 u13 u14 u17 u21 u22 u23 u24 u25:Option D):Rho:=[d0,d1,some (.obj 2),some (.obj 8),some (.obj 9),some (.p (.int r.low)),some (.p (.int r.hole)),some (.p (.int r.base)),some (.p (.list (ZO (zM kk)))),some (.obj 10),d10,u11,d12,u13,u14,d15,d16,u17,d18,d19,d20,u21,u22,u23,u24,u25]
noncomputable def Y0 (fd:MO)(r:Dr)(kk:Int)(ds:List Dd)(as:List (Bool×List Int×Th))(Y:zA):zA:=stt fd (.p .none) r.vb ds++.idict (ze 3 11 ds)::.lst (zd as)::.lst ((zI kk as).map enc)::Y
theorem vJ (A:Law1A C){r:Dr}{ds:List Dd}{kk p q:Int}{as:List (Bool×List Int×Th)}{fd:MO}{Y:zA}{d0 d1 d10 d12 d15 d16 d18 d19 d20 u11 u13 u14 u17 u22 u23 u24 u25:Option D}{S:Fl->Rho->zA->Prop}{K:Rho×zA->Prop}
  (o:r.Ok) (hkk:-2<=kk/\kk<=3) (g:GD r ds) (ok:AsOk r ds kk as) (hr:∀ b,b=0∨b=1->BRow r [p,q,b]) (hds:ds.length<=500) (has:as.length<=100) (hY:TailOk ds Y)
  (hK:∀ v11 v13 v14 v17 v22 v23 v24 v25 Y',TailOk ds Y'->K (Qx r kk d0 d1 d10 d12 d15 d16 d18 d19 d20 v11 v13 v14 v17 (some (.p (.int p))) v22 v23 v24 v25,Y0 fd r kk ds as Y')) :
  za C T1 (n + 12) (.nm 22) [.for (.nm 23) (.tup [.c (.int 0),.c (.int 1)]) rowB] none S (.int q) (Qx r kk d0 d1 d10 d12 d15 d16 d18 d19 d20 u11 u13 u14 u17 (some (.p (.int p))) u22 u23 u24 u25,Y0 fd r kk ds as Y) K:=by
 unfold Qx Y0 at *
 walk_at "st"
 refine zH ?_
 walk_at "st"
 refine ZL ?_
 refine Uv A o hkk g ok (hr 0 (.inl rfl)) hds has hY λ v11 v13 v14 v17 v23 v24 v25 x=>?_
 refine ZL ?_
 refine Uv A o hkk g ok (hr 1 (.inr rfl)) hds has (hY.app x) λ v11 v13 v14 v17 v23 v24 v25 y=>?_
 refine y9 ?_
 exact hK v11 v13 v14 v17 _ v23 v24 v25 _ ((hY.app x).app y)
theorem UU (A:Law1A C){r:Dr}{ds:List Dd}{kk p:Int}{as:List (Bool×List Int×Th)}{fd:MO}{Y:zA}{d0 d1 d10 d12 d15 d16 d18 d19 d20 u11 u13 u14 u17 u21 u22 u23 u24 u25:Option D}{S:Fl->Rho->zA->Prop}{K:Rho×zA->Prop}
  (o:r.Ok) (hkk:-2<=kk/\kk<=3) (g:GD r ds) (ok:AsOk r ds kk as) (hp:p=r.low∨p=r.low + 1∨p=r.low + 2 + r.hole) (hds:ds.length<=500) (has:as.length<=100) (hY:TailOk ds Y)
  (hK:∀ v11 v13 v14 v17 v21 v22 v23 v24 v25 Y',TailOk ds Y'->K (Qx r kk d0 d1 d10 d12 d15 d16 d18 d19 d20 v11 v13 v14 v17 v21 v22 v23 v24 v25,Y0 fd r kk ds as Y')) :
  za C T1 (n + 12) (.nm 21) [.for (.nm 22) (.tup [.nm 7,.bin .Add (.nm 7) (.c (.int 1))]) [.for (.nm 23) (.tup [.c (.int 0),.c (.int 1)]) rowB]] none S (.int p) (Qx r kk d0 d1 d10 d12 d15 d16 d18 d19 d20 u11 u13 u14 u17 u21 u22 u23 u24 u25,Y0 fd r kk ds as Y) K:=by
 have hr:∀ q,q=r.base∨q=r.base + 1->∀ b,b=0∨b=1->BRow r [p,q,b]:=λ q hq b hb=>⟨p,q,b,rfl,hp,hq,hb⟩
 unfold Qx
 walk_at "st"
 refine zH ?_
 walk_at "st"
 refine ZL ?_
 refine vJ A o hkk g ok (hr r.base (.inl rfl)) hds has hY λ v11 v13 v14 v17 v22 v23 v24 v25 Y' hY'=>?_
 refine ZL ?_
 refine vJ A o hkk g ok (hr (r.base + 1) (.inr rfl)) hds has hY' λ v11 v13 v14 v17 v22 v23 v24 v25 Y'' hY''=>?_
 refine y9 ?_
 exact hK v11 v13 v14 v17 _ v22 v23 v24 v25 _ hY''
theorem Vj (A:Law1A C){ns:List Int}(hl:ns.length<=63)(q:Q (.p (.bool true)) []):SatCall C T1 60 542 [.p (.list (ns.map .int))] [] Q:=by
 have L:=A.X.L
 refine VZ A hl λ r o kk hkk=>?_
 have hcl:(ns.take 40).length<=100:=Nat.le_trans (List.length_take_le ..) (nB9 rfl)
 generalize ns.take 40=cells at hcl ⊢
 generalize hS:(λ (fl:Fl) (_:Rho) (σ':zA)=>qa [] Q fl σ')=S
 have e7:b_law.drop 7=.for (.nm 10) (.call false (.gl 14) [.bin .Add (.c (.int 2)) (.call false (.gl 25) [.nm 1,.c (.int 2)])]) wD::b_law.drop 8:=rfl
 have e8:b_law.drop 8=.for (.nm 20) (.attr (.attr (.nm 2) 10) 7) ua::b_law.drop 9:=rfl
 have e9:b_law.drop 9=[.for (.nm 21) (.tup [.nm 5,.bin .Add (.nm 5) (.c (.int 1)),.bin .Add (.bin .Add (.nm 5) (.c (.int 2))) (.nm 6)]) [.for (.nm 22) (.tup [.nm 7,.bin .Add (.nm 7) (.c (.int 1))]) [.for (.nm 23) (.tup [.c (.int 0),.c (.int 1)]) rowB]],.ret (.c (.bool true))]:=rfl
 (refine rwE e7 ?_;refine rwE e8 ?_;refine rwE e9 ?_)
 unfold vI
 refine zH ?_
 unfold stt
 walk_at "st"
 refine qD L ⟨by decide,by decide⟩ (by decide) hcl λ v a b=>?_
 walk_at "st"
 refine ⟨⟨by exact liZ [] [_] (.k (-4611686018427387904)) (.a (.k 2) (.v 0)) [(1,.L (.k 0) (.v 0))] tT9 a,by exact liZ [] [_] (.a (.a (.k 2) (.v 0)) (.k 1)) (.k 4611686018427387904) [(1,.L (.a (.v 0) (.k 1)) (.k 2))] tT9 b⟩,by refine rwE (qC ..) ?_;exact lin [(2 + v - 0).toNat] [v] (.v 0) (.k 100000) [(1,.L (.a (.v 0) (.k 1)) (.k 2)),(1,.E (.c (.v 0)) (.s (.a (.k 2) (.v 0)) (.k 0)))] tT9 b (Int.toNat_of_nonneg (liZ [] [_] (.k 0) (.s (.a (.k 2) (.v 0)) (.k 0)) [(1,.L (.k 0) (.v 0))] tT9 a)),?_⟩
 have g0:GD r []:=⟨λ row hr=>trivial,λ d m=>nomatch m⟩
 have ok0:AsOk r [] kk []:=⟨λ t m=>by
  unfold zI at m
  rw [List.map_nil,List.append_nil] at m
  obtain ⟨p,hp,rfl⟩:=List.mem_map.mp m
  exact J6 o hkk p hp,λ i a h=>by simp at h⟩
 have hlen:(QH 0 (2 + v)).length<=3:=by refine rwE (qC ..) ?_;exact lin [(2 + v - 0).toNat] [v] (.v 0) (.k 3) [(1,.L (.a (.v 0) (.k 1)) (.k 2)),(1,.E (.c (.v 0)) (.s (.a (.k 2) (.v 0)) (.k 0)))] tT9 b (Int.toNat_of_nonneg (liZ [] [_] (.k 0) (.s (.a (.k 2) (.v 0)) (.k 0)) [(1,.L (.k 0) (.v 0))] tT9 a))
 generalize QH 0 (2 + v)=xs at hlen ⊢
 have hst:zB (ZG cells 5) (.p .none) (r.vb++zb 3 []) (zV 3 []) (ZW 3 [])++[.idict [],.lst [],.lst ((zM kk).map λ p=>enc p.1)]=stt (ZG cells 5) (.p .none) r.vb []++[.idict [],.lst (zd []),.lst ((zI kk []).map enc)]:=rfl
 refine rwE hst ?_
 refine zFa (n:=47) A hcl o xs [] 5 [] none none none none none none none none none none none none none none none none (by lia) (by simp;lia) (by simp;exact Nat.le_trans hlen (nB9 rfl)) g0 ok0 λ k' ds as v10 v11 v12 v13 v14 v15 v16 v17 v18 v19 v20 v21 v22 v23 v24 v25 hds has g ok=>?_
 have hrefs:j5 3 ds:=by
  have:=XI (g.all _ (YL r))
  rwa [(YL r).len] at this
 have htl:=Za ds 3
 unfold stt
 refine zH ?_
 walk_at "st"
 refine ⟨by exact lin [_,_] [] (.v 0) (.k 100000) [(1,.l (.v 1) (.k 500)),(1,.l (.v 0) (.v 1))] tT9 hds htl,?_⟩
 refine Wo (n:=58) (tolds:=zV 3 ds) L ds 3 [] [] v20 hrefs (by exact lin [_] [] (.a (.k 3) (.v 0)) (.k 900) [(1,.l (.v 0) (.k 500))] tT9 hds) (λ p hp=>rfl) (by simp) λ w20=>?_
 have hY:TailOk ds (QE 3 ds):=λ j t h=>by
  unfold QE
  (refine rwE List.getElem?_map ?_;refine rwE h ?_);rfl
 refine zH ?_
 walk_at "st"
 refine ZL ?_
 refine UU (n:=47) (Y:=QE 3 ds) A o hkk g ok (.inl rfl) hds has hY λ y11 y13 y14 y17 y21 y22 y23 y24 y25 Y hY=>?_
 refine ZL ?_
 refine UU (n:=47) A o hkk g ok (.inr (.inl rfl)) hds has hY λ y11 y13 y14 y17 y21 y22 y23 y24 y25 Y hY=>?_
 refine ZL ?_
 refine UU (n:=47) A o hkk g ok (.inr (.inr rfl)) hds has hY λ y11 y13 y14 y17 y21 y22 y23 y24 y25 Y hY=>?_
 refine y9 ?_
 refine zH ?_
 walk_at "st"
 subst hS
 have:=yU (σ:=[]) (τ:=Y0 (ZG cells k') r kk ds as Y) (Q:=Q) (fl:=.ret (.p (.bool true))) rfl q
 exact this
end
section
variable {C:Cx}{T:Tabs}{n:Nat}{fd:MO}{pt:D}{vars tolds vars' tolds':List PyData}{made made':List (Ky×D)}{τ:zA}{Q:D->zA->Prop}{ρ:Rho}{σ:zA}{X:zA->Prop}
@[simp ↓] theorem zFH {c:Ex}{a b:List St}:rxS C T n (.ite c a b) ρ σ X=wpE C T n c ρ σ λ x σ'=>isB x λ r=>Br r (rxSs C T n a ρ σ' X) (rxSs C T n b ρ σ' X):=rfl
@[simp ↓] theorem zG1 {g:Nat}{es:List Ex}:rxS C T n (.rai g es) ρ σ X=(5<=n/\jr T g/\wpEs C T n es ρ σ λ ds σ'=>ds.length=2/\X σ'):=rfl
@[simp ↓] theorem zFA {s:St}{ss:List St}:rxSs C T n (s::ss) ρ σ X=rxS C T n s ρ σ X:=rfl
@[simp ↓] theorem zIj {σ:zA}{x:PyData}{i:Nat}:VJ [.p x,.obj i]=some (x,i):=rfl
theorem zAe:jr T1 33:=⟨_,zDW,rfl⟩
theorem zCL {xs:List St}{o:Ex}{k g i:Nat}{args:List Ex}{d:PyData}{Q:Fl->Rho->zA->Prop}(e:jr T g)(h:Jk C T n o k args ρ σ λ σ'=>Q .next (ρ.set i (some (.p d))) σ'):wpS C T n (.try_ xs o k args g i d) ρ σ Q:=.inr ⟨e,h⟩
theorem XO {xs:List St}{o:Ex}{k g i:Nat}{args:List Ex}{d:PyData}{Q:Fl->Rho->zA->Prop}(h:wpSs C T n xs ρ σ Q):wpS C T n (.try_ xs o k args g i d) ρ σ Q:=.inl h
theorem WQ (L:Law1 C){nm:Str}(hs:Few nm.cps.size)(q:Q (.p (.tuple [.str (Str.ofString "refused"),.none])) (zB fd (.p .none) vars tolds made++τ)) :
  SatCall C T1 (n + 12) 508 [.obj 2,.p (.str nm),.p (.list []),.p .none] (zB fd (.p .none) vars tolds made++τ) Q:=by
 refine zN L.Y L.TT L.law_asked rfl ?_
 unfold Zy
 walk_at "st"
 refine zH ?_
 walk_at "st"
 refine zH ?_
 refine zCL zAe ?_
 unfold Jk
 walk_at "st"
 refine zDG L.Y L.TT L.extreme rfl ?_
 unfold qA
 walk_at "st"
 refine ⟨zAe,hs,?_⟩
 walk_at "go"
 walk_at "ds"
 walk_at "go"
 exact zE rfl q
theorem zB0 (L:Law1 C){nm:Str}{some:List PyData}{found:PyData}(hl:some.length<=1000)
  (h:∀ Q':D->zA->Prop,Q' (.p found) (zB fd (.p .none) vars' tolds' made'++τ)->SatCall C T1 (n + 9) 384 [.obj 2,.p (.str nm),.p (.list some),.p (.int 0)] (zB fd (.p .none) vars tolds made++τ) Q')
  (q:Q (.p (.tuple [found,.none])) (zB fd (.p .none) vars' tolds' made'++τ)):SatCall C T1 (n + 12) 508 [.obj 2,.p (.str nm),.p (.list some),.p .none] (zB fd (.p .none) vars tolds made++τ) Q:=by
 refine zN L.Y L.TT L.law_asked rfl ?_
 unfold Zy
 walk_at "st"
 refine zH ?_
 walk_at "st"
 refine zH ?_
 refine XO ?_
 walk_at "go"
 refine ⟨by exact Nat.le_trans hl (nB9 rfl),?_⟩
 refine SatCall.up (h _ ?_) (by exact lin [_] [] (.a (.v 0) (.k 9)) (.a (.v 0) (.k 11)) [] tT9)
 walk_at "go"
 walk_at "ds"
 walk_at "go"
 exact zE rfl q
theorem zBo {ys:List PyData}{found:PyData}:qW (zB fd pt vars tolds made++(τ++[.lst ys])) (.tup [.p found,.obj (8 + τ.length)])=some (.tuple [found,.list ys],zB fd pt vars tolds made++(τ++[.dead])):=by
 (refine rwE fzT ?_;refine rwE Js ?_)
 show some _=some _
 (refine rwE xd ?_;rfl)
theorem zAj {i:Nat}(h:8<=i):(zB fd pt vars tolds made++τ)[i]?=τ[i - 8]?:=by
 refine rwE (List.getElem?_append_right (by show 8<=i;exact h)) ?_;rfl
theorem vT {fl:Fl}{x:PyData}(hm:clM 8 (.tdict made')=true)(e:uX fl=some (.p x))(q:Q (.p x) (zB fd (.p .none) vars' tolds' made'++τ)):qa (zB fd (.p .none) vars tolds made++τ) Q fl (zB fd (.p .none) vars' tolds' made'++(τ++[.dead])):=by
 refine ⟨_,_,e,?_,q⟩
 have key:=Kp.cut (σ:=zB fd (.p .none) vars tolds made++τ) (σ':=zB fd (.p .none) vars' tolds' made'++(τ++[.dead])) (d:=.p x) (8 + τ.length) (by refine rwE YM ?_;exact Nat.le_refl _) rfl λ i mo hi e=>by
  by_cases h8:8<=i
  ·rw [zAj h8,List.getElem?_append_left (by lia)] at e
   exact .inl (by refine rwE (zAj h8) ?_;exact e)
  ·have up:∀ m,clM 8 m=true->clM (8 + τ.length) m=true:=λ m=>Ur (by exact Nat.le_add_right _ _) m
   match i,h8,e with
   | 0,_,e=>exact .inl e
   | 1,_,e=>cases so e;exact .inr (up _ rfl)
   | 2,_,e=>exact .inl e
   | 3,_,e=>exact .inl e
   | 4,_,e=>exact .inl e
   | 5,_,e=>cases so e;exact .inr rfl
   | 6,_,e=>cases so e;exact .inr rfl
   | 7,_,e=>cases so e;exact .inr (up _ hm)
   | i + 8,h8,_=>exact absurd (Nat.le_add_left 8 i) h8
 rwa [<- List.append_assoc,List.take_left' YM] at key
theorem zAO (L:Law1 C){nm:Str}{some xs ys:List PyData}{found:PyData}(hl:some.length<=1000)(hx:xs.length<=1000)(hm:clM 8 (.tdict made')=true)
  (h:∀ Q':D->zA->Prop,Q' (.p found) (zB fd (.obj (8 + τ.length)) vars' tolds' made'++(τ++[.lst ys]))->SatCall C T1 (n + 9) 384 [.obj 2,.p (.str nm),.p (.list some),.p (.int 0)] (zB fd (.obj (8 + τ.length)) vars tolds made++(τ++[.lst xs])) Q')
  (q:Q (.p (.tuple [found,.list ys])) (zB fd (.p .none) vars' tolds' made'++τ)):SatCall C T1 (n + 12) 508 [.obj 2,.p (.str nm),.p (.list some),.p (.list xs)] (zB fd (.p .none) vars tolds made++τ) Q:=by
 refine zN L.Y L.TT L.law_asked rfl ?_
 unfold Zy
 walk_at "st"
 refine zH ?_
 walk_at "st"
 (refine rwE (List.append_assoc ..) ?_;refine rwE YM ?_)
 walk_at "st"
 refine ⟨by exact Nat.le_trans hx (nB9 rfl),zH (XO ?_)⟩
 walk_at "go"
 refine ⟨by exact Nat.le_trans hl (nB9 rfl),?_⟩
 refine SatCall.up (h _ ?_) (by exact lin [_] [] (.a (.v 0) (.k 9)) (.a (.v 0) (.k 11)) [] tT9)
 walk_at "go"
 walk_at "ds"
 walk_at "go"
 refine rwE zBo ?_
 exact vT hm rfl q
theorem zDV (X:Law1X C):Law1A C where
 X:=X
 refused:=λ h q=>WQ X.L h q
 quiet:=λ hl h q=>zB0 X.L hl h q
 within:=λ hl hx hm h q=>zAO X.L hl hx hm h q
end
set_option tactic.hygienic true
noncomputable def zCO:Data->Option ClassData
 | .cls cd=>some cd
 | _=>none
theorem WN {d:Data}{cd:ClassData}(h:zCO d=some cd):d=.cls cd:=by cases d with | cls x=>(refine rwE (so h) ?_;rfl) | _=>exact nn h
noncomputable def uy (K:Frag)(X:Addr):Option ClassData:=(K.lookup X).bind λ o=>(zCO o.data).bind λ cd =>
 gd (yS [!cd.hasDel,!cd.mro.isEmpty,(o.slots.toList[4]?).join==some (.builtin "Exception.__new__"),cd.hasDict,mroIn K X (.ref X)==some true,mroIn K X (.type "Exception")==some true,mroIn K X (.type "AttributeError")==some false,mroIn K X (.type "NameError")==some false,mroIn K X (.type "BaseException")==some true,specialIn K (.ref X) "__call__"==some (some (.builtin "type.__call__")),instIn K (.ref X) (.type "type")==some true]) (some cd)
structure Exc (M:Model)(h:Heap)(X:Addr):Prop where
 obj:∃ oc od cd sl,h.get? X=some ⟨oc,od,.cls cd,sl⟩/\cd.hasDel=false/\cd.mro.isEmpty=false
 made:Looks M h (Bind.madeBy (.ref X)) (some "Exception.__new__")
 base:Looks M h (Bind.staticBase (.ref X)) (.ref X)
 self:Looks M h (isSubtype (.ref X) (.ref X)) true
 top:Looks M h (isSubtype (.ref X) (.type "Exception")) true
 noA:Looks M h (isSubtype (.ref X) (.type "AttributeError")) false
 noN:Looks M h (isSubtype (.ref X) (.type "NameError")) false
 call:Looks M h (specialOf (.ref X) "__call__") (some (.builtin "type.__call__"))
 typ:Looks M h (isInstance (.ref X) (.type "type")) true
theorem UW {K:Frag}{M:Model}{h:Heap}(Y:K.In h){X:Addr}{cd:ClassData}(e:uy K X=some cd):Exc M h X:=by
 refine Eea (ob e) λ o ho e1=>?_
 refine Eea (ob e1) λ cd' hd e2=>?_
 refine Ea (og e2) λ e3 e4=>?_
 cases so e4
 obtain ⟨oc,od,da,sl⟩:=o
 cases WN hd
 have b2:=qn (zC (i:=1) e3 rfl)
 have hc:clsIn K X=some cd:=by unfold clsIn;(refine rwE ho ?_;rfl)
 have hm:Looks M h (mroOf (.ref X)) cd.mro:=(looks_clsIn Y hc).andThen .now
 obtain ⟨c,l,hl⟩:∃ c l,cd.mro=c::l:=by cases q:cd.mro with | nil=>rw [q] at b2;cases b2 | cons c l=>exact ⟨c,l,rfl⟩
 have made:Looks M h (Bind.madeBy (.ref X)) (some "Exception.__new__"):=by
  intro A Q E s k q
  unfold Bind.madeBy
  refine wpAny_bind (hm A _ E s k ?_)
  (refine rwE hl ?_;refine rwE (List.forIn_cons ..) ?_)
  refine wpAny_bind (wpAny_bind (wpAny_bind (wpAny_bind (wpAny_loadPart (k _ _ (Y _ _ ho)) (wpAny_pure ?_)))))
  dsimp only
  (refine rwS Array.getElem?_toList ?_;refine rwE (eq_of_beq (zC (i:=2) e3 rfl)) ?_)
  exact wpAny_pure (wpAny_pure (wpAny_pure q))
 refine ⟨⟨oc,od,cd,sl,Y _ _ ho,(qn (zC (i:=0) e3 rfl)),b2⟩,made,?_,looks_mroIn Y (eq_of_beq (zC (i:=4) e3 rfl)),looks_mroIn Y (eq_of_beq (zC (i:=5) e3 rfl)),looks_mroIn Y (eq_of_beq (zC (i:=6) e3 rfl)),looks_mroIn Y (eq_of_beq (zC (i:=7) e3 rfl)),looks_specialIn Y (eq_of_beq (zC (i:=9) e3 rfl)),looks_instIn Y (eq_of_beq (zC (i:=10) e3 rfl))⟩
 intro A Q E s k q
 unfold Bind.staticBase
 refine wpAny_bind (hm A _ E s k ?_)
 (refine rwE hl ?_;refine rwE (List.forIn_cons ..) ?_)
 exact wpAny_bind (wpAny_bind (wpAny_bind (made A _ E s k (wpAny_pure (wpAny_pure (wpAny_pure q))))))
noncomputable abbrev ZS (X t:Addr):Obj:={cls:=.ref X,data:=.fields #[.ref t,.none,.none,.none,.bool false,.none]}
noncomputable abbrev Zs (vs:List Value):Obj:={cls:=.type "tuple",data:=.seq vs.toArray}
section
variable {prog:Program}{w:World}{A:Around}{X:Addr}{R:Result->Shared->Prop}{h:Heap}{g:Array GenState}{d:Drawn}{t:Nat}{os:OsState}
theorem zBu {rest:List Value}(Y:Exc (model prog w) h X)(hl:rest.length<=100)
  (hq:R (.ok (.ret (.ref (h.objs.size + 1)))) ⟨(h.push (Zs rest)).push (ZS X h.objs.size),g,d,t,os⟩) :
  codeAny (model prog w) A (.call (.builtin "Exception.__new__") ⟨.ref X::rest,[]⟩) R ⟨h,g,d,t,os⟩:=by
 refine Eee Y.obj λ oc od hY=>?_
 refine Eeeaa hY λ cd sl hC e1 e2=>?_
 have made:=Y.made
 have base:=Y.base
 have self:=Y.self
 have top:=Y.top
 have noA:=Y.noA
 have noN:=Y.noN
 have call:=Y.call
 have typ:=Y.typ
 have F:=PySem.F.excBase_Exception
 refine codeAny_call_builtin_code (Code.quiet_builtin _ F.quiet) ?_
 have hstar:=F.noStar
 have here:Looks (model prog w) h (Bind.madeHere "BaseException.__new__" (.ref X)) ():=base.andThen (made.andThen (Looks.of_pure (by simp only [Option.map_some,F.canon,bne_self_eq_false,Bool.false_eq_true,if_false])))
 have args:Bind.checkArgs "Exception.__new__" ⟨.any,"Exception","Exception",.cls,[⟨"args",.varPos,false⟩,⟨"kwargs",.varKw,false⟩]⟩ ⟨.ref X::rest,[]⟩=pure ():=by kernel_rfl
 simp only [checkBuiltinCall,F.newKind,F.newSplit,F.newRow]
 refine rwE args ?_
 repeat (first | simp only [bne_self_eq_false,Bool.false_eq_true,if_false,if_true,Bool.not_true] | lk)
 refine codeAny_builtinAt F.entry ?_
 unfold Builtin.«BaseException.__new__»
 have hends:=F.ends
 refine PySem.wpAt_bind ?_
 show PySem.wpAt _ _ _ (stack >>= _) _ _ _
 refine PySem.wpAt_bind (PySem.wpAt_stack λ p below=>PySem.wpAt_of_wpAny ?_)
 wp_walk
 refine PySem.wpAt_of_wpAny ?_
 refine rwE F.owner ?_
 repeat (first | simp only [Bool.false_eq_true,if_false,Bool.not_true] | lk)
 rw [if_neg (by rw [List.size_toArray];exact Nat.not_lt.mpr (Nat.le_trans hl (by decide)))]
 have hC':=Heap.get?_push_of_some (ZS X h.objs.size) (Heap.get?_push_of_some (Zs rest) hC)
 repeat (first | simp only [e1,Bool.false_eq_true,if_false,Bool.not_true] | lk)
 refine rwE (Heap.size_push ..) ?_
 exact hq
theorem V5 {rest:List Value}{init:Value}(Y:Exc (model prog w) h X)(hi:Looks (model prog w) h (typeLookup (.ref X) "__init__") (some init))
  (hb:∀ self,Looks (model prog w) h (bindSpecial init self) (init,[self])) (hl:rest.length<=100)
  (hq:codeAny (model prog w) (A.under (.builtin "type.__call__" ⟨.ref X::rest,[]⟩)) (.call init ⟨.ref (h.objs.size + 1)::rest,[]⟩) (InitBack (h.objs.size + 1) R) ⟨(h.push (Zs rest)).push (ZS X h.objs.size),g,d,t,os⟩) :
  codeAny (model prog w) A (.call (.ref X) ⟨rest,[]⟩) R ⟨h,g,d,t,os⟩:=by
 have Y':=Y
 refine Eee Y.obj λ oc od hY=>?_
 refine Eeeaa hY λ cd sl hC e1 e2=>?_
 have made:=Y.made
 have base:=Y.base
 have self:=Y.self
 have top:=Y.top
 have noA:=Y.noA
 have noN:=Y.noN
 have call:=Y.call
 have typ:=Y.typ
 refine codeAny_of_tree ?_
 show wpAny _ _ (callAny (.ref X) _) _ _ _
 refine nd_load hC ?_
 show wpAny _ _ (callAny.viaDunder (.ref X) _) _ _ _
 unfold callAny.viaDunder
 refine wpAny_bind (call.at ?_)
 dsimp only
 refine rwE (tc_bind ..) ?_
 refine wpAny_bind (wpAny_pure (wpAny_bind (wpAny_pure ?_)))
 refine wpAny_pure (a:=Fin.again (.call (.builtin "type.__call__") ⟨.ref X::rest,[]⟩)) (And.intro rfl ?_)
 refine codeAny_call_builtin_at (Code.quiet_builtin _ (by decide +kernel)) entry_typeCall (check_slot tc_kind tc_split typ (tc_args _ _ _) ?_)
 unfold Builtin.«type.__call__»
 have hm:Looks (model prog w) h (mroOf (.ref X)) cd.mro:=((Looks.ld (part:=none) hC).andThen .now).andThen .now
 repeat (first | simp only [e2,Bool.false_eq_true,if_false] | with_reducible refine wpAny_call ?_ | lk)
 refine zBu Y' hl ?_
 have k:∀ b o,h.get? b=some o->((h.push (Zs rest)).push (ZS X h.objs.size)).get? b=some o:=λ b o e=>Heap.get?_push_of_some _ (Heap.get?_push_of_some _ e)
 have hx:((h.push (Zs rest)).push (ZS X h.objs.size)).get? (h.objs.size + 1)=some (ZS X h.objs.size):=by heap_get
 have t1:Looks (model prog w) ((h.push (Zs rest)).push (ZS X h.objs.size)) (typeOf (.ref (h.objs.size + 1))) (.ref X):=(Looks.ld hx).andThen .now
 have s1:=self.keeps k
 have i1:=hi.keeps k
 have b1:=(hb (.ref (h.objs.size + 1))).keeps k
 unfold isInstance callSpecial? specialOf
 repeat (first | with_reducible refine wpAny_call ?_ | lk)
 refine codeAny_mono hq λ r s' z=>?_
 rcases r with e | (v | _ | _ | _) <;> first | exact z | exact z.elim | skip
 obtain ⟨rfl,z⟩:=z
 exact wpAny_pure (wpAny_pure z)
end
theorem slot_wdget:Slot "wrapper_descriptor" "__get__" "wrapper_descriptor.__get__":=.of (owner:="wrapper_descriptor") (n:="__get__") (by (refine rwE (typeLookup_type ..) ?_;refine rwE builtinLookup_eq_fast ?_);kernel_rfl) (by decide +kernel) (by decide +kernel) (by decide +kernel)
 (by first | exact .inl (by decide +kernel) | exact .inr (by decide +kernel)) (by refine rwE (isSubtype_type ..) ?_;kernel_rfl)
theorem xX:entryFor table "wrapper_descriptor.__get__"=some Builtin.«wrapper_descriptor.__get__»:=entryFor_of_tree (by kernel_rfl)
theorem wg (a b c:Value):argsOk "wrapper_descriptor.__get__" ⟨[a,b,c],[]⟩:=by unfold argsOk;kernel_rfl
noncomputable abbrev yI:Value:=.builtin "Exception.__init__"
theorem wn:typeOf yI=pure (.type "wrapper_descriptor"):=by
 show builtinType "Exception.__init__"=_
 refine rwE builtinType_eq_fast ?_;kernel_rfl
noncomputable abbrev Z8 (x:Addr):Obj:={cls:=.type "method-wrapper",data:=.fields #[yI,.ref x]}
section
variable {prog:Program}{w:World}{A:Around}{E:Value->Shared->Prop}{h:Heap}{g:Array GenState}{d:Drawn}{t:Nat}{os:OsState}
set_option maxHeartbeats 2000000 in
theorem wC {so D x C:Addr}{l₀ l:List Value}{K:Frag}{name:Str}{tk:Tok}{Q:Fin->Shared->Prop}
  (hso:h.get? so=some (ks_superObj D x C)) (hno:Looks (model prog w) h (opaqueClassAbove (.ref C)) none)
  (hC:Looks (model prog w) h (mroOf (.ref C)) l₀) (hl:(l₀.dropWhile (· != .ref D)).drop 1=l) (X:K.In h)
  (hf:alongIn K name l=some (some yI)) {ox:Obj} (hx:h.get? x=some ox) (hxc:ox.cls=.ref C) (hS:Looks (model prog w) h (isSubtype (.ref C) (.type "Exception")) true) (hxC:x≠C) (hn:(name==("__class__":Str))=false)
  (hq:Q (.done (.ret (.ref h.objs.size))) ⟨h.push (Z8 x),g,d,t,os⟩) :
  wpAny (model prog w) A (Builtin.«super.__getattribute__» ⟨[.ref so,.str name tk],[]⟩) Q E ⟨h,g,d,t,os⟩:=by
 have hlk:=slot_wdget.lookup
 have hcut:".".intercalate ("Exception.__init__".cutAt '.').dropLast="Exception":=by decide +kernel
 have hne:(Value.ref x==Value.ref C)=false:=by simp [hxC]
 have hTf:(⟨h,g,d,t,os⟩:Shared).TypeIs yI "wrapper_descriptor":=wn
 have hdt:(ks_superObj D x C).data=.fields #[.ref D,.ref x,.ref C]:=rfl
 have f0:(#[.ref D,.ref x,.ref C]:Array Value)[0]?=some (.ref D):=rfl
 have f1:(#[.ref D,.ref x,.ref C]:Array Value)[1]?=some (.ref x):=rfl
 have f2:(#[.ref D,.ref x,.ref C]:Array Value)[2]?=some (.ref C):=rfl
 unfold Builtin.«super.__getattribute__»
 repeat (first
  | (with_reducible refine wpAny_field hso hdt f0 ?_) | (with_reducible refine wpAny_field hso hdt f1 ?_) | (with_reducible refine wpAny_field hso hdt f2 ?_)
  | (with_reducible refine ks_wpAny_notOpaque hno ?_)
  | (with_reducible refine Looks.at hC ?_;refine rwE hl ?_)
  | (refine ks_forIn_along X (λ _ _=>rfl) rfl ?_ hf)
  | (with_reducible refine wpAny_typeOf hTf ?_)
  | (with_reducible refine wpAny_call_entry slot_wdget hTf xX ?_ (wg _ _ _))
  | (with_reducible refine wpAny_loadPart_at hx ?_;refine rwE hxc ?_)
  | (refine rwE hcut ?_;with_reducible refine Looks.at hS ?_)
  | (with_reducible refine ⟨_,rfl,?_⟩)
  | (simp only [hn,hne,Bool.or_false,Bool.false_eq_true,if_false])
  | wp_step
  | dsimp only)
 all_goals exact hq
theorem xF {so D x C:Addr}{l₀ l:List Value}{K:Frag}{name:Str}{pl:Sem Bool}{ox:Obj}{Q:Value×List Value->Shared->Prop}
  (hso:h.get? so=some (ks_superObj D x C)) (hno:Looks (model prog w) h (opaqueClassAbove (.ref C)) none)
  (hC:Looks (model prog w) h (mroOf (.ref C)) l₀) (hl:(l₀.dropWhile (· != .ref D)).drop 1=l) (X:K.In h)
  (hf:alongIn K name l=some (some yI)) (hx:h.get? x=some ox) (hxc:ox.cls=.ref C) (hS:Looks (model prog w) h (isSubtype (.ref C) (.type "Exception")) true) (hxC:x≠C) (hn:(name==("__class__":Str))=false)
  (hq:Q (.ref h.objs.size,[]) ⟨h.push (Z8 x),g,d,t + 1,os⟩):wpAny (model prog w) A (getMethod (.ref so) name pl) Q E ⟨h,g,d,t,os⟩:=by
 have hlk:=F.ks_slot_super_ga.lookup
 have hcan:=F.ks_canon_super_ga
 have hT:∀ t',(⟨h,g,d,t',os⟩:Shared).TypeIs (.ref so) "super":=λ _=>⟨_,hso,rfl⟩
 unfold getMethod
 refine wpAny_bind (wpAny_specialOf (hT _) hlk ?_)
 show wpAny _ _ (if (Manifest.canonical "super.__getattribute__" != "object.__getattribute__")=true then _ else _) _ _ _
 refine rwE (if_pos hcan) ?_
 unfold getAttr getAttrBy
 refine wpAny_bind (wpAny_bind (wpAny_mkText (wpAny_holding (wpAny_bind (wpAny_typeOf (hT _) (wpAny_bind (wpAny_of_eq hlk ?_)))))))
 show wpAny _ _ (getAttrByItsOwn (.ref so) (.str name t) (.type "super") (.builtin "super.__getattribute__") true false) _ _ _
 unfold getAttrByItsOwn hookBefore callGetattribute boundAndCalled
 refine wpAny_bind (wpAny_of_eq (show (if onTheHeap (.type "super") then typeLookup (.type "super") "__getattr__" else pure none)=pure none from rfl) ?_)
 refine wpAny_bind (wpAny_attempt (wpAny_holding ?_))
 show wpAny _ _ (bindSpecial (.builtin "super.__getattribute__") (.ref so) >>= _) _ _ _
 refine wpAny_bind (wpAny_of_eq (F.ks_slot_super_ga.bind _) ?_)
 refine wpAny_mono (Q:=λ v s'=>v=.ref h.objs.size/\s'=⟨h.push (Z8 x),g,d,t + 1,os⟩) (E:=λ _ _=>False)
  (wpAny_call_entry F.ks_slot_super_ga (hT _) F.ks_entry_super_ga (wC hso hno hC hl X hf hx hxc hS hxC hn ⟨_,rfl,rfl,rfl⟩) (F.ks_gaArgs_super _ _)) (λ v s' hv=>?_) λ _ _ z=>z.elim
 obtain ⟨rfl,rfl⟩:=hv
 exact wpAny_pure (wpAny_pure hq)
end
section
variable {prog:Program}{w:World}{A:Around}{E:Value->Shared->Prop}{h:Heap}{g:Array GenState}{d:Drawn}{t:Nat}{os:OsState}
set_option maxHeartbeats 1000000 in
theorem vU {b x X t₀:Addr}{what:List Value}{R:Result->Shared->Prop}{oc:Value}{od:Option Addr}{cd:ClassData}{sl:Array (Option Value)}(hC:h.get? X=some ⟨oc,od,.cls cd,sl⟩)(hb:h.get? b=some (Z8 x))(hx:h.get? x=some (ZS X t₀))(hl:what.length<=100)
  (hq:∀ h' t₁,h'.get? x=some (ZS X t₁)->(∀ b o,b≠x->h.get? b=some o->h'.get? b=some o)->R (.ok (.ret .none)) ⟨h',g,d,t,os⟩) :
  codeAny (model prog w) A (.call (.ref b) ⟨what,[]⟩) R ⟨h,g,d,t,os⟩:=by
 have F:=PySem.F.excBase_Exception
 refine codeAny_of_tree ?_
 show wpAny _ A.in1 (callAny (.ref b) _) _ _ _
 unfold callAny
 refine wpAny_bind (wpAny_load hb ?_)
 show wpAny _ _ (checkBoundCall "Exception.__init__" ⟨.ref x::what,[]⟩ >>= _) _ _ _
 unfold checkBoundCall
 simp only [F.initRow,F.initKind]
 refine rwE (if_pos (by decide)) ?_
 refine wpAny_bind ?_
 unfold Bind.checkArgs
 have hc:∀ (a b:String) (n:Nat),Bind.check ⟨.positional,"*","Exception",.self,[⟨"args",.varPos,false⟩]⟩ a b n (([]:List (Str×Value)).map (·.1))=pure ():=λ a b n=>check_star_args _ _ _ _ _ _
 repeat (first | (with_reducible refine wpAny_loadPart_at hx ?_) | (with_reducible refine wpAny_loadPart_at hC ?_) | wp_step)
 refine wpAny_onRaise ?_
 refine rwE (hc ..) ?_
 refine wpAny_pure (wpAny_pure ⟨Code.quiet_builtin _ (by decide +kernel),codeAny_builtin F.initEntry ?_⟩)
 unfold Builtin.«BaseException.__init__»
 have hx₁:=Heap.get?_push_of_some (Zs what) hx
 repeat (first | (rw [if_neg (by rw [List.size_toArray];exact Nat.not_lt.mpr (Nat.le_trans hl (by decide)))]) | (with_reducible refine wpAny_field hx rfl rfl ?_) | (with_reducible refine wpAny_field hx₁ rfl rfl ?_) | wp_step)
 exact hq _ h.objs.size (Heap.get?_update_self _ hx₁ rfl) λ b o n e=>(Heap.get?_update_other _ _ n.symm).trans (Heap.get?_push_of_some _ e)
end
end Mine
namespace Mine
open PySem PySem.Calls PyProof PyProof.Rows PySem.W PySem.SeqAt Builtin Builtin.ObjectAttr
set_option tactic.hygienic true
noncomputable def Yn:List Value->Bool
 | .ref _::r=>Yn r
 | l=>l==[.type "Exception",.type "BaseException",.type "object"]
theorem JN (self:Value):∀ {l:List Value},Yn l=true->refuseLoop self "__setattr__" l=pure ()
 | [],e=>by cases e
 | c::r,e=>by
  cases c with
  | ref a=>refine rwE (refuseLoop_ref ..) ?_;exact JN self (l:=r) e
  | _=>refine rwE (eq_of_beq e) ?_;exact PySem.F.store_Exception.passes self
noncomputable abbrev VY (X t:Addr) (dx:Option Addr):Obj:={cls:=.ref X,dict:=dx,data:=.fields #[.ref t,.none,.none,.none,.bool false,.none]}
noncomputable def zCF (h:Heap)(x:Addr)(l:List Str)(zz:Option Addr):Prop:=@Option.casesOn _ (λ _=>Prop) zz (l=[]) (λ d=>d≠x/\∃ m,h.Ns1 d m/\Within m l)
structure ExcSt (X x:Addr)(h:Heap)(dx:Option Addr)(l:List Str):Prop where
 at_:∃ t,h.get? x=some (VY X t dx)
 dict:zCF h x l dx
section
variable {prog:Program}{w:World}{A:Around}{E:Value->Shared->Prop}{h:Heap}{g:Array GenState}{d:Drawn}{t:Nat}{os:OsState}{K:Frag}{X x:Addr}{dx:Option Addr}{l:List Str}{name:Str}{v:Value}
structure ExcK (K:Frag)(X:Addr)(cd:ClassData):Prop where
 cls:clsIn K X=some cd
 hd:cd.hasDict=true
 tail:Yn cd.mro=true
 sa:findIn K (.ref X) "__setattr__"=some (some (.builtin "object.__setattr__"))
 isO:mroIn K X (.type "object")=some true
theorem j4 {tk:Tok}{Q:PySem.Fin->Shared->Prop}{dd:Addr}{m:Str->Option Value}(hn:h.Ns1 dd m)(hw:Within m l)(hl:l.length<=10)
  (hq:∀ h',h'.Ns1 dd (λ y=>if y=name then some v else m y)->Heap.SameBut dd h h'->Q (.done (.ret .none)) ⟨h',g,d,t + 1,os⟩) :
  wpAny (model prog w) A (storeInDict dd (.str name tk) name v) Q E ⟨h,g,d,t,os⟩:=by
 unfold storeInDict newKeyGuard
 refine wpAny_bind (wpAny_pure (wpAny_bind (wpAny_nsSet1 hn λ h' hn' hs=>?_)))
 obtain ⟨oD,esD,epD,hoD,hdD,hcD⟩:=hn'.count (Within.cons name v hw)
 refine wpAny_bind (wpAny_lookBehind hoD (by refine rwE hdD ?_;exact pastItsLine_dict (Nat.le_trans hcD (by (refine rwE List.length_cons ?_;refine rwE sizeLine_eq ?_);exact Nat.le_trans (Nat.succ_le_succ hl) (nB9 rfl)))) ?_)
 exact wpAny_pure (hq h' hn' hs)
theorem Wx {tk:Tok}{Q:PySem.Fin->Shared->Prop}{cd:ClassData}(Y:K.In h)(EK:ExcK K X cd)(S:ExcSt X x h dx l)(hl:l.length<=10)
  (hq:∀ h' tk' d',ExcSt X x h' (some d') (name::l)->(dx=some d'∨h.get? d'=none)->(∀ b o,b≠x->dx≠some b->h.get? b=some o->h'.get? b=some o)->Q (.done (.ret .none)) ⟨h',g,d,tk',os⟩) :
  wpAny (model prog w) A (storeInOwnDict (.ref x) (.ref X) (.str name tk) name v false) Q E ⟨h,g,d,t,os⟩:=by
 obtain ⟨⟨ta,hx⟩,hd⟩:=S
 refine wpAny_bind (wpAny_pure (wpAny_bind (wpAny_bind (wpAny_loadPart hx (wpAny_bind ((looks_clsIn Y EK.cls).here ?_))))))
 refine rwE EK.hd ?_
 cases dx with
 | none =>
  obtain rfl:l=[]:=hd
  have hxs:x≠h.objs.size:=Nat.ne_of_lt (Heap.lt_size hx)
  have hx₁:=Heap.get?_push_of_some emptyDict hx
  have hd₁:(h.push emptyDict).get? h.objs.size=some emptyDict:=Heap.get?_push_at rfl rfl
  show wpAny _ _ (alloc emptyDict >>= λ dd=>update x (λ o=>{o with dict:=some dd}) >>= λ _=>pure (some dd)) _ _ _
  refine wpAny_bind (wpAny_alloc (wpAny_bind (wpAny_update hx₁ (wpAny_pure ?_))))
  obtain ⟨h₂,e₂⟩:∃ h₂,h₂=(h.push emptyDict).update x λ o=>{o with dict:=some h.objs.size}:=⟨_,rfl⟩
  have g1:h₂.get? x=some (VY X ta (some h.objs.size)):=by refine rwE e₂ ?_;exact Heap.get?_update_self _ hx₁ rfl
  have g2:h₂.get? h.objs.size=some emptyDict:=by refine rwE e₂ ?_;exact (Heap.get?_update_other _ _ hxs).trans hd₁
  have g3:∀ b o,b≠x->h.get? b=some o->h₂.get? b=some o:=λ b o n e=>by refine rwE e₂ ?_;exact (Heap.get?_update_other _ _ n.symm).trans (Heap.get?_push_of_some _ e)
  have hn:h₂.Ns h.objs.size (λ _=>none):=⟨_,#[],_,g2,rfl,λ e he=>absurd he (by simp),λ _=>rfl⟩
  refine rwS e₂ ?_
  refine j4 (Heap.Ns1.of_empty hn) Within.nil (by decide) λ h' n' hs=>hq h' _ h.objs.size ⟨⟨ta,(hs.2 x hxs).trans g1⟩,hxs.symm,_,n',Within.cons name v Within.nil⟩ (.inr (Heap.get?_none_of_le (Nat.le_refl _))) λ b o n1 _ e=>?_
  exact (hs.2 b (Nat.ne_of_lt (Heap.lt_size e))).trans (g3 b o n1 e)
 | some dx =>
  obtain ⟨hne,m,hn,hw⟩:=hd
  refine wpAny_pure (a:=some dx) ?_
  refine j4 hn hw hl λ h' n' hs=>hq h' _ dx ⟨⟨ta,(hs.2 x hne.symm).trans hx⟩,hne,_,n',Within.cons name v hw⟩ (.inl rfl) λ b o _ n2 e=>?_
  exact (hs.2 b (λ q=>n2 (congrArg some q.symm))).trans e
theorem XG {Q:Unit->Shared->Prop}{cd:ClassData}(Y:K.In h)(EK:ExcK K X cd)(hf:findIn K (.ref X) name=some none)(S:ExcSt X x h dx l)(hl:l.length<=10)
  (hq:∀ h' tk' d',ExcSt X x h' (some d') (name::l)->(dx=some d'∨h.get? d'=none)->(∀ b o,b≠x->dx≠some b->h.get? b=some o->h'.get? b=some o)->Q () ⟨h',g,d,tk',os⟩) :
  wpAny (model prog w) A (setAttr (.ref x) name v) Q E ⟨h,g,d,t,os⟩:=by
 have SF:=PySem.F.store_object
 obtain ⟨ta,hx⟩:=S.at_
 have I:∃ od,InstAt h x (VY X ta dx) X od:=by
  have hd:=S.dict
  cases dx with
  | none=>exact ⟨none,hx,rfl,rfl,trivial⟩
  | some dd=>obtain ⟨_,m,⟨o,es,ep,ho,_⟩,_⟩:=hd;exact ⟨some o,hx,rfl,rfl,ho⟩
 obtain ⟨od,I⟩:=I
 refine set_plain (s:=⟨h,g,d,t,os⟩) Y I EK.sa ?_
 have sub:Looks (model prog w) h (isInstance (.ref x) (.type "object")) true:=I.type.andThen (looks_mroIn Y EK.isO)
 have hm:Looks (model prog w) h (mroOf (.ref X)) cd.mro:=(looks_clsIn Y EK.cls).andThen .now
 refine codeAny_call_builtin SF.slot.plain SF.entry (@check_slot (model prog w) _ _ ⟨h,g,d,t + 1,os⟩ "object.__setattr__" "object" "__setattr__" (.ref x) [.str name t,v] [] _ SF.kind SF.split sub (SF.args (.ref x) (.str name t) v) ?_)
 (refine rwE (osa_eq ..) ?_;refine rwE (refuse_eq ..) ?_)
 refine wpAny_bind (wpAny_bind (I.type.here (wpAny_bind (hm.here ?_))))
 refine rwE (JN _ EK.tail) ?_
 refine wpAny_pure (wpAny_bind (I.type.here (wpAny_bind ((looks_findIn Y hf).here (wpAny_bind (wpAny_pure ?_))))))
 show wpAny _ _ (storeInOwnDict (.ref x) (.ref X) (.str name t) name v false) _ _ _
 exact Wx Y EK S hl hq
end
end Mine
namespace Mine
open PySem PySem.Calls PyProof PyProof.Rows PySem.W PySem.SeqAt
set_option tactic.hygienic true
theorem zAP {M:Model}{h:Heap}{b x:Addr}(hb:h.get? b=some (Z8 x)):Looks M h (keeperOf (.ref b)) .machine:=(Looks.ld (part:=none) hb).andThen (Looks.of_pure (by kernel_rfl))
structure ExcX (C:Cx)(file:Str)(X D1 f1 D2 f2:Addr)(cd:ClassData):Prop where
 S:SupX C file
 EK:ExcK C.K X cd
 L:uy C.K X=some cd
 nw:findIn C.K (.ref X) "what"=some none
 ns:findIn C.K (.ref X) "spot"=some none
 isE:mroIn C.K X (.type "Exception")=some true
 s1:Jm C.K file f1 ⟨D1,"self",["what"],["what"],"what",some "what"⟩
 m1:mroIn C.K X (.ref D1)=some true
 b1:ks_superIn C.K X D1 "__init__"=some (some yI)
 s2:Jm C.K file f2 ⟨D2,"self",["what","spot"],["what"],"spot",some "spot"⟩
 m2:mroIn C.K X (.ref D2)=some true
 b2:ks_superIn C.K X D2 "__init__"=some (some (.ref f1))
 t1:typeIn C.K (.ref f1)=some (.type "function")
 n1:fnIn C.K f1=true
 i2:findIn C.K (.ref X) "__init__"=some (some (.ref f2))
 t2:typeIn C.K (.ref f2)=some (.type "function")
section
variable {C:Cx}{file:Str}{X D1 f1 D2 f2 x:Addr}{cd:ClassData}{A:Around}{n:Nat}{s:Shared}{R:Result->Shared->Prop}
theorem uu {K:Frag}{D:Addr}{nm:Str}{r:Option Value}(hc:clsIn K X=some cd)(h:ks_superIn K X D nm=some r):alongIn K nm ((cd.mro.dropWhile (· != .ref D)).drop 1)=some r:=by
 unfold ks_superIn at h
 rw [hc] at h
 exact h
theorem zEe (Y:C.Good)(E:ExcX C file X D1 f1 D2 f2 cd){v:Value}(hA:Room (n + 1) A)(kp:∀ b o,C.h₀.get? b=some o->s.heap.get? b=some o)(hx0:C.h₀.get? x=none)(hxX:x≠X)(S:ExcSt X x s.heap none [])
  (hq:∀ h' tk d',ExcSt X x h' (some d') ["what"]->s.heap.get? d'=none->(∀ b o,b≠x->s.heap.get? b=some o->h'.get? b=some o)->R (.ok (.ret .none)) {s with heap:=h',toks:=tk}) :
  codeAny (model C.prog C.w) A (.call (.ref f1) ⟨[.ref x,v],[]⟩) R s:=by
 obtain ⟨ta,hx⟩:=S.at_
 refine Ee E.s1 λ S hB=>?_
 refine jX Y hB E.S.hfile E.S.htop E.S.hg E.S.hb hA kp rfl hx rfl rfl E.m1 λ A' h₁ tk so L m pl hm rA oA kk hso hL hns=>?_
 have X1:=Y.X.keeps λ b o e=>kk b o (kp b o e)
 obtain ⟨hp,g,d,t,os⟩:=s
 have hx1:=kk _ _ hx
 have hLx:L≠x:=by rintro rfl;rw [hx] at hL;cases hL
 obtain ⟨oX,hX⟩:∃ o,C.h₀.get? X=some o:=by
  have:=E.EK.cls
  unfold clsIn at this
  cases z:C.K.lookup X with
  | none=>rw [z] at this;cases this
  | some o=>exact ⟨o,Y.X _ _ z⟩
 refine xF hso (looks_opaque X1 E.S.ho) (l₀:=cd.mro) ((looks_clsIn X1 E.EK.cls).andThen .now) rfl X1 (uu E.EK.cls E.b1) hx1 rfl (looks_mroIn X1 E.isE) hxX (by decide) ?_
 have gq:(h₁.push (Z8 x)).get? h₁.objs.size=some (Z8 x):=Heap.get?_push_at rfl rfl
 have kq:∀ b o,h₁.get? b=some o->(h₁.push (Z8 x)).get? b=some o:=λ b o e=>Heap.get?_push_of_some _ e
 obtain ⟨⟨oc,od,cd',sl,hC,_⟩,_⟩:=UW (M:=model C.prog C.w) (X1.keeps kq) E.L
 refine ⟨hns.keeps kq,⟨_,.inr (.inl rfl),zAP gq⟩,wpAny_call (vU hC gq (kq _ _ hx1) (by simp) λ h₂ t₁ hx2 k2=>?_)⟩
 have kA:∀ b o,b≠x->hp.get? b=some o->h₂.get? b=some o:=λ b o ne e=>k2 b o ne (kq b o (kk b o e))
 refine ⟨(hns.keeps kq).at λ o e=>k2 _ o hLx e,?_⟩
 refine XG (dx:=none) (l:=[]) (Y.X.keeps λ b o e=>kA b o (by rintro rfl;rw [hx0] at e;cases e) (kp b o e)) E.EK E.nw ⟨⟨t₁,hx2⟩,rfl⟩ (by decide) λ h' tk' d' S' hd' k'=>?_
 have nd:d'≠x:=S'.dict.1
 rcases hd' with e | e
 ·cases e
 ·refine hq h' tk' d' S' ?_ λ b o ne e'=>k' b o ne (λ z=>nomatch z) (kA b o ne e')
  cases z:hp.get? d' with
  | none=>rfl
  | some o=>rw [kA d' o nd z] at e;cases e
theorem zE7 (Y:C.Good)(E:ExcX C file X D1 f1 D2 f2 cd){v v':Value}(hA:Room (n + 2) A)(kp:∀ b o,C.h₀.get? b=some o->s.heap.get? b=some o)(hx0:C.h₀.get? x=none)(hxX:x≠X)(S:ExcSt X x s.heap none [])
  (hq:∀ h' tk d',ExcSt X x h' (some d') ["spot","what"]->(∀ b o,b≠x->s.heap.get? b=some o->h'.get? b=some o)->R (.ok (.ret .none)) {s with heap:=h',toks:=tk}) :
  codeAny (model C.prog C.w) A (.call (.ref f2) ⟨[.ref x,v,v'],[]⟩) R s:=by
 obtain ⟨ta,hx⟩:=S.at_
 refine Ee E.s2 λ S hB=>?_
 refine jX Y hB E.S.hfile E.S.htop E.S.hg E.S.hb hA kp rfl hx rfl rfl E.m2 λ A' h₁ tk so L m pl hm rA oA kk hso hL hns=>?_
 have X1:=Y.X.keeps λ b o e=>kk b o (kp b o e)
 obtain ⟨hp,g,d,t,os⟩:=s
 have hx1:=kk _ _ hx
 have hLx:L≠x:=by rintro rfl;rw [hx] at hL;cases hL
 obtain ⟨of,hof,hofc⟩:∃ of,h₁.get? f1=some of/\of.cls=.type "function":=by
  have ht':(C.K.lookup f1).map (·.cls)=some (.type "function"):=E.t1
  cases z:C.K.lookup f1 with
  | none=>rw [z] at ht';cases ht'
  | some of=>rw [z] at ht';exact ⟨of,X1 _ _ z,Option.some.inj ht'⟩
 refine ks_wpAny_getMethod_super hso (looks_opaque X1 E.S.ho) (l₀:=cd.mro) ((looks_clsIn X1 E.EK.cls).andThen .now) rfl X1 (uu E.EK.cls E.b2) hof hofc hxX (by decide) ?_
 have gq:(h₁.push {cls:=.type "method",data:=.fields #[.ref f1,.ref x]}).get? h₁.objs.size=some (methodObj (.ref f1) (.ref x)):=Heap.get?_push_at rfl rfl
 have kq:∀ b o,h₁.get? b=some o->(h₁.push {cls:=.type "method",data:=.fields #[.ref f1,.ref x]}).get? b=some o:=λ b o e=>Heap.get?_push_of_some _ e
 have kA:∀ b o,hp.get? b=some o->(h₁.push {cls:=.type "method",data:=.fields #[.ref f1,.ref x]}).get? b=some o:=λ b o e=>kq b o (kk b o e)
 refine ⟨hns.keeps kq,keeps_M E.n1 _ ⟨gq,X1.keeps kq⟩,?_⟩
 refine wpAny_call (ks_codeAny_call_bound gq (zEe (n:=n) (s:=⟨h₁.push {cls:=.type "method",data:=.fields #[.ref f1,.ref x]},g,d,tk + 1,os⟩) Y E rA (λ b o e=>kA b o (kp b o e)) hx0 hxX ⟨⟨ta,kA _ _ hx⟩,rfl⟩ λ h₂ tk₂ d₂ S₂ hd₂ k₂=>?_))
 have kB:∀ b o,b≠x->hp.get? b=some o->h₂.get? b=some o:=λ b o ne e=>k₂ b o ne (kA b o e)
 refine ⟨(hns.keeps kq).at λ o e=>k₂ _ o hLx e,?_⟩
 refine XG (dx:=some d₂) (l:=["what"]) (Y.X.keeps λ b o e=>kB b o (by rintro rfl;rw [hx0] at e;cases e) (kp b o e)) E.EK E.ns S₂ (by decide) λ h' tk' d' S' hd' k'=>?_
 refine hq h' tk' d' S' λ b o ne e=>k' b o ne (λ z=>?_) (kB b o ne e)
 rw [<- Option.some.inj z] at e
 have hd₂:(h₁.push {cls:=.type "method",data:=.fields #[.ref f1,.ref x]}).get? d₂=none:=hd₂
 rw [kA d₂ o e] at hd₂
 cases hd₂
theorem VG (Y:C.Good)(E:ExcX C file X D1 f1 D2 f2 cd)(A:Around)(s:Shared)(v v':Value)(hA:Room 5 A)(kp:∀ b o,C.h₀.get? b=some o->s.heap.get? b=some o):wpAny (model C.prog C.w) A (call (.ref X) [v,v']) (uU X s) NoE s:=by
 have X0:=Y.X.keeps kp
 obtain ⟨hp,g,d,t,os⟩:=s
 refine wpAny_call (V5 (UW X0 E.L) (looks_findIn X0 E.i2) (λ self=>bind_fn X0 self E.t2) (nB9 rfl) ?_)
 obtain ⟨⟨oc,od,cd',sl,hC,_⟩,_⟩:=UW (M:=model C.prog C.w) X0 E.L
 have k:∀ b o,hp.get? b=some o->((hp.push (Zs [v,v'])).push (ZS X hp.objs.size)).get? b=some o:=λ b o e=>Heap.get?_push_of_some _ (Heap.get?_push_of_some _ e)
 have hx:((hp.push (Zs [v,v'])).push (ZS X hp.objs.size)).get? (hp.objs.size + 1)=some (ZS X hp.objs.size):=by heap_get
 have hxn:hp.get? (hp.objs.size + 1)=none:=Heap.get?_none_of_le (Nat.le_succ _)
 have hx0:C.h₀.get? (hp.objs.size + 1)=none:=by
  cases z:C.h₀.get? (hp.objs.size + 1) with
  | none=>rfl
  | some o=>rw [kp _ _ z] at hxn;cases hxn
 refine zE7 (n:=2) (s:=⟨(hp.push (Zs [v,v'])).push (ZS X hp.objs.size),g,d,t,os⟩) Y E (xl hA _ _) (λ b o e=>k b o (kp b o e)) hx0 (λ z=>?_) ⟨⟨_,hx⟩,rfl⟩ λ h' tk d' S' k'=>?_
 ·rw [z,hC] at hxn;cases hxn
 ·obtain ⟨t',hx'⟩:=S'.at_
  exact ⟨rfl,_,h',tk,_,_,_,rfl,rfl,λ b o e=>k' b o (λ z=>by rw [z,hxn] at e;cases e) (k b o e),hxn,hx',rfl,rfl,rfl,rfl⟩
end
set_option tactic.hygienic false
noncomputable def zEt (s:Stmt):Option {q:Expr×Pos // s=.Expr q.1 q.2}:=by
 apply @Stmt.casesOn (λ s=>Option {q:Expr×Pos // s=.Expr q.1 q.2}) s <;> intros <;> first | exact some ⟨(_,_),rfl⟩ | exact none
noncomputable def zFj (s:Stmt):Option {q:Expr×Expr×Pos // s=.Assign [q.1] q.2.1 q.2.2}:=wo (β:=λ s=>{q:Expr×Expr×Pos // s=.Assign [q.1] q.2.1 q.2.2}) s λ t e p=>some ⟨(t,e,p),rfl⟩
noncomputable def zAg (e:Expr):Option {q:Expr×List Expr×List Keyword×Pos // e=.Call q.1 q.2.1 q.2.2.1 q.2.2.2}:=JO (β:=λ e=>{q:Expr×List Expr×List Keyword×Pos // e=.Call q.1 q.2.1 q.2.2.1 q.2.2.2}) e λ f es kw p=>some ⟨(f,es,kw,p),rfl⟩
noncomputable def zAa (e:Expr):Option {q:Expr×Str×Pos // e=.Attribute q.1 q.2.1 q.2.2}:=Ut (β:=λ e=>{q:Expr×Str×Pos // e=.Attribute q.1 q.2.1 q.2.2}) e λ o nm p=>some ⟨(o,nm,p),rfl⟩
structure SupV (b:List Stmt)(sf:Str)(an:List Str)(attr:Str)(sv:SV) where
 as:List Expr
 v:Expr
 ap:Pos
 cp:Pos
 body:∃ p0 p1 ep q0 q1 q2,b=[.Expr (.Call (.Attribute (.Call (.Name "super" p0) [] [] p1) "__init__" ap) as [] cp) ep,.Assign [.Attribute (.Name sf q0) attr q1] v q2]
 han:QP as=some an
 hsv:UO v=some sv
 c21:(ap.endLine==cp.line)=true
 c22:Nat.ble as.length 29=true
noncomputable def zDU (sf attr:Str)(an:List Str)(sv:SV)(as:List Expr)(kw:List Keyword)(as':List Expr)(kw':List Keyword)(x nm at2 y:Str)(v:Expr)(ap cp:Pos):List Bool:=[kw.isEmpty,as'.isEmpty,kw'.isEmpty,x=="super",nm=="__init__",at2==attr,y==sf,QP as==some an,UO v==some sv,ap.endLine==cp.line,Nat.ble as.length 29]
theorem Vk {s1 s2:Stmt}{e f o g t o2 v:Expr}{as as':List Expr}{kw kw':List Keyword}{nm x at2 y:Str}{ep cp ap p1 p0 q2 q1 q0:Pos}{sf attr:Str}(h1:s1=.Expr e ep)(h6:s2=.Assign [t] v q2)(h2:e=.Call f as kw cp)(h3:f=.Attribute o nm ap)(h4:o=.Call g as' kw' p1)(h5:g=.Name x p0)(h7:t=.Attribute o2 at2 q1)(h8:o2=.Name y q0)
  (k1:kw=[]) (k2:as'=[]) (k3:kw'=[]) (k4:x="super") (k5:nm="__init__") (k6:at2=attr) (k7:y=sf) :
  [s1,s2]=[.Expr (.Call (.Attribute (.Call (.Name "super" p0) [] [] p1) "__init__" ap) as [] cp) ep,.Assign [.Attribute (.Name sf q0) attr q1] v q2]:=by
 (refine rwE h1 ?_;refine rwE h6 ?_;refine rwE h2 ?_;refine rwE h3 ?_;refine rwE h4 ?_;refine rwE h5 ?_;refine rwE h7 ?_;refine rwE h8 ?_;refine rwE k1 ?_;refine rwE k2 ?_;refine rwE k3 ?_;refine rwE k4 ?_;refine rwE k5 ?_;refine rwE k6 ?_;refine rwE k7 ?_;rfl)
noncomputable def zFk (b:List Stmt)(sf:Str)(an:List Str)(attr:Str)(sv:SV):Option (SupV b sf an attr sv):=match b with
 | []=>none
 | s1::r=>match r with
  | []=>none
  | s2::r=>match r with
   | _::_=>none
   | []=>(zEt s1).bind λ e1=>(zAg e1.1.1).bind λ c1=>(zAa c1.1.1).bind λ a1=>(zAg a1.1.1).bind λ c2=>(yd c2.1.1).bind λ n1=>(zFj s2).bind λ e2=>(zAa e2.1.1).bind λ a2=>(yd a2.1.1).bind λ n2 =>
    gdE (yS (zDU sf attr an sv c1.1.2.1 c1.1.2.2.1 c2.1.2.1 c2.1.2.2.1 n1.1.1 a1.1.2.1 a2.1.2.1 n2.1.1 e2.1.2.1 a1.1.2.2 c1.1.2.2.2)) λ h =>
    some ⟨c1.1.2.1,e2.1.2.1,a1.1.2.2,c1.1.2.2.2,⟨_,_,_,_,_,_,(Vk e1.2 e2.2 c1.2 a1.2 c2.2 n1.2 a2.2 n2.2 (List.isEmpty_iff.mp (zC (i:=0) h rfl)) (List.isEmpty_iff.mp (zC (i:=1) h rfl)) (List.isEmpty_iff.mp (zC (i:=2) h rfl)) (eq_of_beq (zC (i:=3) h rfl)) (eq_of_beq (zC (i:=4) h rfl)) (eq_of_beq (zC (i:=5) h rfl)) (eq_of_beq (zC (i:=6) h rfl)))⟩,eq_of_beq (zC (i:=7) h rfl),eq_of_beq (zC (i:=8) h rfl),zC (i:=9) h rfl,zC (i:=10) h rfl⟩
theorem jT {o:Obj}{d:Data}(h:o.data=d):o=⟨o.cls,o.dict,d,o.slots⟩:=h▸rfl
noncomputable def zAi:Data->Option (Option Value)
 | .cell c=>some c
 | _=>none
theorem zBi {d:Data}{c:Option Value}(h:zAi d=some c):d=.cell c:=by cases d with | cell x=>(refine rwE (so h) ?_;rfl) | _=>exact nn h
noncomputable def Vv:Data->Option (Array Value)
 | .fields c=>some c
 | _=>none
theorem zCJ {d:Data}{c:Array Value}(h:Vv d=some c):d=.fields c:=by cases d with | fields x=>(refine rwE (so h) ?_;rfl) | _=>exact nn h
noncomputable def vt:Value->Option Addr
 | .ref a=>some a
 | _=>none
theorem zDw {v:Value}{a:Addr}(h:vt v=some a):v=.ref a:=by cases v with | ref x=>(refine rwE (so h) ?_;rfl) | _=>exact nn h
noncomputable def VE:Value->Option (Str×Tok)
 | .str x t=>some (x,t)
 | _=>none
theorem zCY {v:Value}{a:Str×Tok}(h:VE v=some a):v=.str a.1 a.2:=by cases v with | str x t=>(refine rwS (so h) ?_;rfl) | _=>exact nn h
noncomputable def zDE (K:Frag)(file:Str)(D:Addr)(sf:Str)(ps an:List Str)(sv:SV)(fd:FuncData)(p:Str×Addr)(oc:Obj)(ft:Str×Tok):List Bool:=[yr fd.params==some (sf::ps),fd.closure==[(("__class__":Str),p.2)],zAi oc.data==some (some (.ref D)),ft.1==file,codeIn K fd.code fd.qualname,fd.globals==mainGlobals,fd.builtins==builtinsNs,fd.defaults==.none,!fd.scope.isCoroutine,!fd.scope.isGenerator,fd.scope.kind==.function,
 fd.scope.names.all λ y=>y.2 != .cell,(sf::ps).all λ y=>fd.scope.names.lookup y==some .local,decide (sf::ps).Nodup,an.all λ y=>(sf::ps).contains y&&y != "__debug__",zD7 (sf::ps) sv,sf != "__debug__",fd.scope.names.lookup ("super":Str)==some .globalImplicit,fd.scope.names.lookup ("__class__":Str)==some .free]
noncomputable def XS (K:Frag)(file:Str)(f D:Addr)(sf:Str)(ps an:List Str)(attr:Str)(sv:SV):Bool :=
 ((K.lookup f).bind λ o=>(dFn o.data).bind λ fd=>(wb fd.body).bind λ b=>(zFk b sf an attr sv).bind λ _=>(fd.closure.head?).bind λ p=>(K.lookup p.2).bind λ oc=>(vt fd.code).bind λ cda=>(K.lookup cda).bind λ od=>(Vv od.data).bind λ vsC=>(vsC[2]?).bind λ x=>(VE x).bind λ ft=>(clsIn K D).bind λ _=>gd (yS (zDE K file D sf ps an sv fd p oc ft)) (some ())).isSome
theorem zBJ {K:Frag}{file:Str}{f D:Addr}{sf:Str}{ps an:List Str}{attr:Str}{sv:SV}{o:Obj}{fd:FuncData}{b:List Stmt}{p:Str×Addr}{oc od:Obj}{cda:Addr}{vsC:Array Value}{x:Value}{ft:Str×Tok}{cdD:ClassData}(hl:K.lookup f=some o)(hfd:dFn o.data=some fd)(hb:wb fd.body=some b)(V:SupV b sf an attr sv)(hoc:K.lookup p.2=some oc)
  (hcda:vt fd.code=some cda) (hod:K.lookup cda=some od) (hvs:Vv od.data=some vsC) (hx:vsC[2]?=some x) (hft:VE x=some ft) (hcD:clsIn K D=some cdD) (h:yS (zDE K file D sf ps an sv fd p oc ft)=true):Jm K file f ⟨D,sf,ps,an,attr,sv⟩:=by
 obtain ⟨as,v,ap,cp,⟨p0,p1,ep,q0,q1,q2,hbd⟩,han,hsv,c21,c22⟩:=V
 refine ⟨⟨fd,p0,p1,ap,cp,ep,q0,q1,q2,as,v,p.2,cda,vsC,ft.2,cdD⟩,?_⟩
 exact ⟨⟨_,_,_,hl.trans (congrArg some (jT (zAs hfd)))⟩,eq_of_beq (zC (i:=0) h rfl),(Wi hb).trans (congrArg _ hbd),eq_of_beq (zC (i:=1) h rfl),zDw hcda,han,hsv,⟨_,_,_,hod.trans (congrArg some (jT (zCJ hvs)))⟩,by (refine rwE hx ?_;refine rwE (zCY hft) ?_;refine rwE (eq_of_beq (zC (i:=3) h rfl)) ?_;rfl),⟨_,_,_,hoc.trans (congrArg some (jT (zBi (eq_of_beq (zC (i:=2) h rfl)))))⟩,hcD,zC (i:=4) h rfl,eq_of_beq (zC (i:=5) h rfl),eq_of_beq (zC (i:=6) h rfl),eq_of_beq (zC (i:=7) h rfl),qn (zC (i:=8) h rfl),qn (zC (i:=9) h rfl),eq_of_beq (zC (i:=10) h rfl),
  λ y m=>bne_iff_ne.mp (List.all_eq_true.mp (zC (i:=11) h rfl) y m),λ y m=>eq_of_beq (List.all_eq_true.mp (zC (i:=12) h rfl) y m),of_decide_eq_true (zC (i:=13) h rfl),λ y m=>Ea (zR (List.all_eq_true.mp (zC (i:=14) h rfl) y m)) λ a1 a2=>⟨List.contains_iff_mem.mp a1,bne_iff_ne.mp a2⟩,zC (i:=15) h rfl,bne_iff_ne.mp (zC (i:=16) h rfl),c21,Nat.lt_succ_of_le (Nat.le_of_ble_eq_true c22),eq_of_beq (zC (i:=17) h rfl),eq_of_beq (zC (i:=18) h rfl)⟩
theorem Jf {K:Frag}{file:Str}{f D:Addr}{sf:Str}{ps an:List Str}{attr:Str}{sv:SV}(h:XS K file f D sf ps an attr sv=true):Jm K file f ⟨D,sf,ps,an,attr,sv⟩ :=
 Ee (Option.isSome_iff_exists.mp h) λ _ h=>Eea (ob h) λ _ hl h=>Eea (ob h) λ _ hfd h=>Eea (ob h) λ _ hb h=>Eea (ob h) λ V _ h=>Eea (ob h) λ _ _ h=>Eea (ob h) λ _ hoc h=>Eea (ob h) λ _ hcda h=>Eea (ob h) λ _ hod h=>Eea (ob h) λ _ hvs h=>Eea (ob h) λ _ hx h=>Eea (ob h) λ _ hft h=>Eea (ob h) λ _ hcD h=>zBJ hl hfd hb V hoc hcda hod hvs hx hft hcD (og h).1
noncomputable def funs1:List (Addr×Nat×Nat×List St):=[(28,2,2,yN),(35,1,1,Jc),(42,1,1,yu),(179,1,1,Z4),(186,2,2,qt),(193,1,1,jS),(198,3,8,uk),(144,3,3,y6),(151,2,2,Ud),(158,1,1,Ui),(165,2,2,Qs),(137,1,1,Qr),(226,1,1,Qo),(233,3,6,j2),(240,2,8,jZ),(245,2,9,b_var_of),
 (250,2,2,YB),(339,2,2,UH),(346,3,5,qy),(384,4,7,qA),(494,2,3,yR),(501,1,1,QR),(508,4,6,Zy),(515,1,1,Zd),(520,2,2,qj),(527,1,1,qk),(532,2,4,qi),(537,3,8,b_law_whole),(542,1,26,b_law)]
noncomputable abbrev y4:Str:="/claim/cut.py"
noncomputable def zCI (K:Frag)(X D1 f1 D2 f2:Addr):Bool:=(uy K X).any λ cd=>yS [cd.hasDict,Yn cd.mro,findIn K (.ref X) "__setattr__"==some (some (.builtin "object.__setattr__")),mroIn K X (.type "object")==some true,findIn K (.ref X) "what"==some none,findIn K (.ref X) "spot"==some none,mroIn K X (.type "Exception")==some true,XS K y4 f1 D1 "self" ["what"] ["what"] "what" (some "what"),mroIn K X (.ref D1)==some true,ks_superIn K X D1 "__init__"==some (some yI),XS K y4 f2 D2 "self" ["what","spot"] ["what"] "spot" (some "spot"),mroIn K X (.ref D2)==some true,ks_superIn K X D2 "__init__"==some (some (.ref f1)),typeIn K (.ref f1)==some (.type "function"),fnIn K f1,findIn K (.ref X) "__init__"==some (some (.ref f2)),typeIn K (.ref f2)==some (.type "function"),keepIn K (.ref X),typeIn K (.ref X)==some (.type "type"),mroIn K X (.type "BaseException")==some true,mroIn K X (.ref X)==some true,instIn K (.ref X) (.type "tuple")==some false]
noncomputable def JF (K:Frag):Bool:=yS [zAd K T1,nsIn K mainGlobals "law"==some (some (.ref 542)),nsIn K mainGlobals "super"==some none,nsIn K cStatics "thirdparty.any"==some none,zCI K 109 68 58 97 87,makesIn K 485,keepIn K (.ref 485),findIn K (.ref 485) "__init__"==some (some (.ref 332)),typeIn K (.ref 332)==some (.type "function"),keepIn K (.ref 332),makesIn K 168,keepIn K (.ref 168),findIn K (.ref 168) "__init__"==some (some (.ref 137)),typeIn K (.ref 137)==some (.type "function"),XS K y4 332 485 "self" [] [] "partial" none,mroIn K 485 (.ref 485)==some true,ks_superIn K 485 485 "__init__"==some (some (.ref 226)),typeIn K (.ref 226)==some (.type "function"),fnIn K 226]
theorem VH {K:Frag}{X:Addr}{cd:ClassData}(e:uy K X=some cd):clsIn K X=some cd:=by
 refine Eea (ob e) λ o ho e1=>?_
 refine Eea (ob e1) λ cd' hd e2=>?_
 refine Ea (og e2) λ e3 e4=>?_
 cases so e4
 obtain ⟨oc,od,da,sl⟩:=o
 cases WN hd
 unfold clsIn;(refine rwE ho ?_;rfl)
theorem zA5 {C:Cx}{X D1 f1 D2 f2:Addr}(Y:C.Good)(S:SupX C y4)(h:zCI C.K X D1 f1 D2 f2=true):ExcOk C X:=by
 have ⟨cd,hL,h⟩:∃ cd,uy C.K X=some cd/\_:=any_some h
 have hc:=VH hL
 have E:ExcX C y4 X D1 f1 D2 f2 cd:=⟨S,⟨hc,(zC (i:=0) h rfl),(zC (i:=1) h rfl),eq_of_beq (zC (i:=2) h rfl),eq_of_beq (zC (i:=3) h rfl)⟩,hL,eq_of_beq (zC (i:=4) h rfl),eq_of_beq (zC (i:=5) h rfl),eq_of_beq (zC (i:=6) h rfl),Jf (zC (i:=7) h rfl),eq_of_beq (zC (i:=8) h rfl),eq_of_beq (zC (i:=9) h rfl),Jf (zC (i:=10) h rfl),eq_of_beq (zC (i:=11) h rfl),eq_of_beq (zC (i:=12) h rfl),eq_of_beq (zC (i:=13) h rfl),(zC (i:=14) h rfl),eq_of_beq (zC (i:=15) h rfl),eq_of_beq (zC (i:=16) h rfl)⟩
 exact ⟨(zC (i:=17) h rfl),by refine rwE hc ?_;rfl,eq_of_beq (zC (i:=18) h rfl),eq_of_beq (zC (i:=19) h rfl),eq_of_beq (zC (i:=20) h rfl),eq_of_beq (zC (i:=21) h rfl),λ A s v v' hA kp=>VG Y E A s v v' hA kp⟩
theorem Vs {C:Cx}(Y:C.Good)(hb:∀ y:Str,y≠"__name__"->C.mb y=bootBuiltins y)(hfile:((C.prog.main.file:Str)==y4)=true)(htop:(C.prog.main.scope.names.lookup ("super":Str)).isSome=false)(hsup:bootBuiltins "super"=some (.type "super"))
  (hf:funs1.map (λ f=>trF C.K T1 Z1 60 f.1)=funs1.map λ f=>some f.2) (h:JF C.K=true):Law1A C:=by
 have S:SupX C y4:=⟨hfile,htop,mg_none_of Y.X Y.g (eq_of_beq (zC (i:=2) h rfl)),(hb _ (by decide)).trans hsup,eq_of_beq (zC (i:=3) h rfl)⟩
 have TT:TOk C T1:=zDe Y hb (λ _=>zA5 Y S (zC (i:=4) h rfl)) (zC (i:=0) h rfl)
 have hf':∀ (i:Nat) (f:Addr×Nat×Nat×List St),funs1[i]?=some f->trF C.K T1 Z1 60 f.1=some f.2:=λ i f e=>by
  have:=congrArg (λ l:List (Option (Nat×Nat×List St))=>l[i]?) hf
  rw [List.getElem?_map,List.getElem?_map,e] at this
  exact so this
 have L:Law1 C:=⟨Y,TT,hf' 0 _ rfl,hf' 1 _ rfl,hf' 2 _ rfl,hf' 3 _ rfl,hf' 4 _ rfl,hf' 5 _ rfl,hf' 6 _ rfl,hf' 7 _ rfl,hf' 8 _ rfl,hf' 9 _ rfl,hf' 10 _ rfl,hf' 11 _ rfl,hf' 12 _ rfl,hf' 13 _ rfl,hf' 14 _ rfl,hf' 15 _ rfl,hf' 16 _ rfl,hf' 17 _ rfl,hf' 18 _ rfl,hf' 19 _ rfl,hf' 20 _ rfl,hf' 21 _ rfl,hf' 22 _ rfl,hf' 23 _ rfl,hf' 24 _ rfl,hf' 25 _ rfl,hf' 26 _ rfl,hf' 27 _ rfl,hf' 28 _ rfl⟩
 exact zDV ⟨L,S,(zC (i:=5) h rfl),(zC (i:=6) h rfl),eq_of_beq (zC (i:=7) h rfl),eq_of_beq (zC (i:=8) h rfl),(zC (i:=9) h rfl),(zC (i:=10) h rfl),(zC (i:=11) h rfl),eq_of_beq (zC (i:=12) h rfl),eq_of_beq (zC (i:=13) h rfl),Jf (zC (i:=14) h rfl),eq_of_beq (zC (i:=15) h rfl),eq_of_beq (zC (i:=16) h rfl),eq_of_beq (zC (i:=17) h rfl),(zC (i:=18) h rfl)⟩
noncomputable def hA:List Addr:=[2,3,27,28,34,35,41,42,46,57,58,67,68,75,86,87,96,97,108,109,136,137,143,144,150,151,157,158,164,165,167,168,178,179,185,186,192,193,197,198,225,226,232,233,239,240,244,245,249,250,302,311,312,320,331,332,338,339,345,346,383,384,484,485,493,494,500,501,507,508,514,515,519,520,526,527,531,532,536,537,541,542]
noncomputable def jb (h:Heap):Frag:=hA.filterMap λ a=>(h.get? a).map λ o=>(a,o)
theorem zBt (h:Heap):(jb h).In h:=λ a o e=>by
 unfold jb at e
 refine Eea (List.mem_filterMap.mp (mem_of_lookupK e)) λ b hb e'=>?_
 refine Eea (Option.map_eq_some_iff.mp e') λ o' h1 h2=>?_
 cases h2
 exact h1
end Mine
namespace Mine
open PySem PySem.W PyProof PyProof.Rows
set_option tactic.hygienic true
noncomputable def Va (l:List Obj):Nat:=List.rec 0 (λ _ _ n=>n + 1) l
noncomputable def YS (l:List Obj):Nat->Option Obj:=List.rec (λ _=>none) (λ o _ ih i=>bif Nat.beq i 0 then some o else ih (i - 1)) l
noncomputable def VQ (f:Obj->Obj)(l:List Obj):Nat->List Obj:=List.rec (λ _=>[]) (λ o r ih i=>bif Nat.beq i 0 then f o::r else o::ih (i - 1)) l
noncomputable def wF (l:List Obj)(x:Obj):List Obj:=List.rec [x] (λ o _ ih=>o::ih) l
theorem XM:∀ l:List Obj,Va l=l.length
 | []=>rfl
 | _::r=>congrArg (· + 1) (XM r)
theorem XE:∀ (l:List Obj) (i:Nat),YS l i=l[i]?
 | [],_=>rfl
 | _::_,0=>rfl
 | _::r,i + 1=>XE r i
theorem xm (f:Obj->Obj):∀ (l:List Obj) (i:Nat),VQ f l i=l.modify i f
 | [],i=>by cases i <;> rfl
 | _::_,0=>rfl
 | o::r,i + 1=>(congrArg (o::·) (xm f r i)).trans (List.modify_succ_cons ..).symm
theorem UV (x:Obj):∀ l:List Obj,wF l x=l++[x]
 | []=>rfl
 | o::r=>congrArg (o::·) (UV x r)
noncomputable def QZ:Option Obj->Option Obj
 | some o=>match o.data with
  | .freed=>none
  | _=>some o
 | none=>none
noncomputable def wW (den:Code->Sem PySem.Fin)(p:Program)(w:World)(s:Shared)(t:Thread):Step:=match s,t with
 | ⟨⟨⟨l⟩,m⟩,g,d,k,os⟩,⟨cur,c,q,st⟩=>match cur with
  | .load a part f=>match QZ (YS l a) with
   | some o=>.go ⟨⟨⟨l⟩,m⟩,g,d,k,os⟩ ⟨f o,c,q,st⟩
   | none=>PySem.W.Fast.tw8437177126325714943 den p w ⟨⟨⟨l⟩,m⟩,g,d,k,os⟩ ⟨.load a part f,c,q,st⟩
  | .update a part f h=>match QZ (YS l a) with
   | some _=>.go ⟨⟨⟨VQ f l a⟩,m⟩,g,d,k,os⟩ ⟨h (),c,q,st⟩
   | none=>PySem.W.Fast.tw8437177126325714943 den p w ⟨⟨⟨l⟩,m⟩,g,d,k,os⟩ ⟨.update a part f h,c,q,st⟩
  | .alloc o f=>.go ⟨⟨⟨wF l o⟩,m⟩,g,d,k,os⟩ ⟨f (Va l),c,q,st⟩
  | cur=>PySem.W.Fast.tw8437177126325714943 den p w ⟨⟨⟨l⟩,m⟩,g,d,k,os⟩ ⟨cur,c,q,st⟩
theorem UJ (l:List Obj)(m:Life)(a:Addr):Heap.get? ⟨⟨l⟩,m⟩ a=QZ (YS l a):=by
 rw [XE]
 unfold Heap.get?
 show (match (⟨l⟩:Array Obj)[a]? with | some ⟨_,_,.freed,_⟩=>none | o=>o)=_
 rw [List.getElem?_toArray]
 cases l[a]? with
 | none=>rfl
 | some o=>obtain ⟨c,d,dt,sl⟩:=o;cases dt <;> rfl
theorem zDK (f:Obj->Obj)(l:List Obj)(m:Life)(a:Addr):Heap.update ⟨⟨l⟩,m⟩ a f=⟨⟨VQ f l a⟩,m⟩:=by
 show Heap.mk ((⟨l⟩:Array Obj).modify a f) m=_
 rw [xm,<- Array.toList_modify]
theorem zAX (l:List Obj)(m:Life)(o:Obj):Heap.push ⟨⟨l⟩,m⟩ o=⟨⟨wF l o⟩,m⟩:=by
 show Heap.mk ((⟨l⟩:Array Obj).push o) m=_
 rw [UV,<- Array.toList_push]
theorem Ve (den:Code->Sem PySem.Fin)(p:Program)(w:World)(s:Shared)(t:Thread):wW den p w s t=step den p w s t:=by
 rw [PySem.W.Fast.te8437177126325714943]
 obtain ⟨⟨⟨l⟩,m⟩,g,d,k,os⟩:=s
 obtain ⟨cur,c,q,st⟩:=t
 cases cur with
 | load a part f =>
  show (match QZ (YS l a) with | some o=>_ | none=>_)=_
  cases h:QZ (YS l a) with
  | none=>rfl
  | some o =>
   show Step.go _ _=_
   rw [<- PySem.W.Fast.te8437177126325714943]
   unfold step
   dsimp only
   rw [UJ,h]
 | update a part f kk =>
  show (match QZ (YS l a) with | some o=>_ | none=>_)=_
  cases h:QZ (YS l a) with
  | none=>rfl
  | some o =>
   show Step.go _ _=_
   rw [<- PySem.W.Fast.te8437177126325714943]
   unfold step
   dsimp only
   rw [UJ,h,zDK]
   rfl
 | alloc o f =>
  rw [<- PySem.W.Fast.te8437177126325714943]
  show Step.go _ ⟨f (Va l),_,_,_⟩=Step.go ⟨Heap.push ⟨⟨l⟩,m⟩ o,_,_,_,_⟩ ⟨f (List.length l),_,_,_⟩
  rw [XM,zAX]
 | _=>rfl
noncomputable def Vc (tb:String->Option Builtin)(p:Program)(w:World)(n₀:Nat)(ann:Option Value)(n:Nat):Shared->Thread->Option Shared:=Nat.rec (λ _ _=>none) (λ _ ih s t=>match through t with
 | true=>some s
 | false=>match PySem.W.Fast.tw6613529449190102663 n₀ ann t with
  | false=>none
  | true=>match wW (PySem.W.Fast.tw11892475500146522536 tb) p w s t with
   | .go s' t'=>ih s' t'
   | .halt _ _=>none) n
theorem xw (tb:String->Option Builtin)(p:Program)(w:World)(n₀:Nat)(ann:Option Value):∀ (n:Nat) (s:Shared) (t:Thread),topRun tb p w n₀ ann n s t=Vc tb p w n₀ ann n s t
 | 0,_,_=>rfl
 | n + 1,s,t=>by
  show topRun tb p w n₀ ann (n + 1) s t=(match through t with | true=>some s | false=>match PySem.W.Fast.tw6613529449190102663 n₀ ann t with | false=>none | true=>match wW (PySem.W.Fast.tw11892475500146522536 tb) p w s t with | .go s' t'=>Vc tb p w n₀ ann n s' t' | .halt _ _=>none)
  rw [<- PySem.W.Fast.te6613529449190102663,<- PySem.W.Fast.te11892475500146522536,Ve]
  unfold topRun
  cases through t with
  | true=>rfl
  | false =>
   dsimp only
   cases stepOk n₀ ann t with
   | false=>rfl
   | true =>
    dsimp only
    cases step (denote tb) p w s t with
    | go s' t'=>exact xw tb p w n₀ ann n s' t'
    | halt _ _=>rfl
set_option tactic.hygienic false
noncomputable def hP:Program:=PySem.Challenge.pw_pq0383_01
noncomputable def hB:List Stmt:=hP.main.body.drop 32
noncomputable def hQ:Program:={hP with main:={hP.main with body:=hB}}
noncomputable def hL:List Str:=(hP.main.scope.names.map (·.1)).filter λ x=>x != "law"&&x != "Exception"&&x != "__name__"
noncomputable def jV (tb:String->Option Builtin)(p:Program)(w:World)(N:Nat)(s₀:Shared):Option Shared :=
 match s₀.heap.isNs mainGlobals&&s₀.gens.size==0 with
 | true=>(Vc tb p w s₀.heap.objs.size (s₀.heap.nsMap mainGlobals "__annotations__") N s₀ (topStub p)).bind λ s₁=>match staticsOk (importedModules p.main.body) s₀.heap s₁.heap&&namesBound p s₁.heap&&gensDone s₁&&laidKept s₀.heap s₁.heap with
   | true=>some s₁
   | false=>none
 | false=>none
theorem xH:topFrom=jV:=by
 funext tb p w N s
 unfold topFrom jV
 rw [xw]
 rfl
set_option maxHeartbeats 8000000
theorem zFo (w:World)(os:OsState):(jV PySem.W.Fast.tw14364793385576792824 hP w 4000 ⟨boot_heap w.params,Array.mk [],boot_drawn,boot_toks,os⟩).map (λ s=>(PySem.W.Fast.tw4187177175401517315 hQ hL (importedModules hP.main.body) (λ _=>true) true s,funs1.map (λ f=>trF (jb s.heap) T1 Z1 60 f.1),JF (jb s.heap)))=some (openGood hQ hL,funs1.map (λ f=>some f.2),true):=by kernel_rfl
set_option tactic.hygienic true
set_option maxHeartbeats 8000000
noncomputable abbrev hR:OpenRow:=PySem.Challenge.rw_pq0383_01.row
theorem zEz:∀ w:World,(fencedOpening treeTable hP w 4000).map (λ s=>(s.heap,s.gens,s.drawn,s.toks))=some (boot_heap w.params,Array.mk [],boot_drawn,boot_toks):=boot_open (by kernel_rfl) (by decide) (λ s=>by kernel_rfl)
noncomputable def Xs (s:Shared):List (Option (Nat×Nat×List St))×Bool:=(funs1.map (λ f=>trF (jb s.heap) T1 Z1 60 f.1),JF (jb s.heap))
noncomputable def XU:List (Option (Nat×Nat×List St))×Bool:=(funs1.map (λ f=>some f.2),true)
theorem zEV (w:World)(os:OsState):(topFrom treeTable hP w 4000 ⟨boot_heap w.params,Array.mk [],boot_drawn,boot_toks,os⟩).map (λ s=>(openSeen hQ hL (importedModules hP.main.body) (λ _=>true) true s,Xs s))=some (openGood hQ hL,XU):=by
 have:=zFo w os
 rw [<- xH,<- PySem.W.Fast.te14364793385576792824,<- PySem.W.Fast.te4187177175401517315] at this
 exact this
theorem zEg (w:World):(openEnds treeTable hP w 4000).map (λ s=>(openSeen hQ hL (importedModules hP.main.body) (λ _=>true) true s,Xs s))=some (openGood hQ hL,XU):=by
 obtain ⟨s,hs,hv⟩:=Option.map_eq_some_iff.mp (zEz w)
 obtain ⟨h1,hv⟩:=Prod.mk.inj hv
 obtain ⟨h2,hv⟩:=Prod.mk.inj hv
 obtain ⟨h3,h4⟩:=Prod.mk.inj hv
 unfold openEnds
 rw [hs,Option.bind_some]
 have e:s=⟨boot_heap w.params,Array.mk [],boot_drawn,boot_toks,s.os⟩:=by rw [<- h1,<- h2,<- h3,<- h4]
 rw [e]
 exact zEV w s.os
theorem zDY:LeftO hR.prog hQ hL (λ _=>true) Xs (λ _=>XU) 4000:=zEg
set_option maxHeartbeats 8000000
theorem zCS:(defOf hQ hR.name).isSome=true:=by kernel_rfl
noncomputable def hD:DefRec×List (Str×Expr):=(defOf hQ hR.name).get zCS
theorem zF2:defOf hQ hR.name=some (hD.1,hD.2):=(Option.some_get zCS).symm
theorem zF1:hR.prog.theDef hR.name=some (hD.1.params,hD.1.body,hD.1.scope):=by kernel_rfl
theorem zFu:kwWritten? hD.1.params.kwonlyargs hD.1.params.kw_defaults=some hD.2:=by kernel_rfl
theorem zE5:hR.prog.bare:=⟨rfl,rfl,rfl,rfl,rfl,by decide +kernel⟩
theorem ok1:(chainsOk hQ&&opensWell hR.prog&&(frees hR.toRowW&&hR.within.isEmpty))=true:=by decide +kernel
theorem zDQ:((hR.prog.main.file:Str)==y4)=true:=by kernel_rfl
theorem zF5:(hR.prog.main.scope.names.lookup ("super":Str)).isSome=false:=by kernel_rfl
theorem zF8:bootBuiltins "super"=some (.type "super"):=by kernel_rfl
noncomputable def YP1 (_:World)(h:Heap):Prop:=∃ K:Frag,K.In h/\funs1.map (λ f=>trF K T1 Z1 60 f.1)=funs1.map (λ f=>some f.2)/\JF K=true
theorem yp1 (w:World)(s:Shared)(e:Xs s=XU):YP1 w s.heap:=⟨jb s.heap,zBt _,(Prod.mk.inj e).1,(Prod.mk.inj e).2⟩
theorem zFh (w:World)(h h':Heap):YP1 w h->(∀ b o,h.get? b=some o->h'.get? b=some o)->YP1 w h':=λ ⟨K,i,e⟩ k=>⟨K,i.keeps k,e⟩
theorem zEf {K:Frag}(h:JF K=true):nsIn K mainGlobals "law"=some (some (.ref 542)):=by
 exact eq_of_beq (zC (i:=1) h rfl)
theorem zEy:WalkO hQ hL (λ _ _=>True) YP1 hR.toRowW hD.1 hD.2 λ f vs=>PySem.call f vs:=by
 intro w s₀ s₁ mg mb G Y fa o pm cd doc dV kV ho hd hcd hDf hmg hg args vals as hpre hlay hrd hwl hlo
 obtain ⟨K,hK,hf,hB⟩:=Y
 have hmg':mg (Str.ofString "law")=some (.ref fa):=hmg
 refine Ground.open G ?_
 intro T B D TE TW
 clear hmg
 wrow_args hpre hlay hrd hwl hlo
 rename s₁.heap.IsList _ _=>hL
 rename IntsAre _ _=>hI
 rename ¬ ((63:Nat):Int)<_=>hlen
 rename List Int=>ns
 have efa:fa=542:=by
  have e1:=mg_of hK T.g (zEf hB)
  rw [hmg'] at e1
  cases e1;rfl
 subst efa
 obtain ⟨C,hC⟩:∃ C:Cx,C=⟨hR.prog,w,K,s₁.heap,mg,mb⟩:=⟨_,rfl⟩
 have Yg:C.Good:=by subst hC;exact ⟨hK,T.g,T.b,T.nolimit⟩
 have A:Law1A C:=Vs Yg (by subst hC;exact T.builtins) (by subst hC;exact zDQ) (by subst hC;exact zF5) zF8 (by subst hC;exact hf) (by subst hC;exact hB)
 subst hC
 have go:=(Vj (Q:=λ d _=>d=.p (.bool true)) A (ns:=ns) (by omega) rfl).run callerA s₁ _ [] [.ref _] xP Xq Wd (.cons (.p (.lst ⟨_,hL.choose_spec.1⟩ hL (Ux hI))) .nil)
 refine wpAny_mono go (λ v s' hv=>?_) λ _ _ z=>z.elim
 obtain ⟨h',tk,φ',μ',d,σ',rfl,R,X',V',rfl⟩:=hv
 refine GoodW.toG ⟨.inl ?_,R.keep,rfl,hg⟩
 refine ⟨.bool true,.bool true,[],?_,?_,.bool true,?_,λ _=>⟨.nil,λ _ ha=>nomatch ha⟩⟩
 ·cases V' with
  | p V'=>cases V' with
   | bool=>rfl
 ·exact λ cls=>rfl
 ·refine postW_of (X:=(true==true)) (by rfl) ?_ rfl
  show (WTm.eq .res (.lit (.bool true))).value _ _=_
  exact w_eq_bool (w_res rfl) w_lit
theorem zDS:PySem.Challenge.rw_pq0383_01.wellSaid=true:=by kernel_rfl
theorem holds1:PySem.Challenge.rw_pq0383_01.Holds :=
 holds_law zDS λ said=>PySem.W.holds_open (Xt:=λ _=>true) (XP:=λ _ _=>True) (YP:=YP1) zDY yp1 zFh (λ _ _=>trivial) (λ _ _ _ _ _=>trivial) zF2 zF1 zFu (λ _ _=>recFacts_nil rfl) rfl said ok1 zE5 (by w_witness2) zEy
end Mine
theorem PySem.Challenge.cw_pq0383_01_holds : PySem.Challenge.rw_pq0383_01.Holds :=
 Mine.holds1
