import PyProof.Rows.All
import KE.KDictOf
import KE.KItemsList
import KE.KRevIter
import KE.KRevSl
import KE.KSortAsk
import KE.KSortKey
import KE.KSortTup
import Lean
import PySem.Challenge.RW_no0016_01
set_option Elab.async false
set_option linter.all false
set_option maxRecDepth 100000
set_option tactic.hygienic false
set_option backward.match.sparseCases false
set_option genSizeOf false
set_option genInjectivity false
set_option genCtorIdx false
set_option bootstrap.genMatcherCode false
open PySem PySem.W PySem.Calls PyProof.Rows
noncomputable section
namespace Mine.Internal
open List (Nodup Perm all_map any_cons any_eq_true any_map cons_append drop ext_getElem filterMap filterMap_cons find?_cons foldl forIn_cons forIn_nil getElem_inj length length_append length_cons length_map length_reverse lookup_cons map_append map_cons map_map map_nil mem_append mem_cons mem_map mem_range' mem_singleton nodup_cons not_mem_nil pairwise_map range' range_succ replicate size_toArray sum_cons zip_cons_cons)
open Array (any_toList forIn_toList length_toList toList_push)
open Int (add_zero mul_add natAbs natAbs_neg neg_mul neg_neg)
open Nat (add_comm beq ble blt lt_of_le_of_lt lt_succ_of_le ne_of_gt strongRecOn sub_add_cancel succ_mul succ_pos)
open PySem.Heap (SameBut)
open Bool (and_eq_true false_eq_true not_eq_true' or_eq_true)
def xz:=@wpAny_bind
def wv:=@wpAny_pure
def v6:=@wpAny_mono
def lk:=@xz
def Up:=@wv
def zAq:=@Nat.le_refl
def zAw:=@v6
def zAe:=@List.getElem?_eq_getElem
def zAr:=@Heap.get?_push_size
def zAt:=@mem_map
def zAy:=@mem_cons
def zAu:=@mem_append
def zAi:=@if_neg
def zAo:=@Heap.lt_size
def zAp:=@Option.isSome_iff_exists
def zBq:=@if_pos
def zBw:=@Nat.ne_of_lt
def zBe:=@Prod.mk.inj
def zBr:=@Heap.get?_push_of_some
def zBt:=@Option.map_eq_some_iff
def zBy:=@List.getD_eq_getElem?_getD
def zBu:=@Bool.and_eq_true_iff
def zBi:=@length_toList
def zBo:=@Heap.SameBut.update
def zBp:=@Option.some.inj
def zCq:=@nodup_cons
def zCw:=@Nat.le_add_right
def zCe:=@length_map
def zCr:=@beq_eq_false_iff_ne
def zCt:=@wpAny_holding
def zCy:=@List.getElem?_eq_some_iff
def zCu:=@Nat.le_of_ble_eq_true
def zCi:=@List.nodup_append
def zCo:=@Heap.get?_update_self
def zCp:=@List.all_eq_true
def zDq:=@wpAny_truthy_bool
def zDw:=@Nat.le_succ
def zDe:=@Nat.lt_succ_self
def zDr:=@lookup_cons
def zDt:=@List.mem_cons_of_mem
def zDy:=@Around.under_plainId
def zDu:=@Nat.lt_of_lt_of_le
def zDi:=@Array.getElem?_toList
def zDo:=@Nat.le_trans
def zDp:=@List.append_nil
def zEq:=@List.getElem_mem
def zEw:=@Nat.zero_le
def zEe:=@List.mem_append_left
def zEr:=@List.pairwise_cons
def zEt:=@List.mem_cons_self
def zEy:=@congrArg
def zEu:=@wpAny_call_entry
def zEi:=@List.map_congr_left
def zEo:=@Bool.or_eq_true_iff
def zEp:=@builtinLookup_eq_fast
def zFq:=@of_decide_eq_true
def zFw:=@Option.bind_eq_some_iff
def zFe:=@Int.one_mul
def zFr:=@List.mem_of_getElem?
def zFt:=@codeAny_builtin
def zFy:=@List.getElem?_append_left
def zFu:=@List.append_assoc
def zFi:=@wpAny_specialOf
def zFo:=@wpAny_of_eq
def zFp:=@Ne.symm
def zGq:=@Nat.not_lt
def zGw:=@Heap.size_push
def zGe:=@wpAny_newObj_type
def zGr:=@decide_eq_false
def zGt:=@PySem.F.called_set
def zGy:=@Nat.lt_irrefl
def zGu:=@decide_eq_true
def zGi:=@List.drop_append_of_le_length
def zGo:=@wpAny_setState_of
def zGp:=@Nat.lt_succ_of_lt
def zHq:=@Nat.lt_of_succ_lt
def zHw:=@List.getElem?_map
def zHe:=@typeLookup_type
def zHr:=@Array.getElem?_eq_none
@[elab_as_elim] theorem bH {α:Sort u} {a b:α} {p:α->Prop} (h:a=b) (x:p b):p a:=h▸x
@[elab_as_elim] theorem bI {α:Sort u} {a b:α} {p:α->Prop} (h:b=a) (x:p b):p a:=h▸x
set_option compiler.extract_closed false in
local macro_rules
 | `(tactic| rw [$t:term]) => `(tactic| ((first | refine bH $t ?_ | rewrite [$t:term]); try with_reducible rfl))
 | `(tactic| rw [← $t:term]) => `(tactic| ((first | refine bI $t ?_ | rewrite [← $t:term]); try with_reducible rfl))
section
noncomputable def iD{α:Type}(d:α)(l:List α):Nat->α:=List.rec (fun _=>d) (fun x _ f n=>Nat.rec x (fun n _=>f n) n) l
noncomputable abbrev Poly:=Int×List Int
noncomputable def dot:List Int->List Int->Int:=List.rec (fun _=>0) (fun a _ f l=>List.rec 0 (fun x xs _=>a*x+f xs) l)
noncomputable def ev(e:List Int)(p:Poly):Int:=p.1+dot p.2 e
noncomputable def DA:List Int->List Int->List Int:=List.rec (fun l=>l) (fun a as f l=>List.rec (a::as) (fun x xs _=>(a+x)::f xs) l)
noncomputable def xH(p q:Poly):Poly:=(p.1+q.1,DA p.2 q.2)
noncomputable def jA(k:Int)(p:Poly):Poly:=(k*p.1,p.2.map (k*·))
noncomputable def iE(p q:Poly):Poly:=xH p (jA (-1) q)
noncomputable def pc(k:Int):Poly:=(k,[])
noncomputable def pv(i:Nat):Poly:=(0,Nat.rec [1] (fun _ l=>0::l) i)
theorem vZ:∀l,dot l []=0
 |[]=>rfl
 |_::_=>rfl
theorem v3:∀l l' e,dot (DA l l') e=dot l e+dot l' e
 |[],_,_=>(Int.zero_add _).symm
 |_::_,[],_=>(add_zero _).symm
 |_::_,_::_,[]=>rfl
 |a::l,b::l',x::e=>by
  show (a+b)*x+dot (DA l l') e=a*x+dot l e+(b*x+dot l' e)
  rw[v3 l l' e];rw[Int.add_mul];ac_rfl
theorem v5(k:Int):∀l e,dot (l.map (k*·)) e=k*dot l e
 |[],_=>(Int.mul_zero _).symm
 |_::_,[]=>(Int.mul_zero _).symm
 |a::l,x::e=>by
  show k*a*x+dot (l.map (k*·)) e=k*(a*x+dot l e)
  rw[v5 k l e];rw[mul_add];rw[Int.mul_assoc]
theorem lU(e p q):ev e (xH p q)=ev e p+ev e q:=by
 show p.1+q.1+dot (DA p.2 q.2) e=p.1+dot p.2 e+(q.1+dot q.2 e)
 rw[v3];ac_rfl
theorem fK(e k p):ev e (jA k p)=k*ev e p:=by
 show k*p.1+dot (p.2.map (k*·)) e=k*(p.1+dot p.2 e)
 rw[v5];rw[mul_add]
theorem lV(e p q):ev e (iE p q)=ev e p-ev e q:=by unfold iE;rw[lU];rw[fK];rw[neg_mul];rw[zFe];exact Int.sub_eq_add_neg.symm
theorem j8(e k):ev e (pc k)=k:=add_zero _
theorem FE:∀i e,dot (pv i).2 e=iD 0 e i
 |0,[]=>rfl
 |0,x::_=>(add_zero _).trans (zFe x)
 |_+1,[]=>rfl
 |i+1,x::e=>by show 0*x+dot (pv i).2 e=iD 0 e i;rw[FE i e];rw[Int.zero_mul];rw[Int.zero_add]
theorem Hj(e i):ev e (pv i)=iD 0 e i:=(Int.zero_add _).trans (FE i e)
noncomputable def hd(p:Poly):Int:=p.2.headD 0
noncomputable def tl(p:Poly):Poly:=(p.1,p.2.tail)
noncomputable def P9(p:Poly):Bool:=decide (0<=p.1)&&p.2.all (·==0)
noncomputable def elim(ps:List Poly):List Poly:=
 (ps.filter fun p=>hd p==0).map tl++((ps.filter fun p=>decide (0<hd p)).flatMap fun p=>(ps.filter fun q=>decide (hd q<0)).map fun q=>tl (xH (jA (-hd q) p) (jA (hd p) q))).filter fun p=>!P9 p
noncomputable def fm:Nat->List Poly->Bool:=Nat.rec (fun ps=>ps.any fun p=>decide (p.1<0)) fun _ f ps=>f (elim ps)
theorem lD(x e p):ev (x::e) p=hd p*x+ev e (tl p):=by
 obtain⟨c,l⟩:=p;cases l with
 |nil=>show c+0=0*x+(c+0);(rw[Int.zero_mul];rw[Int.zero_add])
 |cons a l=>show c+(a*x+dot l e)=a*x+(c+dot l e);ac_rfl
theorem v7{x e ps}(h:∀p∈ps,0<=ev (x::e) p):∀p∈elim ps,0<=ev e p:=by
 intro p hp;rcases zAu.mp hp with hp |hp
 .obtain⟨q,hq,rfl⟩:=zAt.mp hp;obtain⟨h1,h2⟩:=List.mem_filter.mp hq;have:=h q h1;rw[lD,beq_iff_eq.mp h2,Int.zero_mul,Int.zero_add]at this;exact this
 .obtain⟨a,ha,hp⟩:=List.mem_flatMap.mp (List.mem_filter.mp hp).1;obtain⟨b,hb,rfl⟩:=zAt.mp hp;obtain⟨a1,a2⟩:=List.mem_filter.mp ha;obtain⟨b1,b2⟩:=List.mem_filter.mp hb;have a2:=zFq a2;have b2:=zFq b2
  have z:0<=ev (x::e) (xH (jA (-hd b) a) (jA (hd a) b)):=by rw[lU];rw[fK];rw[fK];exact Int.add_nonneg (Int.mul_nonneg (Int.neg_nonneg_of_nonpos (Int.le_of_lt b2)) (h a a1)) (Int.mul_nonneg (Int.le_of_lt a2) (h b b1))
  rw[lU,fK,fK,lD,lD]at z
  have e1:ev e (tl (xH (jA (-hd b) a) (jA (hd a) b)))= -hd b*ev e (tl a)+hd a*ev e (tl b):=by rw[←fK];rw[←fK];rw[←lU];obtain⟨c,l⟩:=a;obtain⟨d,m⟩:=b;cases l<;>cases m<;>first |rfl |cases a2 |cases b2
  rw[e1];rw[mul_add,mul_add,←Int.mul_assoc,←Int.mul_assoc,neg_mul,Int.mul_comm (hd b),neg_mul]at z;rw[Int.add_assoc,Int.add_left_comm,Int.neg_add_cancel_left]at z;exact z
theorem zw:∀n e ps,e.length<=n->(∀p∈ps,0<=ev e p)->fm n ps=true->False
 |0,[],ps,_,h,f=>by obtain⟨p,h1,h2⟩:=List.any_eq_true.mp f;have:=h p h1;unfold ev at this;rw[vZ,add_zero]at this;exact absurd (zFq h2) (Int.not_lt.mpr this)
 |n+1,[],ps,_,h,f=>by refine zw n [] (elim ps) (zEw _) (v7 (x:=0) fun p hp=>?_) f;have:=h p hp;rw[lD];rw[Int.mul_zero];rw[Int.zero_add];unfold ev at this⊢;rw[vZ]at this⊢;exact this
 |n+1,_::e,ps,hl,h,f=>zw n e (elim ps) (Nat.le_of_succ_le_succ hl) (v7 h) f
noncomputable abbrev Alt:=List Poly×Poly
def Al(e:List Int)(l:List Alt)(z:Int):Prop:=∃a∈l,(∀p∈a.1,0<=ev e p)/\ev e a.2=z
noncomputable def alt(h:Poly->Poly->List Alt)(l l':List Alt):List Alt:=l.flatMap fun a=>l'.flatMap fun b=>(h a.2 b.2).map fun d=>(a.1++(b.1++d.1),d.2)
theorem bE{e l l' x y z h}(H:∀p q,ev e p=x->ev e q=y->Al e (h p q) z):Al e l x->Al e l' y->Al e (alt h l l') z:=by
 rintro⟨a,a1,a2,a3⟩ ⟨b,b1,b2,b3⟩;obtain⟨d,d1,d2,d3⟩:=H _ _ a3 b3;refine⟨_,List.mem_flatMap.mpr ⟨a,a1,List.mem_flatMap.mpr ⟨b,b1,zAt.mpr ⟨d,d1,rfl⟩⟩⟩,fun p hp=>?_,d3⟩;rcases zAu.mp hp with hp |hp
 .exact a2 p hp
 .rcases zAu.mp hp with hp |hp
  .exact b2 p hp
  .exact d2 p hp
theorem zx{e p z}(h:ev e p=z):Al e [([],p)] z:=⟨_,zEt,nofun,h⟩
theorem ze{e c p z l}(h0:0<=ev e c)(h:ev e p=z):Al e (([c],p)::l) z:=⟨_,zEt,fun q h=>by rw[List.mem_singleton.mp h];exact h0,h⟩
theorem zy{e a l z}(h:Al e l z):Al e (a::l) z:=let ⟨b,h1,h2⟩:=h;⟨b,zDt _ h1,h2⟩
theorem DB{e l l' z}(h:Al e l z):Al e (l++l') z:=let ⟨b,h1,h2⟩:=h;⟨b,zAu.mpr (.inl h1),h2⟩
theorem v8{e l l' z}(h:Al e l' z):Al e (l++l') z:=let ⟨b,h1,h2⟩:=h;⟨b,zAu.mpr (.inr h1),h2⟩
noncomputable abbrev A2:=List Alt×List Alt
def xI(e:List Int)(A:A2)(x:Nat×Int):Prop:=Al e A.1 (x.1:Int)/\Al e A.2 x.2
structure Op where
 d:Nat×Int->Nat×Int->Nat×Int
 n:A2->A2->A2
 ok:∀e A B x y,xI e A x->xI e B y->xI e (n A B) (d x y)
noncomputable def a0:List Alt:=[([],pc 0)]
theorem gB(e):Al e a0 0:=zx (j8 e 0)
noncomputable def Hk(p q:Poly):List Alt:=[([iE q p],q),([iE p q],p)]
noncomputable def Hl(p q:Poly):List Alt:=[([iE q p],p),([iE p q],q)]
theorem pS{e p q x y}(h1:ev e p=x)(h2:ev e q=y)(h:x<=y):0<=ev e (iE q p):=by rw[lV];rw[h1];rw[h2];exact Int.sub_nonneg_of_le h
theorem v9{e p q x y}(h1:ev e p=x)(h2:ev e q=y):Al e (Hk p q) (max x y):=by
 by_cases h:x<=y
 .exact ze (pS h1 h2 h) (h2.trans (Int.max_eq_right h).symm)
 .have h:=Int.le_of_lt (Int.not_le.mp h);exact zy (ze (pS h2 h1 h) (h1.trans (Int.max_eq_left h).symm))
theorem wg{e p q x y}(h1:ev e p=x)(h2:ev e q=y):Al e (Hl p q) (min x y):=by
 by_cases h:x<=y
 .exact ze (pS h1 h2 h) (h1.trans (Int.min_eq_left h).symm)
 .have h:=Int.le_of_lt (Int.not_le.mp h);exact zy (ze (pS h2 h1 h) (h2.trans (Int.min_eq_right h).symm))
theorem cs{e:List Int}{l:List Alt}{a b:Int}(h:Al e l a)(q:a=b):Al e l b:=q▸h
noncomputable def dj(p q:Poly):List Alt:=[([iE p q],iE p q),([iE q p],pc 0)]
theorem DC{e p q}{x y:Nat}(h1:ev e p=x)(h2:ev e q=y):Al e (dj p q) ((x-y:Nat):Int):=by
 by_cases h:y<=x
 .exact ze (pS h2 h1 (Int.ofNat_le.mpr h)) ((lV e p q).trans (by rw[h1];rw[h2];rw[Int.ofNat_sub h]))
 .have h:=Nat.le_of_lt (Nat.not_le.mp h);exact zy (ze (pS h1 h2 (Int.ofNat_le.mpr h)) ((j8 e 0).trans (by rw[Nat.sub_eq_zero_of_le h];rfl)))
theorem KU{e p}{x:Int}(h:ev e p=x):ev e (jA (-1) p)= -x:=by rw[fK];rw[h];rw[neg_mul];rw[zFe]
theorem KV{e p}{x:Int}(h:ev e p=x)(q:x<=0):0<=ev e (jA (-1) p):=KU h▸Int.neg_nonneg_of_nonpos q
noncomputable def KW(p _:Poly):List Alt:=[([p],p),([jA (-1) p],jA (-1) p)]
theorem DD{e p q}{x y:Int}(h1:ev e p=x)(_:ev e q=y):Al e (KW p q) (x.natAbs:Int):=by
 by_cases h:0<=x
 .exact ze (h1▸h) (h1.trans (Int.natAbs_of_nonneg h).symm)
 .have h:=Int.le_of_lt (Int.not_le.mp h);exact zy (ze (KV h1 h) ((KU h1).trans (Int.ofNat_natAbs_of_nonpos h).symm))
noncomputable def Uq(p _:Poly):List Alt:=[([p],p),([jA (-1) p],pc 0)]
theorem Hm{e p q}{x y:Int}(h1:ev e p=x)(_:ev e q=y):Al e (Uq p q) (x.toNat:Int):=by
 by_cases h:0<=x
 .exact ze (h1▸h) (h1.trans (Int.toNat_of_nonneg h).symm)
 .have h:=Int.le_of_lt (Int.not_le.mp h);exact zy (ze (KV h1 h) ((j8 e 0).trans (by rw[Int.toNat_of_nonpos h];rfl)))
noncomputable def Hn(p q:Poly):List Alt:=[([],xH p q)]
theorem wh{e p q x y}(h1:ev e p=x)(h2:ev e q=y):Al e (Hn p q) (x+y):=zx ((lU e p q).trans (h1▸h2▸rfl))
noncomputable def dk(p q:Poly):List Alt:=[([],iE p q)]
theorem Ho{e p q x y}(h1:ev e p=x)(h2:ev e q=y):Al e (dk p q) (x-y):=zx ((lV e p q).trans (h1▸h2▸rfl))
noncomputable def hmul(n:Int)(p _:Poly):List Alt:=[([],jA n p)]
theorem pT{e p q x y}(n:Int)(h1:ev e p=x)(_:ev e q=y):Al e (hmul n p q) (n*x):=zx ((fK e n p).trans (h1▸rfl))
noncomputable def ops:List Op:=[
 ⟨fun x y=>(x.1+y.1,x.2+y.2),fun A B=>(alt Hn A.1 B.1,alt Hn A.2 B.2),fun _ _ _ _ _ a b=>⟨bE (fun _ _=>wh) a.1 b.1,bE (fun _ _=>wh) a.2 b.2⟩⟩,
 ⟨fun x y=>(x.1-y.1,x.2-y.2),fun A B=>(alt dj A.1 B.1,alt dk A.2 B.2),fun _ _ _ _ _ a b=>⟨bE (fun _ _=>DC) a.1 b.1,bE (fun _ _=>Ho) a.2 b.2⟩⟩,
 ⟨fun x y=>(min x.1 y.1,min x.2 y.2),fun A B=>(alt Hl A.1 B.1,alt Hl A.2 B.2),fun _ _ _ _ _ a b=>⟨bE (fun _ _ h1 h2=>cs (wg h1 h2) (Lean.Omega.Int.ofNat_min _ _).symm) a.1 b.1,bE (fun _ _=>wg) a.2 b.2⟩⟩,
 ⟨fun x y=>(max x.1 y.1,max x.2 y.2),fun A B=>(alt Hk A.1 B.1,alt Hk A.2 B.2),fun _ _ _ _ _ a b=>⟨bE (fun _ _ h1 h2=>cs (v9 h1 h2) (Lean.Omega.Int.ofNat_max _ _).symm) a.1 b.1,bE (fun _ _=>v9) a.2 b.2⟩⟩,
 ⟨fun x _=>(0,-x.2),fun A _=>(a0,alt (hmul (-1)) A.2 a0),fun e _ _ _ _ a _=>⟨gB e,bE (fun _ _ h1 h2=>cs (pT (-1) h1 h2) (by rw[neg_mul];rw[zFe])) a.2 (gB e)⟩⟩,
 ⟨fun x _=>(0,(x.1:Int)),fun A _=>(a0,A.1),fun e _ _ _ _ a _=>⟨gB e,a.1⟩⟩,
 ⟨fun x _=>(x.2.natAbs,0),fun A _=>(alt KW A.2 a0,a0),fun e _ _ _ _ a _=>⟨bE (fun _ _=>DD) a.2 (gB e),gB e⟩⟩,
 ⟨fun x _=>(x.2.toNat,0),fun A _=>(alt Uq A.2 a0,a0),fun e _ _ _ _ a _=>⟨bE (fun _ _=>Hm) a.2 (gB e),gB e⟩⟩]
noncomputable def Qa:Op:=⟨fun _ _=>(0,0),fun _ _=>(a0,a0),fun e _ _ _ _ _ _=>⟨gB e,gB e⟩⟩
inductive Tm where
 |v (i:Nat)
 |k (n:Nat)
 |m (n:Nat) (x:Tm)
 |b (o:Nat) (x y:Tm)
noncomputable def Tm.d(ns:List Nat)(is:List Int)(t:Tm):Nat×Int:=Tm.rec (fun i=>(iD 0 ns i,iD 0 is i)) (fun n=>(n,(n:Int))) (fun n _ x=>(n*x.1,(n:Int)*x.2)) (fun o _ _ x y=>(iD Qa ops o).d x y) t
noncomputable def Tm.n(k:Nat)(t:Tm):A2:=Tm.rec (fun i=>([([],bif blt i k then pv i else pc 0)],[([],pv (k+i))])) (fun n=>([([],pc n)],[([],pc n)]))
 (fun n _ A=>(alt (hmul n) A.1 a0,alt (hmul n) A.2 a0)) (fun o _ _ A B=>(iD Qa ops o).n A B) t
noncomputable def env(ns:List Nat)(is:List Int):List Int:=ns.map Nat.cast++is
theorem zz:∀(ns:List Nat) (is:List Int) i,i<ns.length->iD 0 (env ns is) i=(iD 0 ns i:Nat)
 |_::_,_,0,_=>rfl
 |_::ns,is,i+1,h=>zz ns is i (Nat.lt_of_succ_lt_succ h)
theorem zA:∀(ns:List Nat) i,ns.length<=i->iD 0 ns i=0
 |[],_,_=>rfl
 |_::ns,i+1,h=>zA ns i (Nat.le_of_succ_le_succ h)
theorem FF:∀(ns:List Nat) (is:List Int) i,iD 0 (env ns is) (ns.length+i)=iD 0 is i
 |[],_,i=>by show iD 0 _ (0+i)=_;rw[Nat.zero_add];rfl
 |_::ns,is,i=>by
  show iD 0 (env (_::ns) is) (ns.length+1+i)=_
  rw[Nat.add_right_comm];exact FF ns is i
theorem rM(ns:List Nat)(is:List Int):∀t:Tm,xI (env ns is) (t.n ns.length) (t.d ns is)
 | .v i=>by
  refine⟨zx ?_,zx ((Hj _ _).trans (FF ns is i))⟩
  show ev _ (bif blt i ns.length then pv i else pc 0)=(iD 0 ns i:Nat)
  cases h:blt i ns.length with
  |true=>exact(Hj _ _).trans (zz ns is i (zCu h))
  |false=>rw[zA ns i (zGq.mp fun q=>by rw[show blt i ns.length=true from Nat.ble_eq_true_of_le q]at h;cases h)];exact j8 _ _
 | .k n=>⟨zx (j8 _ _),zx (j8 _ _)⟩
 | .m n x=>let h:=rM ns is x;⟨cs (bE (fun _ _=>pT n) h.1 (gB _)) (Int.natCast_mul n _).symm,bE (fun _ _=>pT n) h.2 (gB _)⟩
 | .b o x y=>(iD Qa ops o).ok _ _ _ _ _ (rM ns is x) (rM ns is y)
def wj(e:List Int)(A:A2)(P:Prop):Prop:=(P->Al e A.1 0)/\(¬P->Al e A.2 0)
noncomputable def z0:Poly:=pc 0
noncomputable def heq(p q:Poly):List Alt:=[([iE q p,iE p q],z0)]
noncomputable def cE(p q:Poly):List Alt:=[([iE (iE q p) (pc 1)],z0)]
noncomputable def hle(p q:Poly):List Alt:=[([iE q p],z0)]
noncomputable def zf(p q:Poly):List Alt:=hle q p
noncomputable def uk(p q:Poly):List Alt:=cE q p
noncomputable def el(p q:Poly):List Alt:=cE p q++cE q p
theorem zB{e p q x y}(h:x=y)(h1:ev e p=x)(h2:ev e q=y):Al e (heq p q) 0:=
 ⟨_,zEt,fun r hr=>by
  rcases zAy.mp hr with rfl |hr
  .exact pS h1 h2 (Int.le_of_eq h)
  .rw[List.mem_singleton.mp hr];exact pS h2 h1 (Int.le_of_eq h.symm),j8 e 0⟩
theorem lW{e p q x y}(h:x<y)(h1:ev e p=x)(h2:ev e q=y):Al e (cE p q) 0:=ze (by rw[lV];rw[lV];rw[j8];rw[h1];rw[h2];exact Int.sub_nonneg_of_le (Int.add_one_le_of_lt (Int.sub_pos_of_lt h))) (j8 e 0)
theorem uo{e p q x y}(h:x<=y)(h1:ev e p=x)(h2:ev e q=y):Al e (hle p q) 0:=ze (pS h1 h2 h) (j8 e 0)
theorem zC{e p q x y}(h:y<=x)(h1:ev e p=x)(h2:ev e q=y):Al e (zf p q) 0:=uo h h2 h1
theorem zD{e p q x y}(h:y<x)(h1:ev e p=x)(h2:ev e q=y):Al e (uk p q) 0:=lW h h2 h1
theorem zE{e p q x y}(h:x≠y)(h1:ev e p=x)(h2:ev e q=y):Al e (el p q) 0:=by
 rcases Int.lt_or_gt_of_ne h with h |h
 .exact DB (lW h h1 h2)
 .exact v8 (lW h h2 h1)
structure Re where
 d:Nat×Int->Nat×Int->Prop
 n:A2->A2->A2
 ok:∀e A B x y,xI e A x->xI e B y->wj e (n A B) (d x y)
noncomputable def Hp:List Re:=[
 ⟨fun x y=>x.1=y.1,fun A B=>(alt heq A.1 B.1,alt el A.1 B.1),fun _ _ _ _ _ a b=>⟨fun h=>bE (fun _ _=>zB (zEy Nat.cast h)) a.1 b.1,fun h=>bE (fun _ _=>zE (mt Int.ofNat.inj h)) a.1 b.1⟩⟩,
 ⟨fun x y=>x.1<y.1,fun A B=>(alt cE A.1 B.1,alt zf A.1 B.1),fun _ _ _ _ _ a b=>⟨fun h=>bE (fun _ _=>lW (Int.ofNat_lt.mpr h)) a.1 b.1,fun h=>bE (fun _ _=>zC (Int.ofNat_le.mpr (zGq.mp h))) a.1 b.1⟩⟩,
 ⟨fun x y=>x.1<=y.1,fun A B=>(alt hle A.1 B.1,alt uk A.1 B.1),fun _ _ _ _ _ a b=>⟨fun h=>bE (fun _ _=>uo (Int.ofNat_le.mpr h)) a.1 b.1,fun h=>bE (fun _ _=>zD (Int.ofNat_lt.mpr (Nat.not_le.mp h))) a.1 b.1⟩⟩,
 ⟨fun x y=>x.2=y.2,fun A B=>(alt heq A.2 B.2,alt el A.2 B.2),fun _ _ _ _ _ a b=>⟨fun h=>bE (fun _ _=>zB h) a.2 b.2,fun h=>bE (fun _ _=>zE h) a.2 b.2⟩⟩,
 ⟨fun x y=>x.2<y.2,fun A B=>(alt cE A.2 B.2,alt zf A.2 B.2),fun _ _ _ _ _ a b=>⟨fun h=>bE (fun _ _=>lW h) a.2 b.2,fun h=>bE (fun _ _=>zC (Int.not_lt.mp h)) a.2 b.2⟩⟩,
 ⟨fun x y=>x.2<=y.2,fun A B=>(alt hle A.2 B.2,alt uk A.2 B.2),fun _ _ _ _ _ a b=>⟨fun h=>bE (fun _ _=>uo h) a.2 b.2,fun h=>bE (fun _ _=>zD (Int.not_le.mp h)) a.2 b.2⟩⟩]
noncomputable def both(p q:List Alt):List Alt:=alt (fun _ _=>[([],z0)]) p q
theorem pU{e l l'}(h:Al e l 0)(h':Al e l' 0):Al e (both l l') 0:=bE (fun _ _ _ _=>zx (j8 e 0)) h h'
theorem wj.and{e S T P Q}(a:wj e S P)(b:wj e T Q):wj e (both S.1 T.1,S.2++T.2) (P/\Q):=
 ⟨fun h=>pU (a.1 h.1) (b.1 h.2),fun h=>(Classical.em P).elim (fun p=>v8 (b.2 fun q=>h ⟨p,q⟩)) fun p=>DB (a.2 p)⟩
theorem wj.or{e S T P Q}(a:wj e S P)(b:wj e T Q):wj e (S.1++T.1,both S.2 T.2) (P\/Q):=
 ⟨fun h=>h.elim (fun h=>DB (a.1 h)) fun h=>v8 (b.1 h),fun h=>pU (a.2 fun p=>h (.inl p)) (b.2 fun p=>h (.inr p))⟩
theorem wj.imp{e S T P Q}(a:wj e S P)(b:wj e T Q):wj e (S.2++T.1,both S.1 T.2) (P->Q):=
 ⟨fun h=>(Classical.em P).elim (fun p=>v8 (b.1 (h p))) fun p=>DB (a.2 p),fun h=>(Classical.em P).elim (fun p=>pU (a.1 p) (b.2 fun q=>h fun _=>q)) fun p=>(h fun x=>(p x).elim).elim⟩
inductive Fm where
 |r (o:Nat) (x y:Tm)
 |i (p q:Fm)
 |a (p q:Fm)
 |o (p q:Fm)
 |f
noncomputable def Qb:Re:=⟨fun _ _=>True,fun _ _=>([([],z0)],[]),fun e _ _ _ _ _ _=>⟨fun _=>zx (j8 e 0),fun h=>(h ⟨⟩).elim⟩⟩
def Fm.d(ns:List Nat)(is:List Int)(t:Fm):Prop:=Fm.rec (fun o x y=>(iD Qb Hp o).d (x.d ns is) (y.d ns is)) (fun _ _ P Q=>P->Q) (fun _ _ P Q=>P/\Q) (fun _ _ P Q=>P\/Q) False t
noncomputable def Fm.n(k:Nat)(t:Fm):A2:=Fm.rec (fun o x y=>(iD Qb Hp o).n (x.n k) (y.n k)) (fun _ _ S T=>(S.2++T.1,both S.1 T.2)) (fun _ _ S T=>(both S.1 T.1,S.2++T.2)) (fun _ _ S T=>(S.1++T.1,both S.2 T.2)) ([],[([],z0)]) t
theorem ja(ns:List Nat)(is:List Int):∀t:Fm,wj (env ns is) (t.n ns.length) (t.d ns is)
 | .r o x y=>(iD Qb Hp o).ok _ _ _ _ _ (rM ns is x) (rM ns is y)
 | .i p q=>(ja ns is p).imp (ja ns is q)
 | .a p q=>(ja ns is p).and (ja ns is q)
 | .o p q=>(ja ns is p).or (ja ns is q)
 | .f=>⟨fun h=>h.elim,fun _=>zx (j8 _ 0)⟩
noncomputable def nn(k:Nat):List Poly:=Nat.rec [] (fun i l=>pv i::l) k
theorem FG(ns:List Nat)(is:List Int):∀k,k<=ns.length->∀p∈nn k,0<=ev (env ns is) p
 |k+1,h,p,hp=>by
  rcases zAy.mp hp with rfl |hp
  .rw[Hj];rw[zz ns is k h];exact Int.natCast_nonneg _
  .exact FG ns is k (Nat.le_of_succ_le h) p hp
noncomputable def dT:Nat->Nat->Tm×Nat:=Nat.rec (fun n=>(.k 0,n)) fun _ d n=>
 bif blt (n%32) 10 then(.v (n%32),n/32) else bif blt (n%32) 20 then(.k (n%32-10),n/32)
 else bif blt (n%32) 24 then((fun a=>(fun b=>(.b (n%32-20) a.1 b.1,b.2)) (d a.2)) (d (n/32)):Tm×Nat)
 else bif blt (n%32) 28 then((fun a=>(.b (n%32-20) a.1 (.k 0),a.2)) (d (n/32)):Tm×Nat)
 else bif blt (n%32) 29 then(.k (n/32%33554432),n/1073741824)
 else bif blt (n%32) 30 then((fun a=>(.m (n/32%32) a.1,a.2)) (d (n/1024)):Tm×Nat)
 else(.k (n/32%1180591620717411303424),n/37778931862957161709568)
noncomputable def dF:Nat->Nat->Fm×Nat:=Nat.rec (fun n=>(.f,n)) fun _ d n=>
 bif blt (n%16) 6 then((fun a=>(fun b=>(.r (n%16) a.1 b.1,b.2)) (dT 20 a.2)) (dT 20 (n/16)):Fm×Nat)
 else bif beq (n%16) 6 then((fun a=>(fun b=>(.i a.1 b.1,b.2)) (d a.2)) (d (n/16)):Fm×Nat)
 else bif beq (n%16) 7 then((fun a=>(fun b=>(.a a.1 b.1,b.2)) (d a.2)) (d (n/16)):Fm×Nat)
 else bif beq (n%16) 8 then((fun a=>(fun b=>(.o a.1 b.1,b.2)) (d a.2)) (d (n/16)):Fm×Nat)
 else bif beq (n%16) 9 then((fun a=>(.i a.1 .f,a.2)) (d (n/16)):Fm×Nat) else(.f,n/16)
noncomputable def de(N:Nat):Fm:=(dF 40 N).1
noncomputable def ok(k m N:Nat):Bool:=((de N).n k).2.all fun a=>fm (k+m) (nn k++a.1)
abbrev OK(k m N:Nat):Prop:=true=ok k m N
abbrev Ln(N:Nat)(ns:List Nat)(is:List Int):Prop:=(de N).d ns is
theorem rF(N:Nat)(ns:List Nat)(is:List Int)(h:ok ns.length is.length N=true):Ln N ns is:=by
 refine Classical.byContradiction fun q=>?_;obtain⟨a,h1,h2,_⟩:=(ja ns is (de N)).2 q;have:=zCp.mp h a h1;refine zw _ (env ns is) _ (Nat.le_of_eq ?_) (fun p hp=>?_) this
 .unfold env;rw[length_append];rw[zCe]
 .exact(zAu.mp hp).elim (FG ns is _ (zAq _) p) (h2 p)
end
theorem half{lo hi:Nat}(h:lo<hi):lo<=(lo+hi)/2/\(lo+hi)/2<hi:=⟨(Nat.le_div_iff_mul_le (by decide)).mpr (by rw[Nat.mul_two];exact Nat.add_le_add_left (Nat.le_of_lt h) lo),Nat.div_lt_of_lt_mul (by rw[Nat.two_mul];exact Nat.add_lt_add_right h hi)⟩
theorem pV{α β:Type}{H:α->Option β}{a b:α}{o:β}(h:H a=some o)(h':H b=none):a≠b:=fun e=>nomatch (e▸h).symm.trans h'
theorem KY{α β:Type}{H:α->Option β}{a b:α}{o:β}(h:H a=some o)(h':H b=none):b≠a:=(pV h h').symm
theorem sn{α:Type}{a:Option α}{x:α}{P:Prop}(h:a=some x)(h':a=none):P:=nomatch h.symm.trans h'
theorem cps{P:Prop}(h:∀G:Prop,(P->G)->G):P:=h P id
theorem so{α:Type}{a b:α}(h:some a=some b):a=b:=zBp h
theorem ft{b:Bool}{P:Prop}(h:b=false)(h':b=true):P:=nomatch h.symm.trans h'
theorem jy{s:Int}(N:Nat)(y:OK 0 1 N:=by kernel_rfl):Ln N [] [s]:=rF N _ _ y.symm
theorem uq{s t:Int}(N:Nat)(y:OK 0 2 N:=by kernel_rfl):Ln N [] [s,t]:=rF N _ _ y.symm
theorem WD{s t u:Int}(N:Nat)(y:OK 0 3 N:=by kernel_rfl):Ln N [] [s,t,u]:=rF N _ _ y.symm
theorem aB{a:Nat}(N:Nat)(y:OK 1 0 N:=by kernel_rfl):Ln N [a] []:=rF N _ _ y.symm
theorem oj{a:Nat}{s:Int}(N:Nat)(y:OK 1 1 N:=by kernel_rfl):Ln N [a] [s]:=rF N _ _ y.symm
theorem WG{a:Nat}{s t:Int}(N:Nat)(y:OK 1 2 N:=by kernel_rfl):Ln N [a] [s,t]:=rF N _ _ y.symm
theorem aD{a b:Nat}(N:Nat)(y:OK 2 0 N:=by kernel_rfl):Ln N [a,b] []:=rF N _ _ y.symm
theorem Ot{a b:Nat}{s:Int}(N:Nat)(y:OK 2 1 N:=by kernel_rfl):Ln N [a,b] [s]:=rF N _ _ y.symm
theorem JZ{a b:Nat}{s t:Int}(N:Nat)(y:OK 2 2 N:=by kernel_rfl):Ln N [a,b] [s,t]:=rF N _ _ y.symm
theorem WH{a b:Nat}{s t u:Int}(N:Nat)(y:OK 2 3 N:=by kernel_rfl):Ln N [a,b] [s,t,u]:=rF N _ _ y.symm
theorem aP{a b c:Nat}(N:Nat)(y:OK 3 0 N:=by kernel_rfl):Ln N [a,b,c] []:=rF N _ _ y.symm
theorem o31{a b c:Nat}{s:Int}(N:Nat)(y:OK 3 1 N:=by kernel_rfl):Ln N [a,b,c] [s]:=rF N _ _ y.symm
theorem Ur{a b c:Nat}{s t:Int}(N:Nat)(y:OK 3 2 N:=by kernel_rfl):Ln N [a,b,c] [s,t]:=rF N _ _ y.symm
theorem dq{a b c d:Nat}(N:Nat)(y:OK 4 0 N:=by kernel_rfl):Ln N [a,b,c,d] []:=rF N _ _ y.symm
theorem rN{a b c d e:Nat}(N:Nat)(y:OK 5 0 N:=by kernel_rfl):Ln N [a,b,c,d,e] []:=rF N _ _ y.symm
theorem ur{a b c d e f:Nat}(N:Nat)(y:OK 6 0 N:=by kernel_rfl):Ln N [a,b,c,d,e,f] []:=rF N _ _ y.symm
theorem WI{a b c d e f g:Nat}(N:Nat)(y:OK 7 0 N:=by kernel_rfl):Ln N [a,b,c,d,e,f,g] []:=rF N _ _ y.symm
theorem WJ{a b c d e f g h:Nat}(N:Nat)(y:OK 8 0 N:=by kernel_rfl):Ln N [a,b,c,d,e,f,g,h] []:=rF N _ _ y.symm
section
set_option backward.match.sparseCases true
noncomputable abbrev wk:Program:=PySem.Challenge.pw_no0016_01
noncomputable def dY(tb:String->Option Builtin)(p:Program)(w:World)(xJ:Nat)(ann:Option Value):Nat->SharedT->Thread->Option SharedT
 |0,_,_=>none
 |n+1,s,t=>match through t with
  |true=>some s
  |false=>match stepOk xJ ann t with
   |false=>none
   |true=>match stepT (denote tb) p w s t with
    |some (s',t')=>dY tb p w xJ ann n s' t'
    |none=>none
noncomputable def KZ:Nat->List Obj->BT->BT
 |_,[],t=>t
 |i,o::l,t=>KZ (i+1) l (t.ins i o)
noncomputable def wo(w:World)(os:OsState):SharedT:=⟨KZ 0 (boot_heap w.params).objs.toList .nil,(boot_heap w.params).objs.size,(boot_heap w.params).life,#[],boot_drawn,boot_toks,os⟩
section
variable {den:Code->Sem Fin} {p:Program} {w:World} {tb:String->Option Builtin} {xJ:Nat} {ann:Option Value}
theorem oO:∀{n:Nat} {s s':SharedT} {t:Thread},dY tb p w xJ ann n s t=some s'->topRun tb p w xJ ann n s.abs t=some s'.abs
 |0,s,s',t,h=>by simp[dY]at h
 |n+1,s,s',t,h=>by
  unfold dY at h;unfold topRun;cases ht:through t with
  |true=>rw[ht]at h;obtain rfl:=so h;rfl
  |false=>
   rw[ht]at h;cases hk:stepOk xJ ann t with
   |false=>rw[hk]at h;exact sn h rfl
   |true=>
    rw[hk]at h;cases hs:stepT (denote tb) p w s t with
    |none=>rw[hs]at h;exact sn h rfl
    |some r=>
     obtain⟨bb,WK⟩:=r;rw[hs]at h;dsimp only at h⊢;rw[stepT_spec hs];exact oO h
end
theorem DE{p q:Program}{loose:List Str}{Xt:Shared->Bool}{β γ:Type}{out:SharedT->β}{exp:β}{xK:SharedT->γ}{exp2:γ}{pW:Heap->Prop}{N M DF:Nat}{ann:Option Value}{s0:World->OsState->SharedT}{fL:Params->Heap}{wq:Array GenState}{Hq:Drawn}{Hr:Nat}
  (K0:∀w:World,(fencedOpening treeTable p w N).map (fun s=>(s.heap,s.gens,s.drawn,s.toks))=some (fL w.params,wq,Hq,Hr))
  (size:∀w:World,((fL w.params).isNs mainGlobals&&wq.size==0,(fL w.params).objs.size,(fL w.params).nsMap mainGlobals "__annotations__")=(true,DF,ann))
  (abs:∀w os,(s0 w os).abs=⟨fL w.params,wq,Hq,Hr,os⟩) (le:ble M N=true) (says:∀st,out st=exp->xK st=exp2->pW st.abs.heap)
  (whole:∀w:World,(fun os=>(dY treeTable p w DF ann M (s0 w os) (topStub p)).map fun s=>((staticsOk (importedModules p.main.body) (fL w.params) s.abs.heap&&namesBound p s.abs.heap&&gensDone s.abs&&laidKept (fL w.params) s.abs.heap),openSeen q loose (importedModules p.main.body) Xt true s.abs))=fun _=>some (true,openGood q loose))
  (w1:∀w:World,(fun os=>(dY treeTable p w DF ann M (s0 w os) (topStub p)).map out)=fun _=>some exp)
  (w2:∀w:World,(fun os=>(dY treeTable p w DF ann M (s0 w os) (topStub p)).map xK)=fun _=>some exp2):
  LeftO p q loose Xt (fun s=>pW s.heap) (fun _=>True) N:=fun w=>by
 obtain⟨⟨h,gs,d,k,os⟩,e,e'⟩:=zBt.mp (K0 w);obtain⟨rfl,rfl,rfl,rfl⟩:h=fL w.params/\gs=wq/\d=Hq/\k=Hr:=by simpa using e'
 obtain⟨z1,z2,z3⟩:_/\_/\_:=by simpa only[Prod.mk.injEq]using size w
 obtain⟨st,cZ,l⟩:=zBt.mp (congrFun (whole w) os);obtain⟨l1,l2⟩:_/\_:=by simpa only[Prod.mk.injEq]using l
 have l3:=congrFun (w1 w) os;have l4:=congrFun (w2 w) os;rw[cZ]at l3 l4;have r0:=oO cZ;rw[abs]at r0;have r:=topRun_mono (N-M) _ _ _ _ r0;rw[show M+(N-M)=N from(aD 0x803505002026) (zCu le)]at r
 have t:topFrom treeTable p w N ⟨fL w.params,gs,d,k,os⟩=some st.abs:=by
  unfold topFrom;dsimp only;rw[z1];rw[z2];rw[z3];rw[r];refine(?_:(match staticsOk (importedModules p.main.body) (fL w.params) st.abs.heap&&namesBound p st.abs.heap&&gensDone st.abs&&laidKept (fL w.params) st.abs.heap with |true=>_ |false=>_)=_)
  rw[l1]
 unfold openEnds;rw[e];refine(?_:(topFrom treeTable p w N _).map _=_);rw[t];exact zEy some (Prod.ext l2 (propext ⟨fun _=>trivial,fun _=>says st (zBp l3) (zBp l4)⟩))
noncomputable def KT(s:SharedT)(as:List Addr):Frag:=as.filterMap fun a=>if a<s.n then((s.tree.get a).bind alive).map fun o=>(a,o) else none
set_option tactic.hygienic true in
theorem K1(s:SharedT)(as:List Addr):(KT s as).In s.abs.heap:=fun a o h=>by
 unfold KT at h
 induction as with
 |nil=>exact sn h rfl
 |cons b as ih=>
  rw[filterMap_cons]at h;split at h
  .exact ih h
  .rename_i p hp
   rw[zDr]at h;split at hp
   .rename_i hb
    obtain⟨o',t6,rfl⟩:=zBt.mp hp;by_cases q:a=b
    .subst q;simp at h;subst h;cases hg:s.tree.get a with
     |none=>rw[hg]at t6;exact sn t6 rfl
     |some o2=>
      rw[hg]at t6;refine(?_:(absHeap s.tree s.n s.life).get? a=_);rw[abs_get hb hg];exact t6
    .have:(a==b)=false:=by simpa using q
     simp only[this]at h;exact ih h
   .exact sn hp rfl
noncomputable def q1:Program:=view wk [40]
noncomputable def pX:List Str:=wk.boundNames.take 36
noncomputable def Qc(s:Shared):Bool:=recOk (RowW.records PySem.Challenge.rw_no0016_01.row.toRowW) s
theorem Hs:∀w:World,(fencedOpening treeTable wk w 12000).map (fun s=>(s.heap,s.gens,s.drawn,s.toks))=some (boot_heap w.params,Array.mk [],boot_drawn,boot_toks):=
 boot_open (by kernel_rfl) (by rfl) (fun s=>by kernel_rfl)
theorem Ht:∀w:World,((boot_heap w.params).isNs mainGlobals&&(Array.mk []:Array GenState).size==0,(boot_heap w.params).objs.size,(boot_heap w.params).nsMap mainGlobals "__annotations__")=(true,11,some (.ref 6)):=fun w=>by kernel_rfl
theorem K2:∀w os,(wo w os).abs=⟨boot_heap w.params,Array.mk [],boot_drawn,boot_toks,os⟩:=fun w os=>by kernel_rfl
theorem Hu:PySem.Challenge.rw_no0016_01.wellSaid=true:=by kernel_rfl
end
def zF(xs:Array Nat):Prop:=∀i k:Nat,i<k->k<xs.size->xs.getD i 0<xs.getD k 0
theorem K4{xs:Array Nat}{i j:Nat}(h:i<xs.size):xs.getD i j=xs.getD i 0:=by simp[Array.getD,h]
theorem lX{xs:Array Nat}(hr:zF xs)(j:Nat):∀(f lo hi:Nat),lo<=hi->hi<=xs.size->hi-lo<=f->(∀i,i<lo->xs.getD i 0<j)->(∀i,hi<=i->i<xs.size->j<=xs.getD i 0)->
  SetTable.below.go xs j f lo hi<=xs.size/\(∀i,i<SetTable.below.go xs j f lo hi->xs.getD i 0<j)/\(∀i,SetTable.below.go xs j f lo hi<=i->i<xs.size->j<=xs.getD i 0)
 |0,lo,hi,h1,h2,h3,h4,h5=>by have:lo=hi:=(aD 0x801400d4982026) h1 h3;clear h3 h1;subst this;exact⟨h2,h4,h5⟩
 |f+1,lo,hi,h1,h2,h3,h4,h5=>by
  rw[show SetTable.below.go xs j (f+1) lo hi=if lo<hi then(if xs.getD ((lo+hi)/2) j<j then SetTable.below.go xs j f ((lo+hi)/2+1) hi else SetTable.below.go xs j f lo ((lo+hi)/2)) else lo from rfl]
  by_cases cE:lo<hi
  .rw[zBq cE];obtain⟨g1,g2⟩:=half cE;generalize (lo+hi)/2=m at*;have hm:=zDu g2 h2;rw[K4 hm];by_cases hc:xs.getD m 0<j
   .rw[zBq hc];refine lX hr j f _ hi g2 h2 ((dq 0x4b1d015200c5861260045962a041526) h3 cE g1 g2) (fun i jb=>?_) h5;rcases Nat.lt_or_eq_of_le (Nat.le_of_lt_succ jb) with e |e
    .exact Nat.lt_trans (hr i m e hm) hc
    .rw[e];exact hc
   .rw[zAi hc];refine lX hr j f lo _ g1 (Nat.le_of_lt hm) ((dq 0x10475200c5861260045962a041526) h3 cE g1 g2) h4 (fun i jb FH=>?_);rcases Nat.lt_or_eq_of_le jb with e |e
    .exact zDo (zGq.mp hc) (Nat.le_of_lt (hr m i e FH))
    .rw[←e];exact zGq.mp hc
  .rw[zAi cE];have:lo=hi:=(aD 562984419598374) h1 cE;clear cE h3 h1;subst this;exact⟨h2,h4,h5⟩
theorem lY{xs:Array Nat}(hr:zF xs)(j:Nat):SetTable.below xs j<=xs.size/\(∀i,i<SetTable.below xs j->xs.getD i 0<j)/\(∀i,SetTable.below xs j<=i->i<xs.size->j<=xs.getD i 0):=
 lX hr j xs.size 0 xs.size (zEw _) (zAq _) (zAq _) (fun i h=>(aP 272973846) h) (fun i h1 h2=>(dq 0x622004582026) h1 h2)
theorem zG{xs:Array Nat}(hr:zF xs){j p:Nat}(hp:p<=xs.size)(h1:∀i,i<p->xs.getD i 0<j)(h2:∀i,p<=i->i<xs.size->j<=xs.getD i 0):SetTable.below xs j=p:=by
 obtain⟨a,b,d⟩:=lY hr j;rcases Nat.lt_trichotomy (SetTable.below xs j) p with h |h |h
 .have:=h1 _ h;have:=d _ (zAq _) ((aP 0x8840216088982026) hp a h);exact(dq 0x620004982016) ‹_› this
 .exact h
 .have:=b _ h;have:=h2 _ (zAq _) ((aP 0x8044016088982026) hp a h);exact(dq 0x620004982016) ‹_› this
theorem getD_at{xs:Array Nat}{i:Nat}(h:i<xs.toList.length):xs.getD i 0=xs.toList[i]:=by rw[zBi]at h;simp[Array.getD,h]
theorem lZ{xs:Array Nat}:zF xs↔xs.toList.Pairwise (·<·):=by
 rw[List.pairwise_iff_getElem];refine⟨fun h i k hi hk e=>?_,fun h i k e hk=>?_⟩
 .rw[←getD_at hi];rw[←getD_at hk];exact h i k e (by rw[←zBi];exact hk)
 .rw[←zBi]at hk;rw[getD_at hk];rw[getD_at (Nat.lt_trans e hk)];exact h i k _ hk e
theorem uu{xs:Array Nat}(hr:zF xs){j:Nat}(hj:xs[SetTable.below xs j]?≠some j):zF (SetTable.insertAt xs (SetTable.below xs j) j):=by
 obtain⟨a,b,d⟩:=lY hr j
 have uk:∀i,SetTable.below xs j<=i->i<xs.size->j<xs.getD i 0:=fun i h1 h2=>by
  have h3:=d i h1 h2;by_cases e:i=SetTable.below xs j
  .subst e
   have:xs.getD (SetTable.below xs j) 0≠j:=fun q=>hj (by
    have:xs.getD (SetTable.below xs j) 0=xs[SetTable.below xs j]:=by simp[Array.getD,h2]
    rw[this]at q;rw[Array.getElem?_eq_getElem h2];rw[q])
   exact(aD 564050578120742) h3 this
  .have h4:=d _ (zAq _) ((aP 0x8042216100982026) a h1 h2);have:=hr (SetTable.below xs j) i ((aD 564050578120742) h1 e) h2;exact(aP 0x8042216100982026) h3 h4 this
 have hp:=lZ.mp hr;generalize SetTable.below xs j=p at*;refine lZ.mpr ?_
 have e:(SetTable.insertAt xs p j).toList=xs.toList.take p++j::xs.toList.drop p:=by simp[SetTable.insertAt];exact List.take_of_length_le (by simp)
 have lo:∀u∈xs.toList.take p,u<j:=fun u hu=>by obtain⟨i,hi,e⟩:=List.getElem_of_mem hu;rw[List.length_take]at hi;rw[←e];rw[List.getElem_take];rw[←getD_at (zDu hi (Nat.min_le_right _ _))];exact b i (zDu hi (Nat.min_le_left _ _))
 have up:∀u∈xs.toList.drop p,j<u:=fun u hu=>by obtain⟨i,hi,e⟩:=List.getElem_of_mem hu;rw[List.length_drop]at hi;have jb:p+i<xs.toList.length:=(dq 0x401d0462a80582016) ‹_› hi;rw[←e];rw[List.getElem_drop];rw[←getD_at jb];exact uk _ (zCw _ _) (by rw[←zBi];exact jb)
 rw[e]
 exact List.pairwise_append.mpr ⟨hp.sublist (List.take_sublist _ _),zEr.mpr ⟨up,hp.sublist (List.drop_sublist _ _)⟩,
  fun u hu v hv=>(zAy.mp hv).elim (fun e=>e▸lo u hu) fun hv=>Nat.lt_trans (lo u hu) (up v hv)⟩
structure TG(led:Bool)(t:SetTable):Prop where
 led:t.led=led
 good:t.plain=true->t.dummies= #[]/\zF t.place
theorem rO{l:List Nat}(h:l.Pairwise (·<·)):zF l.toArray:=lZ.mpr h
theorem oo{α:Type}(f:Nat->Option α):∀(l:List Nat),l.Pairwise (·<·)->((l.filterMap fun j=>(f j).map (j,·)).map (·.1)).Pairwise (·<·):=by
 intro zl
 induction zl with
 |nil=>
  rintro _;exact List.Pairwise.nil
 |cons x l ih=>
  rintro h;obtain⟨h1,h2⟩:=zEr.mp h;have ih:=ih h2;rw[filterMap_cons];cases f x with
  |none=>exact ih
  |some a=>
   dsimp only[Option.map_some];rw[map_cons];refine zEr.mpr ⟨fun y hy=>?_,ih⟩;obtain⟨⟨y',b⟩,hm,rfl⟩:=zAt.mp hy;obtain⟨z,hz,e⟩:=List.mem_filterMap.mp hm;cases q:f z with
   |none=>rw[q]at e;exact sn e rfl
   |some b'=>rw[q]at e;cases e;exact h1 _ hz
theorem DG{mask finger moves:Nat}{led plain:Bool}{hs:Array Int}{t:SetTable}{o:Array Nat}(h:SetTable.laid mask finger moves led plain hs=some (t,o)):TG led t:=by delta SetTable.laid at h;simp only[Option.bind_eq_bind,Option.bind_eq_some_iff]at h;obtain⟨ow,_,h⟩:=h;cases h;refine⟨rfl,fun _=>⟨rfl,rO (oo _ _ ?_)⟩⟩;exact List.pairwise_lt_range
theorem fM{led:Bool}{t:SetTable}(h:TG led t)(n:Nat):TG led (t.standIn n):=⟨h.led,fun q=>by cases q⟩
theorem rP{led:Bool}{t:SetTable}(h:TG led t):TG led {t with plain:=false}:=⟨h.led,fun q=>by cases q⟩
theorem has_none(j:Nat):SetTable.has #[] j=false:=by delta SetTable.has;exact rfl
set_option tactic.hygienic true in
theorem kM{t:SetTable}(hd:t.dummies= #[])(ha:Nat->Int)(h:Int):∀(f:Nat) (p:SetTable.Probe) {j:Nat} {d:Option Nat},p.dummy=none->SetTable.probe.go t ha h f p=some (.empty j d)->t.slot j= .empty/\d=none
 |0,p,j,d,_,e=>sn e rfl
 |f+1,p,j,d,hp,e=>by
  have WM:∀q:SetTable.Probe,(t.advance q).dummy=q.dummy:=fun q=>by delta SetTable.advance;split<;>rfl
  have e:(match t.slot p.j with
   | .empty=>some (.empty p.j p.dummy)
   | .dummy=>SetTable.probe.go t ha h f (t.advance {p with dummy:=some p.j})
   | .live i=>if ha i==h then some (.candidate p.j i (t.advance p)) else SetTable.probe.go t ha h f (t.advance p))=some (.empty j d):=e
  generalize hs:t.slot p.j=o at e;cases o with
  |empty=>cases e;exact⟨hs,hp⟩
  |dummy=>
   delta SetTable.slot at hs;rw[hd,has_none]at hs;dsimp only at hs;split at hs<;>cases hs
  |live i=>
   dsimp only at e;split at e
   .cases e
   .exact kM hd ha h f _ (by rw[WM];exact hp) e
theorem uv{t:SetTable}{j:Nat}(h:t.slot j= .empty):t.place[SetTable.below t.place j]?≠some j:=by intro q;delta SetTable.slot at h;dsimp only at h;rw[q]at h;simp at h
set_option tactic.hygienic true in
theorem zH{led:Bool}{t:SetTable}(h:TG led t){hh:Int}{slot:Nat}{w:Bool}(hf:t.freeSlot hh=some (slot,w)):TG led (t.put slot).1:=by
 refine⟨h.led,fun hp=>?_⟩;obtain⟨hd,hr⟩:=h.good hp
 have hs:t.slot slot= .empty:=by
  delta SetTable.freeSlot at hf;generalize e:t.probe (fun _=>hh+1) hh (t.probeStart hh)=o at hf;cases o with
  |none=>exact sn hf rfl
  |some m=>cases m with
   |empty j d=>
    obtain⟨e1,e2⟩:=kM hd _ _ _ _ (j:=j) (d:=d) rfl e;clear hp e;subst e2;cases hf;exact e1
   |candidate=>exact sn hf rfl
 refine⟨?_,uu hr (uv hs)⟩;refine(?_:(if SetTable.has t.dummies slot=true then _ else t.dummies)= #[])
 rw[hd];rw[has_none];rfl
set_option tactic.hygienic true in
theorem xM{led:Bool}{t:SetTable}(h:TG led t)(es:Array (Int×Value))(hh:Int)(x:Value):TG led (layNew t es hh x).2.1:=by
 delta layNew;generalize hf:t.freeSlot hh=o;cases o with
 |none=>exact fM h _
 |some q=>
  dsimp only;delta SetTable.orStandIn;split
  .exact zH h hf
  .exact fM (zH h hf) _
set_option tactic.hygienic true in
theorem rQ{led:Bool}{t:SetTable}(h:TG led t)(es:Array (Int×Value))(wanted:Nat):TG led (relayAll t es wanted).2.1:=by
 delta relayAll;generalize e:t.relaid (es.map (·.1)) wanted=o;cases o with
 |none=>exact fM h _
 |some q=>
  dsimp only;split
  .have:=DG e;rw[h.led]at this;exact this
  .exact fM h _
theorem zI(f m:Nat)(led:Bool):TG led (SetTable.fresh f m led):=⟨rfl,fun _=>⟨rfl,fun i k _ hk=>by have:k<0:=hk;exact(aP 272973846) this⟩⟩
theorem jc{α:Type}:∀(l:List α) (i:Nat) (h:i<l.length),(l[i]::l.eraseIdx i).Perm l
 |[],i,h=>by simp at h
 |x::l,0,h=>List.Perm.refl _
 |x::l,i+1,h=>by
  have h':i<l.length:=by simpa using h
  refine(?_:(l[i]::x::l.eraseIdx i).Perm (x::l));exact(List.Perm.swap x l[i] _).trans (List.Perm.cons x (jc l i h'))
theorem wx{α:Type}(next:Nat->Nat):∀(f k:Nat) (left:List α) (out:Array α),left.length=f->(pickOrder.go next f k left out).toList.Perm (out.toList++left)
 |0,k,left,out,h=>by have:left=[]:=List.length_eq_zero_iff.mp h;subst this;refine(?_:out.toList.Perm _);simp
 |f+1,k,left,out,h=>by
  have cE:next k%left.length<left.length:=Nat.mod_lt _ ((aD 43310809094) h)
  refine(?_:(match left[next k%left.length]? with
   |some x=>pickOrder.go next f (k+1) (left.eraseIdx (next k%left.length)) (out.push x)
   |none=>out).toList.Perm _)
  rw[zAe cE];refine(wx next f (k+1) _ _ (by rw[List.length_eraseIdx_of_lt cE];exact(aD 0xac1505868006) h)).trans ?_
  rw[toList_push];rw[zFu];refine List.Perm.append_left _ ?_;exact jc left _ cE
theorem oP{α:Type}(next:Nat->Nat)(xs:Array α):(pickOrder next xs).toList.Perm xs.toList:=by
 have:=wx next xs.size 0 xs.toList #[] (rfl)
 unfold pickOrder;simpa using this
def l7(h:Heap)(a:Addr)(led:Bool):Prop:=∃o es ep t,h.get? a=some o/\o.data= .set es ep t/\TG led t
section
variable {prog:Program} {w:World} {K:Type} [DecidableEq K] [BEq K] [LawfulBEq K] {knd:KeyKind prog w K} {A:Around} {E:Value->Shared->Prop} {s:Shared}
theorem l8{h:Heap}{a:Addr}{o:Obj}{es:Array (Int×Value)}{ep:Nat}{t:SetTable}(ho:h.get? a=some o)(hd:o.data= .set es ep t){xN:Array (Int×Value)}{t':SetTable}{led:Bool}(ht:TG led t'):
  l7 (h.update a (Obj.putSet xN t')) a led:=by
 have hg:(h.update a (Obj.putSet xN t')).get? a=some {o with data:=.set xN (ep+1) t'}:=by
  have:=zCo (Obj.putSet xN t') ho (by rw[putSet_of xN t' hd];rfl)
  rw[putSet_of xN t' hd]at this;exact this
 exact⟨_,xN,ep+1,t',hg,rfl,ht⟩
theorem rR{g:Bool->Sem Unit}(hg:∀(b:Bool) (ah:Shared) (Q':Unit->Shared->Prop),Q' () ah->wpAny (model prog w) A (g b) Q' E ah)
  {a:Addr} {o:Obj} {es:Array (Int×Value)} {ep:Nat} {t:SetTable} (ho:s.heap.get? a=some o) (hex:o.ExactSet) (hd:o.data= .set es ep t)
  {j6:Array (Int×Value)} {t2:SetTable} {S':K->Bool} (zJ:ElemsOf knd j6.toList) (rS:∀k',S' k'=true↔∃e∈j6.toList,knd.is k' e.2=true)
  (pY:j6.size<scanBound) (WN:t2.fits j6.size=true) {led:Bool} (Ou:TG led t2) {rT:Bool} {R:Option Bool->Shared->Prop}
  (h:∀h',SameBut a s.heap h'->h'.SetOf knd a S' j6.size->l7 h' a led->R (some true) {s with heap:=h'}):
  wpAny (model prog w) A (do
    storeSet a j6 t2
    if (!rT&&t2.tooFull)=true then do
      g (relayAll t2 j6 (SetTable.grown j6.size)).2.2
      storeSet a (relayAll t2 j6 (SetTable.grown j6.size)).1 (relayAll t2 j6 (SetTable.grown j6.size)).2.1
      pure (some true)
     else pure (some true)) R E s:=by
 refine lk (wpAny_storeSet_of ho hd ?_ (fits_of_scanBound pY));obtain⟨Qd,WO⟩:=SetOf_store (knd:=knd) ho hex hd zJ rS pY WN;have K5:=zBo s.heap a (Obj.putSet j6 t2);split
 .have hp:=relayAll_perm t2 j6 (SetTable.grown j6.size);have Qe:=relayAll_fits t2 j6 (SetTable.grown j6.size);have Qf:=rQ Ou j6 (SetTable.grown j6.size);generalize WQ:relayAll t2 j6 (SetTable.grown j6.size)=Rl at hp Qe Qf⊢;clear WQ;obtain⟨Qg,t3,Us⟩:=Rl;dsimp only at hp Qe Qf⊢;have eM:Qg.size=j6.size:=by rw[←zBi];rw[hp.length_eq];rw[zBi]
  have Df:Qg.size<scanBound:=by rw[eM];exact pY
  refine lk (hg _ _ _ ?_);refine lk (wpAny_storeSet_of Qd rfl ?_ (fits_of_scanBound Df));obtain⟨_,Ov⟩:=SetOf_store (knd:=knd) Qd hex rfl (zJ.perm hp) (fun k'=>(rS k').trans ⟨fun⟨e,he,q⟩=>⟨e,hp.mem_iff.mpr he,q⟩,fun⟨e,he,q⟩=>⟨e,hp.mem_iff.mp he,q⟩⟩:∀k',S' k'=true↔∃e∈Qg.toList,knd.is k' e.2=true) Df Qe;rw[eM]at Ov;exact Up (h _ (K5.trans (zBo _ a _)) Ov (l8 Qd rfl Qf))
 .exact Up (h _ K5 WO (l8 ho hd Ou))
theorem DH{a:Addr}{S:K->Bool}{n:Nat}{k:K}{x:Value}{led:Bool}{Q:Bool->Shared->Prop}(pZ:knd.is k x=true)(Qh:x.scannable=true)(hS:s.heap.SetOf knd a S n)(hG:l7 s.heap a led)(zK:n+1<scanBound)
  (h:∀h',SameBut a s.heap h'->h'.SetOf knd a (fun k'=>S k'||decide (k'=k)) (if S k then n else n+1)->l7 h' a led->Q (!S k) {s with heap:=h'}):
  wpAny (model prog w) A (setAddHashed a x (knd.hash k)) Q E s:=by
 have J0:=hG;obtain⟨o,es,ep,t,ho,hex,hd,Ow,gC,hb,hf,hn⟩:=hS;obtain⟨o',xN,WR,t',t6,oq,ht⟩:=hG;rw[ho]at t6;obtain rfl:=so t6;rw[hd]at oq;cases oq;have pY:es.size+1<scanBound:=by rw[hn];exact zK
 unfold setAddHashed setAddHashedIn;refine zCt (lk (zGo ho hd hf ?_));dsimp only;rw[byScan_of Qh hb Ow];simp -iota only[↓reduceIte];unfold setAddByScan;refine lk ?_;refine lk (wpAny_rule ?_);refine lk (wpAny_setScan_of pZ ho hd hf Ow ?_);cases hr:List.findIdx? (fun e=>knd.is k e.2) es.toList with
 |some j=>
  obtain⟨hj,WT,_⟩:=List.findIdx?_eq_some_iff_getElem.mp hr;have K6:S k=true:=(gC k).mpr ⟨es.toList[j],zEq hj,WT⟩;refine Up (Up ?_);have e:s={s with heap:=s.heap}:=by clear ho J0 h;cases s;rfl
  have:=h s.heap (Heap.SameBut.refl a s.heap) ⟨o,es,ep,t,ho,hex,hd,Ow,fun k'=>by rw[or_eq_true];rw[decide_eq_true_eq];rw[←gC k'];exact⟨fun hk=>hk.elim id (fun e=>e▸K6),.inl⟩,hb,hf,by rw[K6];exact hn⟩ J0
  rw[K6]at this;rw[e];exact this
 |none=>
  have K6:S k=false:=by
   cases hk:S k with
   |false=>rfl
   |true=>obtain⟨e,he,hp⟩:=(gC k).mp hk;have:=List.findIdx?_eq_none_iff.mp hr e he;rw[hp]at this;exact Bool.noConfusion this
  have WU:∀(b:Bool) {ah:Shared} {Q':Unit->Shared->Prop},Q' () ah->wpAny (model prog w) A (match b with |true=>rule "set.scan.the-table-gave-way" |false=>pure ()) Q' E ah:=
   fun b ah Q' hq=>by cases b<;>first |exact Up hq |exact wpAny_rule hq
  have kN:=layNew_perm t es (knd.hash k) x;have wy:=layNew_fits t es (knd.hash k) x;have Ox:=xM ht es (knd.hash k) x;generalize hL:layNew t es (knd.hash k) x=L at kN wy Ox⊢;clear hL;obtain⟨j6,t1,rT,WV⟩:=L;rw[toList_push]at kN;have zJ:ElemsOf knd j6.toList:=(Ow.push pZ Qh).perm kN;have rS:∀k',(S k'||decide (k'=k))=true↔∃e∈j6.toList,knd.is k' e.2=true:=mem_push_iff pZ gC kN;have K7:j6.size<scanBound:=by rw[←zBi];rw[kN.length_eq];rw[length_append];rw[zBi];exact pY
  refine lk (WU _ ?_);have Qi:j6.size=n+1:=by rw[←zBi];rw[kN.length_eq];rw[length_append];rw[zBi];rw[hn];rfl
  have DI:∀h',SameBut a s.heap h'->h'.SetOf knd a (fun k'=>S k'||decide (k'=k)) j6.size->l7 h' a led->Q true {s with heap:=h'}:=by intro h' dk j9 hg;have:=h h' dk;rw[K6]at this;rw[Qi]at j9;exact this j9 hg
  split
  .refine lk ?_;rw[hashByValue_scannable 8 Qh];refine Up ?_;refine rR (led:=led) ?_ ho hex hd zJ rS K7 ?_ ?_ ?_
   .intro b ah Q' hq;cases b<;>first |exact Up hq |exact wpAny_rule hq
   .split
    .exact wy
    .exact SetTable.fits_plain_off wy
   .split
    .exact Ox
    .exact rP Ox
   .intro h' dk j9 hg;exact Up (DI h' dk j9 hg)
  .refine lk (Up ?_);simp -iota only[↓reduceIte];refine rR (led:=led) ?_ ho hex hd zJ rS K7 wy Ox ?_
   .intro b ah Q' hq;cases b<;>first |exact Up hq |exact wpAny_rule hq
   .intro h' dk j9 hg;exact Up (DI h' dk j9 hg)
end
set_option maxHeartbeats 3200000
noncomputable abbrev l9(w:World):Bool:=!(w.params.followText "set-order")
section
variable {prog:Program} {w:World} {A:Around} {R:Result->Shared->Prop} {I:Addr} {fp wr:List Addr} {G:Array GenState->Array GenState->Prop} {n:Nat} {P:Nat->Value->Prop} {St:Nat->Shared->Prop}
theorem ma{K:Type}[DecidableEq K]{knd:KeyKind prog w K}{h h':Heap}{a:Addr}{S:K->Bool}{n:Nat}(x:h.SetOf knd a S n)(k:∀o,h.get? a=some o->h'.get? a=some o):h'.SetOf knd a S n:=by obtain⟨o,es,ep,t,ho,rest⟩:=x;exact⟨o,es,ep,t,k o ho,rest⟩
theorem oQ{h h':Heap}{a:Addr}{led:Bool}(x:l7 h a led)(k:∀o,h.get? a=some o->h'.get? a=some o):l7 h' a led:=by obtain⟨o,es,ep,t,ho,rest⟩:=x;exact⟨o,es,ep,t,k o ho,rest⟩
theorem zL(W:WalksS prog w A.in1 I fp wr G n P St)(S:Addr)(xO:S∉fp)(val:Nat->Int)(gE:∀i v,P i v->∃t,v= .int (val i) t)(hb:n+1<scanBound){led:Bool}:
  ∀(k i:Nat) (s:Shared),n-i=k->i<=n->St i s->s.heap.SetOf (intKind prog w) S (fun k'=>(firstMet val i).any (·==k')) (firstMet val i).length->l7 s.heap S led->
   (∀s',Moved (S::wr) G s s'->s'.heap.SetOf (intKind prog w) S (fun k'=>(firstMet val n).any (·==k')) (firstMet val n).length->l7 s'.heap S led->R (.ok (.ret .none)) s')->
   codeAny (model prog w) A (.builtin "set.update.loop" ⟨[.ref S,.ref I],[]⟩) R s:=by
 have Oy:S∉wr:=fun h=>xO (W.sub _ h);have dj:∀b∈wr,b∈S::wr:=fun b hb=>zDt _ hb;intro k
 induction k with
 |zero=>
  intro i s hk hi cZ hS hG hR;have WW:i=n:=(aD 0x4001265041506) hk hi;clear hi hk hb;subst WW;refine zFt PyProof.Rows.F.entry_set_update_loop ?_;rw[zDy PyProof.Rows.F.plain_set_update_loop _];refine(?_:wpAny _ A.in1 (pyNext (.ref I)>>=_) _ _ s);refine lk (W.done s _ _ cZ fun s' hm=>?_);refine(?_:wpAny _ A.in1 (ret Value.none) _ _ s');exact Up (hR s' (hm.mono dj) (ma hS fun _=>hm.heap S _ Oy) (oQ hG fun _=>hm.heap S _ Oy))
 |succ k ih=>
  intro i s hk hi cZ hS hG hR;have cE:i<n:=(aP 0x110049962a041506) hk hi;refine zFt PyProof.Rows.F.entry_set_update_loop ?_;rw[zDy PyProof.Rows.F.plain_set_update_loop _];refine(?_:wpAny _ A.in1 (pyNext (.ref I)>>=_) _ _ s);refine lk (W.item i s _ _ cE cZ fun v s' hP zM hm=>?_);obtain⟨t,rfl⟩:=gE i v hP;refine(?_:wpAny _ A.in1 (holding [Value.int (val i) t] (setAdd S (.int (val i) t))>>=_) _ _ s');refine lk (zCt ?_);delta setAdd;refine zCt ?_;refine lk ((intKind prog w).pyHash (k:=val i) (intKind_is _ _ _ _) ?_);have zK:(firstMet val i).length+1<scanBound:=by have:=firstMet_length_le val i;exact(dq 0xac74110c9802160ac1416) hb cE this
  refine DH (knd:=intKind prog w) (led:=led) (s:={s' with toks:=s'.toks+1}) (intKind_is _ _ _ _) rfl (ma hS fun _=>hm.heap S _ Oy) (oQ hG fun _=>hm.heap S _ Oy) zK fun h' dk Ov WX=>?_
  have WY:h'.SetOf (intKind prog w) S (fun k'=>(firstMet val (i+1)).any (·==k')) (firstMet val (i+1)).length:=
   SetOf_congr Ov (fun k'=>by rw[firstMet_succ];rw[step_any]) (by rw[firstMet_succ];rw[step_length])
  refine Up ⟨plainId_quiet PyProof.Rows.F.plain_set_update_loop _,ih (i+1) _ ((aP 0x4b0d01500045962a041506) hk cE) cE (W.frame _ s' _ _ zM (zDw _) fun b hb o e=>?_) WY WX fun Dg Qj Hv Qk=>?_⟩
  .rw[dk.2 b (fun h:b=S=>xO (by rw[←h];exact hb))];exact e
  .refine hR Dg (Moved.trans W.gtrans ((hm.mono dj).then_heap (zDw _) fun b o hb e=>?_) Qj) Hv Qk;rw[dk.2 b (fun h:b=S=>hb (by rw[h];exact zEt))];exact e
end
section
variable {prog:Program} {w:World} {A:Around} {E:Value->Shared->Prop} {s:Shared}
theorem DJ(a:Value){Q₁:Value->Shared->Prop}
  (h:Q₁ (.ref s.heap.objs.size) {s with heap:=s.heap.push {cls:=.type "set",dict:=none,data:=.set #[] 0 (.fresh 0 0 (l9 w))}}):
  codeAny (model prog w) A (.call (.builtin "set.__new__") ⟨[.type "set",a],[]⟩) (wants Q₁ E) s:=by
 refine codeAny_of_tree ?_;refine(?_:wpAny _ A.in1 (do checkBuiltinCall "set.__new__" ⟨[.type "set",a],[]⟩;again (.builtin "set.__new__" ⟨[.type "set",a],[]⟩)) _ _ s)
 refine lk (zFo (PySem.F.newCall_set_1 a) (Up ⟨plainId_quiet PySem.F.plain_set_new _,zFt PySem.F.entry_set_new ?_⟩));rw[zDy PySem.F.plain_set_new _];delta Builtin.«set.__new__» Builtin.Frozenset.newClass;have dj:=sub_set_self;obtain⟨hp,g,d,tk,os⟩:=s
 wp_walk
 refine wpAny_askSetting (Up ?_);simp only[newObj];refine lk (wpAny_alloc (Up ?_));exact Up h
end
set_option maxHeartbeats 3200000
section
variable {prog:Program} {w:World} {A:Around} {E:Value->Shared->Prop} {s:Shared}
theorem zN{l:Addr}{items:Array Value}{ns:List Int}{Q:Value->Shared->Prop}(hh:A.handled=none)(hl:s.heap.IsList l items)(hi:IntsAre items.toList ns)(hb:items.size+1<scanBound)
  (h:∀(h':Heap) (tk:Nat),h'.SetOf (intKind prog w) s.heap.objs.size (fun k'=>(firstMet (fun i=>ns.getD i 0) items.size).any (·==k')) (firstMet (fun i=>ns.getD i 0) items.size).length->l7 h' s.heap.objs.size (l9 w)->
   (∀b o,b<s.heap.objs.size->s.heap.get? b=some o->h'.get? b=some o)->Q (.ref s.heap.objs.size) {s with heap:=h',toks:=tk}):
  wpAny (model prog w) A (call (.type "set") [.ref l]) Q E s:=by
 obtain⟨c,tl,WZ⟩:=zGt.mro;have Ut:=zGt.made;have dj:=zGt.sub;refine wpAny_call (codeAny_of_tree ?_);refine(?_:wpAny _ _ (callAny (.type "set") _) _ _ _);refine Up ⟨Code.quiet_builtin _ (by decide+kernel),zFt PySem.F.entry_type_call ?_⟩
 rw[Around.under_plain (weight_type_call_type "set" [.ref l] []) rfl];have h1:=zGt.notType;have h2:=zGt.canCreate;have hct:=PySem.F.typeCall_set_1 (.ref l)
 repeat (any_goals (first |assumption |wp_step))
 refine codeAny_mono (DJ (.ref l) (E:=E) (Q₁:=fun obj ah=>obj= .ref s.heap.objs.size/\ah={s with heap:=s.heap.push {cls:=.type "set",dict:=none,data:=.set #[] 0 (.fresh 0 0 (l9 w))}}) ⟨rfl,rfl⟩) fun r ah hr=>?_
 generalize W0:l9 w=led at*;cases r with
 |error e=>exact hr
 |ok fl=>
  cases fl with
  |ret obj=>
   obtain⟨rfl,rfl⟩:=hr;have hS:(s.heap.push {cls:=.type "set",dict:=none,data:=.set #[] 0 (.fresh 0 0 led)}).get? s.heap.objs.size=some {cls:=.type "set",dict:=none,data:=.set #[] 0 (.fresh 0 0 led)}:=zAr _ rfl;have hT:Shared.TypeIs {s with heap:=s.heap.push {cls:=.type "set",dict:=none,data:=.set #[] 0 (.fresh 0 0 led)}} (.ref s.heap.objs.size) "set":=⟨_,hS,rfl⟩
   have hli:=zGt.init.lookup;have hbi:=zGt.init.bind (.ref s.heap.objs.size)
   repeat (any_goals (first |assumption |wp_step))
   refine codeAny_mono (codeAny_call_builtin (R:=wants (fun r bb=>r= .none/\∃h' tk,bb={s with heap:=h',toks:=tk}/\
     h'.SetOf (intKind prog w) s.heap.objs.size (fun k'=>(firstMet (fun i=>ns.getD i 0) items.size).any (·==k')) (firstMet (fun i=>ns.getD i 0) items.size).length/\l7 h' s.heap.objs.size led/\
     (∀b o,b<s.heap.objs.size->s.heap.get? b=some o->h'.get? b=some o)) E) zGt.init.plain PySem.F.entry_set_init (check_set_init_1 hT ?_)) fun jB bb zO=>?_
   .obtain⟨ol,jd,rU,nl,Oz⟩:=hl;obtain⟨W1,K8,Uu,Hw⟩:=ol;simp only at rU Oz;subst rU;subst Oz;have Ql:(s.heap.push {cls:=.type "set",dict:=none,data:=.set #[] 0 (.fresh 0 0 led)}).get? l=some {cls:=.type "list",dict:=K8,data:=.seq items nl,slots:=Hw}:=zBr _ jd;have W2:=PySem.F.sub_list_set;have W3:=PySem.F.sub_list_frozenset;have el:(Value.type "list"==Value.type "dict")=false:=by decide
    have Hx:(s.heap.push {cls:=.type "set",dict:=none,data:=.set #[] 0 (.fresh 0 0 led)}).IsList l items:=⟨_,Ql,rfl,nl,rfl⟩;delta Builtin.«set.__init__» noKeywords Builtin.Frozenset.updateFrom;generalize W4:pyIter=PI
    wp_walk
    subst W4;refine wpAny_pyIter_list Hx ?_;refine lk (wpAny_runValue ?_);have Uv:l<s.heap.objs.size:=zAo jd;have W5:A.in1.in1.in1.handled=none:=by simp[hh]
    have Qm:l≠(s.heap.push {cls:=.type "set",dict:=none,data:=.set #[] 0 (.fresh 0 0 led)}).objs.size:=by rw[zGw];exact zBw (zGp Uv)
    have xO:s.heap.objs.size∉[(s.heap.push {cls:=.type "set",dict:=none,data:=.set #[] 0 (.fresh 0 0 led)}).objs.size,l]:=by rw[zGw];simp only[mem_cons,mem_singleton,not_mem_nil,or_false,not_or];exact⟨zBw (zDe _),ne_of_gt Uv⟩
    have gE:∀(i:Nat) (v:Value),items[i]?=some v->∃t,v= .int ((fun i=>ns.getD i 0) i) t:=fun i v hv=>IntsAre.int_at hi i v (by rw[zDi];exact hv)
    have K9:((s.heap.push {cls:=.type "set",dict:=none,data:=.set #[] 0 (.fresh 0 0 led)}).push {cls:=.type "list_iterator",data:=.fields #[.ref l,.int 0 0]}).get? s.heap.objs.size
      =some {cls:=.type "set",dict:=none,data:=.set #[] 0 (.fresh 0 0 led)}:=zBr _ hS
    refine zL (led:=led) ((Walks.list W5 _ l Qm items).toS) s.heap.objs.size
     xO (fun i=>ns.getD i 0) gE hb (items.size-0) 0 _ (by exact aB 5379883344) (zEw _)
     ⟨⟨_,zAr _ rfl,rfl,rfl⟩,(Hx.push _)⟩ ?W6 ⟨_,_,_,_,K9,rfl,zI 0 0 led⟩ ?hR
    case W6=>exact SetOf_congr ((setObjOf_fresh (knd:=intKind prog w) led).setOf K9 (by delta scanBound;decide)) (fun _=>rfl) rfl
    case hR=>
     intro s' hm j9 J0;obtain⟨h',g',d',uw,W7⟩:=s';have eg:g'=s.gens:=hm.gens;have ed:d'=s.drawn:=hm.drawn;have eo:W7=s.os:=hm.os;subst eg;subst ed;subst eo;refine(?_:wpAny _ _ _ _ _ _);refine Up ?_;refine(?_:wpAny _ _ (ret Value.none) _ _ _);refine Up ⟨rfl,h',uw,rfl,j9,J0,fun b o hb e=>?_⟩
     have Df:b≠(s.heap.push {cls:=.type "set",dict:=none,data:=.set #[] 0 (.fresh 0 0 led)}).objs.size:=by rw[zGw];exact zBw (zGp hb)
     exact hm.heap b o (by simp only[mem_cons,mem_singleton,not_mem_nil,or_false,not_or];exact⟨(zBw hb:b≠s.heap.objs.size),Df⟩) (zBr _ (zBr _ e))
   .cases jB with
    |error e=>exact zO
    |ok La=>
     cases La with
     |ret r=>
      obtain⟨rfl,h',tk,rfl,j9,J0,p4⟩:=zO
      repeat (any_goals (first |assumption |wp_step))
      exact h _ _ j9 J0 p4
     |_=>exact zO.elim
  |_=>exact hr.elim
end
theorem ew:Slot "set_iterator" "__next__" "set_iterator.__next__":=
 .of (owner:="set_iterator") (n:="__next__") (by rw[zHe];rw[zEp];kernel_rfl) (by decide+kernel) (by decide+kernel) (by decide+kernel)
  (by first |exact .inl (by decide+kernel) |exact .inr (by decide+kernel)) (by rw[isSubtype_type];kernel_rfl)
theorem ot:entryFor table "set_iterator.__next__"=some Builtin.«set_iterator.__next__» :=entryFor_of_tree (by kernel_rfl)
theorem p5(a:Value):argsOk "set_iterator.__next__" ⟨[a],[]⟩:=by delta argsOk;kernel_rfl
theorem mc:entryFor table "set.__iter__"=some Builtin.«frozenset.__iter__» :=
 entryFor_alias (id':="frozenset.__iter__") (by kernel_rfl) rfl (by decide+kernel) (by kernel_rfl)
theorem jC:Slot "set_iterator" "__iter__" "set_iterator.__iter__":=
 .of (owner:="set_iterator") (n:="__iter__") (by rw[zHe];rw[zEp];kernel_rfl) (by decide+kernel) (by decide+kernel) (by decide+kernel)
  (by first |exact .inl (by decide+kernel) |exact .inr (by decide+kernel)) (by rw[isSubtype_type];kernel_rfl)
theorem ou:entryFor table "set_iterator.__iter__"=some Builtin.«dict_keyiterator.__iter__» :=
 entryFor_alias (id':="dict_keyiterator.__iter__") (by kernel_rfl) (by first |rfl |decide+kernel |(delta String.splitOn;simp+decide [String.splitOnAux])) (by decide+kernel) (by kernel_rfl)
theorem p6(a:Value):argsOk "set_iterator.__iter__" ⟨[a],[]⟩:=by delta argsOk;kernel_rfl
section
set_option backward.match.sparseCases true
noncomputable def gm(first:Value)(i:Nat)(a:Addr)(n ep:Nat):Obj:={cls:=.type "set_iterator",data:=.fields #[first,rawInt i,.ref a,rawInt n,rawInt ep]}
section
variable {prog:Program} {w:World} {A:Around} {E:Value->Shared->Prop} {s:Shared}
theorem eZ{I a:Addr}{first:Value}{i n ep:Nat}{o:Obj}{es:Array (Int×Value)}{t:SetTable}{Q:Option Value->Shared->Prop}(hI:s.heap.get? I=some (gm first i a n ep))(ho:s.heap.get? a=some o)(hd:o.data= .set es ep t)(hf:t.fits es.size=true)(hn:es.size=n)
  (h:wpAny (model prog w) A.in1 (if let .int slot _:=first then do
    match←setNext a slot.toNat i ep with
    |some (x,next)=>
     setField (.ref I) 0 (rawInt next)
     setField (.ref I) 1 (rawInt ((i:Int)+1))
     ret x
    |none=>setField (.ref I) 2 .none;raiseNew (←newExc (.type "StopIteration") [])
   else do
    let some places←seqItems? first |unsupported "internal:set_iterator"
    match places[i]? with
    |some (.int place _)=>
     let x←setNextDrawn a place.toNat ep
     setField (.ref I) 1 (rawInt ((i:Int)+1))
     ret x
    |some _=>unsupported "internal:set_iterator"
    |none=>setField (.ref I) 0 (rawInt 0);setField (.ref I) 2 .none;raiseNew (←newExc (.type "StopIteration") []))
   (fun fin s'=>∃v,fin= .done (.ret v)/\Q (some v) s') (fun e s'=>wpAny (model prog w) A (do
    if←isInstance e (.type "StopIteration") then pure Option.none else throw e) Q E s') s):wpAny (model prog w) A (pyNext (.ref I)) Q E s:=by
 have hT:s.TypeIs (.ref I) "set_iterator":=⟨_,hI,rfl⟩;delta pyNext
 refine lk (wpAny_attempt (wpAny_callSpecial?_slot (name:=Str.ofString "__next__") hT ew
  (zEu ew hT ot ?_ (p5 _))))
 delta Builtin.«set_iterator.__next__»
 refine lk (zFo (a:=(Value.ref I,[])) rfl ?_)
 try dsimp only
 refine lk (wpAny_fieldsOf hI rfl ?_);refine(?_:wpAny _ _ (setEntries a>>=_) _ _ s);delta setEntries;refine lk (lk (zGo ho hd hf (Up ?_)));refine(?_:wpAny _ _ (if (((es.size:Nat):Int) !=(n:Int))=true then _ else _) _ _ s)
 rw[hn];rw[zAi (by simp)]
 refine zAw h (fun fin s' ⟨v,e,q⟩=>⟨v,e,?_⟩) (fun e s' q=>?_)
 .exact Up q
 .exact q
end
end
section
set_option backward.match.sparseCases true
section
variable {prog:Program} {w:World} {A:Around} {E:Value->Shared->Prop} {s:Shared} {a:Addr} {o:Obj} {es:Array (Int×Value)} {ep:Nat} {t:SetTable}
theorem ib{Q:Bool->Shared->Prop}(h:Q (w.params.followText "set-order") s):wpAny (model prog w) A setsByText Q E s:=by delta setsByText;exact lk (wpAny_askSetting (Up h))
theorem oR(hT:w.params.followText "set-order"=true)(ho:s.heap.get? a=some o)(hd:o.data= .set es ep t)(hf:t.fits es.size=true){slot i:Nat}{Q:Option (Value×Nat)->Shared->Prop}
  (h:Q (((pickOrder (w.params.setOrder a ep) es)[i]?).map fun e=>(e.2,slot)) s):wpAny (model prog w) A (setNext a slot i ep) Q E s:=by
 delta setNext;refine lk (zGo ho hd hf ?_);refine lk (ib ?_);rw[hT,zBq rfl,zAi (by simp)]
 refine lk ?_;delta setWalk;refine lk (zGo ho hd hf ?_);refine lk (ib ?_);rw[hT,zBq rfl];exact lk (wpAny_askSetting (Up (Up h)))
theorem oS(hT:w.params.followText "set-order"=false)(ho:s.heap.get? a=some o)(hd:o.data= .set es ep t)(hf:t.fits es.size=true)(hw:(!t.plain&&decide (es.size>1))=false)(hl:t.led=true){slot i:Nat}{Q:Option (Value×Nat)->Shared->Prop}
  (h:Q (match es[SetTable.below t.place slot]?,t.place[SetTable.below t.place slot]? with
   |some (_,x),some j=>some (x,j+1)
   |_,_=>none) s):wpAny (model prog w) A (setNext a slot i ep) Q E s:=by
 delta setNext;refine lk (zGo ho hd hf ?_);refine lk (ib ?_);rw[hT];rw[zAi (by simp)]
 refine(?_:wpAny _ _ (if (!t.plain&&decide (es.size>1))=true then _ else _) _ _ _)
 rw[hw];rw[zAi (by simp)]
 refine lk ?_;refine(?_:wpAny _ _ (if (!t.led&&!es.isEmpty)=true then _ else _) _ _ _)
 rw[hl];rw[zAi Bool.false_ne_true];exact Up (Up h)
theorem xP(ho:s.heap.get? a=some o)(hd:o.data= .set es ep t)(hf:t.fits es.size=true){k:Nat}{e:Int×Value}(he:es[k]?=some e){Q:Value->Shared->Prop}(h:Q e.2 s):wpAny (model prog w) A (setNextDrawn a k ep) Q E s:=by
 delta setNextDrawn;refine lk (zGo ho hd hf ?_);dsimp only;rw[zAi (by simp)];rw[he]
 exact Up h
end
end
section
set_option backward.match.sparseCases true
set_option genInjectivity true
set_option genCtorIdx true
inductive V where
 |none
 |bool (b:Bool)
 |int (i:Int)
 |str (k:Nat)
 |ref (a:Nat)
 |arg
 |tup (l:List V)
noncomputable def strTab:List Str:=([
 "true","false","not","and","or","xor","=>","=","ite","distinct","app",
 "name","const","cells","spot","rest","define","input","","Bool","Int","Real",
 "c","0","1","2","c0","c1","c2",
 "ite_term","three","bits","congruence","farkas","branch","divide","cut","resolve"]:List String).map Str.ofString
noncomputable def strOf(k:Nat):Str:=strTab.getD k Str.empty
noncomputable def strN:Nat:=38
noncomputable def fN(s:Str):Option Nat:=strTab.findIdx? (·==s)
theorem me:strTab.length=strN:=by decide+kernel
theorem p7:strTab.Nodup:=by decide+kernel
theorem dP{i j:Nat}(hi:i<strN)(hj:j<strN)(e:strOf i=strOf j):i=j:=by
 rw[←me]at hi hj;have jb:strOf i=strTab[i]:=by simp[strOf,List.getD,hi]
 have oT:strOf j=strTab[j]:=by simp[strOf,List.getD,hj]
 rw[jb,oT]at e;exact(getElem_inj p7).mp e
theorem ez{s:Str}{k:Nat}(e:fN s=some k):k<strN/\strOf k=s:=by
 delta fN at e;obtain⟨h,h1,_⟩:=List.findIdx?_eq_some_iff_getElem.mp e;refine⟨by rw[←me];exact h,?_⟩
 have:strOf k=strTab[k]:=by simp[strOf,List.getD,h]
 rw[this];exact beq_iff_eq.mp h1
noncomputable def d6:List Str:=([
 "steps","named","empty","many","clauses","bank","core","proof","vars","terms","sides","opened","waiting","spot",
 "sort_names","sort_widths","fun_names","fun_args","fun_results","fresh_count","term_ops","term_args","term_sorts","term_datas","numbers","true_number","false_number"]:List String).map Str.ofString
noncomputable def cB(k:Nat):Str:=d6.getD k Str.empty
noncomputable def zP:Nat:=27
noncomputable def gF(s:Str):Option Nat:=d6.findIdx? (·==s)
theorem fk:d6.length=zP:=by decide+kernel
theorem rV:d6.Nodup:=by decide+kernel
theorem zQ{i j:Nat}(hi:i<zP)(hj:j<zP)(e:cB i=cB j):i=j:=by
 rw[←fk]at hi hj;have jb:cB i=d6[i]:=by simp[cB,List.getD,hi]
 have oT:cB j=d6[j]:=by simp[cB,List.getD,hj]
 rw[jb,oT]at e;exact(getElem_inj rV).mp e
theorem kO{s:Str}{k:Nat}(e:gF s=some k):k<zP/\cB k=s:=by
 delta gF at e;obtain⟨h,h1,_⟩:=List.findIdx?_eq_some_iff_getElem.mp e;refine⟨by rw[←fk];exact h,?_⟩
 have:cB k=d6[k]:=by simp[cB,List.getD,h]
 rw[this];exact beq_iff_eq.mp h1
set_option genCtorIdx false in
inductive lE where
 |aM |store |maker |proof (u:Unit)
structure bW where
 op:Nat
 args:List Int
 sort:Int
 data:Int
 deriving DecidableEq
inductive aN where
 |list (l:List V)
 |ax (m:List (Int×V))
 |aZ (m:List (Nat×V))
 |bU (m:List (bW×Int))
 |inst (C:lE) (fs:List (Nat×V))
noncomputable abbrev Z:=Nat->Option aN
noncomputable def Z.set(H:Z)(a:Nat)(o:aN):Z:=fun b=>if b=a then some o else H b
theorem Z.ab(H:Z)(a:Nat)(o:aN):H.set a o a=some o:=zBq rfl
theorem Z.af(H:Z){a b:Nat}(o:aN)(h:b≠a):H.set a o b=H b:=zAi h
noncomputable abbrev prog:Program:=PySem.Challenge.pw_no0016_01
set_option genInjectivity false in
structure Cx where
 w:World
 base:Heap
 gens:Array GenState
 drawn:Drawn
 os:OsState
 script:Addr
 ca:lE->Addr
 bad:Addr->Prop
noncomputable abbrev Cx.M(c:Cx):Model:=model prog c.w
inductive TupAt(c:Cx)(h:Heap)(R:List Value->Prop)(v:Value):Prop
 |mk (a:Addr) (n:Nat) (xs:Array Value) (e:v= .ref a) (nb:¬c.bad a) (g:h.get? a=some ⟨.type "tuple",none,.seq xs n,#[]⟩) (r:R xs.toList)
inductive Hy(P:Value->Prop)(R:List Value->Prop)(xs:List Value):Prop
 |mk (x:Value) (r:List Value) (e:xs=x::r) (h1:P x) (h2:R r)
inductive Hz{β:Type}(k:β)(P:Value->Prop)(R:List (β×Value)->Prop)(xs:List (β×Value)):Prop
 |mk (x:Value) (r:List (β×Value)) (e:xs=(k,x)::r) (h1:P x) (h2:R r)
inductive HA(h:Heap)(a:Addr)(R:List Value->Prop):Prop
 |mk (n:Nat) (xs:Array Value) (g:h.get? a=some ⟨.type "list",none,.seq xs n,#[]⟩) (r:R xs.toList)
inductive DictAt{κ:Type}(D:List (κ×Value)->Prop)(R:List (κ×Value)->Prop):Prop
 |mk (kvs:List (κ×Value)) (d:D kvs) (r:R kvs)
inductive HB{κ:Type}(D:List (κ×Value)->Prop)(R:List (κ×Value)->Prop)(F:Prop):Prop
 |mk (kvs:List (κ×Value)) (d:D kvs) (r:R kvs) (f:F)
inductive OA(g:Prop)(a:Addr){κ:Type}(D:List (κ×Value)->Prop)(R:List (κ×Value)->Prop)(F:Prop):Prop
 |mk (p:0<a) (g:g) (kvs:List (κ×Value)) (d:D kvs) (r:R kvs) (f:F)
mutual
def VR(c:Cx)(h:Heap):V->Value->Prop
 | .none,v=>v= .none
 | .bool b,v=>v= .bool b
 | .int i,v=>∃t,v= .int i t
 | .str k,v=>k<strN/\∃t,v= .str (strOf k) t
 | .ref a,v=>v= .ref a
 | .arg,v=>v= .ref c.script
 | .tup l,v=>TupAt c h (bj c h l) v
def bj(c:Cx)(h:Heap):List V->List Value->Prop
 |[],xs=>xs=[]
 |v::l,xs=>Hy (VR c h v) (bj c h l) xs
end
def PR(c:Cx)(h:Heap){α β:Type}(f:α->β):List (α×V)->List (β×Value)->Prop
 |[],xs=>xs=[]
 |(k,v)::l,xs=>Hz (f k) (VR c h v) (PR c h f l) xs
noncomputable def Lb(k:bW):V:=.tup [.str k.op,.tup (k.args.map .int),.int k.sort,.int k.data]
def c8(c:Cx)(h:Heap)(k:bW)(a:Addr):Prop:=VR c h (Lb k) (.ref a)
noncomputable abbrev sK(c:Cx):=strKind prog c.w
noncomputable abbrev iK(c:Cx):=intKind prog c.w
mutual
theorem VR.mono{c:Cx}{h h':Heap}(k:∀b xs n,¬c.bad b->h.get? b=some ⟨.type "tuple",none,.seq xs n,#[]⟩->h'.get? b=some ⟨.type "tuple",none,.seq xs n,#[]⟩):∀(v:V) {x:Value},VR c h v x->VR c h' v x
 | .none,_,r=>r
 | .bool _,_,r=>r
 | .int _,_,r=>r
 | .str _,_,r=>r
 | .ref _,_,r=>r
 | .arg,_,r=>r
 | .tup l,_,⟨a,n,xs,e,nb,g,r⟩=>⟨a,n,xs,e,nb,k _ _ _ nb g,bj.mono k l r⟩
theorem bj.mono{c:Cx}{h h':Heap}(k:∀b xs n,¬c.bad b->h.get? b=some ⟨.type "tuple",none,.seq xs n,#[]⟩->h'.get? b=some ⟨.type "tuple",none,.seq xs n,#[]⟩):∀(l:List V) {xs:List Value},bj c h l xs->bj c h' l xs
 |[],_,r=>r
 |v::l,_,⟨x,r,e,h1,h2⟩=>⟨x,r,e,VR.mono k v h1,bj.mono k l h2⟩
end
noncomputable def mf(c:Cx)(k:bW):Int:=
 reduceHash (Builtin.Tuple.tupleHashOf [hashStr c.w (strOf k.op),tupleKeyHash (iK c) k.args,(iK c).hash k.sort,(iK c).hash k.data])
theorem p8{c:Cx}{h:Heap}:∀{is:List Int} {xs:List Value},bj c h (is.map .int) xs->ItemsAre (iK c) is xs:=by
 intro zl
 induction zl with
 |nil=>
  rintro xs r;have r:xs=[]:=r;subst r;exact .nil
 |cons i is ih=>
  rintro xs r;obtain⟨x,r',rfl,⟨t,rfl⟩,h2⟩:=r;exact .cons (by simp[PySem.intKind,Value.isInt]) (ih h2)
theorem p9{c:Cx}{h:Heap}{is:List Int}{a:Addr}(r:VR c h (.tup (is.map .int)) (.ref a)):IsTupleKey (iK c) h is a:=by obtain⟨a',n,xs,e,_,g,r⟩:=r;cases e;exact⟨_,xs,n,g,rfl,rfl,p8 r⟩
inductive Lc(c:Cx)(h:Heap)(k:bW)(a:Addr):Prop
 |mk (n:Nat) (t:Tok) (b:Addr) (u v:Tok) (ho:k.op<strN) (g:h.get? a=some ⟨.type "tuple",none,.seq #[.str (strOf k.op) t,.ref b,.int k.sort u,.int k.data v] n,#[]⟩) (i:IsTupleKey (iK c) h k.args b)
theorem c8.open{c:Cx}{h:Heap}{k:bW}{a:Addr}(x:c8 c h k a):Lc c h k a:=by
 obtain⟨a',n,xs,e,_,g,r⟩:=x;cases e;obtain⟨x1,r1,e1,⟨h1,t,rfl⟩,r⟩:=r;obtain⟨x2,r2,rfl,OB,r⟩:=r;obtain⟨x3,r3,rfl,⟨u,rfl⟩,r⟩:=r;obtain⟨x4,r4,rfl,⟨v,rfl⟩,r⟩:=r;subst (r:r4=[]);obtain⟨b,n2,ys,rfl,_⟩:=id OB;refine⟨n,t,b,u,v,h1,?_,p9 OB⟩;rw[g]
 have:xs= #[.str (strOf k.op) t,.ref b,.int k.sort u,.int k.data v]:=by apply Array.toList_inj.mp;rw[e1]
 rw[this]
theorem c8.inj{c:Cx}{h:Heap}{a:Addr}{x y:bW}(hx:c8 c h x a)(hy:c8 c h y a):x=y:=by
 obtain⟨n,t,b,u,v,ho,g,i⟩:=hx.open
 obtain⟨n',t',b',u',v',t6,g',i'⟩:=hy.open
 rw[g]at g';simp only[Option.some.injEq,Obj.mk.injEq,Data.seq.injEq,true_and,and_true,Array.mk.injEq,List.cons.injEq,Value.str.injEq,Value.ref.injEq,Value.int.injEq]at g';clear hy g hx;obtain⟨⟨⟨e1,_⟩,rfl,⟨e3,_⟩,e4,_⟩,_⟩:=g';obtain⟨xo,xa,xs,xd⟩:=x;obtain⟨yo,ya,ys,yd⟩:=y;have:=dP ho t6 e1;have:=i.inj i';simp_all
theorem c8.typeIs{c:Cx}{s:Shared}{k:bW}{a:Addr}(x:c8 c s.heap k a):s.TypeIs (.ref a) "tuple":=by
 obtain⟨n,t,b,u,v,_,g,_⟩:=x.open
 exact⟨_,g,rfl⟩
section
variable {c:Cx} {A:Around} {E:Value->Shared->Prop} {s:Shared}
theorem rW{k:bW}{a:Addr}{Q:Int->Shared->Prop}(hu:A.units+1<cLine)(hk:c8 c s.heap k a)
  (h:Q (mf c k) {s with toks:=s.toks+(k.args.length+5)}):wpAny (model prog c.w) A (pyHash (.ref a)) Q E s:=by
 have hT:=hk.typeIs;obtain⟨n,t,b,u,v,ho,g,i⟩:=hk.open
 delta pyHash;delta pyHashByItsType;refine lk (wpAny_cRoomFor_or (.inr ((aB 0x135670020026ace2c1416) hu)) ?_);refine lk (zFi hT F.slot_tuple_hash.lookup ?_);refine(?_:wpAny _ _ (if (some (Value.builtin "tuple.__hash__")==some Value.none)=true then _ else _) Q E s)
 rw[zAi (by rw[beq_builtin_none];exact Bool.false_ne_true)]
 refine lk (zFi hT F.slot_tuple_hash.lookup ?_);refine(?_:wpAny _ _ (callSpecialIfBoundUnlessNone? (.ref a) "__hash__" _>>=_) Q E s);refine lk (wpAny_callSpecialIfBoundUnlessNone?_slot hT F.slot_tuple_hash (zEu F.slot_tuple_hash hT F.entry_tuple_hash ?_ (F.args_tuple_hash_1 _)));refine(?_:wpAny _ _ (Builtin.Tuple.tupleItemsOf (.ref a)>>=_) _ _ s);refine lk (wpAny_tupleItemsOf g rfl ?_);refine lk ?_;rw[←forIn_toList];simp -iota only[forIn_cons,forIn_nil];refine lk (lk ((sK c).pyHash (k:=strOf k.op) (by simp[PySem.strKind,Value.isStrOf]) (Up ?_)))
 refine lk (lk (wpAny_pyHash_tuple (knd:=iK c) (ks:=k.args) (by refine(?_:A.units+1<cLine);exact hu) (i) (Up ?_)))
 refine lk (lk ((iK c).pyHash (k:=k.sort) (by simp[PySem.intKind,Value.isInt]) (Up ?_)))
 refine lk (lk ((iK c).pyHash (k:=k.data) (by simp[PySem.intKind,Value.isInt]) (Up ?_)))
 refine Up ?_;refine(?_:wpAny _ _ (retInt (Builtin.Tuple.tupleHashOf [hashStr c.w (strOf k.op),tupleKeyHash (iK c) k.args,(iK c).hash k.sort,(iK c).hash k.data])) _ _ _);refine wpAny_ret_mkInt ?_;delta mf reduceHash at h;generalize Builtin.Tuple.tupleHashOf [hashStr c.w (strOf k.op),tupleKeyHash (iK c) k.args,(iK c).hash k.sort,(iK c).hash k.data]=z at h⊢;refine(?_:wpAny _ _ (if (decide (-(2:Int)^ 63<=z)&&decide (z<2^ 63))=true then _ else _) Q E _)
 by_cases hr:(decide (-(2:Int)^ 63<=z)&&decide (z<2^ 63))=true
 .rw[zBq hr];rw[zBq hr]at h;exact Up (by simpa -iota [Nat.add_assoc,add_comm,Nat.add_left_comm]using h)
 .rw[zAi hr];rw[zAi hr]at h;exact lk (wpAny_rule (Up (by simpa -iota [Nat.add_assoc,add_comm,Nat.add_left_comm]using h)))
theorem qa{x y:bW}{a b:Addr}{P:Fin->Shared->Prop}(hu:A.units<cLine)(hx:c8 c s.heap x a)(hy:c8 c s.heap y b)(h:P (.done (.ret (.bool (decide (x=y))))) s):
  wpAny (model prog c.w) A (Builtin.«tuple.__eq__» ⟨[.ref a,.ref b],[]⟩) P E s:=by
 obtain⟨n,t,b1,u,v,ho,g,i⟩:=hx.open
 obtain⟨n',t',b1',u',v',t6,g',i'⟩:=hy.open
 refine(?_:wpAny _ _ (isInstance (.ref b) (.type "tuple")>>=_) _ _ s);refine lk (wpAny_isInstance hy.typeIs isSubtype_tuple_tuple ?_);simp -iota only[Bool.not_true,false_eq_true,if_false];refine lk (wpAny_tupleItemsOf g rfl ?_);refine lk (wpAny_tupleItemsOf g' rfl ?_);refine lk ?_;simp -iota only[zip_cons_cons,List.zip_nil_right,forIn_cons,forIn_nil];have no:x≠y->P (.done (.ret (.bool false))) s:=fun e=>by rw[zGr e]at h;exact h
 refine lk (lk ((sK c).eqBool (a:=strOf x.op) (b:=strOf y.op) (by simp[PySem.strKind,Value.isStrOf]) (by simp[PySem.strKind,Value.isStrOf]) ?_))
 by_cases e1:strOf x.op=strOf y.op
 case neg=>rw[zGr e1];simp -iota only[Bool.not_false,if_true];exact lk (Up (Up (Up (Up (no fun e=>e1 (by rw[e]))))))
 rw[zGu e1];simp -iota only[Bool.not_true,false_eq_true,if_false];refine Up ?_;refine lk (lk (wpAny_eqBool_tuple (knd:=iK c) hu i i' ?_));by_cases e2:x.args=y.args
 case neg=>rw[zGr e2];simp -iota only[Bool.not_false,if_true];exact lk (Up (Up (Up (Up (no fun e=>e2 (by rw[e]))))))
 rw[zGu e2];simp -iota only[Bool.not_true,false_eq_true,if_false];refine Up ?_;refine lk (lk ((iK c).eqBool (a:=x.sort) (b:=y.sort) (by simp[PySem.intKind,Value.isInt]) (by simp[PySem.intKind,Value.isInt]) ?_))
 by_cases e3:x.sort=y.sort
 case neg=>rw[zGr e3];simp -iota only[Bool.not_false,if_true];exact lk (Up (Up (Up (Up (no fun e=>e3 (by rw[e]))))))
 rw[zGu e3];simp -iota only[Bool.not_true,false_eq_true,if_false];refine Up ?_;refine lk (lk ((iK c).eqBool (a:=x.data) (b:=y.data) (by simp[PySem.intKind,Value.isInt]) (by simp[PySem.intKind,Value.isInt]) ?_))
 by_cases e4:x.data=y.data
 case neg=>rw[zGr e4];simp -iota only[Bool.not_false,if_true];exact lk (Up (Up (Up (Up (no fun e=>e4 (by rw[e]))))))
 rw[zGu e4];simp -iota only[Bool.not_true,false_eq_true,if_false];refine Up (Up ?_);refine Up ?_
 have:x=y:=by clear i' g' hy no i g h hx;obtain⟨xo,xa,xs,xd⟩:=x;obtain⟨yo,ya,ys,yd⟩:=y;have:=dP ho t6 e1;simp_all -iota
 rw[zGu this]at h;exact h
theorem rX{x y:bW}{a b:Addr}{Q:Bool->Shared->Prop}(hu:A.units+1<cLine)(hx:c8 c s.heap x a)(hy:c8 c s.heap y b)(h:Q (decide (x=y)) s):
  wpAny (model prog c.w) A (eqBool (.ref a) (.ref b)) Q E s:=by
 delta eqBool
 try with_reducible refine zCt ?_
 refine(?_:wpAny _ _ (if (Value.ref a==Value.ref b)=true then _ else _) Q E s)
 by_cases FI:(Value.ref a==Value.ref b)=true
 .rw[zBq FI];have e:a=b:=by have:=eq_of_beq FI;injection this
  clear FI;subst e;obtain rfl:=hx.inj hy;exact lk (wpAny_rule (Up (by simpa using h)))
 .rw[zAi FI]
  exact lk (wpAny_richCompare_same_room (op:=.Eq) hx.typeIs hy.typeIs F.slot_tuple_eq
   (zEu F.slot_tuple_eq hx.typeIs F.entry_tuple_eq (qa hu hx hy ⟨_,rfl,(fun e=>nomatch e),zDq h⟩) (F.args_tuple_eq_2 _ _)) ((aB 0x135670020026ace2c1416) hu))
theorem qb{n:Nat}{ks:List Int}{a:Addr}{Q:Bool->Shared->Prop}(hk:IsTupleKey (iK c) s.heap ks a)(h:Q true s):wpAny (model prog c.w) A (eqIsQuiet (n+1) (.ref a)) Q E s:=by
 have hT:=hk.typeIs;obtain⟨o,items,n',ho,_,hd,hi⟩:=hk;unfold eqIsQuiet;refine lk (zFi hT F.slot_tuple_eq.lookup ?_);refine(?_:wpAny _ _ (isInstance (.ref a) (.type "tuple")>>=_) _ _ s);refine lk (wpAny_isInstance hT isSubtype_tuple_tuple ?_);simp -iota only[Bool.not_true,false_eq_true,if_false];refine lk (wpAny_seqItems ho hd ?_);refine lk ?_;refine(?_:wpAny _ _ (forIn items _ _) _ _ s);rw[←forIn_toList];refine wpAny_forIn_list _ (fun rest r s'=>r.1=none/\s'=s/\∀v∈rest,carriedByValue v=true) _ ?_ ?_ _ _ ⟨rfl,rfl,hi.byValue⟩
 .clear ho hT h;rintro v rest r s' ⟨hr,rfl,iF⟩;rw[eqIsQuiet_byValue _ (iF v zEt)];refine lk (Up ?_);simp -iota only[Bool.not_true,false_eq_true,if_false];exact Up ⟨rfl,rfl,fun u W8=>iF u (zDt _ W8)⟩
 .clear ho hT;rintro⟨r1,r2⟩ s' ⟨hr,rfl,_⟩;simp -iota only at hr;subst hr;exact Up h
theorem ux{k:bW}{a:Addr}{Q:Bool->Shared->Prop}(hk:c8 c s.heap k a)(h:Q true s):wpAny (model prog c.w) A (eqIsQuiet 8 (.ref a)) Q E s:=by
 have hT:=hk.typeIs;obtain⟨n,t,b,u,v,ho,g,i⟩:=hk.open
 unfold eqIsQuiet;refine lk (zFi hT F.slot_tuple_eq.lookup ?_);refine(?_:wpAny _ _ (isInstance (.ref a) (.type "tuple")>>=_) _ _ s);refine lk (wpAny_isInstance hT isSubtype_tuple_tuple ?_);simp only[Bool.not_true,false_eq_true,if_false];refine lk (wpAny_seqItems g rfl ?_);refine lk ?_;refine(?_:wpAny _ _ (forIn #[_,_,_,_] _ _) _ _ s);rw[←forIn_toList];simp only[forIn_cons,forIn_nil];rw[eqIsQuiet_byValue _ (v:=.str _ _) rfl,eqIsQuiet_byValue _ (v:=.int k.sort _) rfl,eqIsQuiet_byValue _ (v:=.int k.data _) rfl];refine lk (lk (Up ?_));simp only[Bool.not_true,false_eq_true,if_false];refine Up (lk (lk (qb i ?_)));simp only[Bool.not_true,false_eq_true,if_false];refine Up (lk (lk (Up ?_)));simp only[Bool.not_true,false_eq_true,if_false];refine Up (lk (lk (Up ?_)));simp only[Bool.not_true,false_eq_true,if_false];exact Up (Up (Up h))
end
noncomputable def eN(c:Cx):HeapKind prog c.w bW where
 is:=c8 c
 hash:=mf c
 draws:=fun k=>k.args.length+5
 room:=fun A=>A.units+1<cLine
 inj:=fun hx hy=>hx.inj hy
 keeps:=fun{h h' k a d o es ep} x ho hd hs=>VR.mono (fun b xs n _ e=>(hs.2 b (by rintro rfl;rw[ho]at e;obtain rfl:=so e;cases hd)).trans e) _ x
 pyHash:=fun hu hk h=>rW hu hk h
 eqBool:=fun hu hx hy h=>rX hu hx hy h
 quiet:=fun hk h=>ux hk h
def NR:List (bW×Int)->List (bW×Addr×Value)->Prop
 |[],xs=>xs=[]
 |(k,i)::l,xs=>∃a t r,xs=(k,a,.int i t)::r/\NR l r
def dI(c:Cx)(h:Heap)(a:Addr):aN->Prop
 | .list l=>HA h a (bj c h l)
 | .ax m=>DictAt (h.DictOf (iK c) a) (PR c h id m)
 | .aZ m=>HB (h.DictOf (sK c) a) (PR c h strOf m) (∀p∈m,p.1<strN)
 | .bU m=>∃xs,h.DictOfH (eN c) a xs/\NR m xs
 | .inst C fs=>0<a/\h.get? a=some ⟨.ref (c.ca C),some (a-1),.plain,#[]⟩/\∃kvs,h.DictOf (sK c) (a-1) kvs/\PR c h cB fs kvs/\∀p∈fs,p.1<zP
def aQ(H:Z)(b:Addr):Prop:=H b≠none\/∃C fs,H (b+1)=some (.inst C fs)
noncomputable def OC(S:Addr):Sem (List Value):=load S>>=fun o=>match o.data with
 | .seq xs _=>pure xs.toList
 |_=>unsupported "internal:collect"
structure Inv(c:Cx)(H:Z)(s:Shared):Prop where
 gens:s.gens=c.gens
 drawn:True
 os:s.os=c.os
 base:∀b o,c.base.get? b=some o->s.heap.get? b=some o
 obj:∀a ao,H a=some ao->dI c s.heap a ao
 off:∀b,aQ H b->c.base.get? b=none
 apart:∀a C fs,H a=some (.inst C fs)->H (a-1)=none
 bad:∀b,c.bad b->(s.heap.get? b).isSome=true
structure ay(X:Addr->Prop)(H H':Z)(s s':Shared):Prop where
 keep:∀b o,s.heap.get? b=some o->¬aQ H b->¬X b->s'.heap.get? b=some o
 sub:∀b,aQ H' b->aQ H b\/s.heap.get? b=none
 live:∀b,(s.heap.get? b).isSome=true->(s'.heap.get? b).isSome=true
noncomputable abbrev Step:=ay (fun _=>False)
theorem ay.refl(X:Addr->Prop)(H:Z)(s:Shared):ay X H H s s:=⟨fun _ _ e _ _=>e,fun _ h=>.inl h,fun _ h=>h⟩
theorem ay.trans{X:Addr->Prop}{H aa ak:Z}{s ah bb:Shared}(x:ay X H aa s ah)(y:ay X aa ak ah bb):ay X H ak s bb:=by
 have key:∀b o,s.heap.get? b=some o->¬aQ H b->¬aQ aa b:=fun b o e hn ho=>by
  rcases x.sub b ho with h |h
  .exact hn h
  .exact sn e h
 refine⟨fun b o e hn hx=>y.keep b o (x.keep b o e hn hx) (key b o e hn) hx,fun b ho=>?_,fun b h=>y.live b (x.live b h)⟩;rcases y.sub b ho with h |h
 .exact x.sub b h
 .cases e:s.heap.get? b with
  |none=>exact .inr rfl
  |some o=>
   have:=x.live b (by rw[e];rfl)
   rw[h]at this;cases this
theorem ay.not{X:Addr->Prop}{H H':Z}{s s':Shared}(x:ay X H H' s s'){b:Addr}{o:Obj}(e:s.heap.get? b=some o)(hn:¬aQ H b):¬aQ H' b:=fun ho=>by
 rcases x.sub b ho with h |h
 .exact hn h
 .rw[e]at h;exact sn h.symm rfl
theorem ay.weaken{X Y:Addr->Prop}{H H':Z}{s s':Shared}(x:ay X H H' s s')(h:∀b,X b->Y b):ay Y H H' s s':=
 ⟨fun b o e hn hy=>x.keep b o e hn fun q=>hy (h b q),x.sub,x.live⟩
theorem ay.gG{H H':Z}{s s':Shared}(x:Step H H' s s'){b:Addr}{o:Obj}(e:s.heap.get? b=some o)(hn:¬aQ H b):s'.heap.get? b=some o:=x.keep b o e hn id
inductive zR(h:Heap)(a:Addr):Prop
 |mk (es:Array DictEntry) (n:Nat) (g:h.get? a=some ⟨.type "dict",none,.dict es n,#[]⟩)
theorem aR{c:Cx}{K:Type}[DecidableEq K]{knd:KeyKind prog c.w K}{h:Heap}{a:Addr}{kvs:List (K×Value)}(x:h.DictOf knd a kvs):zR h a:=by obtain⟨⟨oc,od,OD,Qn⟩,es,ep,ho,⟨h1,h2,h3⟩,h4,_⟩:=x;dsimp only at h1 h2 h3 h4;subst h1 h2 h3 h4;exact⟨es,ep,ho⟩
theorem eA{c:Cx}{K:Type}[DecidableEq K]{knd:KeyKind prog c.w K}{h:Heap}{a:Addr}{kvs:List (K×Value)}(x:h.DictOf knd a kvs):(kvs.map (·.1)).Nodup:=by obtain⟨_,_,_,_,_,_,_,_,h⟩:=x;exact h
theorem cH{c:Cx}{K:Type}[DecidableEq K]{knd:HeapKind prog c.w K}{h:Heap}{a:Addr}{xs:List (K×Addr×Value)}(x:h.DictOfH knd a xs):zR h a:=by obtain⟨⟨oc,od,OD,Qn⟩,es,ep,ho,⟨h1,h2,h3⟩,h4,_⟩:=x;dsimp only at h1 h2 h3 h4;subst h1 h2 h3 h4;exact⟨es,ep,ho⟩
theorem qc{c:Cx}{h h':Heap}{a:Addr}{xs:List (bW×Addr×Value)}(k:∀b xs n,¬c.bad b->h.get? b=some ⟨.type "tuple",none,.seq xs n,#[]⟩->h'.get? b=some ⟨.type "tuple",none,.seq xs n,#[]⟩)
  (x:h.DictOfH (eN c) a xs) (k1:∀o,h.get? a=some o->h'.get? a=some o):h'.DictOfH (eN c) a xs:=by
 obtain⟨o,es,ep,ho,h1,h2,h3,h4,h5⟩:=x;exact⟨o,es,ep,k1 _ ho,h1,h2,h3,fun x hx=>VR.mono k _ (h4 x hx),h5⟩
theorem Inv.mh{c:Cx}{H:Z}{s:Shared}(I:Inv c H s){b:Addr}{o:Obj}(e:s.heap.get? b=some o)
  (h1:o.cls≠.type "list") (h2:o.cls≠.type "dict") (h3:∀C,o.cls≠.ref (c.ca C)):¬aQ H b:=by
 rintro(ho |⟨C,fs,ho⟩)
 .cases q:H b with
  |none=>exact ho q
  |some ao=>
   have:=I.obj b ao q;cases ao with
   |list l=>obtain⟨n,xs,q,_⟩:=this;rw[e]at q;obtain rfl:=so q;exact h1 rfl
   |ax m=>obtain⟨kvs,q,_⟩:=this;obtain⟨es,n,q⟩:=aR q;rw[e]at q;obtain rfl:=so q;exact h2 rfl
   |aZ m=>obtain⟨kvs,q,_⟩:=this;obtain⟨es,n,q⟩:=aR q;rw[e]at q;obtain rfl:=so q;exact h2 rfl
   |bU m=>obtain⟨xs,q,_⟩:=this;obtain⟨es,n,q⟩:=cH q;rw[e]at q;obtain rfl:=so q;exact h2 rfl
   |inst C fs=>obtain⟨_,q,_⟩:=this;rw[e]at q;obtain rfl:=so q;exact h3 C rfl
 .obtain⟨_,_,kvs,q,_⟩:=I.obj (b+1) _ ho;obtain⟨es,n,q⟩:=aR q;rw[Nat.add_sub_cancel,e]at q;obtain rfl:=so q;exact h2 rfl
theorem PR.mono{c:Cx}{h h':Heap}{α β:Type}{f:α->β}(k:∀b xs n,¬c.bad b->h.get? b=some ⟨.type "tuple",none,.seq xs n,#[]⟩->h'.get? b=some ⟨.type "tuple",none,.seq xs n,#[]⟩):∀{l:List (α×V)} {xs:List (β×Value)},PR c h f l xs->PR c h' f l xs:=by
 intro l
 induction l with
 |nil=>exact fun r=>r
 |cons p l ih=>
  rintro _ ⟨x,r,e,h1,h2⟩;exact⟨x,r,e,VR.mono k p.2 h1,ih h2⟩
def eC(c:Cx)(X:Addr->Prop)(s:Shared):Prop:=∀b xs n,X b->¬c.bad b->s.heap.get? b≠some ⟨.type "tuple",none,.seq xs n,#[]⟩
theorem eC.none{c:Cx}{s:Shared}:eC c (fun _=>False) s:=fun _ _ _ h=>h.elim
theorem Inv.mi{c:Cx}{X:Addr->Prop}{H H':Z}{s s':Shared}(I:Inv c H s)(S:ay X H H' s s')(hX:eC c X s):
  ∀b xs n,¬c.bad b->s.heap.get? b=some ⟨.type "tuple",none,.seq xs n,#[]⟩->s'.heap.get? b=some ⟨.type "tuple",none,.seq xs n,#[]⟩:=
 fun b _ _ nb e=>S.keep b _ e (I.mh e (by simp) (by simp) (by simp)) fun x=>hX b _ _ x nb e
theorem Inv.dQ{c:Cx}{H H':Z}{s s':Shared}(I:Inv c H s)(S:Step H H' s s'):
  ∀b xs n,¬c.bad b->s.heap.get? b=some ⟨.type "tuple",none,.seq xs n,#[]⟩->s'.heap.get? b=some ⟨.type "tuple",none,.seq xs n,#[]⟩:=I.mi S eC.none
theorem Inv.HC{c:Cx}{X:Addr->Prop}{H H':Z}{s s':Shared}(I:Inv c H s)(S:ay X H H' s s')(hX:eC c X s){v:V}{x:Value}(r:VR c s.heap v x):VR c s'.heap v x:=VR.mono (I.mi S hX) v r
theorem Inv.HD{c:Cx}{X:Addr->Prop}{H H':Z}{s s':Shared}(I:Inv c H s)(S:ay X H H' s s')(hX:eC c X s){v:List V}{x:List Value}(r:bj c s.heap v x):bj c s'.heap v x:=bj.mono (I.mi S hX) v r
theorem Inv.vr{c:Cx}{H H':Z}{s s':Shared}(I:Inv c H s)(S:Step H H' s s'){v:V}{x:Value}(r:VR c s.heap v x):VR c s'.heap v x:=VR.mono (I.dQ S) v r
theorem Inv.OE{c:Cx}{H H':Z}{s s':Shared}(I:Inv c H s)(S:Step H H' s s'){v:List V}{x:List Value}(r:bj c s.heap v x):bj c s'.heap v x:=bj.mono (I.dQ S) v r
theorem fb{c:Cx}{K:Type}[DecidableEq K]{knd:KeyKind prog c.w K}{h h':Heap}{a:Addr}{kvs:List (K×Value)}(x:h.DictOf knd a kvs)(k:∀o,h.get? a=some o->h'.get? a=some o):h'.DictOf knd a kvs:=by obtain⟨o,es,ep,ho,r⟩:=x;exact⟨o,es,ep,k o ho,r⟩
theorem dI.mono{c:Cx}{h h':Heap}{a:Addr}(k:∀b xs n,¬c.bad b->h.get? b=some ⟨.type "tuple",none,.seq xs n,#[]⟩->h'.get? b=some ⟨.type "tuple",none,.seq xs n,#[]⟩)
  {ao:aN} (k1:∀o,h.get? a=some o->h'.get? a=some o) (k2:(∃C fs,ao= .inst C fs)->∀o,h.get? (a-1)=some o->h'.get? (a-1)=some o) (r:dI c h a ao):dI c h' a ao:=by
 cases ao with
 |list l=>clear k2;obtain⟨n,xs,e,r⟩:=r;exact⟨n,xs,k1 _ e,bj.mono k _ r⟩
 |ax m=>clear k2;obtain⟨kvs,e,r⟩:=r;exact⟨kvs,fb e k1,r.mono k⟩
 |aZ m=>clear k2;obtain⟨kvs,e,r,q⟩:=r;exact⟨kvs,fb e k1,r.mono k,q⟩
 |bU m=>clear k2;obtain⟨xs,e,r⟩:=r;exact⟨xs,qc k e k1,r⟩
 |inst C fs=>obtain⟨p,e,kvs,e2,r,q⟩:=r;exact⟨p,k1 _ e,kvs,fb e2 (k2 ⟨C,fs,rfl⟩),r.mono k,q⟩
end
inductive qd where |add |sub |mul |fdiv |mod |band |bor (u:Unit)
inductive kP where |eq |ne |lt |le |gt |ge (u:Unit) |qe |dr
inductive lj where |seq |range |ll (u:Unit) |zip
inductive B1 where |len |abs |tuple |ig (u:Unit) |str |fO |kQ |fP |all
noncomputable def resolve(C:lE)(m:Nat):Option Nat:=match C with
 | .proof _=>bif ble 4 m&&ble m 7 then some m else none
 | .store=>bif ble 16 m&&ble m 17 then some m else none
 | .maker=>bif ble 19 m&&ble m 33 then some m else none
 | .aM=>bif beq m 23 then some 53 else bif ble 35 m&&ble m 52 then some m else none
noncomputable def qf:lE->Nat
 | .aM=>34
 | .store=>15
 | .maker=>18
 | .proof _=>3
noncomputable abbrev lim:Nat:=1000000
noncomputable def cO(ρ:List (Option V))(i:Nat):Option V:=(ρ[i]?).join
noncomputable def b9(ρ:List (Option V))(i:Nat)(v:V):List (Option V):=ρ.set i (some v)
@[local simp] theorem cO_0 {x:Option V} {ρ:List (Option V)}:cO (x::ρ) 0=x:=rfl
@[local simp] theorem uy {x:Option V} {ρ:List (Option V)} {i:Nat}:cO (x::ρ) (i+1)=cO ρ i:=rfl
@[local simp] theorem b9_0 {x:Option V} {ρ:List (Option V)} {v:V}:b9 (x::ρ) 0 v=some v::ρ:=rfl
@[local simp] theorem HE {x:Option V} {ρ:List (Option V)} {i:Nat} {v:V}:b9 (x::ρ) (i+1) v=x::b9 ρ i v:=rfl
noncomputable def eqB(v v':V):Option Bool:=match v with
 | .none=>match v' with
  | .none=>some true
  |_=>none
 | .bool a=>match v' with
  | .bool b=>some (a==b)
  |_=>none
 | .int a=>match v' with
  | .int b=>some (a==b)
  |_=>none
 | .str a=>match v' with
  | .str b=>some (a==b)
  |_=>none
 |_=>none
noncomputable def gH(f:V->V->Option Bool):List V->List V->Option Bool
 |[],l'=>match l' with
  |[]=>some true
  |_::_=>none
 |v::l,l'=>match l' with
  |[]=>none
  |v'::r=>(f v v').bind fun a=>(gH f l r).map (a&&·)
noncomputable def uz:Nat->V->V->Option Bool
 |0,v,v'=>eqB v v'
 |n+1,v,v'=>match v with
  | .tup l=>match v' with
   | .tup l'=>if l.length=l'.length then gH (uz n) l l' else none
   |_=>none
  |v=>eqB v v'
noncomputable def xQ(l l':List V):Option Bool:=if l.length=l'.length then gH (uz 4) l l' else some false
noncomputable def mj(a b:Nat):Option Nat:=fN (strOf a++strOf b)
noncomputable def mn(i:Int):Option Nat:=if i=0 then some 23 else if i=1 then some 24 else if i=2 then some 25 else none
noncomputable def binI:qd->Int->Int->Option V
 | .add,a,b=>some (.int (a+b))
 | .sub,a,b=>some (.int (a-b))
 | .mul,a,b=>if a.natAbs<1000 then some (.int (a*b)) else none
 | .fdiv,a,b=>if 0<b/\a.natAbs<1000/\b<1000 then some (.int (a/b)) else none
 | .mod,a,b=>if 0<b then some (.int (a%b)) else none
 | .band,a,b=>some (.int (Builtin.bitAnd a b))
 | .bor _,a,b=>some (.int (Builtin.bitOr a b))
noncomputable def Ld:qd->Nat->Nat->Option V
 | .add,a,b=>(mj a b).map .str
 |_,_,_=>none
noncomputable def Lf:qd->List V->List V->Option V
 | .add,a,b=>if (a++b).length<=lim then some (.tup (a++b)) else none
 |_,_,_=>none
noncomputable def zS(op:qd)(x y:V):Option V:=match x with
 | .int a=>match y with
  | .int b=>binI op a b
  |_=>none
 | .str a=>match y with
  | .str b=>Ld op a b
  |_=>none
 | .tup a=>match y with
  | .tup b=>Lf op a b
  |_=>none
 |_=>none
noncomputable def vals{α:Type}(f:V->Option α)(l:List V):Option (List α):=List.rec (some []) (fun v _ r=>(f v).bind fun i=>r.map (i::·)) l
noncomputable def vInt:V->Option Int
 | .int i=>some i
 |_=>none
noncomputable def vBool:V->Option Bool
 | .bool i=>some i
 |_=>none
noncomputable def vStr:V->Option Nat
 | .str i=>some i
 |_=>none
noncomputable def gI(l:List V):Option (List Int):=vals vInt l
noncomputable def dt(l:List V):Option (List Bool):=vals vBool l
noncomputable def strs?(l:List V):Option (List Nat):=vals vStr l
@[local simp] theorem J6:gI []=some []:=rfl
@[local simp] theorem HF:dt []=some []:=rfl
@[local simp] theorem J7:strs? []=some []:=rfl
@[local simp] theorem HG {i:Int} {l:List V}:gI (.int i::l)=(gI l).map (i::·):=rfl
@[local simp] theorem FK {i:Bool} {l:List V}:dt (.bool i::l)=(dt l).map (i::·):=rfl
@[local simp] theorem HH {i:Nat} {l:List V}:strs? (.str i::l)=(strs? l).map (i::·):=rfl
theorem lF{α:Type}{f:V->Option α}{g:α->V}(h:∀v i,f v=some i->v=g i):∀{l:List V} {r:List α},vals f l=some r->l=r.map g
 |[],_,e=>by obtain rfl:=so e;rfl
 |v::l,r,e=>by
  obtain⟨i,e1,e⟩:=zFw.mp (show (f v).bind (fun i=>(vals f l).map (i::·))=some r from e)
  obtain⟨r',e2,rfl⟩:=zBt.mp e;rw[h v i e1];rw[lF h e2];rfl
theorem qg{v:V}{i:Int}(e:vInt v=some i):v= .int i:=by cases v<;>first |exact zEy V.int (zBp e) |exact sn e rfl
theorem zT{v:V}{i:Bool}(e:vBool v=some i):v= .bool i:=by cases v<;>first |exact zEy V.bool (zBp e) |exact sn e rfl
theorem wz{v:V}{i:Nat}(e:vStr v=some i):v= .str i:=by cases v<;>first |exact zEy V.str (zBp e) |exact sn e rfl
theorem rY{l:List V}{is:List Int}(e:gI l=some is):l=is.map .int:=lF (fun _ _=>qg) e
theorem oU{l:List V}{is:List Bool}(e:dt l=some is):l=is.map .bool:=lF (fun _ _=>zT) e
theorem zU{l:List V}{is:List Nat}(e:strs? l=some is):l=is.map .str:=lF (fun _ _=>wz) e
noncomputable def Lg(op:kP)(l l':List V):Option Bool:=match op with
 | .eq=>xQ l l'
 | .ne=>(xQ l l').map (!·)
 |_=>none
noncomputable def mq(op:kP)(x y:Option aN):Option Bool:=match x with
 |some (.list l)=>match y with
  |some (.list l')=>Lg op l l'
  |_=>none
 |_=>none
noncomputable def FL(op:kP)(a b:Int):Option Bool:=match op with
 | .eq=>some (a==b)
 | .ne=>some (a !=b)
 | .lt=>some (decide (a<b))
 | .le=>some (decide (a<=b))
 | .gt=>some (decide (b<a))
 | .ge _=>some (decide (b<=a))
 |_=>none
noncomputable def Lh(op:kP)(a b:Nat):Option Bool:=match op with
 | .eq=>some (a==b)
 | .ne=>some (a !=b)
 |_=>none
noncomputable def Li(op:kP)(a b:Bool):Option Bool:=match op with
 | .eq=>some (a==b)
 | .ne=>some (a !=b)
 |_=>none
noncomputable def oV(op:kP)(i:Int)(x:Option aN):Option Bool:=match x with
 |some (.ax m)=>match op with
  | .qe=>some (m.any fun p=>p.1==i)
  | .dr=>some (!m.any fun p=>p.1==i)
  |_=>none
 |_=>none
noncomputable def Lj(op:kP)(k:Nat)(l:List V):Option Bool:=match op with
 | .qe=>(strs? l).map (·.contains k)
 | .dr=>(strs? l).map (!·.contains k)
 |_=>none
noncomputable def oW(op:kP)(b:Bool)(x:Option aN):Option Bool:=match x with
 |some (.list l)=>match op with
  | .qe=>(dt l).map (·.contains b)
  | .dr=>(dt l).map (!·.contains b)
  |_=>none
 |_=>none
noncomputable def wA(op:kP)(x:Option aN):Option Bool:=match x with
 |some (.list _)=>match op with
  | .eq=>some false
  |_=>none
 |_=>none
noncomputable def dR(H:Z)(op:kP)(x y:V):Option Bool:=match x with
 | .int a=>match y with
  | .int b=>FL op a b
  | .ref p=>oV op a (H p)
  |_=>none
 | .ref a=>match y with
  | .ref b=>mq op (H a) (H b)
  |_=>none
 | .str a=>match y with
  | .str b=>Lh op a b
  | .tup l=>Lj op a l
  |_=>none
 | .bool a=>match y with
  | .bool b=>Li op a b
  | .ref p=>oW op a (H p)
  |_=>none
 | .none=>match y with
  | .ref p=>wA op (H p)
  |_=>none
 |_=>none
noncomputable def aj{κ:Type}[DecidableEq κ]{β:Type}(k:κ):List (κ×β)->Option β
 |[]=>none
 |(x,v)::l=>bif x==k then some v else aj k l
noncomputable def putD{κ:Type}[DecidableEq κ]{β:Type}(k:κ)(v:β):List (κ×β)->List (κ×β)
 |[]=>[(k,v)]
 |(x,w)::l=>bif x==k then(x,v)::l else(x,w)::putD k v l
@[local simp] theorem J8 {κ:Type} [DecidableEq κ] {β:Type} {k:κ}:aj k ([]:List (κ×β))=none:=rfl
theorem oX{κ:Type}[DecidableEq κ]{β:Type}{k x:κ}{v:β}{l:List (κ×β)}:aj k ((x,v)::l)=bif x==k then some v else aj k l:=rfl
@[local simp] theorem J9 {k x:Nat} {v:V} {l:List (Nat×V)}:aj k ((x,v)::l)=bif x==k then some v else aj k l:=rfl
theorem aK{κ:Type}[DecidableEq κ]{β:Type}{k x:κ}{v:β}{l:List (κ×β)}:aj k ((x,v)::l)=if x=k then some v else aj k l:=by
 by_cases q:x=k
 .rw[oX];rw[zBq q];rw[beq_iff_eq.mpr q];rfl
 .rw[oX];rw[zAi q];rw[zCr.mpr q];rfl
@[local simp] theorem zV {κ:Type} [DecidableEq κ] {β:Type} {k:κ} {v:β}:putD k v []=[(k,v)]:=rfl
theorem rZ{κ:Type}[DecidableEq κ]{β:Type}{k x:κ}{v w:β}{l:List (κ×β)}:putD k v ((x,w)::l)=bif x==k then(x,v)::l else(x,w)::putD k v l:=rfl
@[local simp] theorem Lk {k x:Nat} {v w:V} {l:List (Nat×V)}:putD k v ((x,w)::l)=bif x==k then(x,v)::l else(x,w)::putD k v l:=rfl
theorem aO{κ:Type}[DecidableEq κ]{β:Type}{k x:κ}{v w:β}{l:List (κ×β)}:putD k v ((x,w)::l)=if x=k then(x,v)::l else(x,w)::putD k v l:=by
 by_cases q:x=k
 .rw[rZ];rw[zBq q];rw[beq_iff_eq.mpr q];rfl
 .rw[rZ];rw[zAi q];rw[zCr.mpr q];rfl
noncomputable def short{α:Type}:Nat->List α->Bool
 |_,[]=>true
 |0,_::_=>false
 |n+1,_::l=>short n l
theorem jD{α:Type}:∀{n:Nat} {l:List α},short n l=true->l.length<=n
 |_,[],_=>zEw _
 |n+1,_::l,h=>Nat.succ_le_succ (jD (n:=n) (l:=l) h)
@[local simp] theorem Ka {α:Type} {n:Nat}:short (n+1) ([]:List α)=true:=rfl
@[local simp] theorem HI {α:Type} {n:Nat} {x:α} {l:List α}:short (n+1) (x::l)=short n l:=rfl
theorem cond_of{b:Bool}{p:Prop}(h:cond b p False):b=true/\p:=by cases b;exact h.elim;exact⟨rfl,h⟩
theorem DK{b:Bool}{p:Prop}(e:b=true)(h:p):cond b p False:=by subst e;exact h
noncomputable def Ll:V->Option (List V)
 | .tup l=>some l
 |_=>none
theorem DM{v:V}{l:List V}(e:Ll v=some l):v= .tup l:=by cases v<;>first |exact zEy V.tup (zBp e) |exact sn e rfl
noncomputable def Lm(a b c d:V):Option bW:=(vStr a).bind fun o=>(Ll b).bind fun as=>(vInt c).bind fun s=>(vInt d).bind fun d=>(gI as).map fun is=>⟨o,is,s,d⟩
noncomputable def Qo:List V->Option bW
 |[a,b,c,d]=>Lm a b c d
 |_=>none
noncomputable def ek(v:V):Option bW:=match v with
 | .tup l=>Qo l
 |_=>none
noncomputable def r6:aN->Option (List (bW×Int))
 | .bU m=>some m
 | .ax []=>some []
 |_=>none
noncomputable def zW(a:Nat)(o:Option aN):Option (List V×(Z->Prop)):=match o with
 |some (.list l)=>some (l,fun H'=>H' a=some (.list l))
 |_=>none
noncomputable def qh(a b:Nat)(o o':Option aN):Option (List V×(Z->Prop)):=match o with
 |some (.list l)=>match o' with
  |some (.list l')=>some ((l.zip l').map fun p=>.tup [p.1,p.2],fun H'=>H' a=some (.list l)/\H' b=some (.list l'))
  |_=>none
 |_=>none
noncomputable def HJ(H:Z)(x y:V):Option (List V×(Z->Prop)):=match x with
 | .ref a=>match y with
  | .ref b=>qh a b (H a) (H b)
  |_=>none
 |_=>none
noncomputable def Lo(H:Z)(l:List V):Option (List V×(Z->Prop)):=match l with
 |[]=>none
 |x::l=>match l with
  |[]=>none
  |y::l=>match l with
   |[]=>HJ H x y
   |_::_=>none
noncomputable def iter(H:Z)(k:lj)(x:V):Option (List V×(Z->Prop)):=match k with
 | .seq=>match x with
  | .tup l=>some (l,fun _=>True)
  | .ref a=>zW a (H a)
  |_=>none
 | .range=>match x with
  | .int n=>if 0<=n/\n<=lim then some ((List.range n.toNat).map fun i=>.int (i:Nat),fun _=>True) else none
  |_=>none
 | .ll _=>match x with
  | .tup l=>if l.length<=lim then some (l.reverse,fun _=>True) else none
  |_=>none
 | .zip=>match x with
  | .tup l=>Lo H l
  |_=>none
theorem bF{H:Z}{a:Nat}{l:List V}(e:H a=some (.list l)):iter H .seq (.ref a)=some (l,fun H'=>H' a=some (.list l)):=by refine(?_:zW a (H a)=_);rw[e];rfl
theorem eO{H:Z}{n:Int}(h:0<=n/\n<=lim):iter H .range (.int n)=some ((List.range n.toNat).map fun i=>.int (i:Nat),fun _=>True):=zBq h
theorem xR{H:Z}{l:List V}(h:l.length<=lim):iter H (.ll ()) (.tup l)=some (l.reverse,fun _=>True):=zBq h
theorem xS{H:Z}{a b:Nat}{l l':List V}(e:H a=some (.list l))(e':H b=some (.list l')):iter H .zip (.tup [.ref a,.ref b])=some ((l.zip l').map fun p=>.tup [p.1,p.2],fun H'=>H' a=some (.list l)/\H' b=some (.list l')):=by refine(?_:qh a b (H a) (H b)=_);rw[e];rw[e'];rfl
@[reducible] noncomputable def fq (F:List V->(Z->Prop)->Prop):Option (List V×(Z->Prop))->Prop
 |some (items,g)=>F items g
 |none=>False
noncomputable def r7(a b:Int):Bool:=decide (a.natAbs<b.natAbs)||(decide (a.natAbs=b.natAbs)&&(!decide (0<a)||decide (0<b)))
noncomputable def ke(x:Int):List Int->List Int
 |[]=>[x]
 |y::l=>if r7 x y then x::y::l else y::ke x l
noncomputable def bJ(l:List Int):List Int:=l.foldr ke []
noncomputable def je(x:Int):List Int->List Int
 |[]=>[x]
 |y::l=>if x<y then x::y::l else if x=y then y::l else y::je x l
noncomputable def du(l:List Int):List Int:=l.foldr je []
noncomputable def lq(g:Z->Prop)(bind:V->List (Option V)->Option (List (Option V)))(body:List (Option V)->Z->(List (Option V)->Z->Prop)->Prop):
  List V->List (Option V)->Z->(List (Option V)->Z->Prop)->Prop
 |[],ρ,H,Q=>g H/\Q ρ H
 |v::vs,ρ,H,Q=>g H/\match bind v ρ with
  |some bc=>body bc H fun cx ak=>lq g bind body vs cx ak Q
  |none=>False
noncomputable def qi(test:List (Option V)->Z->(Bool->Z->Prop)->Prop)(body:List (Option V)->Z->(List (Option V)->Z->Prop)->Prop):
  Nat->List (Option V)->Z->(List (Option V)->Z->Prop)->Prop
 |0,_,_,_=>False
 |k+1,ρ,H,Q=>test ρ H fun b aa=>if b then body ρ aa fun cx ak=>qi test body k cx ak Q else Q ρ aa
noncomputable def mr(g:Z->Prop)(j:Nat)(cond:List (Option V)->Z->(Bool->Z->Prop)->Prop)(elt:List (Option V)->Z->(V->Z->Prop)->Prop):
  List V->List V->List (Option V)->Z->(V->Z->Prop)->Prop
 |[],acc,_,H,Q=>g H/\∀a,H a=none->Q (.ref a) (H.set a (.list acc))
 |v::vs,acc,ρ,H,Q=>g H/\cond (b9 ρ j v) H fun b aa=>
   if b then elt (b9 ρ j v) aa fun x ak=>mr g j cond elt vs (acc++[x]) ρ ak Q else mr g j cond elt vs acc ρ aa Q
structure Cy extends Cx where
 fa:Nat->Addr
def jE(A:Around)(n:Nat):Prop:=A.handled=none/\A.depth+n<recursionLimit/\A.units+16*n+16<cLine
def bZ:Value->Shared->Prop:=fun _ _=>False
inductive Back(c:Cx)(H:Z)(s:Shared)(Q:V->Z->Prop)(v:Value)(s':Shared):Prop
 |mk' (x:V) (H':Z) (I:Inv c H' s') (S:Step H H' s s') (r:VR c s'.heap x v) (q:Q x H')
def zX(c:Cx)(H:Z)(s:Shared)(Q:V->Z->Prop):Result->Shared->Prop
 | .ok (.ret v),s'=>Back c H s Q v s'
 | .ok _,_=>False
 | .error _,_=>False
noncomputable def Cx.wb(c:Cx)(B:Addr->Prop):Cx:={c with bad:=B}
noncomputable def Cy.wb(c:Cy)(B:Addr->Prop):Cy:={c with toCx:=c.toCx.wb B}
noncomputable def Cy.wB(c:Cy)(T:Addr):Cy:=c.wb fun b=>c.bad b\/b=T
def aA(c:Cy)(f:Nat)(n:Nat)(l:List V)(H:Z)(Q:V->Z->Prop):Prop:=
 ∀(A:Around) (s:Shared) (vs:List Value),jE A n->Inv c.toCx H s->bj c.toCx s.heap l vs->
  codeAny c.M A (.call (.ref (c.fa f)) ⟨vs,[]⟩) (zX c.toCx H s Q) s
theorem Back.mono{c:Cx}{H:Z}{s:Shared}{Q Q':V->Z->Prop}(q:∀v H',Q v H'->Q' v H'){v:Value}{s':Shared}:Back c H s Q v s'->Back c H s Q' v s':=
 fun⟨x,H',a,b,d,e⟩=>⟨x,H',a,b,d,q _ _ e⟩
theorem aA.mono{c:Cy}{f:Nat}{n:Nat}{l:List V}{H:Z}{Q Q':V->Z->Prop}(h:aA c f n l H Q)(q:∀v H',Q v H'->Q' v H'):aA c f n l H Q':=
 fun A s vs r I x=>codeAny_mono (h A s vs r I x) (fun r s' b=>by rcases r with e |(v |_ |_ |_)<;>first |exact b.elim |exact Back.mono q b)
def W9:Option aN->Prop
 |some (.list _)=>True
 |_=>False
def OF:Option aN->Prop
 |some (.ax _)=>True
 |some (.aZ _)=>True
 |some (.bU _)=>True
 |_=>False
def FN(Q:Bool->Z->Prop):V->Z->Prop
 | .bool b,H=>Q b H
 |_,_=>False
abbrev EQ:=V->Z->Prop
abbrev SQ:=List (Option V)->Z->Prop
abbrev BQ:=Bool->Z->Prop
noncomputable abbrev aH:=List (Option V)
def eP(Q:EQ):Option V->Z->Prop
 |some v,H=>Q v H
 |none,_=>False
def qj(k:Nat)(Q:EQ)(aa:Z):Option aN->Prop
 |some (.inst _ fs)=>eP Q (aj k fs) aa
 |_=>False
def wC(k:Nat)(Q:EQ):EQ:=fun v aa=>match v with
 | .ref a=>qj k Q aa (aa a)
 |_=>False
def xT(Q:EQ)(ak:Z):Option aN->Option aN->Prop
 |some (.list l),some (.list l')=>(l++l').length<=lim/\∀r,ak r=none->Q (.ref r) (ak.set r (.list (l++l')))
 |_,_=>False
def zY(Q:EQ)(k:Int)(ak:Z):Option aN->Prop
 |some (.list [v])=>0<=k/\k<=lim/\∀r,ak r=none->Q (.ref r) (ak.set r (.list (replicate k.toNat v)))
 |_=>False
def Qp(op:qd)(Q:EQ)(p:Nat):EQ:=fun y ak=>match y with
 | .ref q=>match op with
  | .add=>xT Q ak (ak p) (ak q)
  |_=>False
 | .int k=>match op with
  | .mul=>zY Q k ak (ak p)
  |_=>False
 |_=>False
def fu(op:qd)(Q:EQ)(x:V):EQ:=match x with
 | .ref p=>Qp op Q p
 |x=>fun y ak=>eP Q (zS op x y) ak
def Lp(Q:EQ):EQ:=fun v aa=>match v with
 | .int i=>Q (.int (-i)) aa
 |_=>False
def Lq(Q:EQ):EQ:=fun v aa=>match v with
 | .int i=>Q (.int (Builtin.bitNot i)) aa
 |_=>False
def HK(Q:EQ):EQ:=fun v aa=>match v with
 | .bool b=>Q (.bool (!b)) aa
 |_=>False
def wD(Q:EQ):Option Bool->Z->Prop
 |some r,ak=>Q (.bool r) ak
 |none,_=>False
def oY(op:kP)(Q:EQ)(x:V):EQ:=fun y ak=>wD Q (dR ak op x y) ak
noncomputable def dw:V->Bool
 | .none=>true
 |_=>false
def Lr(Q:EQ):EQ:=fun v aa=>Q (.bool (dw v)) aa
def Ls(Q:EQ):EQ:=fun v aa=>Q (.bool (!dw v)) aa
def iG(Q:List V->Z->Prop):EQ:=fun y ak=>match y with
 | .tup l=>Q l ak
 |_=>False
def qk(x:V)(Q:EQ):List V->Z->Prop:=fun l H=>Q (.tup (x::l)) H
def r8(Q:EQ):List V->Z->Prop:=fun l aa=>bif short 1000 l then∀r,aa r=none->Q (.ref r) (aa.set r (.list l)) else False
def FO(Q:EQ):List V->Z->Prop:=fun l aa=>bif short 1000 l then Q (.tup l) aa else False
def FP(ks:List Nat)(Q:EQ):List V->Z->Prop:=fun l aa=>bif ks.length==l.length then∀r,aa r=none->Q (.ref r) (aa.set r (.aZ (ks.zip l))) else False
def zZ(Q:EQ)(i:Int)(ak:Z):Option aN->Prop
 |some (.list l)=>if 0<=i/\i<lim then eP Q l[i.toNat]? ak else False
 |some (.ax m)=>eP Q (aj i m) ak
 |_=>False
def DN(Q:EQ)(k:Nat)(ak:Z):Option aN->Prop
 |some (.aZ m)=>eP Q (aj k m) ak
 |_=>False
def jF(Q:EQ)(x:V):EQ:=fun y ak=>match x with
 | .tup l=>match y with
  | .int i=>if 0<=i/\i<lim then eP Q l[i.toNat]? ak else False
  |_=>False
 | .ref p=>match y with
  | .int i=>zZ Q i ak (ak p)
  | .str k=>DN Q k ak (ak p)
  |_=>False
 |_=>False
def wF(Q:EQ)(i:Int)(ak:Z):Option aN->Prop
 |some (.list l)=>1<=i/\i<=l.length/\l.length<=lim/\∀r,ak r=none->Q (.ref r) (ak.set r (.list (l.drop i.toNat)))
 |_=>False
def ql(Q:EQ)(x:V):EQ:=fun y ak=>match y with
 | .int i=>match x with
  | .tup l=>1<=i/\i<=l.length/\l.length<=lim/\Q (.tup (l.drop i.toNat)) ak
  | .ref p=>wF Q i ak (ak p)
  |_=>False
 |_=>False
def Lu(c:Cy)(k:Nat)(Q:EQ):EQ:=fun x aa=>match x with
 | .arg=>∀is:List Int,(∀h,(∀b o,c.base.get? b=some o->h.get? b=some o)->∃xs,h.IsList c.script xs/\bj c.toCx h (is.map .int) xs.toList)->
   ∀r,aa r=none->Q (.ref r) (aa.set r (.list ((is.take k).map .int)))
 |_=>False
def DO(Q:EQ)(aa:Z):Option aN->Prop
 |some (.list l)=>l.length<=lim/\∀r,aa r=none->Q (.ref r) (aa.set r (.list l.reverse))
 |_=>False
def HL(Q:EQ):EQ:=fun x aa=>match x with
 | .ref p=>DO Q aa (aa p)
 |_=>False
def z7(c:Cy)(f:Nat)(n:Nat)(Q:EQ):List V->Z->Prop:=fun l aa=>aA c f n l aa Q
def lG(c:Cy)(f:Nat)(n:Nat)(a:Nat)(Q:EQ):List V->Z->Prop:=fun l aa=>aA c f n (.ref a::l) aa Q
def HM(r:Nat)(Q:EQ):EQ:=fun v ak=>match v with
 | .none=>Q (.ref r) ak
 |_=>False
def HN(c:Cy)(k:Nat)(C:lE)(Q:EQ):List V->Z->Prop:=fun l aa=>∀r,aa r=none->aA c (qf C) k (.ref r::l) (aa.set r (.inst C [])) (HM r Q)
def Lv(c:Cy)(n:Nat)(C:lE)(Q:EQ):List V->Z->Prop:=match n with
 |0=>fun _ _=>False
 |k+1=>HN c k C Q
def OG(c:Cy)(m:Nat)(Q:EQ)(aa:Z):Option aN->Prop
 |some (.ax d)=>(∀i H',aA c 0 m [.int i] H' fun v ak=>v= .tup [.int i.natAbs,.bool (decide (0<i))]/\ak=H')/\d.length<64/\(d.map fun q=>q.1.natAbs).Nodup/\
   ∀r,aa r=none->Q (.ref r) (aa.set r (.list ((bJ (d.map (·.1))).map .int)))
 |_=>False
def Qq(c:Cy)(m:Nat)(Q:EQ):EQ:=fun x aa=>match x with
 | .ref p=>OG c m Q aa (aa p)
 |_=>False
def Uw(c:Cy)(n:Nat)(Q:EQ):EQ:=match n with
 |0=>fun _ _=>False
 |m+1=>Qq c m Q
def z8(Q:EQ)(aa:Z):Option aN->Prop
 |some (.list l)=>l.length<=lim/\Q (.int l.length) aa
 |some (.ax m)=>m.length<=lim/\Q (.int m.length) aa
 |_=>False
def DP(Q:EQ)(aa:Z):Option aN->Prop
 |some (.list l)=>l.length<=lim/\Q (.tup l) aa
 |_=>False
def wG(Q:EQ)(aa:Z):Option (List Int)->Prop
 |some is=>is.length<64/\∀r,aa r=none->Q (.ref r) (aa.set r (.list ((du is).map .int)))
 |none=>False
def DQ(Q:EQ)(aa:Z):Option aN->Prop
 |some (.list l)=>wG Q aa (gI l)
 |_=>False
def OH(Q:EQ)(aa:Z):Option aN->Prop
 |some (.ax m)=>m.length<=lim/\∀r,aa r=none->Q (.ref r) (aa.set r (.ax m))
 |_=>False
def wH(Q:EQ)(aa:Z):Option (List Bool)->Prop
 |some bs=>Q (.bool (bs.all id)) aa
 |none=>False
def DR(Q:EQ)(aa:Z):Option aN->Prop
 |some (.list l)=>wH Q aa (dt l)
 |_=>False
def wI(b:B1)(Q:EQ):EQ:=fun x aa=>match b with
 | .len=>match x with
  | .tup l=>l.length<=lim/\Q (.int l.length) aa
  | .ref p=>z8 Q aa (aa p)
  |_=>False
 | .abs=>match x with
  | .int i=>Q (.int i.natAbs) aa
  |_=>False
 | .tuple=>match x with
  | .tup l=>Q (.tup l) aa
  | .ref p=>DP Q aa (aa p)
  |_=>False
 | .ig _=>match x with
  | .tup l=>l.length<=lim/\∀r,aa r=none->Q (.ref r) (aa.set r (.list l.reverse))
  |_=>False
 | .str=>match x with
  | .int i=>eP Q ((mn i).map .str) aa
  |_=>False
 | .fO=>match x with
  | .ref p=>DQ Q aa (aa p)
  |_=>False
 | .kQ=>match x with
  | .ref p=>OH Q aa (aa p)
  |_=>False
 | .fP=>match x with
  | .tup _=>Q (.bool true) aa
  |_=>False
 | .all=>match x with
  | .ref p=>DR Q aa (aa p)
  |_=>False
def wJ(Q:EQ)(x:V):EQ:=fun y ak=>match x with
 | .int i=>match y with
  | .int j=>Q (.int (if j<i then j else i)) ak
  |_=>False
 |_=>False
def wK(Q:EQ)(x:V):EQ:=fun y ak=>match x with
 | .int i=>match y with
  | .int j=>Q (.int (if i<j then j else i)) ak
  |_=>False
 |_=>False
def z9(Q:EQ)(p:Nat)(y:V)(ak:Z):Option aN->Prop
 |some (.list l)=>l.length<lim/\Q .none (ak.set p (.list (l++[y])))
 |_=>False
def Ab(Q:EQ)(p:Nat):EQ:=fun y ak=>z9 Q p y ak (ak p)
def wM(Q:EQ)(p:Nat)(l:List V)(aa:Z):Option V->Prop
 |some v=>l.length<=lim/\Q v (aa.set p (.list l.dropLast))
 |none=>False
def DS(Q:EQ)(p:Nat)(aa:Z):Option aN->Prop
 |some (.list l)=>wM Q p l aa l.getLast?
 |_=>False
def DT(Q:EQ):EQ:=fun x aa=>match x with
 | .ref p=>DS Q p aa (aa p)
 |_=>False
def Ad(Q:EQ)(p q:Nat)(ak:Z):Option aN->Option aN->Prop
 |some (.list l),some (.list l')=>p≠q/\(l++l').length<=lim/\Q .none (ak.set p (.list (l++l')))
 |_,_=>False
def r9(Q:EQ)(p:Nat):EQ:=fun y ak=>match y with
 | .ref q=>Ad Q p q ak (ak p) (ak q)
 |_=>False
def DU(Q:EQ)(p:Nat)(l':List V)(ak:Z):Option aN->Prop
 |some (.list l)=>(l++l').length<=lim/\Q .none (ak.set p (.list (l++l'.reverse)))
 |_=>False
def wN(Q:EQ)(p:Nat):EQ:=fun y ak=>match y with
 | .tup l'=>DU Q p l' ak (ak p)
 |_=>False
def OI(Q:EQ)(i:Int)(z:V)(cS:Z):Option aN->Prop
 |some (.ax m)=>Q ((aj i m).getD z) cS
 |_=>False
def OL(Q:EQ)(i:Nat)(z:V)(cS:Z):Option aN->Prop
 |some (.aZ m)=>Q ((aj i m).getD z) cS
 |_=>False
def OM(Q:EQ)(z:V)(cS:Z):Option (List (bW×Int))->Option bW->Prop
 |some m,some i=>Q (((aj i m).map V.int).getD z) cS
 |_,_=>False
def xU(Q:EQ)(p:Nat)(y:V):EQ:=fun z cS=>match y with
 | .int i=>OI Q i z cS (cS p)
 | .str i=>OL Q i z cS (cS p)
 |y=>OM Q z cS ((cS p).bind r6) (ek y)
def HO(Q:BQ):BQ:=fun b H=>Q (!b) H
abbrev WE:=aH->Z->EQ->Prop
abbrev WB:=aH->Z->BQ->Prop
def se(E:WE)(C:WB)(j:Nat)(k:lj)(ρ:aH)(Q:EQ):EQ:=fun x aa=>fq (fun items g=>items.length<=lim/\mr g j C E items [] ρ aa Q) (iter aa k x)
def Qr(E:EQ->Z->Prop)(Q:EQ):EQ:=fun v aa=>match v with
 | .bool b=>match b with
  |true=>E Q aa
  |false=>Q (.bool false) aa
 |_=>False
def Xa(E:EQ->Z->Prop)(Q:EQ):EQ:=fun v aa=>match v with
 | .bool b=>match b with
  |false=>E Q aa
  |true=>Q (.bool true) aa
 |_=>False
def Lw(E:EQ->Z->Prop)(d7:kP)(y:V)(Q:EQ):Option Bool->Z->Prop
 |some true,ak=>E (oY d7 Q y) ak
 |some false,ak=>Q (.bool false) ak
 |none,_=>False
def FQ(E:EQ->Z->Prop)(c:Cy)(n a:Nat)(Q:EQ)(aa:Z):Option Nat->Prop
 |some f=>E (iG (lG c f n a Q)) aa
 |none=>False
def FR(E:EQ->Z->Prop)(c:Cy)(n:Nat)(m:Nat)(a:Nat)(Q:EQ)(aa:Z):Option aN->Prop
 |some (.inst C _)=>FQ E c n a Q aa (resolve C m)
 |_=>False
def Af(E:EQ->Z->Prop)(c:Cy)(n:Nat)(m:Nat)(Q:EQ):EQ:=fun x aa=>match x with
 | .ref a=>FR E c n m a Q aa (aa a)
 |_=>False
def uA(E:EQ->Z->Prop)(F:EQ)(aa:Z):Option aN->Prop
 |some (.list _)=>E F aa
 |_=>False
def Ah(E:EQ->Z->Prop)(F:Nat->EQ):EQ:=fun x aa=>match x with
 | .ref p=>uA E (F p) aa (aa p)
 |_=>False
def uB(E:EQ->Z->Prop)(F:EQ)(aa:Z):Option aN->Prop
 |some (.ax _)=>E F aa
 |some (.aZ _)=>E F aa
 |some (.bU _)=>E F aa
 |_=>False
def HP(E:EQ->Z->Prop)(F:Nat->EQ):EQ:=fun x aa=>match x with
 | .ref p=>uB E (F p) aa (aa p)
 |_=>False
noncomputable def PE:Type:=Nat×(Cy->Nat->WE×WB)
def bA(c:Cy)(n:Nat)(e:PE)(ρ:aH)(H:Z)(Q:EQ):Prop:=(fun _=>(e.2 c n).1 ρ H Q) @Af
def eV(c:Cy)(n:Nat)(e:PE)(ρ:aH)(H:Z)(Q:BQ):Prop:=(fun _=>(e.2 c n).2 ρ H Q) @Af
def DV(c:Cy)(n:Nat)(b:PE)(ρ:aH)(Q:EQ):EQ:=Qr (fun Q H=>bA c n b ρ H Q) Q
def Lx(c:Cy)(n:Nat)(b:PE)(ρ:aH)(Q:EQ):EQ:=Xa (fun Q H=>bA c n b ρ H Q) Q
def FT(c:Cy)(n:Nat)(op:qd)(b:PE)(ρ:aH)(Q:EQ):EQ:=fun x aa=>bA c n b ρ aa (fu op Q x)
def FU(c:Cy)(n:Nat)(op:kP)(b:PE)(ρ:aH)(Q:EQ):EQ:=fun x aa=>bA c n b ρ aa (oY op Q x)
def mx(c:Cy)(n:Nat)(d7:kP)(y:V)(d:PE)(ρ:aH)(Q:EQ):Option Bool->Z->Prop:=Lw (fun Q H=>bA c n d ρ H Q) d7 y Q
def qm(c:Cy)(n:Nat)(gn d7:kP)(d:PE)(ρ:aH)(Q:EQ)(x:V):EQ:=fun y ak=>mx c n d7 y d ρ Q (dR ak gn x y) ak
def uC(c:Cy)(n:Nat)(gn d7:kP)(b d:PE)(ρ:aH)(Q:EQ):EQ:=fun x aa=>bA c n b ρ aa (qm c n gn d7 d ρ Q x)
def uD(c:Cy)(n:Nat)(a b:PE)(ρ:aH)(Q:EQ):BQ:=fun r aa=>if r then bA c n a ρ aa Q else bA c n b ρ aa Q
def DW(c:Cy)(n:Nat)(a b:PE)(ρ:aH)(Q:BQ):BQ:=fun r aa=>if r then eV c n a ρ aa Q else eV c n b ρ aa Q
def qn(c:Cy)(n:Nat)(b:PE)(ρ:aH)(Q:EQ):EQ:=fun x aa=>bA c n b ρ aa (iG (qk x Q))
def FV(c:Cy)(n:Nat)(b:PE)(ρ:aH)(Q:EQ):EQ:=fun x aa=>bA c n b ρ aa (jF Q x)
def Ai(c:Cy)(n:Nat)(b:PE)(ρ:aH)(Q:EQ):EQ:=fun x aa=>bA c n b ρ aa (ql Q x)
def iO(c:Cy)(n:Nat)(elt:PE)(j:Nat)(k:lj)(cond:PE)(ρ:aH)(Q:EQ):EQ:=se (bA c n elt) (eV c n cond) j k ρ Q
def qo(c:Cy)(n:Nat)(a:Nat)(es:PE)(ρ:aH)(Q:EQ)(aa:Z):Option Nat->Prop:=FQ (fun Q H=>bA c n es ρ H Q) c n a Q aa
def qp(c:Cy)(n:Nat)(m:Nat)(a:Nat)(es:PE)(ρ:aH)(Q:EQ)(aa:Z):Option aN->Prop:=FR (fun Q H=>bA c n es ρ H Q) c n m a Q aa
def lH(c:Cy)(n:Nat)(m:Nat)(es:PE)(ρ:aH)(Q:EQ):EQ:=Af (fun Q H=>bA c n es ρ H Q) c n m Q
def FW(c:Cy)(n:Nat)(b:PE)(ρ:aH)(Q:EQ):EQ:=fun x aa=>bA c n b ρ aa (wJ Q x)
def FY(c:Cy)(n:Nat)(b:PE)(ρ:aH)(Q:EQ):EQ:=fun x aa=>bA c n b ρ aa (wK Q x)
def FZ(c:Cy)(n:Nat)(e:PE)(ρ:aH)(Q:EQ):EQ:=Ah (fun Q H=>bA c n e ρ H Q) (Ab Q)
def F0(c:Cy)(n:Nat)(e:PE)(ρ:aH)(Q:EQ):EQ:=Ah (fun Q H=>bA c n e ρ H Q) (r9 Q)
def F3(c:Cy)(n:Nat)(e:PE)(ρ:aH)(Q:EQ):EQ:=Ah (fun Q H=>bA c n e ρ H Q) (wN Q)
def HQ(c:Cy)(n:Nat)(d:PE)(ρ:aH)(Q:EQ)(p:Nat):EQ:=fun y ak=>bA c n d ρ ak (xU Q p y)
def Ly(c:Cy)(n:Nat)(k d:PE)(ρ:aH)(Q:EQ):EQ:=HP (fun Q H=>bA c n k ρ H Q) (HQ c n d ρ Q)
def qq(c:Cy)(n:Nat)(b:PE)(ρ:aH)(Q:BQ):BQ:=fun r aa=>if r then eV c n b ρ aa Q else Q false aa
def HR(c:Cy)(n:Nat)(b:PE)(ρ:aH)(Q:BQ):BQ:=fun r aa=>if r then Q true aa else eV c n b ρ aa Q
noncomputable def PE.pl(k:Nat)(f:Cy->Nat->WE):PE:=(k,fun c n=>(f c n,fun ρ H Q=>f c n ρ H (FN Q)))
noncomputable def PE.un(k:Nat)(e:PE)(K:Cy->Nat->aH->EQ->EQ):PE:=.pl (.add k (.mul 2 e.1)) fun c n ρ H Q=>bA c n e ρ H (K c n ρ Q)
noncomputable def PE.var(i:Nat):PE:=.pl (.add 1 (.mul 64 i)) fun _ _ ρ H Q=>eP Q (cO ρ i) H
noncomputable def PE.cst(v:V):PE:=.pl 2 fun _ _ _ H Q=>Q v H
noncomputable def PE.not(e:PE):PE:=((.add 1 (.mul 2 e.1)),fun c n=>(fun ρ H Q=>bA c n e ρ H (HK Q),fun ρ H Q=>eV c n e ρ H (HO Q)))
noncomputable def PE.iH(a b:PE):PE:=((.add (.add 2 (.mul 2 a.1)) (.mul 3 b.1)),fun c n=>(fun ρ H Q=>bA c n a ρ H (DV c n b ρ Q),fun ρ H Q=>eV c n a ρ H (qq c n b ρ Q)))
noncomputable def PE.wO(a b:PE):PE:=((.add (.add 3 (.mul 2 a.1)) (.mul 3 b.1)),fun c n=>(fun ρ H Q=>bA c n a ρ H (Lx c n b ρ Q),fun ρ H Q=>eV c n a ρ H (HR c n b ρ Q)))
noncomputable def PE.uE(t a b:PE):PE:=((.add (.add (.add 4 (.mul 2 t.1)) (.mul 3 a.1)) (.mul 5 b.1)),fun c n=>(fun ρ H Q=>eV c n t ρ H (uD c n a b ρ Q),fun ρ H Q=>eV c n t ρ H (DW c n a b ρ Q)))
noncomputable def PE.gJ:PE:=.pl 3 fun _ _ _ H Q=>∀r,H r=none->Q (.ref r) (H.set r (.ax []))
noncomputable def PE.new(C:lE)(es:PE):PE:=.un 10 es fun c n _ Q=>iG (Lv c n C Q)
noncomputable def PE.ij(e:PE):PE:=.un 11 e fun c n _=>Uw c n
@[reducible] noncomputable def PE.glob (v:V):PE:=.cst v
@[reducible] noncomputable def PE.nil:PE:=.cst (.tup [])
@[reducible] noncomputable def PE.attr (e:PE) (k:Nat):PE:=.un (.add 12 (.mul 64 k)) e fun _ _ _=>wC k
@[reducible] noncomputable def PE.bin (op:qd) (a b:PE):PE:=.un (.add 13 (.mul 3 b.1)) a fun c n=>FT c n op b
@[reducible] noncomputable def PE.neg (e:PE):PE:=.un 14 e fun _ _ _=>Lp
@[reducible] noncomputable def PE.inv (e:PE):PE:=.un 15 e fun _ _ _=>Lq
@[reducible] noncomputable def PE.cmp (op:kP) (a b:PE):PE:=.un (.add 16 (.mul 3 b.1)) a fun c n=>FU c n op b
@[reducible] noncomputable def PE.xV (gn d7:kP) (a b d:PE):PE:=.un (.add (.add 17 (.mul 3 b.1)) (.mul 5 d.1)) a fun c n=>uC c n gn d7 b d
@[reducible] noncomputable def PE.isNone (e:PE):PE:=.un 18 e fun _ _ _=>Lr
@[reducible] noncomputable def PE.isSome (e:PE):PE:=.un 19 e fun _ _ _=>Ls
@[reducible] noncomputable def PE.cons (a b:PE):PE:=.un (.add 20 (.mul 3 b.1)) a fun c n=>qn c n b
@[reducible] noncomputable def PE.list (es:PE):PE:=.un 21 es fun _ _ _ Q=>iG (r8 Q)
@[reducible] noncomputable def PE.tup (es:PE):PE:=.un 22 es fun _ _ _ Q=>iG (FO Q)
@[reducible] noncomputable def PE.dict (ks:List Nat) (es:PE):PE:=.un 23 es fun _ _ _ Q=>iG (FP ks Q)
@[reducible] noncomputable def PE.sub (a b:PE):PE:=.un (.add 24 (.mul 3 b.1)) a fun c n=>FV c n b
@[reducible] noncomputable def PE.drop (a b:PE):PE:=.un (.add 25 (.mul 3 b.1)) a fun c n=>Ai c n b
@[reducible] noncomputable def PE.Aj (a:PE) (k:Nat):PE:=.un 26 a fun c _ _=>Lu c k
@[reducible] noncomputable def PE.rev (a:PE):PE:=.un 27 a fun _ _ _=>HL
@[reducible] noncomputable def PE.comp (e:PE) (j:Nat) (k:lj) (a d:PE):PE:=.un (.add (.add 28 (.mul 3 e.1)) (.mul 5 d.1)) a fun c n=>iO c n e j k d
@[reducible] noncomputable def PE.br (f:Nat) (es:PE):PE:=.un (.add 29 (.mul 64 f)) es fun c n _ Q=>iG (z7 c f n Q)
@[reducible] noncomputable def PE.au (o:PE) (m:Nat) (es:PE):PE:=.un (.add (.add 30 (.mul 64 m)) (.mul 3 es.1)) o fun c n=>lH c n m es
@[reducible] noncomputable def PE.b1 (b:B1) (e:PE):PE:=.un 31 e fun _ _ _=>wI b
@[reducible] noncomputable def PE.min2 (a b:PE):PE:=.un (.add 32 (.mul 3 b.1)) a fun c n=>FW c n b
@[reducible] noncomputable def PE.max2 (a b:PE):PE:=.un (.add 33 (.mul 3 b.1)) a fun c n=>FY c n b
@[reducible] noncomputable def PE.append (o e:PE):PE:=.un (.add 34 (.mul 3 e.1)) o fun c n=>FZ c n e
@[reducible] noncomputable def PE.pop (o:PE):PE:=.un 35 o fun _ _ _=>DT
@[reducible] noncomputable def PE.extend (o e:PE):PE:=.un (.add 36 (.mul 3 e.1)) o fun c n=>F0 c n e
@[reducible] noncomputable def PE.my (o e:PE):PE:=.un (.add 37 (.mul 3 e.1)) o fun c n=>F3 c n e
@[reducible] noncomputable def PE.qr (o k d:PE):PE:=.un (.add (.add 38 (.mul 3 k.1)) (.mul 5 d.1)) o fun c n=>Ly c n k d
noncomputable def bind1(i:Nat)(v:V)(ρ:List (Option V)):Option (List (Option V)):=some (b9 ρ i v)
noncomputable def jG(i j:Nat)(v:V)(ρ:List (Option V)):Option (List (Option V)):=match v with
 | .tup [x,y]=>some (b9 (b9 ρ i x) j y)
 |_=>none
def Lz(i:Nat)(ρ:aH)(Q:SQ):EQ:=fun v aa=>Q (b9 ρ i v) aa
def F4(Q:SQ)(aa:Z):Option aH->Prop
 |some bc=>Q bc aa
 |none=>False
def Ak(i j:Nat)(ρ:aH)(Q:SQ):EQ:=fun v aa=>F4 Q aa (jG i j v ρ)
def DX(Q:SQ)(ρ:aH)(a k:Nat)(v:V)(ak:Z):Option aN->Prop
 |some (.inst C fs)=>bif short 899 fs then Q ρ (ak.set a (.inst C (putD k v fs))) else False
 |_=>False
def wQ(k:Nat)(ρ:aH)(Q:SQ)(v:V):EQ:=fun x ak=>match x with
 | .ref a=>DX Q ρ a k v ak (ak a)
 |_=>False
def DY(Q:SQ)(ρ:aH)(p:Nat)(i:Int)(v:V)(cS:Z):Option aN->Prop
 |some (.ax m)=>m.length<lim/\Q ρ (cS.set p (.ax (putD i v m)))
 |_=>False
def DZ(Q:SQ)(ρ:aH)(p:Nat)(i:Nat)(v:V)(cS:Z):Option aN->Prop
 |some (.aZ m)=>m.length<lim/\Q ρ (cS.set p (.aZ (putD i v m)))
 |_=>False
def D0(Q:SQ)(ρ:aH)(p:Nat)(cS:Z)(j:Int):Option (List (bW×Int))->Option bW->Prop
 |some m,some i=>m.length<lim/\Q ρ (cS.set p (.bU (putD i j m)))
 |_,_=>False
def LA(Q:SQ)(ρ:aH)(p:Nat)(y:V)(cS:Z)(v:V):Prop:=match v with
 | .int j=>D0 Q ρ p cS j ((cS p).bind r6) (ek y)
 |_=>False
def mz(ρ:aH)(Q:SQ)(v x:V):EQ:=fun y cS=>match x with
 | .ref p=>match y with
  | .int i=>DY Q ρ p i v cS (cS p)
  | .str i=>DZ Q ρ p i v cS (cS p)
  |y=>LA Q ρ p y cS v
 |_=>False
def HS(ρ:aH)(Q:SQ):EQ:=fun v aa=>match v with
 | .none=>Q ρ aa
 | .bool _=>Q ρ aa
 |_=>False
def sf(c:Cy)(n:Nat)(o:PE)(k:Nat)(ρ:aH)(Q:SQ):EQ:=fun v aa=>bA c n o ρ aa (wQ k ρ Q v)
def Am(c:Cy)(n:Nat)(k:PE)(ρ:aH)(Q:SQ)(v:V):EQ:=fun x ak=>bA c n k ρ ak (mz ρ Q v x)
def F5(c:Cy)(n:Nat)(o k:PE)(ρ:aH)(Q:SQ):EQ:=fun v aa=>bA c n o ρ aa (Am c n k ρ Q v)
noncomputable def PS:Type:=Nat×(Cy->Nat->aH->Z->SQ->EQ->Prop)
def wpS(c:Cy)(n:Nat)(p:PS)(ρ:aH)(H:Z)(Q:SQ)(R:EQ):Prop:=(fun _=>p.2 c n ρ H Q R) @uC
abbrev WS:=Cy->aH->Z->SQ->Prop
def HT(B:aH->Z->SQ->Prop)(i:Nat)(k:lj)(ρ:aH)(Q:SQ):EQ:=fun x aa=>fq (fun items g=>lq g (bind1 i) B items ρ aa Q) (iter aa k x)
def wR(c:Cy)(B:WS)(i j:Nat)(k:lj)(ρ:aH)(Q:SQ):EQ:=fun x aa=>fq (fun items g=>match k with
  | .zip=>∀T,c.base.get? T=none->lq g (jG i j) (B (c.wB T)) items ρ aa Q
  |_=>lq g (jG i j) (B c) items ρ aa Q) (iter aa k x)
def ON(c:Cy)(n:Nat)(a b:PS)(ρ:aH)(Q:SQ)(R:EQ):BQ:=fun r aa=>if r then wpS c n a ρ aa Q R else wpS c n b ρ aa Q R
def D1(c:Cy)(n:Nat)(b:PS)(Q:SQ)(R:EQ):SQ:=fun bc aa=>wpS c n b bc aa Q R
def uF(c:Cy)(n:Nat)(i:Nat)(k:lj)(b:PS)(ρ:aH)(Q:SQ)(R:EQ):EQ:=HT (fun bc ak Q₁=>wpS c n b bc ak Q₁ R) i k ρ Q
def wU(c:Cy)(n:Nat)(i j:Nat)(k:lj)(b:PS)(ρ:aH)(Q:SQ)(R:EQ):EQ:=wR c (fun c bc ak Q₁=>wpS c n b bc ak Q₁ R) i j k ρ Q
def HU(c:Cy)(n:Nat)(t:PE)(b:PS)(Q:SQ)(R:EQ):SQ:=fun ρ H=>∃k,qi (eV c n t) (fun bc aa Q₁=>wpS c n b bc aa Q₁ R) k ρ H Q
noncomputable def PS.un(k:Nat)(e:PE)(K:Cy->Nat->aH->SQ->EQ->EQ):PS:=((.add k (.mul 2 e.1)),fun c n ρ H Q R=>bA c n e ρ H (K c n ρ Q R))
noncomputable def PS.skip:PS:=(1,fun _ _ ρ H Q _=>Q ρ H)
noncomputable def PS.seq(a b:PS):PS:=((.add (.add 2 (.mul 2 a.1)) (.mul 3 b.1)),fun c n ρ H Q R=>wpS c n a ρ H (D1 c n b Q R) R)
noncomputable def PS.ifs(t:PE)(a b:PS):PS:=((.add (.add (.add 3 (.mul 2 t.1)) (.mul 3 a.1)) (.mul 5 b.1)),fun c n ρ H Q R=>eV c n t ρ H (ON c n a b ρ Q R))
noncomputable def PS.Dh(t:PE)(b:PS):PS:=((.add (.add 4 (.mul 2 t.1)) (.mul 3 b.1)),fun c n ρ H Q R=>HU c n t b Q R ρ H)
noncomputable def PS.An:PS:=(2,fun _ _ _ H _ R=>R .none H)
noncomputable def PS.fail:PS:=(3,fun _ _ _ _ _ _=>False)
@[reducible] noncomputable def PS.assign (i:Nat) (e:PE):PS:=.un (.add 10 (.mul 64 i)) e fun _ _ ρ Q _=>Lz i ρ Q
@[reducible] noncomputable def PS.cm (i j:Nat) (e:PE):PS:=.un 11 e fun _ _ ρ Q _=>Ak i j ρ Q
@[reducible] noncomputable def PS.setattr (o:PE) (k:Nat) (e:PE):PS:=.un (.add (.add 12 (.mul 64 k)) (.mul 3 o.1)) e fun c n ρ Q _=>sf c n o k ρ Q
@[reducible] noncomputable def PS.cC (o k e:PE):PS:=.un (.add (.add 13 (.mul 3 o.1)) (.mul 5 k.1)) e fun c n ρ Q _=>F5 c n o k ρ Q
@[reducible] noncomputable def PS.expr (e:PE):PS:=.un 14 e fun _ _ ρ Q _=>HS ρ Q
@[reducible] noncomputable def PS.gq (i:Nat) (k:lj) (e:PE) (b:PS):PS:=.un (.add 15 (.mul 3 b.1)) e fun c n=>uF c n i k b
@[reducible] noncomputable def PS.sh (i j:Nat) (k:lj) (e:PE) (b:PS):PS:=.un (.add 16 (.mul 3 b.1)) e fun c n=>wU c n i j k b
@[reducible] noncomputable def PS.ret (e:PE):PS:=.un 17 e fun _ _ _ _ R=>R
variable {c:Cy} {n:Nat} {ρ:aH} {H:Z} {Q:EQ} {QB:BQ} {QS:SQ} {QL:List V->Z->Prop} {R:EQ} {e a b d o k es:PE} {i j:Nat} {x y v:V}
@[local simp] theorem bX {K k}:bA c n (.un k e K) ρ H Q=bA c n e ρ H (K c n ρ Q):=rfl
@[local simp] theorem Xc {K k}:eV c n (.un k e K) ρ H QB=bA c n e ρ H (K c n ρ (FN QB)):=rfl
@[local simp] theorem wV:bA c n (.var i) ρ H Q=eP Q (cO ρ i) H:=rfl
@[local simp] theorem iP:bA c n (.cst v) ρ H Q=Q v H:=rfl
@[local simp] theorem LB:bA c n (.not e) ρ H Q=bA c n e ρ H (HK Q):=rfl
@[local simp] theorem HV:bA c n (.iH a b) ρ H Q=bA c n a ρ H (DV c n b ρ Q):=rfl
@[local simp] theorem LD:bA c n (.wO a b) ρ H Q=bA c n a ρ H (Lx c n b ρ Q):=rfl
@[local simp] theorem LF:bA c n (.uE d a b) ρ H Q=eV c n d ρ H (uD c n a b ρ Q):=rfl
@[local simp] theorem wW:bA c n .gJ ρ H Q=∀r,H r=none->Q (.ref r) (H.set r (.ax [])):=rfl
@[local simp] theorem Ux {C m}:bA c (m+1) (.new C es) ρ H Q=bA c (m+1) es ρ H (iG (HN c m C Q)):=rfl
@[local simp] theorem Kb {m}:bA c (m+1) (.ij e) ρ H Q=bA c (m+1) e ρ H (Qq c m Q):=rfl
@[local simp] theorem Xd {m p}:Qq c m Q (.ref p) H=OG c m Q H (H p):=rfl
@[local simp] theorem Xe {m dd}:OG c m Q H (some (.ax dd))=((∀i H',aA c 0 m [.int i] H' fun v ak=>v= .tup [.int i.natAbs,.bool (decide (0<i))]/\ak=H')/\dd.length<64/\(dd.map fun q=>q.1.natAbs).Nodup/\
     ∀r,H r=none->Q (.ref r) (H.set r (.list ((bJ (dd.map (·.1))).map .int)))):=rfl
@[local simp] theorem LG:eV c n (.uE d a b) ρ H QB=eV c n d ρ H (DW c n a b ρ QB):=rfl
@[local simp] theorem Qs:DW c n a b ρ QB true H=eV c n a ρ H QB:=rfl
@[local simp] theorem Qt:DW c n a b ρ QB false H=eV c n b ρ H QB:=rfl
@[local simp] theorem LH:eV c n (.not e) ρ H QB=eV c n e ρ H (HO QB):=rfl
@[local simp] theorem LI:eV c n (.iH a b) ρ H QB=eV c n a ρ H (qq c n b ρ QB):=rfl
@[local simp] theorem Qu:eV c n (.wO a b) ρ H QB=eV c n a ρ H (HR c n b ρ QB):=rfl
@[local simp] theorem LK:eV c n (.cst v) ρ H QB=FN QB v H:=rfl
@[local simp] theorem Uy:eV c n (.var i) ρ H QB=bA c n (.var i) ρ H (FN QB):=rfl
@[local simp] theorem Ao {r}:FN QB (.bool r) H=QB r H:=rfl
@[local simp] theorem kg:eP Q (some v) H=Q v H:=rfl
@[local simp] theorem Kc {p}:wC i Q (.ref p) H=qj i Q H (H p):=rfl
@[local simp] theorem F6 {C fs}:qj i Q H (some (.inst C fs))=eP Q (aj i fs) H:=rfl
@[local simp] theorem Qv {op}:FT c n op b ρ Q x H=bA c n b ρ H (fu op Q x):=rfl
@[local simp] theorem OO {p q}:fu .add Q (.int p) (.int q) H=Q (.int (p+q)) H:=rfl
@[local simp] theorem OP {p q}:fu .sub Q (.int p) (.int q) H=Q (.int (p-q)) H:=rfl
@[local simp] theorem LL {p q}:fu .band Q (.int p) (.int q) H=Q (.int (Builtin.bitAnd p q)) H:=rfl
@[local simp] theorem OQ {p q}:fu (.bor ()) Q (.int p) (.int q) H=Q (.int (Builtin.bitOr p q)) H:=rfl
@[local simp] theorem OR {p q:Int}:fu .mul Q (.int p) (.int q) H=eP Q (if p.natAbs<1000 then some (.int (p*q)) else none) H:=rfl
@[local simp] theorem OS {p q:Int}:fu .mod Q (.int p) (.int q) H=eP Q (if 0<q then some (.int (p%q)) else none) H:=rfl
@[local simp] theorem LM {p q:Int}:fu .fdiv Q (.int p) (.int q) H=eP Q (if 0<q/\p.natAbs<1000/\q<1000 then some (.int (p/q)) else none) H:=rfl
@[local simp] theorem OT {p q:Nat}:fu .add Q (.str p) (.str q) H=eP Q ((mj p q).map .str) H:=rfl
@[local simp] theorem OU {p q:List V}:fu .add Q (.tup p) (.tup q) H=eP Q (if (p++q).length<=lim then some (.tup (p++q)) else none) H:=rfl
@[local simp] theorem LN {p q}:fu .add Q (.ref p) (.ref q) H=xT Q H (H p) (H q):=rfl
@[local simp] theorem OV {p q}:fu .mul Q (.ref p) (.int q) H=zY Q q H (H p):=rfl
@[local simp] theorem Uz {l l'}:xT Q H (some (.list l)) (some (.list l'))=((l++l').length<=lim/\∀r,H r=none->Q (.ref r) (H.set r (.list (l++l')))):=rfl
@[local simp] theorem UA {q v}:zY Q q H (some (.list [v]))=(0<=q/\q<=lim/\∀r,H r=none->Q (.ref r) (H.set r (.list (replicate q.toNat v)))):=rfl
@[local simp] theorem LO {p}:Lp Q (.int p) H=Q (.int (-p)) H:=rfl
@[local simp] theorem UB {p}:Lq Q (.int p) H=Q (.int (Builtin.bitNot p)) H:=rfl
@[local simp] theorem UC {p}:HK Q (.bool p) H=Q (.bool (!p)) H:=rfl
@[local simp] theorem Qw:DV c n b ρ Q (.bool true) H=bA c n b ρ H Q:=rfl
@[local simp] theorem Qx:DV c n b ρ Q (.bool false) H=Q (.bool false) H:=rfl
@[local simp] theorem UD:Lx c n b ρ Q (.bool true) H=Q (.bool true) H:=rfl
@[local simp] theorem UE:Lx c n b ρ Q (.bool false) H=bA c n b ρ H Q:=rfl
@[local simp] theorem Qy {op}:FU c n op b ρ Q x H=bA c n b ρ H (oY op Q x):=rfl
@[local simp] theorem Qz {op}:oY op Q x y H=wD Q (dR H op x y) H:=rfl
@[local simp] theorem QA {r}:wD Q (some r) H=Q (.bool r) H:=rfl
@[local simp] theorem OW {gn d7}:uC c n gn d7 b d ρ Q x H=bA c n b ρ H (qm c n gn d7 d ρ Q x):=rfl
@[local simp] theorem OX {gn d7}:qm c n gn d7 d ρ Q x y H=mx c n d7 y d ρ Q (dR H gn x y) H:=rfl
@[local simp] theorem LP {d7}:mx c n d7 y d ρ Q (some true) H=bA c n d ρ H (oY d7 Q y):=rfl
@[local simp] theorem LQ {d7}:mx c n d7 y d ρ Q (some false) H=Q (.bool false) H:=rfl
@[local simp] theorem UG:Lr Q v H=Q (.bool (dw v)) H:=rfl
@[local simp] theorem UH:Ls Q v H=Q (.bool (!dw v)) H:=rfl
@[local simp] theorem QC:uD c n a b ρ Q true H=bA c n a ρ H Q:=rfl
@[local simp] theorem QD:uD c n a b ρ Q false H=bA c n b ρ H Q:=rfl
@[local simp] theorem UI {l}:iG QL (.tup l) H=QL l H:=rfl
@[local simp] theorem D2:qn c n b ρ Q x H=bA c n b ρ H (iG (qk x Q)):=rfl
@[local simp] theorem OY {l}:qk x Q l H=Q (.tup (x::l)) H:=rfl
@[local simp] theorem QE {l}:r8 Q l H=(bif short 1000 l then∀r,H r=none->Q (.ref r) (H.set r (.list l)) else False):=rfl
@[local simp] theorem QF {l}:FO Q l H=(bif short 1000 l then Q (.tup l) H else False):=rfl
@[local simp] theorem QG {ks l}:FP ks Q l H=(bif ks.length==l.length then∀r,H r=none->Q (.ref r) (H.set r (.aZ (ks.zip l))) else False):=rfl
@[local simp] theorem QH:FV c n b ρ Q x H=bA c n b ρ H (jF Q x):=rfl
@[local simp] theorem lI {l p}:jF Q (.tup l) (.int p) H=if 0<=p/\p<lim then eP Q l[p.toNat]? H else False:=rfl
@[local simp] theorem OZ {q p}:jF Q (.ref q) (.int p) H=zZ Q p H (H q):=rfl
@[local simp] theorem O0 {q p}:jF Q (.ref q) (.str p) H=DN Q p H (H q):=rfl
@[local simp] theorem Ap {l p}:zZ Q p H (some (.list l))=if 0<=p/\p<lim then eP Q l[p.toNat]? H else False:=rfl
@[local simp] theorem QI {m p}:zZ Q p H (some (.ax m))=eP Q (aj p m) H:=rfl
@[local simp] theorem UJ {m p}:DN Q p H (some (.aZ m))=eP Q (aj p m) H:=rfl
@[local simp] theorem O1:Ai c n b ρ Q x H=bA c n b ρ H (ql Q x):=rfl
@[local simp] theorem LR {l} {p:Int}:ql Q (.tup l) (.int p) H=(1<=p/\p<=l.length/\l.length<=lim/\Q (.tup (l.drop p.toNat)) H):=rfl
@[local simp] theorem LS {q} {p:Int}:ql Q (.ref q) (.int p) H=wF Q p H (H q):=rfl
@[local simp] theorem QK {l} {p:Int}:wF Q p H (some (.list l))=(1<=p/\p<=l.length/\l.length<=lim/\∀r,H r=none->Q (.ref r) (H.set r (.list (l.drop p.toNat)))):=rfl
@[local simp] theorem UK {q}:HL Q (.ref q) H=DO Q H (H q):=rfl
@[local simp] theorem UL {l}:DO Q H (some (.list l))=(l.length<=lim/\∀r,H r=none->Q (.ref r) (H.set r (.list l.reverse))):=rfl
@[local simp] theorem O2 {f l}:z7 c f n Q l H=aA c f n l H Q:=rfl
@[local simp] theorem LU {m p}:lH c n m es ρ Q (.ref p) H=qp c n m p es ρ Q H (H p):=rfl
@[local simp] theorem LV {m p C fs}:qp c n m p es ρ Q H (some (.inst C fs))=qo c n p es ρ Q H (resolve C m):=rfl
@[local simp] theorem LW {p f}:qo c n p es ρ Q H (some f)=bA c n es ρ H (iG (lG c f n p Q)):=rfl
@[local simp] theorem LX {p f l}:lG c f n p Q l H=aA c f n (.ref p::l) H Q:=rfl
@[local simp] theorem UM {m C l}:HN c m C Q l H=∀r,H r=none->aA c (qf C) m (.ref r::l) (H.set r (.inst C [])) (HM r Q):=rfl
@[local simp] theorem UN {r}:HM r Q .none H=Q (.ref r) H:=rfl
@[local simp] theorem O3 {l}:wI .len Q (.tup l) H=(l.length<=lim/\Q (.int l.length) H):=rfl
@[local simp] theorem O4 {p}:wI .len Q (.ref p) H=z8 Q H (H p):=rfl
@[local simp] theorem QM {l}:z8 Q H (some (.list l))=(l.length<=lim/\Q (.int l.length) H):=rfl
@[local simp] theorem QN {m}:z8 Q H (some (.ax m))=(m.length<=lim/\Q (.int m.length) H):=rfl
@[local simp] theorem Xf {p:Int}:wI .abs Q (.int p) H=Q (.int p.natAbs) H:=rfl
@[local simp] theorem O5 {l}:wI .tuple Q (.tup l) H=Q (.tup l) H:=rfl
@[local simp] theorem O6 {p}:wI .tuple Q (.ref p) H=DP Q H (H p):=rfl
@[local simp] theorem UO {l}:DP Q H (some (.list l))=(l.length<=lim/\Q (.tup l) H):=rfl
@[local simp] theorem Xg {l}:wI (.ig ()) Q (.tup l) H=(l.length<=lim/\∀r,H r=none->Q (.ref r) (H.set r (.list l.reverse))):=rfl
@[local simp] theorem Xh {p:Int}:wI .str Q (.int p) H=eP Q ((mn p).map .str) H:=rfl
@[local simp] theorem Xj {p}:wI .fO Q (.ref p) H=DQ Q H (H p):=rfl
@[local simp] theorem UP {l}:DQ Q H (some (.list l))=wG Q H (gI l):=rfl
@[local simp] theorem QO {is}:wG Q H (some is)=(is.length<64/\∀r,H r=none->Q (.ref r) (H.set r (.list ((du is).map .int)))):=rfl
@[local simp] theorem Dc_ {p}:wI .kQ Q (.ref p) H=OH Q H (H p):=rfl
@[local simp] theorem Xl {m}:OH Q H (some (.ax m))=(m.length<=lim/\∀r,H r=none->Q (.ref r) (H.set r (.ax m))):=rfl
@[local simp] theorem Xm {l}:wI .fP Q (.tup l) H=Q (.bool true) H:=rfl
@[local simp] theorem Xn {p}:wI .all Q (.ref p) H=DR Q H (H p):=rfl
@[local simp] theorem UQ {l}:DR Q H (some (.list l))=wH Q H (dt l):=rfl
@[local simp] theorem QP {bs}:wH Q H (some bs)=Q (.bool (bs.all id)) H:=rfl
@[local simp] theorem QR:FW c n b ρ Q x H=bA c n b ρ H (wJ Q x):=rfl
@[local simp] theorem QT:FY c n b ρ Q x H=bA c n b ρ H (wK Q x):=rfl
@[local simp] theorem QU {p q:Int}:wJ Q (.int p) (.int q) H=Q (.int (if q<p then q else p)) H:=rfl
@[local simp] theorem QV {p q:Int}:wK Q (.int p) (.int q) H=Q (.int (if p<q then q else p)) H:=rfl
@[local simp] theorem QW {p}:FZ c n e ρ Q (.ref p) H=uA (fun Q H=>bA c n e ρ H Q) (Ab Q p) H (H p):=rfl
@[local simp] theorem UR {E:EQ->Z->Prop} {F:EQ} {l}:uA E F H (some (.list l))=E F H:=rfl
@[local simp] theorem QX {E:EQ->Z->Prop} {F:EQ} {m}:uB E F H (some (.ax m))=E F H:=rfl
@[local simp] theorem QY {E:EQ->Z->Prop} {F:EQ} {m}:uB E F H (some (.aZ m))=E F H:=rfl
@[local simp] theorem QZ {E:EQ->Z->Prop} {F:EQ} {m}:uB E F H (some (.bU m))=E F H:=rfl
@[local simp] theorem Q0 {p}:Ab Q p y H=z9 Q p y H (H p):=rfl
@[local simp] theorem US {p l}:z9 Q p y H (some (.list l))=(l.length<lim/\Q .none (H.set p (.list (l++[y])))):=rfl
@[local simp] theorem UT {p}:DT Q (.ref p) H=DS Q p H (H p):=rfl
@[local simp] theorem UU {p l}:DS Q p H (some (.list l))=wM Q p l H l.getLast?:=rfl
@[local simp] theorem Q2 {p l}:wM Q p l H (some v)=(l.length<=lim/\Q v (H.set p (.list l.dropLast))):=rfl
@[local simp] theorem Q3 {p}:F0 c n e ρ Q (.ref p) H=uA (fun Q H=>bA c n e ρ H Q) (r9 Q p) H (H p):=rfl
@[local simp] theorem Q4 {p q}:r9 Q p (.ref q) H=Ad Q p q H (H p) (H q):=rfl
@[local simp] theorem UW {p q l l'}:Ad Q p q H (some (.list l)) (some (.list l'))=(p≠q/\(l++l').length<=lim/\Q .none (H.set p (.list (l++l')))):=rfl
@[local simp] theorem Q5 {p}:F3 c n e ρ Q (.ref p) H=uA (fun Q H=>bA c n e ρ H Q) (wN Q p) H (H p):=rfl
@[local simp] theorem Q6 {p l}:wN Q p (.tup l) H=DU Q p l H (H p):=rfl
@[local simp] theorem UX {p l l'}:DU Q p l' H (some (.list l))=((l++l').length<=lim/\Q .none (H.set p (.list (l++l'.reverse)))):=rfl
@[local simp] theorem UY {p}:Ly c n k d ρ Q (.ref p) H=uB (fun Q H=>bA c n k ρ H Q) (HQ c n d ρ Q p) H (H p):=rfl
@[local simp] theorem UZ {p}:HQ c n d ρ Q p y H=bA c n d ρ H (xU Q p y):=rfl
@[local simp] theorem Q7 {p} {q:Int}:xU Q p (.int q) x H=OI Q q x H (H p):=rfl
@[local simp] theorem Q8 {p q}:xU Q p (.str q) x H=OL Q q x H (H p):=rfl
@[local simp] theorem Q9 {p l}:xU Q p (.tup l) x H=OM Q x H ((H p).bind r6) (ek (.tup l)):=rfl
@[local simp] theorem Xo {m} {q:Int}:OI Q q x H (some (.ax m))=Q ((aj q m).getD x) H:=rfl
@[local simp] theorem Xp {m q}:OL Q q x H (some (.aZ m))=Q ((aj q m).getD x) H:=rfl
@[local simp] theorem Xq {m q}:OM Q x H (some m) (some q)=Q (((aj q m).map V.int).getD x) H:=rfl
@[local simp] theorem U0 {r}:HO QB r H=QB (!r) H:=rfl
@[local simp] theorem Rb:qq c n b ρ QB true H=eV c n b ρ H QB:=rfl
@[local simp] theorem Rf:qq c n b ρ QB false H=QB false H:=rfl
@[local simp] theorem U1:HR c n b ρ QB true H=QB true H:=rfl
@[local simp] theorem U2:HR c n b ρ QB false H=eV c n b ρ H QB:=rfl
@[local simp] theorem LY {H:Z} {a b:Int}:dR H .eq (.int a) (.int b)=some (a==b):=rfl
@[local simp] theorem LZ {H:Z} {a b:Nat}:dR H .eq (.str a) (.str b)=some (a==b):=rfl
@[local simp] theorem L0 {H:Z} {a b:Bool}:dR H .eq (.bool a) (.bool b)=some (a==b):=rfl
@[local simp] theorem L4 {H:Z} {a b:Nat}:dR H .eq (.ref a) (.ref b)=mq .eq (H a) (H b):=rfl
@[local simp] theorem L5 {H:Z} {a b:Int}:dR H .ne (.int a) (.int b)=some (a !=b):=rfl
@[local simp] theorem L6 {H:Z} {a b:Nat}:dR H .ne (.str a) (.str b)=some (a !=b):=rfl
@[local simp] theorem L7 {H:Z} {a b:Bool}:dR H .ne (.bool a) (.bool b)=some (a !=b):=rfl
@[local simp] theorem L8 {H:Z} {a b:Nat}:dR H .ne (.ref a) (.ref b)=mq .ne (H a) (H b):=rfl
@[local simp] theorem L9 {H:Z} {b:Nat}:dR H .eq .none (.ref b)=wA .eq (H b):=rfl
@[local simp] theorem Ma {H:Z} {a b:Int}:dR H .lt (.int a) (.int b)=some (decide (a<b)):=rfl
@[local simp] theorem Mb {H:Z} {a b:Int}:dR H .le (.int a) (.int b)=some (decide (a<=b)):=rfl
@[local simp] theorem Mc {H:Z} {a b:Int}:dR H .gt (.int a) (.int b)=some (decide (b<a)):=rfl
@[local simp] theorem Md {H:Z} {a b:Int}:dR H (.ge ()) (.int a) (.int b)=some (decide (b<=a)):=rfl
@[local simp] theorem Kd {H:Z} {i:Int} {a:Nat}:dR H .qe (.int i) (.ref a)=oV .qe i (H a):=rfl
@[local simp] theorem Ke {H:Z} {k:Nat} {l:List V}:dR H .qe (.str k) (.tup l)=(strs? l).map (·.contains k):=rfl
@[local simp] theorem Kf {H:Z} {k:Bool} {a:Nat}:dR H .qe (.bool k) (.ref a)=oW .qe k (H a):=rfl
@[local simp] theorem Kg {i:Int} {m:List (Int×V)}:oV .qe i (some (.ax m))=some (m.any fun p=>p.1==i):=rfl
@[local simp] theorem Kh {b:Bool} {l:List V}:oW .qe b (some (.list l))=(dt l).map (·.contains b):=rfl
@[local simp] theorem F7 {H:Z} {i:Int} {a:Nat}:dR H .dr (.int i) (.ref a)=oV .dr i (H a):=rfl
@[local simp] theorem F8 {H:Z} {k:Nat} {l:List V}:dR H .dr (.str k) (.tup l)=(strs? l).map (!·.contains k):=rfl
@[local simp] theorem F9 {H:Z} {k:Bool} {a:Nat}:dR H .dr (.bool k) (.ref a)=oW .dr k (H a):=rfl
@[local simp] theorem Ga {i:Int} {m:List (Int×V)}:oV .dr i (some (.ax m))=some (!m.any fun p=>p.1==i):=rfl
@[local simp] theorem Gb {b:Bool} {l:List V}:oW .dr b (some (.list l))=(dt l).map (!·.contains b):=rfl
@[local simp] theorem Me {l l':List V}:mq .eq (some (.list l)) (some (.list l'))=xQ l l':=rfl
@[local simp] theorem Mf {l l':List V}:mq .ne (some (.list l)) (some (.list l'))=(xQ l l').map (!·):=rfl
@[local simp] theorem Mg {l:List V}:wA .eq (some (.list l))=some false:=rfl
variable {p q:PS}
@[local simp] theorem cJ {K k}:wpS c n (.un k e K) ρ H QS R=bA c n e ρ H (K c n ρ QS R):=rfl
@[local simp] theorem uG:wpS c n .skip ρ H QS R=QS ρ H:=rfl
@[local simp] theorem cb:wpS c n (.seq p q) ρ H QS R=wpS c n p ρ H (D1 c n q QS R) R:=rfl
@[local simp] theorem Gc:wpS c n (.ifs e p q) ρ H QS R=eV c n e ρ H (ON c n p q ρ QS R):=rfl
@[local simp] theorem U3:wpS c n (.Dh e p) ρ H QS R=HU c n e p QS R ρ H:=rfl
@[local simp] theorem HW:wpS c n .An ρ H QS R=R .none H:=rfl
@[local simp] theorem cn:D1 c n q QS R ρ H=wpS c n q ρ H QS R:=rfl
@[local simp] theorem U4:Lz i ρ QS v H=QS (b9 ρ i v) H:=rfl
@[local simp] theorem HX:Ak i j ρ QS (.tup [x,y]) H=QS (b9 (b9 ρ i x) j y) H:=rfl
@[local simp] theorem Rg:sf c n o i ρ QS v H=bA c n o ρ H (wQ i ρ QS v):=rfl
@[local simp] theorem Rh {p}:wQ i ρ QS v (.ref p) H=DX QS ρ p i v H (H p):=rfl
@[local simp] theorem U5 {p C fs}:DX QS ρ p i v H (some (.inst C fs))=(bif short 899 fs then QS ρ (H.set p (.inst C (putD i v fs))) else False):=rfl
@[local simp] theorem Ri:F5 c n o k ρ QS v H=bA c n o ρ H (Am c n k ρ QS v):=rfl
@[local simp] theorem Rj:Am c n k ρ QS v x H=bA c n k ρ H (mz ρ QS v x):=rfl
@[local simp] theorem O7 {p} {q:Int}:mz ρ QS v (.ref p) (.int q) H=DY QS ρ p q v H (H p):=rfl
@[local simp] theorem O8 {p q}:mz ρ QS v (.ref p) (.str q) H=DZ QS ρ p q v H (H p):=rfl
@[local simp] theorem O9 {p l} {z:Int}:mz ρ QS (.int z) (.ref p) (.tup l) H=D0 QS ρ p H z ((H p).bind r6) (ek (.tup l)):=rfl
@[local simp] theorem U6 {p m} {q:Int}:DY QS ρ p q v H (some (.ax m))=(m.length<lim/\QS ρ (H.set p (.ax (putD q v m)))):=rfl
@[local simp] theorem U7 {p m q}:DZ QS ρ p q v H (some (.aZ m))=(m.length<lim/\QS ρ (H.set p (.aZ (putD q v m)))):=rfl
@[local simp] theorem U8 {p m q} {z:Int}:D0 QS ρ p H z (some m) (some q)=(m.length<lim/\QS ρ (H.set p (.bU (putD q z m)))):=rfl
@[local simp] theorem Rk:HS ρ QS .none H=QS ρ H:=rfl
@[local simp] theorem Rm {r}:HS ρ QS (.bool r) H=QS ρ H:=rfl
@[local simp] theorem U9:ON c n p q ρ QS R true H=wpS c n p ρ H QS R:=rfl
@[local simp] theorem Mh:ON c n p q ρ QS R false H=wpS c n q ρ H QS R:=rfl
theorem D3{p:Prop}[Decidable p]{x:Option Bool}{v:Bool}(h:(if p then x else none)=some v):p/\x=some v:=by
 by_cases q:p
 .rw[zBq q]at h;exact⟨q,h⟩
 .rw[zAi q]at h;exact sn h rfl
theorem mA{α:Type}{p:Prop}[Decidable p]{x:α}{v:α}(h:(if p then some x else none)=some v):p/\x=v:=by
 by_cases q:p
 .rw[zBq q]at h;exact⟨q,zBp h⟩
 .exact sn h (zAi q)
section
variable {c:Cy} {n:Nat} {H:Z} {Q:EQ} {QL:List V->Z->Prop} {k:Nat} {x y v:V}
theorem dx{o:Option V}(h:eP Q o H):∃v,o=some v/\Q v H:=by
 cases o with
 |none=>exact h.elim
 |some v=>exact⟨v,rfl,h⟩
theorem il{o:Option Bool}(h:wD Q o H):∃r,o=some r/\Q (.bool r) H:=by
 cases o with
 |none=>exact h.elim
 |some v=>exact⟨v,rfl,h⟩
inductive Rn(P:Option aN->Prop)(o:Option aN):Prop
 |mk (l:List V) (e:o=some (.list l)) (h:P (some (.list l)))
theorem lst_inv{P:Option aN->Prop}(h0:¬P none)(h1:∀m,¬P (some (.ax m)))(h2:∀m,¬P (some (.aZ m)))(h3:∀m,¬P (some (.bU m)))(h4:∀C fs,¬P (some (.inst C fs))):∀{o:Option aN},P o->Rn P o
 |none,h=>(h0 h).elim
 |some (.list l),h=>⟨l,rfl,h⟩
 |some (.ax _),h=>(h1 _ h).elim
 |some (.aZ _),h=>(h2 _ h).elim
 |some (.bU _),h=>(h3 _ h).elim
 |some (.inst _ _),h=>(h4 _ _ h).elim
inductive Mi(P:Option aN->Prop)(o:Option aN):Prop
 |mk (C:lE) (fs:List (Nat×V)) (e:o=some (.inst C fs)) (h:P (some (.inst C fs)))
theorem mB{P:Option aN->Prop}(h0:¬P none)(h1:∀m,¬P (some (.ax m)))(h2:∀m,¬P (some (.aZ m)))(h3:∀m,¬P (some (.bU m)))(h4:∀l,¬P (some (.list l))):∀{o:Option aN},P o->Mi P o
 |none,h=>(h0 h).elim
 |some (.list _),h=>(h4 _ h).elim
 |some (.ax _),h=>(h1 _ h).elim
 |some (.aZ _),h=>(h2 _ h).elim
 |some (.bU _),h=>(h3 _ h).elim
 |some (.inst C fs),h=>⟨C,fs,rfl,h⟩
inductive Ro(P:V->Prop)(x:V):Prop
 |mk (a:Nat) (e:x= .ref a) (h:P (.ref a))
theorem dy{P:V->Prop}(h0:¬P .none)(h1:∀b,¬P (.bool b))(h2:∀b,¬P (.int b))(h3:∀b,¬P (.str b))(h4:¬P .arg)(h5:∀l,¬P (.tup l)):∀{x:V},P x->Ro P x
 | .none,h=>(h0 h).elim
 | .bool _,h=>(h1 _ h).elim
 | .int _,h=>(h2 _ h).elim
 | .str _,h=>(h3 _ h).elim
 | .arg,h=>(h4 h).elim
 | .tup _,h=>(h5 _ h).elim
 | .ref a,h=>⟨a,rfl,h⟩
theorem xW(h:wC k Q v H):∃a C fs x,v= .ref a/\H a=some (.inst C fs)/\aj k fs=some x/\Q x H:=by obtain⟨a,rfl,h⟩:=dy (P:=fun v=>wC k Q v H) id (fun _=>id) (fun _=>id) (fun _=>id) id (fun _=>id) h;obtain⟨C,fs,e,h⟩:=mB (P:=qj k Q H) id (fun _=>id) (fun _=>id) (fun _=>id) (fun _=>id) h;obtain⟨x,e2,h⟩:=dx h;exact⟨a,C,fs,x,rfl,e,e2,h⟩
theorem Aq{E:EQ->Z->Prop}{F:EQ}{o:Option aN}(h:uA E F H o):∃l,o=some (.list l)/\E F H:=
 let ⟨l,e,h⟩:=lst_inv (P:=uA E F H) id (fun _=>id) (fun _=>id) (fun _=>id) (fun _ _=>id) h;⟨l,e,h⟩
theorem Ar{a b:Option aN}(h:xT Q H a b):∃l l',a=some (.list l)/\b=some (.list l')/\(l++l').length<=lim/\∀r,H r=none->Q (.ref r) (H.set r (.list (l++l'))):=by obtain⟨l,rfl,h⟩:=lst_inv (P:=fun a=>xT Q H a b) id (fun _=>id) (fun _=>id) (fun _=>id) (fun _ _=>id) h;obtain⟨l',rfl,h⟩:=lst_inv (P:=xT Q H (some (.list l))) id (fun _=>id) (fun _=>id) (fun _=>id) (fun _ _=>id) h;exact⟨l,l',rfl,rfl,h⟩
theorem As{a:Option aN}{k:Int}(h:zY Q k H a):∃v,a=some (.list [v])/\0<=k/\k<=lim/\∀r,H r=none->Q (.ref r) (H.set r (.list (replicate k.toNat v))):=by
 obtain⟨l,rfl,h⟩:=lst_inv (P:=zY Q k H) id (fun _=>id) (fun _=>id) (fun _=>id) (fun _ _=>id) h
 match l,h with
 |[v],h=>exact⟨v,rfl,h⟩
theorem xX{m:Nat}{es:PE}{ρ:aH}(h:lH c n m es ρ Q x H):∃a C fs f,x= .ref a/\H a=some (.inst C fs)/\resolve C m=some f/\bA c n es ρ H (iG (lG c f n a Q)):=by
 obtain⟨a,rfl,h⟩:=dy (P:=fun x=>lH c n m es ρ Q x H) id (fun _=>id) (fun _=>id) (fun _=>id) id (fun _=>id) h;obtain⟨C,fs,e,h⟩:=mB (P:=qp c n m a es ρ Q H) id (fun _=>id) (fun _=>id) (fun _=>id) (fun _=>id) h;have h:qo c n a es ρ Q H (resolve C m):=h;cases e2:resolve C m with
 |none=>rw[e2]at h;exact h.elim
 |some f=>rw[e2]at h;exact⟨a,C,fs,f,rfl,e,e2,h⟩
theorem mC{E:EQ->Z->Prop}{F:Nat->EQ}(h:Ah E F x H):∃p l,x= .ref p/\H p=some (.list l)/\E (F p) H:=by obtain⟨p,rfl,h⟩:=dy (P:=fun x=>Ah E F x H) id (fun _=>id) (fun _=>id) (fun _=>id) id (fun _=>id) h;obtain⟨l,e,h⟩:=Aq h;exact⟨p,l,rfl,e,h⟩
theorem Au{E:EQ->Z->Prop}{F:Nat->EQ}(h:HP E F x H):∃p,x= .ref p/\OF (H p)/\E (F p) H:=by
 obtain⟨p,rfl,h⟩:=dy (P:=fun x=>HP E F x H) id (fun _=>id) (fun _=>id) (fun _=>id) id (fun _=>id) h;have h:uB E (F p) H (H p):=h;cases e:H p with
 |none=>rw[e]at h;exact h.elim
 |some o=>cases o with
  |list _=>rw[e]at h;exact h.elim
  |inst _ _=>rw[e]at h;exact h.elim
  |_=>rw[e]at h;exact⟨p,rfl,by rw[e];trivial,h⟩
theorem Av{p:Nat}{o:Option aN}(h:z9 Q p y H o):∃l,o=some (.list l)/\l.length<lim/\Q .none (H.set p (.list (l++[y]))):=
 let ⟨l,e,h⟩:=lst_inv (P:=z9 Q p y H) id (fun _=>id) (fun _=>id) (fun _=>id) (fun _ _=>id) h;⟨l,e,h⟩
theorem Aw(h:DT Q x H):∃p l v,x= .ref p/\H p=some (.list l)/\l.getLast?=some v/\l.length<=lim/\Q v (H.set p (.list l.dropLast)):=by
 obtain⟨p,rfl,h⟩:=dy (P:=fun x=>DT Q x H) id (fun _=>id) (fun _=>id) (fun _=>id) id (fun _=>id) h;obtain⟨l,e,h⟩:=lst_inv (P:=DS Q p H) id (fun _=>id) (fun _=>id) (fun _=>id) (fun _ _=>id) h;have h:wM Q p l H l.getLast?:=h;cases e2:l.getLast? with
 |none=>rw[e2]at h;exact h.elim
 |some v=>rw[e2]at h;exact⟨p,l,v,rfl,e,e2,h⟩
theorem xY{p:Nat}(h:r9 Q p y H):∃q l l',y= .ref q/\H p=some (.list l)/\H q=some (.list l')/\p≠q/\(l++l').length<=lim/\Q .none (H.set p (.list (l++l'))):=by obtain⟨q,rfl,h⟩:=dy (P:=fun x=>r9 Q p x H) id (fun _=>id) (fun _=>id) (fun _=>id) id (fun _=>id) h;obtain⟨l,e,h⟩:=lst_inv (P:=fun o=>Ad Q p q H o (H q)) id (fun _=>id) (fun _=>id) (fun _=>id) (fun _ _=>id) h;obtain⟨l',e2,h⟩:=lst_inv (P:=Ad Q p q H (some (.list l))) id (fun _=>id) (fun _=>id) (fun _=>id) (fun _ _=>id) h;exact⟨q,l,l',rfl,e,e2,h⟩
theorem xZ{p:Nat}(h:wN Q p y H):∃l l',y= .tup l'/\H p=some (.list l)/\(l++l').length<=lim/\Q .none (H.set p (.list (l++l'.reverse))):=by
 cases y with
 |tup l'=>
  obtain⟨l,e,h⟩:=lst_inv (P:=DU Q p l' H) id (fun _=>id) (fun _=>id) (fun _=>id) (fun _ _=>id) h;exact⟨l,l',rfl,e,h⟩
 |_=>exact h.elim
theorem si{P:V->V->Prop}(h0:∀y,¬P .none y)(h1:∀b y,¬P (.bool b) y)(h3:∀b y,¬P (.str b) y)(h4:∀y,¬P .arg y)(h5:∀l y,¬P (.tup l) y)(h6:∀l y,¬P (.ref l) y)
  (g0:∀i,¬P (.int i) .none) (g1:∀i b,¬P (.int i) (.bool b)) (g3:∀i b,¬P (.int i) (.str b)) (g4:∀i,¬P (.int i) .arg) (g5:∀i l,¬P (.int i) (.tup l)) (g6:∀i l,¬P (.int i) (.ref l)):∀{x y:V},P x y->∃i j,x= .int i/\y= .int j/\P (.int i) (.int j):=by
 intro x y h;cases x with
 |int i=>cases y with
  |int j=>exact⟨i,j,rfl,rfl,h⟩
  |none=>exact(g0 _ h).elim
  |bool b=>exact(g1 _ _ h).elim
  |str b=>exact(g3 _ _ h).elim
  |arg=>exact(g4 _ h).elim
  |tup l=>exact(g5 _ _ h).elim
  |ref l=>exact(g6 _ _ h).elim
 |none=>exact(h0 _ h).elim
 |bool b=>exact(h1 _ _ h).elim
 |str b=>exact(h3 _ _ h).elim
 |arg=>exact(h4 _ h).elim
 |tup l=>exact(h5 _ _ h).elim
 |ref l=>exact(h6 _ _ h).elim
theorem x5{F:List V->(Z->Prop)->Prop}(h:fq F (iter H .seq x)):(∃a l,x= .ref a/\H a=some (.list l)/\F l fun H'=>H' a=some (.list l))\/∃l,x= .tup l/\F l fun _=>True:=by
 cases x with
 |tup l=>exact .inr ⟨l,rfl,h⟩
 |ref a=>
  obtain⟨l,e,h⟩:=lst_inv (P:=fun o=>fq F (zW a o)) id (fun _=>id) (fun _=>id) (fun _=>id) (fun _ _=>id) h;exact .inl ⟨a,l,rfl,e,h⟩
 |_=>exact h.elim
theorem oZ{F:List V->(Z->Prop)->Prop}{p:Prop}[Decidable p]{r:List V×(Z->Prop)}(h:fq F (if p then some r else none)):p/\F r.1 r.2:=by
 by_cases q:p
 .rw[zBq q]at h;exact⟨q,h⟩
 .rw[zAi q]at h;exact h.elim
theorem sk{F:List V->(Z->Prop)->Prop}(h:fq F (iter H .range x)):∃N:Int,x= .int N/\(0<=N/\N<=lim)/\F ((List.range N.toNat).map fun i=>.int (i:Nat)) fun _=>True:=by
 cases x with
 |int N=>obtain⟨h1,h2⟩:=oZ h;exact⟨N,rfl,h1,h2⟩
 |_=>exact h.elim
theorem uH{F:List V->(Z->Prop)->Prop}(h:fq F (iter H (.ll ()) x)):∃l,x= .tup l/\l.length<=lim/\F l.reverse fun _=>True:=by
 cases x with
 |tup l=>obtain⟨h1,h2⟩:=oZ h;exact⟨l,rfl,h1,h2⟩
 |_=>exact h.elim
theorem x6{F:List V->(Z->Prop)->Prop}(h:fq F (iter H .zip x)):∃a b la lb,x= .tup [.ref a,.ref b]/\H a=some (.list la)/\H b=some (.list lb)/\F ((la.zip lb).map fun p=>.tup [p.1,p.2]) fun H'=>H' a=some (.list la)/\H' b=some (.list lb):=by
 cases x with
 |tup l=>cases l with
  |nil=>exact h.elim
  |cons x l=>cases l with
   |nil=>exact h.elim
   |cons y l=>cases l with
    |cons _ _=>exact h.elim
    |nil=>cases x with
     |ref a=>cases y with
      |ref b=>
       obtain⟨l,e,h⟩:=lst_inv (P:=fun o=>fq F (qh a b o (H b))) id (fun _=>id) (fun _=>id) (fun _=>id) (fun _ _=>id) h;obtain⟨l',e',h⟩:=lst_inv (P:=fun o=>fq F (qh a b (some (.list l)) o)) id (fun _=>id) (fun _=>id) (fun _=>id) (fun _ _=>id) h;exact⟨a,b,l,l',rfl,e,e',h⟩
      |_=>exact h.elim
     |_=>exact h.elim
 |_=>exact h.elim
end
structure Sc where
 names:List (Str×NameKind)
 eE:List (Str×Nat)
 tv:Nat
 nest:Bool:=false
noncomputable def Sc.eW(sc:Sc)(f:Str):Bool:=sc.names.lookup f==some .globalImplicit
noncomputable def Ax:List (Str×V):=[(Str.ofString "HOLDS",.int 1),(Str.ofString "FAILS",.int 2),(Str.ofString "BOTH",.int 3),(Str.ofString "BOOL",.int 0),
 (Str.ofString "RULES",.tup [.str 17,.str 16,.str 29,.str 30,.str 31,.str 32,.str 33,.str 34,.str 35,.str 36,.str 37]),
 (Str.ofString "OPENED",.tup [.str 0,.str 1,.str 3,.str 4,.str 5,.str 6,.str 9])]
noncomputable def o6:List (Str×Nat):=[(Str.ofString "order_of",0),(Str.ofString "tidy",1),(Str.ofString "is_tidy",2),(Str.ofString "is_opened",8),
 (Str.ofString "and_schemas",9),(Str.ofString "or_schemas",10),(Str.ofString "xor_schemas",11),(Str.ofString "ite_schemas",12),
 (Str.ofString "distinct_schemas",13),(Str.ofString "schemas",14),
 (Str.ofString "_law_draw",54),(Str.ofString "_law_tree",55),(Str.ofString "_law_made",56),(Str.ofString "_law_is_true",57),(Str.ofString "_law_open",58),
 (Str.ofString "_law_forced",59),(Str.ofString "_law_can_hold",60),(Str.ofString "_law_are_plain",61),(Str.ofString "_law_values",62)]
noncomputable def kh:List (Str×lE):=[(Str.ofString "BoolBank",.aM),(Str.ofString "ClauseStore",.store),(Str.ofString "BoolClauses",.maker),(Str.ofString "Proof",(.proof ()))]
noncomputable def f9:List (Str×Nat):=[(Str.ofString "name",4),(Str.ofString "clause",5),(Str.ofString "rule",6),(Str.ofString "add",7),(Str.ofString "new_var",16),(Str.ofString "add_clause",17),
 (Str.ofString "stripped",19),(Str.ofString "var_of",20),(Str.ofString "known_literal",21),(Str.ofString "enter",22),(Str.ofString "want",23),(Str.ofString "literal_of",24),
 (Str.ofString "emit",25),(Str.ofString "literals_of",26),(Str.ofString "flush",27),(Str.ofString "open_term",28),(Str.ofString "open_atom",29),
 (Str.ofString "assert_formula",30),(Str.ofString "assert_parts",31),(Str.ofString "top_clause",32),(Str.ofString "alternatives",33),
 (Str.ofString "declare_fun",35),(Str.ofString "fresh_const",36),(Str.ofString "op",37),(Str.ofString "args",38),(Str.ofString "sort",39),(Str.ofString "make",40),
 (Str.ofString "want_all",41),(Str.ofString "true_term",42),(Str.ofString "false_term",43),(Str.ofString "not_of",44),(Str.ofString "and_of",45),(Str.ofString "or_of",46),
 (Str.ofString "xor_of",47),(Str.ofString "implies_of",48),(Str.ofString "iff",49),(Str.ofString "eq",50),(Str.ofString "distinct",51),(Str.ofString "ite",52)]
noncomputable def kR:CmpOp->Option kP
 | .Eq=>some .eq
 | .NotEq=>some .ne
 | .Lt=>some .lt
 | .LtE=>some .le
 | .Gt=>some .gt
 | .GtE=>some (.ge ())
 | .In=>some .qe
 | .NotIn=>some .dr
 |_=>none
noncomputable def mD:Operator->Option qd
 | .Add=>some .add
 | .Sub=>some .sub
 | .Mult=>some .mul
 | .FloorDiv=>some .fdiv
 | .Mod=>some .mod
 | .BitAnd=>some .band
 | .BitOr=>some (.bor ())
 |_=>none
noncomputable def aC:Expr->Bool
 | .Starred .. =>true
 |_=>false
noncomputable def eh:Expr->Bool
 | .Set .. =>true
 |_=>false
noncomputable def nameOf?(e:Expr):Option Str:=match e with
 | .Name x _=>some x
 |_=>none
noncomputable def bO(e:Expr):Bool:=match e with
 | .Call f args zg _=>!((nameOf? f).isSome&&args.isEmpty&&zg.isEmpty)
 |_=>true
noncomputable def cg(sc:Sc)(scope:Scope)(t:Str):Sc:=
 {names:=scope.names,eE:=(t,sc.tv)::sc.eE.filter fun p=>p.1 !=t&&scope.names.lookup p.1==some .free,tv:=sc.tv,nest:=true}
noncomputable def fQ(sc:Sc)(scope:Scope)(t:Str):Bool:=!sc.nest&&
 (match scope.kind with | .function=>true |_=>false)&&scope.names.lookup t==some .local&&
 scope.names.all (fun p=>p.2 != .cell)&&scope.names.all (fun p=>p.2 != .local||scope.names.lookup p.1==some .local)&&
 scope.names.all (fun p=>p.2 != .free||(p.1 !=t&&(sc.eE.lookup p.1).isSome&&(sc.names.lookup p.1==some .cell||sc.names.lookup p.1==some .free)))&&
 t !=Str.ofString "__debug__"&&!((sc.eE.map (·.2)).contains sc.tv)
noncomputable def fv(sc:Sc)(x:Str):Bool:=!sc.nest&&(sc.names.lookup x==some .local||sc.names.lookup x==some .cell)
noncomputable def uI(sc:Sc)(v:Expr):Bool:=match v with
 | .Tuple vs _ _=>!vs.all (constantsAlone 8)
 |_=>true
inductive D4(c:Cx)(env:Env)(ρ:List (Option V))(h:Heap)(x:Str)(i:Nat):Prop
 |mk (ca:Addr) (vo:Option Value) (e1:env.cells.lookup x=some ca) (e2:c.base.get? ca=none) (e3:ca≠env.locals) (e4:h.IsCell ca vo) (e5:∀v,cO ρ i=some v->∃u,vo=some u/\VR c h v u)
inductive Rp(c:Cx)(env:Env)(sc:Sc)(ρ:List (Option V))(h:Heap):Prop
 |mk (m:Str->Option Value) (hm:h.Ns env.locals m) (hv:∀x i,sc.eE.lookup x=some i->env.kindOf x=some .local->∀v,cO ρ i=some v->∃u,m x=some u/\VR c h v u)
structure aW(c:Cx)(env:Env)(sc:Sc)(ρ:List (Option V))(H:Z)(h:Heap):Prop where
 kind:env.scope.kind= .function
 glob:env.globals=mainGlobals
 D5:env.builtins=builtinsNs
 gl:∀x,sc.eW x=true->env.kindOf x=some .globalImplicit
 nm:sc.nest=false->∀x,env.kindOf x=sc.names.lookup x
 off:c.base.get? env.locals=none
 no:¬aQ H env.locals
 ns:Rp c env sc ρ h
 var:∀x i,sc.eE.lookup x=some i->env.kindOf x=some .local\/
  ((env.kindOf x=some .cell\/(env.kindOf x=some .free/\(x==("__classdict__":Str))=false))/\
   D4 c env ρ h x i)
 D6:∀x i,sc.eE.lookup x=some i->(x==("__debug__":Str))=false
 mE:∀x y ca,env.cells.lookup x=some ca->env.cells.lookup y=some ca->x=y
 lr:∀x y i,sc.eE.lookup x=some i->sc.eE.lookup y=some i->x=y
theorem Inv.qs{c:Cx}{H:Z}{s:Shared}(I:Inv c H s){b:Addr}{vo:Option Value}(e:s.heap.IsCell b vo):¬aQ H b:=by
 obtain⟨o,e,hd⟩:=e;rintro(ho |⟨C,fs,ho⟩)
 .cases q:H b with
  |none=>exact ho q
  |some ao=>
   have:=I.obj b ao q;cases ao with
   |list l=>obtain⟨n,xs,q,_⟩:=this;rw[e]at q;obtain rfl:=so q;cases hd
   |ax m=>obtain⟨kvs,q,_⟩:=this;obtain⟨es,n,q⟩:=aR q;rw[e]at q;obtain rfl:=so q;cases hd
   |aZ m=>obtain⟨kvs,q,_⟩:=this;obtain⟨es,n,q⟩:=aR q;rw[e]at q;obtain rfl:=so q;cases hd
   |bU m=>obtain⟨xs,q,_⟩:=this;obtain⟨es,n,q⟩:=cH q;rw[e]at q;obtain rfl:=so q;cases hd
   |inst C fs=>obtain⟨_,q,_⟩:=this;rw[e]at q;obtain rfl:=so q;cases hd
 .obtain⟨_,_,kvs,q,_⟩:=I.obj (b+1) _ ho;obtain⟨es,n,q⟩:=aR q;rw[Nat.add_sub_cancel,e]at q;obtain rfl:=so q;cases hd
theorem aW.step{c:Cx}{env:Env}{sc:Sc}{ρ:List (Option V)}{H H':Z}{s s':Shared}(F:aW c env sc ρ H s.heap)(I:Inv c H s)(S:Step H H' s s'):aW c env sc ρ H' s'.heap:=by
 obtain⟨m,hm,hv⟩:=F.ns;obtain⟨oL,es,ep,hL,r⟩:=id hm;refine⟨F.kind,F.glob,F.D5,F.gl,F.nm,F.off,S.not hL F.no,⟨m,⟨oL,es,ep,S.gG hL F.no,r⟩,fun x i a b v d=>?_⟩,fun x i a=>?_,F.D6,F.mE,F.lr⟩
 .obtain⟨u,e1,e2⟩:=hv x i a b v d;exact⟨u,e1,I.vr S e2⟩
 .rcases F.var x i a with b |⟨b,ca,vo,e1,e2,e3,e4,e5⟩
  .exact .inl b
  .obtain⟨oc,ho,hd⟩:=id e4;exact .inr ⟨b,ca,vo,e1,e2,e3,⟨oc,S.gG ho (I.qs e4),hd⟩,fun v q=>let ⟨u,z1,z2⟩:=e5 v q;⟨u,z1,I.vr S z2⟩⟩
noncomputable def kj:List String:=["len","abs","tuple","list","reversed","range","min","max","sorted","set","str","dict","isinstance","zip","all"]
structure Ok(c:Cy)(K:Frag)(mg mb:Str->Option Value):Prop where
 KX:K.In c.base
 g:c.base.Ns mainGlobals mg
 b:c.base.Ns builtinsNs mb
 nolimit:c.base.NoLimit
 sm:c.base.get? sysModules≠none
 builtins:∀x:Str,x≠"__name__"->mb x=bootBuiltins x
 gt:∀p∈Ax,∃v,mg p.1=some v/\VR c.toCx c.base p.2 v
 ft:∀p∈o6,mg p.1=some (.ref (c.fa p.2))
 ct:∀p∈kh,mg p.1=some (.ref (c.ca p.2))
 nb:∀n∈kj,mg (Str.ofString n)=none
 fd:∀f,∃o fd,K.lookup (c.fa f)=some o/\o.data= .func fd
 makes:∀C,makesIn K (c.ca C)=true
 init:∀C,findIn K (.ref (c.ca C)) "__init__"=some (some (.ref (c.fa (qf C))))
 HY:∀f,typeIn K (.ref (c.fa f))=some (.type "function")
 HZ:∀C,∃cd,clsIn K (c.ca C)=some cd/\cd.hasDict=true/\onlyObject cd.mro=true
 ga:∀C,findIn K (.ref (c.ca C)) "__getattribute__"=some (some (.builtin "object.__getattribute__"))
 Va:∀C,findIn K (.ref (c.ca C)) "__getattr__"=some none
 sa:∀C,findIn K (.ref (c.ca C)) "__setattr__"=some (some (.builtin "object.__setattr__"))
 Ib:∀C,∀a∈d6,findIn K (.ref (c.ca C)) a=some none
 Mj:∀C m f,resolve C m=some f->∃nm,(nm,m)∈f9/\findIn K (.ref (c.ca C)) nm=some (some (.ref (c.fa f)))
 arg:∃is:List Int,∃xs,c.base.IsList c.script xs/\bj c.toCx c.base (is.map .int) xs.toList/\is.length<=63
 mE:∀C D,c.ca C=c.ca D->C=D
theorem Inv.kx{c:Cy}{K:Frag}{mg mb:Str->Option Value}(ok:Ok c K mg mb){H:Z}{s:Shared}(I:Inv c.toCx H s):K.In s.heap:=ok.KX.keeps I.base
inductive mF(c:Cx)(H:Z)(s:Shared)(Q:Bool->Z->Prop)(b:Bool)(s':Shared):Prop
 |mk (H':Z) (I:Inv c H' s') (S:Step H H' s s') (q:Q b H')
inductive Mk(c:Cx)(H:Z)(s:Shared)(Q:V->Z->Prop)(vs:List Value)(s':Shared):Prop
 |mk (l:List V) (H':Z) (I:Inv c H' s') (S:Step H H' s s') (r:bj c s'.heap l vs) (q:Q (.tup l) H')
def Di(c:Cy):Prop:=∃K mg mb,Ok c K mg mb
noncomputable def Di.K{c:Cy}(o:Di c):=o.choose
noncomputable def Di.mg{c:Cy}(o:Di c):=o.choose_spec.choose
noncomputable def Di.mb{c:Cy}(o:Di c):=o.choose_spec.choose_spec.choose
theorem Di.h{c:Cy}(o:Di c):Ok c o.K o.mg o.mb:=o.choose_spec.choose_spec.choose_spec
structure At(c:Cy)(sc:Sc)(A:Around)(env:Env)(n:Nat)(ρ:List (Option V))(H:Z)(s:Shared):Prop where
 ok:Di c
 R:jE A n
 I:Inv c.toCx H s
 F:aW c.toCx env sc ρ H s.heap
theorem At.step{c:Cy}{sc:Sc}{A:Around}{env:Env}{n:Nat}{ρ:List (Option V)}{H H':Z}{s s':Shared}(P:At c sc A env n ρ H s)(I:Inv c.toCx H' s')(S:Step H H' s s'):At c sc A env n ρ H' s':=
 ⟨P.ok,P.R,I,P.F.step P.I S⟩
structure SE(sc:Sc)(e:Expr)(p:PE):Prop where
 val:∀c A env n ρ H s Q,At c sc A env n ρ H s->bA c n p ρ H Q->wpAny c.M A (eval e env) (Back c.toCx H s Q) bZ s
 gu:∀c A env n ρ H s Q,At c sc A env n ρ H s->eV c n p ρ H Q->wpAny c.M A (isTrue e env (eval e env)) (mF c.toCx H s Q) bZ s
def SL(sc:Sc)(es:List Expr)(p:PE):Prop:=
 ∀c A env n ρ H s Q pos,At c sc A env n ρ H s->bA c n p ρ H Q->wpAny c.M A (spliced (backTo pos (starEach es env))) (Mk c.toCx H s Q) bZ s
section
variable {c:Cy} {H aa:Z} {s ah:Shared} {Q:V->Z->Prop}
theorem Back.mk{v:Value}{x:V}{H':Z}{s':Shared}(I:Inv c.toCx H' s')(S:Step H H' s s')(r:VR c.toCx s'.heap x v)(q:Q x H'):Back c.toCx H s Q v s':=⟨x,H',I,S,r,q⟩
theorem Back.after{v:Value}{s':Shared}(S:Step H aa s ah)(b:Back c.toCx aa ah Q v s'):Back c.toCx H s Q v s':=let ⟨x,H',I,S',r,q⟩:=b;⟨x,H',I,S.trans S',r,q⟩
theorem mF.after{Q:Bool->Z->Prop}{v:Bool}{s':Shared}(S:Step H aa s ah)(b:mF c.toCx aa ah Q v s'):mF c.toCx H s Q v s':=let ⟨H',I,S',q⟩:=b;⟨H',I,S.trans S',q⟩
theorem Inv.tok(I:Inv c.toCx H s)(t:Nat):Inv c.toCx H {s with toks:=t}:=⟨I.gens,I.drawn,I.os,I.base,I.obj,I.off,I.apart,I.bad⟩
theorem ay.tok{X:Addr->Prop}(H:Z)(s:Shared)(t:Nat):ay X H H s {s with toks:=t}:=⟨fun _ _ e _ _=>e,fun _ h=>.inl h,fun _ h=>h⟩
theorem Back.here{v:Value}{x:V}(I:Inv c.toCx H s)(r:VR c.toCx s.heap x v)(q:Q x H):Back c.toCx H s Q v s:=⟨x,H,I,ay.refl _ _ _,r,q⟩
theorem Back.bR{v:Value}{x:V}{t:Nat}(I:Inv c.toCx H s)(r:VR c.toCx s.heap x v)(q:Q x H):Back c.toCx H s Q v {s with toks:=t}:=⟨x,H,I.tok t,ay.tok _ _ _,r,q⟩
end
theorem SE.plain{sc:Sc}{e:Expr}{p:PE}
  (val:∀c A env n ρ H s Q,At c sc A env n ρ H s->bA c n p ρ H Q->wpAny c.M A (eval e env) (Back c.toCx H s Q) bZ s)
  (ht:∀env whole,isTrue e env whole=(do let v←whole;standAt e.pos;holding [v] (truthy v)))
  (hp:∀(c:Cy) n ρ H Q,eV c n p ρ H Q=bA c n p ρ H (FN Q)):SE sc e p:=by
 refine⟨val,fun c A env n ρ H s Q P h=>wpAny_isTrue_value (zAw (val _ _ _ _ _ _ _ _ P (hp _ _ _ _ _▸h)) (fun v s' b=>?_) fun _ _ e=>e) (ht env _)⟩;obtain⟨x,H',I',S',r,q⟩:=b;cases x with
 |bool b=>cases r;exact zDq ⟨H',I',S',q⟩
 |_=>exact q.elim
theorem SL.nil{sc:Sc}:SL sc [] .nil:=by intro c A env n ρ H s Q pos P h;dsimp only[iP]at h;exact wpAny_items_nil ⟨[],H,P.I,ay.refl _ _ _,rfl,h⟩
theorem jH{x:Expr}{rest:List Expr}{env:Env}(h:aC x=false):starEach (x::rest) env=(false,eval x env)::starEach rest env:=by cases x<;>first |rfl |cases h
theorem SL.cons{sc:Sc}{e:Expr}{es:List Expr}{p q:PE}(hs:aC e=false)(a:SE sc e p)(b:SL sc es q):SL sc (e::es) (.cons p q):=by intro c A env n ρ H s Q pos P h;dsimp only[bX]at h;refine wpAny_items_cons (zAw (a.val _ _ _ _ _ _ _ _ P h) (fun v ah Rq=>?_) fun _ _ e=>e) (jH hs);obtain⟨x,aa,bC,aq,eQ,aG⟩:=Rq;refine zAw (b _ _ _ _ _ _ _ _ pos (P.step bC aq) aG) (fun vs bb Rr=>?_) fun _ _ e=>e;obtain⟨l,ak,aY,aI,jB,aL⟩:=Rr;exact⟨x::l,ak,aY,aq.trans aI,⟨v,vs,rfl,bC.vr aI eQ,jB⟩,aL⟩
inductive AL(sc:Sc):List Expr->PE->Prop
 |nil:AL sc [] .nil
 |cons {e:Expr} {es:List Expr} {q r:PE} (hs:aC e=false) (h:SE sc e q) (t:AL sc es r):AL sc (e::es) (.cons q r)
theorem AL.sl{sc:Sc}{es:List Expr}{p:PE}(a:AL sc es p):SL sc es p:=by
 induction a with
 |nil=>exact SL.nil
 |cons hs h _ ih=>exact SL.cons hs h ih
section
variable {sc:Sc} {e:Expr} {p:PE} {c:Cy} {A:Around} {env:Env} {n:Nat} {ρ:List (Option V)} {H:Z} {s:Shared}
theorem SE.then(a:SE sc e p)(P:At c sc A env n ρ H s){Kk:V->Z->Prop}(h:bA c n p ρ H Kk){R:Value->Shared->Prop}
  (k:∀v ah x aa,At c sc A env n ρ aa ah->Step H aa s ah->VR c.toCx ah.heap x v->Kk x aa->R v ah):wpAny c.M A (eval e env) R bZ s:=
 zAw (a.val _ _ _ _ _ _ _ _ P h) (fun v ah ⟨x,aa,bC,aq,r,q⟩=>k v ah x aa (P.step bC aq) aq r q) fun _ _ e=>e
theorem SE.jI(a:SE sc e p)(P:At c sc A env n ρ H s){Kk:Bool->Z->Prop}(h:eV c n p ρ H Kk){R:Bool->Shared->Prop}
  (k:∀v ah aa,At c sc A env n ρ aa ah->Step H aa s ah->Kk v aa->R v ah):wpAny c.M A (isTrue e env (eval e env)) R bZ s:=
 zAw (a.gu _ _ _ _ _ _ _ _ P h) (fun v ah ⟨aa,bC,aq,q⟩=>k v ah aa (P.step bC aq) aq q) fun _ _ e=>e
end
section
variable {c:Cx} {h:Heap}
theorem iq:VR c h .none .none:=rfl
theorem dz{b:Bool}:VR c h (.bool b) (.bool b):=rfl
theorem cK{i:Int}{t:Tok}:VR c h (.int i) (.int i t):=⟨t,rfl⟩
theorem mG{j:Nat}{x:Str}{t:Tok}(h1:j<strN)(h2:strOf j=x):VR c h (.str j) (.str x t):=⟨h1,t,by rw[h2]⟩
theorem dA{a:Addr}:VR c h (.ref a) (.ref a):=rfl
end
theorem SE.none{sc:Sc}{k pos}:SE sc (.Constant .none k pos) (.cst .none):=
 .plain (fun c A env n ρ H s Q P h=>by dsimp only[iP]at h;exact wpAny_Constant_none (Back.here P.I iq h)) (fun _ _=>rfl) (fun _ _ _ _ _=>rfl)
theorem SE.bool{sc:Sc}{b k pos}:SE sc (.Constant (.bool b) k pos) (.cst (.bool b)):=
 .plain (fun c A env n ρ H s Q P h=>by dsimp only[iP]at h;exact wpAny_Constant_bool (Back.here P.I dz h)) (fun _ _=>rfl) (fun _ _ _ _ _=>rfl)
theorem SE.int{sc:Sc}{i k pos}:SE sc (.Constant (.int i) k pos) (.cst (.int i)):=
 .plain (fun c A env n ρ H s Q P h=>by dsimp only[iP]at h;exact wpAny_Constant_int (Back.bR P.I cK h)) (fun _ _=>rfl) (fun _ _ _ _ _=>rfl)
theorem SE.str{sc:Sc}{x k pos}{j:Nat}(hj:fN x=some j):SE sc (.Constant (.str x) k pos) (.cst (.str j)):=
 .plain (fun c A env n ρ H s Q P h=>by dsimp only[iP]at h;obtain⟨h1,h2⟩:=ez hj;exact wpAny_Constant_str (Back.bR P.I (mG h1 h2) h)) (fun _ _=>rfl) (fun _ _ _ _ _=>rfl)
theorem SE.var{sc:Sc}{x pos}{i:Nat}(hx:sc.eE.lookup x=some i):SE sc (.Name x pos) (.var i):=by
 refine .plain (fun c A env n ρ H s Q P h=>?_) (fun _ _=>rfl) (fun _ _ _ _ _=>rfl);dsimp only[wV]at h;refine wpAny_Name ?_ (P.F.D6 x i hx);cases hv:cO ρ i with
 |none=>rw[hv]at h;exact h.elim
 |some v=>
  rw[hv]at h;rcases P.F.var x i hx with hk |⟨hk,ca,vo,e1,e2,e3,e4,e5⟩
  .obtain⟨m,hm,hq⟩:=P.F.ns;obtain⟨u,h1,h2⟩:=hq x i hx hk v hv;exact wpAny_loadName_local P.F.kind hk hm h1 (Back.here P.I h2 h)
  .obtain⟨u,rfl,h2⟩:=e5 v hv;rcases hk with hk |⟨hk,hn⟩
   .exact wpAny_loadName_cell P.F.kind hk e1 e4 (Back.here P.I h2 h)
   .exact wpAny_loadName_free P.F.kind hk e1 e4 (Back.here P.I h2 h) hn
theorem fc{sc:Sc}{x:Str}{pos:Pos}{c:Cy}{A:Around}{env:Env}{n:Nat}{ρ:List (Option V)}{H:Z}{s:Shared}{K:Frag}{mg mb:Str->Option Value}(ok:Ok c K mg mb)(P:At c sc A env n ρ H s)
  (hg:sc.eW x=true) (hd:(x==("__debug__":Str))=false) {v:Value} (hv:mg x=some v) {Q:Value->Shared->Prop} (h:Q v s):wpAny c.M A (eval (.Name x pos) env) Q bZ s:=by
 refine Name_function_global P.F.kind (P.F.gl x hg) (loadGlobal_global (mg:=mg) ?_ hv h) hd;rw[P.F.glob];exact ok.g.keeps P.I.base
theorem aX{sc:Sc}{x:String}{pos:Pos}{c:Cy}{A:Around}{env:Env}{n:Nat}{ρ:List (Option V)}{H:Z}{s:Shared}{K:Frag}{mg mb:Str->Option Value}(ok:Ok c K mg mb)(P:At c sc A env n ρ H s)
  (hg:sc.eW (Str.ofString x)=true) (hx:x∈kj) {v:Value} (hv:bootBuiltins (Str.ofString x)=some v) {Q:Value->Shared->Prop} (h:Q v s)
  (hd:(Str.ofString x==("__debug__":Str))=false:=by decide+kernel) (hn:Str.ofString x≠"__name__":=by decide+kernel):wpAny c.M A (eval (.Name (Str.ofString x) pos) env) Q bZ s:=by
 refine Name_function_global P.F.kind (P.F.gl _ hg) (loadGlobal_builtin (mg:=mg) (mb:=mb) ?_ (ok.nb x hx) ?_ ((ok.builtins _ hn).trans hv) h) hd
 .rw[P.F.glob];exact ok.g.keeps P.I.base
 .rw[P.F.D5];exact ok.b.keeps P.I.base
theorem lookup_mem{α:Type}:∀{l:List (Str×α)} {x:Str} {v:α},l.lookup x=some v->(x,v)∈l:=fun h=>mem_of_lookup h
theorem SE.glob{sc:Sc}{x pos}{v:V}(hg:sc.eW x=true)(hd:(x !=Str.ofString "__debug__")=true)(hx:Ax.lookup x=some v):SE sc (.Name x pos) (.glob v):=by refine .plain (fun c A env n ρ H s Q P h=>?_) (fun _ _=>rfl) (fun _ _ _ _ _=>rfl);dsimp only[iP]at h;have ok:=P.ok.h;obtain⟨u,h1,h2⟩:=ok.gt _ (lookup_mem hx);exact fc ok P hg (by simpa using hd) h1 (Back.here P.I (VR.mono (fun b xs n _ e=>P.I.base _ _ e) _ h2) h)
theorem SE.neg{sc:Sc}{e p pos}(a:SE sc e p):SE sc (.UnaryOp .USub e pos) (.neg p):=by
 refine .plain (fun c A env n ρ H s Q P h=>?_) (fun _ _=>rfl) (fun _ _ _ _ _=>rfl);dsimp only[bX]at h;refine wpAny_UnaryOp (a.then P h fun v ah x aa ai aq r q=>?_);cases x with
 |int i=>obtain⟨t,rfl⟩:=r;exact PySem.P.neg_int (Back.after aq (Back.bR ai.I cK q))
 |_=>exact q.elim
theorem SE.inv{sc:Sc}{e p pos}(a:SE sc e p):SE sc (.UnaryOp .Invert e pos) (.inv p):=by
 refine .plain (fun c A env n ρ H s Q P h=>?_) (fun _ _=>rfl) (fun _ _ _ _ _=>rfl);dsimp only[bX]at h;refine wpAny_UnaryOp (a.then P h fun v ah x aa ai aq r q=>?_);cases x with
 |int i=>obtain⟨t,rfl⟩:=r;exact PyProof.Rows.invert_int (Back.after aq (Back.bR ai.I cK q))
 |_=>exact q.elim
noncomputable abbrev lJ(xs:List Value):Obj:={cls:=.type "list",data:=.seq xs.toArray}
noncomputable abbrev Ie(xs:List Value):Obj:={cls:=.type "tuple",data:=.seq xs.toArray}
noncomputable abbrev wX:Obj:={cls:=.type "dict",data:=.dict #[]}
section
variable {c:Cx} {H:Z} {s:Shared}
theorem Inv.lt(I:Inv c H s){a:Addr}(h:H a≠none):a<s.heap.objs.size:=by
 cases q:H a with
 |none=>exact absurd q h
 |some ao=>
  have:=I.obj a ao q;cases ao with
  |list l=>obtain⟨n,xs,q,_⟩:=this;exact zAo q
  |ax m=>obtain⟨kvs,q,_⟩:=this;obtain⟨es,n,q⟩:=aR q;exact zAo q
  |aZ m=>obtain⟨kvs,q,_⟩:=this;obtain⟨es,n,q⟩:=aR q;exact zAo q
  |bU m=>obtain⟨xs,q,_⟩:=this;obtain⟨es,n,q⟩:=cH q;exact zAo q
  |inst C fs=>obtain⟨_,q,_⟩:=this;exact zAo q
theorem Inv.fresh(I:Inv c H s){a:Addr}(h:s.heap.objs.size<=a):H a=none:=by
 cases q:H a with
 |none=>rfl
 |some ao=>exact absurd (I.lt (a:=a) (by rw[q];simp)) (zGq.mpr h)
theorem Inv.sq(I:Inv c H s){a:Addr}(h:aQ H a):a<s.heap.objs.size:=by
 rcases h with h |⟨C,fs,h⟩
 .exact I.lt h
 .exact zHq (I.lt (a:=a+1) (by rw[h];simp))
theorem Inv.gK(I:Inv c H s){a:Addr}(h:s.heap.objs.size<=a):¬aQ H a:=fun o=>absurd (I.sq o) (zGq.mpr h)
theorem Inv.cF(I:Inv c H s){a:Addr}(h:s.heap.objs.size<=a):c.base.get? a=none:=by
 cases q:c.base.get? a with
 |none=>rfl
 |some o=>exact absurd (zAo (I.base _ _ q)) (zGq.mpr h)
theorem bg{h:Heap}{a:Addr}(e:h.objs.size<=a):h.get? a=none:=by
 cases q:h.get? a with
 |none=>rfl
 |some o=>exact absurd (zAo q) (zGq.mpr e)
theorem Inv.grow(I:Inv c H s){h':Heap}{t:Nat}(k:∀b o,s.heap.get? b=some o->h'.get? b=some o):Inv c H {s with heap:=h',toks:=t}:=
 ⟨I.gens,I.drawn,I.os,fun b o e=>k _ _ (I.base _ _ e),fun a ao e=>dI.mono (fun b xs n _ q=>k _ _ q) (fun o q=>k _ _ q) (fun _ o q=>k _ _ q) (I.obj a ao e),I.off,I.apart,fun b h=>by obtain⟨o,e⟩:=zAp.mp (I.bad b h);refine(?_:(h'.get? b).isSome=true);rw[k _ _ e];rfl⟩
theorem ay.grow{X:Addr->Prop}(H:Z){s:Shared}{h':Heap}{t:Nat}(k:∀b o,s.heap.get? b=some o->h'.get? b=some o):ay X H H s {s with heap:=h',toks:=t}:=
 ⟨fun b o e _ _=>k _ _ e,fun _ h=>.inl h,fun b h=>by obtain⟨o,e⟩:=zAp.mp h;refine(?_:(h'.get? b).isSome=true);rw[k _ _ e];rfl⟩
theorem Inv.take(I:Inv c H s){h':Heap}{t:Nat}{a:Addr}{ao:aN}(k:∀b o,s.heap.get? b=some o->h'.get? b=some o)(ha:s.heap.objs.size<=a)(ob:dI c h' a ao)(hn:∀C fs,ao≠.inst C fs):
  Inv c (H.set a ao) {s with heap:=h',toks:=t}/\Step H (H.set a ao) s {s with heap:=h',toks:=t}:=by
 have J:=I.grow (t:=t) k
 have ow:∀b,aQ (H.set a ao) b->aQ H b\/b=a:=by
  rintro b (h |⟨C,fs,h⟩)
  .by_cases e:b=a
   .exact .inr e
   .rw[Z.af _ _ e]at h;exact .inl (.inl h)
  .by_cases e:b+1=a
   .rw[e,Z.ab]at h;exact absurd (zBp h) (hn C fs)
   .rw[Z.af _ _ e]at h;exact .inl (.inr ⟨C,fs,h⟩)
 refine⟨⟨J.gens,J.drawn,J.os,J.base,fun b bo e=>?_,fun b ho=>?_,fun b C fs e=>?_,J.bad⟩,⟨fun b o e _ _=>k _ _ e,fun b ho=>?_,(ay.grow (X:=fun _=>False) H (t:=t) k).live⟩⟩
 .by_cases q:b=a
  .clear ow ha;subst q;rw[Z.ab]at e;obtain rfl:=so e;exact ob
  .rw[Z.af _ _ q]at e;exact J.obj b bo e
 .rcases ow b ho with h |rfl
  .exact J.off b h
  .exact I.cF ha
 .by_cases q:b=a
  .clear ow ob ha;subst q;rw[Z.ab]at e;exact absurd (zBp e) (hn C fs)
  .rw[Z.af _ _ q]at e
   have:b-1≠a:=fun z=>by
    have h3:=lt_of_le_of_lt (Nat.sub_le b 1) (I.lt (a:=b) (by rw[e];simp))
    rw[z]at h3;exact absurd h3 (zGq.mpr ha)
   rw[Z.af _ _ this];exact J.apart b C fs e
 .rcases ow b ho with h |rfl
  .exact .inl h
  .exact .inr (bg ha)
theorem Inv.change(I:Inv c H s){h':Heap}{t:Nat}{a:Addr}{ao D7:aN}(hH:H a=some ao)(k:SameBut a s.heap h')(ob:dI c h' a D7)(hn:∀C fs,ao≠.inst C fs)(zh:∀C fs,D7≠.inst C fs):
  Inv c (H.set a D7) {s with heap:=h',toks:=t}/\Step H (H.set a D7) s {s with heap:=h',toks:=t}:=by
 have own:aQ H a:=.inl (by rw[hH];simp)
 have ow:∀b,aQ (H.set a D7) b->aQ H b:=by
  clear ob k hH;rintro b (h |⟨C,fs,h⟩)
  .by_cases e:b=a
   .subst e;exact own
   .rw[Z.af _ _ e]at h;exact .inl h
  .by_cases e:b+1=a
   .rw[e,Z.ab]at h;exact absurd (zBp h) (zh C fs)
   .rw[Z.af _ _ e]at h;exact .inr ⟨C,fs,h⟩
 have keep:∀b o,s.heap.get? b=some o->¬aQ H b->h'.get? b=some o:=fun b o e n=>(k.2 b fun q=>n (q▸own)).trans e
 have dQ:∀b xs n,¬c.bad b->s.heap.get? b=some ⟨.type "tuple",none,.seq xs n,#[]⟩->h'.get? b=some ⟨.type "tuple",none,.seq xs n,#[]⟩:=
  fun b _ _ _ e=>keep b _ e (I.mh e (by simp) (by simp) (by simp))
 have live:∀b,(s.heap.get? b).isSome=true->(h'.get? b).isSome=true:=fun b h=>by
  by_cases q:b=a
  .clear ow own k hH;subst q;refine(?_:(h'.get? b).isSome=true)
   have:∃o,h'.get? b=some o:=by
    cases D7 with
    |list l=>obtain⟨n,xs,q,_⟩:=ob;exact⟨_,q⟩
    |ax m=>obtain⟨kvs,q,_⟩:=ob;obtain⟨es,n,q⟩:=aR q;exact⟨_,q⟩
    |aZ m=>obtain⟨kvs,q,_⟩:=ob;obtain⟨es,n,q⟩:=aR q;exact⟨_,q⟩
    |bU m=>obtain⟨xs,q,_⟩:=ob;obtain⟨es,n,q⟩:=cH q;exact⟨_,q⟩
    |inst C fs=>exact absurd rfl (zh C fs)
   obtain⟨o,e⟩:=this;rw[e];rfl
  .refine(?_:(h'.get? b).isSome=true);rw[k.2 b q];exact h
 refine⟨⟨I.gens,I.drawn,I.os,fun b o e=>(k.2 b fun q=>?_).trans (I.base _ _ e),fun b bo e=>?_,fun b ho=>I.off b (ow b ho),fun b C fs e=>?_,fun b h=>live b (I.bad b h)⟩,⟨fun b o e n _=>keep b o e n,fun b h=>.inl (ow b h),live⟩⟩
 .clear ow ob k hH;subst q;exact sn e (I.off _ own)
 .by_cases q:b=a
  .clear ow own k hH;subst q;rw[Z.ab]at e;obtain rfl:=so e;exact ob
  .rw[Z.af _ _ q]at e;refine dI.mono dQ (fun o z=>(k.2 b q).trans z) (fun⟨C,fs,z⟩ o z'=>(k.2 _ fun w=>?_).trans z') (I.obj b bo e);subst z;have:=I.apart b C fs e;rw[w,hH]at this;exact sn this.symm rfl
 .by_cases q:b=a
  .clear ow own ob k hH;subst q;rw[Z.ab]at e;exact absurd (zBp e) (zh C fs)
  .rw[Z.af _ _ q]at e;have:b-1≠a:=fun z=>by have:=I.apart b C fs e;rw[z,hH]at this;exact sn this.symm rfl
   rw[Z.af _ _ this];exact I.apart b C fs e
theorem az{h:Heap}(o:Obj):∀b x,h.get? b=some x->(h.push o).get? b=some x:=fun _ _ e=>zBr _ e
theorem cU{h:Heap}{o:Obj}{l:List V}{xs:List Value}(r:bj c h l xs):bj c (h.push o) l xs:=bj.mono (fun _ _ _ _ e=>az o _ _ e) l r
theorem Inv.newList(I:Inv c H s){t:Nat}{l:List V}{xs:List Value}(r:bj c s.heap l xs):
  Inv c (H.set s.heap.objs.size (.list l)) {s with heap:=s.heap.push (lJ xs),toks:=t}/\Step H (H.set s.heap.objs.size (.list l)) s {s with heap:=s.heap.push (lJ xs),toks:=t}:=
 I.take (az _) (zAq _) ⟨0,xs.toArray,zAr _ rfl,(cU r)⟩ (by simp)
theorem Inv.newDict(I:Inv c H s){t:Nat}:Inv c (H.set s.heap.objs.size (.ax [])) {s with heap:=s.heap.push wX,toks:=t}/\Step H (H.set s.heap.objs.size (.ax [])) s {s with heap:=s.heap.push wX,toks:=t}:=
 I.take (az _) (zAq _) ⟨[],Heap.DictOf.new _,rfl⟩ (by simp)
theorem Inv.fR(I:Inv c H s){a:Addr}(h:s.heap.objs.size<=a):¬c.bad a:=fun b=>by have:=I.bad a b;rw[bg h]at this;exact ft rfl this
theorem o7(I:Inv c H s){l:List V}{xs:List Value}(r:bj c s.heap l xs):VR c (s.heap.push (Ie xs)) (.tup l) (.ref s.heap.objs.size):=
 ⟨_,0,xs.toArray,rfl,I.fR (zAq _),zAr _ rfl,(cU r)⟩
theorem aE:∀{l:List V} {h:Heap} {xs:List Value},bj c h l xs->xs.length=l.length:=by
 intro zl
 induction zl with
 |nil=>
  rintro _ xs r;cases (show xs=[] from r);rfl
 |cons zp l ih=>
  rintro _ _ ⟨x,r,e,_,h2⟩;subst e;simp[ih h2]
end
theorem dS:lim<=sizeLine:=by rw[sizeLine_eq];decide
theorem SE.list{sc:Sc}{es:List Expr}{p pos}(a:SL sc es p):SE sc (.List es pos) (.list p):=by
 refine .plain (fun c A env n ρ H s Q P h=>?_) (fun _ _=>rfl) (fun _ _ _ _ _=>rfl);dsimp only[bX]at h;refine wpAny_List (zAw (a _ _ _ _ _ _ _ _ pos P h) (fun vs ah b=>?_) fun _ _ e=>e);obtain⟨l,aa,bC,aq,eQ,aG⟩:=b;obtain⟨h1,h2⟩:=cond_of aG;refine⟨by rw[sizeLine_eq];exact(aD 0x800000702400830000fa38026) (jD h1) (aE eQ),?_⟩
 obtain⟨aY,aI⟩:=bC.newList (t:=ah.toks) eQ;exact⟨_,_,aY,aq.trans aI,dA,h2 _ (bC.fresh (zAq _))⟩
theorem SE.tup{sc:Sc}{es:List Expr}{p k pos}(a:SL sc es p):SE sc (.Tuple es k pos) (.tup p):=by
 refine .plain (fun c A env n ρ H s Q P h=>?_) (fun _ _=>rfl) (fun _ _ _ _ _=>rfl);dsimp only[bX]at h;refine wpAny_Tuple (zAw (a _ _ _ _ _ _ _ _ pos P h) (fun vs ah b=>?_) fun _ _ e=>e);obtain⟨l,aa,bC,aq,eQ,aG⟩:=b;obtain⟨h1,h2⟩:=cond_of aG;have h1:=jD h1;refine⟨by rw[sizeLine_eq];exact(aD 0x800000702400830000fa38026) h1 (aE eQ),?_⟩
 exact⟨_,_,bC.grow (t:=ah.toks) (az _),aq.trans (ay.grow _ (t:=ah.toks) (az _)),o7 bC eQ,h2⟩
def Vb:V->V->Prop
 | .ref _,.ref _=>False
 | .ref _,.int _=>False
 |_,_=>True
theorem kT(k:Nat):(strOf k).length<=20:=by
 have all:(strTab.all fun s=>decide (s.length<=20))=true:=by decide+kernel
 by_cases h:k<strTab.length
 .have:strOf k=strTab[k]:=by simp[strOf,List.getD,h]
  rw[this];exact zFq (zCp.mp all _ (zEq h))
 .have:strOf k=Str.empty:=by simp[strOf,List.getD,Nat.not_lt.mp h]
  rw[this];decide
theorem uJ{c:Cx}{h:Heap}{l:List V}{a:Addr}{n:Nat}{xs:Array Value}(nb:¬c.bad a)(e:h.get? a=some ⟨.type "tuple",none,.seq xs n,#[]⟩)(r:bj c h l xs.toList):VR c h (.tup l) (.ref a):=⟨a,n,xs,rfl,nb,e,r⟩
theorem fe{c:Cx}{h:Heap}{l:List V}{v:Value}(r:VR c h (.tup l) v):TupAt c h (bj c h l) v:=r
theorem cD{c:Cx}{h:Heap}:∀{l l':List V} {xs ys:List Value},bj c h l xs->bj c h l' ys->bj c h (l++l') (xs++ys):=by
 intro zl
 induction zl with
 |nil=>
  rintro _ xs _ r r';cases (show xs=[] from r);exact r'
 |cons zp l ih=>
  rintro _ _ _ ⟨x,r,e,h1,h2⟩ r';subst e;exact⟨x,_,rfl,h1,ih h2 r'⟩
theorem iQ{c:Cx}{h:Heap}{v:V}{x:Value}(r:VR c h v x):∀n,bj c h (replicate n v) (replicate n x)
 |0=>rfl
 |n+1=>⟨x,_,rfl,r,iQ r n⟩
section
variable {c:Cy} {A:Around} {H:Z} {s:Shared} {Q:V->Z->Prop}
theorem D8{op:qd}{po:Operator}{i j:Int}{t u:Tok}{v:V}(dJ:mD po=some op)(I:Inv c.toCx H s)(hv:binI op i j=some v)(q:Q v H):
  wpAny c.M A (binaryOp po (.int i t) (.int j u)) (Back c.toCx H s Q) bZ s:=by
 cases po<;>first |exact sn dJ rfl |obtain rfl:=so dJ
 .obtain rfl:=so hv;exact PySem.P.add_int (Back.bR I cK q)
 .obtain rfl:=so hv;exact PySem.P.sub_int (Back.bR I cK q)
 .obtain⟨hq,e⟩:=mA hv;cases e;exact PySem.P.mul_int (Back.bR I cK q) (IntMulOk.of_left (intBits_le_64 (by exact(jy 0x40000000000000003d840001f4701a16) hq) (by exact(jy 0x40000000000000003c040001f4701a16) hq)))
 .obtain⟨hp,e⟩:=mA hv;cases e;refine PyProof.Rows.mod_int' (by exact(jy 21489781318) hp) ?_
  rw[Int.fmod_eq_emod_of_nonneg _ (by exact(jy 43256390) hp)]
  exact Back.bR I cK q
 .obtain rfl:=so hv;exact PyProof.Rows.or_int (Back.bR I cK q)
 .obtain rfl:=so hv;exact PyProof.Rows.and_int (Back.bR I cK q)
 .obtain⟨hp,e⟩:=mA hv;cases e;refine PyProof.Rows.floordiv_int (by exact(uq 0x280720003e8e0100007d1c0e85c0a476) hp) ?_ (Or.inl (PyProof.noPylong_small (by exact(uq 0x40000000f03420003e8e0100007d1c0e85c0a476) hp)))
  rw[Int.fdiv_eq_ediv_of_nonneg _ (by exact(uq 0x14a0003e8e0100007d1c0e85c0a476) hp)]
  exact Back.bR I cK q
noncomputable def Xs:qd->Operator
 | .add=>.Add
 | .sub=>.Sub
 | .mul=>.Mult
 | .fdiv=>.FloorDiv
 | .mod=>.Mod
 | .band=>.BitAnd
 | .bor _=>.BitOr
theorem Gd{op:qd}{po:Operator}(dJ:mD po=some op):po=Xs op:=by cases po<;>first |exact sn dJ rfl |(obtain rfl:=so dJ;rfl)
theorem uK{op:qd}{po:Operator}(dJ:mD po=some op)(e:op= .add):po= .Add:=by subst e;exact Gd dJ
theorem Ig{op:qd}{po:Operator}(dJ:mD po=some op)(e:op= .mul):po= .Mult:=by subst e;exact Gd dJ
theorem D9{a b:Value}{l l':List V}(I:Inv c.toCx H s)(ra:VR c.toCx s.heap (.tup l) a)(rb:VR c.toCx s.heap (.tup l') b)(hlen:(l++l').length<=lim)(q:Q (.tup (l++l')) H):
  wpAny c.M A (binaryOp .Add a b) (Back c.toCx H s Q) bZ s:=by
 obtain⟨a,n,xs,rfl,na,ha,r⟩:=fe ra;obtain⟨b,n2,ys,rfl,nb,hb,r'⟩:=fe rb;have e1:=aE r;have e2:=aE r';simp only[length_toList]at e1 e2;have Ml:xs.size+ys.size<=sizeLine:=by have:=dS;simp only[length_append]at hlen;exact(dq 0x2000001c102840f4240e0c3426800000701e8481c26188182006) e1 e2 this hlen
 by_cases c0:xs.isEmpty=true
 .refine concat_meets ⟨_,ha,rfl⟩ ⟨_,hb,rfl⟩ noFill_tuple_add seq_tuple_add PySem.F.slot_tuple_add PySem.F.entry_tuple_add (PySem.F.args_tuple_add_2 _ _) (tuple_addW0 a b xs ys n n2 none none #[] #[] c0) ⟨ha,hb,?_⟩
  have:l=[]:=by
   clear ra r q hlen Ml ha;cases l with
   |nil=>rfl
   |cons _ _=>simp at c0;subst c0;simp at e1
  clear e1 ra r hlen;subst this;exact Back.here I (uJ nb hb r') q
 .by_cases c1:ys.isEmpty=true
  .refine concat_meets ⟨_,ha,rfl⟩ ⟨_,hb,rfl⟩ noFill_tuple_add seq_tuple_add PySem.F.slot_tuple_add PySem.F.entry_tuple_add (PySem.F.args_tuple_add_2 _ _) (tuple_addW1 a b xs ys n n2 none none #[] #[] c0 c1) ⟨ha,hb,?_⟩
   have:l'=[]:=by
    clear rb r' q hlen Ml hb;cases l' with
    |nil=>rfl
    |cons _ _=>simp at c1;subst c1;simp at e2
   clear e2 rb r' hlen;subst this;rw[zDp]at q;exact Back.here I (uJ na ha r) q
  .refine concat_meets ⟨_,ha,rfl⟩ ⟨_,hb,rfl⟩ noFill_tuple_add seq_tuple_add PySem.F.slot_tuple_add PySem.F.entry_tuple_add (PySem.F.args_tuple_add_2 _ _) (tuple_addW2 a b xs ys n n2 none none #[] #[] c0 c1 Ml) ⟨ha,hb,?_⟩;refine⟨_,_,I.grow (t:=s.toks) (az _),ay.grow _ (t:=s.toks) (az _),?_,q⟩;exact⟨_,0,xs++ys,rfl,I.fR (zAq _),zAr _ rfl,by simpa using cU (cD r r')⟩
theorem kl{op:qd}{po:Operator}{x y v:V}{a b:Value}(dJ:mD po=some op)(I:Inv c.toCx H s)(ra:VR c.toCx s.heap x a)(rb:VR c.toCx s.heap y b)(hv:zS op x y=some v)(q:Q v H):
  wpAny c.M A (binaryOp po a b) (Back c.toCx H s Q) bZ s:=by
 cases x with
 |int i=>cases y with
  |int j=>obtain⟨t,rfl⟩:=ra;obtain⟨u,rfl⟩:=rb;exact D8 dJ I hv q
  |_=>exact sn hv rfl
 |str i=>cases y with
  |str j=>
   obtain⟨hi,t,rfl⟩:=ra;obtain⟨hj,u,rfl⟩:=rb;cases op with
   |add=>
    obtain rfl:=uK dJ rfl;obtain⟨k,hk,rfl⟩:=zBt.mp hv;obtain⟨h1,h2⟩:=ez hk;refine PyProof.Rows.add_str (fun t' tk=>Back.bR I (mG h1 h2) q) ?_;have:=kT i;have:=kT j;rw[sizeLine_eq];exact(aD 0x4000003810508000029c09300000538026) ‹_› this
   |_=>cases hv
  |_=>exact sn hv rfl
 |tup l=>cases y with
  |tup l'=>cases op with
   |add=>
    obtain rfl:=uK dJ rfl;obtain⟨hlen,e⟩:=mA hv;clear hv;cases e;exact D9 I ra rb hlen q
   |_=>exact sn hv rfl
  |_=>exact sn hv rfl
 |_=>exact sn hv rfl
theorem sr{p r:Addr}{l l':List V}(I:Inv c.toCx H s)(hp:H p=some (.list l))(hr:H r=some (.list l'))(hl:(l++l').length<=lim)(q:∀z,H z=none->Q (.ref z) (H.set z (.list (l++l')))):
  wpAny c.M A (binaryOp .Add (.ref p) (.ref r)) (Back c.toCx H s Q) bZ s:=by
 obtain⟨n,xs,ha,ra⟩:=I.obj p _ hp;obtain⟨n2,ys,hb,rb⟩:=I.obj r _ hr;have e1:=aE ra;have e2:=aE rb;simp only[length_toList]at e1 e2;have Ml:xs.size+ys.size<=sizeLine:=by have:=dS;simp only[length_append]at hl;exact(dq 0x2000001c102840f4240e0c3426800000701e8481c26188182006) e1 e2 this hl
 refine concat_meets ⟨_,ha,rfl⟩ ⟨_,hb,rfl⟩ noFill_list_add seq_list_add PySem.F.slot_list_add PySem.F.entry_list_add (PySem.F.args_list_add_2 _ _) (list_addW p r xs ys n n2 none none #[] #[] Ml) ⟨ha,hb,?_⟩;obtain⟨aY,aI⟩:=I.newList (t:=s.toks) (cD ra rb);rw[show lJ (xs.toList++ys.toList)={cls:=.type "list",data:=.seq (xs++ys)} by simp[lJ]]at aY aI
 exact⟨_,_,aY,aI,dA,q _ (I.fresh (zAq _))⟩
theorem o8(x:Value):∀(k:Nat) (acc:Array Value),foldl (fun x1 x2=>x1++x2) acc (replicate k #[x])=acc++(replicate k x).toArray
 |0,acc=>rfl
 |k+1,acc=>by rw[List.replicate_succ];rw[List.foldl_cons];rw[o8 x k];rw[List.replicate_succ];apply Array.toList_inj.mp;simp
theorem su{p:Addr}{v:V}{k:Int}{u:Tok}(I:Inv c.toCx H s)(hp:H p=some (.list [v]))(h0:0<=k)(h1:k<=lim)(q:∀z,H z=none->Q (.ref z) (H.set z (.list (replicate k.toNat v)))):
  wpAny c.M A (binaryOp .Mult (.ref p) (.int k u)) (Back c.toCx H s Q) bZ s:=by
 have ag:(lim:Int)=1000000:=rfl;obtain⟨n,xs,ha,ra⟩:=I.obj p _ hp;obtain⟨x,r,e,rx,rr⟩:=ra;cases (show r=[] from rr)
 have ex:xs= #[x]:=by apply Array.toList_inj.mp;rw[e]
 subst ex
 refine wpAny_binaryOp_repeat_ref (T:="list") (U:="int") (by decide) ⟨_,ha,rfl⟩ (fun s'=>typeIs_int s' k u) noFill_list_mul PySem.F.fills_int_mul PySem.F.slot_int_rmul repeat_list PySem.F.slot_int_index.lookup
  (call_meets PySem.F.slot_int_rmul (typeIs_int s k u) PySem.F.entry_int_rmul (PySem.F.args_int_rmul_2 _ _) (int___rmul___int_list k u p #[x] n)
   ⟨ha,rfl,⟨_,ha,rfl⟩,call_meets PySem.F.slot_list_mul ⟨_,ha,rfl⟩ PySem.F.entry_list_mul (PySem.F.args_list_mul_2 _ _)
    (lm_list_mul_any p #[x] n none #[] k u (by simp[Builtin.List.listFitsIndex];exact(jy 0x20000000000000003c040010000000000000001ec2b83d090380f4240e64d81e8481cc81580a56) h0 h1 ag) (by simp;exact(jy 0x7fffffffffffffff80a0f4240e03d0903993607a120732056) h1 ag) (by simp[Builtin.List.listTooLong,sizeLine];exact(oj 0x2000001c0283d090380c9b032056) h1 ag)) ⟨ha,?_⟩⟩)
 obtain⟨aY,aI⟩:=I.newList (t:=s.toks) (iQ rx k.toNat)
 have:(foldl (fun x1 x2=>x1++x2) #[] (replicate (if (#[x]:Array Value).isEmpty=true then 0 else k.toNat) #[x]))=(replicate k.toNat x).toArray:=by rw[zAi Bool.false_ne_true];rw[o8];simp
 rw[this];exact⟨_,_,aY,aI,dA,q _ (I.fresh (zAq _))⟩
end
theorem SE.bin{sc:Sc}{l r:Expr}{p q:PE}{po:Operator}{op:qd}{pos}(dJ:mD po=some op)(a:SE sc l p)(b:SE sc r q):SE sc (.BinOp l po r pos) (.bin op p q):=by
 refine .plain (fun c A env n ρ H s Q P h=>?_) (fun _ _=>rfl) (fun _ _ _ _ _=>rfl);dsimp only[bX]at h;refine wpAny_BinOp (a.then P h fun v ah x aa ai aq rx aG=>b.then ai aG fun w bb y ak bh aI ry aL=>?_);have fg:=ai.I.vr aI rx;refine zAw (?_:wpAny c.M A (binaryOp po v w) (Back c.toCx ak bb Q) bZ bb) (fun _ _ k=>Back.after (aq.trans aI) k) fun _ _ e=>e;clear aG rx h;cases x with
 |ref p=>cases y with
  |ref q=>cases op with
   |add=>
    obtain rfl:=uK dJ rfl;obtain⟨l,l',e1,e2,h1,h2⟩:=Ar aL;cases fg;cases ry;exact sr bh.I e1 e2 h1 h2
   |_=>exact aL.elim
  |int k=>cases op with
   |mul=>
    obtain rfl:=Ig dJ rfl;obtain⟨v,e1,h1,h2,h3⟩:=As aL;cases fg;obtain⟨t,rfl⟩:=ry;exact su bh.I e1 h1 h2 h3
   |_=>exact aL.elim
  |_=>exact aL.elim
 |int i=>obtain⟨v,e,q⟩:=dx aL;exact kl dJ bh.I fg ry e q
 |str i=>obtain⟨v,e,q⟩:=dx aL;exact kl dJ bh.I fg ry e q
 |tup i=>obtain⟨v,e,q⟩:=dx aL;exact kl dJ bh.I fg ry e q
 |_=>exact(show False from aL).elim
section
open PySem.SeqAt
theorem fS{i j:Nat}(hi:i<strN)(hj:j<strN):(strOf i==strOf j)=(i==j):=by
 by_cases h:i=j
 .subst h;simp
 .have:strOf i≠strOf j:=fun e=>h (dP hi hj e);rw[zCr.mpr h];rw[zCr.mpr this]
theorem x7{f:V->V->Option Bool}{v:V}{l l':List V}{b:Bool}(e:gH f (v::l) l'=some b):∃v' r a b',l'=v'::r/\f v v'=some a/\gH f l r=some b'/\b=(a&&b'):=by
 cases l' with
 |nil=>exact sn e rfl
 |cons v' r=>
  obtain⟨a,h1,h2⟩:=zFw.mp e;obtain⟨b',h3,h4⟩:=zBt.mp h2;exact⟨v',r,a,b',rfl,h1,h3,h4.symm⟩
theorem Ay{f:V->V->Option Bool}{l':List V}{b:Bool}(e:gH f [] l'=some b):l'=[]/\b=true:=by
 cases l' with
 |nil=>obtain rfl:=so e;exact⟨rfl,rfl⟩
 |cons v' r=>exact sn e rfl
theorem mH{c:Cx}{v v':V}{b:Bool}{A:Around}{s:Shared}{x x':Value}(e:eqB v v'=some b)(r:VR c s.heap v x)(r':VR c s.heap v' x'):EqAt A s x x' b/\(x=x'->b=true):=by
 cases v with
 |none=>cases v' with
  |none=>obtain rfl:=so e;cases (show _=Value.none from r);cases (show _=Value.none from r');exact⟨EqAt.same _,fun _=>rfl⟩
  |_=>exact sn e rfl
 |bool a=>cases v' with
  |bool a'=>obtain rfl:=so e;cases (show _=Value.bool a from r);cases (show _=Value.bool a' from r');exact⟨EqAt.bool_bool _ _,fun e=>beq_iff_eq.mpr (Value.bool.inj e)⟩
  |_=>exact sn e rfl
 |int a=>cases v' with
  |int a'=>obtain rfl:=so e;obtain⟨t,rfl⟩:=r;obtain⟨t',rfl⟩:=r';exact⟨EqAt.int_int _ _ _ _,fun e=>beq_iff_eq.mpr (Value.int.inj e).1⟩
  |_=>exact sn e rfl
 |str a=>cases v' with
  |str a'=>
   obtain rfl:=so e;obtain⟨h1,t,rfl⟩:=r;obtain⟨h2,t',rfl⟩:=r';rw[←fS h1 h2];exact⟨EqAt.str_str _ _ _ _,fun e=>beq_iff_eq.mpr (Value.str.inj e).1⟩
  |_=>exact sn e rfl
 |_=>exact sn e rfl
def km(A:Around)(s:Shared):List Value->List Value->List Bool->Prop
 |[],[],[]=>True
 |x::xs,y::ys,b::bs=>EqAt A s x y b/\km A s xs ys bs
 |_,_,_=>False
theorem km.get{A:Around}{s:Shared}:∀{xs ys:List Value} {bs:List Bool},km A s xs ys bs->∀j (h1:j<xs.length) (h2:j<ys.length),EqAt A s xs[j] ys[j] (bs.getD j true)
 |x::xs,y::ys,b::bs,⟨h,_⟩,0,_,_=>h
 |x::xs,y::ys,b::bs,⟨_,h⟩,j+1,h1,h2=>by simpa using h.get j (by simpa using h1) (by simpa using h2)
theorem km.len{A:Around}{s:Shared}:∀{xs ys:List Value} {bs:List Bool},km A s xs ys bs->xs.length=bs.length/\ys.length=bs.length
 |[],[],[],_=>⟨rfl,rfl⟩
 |x::xs,y::ys,b::bs,⟨_,h⟩=>by simp[h.len]
theorem dB:∀(bs:List Bool),(List.range bs.length).all (fun j=>bs.getD j true)=bs.all id
 |[]=>rfl
 |b::bs=>by rw[length_cons];rw[List.range_succ_eq_map];rw[List.all_cons];rw[all_map];rw[List.all_cons];simp only[List.getD_cons_zero,id];congr 1;rw[←dB bs];apply List.all_congr<;>simp
theorem qt{c:Cx}{f:V->V->Option Bool}{A:Around}{s:Shared}(hv:∀(v v':V) {b:Bool} {x x':Value},f v v'=some b->VR c s.heap v x->VR c s.heap v' x'->EqAt A s x x' b/\(x=x'->b=true)):
  ∀(l l':List V) {b:Bool} {xs ys:List Value},gH f l l'=some b->bj c s.heap l xs->bj c s.heap l' ys->
  ∃bs,km A s xs ys bs/\bs.all id=b/\(xs=ys->b=true)
 |[],_,_,_,_,e,r,r'=>by
  obtain⟨rfl,rfl⟩:=Ay e;cases (show _=[] from r);cases (show _=[] from r')
  exact⟨[],trivial,rfl,fun _=>rfl⟩
 |v::l,_,_,_,_,e,r,r'=>by obtain⟨v',l',a,b',rfl,e1,e2,rfl⟩:=x7 e;obtain⟨x,q,rfl,h1,h2⟩:=r;obtain⟨x',q',rfl,Vc,Rt⟩:=r';obtain⟨bs,hb,iF,hs⟩:=qt hv l l' e2 h2 Rt;obtain⟨z1,z2⟩:=hv v v' e1 h1 Vc;exact⟨_::bs,⟨z1,hb⟩,by rw[List.all_cons];rw[iF];rfl,fun e=>by obtain⟨p1,p2⟩:=List.cons.inj e;rw[z2 p1];rw[hs p2];rfl⟩
theorem Az{c:Cx}:∀(n:Nat) (v v':V) {b:Bool} {A:Around} {s:Shared} {x x':Value},uz n v v'=some b->VR c s.heap v x->VR c s.heap v' x'->A.units+n<cLine->EqAt A s x x' b/\(x=x'->b=true)
 |0,v,v',_,_,_,_,_,e,r,r',_=>mH (v:=v) (v':=v') e r r'
 |n+1,v,v',b,A,s,x,x',e,r,r',hu=>by
  cases v with
  |tup l=>cases v' with
   |tup l'=>
    obtain⟨-,e⟩:=D3 e;obtain⟨a,m,xs,rfl,_,g,q⟩:=r;obtain⟨a',m',Vd,rfl,_,g',q'⟩:=r';obtain⟨bs,hb,iF,hs⟩:=qt (A:=A.in1) (s:=s) (fun v v' {_ _ _} e r r'=>Az n v v' e r r' (by refine(?_:A.units+1+n<cLine);exact(aD 0x4d59c0ac14a08009ab38b0d01416) hu)) _ _ e q q'
    have Ge:Value.ref a=Value.ref a'->b=true:=fun e=>by clear hb q' nb_1;cases e;rw[g]at g';cases g';exact hs rfl
    by_cases Ru:a=a'
    .rw[Ge (by rw[Ru])];rw[Ru]
     exact⟨EqAt.same _,fun _=>rfl⟩
    .refine⟨EqAt.of_refs Ru ?_,Ge⟩;obtain⟨l1,l2⟩:=hb.len;simp only[length_toList]at l1 l2
     have:=RcAt.tuples (A:=A) (s:=s) (e:=fun j=>bs.getD j true) ⟨_,g,rfl,m,rfl⟩ ⟨_,g',rfl,m',rfl⟩ ((aD 0x4d59c008009ab38b0d01416) hu) (fun j h1 h2=>by have:=hb.get j (h1) (h2);exact this)
     rw[show min xs.size Vd.size=bs.length by exact(aP 0x88160088182006) l1 l2,dB,iF,show (xs.size==Vd.size)=true by rw[l1,l2];simp,Bool.and_true]at this
     exact this
   |_=>exact sn e rfl
  |ref a=>exact sn e rfl
  |arg=>exact sn e rfl
  |none=>exact mH (v:=.none) (v':=v') e r r'
  |bool z=>exact mH (v:=.bool z) (v':=v') e r r'
  |int z=>exact mH (v:=.int z) (v':=v') e r r'
  |str z=>exact mH (v:=.str z) (v':=v') e r r'
section
set_option backward.match.sparseCases true
section
variable {sc:Sc} {e:Expr} {p:PE}
theorem SE.not{pos}(a:SE sc e p):SE sc (.UnaryOp .Not e pos) (.not p):=by
 refine⟨fun c A env n ρ H s Q P h=>?_,fun c A env n ρ H s Q P h=>?_⟩
 .dsimp only[LB]at h;refine wpAny_UnaryOp (a.then P h fun v ah x aa ai aq r q=>?_);cases x with
  |bool b=>cases (show v= .bool b from r);exact not_value (zDq (Back.mk ai.I aq dz q))
  |_=>exact q.elim
 .dsimp only[LH]at h;exact wpAny_isTrue_Not (a.jI P h fun b ah aa ai aq q=>⟨aa,ai.I,aq,q⟩)
theorem SE.uE{t a b:Expr}{tp ap bp:PE}{pos}(ht:SE sc t tp)(ha:SE sc a ap)(hb:SE sc b bp):SE sc (.IfExp t a b pos) (.uE tp ap bp):=by
 refine⟨fun c A env n ρ H s Q P h=>?_,fun c A env n ρ H s Q P h=>?_⟩
 .dsimp only[LF]at h;refine wpAny_IfExp (ht.jI P h fun r ah aa ai aq q=>?_);cases r
  .exact zAw (hb.val _ _ _ _ _ _ _ _ ai q) (fun _ _ k=>k.after aq) fun _ _ e=>e
  .exact zAw (ha.val _ _ _ _ _ _ _ _ ai q) (fun _ _ k=>k.after aq) fun _ _ e=>e
 .dsimp only[LG]at h;rw[arm_isTrue_IfExp];refine lk (ht.jI P h fun r ah aa ai aq q=>?_);cases r
  .exact zAw (hb.gu _ _ _ _ _ _ _ _ ai q) (fun _ _ k=>k.after aq) fun _ _ e=>e
  .exact zAw (ha.gu _ _ _ _ _ _ _ _ ai q) (fun _ _ k=>k.after aq) fun _ _ e=>e
structure SB(sc:Sc)(op:BoolOp)(pos:Pos)(es:List Expr)(p:PE):Prop where
 val:∀c A env n ρ H s Q,At c sc A env n ρ H s->bA c n p ρ H Q->wpAny c.M A (boolOp pos op (evalEach es env)) (Back c.toCx H s Q) bZ s
 gu:∀c A env n ρ H s Q,At c sc A env n ρ H s->eV c n p ρ H Q->wpAny c.M A (allTrue op es env) (mF c.toCx H s Q) bZ s
theorem SB.one{op pos}(a:SE sc e p):SB sc op pos [e] p:=by
 refine⟨fun c A env n ρ H s Q P h=>a.val _ _ _ _ _ _ _ _ P h,fun c A env n ρ H s Q P h=>?_⟩;cases op
 .refine wpAny_allTrue_And_cons (a.jI P h fun r ah aa ai aq q=>?_);cases r
  .exact⟨aa,ai.I,aq,q⟩
  .exact wpAny_allTrue_And_nil ⟨aa,ai.I,aq,q⟩
 .refine wpAny_allTrue_Or_cons (a.jI P h fun r ah aa ai aq q=>?_);cases r
  .exact wpAny_allTrue_Or_nil ⟨aa,ai.I,aq,q⟩
  .exact⟨aa,ai.I,aq,q⟩
noncomputable def Ki:BoolOp->PE->PE->PE
 | .And,p,q=>.iH p q
 | .Or,p,q=>.wO p q
theorem SB.cons{op pos}{e':Expr}{es:List Expr}{q:PE}(a:SE sc e p)(b:SB sc op pos (e'::es) q):SB sc op pos (e::e'::es) (Ki op p q):=by
 refine⟨fun c A env n ρ H s Q P h=>?_,fun c A env n ρ H s Q P h=>?_⟩
 .refine(?_:wpAny _ _ (do
   let v←eval e env
   standAt pos
   let t←holding [v] (truthy v)
   match op,t with
   | .And,false | .Or,true=>pure v
   |_,_=>boolOp pos op (evalEach (e'::es) env)) _ _ _)
  cases op
  .dsimp only[Ki,HV]at h;refine lk (a.then P h fun v ah x aa ai aq r q=>?_);cases x with
   |bool t=>
    cases (show v= .bool t from r)
    refine lk (wpAny_standAt (lk (zCt (zDq ?_))));cases t
    .exact Up (Back.mk ai.I aq dz q)
    .exact zAw (b.val _ _ _ _ _ _ _ _ ai q) (fun _ _ k=>k.after aq) fun _ _ e=>e
   |_=>exact q.elim
  .dsimp only[Ki,LD]at h;refine lk (a.then P h fun v ah x aa ai aq r q=>?_);cases x with
   |bool t=>
    cases (show v= .bool t from r)
    refine lk (wpAny_standAt (lk (zCt (zDq ?_))));cases t
    .exact zAw (b.val _ _ _ _ _ _ _ _ ai q) (fun _ _ k=>k.after aq) fun _ _ e=>e
    .exact Up (Back.mk ai.I aq dz q)
   |_=>exact q.elim
 .cases op
  .dsimp only[Ki,LI]at h;refine wpAny_allTrue_And_cons (a.jI P h fun r ah aa ai aq q=>?_);cases r
   .exact⟨aa,ai.I,aq,q⟩
   .exact zAw (b.gu _ _ _ _ _ _ _ _ ai q) (fun _ _ k=>k.after aq) fun _ _ e=>e
  .dsimp only[Ki,Qu]at h;refine wpAny_allTrue_Or_cons (a.jI P h fun r ah aa ai aq q=>?_);cases r
   .exact zAw (b.gu _ _ _ _ _ _ _ _ ai q) (fun _ _ k=>k.after aq) fun _ _ e=>e
   .exact⟨aa,ai.I,aq,q⟩
theorem SE.Mm{op pos}{es:List Expr}(b:∀pos,SB sc op pos es p):SE sc (.BoolOp op es pos) p:=
 ⟨fun c A env n ρ H s Q P h=>by rw[arm_eval_BoolOp];exact(b pos).val _ _ _ _ _ _ _ _ P h,fun c A env n ρ H s Q P h=>wpAny_isTrue_BoolOp ((b pos).gu _ _ _ _ _ _ _ _ P h)⟩
theorem SE.compare{l:Expr}{ops:List CmpOp}{rs:List Expr}{pos:Pos}
  (val:∀c A env n ρ H s Q,At c sc A env n ρ H s->bA c n p ρ H Q->wpAny c.M A (eval (.Compare l ops rs pos) env) (Back c.toCx H s Q) bZ s)
  (gu:∀c A env n ρ H s Q,At c sc A env n ρ H s->bA c n p ρ H (FN Q)->wpAny c.M A (isTrue (.Compare l ops rs pos) env (eval (.Compare l ops rs pos) env)) (mF c.toCx H s Q) bZ s)
  (hp:∀(c:Cy) n ρ H Q,eV c n p ρ H Q=bA c n p ρ H (FN Q)):SE sc (.Compare l ops rs pos) p:=
 ⟨val,fun c A env n ρ H s Q P h=>gu _ _ _ _ _ _ _ _ P (hp _ _ _ _ _▸h)⟩
theorem ir{c:Cx}{h:Heap}{x:V}{v:Value}(r:VR c h x v)(hn:∀i,x≠.arg->x≠i\/True:=fun _ _=>.inr trivial):(v== .none)=(match x with | .none=>true |_=>false):=by
 cases x with
 |none=>cases (show v= .none from r);rfl
 |bool b=>cases (show v= .bool b from r);rfl
 |int i=>obtain⟨t,rfl⟩:=r;rfl
 |str i=>obtain⟨_,t,rfl⟩:=r;rfl
 |ref a=>cases (show v= .ref a from r);rfl
 |arg=>cases (show v= .ref _ from r);rfl
 |tup l=>obtain⟨a,n,xs,rfl,_⟩:=r;rfl
theorem SE.isNone{k q pos}(a:SE sc e p):SE sc (.Compare e [.Is] [.Constant .none k q] pos) (.isNone p):=by
 refine .compare (fun c A env n ρ H s Q P h=>?_) (fun c A env n ρ H s Q P h=>?_) (fun _ _ _ _ _=>rfl)
 .dsimp only[bX]at h;refine wpAny_Compare1 (a.then P h fun v ah x aa ai aq rx q=>wpAny_Constant_none (PySem.is_none ?_));rw[ir rx];refine⟨.bool _,aa,ai.I,aq,dz,?_⟩;cases x<;>exact q
 .dsimp only[bX]at h;refine wpAny_isTrue_Compare1 (a.then P h fun v ah x aa ai aq rx q=>wpAny_Constant_none (PySem.is_none (zDq ?_)));rw[ir rx];refine⟨aa,ai.I,aq,?_⟩;cases x<;>exact q
theorem SE.isSome{k q pos}(a:SE sc e p):SE sc (.Compare e [.IsNot] [.Constant .none k q] pos) (.isSome p):=by
 refine .compare (fun c A env n ρ H s Q P h=>?_) (fun c A env n ρ H s Q P h=>?_) (fun _ _ _ _ _=>rfl)
 .dsimp only[bX]at h;refine wpAny_Compare1 (a.then P h fun v ah x aa ai aq rx q=>wpAny_Constant_none (PySem.isNot_none ?_));rw[ir rx];refine⟨.bool _,aa,ai.I,aq,dz,?_⟩;cases x<;>exact q
 .dsimp only[bX]at h;refine wpAny_isTrue_Compare1 (a.then P h fun v ah x aa ai aq rx q=>wpAny_Constant_none (PySem.isNot_none (zDq ?_)));rw[ir rx];refine⟨aa,ai.I,aq,?_⟩;cases x<;>exact q
end
section
variable {c:Cx} {h:Heap} {α β:Type} [DecidableEq α] [DecidableEq β] {f:α->β} {k:α}
theorem PR.look{v?:Option V}:∀{l:List (α×V)} {xs:List (β×Value)},(∀p∈l,f p.1=f k->p.1=k)->PR c h f l xs->aj k l=v?->match v? with
  |some v=>∃x,valueAt xs (f k)=some x/\VR c h v x
  |none=>valueAt xs (f k)=none:=by
 intro l
 induction l with
 |nil=>intro xs _ r e;cases (show xs=[] from r);subst e;rfl
 |cons p l ih=>
  obtain⟨a,v⟩:=p;rintro _ hi ⟨x,r,e,h1,h2⟩ e2;subst e;rw[aK]at e2;by_cases q:a=k
  .clear hi;subst q;rw[zBq rfl]at e2;subst e2;exact⟨x,by simp[valueAt],h1⟩
  .rw[zAi q]at e2;have ne:¬f a=f k:=fun z=>q (hi (a,v) zEt z);have:=ih (fun p hp=>hi p (zDt _ hp)) h2 e2;have e3:valueAt ((f a,x)::r) (f k)=valueAt r (f k):=by simp[valueAt,find?_cons,ne]
   rw[e3];exact this
theorem PR.length{l:List (α×V)}{xs:List (β×Value)}(r:PR c h f l xs):xs.length=l.length:=by
 induction l generalizing xs with
 |nil=>cases (show xs=[] from r);rfl
 |cons p l ih=>obtain⟨x,r',rfl,_,h2⟩:=r;simp[ih h2]
theorem PR.keys{l:List (α×V)}{xs:List (β×Value)}(r:PR c h f l xs):xs.map (·.1)=l.map fun p=>f p.1:=by
 induction l generalizing xs with
 |nil=>cases (show xs=[] from r);rfl
 |cons p l ih=>obtain⟨x,r',rfl,_,h2⟩:=r;simp[ih h2]
theorem mJ{kvs:List (β×Value)}{a b:β}{x v:Value}(el:¬a=b):stored ((a,x)::kvs) b v=(a,x)::stored kvs b v:=by
 delta stored;by_cases q:kvs.any (fun kv=>decide (kv.1=b))=true
 .rw[zBq q];rw[zBq (by simp only[any_cons,q,Bool.or_true])];simp[el]
 .rw[zAi q];rw[zAi (by simp only[any_cons,or_eq_true,not_or];exact⟨by simpa using el,q⟩)];rfl
theorem mK{kvs:List (β×Value)}{b:β}{x v:Value}(hn:((b,x)::kvs).map (·.1) |>.Nodup):stored ((b,x)::kvs) b v=(b,v)::kvs:=by
 delta stored;rw[zBq (by simp)]
 simp only[map_cons,ite_true];congr 1;simp only[map_cons,nodup_cons]at hn;exact map_store_of_not_mem kvs b v hn.1
theorem PR.stored{v:V}{x:Value}(rv:VR c h v x):∀{l:List (α×V)} {xs:List (β×Value)},(∀p∈l,f p.1=f k->p.1=k)->(xs.map (·.1)).Nodup->PR c h f l xs->PR c h f (putD k v l) (PySem.stored xs (f k) x):=by
 intro l
 induction l with
 |nil=>intro xs _ _ r;cases (show xs=[] from r);exact⟨x,[],rfl,rv,rfl⟩
 |cons p l ih=>
  obtain⟨a,w⟩:=p;rintro _ hi hn ⟨y,r,e,h1,h2⟩;subst e;rw[aO];by_cases q:a=k
  .clear hi;subst q;rw[zBq rfl,mK hn];exact⟨x,r,rfl,rv,h2⟩
  .rw[zAi q];rw[mJ (fun z=>q (hi (a,w) zEt z))];exact⟨y,_,rfl,h1,ih (fun p hp=>hi p (zDt _ hp)) (by simp only[map_cons,nodup_cons]at hn;exact hn.2) h2⟩
end
theorem x8{m:List (Int×V)}{i:Int}:(m.any fun p=>p.1==i)=(aj i m).isSome:=by
 induction m with
 |nil=>rfl
 |cons p m ih=>
  obtain⟨a,v⟩:=p;simp only[any_cons,aK,ih];by_cases q:a=i
  .simp[q]
  .simp[q]
end
theorem Inv.sm{c:Cy}{K:Frag}{mg mb:Str->Option Value}(ok:Ok c K mg mb){H:Z}{s:Shared}(I:Inv c.toCx H s){a:Addr}(h:aQ H a):(a==sysModules)=false:=by refine zCr.mpr fun e=>ok.sm ?_;rw[←e];exact I.off a h
section
variable {c:Cy} {A:Around} {H:Z} {s:Shared}
theorem AA{p r:Addr}{l l':List V}{b:Bool}(I:Inv c.toCx H s)(hp:H p=some (.list l))(hr:H r=some (.list l'))(hu:A.units+8<cLine)(e:xQ l l'=some b):
  RcAt A s (.ref p) (.ref r) b/\RcNeAt A s (.ref p) (.ref r) (!b):=by
 obtain⟨n,xs,ha,ra⟩:=I.obj p _ hp;obtain⟨n2,ys,hb,rb⟩:=I.obj r _ hr;have e1:=aE ra;have e2:=aE rb;simp only[length_toList]at e1 e2;unfold xQ at e;by_cases hl:l.length=l'.length
 .rw[zBq hl]at e;obtain⟨bs,Ve,iF,_⟩:=qt (A:=A.in1) (s:=s) (fun v v' {_ _ _} e r r'=>Az 4 v v' e r r' (by refine(?_:A.units+1+4<cLine);exact(aB 0x135671cb052820026ace481416) hu)) _ _ e ra rb
  obtain⟨l1,l2⟩:=Ve.len;simp only[length_toList]at l1 l2
  have each:∀j (h1:j<xs.size) (h2:j<ys.size),EqAt A.in1 s xs[j] ys[j] (bs.getD j true):=fun j h1 h2=>by have:=Ve.get j (h1) (h2);exact this
  have r1:=RcAt.lists (A:=A) (s:=s) (e:=fun j=>bs.getD j true) ⟨_,ha,rfl,n,rfl⟩ ⟨_,hb,rfl,n2,rfl⟩ ((dq 0x10006106188182006) e1 e2 hl) ((aB 0x135670020026ace481416) hu) each;have r2:=RcNeAt.lists (A:=A) (s:=s) (e:=fun j=>bs.getD j true) ⟨_,ha,rfl,n,rfl⟩ ⟨_,hb,rfl,n2,rfl⟩ ((dq 0x10006106188182006) e1 e2 hl) ((aB 0x135670020026ace481416) hu) each;rw[l1,dB,iF]at r1 r2;exact⟨r1,r2⟩
 .rw[zAi hl]at e;obtain rfl:=so e;have ne:(xs.size !=ys.size)=true:=by simp only[bne_iff_ne,ne_eq];exact(dq 0x1002461096188182006) e1 e2 hl
  exact⟨RcAt.lists_lengths ⟨_,ha,rfl,n,rfl⟩ ⟨_,hb,rfl,n2,rfl⟩ ne ((aB 0x135670020026ace481416) hu),RcNeAt.lists_lengths ⟨_,ha,rfl,n,rfl⟩ ⟨_,hb,rfl,n2,rfl⟩ ne ((aB 0x135670020026ace481416) hu)⟩
theorem ko{c:Cx}{h:Heap}:∀{bs:List Bool} {xs:List Value},bj c h (bs.map V.bool) xs->xs=bs.map .bool
 |[],_,r=>r
 |z::_,_,⟨x,_,q,h1,h2⟩=>by rw[q];rw[show x= .bool z from h1];rw[ko h2];rfl
theorem x9{b:Bool}:∀bs:List Bool,((bs.map Value.bool).any fun y=>y== .bool b)=bs.contains b:=by
 intro zl
 induction zl with
 |nil=>
  exact rfl
 |cons z bs ih=>
  rw[map_cons];rw[any_cons];rw[ih];rw[List.contains_cons];cases z<;>cases b<;>rfl
theorem AD{h:Heap}{k:Nat}(hk:k<strN):∀{bs:List Nat} {xs:List Value},bj c.toCx h (bs.map V.str) xs->(∀y∈xs,∃z t,y= .str z t)/\(xs.any fun y=>match y with | .str z _=>z==strOf k |_=>false)=bs.contains k:=by
 intro bs
 induction bs with
 |nil=>intro xs r;cases r;exact⟨nofun,rfl⟩
 |cons z bs ih=>
  rintro _ ⟨x,r,q,⟨hz,t,e⟩,h2⟩;subst q e;obtain⟨i1,i2⟩:=ih h2;refine⟨fun y hy=>(zAy.mp hy).elim (fun e=>⟨_,t,e⟩) (i1 y),?_⟩;rw[any_cons];rw[i2];rw[List.contains_cons];refine(?_:((strOf z==strOf k)||_)=_);rw[fS hz hk];rw[show (z==k)=(k==z) from BEq.comm]
inductive Xu(P:Option aN->Prop)(o:Option aN):Prop
 |mk (l:List (Int×V)) (e:o=some (.ax l)) (h:P (some (.ax l)))
theorem fw{P:Option aN->Prop}(h0:¬P none)(h1:∀m,¬P (some (.list m)))(h2:∀m,¬P (some (.aZ m)))(h3:∀m,¬P (some (.bU m)))(h4:∀C fs,¬P (some (.inst C fs))):∀{o:Option aN},P o->Xu P o
 |none,h=>(h0 h).elim
 |some (.ax l),h=>⟨l,rfl,h⟩
 |some (.list _),h=>(h1 _ h).elim
 |some (.aZ _),h=>(h2 _ h).elim
 |some (.bU _),h=>(h3 _ h).elim
 |some (.inst _ _),h=>(h4 _ _ h).elim
noncomputable def Mn(op:kP):CmpOp:=match op with
 | .eq=>.Eq
 | .ne=>.NotEq
 | .lt=>.Lt
 | .le=>.LtE
 | .gt=>.Gt
 | .ge _=>.GtE
 | .qe=>.In
 | .dr=>.NotIn
theorem Ih{po:CmpOp}:∀{op:kP},kR po=some op->po=Mn op:=by intro op h;cases po<;>first |exact sn h rfl |(obtain rfl:=so h;rfl)
theorem Ea{op:kP}{i j:Int}{t u:Tok}{r:Bool}(h:FL op i j=some r){Q:Value->Shared->Prop}(q:Q (.bool r) s):wpAny c.M A (compareOp (Mn op) (.int i t) (.int j u)) Q bZ s:=by
 cases op with
 |eq=>obtain rfl:=so h;exact PySem.P.eq_int q
 |ne=>obtain rfl:=so h;exact PySem.P.ne_int q
 |lt=>obtain rfl:=so h;exact PySem.P.lt_int q
 |le=>obtain rfl:=so h;exact PySem.P.le_int q
 |gt=>obtain rfl:=so h;exact PySem.P.gt_int q
 |ge=>obtain rfl:=so h;exact PySem.P.ge_int q
 |_=>exact sn h rfl
theorem in_dict{K:Frag}{mg mb:Str->Option Value}(ok:Ok c K mg mb){i:Int}{t:Tok}{p:Addr}{m:List (Int×V)}(I:Inv c.toCx H s)(hm:H p=some (.ax m)){Q:Value->Shared->Prop}:
  ((∀t,Q (.bool (m.any fun p=>p.1==i)) {s with toks:=t})->wpAny c.M A (compareOp .In (.int i t) (.ref p)) Q bZ s)/\
  ((∀t,Q (.bool (!m.any fun p=>p.1==i)) {s with toks:=t})->wpAny c.M A (compareOp .NotIn (.int i t) (.ref p)) Q bZ s):=by
 obtain⟨kvs,hd,pr⟩:=I.obj p _ hm;have lo:=I.sm ok (a:=p) (.inl (by rw[hm];simp))
 have hk:(iK c.toCx).is i (.int i t):=by simp[PySem.intKind,Value.isInt]
 have:=PR.look (k:=i) (fun _ _ e=>e) pr rfl
 have e0:(valueAt kvs i).isSome=(m.any fun p=>p.1==i):=by
  rw[x8];cases e:aj i m with
  |none=>rw[e]at this;exact zEy Option.isSome this
  |some v=>rw[e]at this;obtain⟨x,e2,_⟩:=this;exact zEy Option.isSome e2
 refine⟨fun q=>wpAny_in_of hk lo hd.mapOf ?_,fun q=>wpAny_notIn_of hk lo hd.mapOf ?_⟩
 .rw[e0];exact q _
 .rw[e0];exact q _
theorem AE{k:Nat}{t:Tok}{l:List V}{b:Value}{bs:List Nat}(hk:k<strN)(rb:VR c.toCx s.heap (.tup l) b)(hb:strs? l=some bs){Q:Value->Shared->Prop}:
  (Q (.bool (bs.contains k)) s->wpAny c.M A (compareOp .In (.str (strOf k) t) b) Q bZ s)/\(Q (.bool (!bs.contains k)) s->wpAny c.M A (compareOp .NotIn (.str (strOf k) t) b) Q bZ s):=by
 obtain⟨p,m,xs,rfl,_,g,rl⟩:=fe rb;obtain rfl:=zU hb;obtain⟨i1,i2⟩:=AD hk rl
 have each:∀y∈xs,EqAt A.in1 s y (.str (strOf k) t) (match y with | .str z _=>z==strOf k |_=>false):=fun y hy=>by
  obtain⟨z,t',rfl⟩:=i1 y (by simpa using hy)
  exact EqAt.str_str _ _ _ _
 refine⟨fun q=>in_tupleAt (fun y=>match y with | .str z _=>z==strOf k |_=>false) ⟨_,g,rfl,m,rfl⟩ each ?_,fun q=>notIn_tupleAt (fun y=>match y with | .str z _=>z==strOf k |_=>false) ⟨_,g,rfl,m,rfl⟩ each ?_⟩
 .rw[←any_toList];rw[i2];exact q
 .rw[←any_toList];rw[i2];exact q
theorem in_list{z:Bool}{p:Addr}{l:List V}{bs:List Bool}(I:Inv c.toCx H s)(hl:H p=some (.list l))(hb:dt l=some bs){Q:Value->Shared->Prop}:
  (Q (.bool (bs.contains z)) s->wpAny c.M A (compareOp .In (.bool z) (.ref p)) Q bZ s)/\(Q (.bool (!bs.contains z)) s->wpAny c.M A (compareOp .NotIn (.bool z) (.ref p)) Q bZ s):=by
 obtain⟨m,xs,g,rl⟩:=I.obj p _ hl;obtain rfl:=oU hb;have e:=ko rl;have i2:(xs.toList.any fun y=>y== .bool z)=bs.contains z:=by rw[e];exact x9 bs
 have each:∀y∈xs,EqAt A.in1 s y (.bool z) (y== .bool z):=fun y hy=>by
  clear i2;obtain⟨u,_,rfl⟩:=zAt.mp (e▸Array.mem_toList_iff.mpr hy);rw[show (Value.bool u==Value.bool z)=(u==z) from by cases u<;>cases z<;>rfl]
  exact EqAt.bool_bool u z
 refine⟨fun q=>in_listAt (fun y=>y== .bool z) ⟨_,g,rfl,m,rfl⟩ each ?_,fun q=>notIn_listAt (fun y=>y== .bool z) ⟨_,g,rfl,m,rfl⟩ each ?_⟩
 .rw[←any_toList];rw[i2];exact q
 .rw[←any_toList];rw[i2];exact q
theorem dg{op:kP}{po:CmpOp}{x y:V}{a b:Value}{r:Bool}{n:Nat}(ok:Di c)(R:jE A n)(dJ:kR po=some op)(I:Inv c.toCx H s)(ra:VR c.toCx s.heap x a)(rb:VR c.toCx s.heap y b)
  (h:dR H op x y=some r) {Q:Value->Shared->Prop} (q:∀t,Q (.bool r) {s with toks:=t}):wpAny c.M A (compareOp po a b) Q bZ s:=by
 have ok:=ok.h;have hu:A.units+8<cLine:=by have:=R.2.2;exact(aD 0x9ab3920504004d59c0000087030e829416) this
 have q0:Q (.bool r) s:=q s.toks;obtain rfl:=Ih dJ;clear dJ R;cases x with
 |int i=>cases y with
  |int j=>obtain⟨t,rfl⟩:=ra;obtain⟨u,rfl⟩:=rb;exact Ea h q0
  |ref p=>
   obtain⟨t,rfl⟩:=ra;cases (show b=_ from rb)
   obtain⟨m,hm,h⟩:=fw (P:=fun o=>oV op i o=some r) nofun (fun _=>nofun) (fun _=>nofun) (fun _=>nofun) (fun _ _=>nofun) h;cases op with
   |qe=>obtain rfl:=so h;exact(in_dict ok I hm).1 q
   |dr=>obtain rfl:=so h;exact(in_dict ok I hm).2 q
   |_=>exact sn h rfl
  |_=>exact sn h rfl
 |ref p=>clear q;cases y with
  |ref p'=>
   cases (show a=_ from ra);cases (show b=_ from rb)
   obtain⟨l,hl,h⟩:=lst_inv (P:=fun o=>mq op o (H p')=some r) nofun (fun _=>nofun) (fun _=>nofun) (fun _=>nofun) (fun _ _=>nofun) h;obtain⟨l',Gf,h⟩:=lst_inv (P:=fun o=>mq op (some (.list l)) o=some r) nofun (fun _=>nofun) (fun _=>nofun) (fun _=>nofun) (fun _ _=>nofun) h;cases op with
   |eq=>exact EqBoolInt.of_rc (AA I hl Gf hu h).1 q0
   |ne=>
    obtain⟨r',h',rfl⟩:=zBt.mp h;exact EqBoolInt.of_rcne (AA I hl Gf hu h').2 q0
   |_=>exact sn h rfl
  |_=>exact sn h rfl
 |str i=>clear q;cases y with
  |str j=>
   obtain⟨h1,t,rfl⟩:=ra;obtain⟨h2,u,rfl⟩:=rb;cases op with
   |eq=>obtain rfl:=so h;exact PyProof.Rows.eq_str (by rw[fS h1 h2];exact q0)
   |ne=>obtain rfl:=so h;exact PyProof.Rows.ne_str (by rw[bne];rw[fS h1 h2];exact q0)
   |_=>exact sn h rfl
  |tup l=>
   obtain⟨hk,t,rfl⟩:=ra;cases op with
   |qe=>obtain⟨bs,hb,rfl⟩:=zBt.mp h;exact(AE hk rb hb).1 q0
   |dr=>obtain⟨bs,hb,rfl⟩:=zBt.mp h;exact(AE hk rb hb).2 q0
   |_=>exact sn h rfl
  |_=>exact sn h rfl
 |bool z=>clear q;cases y with
  |bool z'=>
   cases (show a=_ from ra);cases (show b=_ from rb)
   cases op with
   |eq=>obtain rfl:=so h;exact PyProof.Rows.eq_bool q0
   |ne=>obtain rfl:=so h;exact PyProof.Rows.ne_bool q0
   |_=>exact sn h rfl
  |ref p=>
   cases (show a=_ from ra);cases (show b=_ from rb)
   obtain⟨l,hl,h⟩:=lst_inv (P:=fun o=>oW op z o=some r) nofun (fun _=>nofun) (fun _=>nofun) (fun _=>nofun) (fun _ _=>nofun) h;cases op with
   |qe=>obtain⟨bs,hb,rfl⟩:=zBt.mp h;exact(in_list I hl hb).1 q0
   |dr=>obtain⟨bs,hb,rfl⟩:=zBt.mp h;exact(in_list I hl hb).2 q0
   |_=>exact sn h rfl
  |_=>exact sn h rfl
 |none=>clear q;cases y with
  |ref p=>
   cases (show a=_ from ra);cases (show b=_ from rb)
   obtain⟨l,hl,h⟩:=lst_inv (P:=fun o=>wA op o=some r) nofun (fun _=>nofun) (fun _=>nofun) (fun _=>nofun) (fun _ _=>nofun) h;cases op with
   |eq=>
    obtain rfl:=so h;obtain⟨m,xs,g,rl⟩:=I.obj p _ hl;exact EqBoolInt.of_rc (RcAt.none_list ⟨_,g,rfl,m,rfl⟩ ((aB 0x135670020026ace481416) hu)) q0
   |_=>exact sn h rfl
  |_=>exact sn h rfl
 |_=>exact sn h rfl
end
theorem fT{r:Expr}(h:eh r=false)(op:CmpOp):behindInMarks op r=false:=by cases r<;>first |rfl |cases h
theorem sx{c:Cy}{n:Nat}{H:Z}{ρ:aH}{Q:EQ}{gn d7:kP}{x y:V}{d:PE}(h:qm c n gn d7 d ρ Q x y H):∃t,dR H gn x y=some t/\(match t with |true=>bA c n d ρ H (oY d7 Q y) |false=>Q (.bool false) H):=by
 have h:mx c n d7 y d ρ Q (dR H gn x y) H:=h;cases e:dR H gn x y with
 |none=>rw[e]at h;exact h.elim
 |some t=>rw[e]at h;clear e;cases t<;>exact⟨_,rfl,h⟩
section
variable {sc:Sc}
theorem SE.cmp{l r:Expr}{p q:PE}{po:CmpOp}{op:kP}{pos}(hs:eh r=false)(dJ:kR po=some op)(a:SE sc l p)(b:SE sc r q):SE sc (.Compare l [po] [r] pos) (.cmp op p q):=by
 refine .compare (fun c A env n ρ H s Q P h=>?_) (fun c A env n ρ H s Q P h=>?_) (fun _ _ _ _ _=>rfl)
 .dsimp only[bX]at h;refine wpAny_Compare1 (a.then P h fun v ah x aa ai aq rx aG=>b.then ai aG fun w bb y ak bh aI ry aL=>?_) (fT hs _);obtain⟨r,e,q⟩:=il aL;exact dg bh.ok bh.R dJ bh.I (ai.I.vr aI rx) ry e fun t=>Back.after (aq.trans aI) (Back.bR bh.I dz q)
 .dsimp only[bX]at h;refine wpAny_isTrue_Compare1 (a.then P h fun v ah x aa ai aq rx aG=>b.then ai aG fun w bb y ak bh aI ry aL=>?_) (fT hs _);obtain⟨r,e,q⟩:=il aL;exact dg bh.ok bh.R dJ bh.I (ai.I.vr aI rx) ry e fun t=>zDq ⟨_,bh.I.tok t,(aq.trans aI).trans (ay.tok _ _ _),q⟩
theorem SE.xV{l r jB:Expr}{p q u:PE}{po AF:CmpOp}{op Gg:kP}{pos}(hs:eh r=false)(o9:eh jB=false)(dJ:kR po=some op)(AG:kR AF=some Gg)(a:SE sc l p)(b:SE sc r q)(d:SE sc jB u):
  SE sc (.Compare l [po,AF] [r,jB] pos) (.xV op Gg p q u):=by
 have hm:lastMarks [po,AF] [r,jB]=false:=fT o9 _;refine .compare (fun c A env n ρ H s Q P h=>?_) (fun c A env n ρ H s Q P h=>?_) (fun _ _ _ _ _=>rfl)
 .dsimp only[bX]at h;refine Compare_chain (a.then P h fun v ah x aa ai aq rx aG=>chain_link (b.then ai aG fun w bb y ak bh aI ry aL=>?_)) hm;have fg:=ai.I.vr aI rx;obtain⟨tb,e,aL⟩:=sx aL;cases tb
  .exact dg bh.ok bh.R dJ bh.I fg ry e fun t=>zDq (Back.after (aq.trans aI) (Back.bR bh.I dz aL))
  .refine dg bh.ok bh.R dJ bh.I fg ry e fun t=>zDq ?_;have sy:=bh.step (bh.I.tok t) (ay.tok _ _ _);refine chain_last (d.then sy aL fun Rv gw z cS cW fy rz dK=>?_);obtain⟨r,e,q⟩:=il dK;exact dg cW.ok cW.R AG cW.I (sy.I.vr fy ry) rz e fun t=>Back.after (((aq.trans aI).trans (ay.tok _ _ _)).trans fy) (Back.bR cW.I dz q)
 .dsimp only[bX]at h;refine isTrue_chain (a.then P h fun v ah x aa ai aq rx aG=>test_link (b.then ai aG fun w bb y ak bh aI ry aL=>?_)) hm;have fg:=ai.I.vr aI rx;obtain⟨tb,e,aL⟩:=sx aL;cases tb
  .exact dg bh.ok bh.R dJ bh.I fg ry e fun t=>zDq ⟨_,bh.I.tok t,(aq.trans aI).trans (ay.tok _ _ _),aL⟩
  .refine dg bh.ok bh.R dJ bh.I fg ry e fun t=>zDq ?_;have sy:=bh.step (bh.I.tok t) (ay.tok _ _ _);refine test_last (d.then sy aL fun Rv gw z cS cW fy rz dK=>?_);obtain⟨r,e,q⟩:=il dK;exact dg cW.ok cW.R AG cW.I (sy.I.vr fy ry) rz e fun t=>zDq ⟨_,cW.I.tok t,(((aq.trans aI).trans (ay.tok _ _ _)).trans fy).trans (ay.tok _ _ _),q⟩
end
theorem sz{c:Cx}{h:Heap}{x:V}{v:Value}(r:VR c h x v):handedIn v=true:=by
 cases x with
 |none=>cases (show v= .none from r);rfl
 |bool b=>cases (show v= .bool b from r);rfl
 |int i=>obtain⟨t,rfl⟩:=r;rfl
 |str i=>obtain⟨_,t,rfl⟩:=r;rfl
 |ref a=>cases (show v= .ref a from r);rfl
 |arg=>cases (show v= .ref _ from r);rfl
 |tup l=>obtain⟨a,n,xs,rfl,_⟩:=r;rfl
theorem yb{prog:Program}{w:World}{es:List DictEntry}{kvs:List (Str×Value)}(hp:Pairs (PySem.strKind prog w) es kvs){k:Str}{v:Value}(hv:valueAt kvs k=some v):
  ∃e,es.find? (·.key.isStr k)=some e/\e.val=v:=by
 have:=hp.find k;rw[hv]at this;obtain⟨e,e1,e2⟩:=zBt.mp this;refine⟨e,?_,e2⟩;rw[←e1];congr 1;funext e;refine(?_:e.key.isStr k=Value.isStrOf k e.key);cases e.key<;>rfl
section
variable {c:Cy} {A:Around} {H:Z} {s:Shared} {K:Frag} {mg mb:Str->Option Value}
theorem AH{fs:List (Nat×V)}{k:Nat}(hf:∀p∈fs,p.1<zP)(hk:k<zP):∀p∈fs,cB p.1=cB k->p.1=k:=fun p hp e=>zQ (hf p hp) hk e
theorem AI(ok:Ok c K mg mb)(I:Inv c.toCx H s){a:Addr}{C:lE}{fs:List (Nat×V)}{k:Nat}{x:V}(hH:H a=some (.inst C fs))(hk:k<zP)(hx:aj k fs=some x){Q:Value->Shared->Prop}{b:Bool}
  (q:∀v,VR c.toCx s.heap x v->Q v {s with toks:=s.toks+1}):wpAny c.M A (getAttr (.ref a) (cB k) b) Q bZ s:=by
 obtain⟨_,ha,kvs,hd,pr,hf⟩:=I.obj a _ hH;obtain⟨v,e1,e2⟩:=PR.look (AH hf hk) pr hx;obtain⟨o,es,ep,ho,hex,AK,zi,hp,lx⟩:=hd;obtain⟨cd,Gh,Rw,_⟩:=ok.HZ C
 have mem:cB k∈d6:=by
  rw[←fk]at hk;have:cB k=d6[k]:=by simp[cB,List.getD,hk]
  rw[this];exact zEq hk
 refine get_value (K:=K) (C:=c.ca C) (od:=some o) (I.kx ok) ⟨ha,rfl,rfl,ho⟩ (ok.ga C) (v:=v) ?_ (sz e2) (q v e2);unfold findObj;rw[Gh];rw[Option.bind_some];rw[ok.Ib C _ mem];rw[Option.bind_some];simp only[Option.bind_some]
 have:PySem.W.ownOf cd (some o) (cB k)=some (some v):=by unfold PySem.W.ownOf;rw[zBq Rw];simp only[lookIn,AK];obtain⟨e,h1,h2⟩:=yb hp e1;rw[h1];simp[h2]
 rw[this];rfl
end
theorem SE.AM{sc:Sc}{e:Expr}{p:PE}{a:Str}{k:Nat}{pos}(ha:gF a=some k)(x:SE sc e p)
  (he:∀env,eval (.Attribute e a pos) env=(do
   let o←eval e env
   standAt pos.atName
   let r←holding [o] (getAttr o a true)
   letTemporaryGo e o r
   pure r)):SE sc (.Attribute e a pos) (.attr p k):=by
 obtain⟨hk,rfl⟩:=kO ha;refine .plain (fun c A env n ρ H s Q P h=>?_) (fun _ _=>rfl) (fun _ _ _ _ _=>rfl);dsimp only[bX]at h;refine Attribute_any_ (x.then P h fun v ah y aa ai aq r q=>?_) (he env);obtain⟨b,C,fs,z,rfl,hH,hx,q⟩:=xW q;cases (show v= .ref _ from r)
 exact AI P.ok.h ai.I hH hk hx fun v r=>Back.after aq (Back.bR ai.I r q)
set_option tactic.hygienic true in
theorem AN(slice:Expr)(o i:Value):∃vs,subscripted slice false o i=operate vs (getItem o i):=by
 cases slice<;>first |exact⟨_,rfl⟩ |skip
 rename_i l u st p
 cases st<;>exact⟨_,rfl⟩
theorem fz{prog:Program}{w:World}{A:Around}{E:Value->Shared->Prop}{s:Shared}{value slice:Expr}{o i:Value}{T id:String}{Q:Value->Shared->Prop}(hT:s.TypeIs o T)
  (hl:typeLookup (.type T) "__getitem__"=pure (some (.builtin id))) (h:wpAny (model prog w) A (getItem o i) Q E s):wpAny (model prog w) A (subscriptTail value slice o i) Q E s:=by
 unfold subscriptTail;refine lk ?_;rw[getitemInPython_of_ne hT.not_modules];refine lk (zFi hT hl ?_);obtain⟨vs,hs⟩:=AN slice o i
 have fin:wpAny (model prog w) A (subscripted slice false o i) (fun r gw=>wpAny (model prog w) A (letTemporaryGo value o r>>=fun _=>pure r) Q E gw) E s:=by rw[hs];exact wpAny_operating (zAw h (fun r gw dK=>lk (wpAny_letTemporaryGo (Up dK))) fun _ _ x=>x)
 first
  |exact Up (lk fin)
  |exact lk (Up (lk fin))
  |exact lk fin
theorem eF{c:Cx}{h:Heap}:∀{l:List V} {xs:List Value} {j:Nat} {v:V},bj c h l xs->l[j]?=some v->∃x,xs[j]?=some x/\VR c h v x:=by
 intro l
 induction l with
 |nil=>intro _ _ _ _ q;exact sn q rfl
 |cons w l ih=>
  rintro _ j v ⟨x,r,e,h1,h2⟩ q;subst e;cases j with
  |zero=>obtain rfl:=so q;exact⟨x,rfl,h1⟩
  |succ j=>exact ih (j:=j) h2 q
theorem mL{c:Cx}{h:Heap}:∀{l:List V} {xs:List Value} (j:Nat),bj c h l xs->bj c h (l.drop j) (xs.drop j)
 |_,_,0,r=>r
 |[],xs,j+1,r=>by cases (show xs=[] from r);exact rfl
 |_::l,_,j+1,⟨x,r,e,_,h2⟩=>by subst e;exact mL j h2
theorem mM{c:Cx}{h:Heap}:∀{l:List V} {xs:List Value} (j:Nat),bj c h l xs->bj c h (l.take j) (xs.take j)
 |_,_,0,r=>rfl
 |[],xs,j+1,r=>by cases (show xs=[] from r);exact rfl
 |_::l,_,j+1,⟨x,r,e,h1,h2⟩=>by subst e;exact⟨x,_,rfl,h1,mM j h2⟩
theorem gL{c:Cx}{h:Heap}:∀{l:List V} {xs:List Value},bj c h l xs->bj c h l.reverse xs.reverse:=by
 intro zl
 induction zl with
 |nil=>
  rintro xs r;cases (show xs=[] from r);exact rfl
 |cons zp l ih=>
  rintro _ ⟨x,r,e,h1,h2⟩;subst e;rw[List.reverse_cons];rw[List.reverse_cons];exact cD (ih h2) ⟨x,[],rfl,h1,rfl⟩
section
variable {c:Cy} {A:Around} {H:Z} {s:Shared} {Q:V->Z->Prop}
theorem AO:(lim:Int)<2^ 63:=by decide
theorem AP{c:Cy}{H:Z}{Q:EQ}{i:Int}{o:Option aN}(h:zZ Q i H o):(∃l v,o=some (.list l)/\(0<=i/\i<lim)/\l[i.toNat]?=some v/\Q v H)\/∃m v,o=some (.ax m)/\aj i m=some v/\Q v H:=by
 cases o with
 |none=>exact h.elim
 |some a=>cases a with
  |list l=>
   by_cases q:0<=i/\i<lim
   .rw[Ap,zBq q]at h;obtain⟨v,e,h⟩:=dx h;exact .inl ⟨l,v,rfl,q,e,h⟩
   .rw[Ap,zAi q]at h;exact h.elim
  |ax m=>obtain⟨v,e,h⟩:=dx h;exact .inr ⟨m,v,rfl,e,h⟩
  |_=>exact h.elim
theorem AQ{H:Z}{Q:EQ}{k:Nat}{o:Option aN}(h:DN Q k H o):∃m v,o=some (.aZ m)/\aj k m=some v/\Q v H:=by
 cases o with
 |none=>exact h.elim
 |some a=>cases a with
  |aZ m=>obtain⟨v,e,h⟩:=dx h;exact⟨m,v,rfl,e,h⟩
  |_=>exact h.elim
theorem uL{x y:V}{o i:Value}(I:Inv c.toCx H s){value slice:Expr}
  (h:jF Q x y H) (rx:VR c.toCx s.heap x o) (ry:VR c.toCx s.heap y i):wpAny c.M A (subscriptTail value slice o i) (Back c.toCx H s Q) bZ s:=by
 have hl:=AO;cases x with
 |tup l=>cases y with
  |int i=>
   obtain⟨a,n,xs,rfl,_,g,r⟩:=fe rx;obtain⟨t,rfl⟩:=ry;by_cases hi:0<=i/\i<lim
   .rw[lI,zBq hi]at h;obtain⟨v,hv,h⟩:=dx h;obtain⟨u,e1,e2⟩:=eF r hv;have cE:i.toNat<xs.size:=by simpa using(zCy.mp e1).1
    refine fz (T:="tuple") ⟨_,g,rfl⟩ slot_tuple_getitem.lookup (PyProof.Rows.getItem_tuple (j:=i.toNat) (x:=u) ⟨_,g,rfl,n,rfl⟩ ((jy 0x8000000000000000f6141e8481cc8100a576) hi) ((jy 0x20000000000000003c0407a120732040295d808000000000000000f03d09039946) hl hi) ?_ (by simpa using e1) (Back.here I e2 h))
    unfold seqIndex?;have h1:¬(i<0):=(oj 0x280920c8100a576) hi;have h2:i<xs.size:=(Ot 0x720408362c0c8100a576) hi cE;simp[h1,h2,hi.1]
   .rw[lI,zAi hi]at h;exact h.elim
  |_=>exact h.elim
 |ref p=>cases y with
  |int i=>
   cases (show o= .ref p from rx)
   obtain⟨t,rfl⟩:=ry;rcases AP (c:=c) h with⟨l,v,hH,hi,hv,h⟩ |⟨m,v,hH,hv,h⟩
   .obtain⟨n,xs,g,r⟩:=I.obj p _ hH;obtain⟨u,e1,e2⟩:=eF r hv;exact fz (T:="list") ⟨_,g,rfl⟩ slot_list_getitem.lookup (wpAny_getItem_list (x:=u) ⟨_,g,rfl,n,rfl⟩ hi.1 ((jy 0x20000000000000003c0407a120732040295d808000000000000000f03d09039946) hl hi) (by simpa using e1) (Back.here I e2 h))
   .obtain⟨kvs,hd,pr⟩:=I.obj p _ hH;obtain⟨u,e1,e2⟩:=PR.look (k:=i) (fun _ _ e=>e) pr hv;exact fz (T:="dict") hd.typeIs slot_dict_getitem.lookup (wpAny_getItem_of (k:=i) (by simp[PySem.intKind,Value.isInt]) hd.mapOf e1 (Back.bR I e2 h))
  |str k=>
   cases (show o= .ref p from rx)
   obtain⟨hk,t,rfl⟩:=ry;obtain⟨m,v,hH,hv,h⟩:=AQ h;obtain⟨kvs,hd,pr,hf⟩:=I.obj p _ hH;obtain⟨u,e1,e2⟩:=PR.look (k:=k) (fun p hp e=>dP (hf p hp) hk e) pr hv;exact fz (T:="dict") hd.typeIs slot_dict_getitem.lookup (wpAny_getItem_of (k:=strOf k) (by simp[PySem.strKind,Value.isStrOf]) hd.mapOf e1 (Back.bR I e2 h))
  |_=>exact h.elim
 |_=>exact h.elim
end
theorem SE.sub{sc:Sc}{a b:Expr}{p q:PE}{pos}(x:SE sc a p)(y:SE sc b q):SE sc (.Subscript a b pos) (.sub p q):=by refine .plain (fun c A env n ρ H s Q P h=>?_) (fun _ _=>rfl) (fun _ _ _ _ _=>rfl);dsimp only[bX]at h;refine Subscript_ (x.then P h fun v ah xv aa ai aq rx aG=>y.then ai aG fun w bb yv ak bh aI ry aL=>?_);exact zAw (uL bh.I aL (ai.I.vr aI rx) ry) (fun _ _ k=>Back.after (aq.trans aI) k) fun _ _ e=>e
theorem mN(items:Array Value)(b:Nat)(hb:items.size<=b):slicePick items none (some b) none=items:=by
 have:slicePick items none (some b) none=slicePick items none (some (items.size:Nat)) none:=by
  unfold slicePick
  have e:sliceBounds none (some (b:Int)) none items.size=sliceBounds none (some ((items.size:Nat):Int)) none items.size:=by
   simp only[sliceBounds,Option.getD_none];simp only[(aB 2627913:¬((b:Int)<0)),(aB 2627913:¬(((items.size:Nat):Int)<0)),if_false,show (1:Int)>0 by decide,if_true]
   congr 1;congr 1;exact(aD 0x6419b2ae0c873655cc2026) hb
  rw[e]
 rw[this];rw[slicePick_upto _ _ (zAq _)];apply Array.toList_inj.mp;rw[List.take_of_length_le (by simp)]
theorem mO(items:Array Value)(b:Nat):slicePick items none (some b) none=(items.toList.take b).toArray:=by
 by_cases h:b<=items.size
 .exact slicePick_upto _ _ h
 .rw[mN _ _ (by exact(aD 75629206) h)];rw[List.take_of_length_le (by simp;exact(aD 75629206) h)]
noncomputable abbrev dC(l u st:Value):Obj:={cls:=.type "slice",data:=.fields #[l,u,st]}
section
variable {c:Cy} {A:Around} {H:Z} {s:Shared} {Q:V->Z->Prop}
theorem mP{p:Addr}{xs:Array Value}{vl vu vs:Value}{lo hi st:Option Int}{l:List V}(I:Inv c.toCx H s)(hl:s.heap.IsList p xs)(eM:xs.size<=sizeLine)(pl:IsPart vl lo)(pu:IsPart vu hi)(ps:IsPart vs st)(h0:st≠some 0)
  (r:bj c.toCx s.heap l (slicePick xs lo hi st).toList) (q:∀r,H r=none->Q (.ref r) (H.set r (.list l))) {value slice:Expr}:
  wpAny c.M A (subscriptTail value slice (.ref p) (.ref s.heap.objs.size)) (Back c.toCx H s Q) bZ {s with heap:=s.heap.push (dC vl vu vs)}:=by
 have bC:=I.grow (t:=s.toks) (az (h:=s.heap) (dC vl vu vs));refine fz (hl.push _).typeIs slot_list_getitem.lookup (wpAny_getItem_list_slice (hl.push _) (Heap.IsSliceOf.new ..) pl pu ps h0 ?_ eM);obtain⟨aY,aI⟩:=bC.newList (t:=s.toks) (cU (o:=dC vl vu vs) r);exact⟨_,_,aY,(ay.grow (X:=fun _=>False) H (s:=s) (t:=s.toks) (az (h:=s.heap) (dC vl vu vs))).trans aI,dA,q _ (bC.fresh (zAq _))⟩
theorem Eb{l:List V}{a:Nat}{u:Tok}{o:Value}(I:Inv c.toCx H s)(rx:VR c.toCx s.heap (.tup l) o)(h1:1<=a)(ha:a<=l.length)(eM:l.length<=sizeLine)(q:Q (.tup (l.drop a)) H){value slice:Expr}:
  wpAny c.M A (subscriptTail value slice o (.ref s.heap.objs.size)) (Back c.toCx H s Q) bZ {s with heap:=s.heap.push (dC (.int a u) .none .none)}:=by
 obtain⟨p,n,xs,rfl,_,g,r⟩:=fe rx;have e1:=aE r;simp only[length_toList]at e1;have g':=az (h:=s.heap) (dC (.int a u) .none .none) _ _ g;have bC:=I.grow (t:=s.toks) (az (h:=s.heap) (dC (.int a u) .none .none));have hT:Shared.TypeIs {s with heap:=s.heap.push (dC (.int a u) .none .none)} (.ref p) "tuple":=⟨_,g',rfl⟩
 refine fz hT slot_tuple_getitem.lookup (getItem_tuple_from ⟨_,g',rfl,n,rfl⟩ (Heap.IsSliceOf.new ..) h1 ((aP 70508466413606) ha e1) ?_ ((aD 0x8000007024008340000038026) eM e1));refine⟨_,_,bC.grow (t:=s.toks) (az _),(ay.grow (X:=fun _=>False) H (s:=s) (t:=s.toks) (az (h:=s.heap) (dC (.int a u) .none .none))).trans (ay.grow _ (t:=s.toks) (az _)),o7 bC (xs:=xs.toList.drop a) (cU (mL a r)),q⟩
end
theorem SE.drop{sc:Sc}{a b:Expr}{p q:PE}{sp pos}(x:SE sc a p)(y:SE sc b q):SE sc (.Subscript a (.Slice (some b) Option.none Option.none sp) pos) (.drop p q):=by
 refine .plain (fun c A env n ρ H s Q P h=>?_) (fun _ _=>rfl) (fun _ _ _ _ _=>rfl);dsimp only[bX]at h;refine Subscript_ (x.then P h fun v ah xv aa ai aq rx aG=>wpAny_Slice (y.then ai aG fun w bb yv ak bh aI ry aL=>?_));rw[evalPart_none];refine Up (Up ?_);have fg:=ai.I.vr aI rx;have ag:=dS;refine zAw (?_:wpAny c.M A _ (Back c.toCx ak bb Q) bZ _) (fun _ _ k=>Back.after (aq.trans aI) k) fun _ _ e=>e;clear aG rx;cases yv with
 |int i=>
  obtain⟨t,rfl⟩:=ry;cases xv with
  |tup l=>
   obtain⟨g1,g2,g3,g4⟩:=aL;obtain⟨k,rfl⟩:=Int.eq_ofNat_of_zero_le (a:=i) (by exact(jy 43256662) g1)
   exact Eb (a:=k) bh.I fg (by exact(aB 1493379926) g1) (by exact(aD 137990773078) g2) (by exact(aB 0x2000001c0103d09038026800000701e8481c26) ag g3) g4
  |ref z=>
   cases (show v= .ref _ from fg)
   obtain⟨l,hH,g1,g2,g3,g4⟩:=lst_inv (P:=wF Q i ak) id (fun _=>id) (fun _=>id) (fun _=>id) (fun _ _=>id) aL;obtain⟨n,xs,g,r⟩:=bh.I.obj _ _ hH;have e1:=aE r;simp only[length_toList]at e1;obtain⟨k,rfl⟩:=Int.eq_ofNat_of_zero_le (a:=i) (by exact(jy 43256662) g1)
   refine mP (l:=l.drop k) bh.I ⟨_,g,rfl,n,rfl⟩ (by exact(aD 0x8000007024008303d09038026800000701e8481c26) ag g3 e1) (.int _ _) .none .none (by simp) ?_ g4
   rw[slicePick_from _ _ (by exact(aP 0x8839165582006) e1 g2)]
   exact mL k r
  |_=>exact aL.elim
 |_=>exact aL.elim
theorem SE.Aj{sc:Sc}{a:Expr}{p:PE}{j:Int}{k cp sp pos}(hj:0<=j/\j<1000)(x:SE sc a p):SE sc (.Subscript a (.Slice Option.none (some (.Constant (.int j) k cp)) Option.none sp) pos) (.Aj p j.toNat):=by
 refine .plain (fun c A env n ρ H s Q P h=>?_) (fun _ _=>rfl) (fun _ _ _ _ _=>rfl);dsimp only[bX]at h;refine Subscript_ (x.then P h fun v ah xv aa ai aq rx aG=>wpAny_Slice ?_);rw[evalPart_none];refine Up (wpAny_Constant_int (k:=k) (pos:=cp) ?_);refine Up ?_;refine zAw (?_:wpAny c.M A _ (Back c.toCx aa ah Q) bZ _) (fun _ _ k=>Back.after aq k) fun _ _ e=>e;clear h;cases xv with
 |arg=>
  cases (show v= .ref _ from rx)
  obtain⟨is,xs,hl,r,hlen⟩:=P.ok.h.arg;have q:=aG is (fun h k=>⟨xs,by obtain⟨o,ho,r⟩:=hl;exact⟨o,k _ _ ho,r⟩,bj.mono (fun b xs n _ e=>k _ _ e) _ r⟩)
  have Mo:ah.heap.IsList c.script xs:=by obtain⟨o,ho,r⟩:=hl;exact⟨o,ai.I.base _ _ ho,r⟩
  have eQ:bj c.toCx ah.heap (is.map .int) xs.toList:=bj.mono (fun b xs n _ e=>ai.I.base _ _ e) _ r;have e1:=aE eQ;simp only[length_toList,length_map]at e1;obtain⟨b,rfl⟩:=Int.eq_ofNat_of_zero_le hj.1
  have:=mP (A:=A) (s:={ah with toks:=ah.toks+1}) (vl:=.none) (vu:=.int b ah.toks) (vs:=.none) (l:=(is.take b).map .int) (value:=a) (slice:=.Slice Option.none (some (.Constant (.int b) k cp)) Option.none sp) (Q:=Q) (ai.I.tok (ah.toks+1)) Mo (by rw[sizeLine_eq];exact(aD 0x8000007024008300000ff8026) hlen e1) .none (.int _ _) .none (by simp) (by rw[mO];rw[List.map_take];exact mM b eQ) q
  exact zAw this (fun _ _ k=>Back.after (ay.tok _ _ _) k) fun _ _ e=>e
 |_=>exact aG.elim
theorem SE.rev{sc:Sc}{a:Expr}{p:PE}{k cp up sp pos}(x:SE sc a p):SE sc (.Subscript a (.Slice Option.none Option.none (some (.UnaryOp .USub (.Constant (.int 1) k cp) up)) sp) pos) (.rev p):=by
 refine .plain (fun c A env n ρ H s Q P h=>?_) (fun _ _=>rfl) (fun _ _ _ _ _=>rfl);dsimp only[bX]at h;refine Subscript_ (x.then P h fun v ah xv aa ai aq rx aG=>wpAny_Slice ?_);rw[evalPart_none];refine Up (Up (wpAny_UnaryOp (wpAny_Constant_int (PySem.P.neg_int ?_))));refine zAw (?_:wpAny c.M A _ (Back c.toCx aa ah Q) bZ _) (fun _ _ k=>Back.after aq k) fun _ _ e=>e;have ag:=dS;obtain⟨z,rfl,aG⟩:=dy (P:=fun x=>HL Q x aa) id (fun _=>id) (fun _=>id) (fun _=>id) id (fun _=>id) aG;cases (show v= .ref _ from rx)
 obtain⟨l,hH,h1,h2⟩:=lst_inv (P:=DO Q aa) id (fun _=>id) (fun _=>id) (fun _=>id) (fun _ _=>id) aG;obtain⟨n,xs,g,r⟩:=ai.I.obj _ _ hH;have e1:=aE r;simp only[length_toList]at e1
 have:=mP (A:=A) (s:={ah with toks:=ah.toks+2}) (vl:=.none) (vu:=.none) (vs:=.int (-1) (ah.toks+1)) (l:=l.reverse) (value:=a) (slice:=.Slice Option.none Option.none (some (.UnaryOp .USub (.Constant (.int 1) k cp) up)) sp) (Q:=Q) (ai.I.tok (ah.toks+2)) ⟨_,g,rfl,n,rfl⟩ ((aD 0x8000007024008303d09038026800000701e8481c26) ag h1 e1) .none .none (.int _ _) (by simp) (by rw[krv_pick];exact gL r) h2
 exact zAw this (fun _ _ k=>Back.after (ay.tok _ _ _) k) fun _ _ e=>e
theorem SE.gJ{sc:Sc}{pos}:SE sc (.Dict [] [] pos) .gJ:=by refine .plain (fun c A env n ρ H s Q P h=>?_) (fun _ _=>rfl) (fun _ _ _ _ _=>rfl);dsimp only[wW]at h;obtain⟨aY,aI⟩:=P.I.newDict (t:=s.toks);exact wpAny_Dict_empty ⟨_,_,aY,aI,dA,h _ (P.I.fresh (zAq _))⟩
theorem ly{M:Model}{A:Around}{E:Value->Shared->Prop}{s:Shared}{f:Value}{Q:Args->Shared->Prop}(h:wpAny M A (spliced []) (fun vs s'=>Q ⟨vs,[]⟩ s') E s):wpAny M A (evalArgs f true [] []) Q E s:=by unfold evalArgs;refine(?_:wpAny M A (spliced []>>=_) Q E s);refine lk (zAw h (fun vs s' h'=>?_) fun _ _ x=>x);refine zCt ?_;exact lk (Up (lk (Up (Up h'))))
theorem fU{M:Model}{A:Around}{E:Value->Shared->Prop}{s:Shared}{f:Value}{L:List (Bool×Sem Value)}{Q:Args->Shared->Prop}(hL:L.any (·.1)=false)(h:wpAny M A (spliced L) (fun vs s'=>Q ⟨vs,[]⟩ s') E s):wpAny M A (evalArgs f true L []) Q E s:=by
 cases L with
 |nil=>exact ly h
 |cons x rest=>
  obtain⟨b,x⟩:=x;cases b
  .exact evalArgs_plain h
  .simp at hL
theorem fV{sc:Sc}{env:Env}{pos:Pos}{es:List Expr}{p:PE}(a:AL sc es p):(backTo pos (starEach es env)).any (·.1)=false:=by
 induction a with
 |nil=>rfl
 | @cons e es q r hs _ _ ih=>rw[jH hs];exact ih
theorem sA{o:Expr}(h:bO o=true)(attr:Str)(env:Env)(t:Sem Value):attributeBase o attr env t=t:=by
 cases o with
 |Call f args zg p=>cases f with
  |Name x q=>cases args with
   |nil=>cases zg with
    |nil=>exact ft rfl h
    |cons _ _=>rfl
   |cons _ _=>rfl
  |_=>rfl
 |_=>rfl
section
variable {c:Cy} {A:Around} {H:Z} {s:Shared} {Q:V->Z->Prop}
theorem aA.call{f:Nat}{n:Nat}{l:List V}{vs:List Value}(h:aA c f n l H Q)(R:jE A n)(I:Inv c.toCx H s)(r:bj c.toCx s.heap l vs):wpAny c.M A (call (.ref (c.fa f)) vs) (Back c.toCx H s Q) bZ s:=
 wpAny_call (codeAny_mono (h A s vs R I r) fun r s' b=>by rcases r with e |(v |_ |_ |_)<;>exact b)
end
section
variable {sc:Sc}
theorem pb{c:Cy}{A:Around}{env:Env}{n:Nat}{ρ:List (Option V)}{H:Z}{s:Shared}{Q:V->Z->Prop}{es:List Expr}{p:PE}(a:AL sc es p)(P:At c sc A env n ρ H s){pos:Pos}{f:Nat}{pre:List V}{first:List Value}
  (rf:bj c.toCx s.heap pre first)
  (h:bA c n p ρ H (iG fun l aa=>aA c f n (pre++l) aa Q)):wpAny c.M A (callWith pos (.ref (c.fa f)) first (backTo pos (starEach es env)) []) (Back c.toCx H s Q) bZ s:=by
 have ok:=P.ok.h;obtain⟨o,fd,h1,h2⟩:=ok.fd f;refine callWith_function (o:=o) (fd:=fd) (fU (fV a) (zAw (a.sl _ _ _ _ _ _ _ _ pos P h) (fun vs ah b=>?_) fun _ _ e=>e));obtain⟨l,aa,bC,aq,eQ,aG⟩:=b;exact⟨⟨bC.kx ok _ _ h1,h2⟩,zAw (aA.call aG P.R bC (cD (P.I.OE aq rf) eQ)) (fun _ _ k=>Back.after aq k) fun _ _ e=>e⟩
theorem SE.br{x:Str}{p pos}{f:Nat}{es:List Expr}{q:PE}(hg:sc.eW x=true)(hf:o6.lookup x=some f)(a:AL sc es q):SE sc (.Call (.Name x p) es [] pos) (.br f q):=by
 refine .plain (fun c A env n ρ H s Q P h=>?_) (fun _ _=>rfl) (fun _ _ _ _ _=>rfl);dsimp only[bX]at h;have ok:=P.ok.h
 have hd:(x==("__debug__":Str))=false:=by
  have all:(o6.all fun p=>!(p.1==("__debug__":Str)))=true:=by decide+kernel
  have:=zCp.mp all _ (lookup_mem hf);simpa using this
 refine Call_Name rfl (fc ok P hg hd (ok.ft _ (lookup_mem hf)) ?_);exact pb a P (pre:=[]) (first:=[]) rfl h
theorem method_of{c:Cy}{K:Frag}{mg mb:Str->Option Value}(ok:Ok c K mg mb){A:Around}{H:Z}{s:Shared}(I:Inv c.toCx H s){a:Addr}{C:lE}{fs:List (Nat×V)}(hH:H a=some (.inst C fs)){m:Nat}{nm:Str}{f:Nat}(hm:f9.lookup nm=some m)(hr:resolve C m=some f)
  {pl:Sem Bool} {Q:Value×List Value->Shared->Prop} (q:Q (.ref (c.fa f),[.ref a]) s):wpAny c.M A (getMethod (.ref a) nm pl) Q bZ s:=by
 obtain⟨_,ha,kvs,hd,pr,hf⟩:=I.obj a _ hH;obtain⟨o,es,ep,ho,hex,AK,zi,hp,lx⟩:=hd;obtain⟨Ii,h1,h2⟩:=ok.Mj C m f hr
 have e:Ii=nm:=by
  have inj:(f9.all fun p=>f9.all fun q=>p.2 !=q.2||p.1==q.1)=true:=by decide+kernel
  have:=zCp.mp (zCp.mp inj _ h1) _ (lookup_mem hm);simpa using this
 clear hm;subst e;refine method_fn (K:=K) (C:=c.ca C) (od:=some o) (I.kx ok) ⟨ha,rfl,rfl,ho⟩ (ok.ga C) (ok.Va C) h2 (ok.HY f) ?_ q
 have no:valueAt kvs Ii=none:=by
  have AR:(f9.all fun p=>d6.all fun a=>!(p.1==a))=true:=by decide+kernel
  unfold valueAt;rw[Option.map_eq_none_iff];rw[List.find?_eq_none];intro x hx e;have hk:=pr.keys;have:x.1∈fs.map fun p=>cB p.1:=by rw[←hk];exact List.mem_map_of_mem hx
  obtain⟨p,hp,Xv⟩:=zAt.mp this;have cE:=hf p hp
  have mem:cB p.1∈d6:=by
   rw[←fk]at cE;have:cB p.1=d6[p.1]:=by simp[cB,List.getD,cE]
   rw[this];exact zEq cE
  have:=zCp.mp (zCp.mp AR _ h1) _ mem;have e2:x.1=Ii:=zFq e;rw[Xv,e2]at this;simp at this
 unfold shadowIn;simp only[lookIn,AK];have Gi:=hp.find Ii;rw[no]at Gi
 have e1:es.toList.find? (·.key.isStr Ii)=none:=by rw[←(Option.map_eq_none_iff.mp Gi)];congr 1;funext e;refine(?_:e.key.isStr Ii=Value.isStrOf Ii e.key);cases e.key<;>rfl
 rw[e1]
 have e2:es.toList.any (·.refKey)=false:=by
  rw[List.any_eq_false];intro e he;obtain⟨k,hk,_⟩:=zi e (by simpa using he)
  obtain⟨t,ht⟩:=Value.isStrOf_shape (hk:Value.isStrOf k e.key=true);simp[DictEntry.refKey,ht]
 rw[e2];rfl
theorem SE.au{o:Expr}{nm:Str}{ap pos:Pos}{m:Nat}{es:List Expr}{p q:PE}(ho:bO o=true)(hl:(ap.endLine==pos.line)=true)(hn:es.length<20)
  (hm:f9.lookup nm=some m) (x:SE sc o p) (a:AL sc es q):SE sc (.Call (.Attribute o nm ap) es [] pos) (.au p m q):=by
 refine .plain (fun c A env n ρ H s Q P h=>?_) (fun _ _=>rfl) (fun _ _ _ _ _=>rfl);dsimp only[bX]at h;rw[arm_eval_Call];rw[sA ho];refine lk (x.then P h fun v ah xv aa ai aq rx aG=>lk (wpAny_standAt ?_));obtain⟨z,C,fs,f,rfl,hH,hr,aG⟩:=xX aG;cases (show v= .ref _ from rx)
 have iI:=fV (env:=env) (pos:=pos) a
 have Mp:methodCallForm (es.length+([]:List Keyword).length) (backTo pos (starEach es env)) (backToKw pos (keywordEach [] env))=true:=by
  unfold methodCallForm;simp only[and_eq_true,decide_eq_true_eq];refine⟨⟨?_,rfl⟩,?_⟩
  .rw[zCp];intro y hy;rw[List.any_eq_false]at iI;simpa using iI y hy
  .refine(?_:es.length+0+0<30);exact(aB 0x3dc52814a080000538016) hn
 have mQ:methodCallPos true o env ap pos=pure pos:=by unfold methodCallPos;simp[hl]
 unfold methodCall;rw[Mp];refine lk (zCt (method_of P.ok.h ai.I hH hm hr ?_));refine lk (zFo mQ ?_);exact zAw (pb a ai (pre:=[.ref _]) (first:=[.ref _]) ⟨_,_,rfl,dA,rfl⟩ aG) (fun _ _ k=>Back.after aq k) fun _ _ e=>e
end
set_option tactic.hygienic true in
theorem ox{K:Frag}{C:Addr}(e:makesIn K C=true):keepIn K (.ref C)=true:=by
 delta makesIn at e;delta keepIn;dsimp only;generalize K.lookup C=o at e⊢;cases o with
 |none=>cases e
 |some o=>
  obtain⟨oc,od,da,sl⟩:=o;cases da with
  |cls cd=>
   simp only[and_eq_true]at e;exact e.1.2
  |_=>exact ft rfl e
section
variable {c:Cy} {H:Z} {s:Shared}
theorem Inv.Ec{h:Heap}{g d t os}(I:Inv c.toCx H ⟨h,g,d,t,os⟩)(C:lE):
  Inv c.toCx (H.set (h.objs.size+1) (.inst C [])) ⟨(h.push emptyDict).push (instObj (c.ca C) h.objs.size),g,d,t,os⟩/\
  Step H (H.set (h.objs.size+1) (.inst C [])) ⟨h,g,d,t,os⟩ ⟨(h.push emptyDict).push (instObj (c.ca C) h.objs.size),g,d,t,os⟩:=by
 have k:∀b o,h.get? b=some o->((h.push emptyDict).push (instObj (c.ca C) h.objs.size)).get? b=some o:=fun b o e=>az _ _ _ (az _ _ _ e);have J:Inv c.toCx H ⟨(h.push emptyDict).push (instObj (c.ca C) h.objs.size),g,d,t,os⟩:=I.grow (t:=t) k
 have ow:∀b,aQ (H.set (h.objs.size+1) (.inst C [])) b->aQ H b\/h.objs.size<=b:=by
  rintro b (x |⟨D,fs,x⟩)
  .by_cases e:b=h.objs.size+1
   .exact .inr (e▸zDw _)
   .rw[Z.af _ _ e]at x;exact .inl (.inl x)
  .by_cases e:b+1=h.objs.size+1
   .exact .inr (Nat.le_of_eq (Nat.succ.inj e).symm)
   .rw[Z.af _ _ e]at x;exact .inl (.inr ⟨D,fs,x⟩)
 refine⟨⟨J.gens,J.drawn,J.os,J.base,fun b bo e=>?_,fun b ho=>?_,fun b D fs e=>?_,J.bad⟩,⟨fun b o e _ _=>k _ _ e,fun b ho=>?_,fun b x=>?_⟩⟩
 .by_cases q:b=h.objs.size+1
  .subst q;rw[Z.ab]at e;obtain rfl:=so e;refine⟨succ_pos _,?_,[],?_,rfl,by decide⟩
   .have:=zAr (h:=h.push emptyDict) (o:=instObj (c.ca C) h.objs.size) rfl;rw[zGw]at this;exact this
   .rw[Nat.add_sub_cancel];exact(Heap.DictOf.new h).push _
  .rw[Z.af _ _ q]at e;exact J.obj b bo e
 .rcases ow b ho with x |x
  .exact J.off b x
  .exact I.cF (s:=⟨h,g,d,t,os⟩) x
 .by_cases q:b=h.objs.size+1
  .clear e;subst q;rw[Nat.add_sub_cancel];rw[Z.af _ _ (by exact aB 92438537)]
   exact I.fresh (s:=⟨h,g,d,t,os⟩) (zAq _)
  .rw[Z.af _ _ q]at e;have:=I.lt (s:=⟨h,g,d,t,os⟩) (a:=b) (by rw[e];simp)
   rw[Z.af _ _ (by exact(aD 0x5868b054242016) (this:b<h.objs.size))];exact J.apart b D fs e
 .rcases ow b ho with x |x
  .exact .inl x
  .exact .inr (bg x)
 .obtain⟨o,e⟩:=zAp.mp x;refine(?_:(Heap.get? _ b).isSome=true);rw[k _ _ e];rfl
end
theorem qu{A:Around}{C:Addr}{n:Nat}{rest:List Value}{kw}(R:jE A (n+1)):jE (A.under (.builtin "type.__call__" ⟨.ref C::rest,kw⟩)) n:=by
 obtain⟨h1,h2,h3⟩:=R
 have hw:Code.weight (.builtin "type.__call__" ⟨.ref C::rest,kw⟩)=1:=by
  have:Code.frames (.builtin "type.__call__" ⟨.ref C::rest,kw⟩)=0:=rfl;have h2:Code.isGuard (.builtin "type.__call__" ⟨.ref C::rest,kw⟩)=false:=by refine(?_:guardIds.contains "type.__call__"=false);decide+kernel
  have h3:Code.isCaller (.builtin "type.__call__" ⟨.ref C::rest,kw⟩)=false:=rfl;unfold Code.weight;rw[this];rw[h2];rw[h3];rfl
 have hu:Code.cUnits (.builtin "type.__call__" ⟨.ref C::rest,kw⟩)<=1:=by refine(?_:1+3*Code.frames (.builtin "type.__call__" ⟨.ref C::rest,kw⟩)<=1);exact zAq 1
 refine⟨h1,?_,?_⟩
 .refine(?_:A.depth+_+n<_);rw[hw];exact(aP 0x10560a5044b0d01416) h2
 .refine(?_:A.units+_+16*n+16<_);exact(dq 0x100000438187460a5282b19308000021c58690e829416) h3 hu
section
variable {sc:Sc}
theorem SE.new{x:Str}{p pos}{C:lE}{es:List Expr}{q:PE}(hg:sc.eW x=true)(hf:kh.lookup x=some C)(a:AL sc es q):SE sc (.Call (.Name x p) es [] pos) (.new C q):=by
 refine .plain (fun c A env n ρ H s Q P h=>?_) (fun _ _=>rfl) (fun _ _ _ _ _=>rfl);have ok:=P.ok.h
 have hd:(x==("__debug__":Str))=false:=by
  have all:(kh.all fun p=>!(p.1==("__debug__":Str)))=true:=by decide+kernel
  have:=zCp.mp all _ (lookup_mem hf);simpa using this
 refine Call_Name rfl (fc ok P hg hd (ok.ct _ (lookup_mem hf)) ?_);have iI:=fV (env:=env) (pos:=pos) a;refine callWith_of (P:=fun h=>P.ok.K.In h) (by simpa using iI) (fun h k=>keeps_K (ox (ok.makes C)) h k) (fU iI (zAw (a.sl _ _ _ _ _ _ _ _ pos P (show bA c n q ρ H (iG (Lv c n C Q)) from h)) (fun vs ah b=>?_) fun _ _ e=>e))
 obtain⟨l,aa,bC,aq,eQ,aG⟩:=b;cases n with
 |zero=>exact aG.elim
 |succ m=>
  refine⟨bC.kx ok,wpAny_call ?_⟩;obtain⟨hh,g,d,t,os⟩:=ah;have X:=bC.kx ok;obtain⟨aY,aI⟩:=bC.Ec C;refine make_core (makes_of X (ok.makes C)) (looks_findIn X (ok.init C)) (fun self=>bind_fn X self (ok.HY _)) (.inl rfl) ?_;refine codeAny_mono (aG _ (bC.fresh (s:=⟨hh,g,d,t,os⟩) (a:=hh.objs.size+1) (zDw _)) _ _ _ (qu P.R) aY (⟨_,_,rfl,dA,cU (cU eQ)⟩:bj c.toCx ((hh.push emptyDict).push (instObj (c.ca C) hh.objs.size)) (.ref (hh.objs.size+1)::l) (.ref (hh.objs.size+1)::vs))) fun r s' b=>?_;rcases r with e |(v |_ |_ |_)<;>first |exact b.elim |skip
  obtain⟨y,cS,qv,fy,ry,Mq⟩:=b;cases y with
  |none=>exact⟨ry,.ref _,cS,qv,(aq.trans aI).trans fy,dA,Mq⟩
  |_=>exact Mq.elim
end
theorem mR{x:Expr}{env:Env}(h:aC x=false):starEach [x] env=[(false,eval x env)]:=jH h
theorem AS{x y:Expr}{env:Env}(h:aC x=false)(h':aC y=false):starEach [x,y] env=[(false,eval x env),(false,eval y env)]:=by rw[jH h];rw[mR h']
section
variable {prog:Program} {w:World} {A:Around} {E:Value->Shared->Prop} {s:Shared} {env:Env} {Q:Value->Shared->Prop}
theorem AU{pos:Pos}{id:String}{x:Expr}(hx:aC x=false)(h:wpAny (model prog w) A (eval x env) (fun v ah=>wpAny (model prog w) A (call (.builtin id) [v]) Q E ah) E s):
  wpAny (model prog w) A (callWith pos (.builtin id) [] (backTo pos (starEach [x] env)) []) Q E s:=by
 rw[mR hx];exact Calls.callWith_builtin rfl (Calls.evalArgs_plain (Calls.spliced_cons (zAw h (fun v ah aG=>Calls.spliced_nil aG) fun _ _ e=>e)))
theorem uM{pos:Pos}{id:String}{x y:Expr}(hx:aC x=false)(hy:aC y=false)
  (h:wpAny (model prog w) A (eval x env) (fun v ah=>wpAny (model prog w) A (eval y env) (fun u bb=>wpAny (model prog w) A (call (.builtin id) [v,u]) Q E bb) E ah) E s):
  wpAny (model prog w) A (callWith pos (.builtin id) [] (backTo pos (starEach [x,y] env)) []) Q E s:=by
 rw[AS hx hy];exact Calls.callWith_builtin rfl (Calls.evalArgs_plain (Calls.spliced_cons (zAw h (fun v ah aG=>Calls.spliced_cons (zAw aG (fun _ _ aL=>Calls.spliced_nil aL) fun _ _ e=>e)) fun _ _ e=>e)))
theorem gM{pos:Pos}{T:String}{x:Expr}(hx:aC x=false)(h:wpAny (model prog w) A (eval x env) (fun v ah=>wpAny (model prog w) A (call (.type T) [v]) Q E ah) E s):
  wpAny (model prog w) A (callWith pos (.type T) [] (backTo pos (starEach [x] env)) []) Q E s:=by
 rw[mR hx];exact PyProof.Rows.callWith_type rfl (Calls.evalArgs_plain (Calls.spliced_cons (zAw h (fun v ah aG=>Calls.spliced_nil aG) fun _ _ e=>e)))
theorem Ij{pos:Pos}{id:String}{o:Value}(h:wpAny (model prog w) A (call (.builtin id) [o]) Q E s):
  wpAny (model prog w) A (callWith pos (.builtin id) [o] (backTo pos (starEach [] env)) []) Q E s:=
 Calls.callWith_builtin rfl (evalArgs_nil3 h)
theorem uN{pos:Pos}{id:String}{o:Value}{x:Expr}(hx:aC x=false)(h:wpAny (model prog w) A (eval x env) (fun v ah=>wpAny (model prog w) A (call (.builtin id) [o,v]) Q E ah) E s):
  wpAny (model prog w) A (callWith pos (.builtin id) [o] (backTo pos (starEach [x] env)) []) Q E s:=by
 rw[mR hx];exact Calls.callWith_builtin rfl (Calls.evalArgs_plain (Calls.spliced_cons (zAw h (fun v ah aG=>Calls.spliced_nil aG) fun _ _ e=>e)))
theorem pg{o:Expr}{nm:Str}{ap pos:Pos}{args:List Expr}{T id:String}(ho:bO o=true)(hl:(ap.endLine==pos.line)=true)(hn:args.length<20)
  (iI:(backTo pos (starEach args env)).any (·.1)=false) (pa:PlainAttrs T) (slot:Slot T nm id) (Xw:typeOf (.builtin id)=pure (.type "method_descriptor"))
  (h:wpAny (model prog w) A (eval o env) (fun ov ah=>∃a ob,ov= .ref a/\ah.heap.get? a=some ob/\ob.cls= .type T/\ob.dict=none/\wpAny (model prog w) A (callWith pos (.builtin id) [ov] (backTo pos (starEach args env)) []) Q E ah) E s):
  wpAny (model prog w) A (eval (.Call (.Attribute o nm ap) args [] pos) env) Q E s:=by
 refine wpAny_Call_method_lateS (sA ho _ _ _) ?_ hl (zAw h (fun ov ah aG=>?_) fun _ _ e=>e)
 .simp only[and_eq_true,decide_eq_true_eq];refine⟨⟨?_,rfl⟩,?_⟩
  .rw[zCp];intro y hy;rw[List.any_eq_false]at iI;simpa using iI y hy
  .refine(?_:args.length+0+0<30);exact(aB 0x3dc52814a080000538016) hn
 .obtain⟨a,ob,rfl,h1,h2,h3,h4⟩:=aG;exact⟨T,id,pa,slot,Xw,⟨_,h1,h2⟩,fun b e=>by cases e;exact⟨_,h1,h3⟩,h4⟩
end
theorem fA{h:Heap}{a:Addr}{xs:Array Value}{n:Nat}(e:h.get? a=some ⟨.type "list",none,.seq xs n,#[]⟩)(f:Array Value->Array Value):∃n',(h.update a (Obj.mapSeq f)).get? a=some ⟨.type "list",none,.seq (f xs) n',#[]⟩:=
 ⟨_,zCo (Obj.mapSeq f) e (Obj.isFreed_of_seq (n:=_) rfl)⟩
section
variable {c:Cy} {A:Around} {H:Z} {s:Shared} {Q:V->Z->Prop}
theorem Inv.qw(I:Inv c.toCx H s){p:Addr}{l l':List V}{xs:Array Value}{n:Nat}(hH:H p=some (.list l))(e:s.heap.get? p=some ⟨.type "list",none,.seq xs n,#[]⟩)(f:Array Value->Array Value)(r:bj c.toCx s.heap l' (f xs).toList){t:Nat}:
  Inv c.toCx (H.set p (.list l')) {s with heap:=s.heap.update p (Obj.mapSeq f),toks:=t}/\Step H (H.set p (.list l')) s {s with heap:=s.heap.update p (Obj.mapSeq f),toks:=t}:=by
 obtain⟨n',e'⟩:=fA e f;refine I.change hH (zBo ..) ⟨n',_,e',bj.mono (fun b ys m _ z=>?_) _ r⟩ (by simp) (by simp)
 exact(Heap.get?_update_other _ _ (fun q=>by subst q;rw[e]at z;simp at z)).trans z
theorem sE{p:Addr}{l:List V}{y:V}{v:Value}(I:Inv c.toCx H s)(hH:H p=some (.list l))(ry:VR c.toCx s.heap y v)(hl:l.length<lim)(q:Q .none (H.set p (.list (l++[y])))):
  wpAny c.M A (call (.builtin "list.append") [.ref p,v]) (Back c.toCx H s Q) bZ s:=by
 obtain⟨n,xs,e,r⟩:=I.obj p _ hH;have e1:=aE r;simp only[length_toList]at e1;have ag:=dS;refine zEu PySem.F.slot_list_append ⟨_,e,rfl⟩ PySem.F.entry_list_append ?_ (PySem.F.args_list_append_2 _ _);refine(?_:wpAny _ _ (updateSeq p (·.push v)>>=fun _=>ret .none) _ _ s);have hz:xs.size<=sizeLine:=(aD 0x8000007025000000e03d090384c008303d09038016) hl e1 ag;refine lk (wpAny_updateSeq e rfl (Up ⟨.none,rfl,?_⟩) hz (zDo (Nat.le_of_eq (Array.size_push ..)) (Nat.succ_le_succ hz)));obtain⟨aY,aI⟩:=I.qw (l':=l++[y]) (t:=s.toks) hH e (·.push v) (by rw[toList_push];exact cD r ⟨v,[],rfl,ry,rfl⟩)
 exact⟨_,_,aY,aI,iq,q⟩
theorem AV{p:Addr}{l:List V}{y:V}(I:Inv c.toCx H s)(hH:H p=some (.list l))(hy:l.getLast?=some y)(hl:l.length<=lim)(q:Q y (H.set p (.list l.dropLast))):
  wpAny c.M A (call (.builtin "list.pop") [.ref p]) (Back c.toCx H s Q) bZ s:=by
 obtain⟨n,xs,e,r⟩:=I.obj p _ hH;have e1:=aE r;simp only[length_toList]at e1;have ag:=dS;rw[List.getLast?_eq_getElem?]at hy;obtain⟨v,ev,rv⟩:=eF r hy;rw[←e1,zDi]at ev;refine call_meets PySem.F.slot_list_pop ⟨_,e,rfl⟩ PySem.F.entry_list_pop (PySem.F.args_list_pop_1 _) (PySem.MeetsSeq.list_pop_last p xs n v ev ((aD 0x8000007025000000e03d090384c008303d09038026) hl e1 ag)) ⟨e,?_⟩
 obtain⟨aY,aI⟩:=I.qw (l':=l.dropLast) (t:=s.toks) hH e (fun ys=>ys.eraseIdxIfInBounds (xs.size-1)) (by
  have:(xs.eraseIdxIfInBounds (xs.size-1)).toList=xs.toList.dropLast:=by rw[Array.toList_eraseIdxIfInBounds];rw[List.dropLast_eq_take];rw[List.eraseIdx_eq_take_drop_succ];simp;exact(aD 0x5ac15a0082006) e1
  have e3:xs.toList.length=l.length:=e1;rw[this];rw[List.dropLast_eq_take];rw[List.dropLast_eq_take];rw[e3];exact mM _ r)
 exact⟨_,_,aY,aI,I.vr aI rv,q⟩
theorem sF{p r:Addr}{l l':List V}(I:Inv c.toCx H s)(hH:H p=some (.list l))(hR:H r=some (.list l'))(hl:(l++l').length<=lim)(q:Q .none (H.set p (.list (l++l')))):
  wpAny c.M A (call (.builtin "list.extend") [.ref p,.ref r]) (Back c.toCx H s Q) bZ s:=by
 obtain⟨n,xs,e,rx⟩:=I.obj p _ hH;obtain⟨n2,ys,e',ry⟩:=I.obj r _ hR;have e1:=aE rx;have e2:=aE ry;simp only[length_toList]at e1 e2;have ag:=dS;rw[length_append]at hl;refine call_meets PySem.F.slot_list_extend ⟨_,e,rfl⟩ PySem.F.entry_list_extend (PySem.F.args_list_extend_2 _ _) (PySem.AutoSeq1.list_extend_list_list_0 p xs n r ys n2 ?_ ((dq 0x8000007045000000e03d090384c11830040c0f4240e041426) hl e1 e2 ag) ((dq 0x5c0000039418a85000000e03d090384c11830040c0f4240e041426) hl e1 e2 ag)) ⟨e,e',?_⟩
 .simp only[and_eq_true,not_and];intro _;simp only[Builtin.List.listTooLong,decide_eq_true_eq];rw[sizeLine_eq]at*
  show¬(_>_)
  have:lim=1000000:=rfl;exact(rN 0x20e9000000e0c83d090382060901803061041426) hl e1 e2 this
 .obtain⟨aY,aI⟩:=I.qw (l':=l++l') (t:=s.toks) hH e (fun x=>x++ys) (by rw[Array.toList_append];exact cD rx ry)
  exact⟨_,_,aY,aI,iq,q⟩
end
theorem jJ{c:Cy}{H:Z}{s:Shared}(I:Inv c.toCx H s){p:Addr}(h:W9 (H p)):∃ob,s.heap.get? p=some ob/\ob.cls= .type "list"/\ob.dict=none:=by
 cases q:H p with
 |none=>rw[q]at h;exact h.elim
 |some ao=>
  cases ao with
  |list l=>obtain⟨n,xs,e,_⟩:=I.obj p _ q;exact⟨_,e,rfl,rfl⟩
  |_=>rw[q]at h;exact h.elim
theorem sG{c:Cy}{H:Z}{s:Shared}(I:Inv c.toCx H s){p:Addr}(h:OF (H p)):∃ob,s.heap.get? p=some ob/\ob.cls= .type "dict"/\ob.dict=none:=by
 cases q:H p with
 |none=>rw[q]at h;exact h.elim
 |some ao=>
  cases ao with
  |ax m=>obtain⟨kvs,e,_⟩:=I.obj p _ q;obtain⟨es,n,e⟩:=aR e;exact⟨_,e,rfl,rfl⟩
  |aZ m=>obtain⟨kvs,e,_⟩:=I.obj p _ q;obtain⟨es,n,e⟩:=aR e;exact⟨_,e,rfl,rfl⟩
  |bU m=>obtain⟨xs,e,_⟩:=I.obj p _ q;obtain⟨es,n,e⟩:=cH e;exact⟨_,e,rfl,rfl⟩
  |list l=>rw[q]at h;exact h.elim
  |inst C fs=>rw[q]at h;exact h.elim
section
variable {sc:Sc}
theorem SE.append{o x:Expr}{p q:PE}{ap pos}(ho:bO o=true)(hl:(ap.endLine==pos.line)=true)(hx:aC x=false)(a:SE sc o p)(b:SE sc x q):
  SE sc (.Call (.Attribute o (Str.ofString "append") ap) [x] [] pos) (.append p q):=by
 refine .plain (fun c A env n ρ H s Q P h=>?_) (fun _ _=>rfl) (fun _ _ _ _ _=>rfl);dsimp only[bX]at h;refine pg (T:="list") ho hl (by refine(?_:1<20);decide) (by rw[mR hx];rfl) PySem.F.plainAttrs_list PySem.F.slot_list_append PySem.F.type_list_append (a.then P h fun v ah xv aa ai aq rx aG=>?_)
 obtain⟨p,l,rfl,hH,aG⟩:=mC aG;cases (show v= .ref p from rx)
 obtain⟨ob,e1,e2,e3⟩:=jJ ai.I (p:=p) (by rw[hH];trivial)
 refine⟨p,ob,rfl,e1,e2,e3,uN hx (b.then ai aG fun w bb y ak bh aI ry aL=>?_)⟩;obtain⟨l,hH,g1,g2⟩:=Av aL;exact zAw (sE bh.I hH ry g1 g2) (fun _ _ k=>Back.after (aq.trans aI) k) fun _ _ e=>e
theorem SE.pop{o:Expr}{p:PE}{ap pos}(ho:bO o=true)(hl:(ap.endLine==pos.line)=true)(a:SE sc o p):
  SE sc (.Call (.Attribute o (Str.ofString "pop") ap) [] [] pos) (.pop p):=by
 refine .plain (fun c A env n ρ H s Q P h=>?_) (fun _ _=>rfl) (fun _ _ _ _ _=>rfl);dsimp only[bX]at h;refine pg (T:="list") ho hl (by refine(?_:0<20);decide) rfl PySem.F.plainAttrs_list PySem.F.slot_list_pop PySem.F.type_list_pop (a.then P h fun v ah xv aa ai aq rx aG=>?_)
 obtain⟨p,l,x,rfl,hH,g0,g1,g2⟩:=Aw aG;cases (show v= .ref p from rx)
 obtain⟨ob,e1,e2,e3⟩:=jJ ai.I (p:=p) (by rw[hH];trivial)
 exact⟨p,ob,rfl,e1,e2,e3,Ij (zAw (AV ai.I hH g0 g1 g2) (fun _ _ k=>Back.after aq k) fun _ _ e=>e)⟩
theorem SE.extend{o x:Expr}{p q:PE}{ap pos}(ho:bO o=true)(hl:(ap.endLine==pos.line)=true)(hx:aC x=false)(a:SE sc o p)(b:SE sc x q):
  SE sc (.Call (.Attribute o (Str.ofString "extend") ap) [x] [] pos) (.extend p q):=by
 refine .plain (fun c A env n ρ H s Q P h=>?_) (fun _ _=>rfl) (fun _ _ _ _ _=>rfl);dsimp only[bX]at h;refine pg (T:="list") ho hl (by refine(?_:1<20);decide) (by rw[mR hx];rfl) PySem.F.plainAttrs_list PySem.F.slot_list_extend PySem.F.type_list_extend (a.then P h fun v ah xv aa ai aq rx aG=>?_)
 obtain⟨p,l,rfl,hH,aG⟩:=mC aG;cases (show v= .ref p from rx)
 obtain⟨ob,e1,e2,e3⟩:=jJ ai.I (p:=p) (by rw[hH];trivial)
 refine⟨p,ob,rfl,e1,e2,e3,uN hx (b.then ai aG fun w bb y ak bh aI ry aL=>?_)⟩;obtain⟨q,l,l',rfl,g1,g2,g3,g4,g5⟩:=xY aL;cases (show w= .ref _ from ry)
 exact zAw (sF bh.I g1 g2 g4 g5) (fun _ _ k=>Back.after (aq.trans aI) k) fun _ _ e=>e
end
section
variable {m:List (bW×Int)} {xs:List (bW×Addr×Value)} {k:bW}
theorem NR.look:∀{m:List (bW×Int)} {xs:List (bW×Addr×Value)},NR m xs->match aj k m with
  |some i=>∃a t,atKey xs k=some (a,.int i t)
  |none=>atKey xs k=none:=by
 intro m
 induction m with
 |nil=>intro xs r;cases (show xs=[] from r);rfl
 |cons p m ih=>
  obtain⟨x,i⟩:=p;rintro _ ⟨a,t,r,e,h⟩;subst e;rw[aK];by_cases q:x=k
  .subst q;rw[zBq rfl];exact⟨a,t,by simp[atKey]⟩
  .rw[zAi q];have e3:atKey ((x,a,.int i t)::r) k=atKey r k:=by simp[atKey,find?_cons,q]
   rw[e3];exact ih h
theorem NR.length{m:List (bW×Int)}{xs:List (bW×Addr×Value)}(r:NR m xs):xs.length=m.length:=by
 induction m generalizing xs with
 |nil=>cases (show xs=[] from r);rfl
 |cons p m ih=>obtain⟨a,t,r',rfl,h⟩:=r;simp[ih h]
theorem lA{x:bW}{a:Addr}{v w:Value}{b:Addr}{r:List (bW×Addr×Value)}(q:¬x=k):storedH ((x,a,v)::r) k b w=(x,a,v)::storedH r k b w:=by
 have e3:atKey ((x,a,v)::r) k=atKey r k:=by simp[atKey,find?_cons,q]
 delta storedH;rw[e3];by_cases z:(atKey r k).isSome=true
 .rw[zBq z];rw[zBq z];simp[putAt,q]
 .rw[zAi z];rw[zAi z];rfl
theorem lB{a:Addr}{v w:Value}{b:Addr}{r:List (bW×Addr×Value)}(hn:((k,a,v)::r).map (·.1) |>.Nodup):storedH ((k,a,v)::r) k b w=(k,a,w)::r:=by
 delta storedH;rw[zBq (by simp[atKey])]
 simp only[map_cons,nodup_cons]at hn;rw[map_cons];rw[map_putAt_of_not_mem r k w hn.1];simp[putAt]
theorem NR.put{b:Addr}{j:Int}{u:Tok}:∀{m:List (bW×Int)} {xs:List (bW×Addr×Value)},(xs.map (·.1)).Nodup->NR m xs->NR (putD k j m) (storedH xs k b (.int j u)):=by
 intro m
 induction m with
 |nil=>intro xs _ r;cases (show xs=[] from r);exact⟨b,u,[],rfl,rfl⟩
 |cons p m ih=>
  obtain⟨x,i⟩:=p;rintro _ hn ⟨a,t,r,e,h⟩;subst e;rw[aO];by_cases q:x=k
  .subst q;rw[zBq rfl,lB hn];exact⟨a,u,r,rfl,h⟩
  .rw[zAi q];rw[lA q];exact⟨a,t,_,rfl,ih (by simp only[map_cons,nodup_cons]at hn;exact hn.2) h⟩
end
theorem AW{y:V}{k:bW}(e:ek y=some k):y=Lb k:=by
 cases y with
 |tup l=>
  obtain- |⟨a,- |⟨b,- |⟨x,- |⟨d,- |⟨_,_⟩⟩⟩⟩⟩:=l
  case cons.cons.cons.cons.nil=>
   obtain⟨o,ha,e⟩:=zFw.mp (show Lm a b x d=some k from e)
   obtain⟨as,hb,e⟩:=zFw.mp e;obtain⟨s,hc,e⟩:=zFw.mp e;obtain⟨d',hd,e⟩:=zFw.mp e;obtain⟨is,h,rfl⟩:=zBt.mp e;rw[wz ha];rw[DM hb];rw[qg hc];rw[qg hd];rw[rY h];rfl
  all_goals exact sn e rfl
 |_=>exact sn e rfl
theorem sH{c:Cx}{h:Heap}{y:V}{k:bW}{v:Value}(e:ek y=some k)(r:VR c h y v):∃a,v= .ref a/\c8 c h k a:=by rw[AW e]at r;obtain⟨a,n,xs,rfl,_⟩:=id r;exact⟨a,rfl,r⟩
theorem sI{c:Cx}{h:Heap}{p:Addr}{ao:aN}{m:List (bW×Int)}(o:dI c h p ao)(e:r6 ao=some m):∃xs,h.DictOfH (eN c) p xs/\NR m xs:=by
 cases ao with
 |bU m'=>cases (show some m'=some m from e);exact o
 |ax l=>
  cases l with
  |nil=>
   cases (show some []=some m from e)
   obtain⟨kvs,⟨o',es,ep,h1,h2,h3,h4,h5,h6⟩,r⟩:=o;clear h6;cases (show kvs=[] from r)
   have:es.toList=[]:=List.length_eq_zero_iff.mp h5.length;exact⟨[],⟨o',es,ep,h1,h2,h3,by rw[this];rfl,by simp,by simp⟩,rfl⟩
  |cons _ _=>exact sn e rfl
 |_=>exact sn e rfl
section
variable {c:Cy} {A:Around} {H:Z} {s:Shared} {Q:V->Z->Prop} {sc:Sc}
theorem Ik{prog:Program}{w:World}{A:Around}{E:Value->Shared->Prop}{s:Shared}{env:Env}{Q:Value->Shared->Prop}{pos:Pos}{id:String}{o:Value}{x y:Expr}(hx:aC x=false)(hy:aC y=false)
  (h:wpAny (model prog w) A (callWith pos (.builtin id) [o] [(false,eval x env),(false,eval y env)] []) Q E s):
  wpAny (model prog w) A (callWith pos (.builtin id) [o] (backTo pos (starEach [x,y] env)) []) Q E s:=by
 rw[AS hx hy];exact h
theorem Ed{Q:EQ}{H:Z}{y z:V}{o:Option aN}(h:OM Q z H (o.bind r6) (ek y)):∃m i,o.bind r6=some m/\ek y=some i/\Q (((aj i m).map V.int).getD z) H:=by
 cases e1:o.bind r6 with
 |none=>rw[e1]at h;exact h.elim
 |some m=>rw[e1]at h;cases e2:ek y with
  |none=>rw[e2]at h;exact h.elim
  |some i=>rw[e2]at h;exact⟨m,i,rfl,rfl,h⟩
theorem Ee{Q:EQ}{H:Z}{k:Nat}{z:V}{o:Option aN}(h:OL Q k z H o):∃m,o=some (.aZ m)/\Q ((aj k m).getD z) H:=by
 cases o with
 |none=>exact h.elim
 |some a=>cases a with
  |aZ m=>exact⟨m,rfl,h⟩
  |_=>exact h.elim
theorem AX{Q:EQ}{H:Z}{p:Nat}{y z:V}(h:xU Q p y z H):(∃i m,y= .int i/\H p=some (.ax m)/\Q ((aj i m).getD z) H)\/(∃k m,y= .str k/\H p=some (.aZ m)/\Q ((aj k m).getD z) H)\/
  ∃m i,(H p).bind r6=some m/\ek y=some i/\Q (((aj i m).map V.int).getD z) H:=by
 cases y with
 |int i=>obtain⟨m,e,h⟩:=fw (P:=OI Q i z H) id (fun _=>id) (fun _=>id) (fun _=>id) (fun _ _=>id) h;exact .inl ⟨i,m,rfl,e,h⟩
 |str i=>obtain⟨m,e,h⟩:=Ee h;exact .inr (.inl ⟨i,m,rfl,e,h⟩)
 |_=>exact .inr (.inr (Ed (o:=H p) h))
theorem SE.qr{o x y:Expr}{p q d:PE}{ap pos}(ho:bO o=true)(hl:(ap.endLine==pos.line)=true)(hx:aC x=false)(hy:aC y=false)(a:SE sc o p)(b:SE sc x q)(b':SE sc y d):
  SE sc (.Call (.Attribute o (Str.ofString "get") ap) [x,y] [] pos) (.qr p q d):=by
 refine .plain (fun c A env n ρ H s Q P h=>?_) (fun _ _=>rfl) (fun _ _ _ _ _=>rfl);dsimp only[bX]at h;refine pg (T:="dict") ho hl (by refine(?_:2<20);decide) (by rw[AS hx hy];rfl) PySem.F.plainAttrs_dict PySem.F.slot_dict_get PySem.F.type_dict_get (a.then P h fun v ah xv aa ai aq rx aG=>?_)
 obtain⟨p,rfl,h0,aG⟩:=Au aG;cases (show v= .ref p from rx)
 obtain⟨ob,e1,e2,e3⟩:=sG ai.I h0;have Il:(p==sysModules)=false:=ai.I.sm P.ok.h (.inl (by intro z;rw[z]at h0;exact h0))
 refine⟨p,ob,rfl,e1,e2,e3,Ik hx hy ?_⟩;refine PySem.method2_meetsIn PySem.F.slot_dict_get PySem.F.entry_dict_get (b.then ai aG fun kv bb yv ak bh aI ry aL=>b'.then bh aL fun dv gw zv cS cW fy rz dK=>?_);have sJ:=bh.I.vr fy ry;have SS:=(aq.trans aI).trans fy;clear aL ry;rcases AX dK with⟨i,m,rfl,hH,dK⟩ |⟨i,m,rfl,hH,dK⟩ |⟨m,i,hm,hk,dK⟩
 .obtain⟨t,rfl⟩:=sJ;obtain⟨kvs,hd,pr⟩:=cW.I.obj p _ hH;refine⟨hd.typeIs,PySem.F.args_dict_get_3 _ _ _,_,meets_dict_get_default (k:=i) _ p (by simp[PySem.intKind,Value.isInt]) Il dv,_,hd.mapOf,?_⟩
  have:=PR.look (k:=i) (fun _ _ e=>e) pr rfl;cases e:aj i m with
  |none=>rw[e]at this dK;simp only[id]at this;rw[this];exact Back.after SS (Back.bR cW.I rz dK)
  |some v=>rw[e]at this dK;obtain⟨x,e2,r2⟩:=this;simp only[id]at e2;rw[e2];exact Back.after SS (Back.bR cW.I r2 dK)
 .obtain⟨hi,t,rfl⟩:=sJ;obtain⟨kvs,hd,pr,hf⟩:=cW.I.obj p _ hH;refine⟨hd.typeIs,PySem.F.args_dict_get_3 _ _ _,_,meets_dict_get_default (k:=strOf i) _ p (by simp[PySem.strKind,Value.isStrOf]) Il dv,_,hd.mapOf,?_⟩
  have:=PR.look (k:=i) (fun p hp e=>dP (hf p hp) hi e) pr rfl;cases e:aj i m with
  |none=>rw[e]at this dK;simp only at this;rw[this];exact Back.after SS (Back.bR cW.I rz dK)
  |some v=>rw[e]at this dK;obtain⟨x,e2,r2⟩:=this;rw[e2];exact Back.after SS (Back.bR cW.I r2 dK)
 .obtain⟨ao,hH,hm⟩:=zFw.mp hm;obtain⟨xs,hd,nr⟩:=sI (cW.I.obj p _ hH) hm;obtain⟨a,rfl,na⟩:=sH hk sJ;refine⟨hd.typeIs,PySem.F.args_dict_get_3 _ _ _,_,meetsH_dict_get_default (eN c.toCx) p a Il dv,?_,i,xs,na,hd,?_⟩
  .refine(?_:A.units+1+1<cLine);have:=P.R.2.2;exact(aD 0x26ace2d60a504004d59c0000087030e829416) this
  .have:=nr.look (k:=i);cases e:aj i m with
   |none=>rw[e]at this dK;simp only at this;rw[this];exact Back.after SS (Back.bR cW.I rz dK)
   |some j=>rw[e]at this dK;obtain⟨b,t,e2⟩:=this;rw[e2];exact Back.after SS (Back.bR cW.I cK dK)
end
section
variable {sc:Sc}
theorem uO{x:Expr}{f:String}{fp pos:Pos}{c:Cy}{A:Around}{env:Env}{n:Nat}{ρ:List (Option V)}{H:Z}{s:Shared}{Q:Value->Shared->Prop}{p:PE}{Kk:V->Z->Prop}(a:SE sc x p)(hx:aC x=false)(P:At c sc A env n ρ H s)(hg:sc.eW (Str.ofString f)=true)(hf:f∈kj)
  {id:String} (hv:bootBuiltins (Str.ofString f)=some (.builtin id)) (h:bA c n p ρ H Kk)
  (k:∀v ah y aa,At c sc A env n ρ aa ah->Step H aa s ah->VR c.toCx ah.heap y v->Kk y aa->wpAny c.M A (call (.builtin id) [v]) Q bZ ah)
  (hd:(Str.ofString f==("__debug__":Str))=false:=by decide+kernel) (hn:Str.ofString f≠"__name__":=by decide+kernel):
  wpAny c.M A (eval (.Call (.Name (Str.ofString f) fp) [x] [] pos) env) Q bZ s:=by
 exact Call_Name rfl (aX P.ok.h P hg hf hv (AU hx (a.then P h k)) hd hn)
theorem uP{x:Expr}{f:String}{fp pos:Pos}{c:Cy}{A:Around}{env:Env}{n:Nat}{ρ:List (Option V)}{H:Z}{s:Shared}{Q:Value->Shared->Prop}{p:PE}{Kk:V->Z->Prop}(a:SE sc x p)(hx:aC x=false)(P:At c sc A env n ρ H s)(hg:sc.eW (Str.ofString f)=true)(hf:f∈kj)
  {id:String} (hv:bootBuiltins (Str.ofString f)=some (.type id)) (h:bA c n p ρ H Kk)
  (k:∀v ah y aa,At c sc A env n ρ aa ah->Step H aa s ah->VR c.toCx ah.heap y v->Kk y aa->wpAny c.M A (call (.type id) [v]) Q bZ ah)
  (hd:(Str.ofString f==("__debug__":Str))=false:=by decide+kernel) (hn:Str.ofString f≠"__name__":=by decide+kernel):
  wpAny c.M A (eval (.Call (.Name (Str.ofString f) fp) [x] [] pos) env) Q bZ s:=by
 exact Call_Name rfl (aX P.ok.h P hg hf hv (gM hx (a.then P h k)) hd hn)
theorem lim_63{n:Nat}(h:n<=lim):(n:Int)<2^ 63:=by have:lim=1000000:=rfl;exact(aB 0x20000000000000003c0ca03d090380f4240e0303d09038026) h this
theorem AY{Q:EQ}{H:Z}{o:Option aN}(h:z8 Q H o):(∃l,o=some (.list l)/\l.length<=lim/\Q (.int l.length) H)\/∃m,o=some (.ax m)/\m.length<=lim/\Q (.int m.length) H:=by
 cases o with
 |none=>exact h.elim
 |some a=>cases a with
  |list l=>exact .inl ⟨l,rfl,h⟩
  |ax l=>exact .inr ⟨l,rfl,h⟩
  |_=>exact h.elim
theorem SE.len{x:Expr}{p:PE}{fp pos}(hx:aC x=false)(hg:sc.eW (Str.ofString "len")=true)(a:SE sc x p):SE sc (.Call (.Name (Str.ofString "len") fp) [x] [] pos) (.b1 .len p):=by
 refine .plain (fun c A env n ρ H s Q P h=>?_) (fun _ _=>rfl) (fun _ _ _ _ _=>rfl);dsimp only[bX]at h;have ok:=P.ok.h;refine uO a hx P hg (by decide) (id:="len") (by decide+kernel) h fun v ah y aa ai aq r q=>?_
 cases y with
 |tup l=>
  obtain⟨b,m,xs,rfl,_,g,r'⟩:=fe r;have e1:=aE r';simp only[length_toList]at e1;refine PyProof.Rows.len_tuple ⟨_,g,rfl,m,rfl⟩ (by rw[e1];exact lim_63 q.1) ?_
  rw[e1];exact Back.after aq (Back.bR ai.I cK q.2)
 |ref b=>
  cases (show v= .ref b from r)
  rcases AY q with⟨l,hH,q1,q2⟩ |⟨m,hH,q1,q2⟩
  .obtain⟨m,xs,g,r⟩:=ai.I.obj b _ hH;have e1:=aE r;simp only[length_toList]at e1;refine PyProof.Rows.len_list ⟨_,g,rfl,m,rfl⟩ (by rw[e1];exact lim_63 q1) ?_
   rw[e1];exact Back.after aq (Back.bR ai.I cK q2)
  .obtain⟨kvs,hd,pr⟩:=ai.I.obj b _ hH;have e1:=pr.length;refine call_len_dict (ai.I.sm ok (.inl (by rw[hH];simp))) hd (by rw[e1];exact lim_63 q1) ?_
   rw[e1];exact Back.after aq (Back.bR ai.I cK q2)
 |_=>exact q.elim
theorem SE.abs{x:Expr}{p:PE}{fp pos}(hx:aC x=false)(hg:sc.eW (Str.ofString "abs")=true)(a:SE sc x p):SE sc (.Call (.Name (Str.ofString "abs") fp) [x] [] pos) (.b1 .abs p):=by
 refine .plain (fun c A env n ρ H s Q P h=>?_) (fun _ _=>rfl) (fun _ _ _ _ _=>rfl);dsimp only[bX]at h;refine uO a hx P hg (by decide) (id:="abs") (by decide+kernel) h fun v ah y aa ai aq r q=>?_
 cases y with
 |int i=>
  obtain⟨t,rfl⟩:=r;refine call_abs_int fun u tk=>?_;have:(if i<0 then -i else i)=(i.natAbs:Int):=by split<;>(first |exact(jy 3680888504390) ‹_› |exact(jy 1840407381142) ‹_›)
  rw[this];exact Back.after aq (Back.bR ai.I cK q)
 |_=>exact q.elim
theorem SE.tuple{x:Expr}{p:PE}{fp pos}(hx:aC x=false)(hg:sc.eW (Str.ofString "tuple")=true)(a:SE sc x p):SE sc (.Call (.Name (Str.ofString "tuple") fp) [x] [] pos) (.b1 .tuple p):=by
 refine .plain (fun c A env n ρ H s Q P h=>?_) (fun _ _=>rfl) (fun _ _ _ _ _=>rfl);dsimp only[bX]at h;have ag:=dS;refine uP a hx P hg (by decide) (id:="tuple") (by decide+kernel) h fun v ah y aa ai aq r q=>?_
 cases y with
 |tup l=>
  obtain⟨b,m,xs,rfl,_,g,r'⟩:=fe r;exact call_tuple_same ⟨_,g,rfl,m,rfl⟩ (Back.after aq (Back.here ai.I r q))
 |ref b=>
  cases (show v= .ref b from r)
  obtain⟨l,hH,q⟩:=lst_inv (P:=DP Q aa) id (fun _=>id) (fun _=>id) (fun _=>id) (fun _ _=>id) q;obtain⟨m,xs,g,r⟩:=ai.I.obj b _ hH;have e1:=aE r;simp only[length_toList]at e1;have q1:l.length<=lim:=q.1;refine PySem.call_tuple_list ⟨_,g,rfl,m,rfl⟩ (fun h' k=>?_) ((aD 0x80000070040f4240e04982006800000701e8481c26) ag e1 q1);have aY:=ai.I.grow (t:=ah.toks) k;have aI:=ay.grow (X:=fun _=>False) aa (t:=ah.toks) k;exact⟨_,_,aY.grow (t:=ah.toks) (az _),(aq.trans aI).trans (ay.grow _ (t:=ah.toks) (az _)),uJ (aY.fR (zAq _)) (zAr _ rfl) (cU (bj.mono (fun b xs n _ e=>k _ _ e) _ r)),q.2⟩
 |_=>exact q.elim
theorem SE.str1{x:Expr}{p:PE}{fp pos}(hx:aC x=false)(hg:sc.eW (Str.ofString "str")=true)(a:SE sc x p):SE sc (.Call (.Name (Str.ofString "str") fp) [x] [] pos) (.b1 .str p):=by
 refine .plain (fun c A env n ρ H s Q P h=>?_) (fun _ _=>rfl) (fun _ _ _ _ _=>rfl);dsimp only[bX]at h;refine uP a hx P hg (by decide) (id:="str") (by decide+kernel) h fun v ah y aa ai aq r q=>?_
 cases y with
 |int i=>
  obtain⟨t,rfl⟩:=r;obtain⟨z,e,q⟩:=dx q;obtain⟨k,hk,rfl⟩:=zBt.mp e;have hk:(if i=0 then some 23 else if i=1 then some 24 else if i=2 then some 25 else Option.none)=some k:=hk
  by_cases e:i=0
  .subst e;clear e;obtain rfl:=so hk;exact PySem.P.str_of_int (by decide) (Back.after aq (Back.bR ai.I (mG (by decide) (by decide+kernel)) q))
  rw[zAi e]at hk;by_cases e:i=1
  .subst e;obtain rfl:=so hk;exact PySem.P.str_of_int (by decide) (Back.after aq (Back.bR ai.I (mG (by decide) (by decide+kernel)) q))
  rw[zAi e]at hk;obtain⟨rfl,rfl⟩:=mA hk;exact PySem.P.str_of_int (by decide) (Back.after aq (Back.bR ai.I (mG (by decide) (by decide+kernel)) q))
 |_=>exact q.elim
end
section
variable {sc:Sc}
theorem SE.fP{x:Expr}{p:PE}{fp gp pos}(hx:aC x=false)(hg:sc.eW (Str.ofString "isinstance")=true)(AZ:sc.eW (Str.ofString "tuple")=true)(a:SE sc x p):
  SE sc (.Call (.Name (Str.ofString "isinstance") fp) [x,.Name (Str.ofString "tuple") gp] [] pos) (.b1 .fP p):=by
 refine .plain (fun c A env n ρ H s Q P h=>?_) (fun _ _=>rfl) (fun _ _ _ _ _=>rfl);dsimp only[bX]at h;have ok:=P.ok.h;refine Call_Name rfl (aX ok P hg (by decide) (v:=.builtin "isinstance") (by decide+kernel) (uM hx rfl (a.then P h fun v ah y aa ai aq r q=>aX ok ai AZ (by decide) (v:=.type "tuple") (by decide+kernel) ?_)))
 cases y with
 |tup l=>
  obtain⟨b,m,xs,rfl,_,g,r'⟩:=fe r;exact PySem.IsiPair.tuple_tuple g rfl (Back.after aq (Back.here ai.I dz q))
 |_=>exact q.elim
theorem SE.min2{x y:Expr}{p p':PE}{fp pos}(hx:aC x=false)(hy:aC y=false)(hg:sc.eW (Str.ofString "min")=true)(a:SE sc x p)(b:SE sc y p'):
  SE sc (.Call (.Name (Str.ofString "min") fp) [x,y] [] pos) (.min2 p p'):=by
 refine .plain (fun c A env n ρ H s Q P h=>?_) (fun _ _=>rfl) (fun _ _ _ _ _=>rfl);dsimp only[bX]at h;refine Call_Name rfl (aX P.ok.h P hg (by decide) (v:=.builtin "min") (by decide+kernel) (uM hx hy (a.then P h fun v ah xv aa ai aq rx aG=>b.then ai aG fun w bb yv ak bh aI ry aL=>?_)))
 obtain⟨i,j,rfl,rfl,aL⟩:=si (P:=fun x y=>wJ Q x y ak) (fun _=>id) (fun _ _=>id) (fun _ _=>id) (fun _=>id) (fun _ _=>id) (fun _ _=>id) (fun _=>id) (fun _ _=>id) (fun _ _=>id) (fun _=>id) (fun _ _=>id) (fun _ _=>id) aL;obtain⟨t,rfl⟩:=(ai.I.vr aI rx);obtain⟨u,rfl⟩:=ry;refine min_two_ints P.R.1 fun h' tk k=>?_;have e:VR c.toCx h' (.int (if j<i then j else i)) (if j<i then .int j u else .int i t):=by split<;>exact cK
 exact⟨_,_,bh.I.grow (t:=tk) k,(aq.trans aI).trans (ay.grow _ (t:=tk) k),e,aL⟩
theorem SE.max2{x y:Expr}{p p':PE}{fp pos}(hx:aC x=false)(hy:aC y=false)(hg:sc.eW (Str.ofString "max")=true)(a:SE sc x p)(b:SE sc y p'):
  SE sc (.Call (.Name (Str.ofString "max") fp) [x,y] [] pos) (.max2 p p'):=by
 refine .plain (fun c A env n ρ H s Q P h=>?_) (fun _ _=>rfl) (fun _ _ _ _ _=>rfl);dsimp only[bX]at h;refine Call_Name rfl (aX P.ok.h P hg (by decide) (v:=.builtin "max") (by decide+kernel) (uM hx hy (a.then P h fun v ah xv aa ai aq rx aG=>b.then ai aG fun w bb yv ak bh aI ry aL=>?_)))
 obtain⟨i,j,rfl,rfl,aL⟩:=si (P:=fun x y=>wK Q x y ak) (fun _=>id) (fun _ _=>id) (fun _ _=>id) (fun _=>id) (fun _ _=>id) (fun _ _=>id) (fun _=>id) (fun _ _=>id) (fun _ _=>id) (fun _=>id) (fun _ _=>id) (fun _ _=>id) aL;obtain⟨t,rfl⟩:=(ai.I.vr aI rx);obtain⟨u,rfl⟩:=ry;refine max_two_ints P.R.1 fun h' tk k=>?_
 have e:VR c.toCx h' (.int (if i<j then j else i)) (if j>i then .int j u else .int i t):=by
  refine(?_:VR _ _ _ (if i<j then _ else _))
  split<;>exact cK
 exact⟨_,_,bh.I.grow (t:=tk) k,(aq.trans aI).trans (ay.grow _ (t:=tk) k),e,aL⟩
theorem SE.all{x:Expr}{p:PE}{fp pos}(hx:aC x=false)(hg:sc.eW (Str.ofString "all")=true)(a:SE sc x p):SE sc (.Call (.Name (Str.ofString "all") fp) [x] [] pos) (.b1 .all p):=by
 refine .plain (fun c A env n ρ H s Q P h=>?_) (fun _ _=>rfl) (fun _ _ _ _ _=>rfl);dsimp only[bX]at h;refine uO a hx P hg (by decide) (id:="all") (by decide+kernel) h fun v ah y aa ai aq r q=>?_
 cases y with
 |ref b=>
  cases (show v= .ref b from r)
  obtain⟨l,hH,q⟩:=lst_inv (P:=DR Q aa) id (fun _=>id) (fun _=>id) (fun _=>id) (fun _ _=>id) q;obtain⟨m,xs,g,r⟩:=ai.I.obj b _ hH;have q:wH Q aa (dt l):=q;cases hb:dt l with
  |none=>rw[hb]at q;exact q.elim
  |some bs=>
    rw[hb]at q;have q:Q (.bool (bs.all id)) aa:=q;rw[oU hb]at r;have ex:=ko r;have hl:ah.heap.IsList b xs:=⟨_,g,rfl,m,rfl⟩;refine call_all_walk (wpAny_pyIter_list hl ?_);refine⟨_,_,_,_,_,_,fun i=>bs.getD i true,rfl,Walks.list (A:=A.in1) P.R.1 _ b (zBw (zAo g):b≠ah.heap.objs.size) xs,⟨⟨_,zAr _ rfl,rfl,rfl⟩,hl.push _⟩,?_,fun h' tk k=>?_⟩
    .intro i v s Q E hP hq;have:xs.toList[i]?=some v:=by simpa using hP
     rw[ex,zHw,zBt]at this;clear hP;obtain⟨z,hz,rfl⟩:=this;have:bs.getD i true=z:=by simp[List.getD,hz]
     have hq:Q (bs.getD i true) s:=hq;rw[this]at hq;exact zDq hq
    .have eM:xs.size=bs.length:=by rw[←zBi];rw[ex];rw[zCe]
     rw[eM];rw[dB]
     have k':∀b o,ah.heap.get? b=some o->h'.get? b=some o:=fun b o e=>k b o (by intro hm;simp only[mem_singleton]at hm;have:=zAo e;rw[hm]at this;exact zGy _ this) (az _ _ _ e)
     exact⟨_,_,ai.I.grow (t:=tk) k',aq.trans (ay.grow _ (t:=tk) k'),dz,q⟩
 |_=>exact q.elim
end
def FX(env:Env)(sc:Sc):Addr->Prop:=fun b=>b=env.locals\/∃x i,sc.eE.lookup x=some i/\env.cells.lookup x=some b/\env.kindOf x≠some .local
section
variable {c:Cx} {H:Z} {s:Shared}
theorem Inv.move(I:Inv c H s){X:Addr->Prop}{h':Heap}{t:Nat}(k:∀b o,¬X b->s.heap.get? b=some o->h'.get? b=some o)(off:∀b,X b->¬aQ H b/\c.base.get? b=none)(m:eC c X s)
  (live:∀b,X b->c.bad b->(h'.get? b).isSome=true):Inv c H {s with heap:=h',toks:=t}:=by
 have dQ:∀b xs n,¬c.bad b->s.heap.get? b=some ⟨.type "tuple",none,.seq xs n,#[]⟩->h'.get? b=some ⟨.type "tuple",none,.seq xs n,#[]⟩:=
  fun b _ _ nb e=>k _ _ (fun x=>m _ _ _ x nb e) e
 refine⟨I.gens,I.drawn,I.os,fun b o e=>k b o (fun x=>?_) (I.base _ _ e),fun a ao e=>dI.mono dQ (fun o q=>k _ _ (fun x=>(off _ x).1 (.inl (by rw[e];simp))) q) (fun⟨C,fs,z⟩ o q=>k _ _ (fun x=>(off _ x).1 (.inr ⟨C,fs,?_⟩)) q) (I.obj a ao e),I.off,I.apart,fun b hb=>?_⟩
 .exact sn e ((off b x).2)
 .subst z;have:=(I.obj a _ e).1;rw[sub_add_cancel this];exact e
 .by_cases x:X b
  .exact live b x hb
  .obtain⟨o,e⟩:=zAp.mp (I.bad b hb);refine(?_:(h'.get? b).isSome=true);rw[k _ _ x e];rfl
theorem ay.move(H:Z){X:Addr->Prop}{h':Heap}{t:Nat}(k:∀b o,¬X b->s.heap.get? b=some o->h'.get? b=some o)(live:∀b,X b->(h'.get? b).isSome=true):ay X H H s {s with heap:=h',toks:=t}:=
 ⟨fun b o e _ x=>k b o x e,fun _ h=>.inl h,fun b h=>by
  by_cases x:X b
  .exact live b x
  .obtain⟨o,e⟩:=zAp.mp h;refine(?_:(h'.get? b).isSome=true);rw[k _ _ x e];rfl⟩
theorem aW.Mr{env:Env}{sc:Sc}{ρ:List (Option V)}(F:aW c env sc ρ H s.heap)(I:Inv c H s):∀b,FX env sc b->¬aQ H b/\c.base.get? b=none:=by
 rintro b (rfl |⟨x,i,hv,hc,hk⟩)
 .exact⟨F.no,F.off⟩
 .rcases F.var x i hv with hl |⟨_,ca,vo,e1,e2,e3,e4,_⟩
  .exact absurd hl hk
  .rw[hc]at e1;obtain rfl:=so e1;exact⟨I.qs e4,e2⟩
theorem aW.bM{env:Env}{sc:Sc}{ρ:List (Option V)}(F:aW c env sc ρ H s.heap):eC c (FX env sc) s:=by
 rintro b xs n (rfl |⟨x,i,hv,hc,hk⟩) _ e
 .obtain⟨m,⟨o,es,ep,ho,hd,_⟩,_⟩:=F.ns;rw[e]at ho;obtain rfl:=so ho;cases hd
 .rcases F.var x i hv with hl |⟨_,ca,vo,e1,e2,e3,⟨o,ho,hd⟩,_⟩
  .exact absurd hl hk
  .rw[hc]at e1;clear e3 e2;obtain rfl:=so e1;rw[e]at ho;obtain rfl:=so ho;cases hd
end
theorem gN{ρ:List (Option V)}{i:Nat}{v u:V}(h:cO (b9 ρ i v) i=some u):u=v:=by
 delta cO b9 at h;rw[List.getElem?_set]at h;simp only[if_true]at h;split at h
 .simp at h;exact h.symm
 .simp at h
theorem dD{ρ:List (Option V)}{i j:Nat}{v:V}(h:j≠i):cO (b9 ρ i v) j=cO ρ j:=by delta cO b9;rw[List.getElem?_set_ne (zFp h)]
section
variable {c:Cy} {sc:Sc} {A:Around} {env:Env} {n:Nat} {ρ:List (Option V)} {H:Z} {s:Shared}
theorem A0(hk:env.scope.kind= .function):(env.scope.kind== .class||(env.scope.kind== .module&&env.locals !=env.globals))=false:=by rw[hk];rfl
theorem kU{x:Str}{i:Nat}{v:V}{u:Value}(I:Inv c.toCx H s)(F:aW c.toCx env sc ρ H s.heap)(hx:sc.eE.lookup x=some i)(hl:env.kindOf x=some .local)(r:VR c.toCx s.heap v u):
  wpAny c.M A (storeName env x u) (fun _ s'=>Inv c.toCx H s'/\ay (fun b=>b=env.locals) H H s s'/\aW c.toCx env sc (b9 ρ i v) H s'.heap) bZ s:=by
 obtain⟨m,hm,hv⟩:=F.ns;refine wpAny_storeName_local hl hm (fun h' Kj dk=>?_) (A0 F.kind);have kc:∀b o,¬(b=env.locals)->s.heap.get? b=some o->h'.get? b=some o:=fun b o nx e=>(dk.2 b nx).trans e
 have live:∀b,b=env.locals->(h'.get? b).isSome=true:=by rintro b rfl;obtain⟨o,es,ep,ho,_⟩:=Kj;rw[ho];rfl
 have S:=ay.move (X:=fun b=>b=env.locals) H (t:=s.toks+1) kc live;have bM:eC c.toCx (fun b=>b=env.locals) s:=fun b xs n hb=>F.bM b xs n (.inl hb);have mono:∀{v:V} {u:Value},VR c.toCx s.heap v u->VR c.toCx h' v u:=fun r=>I.HC S bM r;refine⟨I.move (t:=s.toks+1) kc (fun b hb=>F.Mr I b (.inl hb)) bM (fun b h _=>live b h),S,?_⟩;refine⟨F.kind,F.glob,F.D5,F.gl,F.nm,F.off,F.no,⟨_,Kj,fun y j hy Pa w hw=>?_⟩,fun y j hy=>?_,F.D6,F.mE,F.lr⟩
 .by_cases q:y=x
  .clear Kj hl;subst q;rw[hx]at hy;obtain rfl:=so hy;rw[zBq rfl];exact⟨u,rfl,gN hw▸mono r⟩
  .rw[zAi q];have:j≠i:=fun z=>q (F.lr y x j hy (z▸hx));rw[dD this]at hw;obtain⟨u',e1,e2⟩:=hv y j hy Pa w hw;exact⟨u',e1,mono e2⟩
 .clear Kj;rcases F.var y j hy with b |⟨b,ca,vo,e1,e2,e3,e4,e5⟩
  .exact .inl b
  .refine .inr ⟨b,ca,vo,e1,e2,e3,e4.sameBut dk e3,fun w hw=>?_⟩
   have:j≠i:=fun z=>by have:=F.lr y x j hy (z▸hx);subst this;rcases b with b |⟨b,_⟩<;>rw[hl]at b<;>cases b
   rw[dD this]at hw;obtain⟨u',z1,z2⟩:=e5 w hw;exact⟨u',z1,mono z2⟩
theorem cy{x:Str}{i:Nat}{v:V}{u:Value}(I:Inv c.toCx H s)(F:aW c.toCx env sc ρ H s.heap)(hx:sc.eE.lookup x=some i)(hs:fv sc x=true)(r:VR c.toCx s.heap v u):
  wpAny c.M A (storeName env x u) (fun _ s'=>Inv c.toCx H s'/\ay (FX env sc) H H s s'/\aW c.toCx env sc (b9 ρ i v) H s'.heap) bZ s:=by
 simp only[fv,and_eq_true,not_eq_true',or_eq_true,beq_iff_eq]at hs;have d8:=F.nm hs.1 x;obtain⟨m,hm,hv⟩:=F.ns;by_cases hl:env.kindOf x=some .local
 .exact zAw (kU I F hx hl r) (fun _ s' ⟨a,b,d⟩=>⟨a,b.weaken fun _ e=>.inl e,d⟩) fun _ _ e=>e
 .have A5:env.kindOf x=some .cell:=by
   rcases hs.2 with z |z
   .rw[z]at d8;exact absurd d8 hl
   .rw[z]at d8;exact d8
  clear d8 hs;rcases F.var x i hx with b |⟨b,ca,vo,e1,e2,e3,e4,e5⟩
  .exact absurd b hl
  .refine wpAny_storeName_cell F.kind A5 e1 e4 fun h' hc dk=>?_;have k:∀b o,¬FX env sc b->s.heap.get? b=some o->h'.get? b=some o:=fun b o nx e=>(dk.2 b fun q=>nx (q▸(.inr ⟨x,i,hx,e1,hl⟩:FX env sc ca))).trans e;have kc:∀b o,b≠ca->s.heap.get? b=some o->h'.get? b=some o:=fun b o nx e=>(dk.2 b nx).trans e
   have live:∀b,FX env sc b->(h'.get? b).isSome=true:=by
    intro b hb;by_cases q:b=ca
    .clear kc dk e4 e3 e2 e1;subst q;obtain⟨o,ho,_⟩:=hc;rw[ho];rfl
    .rcases hb with rfl |⟨y,j,hy,Ms,hk⟩
     .obtain⟨o,es,ep,ho,_⟩:=hm;rw[kc _ o q ho];rfl
     .rcases F.var y j hy with hl |⟨_,Pb,vo,z1,z2,z3,⟨o,ho,hd⟩,_⟩
      .exact absurd hl hk
      .rw[Ms]at z1;clear z3 z2;obtain rfl:=so z1;rw[kc b o q ho];rfl
   have S:=ay.move H (t:=s.toks) k live;have mono:∀{v:V} {u:Value},VR c.toCx s.heap v u->VR c.toCx h' v u:=fun r=>I.HC S F.bM r;refine⟨I.move (t:=s.toks) k (F.Mr I) F.bM (fun b h _=>live b h),S,?_⟩;refine⟨F.kind,F.glob,F.D5,F.gl,F.nm,F.off,F.no,⟨m,hm.sameBut dk (zFp e3),fun y j hy Pa w hw=>?_⟩,fun y j hy=>?_,F.D6,F.mE,F.lr⟩
   .have:j≠i:=fun z=>by have:=F.lr y x j hy (z▸hx);subst this;exact hl Pa
    rw[dD this]at hw;obtain⟨u',z1,z2⟩:=hv y j hy Pa w hw;exact⟨u',z1,mono z2⟩
   .rcases F.var y j hy with b |⟨b,Pb,Xx,z1,z2,z3,z4,z5⟩
    .exact .inl b
    .by_cases q:y=x
     .subst q;rw[hx]at hy;clear z4 z3 z2 z5;obtain rfl:=so hy;rw[e1]at z1;obtain rfl:=so z1;exact .inr ⟨b,ca,some u,e1,e2,e3,hc,fun w hw=>⟨u,rfl,gN hw▸mono r⟩⟩
     .have ne:Pb≠ca:=fun z=>q (F.mE y x Pb z1 (z▸e1));refine .inr ⟨b,Pb,Xx,z1,z2,z3,z4.sameBut dk ne,fun w hw=>?_⟩;have:j≠i:=fun z=>q (F.lr y x j hy (z▸hx));rw[dD this]at hw;obtain⟨u',y1,y2⟩:=z5 w hw;exact⟨u',y1,mono y2⟩
end
theorem aW.Gj{c:Cx}{env:Env}{sc:Sc}{ρ:List (Option V)}{X:Addr->Prop}{H H':Z}{s s':Shared}(F:aW c env sc ρ H s.heap)(I:Inv c H s)(S:ay X H H' s s')(hm:eC c X s)(hX:∀b,X b->¬FX env sc b):aW c env sc ρ H' s'.heap:=by
 obtain⟨m,Mt,hv⟩:=F.ns;obtain⟨oL,es,ep,hL,r⟩:=id Mt;refine⟨F.kind,F.glob,F.D5,F.gl,F.nm,F.off,S.not hL F.no,⟨m,⟨oL,es,ep,S.keep _ _ hL F.no (fun x=>hX _ x (.inl rfl):¬X env.locals),r⟩,fun x i a b v d=>?_⟩,fun x i a=>?_,F.D6,F.mE,F.lr⟩
 .obtain⟨u,e1,e2⟩:=hv x i a b v d;exact⟨u,e1,I.HC S hm e2⟩
 .rcases F.var x i a with b |⟨b,ca,vo,e1,e2,e3,e4,e5⟩
  .exact .inl b
  .obtain⟨oc,ho,hd⟩:=id e4;have nx:¬X ca:=fun z=>hX _ z (.inr ⟨x,i,a,e1,fun q=>by rcases b with b |⟨b,_⟩<;>rw[q]at b<;>cases b⟩)
   exact .inr ⟨b,ca,vo,e1,e2,e3,⟨oc,S.keep _ _ ho (I.qs e4) nx,hd⟩,fun v q=>let ⟨u,z1,z2⟩:=e5 v q;⟨u,z1,I.HC S hm z2⟩⟩
theorem aW.Gk{c:Cx}{env:Env}{sc:Sc}{ρ:List (Option V)}{X:Addr->Prop}{H:Z}{s:Shared}{h':Heap}(F:aW c env sc ρ H s.heap)(k:∀b o,¬X b->s.heap.get? b=some o->h'.get? b=some o)(hm:eC c X s)(hX:∀b,X b->¬FX env sc b):aW c env sc ρ H h':=by
 obtain⟨m,Mt,hv⟩:=F.ns;obtain⟨oL,es,ep,hL,r⟩:=id Mt
 have dQ:∀b xs n,¬c.bad b->s.heap.get? b=some ⟨.type "tuple",none,.seq xs n,#[]⟩->h'.get? b=some ⟨.type "tuple",none,.seq xs n,#[]⟩:=
  fun b xs n nb e=>k _ _ (fun x=>hm _ _ _ x nb e) e
 refine⟨F.kind,F.glob,F.D5,F.gl,F.nm,F.off,F.no,⟨m,⟨oL,es,ep,k _ _ (fun x=>hX _ x (.inl rfl):¬X env.locals) hL,r⟩,fun x i a b v d=>?_⟩,fun x i a=>?_,F.D6,F.mE,F.lr⟩
 .obtain⟨u,e1,e2⟩:=hv x i a b v d;exact⟨u,e1,VR.mono dQ _ e2⟩
 .rcases F.var x i a with b |⟨b,ca,vo,e1,e2,e3,e4,e5⟩
  .exact .inl b
  .obtain⟨oc,ho,hd⟩:=id e4;have nx:¬X ca:=fun z=>hX _ z (.inr ⟨x,i,a,e1,fun q=>by rcases b with b |⟨b,_⟩<;>rw[q]at b<;>cases b⟩)
   exact .inr ⟨b,ca,vo,e1,e2,e3,⟨oc,k _ _ nx ho,hd⟩,fun v q=>let ⟨u,z1,z2⟩:=e5 v q;⟨u,z1,VR.mono dQ _ z2⟩⟩
theorem aW.move{c:Cx}{env:Env}{sc:Sc}{ρ:List (Option V)}{X:Addr->Prop}{H:Z}{s:Shared}{h':Heap}(F:aW c env sc ρ H s.heap)(_:Inv c H s)(k:∀b o,¬X b->s.heap.get? b=some o->h'.get? b=some o)(hm:eC c X s)(hX:∀b,X b->¬FX env sc b):aW c env sc ρ H h':=F.Gk k hm hX
theorem ay.fresh{X W:Addr->Prop}{H H':Z}{s s':Shared}(S:ay X H H' s s'){zj:Heap}{t:Nat}(k:∀b o,¬W b->s'.heap.get? b=some o->zj.get? b=some o)(hW:∀b,W b->s.heap.get? b=none):ay X H H' s {s' with heap:=zj,toks:=t}:=
 ⟨fun b o e n x=>k b o (fun w=>sn e (hW b w)) (S.keep b o e n x),S.sub,fun b h=>by have:=S.live b h;obtain⟨o,e⟩:=zAp.mp this;refine(?_:(zj.get? b).isSome=true);rw[k b o (fun w=>by rw[hW b w]at h;exact ft rfl h) e];rfl⟩
structure rG(c:Cy)(A:Around)(items:List V)(g:Z->Prop)(I:Addr)(wr:Addr->Prop)(Good:Nat->Heap->Prop):Prop where
 keep:∀i h h',Good i h->(∀b o,wr b->h.get? b=some o->h'.get? b=some o)->(∀b xs n,¬c.bad b->h.get? b=some ⟨.type "tuple",none,.seq xs n,#[]⟩->h'.get? b=some ⟨.type "tuple",none,.seq xs n,#[]⟩)->Good i h'
 bM:∀i s,Good i s.heap->eC c.toCx wr s
 live:∀i h b,Good i h->wr b->(h.get? b).isSome=true
 go:∀i (s:Shared) elts k pos v (Q:Unit->Shared->Prop),Good i s.heap->Q () s->wpAny c.M A (letOwnedTupleGo (.Tuple elts k pos) (.ref I) v) Q bZ s
 self:∀i (s:Shared) (Q:Value->Shared->Prop),Good i s.heap->Q (.ref I) s->wpAny c.M A (pyIter (.ref I)) Q bZ s
 next:∀i (s:Shared) H (Q:Option Value->Shared->Prop) (hi:i<items.length),Good i s.heap->Inv c.toCx H s->g H->
  (∀x h' t,VR c.toCx h' items[i] x->Good (i+1) h'->(∀b o,¬wr b->s.heap.get? b=some o->h'.get? b=some o)->Q (some x) {s with heap:=h',toks:=t})->wpAny c.M A (pyNext (.ref I)) Q bZ s
 done:∀(s:Shared) H (Q:Option Value->Shared->Prop),Good items.length s.heap->Inv c.toCx H s->g H->
  (∀h' t,(∀b o,¬wr b->s.heap.get? b=some o->h'.get? b=some o)->Q none {s with heap:=h',toks:=t})->wpAny c.M A (pyNext (.ref I)) Q bZ s
set_option tactic.hygienic true in
theorem jK{M:Model}{A:Around}{E:Value->Shared->Prop}{s:Shared}{I:Addr}{o:Obj}{T:String}{elts k pos v}{Q:Unit->Shared->Prop}(e:s.heap.get? I=some o)(hc:o.cls= .type T)
  (hT:(["enumerate","zip","dict_itemiterator","dict_reverseitemiterator","odict_iterator","itertools.zip_longest","itertools.pairwise"].contains T)=false) (q:Q () s):wpAny M A (letOwnedTupleGo (.Tuple elts k pos) (.ref I) v) Q E s:=by
 delta letOwnedTupleGo;cases v<;>try exact Up q
 refine lk (wpAny_load e ?_);obtain⟨oc,od,OD,Qn⟩:=o;dsimp only at hc;clear e;subst hc;cases OD<;>try exact Up q
 rename_i vs
 dsimp only;rw[hT];exact Up q
section
variable {c:Cy} {A:Around} {H:Z} {s:Shared}
theorem d9{I:Addr}{s:Shared}(h:∀xs n,s.heap.get? I≠some ⟨.type "tuple",none,.seq xs n,#[]⟩):eC c.toCx (fun b=>b=I) s:=fun b xs n e _=>e▸h xs n
theorem rG.list{l:List V}{a I:Addr}(hA:A.handled=none)(el:a≠I):rG c A l (fun H'=>H' a=some (.list l)) I (fun b=>b=I) (fun i h=>h.IsListIter I a i) where
 keep:=by rintro i h h' ⟨o,e,r⟩ k _;exact⟨o,k _ _ rfl e,r⟩
 live:=by rintro i h b ⟨o,e,_⟩ hb;rw[hb];rw[e];rfl
 go:=by rintro i s elts k pos v Q ⟨o,e,ec,_⟩ q;exact jK e ec (by decide) q
 self:=fun i s Q hg q=>wpAny_pyIter_listiter hg q
 bM:=fun i s ⟨o,e,ec,ed⟩=>d9 fun xs n z=>by rw[e]at z;clear ed e;obtain rfl:=so z;simp at ec
 next:=fun i s H Q hi hg I hH q=>by
  obtain⟨n,xs,e,r⟩:=I.obj a _ hH;obtain⟨x,ex,rx⟩:=eF r (zAe hi);refine wpAny_pyNext_list_item hg ⟨_,e,rfl,n,rfl⟩ (x:=x) (by simpa using ex) fun h' hit hs=>?_
  refine q x h' s.toks (VR.mono (fun b ys m _ z=>(hs.2 b fun w=>?_).trans z) _ rx) hit fun b o hb z=>(hs.2 b hb).trans z;clear hs hit q el;subst w;obtain⟨o,e,ec,ed⟩:=hg;rw[e]at z;clear ed e;obtain rfl:=so z;simp at ec
 done:=fun s H Q hg I hH q=>by obtain⟨n,xs,e,r⟩:=I.obj a _ hH;have e1:=aE r;simp only[length_toList]at e1;exact wpAny_pyNext_list_end hA hg ⟨_,e,rfl,n,rfl⟩ (by rw[zHr];exact(aD 134750214) e1) fun h' he=>q h' s.toks fun b o hb z=>he b o hb z
theorem rG.tuple{l:List V}{a I:Addr}{xs:Array Value}{m:Nat}{h₀:Heap}(hA:A.handled=none)(nb:¬c.bad a)(el:a≠I):
  rG c A l (fun _=>True) I (fun b=>b=I) (fun i h=>h.IsTupleIter I a i/\h.get? a=some ⟨.type "tuple",none,.seq xs m,#[]⟩/\bj c.toCx h l xs.toList) where
 keep:=fun i h h' ⟨⟨o,e,r⟩,e2,rv⟩ k kt=>⟨⟨o,k _ _ rfl e,r⟩,kt _ _ _ nb e2,bj.mono kt _ rv⟩
 live:=fun i h b ⟨⟨o,e,_⟩,_⟩ hb=>by rw[hb];rw[e];rfl
 go:=fun i s elts k pos v Q ⟨⟨o,e,ec,_⟩,_⟩ q=>jK e ec (by decide) q
 self:=fun i s Q hg q=>wpAny_pyIter_tupleiter hg.1 q
 bM:=fun i s ⟨⟨o,e,ec,ed⟩,_⟩=>d9 fun xs n z=>by rw[e]at z;clear ed e;obtain rfl:=so z;simp at ec
 next:=by
  rintro i s H Q hi ⟨hg,e,r⟩ I _ q;obtain⟨x,ex,rx⟩:=eF r (zAe hi);refine wpAny_pyNext_tuple_item hg ⟨_,e,rfl,m,rfl⟩ (x:=x) (by simpa using ex) fun h' hit hs=>?_
  have kt:∀b ys m',¬c.bad b->s.heap.get? b=some ⟨.type "tuple",none,.seq ys m',#[]⟩->h'.get? b=some ⟨.type "tuple",none,.seq ys m',#[]⟩:=fun b ys m' _ z=>(hs.2 b fun w=>by clear hs hit q el;subst w;obtain⟨o,e,ec,ed⟩:=hg;rw[e]at z;clear ed e;obtain rfl:=so z;simp at ec).trans z
  exact q x h' s.toks (VR.mono kt _ rx) ⟨hit,kt _ _ _ nb e,bj.mono kt _ r⟩ fun b o hb z=>(hs.2 b hb).trans z
 done:=by rintro s H Q ⟨hg,e,r⟩ I _ q;have e1:=aE r;simp only[length_toList]at e1;exact wpAny_pyNext_tuple_end hA hg ⟨_,e,rfl,m,rfl⟩ (by rw[zHr];exact(aD 134750214) e1) fun h' he=>q h' s.toks fun b o hb z=>he b o hb z
theorem rG.range{N:Int}{I:Addr}(hA:A.handled=none):rG c A ((List.range N.toNat).map fun i=>.int (i:Nat)) (fun _=>True) I (fun b=>b=I) (fun i h=>IsRangeIter h I (0+(i:Nat)*1) ((N.toNat:Int)-(i:Nat)) 1) where
 keep:=fun i h h' e k _=>k _ _ rfl e
 live:=fun i h b e hb=>by rw[hb];rw[show h.get? I=_ from e];rfl
 go:=fun i s elts k pos v Q e q=>jK (show s.heap.get? I=_ from e) rfl (by decide) q
 self:=fun i s Q hg q=>wpAny_pyIter_rangeiter hg q
 bM:=fun i s e=>d9 fun xs n z=>by rw[show s.heap.get? I=_ from e]at z;simp at z
 next:=fun i s H Q hi hg I' _ q=>by
  have W:=Walks.range (prog:=prog) (w:=c.w) (A:=A) hA I 0 1 N.toNat;rw[zCe,List.length_range]at hi;refine W.item i s Q bZ hi hg fun v h' tk hP cZ hk=>?_;refine q v h' tk ?_ cZ fun b o hb z=>hk b o (by simpa using hb) z
  obtain⟨t,rfl⟩:=hP;simp only[List.getElem_map,List.getElem_range];rw[show (0:Int)+(i:Nat)*1=((i:Nat):Int) from(Int.zero_add _).trans (Int.mul_one _)]
  exact cK
 done:=fun s H Q hg I' _ q=>by rw[zCe,List.length_range]at hg;exact(Walks.range (prog:=prog) (w:=c.w) (A:=A) hA I 0 1 N.toNat).done s Q bZ hg fun h' tk hk=>q h' tk fun b o hb z=>hk b o (by simpa using hb) z
inductive Rx(c:Cy)(A:Around)(H:Z)(s:Shared)(Kk:List V->(Z->Prop)->Z->Prop)(Mu:Value)(bb:Shared):Prop
 |mk (I:Addr) (wr:Addr->Prop) (Good:Nat->Heap->Prop) (items:List V) (g:Z->Prop) (aa:Z) (e:Mu= .ref I) (W:rG c A items g I wr Good) (bC:Inv c.toCx aa bb) (S:Step H aa s bb) (g0:Good 0 bb.heap) (w:∀b,wr b->s.heap.get? b=none/\¬aQ aa b/\c.base.get? b=none/\¬c.bad b/\(bb.heap.get? b).isSome=true) (q:Kk items g aa)
def SI(sc:Sc)(it:Expr)(k:lj)(p:PE):Prop:=
 ∀c A env n ρ H s Kk,At c sc A env n ρ H s->(bA c n p ρ H fun x aa=>fq (fun items g=>Kk items g aa) (iter aa k x))->wpAny c.M A (eval it env) (fun v ah=>wpAny c.M A (pyIter v) (Rx c A H s Kk) bZ ah) bZ s
theorem Inv.one(I:Inv c.toCx H s){h':Heap}{fL:Z}{yc:Shared}(S:Step fL H yc s)(k:∀b o,s.heap.get? b=some o->h'.get? b=some o){a:Addr}(ha:s.heap.objs.size<=a)(hl:(h'.get? a).isSome=true):
  ∀b,b=a->yc.heap.get? b=none/\¬aQ H b/\c.base.get? b=none/\¬c.bad b/\(h'.get? b).isSome=true:=by
 rintro b rfl;refine⟨?_,I.gK ha,I.cF ha,I.fR ha,hl⟩;cases q:yc.heap.get? b with
 |none=>rfl
 |some o=>
  have:=S.live b (by rw[q];rfl)
  rw[bg ha]at this;exact ft rfl this
theorem SI.seq{sc:Sc}{e:Expr}{p:PE}(a:SE sc e p):SI sc e .seq p:=by
 intro c A env n ρ H s Kk P h;refine a.then P h fun v ah x aa ai aq r q=>?_;rcases x5 q with⟨b,l,rfl,hH,q⟩ |⟨l,rfl,q⟩
 .cases (show v= .ref b from r)
  obtain⟨m,xs,e,rl⟩:=ai.I.obj b _ hH;refine wpAny_pyIter_list ⟨_,e,rfl,m,rfl⟩ ?_;have k:∀b' o,ah.heap.get? b'=some o->(ah.heap.push {cls:=.type "list_iterator",data:=.fields #[.ref b,.int 0 0]}).get? b'=some o:=az _
  exact⟨_,_,_,_,_,aa,rfl,rG.list P.R.1 (zBw (zAo e)),ai.I.grow (t:=ah.toks) k,aq.trans (ay.grow _ (t:=ah.toks) k),⟨_,zAr _ rfl,rfl,rfl⟩,
   ai.I.one aq k (zAq _) (by rw[zAr _ rfl];rfl),q⟩
 .obtain⟨b,m,xs,rfl,nb,e,rl⟩:=fe r;refine wpAny_pyIter_tuple ⟨_,e,rfl,m,rfl⟩ ?_;have k:∀b' o,ah.heap.get? b'=some o->(ah.heap.push {cls:=.type "tuple_iterator",data:=.fields #[.ref b,.int 0 0]}).get? b'=some o:=az _
  exact⟨_,_,_,l,_,aa,rfl,rG.tuple (h₀:=ah.heap) P.R.1 nb (zBw (zAo e)),ai.I.grow (t:=ah.toks) k,aq.trans (ay.grow _ (t:=ah.toks) k),⟨⟨_,zAr _ rfl,rfl,rfl⟩,k _ _ e,cU rl⟩,
   ai.I.one aq k (zAq _) (by rw[zAr _ rfl];rfl),q⟩
theorem SI.range{sc:Sc}{x:Expr}{p:PE}{fp pos}(hx:aC x=false)(hg:sc.eW (Str.ofString "range")=true)(a:SE sc x p):SI sc (.Call (.Name (Str.ofString "range") fp) [x] [] pos) .range p:=by
 intro c A env n ρ H s Kk P h;refine Call_Name rfl (aX P.ok.h P hg (by decide) (v:=.type "range") (by decide+kernel) (gM hx (a.then P h fun v ah y aa ai aq r q=>?_)))
 obtain⟨N,rfl,hN,q⟩:=sk q;obtain⟨t,rfl⟩:=r;have hl:=AO;have ag:(lim:Int)=1000000:=rfl;refine call_range_1 ?_;refine wpAny_pyIter_range (IsRange.new ..) (small_one (by decide) (by decide) ((jy 0x4000000000000000f6141e8481cc8140a576) hN) ((jy 0x8000000000000001e0203d090380f4240e64d81e8481cc8140a576) hN ag)) ?_
 have eM:Builtin.Range.rangeSize 0 N 1=(N.toNat:Int):=by rw[rangeSize_one];split<;>(first |exact(jy 0x6f2a054c0a46) ‹_› |exact(oj 0x3795181492c0c8140a576) hN ‹_›)
 have k:∀(o o':Obj) b' Ry,ah.heap.get? b'=some Ry->((ah.heap.push o).push o').get? b'=some Ry:=fun o o' b' Ry e=>az _ _ _ (az _ _ _ e);refine⟨_,_,_,_,_,aa,rfl,rG.range (N:=N) P.R.1,ai.I.grow (t:=ah.toks+1+1) (k _ _),aq.trans (ay.grow _ (t:=ah.toks+1+1) (k _ _)),?_,ai.I.one aq (k _ _) (by rw[zGw];exact zDw _) (by rw[zAr _ rfl];rfl),q⟩
 have e1:(0+((0:Nat):Int)*1)=0:=by simp
 have e2:((N.toNat:Int)-((0:Nat):Int))=Builtin.Range.rangeSize 0 N 1:=by rw[eM];exact rfl
 rw[e1];rw[e2];exact zAr _ rfl
end
theorem aW.weaken{c:Cx}{env:Env}{sc:Sc}{ρ kW:List (Option V)}{H:Z}{h:Heap}(F:aW c env sc ρ H h)(k:∀i v,cO kW i=some v->cO ρ i=some v):aW c env sc kW H h:=by
 obtain⟨m,hm,hv⟩:=F.ns;refine⟨F.kind,F.glob,F.D5,F.gl,F.nm,F.off,F.no,⟨m,hm,fun x i a b v d=>hv x i a b v (k i v d)⟩,fun x i a=>?_,F.D6,F.mE,F.lr⟩;rcases F.var x i a with b |⟨b,ca,vo,e1,e2,e3,e4,e5⟩
 .exact .inl b
 .exact .inr ⟨b,ca,vo,e1,e2,e3,e4,fun v q=>e5 v (k i v q)⟩
noncomputable def Im(ρ:List (Option V))(i:Nat):List (Option V):=ρ.set i none
theorem mS{ρ:List (Option V)}{i j:Nat}{v:V}(h:cO (Im ρ i) j=some v):j≠i/\cO ρ j=some v:=by
 delta cO Im at h;by_cases e:i=j
 .subst e;rw[List.getElem?_set]at h;simp only[if_true]at h;split at h<;>simp at h
 .rw[List.getElem?_set_ne e]at h;exact⟨fun z=>e z.symm,h⟩
theorem A6{ρ:List (Option V)}{i:Nat}{v:V}:b9 (Im ρ i) i v=b9 ρ i v:=by delta b9 Im;rw[List.set_set]
theorem kX{ρ:List (Option V)}{i j:Nat}{v w:V}(h:cO (Im ρ i) j=some v):cO (b9 ρ i w) j=some v:=by obtain⟨h1,h2⟩:=mS h;rw[dD h1];exact h2
noncomputable def gO(env:Env):List (Str×NameKind)->List (Str×Addr)->List (Str×Addr)
 |[],acc=>acc
 |(n,k)::r,acc=>if k== .free then gO env r ((n,(env.cells.lookup n).getD 0)::acc) else gO env r acc
theorem mT{env:Env}{scope:Scope}(h:∀p∈scope.names,p.2= .free->(env.cells.lookup p.1).isSome=true):closureFor scope env=pure (gO env scope.names []):=by
 have key:∀(names:List (Str×NameKind)) (acc:List (Str×Addr)),(∀p∈names,p.2= .free->(env.cells.lookup p.1).isSome=true)->
   (forIn names acc (fun(x:Str×NameKind) (cs:List (Str×Addr))=>(if (x.2==NameKind.free)=true then do let a←cellOf env x.1;pure (ForInStep.yield ((x.1,a)::cs)) else pure (ForInStep.yield cs):Sem (ForInStep (List (Str×Addr))))))=pure (gO env names acc):=by
  intro names
  induction names with
  |nil=>intro acc _;rfl
  |cons p r ih=>
   intro acc hp;obtain⟨n,k⟩:=p;rw[forIn_cons];refine(?_:_=(pure (if (k==NameKind.free)=true then gO env r ((n,(env.cells.lookup n).getD 0)::acc) else gO env r acc):Sem _))
   by_cases q:(k==NameKind.free)=true
   .have:=hp (n,k) zEt (by simpa -iota using q)
    obtain⟨a,ha⟩:=zAp.mp this;rw[zBq q];rw[zBq q];delta cellOf;simp -iota only[(ha:env.cells.lookup n=some a),pure_bind,Option.getD_some];exact ih _ fun p hm=>hp p (zDt _ hm)
   .rw[zAi q];rw[zAi q];simp -iota only[pure_bind];exact ih _ fun p hm=>hp p (zDt _ hm)
 exact(zEy (fun(m:Sem (List (Str×Addr)))=>m>>=fun cs=>pure cs) (key scope.names [] h)).trans (pure_bind _ _)
set_option tactic.hygienic true in
theorem sL{env:Env}:∀{names:List (Str×NameKind)} {acc:List (Str×Addr)} {x:Str} {a:Addr},(∀p∈names,p.2= .free->(env.cells.lookup p.1).isSome=true)->(x,a)∈gO env names acc->(x,a)∈acc\/env.cells.lookup x=some a:=by
 intro zl
 induction zl with
 |nil=>
  rintro acc x a _ h;exact .inl h
 |cons zp r ih=>
  obtain⟨n,k⟩:=zp;rintro acc x a hp h;have hr:=fun p hm=>hp p (zDt (n,k) hm);unfold gO at h;split at h
  .rename_i q
   rcases ih hr h with h |h
   .rcases zAy.mp h with e |h
    .clear h;cases e;have:=hp (n,k) zEt (by simpa -iota using q)
     obtain⟨b,hb⟩:=zAp.mp this;have hb:env.cells.lookup n=some b:=hb;exact .inr (by rw[hb];rfl)
    .exact .inl h
   .exact .inr h
  .exact ih hr h
theorem A7{env:Env}:∀{names:List (Str×NameKind)} {acc:List (Str×Addr)} {x:Str},(x,NameKind.free)∈names\/(∃a,(x,a)∈acc)->∃a,(x,a)∈gO env names acc:=by
 intro zl
 induction zl with
 |nil=>
  rintro acc x h;rcases h with h |h
  .cases h
  .exact h
 |cons zp r ih=>
  obtain⟨n,k⟩:=zp;rintro acc x h;unfold gO;rcases h with h |⟨a,h⟩
  .rcases zAy.mp h with e |h
   .clear h;cases e;exact ih (.inr ⟨_,by simp[mem_cons];exact .inl rfl⟩)
   .split
    .exact ih (.inl h)
    .exact ih (.inl h)
  .split
   .exact ih (.inr ⟨a,zDt _ h⟩)
   .exact ih (.inr ⟨a,h⟩)
theorem jf{α:Type}:∀{l:List (Str×α)} {x:Str} {a:α},(x,a)∈l->∃b,l.lookup x=some b:=by
 intro l
 induction l with
 |nil=>intro _ _ h;cases h
 |cons p r ih=>
  obtain⟨k,v⟩:=p;intro x a h;rw[zDr];cases q:x==k with
  |true=>exact⟨v,rfl⟩
  |false=>
   rcases zAy.mp h with e |h
   .clear h;cases e;simp at q
   .exact ih h
set_option tactic.hygienic true in
theorem iR{α:Type}{f:Str->Bool}:∀{l:List (Str×α)} {x:Str} {a:α},(l.filter fun p=>f p.1).lookup x=some a->f x=true/\l.lookup x=some a:=by
 intro zl
 induction zl with
 |nil=>
  rintro _ _ h;exact sn h rfl
 |cons zp r ih=>
  obtain⟨k,v⟩:=zp;rintro x a h;rw[List.filter_cons]at h;rw[zDr];split at h
  .rename_i hf
   rw[zDr]at h;cases q:x==k with
   |true=>rw[q]at h;obtain rfl:=so h;rw[eq_of_beq q];exact⟨hf,rfl⟩
   |false=>rw[q]at h;exact ih h
  .rename_i hf
   obtain⟨h1,h2⟩:=ih h;cases q:x==k with
   |true=>rw[eq_of_beq q]at h1;exact absurd h1 hf
   |false=>exact⟨h1,h2⟩
theorem dE{env:Env}:∀{names:List (Str×NameKind)} {x:Str} {k:NameKind},names.lookup x=some k->
  (names.map fun(n,k)=>if (k==NameKind.free&&env.scope.kind== .function&&env.kindOf n==some .cell) then(n,NameKind.cell) else(n,k)).lookup x=some (if (k==NameKind.free&&env.scope.kind== .function&&env.kindOf x==some .cell) then .cell else k)
 |[],_,_,h=>sn h rfl
 |(n,k)::r,x,k',h=>by
  rw[map_cons];rw[zDr]at h;cases q:x==n with
  |true=>
   rw[q]at h;obtain rfl:=so h;have:=eq_of_beq q;subst this;dsimp only;split<;>simp
  |false=>
   rw[q]at h;rw[←(dE (env:=env) h)];dsimp only;split<;>(rw[zDr];rw[q])
inductive Mw(sc:Sc)(scope:Scope)(t:Str):Prop
 |mk (c0:sc.nest=false) (d8:scope.kind= .function) (c2:scope.names.lookup t=some .local) (c3:∀x∈scope.names,x.2≠.cell) (c4:∀x∈scope.names,x.2≠.local\/scope.names.lookup x.1=some .local)
  (c5:∀x∈scope.names,x.2≠.free\/(x.1≠t/\(sc.eE.lookup x.1).isSome=true)/\(sc.names.lookup x.1=some .cell\/sc.names.lookup x.1=some .free)) (c6:t≠Str.ofString "__debug__") (c7:(sc.eE.map (·.2)).contains sc.tv=false)
theorem mU{sc:Sc}{scope:Scope}{t:Str}(hc:fQ sc scope t=true):Mw sc scope t:=by simp -iota only[fQ,and_eq_true,not_eq_true',beq_iff_eq,List.all_eq_true,or_eq_true,bne_iff_ne]at hc;obtain⟨⟨⟨⟨⟨⟨⟨c0,c1⟩,c2⟩,c3⟩,c4⟩,c5⟩,c6⟩,c7⟩:=hc;exact⟨c0,by revert c1;cases scope.kind<;>simp -iota,c2,c3,c4,c5,c6,c7⟩
theorem jg{c:Cx}{env:Env}{sc:Sc}{ρ:List (Option V)}{H:Z}{h:Heap}{scope:Scope}{t:Str}(F:aW c env sc ρ H h)(hc:fQ sc scope t=true):∀p∈scope.names,p.2= .free->(env.cells.lookup p.1).isSome=true:=by
 obtain⟨c0,_,_,_,_,c5,_,_⟩:=mU hc;intro p hp hf;rcases c5 p hp with z |⟨⟨_,z⟩,z'⟩
 .exact absurd hf z
 .obtain⟨i,hi⟩:=zAp.mp z;rcases F.var _ i hi with l |⟨_,ca,vo,e1,_⟩
  .rw[F.nm c0]at l;rcases z' with z' |z'<;>rw[z']at l<;>cases l
  .rw[e1];rfl
theorem uQ{c:Cx}{env:Env}{sc:Sc}{ρ:List (Option V)}{H:Z}{h:Heap}{scope:Scope}{t:Str}{C:Addr}{h':Heap}(F:aW c env sc ρ H h)(hc:fQ sc scope t=true)
  (hm:∀v u,VR c h v u->VR c h' v u) (A5:∀ca vo,h.IsCell ca vo->h'.IsCell ca vo/\ca≠C) (hn:h'.Ns C fun _=>none) (off:c.base.get? C=none) (no:¬aQ H C):
  aW c (compEnvC scope (gO env scope.names []) C env) (cg sc scope t) (Im ρ sc.tv) H h'/\(∀p∈scope.names,p.2= .free->(env.cells.lookup p.1).isSome=true):=by
 have cells:=jg F hc;obtain⟨c0,d8,c2,c3,c4,c5,c6,c7⟩:=mU hc
 have A8:∀{x a},(gO env scope.names []).lookup x=some a->env.cells.lookup x=some a:=fun h=>by
  rcases sL cells (lookup_mem h) with h |h
  .cases h
  .exact h
 have eE:∀{x i},(cg sc scope t).eE.lookup x=some i->(x=t/\i=sc.tv)\/(x≠t/\sc.eE.lookup x=some i/\scope.names.lookup x=some .free):=by
  intro x i hx;simp -iota only[cg,lookup_cons]at hx;cases q:x==t with
  |true=>rw[q]at hx;obtain rfl:=so hx;exact .inl ⟨eq_of_beq q,rfl⟩
  |false=>
   rw[q]at hx;have:=iR (f:=fun y=>y !=t&&scope.names.lookup y==some .free) hx;simp -iota only[and_eq_true,bne_iff_ne,beq_iff_eq]at this;exact .inr ⟨this.1.1,this.2,this.1.2⟩
 have kt:(compEnvC scope (gO env scope.names []) C env).kindOf t=some .local:=lookup_relabel_local c2
 have Mx:∀x i,sc.eE.lookup x=some i->i≠sc.tv:=by
  intro x i hx e;subst e
  have:(sc.eE.map (·.2)).contains sc.tv=true:=by rw[List.contains_iff_mem];exact List.mem_map_of_mem (lookup_mem hx)
  rw[this]at c7;cases c7
 refine⟨⟨d8,F.glob,F.D5,fun x hx=>?_,fun z=>(by cases z),off,no,⟨_,hn,fun x i hx Xy v hv=>?_⟩,fun x i hx=>?_,fun x i hx=>?_,fun x y ca h1 h2=>F.mE x y ca (A8 h1) (A8 h2),fun x y i h1 h2=>?_⟩,cells⟩
 .have hx:scope.names.lookup x=some .globalImplicit:=by simpa -iota [Sc.eW,cg]using hx
  have:=dE (env:=env) hx;exact this
 .clear kt c6 c5 c2 hc;rcases eE hx with⟨rfl,rfl⟩ |⟨_,h2,h3⟩
  .exact absurd rfl (mS hv).1
  .have:=dE (env:=env) h3;have hl:(scope.names.map fun(n,k)=>if (k==NameKind.free&&env.scope.kind== .function&&env.kindOf n==some .cell) then(n,NameKind.cell) else(n,k)).lookup x=some .local:=Xy
   rw[this]at hl;split at hl<;>cases hl
 .clear c6 c2 hc;rcases eE hx with⟨rfl,rfl⟩ |⟨h1,h2,h3⟩
  .exact .inl kt
  .refine .inr ?_;have hk:=dE (env:=env) h3;have hk:(compEnvC scope (gO env scope.names []) C env).kindOf x=_:=hk;rcases F.var x i h2 with l |⟨b,ca,vo,e1,e2,e3,e4,e5⟩
   .have hf:=cells (x,.free) (lookup_mem h3) rfl;rcases c5 (x,.free) (lookup_mem h3) with z |⟨⟨_,z⟩,z'⟩
    .exact absurd rfl z
    .rw[F.nm c0]at l;rcases z' with z' |z'<;>(have z':sc.names.lookup x=_:=z';rw[z']at l;cases l)
   .obtain⟨a,ha⟩:=A7 (env:=env) (acc:=[]) (.inl (lookup_mem h3));obtain⟨b',kY⟩:=jf ha;have:=A8 kY;rw[e1]at this;obtain rfl:=so this;obtain⟨i1,i2⟩:=A5 ca vo e4;refine⟨?_,ca,vo,kY,e2,i2,i1,fun v hv=>?_⟩
    .rw[hk];rcases b with b |⟨b,b'⟩
     .left;rw[zBq (by simp -iota [F.kind,b])]
     .right;refine⟨?_,b'⟩;rw[zAi (by simp -iota [b])]
    .obtain⟨u,z1,z2⟩:=e5 v (mS hv).2;exact⟨u,z1,hm _ _ z2⟩
 .clear kt c5 c2 hc;rcases eE hx with⟨rfl,rfl⟩ |⟨h1,h2,h3⟩
  .exact zCr.mpr c6
  .exact F.D6 x i h2
 .clear kt c6 c5 c2 hc;rcases eE h1 with⟨rfl,rfl⟩ |⟨_,a2,_⟩<;>rcases eE h2 with⟨rfl,e⟩ |⟨_,b2,_⟩
  .rfl
  .exact absurd rfl (Mx _ _ b2)
  .exact absurd e (Mx _ _ a2)
  .exact F.lr x y i a2 b2
def CT(sc:Sc)(ifs:List Expr)(u:PE):Prop:=
 ∀c A env n ρ H s Q,At c sc A env n ρ H s->eV c n u ρ H Q->
  wpAny c.M A (forIn ifs true fun c r=>if r=true then do let ok←isTrue c env (eval c env);pure (ForInStep.yield ok) else pure (ForInStep.yield r)) (mF c.toCx H s Q) bZ s
theorem CT.nil{sc:Sc}:CT sc [] (.cst (.bool true)):=by intro c A env n ρ H s Q P h;rw[forIn_nil];exact Up ⟨H,P.I,ay.refl _ _ _,h⟩
theorem CT.one{sc:Sc}{e:Expr}{u:PE}(a:SE sc e u):CT sc [e] u:=by intro c A env n ρ H s Q P h;rw[forIn_cons];simp -iota only[if_true];refine lk (lk (zAw (a.gu _ _ _ _ _ _ _ _ P h) (fun b ah k=>Up ?_) fun _ _ e=>e));dsimp only;rw[forIn_nil];exact Up k
theorem bD{α:Type}{M:Model}{A:Around}{t:Sem α}{Q:α->Shared->Prop}{E:Value->Shared->Prop}{s:Shared}(h:wpAny M A t Q bZ s):wpAny M A t Q E s:=zAw h (fun _ _ q=>q) fun _ _ e=>e.elim
theorem Inv.kq{c:Cy}{H:Z}{s:Shared}(I:Inv c.toCx H s){D:Addr}{xs:Array Value}{n:Nat}{l:List V}(e:s.heap.get? D=some ⟨.type "list",none,.seq xs n,#[]⟩)(r:bj c.toCx s.heap l xs.toList)(no:¬aQ H D)(off:c.base.get? D=none):
  Inv c.toCx (H.set D (.list l)) s:=by
 have ow:∀b,aQ (H.set D (.list l)) b->aQ H b\/b=D:=by
  rintro b (x |⟨C,fs,x⟩)
  .by_cases q:b=D
   .exact .inr q
   .rw[Z.af _ _ q]at x;exact .inl (.inl x)
  .by_cases q:b+1=D
   .rw[q,Z.ab]at x;cases x
   .rw[Z.af _ _ q]at x;exact .inl (.inr ⟨C,fs,x⟩)
 refine⟨I.gens,I.drawn,I.os,I.base,fun b bo z=>?_,fun b ho=>?_,fun b C fs z=>?_,I.bad⟩
 .by_cases q:b=D
  .subst q;rw[Z.ab]at z;obtain rfl:=so z;exact⟨n,xs,e,r⟩
  .rw[Z.af _ _ q]at z;exact I.obj b bo z
 .rcases ow b ho with x |rfl
  .exact I.off b x
  .exact off
 .by_cases q:b=D
  .subst q;rw[Z.ab]at z;cases z
  .rw[Z.af _ _ q]at z
   have:b-1≠D:=fun w=>no (.inr ⟨C,fs,by have:=(I.obj b _ z).1;rw[←w];rw[sub_add_cancel this];exact z⟩)
   rw[Z.af _ _ this];exact I.apart b C fs z
theorem ay.adopt{X:Addr->Prop}{H H':Z}{s s':Shared}(S:ay X H H' s s'){D:Addr}{l:List V}(e:s.heap.get? D=none):ay X H (H'.set D (.list l)) s s':=
 ⟨S.keep,fun b ho=>by
  rcases ho with x |⟨C,fs,x⟩
  .by_cases q:b=D
   .subst q;exact .inr e
   .rw[Z.af _ _ q]at x;exact S.sub b (.inl x)
  .by_cases q:b+1=D
   .rw[q,Z.ab]at x;cases x
   .rw[Z.af _ _ q]at x;exact S.sub b (.inr ⟨C,fs,x⟩),S.live⟩
section
variable {c:Cy} {sc:Sc} {A:Around} {env:Env} {n:Nat} {ρ:List (Option V)} {H:Z} {s:Shared} {Q:V->Z->Prop}
inductive My(c:Cy)(sc:Sc)(scope:Scope)(t:Str)(n:Nat)(ρ:List (Option V))(H:Z)(s:Shared)(Q:V->Z->Prop)(items:List V)(g:Z->Prop)(wr:Addr->Prop)(Good:Nat->Heap->Prop)(u q:PE)(ku:Env)(D:Addr)(k:Nat)(s':Shared)(i:Nat)(acc:List V)(H':Z):Prop
 |mk (hi:i<=items.length) (hk:k=items.length-i+1) (I:Inv c.toCx H' s') (S:Step H H' s s') (good:Good i s'.heap) (lst:∃m ys,s'.heap.get? D=some ⟨.type "list",none,.seq ys m,#[]⟩/\bj c.toCx s'.heap acc ys.toList) (oa:¬aQ H' D) (Rz:∀b,wr b->¬aQ H' b) (F:aW c.toCx ku (cg sc scope t) (Im ρ sc.tv) H' s'.heap) (len:acc.length<=i) (N:mr g sc.tv (eV c n u) (bA c n q) (items.drop i) acc ρ H' Q)
theorem ph{elt it:Expr}{t:Str}{tp pos:Pos}{ifs:List Expr}{scope:Scope}{ik:lj}{p q u:PE}(hc:fQ sc scope t=true)(src:SI sc it ik p)(Kl:SE (cg sc scope t) elt q)(ct:CT (cg sc scope t) ifs u)
  (P:At c sc A env n ρ H s) (h:bA c n (.comp q sc.tv ik p u) ρ H Q) {RR:Value->Addr->Result->Shared->Prop}
  (Xz:∀D C H' s',Inv c.toCx H' s'->Step H H' s s'->(∃m,s'.heap.Ns C m)->s.heap.get? C=none->¬aQ H' C->c.base.get? C=none->¬c.bad C->Q (.ref D) H'->RR (.ref D) C (.ok .next) s'):
  wpAny c.M A (eval it env) (fun v ah=>wpAny c.M A (pyIter v) (fun Mu bb=>wpAny c.M A (newList []) (fun acc gw=>wpAny c.M A (newFunctionEnv scope env.globals (gO env scope.names []) [] env.qual none .none (some env)) (fun ku A9=>codeAny c.M A (.compStart (.ListComp elt [⟨.Name t tp,it,ifs,0⟩] scope pos) 0 Mu acc {ku with scope:=relabel scope env}) (RR acc ku.locals) A9) bZ gw) bZ bb) bZ ah) bZ s:=by
 replace h:bA c n p ρ H (se (bA c n q) (eV c n u) sc.tv ik ρ Q):=h
 refine zAw (src _ _ _ _ _ _ _ (fun items g aa=>items.length<=lim/\mr g sc.tv (eV c n u) (bA c n q) items [] ρ aa Q) P h) (fun v ah aG=>zAw aG (fun Mu bb aL=>?_) fun _ _ e=>e) fun _ _ e=>e;obtain⟨I,wr,Good,items,g,aa,rfl,W,aY,aI,good,oe,hlen,hN⟩:=aL;obtain⟨c0,d8,c2,c3,c4,c5,c6,c7⟩:=mU hc;refine zGe (wpAny_newFunctionEnv c3 (by intro y hy;simp -iota at hy) (fun aG uR qx=>?_) d8)
 generalize RC:bb.heap.push {cls:=.type "list",dict:=none,data:=.seq ([]:List Value).toArray}=H2 at uR qx⊢;generalize hD:bb.heap.objs.size=D;generalize hC:H2.objs.size=C at uR qx⊢;have Dj:C=D+1:=by rw[←hC];rw[←RC];rw[zGw];rw[hD]
 have dead:∀a,D<=a->bb.heap.get? a=none:=fun a ha=>bg (by rw[hD];exact ha)
 have mV:∀a,D<=a->s.heap.get? a=none:=fun a ha=>by
  cases e:s.heap.get? a with
  |none=>rfl
  |some o=>
   have:=aI.live a (by rw[e];rfl)
   rw[dead a ha]at this;cases this
 have old:∀b o,bb.heap.get? b=some o->aG.get? b=some o:=fun b o e=>by
  have hb:b<D:=by rw[←hD];exact zAo e
  exact qx.extBut b o (by rw[Dj];exact zBw (zGp hb)) (zBr _ (RC▸zBr _ e))
 have XA:aG.get? D=some ⟨.type "list",none,.seq #[] 0,#[]⟩:=by
  refine qx.extBut _ _ (by rw[Dj];exact zBw (zDe _)) (zBr _ ?_)
  rw[←RC];rw[←hD];exact zAr _ rfl
 have fy:Step H aa s {bb with heap:=aG,toks:=bb.toks+([]:List (Str×Value)).length}:=aI.trans (ay.grow _ (t:=_) old)
 have oa:¬aQ aa D:=aY.gK (by rw[hD];exact zAq _)
 have Km:¬aQ aa C:=aY.gK (by rw[hD];rw[Dj];exact zDw _)
 have kZ:c.base.get? D=none:=aY.cF (by rw[hD];exact zAq _)
 have pj:c.base.get? C=none:=aY.cF (by rw[hD];rw[Dj];exact zDw _)
 have uS:¬c.bad D:=aY.fR (by rw[hD];exact zAq _)
 have Ba:¬c.bad C:=aY.fR (by rw[hD];rw[Dj];exact zDw _)
 have sC:s.heap.get? C=none:=mV C (by rw[Dj];exact zDw _)
 have sD:s.heap.get? D=none:=mV D (zAq _)
 obtain⟨ye,rU⟩:=uQ (t:=t) (C:=C) (P.F.step P.I aI) hc (fun v u r=>VR.mono (fun b xs n _ e=>old _ _ e) _ r) (fun ca vo ⟨o,e,ed⟩=>⟨⟨o,old _ _ e,ed⟩,fun z=>by have:=zAo e;rw[hD,z,Dj]at this;exact zGy _ (zHq this)⟩) uR pj Km
 have wY:Good 0 aG:=W.keep 0 _ _ good (fun b o _ e=>old b o e) fun b xs n _ e=>old _ _ e
 have Mz:∀b,wr b->b<D:=fun b hb=>by have:=(oe b hb).2.2.2.2;obtain⟨o,e⟩:=zAp.mp this;rw[←hD];exact zAo e
 have RD:¬wr D:=fun z=>zGy _ (Mz D z);have RE:¬wr C:=fun z=>by have:=Mz C z;rw[Dj]at this;exact zGy _ (zHq this)
 let ku:=compEnvC scope (gO env scope.names []) C env
 have wZ:∀y i b,(cg sc scope t).eE.lookup y=some i->ku.cells.lookup y=some b->ku.kindOf y≠some .local->(s.heap.get? b).isSome=true:=by
  intro y i b hy hb hk
  have XC:∀{x a},(gO env scope.names []).lookup x=some a->env.cells.lookup x=some a:=fun h=>by
   rcases sL rU (lookup_mem h) with h |h
   .cases h
   .exact h
  have hb:=XC hb;simp -iota only[cg,lookup_cons]at hy;cases q:y==t with
  |true=>rw[eq_of_beq q]at hk;exact absurd (lookup_relabel_local c2) hk
  |false=>
   rw[q]at hy;have hy:=(iR (f:=fun y=>y !=t&&scope.names.lookup y==some .free) hy);simp -iota only[and_eq_true,bne_iff_ne,beq_iff_eq]at hy;rcases P.F.var y i hy.2 with l |⟨_,ca,vo,e1,_,_,⟨o,e,_⟩,_⟩
   .have h3:=hy.1.2;rcases c5 (y,.free) (lookup_mem h3) with z |⟨⟨_,z⟩,z'⟩
    .exact absurd rfl z
    .rw[P.F.nm c0]at l;rcases z' with z' |z'<;>(have z':sc.names.lookup y=_:=z';rw[z']at l;cases l)
   .rw[hb]at e1;obtain rfl:=so e1;rw[e];rfl
 have yf:∀b,wr b->¬FX ku (cg sc scope t) b:=by
  rintro b hb (z |⟨y,i,hy,kY,hk⟩)
  .have z:b=C:=z;exact RE (z▸hb)
  .have:=wZ y i b hy kY hk;rw[(oe b hb).1]at this;cases this
 have XD:¬FX ku (cg sc scope t) D:=by
  rintro(z |⟨y,i,hy,kY,hk⟩)
  .have z:D=C:=z;rw[Dj]at z;exact absurd z (zBw (zDe _))
  .have:=wZ y i D hy kY hk;rw[sD]at this;cases this
 have Vf:D≠C:=by rw[Dj];exact zBw (zDe _)
 have loop:codeAny c.M A (.compLoop (.ListComp elt [⟨.Name t tp,it,ifs,0⟩] scope pos) 0 (.ref I) (.ref D) ku) (RR (.ref D) C) {bb with heap:=aG,toks:=bb.toks+([]:List (Str×Value)).length}:=by
  refine codeAny_compLoop_tests (fun k s'=>∃i acc H',My c sc scope t n ρ H s Q items g wr Good u q ku D k s' i acc H') ?_ (items.length-0+1)
   ⟨0,[],aa,zEw _,rfl,(aY.grow (t:=bb.toks+([]:List (Str×Value)).length) old),fy,wY,⟨0,#[],XA,rfl⟩,oa,fun b hb=>(oe b hb).2.1,ye,zEw _,hN⟩
  rintro k s' ⟨i,acc,H',J⟩;refine bD ?_;obtain⟨hi,hk,I',S',jL,⟨m,ys,eD,rD⟩,Bb,gP,F',Io,N'⟩:=J;have MA:¬aQ H' C:=F'.no;by_cases cE:i<items.length
  case neg=>
   have RF:i=items.length:=Nat.le_antisymm hi (zGq.mp cE);subst RF;rw[List.drop_length]at N';refine W.done s' H' _ jL I' N'.1 fun h' tk k'=>?_;have bM:=W.bM _ s' jL;have sM:=I'.move (t:=tk) k' (fun b hb=>⟨gP b hb,(oe b hb).2.2.1⟩) bM (fun b hb z=>absurd z (oe b hb).2.2.2.1);have qy:=S'.fresh (t:=tk) k' (fun b hb=>(oe b hb).1);have XE:=bj.mono (fun b xs n nb e=>k' _ _ (fun z=>bM b xs n z nb e) e:∀b xs n,¬c.bad b->s'.heap.get? b=some ⟨.type "tuple",none,.seq xs n,#[]⟩->h'.get? b=some ⟨.type "tuple",none,.seq xs n,#[]⟩) _ rD
   have Ip:H' D=none:=by
    cases z:H' D with
    |none=>rfl
    |some _=>exact absurd (.inl (by rw[z];simp -iota)) Bb
   obtain⟨mm,Mt,_⟩:=F'.ns;refine Xz D C _ _ (sM.kq (k' D _ RD eD) XE Bb kZ) (qy.adopt sD) ⟨mm,?_⟩ sC ?_ pj Ba (N'.2 D Ip)
   .obtain⟨o,es,ep,e,r⟩:=Mt;exact⟨o,es,ep,k' _ _ RE e,r⟩
   .rintro(x |⟨C',fs,x⟩)
    .rw[Z.af _ _ (zFp Vf)]at x;exact MA (.inl x)
    .by_cases z:C+1=D
     .rw[z,Z.ab]at x;cases x
     .rw[Z.af _ _ z]at x;exact MA (.inr ⟨C',fs,x⟩)
  case pos=>
   rw[List.drop_eq_getElem_cons cE]at N';refine W.next i s' H' _ cE jL I' N'.1 fun x h' tk rx fW k'=>bD ?_
   have bM:=W.bM _ s' jL;have sM:=I'.move (t:=tk) k' (fun b hb=>⟨gP b hb,(oe b hb).2.2.1⟩) bM (fun b hb z=>absurd z (oe b hb).2.2.2.1);have qy:=S'.fresh (t:=tk) k' (fun b hb=>(oe b hb).1);have MB:=ay.move (s:=s') H' (t:=tk) k' (fun b hb=>W.live _ _ b fW hb);have Bc:=F'.Gj I' MB bM yf;refine wpAny_assign_Name (zAw (kU (x:=t) (i:=sc.tv) sM Bc (by simp -iota [cg]) (lookup_relabel_local c2) rx) (fun _ Bd Iq=>bD ?_) fun _ _ e=>e.elim)
   obtain⟨yg,mW,Be⟩:=Iq;rw[A6]at Be
   have RG:Step H H' s Bd:=by
    refine⟨fun b o e no _=>mW.keep b o (qy.keep b o e no id) (fun z=>?_) (fun z=>?_),fun b hb=>qy.sub b hb,fun b hb=>mW.live b (qy.live b hb)⟩
    .rcases qy.sub b z with z |z
     .exact no z
     .exact sn e z
    .have z:b=C:=z;rw[z,sC]at e;exact sn e rfl
   have Gl:eC c.toCx (fun b=>b=ku.locals) {s' with heap:=h',toks:=tk}:=fun b xs n hb=>Bc.bM b xs n (.inl hb)
   have jM:Good (i+1) Bd.heap:=W.keep _ _ _ fW (fun b o hb e=>mW.keep b o e (gP b hb) (fun z=>by have z:b=C:=z;exact RE (z▸hb))) (sM.mi mW Gl)
   have Gm:=mW.keep D _ (k' D _ RD eD) Bb (fun z=>Vf z);have MC:=sM.HD mW Gl (I'.HD MB bM rD);have MD:At c (cg sc scope t) A ku n (b9 ρ sc.tv items[i]) H' Bd:=⟨P.ok,P.R,yg,Be⟩;refine zAw (ct _ _ _ _ _ _ _ _ MD N'.2) (fun b ME RH=>?_) fun _ _ e=>e.elim;obtain⟨Bf,sN,jh,MF⟩:=RH;have MG:=MD.step sN jh;have MH:=RG.trans jh;have qz:Good (i+1) ME.heap:=W.keep _ _ _ jM (fun b o hb e=>jh.gG e (gP b hb)) (yg.dQ jh);have Bg:=jh.gG Gm Bb;have Gn:=yg.OE jh MC;have uT:=jh.not Gm Bb
   have qA:∀b,wr b->¬aQ Bf b:=fun b hb=>by obtain⟨o,e⟩:=zAp.mp (W.live _ _ b jM hb);exact jh.not e (gP b hb)
   cases b with
   |false=>
    refine⟨k-1,by rw[hk];exact zDe _,i+1,acc,Bf,cE,?_,sN,MH,qz,⟨m,ys,Bg,Gn⟩,uT,qA,MG.F.weaken fun j v=>kX,Nat.le_succ_of_le Io,MF⟩
    rw[hk];refine(?_:items.length-i=items.length-(i+1)+1);exact(aD 0x5ac140d6800d402016) cE
   |true=>
    refine bD (Kl.then MG MF fun y oy yv Ir yh uU ry RI=>bD ?_);have RJ:=MH.trans uU;have Ef:Good (i+1) oy.heap:=W.keep _ _ _ qz (fun b o hb e=>uU.gG e (qA b hb)) (sN.dQ uU);have w4:=uU.gG Bg uT;have Gp:=sN.OE uU Gn;have Bh:=uU.not Bg uT
    have Eg:∀b,wr b->¬aQ Ir b:=fun b hb=>by obtain⟨o,e⟩:=zAp.mp (W.live _ _ b qz hb);exact uU.not e (qA b hb)
    have e1:=aE Gp;simp -iota only[length_toList]at e1;have ag:=dS;refine zEu PySem.F.slot_list_append ⟨_,w4,rfl⟩ PySem.F.entry_list_append ?_ (PySem.F.args_list_append_2 _ _);refine(?_:wpAny _ _ (updateSeq D (·.push y)>>=fun _=>ret .none) _ _ oy);have hz:_<=sizeLine:=(dq 0x8000007065000000e03d090384c11830042c209303d09038026) hlen Io cE e1 ag;refine lk (wpAny_updateSeq w4 rfl (Up ⟨.none,rfl,?_⟩) hz (zDo (Nat.le_of_eq (Array.size_push ..)) (Nat.succ_le_succ hz)));obtain⟨m',Gq⟩:=fA w4 (·.push y);have dk:=zBo oy.heap D (Obj.mapSeq (·.push y));have Eh:∀b o,¬(b=D)->oy.heap.get? b=some o->(oy.heap.update D (Obj.mapSeq (·.push y))).get? b=some o:=fun b o hb e=>(dk.2 b hb).trans e;have sO:eC c.toCx (fun b=>b=D) oy:=d9 fun xs n z=>by rw[w4]at z;simp -iota at z
    have RK:=yh.I.move (t:=oy.toks) Eh (fun b hb=>by rw[hb];exact⟨Bh,kZ⟩) sO (fun b hb z=>absurd (hb▸z) uS)
    have Ei:=ay.move (s:=oy) (X:=fun b=>b=D) Ir (t:=oy.toks) Eh (fun b hb=>by rw[hb];rw[Gq];rfl)
    have RL:=RJ.fresh (t:=oy.toks) Eh (fun b hb=>by rw[hb];exact sD)
    have RN:=yh.F.Gj yh.I Ei sO (fun b hb=>by rw[hb];exact XD)
    refine⟨k-1,by rw[hk];exact zDe _,i+1,acc++[yv],Ir,cE,?_,RK,RL,W.keep _ _ _ Ef (fun b o hb e=>Eh b o (fun z=>RD (z▸hb)) e) (yh.I.mi Ei sO),⟨m',_,Gq,?_⟩,Bh,Eg,RN.weaken fun j v=>kX,?_,RI⟩
    .rw[hk];refine(?_:items.length-i=items.length-(i+1)+1);exact(aD 0x5ac140d6800d402016) cE
    .rw[toList_push];exact cD (yh.I.HD Ei sO Gp) ⟨y,[],rfl,yh.I.HC Ei sO ry,rfl⟩
    .rw[length_append];rw[List.length_singleton];exact(aP 0x161a2c142008182026) Io e1
 exact codeAny_compStart_list loop (bD (W.self 0 _ _ wY loop))
theorem SE.comp{elt it:Expr}{t:Str}{tp pos:Pos}{ifs:List Expr}{scope:Scope}{ik:lj}{p q u:PE}(hc:fQ sc scope t=true)(src:SI sc it ik p)(Kl:SE (cg sc scope t) elt q)(ct:CT (cg sc scope t) ifs u)
  (hs:∀env x,foldedSetIterable it env x=pure x):SE sc (.ListComp elt [⟨.Name t tp,it,ifs,0⟩] scope pos) (.comp q sc.tv ik p u):=by
 refine .plain (fun c A env n ρ H s Q P h=>?_) (fun _ _=>rfl) (fun _ _ _ _ _=>rfl);obtain⟨c0,d8,c2,c3,c4,c5,c6,c7⟩:=mU hc;rw[eval_ListComp];have uV:=jg P.F hc
 refine wpAny_comprehension_free (use:=Option.none) rfl (hs env) (mT uV) d8 (fun x hx hl=>by
  rcases c4 x hx with z |z
  .exact absurd hl z
  .exact z) ?_
 refine ph (RR:=fun acc C=>compPost c.M A bZ Option.none (Back c.toCx H s Q) acc C) hc src Kl ct P h fun D C H' s' I' S' hm sC Km pj Ba q=>?_;obtain⟨m,hm⟩:=hm;refine⟨m,hm,fun h' dk=>?_⟩;have k':∀b o,¬(b=C)->s'.heap.get? b=some o->h'.get? b=some o:=fun b o hb e=>(dk.2 b hb).trans e
 have bM:eC c.toCx (fun b=>b=C) s':=d9 fun xs n z=>by obtain⟨o,es,ep,e,hd,_⟩:=hm;rw[e]at z;obtain rfl:=so z;cases hd
 exact⟨.ref D,H',I'.move (t:=s'.toks) k' (fun b hb=>by rw[hb];exact⟨Km,pj⟩) bM (fun b hb z=>absurd (hb▸z) Ba),S'.fresh (t:=s'.toks) k' (fun b hb=>by rw[hb];exact sC),dA,q⟩
end
section
open Builtin Builtin.ObjectAttr
theorem Bi{prog:Program}{w:World}{h:Heap}{a:Addr}{kvs:List (Str×Value)}(hm:h.DictOf (PySem.strKind prog w) a kvs)(name:Str)(t:Tok)(v:Value):
  ∃o es n,h.get? a=some o/\o.data= .dict es n/\(!es.any (·.key.isStr name)&&es.any (·.refKey))=false/\es.size=kvs.length/\
   (h.update a (Obj.putName name (hashStr w name) (.str name t) v)).DictOf (PySem.strKind prog w) a (stored kvs name v)/\
   ∃xN n',(Obj.putName name (hashStr w name) (.str name t) v o).data= .dict xN n'/\xN.size<=es.size+1:=by
 obtain⟨⟨oc,od,OD,Qn⟩,es,ep,ho,⟨h1,h2,h3⟩,hd,hk,hp,hn⟩:=hm;dsimp only at h1 h2 h3 hd;subst h1 h2 h3 hd
 have RO:(fun e:DictEntry=>e.key.isStr name)=fun e=>(PySem.strKind prog w).is name e.key:=by funext e;refine(?_:e.key.isStr name=Value.isStrOf name e.key);cases e.key<;>rfl
 have nr:es.any (·.refKey)=false:=by rw[Array.any_eq_false'];intro e he;obtain⟨k,hk,_⟩:=hk e he;have hk:Value.isStrOf k e.key=true:=hk;obtain⟨t,ht⟩:=Value.isStrOf_shape hk;simp[DictEntry.refKey,ht]
 have hlen:es.size=kvs.length:=by have:=hp.length;simpa using this
 have pZ:(PySem.strKind prog w).is name (.str name t)=true:=by simp[PySem.strKind,Value.isStrOf]
 have Ej:(es.findIdx? fun e=>(PySem.strKind prog w).is name e.key)=kvs.findIdx? fun kv=>decide (kv.1=name):=by rw[←hp.findIdx name];clear hlen nr ho hp hk;obtain⟨l⟩:=es;simp
 refine⟨_,es,ep,ho,rfl,by rw[nr];rw[Bool.and_false],hlen,?_⟩
 clear hlen nr;cases hi:es.findIdx? fun e=>(PySem.strKind prog w).is name e.key with
 |some i=>
  have e:Obj.putName name (hashStr w name) (.str name t) v {cls:=.type "dict",dict:=none,data:=.dict es ep,slots:= #[]}={cls:=.type "dict",dict:=none,data:=.dict (es.modify i fun e=>{e with val:=v}) ep,slots:= #[]}:=by rw[Obj.putName_eq];simp only[Obj.putNameByArray,RO,hi]
  refine⟨⟨_,_,ep,zCo _ ho (by rw[e];rfl),by rw[e];exact⟨rfl,rfl,rfl⟩,by rw[e],hk.modify _ _,?_,?_⟩,_,_,by rw[e],by simp⟩
  .rw[stored];rw[zBq (any_of_findIdx_some (Ej▸hi))];have hl:(es.toList.findIdx? fun e=>(PySem.strKind prog w).is name e.key)=some i:=by rw[←hi];obtain⟨l⟩:=es;simp
   have:=hp.modify hn hl v;obtain⟨l⟩:=es;simpa using this
  .rw[stored];rw[zBq (any_of_findIdx_some (Ej▸hi))];rw[keys_map_store];exact hn
 |none=>
  have MI:name∉kvs.map (·.1):=not_mem_of_findIdx_none (Ej▸hi)
  have It:¬(kvs.any fun kv=>decide (kv.1=name))=true:=by rw[any_eq_true];rintro⟨kv,MK,he⟩;exact MI (zAt.mpr ⟨kv,MK,zFq he⟩)
  have e:Obj.putName name (hashStr w name) (.str name t) v {cls:=.type "dict",dict:=none,data:=.dict es ep,slots:= #[]}={cls:=.type "dict",dict:=none,data:=.dict (es.push ⟨hashStr w name,.str name t,v⟩) (ep+1),slots:= #[]}:=by rw[Obj.putName_eq];simp only[Obj.putNameByArray,RO,hi]
  refine⟨⟨_,es.push ⟨hashStr w name,.str name t,v⟩,ep+1,zCo _ ho (by rw[e];rfl),by rw[e];exact⟨rfl,rfl,rfl⟩,by rw[e],hk.push pZ v,?_,?_⟩,_,_,by rw[e],by simp⟩
  .rw[stored];rw[zAi It];have:=hp.append pZ (hashStr w name) v;obtain⟨l⟩:=es;simpa using this
  .rw[stored];rw[zAi It];rw[map_append];rw[zCi];refine⟨hn,by simp,?_⟩
   intro a ha b hb;simp only[map_cons,map_nil,mem_singleton]at hb;clear e It hi Ej pZ RO;subst hb;exact fun e=>MI (e▸ha)
section
variable {c:Cy} {A:Around} {H:Z} {s:Shared}
theorem ky{k:Nat}{v:V}{p:Nat->Prop}(hk:p k):∀{fs:List (Nat×V)},(∀x∈fs,p x.1)->∀x∈putD k v fs,p x.1
 |[],_,x,hx=>by simp only[zV,mem_singleton]at hx;subst hx;exact hk
 |(a,w)::fs,h,x,hx=>by
  rw[aO]at hx;split at hx
  .rcases zAy.mp hx with rfl |hx
   .exact h (a,w) zEt
   .exact h x (zDt _ hx)
  .rcases zAy.mp hx with rfl |hx
   .exact h (a,w) zEt
   .exact ky hk (fun y hy=>h y (zDt _ hy)) x hx
theorem Inv.Ek(I:Inv c.toCx H s){a:Addr}{C:lE}{fs Dk:List (Nat×V)}(hH:H a=some (.inst C fs)){h':Heap}{t:Nat}(k:SameBut (a-1) s.heap h'){Iu:List (Str×Value)}
  (hd:h'.DictOf (sK c.toCx) (a-1) Iu) (pr:PR c.toCx h' cB Dk Iu) (hf:∀p∈Dk,p.1<zP):
  Inv c.toCx (H.set a (.inst C Dk)) {s with heap:=h',toks:=t}/\Step H (H.set a (.inst C Dk)) s {s with heap:=h',toks:=t}:=by
 obtain⟨ha,e,kvs,Vg,_⟩:=I.obj a _ hH;have ap:=I.apart a _ _ hH;have own:aQ H (a-1):=.inr ⟨C,fs,by rw[sub_add_cancel ha];exact hH⟩
 have Iv:aQ H a:=.inl (by rw[hH];simp)
 have ow:∀b,aQ (H.set a (.inst C Dk)) b->aQ H b:=by
  rintro b (x |⟨D,gs,x⟩)
  .by_cases q:b=a
   .rw[q];exact Iv
   .rw[Z.af _ _ q]at x;exact .inl x
  .by_cases q:b+1=a
   .exact .inr ⟨C,fs,by rw[q];exact hH⟩
   .rw[Z.af _ _ q]at x;exact .inr ⟨D,gs,x⟩
 have keep:∀b o,s.heap.get? b=some o->¬aQ H b->h'.get? b=some o:=fun b o e n=>(k.2 b fun q=>n (q▸own)).trans e
 have dQ:∀b xs n,¬c.bad b->s.heap.get? b=some ⟨.type "tuple",none,.seq xs n,#[]⟩->h'.get? b=some ⟨.type "tuple",none,.seq xs n,#[]⟩:=
  fun b _ _ _ e=>keep b _ e (I.mh e (by simp) (by simp) (by simp))
 have ne:a≠a-1:=ne_of_gt (Nat.sub_lt ha Nat.one_pos)
 have live:∀b,(s.heap.get? b).isSome=true->(h'.get? b).isSome=true:=fun b hb=>by
  by_cases q:b=a-1
  .obtain⟨es,n,z⟩:=aR hd;rw[q];rw[z];rfl
  .rw[k.2 b q];exact hb
 refine⟨⟨I.gens,I.drawn,I.os,fun b o e=>(k.2 b fun q=>?_).trans (I.base _ _ e),fun b bo z=>?_,fun b ho=>I.off b (ow b ho),fun b D gs z=>?_,fun b hb=>live b (I.bad b hb)⟩,⟨fun b o e n _=>keep b o e n,fun b x=>.inl (ow b x),live⟩⟩
 .subst q;exact sn e (I.off _ own)
 .by_cases q:b=a
  .clear ow Iv own ap Vg hH;subst q;rw[Z.ab]at z;obtain rfl:=so z;exact⟨ha,(k.2 b ne).trans e,Iu,hd,pr,hf⟩
  .rw[Z.af _ _ q]at z;refine dI.mono dQ (fun o w=>(k.2 b fun u=>?_).trans w) (fun⟨D,gs,w⟩ o w'=>(k.2 _ fun u=>?_).trans w') (I.obj b bo z)
   .rw[u,ap]at z;exact sn z rfl
   .subst w;exact q ((sub_add_cancel ((I.obj b _ z).1)).symm.trans ((zEy (·+1) u).trans (sub_add_cancel ha)))
 .by_cases q:b=a
  .clear z ow Iv own Vg e ha hd k hH;subst q;rw[Z.af _ _ (zFp ne)];exact ap
  .rw[Z.af _ _ q]at z;have:b-1≠a:=fun w=>by have:=I.apart b D gs z;rw[w,hH]at this;exact sn this.symm rfl
   rw[Z.af _ _ this];exact I.apart b D gs z
theorem Bj{K:Frag}{mg mb:Str->Option Value}(ok:Ok c K mg mb)(I:Inv c.toCx H s){a:Addr}{C:lE}{fs:List (Nat×V)}{k:Nat}{x:V}{v:Value}(hH:H a=some (.inst C fs))(hk:k<zP)(r:VR c.toCx s.heap x v)(hl:fs.length<900){Q:Unit->Shared->Prop}
  (q:∀s',Inv c.toCx (H.set a (.inst C (putD k x fs))) s'->Step H (H.set a (.inst C (putD k x fs))) s s'->Q () s'):wpAny c.M A (setAttr (.ref a) (cB k) v) Q bZ s:=by
 obtain⟨_,ha,kvs,hd,pr,hf⟩:=I.obj a _ hH;obtain⟨o,es,n,ho,AK,Bl,eM,RP,xN,n',Gr,RQ⟩:=Bi hd (cB k) (s.toks+1) v
 have mem:cB k∈d6:=by
  rw[←fk]at hk;have:cB k=d6[k]:=by simp[cB,List.getD,hk]
  rw[this];exact zEq hk
 obtain⟨cd,Gh,Rw,XF⟩:=ok.HZ C;have Ia:InstAt s.heap a ⟨.ref (c.ca C),some (a-1),.plain,#[]⟩ (c.ca C) (some o):=⟨ha,rfl,rfl,ho⟩;have X:=I.kx ok;refine set_plain X Ia (ok.sa C) ?_;refine osa_open (s:={s with toks:=s.toks+1}) X Ia (r:=none) ?_ ?_ fun b=>?_
 .delta plainOver;rw[Gh];exact XF
 .delta takerIn;rw[ok.Ib C _ mem];rfl
 refine lk (Up (lk (lk (wpAny_loadPart (s:={s with toks:=s.toks+1}) ha (lk ((looks_clsIn X Gh).here (s:={s with toks:=s.toks+1}) ?_))))))
 rw[Rw];refine Up (a:=some (a-1)) (lk (Up (lk ?_)));delta nsSet;refine lk (lk (wpAny_askSetting (Up (lk (wpAny_mkText (lk (wpAny_loadPart ho ?_)))))));rw[AK];dsimp only;rw[aRefKeyMayBeTheName_at];rw[Bl];refine wpAny_updatePart ho ?_;have dk:=zBo s.heap (a-1) (Obj.putName (cB k) (hashStr c.w (cB k)) (.str (cB k) (s.toks+1)) v)
 have D':(s.heap.update (a-1) (Obj.putName (cB k) (hashStr c.w (cB k)) (.str (cB k) (s.toks+1)) v)).get? (a-1)=some (Obj.putName (cB k) (hashStr c.w (cB k)) (.str (cB k) (s.toks+1)) v o):=
  zCo _ ho (Obj.isFreed_of_dict Gr)
 refine lk (wpAny_lookBehind D' (by rw[Gr];exact pastItsLine_dict (by rw[sizeLine_eq];exact(dq 0x5c00000394190040cb0d064c20830000e138016) hl eM RQ pr.length)) ?_)
 refine Up ?_
 have dQ:∀b xs n,¬c.bad b->s.heap.get? b=some ⟨.type "tuple",none,.seq xs n,#[]⟩->(s.heap.update (a-1) (Obj.putName (cB k) (hashStr c.w (cB k)) (.str (cB k) (s.toks+1)) v)).get? b=some ⟨.type "tuple",none,.seq xs n,#[]⟩:=
  fun b xs m _ e=>(dk.2 b fun z=>by obtain⟨es,n,w⟩:=aR hd;rw[←z,e]at w;simp at w).trans e
 have hn:(kvs.map (·.1)).Nodup:=eA hd;obtain⟨aY,aI⟩:=I.Ek hH (t:=s.toks+1+1) dk RP (PR.stored (VR.mono dQ _ r) (AH hf hk) hn (pr.mono dQ)) (ky (p:=fun j=>j<zP) hk hf);exact q _ aY aI
end
end
inductive ML(c:Cx)(env:Env)(sc:Sc)(H:Z)(s:Shared)(Q:List (Option V)->Z->Prop)(s':Shared):Prop
 |mk (kW:List (Option V)) (H':Z) (I:Inv c H' s') (S:ay (FX env sc) H H' s s') (F:aW c env sc kW H' s'.heap) (q:Q kW H')
inductive MM(c:Cx)(env:Env)(sc:Sc)(H:Z)(s:Shared)(R:V->Z->Prop)(v:Value)(s':Shared):Prop
 |mk (x:V) (H':Z) (I:Inv c H' s') (S:ay (FX env sc) H H' s s') (r:VR c s'.heap x v) (q:R x H')
def ee(c:Cx)(env:Env)(sc:Sc)(H:Z)(s:Shared)(Q:List (Option V)->Z->Prop)(R:V->Z->Prop):Flow->Shared->Prop
 | .next,s'=>ML c env sc H s Q s'
 | .ret v,s'=>MM c env sc H s R v s'
 |_,_=>False
def SS(sc:Sc)(st:Stmt)(p:PS):Prop:=
 ∀c A env n ρ H s Q R,At c sc A env n ρ H s->wpS c n p ρ H Q R->wpAny c.M A (exec st env) (ee c.toCx env sc H s Q R) bZ s
def sP(sc:Sc)(l:List Stmt)(p:PS):Prop:=
 ∀c A env n ρ H s Q R,At c sc A env n ρ H s->wpS c n p ρ H Q R->wpAny c.M A (execs l env) (ee c.toCx env sc H s Q R) bZ s
section
variable {c:Cx} {env:Env} {sc:Sc} {H aa:Z} {s ah:Shared} {Q:List (Option V)->Z->Prop} {R:V->Z->Prop}
theorem ee.after{f:Flow}{s':Shared}(S:ay (FX env sc) H aa s ah)(b:ee c env sc aa ah Q R f s'):ee c env sc H s Q R f s':=by
 cases f with
 |next=>obtain⟨kW,H',I,S',F,q⟩:=b;exact⟨kW,H',I,S.trans S',F,q⟩
 |ret v=>obtain⟨x,H',I,S',r,q⟩:=b;exact⟨x,H',I,S.trans S',r,q⟩
 |_=>exact b.elim
theorem Step.up{X:Addr->Prop}(S:Step H aa s ah):ay X H aa s ah:=S.weaken fun _ h=>h.elim
theorem ee.next{kW:List (Option V)}{H':Z}{s':Shared}(I:Inv c H' s')(S:ay (FX env sc) H H' s s')(F:aW c env sc kW H' s'.heap)(q:Q kW H'):ee c env sc H s Q R .next s':=⟨kW,H',I,S,F,q⟩
theorem ee.ret{x:V}{v:Value}{H':Z}{s':Shared}(I:Inv c H' s')(S:ay (FX env sc) H H' s s')(r:VR c s'.heap x v)(q:R x H'):ee c env sc H s Q R (.ret v) s':=⟨x,H',I,S,r,q⟩
end
section
variable {sc:Sc}
theorem sP.nil:sP sc [] .skip:=fun c A env n ρ H s Q R P h=>wpAny_execs_nil (.next P.I (ay.refl _ _ _) P.F h)
theorem sP.cons{st:Stmt}{l:List Stmt}{p q:PS}(a:SS sc st p)(b:sP sc l q):sP sc (st::l) (.seq p q):=by
 intro c A env n ρ H s Q R P h;dsimp only[cb]at h;refine wpAny_execs_cons (zAw (a _ _ _ _ _ _ _ _ _ P h) (fun f ah k=>?_) fun _ _ e=>e);cases f with
 |next=>
  obtain⟨kW,H',I,S,F,q⟩:=k;exact zAw (b _ _ _ _ _ _ _ _ _ ⟨P.ok,P.R,I,F⟩ q) (fun _ _ z=>z.after S) fun _ _ e=>e
 |ret v=>exact k
 |_=>exact k.elim
theorem SS.pass{pos}:SS sc (.Pass pos) .skip:=fun c A env n ρ H s Q R P h=>wpAny_Pass (.next P.I (ay.refl _ _ _) P.F h)
theorem SS.An{pos}:SS sc (.Return none pos) .An:=fun c A env n ρ H s Q R P h=>by dsimp only[HW]at h;exact wpAny_Return_none (.ret P.I (ay.refl _ _ _) iq h)
theorem SS.ret{e:Expr}{p:PE}{pos}(a:SE sc e p):SS sc (.Return (some e) pos) (.ret p):=fun c A env n ρ H s Q R P h=>by dsimp only[cJ]at h;exact wpAny_Return_some (a.then P h fun v ah x aa ai aq r q=>.ret ai.I (Step.up aq) r q)
theorem SS.expr{e:Expr}{p:PE}{pos}(a:SE sc e p)(hs:∀line env,swapsWith e none line env=pure false):SS sc (.Expr e pos) (.expr p):=fun c A env n ρ H s Q R P h=>by
 dsimp only[cJ]at h;refine wpAny_Expr (a.then P h fun v ah x aa ai aq r q=>?_) (by delta interactive;rw[P.F.kind];rfl) (hs _ _)
 cases x with
 |none=>cases (show v= .none from r);exact .next ai.I (Step.up aq) ai.F q
 |bool b=>cases (show v= .bool b from r);exact .next ai.I (Step.up aq) ai.F q
 |_=>exact q.elim
theorem SS.ifs{t:Expr}{a b:List Stmt}{tp:PE}{ap bp:PS}{pos}(ht:SE sc t tp)(ha:sP sc a ap)(hb:sP sc b bp):SS sc (.If t a b pos) (.ifs tp ap bp):=fun c A env n ρ H s Q R P h=>by
 dsimp only[Gc]at h;refine wpAny_If (ht.jI P h fun r ah aa ai aq q=>?_);cases r
 .exact zAw (hb _ _ _ _ _ _ _ _ _ ai q) (fun _ _ z=>z.after (Step.up aq)) fun _ _ e=>e
 .exact zAw (ha _ _ _ _ _ _ _ _ _ ai q) (fun _ _ z=>z.after (Step.up aq)) fun _ _ e=>e
theorem SS.assign{x:Str}{px pos:Pos}{i:Nat}{e:Expr}{p:PE}(hx:sc.eE.lookup x=some i)(cZ:fv sc x=true)(a:SE sc e p)(hs:∀line env,swapsWith e (some (.Name x px)) line env=pure false):
  SS sc (.Assign [.Name x px] e pos) (.assign i p):=fun c A env n ρ H s Q R P h=>by
 dsimp only[cJ]at h;refine wpAny_Assign_Name (a.then P h fun v ah y aa ai aq r q=>zAw (cy ai.I ai.F hx cZ r) (fun _ bb ⟨aY,aI,gx⟩=>?_) fun _ _ e=>e) (hs _ _);exact .next aY ((Step.up aq).trans aI) gx q
theorem SS.uW{x:Str}{px pos qB:Pos}{i:Nat}{elt it:Expr}{t:Str}{tp:Pos}{ifs:List Expr}{scope:Scope}{ik:lj}{p q u:PE}(hx:sc.eE.lookup x=some i)(cZ:fv sc x=true)(hc:fQ sc scope t=true)(src:SI sc it ik p)
  (Kl:SE (cg sc scope t) elt q) (ct:CT (cg sc scope t) ifs u) (hs:∀env x,foldedSetIterable it env x=pure x):
  SS sc (.Assign [.Name x px] (.ListComp elt [⟨.Name t tp,it,ifs,0⟩] scope qB) pos) (.assign i (.comp q sc.tv ik p u)):=fun c A env n ρ H s Q R P h=>by
 have Pc:∃b,swapsWith (.ListComp elt [⟨.Name t tp,it,ifs,0⟩] scope qB) (some (.Name x px)) pos.line env=pure b:=⟨_,rfl⟩;obtain⟨b,Pc⟩:=Pc;cases b with
 |false=>
  dsimp only[cJ]at h;refine wpAny_Assign_Name ((SE.comp (pos:=qB) (tp:=tp) hc src Kl ct hs).then P h fun v ah y aa ai aq r q=>zAw (cy ai.I ai.F hx cZ r) (fun _ bb ⟨aY,aI,gx⟩=>?_) fun _ _ e=>e) Pc;exact .next aY ((Step.up aq).trans aI) gx q
 |true=>
  rw[exec_Assign_Name_used _ _ _ _ Pc];dsimp only[cJ]at h;obtain⟨c0,d8,c2,c3,c4,c5,c6,c7⟩:=mU hc;have uV:=jg P.F hc;refine lk (wpAny_standAt (lk ?_));refine(?_:wpAny _ A (do let _←comprehension (.ListComp elt [⟨.Name t tp,it,ifs,0⟩] scope qB) scope env _ (newList []) false (eval it env) (some (PySem.assign (.Name x px) env))) _ _ s)
  refine lk (zAw (wpAny_comprehension_free (use:=some (PySem.assign (.Name x px) env)) (Q:=fun _ s'=>ee c.toCx env sc H s Q R .next s') rfl (hs env) (mT uV) d8 (fun x hx hl=>by
   rcases c4 x hx with z |z
   .exact absurd hl z
   .exact z) ?_) (fun _ s' hq=>Up (Up hq)) fun _ _ e=>e)
  refine ph (RR:=fun acc C=>compPost c.M A bZ (some (PySem.assign (.Name x px) env)) (fun _ s'=>ee c.toCx env sc H s Q R .next s') acc C) hc src Kl ct P h fun D C H' s' I' S' hm sC Km pj Ba q=>?_
  obtain⟨m,hm⟩:=hm;refine(?_:wpAny _ A (PySem.assign (.Name x px) env (.ref D)) _ _ _);refine wpAny_assign_Name (zAw (cy I' (P.F.step P.I S') hx cZ (v:=.ref D) rfl) (fun _ bb ⟨aY,aI,gx⟩=>?_) fun _ _ e=>e)
  have Vh:¬FX env sc C:=by
   rintro(z |⟨y,j,hy,kY,hk⟩)
   .obtain⟨mm,⟨o,es,ep,e,_⟩,_⟩:=P.F.ns;rw[←z,sC]at e;exact sn e rfl
   .rcases P.F.var y j hy with l |⟨_,ca,vo,e1,_,_,⟨o,e,_⟩,_⟩
    .exact absurd l hk
    .rw[kY]at e1;clear e3 e2;obtain rfl:=so e1;exact sn e sC
  have Gs:bb.heap.Ns C m:=by obtain⟨o,es,ep,e,r⟩:=hm;exact⟨o,es,ep,aI.keep C _ e Km Vh,r⟩
  refine⟨m,Gs,fun h' dk=>?_⟩;have k':∀b o,¬(b=C)->bb.heap.get? b=some o->h'.get? b=some o:=fun b o hb e=>(dk.2 b hb).trans e
  have bM:eC c.toCx (fun b=>b=C) bb:=d9 fun xs n z=>by obtain⟨o,es,ep,e,hd,_⟩:=Gs;rw[e]at z;obtain rfl:=so z;cases hd
  exact .next (aY.move (t:=bb.toks) k' (fun b hb=>by rw[hb];exact⟨(Km:¬aQ H' C),pj⟩) bM (fun b hb z=>absurd (hb▸z) Ba)) ((((Step.up (X:=FX env sc) S').trans aI)).fresh (t:=bb.toks) k' (fun b hb=>by rw[hb];exact sC))
   (gx.move aY k' bM (fun b hb=>by rw[hb];exact Vh)) q
set_option tactic.hygienic true in
theorem gQ{e tgt:Expr}(h:∀x p,tgt≠.Name x p):∀line env,swapsWith e (some tgt) line env=pure false:=by intro line env;cases e<;>first |rfl |(cases tgt<;>first |rfl |exact absurd rfl (h _ _))
theorem SS.setattr{x a:Str}{q ap pos:Pos}{k:Nat}{e:Expr}{o p:PE}(ha:gF a=some k)(ho:SE sc (.Name x q) o)(he:SE sc e p):SS sc (.Assign [.Attribute (.Name x q) a ap] e pos) (.setattr o k p):=fun c A env n ρ H s Q R P h=>by
 obtain⟨hk,rfl⟩:=kO ha;dsimp only[cJ]at h;refine plainObj_wpAny_Assign_Attribute (he.then P h fun v ah x aa ai aq r aG=>ho.then ai aG fun w bb y ak bh aI ry aL=>?_) (gQ (by simp) _ _)
 obtain⟨z,rfl,aL⟩:=dy (P:=fun y=>wQ k ρ Q x y ak) id (fun _=>id) (fun _=>id) (fun _=>id) id (fun _=>id) aL;cases (show w= .ref _ from ry)
 obtain⟨C,fs,hH,aL⟩:=mB (P:=DX Q ρ z k x ak) id (fun _=>id) (fun _=>id) (fun _=>id) (fun _=>id) aL;obtain⟨g1,g2⟩:=cond_of aL;refine Bj P.ok.h bh.I hH hk (ai.I.vr aI r) (lt_succ_of_le (jD g1)) fun s' I' S'=>?_;exact .next I' (Step.up ((aq.trans aI).trans S')) (bh.F.step bh.I S') g2
theorem yi{P:Option aN->Prop}(h0:¬P none)(h1:∀m,¬P (some (.list m)))(h2:∀m,¬P (some (.ax m)))(h3:∀m,¬P (some (.bU m)))(h4:∀C fs,¬P (some (.inst C fs))):∀{o:Option aN},P o->∃l,o=some (.aZ l)/\P (some (.aZ l))
 |none,h=>(h0 h).elim
 |some (.aZ l),h=>⟨l,rfl,h⟩
 |some (.list _),h=>(h1 _ h).elim
 |some (.ax _),h=>(h2 _ h).elim
 |some (.bU _),h=>(h3 _ h).elim
 |some (.inst _ _),h=>(h4 _ _ h).elim
theorem Bm{Q:SQ}{ρ:aH}{p:Nat}{H:Z}{j:Int}{y:V}{o:Option aN}(h:D0 Q ρ p H j (o.bind r6) (ek y)):∃m i,o.bind r6=some m/\ek y=some i/\m.length<lim/\Q ρ (H.set p (.bU (putD i j m))):=by
 cases e1:o.bind r6 with
 |none=>rw[e1]at h;exact h.elim
 |some m=>rw[e1]at h;cases e2:ek y with
  |none=>rw[e2]at h;exact h.elim
  |some i=>rw[e2]at h;exact⟨m,i,rfl,rfl,h⟩
theorem yj{Q:SQ}{ρ:aH}{H:Z}{v x y:V}(h:mz ρ Q v x y H):∃p,x= .ref p/\((∃i m,y= .int i/\H p=some (.ax m)/\m.length<lim/\Q ρ (H.set p (.ax (putD i v m))))\/(∃k m,y= .str k/\H p=some (.aZ m)/\m.length<lim/\Q ρ (H.set p (.aZ (putD k v m))))\/
  ∃m i j,v= .int j/\(H p).bind r6=some m/\ek y=some i/\m.length<lim/\Q ρ (H.set p (.bU (putD i j m)))):=by
 obtain⟨p,rfl,h⟩:=dy (P:=fun x=>mz ρ Q v x y H) id (fun _=>id) (fun _=>id) (fun _=>id) id (fun _=>id) h;refine⟨p,rfl,?_⟩
 have key:LA Q ρ p y H v->∃m i j,v= .int j/\(H p).bind r6=some m/\ek y=some i/\m.length<lim/\Q ρ (H.set p (.bU (putD i j m))):=fun h=>by
  cases v with
  |int j=>obtain⟨m,i,h⟩:=Bm h;exact⟨m,i,j,rfl,h⟩
  |_=>exact h.elim
 cases y with
 |int i=>obtain⟨m,e,h⟩:=fw (P:=DY Q ρ p i v H) id (fun _=>id) (fun _=>id) (fun _=>id) (fun _ _=>id) h;exact .inl ⟨i,m,rfl,e,h⟩
 |str k=>obtain⟨m,e,h⟩:=yi (P:=DZ Q ρ p k v H) id (fun _=>id) (fun _=>id) (fun _=>id) (fun _ _=>id) h;exact .inr (.inl ⟨k,m,rfl,e,h⟩)
 |none=>exact .inr (.inr (key h))
 |bool _=>exact .inr (.inr (key h))
 |ref _=>exact .inr (.inr (key h))
 |arg=>exact .inr (.inr (key h))
 |tup _=>exact .inr (.inr (key h))
theorem SS.cC{o i e:Expr}{sp pos:Pos}{op ip p:PE}(ho:SE sc o op)(hi:SE sc i ip)(he:SE sc e p):SS sc (.Assign [.Subscript o i sp] e pos) (.cC op ip p):=fun c A env n ρ H s Q R P h=>by
 dsimp only[cJ]at h;have ok:=P.ok.h;have ag:=dS;refine wpAny_Assign_Subscript (he.then P h fun v ah x aa ai aq r aG=>ho.then ai aG fun w bb y ak bh aI ry aL=>hi.then bh aL fun kv gw z cS cW fy rz dK=>?_) (gQ (by simp) _ _)
 have Iw:=bh.I.vr fy (ai.I.vr aI r);have sJ:=bh.I.vr fy ry;have SS:=(aq.trans aI).trans fy
 have dQ:∀{d:Addr} {h':Heap} {es n},gw.heap.get? d=some ⟨.type "dict",none,.dict es n,#[]⟩->SameBut d gw.heap h'->∀b xs n,¬c.bad b->gw.heap.get? b=some ⟨.type "tuple",none,.seq xs n,#[]⟩->h'.get? b=some ⟨.type "tuple",none,.seq xs n,#[]⟩:=
  fun e dk b xs n _ z=>(dk.2 b fun q=>by rw[←q,z]at e;simp at e).trans z
 clear aG r aL ry;obtain⟨z,rfl,hg⟩:=yj dK;cases (show w= .ref _ from sJ)
 rcases hg with⟨i,m,rfl,hH,g1,g2⟩ |⟨k,m,rfl,hH,g1,g2⟩ |⟨m,i,j,rfl,hm,hk,g1,g2⟩
 .obtain⟨t,rfl⟩:=rz;obtain⟨kvs,hd,pr⟩:=cW.I.obj _ _ hH;obtain⟨es,nn,e⟩:=aR hd;have hn:(kvs.map (·.1)).Nodup:=eA hd;have e1:=pr.length;refine wpAny_setItem_pairs (knd:=iK c.toCx) (by simp[PySem.intKind,Value.isInt];rfl) hd (fun h' oq dk=>?_) ((aD 0x8000007024008303d09038016800000701e8481c26) ag g1 e1)
  obtain⟨I',S'⟩:=cW.I.change (t:=gw.toks+1) hH dk (D7:=.ax (putD _ x m)) ⟨_,oq,PR.stored (f:=id) (VR.mono (dQ e dk) _ Iw) (fun _ _ e=>e) hn (pr.mono (dQ e dk))⟩ (by simp) (by simp)
  exact .next I' (Step.up (SS.trans S')) (cW.F.step cW.I S') g2
 .obtain⟨hk,t,rfl⟩:=rz;obtain⟨kvs,hd,pr,hf⟩:=cW.I.obj _ _ hH;obtain⟨es,nn,e⟩:=aR hd;have hn:(kvs.map (·.1)).Nodup:=eA hd;have e1:=pr.length;refine wpAny_setItem_pairs (knd:=sK c.toCx) (by simp[PySem.strKind,Value.isStrOf];rfl) hd (fun h' oq dk=>?_) ((aD 0x8000007024008303d09038016800000701e8481c26) ag g1 e1)
  obtain⟨I',S'⟩:=cW.I.change (t:=gw.toks+1) hH dk (D7:=.aZ (putD _ x m)) ⟨_,oq,PR.stored (f:=strOf) (VR.mono (dQ e dk) _ Iw) (fun p hp e=>dP (hf p hp) hk e) hn (pr.mono (dQ e dk)),ky (p:=fun j=>j<strN) hk hf⟩ (by simp) (by simp)
  exact .next I' (Step.up (SS.trans S')) (cW.F.step cW.I S') g2
 .obtain⟨ao,hH,hm⟩:=zFw.mp hm;obtain⟨xs,hd,nr⟩:=sI (cW.I.obj _ _ hH) hm;obtain⟨es,nn,e⟩:=cH hd;obtain⟨a,rfl,na⟩:=sH hk rz;obtain⟨t,rfl⟩:=Iw;have hn:(xs.map (·.1)).Nodup:=by obtain⟨_,_,_,_,_,_,_,_,h⟩:=hd;exact h
  have e1:=nr.length;refine wpAny_setItem_heap (knd:=eN c.toCx) (by refine(?_:A.units+1+1<cLine);have:=P.R.2.2;exact(aD 0x26ace2d60a504004d59c0000087030e829416) this) na hd (fun h' oq dk=>?_) ((aD 0x8000007024008303d09038016800000701e8481c26) ag g1 e1)
  have Bl:∀C fs,ao≠.inst C fs:=by intro C fs z;rw[z]at hm;exact sn hm rfl
  obtain⟨I',S'⟩:=cW.I.change (t:=gw.toks+(eN c.toCx).draws i) hH dk (D7:=.bU (putD i j m)) ⟨_,oq,NR.put hn nr⟩ Bl (by simp)
  exact .next I' (Step.up (SS.trans S')) (cW.F.step cW.I S') g2
end
theorem aW.MN{c:Cx}{env:Env}{sc:Sc}{ρ:List (Option V)}{H:Z}{h:Heap}(F:aW c env sc ρ H h):∀b,FX env sc b->(h.get? b).isSome=true:=by
 rintro b (rfl |⟨x,i,hv,hc,hk⟩)
 .obtain⟨m,⟨o,es,ep,e,_⟩,_⟩:=F.ns;rw[e];rfl
 .rcases F.var x i hv with hl |⟨_,ca,vo,e1,e2,e3,⟨o,e,_⟩,_⟩
  .exact absurd hl hk
  .rw[hc]at e1;clear e3 e2;obtain rfl:=so e1;rw[e];rfl
section
variable {sc:Sc}
inductive XG(c:Cy)(sc:Sc)(A:Around)(env:Env)(n:Nat)(H:Z)(s:Shared)(N:Nat->List (Option V)->Z->Prop)(m:Nat)(s':Shared):Prop
 |mk (kW:List (Option V)) (H':Z) (P:At c sc A env n kW H' s') (S:ay (FX env sc) H H' s s') (N:N m kW H')
theorem SS.Dh{t:Expr}{b:List Stmt}{tp:PE}{bp:PS}{pos}(ht:SE sc t tp)(hb:sP sc b bp):SS sc (.While t b [] pos) (.Dh tp bp):=fun c A env n ρ H s Q R P h=>by
 obtain⟨k,h⟩:=h;refine wpAny_While (codeAny_whileLoop (XG c sc A env n H s fun m kW H'=>qi (eV c n tp) (fun bc aa Q₁=>wpS c n bp bc aa Q₁ R) m kW H' Q) ?_ k ⟨ρ,H,P,ay.refl _ _ _,h⟩);rintro m s' ⟨kW,H',P',S',hw⟩;refine bD ?_;cases m with
 |zero=>exact hw.elim
 |succ m=>
  refine ht.jI P' hw fun r ah aa ai aq q=>?_;cases r with
  |false=>
   refine bD (wpAny_execs_nil ?_);exact ee.next ai.I (S'.trans (Step.up aq)) ai.F q
  |true=>
   refine bD (zAw (hb _ _ _ _ _ _ _ _ _ ai q) (fun f bb z=>?_) fun _ _ e=>e);cases f with
   |next=>
    obtain⟨cx,ak,aY,aI,gx,Bn⟩:=z;exact⟨m,zDe _,cx,ak,⟨P.ok,P.R,aY,gx⟩,S'.trans ((Step.up aq).trans aI),Bn⟩
   |ret v=>
    obtain⟨x,ak,aY,aI,jB,Bn⟩:=z;exact ee.ret (c:=c.toCx) aY (S'.trans ((Step.up aq).trans aI)) jB Bn
   |_=>exact z.elim
theorem pk{i j:Nat}{v:V}{ρ bc:aH}(h:jG i j v ρ=some bc):∃x y,v= .tup [x,y]/\b9 (b9 ρ i x) j y=bc:=by
 cases v with
 |tup l=>match l,h with
  |[x,y],h=>exact⟨x,y,rfl,zBp h⟩
 |_=>exact sn h rfl
theorem pq{i j:Nat}{v:V}{ρ:aH}{Q:SQ}{H:Z}(h:Ak i j ρ Q v H):∃x y,v= .tup [x,y]/\Q (b9 (b9 ρ i x) j y) H:=by
 have h:F4 Q H (jG i j v ρ):=h;cases e:jG i j v ρ with
 |none=>rw[e]at h;exact h.elim
 |some bc=>rw[e]at h;obtain⟨x,y,rfl,rfl⟩:=pk e;exact⟨x,y,rfl,h⟩
def iS(sc:Sc)(tgt:Expr)(bind:V->List (Option V)->Option (List (Option V))):Prop:=
 ∀(c:Cy) A env ρ bc H s v u,A.handled=none->Inv c.toCx H s->aW c.toCx env sc ρ H s.heap->VR c.toCx s.heap v u->bind v ρ=some bc->
  wpAny c.M A (assign tgt env u) (fun _ s'=>Inv c.toCx H s'/\ay (FX env sc) H H s s'/\aW c.toCx env sc bc H s'.heap) bZ s
theorem iS.one{x:Str}{px:Pos}{i:Nat}(hx:sc.eE.lookup x=some i)(cZ:fv sc x=true):iS sc (.Name x px) (bind1 i):=by intro c A env ρ bc H s v u hA I F r hb;obtain rfl:=so hb;exact wpAny_assign_Name (cy I F hx cZ r)
theorem iS.two{x y:Str}{px py pt:Pos}{k i j:Nat}(hx:sc.eE.lookup x=some i)(cZ:fv sc x=true)(hy:sc.eE.lookup y=some j)(sQ:fv sc y=true):iS sc (.Tuple [.Name x px,.Name y py] k pt) (jG i j):=by
 intro c A env ρ bc H s v u hA I F r hb;obtain⟨v1,v2,rfl,rfl⟩:=pk hb;obtain⟨a,n,xs,rfl,nb,e,rl⟩:=fe r;obtain⟨u1,r1,e1,MO,rl⟩:=rl;obtain⟨u2,r2,rfl,MP,rl⟩:=rl;cases (show r2=[] from rl)
 rw[arm_assign_Tuple];refine lk (wpAny_standAt ?_);delta unpack;have eM:xs.size=2:=by rw[←zBi];rw[e1];rfl
 refine lk (zCt (m:=unpackItems (.ref a) 2 none) ?_);rw[←eM];refine unpackItems_tuple hA ⟨_,e,rfl,n,rfl⟩ fun h' he=>?_;have k:∀b o,s.heap.get? b=some o->h'.get? b=some o:=fun b o z=>he b o (zBw (zAo z)) z;have bC:=I.grow (t:=s.toks) k;have aq:=ay.grow (X:=fun _=>False) H (t:=s.toks) k;have uX:=F.step I aq;rw[e1];refine(?_:wpAny _ A (do holding [u2] (assign (.Name x px) env u1);(do holding [] (assign (.Name y py) env u2);pure ())) _ _ _)
 refine lk (zCt (wpAny_assign_Name (zAw (cy bC uX hx cZ (VR.mono (fun b xs n _ z=>k _ _ z) _ MO)) (fun _ bb aL=>?_) fun _ _ e=>e)));obtain⟨aY,aI,gx⟩:=aL;refine lk (zCt (wpAny_assign_Name (zAw (cy aY gx hy sQ (bC.HC aI uX.bM (VR.mono (fun b xs n _ z=>k _ _ z) _ MP))) (fun _ gw dK=>Up ?_) fun _ _ e=>e)));obtain⟨qv,fy,ye⟩:=dK;exact⟨qv,((Step.up aq).trans aI).trans fy,ye⟩
structure Iy(c:Cy)(A:Around)(tgt:Expr)(items:List V)(g:Z->Prop)(I:Addr)(wr:Addr->Prop)(Good:Nat->Heap->Prop):Prop where
 keep:∀i h h',Good i h->(∀b o,wr b->h.get? b=some o->h'.get? b=some o)->(∀b xs n,¬c.bad b->h.get? b=some ⟨.type "tuple",none,.seq xs n,#[]⟩->h'.get? b=some ⟨.type "tuple",none,.seq xs n,#[]⟩)->Good i h'
 bM:∀i s,Good i s.heap->eC c.toCx wr s
 live:∀i h b,Good i h->wr b->(h.get? b).isSome=true
 next:∀i (s:Shared) H (Q:Value->Shared->Prop) (hi:i<items.length),Good i s.heap->Inv c.toCx H s->g H->
  (∀x h' t,VR c.toCx h' items[i] x->Good (i+1) h'->(∀b o,¬wr b->s.heap.get? b=some o->h'.get? b=some o)->Q x {s with heap:=h',toks:=t})->
  wpAny c.M A (pyNext (.ref I)) (fun r ah=>match r with
   |none=>False
   |some v=>wpAny c.M A (letOwnedTupleGo tgt (.ref I) v) (fun _ bb=>Q v bb) bZ ah) bZ s
 done:∀(s:Shared) H (Q:Option Value->Shared->Prop),Good items.length s.heap->Inv c.toCx H s->g H->
  (∀h' t,(∀b o,¬wr b->s.heap.get? b=some o->h'.get? b=some o)->Q none {s with heap:=h',toks:=t})->wpAny c.M A (pyNext (.ref I)) Q bZ s
theorem rG.name{c:Cy}{A:Around}{items:List V}{g:Z->Prop}{I:Addr}{wr:Addr->Prop}{Good:Nat->Heap->Prop}(W:rG c A items g I wr Good)(x:Str)(px:Pos):Iy c A (.Name x px) items g I wr Good:=
 ⟨W.keep,W.bM,W.live,fun i s H Q hi hg hI hH q=>W.next i s H _ hi hg hI hH fun x h' t a b k=>Up (q x h' t a b k),W.done⟩
theorem rG.pair{c:Cy}{A:Around}{items:List V}{g:Z->Prop}{I:Addr}{wr:Addr->Prop}{Good:Nat->Heap->Prop}(W:rG c A items g I wr Good)(elts:List Expr)(k:Nat)(pos:Pos):Iy c A (.Tuple elts k pos) items g I wr Good:=
 ⟨W.keep,W.bM,W.live,fun i s H Q hi hg hI hH q=>W.next i s H _ hi hg hI hH fun x h' t a b k=>W.go (i+1) {s with heap:=h',toks:=t} _ _ _ _ _ b (q x h' t a b k),W.done⟩
mutual
theorem VR.wb{c:Cx}{h:Heap}{B:Addr->Prop}(hB:∀a,(h.get? a).isSome=true->B a->c.bad a):∀(v:V) {x:Value},VR c h v x->VR (c.wb B) h v x
 | .none,_,r=>r
 | .bool _,_,r=>r
 | .int _,_,r=>r
 | .str _,_,r=>r
 | .ref _,_,r=>r
 | .arg,_,r=>r
 | .tup l,_,⟨a,n,xs,e,nb,g,r⟩=>⟨a,n,xs,e,fun z=>nb (hB a (by rw[g];rfl) z),g,bj.wb hB l r⟩
theorem bj.wb{c:Cx}{h:Heap}{B:Addr->Prop}(hB:∀a,(h.get? a).isSome=true->B a->c.bad a):∀(l:List V) {xs:List Value},bj c h l xs->bj (c.wb B) h l xs
 |[],_,r=>r
 |v::l,_,⟨x,r,e,h1,h2⟩=>⟨x,r,e,VR.wb hB v h1,bj.wb hB l h2⟩
end
mutual
theorem VR.kz{c:Cx}{h:Heap}{B:Addr->Prop}(hB:∀a,c.bad a->B a):∀(v:V) {x:Value},VR (c.wb B) h v x->VR c h v x
 | .none,_,r=>r
 | .bool _,_,r=>r
 | .int _,_,r=>r
 | .str _,_,r=>r
 | .ref _,_,r=>r
 | .arg,_,r=>r
 | .tup l,_,⟨a,n,xs,e,nb,g,r⟩=>⟨a,n,xs,e,fun z=>nb (hB a z),g,bj.kz hB l r⟩
theorem bj.kz{c:Cx}{h:Heap}{B:Addr->Prop}(hB:∀a,c.bad a->B a):∀(l:List V) {xs:List Value},bj (c.wb B) h l xs->bj c h l xs
 |[],_,r=>r
 |v::l,_,⟨x,r,e,h1,h2⟩=>⟨x,r,e,VR.kz hB v h1,bj.kz hB l h2⟩
end
theorem PR.map{c c':Cx}{h:Heap}{α β:Type}{f:α->β}(k:∀v x,VR c h v x->VR c' h v x):∀{l:List (α×V)} {xs:List (β×Value)},PR c h f l xs->PR c' h f l xs
 |[],_,r=>r
 |(_,v)::_,_,⟨x,r,e,h1,h2⟩=>⟨x,r,e,k v x h1,PR.map k h2⟩
theorem dI.MQ{c:Cx}{h:Heap}{B:Addr->Prop}{a:Addr}(k:∀v x,VR c h v x->VR (c.wb B) h v x)(ks:∀l xs,bj c h l xs->bj (c.wb B) h l xs){ao:aN}(r:dI c h a ao):dI (c.wb B) h a ao:=by
 cases ao with
 |list l=>obtain⟨n,xs,e,r⟩:=r;exact⟨n,xs,e,ks _ _ r⟩
 |ax m=>obtain⟨kvs,e,r⟩:=r;exact⟨kvs,e,r.map k⟩
 |aZ m=>obtain⟨kvs,e,r,q⟩:=r;exact⟨kvs,e,r.map k,q⟩
 |bU m=>obtain⟨xs,⟨o,es,ep,h1,h2,h3,h4,h5,h6⟩,r⟩:=r;exact⟨xs,⟨o,es,ep,h1,h2,h3,h4,fun x hx=>k _ _ (h5 x hx),h6⟩,r⟩
 |inst C fs=>obtain⟨p,e,kvs,e2,r,q⟩:=r;exact⟨p,e,kvs,e2,r.map k,q⟩
theorem dI.wb{c:Cx}{h:Heap}{B:Addr->Prop}{a:Addr}(hB:∀a,(h.get? a).isSome=true->B a->c.bad a){ao:aN}:dI c h a ao->dI (c.wb B) h a ao:=dI.MQ (fun v _=>VR.wb hB v) fun l _=>bj.wb hB l
theorem dI.kz{c:Cx}{h:Heap}{B:Addr->Prop}{a:Addr}(hB:∀a,c.bad a->B a){ao:aN}:dI (c.wb B) h a ao->dI c h a ao:=dI.MQ (c:=c.wb B) (B:=c.bad) (fun v _=>VR.kz hB v) fun l _=>bj.kz hB l
theorem aW.map{c c':Cx}{env:Env}{ρ:List (Option V)}{H:Z}{h:Heap}(F:aW c env sc ρ H h)(hb:c'.base=c.base)(k:∀v x,VR c h v x->VR c' h v x):aW c' env sc ρ H h:=by
 obtain⟨m,hm,hv⟩:=F.ns;refine⟨F.kind,F.glob,F.D5,F.gl,F.nm,hb▸F.off,F.no,⟨m,hm,fun x i a b v d=>?_⟩,fun x i a=>?_,F.D6,F.mE,F.lr⟩
 .obtain⟨u,e1,e2⟩:=hv x i a b v d;exact⟨u,e1,k _ _ e2⟩
 .rcases F.var x i a with b |⟨b,ca,vo,e1,e2,e3,e4,e5⟩
  .exact .inl b
  .exact .inr ⟨b,ca,vo,e1,hb▸e2,e3,e4,fun v q=>let ⟨u,z1,z2⟩:=e5 v q;⟨u,z1,k _ _ z2⟩⟩
theorem Inv.kz{c:Cx}{B:Addr->Prop}(hB:∀a,c.bad a->B a){H:Z}{s:Shared}(I:Inv (c.wb B) H s):Inv c H s:=
 ⟨I.gens,I.drawn,I.os,I.base,fun a ao e=>(I.obj a ao e).kz hB,I.off,I.apart,fun b hb=>I.bad b (hB b hb)⟩
theorem Inv.Iz{c:Cx}{B:Addr->Prop}(hB:∀a,c.bad a->B a){H:Z}{s:Shared}(I:Inv (c.wb B) H s){X:Addr->Prop}{h':Heap}{t:Nat}(k:∀b o,¬X b->s.heap.get? b=some o->h'.get? b=some o)(off:∀b,X b->¬aQ H b/\c.base.get? b=none)(m:eC (c.wb B) X s)
  (nb:∀b,X b->¬c.bad b):Inv c H {s with heap:=h',toks:=t}:=by
 have dQ:∀b xs n,¬(c.wb B).bad b->s.heap.get? b=some ⟨.type "tuple",none,.seq xs n,#[]⟩->h'.get? b=some ⟨.type "tuple",none,.seq xs n,#[]⟩:=
  fun b _ _ nb e=>k _ _ (fun x=>m _ _ _ x nb e) e
 have obj:∀a ao,H a=some ao->dI (c.wb B) h' a ao:=fun a ao e=>dI.mono dQ (fun o q=>k _ _ (fun x=>(off _ x).1 (.inl (by rw[e];simp))) q) (fun⟨C,fs,z⟩ o q=>k _ _ (fun x=>(off _ x).1 (.inr ⟨C,fs,by subst z;have:=(I.obj a _ e).1;rw[sub_add_cancel this];exact e⟩)) q) (I.obj a ao e)
 refine⟨I.gens,I.drawn,I.os,fun b o e=>k b o (fun x=>?_) (I.base _ _ e),fun a ao e=>(obj a ao e).kz hB,I.off,I.apart,fun b hb=>?_⟩
 .have e:c.base.get? b=some o:=e;exact sn e ((off b x).2)
 .obtain⟨o,e⟩:=zAp.mp (I.bad b (hB b hb));refine(?_:(h'.get? b).isSome=true);rw[k _ _ (fun x=>nb b x hb) e];rfl
inductive XH(c:Cx)(sc:Sc)(env:Env)(H:Z)(s:Shared)(items:List V)(wr:Addr->Prop)(Good:Nat->Heap->Prop)(N:List V->List (Option V)->Z->Prop)(k:Nat)(s':Shared):Prop
 |mk (i:Nat) (kW:List (Option V)) (H':Z) (hi:i<=items.length) (hk:k=items.length-i+1) (I:Inv c H' s') (S:ay (FX env sc) H H' s s') (F:aW c env sc kW H' s'.heap) (good:Good i s'.heap) (Rz:∀b,wr b->¬aQ H' b) (n:N (items.drop i) kW H')
inductive XI(c:Cx)(s':Shared)(x:V)(G:Heap->Prop)(wr:Addr->Prop)(v:Value)(A9:Shared):Prop
 |mk (h':Heap) (tk:Nat) (e:A9={s' with heap:=h',toks:=tk}) (r:VR c h' x v) (g:G h') (k:∀b o,¬wr b->s'.heap.get? b=some o->h'.get? b=some o)
set_option tactic.hygienic true in
theorem mX{tgt it:Expr}{b:List Stmt}{bp:PS}{bind:V->List (Option V)->Option (List (Option V))}(tok:iS sc tgt bind)(hb:sP sc b bp)
  {c:Cy} {B:Addr->Prop} (hB:∀a,c.bad a->B a) {A:Around} {env:Env} {n:Nat} {ρ mY:List (Option V)} {H aa:Z} {s bb:Shared} {Q:List (Option V)->Z->Prop} {R:V->Z->Prop} (ok:∃K mg mb,Ok (c.wb B) K mg mb) (RA:jE A n) (RS:aW c.toCx env sc mY H s.heap)
  {I:Addr} {wr:Addr->Prop} {Good:Nat->Heap->Prop} {items:List V} {g:Z->Prop} (W:Iy (c.wb B) A tgt items g I wr Good) (aY:Inv (c.wb B).toCx aa bb) (aI:Step H aa s bb) (gx:aW (c.wb B).toCx env sc ρ aa bb.heap) (good:Good 0 bb.heap)
  (oe:∀b,wr b->s.heap.get? b=none/\¬aQ aa b/\c.base.get? b=none/\¬c.bad b)
  (hN:lq g bind (fun bc ak Q₁=>wpS (c.wb B) n bp bc ak Q₁ R) items ρ aa Q):
  codeAny c.M A (.forLoop tgt (.ref I) b [] env) (fun r s'=>match r with | .ok f=>ee c.toCx env sc H s Q R f s' | .error e=>cameBackBy c.M A env bZ e s') bb:=by
 have yf:∀b,wr b->¬FX env sc b:=fun b hb z=>by have:=RS.MN b z;rw[(oe b hb).1]at this;exact ft rfl this
 refine codeAny_forLoop_any (XH (c.wb B).toCx sc env H s items wr Good (fun l kW H'=>lq g bind (fun bc ak Q₁=>wpS (c.wb B) n bp bc ak Q₁ R) l kW H' Q)) ?_ (items.length-0+1)
  ⟨0,ρ,aa,zEw _,rfl,aY,Step.up aI,gx,good,fun b hb=>(oe b hb).2.1,hN⟩
 rintro k s' ⟨i,kW,H',hi,rfl,I',S',F',jL,gP,N'⟩;refine bD ?_;by_cases cE:i<items.length
 case neg=>have RF:i=items.length:=Nat.le_antisymm hi (zGq.mp cE);clear cE hi;subst RF;rw[List.drop_length]at N';refine W.done s' H' _ jL I' N'.1 fun h' tk k'=>bD (wpAny_execs_nil ?_);have bM:=W.bM _ s' jL;exact ee.next (I'.Iz hB (t:=tk) k' (fun b hb=>⟨gP b hb,(oe b hb).2.2.1⟩) bM (fun b hb=>(oe b hb).2.2.2)) (S'.fresh (t:=tk) k' (fun b hb=>(oe b hb).1)) ((F'.move I' k' bM yf).map rfl fun v x=>VR.kz hB v) N'.2
 case pos=>
  rw[List.drop_eq_getElem_cons cE]at N';refine zAw (W.next i s' H' (XI (c.wb B).toCx s' items[i] (Good (i+1)) wr) cE jL I' N'.1 fun x h' tk rx fW k'=>⟨h',tk,rfl,rx,fW,k'⟩) (fun r A9 z=>?_) fun _ _ e=>e
  cases r with
  |none=>exact z.elim
  |some v=>
   refine bD (zAw z (fun _ A9 z=>?_) fun _ _ e=>e);obtain⟨h',tk,rfl,rx,fW,k'⟩:=z;refine bD ?_;have bM:=W.bM _ s' jL;have sM:=I'.move (t:=tk) k' (fun b hb=>⟨gP b hb,(oe b hb).2.2.1⟩) bM (fun b hb _=>(fun b hb=>W.live _ _ b fW hb:∀b,wr b->(h'.get? b).isSome=true) b hb);have qy:=S'.fresh (t:=tk) k' (fun b hb=>(oe b hb).1);have Bc:=F'.move I' k' bM yf;have IA:=N'.2;split at IA
   .rename_i bc MR
    refine zAw (tok (c.wb B) A env kW bc H' _ _ _ RA.1 sM Bc rx MR) (fun _ Bd Iq=>bD ?_) fun _ _ e=>e;obtain⟨yg,mW,Be⟩:=Iq;have jM:=W.keep _ _ _ fW (fun b o hb e=>mW.keep b o e (gP b hb) (yf b hb)) (sM.mi mW Bc.bM);refine zAw (hb (c.wb B) A env n bc H' Bd _ R ⟨ok,RA,yg,Be⟩ IA) (fun f ME z=>?_) fun _ _ e=>e;cases f with
    |next=>
     obtain⟨MS,Bf,sN,jh,RT,IB⟩:=z;refine⟨items.length-i,zDe _,i+1,MS,Bf,cE,?_,sN,(qy.trans mW).trans jh,RT,W.keep _ _ _ jM (fun b o hb e=>jh.keep b o e (gP b hb) (yf b hb)) (yg.mi jh Be.bM),fun b hb=>?_,IB⟩
     .refine(?_:items.length-i=items.length-(i+1)+1);exact(aD 0x5ac140d6800d402016) cE
     .obtain⟨o,e⟩:=zAp.mp (W.live _ _ b jM hb);exact jh.not e (gP b hb)
    |ret v=>
     obtain⟨x,Bf,sN,jh,RU,IB⟩:=z;exact ee.ret (sN.kz hB) ((qy.trans mW).trans jh) (VR.kz hB _ RU) IB
    |_=>exact z.elim
   .exact IA.elim
theorem pz{tgt it:Expr}{b:List Stmt}{ik:lj}{p:PE}{bp:PS}{pos:Pos}{bind:V->List (Option V)->Option (List (Option V))}(tok:iS sc tgt bind)(src:SI sc it ik p)(hb:sP sc b bp)(hs:∀env x,foldedSetIterable it env x=pure x)
  (ht:∀(c:Cy) A items g I wr Good,rG c A items g I wr Good->Iy c A tgt items g I wr Good)
  {c:Cy} {A:Around} {env:Env} {n:Nat} {ρ:List (Option V)} {H:Z} {s:Shared} {Q:List (Option V)->Z->Prop} {R:V->Z->Prop} (P:At c sc A env n ρ H s)
  (h:bA c n p ρ H fun x aa=>fq (fun items g=>lq g bind (fun bc ak Q₁=>wpS c n bp bc ak Q₁ R) items ρ aa Q) (iter aa ik x)):wpAny c.M A (exec (.For tgt it b [] pos) env) (ee c.toCx env sc H s Q R) bZ s:=by
 refine wpAny_For (zAw (src _ _ _ _ _ _ _ (fun items g aa=>lq g bind (fun bc ak Q₁=>wpS c n bp bc ak Q₁ R) items ρ aa Q) P h) (fun v ah aG=>zAw aG (fun Mu bb aL=>?_) fun _ _ e=>e) fun _ _ e=>e) (hs env);obtain⟨I,wr,Good,items,g,aa,rfl,W,aY,aI,good,oe,hN⟩:=aL;exact mX (it:=it) (c:=c) (B:=c.bad) tok hb (fun _ z=>z) P.ok P.R P.F (ht _ _ _ _ _ _ _ W) aY aI (P.F.step P.I aI) good (fun b hb=>⟨(oe b hb).1,(oe b hb).2.1,(oe b hb).2.2.1,(oe b hb).2.2.2.1⟩) hN
theorem SS.gq{x:Str}{px pos:Pos}{i:Nat}{it:Expr}{b:List Stmt}{ik:lj}{p:PE}{bp:PS}(hx:sc.eE.lookup x=some i)(cZ:fv sc x=true)(src:SI sc it ik p)(hb:sP sc b bp)(hs:∀env x,foldedSetIterable it env x=pure x):
  SS sc (.For (.Name x px) it b [] pos) (.gq i ik p bp):=fun c A env n ρ H s Q R P h=>by
 dsimp only[cJ]at h;exact pz (iS.one hx cZ) src hb hs (fun c A items g I wr Good W=>W.name _ _) P h
theorem SS.sh{x y:Str}{px py pt pos:Pos}{k i j:Nat}{it:Expr}{b:List Stmt}{p:PE}{bp:PS}(hx:sc.eE.lookup x=some i)(cZ:fv sc x=true)(hy:sc.eE.lookup y=some j)(sQ:fv sc y=true)(src:SI sc it .seq p)(hb:sP sc b bp)(hs:∀env x,foldedSetIterable it env x=pure x):
  SS sc (.For (.Tuple [.Name x px,.Name y py] k pt) it b [] pos) (.sh i j .seq p bp):=fun c A env n ρ H s Q R P h=>by
 dsimp only[cJ]at h;exact pz (iS.two hx cZ hy sQ) src hb hs (fun c A items g I wr Good W=>W.pair _ _ _) P h
end
set_option tactic.hygienic true in
theorem qC{x y:Str}{px py tp:Pos}{k:Nat}{v:Expr}{sc:Sc}{env:Env}(hp:uI sc v=true):
  swappedStores [.Tuple [.Name x px,.Name y py] k tp] v env=pure none\/swappedStores [.Tuple [.Name x px,.Name y py] k tp] v env=pure (some [x,y]):=by
 cases v<;>try exact .inl rfl
 rename_i vs k' vp
 have hp:(!vs.all (constantsAlone 8))=true:=hp;rw[not_eq_true']at hp;delta swappedStores;dsimp only;split
 .exact .inl rfl
 .split
  .exact .inl rfl
  .generalize hF:filterMap _ [Expr.Name x px,Expr.Name y py]=names;by_cases hx:(env.kindOf x==some .local&&px.line==px.line)=true
   .by_cases hy:(env.kindOf y==some .local&&py.line==px.line)=true
    .have e:names=[x,y]:=by rw[←hF,List.filterMap_cons_some (b:=x) (by show (if _ then _ else _)=_;exact zBq hx),List.filterMap_cons_some (b:=y) (by show (if _ then _ else _)=_;exact zBq hy)];rfl
     rw[e];split
     .exact .inl rfl
     .split
      .exact .inl rfl
      .rw[hp];exact .inr rfl
    .left
     have e:names=[x]:=by rw[←hF,List.filterMap_cons_some (b:=x) (by show (if _ then _ else _)=_;exact zBq hx),List.filterMap_cons_none (by show (if _ then _ else _)=_;exact zAi hy)];rfl
     rw[e];rfl
   .left
    have e:names.length<=1:=by
     rw[←hF];rw[List.filterMap_cons_none (by show (if _ then _ else _)=_;exact zAi hx)]
     exact zDo (List.length_filterMap_le _ _) (zAq 1)
    split
    .rfl
    .rename_i z
     simp only[or_eq_true,bne_iff_ne,not_or,ne_eq,Decidable.not_not]at z;have:=z.1;rw[this]at e;exact absurd e (by refine(?_:¬(2<=1));decide)
theorem yk{ρ:List (Option V)}{i j:Nat}(h:i≠j)(x y:V):b9 (b9 ρ j y) i x=b9 (b9 ρ i x) j y:=by delta b9;rw[List.set_comm _ _ (zFp h)]
section
variable {sc:Sc}
theorem SS.cm{x y:Str}{px py tp pos:Pos}{k i j:Nat}{e:Expr}{p:PE}(hx:sc.eE.lookup x=some i)(cZ:fv sc x=true)(hy:sc.eE.lookup y=some j)(sQ:fv sc y=true)(eG:i≠j)(hp:uI sc e=true)(a:SE sc e p):
  SS sc (.Assign [.Tuple [.Name x px,.Name y py] k tp] e pos) (.cm i j p):=fun c A env n ρ H s Q R P h=>by
 dsimp only[cJ]at h;have hs:swapsWithSole [.Tuple [.Name x px,.Name y py] k tp] e pos.line env=pure false:=gQ (e:=e) (tgt:=.Tuple [.Name x px,.Name y py] k tp) (by intro x p z;cases z) pos.line env
 rcases qC (x:=x) (y:=y) (px:=px) (py:=py) (tp:=tp) (k:=k) (env:=env) hp with hw |hw
 .refine Assign_Tuple (a.then P h fun v ah yv aa ai aq r q=>?_) hs hw;obtain⟨v1,v2,rfl,q⟩:=pq q;refine zAw (iS.two (px:=px) (py:=py) (pt:=tp) (k:=k) hx cZ hy sQ c A env ρ _ aa _ _ _ P.R.1 ai.I ai.F r rfl) (fun _ bb aL=>?_) fun _ _ e=>e;obtain⟨aY,aI,gx⟩:=aL;exact .next aY ((Step.up aq).trans aI) gx q
 .refine Assign_Tuple_swapped (a.then P h fun v ah yv aa ai aq r q=>?_) hs hw;obtain⟨v1,v2,rfl,q⟩:=pq q;obtain⟨b,m,xs,rfl,nb,eb,rl⟩:=fe r;obtain⟨u1,r1,e1,MO,rl⟩:=rl;obtain⟨u2,r2,rfl,MP,rl⟩:=rl;cases (show r2=[] from rl)
  have eM:xs.size=2:=by rw[←zBi];rw[e1];rfl
  refine(?_:wpAny _ A (unpackItems (.ref b) 2 none) _ _ _);rw[←eM];refine unpackItems_tuple P.R.1 ⟨_,eb,rfl,m,rfl⟩ fun h' he=>?_;have k:∀b o,ah.heap.get? b=some o->h'.get? b=some o:=fun b o z=>he b o (zBw (zAo z)) z;have bC:=ai.I.grow (t:=ah.toks) k;have MT:=ay.grow (X:=fun _=>False) aa (t:=ah.toks) k;have uX:=ai.F.step ai.I MT;rw[e1];refine(?_:wpAny _ A (do holding [u1] (bindName env y u2);(do holding [] (bindName env x u1);pure ())) _ _ _)
  refine lk (zCt (bindName_ (zAw (cy bC uX hy sQ (VR.mono (fun b xs n _ z=>k _ _ z) _ MP)) (fun _ bb aL=>?_) fun _ _ e=>e)));obtain⟨aY,aI,gx⟩:=aL;refine lk (zCt (bindName_ (zAw (cy aY gx hx cZ (bC.HC aI uX.bM (VR.mono (fun b xs n _ z=>k _ _ z) _ MO))) (fun _ gw dK=>Up ?_) fun _ _ e=>e)));obtain⟨qv,fy,ye⟩:=dK;rw[yk eG]at ye;exact .next qv ((Step.up (aq.trans MT)).trans (aI.trans fy)) ye q
end
theorem Inv.wB{c:Cx}{H:Z}{s:Shared}{T:Addr}(I:Inv c H s){h':Heap}{t:Nat}(k:∀b o,s.heap.get? b=some o->h'.get? b=some o)(dead:s.heap.get? T=none)(live:(h'.get? T).isSome=true):
  Inv (c.wb fun b=>c.bad b\/b=T) H {s with heap:=h',toks:=t}:=by
 have hB:∀a,(s.heap.get? a).isSome=true->(c.bad a\/a=T)->c.bad a:=fun a ha z=>z.elim id fun e=>by rw[e,dead]at ha;exact ft rfl ha
 refine⟨I.gens,I.drawn,I.os,fun b o e=>k _ _ (I.base _ _ e),fun a ao e=>dI.mono (fun b xs n _ q=>k _ _ q) (fun o q=>k _ _ q) (fun _ o q=>k _ _ q) ((I.obj a ao e).wb hB),I.off,I.apart,fun b hb=>?_⟩;clear hB dead;rcases hb with hb |rfl
 .obtain⟨o,e⟩:=zAp.mp (I.bad b hb);refine(?_:(h'.get? b).isSome=true);rw[k _ _ e];rfl
 .exact live
theorem Ok.wB{c:Cy}{K:Frag}{mg mb:Str->Option Value}(ok:Ok c K mg mb){T:Addr}(dead:c.base.get? T=none):Ok (c.wB T) K mg mb:=by
 have hB:∀a,(c.base.get? a).isSome=true->(c.bad a\/a=T)->c.bad a:=fun a ha z=>z.elim id fun e=>by rw[e,dead]at ha;cases ha
 obtain⟨is,xs,h1,h2,h3⟩:=ok.arg;exact⟨ok.KX,ok.g,ok.b,ok.nolimit,ok.sm,ok.builtins,fun p hp=>let ⟨v,e,r⟩:=ok.gt p hp;⟨v,e,VR.wb hB _ r⟩,ok.ft,ok.ct,ok.nb,ok.fd,ok.makes,ok.init,ok.HY,ok.HZ,ok.ga,ok.Va,ok.sa,ok.Ib,ok.Mj,⟨is,xs,h1,bj.wb hB _ h2,h3⟩,ok.mE⟩
def Bo(z TO i1 i2:Addr):Addr->Prop:=fun b=>b=z\/b=TO\/b=i1\/b=i2
def w5(z TI TO i1 i2 l1 l2:Addr)(i:Nat)(h:Heap):Prop:=
 IsZip h z TI TO .none/\IsPair h TI (.ref i1) (.ref i2)/\(∃a b,IsPair h TO a b)/\h.IsListIter i1 l1 i/\h.IsListIter i2 l2 i
theorem El{c:Cx}{h:Heap}:∀{l l':List V} {i:Nat} (hi:i<(l.zip l').length) {xs ys:List Value},bj c h l xs->bj c h l' ys->∃x y,xs[i]?=some x/\ys[i]?=some y/\∃v1 v2,(l.zip l')[i]=(v1,v2)/\VR c h v1 x/\VR c h v2 y:=by intro l l' i hi xs ys r r';obtain⟨x,e1,r1⟩:=eF r (zAe (List.lt_length_left_of_zip hi));obtain⟨y,e2,r2⟩:=eF r' (zAe (List.lt_length_right_of_zip hi));exact⟨x,y,e1,e2,_,_,List.getElem_zip,r1,r2⟩
theorem w6{c:Cy}{z TI TO i1 i2 l1 l2:Addr}{i:Nat}{h:Heap}(Em:c.bad TO)(g:w5 z TI TO i1 i2 l1 l2 i h){b:Addr}{xs:Array Value}{n:Nat}(hb:Bo z TO i1 i2 b)(nb:¬c.bad b)(e:h.get? b=some ⟨.type "tuple",none,.seq xs n,#[]⟩):False:=by
 obtain⟨a1,a2,_,⟨o4,a4,c4,d4⟩,⟨o5,a5,c5,d5⟩⟩:=g;clear left d4 a2 d5;rcases hb with rfl |rfl |rfl |rfl
 .have:=(show h.get? b=_ from a1).symm.trans e;simp at this
 .exact nb Em
 .cases e.symm.trans a4;simp at c4
 .cases e.symm.trans a5;simp at c5
theorem Iy.zip{c:Cy}{A:Around}{l l':List V}{z TI TO i1 i2 l1 l2:Addr}{elts:List Expr}{k:Nat}{pos:Pos}(hA:A.handled=none)(D:ZipApart z TI TO i1 i2 l1 l2)(Em:c.bad TO)(Pd:¬c.bad TI):
  Iy c A (.Tuple elts k pos) ((l.zip l').map fun p=>.tup [p.1,p.2]) (fun H'=>H' l1=some (.list l)/\H' l2=some (.list l')) z (Bo z TO i1 i2) (w5 z TI TO i1 i2 l1 l2) where
 keep:=fun i h h' ⟨a1,a2,⟨a,b,a3⟩,⟨o4,a4,r4⟩,⟨o5,a5,r5⟩⟩ k kt=>⟨k _ _ (.inl rfl) a1,kt _ _ _ Pd a2,⟨a,b,k _ _ (.inr (.inl rfl)) a3⟩,⟨o4,k _ _ (.inr (.inr (.inl rfl))) a4,r4⟩,⟨o5,k _ _ (.inr (.inr (.inr rfl))) a5,r5⟩⟩
 bM:=fun i s g b xs n hb nb e=>w6 Em g hb nb e
 live:=by
  rintro i h b ⟨a1,a2,⟨a,d,a3⟩,⟨o4,a4,c4,d4⟩,⟨o5,a5,c5,d5⟩⟩ hb;clear D Em a2;rcases hb with rfl |rfl |rfl |rfl
  .rw[show h.get? b=_ from a1];rfl
  .rw[show h.get? b=_ from a3];rfl
  .rw[a4];rfl
  .rw[a5];rfl
 next:=by
  rintro i s H Q hi ⟨a1,a2,⟨a,b',a3⟩,a4,a5⟩ I ⟨g1,g2⟩ q;obtain⟨n1,xs,e1,r1⟩:=I.obj l1 _ g1;obtain⟨n2,ys,e2,r2⟩:=I.obj l2 _ g2;rw[zCe]at hi;obtain⟨x,y,hx,hy,v1,v2,hv,rx,ry⟩:=El hi r1 r2;refine wpAny_pyNext_zip_item D a1 a2 a3 a4 a5 ⟨_,e1,rfl,n1,rfl⟩ ⟨_,e2,rfl,n2,rfl⟩ (by simpa using hx) (by simpa using hy) fun h' b1 b2 b3 b4 b5 b6 hk=>?_
  refine wpAny_letOwnedTupleGo_zip (s:={s with heap:=h'}) b1 fun zj d1 hs=>?_
  have nz:s.heap.objs.size≠z:=zFp ((fun e=>zBw (zAo e):∀{b o},s.heap.get? b=some o->b≠s.heap.objs.size) a1)
  have kk:∀b o,¬Bo z TO i1 i2 b->s.heap.get? b=some o->zj.get? b=some o:=fun b o nb e=>(hs.2 b fun w=>nb (.inl w)).trans (hk b o (fun w=>nb (.inl w)) (fun w=>nb (.inr (.inl w))) (fun w=>nb (.inr (.inr (.inl w)))) (fun w=>nb (.inr (.inr (.inr w)))) e)
  have kt:∀b xs n,¬c.bad b->s.heap.get? b=some ⟨.type "tuple",none,.seq xs n,#[]⟩->zj.get? b=some ⟨.type "tuple",none,.seq xs n,#[]⟩:=fun b xs n nb e=>kk b _ (fun w=>w6 Em ⟨a1,a2,⟨a,b',a3⟩,a4,a5⟩ w nb e) e;refine q (.ref s.heap.objs.size) zj s.toks ?_ ⟨d1,(hs.2 _ D.TIz).trans (hk _ _ D.TIz D.TITO D.TIi1 D.TIi2 a2),⟨x,y,(hs.2 _ D.TOz).trans b2⟩,b3.extBut hs.extBut D.i1z,b4.extBut hs.extBut D.i2z⟩ kk;rw[List.getElem_map];rw[hv];exact⟨_,0,#[x,y],rfl,I.fR (zAq _),((hs.2 _ nz).trans b5:zj.get? s.heap.objs.size=some ⟨.type "tuple",none,.seq #[x,y] 0,#[]⟩),⟨x,[y],rfl,VR.mono kt _ rx,⟨y,[],rfl,VR.mono kt _ ry,rfl⟩⟩⟩
 done:=by
  rintro s H Q ⟨a1,a2,⟨a,b,a3⟩,a4,a5⟩ I ⟨g1,g2⟩ q;obtain⟨n1,xs,e1,r1⟩:=I.obj l1 _ g1;obtain⟨n2,ys,e2,r2⟩:=I.obj l2 _ g2;have s1:=aE r1;have s2:=aE r2;simp only[length_toList]at s1 s2;rw[zCe,List.length_zip]at a4 a5
  refine wpAny_pyNext_zip_end hA D a1 a2 a3 a4 a5 ⟨_,e1,rfl,n1,rfl⟩ ⟨_,e2,rfl,n2,rfl⟩ ?_ fun h' hk=>q h' s.toks fun b o nb e=>hk b o (fun w=>nb (.inl w)) (fun w=>nb (.inr (.inl w))) (fun w=>nb (.inr (.inr (.inl w)))) (fun w=>nb (.inr (.inr (.inr w)))) e
  rcases Nat.le_total l.length l'.length with h |h
  .exact .inl (zHr ((aP 73957691941724166) s1 h))
  .exact .inr (zHr ((aP 0x8ac02104982006) s2 h))
section
variable {sc:Sc}
theorem SS.En{x y:Str}{px py pt pos fp qB:Pos}{k i j:Nat}{e1 e2:Expr}{b:List Stmt}{p:PE}{bp:PS}(hg:sc.eW (Str.ofString "zip")=true)(hx:sc.eE.lookup x=some i)(cZ:fv sc x=true)(hy:sc.eE.lookup y=some j)(sQ:fv sc y=true)(sl:AL sc [e1,e2] p)(hb:sP sc b bp):
  SS sc (.For (.Tuple [.Name x px,.Name y py] k pt) (.Call (.Name (Str.ofString "zip") fp) [e1,e2] [] qB) b [] pos) (.sh i j .zip p bp):=fun c A env n ρ H s Q R P h=>by
 replace h:bA c n p ρ H (wR c (fun c bc ak Q₁=>wpS c n bp bc ak Q₁ R) i j .zip ρ Q):=h
 have ok:=P.ok.h;have iI:=fV (env:=env) (pos:=qB) sl;refine wpAny_For (Call_Name rfl (aX ok P hg (by decide) (v:=.type "zip") (by decide+kernel) (PyProof.Rows.callWith_type iI (fU iI (zAw (sl.sl _ _ _ _ _ _ _ _ qB P h) (fun vs ah aG=>?_) fun _ _ e=>e))))) (fun _=>rfl)
 obtain⟨l,aa,bC,aq,eQ,aG⟩:=aG;obtain⟨l1,l2,la,lb,e,ha,kY,aL⟩:=x6 aG;clear aG;cases e;obtain⟨u1,q1,rfl,MO,eQ⟩:=eQ;obtain⟨u2,q2,rfl,MP,eQ⟩:=eQ;cases (show q2=[] from eQ)
 cases (show u1= .ref _ from MO)
 cases (show u2= .ref _ from MP)
 obtain⟨n1,xs,ea,ra⟩:=bC.obj _ _ ha;obtain⟨n2,ys,eb,rb⟩:=bC.obj _ _ kY;refine call_zip_2 ⟨_,ea,rfl,n1,rfl⟩ ⟨_,eb,rfl,n2,rfl⟩ fun h' hz Pd Em Pe FH eM k'=>wpAny_pyIter_zip (s:={ah with heap:=h'}) hz ?_
 generalize hN:ah.heap.objs.size=N at*;have dead:∀a,N<=a->ah.heap.get? a=none:=fun a ha=>bg (by rw[hN];exact ha)
 have mV:∀a,N<=a->s.heap.get? a=none:=fun a ha=>by
  cases e:s.heap.get? a with
  |none=>rfl
  |some o=>
   have:=aq.live a (by rw[e];rfl)
   rw[dead a ha]at this;exact ft rfl this
 have Kn:=zAo ea;have Ko:=zAo eb;rw[hN]at Kn Ko;have hB:∀a,(ah.heap.get? a).isSome=true->(c.bad a\/a=N+3)->c.bad a:=fun a ha z=>z.elim id fun e=>by rw[e,dead _ (zCw _ _)]at ha;exact ft rfl ha
 have aY:=bC.wB (T:=N+3) (t:=ah.toks) k' (dead _ (zCw _ _)) (by rw[show h'.get? (N+3)=_ from Em];rfl)
 have gx:aW (c.wB (N+3)).toCx env sc ρ aa h':=((P.F.step P.I aq).map (c':=(c.wB (N+3)).toCx) rfl fun v x=>VR.wb hB v).Gk (s:=ah) (X:=fun _=>False) (fun b o _ e=>k' b o e) eC.none (fun _ z=>z.elim);have nb:∀a,N<=a->¬c.bad a:=fun a ha=>bC.fR (by rw[hN];exact ha)
 have ne:∀{a b:Nat},a≠b->(a:Addr)≠b:=fun h=>h
 have D:ZipApart (N+4) (N+2) (N+3) N (N+1) l1 l2:=by have Kn:(l1:Nat)<N:=Kn;have Ko:(l2:Nat)<N:=Ko;constructor<;>(intro z;have z:(_:Nat)=_:=z;first |exact(aB 2869209076742) z |exact(aB 2869209338886) z |exact(aB 2801958918) z |exact(aB 2869208814598) z |exact(aB 2860619142150) z |exact(aB 2687505414) z |exact(aB 2843439272966) z |exact(aB 2687767558) z |exact(aB 2843439535110) z |exact(aB 2776793094) z |exact zBw (zDu Kn (zCw ..)) z |exact zBw (zDu Ko (zCw ..)) z |exact zBw Kn z |exact zBw Ko z)
 refine mX (it:=.Call (.Name (Str.ofString "zip") fp) [e1,e2] [] qB) (c:=c) (B:=fun b=>c.bad b\/b=N+3) (iS.two hx cZ hy sQ) hb (fun a z=>.inl z) ⟨_,_,_,ok.wB (bC.cF (by rw[hN];exact zCw _ _))⟩ P.R P.F
  (Iy.zip (c:=c.wB (N+3)) (l:=la) (l':=lb) P.R.1 D (.inr rfl) (fun z=>z.elim (nb _ (zCw _ _)) fun e=>by have e:N+2=N+3:=e;exact(aB 2860619142150) e)) aY (aq.trans (ay.grow _ (t:=ah.toks) k')) gx ⟨hz,Pd,⟨_,_,Em⟩,Pe,FH⟩ ?_ (aL (N+3) (bC.cF (by rw[hN];exact zCw _ _)))
 have own:∀a,N<=a->¬aQ aa a:=fun a ha=>bC.gK (by rw[hN];exact ha)
 have bs:∀a,N<=a->c.base.get? a=none:=fun a ha=>bC.cF (by rw[hN];exact ha)
 clear D gx aY hB Ko Kn dead eM FH Pe Em Pd hz hN;rintro b' (rfl |rfl |rfl |rfl)
 .exact⟨mV _ (zCw _ _),own _ (zCw _ _),bs _ (zCw _ _),nb _ (zCw _ _)⟩
 .exact⟨mV _ (zCw _ _),own _ (zCw _ _),bs _ (zCw _ _),nb _ (zCw _ _)⟩
 .exact⟨mV _ (zAq _),own _ (zAq _),bs _ (zAq _),nb _ (zAq _)⟩
 .exact⟨mV _ (zDw _),own _ (zDw _),bs _ (zDw _),nb _ (zDw _)⟩
end
section
open Builtin
theorem oz:Slot "reversed" "__init__" "object.__init__":=
 .of (owner:="object") (n:="__init__") (by rw[zHe];rw[zEp];kernel_rfl) (by decide+kernel) (by decide+kernel) (by decide+kernel)
  (by first |exact .inl (by decide+kernel) |exact .inr (by decide+kernel)) (by rw[isSubtype_type];kernel_rfl)
theorem uY:TypeCalled "reversed" "reversed.__new__" "object.__init__":=
 ⟨by decide+kernel,PySem.F.create_reversed,⟨_,_,PySem.F.mro_reversed⟩,PySem.F.made_reversed,PySem.F.plain_reversed_new,PySem.F.sub_reversed_self,oz⟩
theorem cX:Slot "reversed" "__next__" "reversed.__next__":=
 .of (owner:="reversed") (n:="__next__") (by rw[zHe];rw[zEp];kernel_rfl) (by decide+kernel) (by decide+kernel) (by decide+kernel)
  (by first |exact .inl (by decide+kernel) |exact .inr (by decide+kernel)) (by rw[isSubtype_type];kernel_rfl)
theorem gR:entryFor table "reversed.__next__"=some Builtin.«reversed.__next__» :=entryFor_of_tree (by kernel_rfl)
theorem iT(a:Value):argsOk "reversed.__next__" ⟨[a],[]⟩:=by delta argsOk;kernel_rfl
theorem iU:Slot "reversed" "__iter__" "reversed.__iter__":=
 .of (owner:="reversed") (n:="__iter__") (by rw[zHe];rw[zEp];kernel_rfl) (by decide+kernel) (by decide+kernel) (by decide+kernel)
  (by first |exact .inl (by decide+kernel) |exact .inr (by decide+kernel)) (by rw[isSubtype_type];kernel_rfl)
theorem mZ:entryFor table "reversed.__iter__"=some Builtin.«dict_keyiterator.__iter__» :=
 entryFor_alias (id':="dict_keyiterator.__iter__") (by kernel_rfl) (by first |rfl |decide+kernel |(delta String.splitOn;simp+decide [String.splitOnAux])) (by decide+kernel) (by kernel_rfl)
theorem oA(a:Value):argsOk "reversed.__iter__" ⟨[a],[]⟩:=by delta argsOk;kernel_rfl
theorem jN:typeLookup (.type "tuple") "__reversed__"=pure none:=by rw[zHe];rw[zEp];kernel_rfl
theorem fi:Slot "reversed" "__length_hint__" "reversed.__length_hint__":=
 .of (owner:="reversed") (n:="__length_hint__") (by rw[zHe];rw[zEp];kernel_rfl) (by decide+kernel) (by decide+kernel) (by decide+kernel)
  (by first |exact .inl (by decide+kernel) |exact .inr (by decide+kernel)) (by rw[isSubtype_type];kernel_rfl)
theorem uZ:typeLookup (.type "reversed") "__len__"=pure none:=by rw[zHe];rw[zEp];kernel_rfl
noncomputable def fj(t:Addr)(i:Int):Obj:={cls:=.type "reversed",data:=.fields #[.ref t,rawInt i]}
theorem oB(t:Addr)(xs:Array Value)(n:Nat)(eR:(xs.size:Int)<2^ 63):Meets (Builtin.«reversed.__new__» ⟨[.type "reversed",.ref t],[]⟩)
  (fun _ R s=>s.heap.get? t=some ⟨.type "tuple",none,.seq xs n,#[]⟩/\R (.ok (.ret (.ref s.heap.objs.size))) {s with heap:=s.heap.push (fj t ((xs.size:Int)-1)),toks:=s.toks+1+1}):=
 .of_wp fun prog w A R s h=>by
  obtain⟨ht,h⟩:=h;have hT:s.TypeIs (.ref t) "tuple":=⟨_,ht,rfl⟩;delta Builtin.«reversed.__new__»
  refine lk (zFo (newClass_reversed _) ?_)
  try dsimp only
  refine lk (zFo (a:=()) (by first |rfl |kernel_rfl) ?_)
  refine lk (zFo (a:=()) (by first |rfl |kernel_rfl) ?_)
  try dsimp only
  refine lk (zFi hT jN ?_)
  try dsimp only
  refine lk ?_;refine(?_:wpAny _ _ (isInstance (.ref t) (.type "dict")>>=_) _ _ s);refine lk (wpAny_isInstance hT (b:=false) (by rw[isSubtype_type];kernel_rfl) ?_)
  refine(?_:wpAny _ _ (specialOf (.ref t) "__getitem__">>=_) _ _ s);refine lk (zFi hT slot_tuple_getitem.lookup ?_);dsimp only;rw[zBq (by decide+kernel)]
  refine Up ?_;refine(?_:wpAny _ _ (call (.builtin "len") [.ref t]>>=_) _ _ s);refine lk (PyProof.Rows.len_tuple ⟨_,ht,rfl,n,rfl⟩ eR ?_);refine lk (zFo (a:=some (xs.size:Int)) rfl ?_);refine(?_:wpAny _ _ (newObj (.type "reversed") (.fields #[.ref t,rawInt ((xs.size:Int)-1)]) none>>=_) _ _ _);exact lk (zGe (Up ⟨_,rfl,h⟩))
section
variable {prog:Program} {w:World} {A:Around} {E:Value->Shared->Prop} {s:Shared}
theorem cT{t:Addr}{xs:Array Value}{n:Nat}{Q:Value->Shared->Prop}(ht:s.heap.get? t=some ⟨.type "tuple",none,.seq xs n,#[]⟩)(eR:(xs.size:Int)<2^ 63)
  (h:Q (.ref s.heap.objs.size) {s with heap:=s.heap.push (fj t ((xs.size:Int)-1)),toks:=s.toks+1+1}):wpAny (model prog w) A (call (.type "reversed") [.ref t]) Q E s:=
 callType_new uY (by decide) (PySem.F.typeCall_reversed_1 _) (PySem.F.newCall_reversed_1 _) (fun obj=>PySem.F.args_object_init_2 obj _) PySem.F.entry_reversed_new
  (oB t xs n eR) ⟨ht,⟨_,zAr _ rfl,rfl⟩,h⟩
theorem pA{h:Heap}{it t:Addr}{i j:Int}(hit:h.get? it=some (fj t i)):(h.update it (Obj.mapFields fun vs=>vs.setIfInBounds 1 (rawInt j))).get? it=some (fj t j):=by rw[zCo _ hit rfl];rfl
theorem iV{it t:Addr}{i:Nat}{xs:Array Value}{n:Nat}{x:Value}{Q:Option Value->Shared->Prop}(eR:(xs.size:Int)<2^ 63)(hit:s.heap.get? it=some (fj t (i:Int)))(ht:s.heap.get? t=some ⟨.type "tuple",none,.seq xs n,#[]⟩)(hx:xs[i]?=some x)
  (hQ:∀h' tk,h'.get? it=some (fj t ((i:Int)-1))->SameBut it s.heap h'->Q (some x) {s with heap:=h',toks:=tk}):wpAny (model prog w) A (pyNext (.ref it)) Q E s:=by
 have hT:s.TypeIs (.ref it) "reversed":=⟨_,hit,rfl⟩;have hi:i<xs.size:=by rcases Array.getElem?_eq_some_iff.mp hx with⟨h,_⟩;exact h
 delta pyNext
 refine lk (wpAny_attempt (wpAny_callSpecial?_slot (name:=Str.ofString "__next__") hT cX
  (zEu cX hT gR ?_ (iT _))))
 delta Builtin.«reversed.__next__»
 refine lk (zFo (a:=(Value.ref it,[])) rfl ?_)
 try dsimp only
 refine lk (wpAny_field hit rfl (x:=.ref t) rfl ?_);refine lk (wpAny_field hit rfl (x:=rawInt (i:Int)) rfl ?_);refine(?_:wpAny _ _ (if (i:Int)<0 then _ else _) _ _ s)
 rw[zAi (by exact aB 2627913)]
 refine(?_:wpAny _ _ (specialOf (.ref t) "__getitem__">>=_) _ _ s);refine lk (zFi (⟨_,ht,rfl⟩:s.TypeIs (.ref t) "tuple") slot_tuple_getitem.lookup ?_);simp -iota only[Option.isNone_some,false_eq_true,if_false];refine lk (wpAny_mkInt ?_);refine lk (wpAny_attempt (PyProof.Rows.getItem_tuple (s:={s with toks:=s.toks+1}) (j:=i) (x:=x) ⟨_,ht,rfl,n,rfl⟩ (by exact aB 0x19020000000000000003d85) (by exact(Ot 0x728008b001946) eR hi) ?_ hx ?_))
 .delta seqIndex?;have h1:¬((i:Int)<0):=by exact aB 2627913
  simp -iota [h1,hi]
 refine lk (wpAny_field (s:={s with toks:=s.toks+1}) hit rfl (x:=rawInt (i:Int)) rfl ?_)
 dsimp only[rawInt];refine lk (wpAny_setField (s:={s with toks:=s.toks+1}) hit rfl (zAq _) ?_)
 exact Up ⟨x,rfl,Up (hQ _ _ (pA hit) (zBo ..))⟩
end
end
section
open Builtin
section
variable {prog:Program} {w:World} {A:Around} {E:Value->Shared->Prop} {s:Shared}
theorem jO{it t:Addr}{Q:Option Value->Shared->Prop}(hh:A.handled=none)(hit:s.heap.get? it=some (fj t (-1)))
  (hQ:∀h',Heap.ExtBut it s.heap h'->Q none {s with heap:=h'}):wpAny (model prog w) A (pyNext (.ref it)) Q E s:=by
 have hT:s.TypeIs (.ref it) "reversed":=⟨_,hit,rfl⟩;delta pyNext
 refine lk (wpAny_attempt (wpAny_callSpecial?_slot (name:=Str.ofString "__next__") hT cX
  (zEu cX hT gR ?_ (iT _))))
 delta Builtin.«reversed.__next__»
 refine lk (zFo (a:=(Value.ref it,[])) rfl ?_)
 try dsimp only
 refine lk (wpAny_field hit rfl (x:=.ref t) rfl ?_);refine lk (wpAny_field hit rfl (x:=rawInt (-1)) rfl ?_);refine(?_:wpAny _ _ (if (-1:Int)<0 then _ else _) _ _ s)
 rw[zBq (by decide)]
 refine lk (wpAny_rule ?_);refine lk ?_;refine(?_:wpAny _ _ (setField (.ref it) 1 (rawInt (-1))>>=fun _=>setField (.ref it) 0 .none) _ _ s);refine lk (wpAny_setField hit rfl (zAq _) ?_);refine wpAny_setField (s:={s with heap:=s.heap.update it (Obj.mapFields fun vs=>vs.setIfInBounds 1 (rawInt (-1)))}) (pA hit:(s.heap.update it (Obj.mapFields fun vs=>vs.setIfInBounds 1 (rawInt (-1)))).get? it=some (fj t (-1))) rfl (zDw _) ?_
 have dk:Heap.ExtBut it s.heap ((s.heap.update it (Obj.mapFields fun vs=>vs.setIfInBounds 1 (rawInt (-1)))).update it (Obj.mapFields fun vs=>vs.setIfInBounds 0 .none)):=
  fun b o hb e=>(zBo ..).extBut b o hb ((zBo ..).extBut b o hb e)
 generalize (s.heap.update it (Obj.mapFields fun vs=>vs.setIfInBounds 1 (rawInt (-1)))).update it (Obj.mapFields fun vs=>vs.setIfInBounds 0 .none)=aL at dk
 first
 |refine(?_:wpAny _ _ (newExc (.type "StopIteration") []>>=_) _ _ _)
 |(refine lk ?_;refine(?_:wpAny _ _ (newExc (.type "StopIteration") []>>=_) _ _ _))
 refine lk ?_;simp -iota only[newExc,newTuple];refine lk (zGe ?_ (by size_fits))
 refine lk (m:=firstArgMember _ _) (zFo (a:=Value.none) (by first |rfl |(simp -iota only[firstArgMember];rfl)) ?_)
 refine zGe ?_ (by size_fits)
 simp -iota only[raiseNew];refine lk (wpAny_handled ?_)
 first |rw[show A.in1.handled=none from hh] |rw[hh]
 refine lk (Up (wpAny_throw ?_));refine lk (wpAny_isInstance (T:="StopIteration") (b:=true) ⟨_,zAr _ rfl,rfl⟩ isSubtype_stop ?_);exact Up (hQ _ ((dk.push _).push _))
theorem ji{it t:Addr}{i:Int}{Q:Value->Shared->Prop}(hit:s.heap.get? it=some (fj t i))(h:Q (.ref it) s):wpAny (model prog w) A (pyIter (.ref it)) Q E s:=by have hT:s.TypeIs (.ref it) "reversed":=⟨_,hit,rfl⟩;refine wpAny_pyIter_slot hT iU (zEu iU hT mZ ?_ (oA _));refine(?_:wpAny _ _ (ret (.ref it)) _ _ s);exact Up ⟨_,rfl,"reversed",_,hT,cX.lookup,h⟩
theorem Bp{S I t:Addr}{xs:Array Value}{n:Nat}{res:Value}{R:Result->Shared->Prop}(hA:A.handled=none)(eR:(xs.size:Int)<2^ 63)(IC:S≠I)(Pf:S≠t)(ID:t≠I):
  ∀(k:Nat) (acc:Array Value) (iJ:Nat) (s:Shared),k<=xs.size->s.heap.get? I=some (fj t ((k:Int)-1))->s.heap.get? t=some ⟨.type "tuple",none,.seq xs n,#[]⟩->s.heap.get? S=some ⟨.type "list",none,.seq acc iJ,#[]⟩->acc.size+k<=sizeLine->
   (∀h' tk kA,(∀b o,b≠S->b≠I->s.heap.get? b=some o->h'.get? b=some o)->h'.get? S=some ⟨.type "list",none,.seq (acc++(xs.toList.take k).reverse.toArray) kA,#[]⟩->R (.ok (.ret res)) {s with heap:=h',toks:=tk})->
   codeAny (model prog w) A (.builtin "list.extend.loop" ⟨[.ref S,.ref I,res],[]⟩) R s:=by
 intro k
 induction k with
 |zero=>
  intro acc iJ s hk hI ht hS hz hR;refine zFt PySem.F.entry_extend_loop ?_;rw[zDy PySem.F.plain_extend_loop _];refine(?_:wpAny _ A.in1 (pyNext (.ref I)>>=_) _ _ s);refine lk (jO hA hI fun h' he=>?_);refine Up (hR h' s.toks iJ (fun b o _ hb e=>he b o hb e) ?_);rw[he S _ IC hS];exact rfl
 |succ k ih=>
  intro acc iJ s hk hI ht hS hz hR;refine zFt PySem.F.entry_extend_loop ?_;rw[zDy PySem.F.plain_extend_loop _];refine(?_:wpAny _ A.in1 (pyNext (.ref I)>>=_) _ _ s);have hx:xs[k]?=some xs[k]:=Array.getElem?_eq_getElem (by exact(aD 137718666278) hk)
  rw[show ((k+1:Nat):Int)-1=(k:Int) by exact aB 435587199827]at hI
  refine lk (iV eR hI ht hx fun h' tk MU hs=>?_);have j9:h'.get? S=some ⟨.type "list",none,.seq acc iJ,#[]⟩:=(hs.2 S IC).trans hS;refine(?_:wpAny _ A.in1 (updateSeq S (·.push xs[k])>>=_) _ _ _);refine lk ?_;obtain⟨c',Hv⟩:=fA j9 (·.push xs[k]);have dk:=zBo h' S (Obj.mapSeq (·.push xs[k]))
  refine wpAny_updateSeq (s:={s with heap:=h',toks:=tk}) j9 rfl (Up ⟨plainId_quiet PySem.F.plain_extend_loop _,ih (acc.push xs[k]) c' _ (by exact(aD 137987101734) hk) ((dk.2 I (zFp IC)).trans MU) ((dk.2 t (zFp Pf)).trans ((hs.2 t ID).trans ht:h'.get? t=some ⟨.type "tuple",none,.seq xs n,#[]⟩)) Hv (by rw[Array.size_push];exact(aD 0x2000001c0ac14a140000038b0d01426) hz) fun zj uw kA kk jP=>?_⟩)
   (by exact(aP 0x40000038228000007161a0a84c058684c04000000000000000781946) eR hk hz) (by rw[Array.size_push];exact(aP 0x2e000001ca2c5428000007161a0a84c058684c04000000000000000781946) eR hk hz)
  refine hR zj uw kA (fun b o h1 h2 e=>kk b o h1 h2 ((dk.2 b h1).trans ((hs.2 b h2).trans e))) ?_;rw[jP];congr 2
  have:xs.toList.take (k+1)=xs.toList.take k++[xs[k]]:=by rw[List.take_add_one];simp[hx]
  rw[this];congr 1;apply Array.toList_inj.mp;simp
theorem oC(a:Value):argsOk "reversed.__length_hint__" ⟨[a],[]⟩:=by delta argsOk;kernel_rfl
theorem m5:entryFor table "reversed.__length_hint__"=some Builtin.«reversed.__length_hint__» :=entryFor_of_tree (by kernel_rfl)
theorem Bq{I t:Addr}{xs:Array Value}{n:Nat}{Q:Value->Shared->Prop}(hI:s.heap.get? I=some (fj t ((xs.size:Int)-1)))(ht:s.heap.get? t=some ⟨.type "tuple",none,.seq xs n,#[]⟩)(eR:(xs.size:Int)<2^ 63)
  (h:∀u tk,Q (.int xs.size u) {s with toks:=tk}):wpAny (model prog w) A (call (.builtin "reversed.__length_hint__") [.ref I]) Q E s:=by
 refine zEu fi ⟨_,hI,rfl⟩ m5 ?_ (oC _);delta Builtin.«reversed.__length_hint__»
 refine lk (zFo (a:=Value.ref I) rfl ?_);refine lk (wpAny_field hI rfl (x:=.ref t) rfl ?_);refine(?_:wpAny _ _ (if (Value.ref t==Value.none)=true then _ else _) _ _ s)
 rw[zAi (show¬((Value.ref t==Value.none)=true) from Bool.false_ne_true)]
 refine(?_:wpAny _ _ (call (.builtin "len") [.ref t]>>=_) _ _ s);refine lk (PyProof.Rows.len_tuple ⟨_,ht,rfl,n,rfl⟩ eR ?_);refine lk (zFo (a:=some (xs.size:Int)) rfl ?_);refine lk (wpAny_field (s:={s with toks:=s.toks+1+1}) hI rfl (x:=rawInt ((xs.size:Int)-1)) rfl ?_)
 refine(?_:wpAny _ _ (if (xs.size:Int)<(xs.size:Int)-1+1 then _ else _) _ _ _)
 rw[zAi (by exact aB 99787572517193)]
 rw[show (xs.size:Int)-1+1=xs.size by exact aB 435587279683]
 exact wpAny_ret_mkInt (h _ _)
theorem w7{S I t:Addr}{xs:Array Value}{n:Nat}{res:Value}{R:Result->Shared->Prop}(hA:A.handled=none)(eR:xs.size<2^ 40)(IC:S≠I)(Pf:S≠t)(ID:t≠I){acc:Array Value}{iJ:Nat}(hI:s.heap.get? I=some (fj t ((xs.size:Int)-1)))
  (ht:s.heap.get? t=some ⟨.type "tuple",none,.seq xs n,#[]⟩) (hS:s.heap.get? S=some ⟨.type "list",none,.seq acc iJ,#[]⟩) (hz:acc.size+xs.size<=sizeLine)
  (hR:∀h' tk kA,(∀b o,b≠S->b≠I->s.heap.get? b=some o->h'.get? b=some o)->h'.get? S=some ⟨.type "list",none,.seq (acc++xs.toList.reverse.toArray) kA,#[]⟩->R (.ok (.ret res)) {s with heap:=h',toks:=tk}):
  wpAny (model prog w) A.in1 (Builtin.List.listExtendWith (.ref S) (.ref I) res)
   (fun fin s'=>match fin with | .done f=>R (.ok f) s' | .again c'=>c'.quiet=true/\codeAny (model prog w) A c' R s') (fun e s'=>R (.error e) s') s:=by
 have hT:s.TypeIs (.ref I) "reversed":=⟨_,hI,rfl⟩;delta Builtin.List.listExtendWith;refine lk (wpAny_typeOf hT ?_);have h1:Builtin.List.listSameRef (.ref S) (.ref I)=false:=by simp[Builtin.List.listSameRef,IC]
 have h2:(Value.type "reversed"==Value.type "list")=false:=by decide
 have h3:(Value.type "reversed"==Value.type "tuple")=false:=by decide
 simp -iota only[h1,h2,h3,Bool.or_false,false_eq_true,if_false];refine lk (ji hI ?_);refine lk (zCt ?_);delta Builtin.List.listLengthHint;refine lk (zFi hT uZ ?_);refine(?_:wpAny _ A.in1 (specialOf (Value.ref I) (Str.ofString "__length_hint__")>>=_) _ _ _);refine lk (zFi hT fi.lookup ?_)
 (generalize Kq:("reversed.__length_hint__":String)=Pg;(fail_if_success (clear Kq Pg));wp_delta;rw[show splitId Pg=some ("reversed","__length_hint__") from by subst Kq;decide+kernel];subst Kq)
 refine lk (wpAny_isInstance (b:=true) hT (by rw[isSubtype_type];kernel_rfl) ?_)
 rw[zAi (by decide)]
 rw[zAi (by decide+kernel)]
 refine lk (wpAny_rule ?_);refine lk (zFo (fi.bind _) ?_);refine lk (wpAny_attempt (Bq hI ht (by exact(aB 0x400000000000000078194000000040000000003c016) eR) fun u tk=>?_))
 refine lk ?_;rw[(rfl:asInt? (.int (xs.size:Int) u)=pure (some (xs.size:Int)))];refine Up ?_;dsimp only;have c1:(!Builtin.List.listFitsIndex (xs.size:Int))=false:=by rw[fitsIndex_of (by exact(aB 0x32a5000000040000000003c016) eR) (by exact(aB 0x400000000000000078194000000040000000003c016) eR)];rfl
 have c2:¬((xs.size:Int)<0):=by exact(aB 0x281949000000040000000003c016) eR
 have c3:Builtin.List.listTooLong (xs.size:Int).toNat=false:=by
  simp -iota only[Builtin.List.listTooLong,decide_eq_false_iff_not];rw[sizeLine_eq]at*
  show¬(_>_)
  exact(aD 0x19dc000003833000000e003426000000040000000003c016) eR hz
 rw[c1];rw[zAi (by decide)];rw[zAi c2];rw[c3];rw[zAi (by decide)]
 refine Up ?_
 have go:∀(s':Shared) (kA:Nat),s'.heap.get? I=some (fj t ((xs.size:Int)-1))->s'.heap.get? t=some ⟨.type "tuple",none,.seq xs n,#[]⟩->s'.heap.get? S=some ⟨.type "list",none,.seq acc kA,#[]⟩->s'.gens=s.gens->s'.drawn=s.drawn->s'.os=s.os->
   (∀b o,b≠S->s.heap.get? b=some o->s'.heap.get? b=some o)->wpAny (model prog w) A.in1 (again (.builtin "list.extend.loop" ⟨[.ref S,.ref I,res],[]⟩))
   (fun fin s'=>match fin with | .done f=>R (.ok f) s' | .again c'=>c'.quiet=true/\codeAny (model prog w) A c' R s') (fun e s'=>R (.error e) s') s':=by
  intro s' kA a1 a2 a3 a4 a5 a6 a7;refine Up ⟨plainId_quiet PySem.F.plain_extend_loop _,Bp hA (by exact(aB 0x400000000000000078194000000040000000003c016) eR) IC Pf ID xs.size acc kA s' (zAq _) a1 a2 a3 hz fun h' uw MV kk jP=>?_⟩
  have:=hR h' uw MV (fun b o h1 h2 e=>kk b o h1 h2 (a7 b o h1 e)) (by rw[jP];rw[List.take_of_length_le (by simp -iota)])
  rw[a4];rw[a5];rw[a6];exact this
 generalize t7:((xs.size:Int) !=0)=b0;cases b0 with
 |false=>
  rw[zAi (by decide+kernel)]
  exact go _ iJ hI ht hS rfl rfl rfl fun b o _ e=>e
 |true=>
  have mQ:1<=xs.size:=by simp -iota only[bne_iff_ne,ne_eq]at t7;exact(aB 0x592819396000000040000000003c016) eR t7
  rw[zBq (by rfl)]
  refine lk (wpAny_rule ?_);refine lk ?_;refine(?_:wpAny _ A.in1 (updateSeq S (·.push .none)>>=fun _=>updateSeq S (·.pop)) _ _ _);obtain⟨c1',Gu⟩:=fA hS (·.push Value.none);refine lk (wpAny_updateSeq (s:={s with toks:=tk}) hS rfl ?_ (hz:=by exact(aD 0x2000001c090164d000000e003426000000040000000003c016) eR hz mQ) (_hz':=by rw[Array.size_push];exact(aD 0x17000000e5161a10164d000000e003426000000040000000003c016) eR hz mQ))
  obtain⟨XJ,m6⟩:=fA Gu (·.pop);refine wpAny_updateSeq (s:={s with heap:=s.heap.update S (Obj.mapSeq (·.push Value.none)),toks:=tk}) Gu rfl ?_ (hz:=by rw[Array.size_push];exact(aD 0x8000007161a10164d000000e003426000000040000000003c016) eR hz mQ) (_hz':=by rw[Array.size_pop];rw[Array.size_push];exact(aD 0x5c000003945ac34a90164d000000e003426000000040000000003c016) eR hz mQ)
  have k2:∀b o,b≠S->s.heap.get? b=some o->((s.heap.update S (Obj.mapSeq (·.push Value.none))).update S (Obj.mapSeq (·.pop))).get? b=some o:=fun b o hb e=>((zBo (s.heap.update S (Obj.mapSeq (·.push Value.none))) S (Obj.mapSeq (·.pop))).2 b hb).trans (((zBo s.heap S (Obj.mapSeq (·.push Value.none))).2 b hb).trans e);rw[Array.pop_push]at m6;exact go _ XJ (k2 _ _ (zFp IC) hI) (k2 _ _ (zFp Pf) ht) m6 rfl rfl rfl k2
end
end
end
section
variable {prog:Program} {w:World} {A:Around} {E:Value->Shared->Prop} {s:Shared}
theorem w8{Q:Option Value->Shared->Prop}{Q1:PySem.Fin->Shared->Prop}(hh:A.handled=none)(hQ:∀h',(∀b o,s.heap.get? b=some o->h'.get? b=some o)->Q none {s with heap:=h'}):
  wpAny (model prog w) A.in1 (newExc (.type "StopIteration") []>>=fun e=>raiseNew e) Q1 (fun e s'=>wpAny (model prog w) A (do
    if←isInstance e (.type "StopIteration") then pure Option.none else throw e) Q E s') s:=by
 refine lk ?_;simp -iota only[newExc,newTuple];refine lk (zGe ?_ (by size_fits))
 refine lk (m:=firstArgMember _ _) (zFo (a:=Value.none) (by first |rfl |(simp -iota only[firstArgMember];rfl)) ?_)
 refine zGe ?_ (by size_fits)
 simp -iota only[raiseNew];refine lk (wpAny_handled ?_)
 first |rw[show A.in1.handled=none from hh] |rw[hh]
 refine lk (Up (wpAny_throw ?_));refine lk (wpAny_isInstance (T:="StopIteration") (b:=true) ⟨_,zAr _ rfl,rfl⟩ isSubtype_stop ?_);exact Up (hQ _ fun b o e=>zBr _ (zBr _ e))
theorem IE{h:Heap}{I a:Addr}{f f':Value}{i n ep:Nat}(hI:h.get? I=some (gm f i a n ep)):
  ((h.update I (Obj.mapFields fun vs=>vs.setIfInBounds 0 f')).update I (Obj.mapFields fun vs=>vs.setIfInBounds 1 (rawInt ((i:Int)+1)))).get? I=some (gm f' (i+1) a n ep)/\
  (h.update I (Obj.mapFields fun vs=>vs.setIfInBounds 0 f')).get? I=some (gm f' i a n ep):=by
 have h1:(h.update I (Obj.mapFields fun vs=>vs.setIfInBounds 0 f')).get? I=some (gm f' i a n ep):=by rw[zCo _ hI rfl];rfl
 refine⟨?_,h1⟩;rw[zCo _ h1 rfl];rfl
theorem Eo{h:Heap}{I a:Addr}{f:Value}{i n ep:Nat}(hI:h.get? I=some (gm f i a n ep)):
  (h.update I (Obj.mapFields fun vs=>vs.setIfInBounds 1 (rawInt ((i:Int)+1)))).get? I=some (gm f (i+1) a n ep):=by
 rw[zCo _ hI rfl];rfl
variable {I a:Addr} {o:Obj} {es:Array (Int×Value)} {ep:Nat} {t:SetTable} {i n:Nat}
theorem qD{slot next:Nat}{x:Value}{Q:Option Value->Shared->Prop}(hI:s.heap.get? I=some (gm (rawInt slot) i a n ep))(ho:s.heap.get? a=some o)(hd:o.data= .set es ep t)(hf:t.fits es.size=true)(hn:es.size=n)
  (hx:∀{Q':Option (Value×Nat)->Shared->Prop} {E':Value->Shared->Prop},Q' (some (x,next)) s->wpAny (model prog w) A.in1 (setNext a slot i ep) Q' E' s)
  (hQ:∀h',h'.get? I=some (gm (rawInt next) (i+1) a n ep)->SameBut I s.heap h'->Q (some x) {s with heap:=h'}):wpAny (model prog w) A (pyNext (.ref I)) Q E s:=by
 refine eZ hI ho hd hf hn ?_;refine(?_:wpAny _ _ (setNext a slot i ep>>=_) _ _ s);refine lk (hx ?_);refine lk (wpAny_setField hI rfl (succ_pos _) ?_);obtain⟨g1,g2⟩:=IE (f':=rawInt next) hI
 refine lk (wpAny_setField (s:={s with heap:=s.heap.update I (Obj.mapFields fun vs=>vs.setIfInBounds 0 (rawInt next))}) g2 rfl (by simp[gm]) ?_)
 exact Up ⟨x,rfl,hQ _ g1 ((zBo ..).trans (zBo ..))⟩
theorem qE{slot:Nat}{Q:Option Value->Shared->Prop}(hh:A.handled=none)(hI:s.heap.get? I=some (gm (rawInt slot) i a n ep))(ho:s.heap.get? a=some o)(hd:o.data= .set es ep t)(hf:t.fits es.size=true)(hn:es.size=n)
  (hx:∀{Q':Option (Value×Nat)->Shared->Prop} {E':Value->Shared->Prop},Q' none s->wpAny (model prog w) A.in1 (setNext a slot i ep) Q' E' s)
  (hQ:∀h',(∀b o,b≠I->s.heap.get? b=some o->h'.get? b=some o)->Q none {s with heap:=h'}):wpAny (model prog w) A (pyNext (.ref I)) Q E s:=by
 refine eZ hI ho hd hf hn ?_;refine(?_:wpAny _ _ (setNext a slot i ep>>=_) _ _ s);refine lk (hx ?_);refine lk (wpAny_setField hI rfl (by simp[gm]) ?_)
 exact w8 hh fun h' k=>hQ h' fun b o hb e=>k b o (((zBo s.heap I (Obj.mapFields fun vs=>vs.setIfInBounds 2 Value.none)).2 b hb).trans e)
end
section
variable {prog:Program} {w:World} {A:Around} {E:Value->Shared->Prop} {s:Shared} {I a tp:Addr} {o:Obj} {es:Array (Int×Value)} {ep:Nat} {t:SetTable} {i n:Nat} {places:Array Value} {pn:Nat}
theorem yl{k:Nat}{tk:Tok}{e:Int×Value}{Q:Option Value->Shared->Prop}(hI:s.heap.get? I=some (gm (.ref tp) i a n ep))(ho:s.heap.get? a=some o)(hd:o.data= .set es ep t)(hf:t.fits es.size=true)(hn:es.size=n)
  (hp:s.heap.get? tp=some ⟨.type "tuple",none,.seq places pn,#[]⟩) (hk:places[i]?=some (.int k tk)) (he:es[k]?=some e)
  (hQ:∀h',h'.get? I=some (gm (.ref tp) (i+1) a n ep)->SameBut I s.heap h'->Q (some e.2) {s with heap:=h'}):wpAny (model prog w) A (pyNext (.ref I)) Q E s:=by
 refine eZ hI ho hd hf hn ?_;refine(?_:wpAny _ _ (seqItems? (.ref tp)>>=_) _ _ s);refine lk (wpAny_seqItems hp rfl ?_);dsimp only;rw[hk];refine lk (xP (k:=k) ho hd hf he ?_);refine lk (wpAny_setField hI rfl (by simp[gm]) ?_)
 exact Up ⟨e.2,rfl,hQ _ (Eo hI) (zBo ..)⟩
theorem ym{Q:Option Value->Shared->Prop}(hh:A.handled=none)(hI:s.heap.get? I=some (gm (.ref tp) i a n ep))(ho:s.heap.get? a=some o)(hd:o.data= .set es ep t)(hf:t.fits es.size=true)(hn:es.size=n)
  (hp:s.heap.get? tp=some ⟨.type "tuple",none,.seq places pn,#[]⟩) (hk:places[i]?=none)
  (hQ:∀h',(∀b o,b≠I->s.heap.get? b=some o->h'.get? b=some o)->Q none {s with heap:=h'}):wpAny (model prog w) A (pyNext (.ref I)) Q E s:=by
 refine eZ hI ho hd hf hn ?_;refine(?_:wpAny _ _ (seqItems? (.ref tp)>>=_) _ _ s);refine lk (wpAny_seqItems hp rfl ?_);dsimp only;rw[hk];dsimp only;refine lk (wpAny_setField hI rfl (succ_pos _) ?_)
 have h1:(s.heap.update I (Obj.mapFields fun vs=>vs.setIfInBounds 0 (rawInt 0))).get? I=some (gm (rawInt 0) i a n ep):=by rw[zCo _ hI rfl];rfl
 refine lk (wpAny_setField (s:={s with heap:=s.heap.update I (Obj.mapFields fun vs=>vs.setIfInBounds 0 (rawInt 0))}) h1 rfl (by simp[gm]) ?_)
 exact w8 hh fun h' k=>hQ h' fun b o hb e=>k b o ((((zBo s.heap I (Obj.mapFields fun vs=>vs.setIfInBounds 0 (rawInt 0))).trans (zBo _ I (Obj.mapFields fun vs=>vs.setIfInBounds 2 Value.none))).2 b hb).trans e)
theorem pB{first:Value}{Q:Value->Shared->Prop}(hI:s.heap.get? I=some (gm first i a n ep))(h:Q (.ref I) s):wpAny (model prog w) A (pyIter (.ref I)) Q E s:=by have hT:s.TypeIs (.ref I) "set_iterator":=⟨_,hI,rfl⟩;refine wpAny_pyIter_slot hT jC (zEu jC hT ou ?_ (p6 _));refine(?_:wpAny _ _ (ret (.ref I)) _ _ s);exact Up ⟨_,rfl,"set_iterator",_,hT,ew.lookup,h⟩
end
section
variable {prog:Program} {w:World} {A:Around} {I a tp:Addr} {o:Obj} {es:Array (Int×Value)} {ep:Nat} {t:SetTable}
def Gv(L:List (Int×Value))(i:Nat)(v:Value):Prop:=∃e,L[i]?=some e/\v=e.2
theorem pC(hh:A.handled=none)(IF:a≠I)(hd:o.data= .set es ep t)(hf:t.fits es.size=true){L:List (Int×Value)}(hL:L.length=es.size){slots:Nat->Nat->Prop}(h0:slots 0 0)
  (hx:∀(B:Around) (s:Shared) (i slot:Nat) (e:Int×Value),s.heap.get? a=some o->slots i slot->L[i]?=some e->∃next,slots (i+1) next/\∀{Q':Option (Value×Nat)->Shared->Prop} {E':Value->Shared->Prop},Q' (some (e.2,next)) s->wpAny (model prog w) B (setNext a slot i ep) Q' E' s)
  (hz:∀(B:Around) (s:Shared) (slot:Nat),s.heap.get? a=some o->slots L.length slot->∀{Q':Option (Value×Nat)->Shared->Prop} {E':Value->Shared->Prop},Q' none s->wpAny (model prog w) B (setNext a slot L.length ep) Q' E' s):
  Walks prog w A I [I,a] [I] L.length (Gv L) (fun i h=>(∃slot,slots i slot/\h.get? I=some (gm (rawInt slot) i a es.size ep))/\h.get? a=some o) where
 sub:=fun b hb=>by simp at hb;simp[hb]
 frame:=fun _ _ _ ⟨⟨slot,q,e⟩,st⟩ hk=>⟨⟨slot,q,hk I (.head _) _ e⟩,hk a (.tail _ (.head _)) _ st⟩
 item:=fun i s Q E hi ⟨⟨slot,q,e⟩,st⟩ hQ=>by
  obtain⟨next,q',Ep⟩:=hx A.in1 s i slot L[i] st q (zAe hi)
  refine qD e st hd hf rfl Ep fun h' MU dk=>?_;exact hQ _ h' s.toks ⟨_,zAe hi,rfl⟩ ⟨⟨next,q',MU⟩,(dk.2 a IF).trans st⟩ fun b o hb e=>(dk.2 b (fun z=>hb (by simp[z]))).trans e
 done:=fun s Q E ⟨⟨slot,q,e⟩,st⟩ hQ=>qE hh e st hd hf rfl (hz A.in1 s slot st q) fun h' k=>hQ h' s.toks fun b o hb e=>k b o (fun z=>hb (by simp[z])) e
 self:=fun _ _ _ _ ⟨⟨slot,q,e⟩,st⟩ hQ=>pB e hQ
theorem IG(hh:A.handled=none)(IF:a≠I)(hd:o.data= .set es ep t)(hf:t.fits es.size=true)(hT:w.params.followText "set-order"=true):
  Walks prog w A I [I,a] [I] (pickOrder (w.params.setOrder a ep) es).toList.length (Gv (pickOrder (w.params.setOrder a ep) es).toList) (fun i h=>(∃slot:Nat,True/\h.get? I=some (gm (rawInt slot) i a es.size ep))/\h.get? a=some o):=by
 refine pC (slots:=fun _ _=>True) hh IF hd hf (by rw[(oP (w.params.setOrder a ep) es).length_eq];rw[zBi]) trivial (fun B s i slot e st _ he=>⟨slot,trivial,fun hq=>oR hT st hd hf ?_⟩) (fun B s slot st _ {Q' E'} hq=>oR hT st hd hf ?_)
 .rw[←zDi];rw[he];exact hq
 .rw[←zDi];rw[List.getElem?_eq_none (zAq _)];exact hq
noncomputable def slotAt(t:SetTable):Nat->Nat
 |0=>0
 |i+1=>t.place.getD i 0+1
theorem jQ{t:SetTable}(hr:zF t.place){i:Nat}(hi:i<=t.place.size):SetTable.below t.place (slotAt t i)=i:=by
 refine zG hr hi (fun k hk=>?_) fun k h1 h2=>?_
 .cases i with
  |zero=>exact(aP 272973846) hk
  |succ i=>
   refine(?_:_<t.place.getD i 0+1);by_cases e:k=i
   .clear hk hi;subst e;exact aB 5777409
   .have:=hr k i ((aD 0x804200965868016) hk e) ((aD 137718666278) hi);exact(aD 1518808080406) this
 .cases i with
  |zero=>exact zEw _
  |succ i=>
   refine(?_:t.place.getD i 0+1<=_);have:=hr i k ((aD 137718666278) h1) h2;exact(aD 184768012310) this
theorem IH(hh:A.handled=none)(IF:a≠I)(hd:o.data= .set es ep t)(hf:t.fits es.size=true)(hT:w.params.followText "set-order"=false)(hw:(!t.plain&&decide (es.size>1))=false)(hl:t.led=true)(hr:zF t.place):
  Walks prog w A I [I,a] [I] es.toList.length (Gv es.toList) (fun i h=>(∃slot:Nat,slot=slotAt t i/\h.get? I=some (gm (rawInt slot) i a es.size ep))/\h.get? a=some o):=by
 have MW:t.place.size=es.size:=by simp only[SetTable.fits,and_eq_true,beq_iff_eq]at hf;exact hf.1
 refine pC (slots:=fun i slot=>slot=slotAt t i) hh IF hd hf (rfl) rfl (fun B s i slot e st hs he=>⟨slotAt t (i+1),rfl,fun hq=>oS hT st hd hf hw hl ?_⟩) (fun B s slot st hs {Q' E'} hq=>oS hT st hd hf hw hl ?_)
 .have hi:i<es.size:=by simpa using(zCy.mp he).1
  subst hs;rw[jQ hr (by exact(aP 2338749685766) MW hi)]
  rw[zDi]at he;have h2:i<t.place.size:=by exact(aP 2270030209030) MW hi
  rw[he];rw[Array.getElem?_eq_getElem h2];have:t.place.getD i 0=t.place[i]:=by simp[Array.getD,h2]
  rw[show slotAt t (i+1)=t.place.getD i 0+1 from rfl,this]at hq
  exact hq
 .subst hs;rw[zBi];rw[jQ hr (by exact(aD 4726790) MW)];rw[zHr (zAq _)]
  exact hq
theorem II(hh:A.handled=none)(IF:a≠I)(ID:tp≠I)(hd:o.data= .set es ep t)(hf:t.fits es.size=true){places:Array Value}{pn:Nat}{ord:List Nat}(iI:places.toList=ord.map fun(k:Nat)=>rawInt (k:Int))(RV:∀k∈ord,k<es.size):
  Walks prog w A I [I,a,tp] [I] (ord.map fun k=>es.getD k (0,.none)).length (Gv (ord.map fun k=>es.getD k (0,.none))) (fun i h=>h.get? I=some (gm (.ref tp) i a es.size ep)/\h.get? a=some o/\h.get? tp=some ⟨.type "tuple",none,.seq places pn,#[]⟩) where
 sub:=fun b hb=>by simp at hb;simp[hb]
 frame:=fun _ _ _ ⟨e,st,ht⟩ hk=>⟨hk I (.head _) _ e,hk a (.tail _ (.head _)) _ st,hk tp (.tail _ (.tail _ (.head _))) _ ht⟩
 item:=fun i s Q E hi ⟨e,st,ht⟩ hQ=>by
  have jb:i<ord.length:=by simpa using hi
  have hk:ord[i]<es.size:=RV _ (zEq jb);refine yl (k:=ord[i]) (tk:=0) (e:=es[ord[i]]) e st hd hf rfl ht ?_ (Array.getElem?_eq_getElem hk) fun h' MU dk=>?_
  .rw[←zDi];rw[iI];rw[zHw];rw[zAe jb];rfl
  .refine hQ _ h' s.toks ⟨_,zAe hi,?_⟩ ⟨MU,(dk.2 a IF).trans st,(dk.2 tp ID).trans ht⟩ fun b o hb e=>(dk.2 b (fun z=>hb (by simp[z]))).trans e
   simp[Array.getD,hk]
 done:=fun s Q E ⟨e,st,ht⟩ hQ=>by
  refine ym hh e st hd hf rfl ht ?_ fun h' k=>hQ h' s.toks fun b o hb e=>k b o (fun z=>hb (by simp[z])) e
  rw[←zDi];rw[iI];rw[List.getElem?_eq_none (by simp)]
 self:=fun _ _ _ _ ⟨e,st,ht⟩ hQ=>pB e hQ
end
section
variable {prog:Program} {w:World} {A:Around} {E:Value->Shared->Prop} {s:Shared}
theorem m7:∀(n:Nat) (l:List Nat) (s:Shared) {Q:List Nat->Shared->Prop},l.length=n->(∀d l',l'.Perm l->Q l' {s with drawn:=d})->wpAny (model prog w) A (drawOrder n l) Q E s
 |0,l,s,Q,hn,h=>by have:l=[]:=List.length_eq_zero_iff.mp hn;subst this;refine(?_:wpAny _ _ (pure []) _ _ _);exact Up (h s.drawn [] (List.Perm.refl _))
 |n+1,[],s,Q,hn,h=>by cases hn
 |n+1,x::l,s,Q,hn,h=>by
  refine(?_:wpAny _ _ (_>>=_) _ _ _);refine lk ?_;intro Γ p hΓ;unfold choose;rw[Sem.wp_choose];refine⟨by simp,?_⟩
  have cE:(model prog w).w.draws Source.order (s.drawn.get Source.order)%(x::l).length<(x::l).length:=Nat.mod_lt _ (by simp)
  generalize (model prog w).w.draws Source.order (s.drawn.get Source.order)%(x::l).length=i at cE⊢;refine(?_:wpAny _ _ _ _ _ _);rw[zAe cE];refine lk (m7 n _ _ (by rw[List.length_eraseIdx_of_lt cE];exact(aD 0xac1505868006) hn) fun d l' hp=>Up ?_)
  exact h d _ ((List.Perm.cons _ hp).trans (jc _ _ cE))
end
section
variable {prog:Program} {w:World} {A:Around} {E:Value->Shared->Prop} {s:Shared} {a:Addr} {o:Obj} {es:Array (Int×Value)} {ep:Nat} {t:SetTable}
theorem u0(hh:A.handled=none)(ho:s.heap.get? a=some o)(hc:o.cls= .type "set")(hd:o.data= .set es ep t)(hf:t.fits es.size=true)(hb:es.size<scanBound){Q:Value->Shared->Prop}
  (h0:∀first,first=rawInt 0->(w.params.followText "set-order"=true\/(!t.plain&&decide (es.size>1))=false)->Q (.ref s.heap.objs.size) {s with heap:=s.heap.push (gm first 0 a es.size ep)})
  (hD:∀d (ord:List Nat) tk,ord.Perm (List.range es.size)->Q (.ref (s.heap.objs.size+1)) {s with heap:=(s.heap.push ⟨.type "tuple",none,.seq (ord.map fun(k:Nat)=>rawInt (k:Int)).toArray 0,#[]⟩).push (gm (.ref s.heap.objs.size) 0 a es.size ep),drawn:=d,toks:=tk}):
  wpAny (model prog w) A (pyIter (.ref a)) Q E s:=by
 have hT:s.TypeIs (.ref a) "set":=⟨o,ho,hc⟩;refine wpAny_pyIter_slot hT PySem.F.slot_set_iter (zEu PySem.F.slot_set_iter hT mc ?_ (PySem.F.args_set_iter_1 _));delta Builtin.«frozenset.__iter__»
 refine lk (m:=Builtin.Frozenset.slot0 "__iter__" ⟨[.ref a],[]⟩) (zFo (a:=a) rfl ?_);delta Builtin.Frozenset.sizeOf setEntries;refine lk (lk (lk (zGo ho hd hf (Up (Up ?_)))));delta setDrawn;refine lk ?_;refine lk (zGo ho hd hf ?_);refine lk (ib (Up ?_));refine(?_:wpAny _ _ (if (!(w.params.followText "set-order")&&(!t.plain&&decide (es.size>1)))=true then _ else _) _ _ _)
 have fin:∀(s':Shared) (first:Value),s'.heap.get? a=some o->(∀Q':Value->Shared->Prop,Q'=Q->Q' (.ref s'.heap.objs.size) {s' with heap:=s'.heap.push (gm first 0 a es.size ep)})->
   wpAny (model prog w) A.in1 (do
    let e←setEpoch a;let r←newFields "set_iterator" [first,rawInt 0,.ref a,rawInt (es.size:Nat),rawInt (e:Nat)]
    ret r) (fun fin s'=>∃v,fin= .done (.ret v)/\∃T' r,s'.TypeIs v T'/\typeLookup (Value.type T') (Str.ofString "__next__")=pure (some r)/\Q v s') E s':=by
  intro s' first t6 hq
  refine lk (wpAny_setEpoch_of t6 hd hf ?_);refine lk (zGe ?_);exact Up ⟨_,rfl,"set_iterator",_,⟨_,zAr _ rfl,rfl⟩,ew.lookup,hq Q rfl⟩
 cases kY:(!(w.params.followText "set-order")&&(!t.plain&&decide (es.size>1))) with
 |false=>
  rw[zAi (by simp)]
  refine lk (Up ?_);refine fin s _ ho fun Q' e=>e▸h0 _ rfl ?_;cases q:w.params.followText "set-order" with
  |true=>exact .inl rfl
  |false=>rw[q]at kY;exact .inr (kY)
 |true=>
  rw[zBq rfl];refine lk (m7 es.size _ s (by simp) fun d ord hp=>?_)
  refine lk (wpAny_newTuple ?_ (by rw[zCe];rw[hp.length_eq];rw[List.length_range];exact fits_of_scanBound hb))
  refine fin _ _ (zBr _ ho) fun Q' e=>?_;clear fin h0;subst e;have:=hD d ord s.toks hp;rw[show s.heap.objs.size+1=(s.heap.push {cls:=.type "tuple",data:=.seq (ord.map fun(k:Nat)=>rawInt (k:Int)).toArray}).objs.size from(zGw ..).symm]at this
  exact this
end
section
variable {prog:Program} {w:World} {A:Around} {E:Value->Shared->Prop} {s:Shared} {r:Addr} {Q:Bool->Shared->Prop}
theorem sR(hT:s.TypeIs (.ref r) "set")(h:Q false s)(h2:Q true s):wpAny (model prog w) A (Builtin.List.listLengthHint (.ref r)) Q E s:=by
 delta Builtin.List.listLengthHint;refine lk (zFi hT PySem.F.slot_set_len.lookup ?_);generalize Kq:("set.__len__":String)=Pg
 wp_delta
 rw[show splitId Pg=some ("set","__len__") from by subst Kq;decide+kernel]
 subst Kq;refine lk (wpAny_isInstance (T:="set") (b:=true) hT (by rw[isSubtype_type];kernel_rfl) ?_)
 refine wpAny_ite_split (fun FI=>absurd FI (by decide)) (fun _=>?_)
 refine wpAny_ite_split (fun _=>?_) (fun FI=>absurd (by decide+kernel) FI)
 refine lk (wpAny_typeOf hT ?_)
 first |exact Up h |exact Up h2
end
section
variable {prog:Program} {w:World} {A:Around} {s:Shared} {I:Addr} {fp:List Addr} {n:Nat} {P:Nat->Value->Prop} {St:Nat->Heap->Prop} {R:Result->Shared->Prop}
theorem yn(W:Walks prog w A.in1 I fp [I] n P St)(hn:n<=sizeLine)(S:Addr)(xO:S∉fp)(res:Value){c₁:Nat}(cZ:St 0 s.heap)(hS:s.heap.get? S=some {cls:=.type "list",data:=.seq #[] c₁})
  (hR:∀h' tk dm c',(∀b o,b≠S->b≠I->s.heap.get? b=some o->h'.get? b=some o)->h'.get? S=some {cls:=.type "list",dict:=none,data:=.seq dm c',slots:= #[]}->ItemsOf P dm n->R (.ok (.ret res)) {s with heap:=h',toks:=tk}):
  codeAny (model prog w) A (.builtin "list.extend.loop" ⟨[.ref S,.ref I,res],[]⟩) R s:=by
 refine codeAny_extend_loopS W.toS hn S xO res n 0 _ #[] c₁ rfl (zEw _) cZ hS (ItemsOf.nil _) fun s' dm c' hm j9 eX=>?_;rw[Moved.eq_with hm];refine hR s'.heap s'.toks dm c' (fun b o hb hI e=>hm.heap b o (fun gC=>?_) e) j9 eX;rcases zAy.mp gC with e' |gC
 .exact hb e'
 .exact hI (List.mem_singleton.mp gC)
theorem pD(W:Walks prog w A.in1 I fp [I] n P St)(hn:n<=sizeLine)(S:Addr)(xO:S∉fp)(res:Value){c₁:Nat}(cZ:St 0 s.heap)(hS:s.heap.get? S=some {cls:=.type "list",data:=.seq #[] c₁})
  (hR:∀h' tk dm c',(∀b o,b≠S->b≠I->s.heap.get? b=some o->h'.get? b=some o)->h'.get? S=some {cls:=.type "list",dict:=none,data:=.seq dm c',slots:= #[]}->ItemsOf P dm n->R (.ok (.ret res)) {s with heap:=h',toks:=tk}):
  wpAny (model prog w) A.in1 (Builtin.List.listTouch (.ref S)>>=fun _=>again (.builtin "list.extend.loop" ⟨[.ref S,.ref I,res],[]⟩))
   (fun fin s'=>match fin with | .done f=>R (.ok f) s' | .again c'=>c'.quiet=true/\codeAny (model prog w) A c' R s') (fun e s'=>R (.error e) s') s:=by
 refine lk ?_;refine(?_:wpAny _ _ (updateSeq S (·.push .none)>>=fun _=>updateSeq S (·.pop)) _ _ _);refine lk (wpAny_updateSeq hS rfl ?_);have m6:=zCo (Obj.mapSeq (·.push Value.none)) hS rfl;refine wpAny_updateSeq (hz:=by seq_fits) m6 rfl ?_
 have Vi:∀b o,b≠S->s.heap.get? b=some o->((s.heap.update S (Obj.mapSeq (·.push Value.none))).update S (Obj.mapSeq (·.pop))).get? b=some o:=fun b o hb e=>(Heap.get?_update_other _ _ (zFp hb)).trans ((Heap.get?_update_other _ _ (zFp hb)).trans e)
 refine Up ⟨plainId_quiet PySem.F.plain_extend_loop _,yn W hn S xO res ?_ (zCo (Obj.mapSeq (·.pop)) m6 rfl) fun h' tk dm c' k=>?_⟩
 .exact W.frame 0 _ _ cZ fun b hb o e=>Vi b o (fun h=>xO (h▸hb)) e
 .exact hR h' tk dm c' fun b o h1 h2 e=>k b o h1 h2 (Vi b o h1 e)
end
section
variable {prog:Program} {w:World} {A:Around} {s:Shared} {r:Addr} {o:Obj} {es:Array (Int×Value)} {ep:Nat} {t:SetTable} {R:Result->Shared->Prop}
theorem vb(hh:A.handled=none)(ho:s.heap.get? r=some o)(hc:o.cls= .type "set")(hd:o.data= .set es ep t)(hf:t.fits es.size=true)(hb:es.size<scanBound)(hg:TG (l9 w) t)(S:Addr)(RW:S≠r)(res:Value){c₁:Nat}(hS:s.heap.get? S=some {cls:=.type "list",data:=.seq #[] c₁})
  (hR:∀h' d tk dm c' L,Perm L es.toList->(∀b o,b≠S->s.heap.get? b=some o->h'.get? b=some o)->h'.get? S=some {cls:=.type "list",dict:=none,data:=.seq dm c',slots:= #[]}->ItemsOf (Gv L) dm L.length->R (.ok (.ret res)) {s with heap:=h',drawn:=d,toks:=tk}):
  wpAny (model prog w) A.in1 (Builtin.List.listExtendWith (.ref S) (.ref r) res)
   (fun fin s'=>match fin with | .done f=>R (.ok f) s' | .again c'=>c'.quiet=true/\codeAny (model prog w) A c' R s') (fun e s'=>R (.error e) s') s:=by
 have MX:=zAo ho;have IK:=zAo hS;delta Builtin.List.listExtendWith;refine lk (wpAny_typeOf (⟨o,ho,hc⟩:s.TypeIs (.ref r) "set") ?_);have h1:Builtin.List.listSameRef (.ref S) (.ref r)=false:=by simp[Builtin.List.listSameRef,RW]
 have h2:(Value.type "set"==Value.type "list")=false:=by decide
 have h3:(Value.type "set"==Value.type "tuple")=false:=by decide
 simp -iota only[h1,h2,h3,Bool.or_false,false_eq_true,if_false];have MY:∀{L:List (Int×Value)},L.Perm es.toList->L.length<=sizeLine:=fun hp=>by rw[hp.length_eq];rw[zBi];exact(fits_of_scanBound hb)
 refine lk (u0 (by exact hh) ho hc hd hf hb (fun first IL MZ=>?_) (fun d ord tk hp=>?_))
 .subst IL;have kp:∀b o',s.heap.get? b=some o'->(s.heap.push (gm (rawInt 0) 0 r es.size ep)).get? b=some o':=fun b o' e=>zBr _ e
  have go:∀{L:List (Int×Value)} {St:Nat->Heap->Prop},L.Perm es.toList->Walks prog w A.in1 s.heap.objs.size [s.heap.objs.size,r] [s.heap.objs.size] L.length (Gv L) St->St 0 (s.heap.push (gm (rawInt 0) 0 r es.size ep))->wpAny (model prog w) A.in1
    (do
     let room←holding [.ref s.heap.objs.size] (Builtin.List.listLengthHint (.ref r))
     if (room||["set","frozenset","dict","dict_keys","dict_values","dict_items"].any (fun x=>Value.type "set"==Value.type x))=true then
      let _←rule "list.extend.makes-room"
      let _←Builtin.List.listTouch (.ref S)
      again (.builtin "list.extend.loop" ⟨[.ref S,.ref s.heap.objs.size,res],[]⟩)
     else again (.builtin "list.extend.loop" ⟨[.ref S,.ref s.heap.objs.size,res],[]⟩))
    (fun fin s'=>match fin with | .done f=>R (.ok f) s' | .again c'=>c'.quiet=true/\codeAny (model prog w) A c' R s') (fun e s'=>R (.error e) s') {s with heap:=s.heap.push (gm (rawInt 0) 0 r es.size ep)}:=by
   intro L St hp W cZ
   have xO:S∉[s.heap.objs.size,r]:=by simp -iota only[mem_cons,not_mem_nil,or_false,not_or];exact⟨zBw IK,RW⟩
   have fin:=pD (R:=R) (s:={s with heap:=s.heap.push (gm (rawInt 0) 0 r es.size ep)}) W (MY hp) S xO res cZ (kp _ _ hS) (fun h' tk dm c' k j9 eX=>hR h' s.drawn tk dm c' L hp (fun b o' kY e=>k b o' kY (zBw (zAo e)) (kp _ _ e)) j9 eX)
   have RX:Shared.TypeIs {s with heap:=s.heap.push (gm (rawInt 0) 0 r es.size ep)} (.ref r) "set":=⟨o,kp _ _ ho,hc⟩
   refine lk (zCt (sR RX ?_ ?_))<;>
   .rw[zBq (by decide)]
    exact lk (wpAny_rule fin)
  have Vj:r≠s.heap.objs.size:=zBw MX;cases hq:w.params.followText "set-order" with
  |true=>
   exact go (oP _ _) (IG (A:=A.in1) (I:=s.heap.objs.size) hh Vj hd hf hq) ⟨⟨0,trivial,zAr _ rfl⟩,kp _ _ ho⟩
  |false=>
   have hw:=MZ.resolve_left (by rw[hq];simp -iota)
   have hl:t.led=true:=by rw[hg.led];simp -iota [l9,hq]
   have hr:zF t.place:=by
    cases iI:t.plain with
    |true=>exact(hg.good iI).2
    |false=>
     rw[iI]at hw
     have MW:t.place.size=es.size:=by simp -iota only[SetTable.fits,and_eq_true,beq_iff_eq]at hf;exact hf.1
     intro i k XK hk;simp -iota at hw;exact(ur 0xa41584980316188582006) MW XK hk hw
   exact go (List.Perm.refl _) (IH (A:=A.in1) (I:=s.heap.objs.size) hh Vj hd hf hq hw hl hr) ⟨⟨0,rfl,zAr _ rfl⟩,kp _ _ ho⟩
 .generalize Vk:(⟨.type "tuple",none,.seq (ord.map fun(k:Nat)=>rawInt (k:Int)).toArray 0,#[]⟩:Obj)=to;have kp:∀b o',s.heap.get? b=some o'->((s.heap.push to).push (gm (.ref s.heap.objs.size) 0 r es.size ep)).get? b=some o':=fun b o' e=>zBr _ (zBr _ e)
  have xO:S∉[s.heap.objs.size+1,r,s.heap.objs.size]:=by simp -iota only[mem_cons,not_mem_nil,or_false,not_or];exact⟨zBw (zGp IK),RW,zBw IK⟩
  have XM:((s.heap.push to).push (gm (.ref s.heap.objs.size) 0 r es.size ep)).get? (s.heap.objs.size+1)=some (gm (.ref s.heap.objs.size) 0 r es.size ep):=by rw[←(zGw .. :(s.heap.push to).objs.size=s.heap.objs.size+1)];exact zAr _ rfl
  have uk:((s.heap.push to).push (gm (.ref s.heap.objs.size) 0 r es.size ep)).get? s.heap.objs.size=some to:=zBr _ (zAr _ (by rw[←Vk];rfl))
  have W:=II (prog:=prog) (w:=w) (A:=A.in1) (I:=s.heap.objs.size+1) (tp:=s.heap.objs.size) (places:=(ord.map fun(k:Nat)=>rawInt (k:Int)).toArray) (pn:=0) (ord:=ord) hh (zBw (zGp MX):r≠s.heap.objs.size+1) (zBw (zDe _)) hd hf (rfl) (fun k hk=>by have:=hp.mem_iff.mp hk;simpa -iota using this)
  have hL:(ord.map fun k=>es.getD k (0,.none)).Perm es.toList:=by
   refine(hp.map _).trans (List.Perm.of_eq ?_);apply ext_getElem
   .simp -iota
   .intro i h1 h2;have h1:i<es.size:= ‹_›;simp -iota [Array.getD,h1]
  rw[Vk]at W;have fin:=pD (R:=R) (s:={s with heap:=(s.heap.push to).push (gm (.ref s.heap.objs.size) 0 r es.size ep),drawn:=d,toks:=tk}) W (MY hL) S xO res ⟨XM,kp _ _ ho,uk⟩ (kp _ _ hS) (fun h' uw dm c' k j9 eX=>hR h' d uw dm c' _ hL (fun b o' kY e=>k b o' kY (zBw (zGp (zAo e))) (kp _ _ e)) j9 eX)
  have RX:Shared.TypeIs {s with heap:=(s.heap.push to).push (gm (.ref s.heap.objs.size) 0 r es.size ep),drawn:=d,toks:=tk} (.ref r) "set":=⟨o,kp _ _ ho,hc⟩
  refine lk (zCt (sR RX ?_ ?_))<;>
  .rw[zBq (by decide+kernel)]
   exact lk (wpAny_rule fin)
end
section
set_option backward.match.sparseCases true
section
variable {prog:Program} {w:World} {A:Around} {E:Value->Shared->Prop} {s:Shared} {r:Addr} {o:Obj} {es:Array (Int×Value)} {ep:Nat} {t:SetTable}
theorem sS{Q:List Value->Shared->Prop}(hh:A.handled=none)(ho:s.heap.get? r=some o)(hc:o.cls= .type "set")(hd:o.data= .set es ep t)(hf:t.fits es.size=true)(hb:es.size<scanBound)(hg:TG (l9 w) t)
  (h:∀h' d tk acc L,Perm L es.toList->(∀b o,s.heap.get? b=some o->h'.get? b=some o)->acc.length=L.length->(∀(j:Nat) v,acc[j]?=some v->Gv L j v)->Q acc {s with heap:=h',drawn:=d,toks:=tk}):wpAny (model prog w) A (collect (.ref r)) Q E s:=by
 delta collect;refine lk (wpAny_runValue (zFt PySem.F.entry_proto_collect ?_));rw[zDy PySem.F.plain_proto_collect _];refine(?_:wpAny _ A.in1 (newList []>>=fun l=>again (.builtin "list.__iadd__" ⟨[l,.ref r],[]⟩)) _ _ s);refine lk (zGe ?_);refine Up ⟨plainId_quiet PySem.F.plain_list_iadd _,zFt PySem.F.entry_list_iadd ?_⟩;rw[zDy PySem.F.plain_list_iadd _];refine(?_:wpAny _ A.in1 (Builtin.List.listExtendWith (.ref s.heap.objs.size) (.ref r) (.ref s.heap.objs.size)) _ _ _)
 have fin:∀(h':Heap) (d:Drawn) (tk:Nat) (dm:Array Value) (c':Nat) (L:List (Int×Value)),L.Perm es.toList->(∀b o,s.heap.get? b=some o->h'.get? b=some o)->h'.get? s.heap.objs.size=some {cls:=.type "list",dict:=none,data:=.seq dm c',slots:= #[]}->ItemsOf (Gv L) dm L.length->
   wpAny (model prog w) A (OC s.heap.objs.size) Q E {s with heap:=h',drawn:=d,toks:=tk}:=fun h' d tk dm c' L hp hk j9 eX=>
  lk (wpAny_load j9 (Up (h h' d tk dm.toList L hp hk (by rw[zBi];exact eX.1) fun j v e=>eX.2 j v (by rw[←zDi];exact e))))
 refine zAw (vb (R:=fun r s'=>r= .ok (.ret (.ref s.heap.objs.size))/\wpAny (model prog w) A (OC s.heap.objs.size) Q E s')
  (s:={s with heap:=s.heap.push {cls:=.type "list",data:=.seq ([]:List Value).toArray}}) hh (zBr _ ho) hc hd hf hb hg _ (ne_of_gt (zAo ho)) (.ref s.heap.objs.size) (zAr _ rfl)
  (fun h' d tk dm c' L hp hk j9 eX=>⟨rfl,fin h' d tk dm c' L hp (fun b o e=>hk b o (zBw (zAo e)) (zBr _ e)) j9 eX⟩)) (fun f s' hf=>?_) fun e s' he=>nomatch he.1
 cases f with
 |done f=>
  obtain⟨hr,g⟩:=hf;injection hr with hr;subst hr
  exact g
 |again c'=>
  refine⟨hf.1,codeAny_mono hf.2 fun r s' hr=>?_⟩;obtain⟨rfl,g⟩:=hr;exact g
theorem iW{α:Type}[DecidableEq α]:∀(l l':List α),l.Nodup->(∀x∈l,x∈l')->l'.length<=l.length->l'.Perm l
 |[],l',_,_,h=>by have:l'=[]:=List.length_eq_zero_iff.mp (Nat.le_zero.mp h);subst this;exact List.Perm.refl _
 |x::l,l',hn,hs,h=>by
  obtain⟨h1,h2⟩:=zCq.mp hn;have hx:=hs x (.head _);refine(List.perm_cons_erase hx).trans (List.Perm.cons x (iW l _ h2 (fun y hy=>?_) ?_))
  .exact(List.mem_erase_of_ne fun e=>h1 (by rw[←e];exact hy)).mpr (hs y (.tail _ hy))
  .rw[List.length_erase_of_mem hx];simp at h;exact(aD 0xac1525868026) h
set_option tactic.hygienic true in
theorem eS(val:Nat->Int):∀i,(firstMet val i).Nodup
 |0=>List.nodup_nil
 |i+1=>by
  rw[firstMet_succ];delta step_dedup;split
  .exact eS val i
  .rename_i h
   refine zCi.mpr ⟨eS val i,by simp,?_⟩
   intro a ha b hb e;rw[mem_singleton]at hb;subst hb;subst e;exact h (List.any_eq_true.mpr ⟨_,ha,by simp⟩)
end
end
section
open PySem.SeqAt
section
open Builtin
set_option backward.match.sparseCases true
theorem Gw{n:Nat}(h:n<=lim):n<2^ 40:=by have:lim=1000000:=rfl;exact(aB 0x20000000001e0083d090380f4240e0303d09038026) h this
section
variable {c:Cy} {A:Around} {H:Z} {s:Shared} {Q:V->Z->Prop}
theorem sT{p t:Addr}{l l':List V}{xs:Array Value}{n:Nat}(hA:A.handled=none)(I:Inv c.toCx H s)(hH:H p=some (.list l))(ht:s.heap.get? t=some ⟨.type "tuple",none,.seq xs n,#[]⟩)(rt:bj c.toCx s.heap l' xs.toList)(hl:(l++l').length<=lim)(q:Q .none (H.set p (.list (l++l'.reverse)))):
  wpAny c.M A (call (.type "reversed") [.ref t]) (fun it ah=>wpAny c.M A (call (.builtin "list.extend") [.ref p,it]) (Back c.toCx H s Q) bZ ah) bZ s:=by
 obtain⟨m,ys,e,r⟩:=I.obj p _ hH;have e1:=aE r;have e2:=aE rt;simp only[length_toList]at e1 e2;rw[length_append]at hl;have ag:=dS;refine cT ht (lim_63 ((rN 0x4420901803061041426) hl e1 e2)) ?_;have k:∀b o,s.heap.get? b=some o->(s.heap.push (fj t ((xs.size:Int)-1))).get? b=some o:=az _;have RY:p≠t:=fun z=>by rw[z,ht]at e;simp at e
 refine wpAny_call (codeAny_call_builtin PySem.F.slot_list_extend.plain PySem.F.entry_list_extend (PySem.F.slot_list_extend.check _ _ _ _ _ _ _ _ ⟨_,k _ _ e,rfl⟩ (PySem.F.args_list_extend_2 _ _) ?_))
 show wpAny _ A.in1 (Builtin.List.listExtendWith (.ref p) (.ref s.heap.objs.size) .none) _ _ _
 refine w7 (R:=fun r s'=>match r with | .ok (.ret v)=>Back c.toCx H s Q v s' | .ok _=>False | .error e=>bZ e s') hA (Gw ((rN 0x4420901803061041426) hl e1 e2)) (zBw (zAo e):p≠s.heap.objs.size) RY (zBw (zAo ht):t≠s.heap.objs.size) (zAr _ rfl) (k _ _ ht) (k _ _ e) ((dq 0x2000001c18a85000000e03d090384c11830040c0f4240e041426) hl e1 e2 ag) fun h' tk kA kk jP=>?_
 have m8:∀b o,b≠p->s.heap.get? b=some o->h'.get? b=some o:=fun b o hb z=>kk b o hb (fun w=>by rw[w,(bg (zAq _):s.heap.get? s.heap.objs.size=none)]at z;exact sn z rfl) (k _ _ z)
 have dQ:∀b zs j,¬c.bad b->s.heap.get? b=some ⟨.type "tuple",none,.seq zs j,#[]⟩->h'.get? b=some ⟨.type "tuple",none,.seq zs j,#[]⟩:=fun b zs j _ z=>m8 b _ (fun w=>by rw[w,e]at z;simp at z) z
 have ob:dI c.toCx h' p (.list (l++l'.reverse)):=⟨kA,_,jP,by rw[Array.toList_append];exact cD (bj.mono dQ _ r) (gL (bj.mono dQ _ rt))⟩
 have J:Inv c.toCx (H.set p (.list (l++l'.reverse))) {s with heap:=h',toks:=tk}/\Step H (H.set p (.list (l++l'.reverse))) s {s with heap:=h',toks:=tk}:=by
  have own:aQ H p:=.inl (by rw[hH];simp)
  have ow:∀b,aQ (H.set p (.list (l++l'.reverse))) b->aQ H b:=by
   rintro b (x |⟨C,fs,x⟩)
   .by_cases z:b=p
    .rw[z];exact own
    .rw[Z.af _ _ z]at x;exact .inl x
   .by_cases z:b+1=p
    .rw[z,Z.ab]at x;cases x
    .rw[Z.af _ _ z]at x;exact .inr ⟨C,fs,x⟩
  have live:∀b,(s.heap.get? b).isSome=true->(h'.get? b).isSome=true:=fun b hb=>by
   by_cases z:b=p
   .rw[z];rw[jP];rfl
   .obtain⟨o,w⟩:=zAp.mp hb;rw[m8 b o z w];rfl
  refine⟨⟨I.gens,I.drawn,I.os,fun b o z=>m8 b o (fun w=>?_) (I.base _ _ z),fun b bo z=>?_,fun b ho=>I.off b (ow b ho),fun b C fs z=>?_,fun b hb=>live b (I.bad b hb)⟩,⟨fun b o z no _=>m8 b o (fun w=>no (w▸own)) z,fun b hb=>.inl (ow b hb),live⟩⟩
  .rw[w,I.off _ own]at z;exact sn z rfl
  .by_cases w:b=p
   .clear ow own m8 jP kk RY e q hH;subst w;rw[Z.ab]at z;obtain rfl:=so z;exact ob
   .rw[Z.af _ _ w]at z;refine dI.mono dQ (fun o u=>m8 b o w u) (fun⟨C,fs,u⟩ o u'=>m8 _ o (fun y=>?_) u') (I.obj b bo z);subst u;have:=I.apart b C fs z;rw[y,hH]at this;exact sn this.symm rfl
  .by_cases w:b=p
   .clear ow own ob m8 jP kk RY e q hH;subst w;rw[Z.ab]at z;cases z
   .rw[Z.af _ _ w]at z;have:b-1≠p:=fun y=>by have:=I.apart b C fs z;rw[y,hH]at this;exact sn this.symm rfl
    rw[Z.af _ _ this];exact I.apart b C fs z
 exact⟨.none,_,J.1,J.2,iq,q⟩
theorem qF{t:Addr}{l:List V}{xs:Array Value}{n:Nat}(hA:A.handled=none)(I:Inv c.toCx H s)(ht:s.heap.get? t=some ⟨.type "tuple",none,.seq xs n,#[]⟩)(rt:bj c.toCx s.heap l xs.toList)(hl:l.length<=lim)(q:∀r,H r=none->Q (.ref r) (H.set r (.list l.reverse))):
  wpAny c.M A (call (.type "reversed") [.ref t]) (fun it ah=>wpAny c.M A (call (.type "list") [it]) (Back c.toCx H s Q) bZ ah) bZ s:=by
 have e2:=aE rt;simp only[length_toList]at e2;have ag:=dS;refine cT ht (lim_63 ((aP 37520970096678) hl e2)) ?_;generalize hI:s.heap.objs.size=it;generalize hh:s.heap.push (fj t ((xs.size:Int)-1))=aG;have Vl:aG.objs.size=it+1:=by rw[←hh];rw[zGw];rw[hI]
 have k:∀b o,s.heap.get? b=some o->aG.get? b=some o:=hh▸az _;have hit:aG.get? it=some (fj t ((xs.size:Int)-1)):=by rw[←hh];rw[←hI];exact zAr _ rfl
 have ID:t≠it:=by rw[←hI];exact zBw (zAo ht)
 refine callType_codes (Q₁:=fun obj ah=>obj= .ref (it+1)/\ah={s with heap:=aG.push {cls:=.type "list",data:=.seq #[]},toks:=s.toks+1+1}) PySem.F.called_list (PySem.F.typeCall_list_1 _) PySem.F.entry_list_init
  (code_list_new _ ⟨by refine(?_:Value.ref aG.objs.size=_);rw[Vl],rfl⟩) fun obj ah M0=>?_
 obtain⟨rfl,rfl⟩:=M0;have hS:(aG.push {cls:=.type "list",data:=.seq #[]}).get? (it+1)=some ⟨.type "list",none,.seq #[] 0,#[]⟩:=by rw[←Vl];exact zAr _ rfl
 have k2:∀b o,aG.get? b=some o->(aG.push {cls:=.type "list",data:=.seq #[]}).get? b=some o:=az _;refine⟨⟨_,hS,rfl⟩,PySem.F.args_list_init_2 _ _,?_⟩;generalize hh2:aG.push {cls:=.type "list",data:=.seq #[]}=aL at hS k2;refine(?_:wpAny _ A.in1.in1 (do let old←Builtin.List.listItems (.ref (it+1));Builtin.List.listUpdate (.ref (it+1)) (fun _=> #[]);letGo old.toList.reverse;Builtin.List.listExtendWith (.ref (it+1)) (.ref it) .none) _ _ _)
 refine lk ?_;delta Builtin.List.listItems;refine lk (wpAny_seqItems (s:={s with heap:=aL,toks:=s.toks+1+1}) hS rfl (Up ?_))
 refine(?_:wpAny _ A.in1.in1 (updateSeq (it+1) (fun _=> #[])>>=fun _=>letGo (#[]:Array Value).toList.reverse>>=fun _=>Builtin.List.listExtendWith (.ref (it+1)) (.ref it) .none) _ _ _);refine lk (wpAny_updateSeq (s:={s with heap:=aL,toks:=s.toks+1+1}) hS rfl ?_)
 obtain⟨c1,m6⟩:=fA hS (fun _=>(#[]:Array Value));have hb:=zBo aL (it+1) (Obj.mapSeq fun _=>(#[]:Array Value));refine lk (wpAny_letGo ?_);have ne1:it≠it+1:=zBw (zDe _)
 have Vm:t≠it+1:=fun z=>by have:=zAo ht;rw[hI,z]at this;exact zGy _ (zHq this)
 have dead:∀a,it<=a->s.heap.get? a=none:=fun a ha=>bg (by rw[hI];exact ha)
 refine w7 (A:=A.in1) (s:={s with heap:=aL.update (it+1) (Obj.mapSeq fun _=>(#[]:Array Value)),toks:=s.toks+1+1}) (R:=fun r s'=>wants (fun r bb=>r= .none/\Back c.toCx H s Q (.ref (it+1)) bb) bZ r s') hA (Gw ((aP 37520970096678) hl e2)) (zFp ne1) (zFp Vm) ID
  ((hb.2 it ne1).trans (k2 _ _ hit)) ((hb.2 t Vm).trans (k2 _ _ (k _ _ ht))) m6 (by simp;exact(aD 0x8000007025000000e03d090384c008303d09038026) hl e2 ag) fun h' tk kA kk jP=>?_
 have m8:∀b o,s.heap.get? b=some o->h'.get? b=some o:=fun b o z=>by
  have kY:b<it:=by rw[←hI];exact zAo z
  have n1:b≠it+1:=zBw (zGp kY);exact kk b o n1 (zBw kY) ((hb.2 b n1).trans (k2 _ _ (k _ _ z)))
 refine⟨rfl,?_⟩
 obtain⟨aY,aI⟩:=I.take (t:=tk) (a:=it+1) (ao:=.list l.reverse) m8 (by rw[hI];exact zDw _) ⟨kA,_,jP,by simpa using gL (bj.mono (fun b zs j _ z=>m8 _ _ z) _ rt)⟩ (by simp)
 exact⟨.ref (it+1),_,aY,aI,dA,q _ (I.fresh (by rw[hI];exact zDw _))⟩
theorem rG.ll{l:List V}{a I:Addr}{xs:Array Value}{m:Nat}(hA:A.handled=none)(nb:¬c.bad a)(el:a≠I)(hl:l.length<=lim):
  rG c A l.reverse (fun _=>True) I (fun b=>b=I) (fun i h=>i<=l.length/\h.get? I=some (fj a ((xs.size:Int)-1-(i:Nat)))/\h.get? a=some ⟨.type "tuple",none,.seq xs m,#[]⟩/\bj c.toCx h l xs.toList) where
 keep:=fun i h h' ⟨hi,e,e2,rv⟩ k kt=>⟨hi,k _ _ rfl e,kt _ _ _ nb e2,bj.mono kt _ rv⟩
 live:=fun i h b ⟨_,e,_⟩ hb=>by rw[hb];rw[e];rfl
 go:=fun i s elts k pos v Q ⟨_,e,_⟩ q=>jK e rfl (by decide) q
 self:=fun i s Q hg q=>ji hg.2.1 q
 bM:=fun i s ⟨_,e,_⟩=>d9 fun xs n z=>by rw[e]at z;simp[fj]at z
 next:=fun i s H Q hi ⟨hle,hg,e,r⟩ I _ q=>by
  have e1:=aE r;simp only[length_toList]at e1;rw[length_reverse]at hi;have hk:xs.size-1-i<l.length:=(aP 0x2058ab51088182016) hi e1;obtain⟨x,ex,rx⟩:=eF r (zAe hk);rw[show (xs.size:Int)-1-(i:Nat)=((xs.size-1-i:Nat):Int) by exact(aP 0x58ab5c832b166b53088182016) hi e1]at hg
  refine iV (lim_63 ((aP 37520970096678) hl e1)) hg e (x:=x) (by simpa using ex) fun h' tk hit hs=>?_
  have kt:∀b ys m',¬c.bad b->s.heap.get? b=some ⟨.type "tuple",none,.seq ys m',#[]⟩->h'.get? b=some ⟨.type "tuple",none,.seq ys m',#[]⟩:=fun b ys m' _ z=>(hs.2 b fun w=>by rw[w,hg]at z;simp[fj]at z).trans z
  refine q x h' tk ?_ ⟨(aP 0xac142088182016) hi e1,?_,kt _ _ _ nb e,bj.mono kt _ r⟩ fun b o hb z=>(hs.2 b hb).trans z
  .rw[List.getElem_reverse];have:l.length-1-i=xs.size-1-i:=(aP 0xb156a0586b50088182016) hi e1;simp only[this];exact VR.mono kt _ rx
  .rw[show (xs.size:Int)-1-((i+1:Nat):Int)=((xs.size-1-i:Nat):Int)-1 by exact(aP 0xb02c55ae6ab0532b166b53088182016) hi e1];exact hit
 done:=fun s H Q ⟨hle,hg,e,r⟩ I _ q=>by
  have e1:=aE r;simp only[length_toList]at e1;rw[length_reverse]at hg;rw[show (xs.size:Int)-1-(l.length:Nat)= -1 by exact(aD 0x2f01cac19ad4c2006) e1]at hg
  exact jO hA hg fun h' he=>q h' s.toks fun b o hb z=>he b o hb z
end
section
variable {sc:Sc}
theorem SE.my{o x:Expr}{p q:PE}{ap rp IM pos}(ho:bO o=true)(hl:(ap.endLine==pos.line)=true)(hx:aC x=false)(hg:sc.eW (Str.ofString "reversed")=true)(a:SE sc o p)(b:SE sc x q):
  SE sc (.Call (.Attribute o (Str.ofString "extend") ap) [.Call (.Name (Str.ofString "reversed") rp) [x] [] IM] [] pos) (.my p q):=by
 refine .plain (fun c A env n ρ H s Q P h=>?_) (fun _ _=>rfl) (fun _ _ _ _ _=>rfl);dsimp only[bX]at h;refine pg (T:="list") ho hl (by refine(?_:1<20);decide) rfl PySem.F.plainAttrs_list PySem.F.slot_list_extend PySem.F.type_list_extend (a.then P h fun v ah xv aa ai aq rx aG=>?_)
 obtain⟨p,l,rfl,hH,aG⟩:=mC aG;cases (show v= .ref p from rx)
 obtain⟨ob,e1,e2,e3⟩:=jJ ai.I (p:=p) (by rw[hH];trivial)
 refine⟨p,ob,rfl,e1,e2,e3,uN rfl (Call_Name rfl (aX P.ok.h ai hg (by decide) (v:=.type "reversed") (by decide+kernel) (gM hx (b.then ai aG fun w bb y ak bh aI ry aL=>?_))))⟩
 obtain⟨l,l',rfl,g1,g2,g3⟩:=xZ aL;obtain⟨t,n,xs,rfl,nb,et,rt⟩:=fe ry;exact zAw (sT P.R.1 bh.I g1 et rt g2 g3) (fun _ _ z=>zAw z (fun _ _ k=>Back.after (aq.trans aI) k) fun _ _ e=>e) fun _ _ e=>e
theorem SE.ig{x:Expr}{q:PE}{fp rp IM pos}(hx:aC x=false)(hg:sc.eW (Str.ofString "list")=true)(AZ:sc.eW (Str.ofString "reversed")=true)(b:SE sc x q):
  SE sc (.Call (.Name (Str.ofString "list") fp) [.Call (.Name (Str.ofString "reversed") rp) [x] [] IM] [] pos) (.b1 (.ig ()) q):=by
 refine .plain (fun c A env n ρ H s Q P h=>?_) (fun _ _=>rfl) (fun _ _ _ _ _=>rfl);dsimp only[bX]at h;have ok:=P.ok.h;refine Call_Name rfl (aX ok P hg (by decide) (v:=.type "list") (by decide+kernel) (gM rfl (Call_Name rfl (aX ok P AZ (by decide) (v:=.type "reversed") (by decide+kernel) (gM hx (b.then P h fun w bb y ak bh aI ry aL=>?_))))))
 cases y with
 |tup l'=>
  obtain⟨t,n,xs,rfl,nb,et,rt⟩:=fe ry;exact zAw (qF P.R.1 bh.I et rt aL.1 aL.2) (fun _ _ z=>zAw z (fun _ _ k=>Back.after aI k) fun _ _ e=>e) fun _ _ e=>e
 |_=>exact aL.elim
theorem SI.ll{x:Expr}{p:PE}{fp pos}(hx:aC x=false)(hg:sc.eW (Str.ofString "reversed")=true)(a:SE sc x p):SI sc (.Call (.Name (Str.ofString "reversed") fp) [x] [] pos) (.ll ()) p:=by
 intro c A env n ρ H s Kk P h;have ok:=P.ok.h;refine Call_Name rfl (aX ok P hg (by decide) (v:=.type "reversed") (by decide+kernel) (gM hx (a.then P h fun v ah y aa ai aq r q=>?_)))
 obtain⟨l,rfl,hlen,q⟩:=uH q;obtain⟨b,m,xs,rfl,nb,e,rl⟩:=fe r;have e1:=aE rl;simp only[length_toList]at e1;refine cT e (lim_63 ((aP 37520970096678) hlen e1)) (ji (s:={ah with heap:=ah.heap.push (fj b ((xs.size:Int)-1)),toks:=ah.toks+1+1}) (zAr _ rfl) ?_)
 have k:∀b' o,ah.heap.get? b'=some o->(ah.heap.push (fj b ((xs.size:Int)-1))).get? b'=some o:=az _
 exact⟨_,_,_,_,_,aa,rfl,rG.ll (xs:=xs) (m:=m) P.R.1 nb (zBw (zAo e)) hlen,ai.I.grow (t:=ah.toks+1+1) k,aq.trans (ay.grow _ (t:=ah.toks+1+1) k),⟨zEw _,by rw[zAr _ rfl];simp,k _ _ e,cU rl⟩,
  ai.I.one aq k (zAq _) (by rw[zAr _ rfl];rfl),q⟩
end
end
noncomputable def pairsOf(env:Env)(pos:Pos):List (Option Expr)->List Expr->List (Sem Value×Sem Value)
 |some e::ks,v::vs=>(eval e env,do let x←eval v env;standAt pos;pure x)::pairsOf env pos ks vs
 |_,_=>[]
inductive DL(sc:Sc):List (Option Expr)->List Expr->List Nat->PE->Prop
 |nil:DL sc [] [] [] .nil
 |cons {x:Str} {kd p} {k:Nat} {ks:List (Option Expr)} {v:Expr} {vs:List Expr} {l:List Nat} {q r:PE} (hk:fN x=some k) (hc:l.contains k=false) (h:SE sc v q) (t:DL sc ks vs l r):DL sc (some (.Constant (.str x) kd p)::ks) (v::vs) (k::l) (.cons q r)
theorem sU{sc:Sc}{env:Env}{pos:Pos}{ks:List (Option Expr)}{vs:List Expr}{l:List Nat}{p:PE}(d:DL sc ks vs l p):
  (evalEachOpt ks env).zip ((evalEach vs env).map fun v=>do let x←v;standAt pos;pure x)=(pairsOf env pos ks vs).map (fun p=>(some p.1,p.2))/\(pairsOf env pos ks vs).length=ks.length:=by
 induction d with
 |nil=>exact⟨rfl,rfl⟩
 |cons _ _ _ _ ih=>exact⟨zEy _ ih.1,zEy Nat.succ ih.2⟩
theorem keys_nodup{sc:Sc}{ks:List (Option Expr)}{vs:List Expr}{l:List Nat}{p:PE}(d:DL sc ks vs l p):l.Nodup/\∀k∈l,k<strN:=by
 induction d with
 |nil=>exact⟨.nil,nofun⟩
 |cons hk hc _ _ ih=>
  refine⟨zCq.mpr ⟨fun z=>Bool.eq_false_iff.mp hc (List.contains_iff_mem.mpr z),ih.1⟩,fun j hj=>?_⟩;rcases zAy.mp hj with rfl |hj
  .exact(ez hk).1
  .exact ih.2 j hj
theorem qG{K:Type}[DecidableEq K]:∀(more acc:List (K×Value)),((acc++more).map (·.1)).Nodup->merged acc more=acc++more:=by
 intro more
 induction more with
 |nil=>exact fun acc _=>(zDp _).symm
 |cons p more ih=>
  obtain⟨k,v⟩:=p;intro acc h
  have hn:k∉acc.map (·.1):=by rw[map_append,zCi]at h;intro hk;exact h.2.2 k hk k (.head _) rfl
  have hs:stored acc k v=acc++[(k,v)]:=by delta stored;rw[zAi];rw[any_eq_true];rintro⟨kv,MK,he⟩;exact hn (zAt.mpr ⟨kv,MK,zFq he⟩)
  refine(?_:merged (stored acc k v) more=_);rw[hs];rw[ih (acc++[(k,v)]) (by simpa using h)]
  exact zFu _ _ _
noncomputable def names(l:List Nat)(vs:List Value):List (Str×Value):=(l.map strOf).zip vs
theorem sV{c:Cx}{h:Heap}:∀{l:List Nat} {lv:List V} {vs:List Value},l.length=lv.length->bj c h lv vs->PR c h strOf (l.zip lv) (names l vs)
 |[],[],_,_,r=>by cases (show _=[] from r);rfl
 |k::l,v::lv,_,hl,⟨x,r,e,h1,h2⟩=>by subst e;exact⟨x,names l r,rfl,h1,sV (by simpa using hl) h2⟩
 |[],_::_,_,hl,_=>rfl
 |_::_,[],_,hl,_=>by simp at hl
theorem m9:∀{l:List Nat} {vs:List Value},l.length=vs.length->(names l vs).map (·.1)=l.map strOf
 |[],[],_=>rfl
 |k::l,v::vs,h=>by refine(?_:strOf k::(names l vs).map (·.1)=_);rw[m9 (by simpa using h)];rfl
 |[],_::_,h=>rfl
 |_::_,[],h=>by simp at h
section
variable {sc:Sc}
inductive M1(c:Cx)(H:Z)(s:Shared)(Q:V->Z->Prop)(l:List Nat)(kvs:List (Value×Value))(s':Shared):Prop
 |mk (lv:List V) (xs:List Value) (H':Z) (I:Inv c H' s') (S:Step H H' s s') (r:bj c s'.heap lv xs) (q:Q (.tup lv) H') (hl:lv.length=l.length) (hc:Carries (sK c) kvs (names l xs))
theorem sW{pos:Pos}{ks:List (Option Expr)}{vs:List Expr}{l:List Nat}{p:PE}(d:DL sc ks vs l p):
  ∀c A env n ρ H s Q,At c sc A env n ρ H s->bA c n p ρ H Q->wpAny c.M A (evalPairs (pairsOf env pos ks vs)) (M1 c.toCx H s Q l) bZ s:=by
 induction d with
 |nil=>exact fun c A env n ρ H s Q P h=>evalPairs_nil ⟨[],[],H,P.I,ay.refl _ _ _,rfl,h,rfl,trivial⟩
 | @cons x kd p k ks v vs l p1 p2 t8 _ XN _ ih=>
  intro c A env n ρ H s Q P h
  replace h:bA c n p1 ρ H (qn c n p2 ρ Q):=h
  obtain⟨h1,h2⟩:=ez t8;refine evalPairs_cons (wpAny_Constant_str (lk ?_));refine XN.then (P.step (P.I.tok (s.toks+1)) (ay.tok _ _ _)) h fun w ah y aa ai aq ry aG=>lk (wpAny_standAt (Up ?_));refine zAw (ih c A env n ρ aa ah _ ai aG) (fun kvs bb z=>?_) fun _ _ e=>e;obtain⟨lv,xs,ak,aY,aI,jB,Bn,hlen,hc⟩:=z;refine⟨y::lv,w::xs,ak,aY,((ay.tok _ _ _).trans aq).trans aI,⟨w,xs,rfl,ai.I.vr aI ry,jB⟩,Bn,zEy Nat.succ hlen,?_⟩;refine⟨?_,rfl,hc⟩;simp[PySem.strKind,Value.isStrOf,h2]
theorem SE.dict{ks:List (Option Expr)}{vs:List Expr}{l:List Nat}{p:PE}{pos}(hd:DL sc ks vs l p)(h0:0<ks.length)(Ph:ks.length<15):
  SE sc (.Dict ks vs pos) (.dict l p):=by
 refine .plain (fun c A env n ρ H s Q P h=>?_) (fun _ _=>rfl) (fun _ _ _ _ _=>rfl);dsimp only[bX]at h;obtain⟨XO,iI⟩:=sU (env:=env) (pos:=pos) hd;have k0:∀b o,s.heap.get? b=some o->(s.heap.push {cls:=.type "dict",data:=.dict #[]}).get? b=some o:=az _;have P':At c sc A env n ρ H {s with heap:=s.heap.push {cls:=.type "dict",data:=.dict #[]}}:=P.step (P.I.grow (t:=s.toks) k0) (ay.grow _ (t:=s.toks) k0)
 refine wpAny_Dict_pairs (knd:=sK c.toCx) XO (by intro z;rw[z]at iI;simp at iI;exact(aB 0x50140c00000fe00580a16) h0 Ph iI) ((aD 0x1fc090020c00000fe00580a16) h0 Ph iI) (zAw (sW hd c A env n ρ H _ _ P' h) (fun kvs ah z=>?_) fun _ _ e=>e)
 obtain⟨lv,xs,aa,bC,aq,eQ,IP,hlen,hc⟩:=z;have Kr:=Heap.DictOf.new (knd:=sK c.toCx) s.heap;obtain⟨es,n0,eD⟩:=aR Kr;have oa:¬aQ H s.heap.objs.size:=P.I.gK (zAq _);obtain⟨RZ,klt⟩:=keys_nodup hd;obtain⟨_,IP⟩:=cond_of IP;have M2:(names l xs).map (·.1)=l.map strOf:=m9 ((aP 71468391604230) hlen (aE eQ))
 have XQ:((names l xs).map (·.1)).Nodup:=by rw[M2];rw[Nodup];rw[pairwise_map];exact RZ.imp_of_mem fun ha hb ne e=>ne (dP (klt _ ha) (klt _ hb) e)
 refine⟨names l xs,hc,(fb Kr (fun o z=>aq.gG z oa)),fun h' oq dk=>?_⟩;rw[qG _ [] (by simpa using XQ),List.nil_append]at oq
 have jj:=aq.not eD oa;have kZ:c.base.get? s.heap.objs.size=Option.none:=P.I.cF (zAq _);have uS:¬c.bad s.heap.objs.size:=P.I.fR (zAq _);generalize Ip:s.heap.objs.size=D at*;have bM:eC c.toCx (fun b=>b=D) ah:=d9 fun xs n z=>by rw[(aq.gG eD oa)]at z;simp at z
 have kk:∀b o,¬(b=D)->ah.heap.get? b=some o->h'.get? b=some o:=fun b o hb z=>(dk.2 b hb).trans z;have aY:=bC.move (t:=ah.toks+kvs.length) kk (fun b hb=>by rw[hb];exact⟨jj,kZ⟩) bM (fun b hb z=>absurd (hb▸z) uS)
 have dead:s.heap.get? D=Option.none:=bg (by rw[Ip];exact zAq _)
 have aI:=((ay.grow (X:=fun _=>False) H (t:=s.toks) k0).trans aq).fresh (t:=ah.toks+kvs.length) kk (fun b hb=>by rw[hb];exact dead)
 have ob:dI c.toCx h' D (.aZ (l.zip lv)):=⟨_,oq,sV ((aD 4202502) hlen) (bj.mono (fun b xs n nb z=>kk b _ (fun w=>bM b xs n w nb z) z:∀b xs n,¬c.bad b->ah.heap.get? b=some ⟨.type "tuple",Option.none,.seq xs n,#[]⟩->h'.get? b=some ⟨.type "tuple",Option.none,.seq xs n,#[]⟩) _ eQ),fun p hp=>klt _ (List.of_mem_zip hp).1⟩
 have ow:∀b,aQ (aa.set D (.aZ (l.zip lv))) b->aQ aa b\/b=D:=by
  rintro b (x |⟨C,fs,x⟩)
  .by_cases q:b=D
   .exact .inr q
   .rw[Z.af _ _ q]at x;exact .inl (.inl x)
  .by_cases q:b+1=D
   .rw[q,Z.ab]at x;cases x
   .rw[Z.af _ _ q]at x;exact .inl (.inr ⟨C,fs,x⟩)
 have Br:aa D=Option.none:=by
  cases z:aa D with
  |none=>rfl
  |some _=>exact absurd (.inl (by rw[z];simp)) jj
 refine⟨.ref D,aa.set D (.aZ (l.zip lv)),⟨aY.gens,aY.drawn,aY.os,aY.base,fun b bo z=>?_,fun b ho=>?_,fun b C fs z=>?_,aY.bad⟩,⟨aI.keep,fun b ho=>?_,aI.live⟩,dA,IP D Br⟩
 .by_cases q:b=D
  .clear Br ow dead kk bM uS kZ jj dk oq oa eD Kr Ip;subst q;rw[Z.ab]at z;obtain rfl:=so z;exact ob
  .rw[Z.af _ _ q]at z;exact aY.obj b bo z
 .clear Br ob dead kk bM uS jj dk oq oa eD Kr Ip;rcases ow b ho with x |rfl
  .exact aY.off b x
  .exact kZ
 .by_cases q:b=D
  .clear Br ow ob dead kk bM uS kZ jj dk oq oa eD Kr Ip;subst q;rw[Z.ab]at z;cases z
  .rw[Z.af _ _ q]at z
   have:b-1≠D:=fun w=>jj (.inr ⟨C,fs,by have:=(aY.obj b _ z).1;rw[←w];rw[sub_add_cancel this];exact z⟩)
   rw[Z.af _ _ this];exact aY.apart b C fs z
 .clear Br ob kk bM uS kZ jj dk oq oa eD Kr Ip;rcases ow b ho with x |rfl
  .exact aI.sub b x
  .exact .inr dead
end
section
open Builtin
theorem qH:typeLookup (.type "list") "keys"=pure none:=by rw[zHe];rw[zEp];kernel_rfl
section
variable {prog:Program} {w:World} {A:Around} {E:Value->Shared->Prop} {s:Shared}
theorem Er{a:Addr}{xs:Array Value}{k:Nat}{Q:Option Value->Shared->Prop}(hx:s.heap.get? a=some ⟨.type "list",none,.seq xs k,#[]⟩)(hA:A.handled=none)
  (h:∀h' tk,(∀b o,s.heap.get? b=some o->h'.get? b=some o)->Q none {s with heap:=h',toks:=tk}):wpAny (model prog w) A (getAttr? (.ref a) "keys") Q E s:=by
 obtain⟨hp,g,d,tk,os⟩:=s;have hT:∀uw,(⟨hp,g,d,uw,os⟩:Shared).TypeIs (.ref a) "list":=fun _=>⟨_,hx,rfl⟩;have f1:=sub_AttributeError;have f3:=PySem.F.slot_list_getattribute.lookup;have f4:=PySem.F.slot_list_getattribute.bind (.ref a);have f5:=am_list_getattr_none;delta getAttr? getAttrBy? getAttrBy
 repeat (any_goals (first |assumption |exact hT _ |((with_reducible show wpAny _ _ (call (Value.builtin "list.__getattribute__") _ _) _ _ _);refine call_meets PySem.F.slot_list_getattribute (hT _) am_entry_list_getattribute (PySem.F.args_list_getattribute_2 _ _) (meets_getattribute_miss_list a xs k #[] "keys" _ qH (by decide+kernel) (by rw[sizeLine_eq];decide+kernel)) ⟨hx,hA,fun h' uw e Ep=>?_⟩) |wp_step))
 obtain⟨t',u',he⟩:=Ep.there;refine(?_:wpAny _ _ (getattributeRaised _ _ _ _ _ _ _) _ _ _);delta getattributeRaised
 repeat (any_goals (first |assumption |wp_step))
 exact h h' uw fun b o z=>Ep.keeps b o z
theorem eH{K:Type}[DecidableEq K]{knd:KeyKind prog w K}{h h':Heap}{a:Addr}{kvs:List (K×Value)}(x:h.DictOf knd a kvs)(k:∀o,h.get? a=some o->h'.get? a=some o):h'.DictOf knd a kvs:=by obtain⟨o,es,ep,ho,r⟩:=x;exact⟨o,es,ep,k o ho,r⟩
theorem pE:entryFor table "dict.update.loop"=some Builtin.«dict.update.loop» :=entryFor_of_tree (by kernel_rfl)
theorem iu:plainId "dict.update.loop"=true:=by decide+kernel
theorem Bs{D I L:Addr}{K:Type}[DecidableEq K]{knd:KeyKind prog w K}{kvs:List (K×Value)}{acc:Array Value}{as:List Addr}{n:Nat}{R:Result->Shared->Prop}(hA:A.handled=none)(R5:D≠I)(XR:D≠L)(XS:L≠I)(eX:acc.toList=as.map Value.ref)(hlen:as.length=kvs.length)(eM:kvs.length<=sizeLine)(lx:(kvs.map (·.1)).Nodup)
  (M3:∀a∈as,a≠D/\a≠I):
  ∀(k i:Nat) (s:Shared),k+i=kvs.length->s.heap.IsListIter I L i->s.heap.get? L=some ⟨.type "list",none,.seq acc n,#[]⟩->
   (∀(j:Nat) (a:Addr),as[j]?=some a->∃key k x,kvs[j]?=some (k,x)/\knd.is k key=true/\s.heap.get? a=some {cls:=.type "tuple",data:=.seq #[key,x]})->s.heap.DictOf knd D (kvs.take i)->
   (∀h' tk,(∀b o,b≠D->b≠I->s.heap.get? b=some o->h'.get? b=some o)->h'.DictOf knd D kvs->R (.ok (.ret .none)) {s with heap:=h',toks:=tk})->
   codeAny (model prog w) A (.builtin "dict.update.loop" ⟨[.ref D,.ref I,rawInt i,.none],[]⟩) R s:=by
 intro k
 induction k with
 |zero=>
  intro i s hk hI hL hp hD hR;have hi:i=kvs.length:=(aD 137447429126) hk;subst hi;refine zFt pE ?_;rw[zDy iu _];refine(?_:wpAny _ A.in1 (pyNext (.ref I)>>=_) _ _ s)
  have DI:acc[kvs.length]?=none:=by
   have:acc.size=as.length:=by rw[←zBi];rw[eX];rw[zCe]
   exact zHr ((aP 37520970096646) hlen this)
  refine lk (wpAny_pyNext_list_end hA hI ⟨_,hL,rfl,n,rfl⟩ DI fun h' he=>?_);refine lk (m:=Builtin.Dict.addKeywords D []) (Up (Up (hR h' s.toks (fun b o _ hb e=>he b o hb e) ?_)));rw[List.take_length]at hD;exact eH hD fun o z=>he D o R5 z
 |succ k ih=>
  intro i s hk hI hL hp hD hR;have cE:i<as.length:=(dq 0x3108d62a50182006) hlen hk;have Vn:as[i]?=some as[i]:=zAe cE;obtain⟨key,kk,x,MK,pZ,ht⟩:=hp i _ Vn;obtain⟨XT,R6⟩:=M3 as[i] (zEq cE);have hx:acc[i]?=some (.ref as[i]):=by rw[←zDi];rw[eX];rw[zHw];rw[Vn];rfl
  refine zFt pE ?_;rw[zDy iu _];refine(?_:wpAny _ A.in1 (pyNext (.ref I)>>=_) _ _ s);refine lk (wpAny_pyNext_list_item hI ⟨_,hL,rfl,n,rfl⟩ hx fun aG M4 sX=>?_);have Gx:aG.get? as[i]=some {cls:=.type "tuple",data:=.seq #[key,x]}:=(sX.2 _ R6).trans ht;refine lk (zCt ?_);refine lk (wpAny_tryCatch ?_)
  have pi:wpAny (model prog w) A.in1 (Builtin.Dict.pairItems (.ref as[i])) (fun l s'=>l=[key,x]/\s'={s with heap:=aG}) bZ {s with heap:=aG}:=by
   delta Builtin.Dict.pairItems;refine lk (wpAny_typeOf (s:={s with heap:=aG}) ⟨_,Gx,rfl⟩ ?_)
   rw[zBq (by decide)]
   refine lk (wpAny_seqItems (s:={s with heap:=aG}) Gx rfl ?_)
   exact Up ⟨rfl,rfl⟩
  refine zAw pi (fun l s' z=>?_) fun _ _ z=>z.elim;obtain⟨rfl,rfl⟩:=z;refine zCt ?_
  have cZ:stored (kvs.take i) kk x=kvs.take (i+1):=by
   have:kvs.take (i+1)=kvs.take i++[(kk,x)]:=by rw[List.take_add_one];rw[MK];rfl
   rw[this];delta stored;rw[zAi];rw[any_eq_true];rintro⟨p,XU,he⟩
   have h2:((kvs.take (i+1)).map (·.1)).Nodup:=by rw[List.map_take];exact List.Nodup.sublist (List.take_sublist _ _) lx
   rw[this,map_append,zCi]at h2;exact h2.2.2 p.1 (List.mem_map_of_mem XU) kk (by simp) (zFq he)
  refine wpAny_dictSet_pairs (knd:=knd) (s:={s with heap:=aG}) pZ (eH hD fun o z=>(sX.2 D R5).trans z:aG.DictOf knd D (kvs.take i)) (fun aL Gy o9=>?_) (by rw[List.length_take];exact(dq 0x2000001c08ec4018b046b15280d000000e04982006) hlen eM hk cE)
  rw[cZ]at Gy;refine Up ⟨plainId_quiet iu _,ih (i+1) _ ((aP 0x12c340500415829406) hk) ?_ ((o9.2 L (zFp XR)).trans ((sX.2 L XS).trans hL)) (fun j a hj=>?_) Gy fun h' tk XW jP=>?_⟩
  .obtain⟨o,e,r⟩:=M4;exact⟨o,(o9.2 I (zFp R5)).trans e,r⟩
  .obtain⟨R7,k',x',a1,a2,a3⟩:=hp j a hj;obtain⟨z1,z2⟩:=M3 a (zFr hj);exact⟨R7,k',x',a1,a2,(o9.2 a z1).trans ((sX.2 a z2).trans a3)⟩
  .exact hR h' tk (fun b o h1 h2 e=>XW b o h1 h2 ((o9.2 b h1).trans ((sX.2 b h2).trans e))) jP
end
end
section
open Builtin
section
variable {c:Cy} {A:Around} {H:Z} {s:Shared} {Q:V->Z->Prop}
theorem qI{N L:Addr}{kvs:List (Int×Value)}{acc:Array Value}{iJ:Nat}{as:List Addr}(hA:A.handled=none)(eX:acc.toList=as.map Value.ref)(hlen:as.length=kvs.length)(eM:kvs.length<=sizeLine)(lx:(kvs.map (·.1)).Nodup)
  (hL:s.heap.get? L=some ⟨.type "list",none,.seq acc iJ,#[]⟩)
  (hp:∀(j:Nat) (a:Addr),as[j]?=some a->∃key k x,kvs[j]?=some (k,x)/\(iK c.toCx).is k key=true/\s.heap.get? a=some {cls:=.type "tuple",data:=.seq #[key,x]})
  {Q':Value->Shared->Prop} (q:∀h' tk D,(∀b o,s.heap.get? b=some o->h'.get? b=some o)->s.heap.objs.size<=D->h'.DictOf (iK c.toCx) D kvs->Q' (.ref D) {s with heap:=h',toks:=tk}):
  wpAny c.M A (call (.type "dict") [.ref L]) Q' bZ s:=by
 refine callType_codes (Q₁:=fun obj ah=>obj= .ref s.heap.objs.size/\ah={s with heap:=s.heap.push {cls:=.type "dict",data:=.dict #[]}}) PySem.F.kt_called_dict (PySem.F.kt_typeCall_dict_1 _) PySem.F.entry_dict_init (kt_code_dict_new _ ⟨rfl,rfl⟩) ?_
 rintro obj ah ⟨rfl,rfl⟩;have yp:(s.heap.push {cls:=.type "dict",data:=.dict #[]}).DictOf (iK c.toCx) s.heap.objs.size []:=Heap.DictOf.new s.heap;refine⟨yp.typeIs,PySem.F.args_dict_init_2 _ _,?_⟩;generalize hD:s.heap.objs.size=D at yp⊢;generalize hh:s.heap.push {cls:=.type "dict",data:=.dict #[]}=aG at yp⊢;have k1:∀b o,s.heap.get? b=some o->aG.get? b=some o:=hh▸az _;unfold Builtin.«dict.__init__»
 refine lk ?_;unfold Builtin.Dict.selfAndRest;refine lk (wpAny_notOrdered_dict (s:={s with heap:=aG}) yp.typeIs ?_)
 refine(?_:wpAny _ _ (pure (D,[Value.ref L])) _ _ _);refine Up ?_;refine(?_:wpAny _ _ (Builtin.Dict.updateFrom "dict.__init__" D (.ref L) [] .none) _ _ _);unfold Builtin.Dict.updateFrom;refine lk (wpAny_typeOf (s:={s with heap:=aG}) ⟨_,k1 _ _ hL,rfl⟩ ?_)
 rw[zBq (by decide)]
 refine lk (Er (s:={s with heap:=aG}) (k1 _ _ hL) hA fun aL tk k2=>?_)
 simp -iota only[Option.isNone_none,if_true];refine lk (wpAny_rule ?_);refine lk (wpAny_pyIter_list (s:={s with heap:=aL,toks:=tk}) ⟨_,k2 _ _ (k1 _ _ hL),rfl,iJ,rfl⟩ ?_)
 generalize hI:aL.objs.size=I
 have qJ:D<I:=by obtain⟨es,n,e⟩:=aR (c:=c.toCx) yp;rw[←hI];exact zAo (k2 _ _ e)
 have M5:L<D:=by rw[←hD];exact zAo hL
 have k3:∀b o,aL.get? b=some o->(aL.push {cls:=.type "list_iterator",data:=.fields #[.ref L,.int 0 0]}).get? b=some o:=az _;have IQ:∀b o,s.heap.get? b=some o->(aL.push {cls:=.type "list_iterator",data:=.fields #[.ref L,.int 0 0]}).get? b=some o:=fun b o e=>k3 _ _ (k2 _ _ (k1 _ _ e))
 have alt:∀a∈as,a<D:=fun a ha=>by obtain⟨j,hj⟩:=List.mem_iff_getElem?.mp ha;obtain⟨_,_,_,_,_,e⟩:=hp j a hj;rw[←hD];exact zAo e
 refine Up ⟨plainId_quiet iu _,Bs (A:=A.in1) (D:=D) (I:=I) (L:=L) (kvs:=kvs) (acc:=acc) (as:=as) (n:=iJ) hA (zBw qJ) (ne_of_gt M5) (zBw (Nat.lt_trans M5 qJ)) eX hlen eM lx (fun a ha=>⟨zBw (alt a ha),zBw (Nat.lt_trans (alt a ha) qJ)⟩) kvs.length 0 _ rfl
  ⟨_,by rw[←hI];exact zAr _ rfl,rfl,rfl⟩ (IQ _ _ hL) (fun j a hj=>?_) (eH yp fun o z=>k3 _ _ (k2 _ _ z)) fun h' uw kk jP=>?_⟩
 .obtain⟨key,k,x,a1,a2,a3⟩:=hp j a hj;exact⟨key,k,x,a1,a2,IQ _ _ a3⟩
 .refine⟨rfl,q h' uw D (fun b o e=>kk b o ?_ ?_ (IQ b o e)) (by rw[hD];exact zAq _) jP⟩
  .have:=zAo e;rw[hD]at this;exact zBw this
  .have:=zAo e;rw[hD]at this;exact zBw (Nat.lt_trans this qJ)
theorem vf{K:Frag}{mg mb:Str->Option Value}(ok:Ok c K mg mb){d:Addr}{m:List (Int×V)}{pos:Pos}(hA:A.handled=none)(I:Inv c.toCx H s)(hH:H d=some (.ax m))(hm:m.length<=lim)(q:∀r,H r=none->Q (.ref r) (H.set r (.ax m))):
  wpAny c.M A (callWith pos (.builtin "dict.items") [.ref d] [] []) (fun v bb=>wpAny c.M A (call (.type "list") [v]) (fun l gw=>wpAny c.M A (call (.type "dict") [l]) (Back c.toCx H s Q) bZ gw) bZ bb) bZ s:=by
 obtain⟨kvs,hd,pr⟩:=I.obj d _ hH;have e1:=pr.length;have ag:=dS;have lx:(kvs.map (·.1)).Nodup:=eA hd;refine method_meetsIn PySem.F.slot_dict_items PySem.F.entry_dict_items rfl (PyProof.Rows.evalArgs_none ⟨rfl,hd.typeIs,PySem.F.args_dict_items_1 _,_,meets_dict_items (iK c.toCx) d (I.sm ok (.inl (by rw[hH];simp))),⟨kvs,hd⟩,?_⟩)
 have k0:∀b o,s.heap.get? b=some o->(s.heap.push {cls:=.type "dict_items",data:=.fields #[.ref d]}).get? b=some o:=az _;obtain⟨ep,XX⟩:=(eH hd (k0 d)).dictAt;refine kdx_call (knd:=iK c.toCx) (s:={s with heap:=s.heap.push {cls:=.type "dict_items",data:=.fields #[.ref d]}}) hA ⟨_,zAr _ rfl,rfl,rfl⟩ XX ((aD 0x8000007025000000e03d090384c008303d09038026) hm e1 ag) fun h' tk acc iJ as hk hS hl hG eX=>?_
 refine qI (N:=0) (s:={s with heap:=h',toks:=tk}) hA eX hl ((aP 0x2000001c090440d000000e03d090384c008303d09038026) hm e1 ag hl) lx hS hG.pairs fun zj uw D p4 hle hD=>?_
 have kk:∀b o,s.heap.get? b=some o->zj.get? b=some o:=fun b o e=>p4 _ _ (hk _ _ (k0 _ _ e))
 have zf:s.heap.objs.size<=D:=by
  have:s.heap.objs.size<h'.objs.size:=by have:(s.heap.push {cls:=.type "dict_items",data:=.fields #[.ref d]}).objs.size<h'.objs.size:=zAo hS;rw[zGw]at this;exact zHq this
  exact Nat.le_of_lt (zDu this hle)
 obtain⟨aY,aI⟩:=I.take (t:=uw) (a:=D) (ao:=.ax m) kk zf ⟨kvs,hD,pr.mono fun b xs n _ e=>kk _ _ e⟩ (by simp)
 exact⟨.ref D,_,aY,aI,dA,q _ (I.fresh zf)⟩
end
section
variable {sc:Sc}
theorem SE.kQ{y:Expr}{q:PE}{fp gp ap ip lp pos}(hb:bO y=true)(hl:(ap.endLine==ip.line)=true)(hg:sc.eW (Str.ofString "dict")=true)(AZ:sc.eW (Str.ofString "list")=true)(b:SE sc y q):
  SE sc (.Call (.Name (Str.ofString "dict") fp) [.Call (.Name (Str.ofString "list") gp) [.Call (.Attribute y (Str.ofString "items") ap) [] [] ip] [] lp] [] pos) (.b1 .kQ q):=by
 refine .plain (fun c A env n ρ H s Q P h=>?_) (fun _ _=>rfl) (fun _ _ _ _ _=>rfl);dsimp only[bX]at h;have ok:=P.ok.h;refine Call_Name rfl (aX ok P hg (by decide) (v:=.type "dict") (by decide+kernel) (gM rfl (Call_Name rfl (aX ok P AZ (by decide) (v:=.type "list") (by decide+kernel) (gM rfl ?_)))))
 refine pg (T:="dict") hb hl (by refine(?_:0<20);decide) rfl PySem.F.plainAttrs_dict PySem.F.slot_dict_items PySem.F.type_dict_items (b.then P h fun v ah xv aa ai aq rx aG=>?_)
 obtain⟨d,rfl,aG⟩:=dy (P:=fun x=>wI .kQ Q x aa) id (fun _=>id) (fun _=>id) (fun _=>id) id (fun _=>id) aG;cases (show v= .ref d from rx)
 obtain⟨m,hH,aG⟩:=fw (P:=OH Q aa) id (fun _=>id) (fun _=>id) (fun _=>id) (fun _ _=>id) aG;obtain⟨ob,e1,e2,e3⟩:=sG ai.I (p:=d) (by rw[hH];trivial)
 exact⟨d,ob,rfl,e1,e2,e3,zAw (vf ok P.R.1 ai.I hH aG.1 aG.2) (fun _ _ z=>zAw z (fun _ _ z=>zAw z (fun _ _ k=>Back.after aq k) fun _ _ e=>e) fun _ _ e=>e) fun _ _ e=>e⟩
end
end
end
def pw(n:Nat)(r:Nat->Int){α:Type}:KasT α->(α->Prop)->Prop
 | .ret a,Q=>Q a
 | .ask i j k,Q=>i<n/\j<n/\pw n r (k (decide (r i<r j))) Q
theorem iw{n:Nat}{r:Nat->Int}{α β:Type}{f:α->KasT β}{Q:β->Prop}:∀(t:KasT α),pw n r t (fun a=>pw n r (f a) Q)->pw n r (t.bind f) Q
 | .ret _,h=>h
 | .ask i j k,⟨h1,h2,h3⟩=>⟨h1,h2,iw _ h3⟩
noncomputable def KN(r:Nat->Int)(p:Array Nat)(i:Nat):Int:=r (p.getD i 0)
set_option tactic.hygienic true in
theorem nc(p:Array Nat)(i:Nat):p.getD i 0=(p[i]?).getD 0:=by
 delta Array.getD;split
 .rename_i h;simp[h]
 .rename_i h;simp[h]
theorem gS{r:Nat->Int}{p q:Array Nat}{i j:Nat}(h:p[i]?=q[j]?):KN r p i=KN r q j:=by delta KN;rw[nc];rw[nc];rw[h]
def PB(n:Nat)(p:Array Nat):Prop:=p.Perm (List.range n).toArray
theorem PB.size{n:Nat}{p:Array Nat}(h:PB n p):p.size=n:=by have:=Array.Perm.size_eq h;simpa using this
theorem PB.lt{n:Nat}{p:Array Nat}(h:PB n p)(hn:0<n)(i:Nat):p.getD i 0<n:=by
 rw[nc];cases e:p[i]? with
 |none=>exact hn
 |some v=>
  have hm:v∈p.toList:=by have:=Array.mem_of_getElem? e;exact Array.mem_toList_iff.mpr this
  have:=(Array.perm_iff_toList_perm.mp h).mem_iff.mp hm;simpa using this
def yq(r:Nat->Int)(p:Array Nat)(k:Nat):Prop:=∀i j,i<=j->j<k->KN r p i<=KN r p j
def vg(r:Nat->Int)(p:Array Nat)(k:Nat):Prop:=∀i j,i<=j->j<k->KN r p j<=KN r p i
theorem kC{r:Nat->Int}{xs:Array Nat}{i j:Nat}(hj:j<=xs.size)(k:Nat):
  KN r (mirror xs i j ((j-i)/2)) k=if i<=k/\k<j then KN r xs (i+j-1-k) else KN r xs k:=by
 have e:=getElem?_mirror_all (i:=i) hj k;by_cases h1:i<=k/\k<j
 .rw[zBq h1]at e⊢;exact gS e
 .rw[zAi h1]at e⊢;exact gS e
theorem b8{r:Nat->Int}{xs:Array Nat}{i j:Nat}(hj:j<=xs.size)(heq:∀k,i<=k->k<j->KN r xs k=KN r xs (j-1))(k:Nat):
  KN r (mirror xs i j ((j-i)/2)) k=KN r xs k:=by
 rw[kC hj];split
 .rw[heq _ (by exact(aP 0xac40a56a02104420276) ‹_›) (by exact(aP 0x10562052b51104420276) ‹_›)];rw[heq k (by exact(aP 35326177444470) ‹_›) (by exact(aP 71541341684342) ‹_›)]
 .rfl
theorem pF{r:Nat->Int}{xs:Array Nat}{src d:Nat}(hs:src<xs.size)(hd:d<=src)(k:Nat):
  KN r (bubble xs src d) k=if k=src-d then KN r xs src else if src-d<k/\k<=src then KN r xs (k-1) else KN r xs k:=by
 have e:=getElem?_bubble hs d hd k;by_cases h1:k=src-d
 .rw[zBq h1]at e⊢;exact gS e
 .rw[zAi h1]at e⊢;by_cases h2:src-d<k/\k<=src
  .rw[zBq h2]at e⊢;exact gS e
  .rw[zAi h2]at e⊢;exact gS e
theorem yq.grow{r:Nat->Int}{p:Array Nat}{x:Nat}(hs:yq r p x)(h:¬KN r p x<KN r p (x-1)):yq r p (x+1):=by
 intro i j eG hj;by_cases IS:j<x
 .exact hs i j eG IS
 .have oT:j=x:=by exact(aD 0x800201965868016) hj IS
  clear IS hj;subst oT;by_cases jb:i=j
  .subst jb;exact Int.le_refl _
  .exact Int.le_trans (hs i (j-1) ((aD 0x586a020802582026) eG jb) ((aD 0xac3510802582026) eG jb)) (Int.not_lt.mp h)
section
variable {n:Nat} {r:Nat->Int}
theorem vh{p:Array Nat}(hp:PB n p)(hn:0<n):∀(f a:Nat) (Q:Nat->Prop),1<=a->yq r p a->(∀m,a<=m->m<=a+f->yq r p m->(m=a+f\/KN r p m<KN r p (m-1))->Q m)->pw n r (kas_asc p f a) Q
 |0,a,Q,_,hs,h=>h a (zAq _) (zAq _) hs (.inl rfl)
 |f+1,a,Q,ha,hs,h=>by
  refine⟨hp.lt hn _,hp.lt hn _,?_⟩;by_cases hl:KN r p a<KN r p (a-1)
  .have:decide (r (p.getD a 0)<r (p.getD (a-1) 0))=true:=zGu hl;rw[this];exact h a (zAq _) (aD 5932853250) hs (.inr hl)
  .have:decide (r (p.getD a 0)<r (p.getD (a-1) 0))=false:=zGr hl;rw[this];exact vh hp hn f (a+1) Q ((aB 1514559507238) ha) (hs.grow hl) fun m h1 h2 h3 h4=>h m ((aD 137987101734) h1) ((aP 0x58a81a0084b0d28026) h2) h3 (h4.elim (fun h4=>.inl ((aP 0x58a81a0004b0d28006) h4)) .inr)
theorem vg.grow{p:Array Nat}{x:Nat}(hs:vg r p x)(h:KN r p x<=KN r p (x-1)):vg r p (x+1):=by
 intro i j eG hj;by_cases IS:j<x
 .exact hs i j eG IS
 .have oT:j=x:=by exact(aD 0x800201965868016) hj IS
  clear IS hj;subst oT;by_cases jb:i=j
  .subst jb;exact Int.le_refl _
  .exact Int.le_trans h (hs i (j-1) ((aD 0x586a020802582026) eG jb) ((aD 0xac3510802582026) eG jb))
theorem lK(hn:0<n):∀(f:Nat) (p:Array Nat) (x q:Nat) (Q:Array Nat×Nat×Nat->Prop),PB n p->1<=x->x+f<=n->vg r p x->q+1<=x->(∀i,x-(q+1)<=i->i<x->KN r p i=KN r p (x-1))->
  (∀p' m q',PB n p'->x<=m->m<=x+f->vg r p' m->q'+1<=m->(∀i,m-(q'+1)<=i->i<m->KN r p' i=KN r p' (m-1))->Q (p',m,q'))->pw n r (kas_desc f p x q) Q
 |0,p,x,q,Q,hp,hx,hf,hs,hq,he,h=>h p x q hp (zAq _) (zAq _) hs hq he
 |f+1,p,x,q,Q,hp,hx,hf,hs,hq,he,h=>by
  refine⟨hp.lt hn _,hp.lt hn _,?_⟩;have eM:x<=p.size:=by rw[hp.size];exact(aP 282044878820390) hf
  by_cases hl:KN r p x<KN r p (x-1)
  .have e:decide (r (p.getD x 0)<r (p.getD (x-1) 0))=true:=zGu hl;rw[e];simp only[if_true];by_cases R8:q>0
   .rw[zBq R8];refine lK hn f _ (x+1) 0 Q ((mirror_perm _ _ _ _).trans hp) ((aB 1514559507238) hx) ((aP 0x10560a5084b0d01426) hf) ?_ ((aB 0x5828b55080b26) hx) (fun i h1 h2=>by congr 1;exact(aD 0x5ac14a84160a04582b55160a54980b26) hx h1 h2) fun p' m q' a1 a2 a3=>h p' m q' a1 ((aD 137987101734) a2) ((aP 0x58a81a0084b0d28026) a3)
    have:=hs.grow (Int.le_of_lt hl);intro i j eG hj;refine(?_:KN r (mirror _ _ _ _) _<=KN r (mirror _ _ _ _) _);rw[b8 eM he];rw[b8 eM he];exact this i j eG hj
   .rw[zAi R8];exact lK hn f _ (x+1) 0 Q hp ((aB 1514559507238) hx) ((aP 0x10560a5084b0d01426) hf) (hs.grow (Int.le_of_lt hl)) ((aB 0x5828b55080b26) hx) (fun i h1 h2=>by congr 1;exact(aP 0x16b052a20582821612d5458295260a86580b0d0980b26) hx hq R8 h1 h2) fun p' m q' a1 a2 a3=>h p' m q' a1 ((aD 137987101734) a2) ((aP 0x58a81a0084b0d28026) a3)
  .have e:decide (r (p.getD x 0)<r (p.getD (x-1) 0))=false:=zGr hl;rw[e];simp only[false_eq_true,if_false];refine⟨hp.lt hn _,hp.lt hn _,?_⟩;by_cases iy:KN r p (x-1)<KN r p x
   .have e:decide (r (p.getD (x-1) 0)<r (p.getD x 0))=true:=zGu iy;rw[e];exact h p x q hp (zAq _) (aD 5932853250) hs hq he
   .have e:decide (r (p.getD (x-1) 0)<r (p.getD x 0))=false:=zGr iy;rw[e];have M6:KN r p x=KN r p (x-1):=(uq 9059997916988566) hl iy;refine lK hn f _ (x+1) (q+1) Q hp ((aB 1514559507238) hx) ((aP 0x10560a5084b0d01426) hf) (hs.grow ((uq 9095182289077398) hl iy)) ((aD 0x5868b5829420ac1426) hq) (fun i h1 h2=>?_) fun p' m q' a1 a2 a3=>h p' m q' a1 ((aD 137987101734) a2) ((aP 0x58a81a0084b0d28026) a3);rw[show x+1-1=x by exact(aB 49893112548134) hx]
    by_cases R9:i=x
    .clear h2 h1 M6 e iy hl eM h he hq hs hf hx;subst R9;rfl
    .rw[M6];exact he i ((aP 0x4b05035208825961a08584b5829458695260ac1426) hq h1 h2 R9) ((aD 0x804200965868016) h2 R9)
theorem sY(hn:0<n){p:Array Nat}{m:Nat}{Q:Nat×Array Nat->Prop}(hp:PB n p)(h1:1<=m)(hm:m<=n)(hs:vg r p m)(h:∀k p',PB n p'->1<=k->k<=n->yq r p' k->Q (k,p')):pw n r (kas_tail3 m n p) Q:=by
 have t9:PB n (kas_rev p 0 m):=(mirror_perm _ _ _ _).trans hp;have eM:m<=p.size:=by rw[hp.size];exact(aD 134750246) hm
 delta kas_tail3;refine iw _ (vh t9 hn _ _ _ h1 ?_ fun k a1 a2 a3 _=>h k _ t9 (by exact(aD 47418596395814) h1 a1) (by exact(Ur 0x222081001a8282086006a0a08982026) hm a2 ‹_›) a3)
 intro i j eG hj;refine(?_:KN r (mirror p 0 m ((m-0)/2)) i<=KN r (mirror p 0 m ((m-0)/2)) j);rw[kC eM];rw[kC eM];rw[zBq (by exact(aP 0x10040a27104582026) eG hj)];rw[zBq (by exact(aD 35253772886038) hj)]
 exact hs _ _ (by exact(aP 0xb12a95a8562552b52104582026) eG hj) (by exact(aP 0x10162552b51104582026) eG hj)
theorem k6(hn:0<n){p:Array Nat}{m:Nat}{Q:Nat×Array Nat->Prop}(hp:PB n p)(hm:m+1<=n)(hs:vg r p (m+1))(h:∀k p',PB n p'->1<=k->k<=n->yq r p' k->Q (k,p')):pw n r (kas_descPart m n p) Q:=by
 delta kas_descPart;refine iw _ (lK hn _ p (m+1) 0 _ hp (aB 5777586) ((aD 0x2b050355829420ac1426) hm) hs (aB 5916251458) (fun i h1 h2=>by congr 1;exact(aD 0x16b052a1058281160ad545829526) h1 h2) fun p' k q' t9 a1 a2 ua hq he=>?_)
 have eM:k<=p'.size:=by rw[t9.size];exact(aP 0x88960a06ab05282260ac1426) hm a2
 dsimp only;split
 .refine sY hn ((mirror_perm _ _ _ _).trans t9) ((aD 0xac80a160ac1426) hq ‹_›) ((aP 0x88960a06ab05282260ac1426) hm a2) ?_ h;intro i j eG hj;refine(?_:KN r (mirror _ _ _ _) _<=KN r (mirror _ _ _ _) _);rw[b8 eM he];rw[b8 eM he];exact ua i j eG hj
 .exact sY hn t9 ((aD 0xac80a1960ac1426) hq ‹_›) ((aP 0x88960a06ab05282260ac1426) hm a2) ua h
theorem Bt(hn:0<n){p:Array Nat}{Q:Nat×Array Nat->Prop}(hp:PB n p)(h:∀k p',PB n p'->1<=k->k<=n->yq r p' k->Q (k,p')):pw n r (kas_count n p) Q:=by
 delta kas_count;refine iw _ (vh hp hn _ _ _ (zAq 1) (fun i j eG hj=>by have:i=j:=(aD 35208067293222) eG hj;clear hj eG;subst this;exact Int.le_refl _) fun m a1 a2 hs IT=>?_)
 by_cases Es:m=n
 .rw[zBq (by simpa using Es)]
  exact h m p hp ((aB 46664486) a1) ((aD 134750214) Es) hs
 .rw[zAi (by simpa using Es)]
  have cE:KN r p m<KN r p (m-1):=IT.resolve_left ((JZ 0x160aae8109004258204582aba042180a16) hn IT Es);have eM:m<=p.size:=by rw[hp.size];exact(JZ 0x4801096081160aae81086582aba04980a16) hn a2 IT Es
  by_cases uk:m>1
  .rw[zBq uk];refine⟨hp.lt hn _,hp.lt hn _,?_⟩;by_cases hl:KN r p 0<KN r p (m-1)
   .have e:decide (r (p.getD 0 0)<r (p.getD (m-1) 0))=true:=zGu hl;rw[e];exact h m p hp ((aB 46664486) a1) ((JZ 0x4801096081160aae81086582aba04980a16) hn a2 IT Es) hs
   .have e:decide (r (p.getD 0 0)<r (p.getD (m-1) 0))=false:=zGr hl;rw[e]
    have iF:∀k,0<=k->k<m->KN r p k=KN r p (m-1):=by intro k _ hk;have a1:=hs 0 k ((aB 42469926) ‹_›) hk;have a2:=hs k (m-1) ((aD 0x582a12004580b16) uk hk) ((aB 47332985622) uk);exact(WD 0x88c22561015820496) hl a1 a2
    refine k6 hn ((mirror_perm _ _ _ _).trans hp) ((JZ 0xb0d0801096081160aae81086582aba04980a16) hn a2 IT Es) ?_ h;intro i j eG hj;refine(?_:KN r (mirror _ _ _ _) _<=KN r (mirror _ _ _ _) _);rw[b8 eM iF];rw[b8 eM iF];by_cases Pj:j<m
    .rw[iF i (aB 162) ((aP 70441831505958) eG Pj)];rw[iF j (aB 162) Pj];exact Int.le_refl _
    .have oT:j=m:=by exact(aD 0x800201965868016) hj Pj
     clear Pj hj e hl uk eM Es IT hs a2 a1;subst oT;by_cases jb:i=j
     .subst jb;exact Int.le_refl _
     .rw[iF i (aB 162) ((aD 564083864117286) eG jb)];exact Int.le_of_lt cE
  .rw[zAi uk];have Sa:m=1:=(aB 6192461405227814) a1 uk;clear uk eM IT hs a2 a1;subst Sa;refine k6 hn hp ((aB 0x2d74202c2580a16) hn Es) ?_ h;intro i j eG hj;by_cases jb:i=j
   .clear hj eG;subst jb;exact Int.le_refl _
   .have Vo:i=0:=by exact(aD 0x14000802596ba04582026) eG hj jb
    have Sb:j=1:=(aD 0x160050418010965ae8016) hj jb Vo;subst Vo;subst Sb;exact Int.le_of_lt cE
theorem nf(hn:0<n){p:Array Nat}{k:Nat}(hp:PB n p)(hs:yq r p k):∀(f l u:Nat) (Q:Nat->Prop),l<=u->u<=k->u-l<=f->(∀i,i<l->KN r p i<=KN r p k)->(∀i,u<=i->i<k->KN r p k<KN r p i)->
  (∀l,l<=k->(∀i,i<l->KN r p i<=KN r p k)->(∀i,l<=i->i<k->KN r p k<KN r p i)->Q l)->pw n r (kas_place p k f l u) Q
 |0,l,u,Q,h1,h2,h3,Gz,Ks,h=>h l ((aP 70510555176998) h1 h2) Gz fun i a b=>Ks i ((aP 0x41210099400d4982026) h1 h3 a) b
 |f+1,l,u,Q,h1,h2,h3,Gz,Ks,h=>by
  unfold kas_place;by_cases zf:l≥u
  .rw[zBq zf];exact h l ((aP 0x10080126104982026) h1 h2 zf) Gz fun i a b=>Ks i ((aP 0x10484026004982026) h1 zf a) b
  .rw[zAi zf];refine⟨hp.lt hn _,hp.lt hn _,?_⟩;have cE:=Nat.not_le.mp zf;obtain⟨g1,g2⟩:=half cE;generalize (l+u)/2=m at*;by_cases hl:KN r p k<KN r p m
   .rw[show decide (r (p.getD k 0)<r (p.getD m 0))=true from zGu hl]
    exact nf hn hp hs f l _ Q g1 (zDo (Nat.le_of_lt g2) h2) ((dq 0x10475200c5861260045962a041526) h3 cE g1 g2) Gz (fun i a b=>Int.lt_of_lt_of_le hl (hs _ _ a b)) h
   .rw[show decide (r (p.getD k 0)<r (p.getD m 0))=false from zGr hl]
    exact nf hn hp hs f _ u Q g2 h2 ((dq 0x4b1d015200c5861260045962a041526) h3 cE g1 g2) (fun i a=>Int.le_trans (hs i m (Nat.le_of_lt_succ a) (zDu g2 h2)) (Int.not_lt.mp hl)) Ks h
theorem Bu(hn:0<n):∀(f:Nat) (p:Array Nat) (k:Nat) (Q:Array Nat->Prop),PB n p->k+f<=n->yq r p k->(∀p',PB n p'->yq r p' (k+f)->Q p')->pw n r (kas_bin f p k) Q
 |0,p,k,Q,hp,_,hs,h=>h p hp hs
 |f+1,p,k,Q,hp,hk,hs,h=>by
  refine iw _ (nf hn hp hs k 0 k _ (aB 162) (aB 2) (aB 164178) (fun i a=>(WG 135610390) a) (fun i a b=>(JZ 35459322880038) a b) fun l Pk Gz Ks=>?_);refine Bu hn f _ (k+1) Q ((bubble_perm _ _ _).trans hp) (by exact(aP 0x10560a5084b0d01426) hk) ?_ fun p' a b=>h p' a (by rw[show k+(f+1)=k+1+f by exact aD 756818520113472];exact b)
  have zi:k<p.size:=by rw[hp.size];exact(aP 281770000913446) hk
  intro i j eG hj;rw[pF zi (by exact(aD 137661784102) Pk)];rw[pF zi (by exact(aD 137661784102) Pk)];rw[show k-(k-l)=l by exact(aD 227855573030) Pk]
  repeat' split
  all_goals first
   |(exfalso;(first |exact(dq 0x2841208c5e58610961801962a04582026) eG hj ‹_› ‹_› ‹_› |exact(dq 0xa104186020085d82026) eG ‹_› ‹_› |exact(dq 0x2841208c5e5840200c5d962a04582026) eG hj ‹_› ‹_›))
   |exact Int.le_refl _
   |exact Gz _ ((dq 0x18046106100803179618025962a04582026) eG hj ‹_› ‹_› ‹_›)
   |exact Int.le_of_lt (Ks _ ((dq 0x162a8486221045d82006) ‹_› ‹_›) ((dq 0x2b054420200c5d862065868016) hj ‹_› ‹_›))
   |exact hs _ _ (by(first |exact(dq 0x586ab05486020085d82026) eG ‹_› |exact(dq 0x586a0210482317618425840200c5e5962a04582026) eG hj ‹_› ‹_› ‹_› |exact(aD 134750246) eG)) (by(first |exact(dq 0x4b0d4440200c5d962a04582026) eG hj ‹_› |exact(aP 0xac1510808021765868016) hj ‹_› |exact(aP 0x221088840179600825961a08582026) Pk hj ‹_› ‹_›))
theorem Et(hn:0<n){Q:Array Nat->Prop}(h:∀p,PB n p->yq r p n->Q p):pw n r (kas_sort n) Q:=by
 delta kas_sort;refine iw _ (Bt hn (Array.Perm.refl _) fun k p hp h1 h2 hs=>?_);split
 .rw[show max k 1=k by exact(aB 47341112102) h1]
  exact Bu hn _ _ _ _ hp (by exact(aD 0x803505082016) ‹_›) hs fun p' a b=>h p' a (by rw[show k+(n-k)=n by exact(aD 0x803505002016) ‹_›]at b;exact b)
 .rw[show k=n by exact(aD 562984419598374) h2 ‹_›]at hs
  exact h p hp hs
end
theorem sZ{cmp:Nat->Nat->(Bool->Shared->Prop)->Shared->Prop}{n:Nat}{r:Nat->Int}{s:Shared}(hc:∀i j C,i<n->j<n->C (decide (r i<r j)) s->cmp i j C s){α:Type}{Q:α->Shared->Prop}:∀(t:KasT α),pw n r t (fun a=>Q a s)->t.kasWp cmp Q s
 | .ret _,h=>h
 | .ask i j k,⟨h1,h2,h3⟩=>hc i j _ h1 h2 (sZ hc _ h3)
theorem iX{α:Type}{R:α->α->Prop}:∀(l l':List α),l.Perm l'->l.Pairwise R->l'.Pairwise R->(∀x∈l,∀y∈l,R x y->R y x->x=y)->l=l':=by
 intro zl
 induction zl with
 |nil=>
  rintro l' h _ _ _;exact(List.nil_perm.mp h).symm▸rfl
 |cons x l ih=>
  rintro l' h p p' M7;cases l' with
  |nil=>have:=h.length_eq;simp at this
  |cons y l'=>
   have hy:y∈x::l:=h.mem_iff.mpr (.head _);obtain⟨p1,p2⟩:=zEr.mp p;obtain⟨q1,q2⟩:=zEr.mp p'
   have e:x=y:=by
    rcases zAy.mp hy with e |Pl
    .exact e.symm
    .rcases zAy.mp (h.mem_iff.mp (.head _):x∈y::l') with e |Ep
     .exact e
     .exact M7 x (.head _) y hy (p1 _ Pl) (q1 _ Ep)
   clear q1 hy p';subst e;rw[ih l' (List.Perm.cons_inv h) p2 q2 fun a ha b hb=>M7 a (.tail _ ha) b (.tail _ hb)]
theorem gT(x:Int):∀l,(ke x l).Perm (x::l)
 |[]=>List.Perm.refl _
 |y::l=>by
  refine(?_:(if r7 x y=true then x::y::l else y::ke x l).Perm _)
  split
  .exact List.Perm.refl _
  .exact(List.Perm.cons y (gT x l)).trans (List.Perm.swap x y l)
theorem fX:∀l,(bJ l).Perm l:=by
 intro zl
 induction zl with
 |nil=>
  exact List.Perm.refl _
 |cons x l ih=>
  exact(gT x (bJ l)).trans (List.Perm.cons x (ih))
def s6(x y:Int):Prop:=x.natAbs<=y.natAbs
set_option tactic.hygienic true in
theorem iY(x:Int):∀l:List Int,l.Pairwise s6->(ke x l).Pairwise s6
 |[],_=>List.pairwise_singleton _ _
 |y::l,h=>by
  obtain⟨h1,h2⟩:=zEr.mp h;refine(?_:(if r7 x y=true then x::y::l else y::ke x l).Pairwise s6)
  split
  .rename_i hle
   have Pm:x.natAbs<=y.natAbs:=by simp only[r7,or_eq_true,and_eq_true,decide_eq_true_eq]at hle;exact hle.elim Nat.le_of_lt fun h=>Nat.le_of_eq h.1
   refine zEr.mpr ⟨fun z hz=>?_,h⟩;clear hle h;rcases zAy.mp hz with rfl |hz
   .exact Pm
   .exact zDo Pm (h1 z hz)
  .rename_i hle
   have Pm:y.natAbs<=x.natAbs:=by simp only[r7,or_eq_true,and_eq_true,decide_eq_true_eq]at hle;exact zGq.mp fun q=>hle (.inl q)
   refine zEr.mpr ⟨fun z hz=>?_,iY x l h2⟩;rcases zAy.mp ((gT x l).mem_iff.mp hz) with rfl |hz
   .exact Pm
   .exact h1 z hz
theorem gU:∀l,(bJ l).Pairwise s6:=by
 intro zl
 induction zl with
 |nil=>
  exact List.Pairwise.nil
 |cons x l ih=>
  exact iY x _ (ih)
theorem oD{l:List Int}(hn:(l.map natAbs).Nodup){x y:Int}(hx:x∈l)(hy:y∈l)(e:x.natAbs=y.natAbs):x=y:=by
 induction l with
 |nil=>cases hx
 |cons a l ih=>
  rw[map_cons,zCq]at hn;rcases zAy.mp hx with h1 |h1<;>rcases zAy.mp hy with h2 |h2
  .rw[h1];rw[h2]
  .exact absurd (zAt.mpr ⟨y,h2,by rw[←e];rw[h1]⟩) hn.1
  .exact absurd (zAt.mpr ⟨x,h1,by rw[e];rw[h2]⟩) hn.1
  .exact ih hn.2 h1 h2
theorem ng{l is:List Int}(hp:l.Perm is)(hs:l.Pairwise s6)(hn:(is.map natAbs).Nodup):l=bJ is:=
 iX l _ (hp.trans (fX is).symm) hs (gU is) fun x hx y hy h1 h2=>oD hn (hp.mem_iff.mp hx) (hp.mem_iff.mp hy) (Nat.le_antisymm h1 h2)
set_option tactic.hygienic true in
theorem jk(x:Int):∀(l:List Int) (z:Int),z∈je x l↔z=x\/z∈l
 |[],z=>by refine(?_:z∈[x]↔_);simp
 |y::l,z=>by
  refine(?_:z∈(if x<y then x::y::l else if x=y then y::l else y::je x l)↔_)
  split
  .simp
  .split
   .rename_i h;subst h;simp
   .simp only[mem_cons,jk x l z];constructor
    .rintro(h |h |h)
     .exact .inr (.inl h)
     .exact .inl h
     .exact .inr (.inr h)
    .rintro(h |h |h)
     .exact .inr (.inl h)
     .exact .inl h
     .exact .inr (.inr h)
theorem s7:∀(l:List Int) (z:Int),z∈du l↔z∈l:=by
 intro zl
 induction zl with
 |nil=>
  rintro z;exact Iff.rfl
 |cons x l ih=>
  rintro z;refine(?_:z∈je x (du l)↔_);rw[jk];rw[ih z];rw[zAy]
set_option tactic.hygienic true in
theorem iZ(x:Int):∀l:List Int,l.Pairwise (·<·)->(je x l).Pairwise (·<·)
 |[],_=>List.pairwise_singleton _ _
 |y::l,h=>by
  obtain⟨h1,h2⟩:=zEr.mp h;refine(?_:(if x<y then x::y::l else if x=y then y::l else y::je x l).Pairwise (·<·))
  split
  .rename_i cE
   refine zEr.mpr ⟨fun z hz=>?_,h⟩;clear h;rcases zAy.mp hz with rfl |hz
   .exact cE
   .exact Int.lt_trans cE (h1 z hz)
  .split
   .exact h
   .rename_i h3 h4
    refine zEr.mpr ⟨fun z hz=>?_,iZ x l h2⟩;rcases(jk x l z).mp hz with rfl |hz
    .exact(uq 352397327205526) h3 h4
    .exact h1 z hz
theorem gV:∀l,(du l).Pairwise (·<·):=by
 intro zl
 induction zl with
 |nil=>
  exact List.Pairwise.nil
 |cons x l ih=>
  exact iZ x _ (ih)
theorem gW{l is:List Int}(hm:∀z,z∈l↔z∈is)(hs:l.Pairwise (·<=·))(hn:l.Nodup):l=du is:=by
 have h1:l.Pairwise (·<·):=by have:=hs.and hn;exact this.imp fun⟨a,b⟩=>by exact(uq 0x81020396080e420576) ‹_› b
 have XY:(du is).Nodup:=(gV is).imp fun h=>by exact(uq 2162434118) h
 have hp:l.Perm (du is):=(List.perm_ext_iff_of_nodup hn XY).mpr fun z=>(hm z).trans (s7 is z).symm;exact iX l _ hp h1 (gV is) fun x _ y _ a b=>by exact(uq 35390615986246) a b
section
set_option backward.match.sparseCases true
theorem jE.XZ{A:Around}{m:Nat}(R:jE A (m+1)):jE A.in1.in1 m:=
 ⟨R.1,by have:=R.2.1;refine(?_:A.depth+m<_);exact(aD 0x1f47020a08000fa38b0d01416) this,by have:=R.2.2;refine(?_:A.units+1+1+16*m+16<_);exact(aD 0x4d59c0000087030ead60a5294100135670000021c58690e829416) this⟩
section
variable {prog:Program} {w:World} {A:Around} {E:Value->Shared->Prop} {s:Shared} {T:String} {r d:Addr} {n:Nat} {P:Nat->Value->Prop} {OK:Heap->Prop}
theorem s8{Q:List Value->Shared->Prop}(K:KdlSrc prog w T r d n P OK)(hh:A.handled=none)(Pn:OK s.heap)(hn:n<=sizeLine)
  (h:∀h' tk acc,(∀b o,s.heap.get? b=some o->h'.get? b=some o)->acc.length=n->(∀j v,acc[j]?=some v->P j v)->Q acc {s with heap:=h',toks:=tk}):wpAny (model prog w) A (collect (.ref r)) Q E s:=by
 delta collect;refine lk (wpAny_runValue (zFt PySem.F.entry_proto_collect ?_));rw[zDy PySem.F.plain_proto_collect _];refine(?_:wpAny _ A.in1 (newList []>>=fun l=>again (.builtin "list.__iadd__" ⟨[l,.ref r],[]⟩)) _ _ s);refine lk (zGe ?_);refine Up ⟨plainId_quiet PySem.F.plain_list_iadd _,zFt PySem.F.entry_list_iadd ?_⟩;rw[zDy PySem.F.plain_list_iadd _];refine(?_:wpAny _ A.in1 (Builtin.List.listExtendWith (.ref s.heap.objs.size) (.ref r) (.ref s.heap.objs.size)) _ _ _);have cE:=K.there _ Pn
 have fin:∀(h':Heap) (tk:Nat) (dm:Array Value) (c':Nat),(∀b o,s.heap.get? b=some o->h'.get? b=some o)->h'.get? s.heap.objs.size=some {cls:=.type "list",dict:=none,data:=.seq dm c',slots:= #[]}->ItemsOf P dm n->
   wpAny (model prog w) A (OC s.heap.objs.size) Q E {s with heap:=h',toks:=tk}:=fun h' tk dm c' hk j9 eX=>
  lk (wpAny_load j9 (Up (h h' tk dm.toList hk (by rw[zBi];exact eX.1) fun j v e=>eX.2 j v (by rw[←zDi];exact e))))
 refine zAw (kdl_extend (R:=fun r s'=>r= .ok (.ret (.ref s.heap.objs.size))/\wpAny (model prog w) A (OC s.heap.objs.size) Q E s')
  (s:={s with heap:=s.heap.push {cls:=.type "list",data:=.seq ([]:List Value).toArray}}) K hh (K.keep _ _ Pn fun b _ o e=>zBr _ e) _ (ne_of_gt cE.1) (ne_of_gt cE.2) (.ref s.heap.objs.size) 0 (zAr _ rfl)
  (fun h' tk dm c' hk j9 eX=>⟨rfl,fin h' tk dm c' (fun b o e=>hk b o (zBw (zAo e)) (zBr _ e)) j9 eX⟩) hn) (fun f s' hf=>?_) fun e s' he=>nomatch he.1
 cases f with
 |done f=>
  obtain⟨hr,g⟩:=hf;injection hr with hr;subst hr
  exact g
 |again c'=>
  refine⟨hf.1,codeAny_mono hf.2 fun r s' hr=>?_⟩;obtain⟨rfl,g⟩:=hr;exact g
end
end
theorem bj.at{c:Cx}{h:Heap}:∀{l:List V} {xs:List Value} (k:Nat) {v:V},bj c h l xs->l[k]?=some v->∃u,xs[k]?=some u/\VR c h v u:=fun k _=>eF
theorem bj.len{c:Cx}{h:Heap}:∀{l:List V} {xs:List Value},bj c h l xs->xs.length=l.length:=by
 intro zl
 induction zl with
 |nil=>
  rintro _ rfl;exact rfl
 |cons w l ih=>
  rintro _ ⟨x,r,rfl,h1,h2⟩;simp[ih h2]
noncomputable def nh(i:Int):V:=.tup [.int i.natAbs,.bool (decide (0<i))]
theorem kD{c:Cx}{h:Heap}{i:Int}{u:Value}(r:VR c h (nh i) u):∃a n t,u= .ref a/\h.get? a=some ⟨.type "tuple",none,.seq #[.int i.natAbs t,.bool (decide (0<i))] n,#[]⟩:=by obtain⟨a,n,xs,e1,_,e2,x1,r1,e3,⟨t,e4⟩,x2,r2,e5,e6,e7⟩:=r;refine⟨a,n,t,e1,?_⟩;subst e4 e5 (e6:x2= .bool (decide (0<i))) (e7:r2=[]);have:xs= #[.int i.natAbs t,.bool (decide (0<i))]:=Array.toList_inj.mp e3;rw[←this];exact e2
section
variable {c:Cx} {A:Around} {E:Value->Shared->Prop} {s:Shared}
theorem qK{b:Bool}{Q:Bool->Shared->Prop}(h:Q true s):wpAny c.M A (eqBool (.bool b) (.bool b)) Q E s:=by
 delta eqBool
 try with_reducible refine zCt ?_
 refine(?_:wpAny _ _ (if (Value.bool b==Value.bool b)=true then _ else _) Q E s)
 rw[zBq (by simp)]
 exact lk (wpAny_rule (Up h))
theorem s9{is:List Int}{ks:List Value}{h:Heap}(kr:bj c h (is.map nh) ks){i:Nat}(hi:i<is.length):VR c h (nh (is.getD i 0)) (ks.getD i .none):=by
 have e:(is.map nh)[i]?=some (nh (is.getD i 0)):=by simp[hi]
 obtain⟨u,e1,e2⟩:=kr.at i e;have:ks.getD i .none=u:=by simp[e1]
 rw[this];exact e2
theorem getD_inj{is:List Int}(hn:(is.map natAbs).Nodup){i j:Nat}(hi:i<is.length)(hj:j<is.length)(e:(is.getD i 0).natAbs=(is.getD j 0).natAbs):i=j:=by
 have h1:(is.map natAbs)[i]'(by simpa using hi)=(is.map natAbs)[j]'(by simpa using hj):=by
  have a:is.getD i 0=is[i]:=by simp[hi]
  have b:is.getD j 0=is[j]:=by simp[hj]
  rw[a,b]at e;simpa using e
 exact(getElem_inj hn).mp h1
theorem IU{is:List Int}{ks:List Value}(kr:bj c s.heap (is.map nh) ks)(hn:(is.map natAbs).Nodup){i j:Nat}(hi:i<is.length)(hj:j<is.length){C:Bool->Shared->Prop}
  (h:C (decide (((is.getD i 0).natAbs:Int)<((is.getD j 0).natAbs:Int))) s):kas_ask prog c.w A (tuples' true) ks i j C s:=by
 obtain⟨a,n,t,e1,e2⟩:=kD (s9 kr hi);obtain⟨b,n',t',e3,e4⟩:=kD (s9 kr hj);delta kas_ask;rw[e1];rw[e3];refine kat_lt e2 rfl e4 rfl ?_;refine(?_:KatLex prog c.w A true false C [(.int (is.getD i 0).natAbs t,.int (is.getD j 0).natAbs t'),(.bool (decide (0<is.getD i 0)),.bool (decide (0<is.getD j 0)))] 0 s);refine kat_cons (wpAny_eqBool_int ?_);by_cases e:((is.getD i 0).natAbs:Int)=((is.getD j 0).natAbs:Int)
 .have e5:=getD_inj hn hi hj ((uq 0x3a06803ac835936) e);clear e e4 e3 hj;subst e5;rw[show ((((is.getD i 0).natAbs:Int))==((is.getD i 0).natAbs:Int))=true by simp]
  refine kat_yes (kat_cons (qK (kat_yes (kat_nil ?_))));simpa using h
 .rw[zCr.mpr e];exact kat_no (oneLt_int h)
theorem Eu:∀{is:List Int} {ks:List Value},bj c s.heap (is.map nh) ks->∃fs,KatTups s.heap ks fs/\fs.length=is.length/\∀v∈fs,∃k t,v= .int k t:=by
 intro is
 induction is with
 |nil=>rintro _ rfl;exact⟨[],KatTups.nil,rfl,fun _ h=>by cases h⟩
 |cons i is ih=>
  rintro _ ⟨x,r,rfl,h1,h2⟩;obtain⟨a,n,t,rfl,e2⟩:=kD h1;obtain⟨fs,f1,f2,f3⟩:=ih h2
  exact⟨.int i.natAbs t::fs,KatTups.cons e2 rfl rfl rfl f1,by simp[f2],fun v hv=>by
   rcases zAy.mp hv with rfl |hv
   .exact⟨_,_,rfl⟩
   .exact f3 v hv⟩
theorem yr{is:List Int}{ks vs:List Value}(kr:bj c s.heap (is.map nh) ks)(hv:vs.length=is.length)(hn:(is.map natAbs).Nodup)(h2:2<=is.length)(qL:is.length<64){R:SortSt->Shared->Prop}
  (h:∀st' p,PB is.length p->p.toList.map (fun i=>is.getD i 0)=bJ is->(arrOf st').map (·.2)=List.toArray (p.toList.map fun i=>vs.getD i .none)->failedOf st'=none->R st' s):
  wpAny c.M A (keyKind' ks.toArray) (fun κ s'=>wpAny c.M A (sortRuns'.run (SortSt.mk' κ (ks.toArray.zip vs.toArray) #[] 7 none)) (fun r Dg=>R r.2 Dg) E s') E s:=by
 obtain⟨fs,f1,f2,f3⟩:=Eu kr;have hk:ks.length=is.length:=by have:=kr.len;simpa using this
 refine(kat_kind f1 (by exact(aP 0x54201030020c000040e00580c26) h2 qL f2 hk) (T:=.type "int") (fun v hv=>?_) rfl ?_)
 .obtain⟨k,t,rfl⟩:=f3 v hv;exact Looks.of_pure rfl
 .rw[show tuples' (Value.type "int" !=Value.type "tuple")=tuples' true from rfl]
  refine kat_run (w:=c.w) (G:=fun p s'=>s'=s/\PB is.length p/\yq (fun i=>((is.getD i 0).natAbs:Int)) p is.length) (by exact(dq 0xc02306088182006) hv f2 hk) (by exact(dq 0x610460c1103000010381160b0982006) hv h2 qL f2 hk) (by exact(dq 0x81c008460c1103000010381160b0982006) hv h2 qL f2 hk) ?_ ?_
  .clear f1 kr;rintro p st' s' hp Sd hf ⟨rfl,Se,hs⟩;refine h st' p Se ?_ (kat_snds (by exact(dq 0xc02306088182006) hv f2 hk) Sd) hf
   refine ng ?_ ?_ hn
   .have e1:p.toList.Perm (List.range is.length):=by simpa using Array.perm_iff_toList_perm.mp Se
    refine(e1.map (fun i=>is.getD i 0)).trans (List.Perm.of_eq ?_);apply ext_getElem
    .simp
    .intro i h1 h2;simp at h1;simp[h1]
   .rw[pairwise_map];rw[List.pairwise_iff_getElem];intro i j hi hj eG;have:=hs i j (Nat.le_of_lt eG) (by rw[←Se.size];simpa using hj)
    have jb:i<p.size:=by simpa using hi
    have oT:j<p.size:=by simpa using hj
    unfold KN at this;have g1:p.getD i 0=p[i]:=by rw[nc];simp[jb]
    have g2:p.getD j 0=p[j]:=by rw[nc];simp[oT]
    rw[g1,g2]at this;refine(?_:(is.getD p[i] 0).natAbs<=(is.getD p[j] 0).natAbs);exact(Ur 0x3a06883ac835956088582016) jb oT this
  .rw[show vs.length=is.length from hv]
   exact sZ (r:=fun i=>((is.getD i 0).natAbs:Int)) (fun i j C hi hj hC=>IU kr hn hi hj hC) _ (Et (by exact(aP 0x14201030020c000040e00580c26) h2 qL f2 hk) fun p hp hs=>⟨rfl,hp,hs⟩)
end
theorem bj.Bv{c:Cx}{h h':Heap}:∀{is:List Int} {xs:List Value},bj c h (is.map .int) xs->bj c h' (is.map .int) xs:=by
 intro zl
 induction zl with
 |nil=>
  rintro _ r;exact r
 |cons i is ih=>
  rintro _ ⟨x,r,e,⟨t,h1⟩,h2⟩;exact⟨x,r,e,⟨t,h1⟩,ih h2⟩
theorem bj.ints_map{c:Cx}{h h':Heap}{is:List Int}{vs:List Value}(hv:bj c h (is.map .int) vs):∀{l:List Nat},(∀i∈l,i<is.length)->bj c h' ((l.map fun i=>is.getD i 0).map .int) (l.map fun i=>vs.getD i .none)
 |[],_=>rfl
 |i::l,hl=>by
  have hi:i<is.length:=hl i (.head _);obtain⟨u,e3,t,rfl⟩:=hv.at (k:=i) (v:=.int is[i]) (by simp[hi])
  refine⟨_,_,rfl,⟨t,?_⟩,bj.ints_map hv fun j hj=>hl j (.tail _ hj)⟩;have:is.getD i 0=is[i]:=by simp[hi]
  refine(?_:vs.getD i .none=Value.int (is.getD i 0) t);rw[this];simp[e3]
section
variable {c:Cy} {A:Around} {H:Z} {s:Shared} {m:Nat}
theorem cf{n:Nat}(h:n<64):n<=sizeLine:=by rw[sizeLine_eq];exact(aB 0x2000001c0100001038016) h
structure Bw(c:Cy)(H:Z)(s:Shared)(D kS:Addr)(e1:Nat)(is:List Int)(i:Nat)(s':Shared):Prop where
 I:Inv c.toCx H s'
 S:ay (fun b=>b=D) H H s s'
 d:s'.heap.get? D=some (seqObj "list" #[] e1)
 k:∃ks n,s'.heap.get? kS=some (seqObj "list" ks.toArray n)/\bj c.toCx s'.heap ((is.take i).map nh) ks
theorem Bx{c:Cx}{s:Shared}{p:Addr}{xs:Array Value}{n:Nat}(e:s.heap.get? p=some (seqObj "list" xs n)):eC c (fun b=>b=p) s:=by rintro b ys k rfl _ e';rw[e]at e';simp[seqObj]at e'
theorem Inv.qM(I:Inv c.toCx H s){p:Addr}{xs:Array Value}{n:Nat}(e:s.heap.get? p=some (seqObj "list" xs n))(no:¬aQ H p)(off:c.base.get? p=none)(f:Array Value->Array Value):
  Inv c.toCx H {s with heap:=s.heap.update p (Obj.mapSeq f)}/\(∀b o,¬b=p->s.heap.get? b=some o->(s.heap.update p (Obj.mapSeq f)).get? b=some o)/\∃n',(s.heap.update p (Obj.mapSeq f)).get? p=some (seqObj "list" (f xs) n'):=by
 have k:∀b o,¬b=p->s.heap.get? b=some o->(s.heap.update p (Obj.mapSeq f)).get? b=some o:=fun b o hb h=>((zBo s.heap p (Obj.mapSeq f)).2 b hb).trans h;have g:=get?_update_seq e f;refine⟨?_,k,_,g⟩;exact I.move (X:=fun b=>b=p) (t:=s.toks) k (fun b hb=>by clear g k e;subst hb;exact⟨no,off⟩) (Bx e) (fun b hb _=>by clear k off no e;subst hb;rw[g];rfl)
theorem yt(I:Inv c.toCx H s){D kS:Addr}{e1 n:Nat}{ks out:List Value}{st:SortSt}(hD:s.heap.get? D=some (seqObj "list" #[] e1))(hk:s.heap.get? kS=some (seqObj "list" ks.toArray n))(Kt:kS≠D)(oa:¬aQ H D)(tc:c.base.get? D=none)(M8:¬aQ H kS)(Ew:c.base.get? kS=none)
  (GA:ks.length<64) (jd:out.length<64) (Sf:(arrOf st).map (·.2)=out.toArray) (hf:failedOf st=none) {P:PySem.Fin->Shared->Prop} {E:Value->Shared->Prop}
  (h:∀h' e,Inv c.toCx H {s with heap:=h'}->(∀b o,¬b=D->¬b=kS->s.heap.get? b=some o->h'.get? b=some o)->(h'.get? kS).isSome=true->h'.get? D=some (seqObj "list" out.toArray e)->P (.done (.ret .none)) {s with heap:=h'}):
  wpAny c.M A (ksk_tail D false e1 (.ref kS) st) P E s:=by
 obtain⟨bC,k₁,n₁,yu⟩:=I.qM hk M8 Ew (fun _=> #[]);have By:=k₁ D _ (zFp Kt) hD;obtain⟨aY,k₂,Sg,yw⟩:=bC.qM By oa tc (fun _=>out.toArray);delta ksk_tail
 try dsimp only
 rw[Sf];refine lk (listUpdate_at hk rfl ?_ (by rw[size_toArray];exact cf GA) (zEw _))
 refine lk (wpAny_letGo ?_);refine lk (seqEpoch_at By rfl ?_)
 refine lk (listUpdate_at By rfl ?_ (zEw _) (by simp only[false_eq_true,if_false];rw[size_toArray];exact Nat.le_succ_of_le (cf jd)))
 rw[hf];simp only[bne_self_eq_false,false_eq_true,if_false];exact Up (h _ Sg aY (fun b o h1 h2 e=>k₂ b o h1 (k₁ b o h2 e)) (by rw[k₂ kS _ Kt yu];rfl) yw)
theorem Bz(R:jE A m)(I:Inv c.toCx H s){D:Addr}{n:Nat}{is:List Int}{vs:List Value}(yx:s.heap.get? D=some (seqObj "list" vs.toArray n))(oa:¬aQ H D)(tc:c.base.get? D=none)
  (hv:bj c.toCx s.heap (is.map .int) vs) (qL:is.length<64) (hn:(is.map natAbs).Nodup) (ho:∀i H',aA c 0 m [.int i] H' fun v ak=>v=nh i/\ak=H') {P:PySem.Fin->Shared->Prop}
  (h:∀s' out e,Inv c.toCx H s'->ay (fun b=>b=D) H H s s'->s'.heap.get? D=some (seqObj "list" (List.toArray out) e)->bj c.toCx s'.heap ((bJ is).map .int) out->P (.done (.ret .none)) s'):
  wpAny c.M A (ksk_tree D (.ref (c.fa 0)) false) P bZ s:=by
 have BA:vs.length=is.length:=by have:=hv.len;simpa using this
 have qJ:=zAo yx;delta ksk_tree;refine lk (listItems_at yx rfl ?_);refine lk (listUpdate_at yx rfl ?_ (by rw[size_toArray];rw[BA];exact cf qL) (zEw _))
 obtain⟨bC,k₁,e1,yu⟩:=I.qM yx oa tc (fun _=> #[]);refine lk (seqEpoch_at yu rfl ?_);refine lk (wpAny_newTuple ?_ (by refine(?_:vs.length<=_);rw[BA];exact cf qL))
 refine lk (wpAny_newList ?_ (zEw _));refine zCt ?_;refine(?_:wpAny _ _ (ksk_rest D (.ref (c.fa 0)) false vs.toArray e1 (.ref (((s.heap.update D (Obj.mapSeq fun _=> #[])).push (seqObj "tuple" vs.toArray 0)).objs.size))) P bZ {s with heap:=((s.heap.update D (Obj.mapSeq fun _=> #[])).push (seqObj "tuple" vs.toArray 0)).push (seqObj "list" #[] 0)})
 generalize M9:((s.heap.update D (Obj.mapSeq fun _=> #[])).push (seqObj "tuple" vs.toArray 0)).objs.size=kS;have eM:kS=s.heap.objs.size+1:=by rw[←M9];rw[zGw];rw[Heap.size_update]
 have M8:¬aQ H kS:=I.gK (by rw[eM];exact zDw _)
 have Ew:c.base.get? kS=none:=I.cF (by rw[eM];exact zDw _)
 have Kt:kS≠D:=fun e=>by rw[←e,eM]at qJ;exact absurd qJ (zGq.mpr (zDw _))
 have GB:s.heap.get? kS=none:=bg (by rw[eM];exact zDw _)
 have kk:∀b o,¬b=D->s.heap.get? b=some o->(((s.heap.update D (Obj.mapSeq fun _=> #[])).push (seqObj "tuple" vs.toArray 0)).push (seqObj "list" #[] 0)).get? b=some o:=
  fun b o hb e=>az _ _ _ (az _ _ _ (k₁ b o hb e))
 have BB:Bw c H s D kS e1 is 0 {s with heap:=((s.heap.update D (Obj.mapSeq fun _=> #[])).push (seqObj "tuple" vs.toArray 0)).push (seqObj "list" #[] 0)}:=by
  refine⟨?_,?_,az _ _ _ (az _ _ _ yu),[],0,?_,rfl⟩
  .exact bC.grow (s:={s with heap:=s.heap.update D (Obj.mapSeq fun _=> #[])}) (t:=s.toks) fun b o e=>az _ _ _ (az _ _ _ e)
  .exact ay.move H (t:=s.toks) kk (fun b hb=>by clear kk Kt M9 k₁ bC qJ h tc oa yx;subst hb;rw[az _ _ _ (az _ _ _ yu)];rfl)
  .rw[←M9];exact zAr _ rfl
 revert BB;generalize (({s with heap:=((s.heap.update D (Obj.mapSeq fun _=> #[])).push (seqObj "tuple" vs.toArray 0)).push (seqObj "list" #[] 0)}):Shared)=yc
 intro BB;delta ksk_rest;refine lk (wpAny_rule ?_)
 first
  |rw[List.forIn_toArray]
  |(rw[←forIn_toList];simp only[List.toList_toArray])
  |rw[←forIn_toList]
 refine lk (ksk_fold (fun i s'=>Bw c H s D kS e1 is i s') vs 0 yc BB (fun j x s' hx J=>?_) fun s' J=>?_)
 .have hj:j<vs.length:=(zCy.mp hx).1;have oT:j<is.length:=(aP 37452254814214) BA hj;clear eM M9 BB bC h I;obtain⟨u,e3,t,rfl⟩:=hv.at (k:=j) (v:=.int is[j]) (by simp[oT])
  rw[hx]at e3;obtain rfl:=so e3;rw[Nat.zero_add]at J;obtain⟨J1,J2,J3,ks,n',J4,J5⟩:=J
  have GA:ks.length<64:=by have:=J5.len;rw[this];rw[zCe];rw[List.length_take];exact(aP 0x207002b08442c008300001038016) qL BA hj
  refine lk (wpAny_attempt (zAw ((ho is[j] H).call R J1 (vs:=[.int is[j] t]) ⟨_,_,rfl,⟨t,rfl⟩,rfl⟩) (fun v Dg b=>?_) fun _ _ hF=>hF.elim));obtain⟨y,ak,aY,aI,jB,rfl,rfl⟩:=b;have yw:=aI.gG J4 M8;obtain⟨qv,Ex,Sh,Si⟩:=aY.qM yw M8 Ew (·.push v);refine lk (listUpdate_at yw rfl ?_ (by rw[size_toArray];exact cf GA) (zDo (Nat.le_of_eq (Array.size_push ..)) (by rw[size_toArray];rw[sizeLine_eq];exact(aB 0x17000000e5160a100001038016) GA)))
  refine Up ⟨rfl,?_⟩;have mono:∀{v:V} {u:Value},VR c.toCx Dg.heap v u->VR c.toCx (Dg.heap.update kS (Obj.mapSeq (·.push _))) v u:=fun r=>VR.mono (fun b xs n nb e=>Ex b _ (fun hb=>by subst hb;rw[yw]at e;simp[seqObj]at e) e) _ r
  refine⟨qv,?_,Ex D _ (zFp Kt) (aI.gG J3 oa),ks++[v],Sh,by rw[Si];simp,?_⟩
  .exact ay.fresh (W:=fun b=>b=kS) (t:=Dg.toks) (J2.trans (aI.weaken fun _ h=>h.elim)) Ex fun b hb=>by subst hb;exact GB
  .rw[Nat.zero_add];rw[List.take_succ_eq_append_getElem oT];rw[map_append];refine cD (bj.mono (fun b xs n nb e=>Ex b _ (fun hb=>by subst hb;rw[yw]at e;simp[seqObj]at e) e) _ (J1.OE aI J5)) ⟨_,_,rfl,mono jB,rfl⟩
 .rw[Nat.zero_add,BA]at J;clear BB eM M9 kk yu k₁ bC qJ yx;obtain⟨J1,J2,J3,ks,n',J4,J5⟩:=J;rw[List.take_length]at J5;have GA:ks.length=is.length:=by have:=J5.len;simpa using this
  refine lk (listItems_at J4 rfl ?_)
  have fin:∀{st:SortSt} {out:List Value},(arrOf st).map (·.2)=out.toArray->failedOf st=none->(∀h,bj c.toCx h ((bJ is).map .int) out)->wpAny c.M A (ksk_tail D false e1 (.ref kS) st) P bZ s':=by
   intro st out ha hf hr
   have jd:out.length<64:=by have h1:=(hr s.heap).len;have h2:=(fX is).length_eq;rw[h1];rw[zCe];rw[h2];exact qL
   refine yt J1 J3 J4 Kt oa tc M8 Ew ((aP 0x81c108040c008300001038016) qL BA GA) jd ha hf fun h' e I' k' p4 oq=>?_;refine h {s' with heap:=h'} out e I' ⟨fun b o hb n x=>k' b o x (fun e=>by subst e;exact sn hb GB) (J2.keep b o hb n x),J2.sub,fun b hb=>?_⟩ oq (hr _)
   have:=J2.live b hb;obtain⟨o,e⟩:=zAp.mp this;by_cases h1:b=D
   .subst h1;refine(?_:(h'.get? b).isSome=true);rw[oq];rfl
   .by_cases h2:b=kS
    .subst h2;exact p4
    .refine(?_:(h'.get? b).isSome=true);rw[k' b o h1 h2 e];rfl
  delta ksk_end
  try dsimp only
  simp only[false_eq_true,if_false];by_cases h2:vs.toArray.size<2
  .rw[zBq h2];rw[zBq h2];refine lk (Up ?_);rw[StateT.run_pure];refine lk (Up ?_)
   try dsimp only
   refine fin (out:=vs) ?_ rfl fun h'=>?_
   .refine(?_:(ks.toArray.zip vs.toArray).map (·.2)=vs.toArray);apply Array.toList_inj.mp;rw[Array.toList_map];rw[ksk_zip];simp only[List.toList_toArray];exact List.map_snd_zip ((aP 70508466413574) BA GA)
   .have:bJ is=is:=by
     rw[size_toArray,BA]at h2
     match is,h2 with
     |[],_=>rfl
     |[a],_=>rfl
    rw[this];exact bj.Bv hv
  .rw[zAi h2];rw[zAi h2];rw[size_toArray,BA]at h2;refine lk (zAw (yr (E:=bZ) (c:=c.toCx) (A:=A) (R:=fun st Dg=>wpAny c.M A (ksk_tail D false e1 (.ref kS) st) P bZ Dg) J5 BA hn ((aP 0x184c00cb0040c008300001038016) qL BA GA h2) qL fun st' p hp hs ha hf=>?_) (fun κ Dg hk=>lk (zAw hk (fun r s3 z=>z) fun _ _ e=>e)) fun _ _ e=>e);refine fin ha hf fun h'=>?_;rw[←hs]
   have iI:∀i∈p.toList,i<is.length:=fun i hi=>by have:=(Array.perm_iff_toList_perm.mp hp).mem_iff.mp hi;simpa using this
   exact bj.ints_map hv iI
end
theorem ay.Na{X:Addr->Prop}{H H':Z}{s s':Shared}(S:ay X H H' s s')(hX:∀b,X b->s.heap.get? b=none):Step H H' s s':=
 ⟨fun b o e n _=>S.keep b o e n fun x=>(sn e (hX b x)),S.sub,S.live⟩
theorem jR:∀{is:List Int} {acc:List Value},acc.length=is.length->(∀(j:Nat) v,acc[j]?=some v->∃i t,is[j]?=some i/\v=Value.int i t)->∀{c:Cx} {h:Heap},bj c h (is.map .int) acc
 |[],[],_,_,_,_=>rfl
 |[],_::_,h,_,_,_=>by simp at h
 |_::_,[],h,_,_,_=>by simp at h
 |i::is,v::acc,hl,hv,c,h=>by obtain⟨i',t,e,rfl⟩:=hv 0 v rfl;simp at e;subst e;exact⟨_,_,rfl,⟨t,rfl⟩,jR (by simpa using hl) fun j u hu=>hv (j+1) u (hu)⟩
section
variable {c:Cy} {A:Around} {H:Z} {s:Shared} {m:Nat}
theorem vi(R:jE A (m+1))(I:Inv c.toCx H s){T:String}{r d:Addr}{P:Nat->Value->Prop}{OK:Heap->Prop}{is:List Int}(K:KdlSrc prog c.w T r d is.length P OK)(Pn:OK s.heap)(hP:∀(j:Nat) v,P j v->∃i t,is[j]?=some i/\v=Value.int i t)
  (qL:is.length<64) (hn:(is.map natAbs).Nodup) (ho:∀i H',aA c 0 m [.int i] H' fun v ak=>v=nh i/\ak=H') {Q:V->Z->Prop} (h:∀D,H D=none->Q (.ref D) (H.set D (.list ((bJ is).map .int)))):
  wpAny c.M A (call (.builtin "sorted") [.ref r] [(Str.ofString "key",.ref (c.fa 0))]) (Back c.toCx H s Q) bZ s:=by
 refine call_function_entry_kw kind_sorted plain_sorted entry_sorted (ksk_s1 _ _) ?_;unfold Builtin.«sorted»
 refine lk (m:=checkCount "sorted" 1 1 _) (Up ?_);refine lk (s8 K R.1 Pn (cf qL) fun h1 tk acc hk yy IV=>?_);refine lk (wpAny_newList ?_ (by rw[yy];exact cf qL))
 have yx:(h1.push (seqObj "list" acc.toArray 0)).get? h1.objs.size=some (seqObj "list" acc.toArray 0):=zAr _ rfl;have keep:∀b o,s.heap.get? b=some o->(h1.push (seqObj "list" acc.toArray 0)).get? b=some o:=fun b o e=>az _ _ _ (hk b o e);have IW:Inv c.toCx H {s with heap:=h1,toks:=tk}:=I.grow hk
 have bC:Inv c.toCx H {s with heap:=h1.push (seqObj "list" acc.toArray 0),toks:=tk}:=I.grow keep
 have aq:Step H H s {s with heap:=h1.push (seqObj "list" acc.toArray 0),toks:=tk}:=ay.grow H keep
 have oa:¬aQ H h1.objs.size:=IW.gK (zAq _);have tc:c.base.get? h1.objs.size=none:=IW.cF (zAq _)
 have w9:s.heap.get? h1.objs.size=none:=(by
  cases q:s.heap.get? h1.objs.size with
  |none=>rfl
  |some o=>exact absurd (zAo (hk _ _ q)) (zGy _))
 refine(?_:wpAny _ _ _ _ _ {s with heap:=h1.push (seqObj "list" acc.toArray 0),toks:=tk})
 refine lk (zCt (wpAny_call_entry_kw slot_list_sort ⟨_,yx,rfl⟩ entry_list_sort ?body (ksk_l1 _ _)))
 case body=>
  refine(?_:wpAny c.M A.in1.in1 (Builtin.«list.sort» ⟨[.ref h1.objs.size],[(Str.ofString "key",.ref (c.fa 0))]⟩) _ _ _);rw[ksk_t1];refine Bz (R.XZ) bC yx oa tc ((fun h'=>jR yy fun j v e=>hP j v (IV j v e):∀h',bj c.toCx h' (is.map .int) acc) _) qL hn ho fun s' out e I' S' g' r'=>⟨_,rfl,Up ⟨_,rfl,?_⟩⟩;have aI:Step H H s s':=(ay.trans (aq.weaken fun _ h=>h.elim) S').Na fun b hb=>by subst hb;exact w9
  exact⟨.ref h1.objs.size,_,I'.kq g' (r') oa tc,aI.adopt w9,dA,h _ (IW.fresh (zAq _))⟩
end
section
variable {sc:Sc}
theorem SE.ij{x:Expr}{q:PE}{fp gp kp pos}(hx:aC x=false)(hg:sc.eW (Str.ofString "sorted")=true)(AZ:sc.eW (Str.ofString "order_of")=true)(b:SE sc x q):
  SE sc (.Call (.Name (Str.ofString "sorted") fp) [x] [⟨some (Str.ofString "key"),.Name (Str.ofString "order_of") gp,kp⟩] pos) (.ij q):=by
 refine .plain (fun c A env n ρ H s Q P h=>?_) (fun _ _=>rfl) (fun _ _ _ _ _=>rfl)
 replace h:bA c n q ρ H (Uw c n Q):=h
 have ok:=P.ok.h;have cZ:=mR (env:=env) hx;refine(?_:wpAny _ _ (eval (.Name (Str.ofString "sorted") fp) env>>=fun f=>callWith pos f [] (backTo pos (starEach [x] env)) (backToKw pos (keywordEach [⟨some (Str.ofString "key"),.Name (Str.ofString "order_of") gp,kp⟩] env))) _ _ _);refine lk (aX ok P hg (by decide) (v:=.builtin "sorted") (by decide+kernel) ?_)
 refine callWith_kw (wpAny_items_cons (b.then P h fun v ah y aa ai aq r q=>wpAny_items_nil ?_) (by rw[cZ];rfl)) (by rw[cZ];rfl) (by rw[cZ];rfl)
 refine kws_cons (fc ok ai AZ (by decide+kernel) (ok.ft (Str.ofString "order_of",0) (.head _)) (kws_nil ?_))
 refine(?_:wpAny c.M A (call (.builtin "sorted") [v] [(Str.ofString "key",.ref (c.fa 0))]) _ _ _);cases y with
 |ref a=>
  cases (show v= .ref a from r)
  cases n with
  |zero=>exact q.elim
  |succ m=>
   obtain⟨d,hH,q⟩:=fw (P:=OG c m Q aa) id (fun _=>id) (fun _=>id) (fun _=>id) (fun _ _=>id) q;obtain⟨q1,q2,q3,q4⟩:=q;obtain⟨kvs,hd,pr⟩:=ai.I.obj a _ hH;obtain⟨ep,hd⟩:=hd.dictAt;have lo:(a==sysModules)=false:=ai.I.sm ok (.inl (by rw[hH];simp))
   have KS:=kdl_dict (prog:=prog) (w:=c.w) (knd:=iK c.toCx) (d:=a) (kvs:=kvs) (ep:=ep) lo;rw[show kvs.length=(d.map (·.1)).length by simp[(pr.length:kvs.length=d.length)]]at KS
   refine zAw (vi ai.R ai.I KS hd (fun j v ⟨k,x,e1,e2⟩=>?_) (by simpa using q2) (by simpa[Function.comp_def]using q3) q1 q4) (fun _ _ z=>Back.after aq z) fun _ _ e=>e
   have e3:(d.map (·.1))[j]?=some k:=by have:=zEy (·[j]?) pr.keys;simp only[List.getElem?_map,e1,Option.map_some]at this;rw[zHw];exact this.symm
   have:∃t,v= .int k t:=by clear e3 e1;cases v<;>simp[iK,PySem.intKind,Value.isInt]at e2;subst e2;exact⟨_,rfl⟩
   clear e2;obtain⟨t,rfl⟩:=this;exact⟨k,t,e3,rfl⟩
 |_=>clear ai ok h P;cases n<;>exact q.elim
end
theorem Inv.same{c:Cx}{H:Z}{s s':Shared}(I:Inv c H s)(hg:s'.gens=s.gens)(ho:s'.os=s.os)(hh:s'.heap=s.heap):Inv c H s':=by cases s;cases s';dsimp only at hg ho hh;subst hg ho hh;exact⟨I.gens,I.drawn,I.os,I.base,I.obj,I.off,I.apart,I.bad⟩
theorem ay.Nb{X:Addr->Prop}(H:Z){s s':Shared}(k:∀b o,s.heap.get? b=some o->s'.heap.get? b=some o):ay X H H s s':=
 ⟨fun b o e _ _=>k _ _ e,fun _ h=>.inl h,fun b h=>by obtain⟨o,e⟩:=zAp.mp h;rw[k _ _ e];rfl⟩
theorem ni{c:Cx}{h:Heap}:∀{is:List Int} {xs:List Value},bj c h (is.map .int) xs->IntsAre xs is:=by
 intro zl
 induction zl with
 |nil=>
  rintro xs r;have r:xs=[]:=r;subst r;exact .nil
 |cons i is ih=>
  rintro xs r;obtain⟨x,r',rfl,⟨t,rfl⟩,h2⟩:=r;exact .cons _ _ (ih h2)
theorem gX{c:Cx}{h:Heap}{xs:List Value}{is:List Int}(a:IntsAre xs is):bj c h (is.map .int) xs:=by
 induction a with
 |nil=>exact rfl
 |cons n t _ ih=>exact⟨_,_,rfl,⟨t,rfl⟩,ih⟩
noncomputable def Ey:Value->Int
 | .int i _=>i
 |_=>0
theorem nj:∀{L acc:List Value},acc.length=L.length->(∀(j:Nat) v,acc[j]?=some v->L[j]?=some v)->(∀v∈L,∃i t,v= .int i t)->IntsAre acc (L.map Ey)
 |[],[],_,_,_=>.nil
 |[],_::_,h,_,_=>by simp at h
 |_::_,[],h,_,_=>by simp at h
 |x::L,v::acc,hl,hv,hi=>by have e:=hv 0 v rfl;simp at e;subst e;obtain⟨i,t,rfl⟩:=hi _ (.head _);exact .cons _ _ (nj (by simpa using hl) (fun j u hu=>by simpa using hv (j+1) u (hu)) fun u hu=>hi u (.tail _ hu))
section
variable {c:Cy} {A:Around} {H:Z} {s:Shared} {m:Nat}
set_option maxHeartbeats 1600000 in
theorem vj(hh:A.handled=none)(I:Inv c.toCx H s){p:Addr}{is:List Int}(hp:H p=some (.list (is.map .int)))(qL:is.length<64){Q:V->Z->Prop}
  (h:∀D,H D=none->Q (.ref D) (H.set D (.list ((du is).map .int)))):
  wpAny c.M A (call (.type "set") [.ref p]) (fun v ah=>wpAny c.M A (call (.builtin "sorted") [v]) (Back c.toCx H s Q) bZ ah) bZ s:=by
 obtain⟨n,xs,g,r⟩:=I.obj p _ hp;have hlen:xs.toList.length=is.length:=by have:=r.len;simpa using this
 have Po:xs.size=is.length:=by simpa using hlen
 refine zN hh ⟨_,g,rfl,n,rfl⟩ (ni r) (by rw[Po];unfold scanBound;exact(aP 0x8007160a08040c008300001038016) qL hlen Po) fun aG Vp hS hG hk=>?_
 obtain⟨o,es,ep,t,ho,hx,hd,hE,hM,hb,hf,eM⟩:=hS;obtain⟨o',xN,WR,t',t6,oq,hg⟩:=hG;rw[ho]at t6;obtain rfl:=so t6;rw[hd]at oq;cases oq;have lL:∀b o,s.heap.get? b=some o->aG.get? b=some o:=fun b o e=>hk b o (zAo e) e;rw[Po]at hM eM;generalize hF:firstMet (fun i=>is.getD i 0) is.length=F at hM eM;have Vq:F.Nodup:=by rw[←hF];exact eS _ _
 have X0:∀z,z∈F↔z∈is:=fun z=>by
  have e1:=firstMet_any (fun i=>is.getD i 0) is.length z;rw[hF]at e1
  have e2:((List.range is.length).map fun i=>is.getD i 0)=is:=by
   apply ext_getElem
   .simp
   .intro i h1 h2;simp at h1;simp[List.getD,h1]
  rw[e2]at e1;have e3:F.any (·==z)=true↔z∈F:=by simp[any_eq_true]
  have e4:is.any (·==z)=true↔z∈is:=by simp[any_eq_true]
  rw[←e3];rw[←e4];rw[e1]
 have Nc:∀e∈es.toList,∃i t,e.2= .int i t:=fun e he=>by obtain⟨⟨k,t8,_⟩,_⟩:=hE e he;clear right_1;cases hv:e.2<;>rw[hv]at t8<;>simp[PySem.intKind,Value.isInt]at t8;subst t8;exact⟨_,_,rfl⟩
 have kN:(es.toList.map fun e=>Ey e.2).Perm F:=by
  refine iW F _ Vq (fun x hx=>?_) (by rw[zCe];rw[zBi];rw[eM];exact zAq _)
  obtain⟨e,he,t8⟩:=(hM x).mp (by simp only[any_eq_true];exact⟨x,hx,by simp⟩)
  refine zAt.mpr ⟨e,he,?_⟩;obtain⟨i,t,e1⟩:=Nc e he;rw[e1]at t8⊢;simp[PySem.intKind,Value.isInt]at t8;subst t8;rfl
 have X9:F.length<=is.length:=by rw[←hF];exact firstMet_length_le _ _
 refine call_function_entry kind_sorted plain_sorted entry_sorted (args_sorted1 _) ?_;unfold Builtin.«sorted»
 refine lk (m:=checkCount "sorted" 1 1 _) (Up ?_);refine lk (sS (by simp[hh]) ho hx.1 hd hf hb hg fun aL d tk acc L hL xb yy IV=>?_)
 have Ya:IntsAre acc ((L.map (·.2)).map Ey):=by
  refine nj (by simpa using yy) (fun j v e=>?_) fun v hv=>?_
  .obtain⟨e',h1,rfl⟩:=IV j v e;rw[zHw];rw[h1];rfl
  .obtain⟨e,he,rfl⟩:=zAt.mp hv;exact Nc e (hL.mem_iff.mp he)
 have nq:((L.map (·.2)).map Ey).Perm F:=by refine List.Perm.trans ?_ kN;rw[map_map];exact hL.map _
 have Nf:acc.length<64:=by have e1:=nq.length_eq;simp only[length_map]at e1;exact(ur 0x20708232831480c01930040c008300001038016) qL hlen Po X9 yy e1
 refine lk (wpAny_newList ?_ (cf Nf));have yx:(aL.push (seqObj "list" acc.toArray 0)).get? aL.objs.size=some (seqObj "list" acc.toArray 0):=zAr _ rfl;refine(?_:wpAny _ _ _ _ _ {s with heap:=aL.push (seqObj "list" acc.toArray 0),drawn:=d,toks:=tk})
 refine lk (zCt (zEu slot_list_sort ⟨_,yx,rfl⟩ entry_list_sort (list_sort_tree yx Ya Nf fun out Yb a1 a2 a3=>⟨_,rfl,?_⟩) (args_list_sort _)))
 have xc:∀b o,s.heap.get? b=some o->(sortedHeap (aL.push (seqObj "list" acc.toArray 0)) aL.objs.size acc out).get? b=some o:=fun b o e=>by
  have e2:=xb b o (lL b o e);have lt:=zAo e2;rw[sortedHeap_old (zBw lt) (by rw[size_push'];exact zGp lt)];rw[Heap.get?_push_ne _ _ _ (zBw lt)]
  exact e2
 have qv:Inv c.toCx H {s with heap:=sortedHeap (aL.push (seqObj "list" acc.toArray 0)) aL.objs.size acc out,drawn:=d,toks:=tk}:=
  Inv.same (I.grow (t:=tk) xc) rfl rfl rfl
 have oa:¬aQ H aL.objs.size:=fun hh=>by
  have aY:Inv c.toCx H {s with heap:=aL,toks:=tk}:=I.grow fun b o e=>xb b o (lL b o e)
  exact aY.gK (zAq _) hh
 have aY:Inv c.toCx H {s with heap:=aL,toks:=tk}:=I.grow fun b o e=>xb b o (lL b o e)
 have w9:s.heap.get? aL.objs.size=none:=(by
  cases q:s.heap.get? aL.objs.size with
  |none=>rfl
  |some o=>exact absurd (zAo (xb _ _ (lL _ _ q))) (zGy _))
 obtain⟨e,gD⟩:=sortedHeap_at (out:=out) yx
 have Kj:Yb=du is:=by refine gW (fun z=>?_) a3 ((a2.trans nq).nodup_iff.mpr Vq);rw[(a2.trans nq).mem_iff];rw[X0]
 clear a3 a2;subst Kj;exact Up ⟨_,rfl,.ref aL.objs.size,_,qv.kq gD (gX a1) oa (aY.cF (zAq _):c.base.get? aL.objs.size=none),(ay.Nb H xc).adopt w9,dA,h _ (aY.fresh (zAq _):H aL.objs.size=none)⟩
end
theorem SE.fO{sc:Sc}{y:Expr}{q:PE}{fp gp lp pos}(hx:aC y=false)(hg:sc.eW (Str.ofString "sorted")=true)(AZ:sc.eW (Str.ofString "set")=true)(b:SE sc y q):
  SE sc (.Call (.Name (Str.ofString "sorted") fp) [.Call (.Name (Str.ofString "set") gp) [y] [] lp] [] pos) (.b1 .fO q):=by
 refine .plain (fun c A env n ρ H s Q P h=>?_) (fun _ _=>rfl) (fun _ _ _ _ _=>rfl);dsimp only[bX]at h;refine Call_Name rfl (aX P.ok.h P hg (by decide) (v:=.builtin "sorted") (by decide+kernel) (AU rfl ?_) (by decide+kernel) (by decide+kernel))
 refine uP b hx P AZ (by decide) (id:="set") (by decide+kernel) h fun v ah y aa ai aq r q=>?_
 obtain⟨a,rfl,q⟩:=dy (P:=fun x=>wI .fO Q x aa) id (fun _=>id) (fun _=>id) (fun _=>id) id (fun _=>id) q;cases (show v= .ref a from r)
 obtain⟨l,hH,q⟩:=lst_inv (P:=DQ Q aa) id (fun _=>id) (fun _=>id) (fun _=>id) (fun _ _=>id) q;have q:wG Q aa (gI l):=q;cases hi:gI l with
 |none=>rw[hi]at q;exact q.elim
 |some is=>
  rw[hi]at q;obtain⟨q1,q2⟩:=q;have hi:=rY hi;subst hi;exact zAw (vj ai.R.1 ai.I hH q1 q2) (fun _ _ z=>zAw z (fun _ _ z=>Back.after aq z) fun _ _ e=>e) fun _ _ e=>e
section
theorem iz{it:Expr}(h:eh it=false):∀env x,foldedSetIterable it env x=pure x:=by intro env x;cases it<;>first |rfl |cases h
noncomputable def i5{α:Type}(b:Bool)(f:b=true->Option α):Option α:=if h:b=true then f h else none
noncomputable def rH{α:Type}(b:Bool)(f:b=false->Option α):Option α:=if h:b=false then f h else none
noncomputable abbrev TE(sc:Sc)(e:Expr):=Option {p:PE//SE sc e p}
noncomputable abbrev TS(sc:Sc)(e:Stmt):=Option {p:PS//SS sc e p}
section
variable {sc:Sc}
noncomputable def TE.to{e e':Expr}(x:TE sc e)(f:PE->PE)(h:∀{p},SE sc e p->SE sc e' (f p)):TE sc e':=x.map fun p=>⟨f p.1,h p.2⟩
noncomputable def TE.to2{vk vm e':Expr}(x:TE sc vk)(y:TE sc vm)(f:PE->PE->PE)(h:∀{p q},SE sc vk p->SE sc vm q->SE sc e' (f p q)):TE sc e':=x.bind fun p=>y.map fun q=>⟨f p.1 q.1,h p.2 q.2⟩
variable (r:∀e,TE sc e)
noncomputable def IX:∀es,Option {p//AL sc es p}
 |[]=>some ⟨_,.nil⟩
 |e::es=>rH (aC e) fun hs=>(r e).bind fun p=>(IX es).map fun q=>⟨_,.cons hs p.2 q.2⟩
noncomputable abbrev Yc(sc:Sc)(ks:List (Option Expr))(vs:List Expr):=(l:List Nat)×{p:PE//DL sc ks vs l p}
noncomputable def Vr:∀ks vs,Option (Yc sc ks vs)
 |[],[]=>some ⟨_,_,.nil⟩
 |some (.Constant (.str x) _ _)::ks,v::vs=>(fN x).pbind fun k hk=>(r v).bind fun p=>(Vr ks vs).bind fun l=>rH (l.1.contains k) fun hc=>some ⟨_,_,.cons hk hc p.2 l.2.2⟩
 |_,_=>none
noncomputable def Vs(op:BoolOp):∀es,Option {p//∀pos,SB sc op pos es p}
 |[]=>none
 |[e]=>(r e).map fun p=>⟨p.1,fun _=>SB.one p.2⟩
 |e::e'::es=>(r e).bind fun p=>(Vs op (e'::es)).map fun q=>⟨Ki op p.1 q.1,fun pos=>SB.cons p.2 (q.2 pos)⟩
noncomputable def Vt(it:Expr):Option {q:lj×PE//SI sc it q.1 q.2/\eh it=false}:=match it with
 | .Call (.Name f fp) [x] [] pos=>i5 (sc.eW f) fun hg=>rH (aC x) fun hs=>
   (i5 (f==Str.ofString "range") fun h=>(r x).map fun p=>⟨(.range,p.1),by cases eq_of_beq h;exact⟨SI.range hs hg p.2,rfl⟩⟩).or<|
   (i5 (f==Str.ofString "reversed") fun h=>(r x).map fun p=>⟨((.ll ()),p.1),by cases eq_of_beq h;exact⟨SI.ll hs hg p.2,rfl⟩⟩).or<|
   (r (.Call (.Name f fp) [x] [] pos)).map fun p=>⟨(.seq,p.1),SI.seq p.2,rfl⟩
 |it=>rH (eh it) fun hs=>(r it).map fun p=>⟨(.seq,p.1),SI.seq p.2,hs⟩
structure T1(sc:Sc) where
 n:Str
 b:B1
 ok:∀{x p fp pos},aC x=false->sc.eW n=true->SE sc x p->SE sc (.Call (.Name n fp) [x] [] pos) (.b1 b p)
structure T2(sc:Sc) where
 n:Str
 m:Str
 b:B1
 ok:∀{x p fp gp lp pos},aC x=false->sc.eW n=true->sc.eW m=true->SE sc x p->SE sc (.Call (.Name n fp) [.Call (.Name m gp) [x] [] lp] [] pos) (.b1 b p)
structure T3(sc:Sc) where
 n:Str
 f:PE->PE->PE
 ok:∀{x y p q fp pos},aC x=false->aC y=false->sc.eW n=true->SE sc x p->SE sc y q->SE sc (.Call (.Name n fp) [x,y] [] pos) (f p q)
noncomputable def Sj:List (T1 sc):=[⟨_,_,SE.len⟩,⟨_,_,SE.abs⟩,⟨_,_,SE.str1⟩,⟨_,_,SE.all⟩,⟨_,_,SE.tuple⟩]
noncomputable def Sk:List (T2 sc):=[⟨_,_,_,SE.ig⟩,⟨_,_,_,SE.fO⟩]
noncomputable def Sl:List (T3 sc):=[⟨_,_,SE.min2⟩,⟨_,_,SE.max2⟩]
section
variable (f:Str) (fp:Pos) (hg:sc.eW f=true)
noncomputable def Sm(x:Expr)(pos:Pos):TE sc (.Call (.Name f fp) [x] [] pos):=
 Sj.findSome? fun t:T1 sc=>i5 (f==t.n) fun h=>rH (aC x) fun hs=>(r x).map fun p=>⟨.b1 t.b p.1,by cases eq_of_beq h;exact t.ok hs hg p.2⟩
noncomputable def Sn(x y:Expr)(pos:Pos):TE sc (.Call (.Name f fp) [x,y] [] pos):=
 Sl.findSome? fun t:T3 sc=>i5 (f==t.n) fun h=>rH (aC x) fun hs=>rH (aC y) fun ua=>(r x).to2 (r y) t.f fun a b=>by cases eq_of_beq h;exact t.ok hs ua hg a b
noncomputable def So(x:Expr)(pos:Pos):TE sc (.Call (.Name f fp) [x] [] pos):=match x with
 | .Call (.Name g gp) [x] [] lp=>Sk.findSome? fun t:T2 sc=>i5 (f==t.n&&g==t.m) fun h=>rH (aC x) fun hs=>i5 (sc.eW g) fun AZ=>(r x).map fun p=>⟨.b1 t.b p.1,by simp only[and_eq_true,beq_iff_eq]at h;obtain⟨rfl,rfl⟩:=h;exact t.ok hs hg AZ p.2⟩
 |_=>none
noncomputable def Sp(x:Expr)(pos:Pos):TE sc (.Call (.Name f fp) [x] [] pos):=match x with
 | .Call (.Name g gp) [.Call (.Attribute y a ap) [] [] ip] [] lp=>i5 (sc.eW g&&f==Str.ofString "dict"&&g==Str.ofString "list"&&a==Str.ofString "items"&&bO y&&ap.endLine==ip.line) fun h=>(r y).map fun p=>⟨.b1 .kQ p.1,by simp only[and_eq_true,beq_iff_eq]at h;obtain⟨⟨⟨⟨⟨h0,rfl⟩,rfl⟩,rfl⟩,h1⟩,h2⟩:=h;exact SE.kQ h1 (beq_iff_eq.mpr h2) hg h0 p.2⟩
 |_=>none
noncomputable def Sq(x y:Expr)(pos:Pos):TE sc (.Call (.Name f fp) [x,y] [] pos):=match y with
 | .Name g gp=>i5 (f==Str.ofString "isinstance"&&g==Str.ofString "tuple"&&sc.eW g) fun h=>rH (aC x) fun hs=>(r x).map fun p=>⟨.b1 .fP p.1,by simp only[and_eq_true,beq_iff_eq]at h;obtain⟨⟨rfl,rfl⟩,h⟩:=h;exact SE.fP hs hg h p.2⟩
 |_=>none
noncomputable def Sr(x v:Expr)(kn:Str)(kp pos:Pos):TE sc (.Call (.Name f fp) [x] [⟨some kn,v,kp⟩] pos):=match v with
 | .Name g gp=>i5 (f==Str.ofString "sorted"&&kn==Str.ofString "key"&&g==Str.ofString "order_of"&&sc.eW g) fun h=>rH (aC x) fun hs=>(r x).map fun p=>⟨.ij p.1,by simp only[and_eq_true,beq_iff_eq]at h;obtain⟨⟨⟨rfl,rfl⟩,rfl⟩,h⟩:=h;exact SE.ij hs hg h p.2⟩
 |_=>none
noncomputable def Vu(args:List Expr)(zg:List Keyword)(pos:Pos):TE sc (.Call (.Name f fp) args zg pos):=match args with
 |[x]=>match zg with
  |[]=>(So r f fp hg x pos).or<|(Sp r f fp hg x pos).or (Sm r f fp hg x pos)
  |[⟨some kn,v,kp⟩]=>Sr r f fp hg x v kn kp pos
  |_=>none
 |[x,y]=>match zg with
  |[]=>(Sq r f fp hg x y pos).or (Sn r f fp hg x y pos)
  |_=>none
 |_=>none
end
noncomputable def Yd(o:Expr)(a:Str)(ap:Pos)(args:List Expr)(pos:Pos):TE sc (.Call (.Attribute o a ap) args [] pos):=
 i5 (ap.endLine==pos.line) fun hl=>i5 (bO o) fun ho=>(r o).bind fun p=>
  ((f9.lookup a).pbind fun m hm=>i5 (decide (args.length<20)) fun hn=>(IX r args).map fun q=>⟨.au p.1 m q.1,SE.au ho hl (zFq hn) hm p.2 q.2⟩).or<|
  match args with
  |[]=>i5 (a==Str.ofString "pop") fun h=>some ⟨.pop p.1,by cases eq_of_beq h;exact SE.pop ho hl p.2⟩
  |[x]=>(Ss ho hl p.2 x pos).or (Su ho hl p.2 x pos)
  |[x,y]=>i5 (a==Str.ofString "get") fun h=>rH (aC x) fun hs=>rH (aC y) fun ua=>(r x).to2 (r y) (.qr p.1) fun b c=>by cases eq_of_beq h;exact SE.qr ho hl hs ua p.2 b c
  |_=>none
where
 Ss {o:Expr} {a:Str} {ap:Pos} {p:PE} (ho:bO o=true) {pos:Pos} (hl:(ap.endLine==pos.line)=true) (hp:SE sc o p) (x:Expr) (_:Pos):TE sc (.Call (.Attribute o a ap) [x] [] pos):=match x with
  | .Call (.Name g gp) [x] [] lp=>rH (aC x) fun hs=>i5 (a==Str.ofString "extend"&&g==Str.ofString "reversed"&&sc.eW g) fun h=>(r x).map fun q=>⟨.my p q.1,by simp only[and_eq_true,beq_iff_eq]at h;obtain⟨⟨rfl,rfl⟩,h⟩:=h;exact SE.my ho hl hs h hp q.2⟩
  |_=>none
 Su {o:Expr} {a:Str} {ap:Pos} {p:PE} (ho:bO o=true) {pos:Pos} (hl:(ap.endLine==pos.line)=true) (hp:SE sc o p) (x:Expr) (_:Pos):TE sc (.Call (.Attribute o a ap) [x] [] pos):=rH (aC x) fun hs=>
  (i5 (a==Str.ofString "append") fun h=>(r x).to (.append p) fun q=>by cases eq_of_beq h;exact SE.append ho hl hs hp q).or
  (i5 (a==Str.ofString "extend") fun h=>(r x).to (.extend p) fun q=>by cases eq_of_beq h;exact SE.extend ho hl hs hp q)
noncomputable def Ye:∀ifs,Option {u//CT sc ifs u}
 |[]=>some ⟨_,CT.nil⟩
 |[c]=>(r c).map fun p=>⟨p.1,CT.one p.2⟩
 |_=>none
end
noncomputable abbrev LC(sc:Sc)(elt:Expr)(t:Str)(it:Expr)(ifs:List Expr)(scope:Scope):={x:lj×PE×PE×PE//fQ sc scope t=true/\SI sc it x.1 x.2.1/\SE (cg sc scope t) elt x.2.2.1/\CT (cg sc scope t) ifs x.2.2.2/\eh it=false}
noncomputable def Vv(R:∀sc e,TE sc e)(sc:Sc)(elt:Expr)(t:Str)(it:Expr)(ifs:List Expr)(scope:Scope):Option (LC sc elt t it ifs scope):=
 i5 (fQ sc scope t) fun hc=>(Vt (R sc) it).bind fun i=>(Ye (R (cg sc scope t)) ifs).bind fun u=>(R (cg sc scope t) elt).map fun q=>⟨(_,_,_,_),hc,i.2.1,q.2,u.2,i.2.2⟩
noncomputable def vn(k:Nat):∀sc e,TE sc e:=Nat.rec (fun _ _=>none) (fun _ R sc e=>match e with
  | .Constant v _ _=>match v with
   | .none=>some ⟨_,SE.none⟩
   | .bool _=>some ⟨_,SE.bool⟩
   | .int _=>some ⟨_,SE.int⟩
   | .str x=>(fN x).pbind fun j h=>some ⟨.cst (.str j),SE.str h⟩
   |_=>none
  | .Name x _=>((sc.eE.lookup x).pbind fun i h=>some ⟨.var i,SE.var h⟩).or<|i5 (sc.eW x) fun h1=>i5 (x !=Str.ofString "__debug__") fun h2=>(Ax.lookup x).pbind fun v h=>some ⟨.glob v,SE.glob h1 h2 h⟩
  | .Attribute o a _=>match o with
   | .Name _ _=>(gF a).pbind fun j h=>(R sc _).to (fun p=>.attr p j) fun p=>SE.AM h p fun _=>rfl
   | .Attribute _ _ _=>(gF a).pbind fun j h=>(R sc _).to (fun p=>.attr p j) fun p=>SE.AM h p fun _=>rfl
   | .Subscript _ _ _=>(gF a).pbind fun j h=>(R sc _).to (fun p=>.attr p j) fun p=>SE.AM h p fun _=>rfl
   |_=>none
  | .BinOp l op r _=>(mD op).pbind fun o h=>(R sc l).to2 (R sc r) (.bin o) (SE.bin h)
  | .UnaryOp op x _=>match op with
   | .USub=>(R sc x).to .neg SE.neg
   | .Not=>(R sc x).to .not SE.not
   | .Invert=>(R sc x).to .inv SE.inv
   |_=>none
  | .BoolOp op es _=>(Vs (R sc) op es).map fun p=>⟨p.1,SE.Mm p.2⟩
  | .Compare l ops xs z=>match ops with
   |[op]=>match xs with
    |[x]=>((match x with
     | .Constant v _ _=>match v with
      | .none=>match op with
       | .Is=>(R sc l).to .isNone SE.isNone
       | .IsNot=>(R sc l).to .isSome SE.isSome
       |_=>none
      |_=>none
     |_=>none):TE sc (.Compare l [op] [x] z)).or<|rH (eh x) fun hs=>(kR op).pbind fun o h=>(R sc l).to2 (R sc x) (.cmp o) (SE.cmp hs h)
    |_=>none
   |[gn,d7]=>match xs with
    |[x,y]=>rH (eh x) fun hs=>rH (eh y) fun ua=>(kR gn).pbind fun o h=>(kR d7).pbind fun o' h'=>(R sc l).bind fun a=>(R sc x).to2 (R sc y) (.xV o o' a.1) fun b d=>SE.xV hs ua h h' a.2 b d
    |_=>none
   |_=>none
  | .IfExp t a b _=>(R sc t).bind fun t=>(R sc a).to2 (R sc b) (.uE t.1) fun a b=>SE.uE t.2 a b
  | .List es _=>(IX (R sc) es).map fun p=>⟨.list p.1,SE.list p.2.sl⟩
  | .Tuple es _ _=>(IX (R sc) es).map fun p=>⟨.tup p.1,SE.tup p.2.sl⟩
  | .Dict ks vs _=>match ks with
   |[]=>match vs with
    |[]=>some ⟨_,SE.gJ⟩
    |_=>none
   |o::ks=>(Vr (R sc) (o::ks) vs).bind fun d=>i5 (decide ((o::ks).length<15)) fun h=>some ⟨_,SE.dict d.2.2 (succ_pos _) (zFq h)⟩
  | .Subscript v i z=>((match i with
   | .Slice lo hi st _=>match lo with
    |some lo=>match hi with
     |none=>match st with
      |none=>(R sc v).to2 (R sc lo) .drop SE.drop
      |_=>none
     |_=>none
    |none=>
         match hi with
     |some h=>match st with
      |none=>match h with
       | .Constant c _ _=>match c with
        | .int j=>i5 (decide (0<=j/\j<1000)) fun h=>(R sc v).to (fun p=>.Aj p j.toNat) (SE.Aj (zFq h))
        |_=>none
       |_=>none
      |_=>none
     |none=>
          match st with
      |some s=>match s with
       | .UnaryOp op x _=>match op with
        | .USub=>match x with
         | .Constant c _ _=>match c with
          | .int j=>i5 (j==1) fun h=>(R sc v).to .rev fun p=>by cases eq_of_beq h;exact SE.rev p
          |_=>none
         |_=>none
        |_=>none
       |_=>none
      |none=>none
   |_=>none):TE sc (.Subscript v i z)).or<|(R sc v).to2 (R sc i) .sub SE.sub
  | .ListComp elt gs scope _=>match gs with
   |[g]=>match g with
    |⟨tg,it,ifs,as⟩=>match tg with
     | .Name t _=>i5 (as==0) fun h=>(Vv R sc elt t it ifs scope).map fun c=>⟨.comp c.1.2.2.1 sc.tv c.1.1 c.1.2.1 c.1.2.2.2,by cases eq_of_beq h;exact SE.comp c.2.1 c.2.2.1 c.2.2.2.1 c.2.2.2.2.1 (iz c.2.2.2.2.2)⟩
     |_=>none
   |_=>none
  | .Call f args zg pos=>match f with
   | .Attribute o a ap=>match zg with
    |[]=>Yd (R sc) o a ap args pos
    |_=>none
   | .Name f fp=>i5 (sc.eW f) fun hg=>
    match zg with
    |[]=>((o6.lookup f).pbind fun fn h=>(IX (R sc) args).map fun p=>⟨.br fn p.1,SE.br hg h p.2⟩).or<|((kh.lookup f).pbind fun C h=>(IX (R sc) args).map fun p=>⟨.new C p.1,SE.new hg h p.2⟩).or<|Vu (R sc) f fp hg args [] pos
    |zg=>Vu (R sc) f fp hg args zg pos
   |_=>none
  |_=>none) k
theorem SS.fail{sc:Sc}{a b pos}:SS sc (.Raise a b pos) .fail:=fun c A env n ρ H s Q R P h=>False.elim h
noncomputable def xe:Expr->Bool
 | .ListComp .. =>false
 | .SetComp .. =>false
 | .DictComp .. =>false
 |_=>true
theorem vq{e:Expr}(h:xe e=true)(t):∀line env,swapsWith e t line env=pure false:=fun _ _=>by cases e<;>first |rfl |exact ft rfl h
noncomputable def vt{sc:Sc}(f:∀st,TS sc st):∀l,Option {p//sP sc l p}
 |[]=>some ⟨_,sP.nil⟩
 |s::l=>(f s).bind fun a=>(vt f l).map fun b=>⟨_,sP.cons a.2 b.2⟩
noncomputable def stN(sc:Sc)(x:Str):Option {i//sc.eE.lookup x=some i/\fv sc x=true}:=(sc.eE.lookup x).pbind fun i h=>i5 (fv sc x) fun h'=>some ⟨i,h,h'⟩
inductive Sv(sc:Sc)(it:Expr)(p:PE):Prop
 |mk (fp pos:Pos) (vk vm:Expr) (e:it= .Call (.Name (Str.ofString "zip") fp) [vk,vm] [] pos) (hg:sc.eW (Str.ofString "zip")=true) (h:AL sc [vk,vm] p)
noncomputable def Yf{sc:Sc}(r:∀e,TE sc e)(it:Expr):Option {p//Sv sc it p}:=match it with
 | .Call (.Name f fp) [vk,vm] [] pos=>i5 (f==Str.ofString "zip"&&sc.eW f) fun h=>(IX r [vk,vm]).map fun p=>⟨p.1,by simp only[and_eq_true,beq_iff_eq]at h;obtain⟨rfl,h⟩:=h;exact⟨fp,pos,_,_,rfl,h,p.2⟩⟩
 |_=>none
noncomputable def Yg(k:Nat):∀sc st,TS sc st:=Nat.rec (fun _ _=>none) (fun k R sc st=>match st with
  | .Pass _=>some ⟨_,SS.pass⟩
  | .Assign ts v z=>match ts with
   |[tg]=>
        match tg with
    | .Name x y=>((match v with
     | .ListComp elt gs scope _=>match gs with
      |[g]=>match g with
       |⟨tg,it,ifs,as⟩=>match tg with
        | .Name t _=>i5 (as==0) fun h=>(stN sc x).bind fun i=>(Vv (vn k) sc elt t it ifs scope).map fun c=>⟨.assign i.1 (.comp c.1.2.2.1 sc.tv c.1.1 c.1.2.1 c.1.2.2.2),by cases eq_of_beq h;exact SS.uW i.2.1 i.2.2 c.2.1 c.2.2.1 c.2.2.2.1 c.2.2.2.2.1 (iz c.2.2.2.2.2)⟩
        |_=>none
      |_=>none
     |_=>none):TS sc (.Assign [.Name x y] v z)).or<|i5 (xe v) fun h=>(stN sc x).bind fun i=>(vn k sc v).map fun p=>⟨.assign i.1 p.1,SS.assign i.2.1 i.2.2 p.2 (vq h _)⟩
    | .Tuple es _ _=>match es with
     |[a,b]=>match a with
      | .Name x _=>match b with
       | .Name y _=>(stN sc x).bind fun i=>(stN sc y).bind fun j=>i5 (i.1 !=j.1) fun h=>i5 (uI sc v) fun h'=>(vn k sc v).map fun p=>⟨.cm i.1 j.1 p.1,SS.cm i.2.1 i.2.2 j.2.1 j.2.2 (bne_iff_ne.mp h) h' p.2⟩
       |_=>none
      |_=>none
     |_=>none
    | .Attribute o a _=>match o with
     | .Name x q=>(gF a).pbind fun n h=>(vn k sc (.Name x q)).bind fun o=>(vn k sc v).map fun p=>⟨.setattr o.1 n p.1,SS.setattr h o.2 p.2⟩
     |_=>none
    | .Subscript o i _=>(vn k sc o).bind fun o=>(vn k sc i).bind fun i=>(vn k sc v).map fun p=>⟨.cC o.1 i.1 p.1,SS.cC o.2 i.2 p.2⟩
    |_=>none
   |_=>none
  | .Expr x _=>match x with
   | .Call f as ks q=>(vn k sc (.Call f as ks q)).map fun p=>⟨.expr p.1,SS.expr p.2 fun _ _=>rfl⟩
   |_=>none
  | .If t a b _=>(vn k sc t).bind fun t=>(vt (R sc) a).bind fun a=>(vt (R sc) b).map fun b=>⟨.ifs t.1 a.1 b.1,SS.ifs t.2 a.2 b.2⟩
  | .While t b l _=>match l with
   |[]=>(vn k sc t).bind fun t=>(vt (R sc) b).map fun b=>⟨.Dh t.1 b.1,SS.Dh t.2 b.2⟩
   |_=>none
  | .For tg it b l _=>match l with
   |[]=>
       match tg with
    | .Name x _=>(stN sc x).bind fun i=>(Vt (vn k sc) it).bind fun c=>(vt (R sc) b).map fun b=>⟨.gq i.1 c.1.1 c.1.2 b.1,SS.gq i.2.1 i.2.2 c.2.1 b.2 (iz c.2.2)⟩
    | .Tuple es _ _=>match es with
     |[a,b']=>match a with
      | .Name x _=>match b' with
       | .Name y _=>(stN sc x).bind fun i=>(stN sc y).bind fun j=>(vt (R sc) b).bind fun b=>
         ((Yf (vn k sc) it).map fun p=>⟨.sh i.1 j.1 .zip p.1 b.1,by obtain⟨_,_,_,_,rfl,hg,h⟩:=p.2;exact SS.En hg i.2.1 i.2.2 j.2.1 j.2.2 h b.2⟩).or<|
         rH (eh it) fun hs=>(vn k sc it).map fun p=>⟨.sh i.1 j.1 .seq p.1 b.1,SS.sh i.2.1 i.2.2 j.2.1 j.2.2 (SI.seq p.2) b.2 (iz hs)⟩
       |_=>none
      |_=>none
     |_=>none
    |_=>none
   |_=>none
  | .Return o _=>match o with
   |some e=>(vn k sc e).map fun p=>⟨.ret p.1,SS.ret p.2⟩
   |none=>some ⟨_,SS.An⟩
  | .Raise _ _ _=>some ⟨_,SS.fail⟩
  |_=>none) k
noncomputable def Ez(k:Nat)(sc:Sc)(l:List Stmt):Option PS:=(vt (Yg k sc) l).map (·.1)
theorem vv(k:Nat){sc:Sc}(l:List Stmt){p:PS}(h:Ez k sc l=some p):sP sc l p:=by obtain⟨q,_,rfl⟩:=zBt.mp h;exact q.2
end
theorem nu{β:Type}:∀(ns:List Str) (vs:List β),ns.Nodup->vs.length=ns.length->(ns.filterMap fun n=>((ns.zip vs).lookup n).map (n,·))=ns.zip vs
 |[],_,_,_=>rfl
 |n::ns,[],_,h=>by cases h
 |n::ns,v::vs,hn,h=>by
  obtain⟨h1,h2⟩:=zCq.mp hn;have ih:=nu ns vs h2 (by simpa using h)
  rw[zip_cons_cons];rw[filterMap_cons];simp only[lookup_cons,beq_self_eq_true,if_true,Option.map_some];congr 1;refine Eq.trans ?_ ih
  have:∀l:List Str,(∀x∈l,x≠n)->filterMap (fun x=>Option.map (fun y=>(x,y)) (match x==n with
    |true=>some v
    |false=>List.lookup x (ns.zip vs))) l=filterMap (fun x=>Option.map (fun y=>(x,y)) (List.lookup x (ns.zip vs))) l:=by
   intro l hl
   induction l with
   |nil=>rfl
   |cons x l ih=>
    rw[filterMap_cons];rw[filterMap_cons];rw[ih fun y hy=>hl y (.tail _ hy)];rw[zCr.mpr (hl x (.head _))]
  exact this ns fun x hx e=>h1 (e▸hx)
theorem td{β:Type}:∀(ns:List Str) (vs:List β),vs.length=ns.length->∀n∈ns,((ns.zip vs).lookup n).isNone=false
 |[],_,_,n,h=>by cases h
 |m::ns,[],h,_,_=>by cases h
 |m::ns,v::vs,h,n,hn=>by
  rw[zip_cons_cons];rw[zDr];cases e:n==m
  .have:n∈ns:=by
    clear h;rcases zAy.mp hn with rfl |h
    .simp at e
    .exact h
   exact td ns vs (by simpa using h) n this
  .rfl
theorem ba{a1 a2:Str}{ps b1 b4:List Arg}{b3 b6:Option Arg}{a8:Value}{b5:List (Option Expr)}{b7:List Expr}{a4:FuncBody}{a5:Scope}{a6:Addr}{a7:List (Str×Addr)}{a9 Vw Vx:Value}{Vy:Option Addr}{Vz VA:Value}{VB:Addr}{vals:List Value}
  (h1:b1=[]) (h2:b4=[]) (h3:b3=none) (h4:b6=none) (h5:a8= .none) (hn:(ps.map (·.arg)).Nodup) (hl:vals.length=ps.length):bindArgs ⟨a1,a2,⟨b1,ps,b3,b4,b5,b6,b7⟩,a4,a5,a6,a7,a8,a9,Vw,Vx,Vy,Vz,VA,VB⟩ ⟨vals,[]⟩=pure ((ps.map (·.arg)).zip vals):=by
 subst h1 h2 h3 h4 h5;have Gf:vals.length=(ps.map (·.arg)).length:=hl.trans (zCe _).symm
 have hm:∀l:List Str,(∀x∈l,x∈ps.map (·.arg))->List.filter (fun n=>(List.lookup n ((ps.map (·.arg)).zip vals)).isNone) l=[]:=fun l h=>List.filter_eq_nil_iff.mpr fun n zh=>by rw[td _ _ Gf n (h n zh)];exact Bool.false_ne_true
 have e0:drop (([]:List Value).length-(ps.map (·.arg)).length) ([]:List Value)=[]:=List.drop_nil;generalize hL:ps.map (·.arg)=L at*;refine Eq.trans (b:=if (decide (vals.length>L.length)&&true)=true then _ else if (!(List.filter (fun n=>(List.lookup n (L.zip vals)).isNone) (L.take (L.length-(drop (([]:List Value).length-L.length) ([]:List Value)).length))).isEmpty)=true then _ else forIn ((drop (L.length-(drop (([]:List Value).length-L.length) ([]:List Value)).length) L).zip (drop (([]:List Value).length-L.length) ([]:List Value))) (L.zip vals) _>>=fun s=>(pure (filterMap (fun n=>Option.map (n,·) (List.lookup n s)) (L++[])):Sem (List (Str×Value)))) (by rw[←hL];rfl) ?_
 refine(zAi ?_).trans ((zAi ?_).trans ?_)
 .rw[Gf];simp
 .rw[hm _ fun x h=>List.mem_of_mem_take h];exact Bool.false_ne_true
 .rw[e0];rw[List.zip_nil_right];rw[zDp];exact zEy (pure (f:=Sem)) (nu L vals hn Gf)
theorem qN{fd:FuncData}{vals:List Value}(h1:fd.params.posonlyargs=[])(h2:fd.params.kwonlyargs=[])(h3:fd.params.vararg=none)(h4:fd.params.kwarg=none)(h5:fd.defaults= .none)
  (hn:(fd.params.args.map (·.arg)).Nodup) (hl:vals.length=fd.params.args.length):bindArgs fd ⟨vals,[]⟩=pure ((fd.params.args.map (·.arg)).zip vals):=
 ba (a1:=fd.name) (a2:=fd.qualname) (b5:=fd.params.kw_defaults) (b7:=fd.params.defaults) (a4:=fd.body) (a5:=fd.scope) (a6:=fd.globals) (a7:=fd.closure) (a9:=fd.kwdefaults) (Vw:=fd.doc) (Vx:=fd.pyModule) (Vy:=fd.annotations) (Vz:=fd.code) (VA:=fd.closureTuple) (VB:=fd.builtins) h1 h2 h3 h4 h5 hn hl
noncomputable def BC(K:Frag)(fd:FuncData)(sc:Sc)(ix:List Nat):Bool:=
 fd.params.posonlyargs.isEmpty&&fd.params.kwonlyargs.isEmpty&&fd.params.vararg.isNone&&fd.params.kwarg.isNone&&fd.closure.isEmpty&&
 decide (fd.params.args.map (·.arg)).Nodup&&fd.globals==mainGlobals&&fd.builtins==builtinsNs&&codeIn K fd.code fd.qualname&&
 !fd.scope.isCoroutine&&!fd.scope.isGenerator&&
 decide (ix.length=fd.params.args.length)&&ix.all (fun i=>i<sc.tv)&&decide ix.Nodup&&
 ((fd.params.args.map (·.arg)).zip ix).all (fun p=>sc.eE.lookup p.1==some p.2)&&
 sc.eE.all (fun p=>(fd.scope.names.lookup p.1==some .local||fd.scope.names.lookup p.1==some .cell)&&!(p.1==("__debug__":Str))&&decide (p.2<sc.tv))&&
 decide (sc.eE.map (·.1)).Nodup&&decide (sc.eE.map (·.2)).Nodup&&!sc.nest&&
 decide (fd.scope.names.map (·.1)).Nodup
inductive Ng(K:Frag)(fd:FuncData)(sc:Sc)(ix:List Nat)(body:List Stmt):Prop
 |mk (b:BC K fd sc ix=true) (names:sc.names=fd.scope.names) (body:fd.body= .stmts body) (dflt:fd.defaults= .none) (kind:fd.scope.kind= .function)
theorem zip_get{β:Type}:∀{ns:List Str} {vs:List β} {k:Nat} {x:Str} {u:β},ns.Nodup->ns[k]?=some x->vs[k]?=some u->(ns.zip vs).lookup x=some u:=by
 intro ns
 induction ns with
 |nil=>intro _ _ _ _ _ e _;exact sn e rfl
 |cons n ns ih=>
  intro vs k x u hn e1 e2;cases vs with
  |nil=>exact sn e2 rfl
  |cons v vs=>
   cases k with
   |zero=>obtain rfl:=so e1;obtain rfl:=so e2;simp[zip_cons_cons,lookup_cons]
   |succ k=>
    obtain⟨h1,h2⟩:=zCq.mp hn;have e1:ns[k]?=some x:=e1
    have:(x==n)=false:=by refine zCr.mpr fun e=>h1 ?_;rw[←e];exact zFr e1
    rw[zip_cons_cons];rw[zDr];rw[this];exact ih h2 e1 e2
theorem k7{kf:Str->Option NameKind}{x:Str}:∀(b:List (Str×Value)) (m:Str->Option Value),b.lookup x=none->bindL kf b m x=m x
 |[],m,_=>rfl
 |(n,v)::r,m,h=>by
  rw[zDr]at h;cases e:x==n with
  |true=>rw[e]at h;exact sn h.symm rfl
  |false=>
   rw[e]at h;unfold bindL;rw[k7 r _ h];split
   .exact zAi (zCr.mp e)
   .rfl
theorem te{kf:Str->Option NameKind}{x:Str}:∀(b:List (Str×Value)) (m:Str->Option Value),b.lookup x=none->bindC kf b m x=m x:=by
 intro zl
 induction zl with
 |nil=>
  rintro m _;exact rfl
 |cons zp r ih=>
  obtain⟨n,v⟩:=zp;rintro m h;rw[zDr]at h;cases e:x==n with
  |true=>rw[e]at h;exact sn h.symm rfl
  |false=>
   rw[e]at h;unfold bindC;rw[ih _ h];split
   .rfl
   .exact zAi (zCr.mp e)
theorem gY{β:Type}{x:Str}:∀{b:List (Str×β)},x∉b.map (·.1)->b.lookup x=none:=by
 intro zl
 induction zl with
 |nil=>
  rintro _;exact rfl
 |cons zp r ih=>
  obtain⟨n,v⟩:=zp;rintro h;simp only[map_cons,mem_cons,not_or]at h;rw[zDr];rw[zCr.mpr h.1];exact ih h.2
theorem tf{kf:Str->Option NameKind}{x:Str}{u:Value}(hk:kf x=some .local):∀(b:List (Str×Value)) (m:Str->Option Value),(b.map (·.1)).Nodup->b.lookup x=some u->bindL kf b m x=some u
 |[],m,_,h=>sn h rfl
 |(n,v)::r,m,hn,h=>by
  rw[map_cons,zCq]at hn;rw[zDr]at h;unfold bindL;cases e:x==n with
  |true=>
   rw[e]at h;obtain rfl:=so h;obtain rfl:=eq_of_beq e;rw[k7 _ _ (gY hn.1),zBq hk,zBq rfl]
  |false=>rw[e]at h;exact tf hk r _ hn.2 h
theorem th{kf:Str->Option NameKind}{x:Str}{u:Value}(hk:kf x≠some .local):∀(b:List (Str×Value)) (m:Str->Option Value),(b.map (·.1)).Nodup->b.lookup x=some u->bindC kf b m x=some u
 |[],m,_,h=>sn h rfl
 |(n,v)::r,m,hn,h=>by
  rw[map_cons,zCq]at hn;rw[zDr]at h;unfold bindC;cases e:x==n with
  |true=>
   rw[e]at h;obtain rfl:=so h;obtain rfl:=eq_of_beq e;rw[te _ _ (gY hn.1),zAi hk,zBq rfl]
  |false=>rw[e]at h;exact th hk r _ hn.2 h
set_option tactic.hygienic true in
theorem cellsFrom_some{x:Str}:∀(names:List (Str×NameKind)) (n:Nat) (acc:List (Str×Addr)),(x,NameKind.cell)∈names\/(acc.lookup x).isSome=true->((cellsFrom n names acc).lookup x).isSome=true:=by
 intro zl
 induction zl with
 |nil=>
  rintro n acc h;rcases h with h |h
  .cases h
  .exact h
 |cons zp r ih=>
  obtain⟨y,k⟩:=zp;rintro n acc h;unfold cellsFrom;split
  .rename_i hk
   refine ih _ _ ?_;rcases h with h |h
   .rcases zAy.mp h with e |h
    .clear hk h;cases e;right;simp[lookup_cons]
    .exact .inl h
   .right;rw[zDr];split
    .rfl
    .exact h
  .rename_i hk
   refine ih _ _ ?_;rcases h with h |h
   .rcases zAy.mp h with e |h
    .clear h;cases e;exact absurd rfl hk
    .exact .inl h
   .exact .inr h
theorem xf{l:List (Str×Nat)}:(l.map (·.2)).Nodup->∀{x y:Str} {i:Nat},(x,i)∈l->(y,i)∈l->x=y:=by
 induction l with
 |nil=>intro _ x y i h;cases h
 |cons p l ih=>
  intro hn x y i h h';rw[map_cons,zCq]at hn;simp only[mem_map,Prod.exists,exists_eq_right,not_exists]at hn;rcases zAy.mp h with e1 |g
  .clear h;subst e1;rcases zAy.mp h' with e |g'
   .clear h';cases e;rfl
   .exact absurd g' (hn.1 y)
  .clear h;rcases zAy.mp h' with e |g'
   .subst e;exact absurd g (hn.1 x)
   .exact ih hn.2 g g'
theorem yz{c:Cy}{K:Frag}{mg mb:Str->Option Value}(ok:Ok c K mg mb){a:Addr}{o:Obj}{fd:FuncData}{sc:Sc}{ix:List Nat}{body:List Stmt}{k:Nat}{p:PS}(ho:K.lookup a=some o)(hd:o.data= .func fd)
  (fo:Ng K fd sc ix body) (hp:Ez k sc body=some p) {m:Nat} {l:List V} {H:Z} {Q:V->Z->Prop} (hl:l.length=ix.length) {mY:List (Option V)} (IY:∀i v,cO mY i=some v->∃k:Nat,ix[k]?=some i/\l[k]?=some v)
  (h:wpS c m p mY H (fun _ H'=>Q .none H') Q) {A:Around} {s:Shared} {vs:List Value} (R:jE A (m+1)) (I:Inv c.toCx H s) (hv:bj c.toCx s.heap l vs):
  codeAny c.M A (.call (.ref a) ⟨vs,[]⟩) (zX c.toCx H s Q) s:=by
 obtain⟨b,BD,Nh,Ni,d8⟩:=fo;simp only[BC,and_eq_true,List.isEmpty_iff,Option.isNone_iff_eq_none,decide_eq_true_eq,beq_iff_eq,not_eq_true',List.all_eq_true,or_eq_true]at b;obtain⟨⟨⟨⟨⟨⟨⟨⟨⟨⟨⟨⟨⟨⟨⟨⟨⟨⟨⟨h1,h2⟩,h3⟩,h4⟩,h5⟩,h6⟩,h7⟩,h8⟩,h9⟩,lM⟩,Yh⟩,Sw⟩,h13⟩,h14⟩,Ph⟩,Yi⟩,h17⟩,VC⟩,h19⟩,h20⟩:=b;have hlen:vs.length=fd.params.args.length:=by rw[hv.len];rw[hl];rw[Sw]
 have hN:((fd.params.args.map (·.arg)).zip vs).map (·.1)=fd.params.args.map (·.arg):=List.map_fst_zip (by simp[hlen])
 have KX:=I.kx ok;have Yj:A.depth<recursionLimit:=by have:=R.2.1;exact(aD 0x7d1c008000fa38b0d01416) this
 have IZ:∀x i,sc.eE.lookup x=some i->(fd.scope.names.lookup x=some .local\/fd.scope.names.lookup x=some .cell)/\(x==("__debug__":Str))=false:=fun x i hx=>by have:=Yi _ (mem_of_lookup hx);exact⟨this.1.1,this.1.2⟩
 have Nj:∀k x i,(fd.params.args.map (·.arg))[k]?=some x->ix[k]?=some i->sc.eE.lookup x=some i:=fun k x i e1 e2=>by refine Ph (x,i) ?_;refine zFr (i:=k) ?_;rw[List.getElem?_zip_eq_some];exact⟨e1,e2⟩
 have GC:∀x,fd.scope.names.lookup x=some .cell->((cellsFrom (s.heap.objs.size+1) fd.scope.names []).lookup x).isSome=true:=fun x hx=>cellsFrom_some _ _ _ (.inl (mem_of_lookup hx));refine codeAny_call_cells Yj (KX _ _ ho) hd (ok.nolimit.keeps I.base) (codeRec_of KX h9) Nh (qN h1 h2 h3 h4 Ni h6 hlen) h5 (fun x hx=>?_) (fun ah x=>?_) lM Yh d8
 .have hm:x.1∈fd.params.args.map (·.arg):=hN▸zAt.mpr ⟨x,hx,rfl⟩;obtain⟨k,hk,e⟩:=List.getElem_of_mem hm;have e1:(fd.params.args.map (·.arg))[k]?=some x.1:=by rw[zAe hk];rw[e]
  have p4:k<ix.length:=by rw[Sw];simpa using hk
  have:=(IZ _ _ (Nj k _ _ e1 (zAe p4))).1;rcases this with h |h
  .exact .inl h
  .exact .inr ⟨h,GC _ h⟩
 ·-- the body
  obtain⟨h',tk,rfl⟩:=x.toInCall.same;have kp:=x.toInCall.keep
  have GD:∀b,s.heap.objs.size<=b->c.base.get? b=none:=fun b hb=>by
   cases q:c.base.get? b with
   |none=>rfl
   |some o=>exact absurd (zAo (I.base _ _ q)) (zGq.mpr hb)
  have Yk:∀b,s.heap.objs.size<=b->s.heap.get? b=none:=fun b hb=>by
   cases q:s.heap.get? b with
   |none=>rfl
   |some o=>exact absurd (zAo q) (zGq.mpr hb)
  have VD:∀b o,¬(False)->s.heap.get? b=some o->h'.get? b=some o:=fun b o _ e=>kp b o e;have bC:Inv c.toCx H {s with heap:=h',toks:=tk}:=I.move (X:=fun _=>False) VD (fun _ h=>h.elim) eC.none (fun _ h=>h.elim)
  have aq:Step H H s {s with heap:=h',toks:=tk}:=ay.move H VD (fun _ h=>h.elim)
  have Sx:∀y,(callEnvC fd s.heap.objs.size a).kindOf y=fd.scope.names.lookup y:=fun _=>rfl;have Sy:∀y ca,(callEnvC fd s.heap.objs.size a).cells.lookup y=some ca->s.heap.objs.size<ca:=fun y ca e=>x.above y ca (mem_of_lookup e)
  have gE:∀y i v,sc.eE.lookup y=some i->cO mY i=some v->∃u,((fd.params.args.map (·.arg)).zip vs).lookup y=some u/\VR c.toCx h' v u:=fun y i v hy hg=>by
   obtain⟨k,e1,e2⟩:=IY _ _ hg;obtain⟨u,e3,e4⟩:=hv.at k e2;have hk:k<fd.params.args.length:=by rw[←Sw];exact(zCy.mp e1).1
   obtain⟨z,e5⟩:∃z,(fd.params.args.map (·.arg))[k]?=some z:=⟨_,zAe (by simpa using hk)⟩
   have e7:y=z:=xf VC (mem_of_lookup hy) (mem_of_lookup (Nj k _ _ e5 e1));refine⟨u,zip_get h6 (by rw[e7];exact e5) e3,VR.mono (fun b xs n _ e=>kp _ _ e) _ e4⟩
  have Nk:(((fd.params.args.map (·.arg)).zip vs).map (·.1)).Nodup:=by rw[hN];exact h6
  have uX:aW c.toCx (callEnvC fd s.heap.objs.size a) sc mY H h':=by
   refine⟨d8,h7,h8,fun y hy=>?_,fun _ y=>?_,GD _ (zAq _),fun ho=>zGy _ (I.sq ho),⟨_,x.toInCall.ns,fun y i hy hk v hg=>?_⟩,fun y i hy=>?_,fun y i hy=>(IZ y i hy).2,fun y z ca e1 e2=>name_of_addr x.apart (mem_of_lookup e1) (mem_of_lookup e2),fun y z i e1 e2=>xf VC (mem_of_lookup e1) (mem_of_lookup e2)⟩
   .rw[Sx];rw[←BD];simpa[Sc.eW]using hy
   .rw[Sx];rw[BD]
   .obtain⟨u,e1,e2⟩:=gE y i v hy hg;exact⟨u,tf hk _ _ Nk e1,e2⟩
   .rcases(IZ y i hy).1 with h |h
    .exact .inl h
    .refine .inr ⟨.inl h,?_⟩;obtain⟨ca,Ku⟩:=zAp.mp (GC y h);have Ku:(callEnvC fd s.heap.objs.size a).cells.lookup y=some ca:=Ku;refine⟨ca,_,Ku,GD _ (Nat.le_of_lt (Sy _ _ Ku)),fun e=>?_,x.cell y ca Ku,fun v hg=>?_⟩
     .have:ca=s.heap.objs.size:=e;exact absurd (Sy _ _ Ku) (by rw[this];exact zGy _)
     .obtain⟨u,e1,e2⟩:=gE y i v hy hg;exact⟨u,th (by rw[Sx];rw[h];simp) _ _ Nk e1,e2⟩
  have P:At c sc (A.deeper (callEnvC fd s.heap.objs.size a)) (callEnvC fd s.heap.objs.size a) m mY H {s with heap:=h',toks:=tk}:=
   ⟨⟨K,mg,mb,ok⟩,⟨R.1,by have:=R.2.1;refine(?_:A.depth+1+m<_);exact(aD 0x7d1c0ac14a08000fa38b0d01416) this,by have:=R.2.2;refine(?_:A.units+3+16*m+16<_);exact(aD 0x135670000021c0c3ad05294100135670000021c58690e829416) this⟩,bC,uX⟩
  have fin:∀{x:V} {v:Value} {H':Z} {s':Shared},Inv c.toCx H' s'->ay (FX (callEnvC fd s.heap.objs.size a) sc) H H' {s with heap:=h',toks:=tk} s'->VR c.toCx s'.heap x v->Q x H'->Back c.toCx H s Q v s':=by
   intro x v H' s' I' S' r q;refine⟨x,H',I',⟨fun b o e n _=>S'.keep b o (kp _ _ e) n (fun hX=>?_),fun b ho=>?_,fun b hb=>S'.live b (aq.live b hb)⟩,r,q⟩
   .have hb:=zAo e;clear n e;rcases hX with rfl |⟨y,i,_,hc,_⟩
    .exact zGy _ hb
    .exact zGy _ (Nat.lt_trans hb (Sy _ _ hc))
   .rcases S'.sub b ho with h |h
    .exact .inl h
    .refine .inr ?_;cases q:s.heap.get? b with
     |none=>rfl
     |some o=>
      have:h'.get? b=none:=h;exact sn (kp _ _ q) this
  refine zAw (bD (vv k body hp c _ _ _ _ _ _ _ _ P h)) (fun f s' z=>?_) fun _ _ e=>e;cases f with
  |next=>obtain⟨kW,H',I',S',F',q⟩:=z;exact fin I' S' iq q
  |ret v=>obtain⟨w,H',I',S',r,q⟩:=z;exact fin I' S' r q
  |_=>exact z.elim
noncomputable def Pp:PS:=(.seq (.assign 13 (.br 57 (.cons (.var 2) (.cons (.var 12) .nil)))) (.seq (.ifs (.cmp .ne (.br 60 (.cons (.sub (.var 11) (.cst (.int 0))) (.cons (.br 62 (.cons (.sub (.var 9) (.cst (.int 0))) (.cons (.var 5) (.cons (.var 12) .nil)))) .nil))) (.var 13)) (.seq (.ret (.cst (.bool false))) .skip) .skip) (.seq (.ifs (.cmp .eq (.br 60 (.cons (.sub (.var 11) (.cst (.int 1))) (.cons (.br 62 (.cons (.sub (.var 9) (.cst (.int 1))) (.cons (.var 5) (.cons (.var 12) .nil)))) .nil))) (.var 13)) (.seq (.ret (.cst (.bool false))) .skip) .skip) (.seq (.assign 14 (.br 59 (.cons (.sub (.var 11) (.cst (.int 2))) (.cons (.br 62 (.cons (.sub (.var 9) (.cst (.int 2))) (.cons (.var 5) (.cons (.var 12) .nil)))) .nil)))) (.seq (.ifs (.wO (.isNone (.var 14)) (.wO (.cmp .ne (.b1 .len (.var 14)) (.attr (.sub (.var 8) (.cst (.int 2))) 3)) (.cmp .ne (.sub (.var 14) (.b1 .abs (.var 10))) (.cmp .eq (.cmp .gt (.var 10) (.cst (.int 0))) (.var 13))))) (.seq (.ret (.cst (.bool false))) .skip) .skip) .skip)))))
noncomputable def VE:PS:=(.seq (.assign 12 (.list (.cons (.cmp .eq (.bin .mod (.var 4) (.cst (.int 2))) (.cst (.int 1))) (.cons (.cmp .eq (.bin .mod (.bin .fdiv (.var 4) (.cst (.int 2))) (.cst (.int 2))) (.cst (.int 1))) (.cons (.cmp .eq (.bin .fdiv (.var 4) (.cst (.int 4))) (.cst (.int 1))) .nil))))) Pp)
noncomputable def Pq:PS:=(.seq (.gq 4 .range (.cst (.int 8)) VE) (.seq (.ret (.cst (.bool true))) .skip))
noncomputable def Pr:PS:=(.seq (.assign 11 (.comp (.rev (.attr (.var 15) 4)) 15 .seq (.var 8) (.cst (.bool true)))) Pq)
noncomputable def Pt:PS:=(.seq (.ifs (.wO (.not (.b1 .all (.comp (.br 61 (.cons (.var 15) .nil)) 15 .seq (.var 8) (.cst (.bool true))))) (.cmp .ne (.attr (.sub (.var 8) (.cst (.int 0))) 0) (.bin .mul (.list (.cons (.cst .none) .nil)) (.b1 .len (.attr (.sub (.var 8) (.cst (.int 0))) 4))))) (.seq (.ret (.cst (.bool false))) .skip) .skip) (.seq (.ifs (.cmp .ne (.comp (.tup (.cons (.cst (.str 16)) (.cons (.var 15) .nil))) 15 .seq (.attr (.sub (.var 8) (.cst (.int 2))) 4) (.cst (.bool true))) (.comp (.tup (.cons (.au (.var 7) 6 (.cons (.var 15) .nil)) (.cons (.au (.var 7) 5 (.cons (.var 15) .nil)) .nil))) 15 .seq (.attr (.sub (.var 8) (.cst (.int 2))) 0) (.cst (.bool true)))) (.seq (.ret (.cst (.bool false))) .skip) .skip) Pr))
noncomputable def Pu:PS:=(.seq (.expr (.au (.sub (.var 9) (.cst (.int 0))) 30 (.cons (.var 6) (.cons (.cst (.int 0)) .nil)))) (.seq (.expr (.au (.sub (.var 9) (.cst (.int 1))) 30 (.cons (.au (.var 3) 44 (.cons (.var 6) .nil)) (.cons (.cst (.int 0)) .nil)))) (.seq (.assign 10 (.au (.sub (.var 9) (.cst (.int 2))) 24 (.cons (.var 6) .nil))) Pt)))
noncomputable def Kv:PS:=(.seq (.assign 7 (.new (.proof ()) .nil)) (.seq (.assign 8 (.list (.cons (.new .store .nil) (.cons (.new .store .nil) (.cons (.new .store .nil) .nil))))) (.seq (.assign 9 (.list (.cons (.new .maker (.cons (.var 3) (.cons (.sub (.var 8) (.cst (.int 0))) (.cons (.cst .none) .nil)))) (.cons (.new .maker (.cons (.var 3) (.cons (.sub (.var 8) (.cst (.int 1))) (.cons (.cst .none) .nil)))) (.cons (.new .maker (.cons (.var 3) (.cons (.sub (.var 8) (.cst (.int 2))) (.cons (.var 7) .nil)))) .nil))))) Pu)))
noncomputable def Nl:PS:=(.seq (.assign 1 (.dict [13,14,15] (.cons (.comp (.b1 .abs (.var 15)) 15 .seq (.Aj (.var 0) 24) (.cst (.bool true))) (.cons (.cst (.int 0)) (.cons (.cst (.int 6)) .nil))))) (.seq (.assign 2 (.br 55 (.cons (.var 1) (.cons (.cst (.int 3)) .nil)))) (.seq (.assign 3 (.new .aM .nil)) (.seq (.assign 5 (.comp (.au (.var 3) 36 (.cons (.bin .add (.cst (.str 22)) (.b1 .str (.var 15))) (.cons (.glob (.int 0)) .nil))) 15 .range (.cst (.int 3)) (.cst (.bool true)))) (.seq (.assign 6 (.br 56 (.cons (.var 3) (.cons (.var 5) (.cons (.var 2) .nil))))) Kv)))))
noncomputable def rows:List (Addr×Nat×Nat×PS):=[(105,1,1,(.seq (.ret (.tup (.cons (.b1 .abs (.var 0)) (.cons (.cmp .gt (.var 0) (.cst (.int 0))) .nil)))) .skip)),(112,1,3,(.seq (.assign 1 .gJ) (.seq (.gq 2 .seq (.var 0) (.seq (.ifs (.cmp .qe (.neg (.var 2)) (.var 1)) (.seq (.ret (.cst .none)) .skip) .skip) (.seq (.cC (.var 1) (.var 2) (.cst (.bool true))) .skip))) (.seq (.ret (.b1 .tuple (.ij (.var 1)))) .skip)))),(119,1,2,(.seq (.gq 1 .range (.b1 .len (.var 0)) (.seq (.ifs (.cmp .eq (.sub (.var 0) (.var 1)) (.cst (.int 0))) (.seq (.ret (.cst (.bool false))) .skip) .skip) (.seq (.ifs (.iH (.cmp .gt (.var 1) (.cst (.int 0))) (.cmp (.ge ()) (.b1 .abs (.sub (.var 0) (.bin .sub (.var 1) (.cst (.int 1))))) (.b1 .abs (.sub (.var 0) (.var 1))))) (.seq (.ret (.cst (.bool false))) .skip) .skip) .skip))) (.seq (.ret (.cst (.bool true))) .skip))),(133,1,1,(.seq (.setattr (.var 0) 0 (.list .nil)) (.seq (.setattr (.var 0) 1 (.list (.cons (.cst (.int 0)) .nil))) (.seq (.setattr (.var 0) 2 (.neg (.cst (.int 1)))) .skip)))),(140,3,3,(.seq (.ifs (.cmp .ne (.var 1) (.b1 .len (.attr (.var 0) 1))) (.seq .fail .skip) .skip) (.seq (.expr (.append (.attr (.var 0) 1) (.var 2))) .skip))),(168,2,2,(.seq (.ret (.sub (.sub (.attr (.var 0) 0) (.var 1)) (.cst (.int 1)))) .skip)),
 (175,2,2,(.seq (.ret (.sub (.sub (.attr (.var 0) 0) (.var 1)) (.cst (.int 0)))) .skip)),(182,5,7,(.seq (.assign 5 (.b1 .len (.attr (.var 0) 0))) (.seq (.ifs (.cmp .dr (.var 1) (.glob (.tup [(.str 17),(.str 16),(.str 29),(.str 30),(.str 31),(.str 32),(.str 33),(.str 34),(.str 35),(.str 36),(.str 37)]))) (.seq .fail .skip) .skip) (.seq (.ifs (.not (.br 2 (.cons (.var 2) .nil))) (.seq .fail .skip) .skip) (.seq (.gq 6 .seq (.var 3) (.seq (.ifs (.not (.xV .le .lt (.cst (.int 0)) (.var 6) (.var 5))) (.seq .fail .skip) .skip) .skip)) (.seq (.expr (.append (.attr (.var 0) 0) (.tup (.cons (.var 1) (.cons (.b1 .tuple (.var 2)) (.cons (.b1 .tuple (.var 3)) (.cons (.var 4) .nil))))))) (.seq (.ifs (.iH (.cmp .eq (.b1 .len (.var 2)) (.cst (.int 0))) (.cmp .lt (.attr (.var 0) 2) (.cst (.int 0)))) (.seq (.setattr (.var 0) 2 (.var 5)) .skip) .skip) (.seq (.ret (.var 5)) .skip)))))))),(256,2,3,(.seq (.assign 2 (.au (.var 0) 37 (.cons (.var 1) .nil))) (.seq (.ifs (.cmp .eq (.var 2) (.cst (.str 7))) (.seq (.ret (.cmp .eq (.au (.var 0) 39 (.cons (.sub (.au (.var 0) 38 (.cons (.var 1) .nil)) (.cst (.int 0))) .nil)) (.au (.var 0) 39 (.cons (.var 1) .nil)))) .skip) .skip) (.seq (.ret (.wO (.cmp .qe (.var 2) (.glob (.tup [(.str 0),(.str 1),(.str 3),(.str 4),(.str 5),(.str 6),(.str 9)]))) (.cmp .eq (.var 2) (.cst (.str 8))))) .skip)))),(261,2,3,(.seq (.assign 2 (.comp (.tup (.cons (.glob (.int 1)) (.cons (.tup (.cons (.neg (.var 0)) (.cons (.var 3) .nil))) .nil))) 3 .seq (.var 1) (.cst (.bool true)))) (.seq (.expr (.append (.var 2) (.tup (.cons (.glob (.int 2)) (.cons (.bin .add (.tup (.cons (.var 0) .nil)) (.b1 .tuple (.comp (.neg (.var 3)) 3 .seq (.var 1) (.cst (.bool true))))) .nil))))) (.seq (.ret (.var 2)) .skip)))),(266,2,3,(.seq (.assign 2 (.list (.cons (.tup (.cons (.glob (.int 1)) (.cons (.bin .add (.tup (.cons (.neg (.var 0)) .nil)) (.b1 .tuple (.var 1))) .nil))) .nil))) (.seq (.expr (.extend (.var 2) (.comp (.tup (.cons (.glob (.int 2)) (.cons (.tup (.cons (.var 0) (.cons (.neg (.var 3)) .nil))) .nil))) 3 .seq (.var 1) (.cst (.bool true))))) (.seq (.ret (.var 2)) .skip)))),(273,3,3,(.seq (.ret (.list (.cons (.tup (.cons (.glob (.int 1)) (.cons (.tup (.cons (.neg (.var 0)) (.cons (.var 1) (.cons (.var 2) .nil)))) .nil))) (.cons (.tup (.cons (.glob (.int 1)) (.cons (.tup (.cons (.neg (.var 0)) (.cons (.neg (.var 1)) (.cons (.neg (.var 2)) .nil)))) .nil))) (.cons (.tup (.cons (.glob (.int 2)) (.cons (.tup (.cons (.var 0) (.cons (.neg (.var 1)) (.cons (.var 2) .nil)))) .nil))) (.cons (.tup (.cons (.glob (.int 2)) (.cons (.tup (.cons (.var 0) (.cons (.var 1) (.cons (.neg (.var 2)) .nil)))) .nil))) .nil)))))) .skip)),
 (280,4,4,(.seq (.ret (.list (.cons (.tup (.cons (.glob (.int 1)) (.cons (.tup (.cons (.neg (.var 0)) (.cons (.neg (.var 1)) (.cons (.var 2) .nil)))) .nil))) (.cons (.tup (.cons (.glob (.int 1)) (.cons (.tup (.cons (.neg (.var 0)) (.cons (.var 1) (.cons (.var 3) .nil)))) .nil))) (.cons (.tup (.cons (.glob (.int 2)) (.cons (.tup (.cons (.var 0) (.cons (.neg (.var 1)) (.cons (.neg (.var 2)) .nil)))) .nil))) (.cons (.tup (.cons (.glob (.int 2)) (.cons (.tup (.cons (.var 0) (.cons (.var 1) (.cons (.neg (.var 3)) .nil)))) .nil))) .nil)))))) .skip)),(287,2,6,(.seq (.cm 2 3 (.tup (.cons (.au (.var 0) 38 (.cons (.var 1) .nil)) (.cons (.list .nil) .nil)))) (.seq (.gq 4 .range (.b1 .len (.var 2)) (.seq (.gq 5 .seq (.drop (.var 2) (.bin .add (.var 4) (.cst (.int 1)))) (.seq (.expr (.append (.var 3) (.neg (.au (.var 0) 50 (.cons (.sub (.var 2) (.var 4)) (.cons (.var 5) .nil)))))) .skip)) .skip)) (.seq (.ret (.br 9 (.cons (.var 1) (.cons (.var 3) .nil)))) .skip)))),(294,2,4,(.seq (.cm 2 3 (.tup (.cons (.au (.var 0) 37 (.cons (.var 1) .nil)) (.cons (.au (.var 0) 38 (.cons (.var 1) .nil)) .nil)))) (.seq (.ifs (.cmp .eq (.var 2) (.cst (.str 0))) (.seq (.ret (.list (.cons (.tup (.cons (.glob (.int 3)) (.cons (.tup (.cons (.var 1) .nil)) .nil))) .nil))) .skip) .skip) (.seq (.ifs (.cmp .eq (.var 2) (.cst (.str 1))) (.seq (.ret (.list (.cons (.tup (.cons (.glob (.int 3)) (.cons (.tup (.cons (.neg (.var 1)) .nil)) .nil))) .nil))) .skip) .skip) (.seq (.ifs (.cmp .eq (.var 2) (.cst (.str 3))) (.seq (.ret (.br 9 (.cons (.var 1) (.cons (.var 3) .nil)))) .skip) .skip) (.seq (.ifs (.cmp .eq (.var 2) (.cst (.str 4))) (.seq (.ret (.br 10 (.cons (.var 1) (.cons (.var 3) .nil)))) .skip) .skip) (.seq (.ifs (.cmp .eq (.var 2) (.cst (.str 5))) (.seq (.ret (.br 11 (.cons (.var 1) (.cons (.sub (.var 3) (.cst (.int 0))) (.cons (.sub (.var 3) (.cst (.int 1))) .nil))))) .skip) .skip) (.seq (.ifs (.cmp .eq (.var 2) (.cst (.str 7))) (.seq (.ret (.br 11 (.cons (.var 1) (.cons (.sub (.var 3) (.cst (.int 0))) (.cons (.neg (.sub (.var 3) (.cst (.int 1)))) .nil))))) .skip) .skip) (.seq (.ifs (.cmp .eq (.var 2) (.cst (.str 6))) (.seq (.ret (.br 10 (.cons (.var 1) (.cons (.tup (.cons (.neg (.sub (.var 3) (.cst (.int 0)))) (.cons (.sub (.var 3) (.cst (.int 1))) .nil))) .nil)))) .skip) .skip) (.seq (.ifs (.cmp .eq (.var 2) (.cst (.str 8))) (.seq (.ret (.br 12 (.cons (.var 1) (.cons (.sub (.var 3) (.cst (.int 0))) (.cons (.sub (.var 3) (.cst (.int 1))) (.cons (.sub (.var 3) (.cst (.int 2))) .nil)))))) .skip) .skip) (.seq (.ifs (.cmp .eq (.var 2) (.cst (.str 9))) (.seq (.ret (.br 13 (.cons (.var 0) (.cons (.var 1) .nil)))) .skip) .skip) (.seq .fail .skip)))))))))))),(308,1,1,(.seq (.setattr (.var 0) 3 (.cst (.int 0))) (.seq (.setattr (.var 0) 4 (.list .nil)) (.seq (.setattr (.var 0) 0 (.list .nil)) .skip)))),(315,1,1,(.seq (.setattr (.var 0) 3 (.bin .add (.attr (.var 0) 3) (.cst (.int 1)))) (.seq (.ret (.attr (.var 0) 3)) .skip))),(322,3,3,(.seq (.expr (.append (.attr (.var 0) 4) (.var 1))) (.seq (.expr (.append (.attr (.var 0) 0) (.var 2))) (.seq (.ret (.cmp .gt (.b1 .len (.var 1)) (.cst (.int 0)))) .skip)))),
 (343,4,4,(.seq (.setattr (.var 0) 5 (.var 1)) (.seq (.setattr (.var 0) 6 (.var 2)) (.seq (.setattr (.var 0) 7 (.var 3)) (.seq (.setattr (.var 0) 8 .gJ) (.seq (.setattr (.var 0) 9 (.list (.cons (.cst (.int 0)) .nil))) (.seq (.setattr (.var 0) 10 .gJ) (.seq (.setattr (.var 0) 11 .gJ) (.seq (.setattr (.var 0) 12 (.list .nil)) (.seq (.setattr (.var 0) 13 (.cst (.int 0))) .skip)))))))))),(350,2,3,(.seq (.assign 2 (.cst (.int 1))) (.seq (.Dh (.cmp .eq (.au (.attr (.var 0) 5) 37 (.cons (.var 1) .nil)) (.cst (.str 2))) (.seq (.cm 2 1 (.tup (.cons (.neg (.var 2)) (.cons (.sub (.au (.attr (.var 0) 5) 38 (.cons (.var 1) .nil)) (.cst (.int 0))) .nil)))) .skip)) (.seq (.ret (.tup (.cons (.var 1) (.cons (.var 2) .nil)))) .skip)))),(357,2,3,(.seq (.assign 2 (.qr (.attr (.var 0) 8) (.var 1) (.cst (.int 0)))) (.seq (.ifs (.cmp .eq (.var 2) (.cst (.int 0))) (.seq (.assign 2 (.au (.attr (.var 0) 6) 16 .nil)) (.seq (.ifs (.cmp .ne (.var 2) (.b1 .len (.attr (.var 0) 9))) (.seq .fail .skip) .skip) (.seq (.cC (.attr (.var 0) 8) (.var 1) (.var 2)) (.seq (.expr (.append (.attr (.var 0) 9) (.var 1))) (.seq (.ifs (.isSome (.attr (.var 0) 7)) (.seq (.expr (.au (.attr (.var 0) 7) 4 (.cons (.var 2) (.cons (.var 1) .nil)))) .skip) .skip) .skip))))) .skip) (.seq (.ret (.var 2)) .skip)))),(371,2,4,(.seq (.cm 2 3 (.au (.var 0) 19 (.cons (.var 1) .nil))) (.seq (.ret (.bin .mul (.var 3) (.qr (.attr (.var 0) 8) (.var 2) (.cst (.int 0))))) .skip))),(378,3,6,(.seq (.cm 3 4 (.au (.var 0) 19 (.cons (.var 1) .nil))) (.seq (.ifs (.iH (.cmp .lt (.var 4) (.cst (.int 0))) (.cmp .ne (.var 2) (.glob (.int 3)))) (.seq (.assign 2 (.bin .sub (.glob (.int 3)) (.var 2))) .skip) .skip) (.seq (.assign 5 (.au (.var 0) 20 (.cons (.var 3) .nil))) (.seq (.expr (.au (.var 0) 23 (.cons (.var 3) (.cons (.uE (.isSome (.attr (.var 0) 7)) (.glob (.int 3)) (.var 2)) .nil)))) (.seq (.ret (.bin .mul (.var 4) (.var 5))) .skip)))))),(385,3,5,(.seq (.assign 3 (.qr (.attr (.var 0) 10) (.var 1) (.cst (.int 0)))) (.seq (.assign 4 (.bin .band (.var 2) (.inv (.var 3)))) (.seq (.ifs (.cmp .ne (.var 4) (.cst (.int 0))) (.seq (.cC (.attr (.var 0) 10) (.var 1) (.bin (.bor ()) (.var 3) (.var 4))) (.seq (.expr (.append (.attr (.var 0) 12) (.tup (.cons (.var 1) (.cons (.var 4) .nil))))) .skip)) .skip) .skip)))),
 (399,2,3,(.seq (.assign 2 (.au (.var 0) 22 (.cons (.var 1) (.cons (.glob (.int 3)) .nil)))) (.seq (.expr (.au (.var 0) 27 .nil)) (.seq (.ret (.var 2)) .skip)))),(406,4,6,(.seq (.assign 4 (.br 1 (.cons (.var 2) .nil))) (.seq (.ifs (.isNone (.var 4)) (.seq .An .skip) .skip) (.seq (.assign 5 (.cst .none)) (.seq (.ifs (.isSome (.attr (.var 0) 7)) (.seq (.assign 5 (.au (.attr (.var 0) 7) 7 (.cons (.var 1) (.cons (.var 4) (.cons (.tup .nil) (.cons (.var 3) .nil)))))) .skip) .skip) (.seq (.expr (.au (.attr (.var 0) 6) 17 (.cons (.var 4) (.cons (.var 5) .nil)))) .skip)))))),(413,3,5,(.seq (.assign 3 (.list .nil)) (.seq (.gq 4 .seq (.var 1) (.seq (.ifs (.cmp .eq (.b1 .abs (.var 4)) (.var 2)) (.seq (.expr (.append (.var 3) (.uE (.cmp .gt (.var 4) (.cst (.int 0))) (.sub (.attr (.var 0) 8) (.var 2)) (.neg (.sub (.attr (.var 0) 8) (.var 2)))))) .skip) (.seq (.ifs (.cmp .gt (.var 4) (.cst (.int 0))) (.seq (.expr (.append (.var 3) (.au (.var 0) 22 (.cons (.var 4) (.cons (.glob (.int 1)) .nil))))) .skip) (.seq (.expr (.append (.var 3) (.neg (.au (.var 0) 22 (.cons (.neg (.var 4)) (.cons (.glob (.int 2)) .nil)))))) .skip)) .skip)) .skip)) (.seq (.ret (.var 3)) .skip)))),(420,1,3,(.seq (.Dh (.cmp .lt (.attr (.var 0) 13) (.b1 .len (.attr (.var 0) 12))) (.seq (.cm 1 2 (.sub (.attr (.var 0) 12) (.attr (.var 0) 13))) (.seq (.setattr (.var 0) 13 (.bin .add (.attr (.var 0) 13) (.cst (.int 1)))) (.seq (.ifs (.br 8 (.cons (.attr (.var 0) 5) (.cons (.var 1) .nil))) (.seq (.expr (.au (.var 0) 28 (.cons (.var 1) (.cons (.var 2) .nil)))) .skip) (.seq (.ifs (.cmp .dr (.var 1) (.attr (.var 0) 11)) (.seq (.cC (.attr (.var 0) 11) (.var 1) (.cst (.bool true))) (.seq (.expr (.au (.var 0) 29 (.cons (.var 1) .nil))) .skip)) .skip) .skip)) .skip)))) (.seq (.setattr (.var 0) 12 (.list .nil)) (.seq (.setattr (.var 0) 13 (.cst (.int 0))) .skip)))),(427,3,5,(.seq (.sh 3 4 .seq (.br 14 (.cons (.attr (.var 0) 5) (.cons (.var 1) .nil))) (.seq (.ifs (.cmp .ne (.bin .band (.var 3) (.var 2)) (.cst (.int 0))) (.seq (.expr (.au (.var 0) 25 (.cons (.cst (.str 16)) (.cons (.au (.var 0) 26 (.cons (.var 4) (.cons (.var 1) .nil))) (.cons (.var 1) .nil))))) .skip) .skip) .skip)) .skip)),(434,2,2,(.seq .skip .skip)),
 (441,3,4,(.seq (.ifs (.isSome (.attr (.var 0) 7)) (.seq (.assign 3 (.au (.var 0) 22 (.cons (.var 1) (.cons (.glob (.int 3)) .nil)))) (.seq (.expr (.au (.var 0) 25 (.cons (.cst (.str 17)) (.cons (.tup (.cons (.var 3) .nil)) (.cons (.var 2) .nil))))) .skip)) (.seq (.expr (.au (.var 0) 31 (.cons (.var 1) .nil))) .skip)) (.seq (.expr (.au (.var 0) 27 .nil)) .skip))),(448,2,10,(.seq (.assign 2 (.list (.cons (.tup (.cons (.var 1) (.cons (.cst (.bool true)) .nil))) .nil))) (.seq (.Dh (.cmp .gt (.b1 .len (.var 2)) (.cst (.int 0))) (.seq (.cm 3 4 (.pop (.var 2))) (.seq (.cm 5 6 (.au (.var 0) 19 (.cons (.var 3) .nil))) (.seq (.assign 4 (.cmp .eq (.var 4) (.cmp .gt (.var 6) (.cst (.int 0))))) (.seq (.cm 7 8 (.tup (.cons (.au (.attr (.var 0) 5) 37 (.cons (.var 5) .nil)) (.cons (.au (.attr (.var 0) 5) 38 (.cons (.var 5) .nil)) .nil)))) (.seq (.ifs (.wO (.iH (.cmp .eq (.var 7) (.cst (.str 3))) (.var 4)) (.iH (.cmp .eq (.var 7) (.cst (.str 4))) (.not (.var 4)))) (.seq (.gq 9 (.ll ()) (.var 8) (.seq (.expr (.append (.var 2) (.tup (.cons (.var 9) (.cons (.var 4) .nil))))) .skip)) .skip) (.seq (.ifs (.iH (.cmp .eq (.var 7) (.cst (.str 6))) (.not (.var 4))) (.seq (.expr (.append (.var 2) (.tup (.cons (.sub (.var 8) (.cst (.int 1))) (.cons (.cst (.bool false)) .nil))))) (.seq (.expr (.append (.var 2) (.tup (.cons (.sub (.var 8) (.cst (.int 0))) (.cons (.cst (.bool true)) .nil))))) .skip)) (.seq (.ifs (.wO (.iH (.cmp .ne (.var 7) (.cst (.str 0))) (.cmp .ne (.var 7) (.cst (.str 1)))) (.cmp .ne (.var 4) (.cmp .eq (.var 7) (.cst (.str 0))))) (.seq (.expr (.au (.var 0) 25 (.cons (.cst (.str 17)) (.cons (.au (.var 0) 32 (.cons (.var 5) (.cons (.var 4) .nil))) (.cons (.cst .none) .nil))))) .skip) .skip) .skip)) .skip)) .skip)))))) .skip))),(453,3,5,(.seq (.cm 3 4 (.tup (.cons (.au (.attr (.var 0) 5) 37 (.cons (.var 1) .nil)) (.cons (.au (.attr (.var 0) 5) 38 (.cons (.var 1) .nil)) .nil)))) (.seq (.ifs (.wO (.cmp .eq (.var 3) (.cst (.str 0))) (.cmp .eq (.var 3) (.cst (.str 1)))) (.seq (.ret (.list .nil)) .skip) .skip) (.seq (.ifs (.iH (.cmp .eq (.var 3) (.cst (.str 4))) (.var 2)) (.seq (.ret (.comp (.au (.var 0) 22 (.cons (.var 5) (.cons (.glob (.int 1)) .nil))) 5 .seq (.au (.var 0) 33 (.cons (.var 4) .nil)) (.cst (.bool true)))) .skip) .skip) (.seq (.ifs (.iH (.cmp .eq (.var 3) (.cst (.str 3))) (.not (.var 2))) (.seq (.ret (.comp (.neg (.au (.var 0) 22 (.cons (.var 5) (.cons (.glob (.int 2)) .nil)))) 5 .seq (.var 4) (.cst (.bool true)))) .skip) .skip) (.seq (.ifs (.iH (.cmp .eq (.var 3) (.cst (.str 6))) (.var 2)) (.seq (.ret (.list (.cons (.neg (.au (.var 0) 22 (.cons (.sub (.var 4) (.cst (.int 0))) (.cons (.glob (.int 2)) .nil)))) (.cons (.au (.var 0) 22 (.cons (.sub (.var 4) (.cst (.int 1))) (.cons (.glob (.int 1)) .nil))) .nil)))) .skip) .skip) (.seq (.ret (.uE (.var 2) (.list (.cons (.au (.var 0) 22 (.cons (.var 1) (.cons (.glob (.int 1)) .nil))) .nil)) (.list (.cons (.neg (.au (.var 0) 22 (.cons (.var 1) (.cons (.glob (.int 2)) .nil)))) .nil)))) .skip))))))),(460,2,5,(.seq (.cm 2 3 (.tup (.cons (.list .nil) (.cons (.b1 (.ig ()) (.var 1)) .nil)))) (.seq (.Dh (.cmp .gt (.b1 .len (.var 3)) (.cst (.int 0))) (.seq (.assign 4 (.pop (.var 3))) (.seq (.ifs (.cmp .eq (.au (.attr (.var 0) 5) 37 (.cons (.var 4) .nil)) (.cst (.str 4))) (.seq (.expr (.my (.var 3) (.au (.attr (.var 0) 5) 38 (.cons (.var 4) .nil)))) .skip) (.seq (.expr (.append (.var 2) (.var 4))) .skip)) .skip))) (.seq (.ret (.var 2)) .skip)))),(481,1,1,(.seq (.setattr (.var 0) 14 (.list (.cons (.cst (.str 19)) (.cons (.cst (.str 20)) (.cons (.cst (.str 21)) .nil))))) (.seq (.setattr (.var 0) 15 (.list (.cons (.cst (.int 0)) (.cons (.cst (.int 0)) (.cons (.cst (.int 0)) .nil))))) (.seq (.setattr (.var 0) 16 (.list .nil)) (.seq (.setattr (.var 0) 17 (.list .nil)) (.seq (.setattr (.var 0) 18 (.list .nil)) (.seq (.setattr (.var 0) 19 (.cst (.int 0))) (.seq (.setattr (.var 0) 20 (.list (.cons (.cst (.str 18)) .nil))) (.seq (.setattr (.var 0) 21 (.list (.cons (.tup .nil) .nil))) (.seq (.setattr (.var 0) 22 (.list (.cons (.glob (.int 0)) .nil))) (.seq (.setattr (.var 0) 23 (.list (.cons (.cst (.int 0)) .nil))) (.seq (.setattr (.var 0) 24 .gJ) (.seq (.setattr (.var 0) 25 (.au (.var 0) 40 (.cons (.cst (.str 0)) (.cons (.tup .nil) (.cons (.glob (.int 0)) (.cons (.cst (.int 0)) .nil)))))) (.seq (.setattr (.var 0) 26 (.au (.var 0) 40 (.cons (.cst (.str 1)) (.cons (.tup .nil) (.cons (.glob (.int 0)) (.cons (.cst (.int 0)) .nil)))))) .skip)))))))))))))),(523,4,4,(.seq (.expr (.append (.attr (.var 0) 16) (.var 1))) (.seq (.expr (.append (.attr (.var 0) 17) (.b1 .tuple (.var 2)))) (.seq (.expr (.append (.attr (.var 0) 18) (.var 3))) (.seq (.ret (.bin .sub (.b1 .len (.attr (.var 0) 16)) (.cst (.int 1)))) .skip))))),
 (537,3,3,(.seq (.ret (.au (.var 0) 40 (.cons (.cst (.str 10)) (.cons (.tup .nil) (.cons (.var 2) (.cons (.au (.var 0) 35 (.cons (.var 1) (.cons (.tup .nil) (.cons (.var 2) .nil)))) .nil)))))) .skip)),(572,2,2,(.seq (.ret (.sub (.attr (.var 0) 20) (.var 1))) .skip)),(579,2,2,(.seq (.ret (.sub (.attr (.var 0) 21) (.var 1))) .skip)),(586,2,2,(.seq (.ret (.sub (.attr (.var 0) 22) (.var 1))) .skip)),(614,5,7,(.seq (.assign 5 (.tup (.cons (.var 1) (.cons (.var 2) (.cons (.var 3) (.cons (.var 4) .nil)))))) (.seq (.assign 6 (.qr (.attr (.var 0) 24) (.var 5) (.cst (.int 0)))) (.seq (.ifs (.cmp .eq (.var 6) (.cst (.int 0))) (.seq (.assign 6 (.b1 .len (.attr (.var 0) 20))) (.seq (.expr (.append (.attr (.var 0) 20) (.var 1))) (.seq (.expr (.append (.attr (.var 0) 21) (.var 2))) (.seq (.expr (.append (.attr (.var 0) 22) (.var 3))) (.seq (.expr (.append (.attr (.var 0) 23) (.var 4))) (.seq (.cC (.attr (.var 0) 24) (.var 5) (.var 6)) .skip)))))) .skip) (.seq (.ret (.var 6)) .skip))))),(642,4,5,(.seq (.gq 4 .seq (.var 1) (.seq (.expr (.au (.var 0) 23 (.cons (.var 4) (.cons (.var 2) (.cons (.var 3) .nil))))) .skip)) .skip)),
 (649,1,1,(.seq (.ret (.attr (.var 0) 25)) .skip)),(656,1,1,(.seq (.ret (.attr (.var 0) 26)) .skip)),(698,2,2,(.seq (.expr (.au (.var 0) 23 (.cons (.var 1) (.cons (.glob (.int 0)) (.cons (.cst (.str 2)) .nil))))) (.seq (.ifs (.cmp .eq (.sub (.attr (.var 0) 20) (.var 1)) (.cst (.str 2))) (.seq (.ret (.sub (.sub (.attr (.var 0) 21) (.var 1)) (.cst (.int 0)))) .skip) .skip) (.seq (.ifs (.cmp .eq (.var 1) (.attr (.var 0) 25)) (.seq (.ret (.attr (.var 0) 26)) .skip) .skip) (.seq (.ifs (.cmp .eq (.var 1) (.attr (.var 0) 26)) (.seq (.ret (.attr (.var 0) 25)) .skip) .skip) (.seq (.ret (.au (.var 0) 40 (.cons (.cst (.str 2)) (.cons (.tup (.cons (.var 1) .nil)) (.cons (.glob (.int 0)) (.cons (.cst (.int 0)) .nil)))))) .skip)))))),(705,2,2,(.seq (.expr (.au (.var 0) 41 (.cons (.var 1) (.cons (.glob (.int 0)) (.cons (.cst (.str 3)) .nil))))) (.seq (.ifs (.cmp .eq (.b1 .len (.var 1)) (.cst (.int 0))) (.seq (.ret (.attr (.var 0) 25)) .skip) .skip) (.seq (.ret (.uE (.cmp .eq (.b1 .len (.var 1)) (.cst (.int 1))) (.sub (.var 1) (.cst (.int 0))) (.au (.var 0) 40 (.cons (.cst (.str 3)) (.cons (.b1 .tuple (.var 1)) (.cons (.glob (.int 0)) (.cons (.cst (.int 0)) .nil))))))) .skip)))),(712,2,2,(.seq (.expr (.au (.var 0) 41 (.cons (.var 1) (.cons (.glob (.int 0)) (.cons (.cst (.str 4)) .nil))))) (.seq (.ifs (.cmp .eq (.b1 .len (.var 1)) (.cst (.int 0))) (.seq (.ret (.attr (.var 0) 26)) .skip) .skip) (.seq (.ret (.uE (.cmp .eq (.b1 .len (.var 1)) (.cst (.int 1))) (.sub (.var 1) (.cst (.int 0))) (.au (.var 0) 40 (.cons (.cst (.str 4)) (.cons (.b1 .tuple (.var 1)) (.cons (.glob (.int 0)) (.cons (.cst (.int 0)) .nil))))))) .skip)))),(719,3,3,(.seq (.expr (.au (.var 0) 41 (.cons (.tup (.cons (.var 1) (.cons (.var 2) .nil))) (.cons (.glob (.int 0)) (.cons (.cst (.str 5)) .nil))))) (.seq (.ret (.au (.var 0) 40 (.cons (.cst (.str 5)) (.cons (.tup (.cons (.var 1) (.cons (.var 2) .nil))) (.cons (.glob (.int 0)) (.cons (.cst (.int 0)) .nil)))))) .skip))),
 (726,3,3,(.seq (.expr (.au (.var 0) 41 (.cons (.tup (.cons (.var 1) (.cons (.var 2) .nil))) (.cons (.glob (.int 0)) (.cons (.cst (.str 6)) .nil))))) (.seq (.ret (.au (.var 0) 40 (.cons (.cst (.str 6)) (.cons (.tup (.cons (.var 1) (.cons (.var 2) .nil))) (.cons (.glob (.int 0)) (.cons (.cst (.int 0)) .nil)))))) .skip))),(733,3,3,(.seq (.expr (.au (.var 0) 41 (.cons (.tup (.cons (.var 1) (.cons (.var 2) .nil))) (.cons (.glob (.int 0)) (.cons (.cst (.str 7)) .nil))))) (.seq (.ret (.au (.var 0) 50 (.cons (.var 1) (.cons (.var 2) .nil)))) .skip))),(740,3,3,(.seq (.expr (.au (.var 0) 23 (.cons (.var 2) (.cons (.sub (.attr (.var 0) 22) (.var 1)) (.cons (.cst (.str 7)) .nil))))) (.seq (.ifs (.cmp .eq (.var 1) (.var 2)) (.seq (.ret (.attr (.var 0) 25)) .skip) .skip) (.seq (.ret (.au (.var 0) 40 (.cons (.cst (.str 7)) (.cons (.tup (.cons (.min2 (.var 1) (.var 2)) (.cons (.max2 (.var 1) (.var 2)) .nil))) (.cons (.glob (.int 0)) (.cons (.cst (.int 0)) .nil)))))) .skip)))),(747,2,2,(.seq (.ifs (.cmp .lt (.b1 .len (.var 1)) (.cst (.int 2))) (.seq .fail .skip) .skip) (.seq (.expr (.au (.var 0) 41 (.cons (.var 1) (.cons (.sub (.attr (.var 0) 22) (.sub (.var 1) (.cst (.int 0)))) (.cons (.cst (.str 9)) .nil))))) (.seq (.ret (.au (.var 0) 40 (.cons (.cst (.str 9)) (.cons (.b1 .tuple (.var 1)) (.cons (.glob (.int 0)) (.cons (.cst (.int 0)) .nil)))))) .skip)))),(754,4,4,(.seq (.expr (.au (.var 0) 23 (.cons (.var 1) (.cons (.glob (.int 0)) (.cons (.cst (.str 8)) .nil))))) (.seq (.expr (.au (.var 0) 23 (.cons (.var 3) (.cons (.sub (.attr (.var 0) 22) (.var 2)) (.cons (.cst (.str 8)) .nil))))) (.seq (.ret (.au (.var 0) 40 (.cons (.cst (.str 8)) (.cons (.tup (.cons (.var 1) (.cons (.var 2) (.cons (.var 3) .nil)))) (.cons (.sub (.attr (.var 0) 22) (.var 2)) (.cons (.cst (.int 0)) .nil)))))) .skip)))),(635,4,4,(.seq (.ifs (.cmp .ne (.sub (.attr (.var 0) 22) (.var 1)) (.var 2)) (.seq .fail .skip) .skip) .skip)),
 (794,2,3,(.seq (.assign 2 (.sub (.var 0) (.cst (.str 14)))) (.seq (.cC (.var 0) (.cst (.str 14)) (.bin .add (.var 2) (.cst (.int 1)))) (.seq (.ret (.bin .mod (.uE (.cmp .lt (.var 2) (.b1 .len (.sub (.var 0) (.cst (.str 13))))) (.sub (.sub (.var 0) (.cst (.str 13))) (.var 2)) (.bin .add (.bin .mul (.cst (.int 7)) (.var 2)) (.cst (.int 3)))) (.var 1))) .skip)))),(799,2,5,(.seq (.cC (.var 0) (.cst (.str 15)) (.bin .sub (.sub (.var 0) (.cst (.str 15))) (.cst (.int 1)))) (.seq (.ifs (.wO (.cmp .eq (.var 1) (.cst (.int 0))) (.cmp .le (.sub (.var 0) (.cst (.str 15))) (.cst (.int 0)))) (.seq (.ret (.list (.cons (.cst (.str 11)) (.cons (.br 54 (.cons (.var 0) (.cons (.cst (.int 3)) .nil))) .nil)))) .skip) .skip) (.seq (.assign 2 (.br 54 (.cons (.var 0) (.cons (.cst (.int 12)) .nil)))) (.seq (.ifs (.cmp .lt (.var 2) (.cst (.int 3))) (.seq (.ret (.list (.cons (.cst (.str 11)) (.cons (.var 2) .nil)))) .skip) .skip) (.seq (.ifs (.cmp .eq (.var 2) (.cst (.int 11))) (.seq (.ret (.list (.cons (.cst (.str 12)) (.cons (.br 54 (.cons (.var 0) (.cons (.cst (.int 2)) .nil))) .nil)))) .skip) .skip) (.seq (.assign 3 (.sub (.list (.cons (.cst (.str 2)) (.cons (.cst (.str 3)) (.cons (.cst (.str 4)) (.cons (.cst (.str 5)) (.cons (.cst (.str 6)) (.cons (.cst (.str 7)) (.cons (.cst (.str 8)) (.cons (.cst (.str 9)) .nil))))))))) (.bin .sub (.var 2) (.cst (.int 3))))) (.seq (.assign 4 (.qr (.dict [2,8] (.cons (.cst (.int 1)) (.cons (.cst (.int 3)) .nil))) (.var 3) (.cst (.int 2)))) (.seq (.ifs (.cmp .qe (.var 3) (.tup (.cons (.cst (.str 3)) (.cons (.cst (.str 4)) (.cons (.cst (.str 9)) .nil))))) (.seq (.assign 4 (.bin .add (.cst (.int 2)) (.br 54 (.cons (.var 0) (.cons (.cst (.int 2)) .nil))))) .skip) .skip) (.seq (.ret (.bin .add (.list (.cons (.var 3) .nil)) (.comp (.br 55 (.cons (.var 0) (.cons (.bin .sub (.var 1) (.cst (.int 1))) .nil))) 5 .range (.var 4) (.cst (.bool true))))) .skip)))))))))),(804,3,4,(.seq (.ifs (.cmp .eq (.sub (.var 2) (.cst (.int 0))) (.cst (.str 11))) (.seq (.ret (.sub (.var 1) (.sub (.var 2) (.cst (.int 1))))) .skip) .skip) (.seq (.ifs (.cmp .eq (.sub (.var 2) (.cst (.int 0))) (.cst (.str 12))) (.seq (.ret (.uE (.cmp .eq (.sub (.var 2) (.cst (.int 1))) (.cst (.int 1))) (.au (.var 0) 42 .nil) (.au (.var 0) 43 .nil))) .skip) .skip) (.seq (.assign 3 (.comp (.br 56 (.cons (.var 0) (.cons (.var 1) (.cons (.var 4) .nil)))) 4 .seq (.drop (.var 2) (.cst (.int 1))) (.cst (.bool true)))) (.seq (.ifs (.cmp .eq (.sub (.var 2) (.cst (.int 0))) (.cst (.str 2))) (.seq (.ret (.au (.var 0) 44 (.cons (.sub (.var 3) (.cst (.int 0))) .nil))) .skip) .skip) (.seq (.ifs (.cmp .eq (.sub (.var 2) (.cst (.int 0))) (.cst (.str 3))) (.seq (.ret (.au (.var 0) 45 (.cons (.var 3) .nil))) .skip) .skip) (.seq (.ifs (.cmp .eq (.sub (.var 2) (.cst (.int 0))) (.cst (.str 4))) (.seq (.ret (.au (.var 0) 46 (.cons (.var 3) .nil))) .skip) .skip) (.seq (.ifs (.cmp .eq (.sub (.var 2) (.cst (.int 0))) (.cst (.str 5))) (.seq (.ret (.au (.var 0) 47 (.cons (.sub (.var 3) (.cst (.int 0))) (.cons (.sub (.var 3) (.cst (.int 1))) .nil)))) .skip) .skip) (.seq (.ifs (.cmp .eq (.sub (.var 2) (.cst (.int 0))) (.cst (.str 6))) (.seq (.ret (.au (.var 0) 48 (.cons (.sub (.var 3) (.cst (.int 0))) (.cons (.sub (.var 3) (.cst (.int 1))) .nil)))) .skip) .skip) (.seq (.ifs (.cmp .eq (.sub (.var 2) (.cst (.int 0))) (.cst (.str 7))) (.seq (.ret (.au (.var 0) 49 (.cons (.sub (.var 3) (.cst (.int 0))) (.cons (.sub (.var 3) (.cst (.int 1))) .nil)))) .skip) .skip) (.seq (.ifs (.cmp .eq (.sub (.var 2) (.cst (.int 0))) (.cst (.str 8))) (.seq (.ret (.au (.var 0) 52 (.cons (.sub (.var 3) (.cst (.int 0))) (.cons (.sub (.var 3) (.cst (.int 1))) (.cons (.sub (.var 3) (.cst (.int 2))) .nil))))) .skip) .skip) (.seq (.ret (.au (.var 0) 51 (.cons (.var 3) .nil))) .skip)))))))))))),(809,2,3,(.seq (.ifs (.cmp .eq (.sub (.var 0) (.cst (.int 0))) (.cst (.str 11))) (.seq (.ret (.sub (.var 1) (.sub (.var 0) (.cst (.int 1))))) .skip) .skip) (.seq (.ifs (.cmp .eq (.sub (.var 0) (.cst (.int 0))) (.cst (.str 12))) (.seq (.ret (.cmp .eq (.sub (.var 0) (.cst (.int 1))) (.cst (.int 1)))) .skip) .skip) (.seq (.assign 2 (.comp (.br 57 (.cons (.var 3) (.cons (.var 1) .nil))) 3 .seq (.drop (.var 0) (.cst (.int 1))) (.cst (.bool true)))) (.seq (.ifs (.cmp .eq (.sub (.var 0) (.cst (.int 0))) (.cst (.str 2))) (.seq (.ret (.not (.sub (.var 2) (.cst (.int 0))))) .skip) .skip) (.seq (.ifs (.cmp .eq (.sub (.var 0) (.cst (.int 0))) (.cst (.str 3))) (.seq (.ret (.cmp .dr (.cst (.bool false)) (.var 2))) .skip) .skip) (.seq (.ifs (.cmp .eq (.sub (.var 0) (.cst (.int 0))) (.cst (.str 4))) (.seq (.ret (.cmp .qe (.cst (.bool true)) (.var 2))) .skip) .skip) (.seq (.ifs (.cmp .eq (.sub (.var 0) (.cst (.int 0))) (.cst (.str 6))) (.seq (.ret (.wO (.sub (.var 2) (.cst (.int 1))) (.not (.sub (.var 2) (.cst (.int 0)))))) .skip) .skip) (.seq (.ifs (.cmp .eq (.sub (.var 0) (.cst (.int 0))) (.cst (.str 7))) (.seq (.ret (.cmp .eq (.sub (.var 2) (.cst (.int 0))) (.sub (.var 2) (.cst (.int 1))))) .skip) .skip) (.seq (.ifs (.cmp .eq (.sub (.var 0) (.cst (.int 0))) (.cst (.str 8))) (.seq (.ret (.uE (.sub (.var 2) (.cst (.int 0))) (.sub (.var 2) (.cst (.int 1))) (.sub (.var 2) (.cst (.int 2))))) .skip) .skip) (.seq (.ret (.iH (.cmp .eq (.b1 .len (.var 2)) (.cst (.int 2))) (.cmp .ne (.sub (.var 2) (.cst (.int 0))) (.sub (.var 2) (.cst (.int 1)))))) .skip))))))))))),(816,2,4,(.seq (.assign 2 (.list .nil)) (.seq (.gq 3 .seq (.var 0) (.seq (.ifs (.cmp .dr (.b1 .abs (.var 3)) (.var 1)) (.seq (.expr (.append (.var 2) (.var 3))) .skip) (.seq (.ifs (.cmp .eq (.sub (.var 1) (.b1 .abs (.var 3))) (.cmp .gt (.var 3) (.cst (.int 0)))) (.seq (.ret (.cst .none)) .skip) .skip) .skip)) .skip)) (.seq (.ret (.var 2)) .skip)))),(823,2,6,(.seq (.cm 2 3 (.tup (.cons (.b1 .kQ (.var 1)) (.cons (.cst (.bool true)) .nil)))) (.seq (.Dh (.var 3) (.seq (.assign 3 (.cst (.bool false))) (.seq (.gq 4 .seq (.var 0) (.seq (.assign 5 (.br 58 (.cons (.var 4) (.cons (.var 2) .nil)))) (.seq (.ifs (.cmp .eq (.var 5) (.list .nil)) (.seq (.ret (.cst .none)) .skip) .skip) (.seq (.ifs (.iH (.isSome (.var 5)) (.cmp .eq (.b1 .len (.var 5)) (.cst (.int 1)))) (.seq (.cC (.var 2) (.b1 .abs (.sub (.var 5) (.cst (.int 0)))) (.cmp .gt (.sub (.var 5) (.cst (.int 0))) (.cst (.int 0)))) (.seq (.assign 3 (.cst (.bool true))) .skip)) .skip) .skip)))) .skip))) (.seq (.ret (.var 2)) .skip)))),
 (830,2,6,(.seq (.assign 2 (.br 59 (.cons (.var 0) (.cons (.var 1) .nil)))) (.seq (.ifs (.isNone (.var 2)) (.seq (.ret (.cst (.bool false))) .skip) .skip) (.seq (.gq 3 .seq (.var 0) (.seq (.assign 4 (.br 58 (.cons (.var 3) (.cons (.var 2) .nil)))) (.seq (.ifs (.isSome (.var 4)) (.seq (.gq 5 .seq (.tup (.cons (.cst (.bool true)) (.cons (.cst (.bool false)) .nil))) (.seq (.cC (.var 2) (.b1 .abs (.sub (.var 4) (.cst (.int 0)))) (.var 5)) (.seq (.ifs (.br 60 (.cons (.var 0) (.cons (.var 2) .nil))) (.seq (.ret (.cst (.bool true))) .skip) .skip) .skip))) (.seq (.ret (.cst (.bool false))) .skip)) .skip) .skip))) (.seq (.ret (.cst (.bool true))) .skip))))),(835,1,3,(.seq (.gq 1 .seq (.attr (.var 0) 4) (.seq (.assign 2 (.comp (.b1 .abs (.var 3)) 3 .seq (.var 1) (.cst (.bool true)))) (.seq (.ifs (.wO (.not (.b1 .fP (.var 1))) (.wO (.cmp .ne (.var 2) (.b1 .fO (.var 2))) (.cmp .ne (.var 2) (.comp (.var 3) 3 .seq (.var 2) (.xV .lt .le (.cst (.int 0)) (.var 3) (.attr (.var 0) 3)))))) (.seq (.ret (.cst (.bool false))) .skip) .skip) .skip))) (.seq (.ret (.cst (.bool true))) .skip))),(842,3,6,(.seq (.assign 3 .gJ) (.seq (.sh 4 5 .zip (.cons (.var 1) (.cons (.var 2) .nil)) (.seq (.ifs (.cmp .ne (.au (.var 0) 21 (.cons (.var 4) .nil)) (.cst (.int 0))) (.seq (.cC (.var 3) (.au (.var 0) 21 (.cons (.var 4) .nil)) (.var 5)) .skip) .skip) .skip)) (.seq (.ret (.var 3)) .skip))))]
noncomputable def gZ(f:Nat):Addr×Nat×Nat×PS:=rows.getD f (105,1,1,(.seq (.ret (.tup (.cons (.b1 .abs (.var 0)) (.cons (.cmp .gt (.var 0) (.cst (.int 0))) .nil)))) .skip))
noncomputable def EA:Addr:=847
noncomputable def GF:Nat:=15
noncomputable def BE:lE->Addr
 | .aM=>785
 | .store=>325
 | .maker=>463
 | .proof _=>246
noncomputable def GG(names:List (Str×NameKind)):List (Str×Nat):=((names.filter fun p=>p.2== .local||p.2== .cell).map (·.1)).zipIdx
noncomputable def yA(s:Scope):Sc:={names:=s.names,eE:=GG s.names,tv:=(GG s.names).length}
structure vw(K:Frag)(a:Addr)(np nv:Nat)(p:PS):Prop where
 ex:∃o fd body,K.lookup a=some o/\o.data= .func fd/\Ng K fd (yA fd.scope) (List.range np) body/\(yA fd.scope).tv=nv/\Ez 60 (yA fd.scope) body=some p
noncomputable def Pw(K:Frag)(a:Addr)(np nv:Nat):Option PS:=match K.lookup a with
 |some ⟨_,_,.func fd,_⟩=>match fd.body,fd.defaults,fd.scope.kind with
  | .stmts b,.none,.function=>if BC K fd (yA fd.scope) (List.range np)&&(yA fd.scope).tv==nv then Ez 60 (yA fd.scope) b else none
  |_,_,_=>none
 |_=>none
theorem BF{α:Type}{c:Bool}{o:Option α}{b:α}(h:(if c then o else none)=some b):c=true/\o=some b:=by cases c;exact sn h rfl;exact⟨rfl,h⟩
theorem vw.of{K:Frag}{a:Addr}{np nv:Nat}{p:PS}(h:Pw K a np nv=some p):vw K a np nv p:=by
 delta Pw at h;generalize ho:K.lookup a=o at h;cases o with
 |none=>exact sn h rfl
 |some o=>
  obtain⟨c,d,dat,sl⟩:=o;cases dat with
  |func fd=>
   dsimp only at h;generalize hb:fd.body=bo at h;generalize hd:fd.defaults=de at h;generalize hk:fd.scope.kind=ki at h;cases bo with
   |stmts b=>cases de with
    |none=>cases ki with
     |function=>
      obtain⟨hq,h⟩:=BF h;obtain⟨q1,q2⟩:=zBu.mp hq;exact⟨_,fd,b,ho,rfl,⟨q1,rfl,hb,hd,hk⟩,eq_of_beq q2,h⟩
     |_=>exact sn h rfl
    |_=>exact sn h rfl
   |_=>exact sn h rfl
  |_=>exact sn h rfl
noncomputable def ny:Nat->List (Option V)
 |0=>[]
 |n+1=>none::ny n
noncomputable def start:Nat->List V->List (Option V)
 |n,[]=>none::ny n
 |0,v::_=>[some v]
 |n+1,v::l=>some v::start n l
@[local simp] theorem qO:ny 0=[]:=rfl
@[local simp] theorem qP {n:Nat}:ny (n+1)=none::ny n:=rfl
@[local simp] theorem lN {n:Nat}:start n []=none::ny n:=by cases n<;>rfl
@[local simp] theorem qQ {n:Nat} {v:V} {l:List V}:start (n+1) (v::l)=some v::start n l:=rfl
theorem yB{n i:Nat}{v:V}(h:cO (ny n) i=some v):False:=by
 induction n generalizing i with
 |zero=>exact sn h rfl
 |succ n ih=>cases i with
  |zero=>exact sn h rfl
  |succ i=>exact ih h
theorem yC{nv:Nat}{l:List V}{i:Nat}{v:V}(h:cO (start nv l) i=some v):l[i]?=some v:=by
 induction l generalizing nv i with
 |nil=>rw[lN]at h;exact(yB (n:=nv+1) h).elim
 |cons w l ih=>cases nv with
  |zero=>cases i with
   |zero=>exact h
   |succ i=>exact sn h rfl
  |succ n=>cases i with
   |zero=>exact h
   |succ i=>exact ih h
theorem vw.call{c:Cy}{K:Frag}{mg mb:Str->Option Value}(ok:Ok c K mg mb){a:Addr}{np nv:Nat}{p:PS}(F:vw K a np nv p){m:Nat}{l:List V}{H:Z}{Q:V->Z->Prop}(hl:l.length=np)
  (h:wpS c m p (start nv l) H (fun _ H'=>Q .none H') Q) {A:Around} {s:Shared} {vs:List Value} (R:jE A (m+1)) (I:Inv c.toCx H s) (hv:bj c.toCx s.heap l vs):
  codeAny c.M A (.call (.ref a) ⟨vs,[]⟩) (zX c.toCx H s Q) s:=by
 obtain⟨o,fd,body,ho,hd,fo,ht,hp⟩:=F.ex;refine yz ok ho hd fo hp (by simp[hl]) (fun i v hg=>?_) h R I hv
 have:=yC hg;have hi:i<np:=by rw[←hl];exact(zCy.mp this).1
 exact⟨i,by rw[List.getElem?_range hi],this⟩
structure cz(c:Cy):Prop where
 ex:∃K mg mb,Ok c K mg mb/\∀f,vw K (c.fa f) (gZ f).2.1 (gZ f).2.2.1 (gZ f).2.2.2
theorem GH{c:Cy}(O:cz c){f m a nv:Nat}{b:PS}{l:List V}{H:Z}{Q:V->Z->Prop}(e:gZ f=(a,l.length,nv,b))(h:wpS c m b (start nv l) H (fun _ H'=>Q .none H') Q):aA c f (m+1) l H Q:=by obtain⟨K,mg,mb,ok,F⟩:=O.ex;have F:=F f;rw[e]at F;exact fun A s vs R I hv=>F.call ok rfl h R I hv
theorem aF{c:Cy}(O:cz c){f n a nv:Nat}{b:PS}(hn:1<=n){l:List V}{H:Z}{Q:V->Z->Prop}(e:gZ f=(a,l.length,nv,b))(h:wpS c (n-1) b (start nv l) H (fun _ H'=>Q .none H') Q):aA c f n l H Q:=by obtain⟨m,rfl⟩:∃m,n=m+1:=⟨n-1,(aB 0x5ac15a0000b26) hn⟩;exact GH O e h
theorem cz.wB{c:Cy}(O:cz c){T:Addr}(dead:c.base.get? T=none):cz (c.wB T):=by obtain⟨K,mg,mb,ok,F⟩:=O.ex;exact⟨K,mg,mb,ok.wB dead,F⟩
section
set_option backward.match.sparseCases true
theorem xg(f:Nat):gZ f∈rows:=by
 unfold gZ List.getD;cases h:rows[f]? with
 |none=>exact .head _
 |some r=>exact zFr h
noncomputable def BG(f:Nat):Addr:=(gZ f).1
noncomputable def yD:List lE:=[.aM,.store,.maker,(.proof ())]
theorem nA(C:lE):C∈yD:=match C with | .aM=>.head _ | .store=>.tail _ (.head _) | .maker=>.tail _ (.tail _ (.head _)) | .proof _=>.tail _ (.tail _ (.tail _ (.head _)))
noncomputable def strsOk(l:List V):List Value->Bool:=List.rec (fun xs=>xs.isEmpty) (fun v _ f xs=>List.rec false (fun x r _=>(match v with
 | .str k=>blt k strN&&Value.isStrOf (strOf k) x
 |_=>false)&&f r) xs) l
noncomputable def GI(l:List V)(d:Data):Bool:=match d with
 | .seq xs _=>strsOk l xs.toList
 |_=>false
noncomputable def BH(l:List V)(o:Obj):Bool:=(o.cls== .type "tuple")&&(o.dict.isNone&&(o.slots.isEmpty&&GI l o.data))
noncomputable def VF(K:Frag)(x:Value)(v:V):Bool:=match v with
 | .int i=>Value.isInt i x
 | .tup l=>match x with
  | .ref a=>(K.lookup a).any (BH l)
  |_=>false
 |_=>false
noncomputable def VG(K:Frag)(p:Str×V):Bool:=(nsIn K mainGlobals p.1).any fun o=>o.any fun x=>VF K x p.2
noncomputable abbrev fI(K:Frag)(C:lE)(n:Str):=findIn K (.ref (BE C)) n
noncomputable def EB(K:Frag)(l:List (Addr×Nat×Nat×PS)):=l.map fun r=>Pw K r.1 r.2.1 r.2.2.1
noncomputable def BI(K:Frag):=EB K (rows.take 55)
noncomputable def xK(K:Frag):=(Pw K EA 1 GF,rows.map fun r=>typeIn K (.ref r.1))
noncomputable def Nm(K:Frag):=yD.map fun C=>(makesIn K (BE C),fI K C "__init__",(clsIn K (BE C)).map (fun cd=>(cd.hasDict,onlyObject cd.mro)),fI K C "__getattribute__",fI K C "__getattr__",fI K C "__setattr__",d6.map fun a=>fI K C a)
noncomputable def Nn(K:Frag):=yD.map fun C=>f9.map fun p=>match resolve C p.2 with
 |some _=>fI K C p.1
 |none=>none
noncomputable def Np(K:Frag):=(o6.map fun p=>nsIn K mainGlobals p.1,kh.map fun p=>nsIn K mainGlobals p.1,kj.map fun n=>nsIn K mainGlobals (Str.ofString n),nsIn K mainGlobals "law",Ax.map (VG K),(K.lookup sysModules).isSome)
noncomputable def BJ(K:Frag):=(EB K (rows.drop 55),xK K,Nm K,Nn K,Np K)
noncomputable def EC(l:List (Addr×Nat×Nat×PS)):List (Option PS):=l.map fun r=>some r.2.2.2
noncomputable def ED:List (Option PS):=EC (rows.take 55)
noncomputable def EE:List (Option PS)×(Option PS×List (Option Value))×List (Bool×Option (Option Value)×Option (Bool×Bool)×Option (Option Value)×Option (Option Value)×Option (Option Value)×List (Option (Option Value)))×List (List (Option (Option Value)))×
  (List (Option (Option Value))×List (Option (Option Value))×List (Option (Option Value))×Option (Option Value)×List Bool×Bool):=
 (EC (rows.drop 55),(some Nl,rows.map fun _=>some (.type "function")),
  yD.map fun C=>(true,some (some (.ref (BG (qf C)))),some (true,true),some (some (.builtin "object.__getattribute__")),some none,some (some (.builtin "object.__setattr__")),d6.map fun _=>some none),
  yD.map fun C=>f9.map fun p=>match resolve C p.2 with
   |some f=>some (some (.ref (BG f)))
   |none=>none,
  o6.map fun p=>some (some (.ref (BG p.2))),kh.map fun p=>some (some (.ref (BE p.2))),kj.map fun _=>some none,some (some (.ref EA)),Ax.map fun _=>true,true)
noncomputable def ti:List Addr:=List.range 1300
end
theorem EF:∀w:World,(fun os=>(dY treeTable wk w 11 (some (.ref 6)) 12000 (wo w os) (topStub wk)).map fun s=>((staticsOk (importedModules wk.main.body) (boot_heap w.params) s.abs.heap&&namesBound wk s.abs.heap&&gensDone s.abs&&laidKept (boot_heap w.params) s.abs.heap),openSeen q1 pX (importedModules wk.main.body) Qc true s.abs))=fun _=>some (true,openGood q1 pX):=fun w=>by kernel_rfl
theorem I5:∀w:World,(fun os=>(dY treeTable wk w 11 (some (.ref 6)) 12000 (wo w os) (topStub wk)).map fun s=>BI (KT s ti))=fun _=>some ED:=fun w=>by kernel_rfl
theorem I6:∀w:World,(fun os=>(dY treeTable wk w 11 (some (.ref 6)) 12000 (wo w os) (topStub wk)).map fun s=>BJ (KT s ti))=fun _=>some EE:=fun w=>by kernel_rfl
theorem eI{op:qd}{a b:Int}:zS op (.int a) (.int b)=binI op a b:=rfl
theorem eJ{op:qd}{a b:Nat}:zS op (.str a) (.str b)=Ld op a b:=rfl
theorem xh{op:qd}{a b:List V}:zS op (.tup a) (.tup b)=Lf op a b:=rfl
theorem GK{m:List (bW×Int)}:r6 (.bU m)=some m:=rfl
theorem cL{a b n:Nat}(h:a<=n)(e:ble b a=true):b<=n:=zDo (zCu e) h
theorem bK{a b n:Nat}(h:a<=n)(e:ble (b+1) a=true):b<=n-1:=Nat.le_sub_of_add_le (zDo (zCu e) h)
theorem ub{a b n:Nat}(h:a<n)(e:ble n b=true):a<b:=zDu h (zCu e)
theorem jl{a b n:Nat}(h:a<=n)(e:ble n b=true):a<=b:=zDo h (zCu e)
theorem zk{a b n:Nat}(h:a<=n)(e:ble (n+1) b=true):a<b:=lt_of_le_of_lt h (zCu e)
theorem BK{a b n:Nat}(h:a<n)(e:ble n b=true):a<=b:=Nat.le_of_lt (zDu h (zCu e))
@[local simp] theorem Kw {H:Z} {a:Nat} {o:aN}:(H.set a o) a=some o:=zBq rfl
@[local simp] theorem Px {H:Z} {a b:Nat} {o:aN} (h:b≠a):(H.set a o) b=H b:=zAi h
@[local simp] theorem isNone_none:dw .none=true:=rfl
@[local simp] theorem I7 {a:Nat}:dw (.ref a)=false:=rfl
@[local simp] theorem I8 {a:List V}:dw (.tup a)=false:=rfl
@[local simp] theorem I9 {a:Int}:dw (.int a)=false:=rfl
@[local simp] theorem GL {a:Bool}:dw (.bool a)=false:=rfl
@[local simp] theorem Ja {a:Nat}:dw (.str a)=false:=rfl
@[local simp] theorem Dl {u}:resolve (.proof u) 4=some 4:=rfl
@[local simp] theorem zm {u}:resolve (.proof u) 5=some 5:=rfl
@[local simp] theorem Dm {u}:resolve (.proof u) 6=some 6:=rfl
@[local simp] theorem EG {u}:resolve (.proof u) 7=some 7:=rfl
@[local simp] theorem yE:resolve .store 16=some 16:=rfl
@[local simp] theorem uc:resolve .store 17=some 17:=rfl
@[local simp] theorem xi:resolve .maker 19=some 19:=rfl
@[local simp] theorem zo:resolve .maker 20=some 20:=rfl
@[local simp] theorem qR:resolve .maker 21=some 21:=rfl
@[local simp] theorem BL:resolve .maker 22=some 22:=rfl
@[local simp] theorem Dn:resolve .maker 23=some 23:=rfl
@[local simp] theorem ud:resolve .maker 24=some 24:=rfl
@[local simp] theorem Dp:resolve .maker 25=some 25:=rfl
@[local simp] theorem tj:resolve .maker 26=some 26:=rfl
@[local simp] theorem BM:resolve .maker 27=some 27:=rfl
@[local simp] theorem vx:resolve .maker 28=some 28:=rfl
@[local simp] theorem vy:resolve .maker 29=some 29:=rfl
@[local simp] theorem pG:resolve .maker 30=some 30:=rfl
@[local simp] theorem rI:resolve .maker 31=some 31:=rfl
@[local simp] theorem ue:resolve .maker 32=some 32:=rfl
@[local simp] theorem rJ:resolve .maker 33=some 33:=rfl
@[local simp] theorem uf:resolve .aM 35=some 35:=rfl
@[local simp] theorem ug:resolve .aM 36=some 36:=rfl
@[local simp] theorem Jb:resolve .aM 37=some 37:=rfl
@[local simp] theorem EH:resolve .aM 38=some 38:=rfl
@[local simp] theorem EI:resolve .aM 39=some 39:=rfl
@[local simp] theorem EJ:resolve .aM 40=some 40:=rfl
@[local simp] theorem EK:resolve .aM 23=some 53:=rfl
@[local simp] theorem yF:resolve .aM 41=some 41:=rfl
@[local simp] theorem xj:resolve .aM 42=some 42:=rfl
@[local simp] theorem vz:resolve .aM 43=some 43:=rfl
@[local simp] theorem BN:resolve .aM 44=some 44:=rfl
@[local simp] theorem BO:resolve .aM 45=some 45:=rfl
@[local simp] theorem Dq:resolve .aM 46=some 46:=rfl
@[local simp] theorem BP:resolve .aM 47=some 47:=rfl
@[local simp] theorem vA:resolve .aM 48=some 48:=rfl
@[local simp] theorem GN:resolve .aM 49=some 49:=rfl
@[local simp] theorem Jc:resolve .aM 50=some 50:=rfl
@[local simp] theorem yG:resolve .aM 51=some 51:=rfl
@[local simp] theorem GO:resolve .aM 52=some 52:=rfl
set_option genInjectivity true
structure Nd where
 op:Nat
 args:List Nat
 data:Nat
 deriving DecidableEq
noncomputable abbrev Row:=Nat->Bool
noncomputable def k8(op:Nat)(l:List Bool)(d:Bool):Bool:=
 match op,l with
 |0,_=>true
 |2,[a]=>!a
 |3,l=>l.all id
 |4,l=>l.any id
 |5,[a,b]=>a !=b
 |6,[a,b]=>!a||b
 |7,[a,b]=>a==b
 |8,[a,b,c]=>if a then b else c
 |9,[a,b]=>a !=b
 |10,_=>d
 |_,_=>false
@[local simp] theorem k8_0 {l:List Bool} {d:Bool}:k8 0 l d=true:=rfl
@[local simp] theorem k8_1 {l:List Bool} {d:Bool}:k8 1 l d=false:=rfl
@[local simp] theorem k8_2 {a d:Bool}:k8 2 [a] d=!a:=rfl
@[local simp] theorem k8_3 {l:List Bool} {d:Bool}:k8 3 l d=l.all id:=rfl
@[local simp] theorem k8_4 {l:List Bool} {d:Bool}:k8 4 l d=l.any id:=rfl
@[local simp] theorem k8_5 {a b d:Bool}:k8 5 [a,b] d=(a !=b):=rfl
@[local simp] theorem k8_6 {a b d:Bool}:k8 6 [a,b] d=(!a||b):=rfl
@[local simp] theorem k8_7 {a b d:Bool}:k8 7 [a,b] d=(a==b):=rfl
@[local simp] theorem k8_8 {a b c d:Bool}:k8 8 [a,b,c] d=(if a then b else c):=rfl
@[local simp] theorem k8_9 {a b d:Bool}:k8 9 [a,b] d=(a !=b):=rfl
@[local simp] theorem k8_93 {a b c d:Bool}:k8 9 [a,b,c] d=false:=rfl
@[local simp] theorem k8_10 {l:List Bool} {d:Bool}:k8 10 l d=d:=rfl
@[local simp] theorem k8_18 {l:List Bool} {d:Bool}:k8 18 l d=false:=rfl
noncomputable def nd(B:List Nd)(t:Nat):Nd:=B.getD t ⟨18,[],0⟩
noncomputable def Jd(B:List Nd)(row:Row):Nat->Nat->Bool
 |0,_=>false
 |f+1,t=>k8 (nd B t).op ((nd B t).args.map (Jd B row f)) (row (nd B t).data)
noncomputable def val(B:List Nd)(row:Row)(t:Nat):Bool:=Jd B row (t+1) t
noncomputable def Sz(B:List Nd):Nat->Nat->Nat
 |0,_=>0
 |f+1,t=>1+((nd B t).args.map (Sz B f)).sum
noncomputable def wt(B:List Nd)(t:Nat):Nat:=Sz B (t+1) t
noncomputable def yH(l:List Nat):Nat:=l.foldr max 0
noncomputable def rank(B:List Nd)(t:Nat):Nat:=if (nd B t).op=7 then 2*yH (nd B t).args+1 else 2*t
noncomputable def jS(op n:Nat):Bool:=match op with
 |2=>n==1
 |3=>n==2||n==3
 |4=>n==2||n==3
 |5=>n==2
 |6=>n==2
 |7=>n==2
 |8=>n==3
 |9=>n==2||n==3
 |_=>false
noncomputable def dM:List Nd:=[⟨18,[],0⟩,⟨0,[],0⟩,⟨1,[],0⟩,⟨10,[],0⟩,⟨10,[],1⟩,⟨10,[],2⟩]
structure Good(B:List Nd):Prop where
 base:∃l,B=dM++l
 ok:∀t,6<=t->t<B.length->jS (nd B t).op (nd B t).args.length=true/\∀a∈(nd B t).args,1<=a/\a<t
 nodup:(B.drop 1).Nodup
def cG(B B':List Nd):Prop:=∃l,B'=B++l
theorem cG.refl(B:List Nd):cG B B:=⟨[],(zDp _).symm⟩
theorem cG.trans{B B' Nq:List Nd}:cG B B'->cG B' Nq->cG B Nq:=by rintro⟨l,rfl⟩ ⟨m,rfl⟩;exact⟨l++m,zFu _ _ _⟩
theorem cG.len{B B':List Nd}:cG B B'->B.length<=B'.length:=by rintro⟨l,rfl⟩;simp
theorem cG.nd{B B':List Nd}(g:cG B B'){t:Nat}(h:t<B.length):nd B' t=nd B t:=by obtain⟨l,rfl⟩:=g;simp[Internal.nd,List.getD,List.getElem?_append_left h]
theorem Good.len{B:List Nd}(g:Good B):6<=B.length:=by obtain⟨l,rfl⟩:=g.base;simp[dM]
theorem Good.low{B:List Nd}(g:Good B){t:Nat}(h:t<6):nd B t=nd dM t:=by obtain⟨l,rfl⟩:=g.base;exact cG.nd ⟨l,rfl⟩ h
theorem vB{B:List Nd}{t:Nat}(h:B.length<=t):nd B t=⟨18,[],0⟩:=by simp[nd,List.getD,List.getElem?_eq_none h]
theorem Good.args{B:List Nd}(g:Good B){t a:Nat}(h:a∈(nd B t).args):1<=a/\a<t:=by
 by_cases h1:t<6
 .rw[g.low h1]at h;have:t=0\/t=1\/t=2\/t=3\/t=4\/t=5:=(aB 0x1e0070021a008600216008500220016) h1;rcases this with rfl |rfl |rfl |rfl |rfl |rfl<;>simp[nd,dM]at h
 .by_cases h2:t<B.length
  .exact(g.ok t ((aB 1084227990) h1) h2).2 a h
  .rw[vB (by exact(aD 75628950) h2)]at h;simp at h
theorem EL{B:List Nd}(g:Good B)(row:Row):∀(t f:Nat),t<f->Jd B row f t=val B row t:=by
 intro t
 induction t using strongRecOn with
 |ind t ih=>
  intro f hf;obtain⟨f,rfl⟩:∃k,f=k+1:=⟨f-1,(aD 0x5ac35a0402016) hf⟩;refine(?_:k8 _ _ _=k8 _ _ _);congr 1;refine zEi fun a ha=>?_;have:=g.args ha;rw[ih a this.2 f ((aP 0x22100844b2765868016) hf this)];rw[ih a this.2 t this.2]
theorem val_eq{B:List Nd}(g:Good B)(row:Row)(t:Nat):val B row t=k8 (nd B t).op ((nd B t).args.map (val B row)) (row (nd B t).data):=by refine(?_:k8 _ _ _=k8 _ _ _);congr 1;refine zEi fun a ha=>EL g row a t (g.args ha).2
theorem Je{B:List Nd}(g:Good B):∀(t f:Nat),t<f->Sz B f t=wt B t:=by
 intro t
 induction t using strongRecOn with
 |ind t ih=>
  intro f hf;obtain⟨f,rfl⟩:∃k,f=k+1:=⟨f-1,(aD 0x5ac35a0402016) hf⟩;refine(?_:1+_=1+_);congr 2;refine zEi fun a ha=>?_;have:=g.args ha;rw[ih a this.2 f ((aP 0x22100844b2765868016) hf this)];rw[ih a this.2 t this.2]
theorem gf{B:List Nd}(g:Good B)(t:Nat):wt B t=1+((nd B t).args.map (wt B)).sum:=by refine(?_:1+_=1+_);congr 2;refine zEi fun a ha=>Je g a t (g.args ha).2
theorem bN{B B':List Nd}(g:Good B)(g':Good B')(e:cG B B')(row:Row):∀t,t<B.length->val B' row t=val B row t:=by
 intro t
 induction t using strongRecOn with
 |ind t ih=>
  intro h;rw[val_eq g'];rw[val_eq g];rw[e.nd h];congr 1;refine zEi fun a ha=>?_;have:=g.args ha;exact ih a this.2 ((aP 0x88402112c9d82016) h this)
theorem vC{B B':List Nd}(g:Good B)(g':Good B')(e:cG B B'):∀t,t<B.length->wt B' t=wt B t:=by
 intro t
 induction t using strongRecOn with
 |ind t ih=>
  intro h;rw[gf g'];rw[gf g];rw[e.nd h];congr 2;refine zEi fun a ha=>?_;have:=g.args ha;exact ih a this.2 ((aP 0x88402112c9d82016) h this)
theorem tn{B B':List Nd}(e:cG B B'){t:Nat}(h:t<B.length):rank B' t=rank B t:=by unfold rank;rw[e.nd h]
theorem xk:∀{l:List Nat} {a:Nat},a∈l->a<=yH l
 |x::l,a,h=>by
  refine(?_:a<=max x (yH l));rcases zAy.mp h with rfl |h
  .exact aD 536066
  .have:=xk h;exact(aP 149116428326) this
theorem EM:∀{l:List Nat} {t:Nat},0<t->(∀a∈l,a<t)->yH l<t:=by
 intro zl
 induction zl with
 |nil=>
  rintro t h _;exact h
 |cons x l ih=>
  rintro t h h1;refine(?_:max x (yH l)<t);have:=h1 x (.head _);have:=ih h fun a ha=>h1 a (.tail _ ha);exact(aP 0x88171088582016) ‹_› this
theorem Good.VH{B:List Nd}(g:Good B){t:Nat}(e:(nd B t).op=7):6<=t/\t<B.length:=by
 by_cases h1:t<6
 .rw[g.low h1]at e;have:t=0\/t=1\/t=2\/t=3\/t=4\/t=5:=(aB 0x1e0070021a008600216008500220016) h1;rcases this with rfl |rfl |rfl |rfl |rfl |rfl<;>simp[nd,dM]at e
 .by_cases h2:t<B.length
  .exact(aD 0x80410270805a00196) h1 h2
  .rw[vB (by exact(aD 75628950) h2)]at e;simp at e
set_option tactic.hygienic true in
theorem xl{B:List Nd}(g:Good B)(t:Nat):rank B t<=2*t:=by
 unfold rank;split
 .rename_i e
  have h1:=g.VH e;have:=EM (t:=t) ((aD 0xa1080410276) h1) fun a ha=>(g.args ha).2;exact(aD 0x22eac02ed082016) this
 .exact aB 48760274
theorem tq{B:List Nd}(g:Good B){t a:Nat}(h:a∈(nd B t).args):rank B a<rank B t:=by
 have h0:=g.args h;have h1:=xl g a;generalize rank B a=r at h1;unfold rank;split
 .have:=xk h;exact(aP 0x5885da004412608ba026) h1 this
 .exact(aP 0x8ba2100ba22608040b276) h0 h1
theorem BR{B:List Nd}{t a b d:Nat}(e:nd B t=⟨7,[a,b],d⟩):rank B t=2*max a b+1:=by unfold rank;rw[e];simp[yH]
theorem BS{B:List Nd}{t:Nat}(e:(nd B t).op≠7):rank B t=2*t:=by unfold rank;rw[zAi e]
theorem Good.push{B:List Nd}(g:Good B){k:Nd}(h1:jS k.op k.args.length=true)(h2:∀a∈k.args,1<=a/\a<B.length)(h3:k∉B.drop 1):Good (B++[k]):=by
 have hl:=g.len;have e:nd (B++[k]) B.length=k:=by simp[nd,List.getD]
 refine⟨?_,fun t ht cE=>?_,?_⟩
 .clear e hl h3 h2;obtain⟨l,rfl⟩:=g.base;exact⟨l++[k],rfl⟩
 .by_cases q:t<B.length
  .rw[cG.nd ⟨[k],rfl⟩ q];exact g.ok t ht q
  .have:t=B.length:=by simp at cE;exact(aD 0x80161a005820196) q cE
   clear q cE ht;subst this;rw[e];exact⟨h1,h2⟩
 .rw[zGi (by exact(aB 46665766) hl)]
  refine zCi.mpr ⟨g.nodup,by simp,?_⟩
  intro a ha b hb e;rw[mem_singleton]at hb;rw[e,hb]at ha;exact h3 ha
noncomputable def jm(k:Nd):bW:=⟨k.op,k.args.map fun(a:Nat)=>(a:Int),0,k.data⟩
theorem BU{k k':Nd}(e:jm k=jm k'):k=k':=by
 obtain⟨o,a,d⟩:=k;obtain⟨o',a',d'⟩:=k';simp only[jm,bW.mk.injEq,true_and]at e;obtain⟨e1,e2,e3⟩:=e
 have:a=a':=by refine(List.map_inj_right ?_).mp e2;intro x y h;exact Int.ofNat.inj h
 clear e2;subst e1 this;rw[show d=d' from(aD 137453902134) e3]
noncomputable def eK(i:Nat):List Nd->List (bW×Int)
 |[]=>[]
 |k::l=>(jm k,(i:Int))::eK (i+1) l
noncomputable def tabOf(B:List Nd):List (bW×Int):=eK 1 (B.drop 1)
theorem k9:∀(l:List Nd) (i:Nat),(eK i l).length=l.length:=by
 intro zl
 induction zl with
 |nil=>
  rintro _;exact rfl
 |cons zp l ih=>
  rintro i;exact zEy Nat.succ (ih (i+1))
theorem iA{i:Nat}{k:Nd}{l:List Nd}:eK i (k::l)=(jm k,(i:Int))::eK (i+1) l:=rfl
theorem qS:∀(l:List Nd) (i:Nat) (k:Nd),(∃j,l[j]?=some k/\aj (jm k) (eK i l)=some ((i+j:Nat):Int))\/(k∉l/\aj (jm k) (eK i l)=none):=by
 intro zl
 induction zl with
 |nil=>
  rintro _ _;exact .inr ⟨by simp,rfl⟩
 |cons x l ih=>
  rintro i k;by_cases e:x=k
  .subst e;exact .inl ⟨0,rfl,by simp[iA,aK]⟩
  .have e':jm x≠jm k:=fun h=>e (BU h);rcases ih (i+1) k with⟨j,h1,h2⟩ |⟨h1,h2⟩
   .exact .inl ⟨j+1,h1,by simp only[iA,aK,e',if_false,h2];congr 2;exact aD 6221047549929792⟩
   .exact .inr ⟨by simp[h1,Ne.symm e],by simp[iA,aK,e',h2]⟩
theorem nB{κ:Type}[DecidableEq κ]{β:Type}{k:κ}{v:β}:∀{l:List (κ×β)},aj k l=none->putD k v l=l++[(k,v)]:=by
 intro zl
 induction zl with
 |nil=>
  rintro _;exact rfl
 |cons zp l ih=>
  obtain⟨x,w⟩:=zp;rintro h;rw[aK]at h;by_cases q:x=k
  .exact sn (zBq q) h
  .rw[zAi q]at h;simp[aO,q,ih h]
theorem tr:∀(l:List Nd) (i:Nat) (k:Nd),eK i (l++[k])=eK i l++[(jm k,((i+l.length:Nat):Int))]:=by
 intro zl
 induction zl with
 |nil=>
  rintro i k;exact rfl
 |cons x l ih=>
  rintro i k;simp only[cons_append,iA,ih (i+1) k,length_cons,List.cons.injEq,true_and];congr 3;simp;exact aD 0x161cd019a072b066943
theorem nC{B:List Nd}(h:1<=B.length)(k:Nd):tabOf (B++[k])=tabOf B++[(jm k,(B.length:Int))]:=by unfold tabOf;rw[zGi h];rw[tr];congr 4;simp;exact(aB 48470266219302) h
theorem tu{B:List Nd}(h:1<=B.length)(k:Nd):(∃t:Nat,1<=t/\t<B.length/\nd B t=k/\aj (jm k) (tabOf B)=some (t:Int))\/(k∉B.drop 1/\aj (jm k) (tabOf B)=none):=by
 rcases qS (B.drop 1) 1 k with⟨j,h1,h2⟩ |h1
 .rw[List.getElem?_drop]at h1
  have hl:1+j<B.length:=by have:=zCy.mp h1;exact this.1
  exact .inl ⟨1+j,by exact aB 190642,hl,by simp[nd,List.getD,h1],h2⟩
 .exact .inr h1
set_option genInjectivity false
set_option genCtorIdx true
inductive Rl where
 |kI |fn |fa |fr |ops |args |sorts |cP |nums |tI |iL |gu |mI |mv |mt |ms |mo |mw |pI |lO |oE
 deriving DecidableEq
noncomputable def og:Rl->Bool
 | .kI=>true
 | .ops=>true
 | .args=>true
 | .sorts=>true
 | .cP=>true
 | .nums=>true
 |_=>false
noncomputable abbrev ae(a:Nat):V:=.int (a:Int)
noncomputable def dG(l:List Nat):V:=.tup (l.map ae)
noncomputable def ej(L:Rl->Nat)(a b:Nat):List (Nat×V):=
 [(14,.ref a),(15,.ref b),(16,.ref (L .fn)),(17,.ref (L .fa)),(18,.ref (L .fr)),(19,.int 0),(20,.ref (L .ops)),(21,.ref (L .args)),(22,.ref (L .sorts)),(23,.ref (L .cP)),(24,.ref (L .nums)),(25,.int 1),(26,.int 2)]
@[local simp] theorem Yl {L:Rl->Nat} {a b:Nat}:aj 20 (ej L a b)=some (.ref (L .ops)):=rfl
@[local simp] theorem Ym {L:Rl->Nat} {a b:Nat}:aj 21 (ej L a b)=some (.ref (L .args)):=rfl
@[local simp] theorem Yn {L:Rl->Nat} {a b:Nat}:aj 22 (ej L a b)=some (.ref (L .sorts)):=rfl
@[local simp] theorem Yo {L:Rl->Nat} {a b:Nat}:aj 23 (ej L a b)=some (.ref (L .cP)):=rfl
@[local simp] theorem Yp {L:Rl->Nat} {a b:Nat}:aj 24 (ej L a b)=some (.ref (L .nums)):=rfl
@[local simp] theorem Yq {L:Rl->Nat} {a b:Nat}:aj 25 (ej L a b)=some (.int 1):=rfl
@[local simp] theorem Yr {L:Rl->Nat} {a b:Nat}:aj 26 (ej L a b)=some (.int 2):=rfl
structure av(L:Rl->Nat)(B:List Nd)(H:Z):Prop where
 inj:∀r r',L r=L r'↔r=r'
 kI:∃a b,H (L .kI)=some (.inst .aM (ej L a b))
 ops:H (L .ops)=some (.list (B.map fun k=>.str k.op))
 args:H (L .args)=some (.list (B.map fun k=>dG k.args))
 sorts:H (L .sorts)=some (.list (B.map fun _=>.int 0))
 cP:H (L .cP)=some (.list (B.map fun k=>ae k.data))
 nums:H (L .nums)=some (.bU (tabOf B))
 good:Good B
 small:B.length<5000
noncomputable def av.ka{L:Rl->Nat}{B:List Nd}{H:Z}(X:av L B H):Nat:=X.kI.choose
noncomputable def av.kb{L:Rl->Nat}{B:List Nd}{H:Z}(X:av L B H):Nat:=X.kI.choose_spec.choose
theorem av.ei{L:Rl->Nat}{B:List Nd}{H:Z}(X:av L B H):H (L .kI)=some (.inst .aM (ej L X.ka X.kb)):=X.kI.choose_spec.choose_spec
def Kp(S:Nat->Prop)(H H':Z):Prop:=∀b,H b≠none->¬S b->H' b=H b
theorem Kp.refl(S:Nat->Prop)(H:Z):Kp S H H:=fun _ _ _=>rfl
theorem Kp.trans{S:Nat->Prop}{H aa ak:Z}(x:Kp S H aa)(y:Kp S aa ak):Kp S H ak:=fun b h n=>by have e:=x b h n;rw[y b (by rw[e];exact h) n];rw[e]
theorem Kp.weaken{S S':Nat->Prop}{H H':Z}(x:Kp S H H')(h:∀b,S b->S' b):Kp S' H H':=fun b hb n=>x b hb fun q=>n (h b q)
theorem Kp.set{S:Nat->Prop}{H H':Z}(x:Kp S H H'){a:Nat}{o:aN}(h:H a=none\/S a):Kp S H (H'.set a o):=fun b hb n=>by
 have:b≠a:=by
  rintro rfl;rcases h with h |h
  .exact hb h
  .exact n h
 rw[Z.af _ _ this];exact x b hb n
noncomputable abbrev Le:=Kp (fun _=>False)
theorem Kp.at{S:Nat->Prop}{H H':Z}(x:Kp S H H'){b:Nat}{o:aN}(h:H b=some o)(n:¬S b):H' b=some o:=by rw[x b (by rw[h];simp) n];rw[h]
theorem Kp.none{S:Nat->Prop}{H H':Z}(x:Kp S H H'){b:Nat}(h:H' b=none)(n:¬S b):H b=none:=by
 cases q:H b with
 |none=>rfl
 |some o=>rw[x.at q n]at h;exact sn h.symm rfl
def RB(L:Rl->Nat)(b:Nat):Prop:=∃r,og r=true/\L r=b
def RA(L:Rl->Nat)(b:Nat):Prop:=∃r,L r=b
theorem av.keep{L:Rl->Nat}{B:List Nd}{H H':Z}(x:av L B H)(k:∀r,og r=true->H' (L r)=H (L r)):av L B H':=by have e:=x.ei;exact⟨x.inj,⟨_,_,(k _ rfl).trans e⟩,(k _ rfl).trans x.ops,(k _ rfl).trans x.args,(k _ rfl).trans x.sorts,(k _ rfl).trans x.cP,(k _ rfl).trans x.nums,x.good,x.small⟩
theorem pH{H:Z}{a:Nat}{o:aN}(h:H a=some o):H a≠none:=fun z=>nomatch h.symm.trans z
theorem av.live{L:Rl->Nat}{B:List Nd}{H:Z}(x:av L B H){r:Rl}(h:og r=true):H (L r)≠none:=by cases r<;>first |exact pH x.ei |exact pH x.ops |exact pH x.args |exact pH x.sorts |exact pH x.cP |exact pH x.nums |exact ft rfl h
theorem av.kp{L:Rl->Nat}{B:List Nd}{H H':Z}{S:Nat->Prop}(x:av L B H)(k:Kp S H H')(h:∀r,og r=true->¬S (L r)):av L B H':=
 x.keep fun r hr=>k _ (x.live hr) (h r hr)
theorem av.le{L:Rl->Nat}{B:List Nd}{H H':Z}(x:av L B H)(k:Le H H'):av L B H':=x.kp k fun _ _ h=>h
theorem av.fresh{L:Rl->Nat}{B:List Nd}{H:Z}(x:av L B H){a:Nat}{o:aN}(h:H a=none):av L B (H.set a o):=
 x.kp (Kp.set (Kp.refl (fun _=>False) H) (.inl h)) fun _ _ h=>h
theorem i6{α:Type}{B:List Nd}{t:Nat}(h:t<B.length)(f:Nd->α):(B.map f)[t]?=some (f (nd B t)):=by simp[nd,List.getD,h]
section
variable {c:Cy} {n:Nat} {L:Rl->Nat} {B:List Nd} {H:Z} {Q:V->Z->Prop}
theorem yI(O:cz c)(hn:1<=n)(X:av L B H){t:Nat}(ht:t<B.length)(h:Q (.str (nd B t).op) H):aA c 37 n [.ref (L .kI),ae t] H Q:=by have e:=X.ei;have:=X.small;refine aF O hn rfl ?_;simp[e,X.ops,i6 ht];exact⟨(aD 0xf4240e0328001388e04582016) ht this,h⟩
theorem jn(O:cz c)(hn:1<=n)(X:av L B H){t:Nat}(ht:t<B.length)(h:Q (dG (nd B t).args) H):aA c 38 n [.ref (L .kI),ae t] H Q:=by have e:=X.ei;have:=X.small;refine aF O hn rfl ?_;simp[e,X.args,i6 ht];exact⟨(aD 0xf4240e0328001388e04582016) ht this,h⟩
theorem BV(O:cz c)(hn:1<=n)(X:av L B H){t:Nat}(ht:t<B.length)(h:Q (.int 0) H):aA c 39 n [.ref (L .kI),ae t] H Q:=by have e:=X.ei;have:=X.small;refine aF O hn rfl ?_;simp[e,X.sorts,i6 ht];exact⟨(aD 0xf4240e0328001388e04582016) ht this,h⟩
theorem Jf(O:cz c)(hn:1<=n)(X:av L B H)(h:Q (.int 1) H):aA c 42 n [.ref (L .kI)] H Q:=by have e:=X.ei;refine aF O hn rfl ?_;simpa[e]using h
theorem EN(O:cz c)(hn:1<=n)(X:av L B H)(h:Q (.int 2) H):aA c 43 n [.ref (L .kI)] H Q:=by have e:=X.ei;refine aF O hn rfl ?_;simpa[e]using h
theorem pJ:∀l:List Int,gI (l.map V.int)=some l:=by
 intro zl
 induction zl with
 |nil=>
  exact rfl
 |cons i l ih=>
  simp[ih]
theorem tx(k:Nd):ek (.tup [.str k.op,dG k.args,.int 0,ae k.data])=some (jm k):=by
 have:gI (k.args.map ae)=some (k.args.map fun(a:Nat)=>(a:Int)):=by
  rw[show k.args.map ae=(k.args.map fun(a:Nat)=>(a:Int)).map V.int by simp[ae]]
  exact pJ _
 exact(zEy (fun o=>o.map fun is=>(⟨k.op,is,0,(k.data:Nat)⟩:bW)) this:)
theorem BW(O:cz c)(hn:1<=n)(X:av L B H){k:Nd}(h1:jS k.op k.args.length=true)(h2:∀a∈k.args,1<=a/\a<B.length)(h3:B.length<4000)
  (h:∀(t:Nat) B' H',1<=t->t<B'.length->nd B' t=k->(B'=B\/B'=B++[k])->av L B' H'->Kp (RB L) H H'->Q (ae t) H'):
  aA c 40 n [.ref (L .kI),.str k.op,dG k.args,.int 0,ae k.data] H Q:=by
 have e:=X.ei;have hl:=X.good.len;have hs:=X.small;have hk:=tx k;refine aF O hn rfl ?_;have hi:=X.inj;rcases tu (B:=B) (cL hl rfl) k with⟨t,t1,t2,t3,t4⟩ |⟨t1,t2⟩
 .have e0:((t:Int)==0)=false:=by simp;exact(aB 21477198630) t1
  simp[e,X.nums,GK,hk,t4,e0];exact h t B H t1 t2 t3 (.inl rfl) X (Kp.refl _ _)
 .have iy:(tabOf B).length+1=B.length:=by unfold tabOf;rw[k9];simp;exact(aB 0x16b0568008130003e838016) h3 hl
  simp[e,X.nums,X.ops,X.args,X.sorts,X.cP,GK,hk,t2,hi];have ag:lim=1000000:=rfl;refine⟨BK hs rfl,ub hs rfl,(aP 0x41107a1207040c058680c08130003e838016) h3 hl iy ag,h B.length (B++[k]) _ (cL hl rfl) (by simp) (by simp[nd,List.getD]) (.inr rfl) ⟨hi,⟨X.ka,X.kb,?_⟩,?_,?_,?_,?_,?_,X.good.push h1 h2 t1,by simp;exact(aD 0x2711c58282058680c08130003e838016) h3 hl iy⟩ ?_⟩
  .simp[Z.ab,Z.af,hi,e]
  .simp[Z.ab,Z.af,hi]
  .simp[Z.ab,Z.af,hi]
  .simp[Z.ab,Z.af,hi]
  .simp[Z.ab,Z.af,hi]
  .rw[Z.ab];rw[nC (cL hl rfl)];rw[nB t2]
  .exact(((((Kp.refl _ _).set (.inr ⟨.ops,rfl,rfl⟩)).set (.inr ⟨.args,rfl,rfl⟩)).set (.inr ⟨.sorts,rfl,rfl⟩)).set (.inr ⟨.cP,rfl,rfl⟩)).set (.inr ⟨.nums,rfl,rfl⟩)
theorem kE{g:Z->Prop}{bind:V->aH->Option aH}{body:aH->Z->SQ->Prop}{QS:SQ}(I:List V->aH->Z->Prop)(hg:∀l ρ H,I l ρ H->g H)
  (step:∀v l ρ H K,I (v::l) ρ H->(∀cx ak,I l cx ak->K cx ak)->∃bc,bind v ρ=some bc/\body bc H K) (fin:∀ρ H,I [] ρ H->QS ρ H):
  ∀l ρ H,I l ρ H->lq g bind body l ρ H QS
 |[],ρ,H,h=>⟨hg _ _ _ h,fin _ _ h⟩
 |v::l,ρ,H,h=>by obtain⟨bc,e,hb⟩:=step v l ρ H (fun cx ak=>lq g bind body l cx ak QS) h fun cx ak aL=>kE I hg step fin l cx ak aL;refine⟨hg _ _ _ h,?_⟩;rw[e];exact hb
theorem cI{i:Nat}{it:lj}{p:PS}{ρ:aH}{QS:SQ}{R:EQ}{x:V}{items:List V}{g:Z->Prop}(hi:iter H it x=some (items,g))(I:List V->aH->Z->Prop)(hg:∀l ρ H,I l ρ H->g H)
  (h0:I items ρ H) (step:∀v l ρ H K,I (v::l) ρ H->(∀cx ak,I l cx ak->K cx ak)->wpS c n p (b9 ρ i v) H K R) (fin:∀ρ H,I [] ρ H->QS ρ H):uF c n i it p ρ QS R x H:=by
 unfold uF HT;rw[hi];exact kE I hg (fun v l ρ H K h k=>⟨_,rfl,step v l ρ H K h k⟩) fin items ρ H h0
theorem tz{test:aH->Z->BQ->Prop}{body:aH->Z->SQ->Prop}{QS:SQ}(I:Nat->aH->Z->Prop)
  (step:∀m ρ H (K:BQ),I m ρ H->(∀aa,(∀K':SQ,(∀m' cx ak,m'<m->I m' cx ak->K' cx ak)->body ρ aa K')->K true aa)->(∀aa,QS ρ aa->K false aa)->test ρ H K):
  ∀m ρ H,I m ρ H->∀k,m<k->qi test body k ρ H QS:=by
 intro m
 induction m using strongRecOn with
 |ind m ih=>
  intro ρ H h k hk;obtain⟨k,rfl⟩:∃j,k=j+1:=⟨k-1,(aD 0x5ac35a0402016) hk⟩
  exact step m ρ H _ h (fun aa hb=>by rw[zBq rfl];exact hb _ fun m' cx ak hm aL=>ih m' hm cx ak aL k ((aP 0x88402165868016) hk hm)) fun aa q=>by rw[zAi (by simp)];exact q
theorem g7{t:PE}{p:PS}{ρ:aH}{QS:SQ}{R:EQ}(I:Nat->aH->Z->Prop){m:Nat}(h0:I m ρ H)
  (step:∀m ρ H (K:BQ),I m ρ H->(∀aa,(∀K':SQ,(∀m' cx ak,m'<m->I m' cx ak->K' cx ak)->wpS c n p ρ aa K' R)->K true aa)->(∀aa,QS ρ aa->K false aa)->eV c n t ρ H K):
  HU c n t p QS R ρ H:=⟨m+1,tz I step m ρ H h0 _ (zDe m)⟩
theorem fB{e:PE}{j:Nat}{it:lj}{ρ:aH}{x:V}{items:List V}{g:Z->Prop}(hi:iter H it x=some (items,g))(hl:items.length<=lim)(I:List V->List V->Z->Prop)(hg:∀l acc H,I l acc H->g H)
  (h0:I items [] H) (step:∀v l acc H (K:EQ),I (v::l) acc H->(∀x ak,I l (acc++[x]) ak->K x ak)->bA c n e (b9 ρ j v) H K) (fin:∀acc H a,I [] acc H->H a=none->Q (.ref a) (H.set a (.list acc))):
  iO c n e j it (.cst (.bool true)) ρ Q x H:=by
 unfold iO se;rw[hi];refine⟨hl,?_⟩
 have:∀l acc H,I l acc H->mr g j (eV c n (.cst (.bool true))) (bA c n e) l acc ρ H Q:=by
  intro l
  induction l with
  |nil=>intro acc H h;exact⟨hg _ _ _ h,fun a ha=>fin acc H a h ha⟩
  |cons v l ih=>
   intro acc H h;refine⟨hg _ _ _ h,?_⟩;rw[LK,Ao,zBq rfl];exact step v l acc H _ h fun x ak aL=>ih _ _ aL
 exact this items [] H h0
theorem comp_map{e:PE}{j:Nat}{it:lj}{ρ:aH}{x:V}{items:List V}{g:Z->Prop}(hi:iter H it x=some (items,g))(hl:items.length<=lim)(hg:g H)(f:V->V)
  (step:∀v∈items,∀(K:EQ),K (f v) H->bA c n e (b9 ρ j v) H K) (fin:∀a,H a=none->Q (.ref a) (H.set a (.list (items.map f)))):
  iO c n e j it (.cst (.bool true)) ρ Q x H:=by
 refine fB hi hl (fun l acc H'=>H'=H/\acc++l.map f=items.map f/\∀v∈l,v∈items) (fun _ _ _ h=>h.1▸hg) ⟨rfl,rfl,fun _ h=>h⟩ (fun v l acc H' K h k=>?_) fun acc H' a h ha=>?_
 .clear fin hg hi;obtain⟨rfl,h2,h3⟩:=h;exact step v (h3 v (.head _)) K (k _ _ ⟨rfl,by rw[←h2];exact zFu _ _ _,fun u hu=>h3 u (.tail _ hu)⟩)
 .clear step hg hi;obtain⟨rfl,h2,_⟩:=h;simp at h2;subst h2;exact fin a ha
end
set_option genCtorIdx false
theorem vD{α:Type}{l:List α}(h:l.length=1):∃x,l=[x]:=List.length_eq_one_iff.mp h
inductive L2{α:Type}(l:List α):Prop
 |mk (x y:α) (e:l=[x,y])
inductive L3{α:Type}(l:List α):Prop
 |mk (x y z:α) (e:l=[x,y,z])
theorem iM{α:Type}{l:List α}(h:l.length=2):L2 l:=by obtain⟨x,r,rfl⟩:=List.exists_cons_of_length_eq_add_one h;obtain⟨y,e⟩:=vD (Nat.succ.inj h);exact⟨x,y,zEy _ e⟩
theorem BX{α:Type}{l:List α}(h:l.length=3):L3 l:=by obtain⟨x,r,rfl⟩:=List.exists_cons_of_length_eq_add_one h;obtain⟨y,z,e⟩:=iM (Nat.succ.inj h);exact⟨x,y,z,zEy _ e⟩
theorem aJ:lim=1000000:=rfl
structure Made(B B':List Nd)(t:Nat)(f:Row->Bool)(w:Nat):Prop where
 grow:cG B B'
 pos:1<=t
 lt:t<B'.length
 val:∀row,val B' row t=f row
 wt:wt B' t<=w
 len:B'.length<=B.length+1
theorem Made.node{B B':List Nd}(g:Good B)(g':Good B'){t:Nat}{k:Nd}(h1:1<=t)(h2:t<B'.length)(h3:nd B' t=k)(h4:B'=B\/B'=B++[k])(ha:∀a∈k.args,a<B.length):
  Made B B' t (fun row=>k8 k.op (k.args.map (Internal.val B row)) (row k.data)) (1+(k.args.map (Internal.wt B)).sum):=by
 have gr:cG B B':=by
  clear ha g h3 h2 g';rcases h4 with rfl |rfl
  .exact cG.refl _
  .exact⟨[k],rfl⟩
 refine⟨gr,h1,h2,fun row=>?_,?_,?_⟩
 .rw[val_eq g'];rw[h3];congr 1;exact zEi fun a h=>bN g g' gr row a (ha a h)
 .rw[gf g'];rw[h3];apply Nat.le_of_eq;congr 2;exact zEi fun a h=>vC g g' gr a (ha a h)
 .clear gr ha g h3 h2 g';rcases h4 with rfl |rfl<;>simp
theorem Made.old{B:List Nd}{t:Nat}(h1:1<=t)(h2:t<B.length):Made B B t (fun row=>Internal.val B row t) (Internal.wt B t):=
 ⟨cG.refl _,h1,h2,fun _=>rfl,zAq _,aB 5777410⟩
theorem Made.to{B B':List Nd}{t:Nat}{f g:Row->Bool}{w w':Nat}(x:Made B B' t f w)(h:∀row,f row=g row)(hw:w<=w'):Made B B' t g w':=
 ⟨x.grow,x.pos,x.lt,fun row=>(x.val row).trans (h row),zDo x.wt hw,x.len⟩
theorem val_1{B:List Nd}(g:Good B)(row:Row):val B row 1=true:=by rw[val_eq g];rw[g.low (by decide)];rfl
theorem val_2{B:List Nd}(g:Good B)(row:Row):val B row 2=false:=by rw[val_eq g];rw[g.low (by decide)];rfl
theorem wt_1{B:List Nd}(g:Good B):wt B 1=1:=by rw[gf g];rw[g.low (by decide)];rfl
theorem wt_2{B:List Nd}(g:Good B):wt B 2=1:=by rw[gf g];rw[g.low (by decide)];rfl
theorem jo{B:List Nd}(g:Good B)(t:Nat):1<=wt B t:=by rw[gf g];exact aB 190642
section
variable {c:Cy} {n:Nat} {L:Rl->Nat} {B:List Nd} {H:Z} {Q:V->Z->Prop}
theorem nD(O:cz c)(hn:1<=n)(X:av L B H){t k:Nat}(ht:t<B.length)(h:Q .none H):aA c 53 n [.ref (L .kI),ae t,.int 0,.str k] H Q:=by
 have e:=X.ei;have:=X.small;have hl:=aJ;refine aF O hn rfl ?_;simp[e,X.sorts,i6 ht]
 repeat (refine⟨(aD 0xf4240e0328001388e04582016) ht this,?_⟩)
 exact h
theorem dU(O:cz c)(hn:2<=n)(X:av L B H){ts:List Nat}{x:V}{g:Z->Prop}{k:Nat}(hx:iter H .seq x=some (ts.map ae,g))(hg:g H)(ht:∀t∈ts,t<B.length)(h:Q .none H):aA c 41 n [.ref (L .kI),x,.int 0,.str k] H Q:=by
 have e:=X.ei;refine aF O (cL hn rfl) rfl ?_;simp;refine cI hx (fun l ρ H'=>H'=H/\(∃Kx:List Nat,l=Kx.map ae/\∀t∈Kx,t<B.length)/\∃u,ρ=[some (.ref (L .kI)),some x,some (.int 0),some (.str k),u,none]) (fun _ _ _ h=>h.1▸hg) ⟨rfl,⟨ts,rfl,ht⟩,_,rfl⟩ ?_ ?_
 .clear h hg hx;rintro v l ρ H' K ⟨rfl,⟨Kx,e1,e2⟩,u,rfl⟩ k1;cases Kx with
  |nil=>cases e1
  |cons t Kx=>
   simp only[map_cons,List.cons.injEq]at e1;obtain⟨rfl,rfl⟩:=e1;simp[e];refine nD O (bK hn rfl) X (e2 t (.head _)) ?_;simp;exact k1 _ _ ⟨rfl,⟨Kx,rfl,fun t h=>e2 t (.tail _ h)⟩,_,rfl⟩
 .clear e hg hx X;rintro ρ H' ⟨rfl,_,u,rfl⟩;exact h
theorem tA(O:cz c)(hn:2<=n)(X:av L B H){t:Nat}(h1:1<=t)(ht:t<B.length)(h3:B.length<4000)
  (h:∀(t':Nat) B' H',Made B B' t' (fun row=>!val B row t) (wt B t+1)->(B'=B\/B'=B++[⟨2,[t],0⟩])->av L B' H'->Kp (RB L) H H'->Q (ae t') H'):
  aA c 44 n [.ref (L .kI),ae t] H Q:=by
 have e:=X.ei;have g:=X.good;have hs:=X.small;have hl:=aJ;have hlen:=g.len;refine aF O (cL hn rfl) rfl ?_;simp[e];refine nD O (bK hn rfl) X ht ?_;have lt:(t:Int)<lim:=(aP 0x590650302607a1207040c000fa0e04582016) ht h3 hl hlen;simp[e,X.ops,X.args,i6 ht,lt];by_cases e1:(nd B t).op=2
 .have h6:6<=t:=by
   by_cases q:t<6
   .rw[g.low q]at e1;have:t=0\/t=1\/t=2\/t=3\/t=4\/t=5:=(aB 0x7801c008680218008580214008800580b26) h1 q;clear q lt h ht h1;rcases this with rfl |rfl |rfl |rfl |rfl |rfl<;>simp[nd,dM]at e1
   .exact(aB 1084227990) q
  have ar:=(g.ok t h6 ht).1;rw[e1]at ar;obtain⟨u,e2⟩:∃u,(nd B t).args=[u]:=List.length_eq_one_iff.mp (eq_of_beq ar);have hu:=g.args (t:=t) (a:=u) (by rw[e2];exact .head _)
  simp[e,X.ops,X.args,i6 ht,lt,e1,e2,dG]
  repeat (refine⟨by omega,?_⟩)
  refine h u B H ((Made.old hu.1 ((aP 0x88402112c9d82016) ht hu)).to (fun row=>?_) ?_) (.inl rfl) X (Kp.refl _ _)
  .have:=val_eq g row t;rw[e1,e2]at this;rw[this];simp
  .have:=gf g t;rw[e2]at this;simp at this;exact(aD 0x5828120ae8006) this
 .have qT:((nd B t).op==2)=false:=by simp[e1]
  simp[e,qT];by_cases e2:t=1
  .clear qT e1 lt ht;subst e2;simp[e];exact h 2 B H ((Made.old (jl h1 rfl) (by exact(aB 0x18208130003e838016) h3 hlen)).to (fun row=>by rw[val_1 g];rw[val_2 g];rfl) (by rw[wt_1 g];rw[wt_2 g];exact jl h1 rfl)) (.inl rfl) X (Kp.refl _ _)
  .have EO:((t:Int)==1)=false:=by simp;exact(aB 0xb064e560096) e2
   simp[e,EO];by_cases e3:t=2
   .clear EO e2 qT e1 lt ht;subst e3;simp[e];exact h 1 B H ((Made.old (by decide) (by exact(aB 0x16208130003e838016) h3 hlen)).to (fun row=>by rw[val_1 g];rw[val_2 g];rfl) (by rw[wt_1 g];rw[wt_2 g];exact cL h1 rfl)) (.inl rfl) X (Kp.refl _ _)
   .have Ys:((t:Int)==2)=false:=by simp;exact(aB 0xc064e580096) e3
    simp[e,Ys];have nk:=BW (Q:=Q) (n:=n-1) O (bK hn rfl) X (k:=⟨2,[t],0⟩) rfl (by simp;exact(aD 0x8040b27080580b26) h1 ht) h3 fun t' B' H' a1 a2 a3 a4 a5 a6=>h t' B' H' ((Made.node g a5.good a1 a2 a3 a4 (by simpa using ht)).to (fun row=>rfl) (by simp;exact aB 5916071746)) a4 a5 a6
    repeat (refine⟨by omega,?_⟩)
    exact nk
theorem w_mk(O:cz c)(hn:1<=n)(X:av L B H){op:Nat}{l:List Nat}{f:Row->Bool}(h1:jS op l.length=true)(h2:∀a∈l,1<=a/\a<B.length)(h3:B.length<4000)(hf:∀row,k8 op (l.map (val B row)) (row 0)=f row)
  (h:∀(t:Nat) B' H',Made B B' t f (1+(l.map (wt B)).sum)->(B'=B\/B'=B++[⟨op,l,0⟩])->nd B' t=⟨op,l,0⟩->av L B' H'->Kp (RB L) H H'->Q (ae t) H'):
  aA c 40 n [.ref (L .kI),.str op,dG l,.int 0,.int 0] H Q:=
 BW (k:=⟨op,l,0⟩) O hn X h1 h2 h3 fun t B' H' a1 a2 a3 a4 a5 a6=>h t B' H' ((Made.node X.good a5.good a1 a2 a3 a4 fun a ha=>(h2 a ha).2).to hf (zAq _)) a4 a3 a5 a6
theorem BY(O:cz c)(hn:3<=n)(X:av L B H){s t:Nat}(hs:1<=s/\s<B.length)(ht:1<=t/\t<B.length)(h3:B.length<4000)
  (h:∀(u:Nat) B' H',Made B B' u (fun row=>val B row s !=val B row t) (1+wt B s+wt B t)->av L B' H'->Kp (RB L) H H'->Q (ae u) H'):
  aA c 47 n [.ref (L .kI),ae s,ae t] H Q:=by
 have e:=X.ei;have hl:=aJ;refine aF O (cL hn rfl) rfl ?_;simp[e]
 repeat (refine⟨by omega,?_⟩)
 refine dU (ts:=[s,t]) (g:=fun _=>True) O (bK hn rfl) X rfl trivial (by simp;exact(aP 0x884201708844b27608040b276) hs ht) ?_
 simp[e]
 repeat (refine⟨by omega,?_⟩)
 refine w_mk (l:=[s,t]) O (bK hn rfl) X rfl (by simp;exact(aP 0x8844b2708040b27708844b27608040b276) hs ht) h3 (f:=fun row=>val B row s !=val B row t) (fun row=>rfl) fun u B' H' m _ _ x k=>h u B' H' (m.to (fun _=>rfl) (by simp;exact aD 569351619286850)) x k
theorem qU(O:cz c)(hn:3<=n)(X:av L B H){s t:Nat}(hs:1<=s/\s<B.length)(ht:1<=t/\t<B.length)(h3:B.length<4000)
  (h:∀(u:Nat) B' H',Made B B' u (fun row=>!val B row s||val B row t) (1+wt B s+wt B t)->av L B' H'->Kp (RB L) H H'->Q (ae u) H'):
  aA c 48 n [.ref (L .kI),ae s,ae t] H Q:=by
 have e:=X.ei;have hl:=aJ;refine aF O (cL hn rfl) rfl ?_;simp[e]
 repeat (refine⟨by omega,?_⟩)
 refine dU (ts:=[s,t]) (g:=fun _=>True) O (bK hn rfl) X rfl trivial (by simp;exact(aP 0x884201708844b27608040b276) hs ht) ?_
 simp[e]
 repeat (refine⟨by omega,?_⟩)
 refine w_mk (l:=[s,t]) O (bK hn rfl) X rfl (by simp;exact(aP 0x8844b2708040b27708844b27608040b276) hs ht) h3 (f:=fun row=>!val B row s||val B row t) (fun row=>rfl) fun u B' H' m _ _ x k=>h u B' H' (m.to (fun _=>rfl) (by simp;exact aD 569351619286850)) x k
def BZ(B:List Nd)(s t u:Nat):Prop:=(s=t/\u=1)\/(s≠t/\nd B u=⟨7,[min s t,max s t],0⟩)
theorem w_eq(O:cz c)(hn:2<=n)(X:av L B H){s t:Nat}(hs:1<=s/\s<B.length)(ht:1<=t/\t<B.length)(h3:B.length<4000)
  (h:∀(u:Nat) B' H',Made B B' u (fun row=>val B row s==val B row t) (1+wt B s+wt B t)->BZ B' s t u->(B'=B\/B'=B++[⟨7,[min s t,max s t],0⟩])->av L B' H'->Kp (RB L) H H'->Q (ae u) H'):
  aA c 50 n [.ref (L .kI),ae s,ae t] H Q:=by
 have e:=X.ei;have hl:=aJ;have g:=X.good;have hlen:=g.len;refine aF O (cL hn rfl) rfl ?_;have lt:(s:Int)<lim:=by exact(aP 0x1641940c0981e8481c1030003e83811608040b276) hs h3 hl hlen
 simp[e,X.sorts,i6 hs.2,lt]
 repeat (refine⟨by omega,?_⟩)
 refine nD O (bK hn rfl) X ht.2 ?_;simp[e];by_cases q:s=t
 .clear ht;subst q;simp[e];exact h 1 B H ((Made.old (by decide) (by exact(aB 0x16208130003e838016) h3 hlen)).to (fun row=>by rw[val_1 g];simp) (by rw[wt_1 g];exact aB 6105266)) (.inl ⟨rfl,rfl⟩) (.inl rfl) X (Kp.refl _ _)
 .have q':((s:Int)==t)=false:=by simp;exact(aD 62699245535382) q
  simp[e,q'];have m1:(if t<s then(t:Int) else s)=((min s t:Nat):Int):=by split<;>(first |exact(aD 7529183322134) ‹_› |exact(aD 0x6d90e4c20196) ‹_›)
  have m2:(if s<t then(t:Int) else s)=((max s t:Nat):Int):=by split<;>(first |exact(aD 0x82f90e4c2016) ‹_› |exact(aD 0x82f9064c20196) ‹_›)
  rw[m1];rw[m2]
  repeat (refine⟨by omega,?_⟩)
  refine w_mk (l:=[min s t,max s t]) O (bK hn rfl) X rfl (by simp;exact(dq 0x440b888175938440b08816593b8f20ca303d0903830608844b27608040b276) hs ht hl lt) h3 (f:=fun row=>val B row s==val B row t) (fun row=>?_) fun u B' H' m a1 a2 x k=>h u B' H' (m.to (fun _=>rfl) ?_) (.inr ⟨q,a2⟩) a1 x k
  .rcases Nat.lt_or_gt_of_ne q with q |q
   .rw[Nat.min_eq_left (by exact(aD 134750230) q)];rw[Nat.max_eq_right (by exact(aD 134750230) q)];rfl
   .rw[Nat.min_eq_right (by exact(aD 134750230) q)];rw[Nat.max_eq_left (by exact(aD 134750230) q)]
    simp[Bool.beq_comm]
  .rcases Nat.lt_or_gt_of_ne q with q |q
   .rw[Nat.min_eq_left (by exact(aD 134750230) q)];rw[Nat.max_eq_right (by exact(aD 134750230) q)];simp;exact aD 569351619286850
   .rw[Nat.min_eq_right (by exact(aD 134750230) q)];rw[Nat.max_eq_left (by exact(aD 134750230) q)];simp;exact aD 23993851909954
theorem Nr(O:cz c)(hn:3<=n)(X:av L B H){s t:Nat}(hs:1<=s/\s<B.length)(ht:1<=t/\t<B.length)(h3:B.length<4000)
  (h:∀(u:Nat) B' H',Made B B' u (fun row=>val B row s==val B row t) (1+wt B s+wt B t)->av L B' H'->Kp (RB L) H H'->Q (ae u) H'):
  aA c 49 n [.ref (L .kI),ae s,ae t] H Q:=by
 have e:=X.ei;have hl:=aJ;refine aF O (cL hn rfl) rfl ?_;simp[e]
 repeat (refine⟨by omega,?_⟩)
 refine dU (ts:=[s,t]) (g:=fun _=>True) O (bK hn rfl) X rfl trivial (by simp;exact(aP 0x884201708844b27608040b276) hs ht) ?_
 simp[e];exact w_eq O (bK hn rfl) X hs ht h3 fun u B' H' m _ _ x k=>h u B' H' m x k
theorem w_ite(O:cz c)(hn:3<=n)(X:av L B H){r s t:Nat}(hr:1<=r/\r<B.length)(hs:1<=s/\s<B.length)(ht:1<=t/\t<B.length)(h3:B.length<4000)
  (h:∀(u:Nat) B' H',Made B B' u (fun row=>if val B row r then val B row s else val B row t) (1+wt B r+wt B s+wt B t)->av L B' H'->Kp (RB L) H H'->Q (ae u) H'):
  aA c 52 n [.ref (L .kI),ae r,ae s,ae t] H Q:=by
 have e:=X.ei;have hl:=aJ;refine aF O (cL hn rfl) rfl ?_;have lt:(s:Int)<lim:=(dq 0x7916501e8481c1830003e83811608844b27608040b276) hr hs h3 hl;simp[e];refine nD O (bK hn rfl) X hr.2 ?_;simp[e,X.sorts,i6 hs.2,lt]
 repeat (refine⟨by omega,?_⟩)
 refine nD O (bK hn rfl) X ht.2 ?_;simp[e,X.sorts,i6 hs.2,lt]
 repeat (refine⟨by omega,?_⟩)
 refine w_mk (l:=[r,s,t]) O (bK hn rfl) X rfl (by simp;exact(dq 0x8c46b2708844b27708040b27708c46b27608844b27608040b276) hr hs ht) h3 (f:=fun row=>if val B row r then val B row s else val B row t) (fun row=>rfl) fun u B' H' m _ _ x k=>h u B' H' (m.to (fun _=>rfl) (by simp;exact aP 0x4102e94a0834051742)) x k
theorem B5(O:cz c)(hn:3<=n)(X:av L B H){p:Nat}{l:List Nat}(hp:H p=some (.list (l.map ae)))(iy:l.length=2\/l.length=3)(h2:∀a∈l,1<=a/\a<B.length)(h3:B.length<4000)
  (h:∀(u:Nat) B' H',Made B B' u (fun row=>(l.map (val B row)).all id) (1+(l.map (wt B)).sum)->av L B' H'->Kp (RB L) H H'->Q (ae u) H'):
  aA c 45 n [.ref (L .kI),.ref p] H Q:=by
 have e:=X.ei;have hl:=aJ;have e0:((l.length:Int)==0)=false:=by simp;intro h;clear h2 hp;subst h;simp at iy
 have e1:((l.length:Int)==1)=false:=by simp;exact(aB 0x2c1939680180086) iy
 refine aF O (cL hn rfl) rfl ?_;simp[e];refine dU (ts:=l) O (bK hn rfl) X ((bF hp).trans rfl) hp (fun t ht=>(h2 t ht).2) ?_;simp[e,hp,e0,e1]
 repeat (refine⟨(aD 0x10103d09038106680180086) iy hl,?_⟩)
 refine w_mk (l:=l) (op:=3) O (bK hn rfl) X (by rcases iy with q |q<;>rw[q]<;>rfl) h2 h3 (fun row=>rfl) fun u B' H' m _ _ x k=>h u B' H' m x k
theorem EP(O:cz c)(hn:3<=n)(X:av L B H){p:Nat}{l:List Nat}(hp:H p=some (.list (l.map ae)))(iy:l.length=2\/l.length=3)(h2:∀a∈l,1<=a/\a<B.length)(h3:B.length<4000)
  (h:∀(u:Nat) B' H',Made B B' u (fun row=>(l.map (val B row)).any id) (1+(l.map (wt B)).sum)->av L B' H'->Kp (RB L) H H'->Q (ae u) H'):
  aA c 46 n [.ref (L .kI),.ref p] H Q:=by
 have e:=X.ei;have hl:=aJ;have e0:((l.length:Int)==0)=false:=by simp;intro h;clear h2 hp;subst h;simp at iy
 have e1:((l.length:Int)==1)=false:=by simp;exact(aB 0x2c1939680180086) iy
 refine aF O (cL hn rfl) rfl ?_;simp[e];refine dU (ts:=l) O (bK hn rfl) X ((bF hp).trans rfl) hp (fun t ht=>(h2 t ht).2) ?_;simp[e,hp,e0,e1]
 repeat (refine⟨(aD 0x10103d09038106680180086) iy hl,?_⟩)
 refine w_mk (l:=l) (op:=4) O (bK hn rfl) X (by rcases iy with q |q<;>rw[q]<;>rfl) h2 h3 (fun row=>rfl) fun u B' H' m _ _ x k=>h u B' H' m x k
theorem vE(O:cz c)(hn:3<=n)(X:av L B H){p:Nat}{l:List Nat}(hp:H p=some (.list (l.map ae)))(iy:l.length=2\/l.length=3)(h2:∀a∈l,1<=a/\a<B.length)(h3:B.length<4000)
  (h:∀(u:Nat) B' H',Made B B' u (fun row=>k8 9 (l.map (val B row)) false) (1+(l.map (wt B)).sum)->av L B' H'->Kp (RB L) H H'->Q (ae u) H'):
  aA c 51 n [.ref (L .kI),.ref p] H Q:=by
 have e:=X.ei;have hl:=aJ
 obtain⟨t0,l',rfl⟩:∃t0 l',l=t0::l':=by
  clear h h2 hp;cases l with
  |nil=>simp at iy
  |cons x y=>exact⟨x,y,rfl⟩
 have Py:=h2 t0 (.head _);have e0:decide ((l'.length:Int)+1<2)=false:=by simp at iy⊢;exact(aB 0xb0668c5600160086) iy
 have lt:(t0:Int)<lim:=(aP 0x39165002112c9d81e8481c0830003e838016) h3 hl Py;simp at iy;refine aF O (cL hn rfl) rfl ?_;simp[e,hp,e0,X.sorts,i6 Py.2,lt]
 repeat (refine⟨by(first |exact(aD 0x161a13020b084303d09038006) hl iy |omega),?_⟩)
 refine dU (ts:=t0::l') O (bK hn rfl) X ((bF hp).trans rfl) hp (fun t ht=>(h2 t ht).2) ?_;simp[e,hp]
 repeat (refine⟨(aD 0x161a13020b084303d09038006) hl iy,?_⟩)
 refine w_mk (l:=t0::l') (op:=9) O (bK hn rfl) X ?_ h2 h3 (fun row=>?_) fun u B' H' m _ _ x k=>h u B' H' m x k
 .simp;rcases iy with q |q<;>rw[q]<;>rfl
 .clear e0 h h2 hp;rcases iy with q |q
  .obtain⟨x,rfl⟩:=vD ((aB 1476485126) q:l'.length=1);rfl
  .obtain⟨x,y,rfl⟩:=iM ((aB 1610711046) q:l'.length=2);rfl
end
noncomputable def bq(B:List Nd)(row:Row)(s:Int):Bool:=if 0<s then val B row s.natAbs else !val B row s.natAbs
theorem tB{B:List Nd}{row:Row}{s:Int}(h:s≠0):bq B row (-s)=!bq B row s:=by
 unfold bq;rw[natAbs_neg];by_cases q:0<s
 .rw[zBq q];rw[zAi (by exact(jy 52229835334) q)]
 .rw[zAi q];rw[zBq (by exact(jy 0x30a402925940396) h q)];simp
theorem cq{B:List Nd}{row:Row}{t:Nat}(h:1<=t):bq B row (t:Int)=val B row t:=by unfold bq;rw[zBq (by exact(aB 3398437670) h)];rfl
theorem cA{B:List Nd}{row:Row}{t:Nat}(h:1<=t):bq B row (-(t:Int))=!val B row t:=by rw[tB (by exact(aB 688887434022) h)];rw[cq h]
theorem tC{B B':List Nd}(g:Good B)(g':Good B')(e:cG B B')(row:Row){s:Int}(h:s.natAbs<B.length):bq B' row s=bq B row s:=by unfold bq;rw[bN g g' e row _ h]
structure g8(B:List Nd)(t:Nat)(bG:List (Int×List Int)):Prop where
 len:bG.length<=4
 each:∀p∈bG,(p.1=1\/p.1=2\/p.1=3)/\p.2.length<=4/\∀s∈p.2,s≠0/\s.natAbs<B.length/\(s.natAbs=t\/rank B s.natAbs<rank B t)
 snd:∀row,∀p∈bG,∃s∈p.2,bq B row s=true
 dh:∀row,(∀p∈bG,p.1≠2->∃s∈p.2,s≠-(t:Int)/\(s=t\/bq B row s=true))->val B row t=true
 df:∀row,(∀p∈bG,p.1≠1->∃s∈p.2,s≠(t:Int)/\(s= -(t:Int)\/bq B row s=true))->val B row t=false
def cu(B:List Nd)(t:Nat)(s:Int):Prop:=s≠0/\s.natAbs<B.length/\rank B s.natAbs<rank B t
theorem cu.ne{B:List Nd}{t:Nat}{s:Int}(h:cu B t s):s≠t/\s≠-(t:Int)/\-s≠t/\-s≠-(t:Int):=by
 have:s.natAbs≠t:=fun e=>by have:=h.2.2;rw[e]at this;exact(aB 2621462) this
 exact(oj 0x338060e419060e5c19c00e5c1901cb801a096) this
theorem cu.neg{B:List Nd}{t:Nat}{s:Int}(h:cu B t s):cu B t (-s):=⟨by have:=h.1;exact(jy 0xa060e540396) this,by rw[natAbs_neg];exact h.2.1,by rw[natAbs_neg];exact h.2.2⟩
theorem cu.ok{B:List Nd}{t:Nat}{s:Int}(h:cu B t s):s≠0/\s.natAbs<B.length/\(s.natAbs=t\/rank B s.natAbs<rank B t):=⟨h.1,h.2.1,.inr h.2.2⟩
noncomputable def B6(d:Int)(ps:List Int):List (Int×List Int):=(ps.map fun p=>(1,[-d,p]))++[(2,d::ps.map fun p=> -p)]
noncomputable def Pz(d:Int)(ps:List Int):List (Int×List Int):=(1,-d::ps)::ps.map fun p=>(2,[d,-p])
noncomputable def Nt(d p q:Int):List (Int×List Int):=[(1,[-d,p,q]),(1,[-d,-p,-q]),(2,[d,-p,q]),(2,[d,p,-q])]
noncomputable def Nu(d c a b:Int):List (Int×List Int):=[(1,[-d,-c,a]),(1,[-d,c,b]),(2,[d,-c,-a]),(2,[d,c,-b])]
section
variable {B:List Nd} {t:Nat}
theorem B7(h:1<=t/\t<B.length):(t:Int)≠0/\(t:Int).natAbs<B.length/\((t:Int).natAbs=t\/rank B (t:Int).natAbs<rank B t):=⟨(aD 0x28193908040b276) h,(aD 0x833a108040b276) h,.inl ((aD 908198756266614) h)⟩
theorem ER(h:1<=t/\t<B.length): -(t:Int)≠0/\(-(t:Int)).natAbs<B.length/\((-(t:Int)).natAbs=t\/rank B (-(t:Int)).natAbs<rank B t):=⟨(aD 0x503383908040b276) h,(aD 0x10671a108040b276) h,.inl ((aD 0x671a008040b276) h)⟩
noncomputable abbrev B8:=Bool×Nat
noncomputable abbrev Ky:=List (Int×List B8)
noncomputable def ES(t:Nat)(ps:List Int)(l:B8):Int:=bif l.1 then -(iD (t:Int) ((t:Int)::ps) l.2) else iD (t:Int) ((t:Int)::ps) l.2
noncomputable def inst(T:Ky)(t:Nat)(ps:List Int):List (Int×List Int):=T.map fun c=>(c.1,c.2.map (ES t ps))
noncomputable def sv(d:Bool)(b:List Bool)(l:B8):Bool:=bif l.1 then !(iD d (d::b) l.2) else iD d (d::b) l.2
noncomputable def B9(k:Nat):List (List Bool):=Nat.rec [[]] (fun _ l=>l.flatMap fun b=>[true::b,false::b]) k
theorem Ca:∀b:List Bool,b∈B9 b.length:=by
 intro zl
 induction zl with
 |nil=>
  exact .head _
 |cons x b ih=>
  exact List.mem_flatMap.mpr ⟨b,ih,by cases x;exact .tail _ (.head _);exact .head _⟩
noncomputable def side(T:Ky)(o:Int)(z:Bool)(d:Bool)(b:List Bool):Bool:=T.all fun c=>c.1==o||c.2.any fun l=>!(l==(z,0))&&(l==(!z,0)||sv d b l)
noncomputable def Cb(T:Ky)(k:Nat)(f:List Bool->Bool):Bool:=
 ble T.length 4&&(T.all fun c=>(c.1==1||(c.1==2||c.1==3))&&(ble c.2.length 4&&c.2.all fun l=>ble l.2 k))&&
 ((B9 k).all fun b=>(T.all fun c=>c.2.any (sv (f b) b))&&((!side T 2 true (f b) b||f b)&&(!side T 1 false (f b) b||!f b)))
theorem xm(g:Int->Bool)(x:Int):∀(l:List Int) i,iD (g x) (l.map g) i=g (iD x l i)
 |[],_=>rfl
 |_::_,0=>rfl
 |_::l,i+1=>xm g x l i
theorem qV(x:Int):∀(l:List Int) i,i<l.length->iD x l i∈l
 |_::_,0,_=>.head _
 |_::l,i+1,h=>.tail _ (qV x l i (Nat.lt_of_succ_lt_succ h))
theorem tD{ps:List Int}(hp:∀p∈ps,cu B t p){l:B8}(h:l.2<=ps.length):l=(false,0)\/l=(true,0)\/cu B t (ES t ps l):=by
 obtain⟨z,i⟩:=l;cases i with
 |zero=>clear h;cases z;exact .inl rfl;exact .inr (.inl rfl)
 |succ i=>
  have:=hp _ (qV (t:Int) ps i h);clear h;cases z
  .exact .inr (.inr this)
  .exact .inr (.inr this.neg)
theorem xn(ht:1<=t/\t<B.length){ps:List Int}(hp:∀p∈ps,cu B t p)(row:Row){l:B8}(h:l.2<=ps.length):bq B row (ES t ps l)=sv (val B row t) (ps.map (bq B row)) l:=by
 have e:bq B row (iD (t:Int) ((t:Int)::ps) l.2)=iD (val B row t) (val B row t::ps.map (bq B row)) l.2:=by rw[←cq ht.1];exact(xm (bq B row) (t:Int) ((t:Int)::ps) l.2).symm
 obtain⟨z,i⟩:=l;cases z
 .exact e
 .refine(tB ?_).trans (zEy _ e);clear e;cases i with
  |zero=>exact(B7 ht).1
  |succ i=>exact(hp _ (qV (t:Int) ps i h)).1
theorem kF{T:Ky}{f:List Bool->Bool}{ps:List Int}(ht:1<=t/\t<B.length)(hp:∀p∈ps,cu B t p)(ck:Cb T ps.length f=true)(hv:∀row,val B row t=f (ps.map (bq B row))):g8 B t (inst T t ps):=by
 obtain⟨ck,c3⟩:=zBu.mp ck;obtain⟨c1,c2⟩:=zBu.mp ck;have c2:=fun c hc=>zBu.mp (zCp.mp c2 c hc);have ix:∀c∈T,∀l∈c.2,l.2<=ps.length:=fun c hc l hl=>zCu (zCp.mp (zBu.mp (c2 c hc).2).2 l hl);have c3:=fun row=>zCp.mp c3 (ps.map (bq B row)) (by have:=Ca (ps.map (bq B row));rwa [zCe]at this)
 have c3:∀row,(T.all fun c=>c.2.any (sv (val B row t) (ps.map (bq B row))))=true/\(!side T 2 true (val B row t) (ps.map (bq B row))||val B row t)=true/\(!side T 1 false (val B row t) (ps.map (bq B row))||!val B row t)=true:=fun row=>by have:=c3 row;simp only[←hv row]at this;exact⟨(zBu.mp this).1,zBu.mp (zBu.mp this).2⟩
 have tt:¬(t:Int)= -(t:Int):=(aD 0xce0193908040b276) ht
 have sd:∀row (o:Int) (z:Bool) (u:Int),u=ES t ps (z,0)->(∀p∈inst T t ps,p.1≠o->∃s∈p.2,s≠u/\(s= -u\/bq B row s=true))->side T o z (val B row t) (ps.map (bq B row))=true:=fun row o z u hu h=>by
  refine zCp.mpr fun c hc=>?_;cases q:c.1==o with
  |true=>rfl
  |false=>
   obtain⟨s,hs,h1,h2⟩:=h _ (zAt.mpr ⟨c,hc,rfl⟩) (zCr.mp q);obtain⟨l,hl,rfl⟩:=zAt.mp hs;refine List.any_eq_true.mpr ⟨l,hl,zBu.mpr ⟨?_,?_⟩⟩
   .rw[zCr.mpr (fun e=>h1 (by rw[e,hu]))];rfl
   .rw[zEo];refine h2.imp (fun e=>beq_iff_eq.mpr ?_) fun e=>by rw[←xn ht hp row (ix c hc l hl)];exact e
    clear h2 hs;rcases tD hp (ix c hc l hl) with rfl |rfl |pt
    .cases z
     .exact absurd hu.symm h1
     .rfl
    .cases z
     .rfl
     .exact absurd hu.symm h1
    .exfalso;cases z
     .rw[hu]at e;exact pt.ne.2.1 e
     .rw[hu]at e;exact pt.ne.1 (e.trans (neg_neg _))
 refine⟨by rw[inst];rw[zCe];exact zCu c1,fun p h=>?_,fun row p h=>?_,fun row h=>?_,fun row h=>?_⟩
 .obtain⟨c,hc,rfl⟩:=zAt.mp h;obtain⟨a1,a2⟩:=c2 c hc;refine⟨(zEo.mp a1).imp eq_of_beq fun a=>(zEo.mp a).imp eq_of_beq eq_of_beq,by rw[zCe];exact zCu (zBu.mp a2).1,fun s hs=>?_⟩
  obtain⟨l,hl,rfl⟩:=zAt.mp hs;clear hs;rcases tD hp (ix c hc l hl) with rfl |rfl |pt
  .exact B7 ht
  .exact ER ht
  .exact pt.ok
 .obtain⟨c,hc,rfl⟩:=zAt.mp h;obtain⟨l,hl,e⟩:=List.any_eq_true.mp (zCp.mp (c3 row).1 c hc);exact⟨_,zAt.mpr ⟨l,hl,rfl⟩,(xn ht hp row (ix c hc l hl)).trans e⟩
 .have:=(c3 row).2.1;rw[sd row 2 true _ rfl fun p t9 el=>let ⟨s,a,b,c⟩:=h p t9 el;⟨s,a,b,c.imp (fun e=>e.trans (neg_neg _).symm) id⟩]at this;exact this
 .have:=(c3 row).2.2;rw[sd row 1 false _ rfl fun p t9 el=>h p t9 el]at this;cases q:val B row t
  .rfl
  .rw[q]at this;cases this
theorem GP{P:List Int->Prop}(h0:P [])(h1:∀a,P [a])(h2:∀a b,P [a,b])(h3:∀a b c,P [a,b,c]):∀ps:List Int,ps.length<=3->P ps
 |[],_=>h0
 |[a],_=>h1 a
 |[a,b],_=>h2 a b
 |[a,b,c],_=>h3 a b c
 |_::_::_::_::l,h=>absurd h (Nat.not_le.mpr (Nat.le_add_left 4 l.length))
noncomputable def Nv(k:Nat):Ky:=((List.range k).map fun i=>(1,[(true,0),(false,i+1)]))++[(2,(false,0)::(List.range k).map fun i=>(true,i+1))]
noncomputable def VI(k:Nat):Ky:=(1,(true,0)::(List.range k).map fun i=>(false,i+1))::(List.range k).map fun i=>(2,[(false,0),(true,i+1)])
theorem ET:∀k,k<4->Cb (Nv k) k (fun b=>b.all id)=true:=by decide+kernel
theorem Jg:∀k,k<4->Cb (VI k) k (fun b=>b.any id)=true:=by decide+kernel
theorem qW{ps:List Int}(ht:1<=t/\t<B.length)(hp:∀p∈ps,cu B t p)(hl:ps.length<=3)(hv:∀row,val B row t=ps.all (bq B row)):g8 B t (B6 t ps):=by rw[GP (P:=fun ps=>B6 t ps=inst (Nv ps.length) t ps) rfl (fun _=>rfl) (fun _ _=>rfl) (fun _ _ _=>rfl) ps hl];exact kF ht hp (ET _ (lt_succ_of_le hl)) fun row=>by rw[hv];rw[all_map];rfl
theorem Cc{ps:List Int}(ht:1<=t/\t<B.length)(hp:∀p∈ps,cu B t p)(hl:ps.length<=3)(hv:∀row,val B row t=ps.any (bq B row)):g8 B t (Pz t ps):=by rw[GP (P:=fun ps=>Pz t ps=inst (VI ps.length) t ps) rfl (fun _=>rfl) (fun _ _=>rfl) (fun _ _ _=>rfl) ps hl];exact kF ht hp (Jg _ (lt_succ_of_le hl)) fun row=>by rw[hv];rw[any_map];rfl
theorem xp{p q:Int}(ht:1<=t/\t<B.length)(hp:cu B t p)(hq:cu B t q)(hv:∀row,val B row t=(bq B row p !=bq B row q)):g8 B t (Nt t p q):=
 kF (T:=[(1,[(true,0),(false,1),(false,2)]),(1,[(true,0),(true,1),(true,2)]),(2,[(false,0),(true,1),(false,2)]),(2,[(false,0),(false,1),(true,2)])]) (ps:=[p,q]) (f:=fun b=>iD false b 0 !=iD false b 1) ht (by rintro x (_ |⟨_,_ |⟨_,h⟩⟩);exact hp;exact hq;cases h) (by refine(?_:Cb _ 2 _=true);decide+kernel) hv
theorem EU{r p q:Int}(ht:1<=t/\t<B.length)(hr:cu B t r)(hp:cu B t p)(hq:cu B t q)(hv:∀row,val B row t=(if bq B row r then bq B row p else bq B row q)):g8 B t (Nu t r p q):=
 kF (T:=[(1,[(true,0),(true,1),(false,2)]),(1,[(true,0),(false,1),(false,3)]),(2,[(false,0),(true,1),(true,2)]),(2,[(false,0),(false,1),(true,3)])]) (ps:=[r,p,q]) (f:=fun b=>if iD false b 0 then iD false b 1 else iD false b 2) ht (by rintro x (_ |⟨_,_ |⟨_,_ |⟨_,h⟩⟩⟩);exact hr;exact hp;exact hq;cases h) (by refine(?_:Cb _ 3 _=true);decide+kernel) hv
end
theorem Cd{B:List Nd}{t:Nat}(ht:1<=t/\t<B.length)(hv:∀row,val B row t=true):g8 B t [(3,[(t:Int)])]:=
 kF (T:=[(3,[(false,0)])]) (ps:=[]) (f:=fun _=>true) ht nofun (by decide+kernel) hv
theorem yJ{B:List Nd}{t:Nat}(ht:1<=t/\t<B.length)(hv:∀row,val B row t=false):g8 B t [(3,[-(t:Int)])]:=
 kF (T:=[(3,[(true,0)])]) (ps:=[]) (f:=fun _=>false) ht nofun (by decide+kernel) hv
def nE(H:Z)(x:V)(vs:List V):Prop:=∀H',Le H H'->∃g,iter H' .seq x=some (vs,g)/\∀eL,Le H eL->g eL
theorem nE.tup{H:Z}{l:List V}:nE H (.tup l) l:=fun _ _=>⟨_,rfl,fun _ _=>trivial⟩
theorem nE.list{H:Z}{p:Nat}{l:List V}(h:H p=some (.list l)):nE H (.ref p) l:=fun H' k=>by have e:H' p=some (.list l):=k.at h (fun h=>h);exact⟨fun eL=>eL p=some (.list l),bF e,fun eL k=>k.at h (fun h=>h)⟩
theorem Le.fresh{H:Z}{a:Nat}{o:aN}(h:H a=none):Le H (H.set a o):=Kp.set (Kp.refl _ H) (.inl h)
noncomputable def g9(bG:List (Int×List Int)):List V:=bG.map fun p=>.tup [.int p.1,.tup (p.2.map .int)]
section
variable {c:Cy} {n:Nat} {L:Rl->Nat} {B:List Nd} {H:Z} {Q:V->Z->Prop}
theorem fC{e:PE}{j:Nat}{it:lj}{ρ:aH}{x:V}{is:List Int}{g:Z->Prop}(hi:iter H it x=some (is.map .int,g))(hl:is.length<=lim)(hg:g H)(f:Int->V)
  (step:∀i∈is,∀(K:EQ),K (f i) H->bA c n e (b9 ρ j (.int i)) H K) (fin:∀a,H a=none->Q (.ref a) (H.set a (.list (is.map f)))):
  iO c n e j it (.cst (.bool true)) ρ Q x H:=by
 refine comp_map hi (by simpa using hl) hg (fun v=>match v with | .int i=>f i |v=>v) (fun v hv K k=>?_) fun a ha=>?_
 .obtain⟨p,hp,rfl⟩:=zAt.mp hv;exact step p hp K k
 .have:=fin a ha;rw[map_map];exact this
theorem i7(O:cz c)(hn:1<=n){d:Int}{x:V}{ps:List Int}(hs:nE H x (ps.map .int))(hl:ps.length<=3)
  (h:∀r H',Le H H'->H r=none->H' r=some (.list (g9 (B6 d ps)))->Q (.ref r) H'):aA c 9 n [.int d,x] H Q:=by
 have ag:=aJ;refine aF O hn rfl ?_;simp;obtain⟨g,hi,hg⟩:=hs H (Kp.refl _ _);refine fC hi (jl hl rfl) (hg _ (Kp.refl _ _)) (fun p=>.tup [.int 1,.tup [.int (-d),.int p]]) (fun p _ K k=>?_) fun r hr=>?_
 .exact k
 .generalize Hx:(ps.map fun p=>V.tup [.int 1,.tup [.int (-d),.int p]])=l1;have vD:l1.length<=3:=by rw[←Hx];simpa using hl
  have k1:Le H (H.set r (.list l1)):=Le.fresh hr;simp[ag];obtain⟨g,hi,hg⟩:=hs _ k1;refine fC hi (jl hl rfl) (hg _ k1) (fun p=>.int (-p)) (fun p _ K k=>?_) fun r' oh=>?_
  .exact k
  .have el:r'≠r:=by clear hi k1 hr;rintro rfl;rw[Z.ab]at oh;exact sn oh.symm rfl
   have Ce:r≠r':=zFp el;have b1:ps.length+1<=1000000:=(aB 0x3d09038b0509a026) hl;have b2:ps.length<=1000000:=jl hl rfl;have b3:l1.length<1000000:=zk vD rfl;simp[xh,el,Ce,ag,b1,b2,b3];refine h r _ ?_ hr ?_
   .exact fun b hb n=>by
     have h1:b≠r:=by clear Ce el oh hi k1;rintro rfl;exact hb hr
     have h2:b≠r':=by rintro rfl;rw[Z.af _ _ el]at oh;exact hb oh
     rw[Z.af _ _ h1];rw[Z.af _ _ h2];rw[Z.af _ _ h1]
   .rw[Z.ab];rw[←Hx];simp[g9,B6,Function.comp_def]
theorem jT(O:cz c)(hn:1<=n){d:Int}{ps:List Int}(hl:ps.length<=3)
  (h:∀r H',Le H H'->H r=none->H' r=some (.list (g9 (Pz d ps)))->Q (.ref r) H'):aA c 10 n [.int d,.tup (ps.map .int)] H Q:=by
 have ag:=aJ;have b1:ps.length+1<=1000000:=(aB 0x3d09038b0509a026) hl;have b2:ps.length<=1000000:=jl hl rfl;refine aF O hn rfl ?_;simp[xh,ag,b1,b2];intro r hr;refine fC (is:=ps) rfl (jl b2 rfl) trivial (fun p=>.tup [.int 2,.tup [.int d,.int (-p)]]) (fun p _ K k=>?_) fun r' oh=>?_
 .exact k
 .have el:r'≠r:=by rintro rfl;rw[Z.ab]at oh;exact sn oh.symm rfl
  have Ce:r≠r':=zFp el;simp[el,Ce,ag,b1,b2];refine h r _ ?_ hr ?_
  .exact fun b hb n=>by
    have h1:b≠r:=by clear Ce el oh;rintro rfl;exact hb hr
    have h2:b≠r':=by rintro rfl;rw[Z.af _ _ el]at oh;exact hb oh
    rw[Z.af _ _ h1];rw[Z.af _ _ h2];rw[Z.af _ _ h1]
  .rw[Z.ab];simp[g9,Pz,Function.comp_def]
theorem i8(O:cz c)(hn:1<=n){d p q:Int}
  (h:∀r H',Le H H'->H r=none->H' r=some (.list (g9 (Nt d p q)))->Q (.ref r) H'):aA c 11 n [.int d,.int p,.int q] H Q:=by
 have ag:=aJ;refine aF O hn rfl ?_;simp[ag];exact fun r hr=>h r _ (Le.fresh hr) hr (by rw[Z.ab];rfl)
theorem oF(O:cz c)(hn:1<=n){d r p q:Int}
  (h:∀r' H',Le H H'->H r'=none->H' r'=some (.list (g9 (Nu d r p q)))->Q (.ref r') H'):aA c 12 n [.int d,.int r,.int p,.int q] H Q:=by
 have ag:=aJ;refine aF O hn rfl ?_;simp[ag];exact fun r hr=>h r _ (Le.fresh hr) hr (by rw[Z.ab];rfl)
end
section
set_option backward.match.sparseCases true
def fD(B B':List Nd)(t:Nat):Prop:=∃l,B'=B++l/\l.length<=3/\∀k∈l,(nd B t).op=9/\∃x y,x∈(nd B t).args/\y∈(nd B t).args/\k=⟨7,[x,y],0⟩
theorem fD.refl(B:List Nd)(t:Nat):fD B B t:=⟨[],(zDp _).symm,by simp,by simp⟩
theorem fD.grow{B B':List Nd}{t:Nat}:fD B B' t->cG B B':=fun⟨l,e,_⟩=>⟨l,e⟩
def Nw(c:Cy)(n:Nat)(g:Z->Prop)(i:Nat)(p:PS)(R:EQ)(l:List V)(QS:SQ):SQ:=fun ρ H=>lq g (bind1 i) (fun bc ak Q₁=>wpS c n p bc ak Q₁ R) l ρ H QS
section
variable {c:Cy} {n:Nat} {L:Rl->Nat} {B:List Nd} {H:Z} {Q:V->Z->Prop}
theorem i9{g:Z->Prop}{i:Nat}{p:PS}{R:EQ}{QS:SQ}{ρ:aH}:Nw c n g i p R [] QS ρ H=(g H/\QS ρ H):=rfl
theorem hJ{g:Z->Prop}{i:Nat}{v:V}{p:PS}{R:EQ}{QS:SQ}{ρ:aH}{l:List V}:
  Nw c n g i p R (v::l) QS ρ H=(g H/\wpS c n p (b9 ρ i v) H (Nw c n g i p R l QS) R):=rfl
theorem Cf{i:Nat}{it:lj}{p:PS}{R:EQ}{QS:SQ}{ρ:aH}{x:V}{items:List V}{g:Z->Prop}(h:iter H it x=some (items,g)):
  uF c n i it p ρ QS R x H=Nw c n g i p R items QS ρ H:=by
 unfold uF HT;rw[h];rfl
theorem hO{i:Nat}{p:PS}{R:EQ}{QS:SQ}{ρ:aH}{l:List V}:
  uF c n i .seq p ρ QS R (.tup l) H=Nw c n (fun _=>True) i p R l QS ρ H:=Cf rfl
theorem SA:(List.range (Int.toNat 2)).map (fun i=>V.int (i:Nat))=[.int 0,.int 1]:=rfl
theorem qX(O:cz c)(hn:2<=n)(X:av L B H){yK:List Nd}{t x y:Nat}(hN:fD yK B t)(h9:(nd yK t).op=9)(hx:x∈(nd yK t).args)(hy:y∈(nd yK t).args)(Ep:1<=x/\x<B.length)(Pl:1<=y/\y<B.length)(hl:B.length<=yK.length+2)(h3:B.length<4000)
  (h:∀(u:Nat) B' H',cG B B'->1<=u->u<B'.length->BZ B' x y u->(∀row,val B' row u=(val B row x==val B row y))->B'.length<=B.length+1->fD yK B' t->av L B' H'->Kp (RB L) H H'->Q (ae u) H'):
  aA c 50 n [.ref (L .kI),ae x,ae y] H Q:=by
 refine w_eq O hn X Ep Pl h3 fun u B' H' m ie b x' k=>h u B' H' m.grow m.pos m.lt ie m.val m.len ?_ x' k;clear x' ie m h h3 Pl Ep X;obtain⟨l,rfl,l1,l2⟩:=hN;rcases b with rfl |rfl
 .exact⟨l,rfl,l1,l2⟩
 .refine⟨l++[⟨7,[min x y,max x y],0⟩],zFu _ _ _,by simp at hl⊢;exact jl hl rfl,fun k hk=>?_⟩
  rcases zAu.mp hk with hk |hk
  .exact l2 k hk
  .simp at hk;refine⟨h9,min x y,max x y,?_,?_,hk⟩
   .rcases Nat.le_total x y with q |q
    .rw[Nat.min_eq_left q];exact hx
    .rw[Nat.min_eq_right q];exact hy
   .rcases Nat.le_total x y with q |q
    .rw[Nat.max_eq_right q];exact hy
    .rw[Nat.max_eq_left q];exact hx
theorem lP{B:List Nd}(g:Good B){t x y u:Nat}(h9:(nd B t).op=9)(ht:6<=t)(hx:x∈(nd B t).args)(hy:y∈(nd B t).args)(hu:1<=u/\u<B.length)(e:BZ B x y u):cu B t (-(u:Int)):=by
 have r1:=BS (B:=B) (t:=t) (by rw[h9];decide)
 have a1:=g.args hx;have a2:=g.args hy
 repeat (refine⟨by(first |exact(aD 0x503383908040b276) hu |exact(aD 0x10671a108040b276) hu),?_⟩)
 refine ?_;rw[show (-(u:Int)).natAbs=u by exact(aD 0x671a008040b276) hu];rw[r1]
 clear hu;rcases e with⟨_,rfl⟩ |⟨_,e⟩
 .have:=xl g 1;exact(aD 0x2e84562e84981026) ht this
 .rw[BR e];exact(aP 0x22eac40b8816b8bb4108844b27608040b276) a1 a2
theorem EV{n:Nat}(h:(n==2||n==3)=true):n=2\/n=3:=(zEo.mp h).imp eq_of_beq eq_of_beq
theorem jq(O:cz c)(hn:3<=n)(X:av L B H){t:Nat}(ht:6<=t/\t<B.length)(h9:(nd B t).op=9)(h3:B.length<3990)
  (h:∀r bG B' H',g8 B' t bG->fD B B' t->av L B' H'->Kp (RB L) H H'->H r=none->H' r=some (.list (g9 bG))->Q (.ref r) H'):
  aA c 13 n [.ref (L .kI),ae t] H Q:=by
 have e:=X.ei;have ag:=aJ;have g:=X.good;have ar:=(g.ok t ht.1 ht.2).1;rw[h9]at ar;refine aF O (cL hn rfl) rfl ?_;simp[e];refine jn O (bK hn rfl) X ht.2 ?_;simp[ag];intro r hr;have X1:=X.fresh (o:=.list []) hr;have nr:∀q,og q=true->L q≠r:=fun q hq e=>X.live hq (by rw[e];exact hr)
 have GQ:¬RB L r:=fun⟨q,hq,e⟩=>nr q hq e
 have kB:∀{B' H' Hc},Kp (RB L) H Hc->Kp (RB L) Hc H'->av L B' H'->∀o,av L B' (H'.set r o)/\Kp (RB L) H (H'.set r o):=fun{B' H' Hc} k1 k2 Y o=>⟨Y.keep fun q hq=>Z.af _ _ (nr q hq),(k1.trans k2).set (.inl hr)⟩
 have k1:Kp (RB L) H (H.set r (.list [])):=(Kp.refl _ _).set (.inl hr);have r1:(H.set r (.list [])) r=some (.list []):=Z.ab _ _ _;have e1:=X1.ei;generalize H.set r (.list [])=H1 at X1 k1 r1 e1
 have fin:∀(ps:List Int) B' H',av L B' H'->fD B B' t->Kp (RB L) H H'->H' r=some (.list (ps.map .int))->ps.length<=3->g8 B' t (B6 t ps)->aA c 9 (n-1) [ae t,.ref r] H' Q:=fun ps B' H' Y ne k e2 hl so=>by refine i7 O (bK hn rfl) (nE.list e2) hl fun r' eL le oh e'=>h r' _ B' eL so ne (Y.le le) (k.trans (le.weaken fun _ h=>h.elim)) ?_ e';exact k.none oh fun⟨q,hq,e⟩=>Y.live hq (by rw[e];exact oh)
 have VJ:∀(H':Z) (m:Nat),m<=3->iter H' .range (.int m)=some ((List.range m).map fun i=>V.int (i:Nat),fun _=>True):=fun H' m hm=>by exact(eO ⟨by exact(aB 3398803494) hm,by exact(aD 0xc872ad09303d09038006) ag hm⟩).trans rfl
 rcases EV ar with ar |ar
 .obtain⟨x,y,ea⟩:=iM ar;have hx:x∈(nd B t).args:=by rw[ea];exact .head _
  have hy:y∈(nd B t).args:=by rw[ea];exact .tail _ (.head _)
  have bx:=g.args hx;have Nx:=g.args hy;simp[ea,dG,ag];rw[Cf (x:=.int 2) (VJ _ 2 (by decide))]
  simp[hJ,i9,hO,range_succ,ag,e1,r1];refine qX O (bK hn rfl) X1 (fD.refl _ _) h9 hx hy (by exact(aP 0x8844b2700844b276080410276) ht bx) (by exact(aP 0x8844b2700844b276080410276) ht Nx) (by exact aB 6301698) (ub h3 rfl) fun u B2 H2 zq u1 u2 ie hv hlen ne X2 k2=>?_
  have r2:=k2.at r1 GQ;obtain⟨Ny,Jh⟩:=kB k1 k2 X2 (.list [.int (-(u:Int))]);have g2:=X2.good;have l2:=zq.len;simp[hJ,i9,hO,range_succ,ag,r2];refine fin [-(u:Int)] B2 _ Ny ne Jh (by rw[Z.ab];rfl) (succ_pos _) (qW (by exact(aP 0x40102c9c41265868226080410276) ht hlen l2) ?_ (succ_pos _) fun row=>?_)
  .have e9:nd B2 t=nd B t:=zq.nd ht.2;simp only[mem_singleton,forall_eq];exact lP g2 (by rw[e9];rw[h9]) ht.1 (by rw[e9];exact hx) (by rw[e9];exact hy) ⟨u1,u2⟩ ie
  .rw[bN g g2 zq row t ht.2];rw[val_eq g];rw[h9];rw[ea];simp[cA u1,hv];cases val B row x<;>cases val B row y<;>rfl
 .obtain⟨x,y,z,ea⟩:=BX ar;have hx:x∈(nd B t).args:=by rw[ea];exact .head _
  have hy:y∈(nd B t).args:=by rw[ea];exact .tail _ (.head _)
  have hz:z∈(nd B t).args:=by rw[ea];exact .tail _ (.tail _ (.head _))
  have bx:=g.args hx;have Nx:=g.args hy;have bz:=g.args hz;simp[ea,dG,ag];rw[Cf (x:=.int 3) (VJ _ 3 (by decide))]
  simp[hJ,i9,hO,range_succ,ag,e1,r1];refine qX O (bK hn rfl) X1 (fD.refl _ _) h9 hx hy (by exact(aP 0x8844b2700844b276080410276) ht bx) (by exact(aP 0x8844b2700844b276080410276) ht Nx) (by exact aB 6301698) (ub h3 rfl) fun u B2 H2 zq u1 u2 ie hv jU ne2 X2 k2=>?_
  have r2:=k2.at r1 GQ;obtain⟨Ny,Jh⟩:=kB k1 k2 X2 (.list [.int (-(u:Int))]);have g2:=X2.good;have l2:=zq.len;have VK:(H2.set r (.list [.int (-(u:Int))])) r=some (.list [.int (-(u:Int))]):=Z.ab _ _ _;have e2:=Ny.ei;simp[hJ,i9,hO,range_succ,ag,r2,e2];generalize H2.set r (.list [.int (-(u:Int))])=H2' at Ny Jh VK e2;refine qX O (bK hn rfl) Ny ne2 h9 hx hz (by exact(dq 0x62112c9c6126586832600844b276080410276) ht bx jU l2) (by exact(dq 0x62112c9c6126586832600844b276080410276) ht bz jU l2) (by exact(aD 0x181a00801265868026) jU l2) (by exact(aD 0x7d0702210132c140930003e5b8016) h3 jU l2) fun v B3 H3 Nz v1 v2 Yt Yu pK ne3 X3 k3=>?_
  have r3:=k3.at VK GQ;obtain⟨SD,NA⟩:=kB Jh k3 X3 (.list [.int (-(u:Int)),.int (-(v:Int))]);have g3:=X3.good;have l3:=Nz.len;have VL:(H3.set r (.list [.int (-(u:Int)),.int (-(v:Int))])) r=some (.list [.int (-(u:Int)),.int (-(v:Int))]):=Z.ab _ _ _;have e3:=SD.ei;simp[hJ,i9,hO,range_succ,ag,r3,e3];generalize H3.set r (.list [.int (-(u:Int)),.int (-(v:Int))])=H3' at SD NA VL e3;refine qX O (bK hn rfl) SD ne3 h9 hy hz (by exact(rN 0x20844b2720c9963a10986126586832600844b276080410276) ht Nx jU l2 pK l3) (by exact(rN 0x20844b2720c9963a10986126586832600844b276080410276) ht bz jU l2 pK l3) (by exact(aP 0x6068221009960a089801265868026) jU l2 pK l3) (by exact(dq 0x1f41c188c44cb15064c20932c341130003e5b8116080410276) ht h3 jU l2 pK l3) fun w B4 H4 PA w1 w2 Yv Yw Cg ne4 X4 k4=>?_
  have r4:=k4.at VL GQ;obtain⟨Yx,Yy⟩:=kB NA k4 X4 (.list [.int (-(u:Int)),.int (-(v:Int)),.int (-(w:Int))]);have g4:=X4.good;simp[hJ,i9,hO,range_succ,ag,r4];have l2:=zq.len;have l3:=Nz.len;have l4:=PA.len;have EW:=Nz.trans PA;have e9:nd B4 t=nd B t:=(zq.trans EW).nd ht.2
  have Yz:BZ B4 x y u:=by
   rcases ie with h |⟨h1,h2⟩
   .exact .inl h
   .exact .inr ⟨h1,by rw[EW.nd u2];exact h2⟩
  have SF:BZ B4 x z v:=by
   rcases Yt with h |⟨h1,h2⟩
   .exact .inl h
   .exact .inr ⟨h1,by rw[PA.nd v2];exact h2⟩
  refine fin [-(u:Int),-(v:Int),-(w:Int)] B4 _ Yx ne4 Yy (by rw[Z.ab];rfl) (zDe _) (qW (by exact(rN 0x80102c9c832658e84261889962a0c9841265868226080410276) ht jU ‹_› pK ‹_› Cg l4) ?_ (zDe _) fun row=>?_)
  .simp only[mem_cons,not_mem_nil,or_false,forall_eq_or_imp,forall_eq]
   exact⟨lP g4 (by rw[e9];rw[h9]) ht.1 (by rw[e9];exact hx) (by rw[e9];exact hy) ⟨u1,by exact(dq 0x1804622658a83261049961a08982016) u2 pK ‹_› Cg l4⟩ Yz,
    lP g4 (by rw[e9];rw[h9]) ht.1 (by rw[e9];exact hx) (by rw[e9];exact hz) ⟨v1,by exact(aP 0x4011049961a08982016) v2 Cg l4⟩ SF,
    lP g4 (by rw[e9];rw[h9]) ht.1 (by rw[e9];exact hy) (by rw[e9];exact hz) ⟨w1,w2⟩ Yv⟩
  .have f1:val B4 row u=(val B row x==val B row y):=by rw[bN g2 g4 EW row u u2];rw[hv]
   have f2:val B4 row v=(val B row x==val B row z):=by rw[bN g3 g4 PA row v v2];rw[Yu];rw[bN g g2 zq row x (by exact(aP 0x22100844b276080410276) ht bx)];rw[bN g g2 zq row z (by exact(aP 0x22100844b276080410276) ht bz)]
   have f3:val B4 row w=(val B row y==val B row z):=by rw[Yw];rw[bN g g3 (zq.trans Nz) row y (by exact(aP 0x22100844b276080410276) ht Nx)];rw[bN g g3 (zq.trans Nz) row z (by exact(aP 0x22100844b276080410276) ht bz)]
   rw[bN g g4 (zq.trans EW) row t ht.2];rw[val_eq g];rw[h9];rw[ea];simp[cA u1,cA v1,cA w1,f1,f2,f3];cases val B row x<;>cases val B row y<;>cases val B row z<;>simp
end
end
noncomputable def opened(op:Nat):Bool:=((decide (op=0)||(decide (op=1)||(decide (op=3)||(decide (op=4)||(decide (op=5)||(decide (op=6)||decide (op=9)))))))||op==8)||op==7
theorem nF{B:List Nd}(g:Good B){t:Nat}(h1:1<=t)(h2:t<B.length):
  (t=1/\nd B t=⟨0,[],0⟩)\/(t=2/\nd B t=⟨1,[],0⟩)\/(∃k,k<3/\t=3+k/\nd B t=⟨10,[],k⟩)\/(6<=t/\jS (nd B t).op (nd B t).args.length=true):=by
 by_cases q:t<6
 .rw[g.low q];have:t=1\/t=2\/t=3\/t=4\/t=5:=(aB 0x1e0070021a008600216008800580b26) h1 q;clear q h2;rcases this with rfl |rfl |rfl |rfl |rfl
  .exact .inl ⟨rfl,rfl⟩
  .exact .inr (.inl ⟨rfl,rfl⟩)
  .exact .inr (.inr (.inl ⟨0,ub h1 rfl,rfl,rfl⟩))
  .exact .inr (.inr (.inl ⟨1,by decide,rfl,rfl⟩))
  .exact .inr (.inr (.inl ⟨2,by decide,rfl,rfl⟩))
 .exact .inr (.inr (.inr ⟨(aB 1084227990) q,(g.ok t ((aB 1084227990) q) h2).1⟩))
inductive SG(n op:Nat):Prop
 |not (e:op=2) (h:n=1)
 |and (e:op=3) (h:n=2\/n=3)
 |or (e:op=4) (h:n=2\/n=3)
 |xor (e:op=5) (h:n=2)
 |imp (e:op=6) (h:n=2)
 |eq (e:op=7) (h:n=2)
 |ite (e:op=8) (h:n=3)
 |AR (e:op=9) (h:n=2\/n=3)
theorem Kz:∀{op n:Nat},jS op n=true->SG n op
 |0,_,h=>nomatch h
 |1,_,h=>nomatch h
 |2,_,h=>.not rfl (eq_of_beq h)
 |3,_,h=>.and rfl (EV h)
 |4,_,h=>.or rfl (EV h)
 |5,_,h=>.xor rfl (eq_of_beq h)
 |6,_,h=>.imp rfl (eq_of_beq h)
 |7,_,h=>.eq rfl (eq_of_beq h)
 |8,_,h=>.ite rfl (eq_of_beq h)
 |9,_,h=>.AR rfl (EV h)
 |_+10,_,h=>nomatch h
set_option tactic.hygienic true in
theorem SH{op n:Nat}(h:jS op n=true):op=2\/opened op=true:=by cases Kz h<;>rename_i e _<;>subst e<;>first |exact .inr rfl |exact .inl rfl
set_option tactic.hygienic true in
theorem SG.len{op n:Nat}(h:SG n op):1<=n/\n<=3:=by cases h<;>rename_i h<;>first |(subst h;decide) |(rcases h with rfl |rfl<;>decide)
theorem Ci{B:List Nd}(g:Good B){t a:Nat}(h2:t<B.length)(h:a∈(nd B t).args):cu B t (a:Int):=by
 have:=g.args h
 repeat (refine⟨by(first |exact(aD 0x28193908040b276) this |exact(aP 0x22ce8402112c9d82016) h2 this),?_⟩)
 exact by rw[show (a:Int).natAbs=a by exact(aD 908198756266614) this];exact tq g h
section
variable {c:Cy} {n:Nat} {L:Rl->Nat} {B:List Nd} {H:Z} {Q:V->Z->Prop}
theorem SJ{ρ:aH}{p:Nat}{b:Bool}(e:cO ρ 2=some (.str p))(h:Q (.bool (b||p==8)) H):Lx c n (.cmp .eq (.var 2) (.cst (.str 8))) ρ Q (.bool b) H:=by
 cases b
 .simp[e];exact h
 .exact h
theorem tE(O:cz c)(hn:2<=n)(X:av L B H){t:Nat}(h1:1<=t)(ht:t<B.length)(h:Q (.bool (opened (nd B t).op)) H):
  aA c 8 n [.ref (L .kI),ae t] H Q:=by
 have e:=X.ei;have ag:=aJ;have g:=X.good;refine aF O (cL hn rfl) rfl ?_;simp[e];refine yI O (bK hn rfl) X ht ?_;simp;by_cases q:(nd B t).op=7
 .have h6:=g.VH q;have ar:=(g.ok t h6.1 h6.2).1;rw[q]at ar;obtain⟨x,y,ea⟩:=iM (eq_of_beq ar);have hx:=g.args (t:=t) (a:=x) (by rw[ea];exact .head _)
  simp[q,e];refine jn O (bK hn rfl) X ht ?_;simp[ea,dG,ag];refine BV O (bK hn rfl) X ((aP 0x88402112c9d82016) ht hx) ?_;simp[e];refine BV O (bK hn rfl) X ht ?_;simp;rw[q]at h;exact h
 .have q':((nd B t).op==7)=false:=by simp[q]
  simp[q'];unfold opened at h;rw[q',Bool.or_false]at h;exact SJ rfl h
theorem yL(O:cz c)(hn:4<=n)(X:av L B H){t:Nat}(h1:1<=t)(ht:t<B.length)(ho:opened (nd B t).op=true)(h3:B.length<3990)
  (h:∀r bG B' H',g8 B' t bG->fD B B' t->av L B' H'->Kp (RB L) H H'->H r=none->H' r=some (.list (g9 bG))->Q (.ref r) H'):
  aA c 14 n [.ref (L .kI),ae t] H Q:=by
 have e:=X.ei;have ag:=aJ;have g:=X.good;have ve:=fun row=>val_eq g row t
 have fin:∀bG,g8 B t bG->∀r H',Le H H'->H r=none->H' r=some (.list (g9 bG))->Q (.ref r) H':=fun bG so r H' le hr e'=>h r bG B H' so (fD.refl _ _) (X.le le) (le.weaken fun _ h=>h.elim) hr e'
 refine aF O (cL hn rfl) rfl ?_;simp[e];refine yI O (bK hn rfl) X ht ?_;simp[e];refine jn O (bK hn rfl) X ht ?_;rcases nF g h1 ht with⟨_,e0⟩ |⟨_,e0⟩ |⟨k,_,_,e0⟩ |⟨h6,ar⟩
 .simp[e0,ag];exact fun r hr=>fin [(3,[(t:Int)])] (Cd ⟨h1,ht⟩ fun row=>by rw[ve];rw[e0];rfl) r _ (Le.fresh hr) hr (by rw[Z.ab];rfl)
 .simp[e0,ag];exact fun r hr=>fin [(3,[-(t:Int)])] (yJ ⟨h1,ht⟩ fun row=>by rw[ve];rw[e0];rfl) r _ (Le.fresh hr) hr (by rw[Z.ab];rfl)
 .rw[e0]at ho;cases ho
 .have pn:=fun a (h:a∈(nd B t).args)=>Ci g ht h;have pa:=fun a (h:a∈(nd B t).args)=>g.args h;have tv:∀l:List Nat,dG l= .tup ((l.map fun(a:Nat)=>(a:Int)).map .int):=fun l=>by simp[dG,ae]
  have vs:∀row,((nd B t).args.map fun(a:Nat)=>(a:Int)).map (bq B row)=(nd B t).args.map (val B row):=fun row=>by rw[map_map];exact zEi fun a ha=>cq (pa a ha).1
  rcases Kz ar with⟨e1,l1⟩ |⟨e1,l1⟩ |⟨e1,l1⟩ |⟨e1,l1⟩ |⟨e1,l1⟩ |⟨e1,l1⟩ |⟨e1,l1⟩ |⟨e1,l1⟩
  .rw[e1]at ho;cases ho
  .simp[e1,ag];rw[tv];refine i7 O (bK hn rfl) nE.tup (by simp;exact(aB 457562194968710) l1) (fin _ (qW ⟨h1,ht⟩ ?_ (by simp;exact(aB 457562194968710) l1) fun row=>?_))
   .intro p hp;obtain⟨a,ha,rfl⟩:=zAt.mp hp;exact pn a ha
   .rw[ve];rw[e1];refine(?_:((nd B t).args.map (val B row)).all id=_);rw[←vs];rw[all_map];rfl
  .simp[e1,ag];rw[tv];refine jT O (bK hn rfl) (by simp;exact(aB 457562194968710) l1) (fin _ (Cc ⟨h1,ht⟩ ?_ (by simp;exact(aB 457562194968710) l1) fun row=>?_))
   .intro p hp;obtain⟨a,ha,rfl⟩:=zAt.mp hp;exact pn a ha
   .rw[ve];rw[e1];refine(?_:((nd B t).args.map (val B row)).any id=_);rw[←vs];rw[any_map];rfl
  .obtain⟨x,y,ea⟩:=iM l1;have hx:x∈(nd B t).args:=by rw[ea];exact .head _
   have hy:y∈(nd B t).args:=by rw[ea];exact .tail _ (.head _)
   simp[e1,ag,ea,dG];refine i8 O (bK hn rfl) (fin _ (xp ⟨h1,ht⟩ (pn x hx) (pn y hy) fun row=>?_));rw[ve];rw[e1];rw[ea];rw[cq (pa x hx).1];rw[cq (pa y hy).1];rfl
  .obtain⟨x,y,ea⟩:=iM l1;have hx:x∈(nd B t).args:=by rw[ea];exact .head _
   have hy:y∈(nd B t).args:=by rw[ea];exact .tail _ (.head _)
   simp[e1,ag,ea,dG];refine jT (ps:=[-(x:Int),(y:Int)]) O (bK hn rfl) (zDw _) (fin _ (Cc ⟨h1,ht⟩ ?_ (zDw _) fun row=>?_))
   .simp;exact⟨(pn x hx).neg,pn y hy⟩
   .rw[ve];rw[e1];rw[ea];simp[cq (pa y hy).1,cA (pa x hx).1]
  .obtain⟨x,y,ea⟩:=iM l1;have hx:x∈(nd B t).args:=by rw[ea];exact .head _
   have hy:y∈(nd B t).args:=by rw[ea];exact .tail _ (.head _)
   simp[e1,ag,ea,dG];refine i8 O (bK hn rfl) (fin _ (xp ⟨h1,ht⟩ (pn x hx) (pn y hy).neg fun row=>?_));rw[ve];rw[e1];rw[ea];rw[cq (pa x hx).1];rw[cA (pa y hy).1];simp;cases val B row x<;>cases val B row y<;>rfl
  .obtain⟨x,y,z,ea⟩:=BX l1;have hx:x∈(nd B t).args:=by rw[ea];exact .head _
   have hy:y∈(nd B t).args:=by rw[ea];exact .tail _ (.head _)
   have hz:z∈(nd B t).args:=by rw[ea];exact .tail _ (.tail _ (.head _))
   simp[e1,ag,ea,dG];refine oF O (bK hn rfl) (fin _ (EU ⟨h1,ht⟩ (pn x hx) (pn y hy) (pn z hz) fun row=>?_));rw[ve];rw[e1];rw[ea];rw[cq (pa x hx).1];rw[cq (pa y hy).1];rw[cq (pa z hz).1];rfl
  .simp[e1,ag];exact jq O (bK hn rfl) X ⟨h6,ht⟩ e1 h3 h
end
theorem dW{α:Type}[DecidableEq α]:∀(l m:List α),l.Nodup->(∀x∈l,x∈m)->l.length<=m.length:=by
 intro zl
 induction zl with
 |nil=>
  rintro _ _ _;exact zEw _
 |cons x l ih=>
  rintro m hn hs;obtain⟨h1,h2⟩:=zCq.mp hn;have hx:=hs x (.head _);have:=ih (m.erase x) h2 fun y hy=>(List.mem_erase_of_ne fun e=>h1 (by rw[←e];exact hy)).mpr (hs y (.tail _ hy))
  rw[List.length_erase_of_mem hx]at this;have:=List.length_pos_of_mem hx;simp;exact(aD 0x2b05082a16586a026) ‹_› this
noncomputable def eY(a:Nat->Bool)(l:Int):Bool:=if 0<l then a l.natAbs else !a l.natAbs
def hU(a:Nat->Bool)(c:List Int):Prop:=∃l∈c,eY a l=true
theorem nG{a:Nat->Bool}{l:Int}(h:l≠0):eY a (-l)=!eY a l:=by
 unfold eY;rw[natAbs_neg];by_cases q:0<l
 .rw[zBq q];rw[zAi (by exact(jy 52229835334) q)]
 .rw[zAi q];rw[zBq (by exact(jy 0x30a402925940396) h q)];simp
theorem dH{a:Nat->Bool}{v:Nat}(h:1<=v):eY a (v:Int)=a v:=by unfold eY;rw[zBq (by exact(aB 3398437670) h)];rfl
theorem di{a:Nat->Bool}{v:Nat}(h:1<=v):eY a (-(v:Int))=!a v:=by rw[nG (by exact(aB 688887434022) h)];rw[dH h]
structure St where
 B:List Nd
 vs:List Nat
 cs:List (List Int)
 sd:List (Nat×Nat)
 op:List Nat
 wait:List (Nat×Nat)
 aS:Nat
 cQ:List V
 KA:Int
noncomputable def aw(sd:List (Nat×Nat))(t:Nat):Nat:=(aj t sd).getD 0
noncomputable def aT(k b:Nat):Bool:=k==3||k==b
noncomputable def cM(s k:Nat):Nat:=s&&&(3-k)
def bV(vs:List Nat)(t v:Nat):Prop:=1<=v/\vs[v-1]?=some t
inductive cN(B:List Nd):Nat->Nat->Int->Prop
 |base {t}:(nd B t).op≠2->cN B t t 1
 |step {t u i sg d}:nd B t=⟨2,[u],d⟩->cN B u i sg->cN B t i (-sg)
def Ent(B:List Nd)(vs:List Nat)(sd:List (Nat×Nat))(s l:Int):Prop:=
 ∃i sg v,cN B s.natAbs i sg/\bV vs i v/\((0<s/\l=sg*v/\aT (aw sd i) (if sg=1 then 1 else 2)=true)\/(s<0/\l= -(sg*v)/\aT (aw sd i) (if sg=1 then 2 else 1)=true))
def Right(B:List Nd)(vs:List Nat)(sd:List (Nat×Nat))(t:Nat)(s l:Int):Prop:=
 (s.natAbs=t/\∃v,bV vs t v/\((0<s/\l=v)\/(s<0/\l= -(v:Int))))\/(s.natAbs≠t/\Ent B vs sd s l)
def jV(cs:List (List Int))(ls:List Int):Prop:=(∃l∈ls,-l∈ls)\/∃c∈cs,∀l,l∈c↔l∈ls
inductive YA(B:List Nd)(vs:List Nat)(sd:List (Nat×Nat))(cs:List (List Int))(t b:Nat):Prop
 |mk (bG:List (List (Int×Int))) (h1:∀c∈bG,(∀p∈c,Right B vs sd t p.1 p.2)/\jV cs (c.map (·.2)))
  (h2:∀c∈bG,∀p∈c,p.1≠0/\p.1.natAbs<B.length/\(p.1.natAbs=t\/rank B p.1.natAbs<rank B t))
  (h3:∀row,∀c∈bG,∃p∈c,bq B row p.1=true)
  (h4:b=1->∀row,(∀c∈bG,∃p∈c,p.1≠-(t:Int)/\(p.1=t\/bq B row p.1=true))->val B row t=true)
  (h5:b=2->∀row,(∀c∈bG,∃p∈c,p.1≠(t:Int)/\(p.1= -(t:Int)\/bq B row p.1=true))->val B row t=false)
structure fY(B:List Nd)(vs:List Nat)(sd:List (Nat×Nat))(cs:List (List Int))(t b:Nat):Prop where
 ex:YA B vs sd cs t b
noncomputable def star(B:List Nd)(vs:List Nat)(row:Row):Nat->Bool:=fun v=>val B row (vs.getD (v-1) 0)
structure jW(B B':List Nd)(vs yM:List Nat)(sd yN:List (Nat×Nat)):Prop where
 g:Good B
 g':Good B'
 gr:cG B B'
 vs:∃l,yM=vs++l
 sd:∀t b,(b=1\/b=2)->aT (aw sd t) b=true->aT (aw yN t) b=true
theorem bV.mono{vs:List Nat}{t v:Nat}(h:bV vs t v)(l:List Nat):bV (vs++l) t v:=by refine⟨h.1,?_⟩;have:=(zCy.mp h.2).1;rw[zFy this];exact h.2
theorem bV.lt{vs:List Nat}{t v:Nat}(h:bV vs t v):v<=vs.length:=by have:=(zCy.mp h.2).1;have:=h.1;exact(aD 0x8080b260ac1516) ‹_› this
theorem bV.mem{vs:List Nat}{t v:Nat}(h:bV vs t v):t∈vs:=zFr h.2
theorem bV.uniq{vs:List Nat}(hn:vs.Nodup){t v w:Nat}(h:bV vs t v)(h':bV vs t w):v=w:=by have:=(List.getElem?_inj (zCy.mp h.2).1 hn).mp (h.2.trans h'.2.symm);have:=h.1;have:=h'.1;exact(aD 0x8002b2602c9961aac1506) ‹_› ‹_› this
theorem bV.fn{vs:List Nat}{t u v:Nat}(h:bV vs t v)(h':bV vs u v):t=u:=by have:=h.2.symm.trans h'.2;simpa using this
theorem tF{vs:List Nat}{v:Nat}(h:1<=v)(h':v<=vs.length):∃t,bV vs t v:=
 ⟨_,h,zAe ((aD 0xac151080980b26) h h')⟩
theorem cN.mono{B B':List Nd}(g:Good B)(e:cG B B'){t i:Nat}{sg:Int}(h:cN B t i sg)(ht:t<B.length):cN B' t i sg:=by
 induction h with
 |base h=>exact .base (by rw[e.nd ht];exact h)
 |step h _ ih=>
  refine .step (by rw[e.nd ht];exact h) (ih ?_)
  have:=g.args (a:=_) (by rw[h];exact List.mem_singleton.mpr rfl)
  exact(aP 0x88402112c9d82016) ht this
inductive Ji(B:List Nd)(t i:Nat)(sg:Int):Prop
 |mk (a:i<=t) (b:1<=t->1<=i) (c:(nd B i).op≠2) (d:sg=1\/sg= -1) (e:rank B i<=rank B t) (f:wt B i<=wt B t) (g:∀row,val B row t=if sg=1 then val B row i else !val B row i)
theorem cN.facts{B:List Nd}(g:Good B){t i:Nat}{sg:Int}(h:cN B t i sg):Ji B t i sg:=by
 induction h with
 |base h=>exact⟨zAq _,id,h,.inl rfl,zAq _,zAq _,fun row=>rfl⟩
 | @step t u i sg d h _ ih=>
  have hu:=g.args (t:=t) (a:=u) (by rw[h];exact .head _)
  have hr:=tq g (t:=t) (a:=u) (by rw[h];exact .head _)
  have hw:=gf g t;rw[h]at hw;simp at hw;obtain⟨h1,h2,h3,h4,h5,h6,h7⟩:=ih;refine⟨(aP 0x888022608040b276) hu h1,fun _=>h2 hu.1,h3,by clear h7 a;rcases h4 with rfl |rfl<;>simp,(aP 37520978485270) hr h5,(aP 0x8822260ae8006) hw h6,fun row=>?_⟩
  rw[val_eq g];rw[h];simp only[k8_0,k8_1,k8_2,k8_3,k8_4,k8_5,k8_6,k8_7,k8_8,k8_9,k8_93,k8_10,k8_18,map_cons,map_nil];rw[h7 row];clear h7 a;rcases h4 with rfl |rfl<;>simp
theorem Ent.mono{B B':List Nd}{vs yM:List Nat}{sd yN:List (Nat×Nat)}(m:jW B B' vs yM sd yN){s l:Int}(hs:s.natAbs<B.length)(h:Ent B vs sd s l):Ent B' yM yN s l:=by
 obtain⟨i,sg,v,h1,h2,h3⟩:=h;obtain⟨l',rfl⟩:=m.vs;refine⟨i,sg,v,h1.mono m.g m.gr hs,h2.mono l',?_⟩;rcases h3 with⟨a,b,e⟩ |⟨a,b,e⟩
 .exact .inl ⟨a,b,m.sd _ _ (by split<;>simp) e⟩
 .exact .inr ⟨a,b,m.sd _ _ (by split<;>simp) e⟩
theorem Right.mono{B B':List Nd}{vs yM:List Nat}{sd yN:List (Nat×Nat)}(m:jW B B' vs yM sd yN){t:Nat}{s l:Int}(hs:s.natAbs<B.length)(h:Right B vs sd t s l):Right B' yM yN t s l:=by
 rcases h with⟨h1,v,h2,h3⟩ |⟨h1,h⟩
 .obtain⟨l',rfl⟩:=m.vs;exact .inl ⟨h1,v,h2.mono l',h3⟩
 .exact .inr ⟨h1,h.mono m hs⟩
theorem jV.mono{cs j7:List (List Int)}{ls:List Int}(hc:∀c∈cs,c∈j7)(h:jV cs ls):jV j7 ls:=by
 rcases h with h |⟨c,h1,h2⟩
 .exact .inl h
 .exact .inr ⟨c,hc c h1,h2⟩
theorem fY.mono{B B':List Nd}{vs yM:List Nat}{sd yN:List (Nat×Nat)}{cs j7:List (List Int)}(m:jW B B' vs yM sd yN)(hc:∀c∈cs,c∈j7){t b:Nat}(ht:t<B.length)(h:fY B vs sd cs t b):fY B' yM yN j7 t b:=by
 obtain⟨bG,h1,h2,h3,h4,h5⟩:=h.ex;have sv:∀row,∀c∈bG,∀p∈c,bq B' row p.1=bq B row p.1:=fun row c hc p hp=>tC m.g m.g' m.gr row (h2 c hc p hp).2.1;refine⟨bG,fun c Ms=>⟨fun p hp=>((h1 c Ms).1 p hp).mono m (h2 c Ms p hp).2.1,(h1 c Ms).2.mono hc⟩,fun c hc p hp=>?_,fun row c hc=>?_,fun hb row h=>?_,fun hb row h=>?_⟩
 .obtain⟨a1,a2,a3⟩:=h2 c hc p hp;exact⟨a1,(Ot 0x83420068582026) m.gr.len a2,by rw[tn m.gr a2];rw[tn m.gr ht];exact a3⟩
 .obtain⟨p,hp,e⟩:=h3 row c hc;exact⟨p,hp,by rw[sv row c hc p hp];exact e⟩
 .rw[bN m.g m.g' m.gr row t ht];refine h4 hb row fun c hc=>?_;obtain⟨p,hp,e⟩:=h c hc;rw[sv row c hc p hp]at e;exact⟨p,hp,e⟩
 .rw[bN m.g m.g' m.gr row t ht];refine h5 hb row fun c hc=>?_;obtain⟨p,hp,e⟩:=h c hc;rw[sv row c hc p hp]at e;exact⟨p,hp,e⟩
theorem tG{B B':List Nd}(g:Good B)(g':Good B')(e:cG B B'){vs:List Nat}(hv:∀t∈vs,t<B.length)(l:List Nat)(row:Row){v:Nat}(h1:1<=v)(h:v<=vs.length):star B' (vs++l) row v=star B vs row v:=by
 unfold star
 have e1:(vs++l).getD (v-1) 0=vs.getD (v-1) 0:=by simp[List.getD,List.getElem?_append_left (show v-1<vs.length by exact(aD 0xac151080980b26) h1 h)]
 rw[e1];refine bN g g' e row _ (hv _ ?_);rw[zBy];rw[zAe (by exact(aD 0xac151080980b26) h1 h)]
 exact zEq _
theorem hV{B:List Nd}{vs:List Nat}{row:Row}{t v:Nat}(h:bV vs t v):star B vs row v=val B row t:=by unfold star;rw[zBy];rw[h.2];rfl
theorem Ent.star{B:List Nd}(g:Good B){vs:List Nat}{sd:List (Nat×Nat)}{s l:Int}(h:Ent B vs sd s l)(row:Row):eY (Internal.star B vs row) l=bq B row s:=by
 obtain⟨i,sg,v,h1,h2,h3⟩:=h;obtain⟨_,_,_,f4,_,_,f7⟩:=h1.facts g;have e:=hV (B:=B) (row:=row) h2;have hv:=h2.1;have vr:=f7 row;unfold bq;clear f7 h1;rcases h3 with⟨a,b,_⟩ |⟨a,b,_⟩
 .rw[zBq a];rw[vr];rcases f4 with rfl |rfl
  .rw[b];rw[zFe];rw[dH hv];rw[e];rfl
  .rw[b];rw[neg_mul];rw[zFe];rw[di hv];rw[e];rfl
 .rw[zAi (by exact(jy 690307142) a)];rw[vr]
  rcases f4 with rfl |rfl
  .rw[b];rw[zFe];rw[di hv];rw[e];rfl
  .rw[b];rw[neg_mul];rw[zFe];rw[neg_neg];rw[dH hv];rw[e];simp
theorem Right.star{B:List Nd}(g:Good B){vs:List Nat}{sd:List (Nat×Nat)}{t:Nat}(ht:1<=t){s l:Int}(h:Right B vs sd t s l)(row:Row):eY (Internal.star B vs row) l=bq B row s:=by
 rcases h with⟨h1,v,h2,h3⟩ |⟨_,h⟩
 .have e:=hV (B:=B) (row:=row) h2;rcases h3 with⟨a,rfl⟩ |⟨a,rfl⟩
  .rw[dH h2.1];rw[e];rw[show s=(t:Int) by exact(oj 0x64060523001a06) h1 a];rw[cq ht]
  .rw[di h2.1];rw[e];rw[show s= -(t:Int) by exact(oj 0xce006a023001a06) h1 a];rw[cA ht]
 .exact h.star g row
theorem jV.sat{cs:List (List Int)}{ls:List Int}{a:Nat->Bool}(h:jV cs ls)(h0:∀l∈ls,l≠0)(hc:∀c∈cs,hU a c):∃l∈ls,eY a l=true:=by
 rcases h with⟨l,h1,h2⟩ |⟨c,h1,h2⟩
 .cases q:eY a l with
  |true=>exact⟨l,h1,q⟩
  |false=>exact⟨-l,h2,by rw[nG (h0 l h1)];rw[q];rfl⟩
 .obtain⟨l,h3,h4⟩:=hc c h1;exact⟨l,(h2 l).mp h3,h4⟩
theorem qY{A A' B B':Prop}{l sg:Int}{w:Nat}(f:sg=1\/sg= -1)(h:(A/\l=sg*w/\B)\/(A'/\l= -(sg*w)/\B')):l.natAbs=w:=by
 have e:(sg*w).natAbs=w:=by clear h;rcases f with rfl |rfl<;>simp
 rcases h with⟨_,h,_⟩ |⟨_,h,_⟩
 .rw[h];exact e
 .rw[h];rw[natAbs_neg];exact e
theorem Ent.Jj{B:List Nd}(g:Good B){vs:List Nat}{sd:List (Nat×Nat)}{s l:Int}(h:Ent B vs sd s l):l≠0/\l.natAbs<=vs.length:=by obtain⟨i,sg,v,h1,h2,h3⟩:=h;obtain⟨_,_,_,f4,_⟩:=h1.facts g;have e:=qY f4 h3;refine⟨fun z=>?_,e▸h2.lt⟩;rw[z]at e;exact absurd h2.1 (by rw[←e];decide)
theorem Right.Jj{B:List Nd}(g:Good B){vs:List Nat}{sd:List (Nat×Nat)}{t:Nat}{s l:Int}(h:Right B vs sd t s l):l≠0/\l.natAbs<=vs.length:=by
 rcases h with⟨_,v,h2,h3⟩ |⟨_,h⟩
 .have:=h2.1;have:=h2.lt;rcases h3 with⟨_,rfl⟩ |⟨_,rfl⟩<;>(first |exact(aD 0x419d12819397080980b26) ‹_› this |exact(aD 0x10671a250338397080980b26) ‹_› this)
 .exact h.Jj g
noncomputable def cv(sd:List (Nat×Nat)):Nat:=(sd.map fun p=>if p.2=3 then 2 else 1).sum
def Dr(K tm:Nat)(B:List Nd):Prop:=K<=B.length/\∀k∈B.drop K,k=⟨2,[tm],0⟩\/∃x y,x<K/\y<K/\k=⟨7,[x,y],0⟩
noncomputable def St.pend(st:St):Nat:=st.wait.length-st.aS
structure aV(K tm:Nat)(pf:Bool)(P:Row->Prop)(X:Nat->Nat->Prop)(bB sl:Nat)(st:St):Prop where
 good:Good st.B
 oG:st.vs.Nodup
 pL:∀t∈st.vs,1<=t/\t<st.B.length/\(nd st.B t).op≠2
 xq:(st.sd.map (·.1)).Nodup
 tH:∀p∈st.sd,p.1∈st.vs/\1<=p.2/\p.2<=3
 wt:∀p∈st.wait,p.1∈st.vs/\1<=p.2/\p.2<=3
 aS:st.aS<=st.wait.length
 oi:∀c∈st.cs,c.Pairwise (fun a b=>a.natAbs<b.natAbs)/\c.length<64/\∀l∈c,l≠0/\l.natAbs<=st.vs.length
 snd:∀row,P row->∀c∈st.cs,hU (star st.B st.vs row) c
 yO:∀t b,(b=1\/b=2)->aT (aw st.sd t) b=true->(∃p∈st.wait.drop st.aS,p.1=t/\aT p.2 b=true)\/(nd st.B t).op=10\/fY st.B st.vs st.sd st.cs t b\/X t b
 cnt:st.cs.length+4*st.pend+sl<=4*cv st.sd+bB
 oH:pf=true->∀t∈st.vs,aw st.sd t=3
 iJ:Dr K tm st.B
 tJ:st.op.Nodup/\∀t∈st.op,3<=t/\t<6
 cQ:st.cQ.length=st.cs.length
set_option tactic.hygienic true in
theorem fE{κ:Type}[DecidableEq κ]{β:Type}{k:κ}{v:β}:∀{l:List (κ×β)},aj k l=some v->(k,v)∈l
 |(x,w)::l,h=>by
  rw[aK]at h;split at h
  .rename_i q;obtain rfl:=so h;subst q;exact .head _
  .exact .tail _ (fE h)
theorem bP{κ:Type}[DecidableEq κ]{β:Type}(k:κ)(v:β)(j:κ):∀(l:List (κ×β)),aj j (putD k v l)=if k=j then some v else aj j l
 |[]=>by simp[aO,aK]
 |(x,w)::l=>by
  by_cases q:x=k
  .subst q;by_cases q':x=j<;>simp[aO,aK,q']
  .by_cases q':x=j
   .subst q';simp[aO,q,aK,Ne.symm q]
   .simp[aO,q,aK,q',bP k v j l]
theorem nH{κ:Type}[DecidableEq κ]{β:Type}(k:κ)(v:β):∀(l:List (κ×β)),(putD k v l).map (·.1)=if k∈l.map (·.1) then l.map (·.1) else l.map (·.1)++[k]:=by
 intro zl
 induction zl with
 |nil=>
  exact rfl
 |cons zp l ih=>
  obtain⟨x,w⟩:=zp;by_cases q:x=k
  .subst q;simp[aO]
  .have:=ih;simp only[aO,q,if_false,map_cons,this,mem_cons];have q':¬k=x:=fun e=>q e.symm;simp only[q',false_or];split<;>simp
theorem tL{κ:Type}[DecidableEq κ]{β:Type}{k:κ}{v:β}{p:κ×β}:∀{l:List (κ×β)},p∈putD k v l->p=(k,v)\/p∈l:=by
 intro zl
 induction zl with
 |nil=>
  rintro h;simp[aO]at h;exact .inl h
 |cons zp l ih=>
  obtain⟨x,w⟩:=zp;rintro h;by_cases q:x=k
  .subst q;simp[aO]at h;rcases h with h |h
   .exact .inl h
   .exact .inr (.tail _ h)
  .simp only[aO,q,if_false,mem_cons]at h;rcases h with h |h
   .exact .inr (by rw[h];exact .head _)
   .rcases ih h with h |h
    .exact .inl h
    .exact .inr (.tail _ h)
theorem EX{k v:Nat}:∀{l:List (Nat×Nat)},(match aj k l with |none=>True |some w=>w≠3/\v=3)->cv l+1<=cv (putD k v l):=by
 intro zl
 induction zl with
 |nil=>
  rintro _;simp -iota [cv,aO];split<;>decide
 |cons zp l ih=>
  obtain⟨x,w⟩:=zp;rintro h;by_cases q:x=k
  .subst q;simp -iota only[aK,if_true]at h;simp -iota [cv,aO,h.1,h.2];exact aB 217080588610
  .simp -iota only[aK,q,if_false]at h;have:=ih h;simp -iota only[cv,aO,q,if_false,map_cons,sum_cons]at this⊢;exact(aP 0x8a8b00a9420ac1426) this
theorem Jk(sd:List (Nat×Nat)):cv sd<=2*sd.length:=by
 induction sd with
 |nil=>simp[cv]
 |cons p l ih=>
  simp only[cv,map_cons,sum_cons,length_cons]at ih⊢;split<;>(first |exact(aD 0x58682e8194208ba026) ih |exact(aD 0x58682e8174208ba026) ih)
theorem yP{α:Type}(k:Nat):∀l:List α,(l.map fun _=>k).sum=l.length*k:=by
 intro zl
 induction zl with
 |nil=>
  simp
 |cons zp l ih=>
  simp[ih,succ_mul];exact aD 27279680
theorem Dr.len{K tm:Nat}{B:List Nd}(g:Good B)(h:Dr K tm B)(h1:1<=K)(hK:K<=19):B.length<=381:=by
 have hn:(B.drop K).Nodup:=by
  have:=g.nodup;have e:B.drop K=(B.drop 1).drop (K-1):=by rw[List.drop_drop];congr 1;exact(aB 0x2c155d000000013e00980b26) h1 hK
  rw[e];exact List.Sublist.nodup (List.drop_sublist _ _) this
 have:=dW (B.drop K) (⟨2,[tm],0⟩::(List.range K).flatMap fun x=>(List.range K).map fun y=>⟨7,[x,y],0⟩) hn fun k hk=>by
  rcases h.2 k hk with rfl |⟨x,y,hx,hy,rfl⟩
  .exact .head _
  .exact .tail _ (List.mem_flatMap.mpr ⟨x,List.mem_range.mpr hx,zAt.mpr ⟨y,List.mem_range.mpr hy,rfl⟩⟩)
 have e:((List.range K).flatMap fun x=>(List.range K).map fun y=>(⟨7,[x,y],0⟩:Nd)).length=K*K:=by simp[List.length_flatMap,yP]
 simp only[length_cons,e,List.length_drop]at this;have:K*K<=19*19:=Nat.mul_le_mul hK hK;exact(dq 0x17de0c8000027c9f444cb15003a930820c000013e00980b26) h1 hK e ‹_› this
section
variable {K tm:Nat} {pf:Bool} {P:Row->Prop} {X:Nat->Nat->Prop} {bB sl:Nat} {st:St}
theorem aV.NB(I:aV K tm pf P X bB sl st):st.vs.length<=st.B.length:=by have:=dW st.vs (List.range st.B.length) I.oG fun t ht=>List.mem_range.mpr (I.pL t ht).2.1;simpa using this
theorem aV.xr(I:aV K tm pf P X bB sl st):cv st.sd<=2*st.B.length:=by
 have h1:=dW (st.sd.map (·.1)) st.vs I.xq fun t ht=>by obtain⟨p,hp,rfl⟩:=zAt.mp ht;exact(I.tH p hp).1
 simp at h1;exact(dq 0x18ba0210498622608ba026) (Jk st.sd) I.NB h1
theorem jX{B:List Nd}{t i:Nat}{sg:Int}(h:cN B t i sg)(ho:(nd B t).op≠2):i=t/\sg=1:=by
 cases h with
 |base _=>exact⟨rfl,rfl⟩
 |step e _=>rw[e]at ho;exact absurd rfl ho
theorem aV.up(I:aV K tm pf P (fun _ _=>False) bB sl st)(hw:st.wait.drop st.aS=[]){a:Nat->Bool}{row:Row}(hc:∀c∈st.cs,hU a c)(ha:∀k v,k<3->bV st.vs (3+k) v->a v=row k):
  ∀(r t v b:Nat),rank st.B t<=r->bV st.vs t v->(b=1\/b=2)->aT (aw st.sd t) b=true->(b=1->a v=true->val st.B row t=true)/\(b=2->a v=false->val st.B row t=false):=by
 intro r
 induction r using strongRecOn with
 |ind r ih=>
  intro t v b hr hv hb cj;have g:=I.good;obtain⟨t1,t2,t3⟩:=I.pL t hv.mem;clear t3;rcases I.yO t b hb cj with⟨p,hp,_⟩ |lM |ho |hf
  .rw[hw]at hp;cases hp
  .have gE:=val_eq g row t
   have:∃k,k<3/\t=3+k/\nd st.B t=⟨10,[],k⟩:=by
    by_cases q:t<6
    .rw[g.low q]at lM⊢;have:t=1\/t=2\/t=3\/t=4\/t=5:=by exact(aB 0x1e0070021a008600216008800580b26) t1 q
     rcases this with rfl |rfl |rfl |rfl |rfl
     .simp[nd,dM]at lM
     .simp[nd,dM]at lM
     .exact⟨0,by decide,rfl,rfl⟩
     .exact⟨1,by decide,rfl,rfl⟩
     .exact⟨2,by decide,rfl,rfl⟩
    .have:=(g.ok t (by exact(aB 1084227990) q) t2).1
     rw[lM]at this;exact ft rfl this
   obtain⟨k,hk,rfl,e⟩:=this;rw[e]at gE;rw[gE];simp only[k8_0,k8_1,k8_2,k8_3,k8_4,k8_5,k8_6,k8_7,k8_8,k8_9,k8_93,k8_10,k8_18];rw[(ha k v hk hv)];exact⟨fun _ h=>h,fun _ h=>h⟩
  .obtain⟨bG,h1,h2,h3,h4,h5⟩:=ho.ex
   have key:∀c∈bG,∃p∈c,(p.1=t/\a v=true)\/(p.1= -(t:Int)/\a v=false)\/(p.1.natAbs≠t/\bq st.B row p.1=true):=fun c GR=>by
    obtain⟨l,hl,e⟩:=(h1 c GR).2.sat (fun l hl=>by obtain⟨p,hp,rfl⟩:=zAt.mp hl;exact(((h1 c GR).1 p hp).Jj g).1) hc
    obtain⟨p,hp,rfl⟩:=zAt.mp hl;refine⟨p,hp,?_⟩;rcases(h1 c GR).1 p hp with⟨q,w,nI,h6⟩ |⟨q,i,sg,w,s1,s2,s3⟩
    .obtain rfl:=hv.uniq I.oG nI;rcases h6 with⟨q1,q2⟩ |⟨q1,q2⟩
     .rw[q2,dH hv.1]at e;exact .inl ⟨by exact(oj 0x64060523001a06) q q1,e⟩
     .rw[q2,di hv.1]at e;exact .inr (.inl ⟨by exact(oj 0xce006a023001a06) q q1,by simpa using e⟩)
    .obtain⟨f1,f2,f3,f4,f5,f6,f7⟩:=s1.facts g
     have zr:rank st.B i<r:=by
      rcases(h2 c GR p hp).2.2 with h |h
      .exact absurd h q
      .exact(dq 0x8840316188982026) hr f5 h
     refine .inr (.inr ⟨q,?_⟩);have f7:=f7 row;unfold bq;rcases s3 with⟨z1,z2,z3⟩ |⟨z1,z2,z3⟩
     .rw[zBq z1];rw[f7];clear f7 s1;rcases f4 with rfl |rfl
      .rw[zBq rfl]at z3⊢;rw[z2,zFe,dH s2.1]at e;exact(ih _ zr i w 1 (zAq _) s2 (.inl rfl) z3).1 rfl e
      .rw[zAi (by decide)]at z3⊢
       rw[z2,neg_mul,zFe,di s2.1]at e;rw[(ih _ zr i w 2 (zAq _) s2 (.inr rfl) z3).2 rfl (by simpa using e)];rfl
     .rw[zAi (by exact(jy 690307142) z1)];rw[f7]
      clear f7 s1;rcases f4 with rfl |rfl
      .rw[zBq rfl]at z3⊢;rw[z2,zFe,di s2.1]at e;rw[(ih _ zr i w 2 (zAq _) s2 (.inr rfl) z3).2 rfl (by simpa using e)];rfl
      .rw[zAi (by decide)]at z3⊢
       rw[z2,neg_mul,zFe,neg_neg,dH s2.1]at e;rw[(ih _ zr i w 1 (zAq _) s2 (.inl rfl) z3).1 rfl e];rfl
   refine⟨fun pY IV=>h4 pY row fun c GR=>?_,fun Df IV=>h5 Df row fun c GR=>?_⟩
   .obtain⟨p,hp,h⟩:=key c GR;rcases h with⟨q1,_⟩ |⟨_,q2⟩ |⟨q1,q2⟩
    .exact⟨p,hp,by exact(oj 0xce00720c80d80b26) t1 q1,.inl q1⟩
    .rw[IV]at q2;cases q2
    .exact⟨p,hp,by exact(oj 0xce007200682580b26) t1 q1,.inr q2⟩
   .obtain⟨p,hp,h⟩:=key c GR;rcases h with⟨_,q2⟩ |⟨q1,_⟩ |⟨q1,q2⟩
    .rw[IV]at q2;cases q2
    .exact⟨p,hp,by exact(oj 0xc80e419c00d80b26) t1 q1,.inl q1⟩
    .exact⟨p,hp,by exact(oj 0x6407200682580b26) t1 q1,.inr q2⟩
  .exact hf.elim
theorem aV.Jl(I:aV K tm pf P (fun _ _=>False) bB sl st)(hw:st.wait.drop st.aS=[]){a:Nat->Bool}{row:Row}(hc:∀c∈st.cs,hU a c)(ha:∀k v,k<3->bV st.vs (3+k) v->a v=row k){s l:Int}
  (h:Ent st.B st.vs st.sd s l) (e:eY a l=true):bq st.B row s=true:=by
 obtain⟨i,sg,w,s1,s2,s3⟩:=h;obtain⟨f1,f2,f3,f4,f5,f6,f7⟩:=s1.facts I.good;have f7:=f7 row;have ih:=fun b=>I.up hw hc ha _ i w b (zAq _) s2;unfold bq;rcases s3 with⟨z1,z2,z3⟩ |⟨z1,z2,z3⟩
 .rw[zBq z1];rw[f7];clear f7 s1;rcases f4 with rfl |rfl
  .rw[zBq rfl]at z3⊢;rw[z2,zFe,dH s2.1]at e;exact(ih 1 (.inl rfl) z3).1 rfl e
  .rw[zAi (by decide)]at z3⊢
   rw[z2,neg_mul,zFe,di s2.1]at e;rw[(ih 2 (.inr rfl) z3).2 rfl (by simpa using e)];rfl
 .rw[zAi (by exact(jy 690307142) z1)];rw[f7]
  clear f7 s1;rcases f4 with rfl |rfl
  .rw[zBq rfl]at z3⊢;rw[z2,zFe,di s2.1]at e;rw[(ih 2 (.inr rfl) z3).2 rfl (by simpa using e)];rfl
  .rw[zAi (by decide)]at z3⊢
   rw[z2,neg_mul,zFe,neg_neg,dH s2.1]at e;rw[(ih 1 (.inl rfl) z3).1 rfl e];rfl
end
set_option synthInstance.maxSize 8000 in
set_option synthInstance.maxHeartbeats 400000 in
theorem EY(k:Nat)(hk:k<4)(s:Nat)(hs:s<4)(h1:1<=s):(∀b,b<3->1<=b->(aT (k|||cM s k) b=(aT k b||aT s b))/\(aT (cM s k) b=(aT s b&&!aT k b)))/\1<=(k|||cM s k)/\(k|||cM s k)<=3/\cM s k<=3/\
  (cM s k≠0->k=0\/(k≠3/\(k|||cM s k)=3))/\(s=3->(k|||cM s k)=3)/\(cM s k=0->(k|||cM s k)=k):=by
 revert k hk s hs h1;decide+kernel
noncomputable def bL(st:St)(i:Nat):St:=if i∈st.vs then st else{st with vs:=st.vs++[i]}
noncomputable def dN(st:St)(t s:Nat):St:=if cM s (aw st.sd t)=0 then st else{st with sd:=putD t (aw st.sd t|||cM s (aw st.sd t)) st.sd,wait:=st.wait++[(t,cM s (aw st.sd t))]}
noncomputable def hY(st:St)(i s:Nat):St:=dN (bL st i) i s
structure Mv(st st':St):Prop where
 m:jW st.B st'.B st.vs st'.vs st.sd st'.sd
 cs:∃l,st'.cs=st.cs++l
 run:st'.pend+cv st.sd<=st.pend+cv st'.sd
 aS:st'.aS=st.aS
 wait:∃l,st'.wait=st.wait++l
theorem Mv.refl{st:St}(g:Good st.B):Mv st st:=⟨⟨g,g,cG.refl _,⟨[],(zDp _).symm⟩,fun _ _ _ h=>h⟩,⟨[],(zDp _).symm⟩,zAq _,rfl,⟨[],(zDp _).symm⟩⟩
theorem jW.trans{B B' Nq:List Nd}{vs yM NC:List Nat}{sd yN ND:List (Nat×Nat)}(x:jW B B' vs yM sd yN)(y:jW B' Nq yM NC yN ND):jW B Nq vs NC sd ND:=by obtain⟨l,e⟩:=x.vs;obtain⟨l',e'⟩:=y.vs;exact⟨x.g,y.g',x.gr.trans y.gr,⟨l++l',by rw[e'];rw[e];rw[zFu]⟩,fun t b hb h=>y.sd t b hb (x.sd t b hb h)⟩
theorem Mv.trans{a b d:St}(x:Mv a b)(y:Mv b d):Mv a d:=by obtain⟨l,e⟩:=x.cs;obtain⟨l',e'⟩:=y.cs;obtain⟨w,f⟩:=x.wait;obtain⟨w',f'⟩:=y.wait;have:=x.run;have:=y.run;exact⟨x.m.trans y.m,⟨l++l',by rw[e'];rw[e];rw[zFu]⟩,(ur 0xa2a04942282832509862a041426) ‹_› this,y.aS.trans x.aS,⟨w++w',by rw[f'];rw[f];rw[zFu]⟩⟩
theorem Mv.EZ{a b:St}(x:Mv a b):∀c∈a.cs,c∈b.cs:=by obtain⟨l,e⟩:=x.cs;intro c h;rw[e];exact zEe _ h
section
variable {K tm:Nat} {pf:Bool} {P:Row->Prop} {X:Nat->Nat->Prop} {bB sl:Nat} {st:St}
theorem aV.bits(I:aV K tm pf P X bB sl st)(t:Nat):aw st.sd t<4/\(aj t st.sd=none->aw st.sd t=0)/\(∀w,aj t st.sd=some w->aw st.sd t=w/\w≠0):=by
 unfold aw;cases q:aj t st.sd with
 |none=>decide
 |some w=>
  have:=I.tH _ (fE q);simp;simp at this;exact⟨lt_succ_of_le this.2.2,ne_of_gt this.2.1⟩
theorem qZ{α:Type}{l m:List α}{n:Nat}{x:α}(h:x∈l.drop n):x∈(l++m).drop n:=by rw[List.drop_append];exact zEe _ h
set_option tactic.hygienic true in
theorem aV.yQ(I:aV K tm pf P X bB sl st){i:Nat}(h1:1<=i)(h2:i<st.B.length)(h3:(nd st.B i).op≠2):
  aV K tm false P X bB sl (bL st i)/\Mv st (bL st i)/\i∈(bL st i).vs/\(pf=true->∀t∈(bL st i).vs,t≠i->aw (bL st i).sd t=3):=by
 unfold bL;split
 .rename_i h
  exact⟨⟨I.good,I.oG,I.pL,I.xq,I.tH,I.wt,I.aS,I.oi,I.snd,I.yO,I.cnt,(by intro h;cases h),I.iJ,I.tJ,I.cQ⟩,Mv.refl I.good,h,fun hp t ht _=>I.oH hp t ht⟩
 .rename_i h
  have m:jW st.B st.B st.vs (st.vs++[i]) st.sd st.sd:=⟨I.good,I.good,cG.refl _,⟨[i],rfl⟩,fun _ _ _ h=>h⟩;refine⟨⟨I.good,?_,?_,I.xq,?_,?_,I.aS,?_,?_,?_,I.cnt,(by intro h;cases h),I.iJ,I.tJ,I.cQ⟩,⟨m,⟨[],by simp⟩,zAq _,rfl,⟨[],by simp⟩⟩,by simp,fun hp t ht el=>?_⟩
  .refine zCi.mpr ⟨I.oG,by simp,?_⟩
   intro a ha b hb e;simp at hb;rw[e,hb]at ha;exact h ha
  .intro t ht;clear m h;rcases zAu.mp ht with ht |ht
   .exact I.pL t ht
   .simp at ht;subst ht;exact⟨h1,h2,h3⟩
  .exact fun p hp=>⟨zEe _ (I.tH p hp).1,(I.tH p hp).2⟩
  .exact fun p hp=>⟨zEe _ (I.wt p hp).1,(I.wt p hp).2⟩
  .intro c hc;obtain⟨a1,a2,a3⟩:=I.oi c hc;exact⟨a1,a2,fun l hl=>⟨(a3 l hl).1,by have:=(a3 l hl).2;simp;exact(oj 0x58280d1001a26) this⟩⟩
  .intro row hr c hc;obtain⟨l,hl,e⟩:=I.snd row hr c hc;obtain⟨l0,l1⟩:=(I.oi c hc).2.2 l hl;refine⟨l,hl,?_⟩;have:=tG I.good I.good (cG.refl _) (fun t ht=>(I.pL t ht).2.1) [i] row (v:=l.natAbs) ((jy 56582472598) l0) l1;unfold eY at e⊢;rw[this];exact e
  .intro t b hb cj;rcases I.yO t b hb cj with h |h |h |h
   .exact .inl h
   .exact .inr (.inl h)
   .have ht:t<st.B.length:=by
     unfold aw at cj;cases q:aj t st.sd with
     |none=>rw[q]at cj;rcases hb with rfl |rfl<;>simp[aT]at cj
     |some w=>exact(I.pL t (I.tH _ (fE q)).1).2.1
    exact .inr (.inr (.inl (h.mono m (fun _ h=>h) ht)))
   .exact .inr (.inr (.inr h))
  .rcases zAu.mp ht with ht |ht
   .exact I.oH hp t ht
   .simp at ht;exact absurd ht el
theorem aV.vF(I:aV K tm pf P X bB sl st){t b:Nat}(hb:b=1\/b=2)(cj:aT (aw st.sd t) b=true):t<st.B.length:=by
 unfold aw at cj;cases q:aj t st.sd with
 |none=>rw[q]at cj;rcases hb with rfl |rfl<;>simp[aT]at cj
 |some w=>exact(I.pL t (I.tH _ (fE q)).1).2.1
set_option tactic.hygienic true in
theorem aV.E0(I:aV K tm false P X bB sl st){i s:Nat}(hi:i∈st.vs)(hs:1<=s/\s<=3):
  aV K tm false P X bB sl (dN st i s)/\Mv st (dN st i s)/\(∀b,(b=1\/b=2)->aT s b=true->aT (aw (dN st i s).sd i) b=true)/\(s=3->aw (dN st i s).sd i=3)/\(∀t,t≠i->aw (dN st i s).sd t=aw st.sd t)/\(dN st i s).vs=st.vs:=by
 obtain⟨k4,kn,ks⟩:=I.bits i;clear kn;obtain⟨T1,T2,T3,T4,T5,T6,T7⟩:=EY _ k4 s ((aB 492677854442102) hs) hs.1;unfold dN;split
 .rename_i h
  have e:=T7 h;rw[e]at T1 T6;refine⟨I,Mv.refl I.good,fun b hb h=>?_,T6,fun _ _=>rfl,rfl⟩;have:=(T1 b ((aB 457491327877254) hb) ((aB 0xb2600160086) hb)).1;rw[h]at this;rw[this];simp
 .rename_i h
  have bi:∀t,aw (putD i (aw st.sd i|||cM s (aw st.sd i)) st.sd) t=if i=t then aw st.sd i|||cM s (aw st.sd i) else aw st.sd t:=fun t=>by unfold aw;rw[bP];split<;>rfl
  have KC:=bi i;rw[zBq rfl]at KC;have SK:∀t,t≠i->aw (putD i (aw st.sd i|||cM s (aw st.sd i)) st.sd) t=aw st.sd t:=fun t h=>by rw[bi];rw[zAi (fun e=>h e.symm)]
  have m:jW st.B st.B st.vs st.vs st.sd (putD i (aw st.sd i|||cM s (aw st.sd i)) st.sd):=⟨I.good,I.good,cG.refl _,⟨[],(zDp _).symm⟩,fun t b hb hx=>by
   by_cases q:t=i
   .rw[q]at hx⊢;rw[KC];rw[(T1 b ((aB 457491327877254) hb) ((aB 0xb2600160086) hb)).1];rw[hx];rfl
   .rw[SK t q];exact hx⟩
  have cp:cv st.sd+1<=cv (putD i (aw st.sd i|||cM s (aw st.sd i)) st.sd):=by
   refine EX ?_;split
   .trivial
   .rename_i w q
    obtain⟨e1,e2⟩:=ks w q;rcases T5 h with q |⟨q1,q2⟩
    .exact(dq 0x6801a30975081943096188180106680980b26) T2 T3 KC e1 e2 q
    .exact⟨(aD 0x1a1096802582006) e1 q1,q2⟩
  have KD:=I.aS
  have pe:St.pend {st with sd:=putD i (aw st.sd i|||cM s (aw st.sd i)) st.sd,wait:=st.wait++[(i,cM s (aw st.sd i))]}=st.pend+1:=by unfold St.pend;simp;exact(aD 0x58035a0161a5402026) KD
  refine⟨⟨I.good,I.oG,I.pL,?_,?_,?_,?_,I.oi,I.snd,?_,?_,(by intro h;cases h),I.iJ,I.tJ,I.cQ⟩,⟨m,⟨[],by simp⟩,?_,rfl,⟨_,rfl⟩⟩,?_,?_,?_,rfl⟩
  .show (List.map _ (putD _ _ _)).Nodup
   rw[nH];split
   .exact I.xq
   .rename_i q
    refine zCi.mpr ⟨I.xq,by simp,?_⟩
    intro a ha b hb e;simp only[mem_singleton]at hb;rw[e,hb]at ha;exact q ha
  .intro p hp;rcases tL hp with rfl |hp
   .exact⟨hi,T2,T3⟩
   .exact I.tH p hp
  .intro p hp;rcases zAu.mp hp with hp |hp
   .exact I.wt p hp
   .simp only[mem_singleton]at hp;subst hp;exact⟨hi,by refine(?_:1<=cM _ _);exact(aB 0xb2500259a026) T4 h,T4⟩
  .refine(?_:st.aS<=(st.wait++_).length);simp;exact(aD 1518808342566) KD
  .intro t b hb cj
   have old:aT (aw st.sd t) b=true->(∃p∈(st.wait++[(i,cM s (aw st.sd i))]).drop st.aS,p.1=t/\aT p.2 b=true)\/(nd st.B t).op=10\/fY st.B st.vs (putD i (aw st.sd i|||cM s (aw st.sd i)) st.sd) st.cs t b\/X t b:=fun h=>by
    rcases I.yO t b hb h with⟨p,hp,h'⟩ |h' |h' |h'
    .exact .inl ⟨p,qZ hp,h'⟩
    .exact .inr (.inl h')
    .exact .inr (.inr (.inl (h'.mono m (fun _ h=>h) (I.vF hb h))))
    .exact .inr (.inr (.inr h'))
   by_cases q:t=i
   .subst q;have cj:aT (aw (putD t (aw st.sd t|||cM s (aw st.sd t)) st.sd) t) b=true:=cj;rw[KC,(T1 b ((aB 457491327877254) hb) ((aB 0xb2600160086) hb)).1]at cj;cases q2:aT (aw st.sd t) b with
    |true=>exact old q2
    |false=>
     rw[q2]at cj;refine .inl ⟨(t,cM s (aw st.sd t)),?_,rfl,?_⟩
     .refine(?_:_∈(st.wait++_).drop st.aS);rw[zGi KD];simp
     .rw[(T1 b ((aB 457491327877254) hb) ((aB 0xb2600160086) hb)).2];rw[q2];simpa using cj
   .have cj:aT (aw (putD i (aw st.sd i|||cM s (aw st.sd i)) st.sd) t) b=true:=cj;rw[SK t q]at cj;exact old cj
  .rw[pe];refine(?_:st.cs.length+4*(st.pend+1)+sl<=4*cv (putD i (aw st.sd i|||cM s (aw st.sd i)) st.sd)+bB);exact(ur 0xa12768458e84e8a9422809da1064e8a94260ac1426) cp I.cnt
  .rw[pe];refine(?_:st.pend+1+cv st.sd<=st.pend+cv (putD i (aw st.sd i|||cM s (aw st.sd i)) st.sd));exact(aP 0x8a8058a9420ac1426) cp
  .intro b hb h;refine(?_:aT (aw (putD _ _ _) i) b=true);rw[KC];rw[(T1 b ((aB 457491327877254) hb) ((aB 0xb2600160086) hb)).1];rw[h];simp
  .intro h;refine(?_:aw (putD _ _ _) i=3);rw[KC];exact T6 h
  .exact fun t h=>SK t h
theorem aV.Cj(I:aV K tm pf P X bB sl st){i s:Nat}(h1:1<=i)(h2:i<st.B.length)(h3:(nd st.B i).op≠2)(hs:1<=s/\s<=3)(hp:pf=true->s=3):
  aV K tm pf P X bB sl (hY st i s)/\Mv st (hY st i s)/\(∀b,(b=1\/b=2)->aT s b=true->aT (aw (hY st i s).sd i) b=true)/\i∈(hY st i s).vs:=by
 obtain⟨J,m1,hi,iF⟩:=I.yQ h1 h2 h3;clear h3 h2 h1;obtain⟨J',m2,hb,YB,SM,VM⟩:=J.E0 hi hs;refine⟨⟨J'.good,J'.oG,J'.pL,J'.xq,J'.tH,J'.wt,J'.aS,J'.oi,J'.snd,J'.yO,J'.cnt,fun VN t ht=>?_,J'.iJ,J'.tJ,J'.cQ⟩,m1.trans m2,hb,by refine(?_:i∈(dN _ _ _).vs);rw[VM];exact hi⟩
 have ht:t∈(dN (bL st i) i s).vs:=ht;rw[VM]at ht;refine(?_:aw (dN (bL st i) i s).sd t=3);by_cases q:t=i
 .subst q;exact YB (hp VN)
 .rw[SM t q];exact iF VN t ht q
noncomputable def Ck(st:St)(c:List Int)(nt:V):St:={st with cs:=st.cs++[c],cQ:=st.cQ++[nt]}
theorem aV.E3(I:aV K tm pf P X bB (sl+1) st){c:List Int}{nt:V}{e:Int}(h1:c.Pairwise (fun a b=>a.natAbs<b.natAbs))(h2:c.length<64)(h3:∀l∈c,l≠0/\l.natAbs<=st.vs.length)(h4:∀row,P row->hU (star st.B st.vs row) c):
  aV K tm pf P X bB sl {Ck st c nt with KA:=e}/\Mv st {Ck st c nt with KA:=e}:=by
 have m:jW st.B st.B st.vs st.vs st.sd st.sd:=⟨I.good,I.good,cG.refl _,⟨[],(zDp _).symm⟩,fun _ _ _ h=>h⟩;refine⟨⟨I.good,I.oG,I.pL,I.xq,I.tH,I.wt,I.aS,fun d hd=>?_,fun row hr d hd=>?_,fun t b hb cj=>?_,?_,I.oH,I.iJ,I.tJ,?_⟩,⟨m,⟨[c],rfl⟩,zAq _,rfl,⟨[],by simp[Ck]⟩⟩⟩
 .clear h4;rcases zAu.mp hd with hd |hd
  .exact I.oi d hd
  .simp at hd;subst hd;exact⟨h1,h2,h3⟩
 .clear h3 h2 h1;rcases zAu.mp hd with hd |hd
  .exact I.snd row hr d hd
  .simp at hd;subst hd;exact h4 row hr
 .rcases I.yO t b hb cj with h |h |h |h
  .exact .inl h
  .exact .inr (.inl h)
  .exact .inr (.inr (.inl (h.mono m (fun d h=>zEe _ h:∀d∈st.cs,d∈st.cs++[c]) (I.vF hb cj))))
  .exact .inr (.inr (.inr h))
 .have:=I.cnt;refine(?_:(st.cs++[c]).length+4*st.pend+sl<=4*cv st.sd+bB);simp;exact(rN 0x20c9da0824eac14a508832768b15024e829426) this
 .have:=I.cQ;refine(?_:(st.cQ++[nt]).length=(st.cs++[c]).length);simp;exact(aD 134225926) this
theorem aV.weak{SN:Nat}(I:aV K tm pf P X bB sl st)(h:SN<=sl):aV K tm pf P X bB SN st:=
 ⟨I.good,I.oG,I.pL,I.xq,I.tH,I.wt,I.aS,I.oi,I.snd,I.yO,by have:=I.cnt;exact(ur 0xa427680193a2a508a427681193a2a50982026) h this,I.oH,I.iJ,I.tJ,I.cQ⟩
theorem aV.aM(I:aV K tm pf P X bB sl st){B':List Nd}(g':Good B')(gr:cG st.B B')(iJ:Dr K tm B'):aV K tm pf P X bB sl {st with B:=B'}/\Mv st {st with B:=B'}:=by
 have m:jW st.B B' st.vs st.vs st.sd st.sd:=⟨I.good,g',gr,⟨[],(zDp _).symm⟩,fun _ _ _ h=>h⟩;have hl:=gr.len;refine⟨⟨g',I.oG,fun t ht=>?_,I.xq,I.tH,I.wt,I.aS,I.oi,fun row hr c hc=>?_,fun t b hb cj=>?_,I.cnt,I.oH,iJ,I.tJ,I.cQ⟩,⟨m,⟨[],by simp⟩,zAq _,rfl,⟨[],by simp⟩⟩⟩
 .obtain⟨a1,a2,a3⟩:=I.pL t ht;exact⟨a1,by refine(?_:t<B'.length);exact(aP 37452254814246) hl a2,by refine(?_:(nd B' t).op≠2);rw[gr.nd a2];exact a3⟩
 .obtain⟨l,hl,e⟩:=I.snd row hr c hc;obtain⟨l0,l1⟩:=(I.oi c hc).2.2 l hl;refine⟨l,hl,?_⟩;have:=tG I.good g' gr (fun t ht=>(I.pL t ht).2.1) [] row (v:=l.natAbs) ((jy 56582472598) l0) l1;rw[zDp]at this;unfold eY at e⊢;refine(?_:(if 0<l then star B' st.vs row l.natAbs else !star B' st.vs row l.natAbs)=true)
  rw[this];exact e
 .have ht:=I.vF hb cj;rcases I.yO t b hb cj with h |h |h |h
  .exact .inl h
  .exact .inr (.inl (by refine(?_:(nd B' t).op=10);rw[gr.nd ht];exact h))
  .exact .inr (.inr (.inl (h.mono m (fun _ h=>h) ht)))
  .exact .inr (.inr (.inr h))
theorem Dr.newEq{B B':List Nd}(g:Good B)(h:Dr K tm B){t:Nat}(ht:t<B.length)(ne:fD B B' t):Dr K tm B':=by
 obtain⟨l,rfl,_,hl⟩:=ne;refine⟨by have:=h.1;simp;exact(aP 0xa81210499a026) ‹_› this,fun k hk=>?_⟩
 rw[zGi h.1]at hk;rcases zAu.mp hk with hk |hk
 .exact h.2 k hk
 .obtain⟨h9,x,y,hx,hy,rfl⟩:=hl k hk
  have tK:t<K:=by
   apply Nat.lt_of_not_le;intro q
   have hm:nd B t∈B.drop K:=by
    refine zFr (i:=t-K) ?_;rw[List.getElem?_drop];rw[show K+(t-K)=t by exact(aD 0x803505002026) q]
    simp[nd,List.getD,ht]
   rcases h.2 _ hm with e |⟨_,_,_,_,e⟩<;>rw[e]at h9<;>simp at h9
  have:=g.args hx;have:=g.args hy;exact .inr ⟨x,y,(aP 0x88402112c9d82016) tK ‹_›,(aP 0x88402112c9d82016) tK this,rfl⟩
theorem aV.pop(I:aV K tm pf P (fun _ _=>False) bB 0 st){t s:Nat}(h:st.wait[st.aS]?=some (t,s)):
  aV K tm pf P (fun t' b=>t'=t/\aT s b=true) bB 4 {st with aS:=st.aS+1}:=by
 have cE:=(zCy.mp h).1
 have ed:st.wait.drop st.aS=(t,s)::st.wait.drop (st.aS+1):=by rw[List.drop_eq_getElem_cons cE];congr 1;have:=(zCy.mp h).2;exact this
 refine⟨I.good,I.oG,I.pL,I.xq,I.tH,I.wt,cE,I.oi,I.snd,fun t' b hb cj=>?_,?_,I.oH,I.iJ,I.tJ,I.cQ⟩
 .rcases I.yO t' b hb cj with⟨p,hp,h1,h2⟩ |h |h |h
  .rw[ed]at hp;rcases zAy.mp hp with rfl |hp
   .exact .inr (.inr (.inr ⟨h1.symm,h2⟩))
   .exact .inl ⟨p,hp,h1,h2⟩
  .exact .inr (.inl h)
  .exact .inr (.inr (.inl h))
  .exact h.elim
 .have:=I.cnt;unfold St.pend at this⊢;refine(?_:st.cs.length+4*(st.wait.length-(st.aS+1))+4<=4*cv st.sd+bB);exact(rN 0x20c9da3960a06a4e8a94220c9da2801a93a2a50982016) cE this
theorem aV.done{t s:Nat}(I:aV K tm pf P (fun t' b=>t'=t/\aT s b=true) bB sl st)(h:(nd st.B t).op=10\/∀b,(b=1\/b=2)->aT s b=true->fY st.B st.vs st.sd st.cs t b):aV K tm pf P (fun _ _=>False) bB 0 st:=by
 refine⟨I.good,I.oG,I.pL,I.xq,I.tH,I.wt,I.aS,I.oi,I.snd,fun t' b hb cj=>?_,by have:=I.cnt;exact(rN 0x20c9da2824e8294220c9da0824e829426) this,I.oH,I.iJ,I.tJ,I.cQ⟩
 rcases I.yO t' b hb cj with h' |h' |h' |⟨rfl,h'⟩
 .exact .inl h'
 .exact .inr (.inl h')
 .exact .inr (.inr (.inl h'))
 .rcases h with h |h
  .exact .inr (.inl h)
  .exact .inr (.inr (.inl (h b hb h')))
theorem aV.clear(I:aV K tm pf P (fun _ _=>False) bB sl st)(h:st.wait.length<=st.aS):aV K tm pf P (fun _ _=>False) bB sl {st with wait:=[],aS:=0}:=by
 refine⟨I.good,I.oG,I.pL,I.xq,I.tH,(by simp),(zAq _),I.oi,I.snd,fun t' b hb cj=>?_,?_,I.oH,I.iJ,I.tJ,I.cQ⟩
 .rcases I.yO t' b hb cj with⟨p,hp,_⟩ |h' |h' |h'
  .rw[List.drop_eq_nil_of_le h]at hp;cases hp
  .exact .inr (.inl h')
  .exact .inr (.inr (.inl h'))
  .exact h'.elim
 .have:=I.cnt;refine(?_:st.cs.length+4*(0-0)+sl<=4*cv st.sd+bB);exact(rN 0x832768252aa4e8294220c9da0824e829426) this
end
noncomputable def fF:List Int->List Int->Option (List Int)
 |k,[]=>some k
 |k,l::ls=>if -l∈k then none else fF (if l∈k then k else k++[l]) ls
theorem vG(k:List Int)(l:Int)(ls:List Int):fF k (l::ls)=if -l∈k then none else fF (if l∈k then k else k++[l]) ls:=rfl
set_option tactic.hygienic true in
theorem vH:∀(ls k:List Int),fF k ls=none->∃l∈ls,-l∈k\/-l∈ls:=by
 intro zl
 induction zl with
 |nil=>
  rintro k h;exact sn h.symm rfl
 |cons l ls ih=>
  rintro k h;have h:(if -l∈k then none else fF (if l∈k then k else k++[l]) ls)=none:=h
  split at h
  .rename_i q;exact⟨l,.head _,.inl q⟩
  .obtain⟨l',h1,h2⟩:=ih _ h;rcases h2 with h2 |h2
   .split at h2
    .exact⟨l',.tail _ h1,.inl h2⟩
    .rcases zAu.mp h2 with h2 |h2
     .exact⟨l',.tail _ h1,.inl h2⟩
     .simp at h2;exact⟨l',.tail _ h1,.inr (by rw[h2];exact .head _)⟩
   .exact⟨l',.tail _ h1,.inr (.tail _ h2)⟩
set_option tactic.hygienic true in
theorem vI:∀(ls k ks:List Int),fF k ls=some ks->(∀l∈ls,l≠0)->(∀l∈k,l≠0/\-l∉k)->k.Nodup->(∀l,l∈ks↔l∈k\/l∈ls)/\(∀l∈ks,l≠0/\-l∉ks)/\ks.Nodup/\ks.length<=k.length+ls.length:=by
 intro zl
 induction zl with
 |nil=>
  rintro k ks h _ hk hn;cases (show some k=some ks from h)
  exact⟨by simp,hk,hn,by simp⟩
 |cons l ls ih=>
  rintro k ks h h0 hk hn;have h:(if -l∈k then none else fF (if l∈k then k else k++[l]) ls)=some ks:=h
  split at h
  .exact sn h rfl
  .rename_i q
   by_cases q':l∈k
   .rw[zBq q']at h;clear q;obtain⟨a1,a2,a3,a4⟩:=ih k ks h (fun x hx=>h0 x (.tail _ hx)) hk hn;refine⟨fun x=>?_,a2,a3,by simp;exact(aP 0x162a068021068026) a4⟩
    rw[a1];rw[zAy];constructor
    .rintro(h |h)
     .exact .inl h
     .exact .inr (.inr h)
    .rintro(h |rfl |h)
     .exact .inl h
     .exact .inl q'
     .exact .inr h
   .rw[zAi q']at h;have l0:=h0 l (.head _)
    have p4:∀x∈k++[l],x≠0/\-x∉k++[l]:=fun x hx=>by
     clear q' h h0;rcases zAu.mp hx with hx |hx
     .refine⟨(hk x hx).1,fun hm=>?_⟩;rcases zAu.mp hm with hm |hm
      .exact(hk x hx).2 hm
      .simp at hm;apply q;rw[←hm];rw[neg_neg];exact hx
     .simp at hx;subst hx;refine⟨l0,fun hm=>?_⟩;rcases zAu.mp hm with hm |hm
      .exact q hm
      .simp at hm;exact(jy 351869718496150) l0 hm
    have zh:(k++[l]).Nodup:=by
     refine zCi.mpr ⟨hn,by simp,?_⟩
     intro a ha b hb e;simp only[mem_singleton]at hb;rw[e,hb]at ha;exact q' ha
    obtain⟨a1,a2,a3,a4⟩:=ih _ ks h (fun x hx=>h0 x (.tail _ hx)) p4 zh;refine⟨fun x=>?_,a2,a3,by simp at a4⊢;exact(aP 0x58a81a0084b0d28026) a4⟩
    rw[a1];rw[zAu];rw[mem_singleton];rw[zAy];rw[or_assoc]
theorem q5{ks:List Int}(h:∀l∈ks,l≠0/\-l∉ks)(hn:ks.Nodup):(ks.map natAbs).Nodup:=by
 unfold Nodup;rw[pairwise_map];refine List.Pairwise.imp_of_mem ?_ hn;intro a b ha hb el e;have:a=b\/a= -b:=(uq 0x1c00c20380e81a06) e;rcases this with r |r
 .exact el r
 .exact(h b hb).2 (by rw[←r];exact ha)
structure Jm(ls c:List Int):Prop where
 mem:∀l,l∈c↔l∈ls
 sorted:c.Pairwise (fun a b=>a.natAbs<b.natAbs)
 len:c.length<=ls.length
theorem Cm{ls ks:List Int}(h:fF [] ls=some ks)(h0:∀l∈ls,l≠0):(ks.map natAbs).Nodup/\ks.length<=ls.length/\Jm ls (bJ ks):=by
 obtain⟨a1,a2,a3,a4⟩:=vI ls [] ks h h0 (by decide) (by simp)
 have hn:=q5 a2 a3;have hp:=fX ks;refine⟨hn,by simpa using a4,fun l=>by rw[hp.mem_iff];rw[a1];simp,?_,by rw[hp.length_eq];simpa using a4⟩
 have h1:=gU ks;have h2:((bJ ks).map natAbs).Nodup:=(hp.map _).nodup_iff.mpr hn;unfold Nodup at h2;rw[pairwise_map]at h2;exact(h1.and h2).imp fun⟨a,b⟩=>by exact Nat.lt_of_le_of_ne a b
noncomputable def eT(k:List Int):List (Int×V):=k.map fun l=>(l,.bool true)
theorem Cn(k:List Int)(l:Int):(eT k).any (fun p=>p.1==l)=decide (l∈k):=by rw[Bool.eq_iff_iff];simp[eT,any_map,any_eq_true]
theorem tM(l:Int):∀k:List Int,putD l (.bool true) (eT k)=eT (if l∈k then k else k++[l])
 |[]=>rfl
 |x::k=>by
  have ih:=tM l k;by_cases q:x=l
  .clear ih;subst q;simp[eT,aO]
  .have q':¬l=x:=fun e=>q e.symm;simp only[eT,map_cons,aO,q,if_false,mem_cons,q',false_or];simp only[eT]at ih;rw[ih];split<;>exact rfl
section
variable {c:Cy} {n:Nat} {L:Rl->Nat} {B:List Nd} {H:Z} {Q:V->Z->Prop}
theorem vJ(O:cz c)(hn:1<=n)(i:Int)(H':Z):aA c 0 n [.int i] H' fun v ak=>v= .tup [.int i.natAbs,.bool (decide (0<i))]/\ak=H':=by have ag:=aJ;refine aF O hn rfl ?_;exact⟨rfl,rfl⟩
variable (H) in
inductive TJ(x:V)(ls:List Int)(r:Nat)(l:List V)(ρ:aH)(H':Z):Prop
 |mk (Ds k:List Int) (u:Option V) (h0:l=Ds.map .int) (h1:fF k Ds=fF [] ls) (h2:ρ=[some x,some (.ref r),u,none]) (h3:H' r=some (.ax (eT k))) (h4:Le H H') (h5:k.length+Ds.length<=ls.length)
theorem w_tidy(O:cz c)(hn:3<=n){x:V}{ls:List Int}(hx:nE H x (ls.map .int))(hl:ls.length<64)(h0:∀l∈ls,l≠0)
  (h1:fF [] ls=none->∀H',Le H H'->Q .none H') (h2:∀ks,fF [] ls=some ks->∀H',Le H H'->Q (.tup ((bJ ks).map .int)) H'):aA c 1 n [x] H Q:=by
 obtain⟨m,rfl⟩:∃m,n=m+3:=⟨n-3,by exact(aB 0x6b415a0000d26) hn⟩
 have ag:=aJ;refine GH (m:=m+2) O rfl ?_;simp;intro r hr;obtain⟨g,hi,hg⟩:=hx _ (Le.fresh hr);refine cI hi (TJ H x ls r) ?_ ⟨ls,[],none,rfl,rfl,rfl,Z.ab _ _ _,Le.fresh hr,by simp⟩ ?_ ?_
 .rintro l ρ H' ⟨Ds,k,u,rfl,hk,rfl,e,le,hlen⟩;exact hg _ le
 .rintro v l ρ H' K ⟨Ds,k,u,e0,hk,rfl,e,le,hlen⟩ kk;cases Ds with
  |nil=>cases e0
  |cons l0 Ds=>
   simp only[map_cons,List.cons.injEq]at e0;obtain⟨rfl,rfl⟩:=e0;rw[vG]at hk;simp[e,Cn];by_cases q: -l0∈k
   .rw[zBq q]at hk;simp[q];exact h1 hk.symm H' le
   .rw[zAi q]at hk;have b1:(eT k).length<lim:=by simp[eT];exact(dq 0x88403150981e8481c08300001038016) hl ag hlen
    simp[q,e,b1];refine kk _ _ ⟨Ds,_,_,rfl,hk,rfl,by rw[Z.ab];rw[tM],le.set (.inl hr),?_⟩
    simp at hlen;split
    .exact(aP 0x4105084b0d01426) hlen
    .simp;exact(aP 0x10560a5084b0d01426) hlen
 .rintro ρ H' ⟨Ds,k,u,e0,hk,rfl,e,le,hlen⟩;have:Ds=[]:=by simpa using e0.symm
  clear hlen e0;subst this;simp only[fF]at hk;obtain⟨n1,n2,n3⟩:=Cm hk.symm h0;have e2:(eT k).map (fun q=>q.1.natAbs)=k.map natAbs:=by simp[eT,Function.comp_def]
  have e3:(eT k).map (·.1)=k:=by simp[eT,Function.comp_def]
  have e4:(eT k).length=k.length:=zCe _;have b2:(bJ k).length<=1000000:=by have:=n3.len;exact(aD 0x7a1207024009300001038016) hl this
  simp[e,e2,e3,e4,n1];refine⟨fun i H'=>vJ O (by exact(aB 0x5828b26828d26) hn) i H',by exact(aP 0x81c088440c009300001038016) hl n2 e4,fun r' oh=>?_⟩
  simp[ag,b2];exact h2 k hk.symm _ (le.set (.inl (le.none oh fun h=>h)))
end
noncomputable def gh(i:Nat):List Nat->List (Int×V)
 |[]=>[]
 |t::l=>((t:Int),ae i)::gh (i+1) l
noncomputable def yR(sd:List (Nat×Nat)):List (Int×V):=sd.map fun p=>((p.1:Int),ae p.2)
noncomputable def Dt(w:List (Nat×Nat)):List V:=w.map fun p=>.tup [ae p.1,ae p.2]
noncomputable def gz(cs:List (List Int)):List V:=cs.map fun c=>.tup (c.map .int)
noncomputable def xt(pf:Bool)(n:Nat):List V:=if pf then(List.range n).map ae else replicate n .none
noncomputable def Co(cs:List (List Int))(ns:List V):List V:=List.zipWith (fun c nt=>.tup [.str 16,.tup (c.map .int),.tup [],nt]) cs ns
noncomputable def Cp(l:List Nat):List (Int×V):=l.map fun(t:Nat)=>((t:Int),.bool true)
noncomputable def yS(pf:Bool)(L:Rl->Nat):V:=if pf then .ref (L .pI) else .none
noncomputable def yT(L:Rl->Nat)(pf:Bool)(st:St):List (Nat×V):=[(5,.ref (L .kI)),(6,.ref (L .tI)),(7,yS pf L),(8,.ref (L .mv)),(9,.ref (L .mt)),(10,.ref (L .ms)),(11,.ref (L .mo)),(12,.ref (L .mw)),(13,ae st.aS)]
noncomputable def E4(L:Rl->Nat)(st:St):List (Nat×V):=[(3,ae st.vs.length),(4,.ref (L .iL)),(0,.ref (L .gu))]
noncomputable def NF(L:Rl->Nat)(st:St):List (Nat×V):=[(0,.ref (L .lO)),(1,.ref (L .oE)),(2,.int st.KA)]
@[local simp] theorem mf5 {L:Rl->Nat} {pf:Bool} {st:St}:aj 5 (yT L pf st)=some (.ref (L .kI)):=rfl
@[local simp] theorem mf6 {L:Rl->Nat} {pf:Bool} {st:St}:aj 6 (yT L pf st)=some (.ref (L .tI)):=rfl
@[local simp] theorem mf7 {L:Rl->Nat} {pf:Bool} {st:St}:aj 7 (yT L pf st)=some (yS pf L):=rfl
@[local simp] theorem mf8 {L:Rl->Nat} {pf:Bool} {st:St}:aj 8 (yT L pf st)=some (.ref (L .mv)):=rfl
@[local simp] theorem mf9 {L:Rl->Nat} {pf:Bool} {st:St}:aj 9 (yT L pf st)=some (.ref (L .mt)):=rfl
@[local simp] theorem YC {L:Rl->Nat} {pf:Bool} {st:St}:aj 10 (yT L pf st)=some (.ref (L .ms)):=rfl
@[local simp] theorem YD {L:Rl->Nat} {pf:Bool} {st:St}:aj 11 (yT L pf st)=some (.ref (L .mo)):=rfl
@[local simp] theorem YE {L:Rl->Nat} {pf:Bool} {st:St}:aj 12 (yT L pf st)=some (.ref (L .mw)):=rfl
@[local simp] theorem YF {L:Rl->Nat} {pf:Bool} {st:St}:aj 13 (yT L pf st)=some (ae st.aS):=rfl
@[local simp] theorem tf3 {L:Rl->Nat} {st:St}:aj 3 (E4 L st)=some (ae st.vs.length):=rfl
@[local simp] theorem tf4 {L:Rl->Nat} {st:St}:aj 4 (E4 L st)=some (.ref (L .iL)):=rfl
@[local simp] theorem tf0 {L:Rl->Nat} {st:St}:aj 0 (E4 L st)=some (.ref (L .gu)):=rfl
@[local simp] theorem pf0 {L:Rl->Nat} {st:St}:aj 0 (NF L st)=some (.ref (L .lO)):=rfl
@[local simp] theorem pf1 {L:Rl->Nat} {st:St}:aj 1 (NF L st)=some (.ref (L .oE)):=rfl
@[local simp] theorem pf2 {L:Rl->Nat} {st:St}:aj 2 (NF L st)=some (.int st.KA):=rfl
noncomputable def obj(L:Rl->Nat)(pf:Bool)(st:St):Rl->Option aN
 | .tI=>some (.inst .store (E4 L st))
 | .iL=>some (.list (gz st.cs))
 | .gu=>some (.list (xt pf st.cs.length))
 | .mI=>some (.inst .maker (yT L pf st))
 | .mv=>some (.ax (gh 1 st.vs))
 | .mt=>some (.list (.int 0::st.vs.map ae))
 | .ms=>some (.ax (yR st.sd))
 | .mo=>some (.ax (Cp st.op))
 | .mw=>some (.list (Dt st.wait))
 | .pI=>if pf then some (.inst (.proof ()) (NF L st)) else none
 | .lO=>if pf then some (.list (Co st.cs st.cQ)) else none
 | .oE=>if pf then some (.list (.int 0::st.vs.map ae)) else none
 |_=>none
theorem GS{L:Rl->Nat}{pf:Bool}{st:St}{B':List Nd}(r:Rl):obj L pf {st with B:=B'} r=obj L pf st r:=by cases r<;>rfl
structure Rep(L:Rl->Nat)(pf:Bool)(st:St)(H:Z):Prop where
 aM:av L st.B H
 at':∀r o,obj L pf st r=some o->H (L r)=some o
noncomputable def Cq:Rl->Bool
 | .pI=>true
 | .lO=>true
 | .oE=>true
 |_=>false
noncomputable def xu:Rl->Bool
 | .fn=>true
 | .fa=>true
 | .fr=>true
 |_=>false
def RM(L:Rl->Nat)(pf:Bool)(b:Nat):Prop:=∃r,L r=b/\(Cq r=true->pf=true)/\xu r=false
section
variable {L:Rl->Nat} {pf:Bool} {st st':St} {H H':Z}
theorem Rep.tI(R:Rep L pf st H):H (L .tI)=some (.inst .store (E4 L st)):=R.at' _ _ rfl
theorem Rep.iL(R:Rep L pf st H):H (L .iL)=some (.list (gz st.cs)):=R.at' _ _ rfl
theorem Rep.gu(R:Rep L pf st H):H (L .gu)=some (.list (xt pf st.cs.length)):=R.at' _ _ rfl
theorem Rep.mI(R:Rep L pf st H):H (L .mI)=some (.inst .maker (yT L pf st)):=R.at' _ _ rfl
theorem Rep.mv(R:Rep L pf st H):H (L .mv)=some (.ax (gh 1 st.vs)):=R.at' _ _ rfl
theorem Rep.mt(R:Rep L pf st H):H (L .mt)=some (.list (.int 0::st.vs.map ae)):=R.at' _ _ rfl
theorem Rep.ms(R:Rep L pf st H):H (L .ms)=some (.ax (yR st.sd)):=R.at' _ _ rfl
theorem Rep.mo(R:Rep L pf st H):H (L .mo)=some (.ax (Cp st.op)):=R.at' _ _ rfl
theorem Rep.mw(R:Rep L pf st H):H (L .mw)=some (.list (Dt st.wait)):=R.at' _ _ rfl
theorem Rep.pI(R:Rep L true st H):H (L .pI)=some (.inst (.proof ()) (NF L st)):=R.at' _ _ rfl
theorem Rep.lO(R:Rep L true st H):H (L .lO)=some (.list (Co st.cs st.cQ)):=R.at' _ _ rfl
theorem Rep.oE(R:Rep L true st H):H (L .oE)=some (.list (.int 0::st.vs.map ae)):=R.at' _ _ rfl
theorem Rep.set(R:Rep L pf st H){r:Rl}{o:aN}(hB:st'.B=st.B)(hr:og r=false)(ho:obj L pf st' r=some o)(h:∀r',r'≠r->obj L pf st' r'=obj L pf st r'):Rep L pf st' (H.set (L r) o):=by
 have ne:∀r',r'≠r->L r'≠L r:=fun r' h e=>h ((R.aM.inj _ _).mp e);refine⟨by rw[hB];exact R.aM.keep fun r' oh=>Z.af _ _ (ne r' (by clear ne h ho;rintro rfl;rw[hr]at oh;exact ft rfl oh)),fun r' o' h'=>?_⟩
 by_cases q:r'=r
 .clear ne h hr;subst q;rw[ho]at h';obtain rfl:=so h';exact Z.ab _ _ _
 .rw[Z.af _ _ (ne r' q)];exact R.at' _ _ (by rw[←h r' q];exact h')
structure jr(L:Rl->Nat)(B:List Nd)(φ:Rl->Option aN)(H:Z):Prop where
 aM:av L B H
 at':∀r o,φ r=some o->H (L r)=some o
noncomputable def Du(φ:Rl->Option aN)(r:Rl)(o:aN):Rl->Option aN:=fun r'=>if r'=r then some o else φ r'
theorem Rep.ro(R:Rep L pf st H):jr L st.B (obj L pf st) H:=⟨R.aM,R.at'⟩
theorem jr.set{B:List Nd}{φ:Rl->Option aN}(R:jr L B φ H){r:Rl}{o:aN}(hr:og r=false):jr L B (Du φ r o) (H.set (L r) o):=by
 have ne:∀r',r'≠r->L r'≠L r:=fun r' h e=>h ((R.aM.inj _ _).mp e);refine⟨R.aM.keep fun r' oh=>Z.af _ _ (ne r' (by rintro rfl;rw[hr]at oh;exact ft rfl oh)),fun r' o' h'=>?_⟩
 unfold Du at h';by_cases q:r'=r
 .rw[zBq q]at h';rw[q];rw[←h'];exact Z.ab _ _ _
 .rw[zAi q]at h';rw[Z.af _ _ (ne r' q)];exact R.at' _ _ h'
theorem jr.rep{φ:Rl->Option aN}(R:jr L st'.B φ H)(h:∀r o,obj L pf st' r=some o->φ r=some o):Rep L pf st' H:=⟨R.aM,fun r o e=>R.at' r o (h r o e)⟩
theorem Rep.live(R:Rep L pf st H){r:Rl}{o:aN}(h:obj L pf st r=some o):H (L r)≠none:=by rw[R.at' r o h];simp
theorem Rep.le(R:Rep L pf st H)(k:Le H H'):Rep L pf st H':=⟨R.aM.le k,fun r o h=>k.at (R.at' r o h) fun h=>h⟩
theorem KE{a b:Bool}(h:(a&&b)=false)(e:a=true):b=false:=by rw[e]at h;exact h
theorem YG(r:Rl):(og r&&(Cq r||xu r))=false:=by cases r<;>rfl
theorem YH(r:Rl):(og r&&(obj L pf st r).isSome)=false:=by cases r<;>rfl
theorem YI(r:Rl):(og r||(xu r||((Cq r&&!pf)||(obj L pf st r).isSome)))=true:=by cases pf<;>cases r<;>rfl
theorem Rep.Cr(R:Rep L pf st H){B':List Nd}(X:av L B' H')(k:Kp (RB L) H H'):Rep L pf {st with B:=B'} H':=by refine⟨X,fun r o h=>?_⟩;have h':obj L pf st r=some o:=(GS r).symm.trans h;refine k.at (R.at' r o h') ?_;clear h;rintro⟨r',h1,h2⟩;obtain rfl:=(R.aM.inj _ _).mp h2;have:=KE (YH (L:=L) (pf:=pf) (st:=st) r') h1;rw[h']at this;cases this
theorem NG{b:Nat}(h:RB L b):RM L pf b:=by obtain⟨r,h1,h2⟩:=h;obtain⟨a,b⟩:=Bool.or_eq_false_iff.mp (KE (YG r) h1);exact⟨r,h2,fun h=>absurd (a.symm.trans h) nofun,b⟩
theorem Kp.role{r:Rl}{o:aN}{fL:Z}(k:Kp (RM L pf) fL H)(h:Cq r=true->pf=true)(hf:xu r=false:=by rfl):Kp (RM L pf) fL (H.set (L r) o):=k.set (.inr ⟨r,rfl,h,hf⟩)
theorem Kp.iN{r:Rl}{o:aN}{fL:Z}(k:Kp (RM L pf) fL H)(h:Cq r=false)(hf:xu r=false:=by rfl):Kp (RM L pf) fL (H.set (L r) o):=k.role (fun e=>by rw[h]at e;exact ft rfl e) hf
theorem GU(hi:∀r r',L r=L r'↔r=r'){r:Rl}(h:xu r=true\/(Cq r=true/\pf=false)):¬RM L pf (L r):=fun⟨q,e,h1,h2⟩=>by
 rw[(hi _ _).mp e]at h1 h2;rcases h with h |⟨h3,h4⟩
 .rw[h]at h2;cases h2
 .rw[h1 h3]at h4;cases h4
theorem NH(r:Rl){P:Prop}(L:Rl->Nat)(pf:Bool)(st:St)(h1:og r=true->P)(h2:xu r=true\/(Cq r=true/\pf=false)->P)(h3:∀o,obj L pf st r=some o->P):P:=by
 rcases zEo.mp (YI (L:=L) (pf:=pf) (st:=st) r) with h |h
 .exact h1 h
 rcases zEo.mp h with h |h
 .exact h2 (.inl h)
 rcases zEo.mp h with h |h
 .exact h2 (.inr (by simpa using h))
 .exact(zAp.mp h).elim h3
theorem Rep.alive(R:Rep L pf st H')(k:Kp (RM L pf) H H')(hl:∀r,H (L r)≠none)(r:Rl):H' (L r)≠none:=
 NH r L pf st R.aM.live (fun h=>by rw[k _ (hl r) (GU R.aM.inj h)];exact hl r) fun _=>R.live
theorem Le.kp{S:Nat->Prop}(k:Le H H'):Kp S H H':=k.weaken fun _ h=>h.elim
theorem Cs{cs:List (List Int)}{ns:List V}(h:ns.length=cs.length)(c:List Int)(nt:V):Co (cs++[c]) (ns++[nt])=Co cs ns++[.tup [.str 16,.tup (c.map .int),.tup [],nt]]:=by unfold Co;rw[List.zipWith_append h.symm];rfl
theorem E5{cs:List (List Int)}{ns:List V}(h:ns.length=cs.length):(Co cs ns).length=cs.length:=by unfold Co;simp[h]
theorem Ct{n:Nat}:xt pf (n+1)=xt pf n++[if pf then ae n else .none]:=by
 cases pf
 .simp[xt,List.replicate_succ']
 .simp[xt,range_succ]
theorem E6{n:Nat}:(xt pf n).length=n:=by cases pf<;>simp[xt]
theorem jY{cs:List (List Int)}:(gz cs).length=cs.length:=zCe _
end
section
variable {c:Cy} {n:Nat} {L:Rl->Nat} {H:Z} {Q:V->Z->Prop} {pf:Bool} {st:St}
theorem nJ{l:List V}{p:Int}{j:Nat}{v:V}(hp:p=(j:Int))(h:l[j]?=some v)(hj:j<1000):jF Q (.tup l) (.int p) H=Q v H:=by subst hp;have ag:=aJ;rw[lI];rw[zBq (by exact(aD 0x1c83280ca95c1e8481c0830000fa38016) hj ag)];rw[Int.toNat_natCast];rw[h];rfl
theorem yU(O:cz c)(hn:1<=n){d:List Int}(h1:d.Pairwise (fun a b=>a.natAbs<b.natAbs))(h2:d.length<64)(h3:∀l∈d,l≠0)(h:Q (.bool true) H):aA c 2 n [.tup (d.map .int)] H Q:=by
 have ag:=aJ;have b1:d.length<=lim:=BK h2 rfl;refine aF O hn rfl ?_;simp[b1]
 have hi:iter H .range (.int (d.length:Nat))=some ((List.range d.length).map fun i=>V.int (i:Nat),fun _=>True):=by
  have hb:(0:Int)<=(d.length:Int)/\(d.length:Int)<=(lim:Int):=by exact(aD 0x720ca832a57080981e8481c08300001038016) h2 ag b1
  exact(eO hb).trans (by rw[Int.toNat_natCast])
 refine cI hi (fun l ρ H'=>H'=H/\∃(is:List Nat) (u:Option V),l=is.map ae/\(∀i∈is,i<d.length)/\ρ=[some (.tup (d.map .int)),u,none]) (fun _ _ _ _=>trivial) ⟨rfl,List.range d.length,none,rfl,fun i h=>List.mem_range.mp h,rfl⟩ ?_ ?_
 .clear hi h;rintro v l ρ H' K ⟨rfl,is,u,e0,hb,rfl⟩ kk;cases is with
  |nil=>cases e0
  |cons i is=>
   simp only[map_cons,List.cons.injEq]at e0;obtain⟨rfl,rfl⟩:=e0;have hi:=hb i (.head _);have k':=kk [some (.tup (d.map .int)),some (.int i),none] H' ⟨rfl,is,_,rfl,fun j hj=>hb j (.tail _ hj),rfl⟩;clear hb;cases i with
   |zero=>
    have e1:d[0]?=some d[0]:=zAe hi;have e2:(d[0]==0)=false:=by have:=h3 d[0] (zEq _);simpa using this
    have b2:(0:Int)<lim:=by exact(aB 0x195203d09038006) ag
    simp[b2,e1,e2];exact k'
   |succ j=>
    have s1:∀(Q:EQ) (H:Z),jF Q (.tup (d.map .int)) (.int ((j+1:Nat):Int)) H=Q (.int d[j+1]) H:=fun Q H=>nJ (j:=j+1) rfl (by rw[zHw];rw[zAe hi];rfl) (by exact(aD 0x1f47161a08161a0b00001038016) h2 hi)
    have s2:∀(Q:EQ) (H:Z),jF Q (.tup (d.map .int)) (.int (((j+1:Nat):Int)-1)) H=Q (.int (d[j]'(zHq hi))) H:=fun Q H=>nJ (j:=j) (by exact aB 435587199827) (by rw[zHw];rw[zAe (by exact(aD 137718666262) hi)];rfl) (by exact(aD 0x7d1c088161a0b00001038016) h2 hi)
    have e2:(d[j+1]==0)=false:=by have:=h3 d[j+1] (zEq _);simpa using this
    have b5:(0:Int)<((j+1:Nat):Int):=by exact aB 184890020
    have e5:¬(d[j+1].natAbs<=(d[j]'(zHq hi)).natAbs):=by
     have:=List.pairwise_iff_getElem.mp h1 j (j+1) (by exact(aD 137718666262) hi) hi (by exact aB 5777409)
     exact(JZ 0x683a290e81a160ac1416) hi this
    dsimp only[ae]at k'⊢;generalize d[j+1]=x at s1 e2 e5;generalize d[j]'(zHq hi)=y at s2 e5;generalize ((j+1:Nat):Int)=p at s1 s2 b5 k'⊢;simp -implicitDefEqProofs [s1,s2,b5,e2,e5,-lI];exact k'
 .clear hi;rintro ρ H' ⟨rfl,is,u,e0,hb,rfl⟩;exact h
theorem jZ(O:cz c)(hn:1<=n)(hi:∀r r',L r=L r'↔r=r')(e1:H (L .tI)=some (.inst .store (E4 L st)))(e2:H (L .iL)=some (.list (gz st.cs)))(e3:H (L .gu)=some (.list (xt pf st.cs.length)))
  {d:List Int} {sv:V} (YJ:sv=if pf then ae st.cs.length else .none) (hl:st.cs.length<5000) (hd:d.length<64):
  (∀b H',H'=(H.set (L .iL) (.list (gz (st.cs++[d])))).set (L .gu) (.list (xt pf (st.cs.length+1)))->Q (.bool b) H')->aA c 17 n [.ref (L .tI),.tup (d.map .int),sv] H Q:=by
 intro h;have ag:=aJ;have b1:st.cs.length<1000000:=ub hl rfl;have b2:d.length<=1000000:=BK hd rfl;refine aF O hn rfl ?_;simp[e1,e2,e3,hi,ag,jY,E6,b1,b2];refine h _ _ ?_;rw[Ct];rw[←YJ];simp[gz]
theorem E7(O:cz c)(hn:2<=n)(R:Rep L true st H){d:List Int}{nt:V}(h1:d.Pairwise (fun a b=>a.natAbs<b.natAbs))(h2:d.length<64)(h3:∀l∈d,l≠0)(hl:st.cs.length<5000)(PC:st.cQ.length=st.cs.length)(hd:d≠[])
  (h:Q (ae st.cs.length) (H.set (L .lO) (.list (Co (st.cs++[d]) (st.cQ++[nt]))))):
  aA c 7 n [.ref (L .pI),.str 16,.tup (d.map .int),.tup [],nt] H Q:=by
 have ag:=aJ;have hi:=R.aM.inj;have b0:=E5 PC;have b1:st.cs.length<=1000000:=BK hl rfl;have b2:d.length<=1000000:=BK h2 rfl;have b3:st.cs.length<1000000:=ub hl rfl;refine aF O (cL hn rfl) rfl ?_;simp[R.pI,R.lO,hi,ag,b0,b1];refine yU O (bK hn rfl) h1 h2 h3 ?_;simp;rw[hO];simp[i9,R.pI,R.lO,hi,ag,b0,b1,b2,b3];have d0:((d.length:Int)==0)=false:=by simp;exact hd
 rw[Cs PC]at h;simpa[R.pI,hi,d0]using h
end
theorem E8(s k:Nat)(hs:s<4)(hk:k<4):Builtin.bitAnd (s:Int) (Builtin.bitNot (k:Int))=((cM s k:Nat):Int)/\Builtin.bitOr (k:Int) ((cM s k:Nat):Int)=((k|||cM s k:Nat):Int):=by have e1:k=0\/k=1\/k=2\/k=3:=(aB 0x1a0060021600850021c016) hk;have e2:s=0\/s=1\/s=2\/s=3:=(aB 0x1a0060021600850021c016) hs;clear hs hk;rcases e1 with rfl |rfl |rfl |rfl<;>rcases e2 with rfl |rfl |rfl |rfl<;>decide
theorem Cu(t:Nat):∀sd:List (Nat×Nat),aj (t:Int) (yR sd)=(aj t sd).map fun(k:Nat)=>ae k:=by
 intro zl
 induction zl with
 |nil=>
  exact rfl
 |cons zp l ih=>
  obtain⟨x,w⟩:=zp;have ih:=ih;by_cases q:x=t
  .clear ih;subst q;simp[yR,aK]
  .have q':¬((x:Int)=(t:Int)):=by exact(aD 62699245535382) q
   simp only[yR]at ih;simp[yR,aK,q,q',ih]
theorem E9(t v:Nat):∀sd:List (Nat×Nat),putD (t:Int) (ae v) (yR sd)=yR (putD t v sd):=by
 intro zl
 induction zl with
 |nil=>
  exact rfl
 |cons zp l ih=>
  obtain⟨x,w⟩:=zp;have ih:=ih;by_cases q:x=t
  .clear ih;subst q;simp[yR,aO]
  .have q':¬((x:Int)=(t:Int)):=by exact(aD 62699245535382) q
   simp only[yR]at ih;simp[yR,aO,q,q',ih]
theorem Fb{sd:List (Nat×Nat)}:(yR sd).length=sd.length:=zCe _
theorem Cv{t:Nat}{sd:List (Nat×Nat)}:(aj (t:Int) (yR sd)).getD (.int 0)=ae (aw sd t):=by rw[Cu];unfold aw;cases aj t sd<;>rfl
theorem lQ{i:Nat}{k:Nat}{l:List Nat}:gh i (k::l)=((k:Int),ae i)::gh (i+1) l:=rfl
theorem vK(t:Nat):∀(l:List Nat) (i:Nat),(∃j,l[j]?=some t/\aj (t:Int) (gh i l)=some (ae (i+j)))\/(t∉l/\aj (t:Int) (gh i l)=none):=by
 intro zl
 induction zl with
 |nil=>
  rintro _;exact .inr ⟨by simp,rfl⟩
 |cons x l ih=>
  rintro i;by_cases q:x=t
  .subst q;exact .inl ⟨0,rfl,by simp[lQ,aK]⟩
  .have q':¬((x:Int)=(t:Int)):=by exact(aD 62699245535382) q
   rcases ih (i+1) with⟨j,h1,h2⟩ |⟨h1,h2⟩
   .exact .inl ⟨j+1,h1,by simp only[lQ,aK,q',if_false,h2];congr 2;exact aD 6221047549929792⟩
   .exact .inr ⟨by simp[h1,Ne.symm q],by simp[lQ,aK,q',h2]⟩
theorem lR(t:Nat)(vs:List Nat):(∃v,bV vs t v/\aj (t:Int) (gh 1 vs)=some (ae v))\/(t∉vs/\aj (t:Int) (gh 1 vs)=none):=by
 rcases vK t vs 1 with⟨j,h1,h2⟩ |h
 .exact .inl ⟨1+j,⟨by exact aB 190642,by rw[show 1+j-1=j by exact aB 184740176];exact h1⟩,h2⟩
 .exact .inr h
theorem pM(t:Nat):∀(l:List Nat) (i:Nat),gh i (l++[t])=gh i l++[((t:Int),ae (i+l.length))]:=by
 intro zl
 induction zl with
 |nil=>
  rintro _;exact rfl
 |cons x l ih=>
  rintro i;simp only[cons_append,lQ,ih (i+1),length_cons,List.cons.injEq,true_and];congr 4;exact aD 6221047549929792
theorem yV:∀(l:List Nat) (i:Nat),(gh i l).length=l.length:=by
 intro zl
 induction zl with
 |nil=>
  rintro _;exact rfl
 |cons zp l ih=>
  rintro i;exact zEy Nat.succ (ih (i+1))
section
variable {K tm:Nat} {pf:Bool} {P:Row->Prop} {X:Nat->Nat->Prop} {bB sl:Nat} {st st':St} {L:Rl->Nat} {H H':Z}
theorem hZ(hi:∀r r',L r=L r'↔r=r'){r r':Rl}{o:aN}:(H.set (L r) o) (L r')=if r'=r then some o else H (L r'):=by
 by_cases q:r'=r
 .subst q;rw[zBq rfl,Z.ab]
 .rw[zAi q];rw[Z.af _ _ fun e=>q ((hi _ _).mp e)]
theorem Rep.mk'(R:Rep L pf st H)(hB:st'.B=st.B)(k:∀r,og r=true->H' (L r)=H (L r))(h:∀r o,obj L pf st' r=some o->H' (L r)=some o):Rep L pf st' H':=
 ⟨by rw[hB];exact R.aM.keep k,h⟩
structure vL(K bB:Nat):Prop where
 lo:1<=K
 hi:K<=19
 bB:bB<=500
inductive SO(st:St):Prop
 |mk (a:st.B.length<=381) (b:st.vs.length<=381) (c:st.sd.length<=381) (d:st.cs.length<=3600) (e:4*st.pend<=3600)
theorem aV.GV(I:aV K tm pf P X bB sl st)(b:vL K bB):SO st:=by
 have h1:=I.iJ.len I.good b.lo b.hi;have h2:=I.NB;have h3:=I.xr;have h4:=I.cnt;have h5:=b.bB
 have h6:=dW (st.sd.map (·.1)) st.vs I.xq fun t ht=>by obtain⟨p,hp,rfl⟩:=zAt.mp ht;exact(I.tH p hp).1
 simp at h6;have z:st.B.length<=381/\st.vs.length<=381/\st.sd.length<=381/\st.cs.length<=3600/\4*st.pend<=3600:=(WJ 0x3843842748001c21c19380005f787270000bef024e00017de009c27260000fa70c4c6113b42909d1d284c017444c009300005f78026) h1 h2 h3 h4 h5 h6;exact⟨z.1,z.2.1,z.2.2.1,z.2.2.2.1,z.2.2.2.2⟩
end
section
variable {c:Cy} {n:Nat} {L:Rl->Nat} {H:Z} {Q:V->Z->Prop} {pf:Bool} {st:St} {K tm:Nat} {P:Row->Prop} {X:Nat->Nat->Prop} {bB sl:Nat}
theorem YK{B:List Nd}(g:Good B){t:Nat}(h:(nd B t).op=2):∃u,nd B t=⟨2,[u],(nd B t).data⟩/\1<=u/\u<t:=by
 by_cases q:t<6
 .rw[g.low q]at h;have:t=0\/t=1\/t=2\/t=3\/t=4\/t=5:=(aB 0x1e0070021a008600216008500220016) q;rcases this with rfl |rfl |rfl |rfl |rfl |rfl<;>simp[nd,dM]at h
 .by_cases q':t<B.length
  .have ar:=(g.ok t ((aB 1084227990) q) q').1;rw[h]at ar;obtain⟨u,e⟩:=vD (eq_of_beq ar);have:=g.args (t:=t) (a:=u) (by rw[e];exact .head _)
   exact⟨u,by rw[←e];rw[←h],this⟩
  .rw[vB (by exact(aD 75628950) q')]at h;simp at h
theorem js(O:cz c)(hn:2<=n)(R:Rep L pf st H){t:Nat}(h1:1<=t)(ht:t<st.B.length)(h:∀i sg,cN st.B t i sg->Q (.tup [ae i,.int sg]) H):
  aA c 19 n [.ref (L .mI),ae t] H Q:=by
 have e:=R.aM.ei;have g:=R.aM.good;have ag:=aJ;refine aF O (cL hn rfl) rfl ?_;simp;refine g7 (fun m ρ H'=>H'=H/\∃(t':Nat) (sg:Int),m=t'/\ρ=[some (.ref (L .mI)),some (ae t'),some (.int sg),none]/\1<=t'/\t'<st.B.length/\∀i PD,cN st.B t' i PD->cN st.B t i (sg*PD)) (m:=t) ⟨rfl,t,1,rfl,rfl,h1,ht,fun i PD h=>by rw[zFe];exact h⟩ ?_
 rintro m ρ H' KK ⟨rfl,t',sg,rfl,rfl,Vc,Fc,hs⟩ kt kf;simp[R.mI,e];refine yI O (bK hn rfl) R.aM Fc ?_;by_cases q:(nd st.B m).op=2
 .obtain⟨u,eu,u1,u2⟩:=YK g q;simp[q];refine kt _ fun K' k'=>?_;simp[R.mI,e];refine jn O (bK hn rfl) R.aM Fc ?_;have ea:(nd st.B m).args=[u]:=by rw[eu]
  simp[ea,dG,ag];refine k' u _ H' u2 ⟨rfl,u,-sg,rfl,rfl,u1,(aP 37452254814230) Fc u2,fun i PD h=>?_⟩;have:=hs i _ (cN.step eu h);rw[neg_mul];rw[Int.mul_neg]at this;exact this
 .have q':((nd st.B m).op==2)=false:=by simp[q]
  simp[q'];refine kf _ ?_;simp[ag];have:=hs m 1 (.base q);rw[Int.mul_one]at this;exact h m sg this
theorem gi(O:cz c)(hn:3<=n)(R:Rep L pf st H){t:Nat}(h1:1<=t)(ht:t<st.B.length)
  (hy:∀i sg v,cN st.B t i sg->bV st.vs i v->Q (.int (sg*v)) H) (Bl:∀i sg,cN st.B t i sg->i∉st.vs->Q (.int 0) H):
  aA c 21 n [.ref (L .mI),ae t] H Q:=by
 have g:=R.aM.good;refine aF O (cL hn rfl) rfl ?_;simp[R.mI];refine js O (bK hn rfl) R h1 ht fun i sg hs=>?_;obtain⟨_,_,_,f4,_⟩:=hs.facts g;have hb:sg.natAbs<1000:=by clear g_1 hs;rcases f4 with rfl |rfl<;>decide
 simp[R.mI,R.mv];rcases lR i st.vs with⟨v,hv,e⟩ |⟨hv,e⟩
 .simp[e,eI,eJ,hb];exact hy i sg v hs hv
 .simp[e,eI,eJ,hb];exact Bl i sg hs hv
theorem yW(O:cz c)(hn:1<=n)(R:Rep L pf st H)(h:Q (ae (st.vs.length+1)) (H.set (L .tI) (.inst .store [(3,ae (st.vs.length+1)),(4,.ref (L .iL)),(0,.ref (L .gu))]))):
  aA c 16 n [.ref (L .tI)] H Q:=by
 refine aF O (cL hn rfl) rfl ?_;simp[R.tI,E4];have e:ae (st.vs.length+1)= .int ((st.vs.length:Int)+1):=by simp[ae]
 rw[e]at h;exact h
theorem Cw(O:cz c)(hn:1<=n){a b:Nat}{e:Int}{vs:List Nat}(hI:H (L .pI)=some (.inst (.proof ()) [(0,.ref a),(1,.ref b),(2,.int e)]))(hN:H b=some (.list (.int 0::vs.map ae)))(hl:vs.length<5000){i:Nat}
  (h:Q .none (H.set b (.list (.int 0::(vs++[i]).map ae)))):
  aA c 4 n [.ref (L .pI),ae (vs.length+1),ae i] H Q:=by
 have ag:=aJ;have b1:vs.length+1<=1000000:=jl hl rfl;have b2:vs.length+1<1000000:=(aB 0x7a1207160a08004e238016) hl;refine aF O (cL hn rfl) rfl ?_;simp[hI,hN,ag,b1,b2];simpa using h
theorem Cz(O:cz c)(hn:2<=n)(R:Rep L pf st H)(hb:st.vs.length<5000){i:Nat}
  (h:∀v H',bV (bL st i).vs i v->Rep L pf (bL st i) H'->Kp (RM L pf) H H'->Q (ae v) H'):
  aA c 20 n [.ref (L .mI),ae i] H Q:=by
 have ag:=aJ;have hi:=R.aM.inj;have k0:=Kp.refl (RM L pf) H;refine aF O (cL hn rfl) rfl ?_;simp[R.mI,R.mv];rcases lR i st.vs with⟨v,hv,e⟩ |⟨hv,e⟩
 .have e0:((v:Int)==0)=false:=by have:=hv.1;simp;exact(aB 21477198630) this
  have ea:bL st i=st:=by unfold bL;rw[zBq hv.mem]
  rw[ea]at h;simp[e,e0];exact h v H hv R k0
 .have ea:bL st i={st with vs:=st.vs++[i]}:=by unfold bL;rw[zAi hv]
  rw[ea]at h;have KG:bV (st.vs++[i]) i (st.vs.length+1):=⟨(aB 0x2c14590004e238016) hb,by simp⟩
  have b1:st.vs.length+1<=1000000:=jl hb rfl;have b2:st.vs.length+1<1000000:=(aB 0x7a1207160a08004e238016) hb;have b3:st.vs.length<1000000:=ub b1 rfl;simp[e,R.mI,R.tI];refine yW O (bK hn rfl) R ?_;simp[R.mI,R.mt,R.mv,hi,ag,b1,b2,b3,yV];rw[nB e];cases pf with
  |false=>
   simp[R.mI,hi,yS];refine h (st.vs.length+1) _ KG (jr.rep (st':={st with vs:=st.vs++[i]}) (((R.ro.set (r:=.tI) rfl).set (r:=.mv) rfl).set (r:=.mt) rfl) fun r=>?_) (((k0.iN rfl).iN rfl).iN rfl)
   cases r<;>first |exact fun _ h=>h |(intro o h;obtain rfl:=so h;simp[Du,pM,add_comm,E4];try rfl)
  |true=>
   simp[R.mI,hi,yS,R.pI];refine Cw (a:=L .lO) (b:=L .oE) (e:=st.KA) (vs:=st.vs) O (bK hn rfl) (by simp[hZ hi,R.pI];rfl) (by simp[hZ hi,R.oE]) hb ?_
   simp;refine h (st.vs.length+1) _ KG (jr.rep (st':={st with vs:=st.vs++[i]}) ((((R.ro.set (r:=.tI) rfl).set (r:=.mv) rfl).set (r:=.mt) rfl).set (r:=.oE) rfl) fun r=>?_) ((((k0.iN rfl).iN rfl).iN rfl).role fun _=>rfl)
   cases r<;>first |exact fun _ h=>h |(intro o h;obtain rfl:=so h;simp[Du,pM,add_comm,E4];try rfl)
theorem Fd(O:cz c)(hn:1<=n)(R:Rep L pf st H)(h1:st.sd.length<5000)(h2:st.wait.length<5000){i s:Nat}(hs:s<4)(hk:aw st.sd i<4)
  (h:∀H',Rep L pf (dN st i s) H'->Kp (RM L pf) H H'->Q .none H'):
  aA c 23 n [.ref (L .mI),ae i,ae s] H Q:=by
 have ag:=aJ;have hi:=R.aM.inj;have k0:=Kp.refl (RM L pf) H;obtain⟨B1,B2⟩:=E8 s (aw st.sd i) hs hk;refine aF O (cL hn rfl) rfl ?_;simp[R.mI,R.ms,Cv];rw[B1];by_cases q:cM s (aw st.sd i)=0
 .have ea:dN st i s=st:=by unfold dN;rw[zBq q]
  rw[ea]at h;simp[q];exact h H R k0
 .have ea:dN st i s={st with sd:=putD i (aw st.sd i|||cM s (aw st.sd i)) st.sd,wait:=st.wait++[(i,cM s (aw st.sd i))]}:=by unfold dN;rw[zAi q]
  rw[ea]at h;have q':((cM s (aw st.sd i):Int) !=0)=true:=by simp;exact(aB 343636443286) q
  have b1:st.sd.length<1000000:=ub h1 rfl;have b2:st.wait.length<1000000:=ub h2 rfl;simp[q',R.mI,R.ms,R.mw,hi,ag,Fb,b1];rw[B2];simp[q',R.mI,R.ms,R.mw,hi,ag,Dt,b2];refine h _ (jr.rep (st':={st with sd:=putD i (aw st.sd i|||cM s (aw st.sd i)) st.sd,wait:=st.wait++[(i,cM s (aw st.sd i))]}) ((R.ro.set (r:=.ms) rfl).set (r:=.mw) rfl) fun r=>?_) ((k0.iN rfl).iN rfl)
  cases r<;>first |exact fun _ h=>h |(intro o h;obtain rfl:=so h;simp[Du,E9,Dt])
theorem YL(pf:Bool){L:Rl->Nat}:dw (yS pf L)=!pf:=by cases pf<;>rfl
theorem uD.gv{ρ:aH}{r:Bool}{s:Nat}{Q:EQ}(e:cO ρ 2=some (ae s))(h:Q (ae (if r then 3 else s)) H):uD c n (.glob (.int 3)) (.var 2) ρ Q r H:=by
 cases r
 .refine(?_:eP Q (cO ρ 2) H);rw[e];exact h
 .exact h
theorem Dv{α:Type}{p:Prop}[Decidable p]{P:α->Prop}{a b:α}(ha:P a)(hb:P b):P (if p then a else b):=by
 by_cases h:p
 .rw[zBq h];exact ha
 .rw[zAi h];exact hb
theorem YM{s:Nat}(h:s=1\/s=2\/s=3):1<=(if s=3 then 3 else 3-s)/\(if s=3 then 3 else 3-s)<=3:=by rcases h with rfl |rfl |rfl<;>decide
theorem YN{s b:Nat}(h:s=1\/s=2\/s=3)(hb:b=1\/b=2):aT s b=true->aT (if s=3 then 3 else 3-s) (3-b)=true:=by rcases h with rfl |rfl |rfl<;>rcases hb with rfl |rfl<;>decide
theorem SP{sg:Int}(h:sg=1\/sg= -1):sg.natAbs<1000:=by rcases h with rfl |rfl<;>decide
theorem CA(st:St)(i:Nat):(bL st i).B=st.B:=Dv (P:=fun x:St=>x.B=st.B) rfl rfl
theorem CB(st:St)(i s:Nat):(hY st i s).B=st.B:=(Dv (P:=fun x:St=>x.B=(bL st i).B) rfl rfl:(dN (bL st i) i s).B=_).trans (CA st i)
theorem yX(st:St)(i s:Nat):(hY st i s).vs=(bL st i).vs:=(Dv (P:=fun x:St=>x.vs=(bL st i).vs) rfl rfl:(dN (bL st i) i s).vs=_)
theorem yY(st:St)(i:Nat):(bL st i).sd=st.sd:=Dv (P:=fun x:St=>x.sd=st.sd) rfl rfl
theorem tN(st:St)(i:Nat):(bL st i).wait=st.wait:=Dv (P:=fun x:St=>x.wait=st.wait) rfl rfl
theorem CC{ρ:aH}{QB:BQ}{s:Nat}{sg:Int}(h4:cO ρ 4=some (.int sg))(h2:cO ρ 2=some (ae s))(h:QB (decide (sg<0)&&((s:Int) !=3)) H):eV c n (.iH (.cmp .lt (.var 4) (.cst (.int 0))) (.cmp .ne (.var 2) (.glob (.int 3)))) ρ H QB:=by
 by_cases q:sg<0
 .simp[h4,q];simp[h2,ae];simp[q]at h;exact h
 .simp[h4,q];simp[q]at h;exact h
theorem w_enter(O:cz c)(hn:3<=n)(R:Rep L pf st H)(I:aV K tm pf P X bB sl st)(hb:vL K bB)(hw:st.wait.length<5000){t s:Nat}(h1:1<=t)(ht:t<st.B.length)(hs:1<=s/\s<=3)
  (h:∀(l:Int) st' H',Rep L pf st' H'->aV K tm pf P X bB sl st'->Mv st st'->st'.B=st.B->Kp (RM L pf) H H'->(aT s 1=true->Ent st'.B st'.vs st'.sd t l)->(aT s 2=true->Ent st'.B st'.vs st'.sd (-(t:Int)) (-l))->
   (pf=true->∃i sg v,cN st'.B t i sg/\bV st'.vs i v/\l=sg*v)->Q (.int l) H'):
  aA c 22 n [.ref (L .mI),ae t,ae s] H Q:=by
 obtain⟨b1,b2,b3,b4,b5⟩:=I.GV hb;have g:=R.aM.good;refine aF O (cL hn rfl) rfl ?_;simp[R.mI];refine js O (bK hn rfl) R h1 ht fun i sg cZ=>?_;obtain⟨f1,f2,f3,f4,_⟩:=cZ.facts g;have FH:i<st.B.length:=(aP 37452259008534) ht f1;have Pe:=f2 h1
 have fin:∀(s':Nat) v H',1<=s'/\s'<=3->(pf=true->s'=3)->(∀b,(b=1\/b=2)->aT s b=true->aT s' (if sg=1 then b else 3-b)=true)->bV (bL st i).vs i v->Rep L pf (hY st i s') H'->Kp (RM L pf) H H'->Q (.int (sg*v)) H':=by
  intro s' v H' ua hp hh hv R' k;obtain⟨I',m,GW,gC⟩:=I.Cj Pe FH f3 ua hp;have eB:=CB st i s';rw[←yX st i s']at hv;have zM:cN (hY st i s').B t i sg:=by rw[eB];exact cZ
  exact h _ _ _ R' I' m eB k (fun pY=>⟨i,sg,v,zM,hv,.inl ⟨(aB 3398437670) h1,rfl,GW _ (Dv (P:=fun b=>b=1\/b=2) (.inl rfl) (.inr rfl)) (hh 1 (.inl rfl) pY)⟩⟩)
   (fun Df=>⟨i,sg,v,natAbs_neg (t:Int)▸zM,hv,.inr ⟨(aB 1377846692646) h1,rfl,GW _ (Dv (P:=fun b=>b=1\/b=2) (.inr rfl) (.inl rfl)) (hh 2 (.inr rfl) Df)⟩⟩) fun _=>⟨i,sg,v,zM,hv,rfl⟩
 have PF:=SP f4;have NI:=yY st i;have Fe:=tN st i;have YO:=(I.bits i).1
 have tail:∀(s':Nat),1<=s'/\s'<=3->(∀b,(b=1\/b=2)->aT s b=true->aT s' (if sg=1 then b else 3-b)=true)->
   aA c 20 (n-1) [.ref (L .mI),ae i] H fun v H'=>∃v',v=ae v'/\Rep L pf (bL st i) H'/\aA c 23 (n-1) [.ref (L .mI),ae i,ae (if pf then 3 else s')] H' fun u eL=>u= .none/\Q (.int (sg*v')) eL:=by
  intro s' ua hh;refine Cz O (bK hn rfl) R (zk b2 rfl) fun v H' hv R' k=>⟨v,rfl,R',?_⟩;refine Fd O (bK hn rfl) R' (by rw[NI];exact zk b3 rfl) (by rw[Fe];exact hw) (lt_succ_of_le (Dv (P:=(·<=3)) (zAq _) ua.2)) (by rw[NI];exact YO) fun eL xw k'=>⟨rfl,?_⟩
  refine fin (if pf then 3 else s') v eL (Dv (P:=fun s=>1<=s/\s<=3) (by decide) ua) (fun e=>by rw[e];rfl) (fun b hb cj=>Dv (P:=fun s=>aT s _=true) rfl (hh b hb cj)) hv xw (k.trans k')
 have step:∀(s':Nat),1<=s'/\s'<=3->(∀b,(b=1\/b=2)->aT s b=true->aT s' (if sg=1 then b else 3-b)=true)->∀(ρ:aH) (QS:SQ),ρ=[some (.ref (L .mI)),some (ae t),some (ae s'),some (ae i),some (.int sg),none,none]->
   wpS c (n-1) (.seq (.assign 5 (.au (.var 0) 20 (.cons (.var 3) .nil))) (.seq (.expr (.au (.var 0) 23 (.cons (.var 3) (.cons (.uE (.isSome (.attr (.var 0) 7)) (.glob (.int 3)) (.var 2)) .nil)))) (.seq (.ret (.bin .mul (.var 4) (.var 5))) .skip))) ρ H QS Q:=by
  rintro s' ua hh ρ QS rfl;simp[R.mI];refine(tail s' ua hh).mono ?_;rintro v H' ⟨v',rfl,R',nI⟩;simp[R'.mI,YL];refine uD.gv rfl ?_;simp;refine nI.mono ?_;rintro u eL ⟨rfl,hq⟩;simpa[eI,eJ,PF]using hq
 have CD:s=1\/s=2\/s=3:=(aB 0x1a0060021600868080b276) hs;rcases f4 with rfl |rfl
 .have:=step s hs (fun b _ h=>h) _ (fun _ H'=>Q .none H') rfl;simp[R.mI]at this;simp[R.mI];exact this
 .have:=step (if s=3 then 3 else 3-s) (YM CD) (fun b hb h=>YN CD hb h) _ (fun _ H'=>Q .none H') rfl
  simp[R.mI]at this;clear hs h fin tail step;dsimp only[HX,b9_0,HE,cn,cb,Gc];refine CC rfl rfl ?_;rcases CD with rfl |rfl |rfl<;>(simp[R.mI]at this⊢;exact this)
end
def WL(st:St):Prop:=st.wait.length<=cv st.sd
section
variable {c:Cy} {n:Nat} {L:Rl->Nat} {H:Z} {Q:V->Z->Prop} {pf:Bool} {st:St} {K tm:Nat} {P:Row->Prop} {X:Nat->Nat->Prop} {bB sl:Nat}
theorem Mv.wl{st st':St}(m:Mv st st')(I:aV K tm pf P X bB sl st)(h:WL st):WL st':=by obtain⟨l,e⟩:=m.wait;have h1:=m.run;have h2:=m.aS;have h3:=I.aS;unfold WL St.pend at*;rw[e]at h1⊢;simp at h1⊢;exact(ur 0xa40508a30568111014ad0980326188182026) h h2 h3 h1
theorem aV.PG(I:aV K tm pf P X bB sl st)(b:vL K bB)(h:WL st):st.wait.length<5000:=by have h1:=I.iJ.len I.good b.lo b.hi;have h3:=I.xr;unfold WL at h;exact(aP 0x9c47002217424c00017de08982026) h h1 h3
theorem CE(O:cz c)(hn:5<=n)(R:Rep L pf st H)(I:aV K tm pf P X bB (sl+1) st)(hb:vL K bB){x:V}{ls:List Int}{rule:Nat}{nt:V}(hx:nE H x (ls.map .int))(hl:ls.length<64)(h0:∀l∈ls,l≠0/\l.natAbs<=st.vs.length)
  (el:pf=true->ls≠[]/\rule=16) (hs:∀row,P row->∃l∈ls,eY (star st.B st.vs row) l=true)
  (h:∀st' H',Rep L pf st' H'->aV K tm pf P X bB sl st'->Mv st st'->jV st'.cs ls->st'.B=st.B->Kp (RM L pf) H H'->Q .none H'):
  aA c 25 n [.ref (L .mI),.str rule,x,nt] H Q:=by
 have ag:=aJ;have hi:=R.aM.inj;obtain⟨b1,b2,b3,b4,b5⟩:=I.GV hb;refine aF O (cL hn rfl) rfl ?_;simp;refine w_tidy (ls:=ls) O (bK hn rfl) hx hl (fun l h=>(h0 l h).1) (fun ht H1 le=>?_) fun ks ht H1 le=>?_
 .simp;refine h st H1 (R.le le) (I.weak (aB 5777410)) (Mv.refl I.good) ?_ rfl le.kp;obtain⟨l,h1,h2⟩:=vH _ _ ht;exact .inl ⟨l,h1,by simpa using h2⟩
 .obtain⟨n1,n2,T⟩:=Cm ht fun l h=>(h0 l h).1;have R1:=R.le le;have dl:(bJ ks).length<64:=by have:=T.len;exact(aD 0x207022009300001038016) hl this
  have d0:∀l∈bJ ks,l≠0/\l.natAbs<=st.vs.length:=fun l hl=>h0 l ((T.mem l).mp hl)
  obtain⟨I',m⟩:=I.E3 (nt:=nt) (e:=st.KA) T.sorted dl d0 fun row hr=>by obtain⟨l,h1,h2⟩:=hs row hr;exact⟨l,(T.mem l).mpr h1,h2⟩
  have em:jV (st.cs++[bJ ks]) ls:=.inr ⟨bJ ks,by simp,T.mem⟩
  have NK:=fun H' R' k=>h _ H' R' I' m em rfl k;generalize bJ ks=d at*;have PC:=I.cQ;clear I' h I R em m;cases pf with
  |false=>
   simp[R1.mI,yS,R1.tI];refine jZ (st:=st) O (bK hn rfl) hi R1.tI R1.iL R1.gu rfl (zk b4 rfl) dl ?_;rintro b H' rfl;simp;refine NK _ (jr.rep ((R1.ro.set (r:=.iL) rfl).set (r:=.gu) rfl) fun r=>?_) ((le.kp.iN rfl).iN rfl);cases r<;>first |exact fun _ h=>h |(intro o h;obtain rfl:=so h;simp[Du,Ck])
  |true=>
   obtain⟨SR,rfl⟩:=el rfl
   have YQ:d≠[]:=by rintro rfl;obtain⟨y,hy⟩:=List.exists_mem_of_ne_nil _ SR;have:=(T.mem y).mpr hy;cases this
   simp[R1.mI,yS,R1.pI,ag];refine E7 (nt:=nt) O (bK hn rfl) R1 T.sorted dl (fun l h=>(d0 l h).1) (zk b4 rfl) PC YQ ?_;simp[R1.mI,yS,R1.tI,hi];refine jZ (st:=st) (pf:=true) O (bK hn rfl) hi ?_ ?_ ?_ rfl (zk b4 rfl) dl ?_
   .simp[hZ hi,R1.tI]
   .simp[hZ hi,R1.iL]
   .simp[hZ hi,R1.gu]
   rintro b H' rfl;simp;refine NK _ (jr.rep (((R1.ro.set (r:=.lO) rfl).set (r:=.iL) rfl).set (r:=.gu) rfl) fun r=>?_) (((le.kp.role fun _=>rfl).iN rfl).iN rfl);cases r<;>first |exact fun _ h=>h |(intro o h;obtain rfl:=so h;simp[Du,Ck])
variable (L H pf st K tm P X bB sl) in
inductive LJ(signed:List Int)(t r:Nat)(l:List V)(ρ:aH)(H':Z):Prop
 |mk (rest:List Int) (st':St) (bG:List (Int×Int)) (u:Option V) (h0:l=rest.map .int) (h1:signed=bG.map (·.1)++rest) (h2:ρ=[some (.ref (L .mI)),some (.tup (signed.map .int)),some (ae t),some (.ref r),u,none]) (h3:Rep L pf st' H') (h4:aV K tm pf P X bB sl st') (h5:Mv st st') (h6:st'.B=st.B) (h7:WL st') (h8:Kp (RM L pf) H H') (h9:H' r=some (.list ((bG.map (·.2)).map .int))) (lM:(∀p∈bG,Right st'.B st'.vs st'.sd t p.1 p.2))
theorem oI(O:cz c)(hn:4<=n)(R:Rep L pf st H)(I:aV K tm pf P X bB sl st)(hb:vL K bB)(hw:WL st){signed:List Int}{t:Nat}(PF:∀s∈signed,s≠0/\s.natAbs<st.B.length)(hlen:signed.length<=4)(ht:t∈st.vs)
  (h:∀r st' H' (bG:List (Int×Int)),Rep L pf st' H'->aV K tm pf P X bB sl st'->Mv st st'->st'.B=st.B->WL st'->Kp (RM L pf) H H'->H r=none->(∀q,L q≠r)->H' r=some (.list ((bG.map (·.2)).map .int))->bG.map (·.1)=signed->(∀p∈bG,Right st'.B st'.vs st'.sd t p.1 p.2)->Q (.ref r) H')
  (kG:∀r,H (L r)≠none):
  aA c 26 n [.ref (L .mI),.tup (signed.map .int),ae t] H Q:=by
 have ag:=aJ;have hi:=R.aM.inj;refine aF O (cL hn rfl) rfl ?_;simp;intro r hr;have nr:∀q,L q≠r:=fun q e=>kG q (by rw[e];exact hr)
 have vM:¬RM L pf r:=fun⟨q,e,_⟩=>nr q e
 refine cI (items:=signed.map .int) (g:=fun _=>True) rfl (LJ L H pf st K tm P X bB sl signed t r) (fun _ _ _ _=>trivial)
  ⟨signed,st,[],none,rfl,rfl,rfl,R.le (Le.fresh hr),I,Mv.refl I.good,rfl,hw,(Le.fresh hr).kp,Z.ab _ _ _,by simp⟩ ?_ ?_
 .rintro v l ρ H' K' ⟨rest,st',bG,u,e0,GX,rfl,R',I',m,eB,nI,k,er,hR⟩ kk;cases rest with
  |nil=>cases e0
  |cons s rest=>
   simp only[map_cons,List.cons.injEq]at e0;obtain⟨rfl,rfl⟩:=e0;have SU:s∈signed:=by rw[GX];simp
   obtain⟨s0,s1⟩:=PF s SU;have Jn:∀z:Int,signed=(bG++[(s,z)]).map (·.1)++rest:=fun z=>by rw[GX];simp
   have NL:bG.length<4:=by have:=zEy length GX;simp at this;exact(aP 0x1c1158a81a0019c026) hlen this
   have GY:=I'.PG hb nI;have VO:s.natAbs<st'.B.length:=by rw[eB];exact s1
   have fin:∀(z:Int) jt eL Hc,Rep L pf jt Hc->aV K tm pf P X bB sl jt->Mv st' jt->jt.B=st'.B->Kp (RM L pf) H' Hc->eL=Hc.set r (.list (((bG++[(s,z)]).map (·.2)).map .int))->Right jt.B jt.vs jt.sd t s z->∀u,K' [some (.ref (L .mI)),some (.tup (signed.map .int)),some (ae t),some (.ref r),u,none] eL:=by
    rintro z jt eL Hc xw CF m' NM k' rfl hz u;have hrc:Hc r≠none:=by rw[k'.at er vM];simp
    refine kk _ _ ⟨rest,jt,bG++[(s,z)],u,rfl,Jn z,rfl,?_,CF,m.trans m',NM.trans eB,m'.wl I' nI,(k.trans k').set (.inl hr),Z.ab _ _ _,fun p hp=>?_⟩
    .refine xw.mk' rfl (fun q _=>Z.af _ _ (nr q)) fun q o ho=>?_;rw[Z.af _ _ (nr q)];exact xw.at' q o ho
    .rcases zAu.mp hp with hp |hp
     .refine(hR p hp).mono m'.m ?_;rw[eB];exact(PF p.1 (by rw[GX];exact zEe _ (zAt.mpr ⟨p,hp,rfl⟩))).2
     .simp at hp;subst hp;exact hz
   simp;by_cases q:s.natAbs=t
   .have q':((s.natAbs:Int)==(t:Int))=true:=by simp;exact(oj 0x641ac9801a06) q
    obtain⟨l',ev⟩:=m.m.vs;have Fc:t∈st'.vs:=by rw[ev];exact zEe _ ht
    rcases lR t st'.vs with⟨v,hv,e⟩ |⟨hv,_⟩
    .have bl:bG.length<lim:=ub NL rfl;by_cases z:0<s
     .simp[q',er,z,R'.mI,R'.mv,e,bl];refine fin (v:Int) st' _ H' R' I' (Mv.refl I'.good) rfl (Kp.refl _ _) ?_ (.inl ⟨q,v,hv,.inl ⟨z,rfl⟩⟩) _;simp
     .simp[q',er,z,R'.mI,R'.mv,e,bl];refine fin (-(v:Int)) st' _ H' R' I' (Mv.refl I'.good) rfl (Kp.refl _ _) ?_ (.inl ⟨q,v,hv,.inr ⟨(jy 90142538015703958) s0 z,rfl⟩⟩) _;simp
    .exact absurd Fc hv
   .have q':((s.natAbs:Int)==(t:Int))=false:=by simp;exact(oj 0x641ac9c801a096) q
    have bl:bG.length<lim:=ub NL rfl;by_cases z:0<s
    .clear Jn s1 s0 SU GX;obtain⟨s',rfl⟩:∃s':Nat,s=(s':Int):=⟨s.natAbs,(oj 0xd64060523001a096) q z⟩;have q1:((s':Int)==(t:Int))=false:=q';have z3:0<s':=(aB 1350773318) z;simp[q',q1,z,z3,er,R'.mI];refine w_enter O (bK hn rfl) R' I' hb GY (t:=s') (s:=1) (cL z3 rfl) (VO) (by decide) fun l jt eL xw CF m' NM k' he _ _=>?_
     simp[k'.at er vM,bl];refine fin l jt _ eL xw CF m' NM k' ?_ (.inr ⟨q,he rfl⟩) _;simp
    .clear Jn s1 SU GX;obtain⟨s',rfl⟩:∃s':Nat,s= -(s':Int):=⟨s.natAbs,(oj 0x1ace0060524b001a096) q z⟩;have q1:((s':Int)==(t:Int))=false:=by simpa using q'
     have z1:¬(s':Int)<0:=(aB 0x2819490670a496) z;have z2:¬0< -(s':Int):=z;simp[q',q1,z2,z1,er,R'.mI];refine w_enter O (bK hn rfl) R' I' hb GY (t:=s') (s:=2) ((aD 0x1640ce1492c10671a09650338396) s0 q z) (by simpa using VO) (by decide) fun l jt eL xw CF m' NM k' _ he _=>?_
     simp[k'.at er vM,bl];refine fin (-l) jt _ eL xw CF m' NM k' ?_ (.inr ⟨q,he rfl⟩) _;simp
 .rintro ρ H' ⟨rest,st',bG,u,e0,GX,rfl,R',I',m,eB,nI,k,er,hR⟩;have:rest=[]:=by simpa using e0.symm
  subst this;simp;exact h r st' H' bG R' I' m eB nI k hr nr er (by rw[GX];exact(zDp _).symm) hR
end
noncomputable def tk(o:Int)(s:Nat):Bool:=Builtin.bitAnd o (s:Int) !=0
theorem tk_1{o:Int}{s:Nat}(ho:o=1\/o=2\/o=3)(hs:1<=s/\s<=3):(o≠2->aT s 1=true->tk o s=true)/\(o≠1->aT s 2=true->tk o s=true):=by have e:s=1\/s=2\/s=3:=(aB 0x1a0060021600868080b276) hs;clear hs;rcases ho with rfl |rfl |rfl<;>rcases e with rfl |rfl |rfl<;>decide
structure Go(a b:St):Prop where
 m:jW a.B b.B a.vs b.vs a.sd b.sd
 cs:∃l,b.cs=a.cs++l
theorem Go.refl{a:St}(g:Good a.B):Go a a:=⟨(Mv.refl g).m,[],(zDp _).symm⟩
theorem Go.trans{a b d:St}(x:Go a b)(y:Go b d):Go a d:=by obtain⟨l,e⟩:=x.cs;obtain⟨l',e'⟩:=y.cs;exact⟨x.m.trans y.m,l++l',by rw[e'];rw[e];rw[zFu]⟩
theorem Mv.go{a b:St}(x:Mv a b):Go a b:=⟨x.m,x.cs⟩
theorem Go.EZ{a b:St}(x:Go a b):∀c∈a.cs,c∈b.cs:=by obtain⟨l,e⟩:=x.cs;intro c h;rw[e];exact zEe _ h
theorem Ff(t:Nat)(l:List Nat):((Cp l).any fun p=>p.1==(t:Int))=decide (t∈l):=by
 rw[Bool.eq_iff_iff];simp only[Cp,any_map,any_eq_true,Function.comp_apply,beq_iff_eq,decide_eq_true_eq];constructor
 .rintro⟨x,hx,e⟩;have:x=t:=(aD 137453902134) e;exact this▸hx
 .exact fun h=>⟨t,h,rfl⟩
theorem xx(t:Nat):∀l:List Nat,t∉l->putD (t:Int) (.bool true) (Cp l)=Cp (l++[t])
 |[],_=>rfl
 |x::l,h=>by
  have h1:¬((x:Int)=(t:Int)):=by intro e;apply h;rw[show t=x by exact(aD 4309915958) e];exact .head _
  have ih:=xx t l fun h'=>h (.tail _ h');simp only[Cp]at ih;simp[Cp,aO,h1,ih]
theorem Fg{w:List (Nat×Nat)}{k:Nat}{p:Nat×Nat}(h:w[k]?=some p):(Dt w)[k]?=some (.tup [ae p.1,ae p.2]):=by simp[Dt,h]
noncomputable def c9(L:Rl->Nat)(a:Nat):Rl->Nat:=fun r=>if r= .mw then a else L r
section
variable {c:Cy} {n:Nat} {L:Rl->Nat} {H:Z} {Q:V->Z->Prop} {pf:Bool} {st:St} {K tm:Nat} {P:Row->Prop} {X:Nat->Nat->Prop} {bB sl:Nat}
theorem yZ{i j:Nat}{p:PS}{ρ:aH}{QS:SQ}{R:EQ}{x:V}{items:List V}{g:Z->Prop}(hi:iter H .seq x=some (items,g))(I:List V->aH->Z->Prop)(hg:∀l ρ H,I l ρ H->g H)
  (h0:I items ρ H) (step:∀v l ρ H K,I (v::l) ρ H->(∀cx ak,I l cx ak->K cx ak)->∃bc,jG i j v ρ=some bc/\wpS c n p bc H K R) (fin:∀ρ H,I [] ρ H->QS ρ H):wU c n i j .seq p ρ QS R x H:=by
 unfold wU wR;rw[hi];exact kE I hg (fun v l ρ H K h k=>step v l ρ H K h k) fin items ρ H h0
variable (L H pf K tm P bB) in
inductive OJ(t s:Nat)(GZ:St)(B':List Nd)(bG:List (Int×List Int))(r:Nat)(l:List V)(ρ:aH)(H':Z):Prop
 |mk (pre rest:List (Int×List Int)) (bY:St) (G0:List (List (Int×Int))) (u w:Option V) (e0:l=g9 rest) (es:bG=pre++rest) (VP:ρ=[some (.ref (L .mI)),some (ae t),some (ae s),u,w,none])
  (R:Rep L pf bY H') (I:aV K tm pf P (fun t' b=>t'=t/\aT s b=true) bB rest.length bY) (m:Mv GZ bY) (eB:bY.B=B') (hw:WL bY) (k:Kp (RM L pf) H H') (er:H' r=some (.list (g9 bG)))
  (a1:∀c∈G0,(∀p∈c,Right bY.B bY.vs bY.sd t p.1 p.2)/\jV bY.cs (c.map (·.2))) (a2:∀c∈G0,∃q∈bG,c.map (·.1)=q.2) (a3:∀q∈pre,tk q.1 s=true->∃c∈G0,c.map (·.1)=q.2)
theorem OJ.at{t s:Nat}{GZ:St}{B':List Nd}{bG:List (Int×List Int)}{r:Nat}{l:List V}{ρ:aH}{H':Z}:OJ L H pf K tm P bB t s GZ B' bG r l ρ H'->H' r=some (.list (g9 bG)) |mk _ _ _ _ _ _ _ _ _ _ _ _ _ _ _ h _ _ _=>h
theorem tO(O:cz c)(hn:6<=n)(R:Rep L pf st H){t s:Nat}(I:aV K tm pf P (fun t' b=>t'=t/\aT s b=true) bB 4 st)(hb:vL K bB)(hw:WL st)(ht:t∈st.vs)(hs:1<=s/\s<=3)(ho:opened (nd st.B t).op=true)(kG:∀r,H (L r)≠none)
  (h:∀st' H',Rep L pf st' H'->aV K tm pf P (fun _ _=>False) bB 0 st'->Mv st st'->WL st'->Kp (RM L pf) H H'->Q .none H'):
  aA c 28 n [.ref (L .mI),ae t,ae s] H Q:=by
 have ag:=aJ;obtain⟨b1,b2,b3,b4,b5⟩:=I.GV hb;obtain⟨t1,t2,t3⟩:=I.pL t ht;refine aF O (cL hn rfl) rfl ?_;simp[R.mI];refine yL O (bK hn rfl) R.aM t1 t2 ho (zk b1 rfl) fun r bG B' H1 so ne X1 k1 hr er=>?_;have R1:=R.Cr X1 k1;obtain⟨I1,m1⟩:=I.aM X1.good ne.grow (I.iJ.newEq I.good t2 ne);have nr:∀q,L q≠r:=fun q e=>kG q (by rw[e];exact hr)
 have vM:¬RM L pf r:=fun⟨q,e,_⟩=>nr q e;have PH:Kp (RM L pf) H H1:=k1.weaken fun _ h=>NG h;have y0:WL {st with B:=B'}:=hw
 generalize NN:({st with B:=B'}:St)=GZ at*
 have VQ:GZ.B=B':=by rw[←NN]
 have YR:GZ.vs=st.vs:=by rw[←NN]
 refine yZ (items:=g9 bG) (g:=fun H'=>H' r=some (.list (g9 bG))) (bF er) (OJ L H pf K tm P bB t s GZ B' bG r) (fun _ _ _ h=>h.at) ⟨[],bG,GZ,[],none,none,rfl,rfl,rfl,R1,I1.weak so.len,Mv.refl (by rw[VQ];exact X1.good),VQ,y0,PH,er,by simp,by simp,by simp⟩ ?_ ?_
 .rintro v l ρ H' K' ⟨pre,rest,bY,G0,u,w,e0,es,rfl,R',I',m,eB,nI,k,uh,hP,KH,vN⟩ kk;cases rest with
  |nil=>cases e0
  |cons q rest=>
   simp only[g9,map_cons,List.cons.injEq]at e0;obtain⟨rfl,rfl⟩:=e0;have hq:q∈bG:=by rw[es];simp
   obtain⟨c1,c2,c3⟩:=so.each q hq;refine⟨[some (.ref (L .mI)),some (ae t),some (ae s),some (.int q.1),some (.tup (q.2.map .int)),none],rfl,?_⟩;have YS:=R'.alive k kG;clear c1;obtain⟨l',ev⟩:=m.m.vs;have Fc:t∈bY.vs:=by rw[ev];rw[YR];exact zEe _ ht
   by_cases z:tk q.1 s=true
   .have z':(Builtin.bitAnd q.1 (s:Int) !=0)=true:=z;simp[z',R'.mI];refine oI O (bK hn rfl) R' I' hb nI (signed:=q.2) (t:=t) (fun x hx=>by rw[eB];exact⟨(c3 x hx).1,(c3 x hx).2.1⟩) c2 Fc (fun r2 kH H2 pr R2 I2 m2 Jo CG k2 jz YT ju zt hR=>?_) YS
    have g2:=I2.good;have r2m:¬RM L pf r2:=fun⟨q,e,_⟩=>YT q e
    have hlen:pr.length<=4:=by have:=zEy length zt;simp at this;exact(aD 493818228621350) c2 this
    simp
    have el:pr≠[]:=by clear hlen hR ju;rintro rfl;obtain⟨x,hx,_⟩:=so.snd (fun _=>true) q hq;rw[←zt]at hx;cases hx
    have YU:∀H3,Kp (RM L pf) H2 H3->H3 r=some (.list (g9 bG)):=fun H3 k3=>by refine k3.at ?_ vM;exact k2.at uh vM
    refine CE O (bK hn rfl) R2 I2 hb (ls:=pr.map (·.2)) (nE.list (ju)) (by simp;exact zk hlen rfl) ?_ ?_ ?_ ?_
    .intro x hx;obtain⟨p,hp,rfl⟩:=zAt.mp hx;exact(hR p hp).Jj g2
    .exact fun _=>⟨by simpa using el,rfl⟩
    .intro row _;obtain⟨x,hx,ex⟩:=so.snd row q hq;rw[←zt]at hx;obtain⟨p,hp,rfl⟩:=zAt.mp hx;refine⟨p.2,zAt.mpr ⟨p,hp,rfl⟩,?_⟩;rw[(hR p hp).star g2 t1 row];rw[Jo];rw[eB];exact ex
    .intro SV H3 R3 I3 m3 em NO k3;simp;have mm:=m2.trans m3;refine kk _ _ ⟨pre++[q],rest,SV,G0++[pr],_,_,rfl,by rw[es];simp,rfl,R3,I3,m.trans mm,NO.trans (Jo.trans eB),m3.wl I2 CG,(k.trans k2).trans k3,YU H3 k3,fun c hc=>?_,fun c hc=>?_,fun q' vO PK=>?_⟩
     .clear el hlen ju;rcases zAu.mp hc with hc |hc
      .obtain⟨a1,a2⟩:=hP c hc;obtain⟨q',vO,e'⟩:=KH c hc;refine⟨fun p hp=>(a1 p hp).mono mm.m ?_,a2.mono mm.EZ⟩;rw[eB];exact((so.each q' vO).2.2 p.1 (by rw[←e'];exact zAt.mpr ⟨p,hp,rfl⟩)).2.1
      .simp at hc;subst hc;refine⟨fun p hp=>(hR p hp).mono m3.m ?_,em⟩;rw[Jo];rw[eB];exact(c3 p.1 (by rw[←zt];exact zAt.mpr ⟨p,hp,rfl⟩)).2.1
     .clear em el hlen hR ju;rcases zAu.mp hc with hc |hc
      .exact KH c hc
      .simp at hc;subst hc;exact⟨q,hq,zt⟩
     .rcases zAu.mp vO with vO |vO
      .obtain⟨c,hc,e⟩:=vN q' vO PK;exact⟨c,zEe _ hc,e⟩
      .simp at vO;subst vO;exact⟨pr,by simp,zt⟩
   .have z':(Builtin.bitAnd q.1 (s:Int) !=0)=false:=by simpa[tk]using z
    simp[z',R'.mI];refine kk _ _ ⟨pre++[q],rest,bY,G0,_,_,rfl,by rw[es];simp,rfl,R',I'.weak (by simp),m,eB,nI,k,uh,hP,KH,fun q' vO PK=>?_⟩
    rcases zAu.mp vO with vO |vO
    .exact vN q' vO PK
    .simp at vO;subst vO;exact absurd PK z
 .rintro ρ H' ⟨pre,rest,bY,G0,u,w,e0,es,rfl,R',I',m,eB,nI,k,uh,hP,KH,vN⟩;have:rest=[]:=by simpa[g9]using e0.symm
  subst this;simp at es;subst es;simp;refine h bY H' R' (I'.done (.inr fun b hb cj=>⟨G0,hP,fun c hc p hp=>?_,fun row c hc=>?_,fun pY row hh=>?_,fun Df row hh=>?_⟩)) (m1.trans m) nI k
  .obtain⟨q,hq,e⟩:=KH c hc;obtain⟨a1,a2,a3⟩:=(so.each q hq).2.2 p.1 (by rw[←e];exact zAt.mpr ⟨p,hp,rfl⟩)
   exact⟨a1,by rw[eB];exact a2,by rw[eB];exact a3⟩
  .obtain⟨q,hq,e⟩:=KH c hc;obtain⟨x,hx,ex⟩:=so.snd row q hq;rw[←e]at hx;obtain⟨p,hp,rfl⟩:=zAt.mp hx;exact⟨p,hp,by rw[eB];exact ex⟩
  .clear hb;subst pY;rw[eB]at hh⊢;refine so.dh row fun q hq SW=>?_;obtain⟨c,hc,e⟩:=vN q hq ((tk_1 (so.each q hq).1 hs).1 SW cj);obtain⟨p,hp,a1,a2⟩:=hh c hc;exact⟨p.1,by rw[←e];exact zAt.mpr ⟨p,hp,rfl⟩,a1,a2⟩
  .clear hb;subst Df;rw[eB]at hh⊢;refine so.df row fun q hq SW=>?_;obtain⟨c,hc,e⟩:=vN q hq ((tk_1 (so.each q hq).1 hs).2 SW cj);obtain⟨p,hp,a1,a2⟩:=hh c hc;exact⟨p.1,by rw[←e];exact zAt.mpr ⟨p,hp,rfl⟩,a1,a2⟩
end
section
variable {c:Cy} {n:Nat} {L:Rl->Nat} {H:Z} {Q:V->Z->Prop} {pf:Bool} {st:St} {K tm:Nat} {P:Row->Prop} {X:Nat->Nat->Prop} {bB sl:Nat}
theorem aV.Fh(I:aV K tm pf P X bB sl st){t:Nat}(h:t∉st.op)(h':3<=t/\t<6):aV K tm pf P X bB sl {st with op:=st.op++[t]}:=by
 refine⟨I.good,I.oG,I.pL,I.xq,I.tH,I.wt,I.aS,I.oi,I.snd,I.yO,I.cnt,I.oH,I.iJ,⟨?_,fun u hu=>?_⟩,I.cQ⟩
 .refine zCi.mpr ⟨I.tJ.1,by simp,?_⟩
  intro a ha b hb e;simp at hb;rw[e,hb]at ha;exact h ha
 .rcases zAu.mp hu with hu |hu
  .exact I.tJ.2 u hu
  .simp at hu;subst hu;exact h'
theorem vP{B:List Nd}(g:Good B){t:Nat}(h1:1<=t)(h2:t<B.length)(h3:(nd B t).op≠2)(h:opened (nd B t).op=false):(nd B t).op=10/\3<=t/\t<6:=by
 rcases nF g h1 h2 with⟨_,e⟩ |⟨_,e⟩ |⟨k,hk,rfl,e⟩ |⟨h6,ar⟩
 .rw[e]at h;cases h
 .rw[e]at h;cases h
 .exact⟨by rw[e],(aB 58574086166) hk,(aB 2200852340758) hk⟩
 .rcases SH ar with e |e
  .exact absurd e h3
  .rw[e]at h;cases h
theorem jr.move{B:List Nd}{φ:Rl->Option aN}(R:jr L B φ H){a:Nat}(na:∀r,L r≠a){o:aN}:jr (c9 L a) B (Du φ .mw o) (H.set a o):=by
 have e:=R.aM.ei;have s:∀r,(H.set a o) (L r)=H (L r):=fun r=>Z.af _ _ (na r);refine⟨⟨fun r r'=>?_,⟨_,_,(s .kI).trans e⟩,(s .ops).trans R.aM.ops,(s .args).trans R.aM.args,(s .sorts).trans R.aM.sorts,(s .cP).trans R.aM.cP,(s .nums).trans R.aM.nums,R.aM.good,R.aM.small⟩,fun r o' h=>?_⟩
 .unfold c9;by_cases z:r= .mw<;>by_cases z':r'= .mw
  .rw[z];rw[z'];exact iff_of_true rfl rfl
  .rw[zBq z];rw[zAi z'];exact iff_of_false (fun e=>na _ e.symm) fun e=>z' (e▸z)
  .rw[zAi z];rw[zBq z'];exact iff_of_false (na _) fun e=>z (e.symm▸z')
  .rw[zAi z];rw[zAi z'];exact R.aM.inj r r'
 .unfold Du at h;unfold c9;by_cases z:r= .mw
  .rw[zBq z]at h⊢;rw[←h];exact Z.ab _ _ _
  .rw[zAi z]at h⊢;exact(s r).trans (R.at' r o' h)
variable (L H pf st K tm P bB) in
inductive FJ(m:Nat)(ρ:aH)(H':Z):Prop
 |mk (bY:St) (u w:Option V) (h0:m=bY.pend+(800-cv bY.sd)) (h1:ρ=[some (.ref (L .mI)),u,w,none]) (h2:Rep L pf bY H') (h3:aV K tm pf P (fun _ _=>False) bB 0 bY) (h4:Go st bY) (h5:WL bY) (h6:Kp (RM L pf) H H')
theorem NP{p3 c3 p2 c2 p1 c1 b:Nat}(hr:p3+c2<=p2+c3)(pe:p2+1=p1)(e:c2=c1)(h:c3<=2*b)(h8:b<=381):p3+(800-c3)<p1+(800-c1):=(WI 0x14000641ca928300019072a0a080005f7862630ba326284188b1501862a041426) hr pe e h h8
theorem xy(O:cz c)(hn:7<=n)(R:Rep L pf st H)(I:aV K tm pf P (fun _ _=>False) bB sl st)(hb:vL K bB)(hw:WL st)(kG:∀r,H (L r)≠none)
  (h:∀a st' H',H a=none->Rep (c9 L a) pf st' H'->aV K tm pf P (fun _ _=>False) bB 0 st'->st'.wait=[]->st'.aS=0->Go st st'->Kp (RM L pf) H H'->Q .none H'):
  aA c 27 n [.ref (L .mI)] H Q:=by
 have ag:=aJ;have hi:=R.aM.inj;refine aF O (cL hn rfl) rfl ?_;simp
 refine g7 (FJ L H pf st K tm P bB)
  (m:=st.pend+(800-cv st.sd)) ⟨st,none,none,rfl,rfl,R,I.weak (aB 162),Go.refl I.good,hw,Kp.refl _ _⟩ ?_
 rintro m ρ H' KK ⟨bY,u,w,rfl,rfl,R1,I1,go,y0,k⟩ kt kf;obtain⟨b1,b2,b3,b4,b5⟩:=I1.GV hb;have GY:=I1.PG hb y0;have KD:=I1.aS;have YV:=R1.alive k kG;have NI:=I1.xr;have bw:(Dt bY.wait).length<=lim:=by simp[Dt];exact BK GY rfl
 have Jp:(Dt bY.wait).length=bY.wait.length:=zCe _;simp[R1.mI,R1.mw,bw];by_cases q:bY.aS<bY.wait.length
 .have q':(bY.aS:Int)<(bY.wait.length:Int):=by exact(aP 0xe4594088582006) Jp q
  simp[Jp,q,q'];refine kt _ fun K' k'=>?_;obtain⟨p,hp⟩:∃p,bY.wait[bY.aS]?=some p:=⟨_,zAe q⟩;obtain⟨t,s⟩:=p;have t9:=Fg hp;have bs:(bY.aS:Int)<(lim:Int):=(dq 0x191e50231608818002711c08b03d09038006) ag GY Jp q;have gC:(t,s)∈bY.wait:=zFr hp;obtain⟨ht,PL,Jq⟩:=I1.wt _ gC;obtain⟨t1,t2,t3⟩:=I1.pL t ht;simp[R1.mI,R1.mw,t9,bs,yT];have I2:=I1.pop hp
  have R2:Rep L pf {bY with aS:=bY.aS+1} (H'.set (L .mI) (.inst .maker [(5,.ref (L .kI)),(6,.ref (L .tI)),(7,yS pf L),(8,.ref (L .mv)),(9,.ref (L .mt)),(10,.ref (L .ms)),(11,.ref (L .mo)),(12,.ref (L .mw)),(13,.int ((bY.aS:Int)+1))])):=
   R1.set (r:=.mI) rfl rfl rfl (fun r' hr=>by cases r'<;>first |rfl |exact absurd rfl hr)
  have k2:Kp (RM L pf) H' (H'.set (L .mI) (.inst .maker [(5,.ref (L .kI)),(6,.ref (L .tI)),(7,yS pf L),(8,.ref (L .mv)),(9,.ref (L .mt)),(10,.ref (L .ms)),(11,.ref (L .mo)),(12,.ref (L .mw)),(13,.int ((bY.aS:Int)+1))])):=(Kp.refl _ _).iN rfl;generalize H'.set (L .mI) (.inst .maker [(5,.ref (L .kI)),(6,.ref (L .tI)),(7,yS pf L),(8,.ref (L .mv)),(9,.ref (L .mt)),(10,.ref (L .ms)),(11,.ref (L .mo)),(12,.ref (L .mw)),(13,.int ((bY.aS:Int)+1))])=H2 at R2 k2;have SX:=R2.alive (k.trans k2) kG;have CG:WL {bY with aS:=bY.aS+1}:=y0
  have PM:Go st {bY with aS:=bY.aS+1}:=⟨go.m,go.cs⟩
  have pe:St.pend {bY with aS:=bY.aS+1}+1=bY.pend:=by unfold St.pend;refine(?_:bY.wait.length-(bY.aS+1)+1=_);exact(aP 0x41aad62a06b40088582006) Jp q
  have c2:cv ({bY with aS:=bY.aS+1}:St).sd=cv bY.sd:=rfl
  have VS:t<({bY with aS:=bY.aS+1}:St).B.length:=t2
  have Fc:t∈({bY with aS:=bY.aS+1}:St).vs:=ht
  have YW:(nd ({bY with aS:=bY.aS+1}:St).B t).op≠2:=t3
  generalize ({bY with aS:=bY.aS+1}:St)=kH at*
  obtain⟨d1,d2,d3,d4,d5⟩:=I2.GV hb
  repeat (refine⟨by omega,?_⟩)
  refine ?_;refine tE O (bK hn rfl) R2.aM t1 VS ?_;cases dJ:opened (nd kH.B t).op with
  |true=>
   simp[R2.mI];refine tO O (bK hn rfl) R2 I2 hb CG Fc ⟨PL,Jq⟩ dJ SX fun SV H3 R3 I3 m3 SY k3=>?_;simp;have hr:=m3.run;have YX:=I3.xr;obtain⟨e4,_⟩:=I3.GV hb;exact k' _ _ _ (NP hr pe c2 YX e4) ⟨SV,_,_,rfl,rfl,R3,I3,PM.trans m3.go,SY,(k.trans k2).trans k3⟩
  |false=>
   obtain⟨lM,h3,h6⟩:=vP I2.good t1 VS YW dJ;have any:=Ff t kH.op;simp[R2.mI,R2.mo,any];by_cases z:t∈kH.op
   .simp[z];refine k' _ _ _ ?_ ⟨kH,_,_,rfl,rfl,R2,I2.done (.inl lM),PM,CG,k.trans k2⟩;exact(rN 0x100019072a3a10000641ca8a8212030d62a03005d09300005f78026) b1 NI pe c2
   .have ol:kH.op.length<=6:=by have:=dW kH.op (List.range 6) I2.tJ.1 fun u hu=>List.mem_range.mpr (I2.tJ.2 u hu).2;exact this
    have bo:(Cp kH.op).length<lim:=by simp[Cp];exact zk ol rfl
    simp[z,R2.mI,R2.mo,bo,xx t kH.op z,hi]
    have R3:Rep L pf {kH with op:=kH.op++[t]} (H2.set (L .mo) (.ax (Cp (kH.op++[t])))):=
     R2.set (r:=.mo) rfl rfl rfl (fun r' hr=>by cases r'<;>first |rfl |exact absurd rfl hr)
    refine aF O (bK hn rfl) rfl ?_;simp;refine k' _ _ _ ?_ ⟨{kH with op:=kH.op++[t]},_,_,rfl,rfl,R3,(I2.done (.inl lM)).Fh z ⟨h3,h6⟩,⟨PM.m,PM.cs⟩,CG,(k.trans k2).role (fun z=>nomatch z)⟩
    refine(?_:St.pend {kH with op:=kH.op++[t]}+(800-cv kH.sd)<_)
    have:St.pend {kH with op:=kH.op++[t]}=kH.pend:=rfl
    exact(ur 0x4000641ca8e8400019072a5a088a0c12030d62a03005d09300005f78026) b1 NI pe c2 this
 .have q':¬(bY.aS:Int)<(bY.wait.length:Int):=by exact(aP 0x390652420196088182026) KD Jp q
  simp[Jp,q,q'];refine kf _ ?_;simp;intro a ha;have na:∀r,L r≠a:=fun r e=>YV r (by rw[e];exact ha)
  have YY:∀r,a≠L r:=fun r=>zFp (na r);simp[R1.mI,hi,na,YY,yT];have Jr:H a=none:=k.none ha fun⟨q,e,_⟩=>na q e;refine h a {bY with wait:=[],aS:=0} _ Jr (jr.rep (st':={bY with wait:=[],aS:=0}) (((R1.ro.move na).set (r:=.mI) rfl).set (r:=.mI) rfl) fun r=>?_) (I1.clear ((aP 0x4820196088182026) KD Jp q)) rfl rfl ⟨go.m,go.cs⟩ ?_
  .cases r<;>first |exact fun _ h=>h |(intro o h;obtain rfl:=so h;first |rfl |simp[Du,c9,yS,Dt])
  .first |exact((k.set (.inl Jr)).iN rfl).iN rfl |exact(k.set (.inl Jr)).iN rfl
theorem q6(O:cz c)(hn:8<=n)(R:Rep L pf st H)(I:aV K tm pf P (fun _ _=>False) bB sl st)(hb:vL K bB)(hw:WL st)(kG:∀r,H (L r)≠none){t:Nat}(h1:1<=t)(ht:t<st.B.length)
  (h:∀(l:Int) a st' H',H a=none->Rep (c9 L a) pf st' H'->aV K tm pf P (fun _ _=>False) bB 0 st'->st'.wait=[]->st'.aS=0->Go st st'->Kp (RM L pf) H H'->Ent st'.B st'.vs st'.sd t l->Q (.int l) H'):
  aA c 24 n [.ref (L .mI),ae t] H Q:=by
 refine aF O (cL hn rfl) rfl ?_;simp[R.mI];refine w_enter O (bK hn rfl) R I hb (I.PG hb hw) h1 ht (s:=3) (by decide) fun l st' H' R' I' m eB k he _ _=>?_
 simp[R'.mI];refine xy O (bK hn rfl) R' I' hb (m.wl I hw) (R'.alive k kG) fun a kH H2 ha R2 I2 CG Jq go k2=>?_;have cE:t<st'.B.length:=by rw[eB];exact ht
 have Jr:H a=none:=k.none ha fun⟨q,e,_⟩=>R'.alive k kG q (by rw[e];exact ha)
 simp;exact h l a kH H2 Jr R2 I2 CG Jq (m.go.trans go) (k.trans k2) ((he rfl).mono go.m (cE))
end
theorem nK{α:Type}(l:List α):l=[]\/∃l' x,l=l'++[x]:=by
 rcases List.eq_nil_or_concat l with h |⟨l',x,h⟩
 .exact .inl h
 .exact .inr ⟨l',x,by simpa using h⟩
noncomputable def sgn(pos:Bool)(t:Nat):Int:=if pos then(t:Int) else -(t:Int)
theorem fG{B:List Nd}{row:Row}{pos:Bool}{t:Nat}(h:1<=t):bq B row (sgn pos t)=true↔val B row t=pos:=by
 cases pos
 .simp[sgn,cA h]
 .simp[sgn,cq h]
section
variable {c:Cy} {n:Nat} {L:Rl->Nat} {H:Z} {Q:V->Z->Prop} {pf:Bool} {st:St} {K tm:Nat} {P:Row->Prop} {X:Nat->Nat->Prop} {bB sl:Nat}
variable (L H st) in
inductive NJ(args:List Nat)(r r2:Nat)(m:Nat)(ρ:aH)(H':Z):Prop
 |mk (F S:List Nat) (u:Option V) (h0:m=(S.map (wt st.B)).sum) (h1:ρ=[some (.ref (L .mI)),some (dG args),some (.ref r),some (.ref r2),u,none]) (h2:H' r=some (.list (F.map ae))) (h3:H' r2=some (.list (S.map ae))) (h4:Le H H') (h5:F.length+(S.map (wt st.B)).sum<=60) (h6:(∀t∈F,1<=t/\t<st.B.length)) (h7:(∀t∈S,1<=t/\t<st.B.length)) (h8:∀row,(F.any (val st.B row)||S.any (val st.B row))=args.any (val st.B row))
theorem nL(O:cz c)(hn:2<=n)(R:Rep L pf st H){args:List Nat}(ha:∀a∈args,1<=a/\a<st.B.length)(hw:(args.map (wt st.B)).sum<=60)
  (h:∀r (ts:List Nat) H',Le H H'->H r=none->H' r=some (.list (ts.map ae))->ts.length<=60->(∀t∈ts,1<=t/\t<st.B.length)->(∀row,ts.any (val st.B row)=args.any (val st.B row))->Q (.ref r) H'):
  aA c 33 n [.ref (L .mI),dG args] H Q:=by
 have ag:=aJ;have g:=R.aM.good
 have wsum:∀l:List Nat,l.length<=(l.map (wt st.B)).sum:=fun l=>by
  induction l with
  |nil=>exact zAq _
  |cons x l ih=>have:=jo g x;simp;exact(aP 0x22a2c14212c982026) ih this
 have yy:=wsum args;refine aF O (cL hn rfl) rfl ?_;have bl:args.length<=1000000:=(aD 0x7a1207024009300000f38026) hw yy;simp[dG,ag,bl];intro r hr r2 jz;have NQ:r2≠r:=by rintro rfl;rw[Z.ab]at jz;exact sn jz.symm rfl
 have CH:H r2=none:=by rw[Z.af _ _ NQ]at jz;exact jz
 refine g7 (NJ L H st args r r2)
  (m:=(args.reverse.map (wt st.B)).sum) ⟨[],args.reverse,none,rfl,rfl,by simp[Z.af,Z.ab,Ne.symm NQ],by simp[Z.ab],(Le.fresh hr).trans (Le.fresh jz),by simpa using hw,by simp,by simpa using ha,by simp⟩ ?_
 rintro m ρ H' KK ⟨F,S,u,rfl,rfl,e1,e2,le,hlen,hF,hS,hv⟩ kt kf;have KI:=wsum S;have bS:S.length<=lim:=(dq 0xc8432600001e7041a1303d09038006) ag hlen KI;have be:=R.aM.ei;have R':=R.le le;clear KI;rcases nK S with rfl |⟨S',t,rfl⟩
 .simp[e2];refine kf _ ?_;simp;exact h r F H' le hr e1 (by simp at hlen;exact jl hlen rfl) hF (fun row=>by have:=hv row;simpa using this)
 .obtain⟨t1,t2⟩:=hS t (by simp)
  have pos:(0:Int)<(S'.length:Int)+1:=aB 184969380;simp at bS;simp[e2,bS,pos];refine kt _ fun K' k'=>?_;have VT:S'.length+1<=1000000:=jl bS rfl;simp[e2,bS];have rK:=le.set (a:=r2) (o:=.list (S'.map ae)) (.inl CH);have R2:=R.le rK;have qT:(H'.set r2 (.list (S'.map ae))) r=some (.list (F.map ae)):=by rw[Z.af _ _ (zFp NQ)];exact e1
  have EO:(H'.set r2 (.list (S'.map ae))) r2=some (.list (S'.map ae)):=Z.ab _ _ _;generalize H'.set r2 (.list (S'.map ae))=H2 at*;have PN:=R2.aM.kI;obtain⟨ba2,bb2,PN⟩:=PN;simp at hlen;have Js:=gf g t;have S0:=wsum S';simp[R2.mI,PN];refine yI O (bK hn rfl) R2.aM t2 ?_;by_cases q:(nd st.B t).op=4
  .have hl:(nd st.B t).args.length<=60:=by have:=wsum (nd st.B t).args;exact(rN 0x1e708432130d7410300000f3820d01426) hlen Js this
   simp[q,EO,R2.mI,PN];refine jn O (bK hn rfl) R2.aM t2 ?_;have NS:S'.length+(nd st.B t).args.length<=1000000:=(ur 0xf4240e1494200001e70a4c12130d7410300000f3820d01426) hlen Js S0 hl;simp[dG,EO,ag,NS];refine k' ((S'++(nd st.B t).args.reverse).map (wt st.B)).sum _ _ ?_ ⟨F,S'++(nd st.B t).args.reverse,_,rfl,rfl,by rw[Z.af _ _ (zFp NQ)];exact qT,by simp[Z.ab],rK.set (.inl CH),?_,hF,fun x hx=>?_,fun row=>?_⟩
   .simp;exact(aD 4574838790) Js
   .simp;exact(dq 0x79c18680a10d7410300000f3820d01426) hlen Js
   .rcases zAu.mp hx with hx |hx
    .exact hS x (by simp[hx])
    .have:=g.args (t:=t) (a:=x) (by simpa using hx)
     exact(aP 0x22112c9c02112c9d82016) t2 this
   .rw[←hv row];have:=val_eq g row t;rw[q]at this;simp only[List.any_append,any_cons,List.any_nil,this,k8_0,k8_1,k8_2,k8_3,k8_4,k8_5,k8_6,k8_7,k8_8,k8_9,k8_93,k8_10,k8_18,any_map,List.any_reverse];simp[Function.comp_def]
  .have q':((nd st.B t).op==4)=false:=by simp[q]
   have NS:F.length<1000000:=(dq 0x1e8481c008d7410300000f3820d01426) hlen Js;simp[q',qT,ag,NS];refine k' (S'.map (wt st.B)).sum _ _ ?_ ⟨F++[t],S',_,rfl,rfl,by simp[Z.ab],by rw[Z.af _ _ NQ];exact EO,rK.set (.inl hr),?_,fun x hx=>?_,fun x hx=>hS x (by simp[hx]),fun row=>?_⟩
   .simp;exact(aD 43229544454) Js
   .simp;exact(dq 0x79c0ac14a10d7410300000f3820d01426) hlen Js
   .rcases zAu.mp hx with hx |hx
    .exact hF x hx
    .simp at hx;subst hx;exact⟨t1,t2⟩
   .rw[←hv row];simp only[List.any_append,any_cons,List.any_nil,Bool.or_false];cases F.any (val st.B row)<;>cases S'.any (val st.B row)<;>cases val st.B row t<;>rfl
end
structure tP(st:St)(bG:List (Int×Int)):Prop where
 len:bG.length<=60
 each:∀p∈bG,p.1≠0/\p.1.natAbs<st.B.length/\Ent st.B st.vs st.sd p.1 p.2
theorem tP.mono{st st':St}{bG:List (Int×Int)}(l:tP st bG)(m:jW st.B st'.B st.vs st'.vs st.sd st'.sd):tP st' bG:=
 ⟨l.len,fun p hp=>by obtain⟨a,b,d⟩:=l.each p hp;exact⟨a,by have:=m.gr.len;exact(Ot 0x83421013001a16) b this,d.mono m b⟩⟩
noncomputable def dX(pos:Bool)(e:PE):PE:=if pos then .au (.var 0) 22 (.cons e (.cons (.glob (.int 1)) .nil)) else .neg (.au (.var 0) 22 (.cons e (.cons (.glob (.int 2)) .nil)))
theorem kJ{pos:Bool}{t:Nat}(h:1<=t):sgn pos t≠0/\(sgn pos t).natAbs=t:=by cases pos<;>simp[sgn]<;>exact(aB 21477198630) h
section
variable {c:Cy} {n:Nat} {L:Rl->Nat} {H:Z} {Q:V->Z->Prop} {pf:Bool} {st:St} {K tm:Nat} {P:Row->Prop} {X:Nat->Nat->Prop} {bB sl:Nat}
theorem j0(O:cz c)(hn:3<=n)(R:Rep L pf st H)(I:aV K tm pf P X bB sl st)(hb:vL K bB)(hw:WL st){t:Nat}(h1:1<=t)(ht:t<st.B.length)(pos:Bool){e:PE}{ρ:aH}(h0:cO ρ 0=some (.ref (L .mI)))(he:∀Q',bA c n e ρ H Q'=Q' (ae t) H)
  (h:∀(l:Int) st' H',Rep L pf st' H'->aV K tm pf P X bB sl st'->Mv st st'->st'.B=st.B->WL st'->Kp (RM L pf) H H'->Ent st'.B st'.vs st'.sd (sgn pos t) l->Q (.int l) H'):bA c n (dX pos e) ρ H Q:=by
 have GY:=I.PG hb hw;cases pos with
 |true=>
  simp only[dX,if_true];simp[h0,R.mI];unfold cO at h0;simp[h0,R.mI,he];refine w_enter O hn R I hb GY h1 ht (s:=1) (by decide) fun l st' H' R' I' m eB k he _ _=>?_
  exact h l st' H' R' I' m eB (m.wl I hw) k (he rfl)
 |false=>
  simp only[dX,false_eq_true,if_false];simp[h0,R.mI];unfold cO at h0;simp[h0,R.mI,he];refine w_enter O hn R I hb GY h1 ht (s:=2) (by decide) fun l st' H' R' I' m eB k _ he _=>?_
  simp;exact h (-l) st' H' R' I' m eB (m.wl I hw) k (he rfl)
variable (L H pf st K tm P X bB sl) in
inductive CJ(ts:List Nat)(pos:Bool)(l:List V)(acc:List V)(H':Z):Prop
 |mk (rest:List Nat) (st':St) (bG:List (Int×Int)) (h0:l=rest.map ae) (h1:acc=(bG.map (·.2)).map .int) (h2:bG.map (·.1)++rest.map (sgn pos)=ts.map (sgn pos)) (h3:(∀t∈rest,t∈ts)) (h4:Rep L pf st' H') (h5:aV K tm pf P X bB sl st') (h6:Mv st st') (h7:st'.B=st.B) (h8:WL st') (h9:Kp (RM L pf) H H') (lM:tP st' bG)
theorem CJ.at{ts:List Nat}{pos:Bool}{l:List V}{acc:List V}{H':Z}:CJ L H pf st K tm P X bB sl ts pos l acc H'->Kp (RM L pf) H H' |mk _ _ _ _ _ _ _ _ _ _ _ _ h _=>h
theorem nM(O:cz c)(hn:3<=n)(R:Rep L pf st H)(I:aV K tm pf P X bB sl st)(hb:vL K bB)(hw:WL st)(kG:∀r,H (L r)≠none){ts:List Nat}(PO:∀t∈ts,1<=t/\t<st.B.length)(hl:ts.length<=60){x:V}{g:Z->Prop}(hi:iter H .seq x=some (ts.map ae,g))(hg:∀H',Kp (RM L pf) H H'->g H')(pos:Bool){a1 a2 a3 a4:Option V}
  (fin:∀r st' H' (bG:List (Int×Int)),Rep L pf st' H'->aV K tm pf P X bB sl st'->Mv st st'->st'.B=st.B->WL st'->Kp (RM L pf) H H'->H r=none->H' r=some (.list ((bG.map (·.2)).map .int))->bG.map (·.1)=ts.map (sgn pos)->tP st' bG->Q (.ref r) H'):
  iO c n (dX pos (.var 5)) 5 .seq (.cst (.bool true)) [some (.ref (L .mI)),a1,a2,a3,a4,none] Q x H:=by
 have ag:=aJ
 refine fB hi (by simp;exact jl hl rfl) (CJ L H pf st K tm P X bB sl ts pos)
  (fun _ _ _ j=>hg _ j.at) ⟨ts,st,[],rfl,rfl,rfl,fun _ h=>h,R,I,Mv.refl I.good,rfl,hw,Kp.refl _ _,⟨by simp,by simp⟩⟩ ?_ ?_
 .rintro v l acc H' K' ⟨rest,st',bG,e0,rfl,es,dj,R',I',m,eB,nI,k,lt⟩ kk;cases rest with
  |nil=>cases e0
  |cons t rest=>
   simp only[map_cons,List.cons.injEq]at e0;obtain⟨rfl,rfl⟩:=e0;obtain⟨t1,t2⟩:=PO t (dj t (.head _));have hlen:=zEy length es;simp at hlen;refine j0 O hn R' I' hb nI t1 (by rw[eB];exact t2) pos rfl (fun Q'=>by simp) fun l jt eL xw CF VU NT CI Jt en=>?_
   have lt':=lt.mono VU.m;refine kk _ _ ⟨rest,jt,bG++[(sgn pos t,l)],rfl,by simp,by rw[←es];simp,fun u hu=>dj u (.tail _ hu),xw,CF,m.trans VU,NT.trans eB,CI,k.trans Jt,⟨by simp;exact(aP 0x1df024058a81a0300000f38026) hl hlen,fun p hp=>?_⟩⟩
   rcases zAu.mp hp with hp |hp
   .exact lt'.each p hp
   .simp at hp;subst hp;obtain⟨s1,s2⟩:=kJ (pos:=pos) t1;exact⟨s1,by rw[s2];rw[NT];rw[eB];exact t2,en⟩
 .rintro acc H' r ⟨rest,st',bG,e0,rfl,es,dj,R',I',m,eB,nI,k,lt⟩ hr;have:rest=[]:=by simpa using e0.symm
  clear dj e0;subst this;have lv:=R'.alive k kG;have q7:H r=none:=k.none hr fun⟨q,e,_⟩=>lv q (by rw[e];exact hr)
  exact fin r st' _ bG (R'.le (Le.fresh hr)) I' m eB nI (k.set (.inl q7)) q7 (Z.ab _ _ _) (by simpa using es) lt
theorem xA{B:List Nd}{row:Row}{pos:Bool}{ts:List Nat}(h:∀t∈ts,1<=t){bG:List (Int×Int)}(e:bG.map (·.1)=ts.map (sgn pos)):(∃p∈bG,bq B row p.1=true)↔∃t∈ts,val B row t=pos:=by
 constructor
 .rintro⟨p,hp,hv⟩;have:p.1∈ts.map (sgn pos):=by rw[←e];exact zAt.mpr ⟨p,hp,rfl⟩
  obtain⟨t,ht,e'⟩:=zAt.mp this;exact⟨t,ht,(fG (h t ht)).mp (by rw[e'];exact hv)⟩
 .rintro⟨t,ht,hv⟩;have:sgn pos t∈bG.map (·.1):=by rw[e];exact zAt.mpr ⟨t,ht,rfl⟩
  obtain⟨p,hp,e'⟩:=zAt.mp this;exact⟨p,hp,by rw[e'];exact(fG (h t ht)).mpr hv⟩
theorem q8(O:cz c)(hn:4<=n)(R:Rep L pf st H)(I:aV K tm pf P X bB sl st)(hb:vL K bB)(hw:WL st)(kG:∀r,H (L r)≠none){t:Nat}{jd:Bool}(h1:1<=t)(ht:t<st.B.length)(h2:(nd st.B t).op≠2)(Fe:wt st.B t<=60)
  (h0:((nd st.B t).op=0->jd=false)/\((nd st.B t).op=1->jd=true))
  (h:∀r st' H' (bG:List (Int×Int)),Rep L pf st' H'->aV K tm pf P X bB sl st'->Mv st st'->st'.B=st.B->WL st'->Kp (RM L pf) H H'->H r=none->H' r=some (.list ((bG.map (·.2)).map .int))->tP st' bG->(∀row,(∃p∈bG,bq st.B row p.1=true)↔val st.B row t=jd)->Q (.ref r) H'):
  aA c 32 n [.ref (L .mI),ae t,.bool jd] H Q:=by
 have ag:=aJ;have g:=R.aM.good;have be:=R.aM.ei;have ve:=fun row=>val_eq g row t;have pa:=fun a (h:a∈(nd st.B t).args)=>g.args h;have we:=gf g t
 have wsum:∀l:List Nat,l.length<=(l.map (wt st.B)).sum:=fun l=>by
  induction l with
  |nil=>exact zAq _
  |cons x l ih=>have:=jo g x;simp;exact(aP 0x22a2c14212c982026) ih this
 have yy:=wsum (nd st.B t).args
 have nil:∀r,H r=none->(∀row,val st.B row t≠jd)->Q (.ref r) (H.set r (.list [])):=fun r hr hv=>h r st _ [] (R.le (Le.fresh hr)) I (Mv.refl g) rfl hw (Le.fresh hr).kp hr (Z.ab _ _ _) ⟨by simp,by simp⟩ fun row=>by simp;exact hv row
 refine aF O (cL hn rfl) rfl ?_;simp[R.mI,be];refine yI O (bK hn rfl) R.aM ht ?_;simp[R.mI,be];refine jn O (bK hn rfl) R.aM ht ?_
 have own:∀(l2:V),bA c (n-1) (.list (.cons (dX jd (.var 1)) .nil)) [some (.ref (L .mI)),some (ae t),some (.bool jd),some (.str (nd st.B t).op),some l2,none] H Q:=fun l2=>by
  rw[bX];rw[bX];refine j0 O (bK hn rfl) R I hb hw h1 ht jd rfl (fun Q'=>by simp) fun l st' H' R' I' m eB nI k en=>?_
  simp[ag];intro r hr;have lv:=R'.alive k kG;have q7:H r=none:=k.none hr fun⟨q,e,_⟩=>lv q (by rw[e];exact hr)
  obtain⟨s1,s2⟩:=kJ (pos:=jd) h1;refine h r st' _ [(sgn jd t,l)] (R'.le (Le.fresh hr)) I' m eB nI (k.set (.inl q7)) q7 (Z.ab _ _ _) ⟨succ_pos _,?_⟩ fun row=>?_
  .simp;exact⟨s1,by rw[s2];rw[eB];exact ht,en⟩
  .simp;exact fG h1
 generalize dJ:(nd st.B t).op=op at*;have e2:(op==2)=false:=by simpa using h2
 by_cases e0:op=0
 .clear h e2 own h2 dJ;subst e0;obtain rfl:=h0.1 rfl;simp[ag];exact fun r hr=>nil r hr fun row=>by rw[ve];simp
 by_cases e1:op=1
 .clear h e0 e2 own h2 dJ;subst e1;obtain rfl:=h0.2 rfl;simp[ag];exact fun r hr=>nil r hr fun row=>by rw[ve];simp
 have NU:(op==0)=false:=by simpa using e0
 have qT:(op==1)=false:=by simpa using e1
 have E1:dX true (.var 5)= .au (.var 0) 22 (.cons (.var 5) (.cons (.glob (.int 1)) .nil)):=rfl;have E2:dX false (.var 5)= .neg (.au (.var 0) 22 (.cons (.var 5) (.cons (.glob (.int 2)) .nil))):=rfl;have F1:dX true (.var 1)= .au (.var 0) 22 (.cons (.var 1) (.cons (.glob (.int 1)) .nil)):=rfl;have F2:dX false (.var 1)= .neg (.au (.var 0) 22 (.cons (.var 1) (.cons (.glob (.int 2)) .nil))):=rfl;simp[ag,NU];rw[qT];rw[Mh];simp[ag];by_cases e4:op=4/\jd=true
 .clear nil qT NU e1 e0 e2 own h0 h2 dJ;obtain⟨rfl,rfl⟩:=e4;simp[R.mI];refine nL O (bK hn rfl) R (fun a ha=>?_) ((aD 0x79c09057400300000f38026) Fe we) fun r ts H' le hr er hl PO hv=>?_
  .have:=pa a ha;exact(aP 0x22112c9c02112c9d82016) ht this
  rw[←E1];have R':=R.le le;refine nM O (bK hn rfl) R' I hb hw (R'.alive (le.kp (S:=RM L pf)) kG) PO hl (g:=fun eL=>eL r=some (.list (ts.map ae))) (bF er) (fun eL k=>?_) true fun r2 st' eL bG xw CF m eB CI k jz ju es lt=>?_
  .refine k.at er fun⟨q,e,_⟩=>?_;exact kG q (by rw[e];exact hr)
  .refine h r2 st' eL bG xw CF m eB CI (le.kp.trans k) (le.none jz fun h=>h) ju lt fun row=>?_;rw[xA (fun t ht=>(PO t ht).1) es];rw[ve];have:=hv row;simp only[k8_0,k8_1,k8_2,k8_3,k8_4,k8_5,k8_6,k8_7,k8_8,k8_9,k8_93,k8_10,k8_18,any_map];rw[Bool.eq_iff_iff]at this;simp only[any_eq_true,Function.comp_apply,id]at this⊢;exact this
 have n4:(op==4)=false\/jd=false:=by
  clear own h0 nil h;cases jd
  .exact .inr rfl
  .exact .inl (by simpa using e4)
 by_cases e3:op=3/\jd=false
 .clear nil n4 e4 qT NU e1 e0 e2 own h0 h2 dJ;obtain⟨rfl,rfl⟩:=e3;simp;rw[←E2];refine nM O (bK hn rfl) R I hb hw kG (ts:=(nd st.B t).args) (fun a ha=>?_) ((aP 0x1e70441113057400300000f38026) Fe we yy) (g:=fun _=>True) rfl (fun _ _=>trivial) false fun r2 st' eL bG xw CF m eB CI k jz ju es lt=>?_
  .have:=pa a ha;exact(aP 0x22112c9c02112c9d82016) ht this
  .refine h r2 st' eL bG xw CF m eB CI k jz ju lt fun row=>?_;rw[xA (fun a ha=>(pa a ha).1) es];rw[ve];simp only[k8_0,k8_1,k8_2,k8_3,k8_4,k8_5,k8_6,k8_7,k8_8,k8_9,k8_93,k8_10,k8_18,all_map];rw[List.all_eq_false];simp
 by_cases e6:op=6/\jd=true
 .clear yy we Fe nil e3 n4 e4 qT NU e1 e0 e2 own h0 h2;obtain⟨rfl,rfl⟩:=e6
  have ar:(nd st.B t).args.length=2:=by
   rcases nF g h1 ht with⟨_,e⟩ |⟨_,e⟩ |⟨k,hk,rfl,e⟩ |⟨h6,ar⟩
   .rw[e]at dJ;simp at dJ
   .rw[e]at dJ;simp at dJ
   .rw[e]at dJ;simp at dJ
   .rw[dJ]at ar;exact eq_of_beq ar
  obtain⟨x,y,ea⟩:=iM ar;have hx:=pa x (by rw[ea];exact .head _)
  have hy:=pa y (by rw[ea];exact .tail _ (.head _))
  simp only[ea,dG,map_cons,map_nil];have G1:∀e,dX true e= .au (.var 0) 22 (.cons e (.cons (.glob (.int 1)) .nil)):=fun _=>rfl;have G2:∀e,dX false e= .neg (.au (.var 0) 22 (.cons e (.cons (.glob (.int 2)) .nil))):=fun _=>rfl
  have goal:bA c (n-1) (.list (.cons (dX false (.sub (.var 4) (.cst (.int 0)))) (.cons (dX true (.sub (.var 4) (.cst (.int 1)))) .nil))) [some (.ref (L .mI)),some (ae t),some (.bool true),some (.str 6),some (.tup [ae x,ae y]),none] H Q:=by
   rw[bX];rw[bX];refine j0 O (bK hn rfl) R I hb hw hx.1 ((aP 0x88402112c9d82016) ht hx) false rfl (fun Q'=>rfl) fun l st' H' R' I' m eB nI k en=>?_;rw[D2];rw[bX];refine j0 O (bK hn rfl) R' I' hb nI hy.1 (by rw[eB];exact(aP 0x88402112c9d82016) ht hy) true rfl (fun Q'=>rfl) fun l2 kH H2 R2 I2 m2 Jo CG k2 YZ=>?_
   simp[ag];intro r hr;have lv:=R2.alive (k.trans k2) kG;have q7:H r=none:=(k.trans k2).none hr fun⟨q,e,_⟩=>lv q (by rw[e];exact hr)
   obtain⟨s1,s2⟩:=kJ (pos:=false) hx.1;obtain⟨s3,s4⟩:=kJ (pos:=true) hy.1;have Y0:=en.mono m2.m (by rw[s2];rw[eB];exact(aP 0x88402112c9d82016) ht hx)
   refine h r kH _ [(sgn false x,l),(sgn true y,l2)] (R2.le (Le.fresh hr)) I2 (m.trans m2) (Jo.trans eB) CG ((k.trans k2).set (.inl q7)) q7 (Z.ab _ _ _) ⟨by simp,?_⟩ fun row=>?_
   .simp;exact⟨⟨s1,by rw[s2];rw[Jo];rw[eB];exact(aP 0x88402112c9d82016) ht hx,Y0⟩,s3,by rw[s4];rw[Jo];rw[eB];exact(aP 0x88402112c9d82016) ht hy,YZ⟩
   .simp only[mem_cons,not_mem_nil,or_false,exists_eq_or_imp,exists_eq_left];rw[fG hx.1];rw[fG hy.1];rw[ve];rw[ea];simp
  simp[G1,G2]at goal;simp;exact goal
 have o1:=own (dG (nd st.B t).args);clear qT NU e1 e0 e2 ve h2 dJ n4 own h0 nil h;cases jd with
 |true=>
  have Y1:(op==4)=false:=by simpa using e4
  have Y2:(op==6)=false:=by simpa using e6
  rw[F1]at o1;simp at o1;by_cases z:op=3
  .subst z;simp;exact o1
  .have z':(op==3)=false:=by simpa using z
   simp[Y1,Y2,z'];exact o1
 |false=>
  have Y3:(op==3)=false:=by simpa using e3
  rw[F2]at o1;simp at o1;by_cases z:op=4
  .subst z;simp;exact o1
  .have z':(op==4)=false:=by simpa using z
   by_cases z6:op=6
   .subst z6;simp;exact o1
   .have Y4:(op==6)=false:=by simpa using z6
    simp[Y3,z',Y4];exact o1
end
noncomputable def ui(S:List (Nat×Bool)):List V:=S.map fun q=>.tup [ae q.1,.bool q.2]
noncomputable def oJ(B:List Nd)(S:List (Nat×Bool)):Nat:=(S.map fun q=>wt B q.1).sum
theorem dZ{B:List Nd}{S T:List (Nat×Bool)}:oJ B (S++T)=oJ B S+oJ B T:=by simp[oJ]
theorem xB{B:List Nd}(g:Good B)(S:List (Nat×Bool)):S.length<=oJ B S:=by
 induction S with
 |nil=>exact zAq _
 |cons x l ih=>have:=jo g x.1;simp[oJ]at ih⊢;exact(aP 0x22a2c14212c982026) ih this
structure PJ(st bY:St)(tg:Row->Prop)(S:List (Nat×Bool))(done:List (List (Int×Int))):Prop where
 ok:∀q∈S,1<=q.1/\q.1<st.B.length
 dn:∀c∈done,tP bY c/\jV bY.cs (c.map (·.2))
 PQ:∀row,tg row↔(∀c∈done,∃p∈c,bq st.B row p.1=true)/\∀q∈S,val st.B row q.1=q.2
theorem PJ.stack{st bY:St}{tg:Row->Prop}{S S':List (Nat×Bool)}{done:List (List (Int×Int))}(j:PJ st bY tg S done)(h:∀q∈S',1<=q.1/\q.1<st.B.length)(e:∀row,(∀q∈S,val st.B row q.1=q.2)↔∀q∈S',val st.B row q.1=q.2):PJ st bY tg S' done:=
 ⟨h,j.dn,fun row=>by rw[j.PQ row];rw[e row]⟩
theorem qq.ff{c:Cy}{n:Nat}{b:PE}{ρ:aH}{Q:BQ}{r:Bool}{H:Z}(h1:Q false H->eV c n b ρ H Q)(h:Q false H):qq c n b ρ Q r H:=by
 cases r
 .exact h
 .exact h1 h
theorem HR.tt{c:Cy}{n:Nat}{b:PE}{ρ:aH}{Q:BQ}{r:Bool}{H:Z}(h1:Q true H->eV c n b ρ H Q)(h:Q true H):HR c n b ρ Q r H:=by
 cases r
 .exact h1 h
 .exact h
section
variable {c:Cy} {n:Nat} {L:Rl->Nat} {H:Z} {Q:V->Z->Prop} {st:St} {K tm:Nat} {P:Row->Prop} {bB sl:Nat}
variable (L H st K tm P bB) in
inductive AJ(t r m:Nat)(ρ:aH)(H':Z):Prop
 |mk (bY:St) (S:List (Nat×Bool)) (done:List (List (Int×Int))) (u3 u4 u5 u6 u7 u8 u9:Option V) (em:m=oJ st.B S) (VP:ρ=[some (.ref (L .mI)),some (ae t),some (.ref r),u3,u4,u5,u6,u7,u8,u9,none]) (R:Rep L false bY H') (I:aV K tm false P (fun _ _=>False) bB (oJ st.B S) bY) (m1:Mv st bY) (eB:bY.B=st.B) (hw:WL bY) (k:Kp (RM L false) H H')
  (er:H' r=some (.list (ui S))) (le:oJ st.B S<=60) (J:PJ st bY (fun row=>val st.B row t=true) S done)
variable (L H) in
inductive Y5(bY:St)(as:List Nat)(S':List (Nat×Bool))(hl:Bool)(r:Nat)(e:Option V->aH)(l:List V)(ρ:aH)(H':Z):Prop
 |mk (pre rest:List Nat) (u9:Option V) (e0:l=rest.map ae) (e1:as.reverse=pre++rest) (VP:ρ=e u9) (er:H' r=some (.list (ui (S'++pre.map fun a=>(a,hl))))) (R:Rep L false bY H') (k:Kp (RM L false) H H')
theorem nN(O:cz c)(hn:6<=n)(R:Rep L false st H){t:Nat}(I:aV K tm false P (fun _ _=>False) bB (wt st.B t) st)(hb:vL K bB)(hw:WL st)(kG:∀r,H (L r)≠none)(h1:1<=t)(ht:t<st.B.length)(Fe:wt st.B t<=60)(hP:∀row,P row->val st.B row t=true)
  (h:∀st' H' (done:List (List (Int×Int))),Rep L false st' H'->aV K tm false P (fun _ _=>False) bB 0 st'->Mv st st'->st'.B=st.B->WL st'->Kp (RM L false) H H'->(∀c∈done,tP st' c/\jV st'.cs (c.map (·.2)))->(∀row,(∀c∈done,∃p∈c,bq st'.B row p.1=true)->val st'.B row t=true)->Q .none H'):
  aA c 31 n [.ref (L .mI),ae t] H Q:=by
 have ag:=aJ;have hi:=R.aM.inj;have g:=R.aM.good;refine aF O (cL hn rfl) rfl ?_;simp[ag];intro r hr;have nr:∀q,L q≠r:=fun q e=>kG q (by rw[e];exact hr)
 have vM:¬RM L false r:=fun⟨q,e,_⟩=>nr q e
 have repr:∀{bY:St} {H1:Z} (o:aN),Rep L false bY H1->Rep L false bY (H1.set r o):=fun{bY H1} o R1=>by refine R1.mk' rfl (fun q _=>Z.af _ _ (nr q)) fun q o ho=>?_;rw[Z.af _ _ (nr q)];exact R1.at' q o ho
 refine g7 (AJ L H st K tm P bB t r) (m:=oJ st.B [(t,true)]) ⟨st,[(t,true)],[],none,none,none,none,none,none,none,rfl,rfl,repr _ R,I,Mv.refl g,rfl,hw,(Le.fresh hr).kp,Z.ab _ _ _,Fe,⟨by simp;exact(aD 0x8040b27080580b26) h1 ht,by simp,by simp⟩⟩ ?_
 rintro m ρ H' KK ⟨bY,S,done,u3,u4,u5,u6,u7,u8,u9,rfl,rfl,R1,I1,m1,eB,y0,k,er,lC,J⟩ kt kf;have KI:=xB g S;have bS:S.length<=lim:=(aP 0x2208898000079c09303d09038006) ag lC KI;rcases nK S with rfl |⟨S',⟨u,b⟩,rfl⟩
 .simp[er,ui];refine kf _ ?_;simp;refine h bY H' done R1 (I1.weak (cL KI rfl)) m1 eB y0 k J.dn fun row hd=>?_;rw[eB]at hd⊢;exact(J.PQ row).mpr ⟨hd,by simp⟩
 .clear KI;obtain⟨q1,q2⟩:=J.ok (u,b) (by simp)
  have pos:(0:Int)<(S'.length:Int)+1:=aB 184969380;simp at bS;simp[er,ui,bS,pos];refine kt _ fun K' k'=>?_;have VT:S'.length+1<=1000000:=jl bS rfl;simp[er,ui,bS];have R2:=repr (.list (ui S')) R1;have k2:Kp (RM L false) H (H'.set r (.list (ui S'))):=k.set (.inl hr);have ju:(H'.set r (.list (ui S'))) r=some (.list (ui S')):=Z.ab _ _ _;simp only[ui]at R2 k2 ju;generalize H'.set r (.list (S'.map fun q=>V.tup [ae q.1,V.bool q.2]))=H2 at*;simp only[dZ]at I1 lC⊢;have NV:=xB g S';have wu:oJ st.B [(u,b)]=wt st.B u:=rfl;rw[wu]at I1 lC;have be:=R2.aM.ei;simp[R2.mI];refine js O (bK hn rfl) R2 q1 (by rw[eB];exact q2) fun i sg cZ=>?_
  rw[eB]at cZ;obtain⟨f1,f2,f3,f4,f5,f6,f7⟩:=cZ.facts g;have i1:=f2 q1;have i2:i<st.B.length:=lt_of_le_of_lt f1 q2;have S6:i<bY.B.length:=by rw[eB];exact i2
  have wi:=gf g i;have ve:=fun row=>val_eq g row i;have pa:=fun a (h:a∈(nd st.B i).args)=>g.args h
  have gE:∀row,val st.B row u=b↔val st.B row i=(b==decide (0<sg)):=fun row=>by
   rw[f7 row];rcases f4 with rfl |rfl
   .simp
   .cases val st.B row i<;>cases b<;>decide
  have q9:∀row,(∀q∈S'++[(u,b)],val st.B row q.1=q.2)↔(∀q∈S',val st.B row q.1=q.2)/\val st.B row i=(b==decide (0<sg)):=fun row=>by simp only[mem_append,mem_singleton,or_imp,forall_and,forall_eq];rw[gE row]
  simp;generalize jd:(b==decide (0<sg))=hl at*;simp[R2.mI,be];refine yI O (bK hn rfl) R2.aM S6 ?_;simp[R2.mI,be];refine jn O (bK hn rfl) R2.aM S6 ?_;rw[eB];simp[ag];have CK:∀q∈S',1<=q.1/\q.1<st.B.length:=fun q hq=>J.ok q (by simp[hq])
  have CL:∀k,k=3\/k=4\/k=6->(nd st.B i).op=k->jS k (nd st.B i).args.length=true:=fun k hk e=>by
   rcases nF g i1 i2 with⟨_,e'⟩ |⟨_,e'⟩ |⟨_,_,_,e'⟩ |⟨h6,ar⟩
   .rw[e']at e;simp at e;exact False.elim ((aB 0xa0281a00070021a0086) hk e)
   .rw[e']at e;simp at e;exact False.elim ((aB 0xa02c1a00070021a0086) hk e)
   .rw[e']at e;simp at e;exact False.elim ((aB 0x140000005701a00070021a0086) hk e)
   .rw[←e];exact ar
  have loop:∀(u7 u8:Option V) (VV:∀row,val st.B row i=hl↔∀a∈(nd st.B i).args,val st.B row a=hl) (u5 u6:Option V),uF c (n-1) 9 (.ll ()) (.seq (.expr (.append (.var 2) (.tup (.cons (.var 9) (.cons (.var 4) .nil))))) .skip) [some (.ref (L .mI)),some (ae t),some (.ref r),some (ae u),some (.bool hl),u5,u6,u7,u8,u9,none] K' Q (dG (nd st.B i).args) H2:=fun u7 u8 VV u5 u6=>by
   have yy:(nd st.B i).args.length<=60:=by
    have:∀l:List Nat,l.length<=(l.map (wt st.B)).sum:=fun l=>by
     induction l with
     |nil=>exact zAq _
     |cons x l ih=>have:=jo g x;simp;exact(aP 0x22a2c14212c982026) ih this
    have:=this (nd st.B i).args;exact(ur 0x79c2910a4c45d060c11930440c00003ce041426) lC wu f6 wi this
   have hit:iter H2 (.ll ()) (dG (nd st.B i).args)=some ((nd st.B i).args.reverse.map ae,fun _=>True):=by exact(xR (by simp;exact jl yy rfl)).trans (by rw[List.map_reverse])
   refine cI hit (Y5 L H bY (nd st.B i).args S' hl r fun u9=>[some (.ref (L .mI)),some (ae t),some (.ref r),some (ae u),some (.bool hl),u5,u6,u7,u8,u9,none]) (fun _ _ _ _=>trivial) ⟨[],_,u9,rfl,rfl,rfl,by simpa[ui]using ju,R2,k2⟩ ?_ ?_
   .rintro v l ρ H3 K3 ⟨pre,rest,u9,e0,zt,rfl,CM,R3,k3⟩ kk;cases rest with
    |nil=>cases e0
    |cons a rest=>
     simp only[map_cons,List.cons.injEq]at e0;obtain⟨rfl,rfl⟩:=e0;have iI:=zEy length zt;simp at iI;have bl:(ui (S'++pre.map fun a=>(a,hl))).length<1000000:=by simp[ui];exact lt_of_le_of_lt (Nat.add_le_add (zDo NV (zDo (zCw _ _) lC)) (zDo (zCw _ _) (zDo (Nat.le_of_eq iI.symm) yy))) (by decide)
     simp[CM,ag,bl];refine kk _ _ ⟨pre++[a],rest,_,rfl,by rw[zt];simp,rfl,by rw[Z.ab];simp[ui],repr _ R3,k3.set (.inl hr)⟩
   .rintro ρ H3 ⟨pre,rest,u9,e0,zt,rfl,CM,R3,k3⟩;have:rest=[]:=by simpa using e0.symm
    subst this;simp at zt;subst zt
    have ws:oJ st.B ((nd st.B i).args.reverse.map fun a=>(a,hl))+1=wt st.B i:=by rw[wi];simp only[oJ,map_map];rw[show ((fun q:Nat×Bool=>wt st.B q.1)∘fun a=>(a,hl))=wt st.B from rfl];rw[List.map_reverse];rw[List.sum_reverse];exact aB 195215680
    refine k' (oJ st.B (S'++(nd st.B i).args.reverse.map fun a=>(a,hl))) _ _ ?_ ⟨bY,_,done,_,_,_,_,_,_,_,rfl,rfl,R3,I1.weak ?_,m1,eB,y0,k3,CM,?_,J.stack (fun q hq=>?_) fun row=>?_⟩
    .simp only[dZ,wu];exact(ur 0x25a10b4112c94061ae8206088982006) wu f6 wi ws
    .rw[dZ];exact(ur 0x25a10b4212c94061ae8206088982006) wu f6 wi ws
    .rw[dZ];exact(ur 0x79c28284359680c45d060c11930440c00003ce041426) lC wu f6 wi ws
    .rcases zAu.mp hq with hq |hq
     .exact CK q hq
     .obtain⟨a,ha,rfl⟩:=zAt.mp hq;have:=pa a (by simpa using ha)
      exact⟨this.1,by refine(?_:a<_);exact(aP 0x88402112c9d82016) i2 this⟩
    .rw[q9 row];rw[VV row];simp only[mem_append,or_imp,forall_and,mem_map,List.mem_reverse,forall_exists_index,and_imp,forall_apply_eq_imp_iff₂]
  generalize dJ:(nd st.B i).op=op at*;by_cases c1:op=3/\hl=true
  .clear q9 gE jd CL f3 dJ;obtain⟨rfl,rfl⟩:=c1;simp;refine loop _ _ (fun row=>?_) _ _;rw[ve];simp[all_map]
  by_cases c2:op=4/\hl=false
  .clear q9 gE jd c1 CL f3 dJ;obtain⟨rfl,rfl⟩:=c2;simp;refine loop _ _ (fun row=>?_) _ _;rw[ve];simp[any_map]
  by_cases c3:op=6/\hl=false
  .clear loop gE jd c2 c1 f3 dJ;obtain⟨rfl,rfl⟩:=c3;obtain⟨x,y,ea⟩:=iM (eq_of_beq (CL 6 (by decide) rfl))
   have hx:=pa x (by rw[ea];exact .head _)
   have hy:=pa y (by rw[ea];exact .tail _ (.head _))
   have bl:S'.length<1000000:=ub VT rfl;have NS:S'.length+1<1000000:=(rN 0x1e8481c5868232030824c00003ce0c542602c34265873452303d09038006) ag pos bS lC NV wu;simp[ea,dG,ju,ag,bl,NS]
   have ws:oJ st.B [(y,false),(x,true)]+1=wt st.B i:=by rw[wi];rw[ea];simp[oJ];exact aD 28787203385664
   refine k' (oJ st.B (S'++[(y,false),(x,true)])) _ _ ?_ ⟨bY,S'++[(y,false),(x,true)],done,_,_,_,_,_,_,_,rfl,rfl,repr _ (repr _ R2),I1.weak ?_,m1,eB,y0,(k2.set (.inl hr)).set (.inl hr),by rw[Z.ab];simp[ui],?_,J.stack (fun q hq=>?_) fun row=>?_⟩
   .simp only[dZ,wu];exact(ur 0x25a10b4112c94061ae8206088982006) wu f6 wi ws
   .rw[dZ];exact(ur 0x25a10b4212c94061ae8206088982006) wu f6 wi ws
   .rw[dZ];exact(ur 0x79c28284359680c45d060c11930440c00003ce041426) lC wu f6 wi ws
   .rcases zAu.mp hq with hq |hq
    .exact CK q hq
    .simp at hq;rcases hq with rfl |rfl
     .exact⟨hy.1,by refine(?_:y<_);exact(aP 0x88402112c9d82016) i2 hy⟩
     .exact⟨hx.1,by refine(?_:x<_);exact(aP 0x88402112c9d82016) i2 hx⟩
   .rw[q9 row];rw[ve];rw[ea];simp only[mem_append,or_imp,forall_and,mem_cons,not_mem_nil,or_false,forall_eq_or_imp,forall_eq,k8_0,k8_1,k8_2,k8_3,k8_4,k8_5,k8_6,k8_7,k8_8,k8_9,k8_93,k8_10,k8_18,map_cons,map_nil];cases val st.B row x<;>cases val st.B row y<;>simp
  by_cases c4:op=0/\hl=true
  .clear loop gE jd c3 c2 c1 CL f3 dJ;obtain⟨rfl,rfl⟩:=c4;simp;refine k' (oJ st.B S') _ _ ?_ ⟨bY,S',done,_,_,_,_,_,_,_,rfl,rfl,R2,I1.weak ((aP 148722163718) wu),m1,eB,y0,k2,ju,(aP 0x79c010440c00003ce041426) lC wu,J.stack CK fun row=>?_⟩
   .have:=jo g u;simp only[dZ,wu];exact(aP 0x8a8210ac982006) wu this
   .rw[q9 row];rw[ve];simp
  by_cases c5:op=1/\hl=false
  .clear loop gE jd c4 c3 c2 c1 CL f3 dJ;obtain⟨rfl,rfl⟩:=c5;simp;refine k' (oJ st.B S') _ _ ?_ ⟨bY,S',done,_,_,_,_,_,_,_,rfl,rfl,R2,I1.weak ((aP 148722163718) wu),m1,eB,y0,k2,ju,(aP 0x79c010440c00003ce041426) lC wu,J.stack CK fun row=>?_⟩
   .have:=jo g u;simp only[dZ,wu];exact(aP 0x8a8210ac982006) wu this
   .rw[q9 row];rw[ve];simp
  have SX:=R2.alive k2 kG;have PT:=jo g u;have FH:(nd bY.B i).op≠2:=by rw[eB];rw[dJ];exact f3
  have emit:∀ρ:aH,(∃u5 u6 u7 u8 u9,ρ=[some (.ref (L .mI)),some (ae t),some (.ref r),some (ae u),some (.bool hl),u5,u6,u7,u8,u9,none])->aA c 32 (n-1) [.ref (L .mI),ae i,.bool hl] H2 fun v H3=>aA c 25 (n-1) [.ref (L .mI),.str 17,v,.none] H3 fun v4 H4=>v4= .none/\K' ρ H4:=by
   rintro ρ ⟨u5,u6,u7,u8,u9,rfl⟩;refine q8 O (bK hn rfl) R2 (I1.weak (SN:=oJ st.B S'+1) ((aP 0x22a2c5420ac982006) wu PT)) hb y0 SX (t:=i) (jd:=hl) i1 S6 FH (by rw[eB];exact(rN 0x79c190564c45d060c11930440c00003ce041426) lC wu f6 wi PT) (by rw[eB];rw[dJ];exact⟨fun e=>by simpa[e]using c4,fun e=>by simpa[e]using c5⟩) fun r2 kH H3 bG R3 I3 m3 NO SY k3 jz CM lt Ju=>?_
   rw[eB]at NO;refine CE O (bK hn rfl) R3 I3 hb (ls:=bG.map (·.2)) (nE.list CM) (by have:=lt.len;simp;exact zk this rfl) (fun l hl=>?_) (fun h=>ft rfl h) (fun row hr=>?_) fun Y6 H4 R4 I4 m4 em Y7 k4=>⟨rfl,?_⟩
   .obtain⟨p,hp,rfl⟩:=zAt.mp hl;exact(lt.each p hp).2.2.Jj R3.aM.good
   .have hv:=((J.PQ row).mp (hP row hr)).2;have Y8:=((q9 row).mp hv).2;have s3:=Ju row;rw[eB]at s3;obtain⟨p,hp,hs⟩:=s3.mpr Y8;refine⟨p.2,zAt.mpr ⟨p,hp,rfl⟩,?_⟩;rw[(lt.each p hp).2.2.star R3.aM.good row];rw[NO];exact hs
   .have mm:=m3.trans m4;refine k' (oJ st.B S') _ _ ?_ ⟨Y6,S',done++[bG],_,_,_,_,_,_,_,rfl,rfl,R4,I4,m1.trans mm,Y7.trans NO,m4.wl I3 SY,(k2.trans k3).trans k4,?_,(aP 0x1e700415930440c00003ce041426) lC wu PT,⟨CK,fun c hc=>?_,fun row=>?_⟩⟩
    .simp only[dZ,wu];exact(aP 0x8a8210ac982006) wu PT
    .have e3:H3 r=some (.list (ui S')):=k3.at ju vM;exact k4.at e3 vM
    .clear Ju CM;rcases zAu.mp hc with hc |hc
     .obtain⟨a1,a2⟩:=J.dn c hc;exact⟨a1.mono mm.m,a2.mono mm.EZ⟩
     .simp at hc;subst hc;exact⟨lt.mono m4.m,em⟩
    .rw[J.PQ row];rw[q9 row];simp only[mem_append,mem_singleton,or_imp,forall_and,forall_eq];have s3:=Ju row;rw[eB]at s3;rw[s3];constructor
     .rintro⟨x,y,z⟩;exact⟨⟨x,z⟩,y⟩
     .rintro⟨⟨x,z⟩,y⟩;exact⟨x,y,z⟩
  have last:∀(u5 u6 u7 u8 u9:Option V) (QQ:EQ),(∀v H3,aA c 25 (n-1) [.ref (L .mI),.str 17,v,.none] H3 (fun v4 H4=>v4= .none/\K' [some (.ref (L .mI)),some (ae t),some (.ref r),some (ae u),some (.bool hl),u5,u6,u7,u8,u9,none] H4)->QQ v H3)->aA c 32 (n-1) [.ref (L .mI),ae i,.bool hl] H2 QQ:=
   fun u5 u6 u7 u8 u9 QQ hq=>(emit _ ⟨u5,u6,u7,u8,u9,rfl⟩).mono hq
  clear emit loop q9 gE jd;cases hl with
  |true=>
   have n3:(op==3)=false:=by simpa using c1
   have n0:(op !=0)=true:=by simpa using c4
   have VW:(op==0)=false:=by simpa using c4
   simp[n3,n0,VW,R2.mI];refine qq.ff (fun h=>h) ?_;simp;refine qq.ff (fun h=>h) ?_;simp[n0];refine HR.tt (fun h=>by simpa[VW]using h) ?_
   simp[R2.mI];refine last (some (ae i)) (some (.int sg)) (some (.str op)) (some (dG (nd st.B i).args)) u9 _ fun v H3 hv=>?_;simp;refine hv.mono ?_;rintro _ H4 ⟨rfl,hk⟩;exact hk
  |false=>
   have n4:(op==4)=false:=by simpa using c2
   have n6:(op==6)=false:=by simpa using c3
   have n1:(op !=1)=true:=by simpa using c5
   refine qq.ff (fun h=>h) ?_
   cases z0:(op==0)<;>
    (have VX:(op !=0)=!(op==0):=rfl
     rw[z0]at VX;simp[n4,n6,n1,z0,VX,R2.mI];refine last (some (ae i)) (some (.int sg)) (some (.str op)) (some (dG (nd st.B i).args)) u9 _ fun v H3 hv=>?_;simp;refine hv.mono ?_;rintro _ H4 ⟨rfl,hk⟩;exact hk)
theorem fH(O:cz c)(hn:8<=n)(R:Rep L false st H){t:Nat}(I:aV K tm false P (fun _ _=>False) bB (wt st.B t) st)(hb:vL K bB)(hw:WL st)(kG:∀r,H (L r)≠none)(h1:1<=t)(ht:t<st.B.length)(Fe:wt st.B t<=60)(hP:∀row,P row->val st.B row t=true){x:V}
  (h:∀a st' H' (done:List (List (Int×Int))),H a=none->Rep (c9 L a) false st' H'->aV K tm false P (fun _ _=>False) bB 0 st'->st'.wait=[]->st'.aS=0->Go st st'->Kp (RM L false) H H'->(∀c∈done,(∀p∈c,p.1≠0/\p.1.natAbs<st'.B.length/\Ent st'.B st'.vs st'.sd p.1 p.2)/\jV st'.cs (c.map (·.2)))->(∀row,(∀c∈done,∃p∈c,bq st'.B row p.1=true)->val st'.B row t=true)->Q .none H'):
  aA c 30 n [.ref (L .mI),ae t,x] H Q:=by
 refine aF O (cL hn rfl) rfl ?_;simp[R.mI,yS];refine nN O (bK hn rfl) R I hb hw kG h1 ht Fe hP fun bY H1 done R1 I1 m1 eB y0 k1 hd hs=>?_;simp[R1.mI];refine xy O (bK hn rfl) R1 I1 hb y0 (R1.alive k1 kG) fun a kH H2 ha R2 I2 CG Jq go k2=>?_;have Jr:H a=none:=k1.none ha fun⟨q,e,_⟩=>R1.alive k1 kG q (by rw[e];exact ha)
 simp;have g1:=I1.good;have g2:=I2.good;refine h a kH H2 done Jr R2 I2 CG Jq (m1.go.trans go) (k1.trans k2) (fun cc hc=>?_) fun row hh=>?_
 .obtain⟨l,e⟩:=hd cc hc;exact⟨(l.mono go.m).each,e.mono go.EZ⟩
 .rw[bN g1 g2 go.m.gr row t (by rw[eB];exact ht)]
  refine hs row fun cc hc=>?_;obtain⟨p,hp,hv⟩:=hh cc hc;refine⟨p,hp,?_⟩;rw[←hv];exact(tC g1 g2 go.m.gr row ((hd cc hc).1.each p hp).2.1).symm
end
noncomputable def gj(m:List (Nat×Bool)):List (Int×V):=m.map fun p=>((p.1:Int),.bool p.2)
theorem tQ(t:Nat):∀m:List (Nat×Bool),aj (t:Int) (gj m)=(aj t m).map V.bool:=by
 intro zl
 induction zl with
 |nil=>
  exact rfl
 |cons zp l ih=>
  obtain⟨x,w⟩:=zp;have ih:=ih;by_cases q:x=t
  .clear ih;subst q;simp[gj,aK]
  .have q':¬((x:Int)=(t:Int)):=by exact(aD 62699245535382) q
   simp only[gj]at ih;simp[gj,aK,q,q',ih]
theorem rh(t:Nat)(b:Bool):∀m:List (Nat×Bool),putD (t:Int) (.bool b) (gj m)=gj (putD t b m):=by
 intro zl
 induction zl with
 |nil=>
  exact rfl
 |cons zp l ih=>
  obtain⟨x,w⟩:=zp;have ih:=ih;by_cases q:x=t
  .clear ih;subst q;simp[gj,aO]
  .have q':¬((x:Int)=(t:Int)):=by exact(aD 62699245535382) q
   simp only[gj]at ih;simp[gj,aO,q,q',ih]
theorem Fi(t:Nat):∀m:List (Nat×Bool),((gj m).any fun p=>p.1==(t:Int))=(aj t m).isSome:=by
 intro zl
 induction zl with
 |nil=>
  exact rfl
 |cons zp l ih=>
  obtain⟨x,w⟩:=zp;have ih:=ih;by_cases q:x=t
  .clear ih;subst q;simp[gj,aK]
  .have q':((x:Int)==(t:Int))=false:=by simp;exact(aD 62699245535382) q
   simp only[gj]at ih;simp only[gj,map_cons,any_cons,q',Bool.false_or,aK,q,if_false,ih]
theorem iB{m:List (Nat×Bool)}:(gj m).length=m.length:=zCe _
theorem nO{κ β:Type}[DecidableEq κ](k:κ)(v:β):∀l:List (κ×β),(putD k v l).length=if (aj k l).isSome then l.length else l.length+1
 |[]=>rfl
 |(x,w)::l=>by
  by_cases q:x=k
  .subst q;simp[aO,aK]
  .simp[aO,aK,q,nO k v l];split<;>rfl
theorem CN{κ β:Type}[DecidableEq κ](k:κ)(v w:β):∀l:List (κ×β),putD k v (putD k w l)=putD k v l:=by
 intro zl
 induction zl with
 |nil=>
  simp[aO]
 |cons zp l ih=>
  obtain⟨x,u⟩:=zp;by_cases q:x=k
  .subst q;simp[aO]
  .simp[aO,q,ih]
def rL(a:Nat->Bool)(m:List (Nat×Bool)):Prop:=∀k b,aj k m=some b->a k=b
noncomputable def dO(m:List (Nat×Bool)):List Int->Option (List Int)
 |[]=>some []
 |l::ls=>match aj l.natAbs m with
  |some b=>if b=decide (0<l) then none else dO m ls
  |none=>(dO m ls).map (l::·)
theorem eU{m:List (Nat×Bool)}{l:Int}{ls:List Int}:dO m (l::ls)=match aj l.natAbs m with
  |some b=>if b=decide (0<l) then none else dO m ls
  |none=>(dO m ls).map (l::·):=rfl
set_option tactic.hygienic true in
theorem vQ{m:List (Nat×Bool)}{a:Nat->Bool}(h:rL a m):∀cl,dO m cl=none->hU a cl:=by
 intro zl
 induction zl with
 |nil=>
  rintro e;exact sn e.symm rfl
 |cons l ls ih=>
  rintro e;rw[eU]at e;generalize hb:aj l.natAbs m=o at e;cases o
  rotate_left
  .rename_i b;dsimp only at e
   split at e
   .rename_i q
    refine⟨l,.head _,?_⟩;have:=h _ _ hb;unfold eY;rw[this];rw[q];by_cases z:0<l<;>simp[z]
   .obtain⟨x,hx,e⟩:=ih e;exact⟨x,.tail _ hx,e⟩
  .obtain⟨x,hx,e⟩:=ih (by simpa using e)
   exact⟨x,.tail _ hx,e⟩
set_option tactic.hygienic true in
theorem jv{m:List (Nat×Bool)}:∀cl left,dO m cl=some left->(∀l∈left,l∈cl/\aj l.natAbs m=none)/\left.length<=cl.length/\∀a,rL a m->(hU a cl↔∃l∈left,eY a l=true):=by
 intro zl
 induction zl with
 |nil=>
  rintro left e;simp[dO]at e;subst e;simp[hU]
 |cons l ls ih=>
  rintro left e;rw[eU]at e;generalize hb:aj l.natAbs m=o at e;cases o
  rotate_left
  .rename_i b;dsimp only at e
   split at e
   .exact sn e rfl
   .rename_i q
    obtain⟨h1,h2,h3⟩:=ih left e;refine⟨fun x hx=>⟨.tail _ (h1 x hx).1,(h1 x hx).2⟩,by simp;exact(aD 1518808342566) h2,fun a ha=>?_⟩
    rw[←h3 a ha];constructor
    .rintro⟨x,hx,ex⟩;rcases zAy.mp hx with rfl |hx
     .exfalso;have:=ha _ _ hb;unfold eY at ex;rw[this]at ex;by_cases z:0<x<;>cases b<;>simp[z]at ex q
     .exact⟨x,hx,ex⟩
    .rintro⟨x,hx,ex⟩;exact⟨x,.tail _ hx,ex⟩
  .obtain⟨G3,e',rfl⟩:=zBt.mp e;clear e;obtain⟨h1,h2,h3⟩:=ih G3 e';refine⟨fun x hx=>?_,by simp;exact(aD 134750246) h2,fun a ha=>?_⟩
   .rcases zAy.mp hx with rfl |hx
    .exact⟨.head _,hb⟩
    .exact⟨.tail _ (h1 x hx).1,(h1 x hx).2⟩
   .constructor
    .rintro⟨x,hx,ex⟩;rcases zAy.mp hx with rfl |hx
     .exact⟨x,.head _,ex⟩
     .obtain⟨y,hy,ey⟩:=(h3 a ha).mp ⟨x,hx,ex⟩;exact⟨y,.tail _ hy,ey⟩
    .rintro⟨x,hx,ex⟩;rcases zAy.mp hx with rfl |hx
     .exact⟨x,.head _,ex⟩
     .obtain⟨y,hy,ey⟩:=(h3 a ha).mpr ⟨x,hx,ex⟩;exact⟨y,.tail _ hy,ey⟩
noncomputable def cV(cs:List (List Int)):List V:=cs.map fun c=>.tup (c.map .int)
section
variable {c:Cy} {n:Nat} {H:Z} {Q:V->Z->Prop}
variable (H) in
inductive Y9(m:List (Nat×Bool))(cl:List Int)(v r:Nat)(l:List V)(ρ:aH)(H':Z):Prop
 |mk (ls acc:List Int) (u:Option V) (h0:l=ls.map .int) (h1:dO m cl=(dO m ls).map (acc++·)) (h2:ρ=[some (.tup (cl.map .int)),some (.ref v),some (.ref r),u,none]) (h3:H' r=some (.list (acc.map .int))) (h4:Le H H') (h5:acc.length+ls.length<=cl.length)
theorem CO(O:cz c)(hn:1<=n){v:Nat}{m:List (Nat×Bool)}{cl:List Int}(hv:H v=some (.ax (gj m)))(hl:cl.length<1000)
  (h1:dO m cl=none->∀H',Le H H'->Q .none H') (h2:∀left,dO m cl=some left->∀r H',Le H H'->H r=none->H' r=some (.list (left.map .int))->Q (.ref r) H'):
  aA c 58 n [.tup (cl.map .int),.ref v] H Q:=by
 have ag:=aJ;refine aF O hn rfl ?_;simp;intro r hr;have vr:v≠r:=pV hv hr
 refine cI (items:=cl.map .int) (g:=fun _=>True) rfl (Y9 H m cl v r) (fun _ _ _ _=>trivial)
  ⟨cl,[],none,rfl,by simp,rfl,Z.ab _ _ _,Le.fresh hr,by simp⟩ ?_ ?_
 .rintro x l ρ H' K ⟨ls,acc,u,e0,ho,rfl,er,le,hlen⟩ kk;cases ls with
  |nil=>cases e0
  |cons l0 ls=>
   simp only[map_cons,List.cons.injEq]at e0;obtain⟨rfl,rfl⟩:=e0;have KG:H' v=some (.ax (gj m)):=le.at hv (fun h=>h);have e1:=Fi l0.natAbs m;have e2:=tQ l0.natAbs m;simp only[length_cons]at hlen;rw[eU]at ho;cases q:aj l0.natAbs m with
   |none=>
    simp only[q]at ho e1 e2;have b1:acc.length<lim:=(dq 0x22102c74150981e8481c0830000fa38016) hl ag hlen;simp[KG,e1,er,b1];refine kk _ _ ⟨ls,acc++[l0],_,rfl,?_,rfl,by rw[Z.ab];simp,le.set (.inl hr),by simp;exact(aP 0x10560a5084b0d01426) hlen⟩
    rw[ho];cases dO m ls<;>simp
   |some b=>
    simp only[q]at ho e1 e2;by_cases z:b=decide (0<l0)
    .rw[zBq z]at ho;have z':(b==decide (0<l0))=true:=by rw[z];simp
     simp[KG,e1,e2,z'];exact h1 (by rw[ho];rfl) _ le
    .rw[zAi z]at ho;have z':(b==decide (0<l0))=false:=by simpa using z
     simp[KG,e1,e2,z'];exact kk _ _ ⟨ls,acc,_,rfl,ho,rfl,er,le,(aP 0x4105084b0d01426) hlen⟩
 .rintro ρ H' ⟨ls,acc,u,e0,ho,rfl,er,le,hlen⟩;have:ls=[]:=by simpa using e0.symm
  clear hlen e0;subst this;simp;exact h2 acc (by rw[ho];simp[dO]) r H' le hr er
structure Part(N:Nat)(cs:List (List Int))(m m':List (Nat×Bool)):Prop where
 keep:∀k b,aj k m=some b->aj k m'=some b
 sat:∀a,rL a m->(∀c∈cs,hU a c)->rL a m'
 key:(m'.map (·.1)).Nodup/\∀q∈m',1<=q.1/\q.1<=N
 len:m.length<=m'.length
def Jv(m:List (Nat×Bool))(cl:List Int):Prop:=∀left,dO m cl=some left->2<=left.length
structure Fj(N:Nat)(cs:List (List Int)):Prop where
 n:N<=1000
 len:cs.length<=5000
 each:∀c∈cs,c.length<1000/\∀l∈c,l≠0/\l.natAbs<=N
theorem fh{N:Nat}{m:List (Nat×Bool)}(h:(m.map (·.1)).Nodup/\∀q∈m,1<=q.1/\q.1<=N):m.length<=N:=by
 have:=dW (m.map (·.1)) (range' 1 N) h.1 fun k hk=>by obtain⟨p,hp,rfl⟩:=zAt.mp hk;have:=h.2 p hp;simp[mem_range'];exact⟨p.1-1,(aD 0xac15108080b276) this,(aD 0x160aae80008080b276) this⟩
 simpa using this
set_option tactic.hygienic true in
theorem nP{N:Nat}{m:List (Nat×Bool)}(h:(m.map (·.1)).Nodup/\∀q∈m,1<=q.1/\q.1<=N){k:Nat}{b:Bool}(hk:1<=k/\k<=N):((putD k b m).map (·.1)).Nodup/\∀q∈putD k b m,1<=q.1/\q.1<=N:=by
 refine⟨?_,fun q hq=>?_⟩
 .rw[nH];split
  .exact h.1
  .rename_i z
   refine zCi.mpr ⟨h.1,by simp,?_⟩
   intro a ha b hb e;simp only[mem_singleton]at hb;rw[e,hb]at ha;exact z ha
 .rcases tL hq with rfl |hq
  .exact hk
  .exact h.2 q hq
theorem Part.refl{N:Nat}{cs:List (List Int)}{m:List (Nat×Bool)}(h:(m.map (·.1)).Nodup/\∀q∈m,1<=q.1/\q.1<=N):Part N cs m m:=⟨fun _ _ h=>h,fun _ h _=>h,h,zAq _⟩
set_option tactic.hygienic true in
theorem Part.unit{N:Nat}{cs:List (List Int)}{m m':List (Nat×Bool)}(C:Fj N cs)(p:Part N cs m m'){cl:List Int}{l:Int}(hc:cl∈cs)(ho:dO m' cl=some [l]):Part N cs m (putD l.natAbs (decide (0<l)) m')/\(putD l.natAbs (decide (0<l)) m').length=m'.length+1:=by
 obtain⟨o1,o2,o3⟩:=jv _ _ ho;clear o2 ho;obtain⟨q1,q2⟩:=o1 l (.head _);have e:(putD l.natAbs (decide (0<l)) m').length=m'.length+1:=by rw[nO];rw[q2];rfl
 obtain⟨c1,c2⟩:=(C.each cl hc).2 l q1;refine⟨⟨fun k b h=>?_,fun a ha hs k b h=>?_,nP p.key ((oj 0x1a206964e00689940396) c1 c2),by have:=p.len;exact(aP 0x8822265868006) e this⟩,e⟩
 .have:=p.keep k b h;rw[bP];split
  .rename_i z;rw[←z,q2]at this;exact sn this rfl
  .exact this
 .rw[bP]at h;have hm:=p.sat a ha hs;split at h
  .rename_i z
   obtain⟨x,hx,ex⟩:=(o3 a hm).mp (hs cl hc);simp at hx;subst hx;simp only[Option.some.injEq]at h;rw[←z];rw[←h];unfold eY at ex;by_cases z:0<x
   .simpa[z]using ex
   .simpa[z]using ex
  .exact hm k b h
variable (H) in
inductive Za(N p v r:Nat)(cs:List (List Int))(m:List (Nat×Bool))(k:Nat)(ρ:aH)(H':Z):Prop
 |mk (m1:List (Nat×Bool)) (b:Bool) (u w:Option V) (h0:k=2*(N-m1.length)+(if b then 1 else 0)) (h1:ρ=[some (.ref p),some (.ref v),some (.ref r),some (.bool b),u,w,none]) (h2:H' r=some (.ax (gj m1))) (h3:Le H H') (h4:Part N cs m m1) (h5:(b=false->∀c∈cs,Jv m1 c))
variable (H) in
inductive S7(N p v r:Nat)(cs:List (List Int))(m m1:List (Nat×Bool))(l:List V)(ρ:aH)(eL:Z):Prop
 |mk (j7:List (List Int)) (m2:List (Nat×Bool)) (b:Bool) (u w:Option V) (h0:l=cV j7) (h1:(∀c∈j7,c∈cs)) (h2:ρ=[some (.ref p),some (.ref v),some (.ref r),some (.bool b),u,w,none]) (h3:eL r=some (.ax (gj m2))) (h4:Le H eL) (h5:Part N cs m m2) (h6:(b=false->m2=m1/\∀c∈cs,c∈j7\/Jv m1 c)) (h7:(b=true->m1.length<m2.length))
theorem S7.at{N p v r:Nat}{cs:List (List Int)}{m m1:List (Nat×Bool)}{l:List V}{ρ:aH}{eL:Z}:S7 H N p v r cs m m1 l ρ eL->Le H eL |mk _ _ _ _ _ _ _ _ _ h _ _ _=>h
theorem tR(O:cz c)(hn:2<=n){p v N:Nat}{m:List (Nat×Bool)}{cs:List (List Int)}(C:Fj N cs)(hp:H p=some (.list (cV cs)))(hv:H v=some (.ax (gj m)))(hk:(m.map (·.1)).Nodup/\∀q∈m,1<=q.1/\q.1<=N)
  (h1:(∀a,rL a m->¬∀c∈cs,hU a c)->∀H',Le H H'->Q .none H') (h2:∀m' r H',Part N cs m m'->(∀c∈cs,Jv m' c)->Le H H'->H r=none->H' r=some (.ax (gj m'))->Q (.ref r) H'):
  aA c 59 n [.ref p,.ref v] H Q:=by
 have ag:=aJ;have hN:=C.n;have S8:=fh hk;refine aF O (cL hn rfl) rfl ?_;have b1:m.length<=lim:=(aP 0x22088980007d1c09303d09038006) ag hN S8;simp[hv,iB,b1];intro r hr
 try simp[ag]
 refine g7 (Za H N p v r cs m)
  (m:=2*(N-m.length)+1) ⟨m,true,none,none,rfl,rfl,Z.ab _ _ _,Le.fresh hr,Part.refl hk,by simp⟩ ?_
 rintro k ρ H' KK ⟨m1,b,u,w,rfl,rfl,er,le,pt,hf⟩ kt kf;cases b with
 |false=>
  simp;refine kf _ ?_;simp;exact h2 m1 r H' pt (hf rfl) le hr er
 |true=>
  simp;refine kt _ fun K' k'=>?_;have t9:H' p=some (.list (cV cs)):=le.at hp (fun h=>h);simp
  refine cI (items:=cV cs) (g:=fun H'=>H' p=some (.list (cV cs))) (bF t9) (S7 H N p v r cs m m1) (fun _ _ _ j=>j.at.at hp fun h=>h)
   ⟨cs,m1,false,_,_,rfl,fun _ h=>h,rfl,er,le,pt,fun _=>⟨rfl,fun c h=>.inl h⟩,by simp⟩ ?_ ?_
  .rintro x l ρ eL K ⟨j7,m2,b,u',w',e0,dj,rfl,uh,lh,CP,t7,pY⟩ kk;cases j7 with
   |nil=>cases e0
   |cons cl j7=>
    simp only[cV,map_cons,List.cons.injEq]at e0;obtain⟨rfl,rfl⟩:=e0;have rU:=dj cl (.head _);have CQ:∀c∈j7,c∈cs:=fun c h=>dj c (.tail _ h);clear dj;obtain⟨c1,c2⟩:=C.each cl rU;have NW:=fh CP.key;simp;refine CO O (bK hn rfl) uh c1 (fun ho H3 oK=>?_) fun left ho r1 H3 oK uj Dw=>?_
    .have e3:H3 r=some (.ax (gj m2)):=oK.at uh (fun h=>h);simp[ag];intro r2 jz;have CR:=lh.trans (oK.set (o:=.list []) (.inl (oK.none jz fun h=>h)));have S9:r≠r2:=pV e3 jz;refine kk _ _ ⟨j7,m2,b,_,_,rfl,CQ,rfl,by rw[Z.af _ _ S9];exact e3,CR,CP,fun hb=>⟨(t7 hb).1,fun c hc=>?_⟩,pY⟩
     rcases(t7 hb).2 c hc with h |h
     .rcases zAy.mp h with rfl |h
      .exact .inr fun left hl=>by rw[←(t7 hb).1,ho]at hl;exact sn hl rfl
      .exact .inl h
     .exact .inr h
    .have e3:H3 r=some (.ax (gj m2)):=oK.at uh (fun h=>h);obtain⟨o1,o2,o3⟩:=jv _ _ ho;simp[ag];intro r2 jz;have S9:r≠r2:=pV e3 jz;have VY:r≠r1:=pV uh uj;have Tg:r1≠r2:=pV Dw jz;have CR:=lh.trans (oK.set (o:=.list []) (.inl (oK.none jz fun h=>h)))
     have eqv:xQ (left.map V.int) []=some (decide (left=[])):=by clear o3 o2 o1 Dw ho;cases left<;>rfl
     have e4:(H3.set r2 (.list [])) r=some (.ax (gj m2)):=by rw[Z.af _ _ S9];exact e3
     have e5:(H3.set r2 (.list [])) r1=some (.list (left.map .int)):=by rw[Z.af _ _ Tg];exact Dw
     have e6:(H3.set r2 (.list [])) r2=some (.list []):=Z.ab _ _ _;generalize H3.set r2 (.list [])=H4 at CR e4 e5 e6;simp[e5,e6,eqv];cases left with
     |nil=>
      simp;refine h1 (fun a ha hs=>?_) _ CR;obtain⟨x,hx,_⟩:=(o3 a (CP.sat a ha hs)).mp (hs cl rU);cases hx
     |cons l0 left=>
      have bl:left.length+1<=lim:=by simp at o2;exact(aP 0xb15082b150980007d1c08b03d09038006) ag c1 o2
      simp[e5,bl];cases left with
      |nil=>
       have bm:(gj m2).length<lim:=by rw[iB];exact(aP 0x21088980007d1c09303d09038006) ag hN NW
       have b0:(0:Int)<lim:=(aB 0x195203d09038006) ag;obtain⟨pu,lu⟩:=CP.unit C rU ho;have pv:=rh l0.natAbs (decide (0<l0)) m2;simp[e5,e4,bm,b0,pv];have hlen:=CP.len;refine kk _ _ ⟨j7,_,true,_,_,rfl,CQ,rfl,Z.ab _ _ _,CR.set (.inl hr),pu,by simp,fun _=>?_⟩
       rw[lu];cases b with
       |false=>rw[(t7 rfl).1];exact aB 5777409
       |true=>have:=pY rfl;exact(aP 0x161a08422165868006) lu this
      |cons l1 left=>
       have ne1:((left.length:Int)+1+1==1)=false:=by simp;exact aB 3121105769529
       simp[ne1];refine kk _ _ ⟨j7,m2,b,_,_,rfl,CQ,rfl,e4,CR,CP,fun hb=>⟨(t7 hb).1,fun c hc=>?_⟩,pY⟩;rcases(t7 hb).2 c hc with h |h
       .rcases zAy.mp h with rfl |h
        .exact .inr fun G3 hl=>by rw[←(t7 hb).1,ho]at hl;obtain rfl:=so hl;simp
        .exact .inl h
       .exact .inr h
  .rintro ρ eL ⟨j7,m2,b,u',w',e0,dj,rfl,uh,lh,CP,t7,pY⟩;have:j7=[]:=by simpa[cV]using e0.symm
   clear dj e0;subst this;have NW:=fh CP.key;have t8:=fh pt.key;simp;refine k' _ _ _ ?_ ⟨m2,b,_,_,rfl,rfl,uh,lh,CP,fun hb c hc=>?_⟩
   .cases b with
    |false=>rw[(t7 rfl).1];exact zDe _
    |true=>have:=pY rfl;simp;exact(aP 0x106a00d440216088982026) NW t8 this
   .rw[(t7 hb).1];exact((t7 hb).2 c hc).resolve_left (by simp)
variable (H) in
inductive Th(p v r:Nat)(cs:List (List Int))(m':List (Nat×Bool))(l:List V)(ρ:aH)(eL:Z):Prop
 |mk (j7:List (List Int)) (u w z:Option V) (h0:l=cV j7) (h1:(∀c∈j7,c∈cs)) (h2:(∀c∈cs,c∈j7\/dO m' c=none)) (h3:ρ=[some (.ref p),some (.ref v),some (.ref r),u,w,z,none]) (h4:eL r=some (.ax (gj m'))) (h5:Le H eL)
theorem Th.at{p v r:Nat}{cs:List (List Int)}{m':List (Nat×Bool)}{l:List V}{ρ:aH}{eL:Z}:Th H p v r cs m' l ρ eL->Le H eL |mk _ _ _ _ _ _ _ _ _ h=>h
set_option tactic.hygienic true in
theorem nQ(O:cz c){N:Nat}{cs:List (List Int)}(C:Fj N cs){p:Nat}:∀(d:Nat) {n:Nat} {H:Z} {Q:V->Z->Prop} {v:Nat} {m:List (Nat×Bool)},d+3<=n->N<=m.length+d->H p=some (.list (cV cs))->H v=some (.ax (gj m))->((m.map (·.1)).Nodup/\∀q∈m,1<=q.1/\q.1<=N)->
  (∀b H',(b=true↔∃a,rL a m/\∀c∈cs,hU a c)->Le H H'->Q (.bool b) H')->aA c 60 n [.ref p,.ref v] H Q:=by
 intro d
 induction d with
 |zero=>?_
 |succ d ih=>?_
 all_goals
  intro n H Q v m hn hd hp hv hk h;have ag:=aJ;refine aF O (cL hn rfl) rfl ?_;simp;refine tR O (bK hn rfl) C hp hv hk (fun Bl H' le=>?_) fun m' r H' pt fx le hr er=>?_
  .simp;exact h false H' (by simp;exact fun a ha=>by simpa using Bl a ha) le
  have t9:H' p=some (.list (cV cs)):=le.at hp (fun h=>h);simp
  refine cI (items:=cV cs) (g:=fun H'=>H' p=some (.list (cV cs))) (bF t9) (Th H p v r cs m')
   (fun _ _ _ j=>j.at.at hp fun h=>h) ⟨cs,none,none,none,rfl,fun _ h=>h,fun c h=>.inl h,rfl,er,le⟩ ?_ ?_
  .rintro x l ρ eL K ⟨j7,u,w,z,e0,dj,CS,rfl,uh,lh⟩ kk;cases j7 with
   |nil=>cases e0
   |cons cl j7=>
    simp only[cV,map_cons,List.cons.injEq]at e0;obtain⟨rfl,rfl⟩:=e0;have rU:=dj cl (.head _);obtain⟨c1,c2⟩:=C.each cl rU;simp;refine CO O (bK hn rfl) uh c1 (fun ho H3 oK=>?_) fun left ho r1 H3 oK uj Dw=>?_
    .simp;refine kk _ _ ⟨j7,_,_,_,rfl,fun c h=>dj c (.tail _ h),fun c hc=>?_,rfl,oK.at uh (fun h=>h),lh.trans oK⟩;clear c2 c1 rU dj;rcases CS c hc with h |h
     .rcases zAy.mp h with rfl |h
      .exact .inr ho
      .exact .inl h
     .exact .inr h
    .have iy:=fx cl rU left ho;obtain⟨o1,o2,o3⟩:=jv _ _ ho;clear o3 o2 ho;cases left with
     |nil=>simp at iy
     |cons l0 left=>
      obtain⟨q1,q2⟩:=o1 l0 (.head _);obtain⟨d1,d2⟩:=c2 l0 q1;have p4:=fh pt.key;have lp:∀b,(putD l0.natAbs b m').length=m'.length+1:=fun b=>by rw[nO];rw[q2];rfl
      have kp:∀b,_:=fun b=>nP (b:=b) pt.key (k:=l0.natAbs) ((oj 0x1a206964e00689940396) d1 d2);have t8:=fh (kp true);rw[lp]at t8;have iI:=pt.len;have b0:(0:Int)<lim:=(aB 0x195203d09038006) ag;have bm:∀m2:List (Nat×Bool),m2.length<=N->(gj m2).length<lim:=fun m2 h=>by rw[iB];have:=C.n;(first |exact(rN 0x20c4412602c54265068026) hd t8 iI |exact(aP 0x110001f47044c209303d09038006) ag h this)
      have pv:=fun b m2=>rh l0.natAbs b m2;have e3:H3 r=some (.ax (gj m')):=oK.at uh (fun h=>h);have VY:r≠r1:=pV uh uj;have CR:=lh.trans oK
      have Jw:∀b a,rL a (putD l0.natAbs b m')↔rL a m'/\a l0.natAbs=b:=fun b a=>by
       constructor
       .intro ha;refine⟨fun k w hk=>ha k w ?_,ha _ _ (by rw[bP,zBq rfl])⟩
        rw[bP];split
        .rename_i z;rw[←z,q2]at hk;exact sn hk rfl
        .exact hk
       .rintro⟨ha,hb⟩ k w hk;rw[bP]at hk;split at hk
        .rename_i z;rw[←z];rw[hb];simpa using hk
        .exact ha k w hk
      have back:∀a,rL a m'->rL a m:=fun a ha k b hk=>ha k b (pt.keep k b hk)
      first
       |(exfalso;exact(aP 0x28412602c54265068026) hd t8 iI)
       |(simp[hO,hJ,i9,Dw,e3,b0,pv,bm m' ((aD 134750246) p4)]
         have rc:=fun{H4:Z} {Q':V->Z->Prop} (b:Bool) (he:H4 r=some (.ax (gj (putD l0.natAbs b m')))) (lz:Le H H4)=>ih (n:=n-1) (H:=H4) (Q:=Q') (v:=r) (m:=putD l0.natAbs b m') ((aD 0x586ad05082d5829426) hn) (by rw[lp];exact(dq 0x4b1d28021849962a068026) hd iI) (lz.at hp (fun h=>h)) he (kp b)
         repeat (refine⟨by omega,?_⟩)
         refine ?_;refine rc true (Z.ab _ _ _) (CR.set (.inl hr)) fun bt H5 VZ NX=>?_;have Jx:=(CR.set (o:=.ax (gj (putD l0.natAbs true m'))) (.inl hr)).trans NX;have e5:H5 r=some (.ax (gj (putD l0.natAbs true m'))):=NX.at (Z.ab _ _ _) (fun h=>h);have V4:H5 r1=some (.list ((l0::left).map .int)):=NX.at (by rw[Z.af _ _ (zFp VY)];exact Dw) (fun h=>h)
         cases bt with
         |true=>
          simp;obtain⟨a,ha,hs⟩:=VZ.mp rfl;exact h true H5 ⟨fun _=>⟨a,back a ((Jw _ _).mp ha).1,hs⟩,fun _=>rfl⟩ Jx
         |false=>
          simp at V4;simp[hJ,i9,V4,e5,b0,pv,CN,bm (putD l0.natAbs true m') (by rw[lp];exact(aD 0xac1420ac1426) t8)]
          refine rc false (Z.ab _ _ _) (Jx.set (.inl hr)) fun bf H6 V5 Ti=>?_;have NY:=(Jx.set (o:=.ax (gj (putD l0.natAbs false m'))) (.inl hr)).trans Ti;cases bf with
          |true=>
           simp;obtain⟨a,ha,hs⟩:=V5.mp rfl;exact h true H6 ⟨fun _=>⟨a,back a ((Jw _ _).mp ha).1,hs⟩,fun _=>rfl⟩ NY
          |false=>
           simp[i9];refine h false H6 ⟨fun e=>(by cases e),fun⟨a,ha,hs⟩=>?_⟩ NY
           have V6:=pt.sat a ha hs;cases z:a l0.natAbs with
           |true=>exact VZ.mpr ⟨a,(Jw _ _).mpr ⟨V6,z⟩,hs⟩
           |false=>exact V5.mpr ⟨a,(Jw _ _).mpr ⟨V6,z⟩,hs⟩)
  .rintro ρ eL ⟨j7,u,w,z,e0,dj,CS,rfl,uh,lh⟩;have:j7=[]:=by simpa[cV]using e0.symm
   clear dj e0;subst this;simp;refine h true eL ⟨fun _=>?_,fun _=>rfl⟩ lh;have ha:rL (fun k=>(aj k m').getD false) m':=fun k b hk=>by simp[hk]
   exact⟨_,fun k b hk=>ha k b (pt.keep k b hk),fun c hc=>vQ ha c ((CS c hc).resolve_left (by simp))⟩
end
structure bT(vs:List Nat)(row:Row)(k:Nat)(m:List (Nat×Bool)):Prop where
 look:∀v b,aj v m=some b↔∃j,j<k/\bV vs (3+j) v/\row j=b
 key:(m.map (·.1)).Nodup/\∀q∈m,1<=q.1/\q.1<=vs.length
theorem bT.zero{vs:List Nat}{row:Row}:bT vs row 0 []:=⟨fun v b=>by simp[aK],by simp,by simp⟩
theorem bT.skip{vs:List Nat}{row:Row}{k:Nat}{m:List (Nat×Bool)}(h:bT vs row k m)(hn:3+k∉vs):bT vs row (k+1) m:=by
 refine⟨fun v b=>?_,h.key⟩;rw[h.look];constructor
 .rintro⟨j,hj,hv,hb⟩;exact⟨j,(aD 1518808080406) hj,hv,hb⟩
 .rintro⟨j,hj,hv,hb⟩;have:j≠k:=by clear hj h;rintro rfl;exact hn hv.mem
  exact⟨j,(aD 0x804200965868016) hj this,hv,hb⟩
theorem bT.put{vs:List Nat}{row:Row}{k:Nat}{m:List (Nat×Bool)}(h:bT vs row k m)(lx:vs.Nodup){v:Nat}(hv:bV vs (3+k) v):bT vs row (k+1) (putD v (row k) m):=by
 refine⟨fun w b=>?_,nP h.key ⟨hv.1,hv.lt⟩⟩;rw[bP];by_cases q:v=w
 .subst q;rw[zBq rfl];constructor
  .intro e;exact⟨k,aB 5777409,hv,by simpa using e⟩
  .rintro⟨j,hj,hw,hb⟩;have:=hv.fn hw;have:j=k:=(aD 4410293990406) this;clear hj hv h;subst this;rw[hb]
 .rw[zAi q];rw[h.look];constructor
  .rintro⟨j,hj,hw,hb⟩;exact⟨j,(aD 1518808080406) hj,hw,hb⟩
  .rintro⟨j,hj,hw,hb⟩;have:j≠k:=by clear hj h;rintro rfl;exact q (hv.uniq lx hw)
   exact⟨j,(aD 0x804200965868016) hj this,hw,hb⟩
def Fk(c:Cy)(n:Nat)(g:Z->Prop)(i j:Nat)(p:PS)(R:EQ)(l:List V)(QS:SQ):SQ:=fun ρ H=>lq g (jG i j) (fun bc ak Q₁=>wpS c n p bc ak Q₁ R) l ρ H QS
theorem iC{f:V->V->Option Bool}{v v':V}{l r:List V}:gH f (v::l) (v'::r)=(f v v').bind fun a=>(gH f l r).map (a&&·):=rfl
theorem xC{n:Nat}{a b:Int}:uz n (.int a) (.int b)=some (a==b):=by cases n<;>rfl
theorem CU{n:Nat}:uz n .none .none=some true:=by cases n<;>rfl
theorem y3:∀l:List Int,gH (uz 4) (l.map V.int) (l.map V.int)=some true:=by
 intro zl
 induction zl with
 |nil=>
  exact rfl
 |cons i l ih=>
  rw[map_cons];rw[iC];rw[ih];rw[xC];simp
theorem tS(l:List Int):xQ (l.map V.int) (l.map V.int)=some true:=by unfold xQ;rw[zBq rfl,y3]
section
variable {c:Cy} {n:Nat} {L:Rl->Nat} {H:Z} {Q:V->Z->Prop} {pf:Bool} {st:St}
theorem Jy{g:Z->Prop}{i j:Nat}{p:PS}{R:EQ}{QS:SQ}{ρ:aH}:Fk c n g i j p R [] QS ρ H=(g H/\QS ρ H):=rfl
theorem ri{g:Z->Prop}{i j:Nat}{x y:V}{p:PS}{R:EQ}{QS:SQ}{ρ:aH}{l:List V}:
  Fk c n g i j p R (.tup [x,y]::l) QS ρ H=(g H/\wpS c n p (b9 (b9 ρ i x) j y) H (Fk c n g i j p R l QS) R):=rfl
theorem rj(O:cz c)(hn:4<=n)(R:Rep L pf st H)(lx:st.vs.Nodup)(hl:st.vs.length<=1000){row:Row}{k:Nat}(hk:k<3){m:List (Nat×Bool)}(V0:bT st.vs row k m){r:Nat}(hr:H r=some (.ax (gj m)))(KJ:∀q o,obj L pf st q=some o->L q≠r)(y4:∀q,og q=true->L q≠r){x1 x2:V}{QS:SQ}{R':EQ}
  (h:∀m' H',(∀b,b≠r->H' b=H b)->H' r=some (.ax (gj m'))->bT st.vs row (k+1) m'->Rep L pf st H'->QS [some (.ref (L .mI)),some x1,some x2,some (.ref r),some (ae (3+k)),some (.bool (row k)),none] H'):
  wpS c n (.seq (.ifs (.cmp .ne (.au (.var 0) 21 (.cons (.var 4) .nil)) (.cst (.int 0))) (.seq (.cC (.var 3) (.au (.var 0) 21 (.cons (.var 4) .nil)) (.var 5)) .skip) .skip) .skip) [some (.ref (L .mI)),some x1,some x2,some (.ref r),some (ae (3+k)),some (.bool (row k)),none] H QS R':=by
 have ag:=aJ;have g:=R.aM.good;have hlen:=g.len
 have lM:(nd st.B (3+k)).op≠2:=by
  rw[g.low (by exact(aB 2200852340758) hk)]
  have:k=0\/k=1\/k=2:=by exact(aB 0x6001600850021a016) hk
  clear h V0 hk;rcases this with rfl |rfl |rfl<;>decide
 simp[R.mI]
 have key:(∃v,bV st.vs (3+k) v)\/3+k∉st.vs:=by
  rcases lR (3+k) st.vs with⟨v,hv,_⟩ |⟨hv,_⟩
  .exact .inl ⟨v,hv⟩
  .exact .inr hv
 refine gi O (cL hn rfl) R (by exact(aB 58565697558) hk) (by exact(aD 0x81b410c099a016) hk hlen) (fun i sg v hs hv=>?_) (fun i sg hs hv=>?_)
 .obtain⟨rfl,rfl⟩:=jX hs lM;have v1:=hv.1;have ne:((v:Int) !=0)=true:=by simp;exact(aB 21477198630) v1
  simp[ne,R.mI];refine gi O (cL hn rfl) R (by exact(aB 58565697558) hk) (by exact(aD 0x81b410c099a016) hk hlen) (fun i sg w hs hw=>?_) (fun i sg hs hw=>?_)
  .obtain⟨rfl,rfl⟩:=jX hs lM;obtain rfl:=hv.uniq lx hw;have S8:=fh V0.key;have bm:(gj m).length<lim:=by rw[iB];exact(aP 0x221008981e8481c0830000fa38026) hl ag S8
   simp[hr,bm,rh];refine h _ _ (fun b hb=>Z.af _ _ hb) (Z.ab _ _ _) (V0.put lx hv) (R.mk' rfl (fun q hq=>Z.af _ _ (y4 q hq)) fun q o ho=>?_);rw[Z.af _ _ (KJ q o ho)];exact R.at' q o ho
  .obtain⟨rfl,rfl⟩:=jX hs lM;exact absurd hv.mem hw
 .obtain⟨rfl,rfl⟩:=jX hs lM;simp;exact h m H (fun _ _=>rfl) hr (V0.skip hv) R
theorem nR(O:cz c)(hn:5<=n)(R:Rep L pf st H)(lx:st.vs.Nodup)(hl:st.vs.length<=1000){pn pr:Nat}{row:Row}(Dx:H pn=some (.list [ae 3,ae 4,ae 5]))(y5:H pr=some (.list [.bool (row 0),.bool (row 1),.bool (row 2)]))
  (h:∀r m H',Le H H'->H r=none->H' r=some (.ax (gj m))->bT st.vs row 3 m->Q (.ref r) H'):
  aA c 62 n [.ref (L .mI),.ref pn,.ref pr] H Q:=by
 refine aF O (cL hn rfl) rfl ?_;simp;intro r hr;have R0:=R.le (Le.fresh (o:=.ax []) hr);have e0:(H.set r (.ax [])) r=some (.ax (gj [])):=Z.ab _ _ _;have Tj:=Le.fresh (H:=H) (o:=.ax []) hr;have KJ:∀q o,obj L pf st q=some o->L q≠r:=fun q o ho e=>R.live ho (by rw[e];exact hr)
 have y4:∀q,og q=true->L q≠r:=fun q hq e=>R.aM.live hq (by rw[e];exact hr)
 have rn:pn≠r:=pV Dx hr;have rr:pr≠r:=pV y5 hr;have gd:∀H':Z,(∀b,b≠r->H' b=H b)->H' pn=some (.list [ae 3,ae 4,ae 5])/\H' pr=some (.list [.bool (row 0),.bool (row 1),.bool (row 2)]):=fun H' k=>⟨(k _ rn).trans Dx,(k _ rr).trans y5⟩;have Tn:∀H':Z,(∀b,b≠r->H' b=H b)->Le H H':=fun H' k b hb _=>k b (by clear k gd rr rn y4 KJ Tj e0 R0;rintro rfl;exact hb hr)
 have k0:∀b,b≠r->(H.set r (.ax [])) b=H b:=fun b hb=>Z.af _ _ hb
 have hit:iter (H.set r (.ax [])) .zip (.tup [.ref pn,.ref pr])=some ([.tup [ae 3,.bool (row 0)],.tup [ae 4,.bool (row 1)],.tup [ae 5,.bool (row 2)]],fun H'=>H' pn=some (.list [ae 3,ae 4,ae 5])/\H' pr=some (.list [.bool (row 0),.bool (row 1),.bool (row 2)])):=by obtain⟨a,b⟩:=gd _ k0;exact xS a b
 generalize H.set r (.ax [])=H0 at*;unfold wU wR;rw[hit];intro T hT;have O':=O.wB hT;refine(?_:Fk (c.wB T) (n-1) _ 4 5 _ Q _ _ _ H0);rw[ri];refine⟨gd _ k0,?_⟩;refine rj O' (bK hn rfl) R0 lx hl (k:=0) (by decide) bT.zero e0 KJ y4 fun m1 H1 k1 e1 V1 R1=>?_
 have PH:∀b,b≠r->H1 b=H b:=fun b hb=>(k1 b hb).trans (k0 b hb);rw[ri];refine⟨gd _ PH,?_⟩;refine rj O' (bK hn rfl) R1 lx hl (k:=1) (by decide) V1 e1 KJ y4 fun m2 H2 k2 e2 V2 R2=>?_
 have Jh:∀b,b≠r->H2 b=H b:=fun b hb=>(k2 b hb).trans (PH b hb);rw[ri];refine⟨gd _ Jh,?_⟩;refine rj O' (bK hn rfl) R2 lx hl (k:=2) (by decide) V2 e2 KJ y4 fun m3 H3 k3 e3 V3 R3=>?_
 have NA:∀b,b≠r->H3 b=H b:=fun b hb=>(k3 b hb).trans (Jh b hb);rw[Jy];refine⟨gd _ NA,?_⟩;simp;exact h r m3 H3 (Tn _ NA) hr e3 V3
theorem CV{e q:PE}{j:Nat}{it:lj}{ρ:aH}{x:V}{items:List V}{g:Z->Prop}(hi:iter H it x=some (items,g))(hl:items.length<=lim)(hg:g H)(f:V->V)
  (test:∀v∈items,∀(K:BQ),K true H->eV c n q (b9 ρ j v) H K) (step:∀v∈items,∀(K:EQ),K (f v) H->bA c n e (b9 ρ j v) H K) (fin:∀a,H a=none->Q (.ref a) (H.set a (.list (items.map f)))):
  iO c n e j it q ρ Q x H:=by
 unfold iO se;rw[hi];refine⟨hl,?_⟩
 have:∀l acc,acc++l.map f=items.map f->(∀v∈l,v∈items)->mr g j (eV c n q) (bA c n e) l acc ρ H Q:=by
  intro l
  induction l with
  |nil=>intro acc h _;exact⟨hg,fun a ha=>by have:=fin a ha;rw[←h]at this;simpa using this⟩
  |cons v l ih=>
   intro acc h hs;refine⟨hg,test v (hs v (.head _)) _ ?_⟩;rw[zBq rfl];exact step v (hs v (.head _)) _ (ih _ (by rw[←h];exact zFu _ _ _) fun u hu=>hs u (.tail _ hu))
 exact this items [] rfl fun _ h=>h
variable (H) in
inductive QJ(cs:List (List Int))(s:Nat)(l:List V)(ρ:aH)(H':Z):Prop
 |mk (rest:List (List Int)) (u w:Option V) (h0:l=gz rest) (h1:(∀d∈rest,d∈cs)) (h2:ρ=[some (.ref s),u,w,none]) (h3:Le H H')
theorem QJ.at{cs:List (List Int)}{s:Nat}{l:List V}{ρ:aH}{H':Z}:QJ H cs s l ρ H'->Le H H' |mk _ _ _ _ _ _ h=>h
theorem ia(O:cz c)(hn:1<=n){s a N:Nat}{cs:List (List Int)}{y:V}(hs:H s=some (.inst .store [(3,ae N),(4,.ref a),(0,y)]))(ha:H a=some (.list (gz cs)))(hc:∀d∈cs,d.Pairwise (fun a b=>a.natAbs<b.natAbs)/\d.length<64/\∀l∈d,l≠0/\l.natAbs<=N)
  (h:∀H',Le H H'->Q (.bool true) H'):aA c 61 n [.ref s] H Q:=by
 have ag:=aJ;refine aF O hn rfl ?_;simp[hs]
 refine cI (items:=gz cs) (g:=fun H'=>H' a=some (.list (gz cs))) (bF ha) (QJ H cs s)
  (fun _ _ _ j=>j.at.at ha fun h=>h) ⟨cs,none,none,rfl,fun _ h=>h,rfl,Kp.refl _ _⟩ ?_ ?_
 .rintro v l ρ H' K ⟨rest,u,w,e0,dj,rfl,le⟩ kk;cases rest with
  |nil=>cases e0
  |cons d rest=>
   simp only[gz,map_cons,List.cons.injEq]at e0;obtain⟨rfl,rfl⟩:=e0;obtain⟨d1,d2,d3⟩:=hc d (dj d (.head _));have ua:=le.at hs fun h=>h;simp;refine fC (is:=d) (g:=fun _=>True) rfl (BK d2 rfl) trivial (fun i=>.int (i.natAbs:Nat)) (fun i _ K k=>k) fun r hr=>?_;have y6:=le.set (o:=.list (d.map fun(i:Int)=>V.int (i.natAbs:Nat))) (.inl (le.none hr fun h=>h));have e1:(H'.set r (.list (d.map fun(i:Int)=>V.int (i.natAbs:Nat)))) r=some (.list ((d.map fun(i:Int)=>(i.natAbs:Int)).map V.int)):=by rw[Z.ab];rw[map_map];rfl
   generalize H'.set r (.list (d.map fun(i:Int)=>V.int (i.natAbs:Nat)))=H1 at y6 e1;have PL:=y6.at hs fun h=>h;generalize hp:(d.map fun(i:Int)=>(i.natAbs:Int))=ps at e1
   have Zb:∀i∈ps,0<i/\i<=(N:Int):=fun i hi=>by rw[←hp]at hi;obtain⟨l,hl,rfl⟩:=zAt.mp hi;have:=d3 l hl;exact(oj 0x1906b2a0d6548e00689403976) this
   have V7:ps.Pairwise (·<·):=by rw[←hp];rw[pairwise_map];exact d1.imp fun h=>by exact(uq 0x3ac835940e81a16) h
   have pl:ps.length<64:=by rw[←hp];simpa using d2
   have Zc:du ps=ps:=(gW (fun _=>Iff.rfl) (V7.imp fun h=>by exact(uq 135536710) h) (V7.imp fun h=>by exact(uq 2162434118) h)).symm
   have lst:= @aJ;simp[e1,pJ,pl,Zc];intro r2 jz;have Tg:r≠r2:=pV e1 jz;have rK:=y6.set (o:=.list (ps.map V.int)) (.inl (y6.none jz fun h=>h));have qT:(H1.set r2 (.list (ps.map V.int))) r=some (.list (ps.map V.int)):=by rw[Z.af _ _ Tg];exact e1
   have EO:(H1.set r2 (.list (ps.map V.int))) r2=some (.list (ps.map V.int)):=Z.ab _ _ _;generalize H1.set r2 (.list (ps.map V.int))=H2 at rK qT EO;have Jq:=rK.at hs fun h=>h;simp[qT,EO,tS];refine CV (items:=ps.map V.int) (g:=fun H'=>H' r=some (.list (ps.map V.int))) (bF qT) (by simp;exact BK pl rfl) qT id (fun v hv K k=>?_) (fun v hv K k=>k) fun r3 NZ=>?_
   .obtain⟨i,hi,rfl⟩:=zAt.mp hv;obtain⟨i1,i2⟩:=Zb i hi;simpa[i1,i2,Jq]using k
   .have Zd:r≠r3:=pV qT NZ;have oK:=rK.set (o:=.list (ps.map V.int)) (.inl (rK.none NZ fun h=>h));have e3:(H2.set r3 (.list (ps.map V.int))) r=some (.list (ps.map V.int)):=by rw[Z.af _ _ Zd];exact qT
    have e4:(H2.set r3 (.list (ps.map V.int))) r3=some (.list (ps.map V.int)):=Z.ab _ _ _;simp only[List.map_id];generalize H2.set r3 (.list (ps.map V.int))=H3 at oK e3 e4;simp[e3,e4,tS];exact kk _ _ ⟨rest,_,_,rfl,fun d hd=>dj d (.tail _ hd),rfl,oK⟩
 .rintro ρ H' ⟨rest,u,w,e0,dj,rfl,le⟩;simp;exact h H' le
end
section
variable {K tm:Nat} {pf:Bool} {P:Row->Prop} {bB sl:Nat} {st:St}
theorem tT{B:List Nd}(g:Good B)(row:Row){k:Nat}(hk:k<3):val B row (3+k)=row k:=by
 rw[val_eq g];rw[g.low (by exact(aB 2200852340758) hk)]
 have:k=0\/k=1\/k=2:=by exact(aB 0x6001600850021a016) hk
 rcases this with rfl |rfl |rfl<;>rfl
theorem nS(I:aV K tm pf P (fun _ _=>False) bB sl st){row:Row}{m:List (Nat×Bool)}(V:bT st.vs row 3 m):rL (star st.B st.vs row) m:=fun k b h=>by obtain⟨j,hj,hv,rfl⟩:=(V.look k b).mp h;rw[hV hv];rw[tT I.good row hj]
theorem sat_iff(I:aV K tm pf P (fun _ _=>False) bB sl st)(hw:st.wait=[]){t:Nat}{done:List (List (Int×Int))}(hd:∀c∈done,(∀p∈c,p.1≠0/\p.1.natAbs<st.B.length/\Ent st.B st.vs st.sd p.1 p.2)/\jV st.cs (c.map (·.2)))
  (hs:∀row,(∀c∈done,∃p∈c,bq st.B row p.1=true)->val st.B row t=true) (hP:∀row,val st.B row t=true->P row) {row:Row} {m:List (Nat×Bool)} (V:bT st.vs row 3 m):
  (∃a,rL a m/\∀c∈st.cs,hU a c)↔val st.B row t=true:=by
 constructor
 .rintro⟨a,ha,hc⟩;refine hs row fun c Gh=>?_;obtain⟨h1,h2⟩:=hd c Gh
  have el:∀l∈c.map (·.2),l≠0:=fun l hl=>by obtain⟨p,hp,rfl⟩:=zAt.mp hl;exact((h1 p hp).2.2.Jj I.good).1
  obtain⟨l,hl,e⟩:=h2.sat el hc;obtain⟨p,hp,rfl⟩:=zAt.mp hl;exact⟨p,hp,I.Jl (by simp[hw]) hc (fun k v hk hv=>ha v _ ((V.look v _).mpr ⟨k,hk,hv,rfl⟩)) (h1 p hp).2.2 e⟩
 .intro h;exact⟨_,nS I V,I.snd row (hP row h)⟩
theorem pN{m:List (Nat×Bool)}{o:Int}(ho:aj o.natAbs m=none):∀cl:List Int,(∀l∈cl,l=o\/∃b,aj l.natAbs m=some b/\b≠decide (0<l))->∃left,dO m cl=some left/\(∀l∈left,l=o)/\left.Sublist cl
 |[],_=>⟨[],rfl,by simp,.slnil⟩
 |l::ls,h=>by
  obtain⟨left,e1,e2,e3⟩:=pN ho ls fun x hx=>h x (.tail _ hx);rcases h l (.head _) with rfl |⟨b,hb,el⟩
  .exact⟨l::left,by rw[eU];rw[ho];rw[e1];rfl,fun x hx=>(zAy.mp hx).elim id (e2 x),e3.cons_cons _⟩
  .refine⟨left,?_,e2,e3.cons _⟩;rw[eU];rw[hb];simp only[if_neg el];exact e1
theorem CW{α:Type}{o:α}:∀{l:List α},l.Nodup->(∀x∈l,x=o)->l.length<=1
 |[],_,_=>by simp
 |[_],_,_=>succ_pos _
 |a::b::l,hn,h=>by have h1:=h a (.head _);have h2:=h b (.tail _ (.head _));clear h;subst h1;subst h2;exact absurd (.head _) (zCq.mp hn).1
theorem G4{B:List Nd}{row:Row}{x y:Int}(e:y= -x){bG:List (List (Int×Int))}(h:¬∀c∈bG,∃p∈c,p.1≠x/\(p.1=y\/bq B row p.1=true)):
  ∃c∈bG,∀p∈c,p.1=x\/(p.1≠-x/\bq B row p.1=false):=by
 refine Classical.byContradiction fun hn=>h fun c hc=>Classical.byContradiction fun zh=>hn ⟨c,hc,fun p hp=>?_⟩;by_cases q:p.1=x
 .exact .inl q
 .refine .inr ⟨fun e'=>zh ⟨p,hp,q,.inl (e'.trans e.symm)⟩,?_⟩;cases z:bq B row p.1 with
  |false=>rfl
  |true=>exact(zh ⟨p,hp,q,.inr z⟩).elim
theorem nT(I:aV K tm true P (fun _ _=>False) bB sl st)(hw:st.wait=[]){row:Row}(hP:P row){m m':List (Nat×Bool)}(V:bT st.vs row 3 m)(pt:Part st.vs.length st.cs m m')(fx:∀c∈st.cs,Jv m' c):
  ∀(r t v:Nat),rank st.B t<=r->bV st.vs t v->aj v m'=some (val st.B row t):=by
 have g:=I.good;have sat:=I.snd row hP;have Jw:=pt.sat _ (nS I V) sat;intro r
 induction r using strongRecOn with
 |ind r ih=>
  intro t v hr hv;obtain⟨t1,t2,t3⟩:=I.pL t hv.mem
  have fin:aj v m'≠none->aj v m'=some (val st.B row t):=fun h=>by
   cases q:aj v m' with
   |none=>exact absurd q h
   |some b=>rw[←Jw v b q];rw[hV hv]
  have cj:∀b,(b=1\/b=2)->aT (aw st.sd t) b=true:=fun b hb=>by rw[I.oH rfl t hv.mem];rcases hb with rfl |rfl<;>rfl
  by_cases lM:(nd st.B t).op=10
  .refine fin ?_;clear cj fin t3 hr;rcases nF g t1 t2 with⟨_,e⟩ |⟨_,e⟩ |⟨k,hk,rfl,e⟩ |⟨_,ar⟩
   .rw[e]at lM;simp at lM
   .rw[e]at lM;simp at lM
   .rw[pt.keep v _ ((V.look v _).mpr ⟨k,hk,hv,rfl⟩)];simp
   .rw[lM]at ar;exact ft rfl ar
  .have tJ:∀b,(b=1\/b=2)->fY st.B st.vs st.sd st.cs t b:=fun b hb=>by
    rcases I.yO t b hb (cj b hb) with⟨p,hp,_⟩ |h |h |h
    .simp[hw]at hp
    .exact absurd h lM
    .exact h
    .exact h.elim
   generalize mQ:val st.B row t=pos at*
   have cl:∃bG:List (List (Int×Int)),(∀c∈bG,(∀p∈c,Right st.B st.vs st.sd t p.1 p.2)/\jV st.cs (c.map (·.2)))/\(∀c∈bG,∀p∈c,p.1≠0/\p.1.natAbs<st.B.length/\(p.1.natAbs=t\/rank st.B p.1.natAbs<rank st.B t))/\
     ∃c∈bG,∀p∈c,p.1=sgn pos t\/(p.1≠-(sgn pos t)/\bq st.B row p.1=false):=by
    clear fin;cases pos with
    |true=>
     obtain⟨bG,h1,h2,h3,h4,h5⟩:=(tJ 2 (.inr rfl)).ex;exact⟨bG,h1,h2,G4 rfl fun h=>nomatch mQ.symm.trans (h5 rfl row h)⟩
    |false=>
     obtain⟨bG,h1,h2,h3,h4,h5⟩:=(tJ 1 (.inl rfl)).ex;exact⟨bG,h1,h2,G4 (x:= -(t:Int)) (neg_neg _).symm fun h=>nomatch mQ.symm.trans (h4 rfl row h)⟩
   obtain⟨bG,h1,h2,c,hc,rU⟩:=cl;have so:bq st.B row (sgn pos t)=true:=(fG t1).mpr mQ;clear so mQ;obtain⟨sg0,To⟩:=kJ (pos:=pos) t1;obtain⟨V8,PU⟩:=kJ (pos:=pos) hv.1
   have lit:∀l∈c.map (·.2),l=sgn pos v\/(l≠0/\l.natAbs≠v/\eY (star st.B st.vs row) l=false/\∃b,aj l.natAbs m'=some b/\b≠decide (0<l)):=fun l hl=>by
    obtain⟨p,hp,rfl⟩:=zAt.mp hl;rcases(h1 c hc).1 p hp with⟨q,w,nI,h6⟩ |⟨q,en⟩
    .obtain rfl:=hv.uniq I.oG nI
     have:p.1=sgn pos t:=by
      rcases rU p hp with e |⟨e1,e2⟩
      .exact e
      .have:p.1=sgn pos t\/p.1= -(sgn pos t):=Int.natAbs_eq_natAbs_iff.mp (q.trans To.symm);exact this.resolve_right e1
     left;cases pos with
     |true=>
      simp[sgn]at this⊢;rcases h6 with⟨_,e⟩ |⟨e,_⟩
      .exact e
      .exact absurd e (by rw[this];exact Int.not_lt.mpr (Int.natCast_nonneg t))
     |false=>
      simp[sgn]at this⊢;rcases h6 with⟨e,_⟩ |⟨_,e⟩
      .exact(WH 0x39c08c0a46067003600740c0068180b26) t1 q To this e
      .exact e
    .right
     have hf:bq st.B row p.1=false:=by
      rcases rU p hp with e |⟨_,e⟩
      .rw[e]at q;exact absurd To q
      .exact e
     have cZ:=en.star g row;rw[hf]at cZ;have el:=en.Jj g;clear PU V8 fin;obtain⟨i,sg,w,s1,s2,s3⟩:=en;obtain⟨f1,f2,f3,f4,f5,f6,f7⟩:=s1.facts g
     have zr:rank st.B i<rank st.B t:=by
      rcases(h2 c hc p hp).2.2 with h |h
      .exact absurd h q
      .exact(aP 70441831505958) f5 h
     have nat:p.2.natAbs=w:=by exact qY f4 s3
     have li:=ih (rank st.B i) ((aP 37452254814246) hr zr) i w (zAq _) s2;refine⟨el.1,?_,cZ,val st.B row i,by rw[nat];exact li,?_⟩
     .rw[nat];rintro rfl;have:=hv.fn s2;clear li f7 f6 f5 f3 f2 f1 s3 s2 s1;subst this;exact(aB 2621462) zr
     .have:=Jw w _ li;unfold eY at cZ;rw[nat,this]at cZ;by_cases z:0<p.2
      .simp[z]at cZ⊢;exact cZ
      .simp[z]at cZ⊢;exact cZ
   have Tp:∀l∈c.map (·.2),l.natAbs=v->l=sgn pos v:=fun l hl e=>by
    rcases lit l hl with h |⟨_,h,_⟩
    .exact h
    .exact absurd e h
   rcases(h1 c hc).2 with⟨l,Hx,iy⟩ |⟨d,hd,gC⟩
   .exfalso;rcases lit l Hx with e |⟨e0,e1,e2,_⟩
    .have:=Tp (-l) iy (by rw[natAbs_neg];rw[e];exact PU)
     exact(uq 0x5003836004d940396) V8 e this
    .rcases lit (-l) iy with e |⟨_,_,e3,_⟩
     .have:l.natAbs=v:=by rw[←natAbs_neg];rw[e];exact PU
      exact e1 this
     .rw[nG e0,e2]at e3;simp at e3
   .refine fin fun Bl=>?_
    obtain⟨left,e1,e2,e3⟩:=pN (m:=m') (o:=sgn pos v) (by rw[PU];exact Bl) d fun l hl=>by
     rcases lit l ((gC l).mp hl) with e |⟨_,_,_,e⟩
     .exact .inl e
     .exact .inr e
    have Rt:=fx d hd left e1
    have Tq:d.Nodup:=by have:=(I.oi d hd).1;exact this.imp fun h e=>by subst e;exact(jy 2691176982) h
    have:=CW (e3.nodup Tq) e2;exact(aB 710827052070) Rt this
theorem vR(I:aV K tm true P (fun _ _=>False) bB sl st)(hw:st.wait=[]){row:Row}(hP:P row){m m':List (Nat×Bool)}(V:bT st.vs row 3 m)(pt:Part st.vs.length st.cs m m')(fx:∀c∈st.cs,Jv m' c):m'.length=st.vs.length:=by
 have h1:=fh pt.key
 have h2:=dW (range' 1 st.vs.length) (m'.map (·.1)) List.nodup_range' fun v hv=>by simp[mem_range']at hv;obtain⟨i,hi,rfl⟩:=hv;obtain⟨t,ht⟩:=tF (vs:=st.vs) (v:=1+i) (aB 190642) ((aD 138999767062) hi);have:=nT I hw hP V pt fx _ t _ (zAq _) ht;exact zAt.mpr ⟨_,fE this,rfl⟩
 simp at h2;exact(aD 35184449167398) h1 h2
theorem vS(I:aV K tm true P (fun _ _=>False) bB sl st)(hw:st.wait=[]){row:Row}(hP:P row){m m':List (Nat×Bool)}(V:bT st.vs row 3 m)(pt:Part st.vs.length st.cs m m')(fx:∀c∈st.cs,Jv m' c){t:Nat}(h1:1<=t){l:Int}(en:Ent st.B st.vs st.sd t l):
  aj l.natAbs m'=some (decide (0<l)==val st.B row t):=by
 have cZ:=en.star I.good row;rw[cq h1]at cZ;obtain⟨i,sg,w,s1,s2,s3⟩:=en;obtain⟨f1,f2,f3,f4,f5,f6,f7⟩:=s1.facts I.good;have w1:=s2.1
 have nat:l.natAbs=w:=by exact qY f4 s3
 have li:=nT I hw hP V pt fx _ i w (zAq _) s2;rw[nat];rw[li];unfold eY at cZ;rw[nat,hV s2]at cZ;by_cases z:0<l
 .simp[z]at cZ⊢;exact cZ
 .simp[z]at cZ⊢;exact cZ
end
def cw:Nat->Z->Nat->(Row->Bool)->Prop
 |0,H,a,f=>(∃k,k<3/\H a=some (.list [.str 11,ae k])/\∀row,f row=row k)\/(∃k,k<2/\H a=some (.list [.str 12,ae k])/\∀row,f row=(k==1))
 |d+1,H,a,f=>(∃k,k<3/\H a=some (.list [.str 11,ae k])/\∀row,f row=row k)\/(∃k,k<2/\H a=some (.list [.str 12,ae k])/\∀row,f row=(k==1))\/
   ∃(op:Nat) (ks:List (Nat×(Row->Bool))),H a=some (.list (.str op::ks.map fun k=>.ref k.1))/\jS op ks.length=true/\(∀k∈ks,cw d H k.1 k.2)/\∀row,f row=k8 op (ks.map fun k=>k.2 row) false
theorem cw.mono{H H':Z}(h:∀b l,H b=some (.list l)->H' b=some (.list l)):∀{d a:Nat} {f:Row->Bool},cw d H a f->cw d H' a f
 |0,_,_,t=>by
  rcases t with⟨k,h1,h2,h3⟩ |⟨k,h1,h2,h3⟩
  .exact .inl ⟨k,h1,h _ _ h2,h3⟩
  .exact .inr ⟨k,h1,h _ _ h2,h3⟩
 |d+1,_,_,t=>by
  rcases t with⟨k,h1,h2,h3⟩ |⟨k,h1,h2,h3⟩ |⟨op,ks,h1,h2,h3,h4⟩
  .exact .inl ⟨k,h1,h _ _ h2,h3⟩
  .exact .inr (.inl ⟨k,h1,h _ _ h2,h3⟩)
  .exact .inr (.inr ⟨op,ks,h _ _ h1,h2,fun k hk=>(h3 k hk).mono h,h4⟩)
theorem cw.leaf{d a k:Nat}{H:Z}(h1:k<3)(h2:H a=some (.list [.str 11,ae k])):cw d H a fun row=>row k:=by
 cases d
 .exact .inl ⟨k,h1,h2,fun _=>rfl⟩
 .exact .inl ⟨k,h1,h2,fun _=>rfl⟩
theorem cw.con{d a k:Nat}{H:Z}(h1:k<2)(h2:H a=some (.list [.str 12,ae k])):cw d H a fun _=>k==1:=by
 cases d
 .exact .inr ⟨k,h1,h2,fun _=>rfl⟩
 .exact .inr (.inl ⟨k,h1,h2,fun _=>rfl⟩)
structure Src(H:Z)(s lc:Nat)(cs:List Int)(aS:Nat)(rest:Int):Prop where
 s:H s=some (.aZ [(13,.ref lc),(14,ae aS),(15,.int rest)])
 c:H lc=some (.list (cs.map .int))
 l:cs.length<=24
section
variable {c:Cy} {n:Nat} {H:Z} {Q:V->Z->Prop} {s lc aS:Nat} {cs:List Int} {rest:Int}
theorem Src.ne(S:Src H s lc cs aS rest):lc≠s:=by intro e;have:=S.c;rw[e,S.s]at this;cases this
theorem Src.fresh(S:Src H s lc cs aS rest){r:Nat}{o:aN}(hr:H r=none):Src (H.set r o) s lc cs aS rest:=by have h1:s≠r:=pV S.s hr;have h2:lc≠r:=pV S.c hr;exact⟨by rw[Z.af _ _ h1];exact S.s,by rw[Z.af _ _ h2];exact S.c,S.l⟩
theorem Src.lists(S:Src H s lc cs aS rest){H':Z}(k:Kp (·=s) H H'):∀b l,H b=some (.list l)->H' b=some (.list l):=fun b l h=>k.at h (by rintro rfl;rw[S.s]at h;cases h)
theorem rq(O:cz c)(hn:1<=n)(S:Src H s lc cs aS rest){many:Nat}(hm:1<=many)
  (h:∀k,k<many->∀H',Src H' s lc cs (aS+1) rest->Kp (·=s) H H'->Q (ae k) H'):aA c 54 n [.ref s,ae many] H Q:=by
 have ag:=aJ;have ne:=S.ne;have cl:=S.l;refine aF O hn rfl ?_;simp[S.s]
 repeat (refine⟨(aB 0x6883d09038006) ag,?_⟩)
 refine ?_
 have fin:∀i:Int,Q (.int (i%(many:Int))) (H.set s (.aZ [(13,.ref lc),(14,.int ((aS:Int)+1)),(15,.int rest)])):=fun i=>by
  have h1:=Int.emod_nonneg i (b:=(many:Int)) ((aB 688887434022) hm);have h2:=Int.emod_lt_of_pos i (b:=(many:Int)) ((aB 3398437670) hm);have:=h (i%(many:Int)).toNat ((oj 952230775098150) hm h2) (H.set s (.aZ [(13,.ref lc),(14,.int ((aS:Int)+1)),(15,.int rest)])) ⟨by rw[Z.ab];simp[ae],by rw[Z.af _ _ ne];exact S.c,S.l⟩ ((Kp.refl _ _).set (.inr rfl))
  rw[show ae (i%(many:Int)).toNat= .int (i%(many:Int)) by simp[ae];exact(jy 43046931030) h1]at this
  exact this
 have V9:(0:Int)<(many:Int):=(aB 3398437670) hm;have PV:0<many:=hm;have bl:cs.length<=1000000:=jl cl rfl;simp[S.c,ne,bl];by_cases q:aS<cs.length
 .have q':(aS:Int)<(cs.length:Int):=by exact(aD 244919050262) q
  have e:cs[aS]?=some cs[aS]:=zAe q;have bs:(aS:Int)<(lim:Int):=(aP 0x6459408858000031c09303d09038006) ag cl q;simp[q,q',S.c,ne,e,bs,eI,eJ,V9,PV]
  repeat (refine⟨by omega,?_⟩)
  exact fin _
 .have q':¬(aS:Int)<(cs.length:Int):=by exact(aD 62699312644502) q
  simp[q,q',eI,eJ,V9,PV];exact fin _
inductive fZ:Nat->Prop
 |n2:fZ 2
 |n3:fZ 3
 |n4:fZ 4
 |n5:fZ 5
 |n6:fZ 6
 |n7:fZ 7
 |n8:fZ 8
 |n9:fZ 9
theorem kinds:∀k,k<12->¬k<3->¬k=11->∃op,fZ op/\k=op+1
 |0,_,h,_=>absurd (by decide) h
 |1,_,h,_=>absurd (by decide) h
 |2,_,h,_=>absurd (by decide) h
 |3,_,_,_=>⟨2,.n2,rfl⟩
 |4,_,_,_=>⟨3,.n3,rfl⟩
 |5,_,_,_=>⟨4,.n4,rfl⟩
 |6,_,_,_=>⟨5,.n5,rfl⟩
 |7,_,_,_=>⟨6,.n6,rfl⟩
 |8,_,_,_=>⟨7,.n7,rfl⟩
 |9,_,_,_=>⟨8,.n8,rfl⟩
 |10,_,_,_=>⟨9,.n9,rfl⟩
 |11,_,_,h=>absurd rfl h
 |k+12,h,_,_=>absurd h (zGq.mpr (Nat.le_add_left 12 k))
variable (s lc cs) in
inductive GJ(d many:Nat)(H4:Z)(l:List V)(acc:List V)(H':Z):Prop
 |mk (ks:List (Nat×(Row->Bool))) (pO:Nat) (j4:Int) (h0:acc=ks.map (fun k=>V.ref k.1)) (h1:l.length+ks.length=many) (h2:(∀k∈ks,cw d H' k.1 k.2)) (h3:Src H' s lc cs pO j4) (h4:Kp (·=s) H4 H')
theorem Jz(O:cz c):∀(d:Nat) {n:Nat} {H:Z} {Q:V->Z->Prop} {aS:Nat} {rest:Int},d+2<=n->Src H s lc cs aS rest->
  (∀a f H' pO j4,cw d H' a f->Src H' s lc cs pO j4->Kp (·=s) H H'->H a=none->Q (.ref a) H')->aA c 55 n [.ref s,ae d] H Q:=by
 intro d
 induction d with
 |zero=>?_
 |succ d ih=>?_
 all_goals
  intro n H Q aS rest hn S h;have ag:=aJ;refine aF O (cL hn rfl) rfl ?_;have ne:=S.ne;simp[S.s]
  repeat (refine⟨by exact(aB 0x6883d09038006) ag,?_⟩)
  refine ?_;have S1:Src (H.set s (.aZ [(13,.ref lc),(14,ae aS),(15,.int (rest-1))])) s lc cs aS (rest-1):=⟨Z.ab _ _ _,by rw[Z.af _ _ ne];exact S.c,S.l⟩
  have k1:Kp (·=s) H (H.set s (.aZ [(13,.ref lc),(14,ae aS),(15,.int (rest-1))])):=(Kp.refl _ _).set (.inr rfl);generalize H.set s (.aZ [(13,.ref lc),(14,ae aS),(15,.int (rest-1))])=H1 at S1 k1
  have leaf:∀ρ,aA c 54 (n-1) [.ref s,.int 3] H1 (qn c (n-1) .nil ρ (iG (qk (.str 11) (iG (r8 Q))))):=fun ρ=>by
   refine rq O (bK hn rfl) S1 (many:=3) (by decide) fun k hk H2 S2 k2=>?_
   simp[ag];intro r hr;have Fl:=k1.trans k2;have q7:H r=none:=Fl.none hr (KY S2.s hr);exact h r _ _ _ _ (cw.leaf hk (Z.ab _ _ _)) (S2.fresh hr) (Fl.set (.inl q7)) q7
  first
  |exact leaf _
  |skip
 have z0:((d:Int)+1==0)=false:=by simp;exact aB 2776839225
 by_cases q:rest-1<=0
 .simp[S1.s,q,z0];exact leaf _
 simp[S1.s,q,z0];refine rq O (bK hn rfl) S1 (many:=12) (by decide) fun k hk H2 S2 k2=>?_
 have Fl:=k1.trans k2;by_cases q3:k<3
 .have PW:(k:Int)<3:=by exact(aB 0x68328d00b00000338016) hk q3
  simp[q3,PW,ag];intro r hr;have q7:H r=none:=Fl.none hr (KY S2.s hr);exact h r _ _ _ _ (cw.leaf q3 (Z.ab _ _ _)) (S2.fresh hr) (Fl.set (.inl q7)) q7
 have PW:¬(k:Int)<3:=by exact(aB 0x683292d00cb00000338016) hk q3
 by_cases Tr:k=11
 .clear PW q3 hk;subst Tr;simp;refine rq O (bK hn rfl) S2 (many:=2) (by decide) fun j hj H3 S3 k3=>?_
  have Wa:=Fl.trans k3;simp[ag];intro r hr;have q7:H r=none:=Wa.none hr (KY S3.s hr);exact h r _ _ _ _ (cw.con hj (Z.ab _ _ _)) (S3.fresh hr) (Wa.set (.inl q7)) q7
 have Ts:((k:Int)==11)=false:=by simp;exact(aB 0x2f80c9c800002f80096) Tr
 have parts:∀(op many:Nat) (k2:Option V) {H3:Z} {CX:Nat} {CY:Int},jS op many=true->many<=3->Src H3 s lc cs CX CY->Kp (·=s) H H3->
   bA c (n-1) (.bin .add (.list (.cons (.var 3) .nil)) (.comp (.br 55 (.cons (.var 0) (.cons (.bin .sub (.var 1) (.cst (.int 1))) .nil))) 5 .range (.var 4) (.cst (.bool true)))) [some (.ref s),some (ae (d+1)),k2,some (.str op),some (ae many),none] H3 Q:=fun op many k2 H3 CX CY Sd hm S3 k3=>by
  simp[ag];intro r0 N0;have S4:=S3.fresh (o:=.list [.str op]) N0;have Tt:H r0=none:=k3.none N0 (KY S3.s N0);have k4:Kp (·=s) H (H3.set r0 (.list [.str op])):=k3.set (.inl Tt);have e4:(H3.set r0 (.list [.str op])) r0=some (.list [.str op]):=Z.ab _ _ _;generalize H3.set r0 (.list [.str op])=H4 at S4 k4 e4
  have hit:iter H4 .range (.int (many:Nat))=some ((List.range many).map fun i=>V.int (i:Nat),fun _=>True):=by exact(eO ⟨by exact(aB 3398803494) hm,by exact(aD 0xc872ad09303d09038006) ag hm⟩).trans rfl
  refine fB hit (by simp;exact jl hm rfl) (GJ s lc cs d many H4) (fun _ _ _ _=>trivial)
   ⟨[],CX,CY,rfl,by simp,by simp,S4,Kp.refl _ _⟩ ?_ ?_
  .rintro v l acc H' K ⟨ks,pO,j4,rfl,hl,ht,S',k'⟩ kk;have e5:(V.int (((d:Int)+1)-1))=ae d:=by simp[ae]
   simp;refine ih (by exact(aD 0x586ac05082c5829426) hn) S' fun a f eL JA JB ta Ze Jt Wb=>?_
   refine kk _ _ ⟨ks++[(a,f)],JA,JB,by simp,by simp at hl⊢;exact(aP 0x12c340500415829406) hl,fun k hk=>?_,Ze,k'.trans Jt⟩
   rcases zAu.mp hk with hk |hk
   .exact(ht k hk).mono (S'.lists Jt)
   .simp at hk;subst hk;exact ta
  .clear k3 S3 Fl S2 leaf k1 S1 ne S ih;rintro acc H' r1 ⟨ks,pO,j4,rfl,hl,ht,S',k'⟩ uj;simp at hl;have Wc:=S4.lists k' _ _ e4;have Wd:r0≠r1:=pV Wc uj;have bl:ks.length+1<=1000000:=by exact(aD 0xf4240e2c34200419a026) hm hl
   simp[Wd,Wc,ag,bl];intro r2 jz;have S5:=S'.fresh (o:=.list (ks.map fun k=>V.ref k.1)) uj;have We:=k4.trans k';have Fn:H r1=none:=We.none uj (KY S'.s uj);have k5:Kp (·=s) H (H'.set r1 (.list (ks.map fun k=>V.ref k.1))):=We.set (.inl Fn)
   have Tu:∀b l,H' b=some (.list l)->(H'.set r1 (.list (ks.map fun k=>V.ref k.1))) b=some (.list l):=fun b l h=>by rw[Z.af _ _ (by clear k5 Fn S5 jz Wd;rintro rfl;rw[uj]at h;exact sn h rfl)];exact h
   generalize H'.set r1 (.list (ks.map fun k=>V.ref k.1))=H5 at*;have CH:H r2=none:=k5.none jz (by rintro rfl;exact sn S5.s jz)
   refine h r2 (fun row=>k8 op (ks.map fun k=>k.2 row) false) _ pO j4 (.inr (.inr ⟨op,ks,?_,by rw[hl];exact Sd,fun k hk=>?_,fun row=>rfl⟩)) (S5.fresh jz) (k5.set (.inl CH)) CH
   .rw[Z.ab]
   .refine((ht k hk).mono Tu).mono fun b l h=>?_;rw[Z.af _ _ (by rintro rfl;rw[jz]at h;exact sn h rfl)];exact h
 clear k2 leaf k1 S1 ne h S ih;obtain⟨op,dJ,hk⟩:=kinds k hk q3 Tr;have i0:(0:Int)<=(k:Int)-3/\(k:Int)-3<(lim:Int):=by exact(aD 0xf4240e65a0cd51a0cd54aeb0d000cd00cb0000033801607a120701e8481c06) ag ‹_› q3 hk
 have ei:([V.str 2,V.str 3,V.str 4,V.str 5,V.str 6,V.str 7,V.str 8,V.str 9]:List V)[((k:Int)-3).toNat]?=some (.str op):=by subst hk;cases dJ<;>rfl
 simp[PW,Ts,ag]at i0⊢;intro r hr;have S3:=S2.fresh (o:=.list [V.str 2,V.str 3,V.str 4,V.str 5,V.str 6,V.str 7,V.str 8,V.str 9]) hr;have q7:H r=none:=Fl.none hr (by rintro rfl;exact sn S2.s hr)
 have k3:Kp (·=s) H (H2.set r (.list [V.str 2,V.str 3,V.str 4,V.str 5,V.str 6,V.str 7,V.str 8,V.str 9])):=Fl.set (.inl q7);generalize H2.set r (.list [V.str 2,V.str 3,V.str 4,V.str 5,V.str 6,V.str 7,V.str 8,V.str 9])=H3 at*;refine⟨i0,?_⟩;rw[ei];simp[ag];intro r1 uj;have S4:=S3.fresh (o:=.aZ [(2,V.int 1),(8,V.int 3)]) uj;have Fn:H r1=none:=k3.none uj (by rintro rfl;exact sn S3.s uj)
 have k4:Kp (·=s) H (H3.set r1 (.aZ [(2,V.int 1),(8,V.int 3)])):=k3.set (.inl Fn);generalize H3.set r1 (.aZ [(2,V.int 1),(8,V.int 3)])=H4 at*
 clear ei hk;obtain⟨m,em,Tv,Tw⟩:∃m:Nat,(bif 2==op then some (V.int 1) else bif 8==op then some (V.int 3) else none).getD (V.int 2)=ae m/\m<=3/\(((decide (op=3)||(decide (op=4)||decide (op=9)))=false/\jS op m=true)\/((decide (op=3)||(decide (op=4)||decide (op=9)))=true/\jS op 2=true/\jS op 3=true)):=by cases dJ<;>first |exact⟨2,rfl,by decide,by decide⟩ |exact⟨1,rfl,by decide,by decide⟩ |exact⟨3,rfl,by decide,by decide⟩
 simp[em];rcases Tw with⟨e,ar⟩ |⟨e,a2,a3⟩<;>rw[e]
 .have p:=parts op m (some (ae k)) ar Tv S4 k4;simp[ag]at p⊢;exact p
 .simp;refine rq O (bK hn rfl) S4 (many:=2) (by decide) fun j hj H5 S5 k5=>?_
  have p:=parts op (2+j) (some (ae k)) (by rcases(show j=0\/j=1 by exact(aB 387049570009110) hj) with rfl |rfl;exact a2;exact a3) (by exact(aB 1788401516566) hj) S5 (k4.trans k5)
  simp[ag]at p⊢;exact p
end
theorem nU:∀l:List Bool,dt (l.map V.bool)=some l:=by
 intro zl
 induction zl with
 |nil=>
  exact rfl
 |cons i l ih=>
  simp[ih]
theorem jw(l:List Bool):(!l.contains false)=l.all id:=by
 induction l with
 |nil=>rfl
 |cons x l ih=>cases x<;>simp_all
theorem oM(l:List Bool):l.contains true=l.any id:=by
 induction l with
 |nil=>rfl
 |cons x l ih=>cases x<;>simp_all
inductive N1(d:Nat)(H:Z)(a:Nat)(f:Row->Bool):Prop
 |name (k:Nat) (hk:k<3) (e:H a=some (.list [.str 11,ae k])) (hf:∀row,f row=row k)
 |con (k:Nat) (hk:k<2) (e:H a=some (.list [.str 12,ae k])) (hf:∀row,f row=(k==1))
 |op (d' op:Nat) (ks:List (Nat×(Row->Bool))) (ed:d=d'+1) (e:H a=some (.list (.str op::ks.map fun k=>.ref k.1))) (ar:jS op ks.length=true) (zi:∀k∈ks,cw d' H k.1 k.2) (hf:∀row,f row=k8 op (ks.map fun k=>k.2 row) false)
theorem cw.cases{d:Nat}{H:Z}{a:Nat}{f:Row->Bool}(t:cw d H a f):N1 d H a f:=by
 cases d with
 |zero=>
      rcases t with⟨k,h1,h2,h3⟩ |⟨k,h1,h2,h3⟩
      .exact .name k h1 h2 h3
      .exact .con k h1 h2 h3
 |succ d=>
  rcases t with⟨k,h1,h2,h3⟩ |⟨k,h1,h2,h3⟩ |⟨op,ks,h1,h2,h3,h4⟩
  .exact .name k h1 h2 h3
  .exact .con k h1 h2 h3
  .exact .op d op ks rfl h1 h2 h3 h4
theorem Kp.lists{H H':Z}(k:Le H H'):∀b l,H b=some (.list l)->H' b=some (.list l):=fun _ _ h=>k.at h fun h=>h
section
variable {c:Cy} {n:Nat} {L:Rl->Nat} {B:List Nd} {H:Z} {Q:V->Z->Prop}
inductive IJ(row:Row)(ks:List (Nat×(Row->Bool)))(H1:Z)(l:List V)(acc:List V)(H':Z):Prop
 |mk (pre rest:List (Nat×(Row->Bool))) (h0:l=rest.map (fun k=>V.ref k.1)) (h1:ks=pre++rest) (h2:acc=(pre.map fun k=>k.2 row).map V.bool) (h3:Le H1 H')
theorem IJ.at{row:Row}(ks:List (Nat×(Row->Bool))){H1:Z}{l:List V}{acc:List V}{H':Z}:IJ row ks H1 l acc H'->Le H1 H' |mk _ _ _ _ _ h=>h
theorem pP{QS:SQ}{Q:EQ}{i k op a:Nat}{l:List V}{ρ:aH}{p q:PS}(e0:cO ρ i=some (.ref a))(e:H a=some (.list (.str op::l)))(h1:op=k->wpS c n p ρ H (D1 c n q QS Q) Q)(h2:op≠k->wpS c n q ρ H QS Q):
  wpS c n (.seq (.ifs (.cmp .eq (.sub (.var i) (.cst (.int 0))) (.cst (.str k))) p .skip) q) ρ H QS Q:=by
 simp[e0,e];by_cases x:op=k
 .rw[show (op==k)=true from beq_iff_eq.mpr x];exact h1 x
 .rw[show (op==k)=false from zCr.mpr x];exact h2 x
theorem y7(O:cz c){pr:Nat}{row:Row}:∀(d:Nat) {n:Nat} {H:Z} {Q:V->Z->Prop} {a:Nat} {f:Row->Bool},d+1<=n->cw d H a f->H pr=some (.list [.bool (row 0),.bool (row 1),.bool (row 2)])->
  (∀H',Le H H'->Q (.bool (f row)) H')->aA c 57 n [.ref a,.ref pr] H Q:=by
 intro d
 induction d using strongRecOn with
 |ind d ih=>
 intro n H Q a f hn T y5 h;have ag:=aJ;refine aF O (cL hn rfl) rfl ?_;rcases T.cases with⟨k,hk,e,hf⟩ |⟨k,hk,e,hf⟩ |⟨d',op,ks,rfl,e,ar,zi,hf⟩
 .have h0:=h H (Kp.refl _ _);rw[hf]at h0;have p4:k=0\/k=1\/k=2:=(aB 0x6001600850021a016) hk;clear hf hk;rcases p4 with rfl |rfl |rfl<;>(simp[e,y5,ag];exact h0)
 .have h0:=h H (Kp.refl _ _);rw[hf]at h0;have p4:k=0\/k=1:=(aB 387049570009110) hk;clear hf hk;rcases p4 with rfl |rfl<;>(simp[e,y5,ag];exact h0)
 .have CZ:1<=ks.length/\ks.length<=3:=(Kz ar).len;have JC:(op==11)=false:=by simp;clear hf e;rintro rfl;exact ft rfl ar
  have N2:(op==12)=false:=by simp;clear JC hf e;rintro rfl;exact ft rfl ar
  have b1:(1:Int)<=(ks.length:Int)+1:=(aB 0xb0668b568080b276) CZ;have b2:ks.length+1<=1000000:=(aB 0xf4240e2c14268080b276) CZ;simp[e,ag,JC,N2,b1,b2];intro rd Fo;have y6:=Le.fresh (o:=.list (ks.map fun k=>V.ref k.1)) Fo;have e1:(H.set rd (.list (ks.map fun k=>V.ref k.1))) rd=some (.list (ks.map fun k=>V.ref k.1)):=Z.ab _ _ _;generalize H.set rd (.list (ks.map fun k=>V.ref k.1))=H1 at*
  refine fB (items:=ks.map fun k=>V.ref k.1) (g:=fun H'=>H' rd=some (.list (ks.map fun k=>V.ref k.1))) (bF e1) (by simp;exact BK b2 rfl)
   (IJ row ks H1) (fun _ _ _ j=>j.at.at e1 fun h=>h) ⟨[],ks,rfl,rfl,rfl,Kp.refl _ _⟩ ?_ ?_
  .rintro v l acc H' K ⟨pre,rest,e0,zu,rfl,le⟩ kk;cases rest with
   |nil=>cases e0
   |cons k rest=>
    simp only[map_cons,List.cons.injEq]at e0;obtain⟨rfl,rfl⟩:=e0;have lh:=y6.trans le;simp;refine ih d' (aB 5777409) ((aD 0x586ab05082b5829426) hn) ((zi k (by rw[zu];simp)).mono lh.lists) (lh.lists _ _ y5) fun eL Tx=>?_
    exact kk _ _ ⟨pre++[k],rest,rfl,by rw[zu];simp,by simp,le.trans Tx⟩
  .rintro acc H' rt ⟨pre,rest,e0,zu,rfl,le⟩ PX;have:rest=[]:=by simpa using e0.symm
   clear e0;subst this;simp at zu;subst zu;have lh:=y6.trans le;have e2:(H'.set rt (.list ((ks.map fun k=>k.2 row).map V.bool))) rt=some (.list ((ks.map fun k=>k.2 row).map V.bool)):=Z.ab _ _ _;have rK:=lh.set (o:=.list ((ks.map fun k=>k.2 row).map V.bool)) (.inl (lh.none PX fun h=>h));have ea:=rK.lists _ _ e;have hh:=h _ rK;rw[hf row]at hh;have KL:(ks.map fun k=>k.2 row).length=ks.length:=zCe _;rw[←KL]at ar CZ;generalize H'.set rt (.list ((ks.map fun k=>k.2 row).map V.bool))=H2 at*;generalize (ks.map fun k=>k.2 row)=bs at*;clear ih T h zi hf e e1 JC N2 le y6 lh rK PX Fo CZ b1 b2;refine pP rfl ea (fun e=>?_) fun n2=>pP rfl ea (fun e=>?_) fun n3=>pP rfl ea (fun e=>?_) fun n4=>pP rfl ea (fun e=>?_) fun n6=>pP rfl ea (fun e=>?_) fun n7=>pP rfl ea (fun e=>?_) fun n8=>?_
   .clear ea;subst e;obtain⟨x,rfl⟩:=vD (eq_of_beq ar);simp at e2;simp[e2,ag];simpa using hh
   .clear ea;clear n2 ar;subst e;simp[e2,ag,nU];simp only[k8_3]at hh;rw[←jw]at hh;simpa using hh
   .clear ea;clear n3 n2 ar;subst e;simp[e2,ag,nU];simp only[k8_4]at hh;rw[←oM]at hh;simpa using hh
   .clear ea;clear KL n4 n3 n2;subst e;obtain⟨x,y,rfl⟩:=iM (eq_of_beq ar);simp at e2;cases y<;>cases x<;>(simp[e2,ag];exact hh)
   .clear ea;clear KL n6 n4 n3 n2;subst e;obtain⟨x,y,rfl⟩:=iM (eq_of_beq ar);simp at e2;simp[e2,ag];exact hh
   .clear ea;clear KL n7 n6 n4 n3 n2;subst e;obtain⟨x,y,z,rfl⟩:=BX (eq_of_beq ar);simp at e2;cases x<;>(simp[e2,ag];exact hh)
   .clear ea;rcases Kz ar with⟨e,_⟩ |⟨e,_⟩ |⟨e,_⟩ |⟨rfl,hl⟩ |⟨e,_⟩ |⟨e,_⟩ |⟨e,_⟩ |⟨rfl,hl⟩
    .exact absurd e n2
    .exact absurd e n3
    .exact absurd e n4
    .clear ar KL;obtain⟨x,y,rfl⟩:=iM hl;simp at e2;simp[e2,ag];exact hh
    .exact absurd e n6
    .exact absurd e n7
    .exact absurd e n8
    .clear ar KL;rcases hl with hl |hl
     .obtain⟨x,y,rfl⟩:=iM hl;simp at e2;simp[e2,ag];exact hh
     .obtain⟨x,y,z,rfl⟩:=BX hl;simp at e2;simp[e2,ag];exact hh
noncomputable def ic:Nat->Nat
 |0=>0
 |d+1=>1+3*ic d
noncomputable def ww:Nat->Nat
 |0=>1
 |d+1=>1+3*ww d
theorem JD:∀d,1<=ww d
 |0=>zAq 1
 |d+1=>zCw 1 _
structure G5(B B':List Nd)(t:Nat)(f:Row->Bool)(w k:Nat):Prop where
 grow:cG B B'
 pos:1<=t
 lt:t<B'.length
 val:∀row,Internal.val B' row t=f row
 wt:Internal.wt B' t<=w
 len:B'.length<=B.length+k
theorem Made.t{B0 B B':List Nd}{t:Nat}{f g:Row->Bool}{w w' k k':Nat}(x:Made B B' t g w)(gr:cG B0 B)(hl:B.length<=B0.length+k')(h:∀row,g row=f row)(hw:w<=w')(hk:k'+1<=k):G5 B0 B' t f w' k:=
 ⟨gr.trans x.grow,x.pos,x.lt,fun row=>(x.val row).trans (h row),zDo x.wt hw,by have:=x.len;exact(rN 0x18684258284261ac54261068026) hl hk this⟩
theorem JE{B:List Nd}{w:Nat}:∀{l:List Nat},(∀t∈l,Internal.wt B t<=w)->(l.map (Internal.wt B)).sum<=l.length*w:=by
 intro zl
 induction zl with
 |nil=>
  rintro _;exact zEw _
 |cons x l ih=>
  rintro h;have h1:=h x (.head _);have:=ih fun t ht=>h t (.tail _ ht);simp only[map_cons,sum_cons,length_cons,succ_mul];exact(dq 0x23a08142188982026) h1 this
theorem tU{H1 H H':Z}{S:Nat->Prop}(le:Le H1 H)(k:Kp S H H')(hd:∀b,S b->H1 b=none):Le H1 H':=fun b hb _=>by have e:=le b hb fun h=>h;rw[k b (by rw[e];exact hb) fun hs=>hb (hd b hs)];rw[e]
variable (L B H) in
inductive MJ(ks:List (Nat×(Row->Bool)))(d' rd:Nat)(l:List V)(acc:List V)(H':Z):Prop
 |mk (pre rest:List (Nat×(Row->Bool))) (Bk:List Nd) (ts:List Nat) (h0:l=rest.map (fun k=>V.ref k.1)) (h1:ks=pre++rest) (h2:acc=ts.map ae) (h3:ts.length=pre.length) (h4:Kp (RB L) H H') (h5:H' rd=some (.list (ks.map fun k=>V.ref k.1))) (h6:av L Bk H') (h7:cG B Bk) (h8:Bk.length<=B.length+pre.length*ic d') (h9:(∀row,ts.map (val Bk row)=pre.map fun k=>k.2 row)) (lM:∀t∈ts,1<=t/\t<Bk.length/\wt Bk t<=ww d')
theorem MJ.at(ks:List (Nat×(Row->Bool))){d' rd:Nat}{l:List V}{acc:List V}{H':Z}:MJ L B H ks d' rd l acc H'->H' rd=some (.list (ks.map fun k=>V.ref k.1)) |mk _ _ _ _ _ _ _ _ _ h _ _ _ _ _=>h
theorem JF(O:cz c){pn:Nat}{H1:Z}(hB:∀b,RB L b->H1 b=none)(Tz:¬RB L pn):∀(d:Nat) {n:Nat} {B:List Nd} {H:Z} {Q:V->Z->Prop} {a:Nat} {f:Row->Bool},d+4<=n->av L B H->cw d H1 a f->Le H1 H->H pn=some (.list [ae 3,ae 4,ae 5])->B.length+ic d<=3000->
  (∀t B' H',G5 B B' t f (ww d) (ic d)->av L B' H'->Kp (RB L) H H'->Q (ae t) H')->aA c 56 n [.ref (L .kI),.ref pn,.ref a] H Q:=by
 intro d
 induction d using strongRecOn with
 |ind d ih=>
 intro n B H Q a f hn X T le Dx hlen h;have ag:=aJ;have g:=X.good;have N3:=g.len;have be:=X.ei;refine aF O (cL hn rfl) rfl ?_;have TA:=JD d;rcases T.cases with⟨k,hk,e,hf⟩ |⟨k,hk,e,hf⟩ |⟨d',op,ks,rfl,e,ar,zi,hf⟩
 .have h0:=h (3+k) B H ⟨cG.refl _,by exact(aB 58565697558) hk,by exact(aD 0x5b41684581026) N3 hk,fun row=>by rw[tT g row hk];rw[hf],?_,by exact aD 534530⟩ X (Kp.refl _ _)
  .have e:=le.lists _ _ e;have p4:k=0\/k=1\/k=2:=by exact(aB 0x6001600850021a016) hk
   clear hf hk;rcases p4 with rfl |rfl |rfl<;>(simp[e,Dx,ag];exact h0)
  .rw[gf g];rw[g.low (by exact(aB 2200852340758) hk)]
   have:k=0\/k=1\/k=2:=by exact(aB 0x6001600850021a016) hk
   clear hf e hk;rcases this with rfl |rfl |rfl<;>exact TA
 .have e:=le.lists _ _ e;have p4:k=0\/k=1:=by exact(aB 387049570009110) hk
  rcases p4 with rfl |rfl
  .have h0:=h 2 B H ⟨cG.refl _,cL hk rfl,by exact(aB 50597926) N3,fun row=>by rw[val_2 g];rw[hf];rfl,by rw[wt_2 g];exact TA,by exact aD 534530⟩ X (Kp.refl _ _)
   simp[e,ag,be];exact EN O (bK hn rfl) X h0
  .have h0:=h 1 B H ⟨cG.refl _,by decide,by exact(aB 46403622) N3,fun row=>by rw[val_1 g];rw[hf];rfl,by rw[wt_1 g];exact TA,by exact aD 534530⟩ X (Kp.refl _ _)
   simp[e,ag,be];exact Jf O (bK hn rfl) X h0
 .have e':=le.lists _ _ e;have CZ:1<=ks.length/\ks.length<=3:=(Kz ar).len;have JC:(op==11)=false:=by simp;clear e' hf e;rintro rfl;exact ft rfl ar
  have N2:(op==12)=false:=by simp;clear JC e' hf e;rintro rfl;exact ft rfl ar
  have b1:(1:Int)<=(ks.length:Int)+1:=by exact(aB 0xb0668b568080b276) CZ
  have b2:ks.length+1<=1000000:=by exact(aB 0xf4240e2c14268080b276) CZ
  simp[e',ag,JC,N2,b1,b2];intro rd Fo;have X1:=X.fresh (o:=.list (ks.map fun k=>V.ref k.1)) Fo;have Zf:¬RB L rd:=fun⟨q,hq,e⟩=>X.live hq (by rw[e];exact Fo)
  have k1:Kp (RB L) H (H.set rd (.list (ks.map fun k=>V.ref k.1))):=(Kp.refl _ _).set (.inl Fo);have e1:(H.set rd (.list (ks.map fun k=>V.ref k.1))) rd=some (.list (ks.map fun k=>V.ref k.1)):=Z.ab _ _ _;generalize H.set rd (.list (ks.map fun k=>V.ref k.1))=H2 at*;rw[show ic (d'+1)=1+3*ic d' from rfl]at hlen
  refine fB (items:=ks.map fun k=>V.ref k.1) (g:=fun H'=>H' rd=some (.list (ks.map fun k=>V.ref k.1))) (bF e1) (by simp;exact BK b2 rfl)
   (MJ L B H ks d' rd) (fun _ _ _ j=>j.at) ⟨[],ks,B,[],rfl,rfl,rfl,rfl,k1,e1,X1,cG.refl _,by simp,fun _=>rfl,by simp⟩ ?_ ?_
  .rintro v l acc H' K ⟨pre,rest,Bk,ts,e0,zu,rfl,Fp,k,er,Xk,gr,KO,hv,ht⟩ kk;cases rest with
   |nil=>cases e0
   |cons p rest=>
    simp only[map_cons,List.cons.injEq]at e0;obtain⟨rfl,rfl⟩:=e0;have iI:pre.length+1<=3:=by have:=zEy length zu;simp at this;exact(aP 0x1ab0d0962a06800668080b276) CZ this
    have hmul:pre.length*ic d'+ic d'<=3*ic d':=by have:=Nat.mul_le_mul_right (ic d') iI;rw[succ_mul]at this;exact this
    simp;refine ih d' (by exact aB 5777409) (by exact(aD 0x586ae05082e5829426) hn) Xk (zi p (by rw[zu];simp)) (tU le k hB) (k.at Dx Tz) (by exact(dq 0x5dc7022a1047d08e84c305044c000bb8e047d5d01426) hlen KO hmul) fun t B' eL m Wf Jt=>?_
    have gk:=Xk.good;have Wg:=Wf.good;refine kk _ _ ⟨pre++[p],rest,B',ts++[t],rfl,by rw[zu];simp,by simp,by simp[Fp],k.trans Jt,Jt.at er Zf,Wf,gr.trans m.grow,?_,fun row=>?_,fun u hu=>?_⟩
    .have:=m.len;simp[succ_mul];exact(rN 0x82a0683220283261068026) KO this
    .rw[map_append];rw[map_append];rw[←hv row];congr 1
     .exact zEi fun u hu=>bN gk Wg m.grow row u (ht u hu).2.1
     .simp[m.val row]
    .rcases zAu.mp hu with hu |hu
     .obtain⟨a1,a2,a3⟩:=ht u hu;have:=m.grow.len;exact⟨a1,by exact(aP 70441835700246) a2 this,by rw[vC gk Wg m.grow u a2];exact a3⟩
     .simp at hu;subst hu;exact⟨m.pos,m.lt,m.wt⟩
  .rintro acc H' rp ⟨pre,rest,Bk,ts,e0,zu,rfl,Fp,k,er,Xk,gr,KO,hv,ht⟩ PY;have:rest=[]:=by simpa using e0.symm
   clear e0;subst this;simp at zu;subst zu;have hmul:ks.length*ic d'<=3*ic d':=Nat.mul_le_mul_right _ CZ.2;have JG:=JE (B:=Bk) (w:=ww d') (l:=ts) fun t h=>(ht t h).2.2;rw[Fp]at JG;have G6:ks.length*ww d'<=3*ww d':=Nat.mul_le_mul_right _ CZ.2;have Xr:=Xk.fresh (o:=.list (ts.map ae)) PY;have kr:Kp (RB L) H (H'.set rp (.list (ts.map ae))):=k.set (.inl (k.none PY fun⟨q,hq,e⟩=>Xk.live hq (by rw[e];exact PY)))
   have ju:(H'.set rp (.list (ts.map ae))) rp=some (.list (ts.map ae)):=Z.ab _ _ _;have ea:=(tU le kr hB).lists _ _ e;generalize H'.set rp (.list (ts.map ae))=H3 at*;have ce:=Xr.ei;have gk:=Xk.good;have rg:∀a∈ts,1<=a/\a<Bk.length:=fun a ha=>⟨(ht a ha).1,(ht a ha).2.1⟩;have G7:Bk.length<4000:=by exact(dq 0x7d0704211f464c305044c000bb8e047d5d01426) hlen KO hmul
   have fin:∀{u:Nat} {B':List Nd} {H4:Z} {gg:Row->Bool} {w:Nat},Made Bk B' u gg w->(∀row,gg row=k8 op (ts.map (val Bk row)) false)->w<=1+(ts.map (wt Bk)).sum->av L B' H4->Kp (RB L) H3 H4->Q (ae u) H4:=fun{u B' H4 gg w} m hg hw X4 k4=>h u B' H4 (m.t (k':=ks.length*ic d') gr KO (fun row=>by rw[hg];rw[hf];rw[hv row]) (by rw[show ww (d'+1)=1+3*ww d' from rfl];exact(dq 0x10faba0c80ba0c9843e84982026) JG G6 hw) (by simp only[ic];exact(aD 0x8faba2c14208fa026) hmul)) X4 (kr.trans k4)
   have JH:=ar;rw[←Fp]at JH;clear be ih T X X1 h zi hf e e' e1 JC N2 le CZ b1 b2 ar ht hv JG hmul G6 kr k k1 er PY Fo gr KO;rcases Kz JH with⟨rfl,hl⟩ |⟨rfl,hl⟩ |⟨rfl,hl⟩ |⟨rfl,hl⟩ |⟨rfl,hl⟩ |⟨rfl,hl⟩ |⟨rfl,hl⟩ |⟨rfl,hl⟩
   .clear JH Fp;obtain⟨x,rfl⟩:=vD hl;simp at ju;simp[ea,ju,ag,ce];have hx:=rg x (.head _);exact tA O (bK hn rfl) Xr hx.1 hx.2 G7 fun u B' H4 m _ X4 k4=>fin m (fun row=>rfl) (by simp;exact aB 195215682) X4 k4
   .simp[ea,ag,ce];exact B5 O (bK hn rfl) Xr ju hl rg G7 fun u B' H4 m X4 k4=>fin m (fun row=>rfl) (by exact aB 195041090) X4 k4
   .simp[ea,ag,ce];exact EP O (bK hn rfl) Xr ju hl rg G7 fun u B' H4 m X4 k4=>fin m (fun row=>rfl) (by exact aB 195041090) X4 k4
   .clear JH Fp;obtain⟨x,y,rfl⟩:=iM hl;simp at ju;simp[ea,ju,ag,ce];exact BY O (bK hn rfl) Xr (rg x (.head _)) (rg y (.tail _ (.head _))) G7 fun u B' H4 m X4 k4=>fin m (fun row=>rfl) (by simp;exact aD 574144802646338) X4 k4
   .clear JH Fp;obtain⟨x,y,rfl⟩:=iM hl;simp at ju;simp[ea,ju,ag,ce];exact qU O (bK hn rfl) Xr (rg x (.head _)) (rg y (.tail _ (.head _))) G7 fun u B' H4 m X4 k4=>fin m (fun row=>rfl) (by simp;exact aD 574144802646338) X4 k4
   .clear JH Fp;obtain⟨x,y,rfl⟩:=iM hl;simp at ju;simp[ea,ju,ag,ce];exact Nr O (bK hn rfl) Xr (rg x (.head _)) (rg y (.tail _ (.head _))) G7 fun u B' H4 m X4 k4=>fin m (fun row=>rfl) (by simp;exact aD 574144802646338) X4 k4
   .clear JH Fp;obtain⟨x,y,z,rfl⟩:=BX hl;simp at ju;simp[ea,ju,ag,ce];exact w_ite O (bK hn rfl) Xr (rg x (.head _)) (rg y (.tail _ (.head _))) (rg z (.tail _ (.tail _ (.head _)))) G7 fun u B' H4 m X4 k4=>fin m (fun row=>rfl) (by simp;exact aP 0x41a028ba08205d2942) X4 k4
   .simp[ea,ag,ce];exact vE O (bK hn rfl) Xr ju hl rg G7 fun u B' H4 m X4 k4=>fin m (fun row=>by simp) (by exact aB 195041090) X4 k4
end
structure kK(H0 H:Z)(k:Nat)(C:lE)(fs:List (Nat×V))(os:List (Nat×aN)):Prop where
 inst:H k=some (.inst C fs)
 objs:∀p∈os,H p.1=some p.2
 nd:(k::os.map (·.1)).Nodup
 dead:∀a∈k::os.map (·.1),H0 a=none
 le:Le H0 H
section
variable {H0 H:Z} {k j r:Nat} {C:lE} {fs:List (Nat×V)} {os:List (Nat×aN)} {o:aN} {v:V}
theorem kK.new(h:H0 k=none):kK H0 (H0.set k (.inst C [])) k C [] []:=
 ⟨Z.ab _ _ _,by simp,by simp,by simpa using h,Le.fresh h⟩
theorem kK.attr(w:kK H0 H k C fs os):kK H0 (H.set k (.inst C (putD j v fs))) k C (putD j v fs) os:=by
 refine⟨Z.ab _ _ _,fun p hp=>?_,w.nd,w.dead,w.le.set (.inl (w.dead k (.head _)))⟩;rw[Z.af _ _ (by rintro rfl;exact(zCq.mp w.nd).1 (zAt.mpr ⟨p,hp,rfl⟩))]
 exact w.objs p hp
theorem kK.obj(w:kK H0 H k C fs os)(hr:H r=none):kK H0 ((H.set r o).set k (.inst C (putD j (.ref r) fs))) k C (putD j (.ref r) fs) (os++[(r,o)]):=by
 have hk:k≠r:=pV w.inst hr;have ho:∀p∈os,p.1≠r:=fun p hp e=>by have:=w.objs p hp;rw[e,hr]at this;exact sn this rfl
 have h0:H0 r=none:=w.le.none hr fun h=>h
 have w1:kK H0 (H.set r o) k C fs (os++[(r,o)]):=by
  refine⟨by rw[Z.af _ _ hk];exact w.inst,fun p hp=>?_,?_,?_,w.le.set (.inl h0)⟩
  .rcases zAu.mp hp with hp |hp
   .rw[Z.af _ _ (ho p hp)];exact w.objs p hp
   .simp at hp;subst hp;exact Z.ab _ _ _
  .rw[map_append];rw[←cons_append];refine zCi.mpr ⟨w.nd,by simp,?_⟩
   intro a ha b hb e;simp at hb;rw[e,hb]at ha;rcases zAy.mp ha with h |h
   .exact hk h.symm
   .obtain⟨p,hp,e⟩:=zAt.mp h;exact ho p hp e
  .intro a ha;rw[map_append,←cons_append]at ha;clear ho hk hr;rcases zAu.mp ha with ha |ha
   .exact w.dead a ha
   .simp at ha;subst ha;exact h0
 exact w1.attr
end
noncomputable def pick{α:Type}:List Bool->List α->List α
 |true::m,x::l=>x::pick m l
 |false::m,_::l=>pick m l
 |_,_=>[]
theorem fJ{α:Type}:∀(m:List Bool) (l:List α),(pick m l).Sublist l
 |[],l=>List.nil_sublist _
 |true::m,[]=>List.nil_sublist _
 |false::m,[]=>List.nil_sublist _
 |true::m,x::l=>.cons₂ _ (fJ m l)
 |false::m,x::l=>.cons _ (fJ m l)
noncomputable def apart:List Bool->List Bool->Bool
 |a::m,b::m'=>!(a&&b)&&apart m m'
 |_,_=>true
theorem nV{α:Type}:∀{m m':List Bool} {l:List α},l.Nodup->apart m m'=true->∀b∈pick m l,b∉pick m' l
 |[],_,_,_,_,b,h=>by cases h
 |_::_,[],_,_,_,b,h=>by intro h';cases h'
 |true::_,_::_,[],_,_,b,h=>by cases h
 |false::_,_::_,[],_,_,b,h=>by cases h
 |a::m,a'::m',x::l,hn,e,b,h=>by
  obtain⟨e1,e2⟩:=zBu.mp e;obtain⟨n1,n2⟩:=zCq.mp hn;have ih:=nV (m:=m) (m':=m') n2 e2;clear hn e;cases a with
  |false=>cases a' with
   |false=>exact ih b h
   |true=>
    intro h';rcases zAy.mp h' with rfl |h'
    .exact n1 ((fJ m l).subset h)
    .exact ih b h h'
  |true=>cases a' with
   |true=>exact ft rfl e1
   |false=>
    intro h';rcases zAy.mp h with rfl |h
    .exact n1 ((fJ m' l).subset h')
    .exact ih b h h'
theorem cR{α:Type}{l:List α}{P:α->Prop}(h:∀p∈l,P p){i:Nat}{p:α}(e:l[i]?=some p):P p:=h p (zFr e)
theorem kK.live{H0 H:Z}{k:Nat}{C:lE}{fs:List (Nat×V)}{os:List (Nat×aN)}(w:kK H0 H k C fs os):∀b∈k::os.map (·.1),H b≠none:=fun b hb=>by
 rcases zAy.mp hb with rfl |hb
 .rw[w.inst];nofun
 .obtain⟨p,hp,rfl⟩:=zAt.mp hb;rw[w.objs p hp];nofun
section
variable {c:Cy} {n:Nat} {H0 H:Z} {Q:V->Z->Prop} {k j:Nat} {C:lE} {fs:List (Nat×V)} {os:List (Nat×aN)} {ρ:aH} {QS:SQ}
theorem dc(w:kK H0 H k C fs os)(hf:short 899 fs=true){l:List V}(hl:short 1000 l=true)(IY:cO ρ 0=some (.ref k))
  (h:∀r H',kK H0 H' k C (putD j (.ref r) fs) (os++[(r,.list l)])->QS ρ H'):r8 (sf c n (.var 0) j ρ QS) l H:=by
 refine DK hl fun r hr=>?_;have hk:k≠r:=pV w.inst hr;simp[IY,hk,w.inst];exact⟨hf,h r _ (w.obj hr)⟩
theorem lS(w:kK H0 H k C fs os)(hf:short 899 fs=true)(IY:cO ρ 0=some (.ref k))
  (h:∀r H',kK H0 H' k C (putD j (.ref r) fs) (os++[(r,.ax [])])->QS ρ H'):bA c n .gJ ρ H (sf c n (.var 0) j ρ QS):=by
 rw[wW];intro r hr;have hk:k≠r:=pV w.inst hr;simp[IY,hk,w.inst];exact⟨hf,h r _ (w.obj hr)⟩
theorem jx(w:kK H0 H k C fs os)(hf:short 899 fs=true)(IY:cO ρ 0=some (.ref k)){v:V}
  (h:∀H',kK H0 H' k C (putD j v fs) os->QS ρ H'):sf c n (.var 0) j ρ QS v H:=by
 simp[IY,w.inst];exact⟨hf,h _ w.attr⟩
theorem wL{es:PE}{l:List V}(he:∀Q',bA c n es ρ H Q'=Q' (.tup l) H){Q:EQ}(h:r8 Q l H):bA c n (.list es) ρ H Q:=by rw[bX];rw[he];exact h
theorem nW(O:cz c)(hn:1<=n)(hk:H0 k=none)(h:∀a b H',kK H0 H' k .store [(3,.int 0),(4,.ref a),(0,.ref b)] [(a,.list []),(b,.list [])]->Q .none H'):
  aA c 15 n [.ref k] (H0.set k (.inst .store [])) Q:=by
 refine aF O hn rfl ?_;dsimp only[qQ,lN,qP,qO,cb,cJ,iP];refine jx (kK.new hk) rfl rfl fun H1 w1=>?_;dsimp only[cn,cb,cJ];refine wL (l:=[]) (fun Q'=>rfl) (dc w1 rfl rfl rfl fun a H2 w2=>?_);dsimp only[cn,cb,cJ];refine wL (l:=[]) (fun Q'=>rfl) (dc w2 rfl rfl rfl fun b H3 w3=>?_);dsimp only[cn,uG];exact h a b H3 w3
theorem C0(O:cz c)(hn:1<=n)(hk:H0 k=none)(h:∀a b H',kK H0 H' k (.proof ()) [(0,.ref a),(1,.ref b),(2,.int (-1))] [(a,.list []),(b,.list [.int 0])]->Q .none H'):
  aA c 3 n [.ref k] (H0.set k (.inst (.proof ()) [])) Q:=by
 refine aF O hn rfl ?_;dsimp only[qQ,lN,qP,qO,cb,cJ];refine wL (l:=[]) (fun Q'=>rfl) (dc (kK.new hk) rfl rfl rfl fun a H1 w1=>?_);dsimp only[cn,cb,cJ];refine wL (l:=[.int 0]) (fun Q'=>rfl) (dc w1 rfl rfl rfl fun b H2 w2=>?_);dsimp only[cn,cb,cJ,bX,iP,LO];refine jx w2 rfl rfl fun H3 w3=>?_;dsimp only[cn,uG];exact h a b H3 w3
theorem nX(O:cz c)(hn:1<=n)(hk:H0 k=none){x y z:V}(h:∀mv mt ms mo mw H',kK H0 H' k .maker [(5,x),(6,y),(7,z),(8,.ref mv),(9,.ref mt),(10,.ref ms),(11,.ref mo),(12,.ref mw),(13,.int 0)] [(mv,.ax []),(mt,.list [.int 0]),(ms,.ax []),(mo,.ax []),(mw,.list [])]->Q .none H'):
  aA c 18 n [.ref k,x,y,z] (H0.set k (.inst .maker [])) Q:=by
 refine aF O hn rfl ?_;dsimp only[qQ,lN,qP,qO,cb,cJ,wV,uy,cO_0,kg];refine jx (kK.new hk) rfl rfl fun H1 w1=>?_;dsimp only[cn,cb,cJ,wV,uy,cO_0,kg];refine jx w1 rfl rfl fun H1 w1=>?_;dsimp only[cn,cb,cJ,wV,uy,cO_0,kg];refine jx w1 rfl rfl fun H1 w1=>?_;dsimp only[cn,cb,cJ];refine lS w1 rfl rfl fun mv H1 w1=>?_;dsimp only[cn,cb,cJ];refine wL (l:=[.int 0]) (fun Q'=>rfl) (dc w1 rfl rfl rfl fun mt H1 w1=>?_);dsimp only[cn,cb,cJ];refine lS w1 rfl rfl fun ms H1 w1=>?_;dsimp only[cn,cb,cJ];refine lS w1 rfl rfl fun mo H1 w1=>?_;dsimp only[cn,cb,cJ];refine wL (l:=[]) (fun Q'=>rfl) (dc w1 rfl rfl rfl fun mw H1 w1=>?_);dsimp only[cn,cb,cJ,iP];refine jx w1 rfl rfl fun H1 w1=>?_;dsimp only[cn,uG];exact h mv mt ms mo mw H1 w1
end
structure gy(k o a s d m:Nat)(fs:List (Nat×V))(B:List Nd)(H:Z):Prop where
 inst:H k=some (.inst .aM fs)
 fo:aj 20 fs=some (.ref o)
 fa:aj 21 fs=some (.ref a)
 Dk:aj 22 fs=some (.ref s)
 fd:aj 23 fs=some (.ref d)
 fm:aj 24 fs=some (.ref m)
 ops:H o=some (.list (B.map fun k=>.str k.op))
 args:H a=some (.list (B.map fun k=>dG k.args))
 sorts:H s=some (.list (B.map fun _=>.int 0))
 cP:H d=some (.list (B.map fun k=>ae k.data))
 nums:(H m).bind r6=some (tabOf B)
 nd:[k,o,a,s,d,m].Nodup
theorem JI{E:EQ->Z->Prop}{F:EQ}{H:Z}{om:aN}(h:OF (some om)):uB E F H (some om)=E F H:=by cases om<;>first |rfl |exact h.elim
section
variable {c:Cy} {n:Nat} {H:Z} {Q:V->Z->Prop} {k o a s d m:Nat} {fs:List (Nat×V)} {B:List Nd}
theorem gy.attr(X:gy k o a s d m fs B H){j:Nat}{v:V}(hj:j≠20/\j≠21/\j≠22/\j≠23/\j≠24):gy k o a s d m (putD j v fs) B (H.set k (.inst .aM (putD j v fs))):=by
 have nk:=(zCq.mp X.nd).1;refine⟨Z.ab _ _ _,?_,?_,?_,?_,?_,?_,?_,?_,?_,?_,X.nd⟩
 .rw[bP];rw[zAi hj.1];exact X.fo
 .rw[bP];rw[zAi hj.2.1];exact X.fa
 .rw[bP];rw[zAi hj.2.2.1];exact X.Dk
 .rw[bP];rw[zAi hj.2.2.2.1];exact X.fd
 .rw[bP];rw[zAi hj.2.2.2.2];exact X.fm
 .rw[Z.af _ _ fun e:o=k=>nk (e▸.head _)];exact X.ops
 .rw[Z.af _ _ fun e:a=k=>nk (e▸.tail _ (.head _))];exact X.args
 .rw[Z.af _ _ fun e:s=k=>nk (e▸.tail _ (.tail _ (.head _)))];exact X.sorts
 .rw[Z.af _ _ fun e:d=k=>nk (e▸.tail _ (.tail _ (.tail _ (.head _))))];exact X.cP
 .rw[Z.af _ _ fun e:m=k=>nk (e▸.tail _ (.tail _ (.tail _ (.tail _ (.head _)))))];exact X.nums
theorem gy.live(X:gy k o a s d m fs B H):∀b∈[k,o,a,s,d,m],H b≠none:=by
 have nm:=X.nums;simp only[List.forall_mem_cons];refine⟨?_,?_,?_,?_,?_,?_,nofun⟩
 .rw[X.inst];nofun
 .rw[X.ops];nofun
 .rw[X.args];nofun
 .rw[X.sorts];nofun
 .rw[X.cP];nofun
 .intro e;rw[e]at nm;exact sn nm rfl
theorem gy.same(X:gy k o a s d m fs B H){H':Z}(h:∀b∈[k,o,a,s,d,m],H' b=H b):gy k o a s d m fs B H':=by exact⟨(h _ (.head _)).trans X.inst,X.fo,X.fa,X.Dk,X.fd,X.fm,(h _ (.tail _ (.head _))).trans X.ops,(h _ (.tail _ (.tail _ (.head _)))).trans X.args,(h _ (.tail _ (.tail _ (.tail _ (.head _))))).trans X.sorts,(h _ (.tail _ (.tail _ (.tail _ (.tail _ (.head _)))))).trans X.cP,by rw[h _ (.tail _ (.tail _ (.tail _ (.tail _ (.tail _ (.head _))))))];exact X.nums,X.nd⟩
theorem ru(O:cz c)(hn:1<=n)(X:gy k o a s d m fs B H)(h1:1<=B.length)(h3:B.length<4000){q:Nd}(hq:q∉B.drop 1)
  (h:∀H',gy k o a s d m fs (B++[q]) H'->(∀b,b∉[o,a,s,d,m]->H' b=H b)->Q (ae B.length) H'):
  aA c 40 n [.ref k,.str q.op,dG q.args,.int 0,ae q.data] H Q:=by
 have hk:=tx q;have ag:=aJ;obtain⟨nk,n1⟩:=zCq.mp X.nd;obtain⟨no,n2⟩:=zCq.mp n1;obtain⟨na,n3⟩:=zCq.mp n2;obtain⟨ns,n4⟩:=zCq.mp n3;have Tq:=(zCq.mp n4).1;clear n1 n2 n3 n4;have k1:¬k=o:=fun e=>nk (e▸.head _);have k2:¬k=a:=fun e=>nk (e▸.tail _ (.head _));have k3:¬k=s:=fun e=>nk (e▸.tail _ (.tail _ (.head _)));have k4:¬k=d:=fun e=>nk (e▸.tail _ (.tail _ (.tail _ (.head _))));have k5:¬k=m:=fun e=>nk (e▸.tail _ (.tail _ (.tail _ (.tail _ (.head _)))));have o1:¬o=a:=fun e=>no (e▸.head _);have o2:¬o=s:=fun e=>no (e▸.tail _ (.head _));have o3:¬o=d:=fun e=>no (e▸.tail _ (.tail _ (.head _)));have o4:¬o=m:=fun e=>no (e▸.tail _ (.tail _ (.tail _ (.head _))));have a1:¬a=s:=fun e=>na (e▸.head _);have a2:¬a=d:=fun e=>na (e▸.tail _ (.head _));have a3:¬a=m:=fun e=>na (e▸.tail _ (.tail _ (.head _)));have s1:¬s=d:=fun e=>ns (e▸.head _);have s2:¬s=m:=fun e=>ns (e▸.tail _ (.head _));have d1:¬d=m:=fun e=>Tq (e▸.head _);have iy:(tabOf B).length+1=B.length:=by unfold tabOf;rw[k9];simp;exact(aB 0x16b05680000fa0e00580b26) h1 h3
 have t2:aj (jm q) (tabOf B)=none:=by
  rcases tu h1 q with⟨t,t1,t2,t3,t4⟩ |⟨_,t2⟩
  .exfalso;apply hq;refine zFr (i:=t-1) ?_;rw[List.getElem?_drop];rw[show 1+(t-1)=t by exact(aB 48470266219302) t1]
   rw[←t3];simp[nd,List.getD,t2]
  .exact t2
 obtain⟨om,Wh⟩:∃om,H m=some om:=by
  have:=X.nums;cases e:H m with
  |none=>rw[e]at this;exact sn this rfl
  |some om=>exact⟨om,rfl⟩
 have JJ:=X.nums;rw[Wh]at JJ
 have hD:OF (some om):=by cases om<;>first |trivial |exact sn JJ rfl
 have e1:(r6 om)=some (tabOf B):=JJ;refine aF O hn rfl ?_;simp[X.inst,X.fo,X.fa,X.Dk,X.fd,X.fm,X.ops,X.args,X.sorts,X.cP,Wh,JI hD,hk,t2,e1,k1,k2,k3,k4,k5,Ne.symm k1,Ne.symm k2,Ne.symm k3,Ne.symm k4,Ne.symm k5,o1,o2,o3,o4,a1,a2,a3,s1,s2,d1,Ne.symm o1,Ne.symm o2,Ne.symm o3,Ne.symm o4,Ne.symm a1,Ne.symm a2,Ne.symm a3,Ne.symm s1,Ne.symm s2,Ne.symm d1];refine⟨BK h3 rfl,ub h3 rfl,(aP 0x22102c540607a1207020c000fa0e00580b26) h1 h3 ag iy,h _ ⟨?_,X.fo,X.fa,X.Dk,X.fd,X.fm,?_,?_,?_,?_,?_,X.nd⟩ fun b hb=>?_⟩
 .simp[Z.ab,Z.af,k1,k2,k3,k4,k5,X.inst]
 .simp[Z.ab,Z.af,o1,o2,o3,o4]
 .simp[Z.ab,Z.af,a1,a2,a3]
 .simp[Z.ab,Z.af,s1,s2]
 .simp[Z.ab,Z.af,d1]
 .rw[Z.ab];rw[nC h1];rw[nB t2];rfl
 .rw[Z.af _ _ fun e:b=m=>hb (e▸.tail _ (.tail _ (.tail _ (.tail _ (.head _)))))];rw[Z.af _ _ fun e:b=d=>hb (e▸.tail _ (.tail _ (.tail _ (.head _))))];rw[Z.af _ _ fun e:b=s=>hb (e▸.tail _ (.tail _ (.head _)))];rw[Z.af _ _ fun e:b=a=>hb (e▸.tail _ (.head _))];rw[Z.af _ _ fun e:b=o=>hb (e▸.head _)]
noncomputable def vT(x y fn fa fr o a s d m:Nat):List (Nat×V):=
 [(14,.ref x),(15,.ref y),(16,.ref fn),(17,.ref fa),(18,.ref fr),(19,.int 0),(20,.ref o),(21,.ref a),(22,.ref s),(23,.ref d),(24,.ref m),(25,.int 1),(26,.int 2)]
theorem C1(O:cz c)(hn:2<=n){H0:Z}(hk:H0 k=none)
  (h:∀x y fn fa fr o a s d m H',[k,x,y,fn,fa,fr,o,a,s,d,m].Nodup->(∀b∈[k,x,y,fn,fa,fr,o,a,s,d,m],H0 b=none/\H' b≠none)->Le H0 H'->gy k o a s d m (vT x y fn fa fr o a s d m) [⟨18,[],0⟩,⟨0,[],0⟩,⟨1,[],0⟩] H'->H' fn=some (.list [])->H' fa=some (.list [])->H' fr=some (.list [])->Q .none H'):
  aA c 34 n [.ref k] (H0.set k (.inst .aM [])) Q:=by
 refine aF O (cL hn rfl) rfl ?_;dsimp only[cb,cJ];refine wL (l:=[.str 19,.str 20,.str 21]) (fun Q'=>rfl) (dc (kK.new hk) rfl rfl rfl fun x H1 w1=>?_);dsimp only[cn,cb,cJ];refine wL (l:=[.int 0,.int 0,.int 0]) (fun Q'=>rfl) (dc w1 rfl rfl rfl fun y H1 w1=>?_);dsimp only[cn,cb,cJ];refine wL (l:=[]) (fun Q'=>rfl) (dc w1 rfl rfl rfl fun fn H1 w1=>?_);dsimp only[cn,cb,cJ];refine wL (l:=[]) (fun Q'=>rfl) (dc w1 rfl rfl rfl fun fa H1 w1=>?_);dsimp only[cn,cb,cJ];refine wL (l:=[]) (fun Q'=>rfl) (dc w1 rfl rfl rfl fun fr H1 w1=>?_);dsimp only[cn,cb,cJ,iP];refine jx w1 rfl rfl fun H1 w1=>?_;dsimp only[cn,cb,cJ];refine wL (l:=[.str 18]) (fun Q'=>rfl) (dc w1 rfl rfl rfl fun o H1 w1=>?_);dsimp only[cn,cb,cJ];refine wL (l:=[.tup []]) (fun Q'=>rfl) (dc w1 rfl rfl rfl fun a H1 w1=>?_);dsimp only[cn,cb,cJ];refine wL (l:=[.int 0]) (fun Q'=>rfl) (dc w1 rfl rfl rfl fun s H1 w1=>?_);dsimp only[cn,cb,cJ];refine wL (l:=[.int 0]) (fun Q'=>rfl) (dc w1 rfl rfl rfl fun d H1 w1=>?_);dsimp only[cn,cb,cJ];refine lS w1 rfl rfl fun m H1 w1=>?_;dsimp only[cn];have lx:[k,x,y,fn,fa,fr,o,a,s,d,m].Nodup:=w1.nd;have G8:∀b∈[k,x,y,fn,fa,fr,o,a,s,d,m],H0 b=none:=w1.dead;have live:∀b∈[k,x,y,fn,fa,fr,o,a,s,d,m],H1 b≠none:=w1.live;have hle:=w1.le;have Zg:H1 fn=some (.list []):=cR w1.objs (i:=2) rfl;have Zh:H1 fa=some (.list []):=cR w1.objs (i:=3) rfl;have Zi:H1 fr=some (.list []):=cR w1.objs (i:=4) rfl;have hm:H1 m=some (.ax []):=cR w1.objs (i:=9) rfl
 have X:gy k o a s d m ((vT x y fn fa fr o a s d m).take 11) [⟨18,[],0⟩] H1:=
  ⟨w1.inst,rfl,rfl,rfl,rfl,rfl,cR w1.objs (i:=5) rfl,cR w1.objs (i:=6) rfl,cR w1.objs (i:=7) rfl,cR w1.objs (i:=8) rfl,by rw[hm];rfl,List.Nodup.sublist (fJ [true,false,false,false,false,false,true,true,true,true,true] [k,x,y,fn,fa,fr,o,a,s,d,m]) lx⟩
 clear w1 hm;have TB:∀b∈[x,y,fn,fa,fr],b∉[k,o,a,s,d,m]:=nV (m:=[false,true,true,true,true,true]) (m':=[true,false,false,false,false,false,true,true,true,true,true]) lx rfl;have sub:∀b∈[k,o,a,s,d,m],b∈[k,x,y,fn,fa,fr,o,a,s,d,m]:=fun b hb=>(fJ [true,false,false,false,false,false,true,true,true,true,true] [k,x,y,fn,fa,fr,o,a,s,d,m]).subset hb;have p1:putD 25 (ae 1) ((vT x y fn fa fr o a s d m).take 11)=(vT x y fn fa fr o a s d m).take 12:=rfl;have p2:putD 26 (ae 2) ((vT x y fn fa fr o a s d m).take 12)=vT x y fn fa fr o a s d m:=rfl;have s1:short 899 ((vT x y fn fa fr o a s d m).take 11)=true:=rfl;have s2:short 899 ((vT x y fn fa fr o a s d m).take 12)=true:=rfl;generalize (vT x y fn fa fr o a s d m).take 11=F1 at X p1 s1;generalize (vT x y fn fa fr o a s d m).take 12=F2 at p1 p2 s2;dsimp only[cb,cJ];have i1:=X.inst;simp[i1];refine ru O (bK hn rfl) X (by simp) (by simp) (q:=⟨0,[],0⟩) (by simp) fun H2 X2 Wi=>?_
 have i2:=X2.inst;simp[i2,s1,p1];have X3:=X2.attr (j:=25) (v:=ae 1) (by decide)
 rw[p1]at X3
 have Wj:∀b,b∉[k,o,a,s,d,m]->(H2.set k (.inst .aM F2)) b=H1 b:=fun b hb=>by
  rw[Z.af _ _ fun e=>hb (by rw[e];exact .head _)]
  exact Wi b fun h=>hb (.tail _ h)
 generalize H2.set k (.inst .aM F2)=H3 at X3 Wj⊢;clear X2 i2 Wi i1 X;refine ru O (bK hn rfl) X3 (by simp) (by simp) (q:=⟨1,[],0⟩) (by simp) fun H4 X4 Zj=>?_
 have i4:=X4.inst;simp[i4,s2,p2];have X5:=X4.attr (j:=26) (v:=ae 2) (by decide)
 rw[p2]at X5
 have KP:∀b,b∉[k,o,a,s,d,m]->(H4.set k (.inst .aM (vT x y fn fa fr o a s d m))) b=H1 b:=fun b hb=>by
  rw[Z.af _ _ fun e=>hb (by rw[e];exact .head _)];rw[Zj b fun h=>hb (.tail _ h)]
  exact Wj b hb
 generalize H4.set k (.inst .aM (vT x y fn fa fr o a s d m))=H5 at X5 KP⊢;refine h x y fn fa fr o a s d m H5 lx (fun b hb=>⟨G8 b hb,?_⟩) (fun b hb _=>?_) X5 ((KP _ (TB _ (.tail _ (.tail _ (.head _))))).trans Zg) ((KP _ (TB _ (.tail _ (.tail _ (.tail _ (.head _)))))).trans Zh) ((KP _ (TB _ (.tail _ (.tail _ (.tail _ (.tail _ (.head _))))))).trans Zi)
 .by_cases q:b∈[k,o,a,s,d,m]
  .exact X5.live b q
  .rw[KP b q];exact live b hb
 .by_cases q:b∈[k,o,a,s,d,m]
  .exact absurd (G8 b (sub b q)) hb
  .rw[KP b q];exact hle b hb fun h=>h
end
noncomputable def idx:Rl->Nat
 | .kI=>0 | .fn=>1 | .fa=>2 | .fr=>3 | .ops=>4 | .args=>5 | .sorts=>6 | .cP=>7 | .nums=>8
 | .tI=>9 | .iL=>10 | .gu=>11 | .mI=>12 | .mv=>13 | .mt=>14 | .ms=>15 | .mo=>16 | .mw=>17 | .pI=>18 | .lO=>19 | .oE=>20
noncomputable def TC:Nat->Rl
 |0=>.kI |1=>.fn |2=>.fa |3=>.fr |4=>.ops |5=>.args |6=>.sorts |7=>.cP |8=>.nums
 |9=>.tI |10=>.iL |11=>.gu |12=>.mI |13=>.mv |14=>.mt |15=>.ms |16=>.mo |17=>.mw |18=>.pI |19=>.lO |_=>.oE
theorem tV(r:Rl):TC (idx r)=r:=by cases r<;>rfl
theorem vU(r:Rl):idx r<21:=by cases r<;>decide
noncomputable def gA(as:List Nat):Rl->Nat:=fun r=>as.getD (idx r) 0
theorem rA{as:List Nat}(hl:as.length=21)(hn:as.Nodup)(r r':Rl):gA as r=gA as r'↔r=r':=by
 constructor
 .intro e;have h1:=vU r;have h2:=vU r';unfold gA at e;rw[zBy,zBy,zAe (by exact(aD 0x4400002bc08b00000578006) hl h1),zAe (by exact(aP 0x42000015e085800002bc08b00000578006) hl h1 h2)]at e
  have:=(getElem_inj hn).mp e;rw[←tV r];rw[this];rw[tV]
 .rintro rfl;rfl
theorem av.swap{L L':Rl->Nat}{B:List Nd}{H:Z}(X:av L B H)(hi:∀r r',L' r=L' r'↔r=r')(hs:∀r,og r=true\/xu r=true->L' r=L r):av L' B H:=by
 have e:=X.ei;refine⟨hi,⟨X.ka,X.kb,?_⟩,?_,?_,?_,?_,?_,X.good,X.small⟩
 .have:ej L' X.ka X.kb=ej L X.ka X.kb:=by simp only[ej,hs .fn (.inr rfl),hs .fa (.inr rfl),hs .fr (.inr rfl),hs .ops (.inl rfl),hs .args (.inl rfl),hs .sorts (.inl rfl),hs .cP (.inl rfl),hs .nums (.inl rfl)]
  rw[this];rw[hs .kI (.inl rfl)];exact e
 .rw[hs .ops (.inl rfl)];exact X.ops
 .rw[hs .args (.inl rfl)];exact X.args
 .rw[hs .sorts (.inl rfl)];exact X.sorts
 .rw[hs .cP (.inl rfl)];exact X.cP
 .rw[hs .nums (.inl rfl)];exact X.nums
theorem y8(as:List Nat)(hn:as.Nodup)(k:Nat):∃rest:List Nat,rest.length=k/\(as++rest).Nodup:=by
 refine⟨range' (as.sum+1) k,by simp,zCi.mpr ⟨hn,List.nodup_range',?_⟩⟩
 intro a ha b hb e
 have h1:a<=as.sum:=by
  clear hn hb e
  induction as with
  |nil=>cases ha
  |cons x l ih=>
   rcases zAy.mp ha with rfl |h
   .simp
   .have:=ih h;simp;exact(aP 148713775142) this
 simp[mem_range']at hb;obtain⟨i,_,e'⟩:=hb;exact Nat.not_succ_le_self _ (zDo (zCw _ i) (zDo (Nat.le_of_eq (e'.symm.trans e.symm)) h1))
theorem y9:Good dM:=by
 refine⟨⟨[],rfl⟩,fun t h1 h2=>?_,by decide⟩
 simp[dM]at h2;exact False.elim ((aB 721560277030) h1 h2)
section
variable {c:Cy} {n:Nat} {H:Z} {Q:V->Z->Prop} {k o a s d m fn fa fr:Nat} {fs:List (Nat×V)} {B:List Nd}
theorem rB(O:cz c)(hn:2<=n)(X:gy k o a s d m fs B H)(e1:aj 16 fs=some (.ref fn))(e2:aj 17 fs=some (.ref fa))(e3:aj 18 fs=some (.ref fr)){l1 l2 l3:List V}(h1:H fn=some (.list l1))(h2:H fa=some (.list l2))(h3:H fr=some (.list l3))
  {j:Nat} (hj:l1.length=j) (PZ:l2.length<100) (Zk:l3.length<100) (Sb:j<100) (lx:[k,fn,fa,fr,o,a,s,d,m].Nodup) (hB:1<=B.length/\B.length<4000) (hq:⟨10,[],j⟩∉B.drop 1) {sj:Nat}
  (h:∀H',gy k o a s d m fs (B++[⟨10,[],j⟩]) H'->H' fn=some (.list (l1++[.str sj]))->H' fa=some (.list (l2++[.tup []]))->H' fr=some (.list (l3++[.int 0]))->(∀b,b∉[fn,fa,fr,o,a,s,d,m]->H' b=H b)->Q (ae B.length) H'):
  aA c 36 n [.ref k,.str sj,.int 0] H Q:=by
 have ag:=aJ;obtain⟨nk,n1⟩:=zCq.mp lx;obtain⟨P0,n2⟩:=zCq.mp n1;obtain⟨TF,n3⟩:=zCq.mp n2;have Wk:=(zCq.mp n3).1;clear lx n1 n2 n3;have k1:¬k=fn:=fun e=>nk (e▸.head _);have k2:¬k=fa:=fun e=>nk (e▸.tail _ (.head _));have k3:¬k=fr:=fun e=>nk (e▸.tail _ (.tail _ (.head _)));have p1:¬fn=fa:=fun e=>P0 (e▸.head _);have p2:¬fn=fr:=fun e=>P0 (e▸.tail _ (.head _));have q1:¬fa=fr:=fun e=>TF (e▸.head _);refine aF O (cL hn rfl) rfl ?_;simp[X.inst];refine aF O (bK hn rfl) rfl ?_;have b1:l1.length<1000000:=(aD 0x7a1207002000064e04582006) hj Sb;have b2:l2.length<1000000:=ub PZ rfl;have b3:l3.length<1000000:=ub Zk rfl;have b4:l1.length+1<=1000000:=jl b1 rfl;simp[X.inst,e1,e2,e3,h1,h2,h3,k1,k2,k3,Ne.symm k1,Ne.symm k2,Ne.symm k3,p1,p2,q1,Ne.symm p1,Ne.symm p2,Ne.symm q1,ag,b1,b2,b3,b4]
 have X1:gy k o a s d m fs B (((H.set fn (.list (l1++[.str sj]))).set fa (.list (l2++[.tup []]))).set fr (.list (l3++[.int 0]))):=X.same fun b hb=>by
  clear nk h X;obtain⟨x,y,z⟩:b≠fn/\b≠fa/\b≠fr:=by
   rcases zAy.mp hb with rfl |hb
   .exact⟨k1,k2,k3⟩
   .exact⟨fun e=>P0 (.tail _ (.tail _ (e▸hb))),fun e=>TF (.tail _ (e▸hb)),fun e=>Wk (e▸hb)⟩
  rw[Z.af _ _ z];rw[Z.af _ _ y];rw[Z.af _ _ x]
 have f1:(((H.set fn (.list (l1++[.str sj]))).set fa (.list (l2++[.tup []]))).set fr (.list (l3++[.int 0]))) fn=some (.list (l1++[.str sj])):=by rw[Z.af _ _ p2];rw[Z.af _ _ p1];rw[Z.ab]
 have f2:(((H.set fn (.list (l1++[.str sj]))).set fa (.list (l2++[.tup []]))).set fr (.list (l3++[.int 0]))) fa=some (.list (l2++[.tup []])):=by rw[Z.af _ _ q1];rw[Z.ab]
 have f3:(((H.set fn (.list (l1++[.str sj]))).set fa (.list (l2++[.tup []]))).set fr (.list (l3++[.int 0]))) fr=some (.list (l3++[.int 0])):=Z.ab _ _ _;have f4:∀b,b≠fn->b≠fa->b≠fr->(((H.set fn (.list (l1++[.str sj]))).set fa (.list (l2++[.tup []]))).set fr (.list (l3++[.int 0]))) b=H b:=fun b x y z=>by rw[Z.af _ _ z];rw[Z.af _ _ y];rw[Z.af _ _ x]
 generalize (((H.set fn (.list (l1++[.str sj]))).set fa (.list (l2++[.tup []]))).set fr (.list (l3++[.int 0])))=H1 at*;rw[hj];refine ru O (bK hn rfl) X1 hB.1 hB.2 (q:=⟨10,[],j⟩) hq fun H2 X2 g2=>?_;refine h H2 X2 ?_ ?_ ?_ fun b hb=>?_
 .rw[g2 fn fun h=>P0 (.tail _ (.tail _ h))];exact f1
 .rw[g2 fa fun h=>TF (.tail _ h)];exact f2
 .rw[g2 fr Wk];exact f3
 .rw[g2 b fun h=>hb (.tail _ (.tail _ (.tail _ h)))];rw[f4 b (fun e=>hb (e▸.head _)) (fun e=>hb (e▸.tail _ (.head _))) (fun e=>hb (e▸.tail _ (.tail _ (.head _))))]
theorem gy.aM{x y:Nat}(X:gy k o a s d m (vT x y fn fa fr o a s d m) dM H){rest:List Nat}(hl:rest.length=12)(hn:([k,fn,fa,fr,o,a,s,d,m]++rest).Nodup):av (gA ([k,fn,fa,fr,o,a,s,d,m]++rest)) dM H:=by
 refine⟨rA (by simp[hl]) hn,⟨x,y,X.inst⟩,X.ops,X.args,X.sorts,X.cP,?_,y9,by decide⟩
 have:=X.nums;refine(?_:H m=_);cases e:H m with
 |none=>rw[e]at this;exact sn this rfl
 |some om=>
  rw[e]at this;cases om with
  |bU l=>rw[so (show some l=some _ from this)]
  |ax l=>
   cases l with
   |nil=>exact nomatch so (show some []=some (tabOf dM) from this)
   |cons p l=>exact sn this rfl
  |_=>exact sn this rfl
end
@[local simp] theorem TH:start 15 [V.arg]=[some .arg,none,none,none,none,none,none,none,none,none,none,none,none,none,none,none]:=rfl
theorem TK:mj 22 23=some 26:=by decide+kernel
theorem TL:mj 22 24=some 27:=by decide+kernel
theorem TM:mj 22 25=some 28:=by decide+kernel
structure JK(H2 H:Z)(as:List Nat)(B:List Nd)(a pn t:Nat)(f:Row->Bool):Prop where
 len:as.length=9
 nd:as.Nodup
 aM:∀rest:List Nat,rest.length=12->(as++rest).Nodup->av (gA (as++rest)) B H
 live:∀b∈as,H b≠none
 dead:∀b∈as,H2 b=none
 tree:cw 3 H2 a f
 le:Le H2 H
 names:H pn=some (.list [ae 3,ae 4,ae 5])
 pn2:H2 pn=none
 KQ:pn∉as
 t1:1<=t
 t2:t<B.length
 tv:∀row,val B row t=f row
 tw:wt B t<=40
 tl:B.length<=19
 good:Good B
noncomputable def C2(s a k:Nat)(pn t:Nat):aH:=[some .arg,some (.ref s),some (.ref a),some (.ref k),none,some (.ref pn),some (ae t),none,none,none,none,none,none,none,none,none]
section
variable {c:Cy} {n:Nat} {H:Z} {Q:V->Z->Prop} {QS:SQ} {R:EQ}
theorem C3{e:PE}{j:Nat}{it:lj}{ρ:aH}{x v0 v1 v2:V}{g:Z->Prop}(hi:iter H it x=some ([v0,v1,v2],g))
  (h:g H/\bA c n e (b9 ρ j v0) H fun x0 H1=>g H1/\bA c n e (b9 ρ j v1) H1 fun x1 H2=>g H2/\bA c n e (b9 ρ j v2) H2 fun x2 H3=>g H3/\∀a,H3 a=none->Q (.ref a) (H3.set a (.list [x0,x1,x2]))):
  iO c n e j it (.cst (.bool true)) ρ Q x H:=by
 have ag:=aJ;unfold iO se;rw[hi];refine⟨by rw[ag];simp,?_⟩
 exact h
theorem N4(r:Rl):((og r||xu r)&&decide (9<=idx r))=false:=by cases r<;>rfl
theorem N5{r:Rl}(h:og r=true\/xu r=true):idx r<9:=Nat.not_le.mp (of_decide_eq_false (KE (N4 r) (zEo.mpr h)))
theorem C4{as rest:List Nat}(h:as.length=9){r:Rl}(hr:og r=true\/xu r=true):gA (as++rest) r∈as:=by
 unfold gA;have hi:=N5 hr;rw[zBy];rw[zFy (by exact(aD 1209106325510) h hi)];rw[zAe (by exact(aD 1209106325510) h hi)]
 exact zEq _
theorem za{as rest j4:List Nat}(h:as.length=9){r:Rl}(hr:og r=true\/xu r=true):gA (as++rest) r=gA (as++j4) r:=by unfold gA;have hi:=N5 hr;rw[zBy];rw[zBy];rw[zFy (by exact(aD 1209106325510) h hi)];rw[zFy (by exact(aD 1209106325510) h hi)]
theorem JL(is:List Int):(is.take 24).length<=24:=by simp;exact aB 0x31c00000063962
theorem all_cons{P:Nat->Prop}{x:Nat}{l:List Nat}(h:P x)(t:∀b∈l,P b):∀b∈x::l,P b:=fun b hb=>(zAy.mp hb).elim (fun e=>e▸h) (t b)
theorem Fq(O:cz c)(hn:20<=n)
  (h:∀s a kI pn t f (as:List Nat) B H2 H',JK H2 H' as B a pn t f->gA as .kI=kI->wpS c n Kv (C2 s a kI pn t) H' QS R):
  wpS c n Nl (start 15 [.arg]) H QS R:=by
 have ag:=aJ;obtain⟨n,rfl⟩:∃m,n=m+1:=⟨n-1,by exact(aB 0xb582b40000000029c26) hn⟩
 simp[Nl];intro is _ r0 N0;have Wl:=JL is;have e0:(H.set r0 (.list ((is.take 24).map V.int))) r0=some (.list ((is.take 24).map V.int)):=Z.ab _ _ _;generalize is.take 24=cells at*;generalize H.set r0 (.list (cells.map V.int))=H1 at*;refine fC (is:=cells) (g:=fun H'=>H' r0=some (.list (cells.map V.int))) (bF e0) (jl Wl rfl) e0 (fun i=>.int (i.natAbs:Nat)) (fun i _ K k=>k) fun lc Zl=>?_;have e1:(H1.set lc (.list (cells.map fun i=>V.int (i.natAbs:Nat)))) lc=some (.list ((cells.map fun(i:Int)=>(i.natAbs:Int)).map V.int)):=by rw[Z.ab];rw[map_map];rfl
 generalize H1.set lc (.list (cells.map fun i=>V.int (i.natAbs:Nat)))=H2 at*;simp;intro s hs
 have S:Src (H2.set s (.aZ [(13,.ref lc),(14,.int 0),(15,.int 6)])) s lc (cells.map fun(i:Int)=>(i.natAbs:Int)) 0 6:=
  ⟨Z.ab _ _ _,by rw[Z.af _ _ (pV e1 hs)];exact e1,by simpa using Wl⟩
 generalize H2.set s (.aZ [(13,.ref lc),(14,.int 0),(15,.int 6)])=H3 at*;clear e0 e1 hs Zl;refine Jz O 3 (cL hn rfl) S fun a f H4 aS rest T S4 k4 Wb=>?_;clear S k4 Wb S4;simp;intro k hk;refine C1 O (by exact(aB 0x184b050000029c26) hn) hk fun x y fn fa fr o ar so d m H5 lx Oz NX X5 e1 e2 e3=>?_
 clear hk;have sb:List.Sublist [k,fn,fa,fr,o,ar,so,d,m] [k,x,y,fn,fa,fr,o,ar,so,d,m]:=.cons₂ _ (.cons _ (.cons _ (.refl _)));have C6:=lx.sublist sb;have N6:∀b∈[k,fn,fa,fr,o,ar,so,d,m],H4 b=none/\H5 b≠none:=fun b hb=>Oz b (sb.subset hb);have f16:∀{z:List (Nat×V)},z=vT x y fn fa fr o ar so d m->aj 16 z=some (.ref fn)/\aj 17 z=some (.ref fa)/\aj 18 z=some (.ref fr):=fun h=>by rw[h];exact⟨rfl,rfl,rfl⟩
 simp
 have hit:iter H5 .range (.int 3)=some ([V.int 0,V.int 1,V.int 2],fun _=>True):=by exact(eO ⟨by decide,by rw[ag];decide⟩).trans rfl
 refine C3 hit ⟨trivial,?_⟩;simp[TK,mn,X5.inst,eI,eJ];refine rB O (cL hn rfl) X5 rfl rfl rfl e1 e2 e3 (j:=0) rfl (by simp) (by simp) (by decide) C6 (by simp) (by decide) fun H6 X6 g1 g2 g3 Zm=>?_
 simp[TL,mn,X6.inst,eI,eJ];refine rB O (cL hn rfl) X6 rfl rfl rfl g1 g2 g3 (j:=1) rfl (by simp) (by simp) (by decide) C6 (by simp) (by decide) fun H7 X7 i1 i2 i3 Zn=>?_
 simp[TM,mn,X7.inst,eI,eJ];refine rB O (cL hn rfl) X7 rfl rfl rfl i1 i2 i3 (j:=2) rfl (by simp) (by simp) (by decide) C6 (by simp) (by decide) fun H8 X8 j1 j2 j3 Zo=>?_
 simp;intro pn Dx;have JM:gy k o ar so d m (vT x y fn fa fr o ar so d m) dM H8:=X8
 have TN:∀b,b∉[k,fn,fa,fr,o,ar,so,d,m]->H8 b=H5 b:=fun b hb=>by have kY:b∉[fn,fa,fr,o,ar,so,d,m]:=fun h=>hb (.tail _ h);rw[Zo b kY];rw[Zn b kY];rw[Zm b kY]
 have G9:∀b∈[k,fn,fa,fr,o,ar,so,d,m],H8 b≠none:=by
  have nm:=JM.nums;have s:∀{b:Nat} {o:aN},H8 b=some o->H8 b≠none:=fun e z=>by exact sn e z
  exact all_cons (s JM.inst) (all_cons (s j1) (all_cons (s j2) (all_cons (s j3) (all_cons (s JM.ops) (all_cons (s JM.args) (all_cons (s JM.sorts) (all_cons (s JM.cP) (all_cons (fun e=>by rw[e]at nm;exact sn nm rfl) nofun))))))))
 have N7:Le H4 H8:=fun b hb _=>by rw[TN b fun h=>hb (N6 b h).1];exact NX b hb fun h=>h
 have Hh:∀b∈[k,fn,fa,fr,o,ar,so,d,m],H4 b=none:=fun b hb=>(N6 b hb).1;have N8:∀rest:List Nat,rest.length=12->([k,fn,fa,fr,o,ar,so,d,m]++rest).Nodup->av (gA ([k,fn,fa,fr,o,ar,so,d,m]++rest)) dM H8:=fun rest hl hn=>JM.aM hl hn;have KQ:pn∉[k,fn,fa,fr,o,ar,so,d,m]:=fun h=>G9 pn h Dx;have TP:H4 pn=none:=N7.none Dx fun h=>h;have JN:=N7.set (o:=.list [ae 3,ae 4,ae 5]) (.inl TP);have e9:(H8.set pn (.list [ae 3,ae 4,ae 5])) pn=some (.list [ae 3,ae 4,ae 5]):=Z.ab _ _ _;have C7:∀rest:List Nat,rest.length=12->([k,fn,fa,fr,o,ar,so,d,m]++rest).Nodup->av (gA ([k,fn,fa,fr,o,ar,so,d,m]++rest)) dM (H8.set pn (.list [ae 3,ae 4,ae 5])):=fun rest hl hn=>(N8 rest hl hn).fresh Dx
 have Hi:∀b∈[k,fn,fa,fr,o,ar,so,d,m],(H8.set pn (.list [ae 3,ae 4,ae 5])) b≠none:=fun b hb=>by rw[Z.af _ _ (by clear C7 e9 JN TP Dx;rintro rfl;exact KQ hb)];exact G9 b hb
 have goal:∀H9,H9=H8.set pn (.list [ae 3,ae 4,ae 5])->aA c 56 (n+1) [.ref k,.ref pn,.ref a] H9 fun v H'=>∃t:Nat,v=ae t/\wpS c (n+1) Kv (C2 s a k pn t) H' QS R:=by
  rintro H9 rfl;have P1:[k,fn,fa,fr,o,ar,so,d,m].length=9:=rfl;generalize Wm:[k,fn,fa,fr,o,ar,so,d,m]=as at*;have Zp:∀rest,gA (as++rest) .kI=k:=fun rest=>by rw[←Wm];rfl
  obtain⟨rest,Zq,Zr⟩:=y8 as C6 12;have XB:=C7 rest Zq Zr;have JO:∀b,RB (gA (as++rest)) b->b∈as:=fun b ⟨r,hr,e⟩=>by rw[←e];exact C4 P1 (.inl hr)
  have Wn:∀b,RB (gA (as++rest)) b->H4 b=none:=fun b hb=>Hh b (JO b hb);have wm:=JF O (L:=gA (as++rest)) Wn (fun h=>KQ (JO pn h)) 3 (n:=n+1) (B:=dM) (H:=H8.set pn (.list [ae 3,ae 4,ae 5])) (Q:=fun v H'=>∃t:Nat,v=ae t/\wpS c (n+1) Kv (C2 s a k pn t) H' QS R) (a:=a) (f:=f) (cL hn rfl) XB T JN e9 (by decide)
  rw[Zp]at wm;refine wm fun t B' H' mt X' k'=>⟨t,rfl,?_⟩;have Zs:¬RB (gA (as++rest)) pn:=fun h=>KQ (JO pn h);refine h s a k pn t f as B' H4 H' ⟨P1,C6,fun j4 Gf zh=>?_,fun b hb=>?_,Hh,T,tU JN k' Wn,k'.at e9 Zs,TP,KQ,mt.pos,mt.lt,mt.val,mt.wt,by have:=mt.len;exact this,X'.good⟩ (by rw[←Wm];rfl)
  .exact X'.swap (rA (by simp[P1,Gf]) zh) fun r hr=>za P1 hr
  .by_cases q:RB (gA (as++rest)) b
   .obtain⟨r,hr,rfl⟩:=q;exact X'.live hr
   .rw[k' b (Hi b hb) q];exact Hi b hb
 refine(goal _ rfl).mono ?_;rintro v H' ⟨t,rfl,hw⟩;simp;exact hw
end
noncomputable def xD(r:Rl):Bool:=decide (9<=idx r/\idx r<18)
noncomputable def dp(B:List Nd):St:=⟨B,[],[],[],[],[],0,[],-1⟩
structure j5(H2 H:Z)(L:Nat->Rl->Nat)(bQ:Nat->St)(rk rm pn a:Nat)(f:Row->Bool):Prop where
 rep:∀i,i<3->Rep (L i) (i==2) (bQ i) H
 alive:∀i,i<3->∀r,H (L i r)≠none
 AR:∀i,i<3->∀j,j<3->i≠j->∀r,xD r=true->∀r',L i r≠L j r'
 same:∀i,i<3->∀r,xD r=false->L i r=L 0 r
 dead:∀i,i<3->∀r,H2 (L i r)=none
 sep:∀i,i<3->∀r,L i r≠rk/\L i r≠rm/\L i r≠pn
 hk:H rk=some (.list [.ref (L 0 .tI),.ref (L 1 .tI),.ref (L 2 .tI)])
 hm:H rm=some (.list [.ref (L 0 .mI),.ref (L 1 .mI),.ref (L 2 .mI)])
 names:H pn=some (.list [ae 3,ae 4,ae 5])
 le:Le H2 H
 tree:cw 3 H2 a f
noncomputable def N9(as g:List Nat)(r:Rl):Nat:=if idx r<9 then as.getD (idx r) 0 else g.getD (idx r-9) 0
theorem cY{as g:List Nat}(h:as.length=9):gA (as++g)=N9 as g:=funext fun r=>by
 unfold gA N9;by_cases q:idx r<9
 .rw[zBq q];rw[zBy];rw[zBy];rw[zFy (by exact(aD 1209106325510) h q)]
 .rw[zAi q];rw[zBy];rw[zBy];rw[List.getElem?_append_right (by exact(aD 565802992033798) h q)];rw[h]
theorem xE{l l':List Nat}{n k:Nat}(h:l.length=k)(hn:n<k):(l++l').getD n 0∈l:=by
 rw[zBy];rw[zFy (by exact(aP 2270030209030) h hn)];rw[zAe (by exact(aP 2270030209030) h hn)]
 exact zEq _
theorem tW{l l':List Nat}{n k:Nat}(h:l.length=k)(hn:k<=n)(hm:n-k<l'.length):(l++l').getD n 0∈l':=by
 rw[zBy];rw[List.getElem?_append_right (by exact(aP 70510555176966) h hn)];rw[h];rw[zAe hm]
 exact zEq _
noncomputable def JP(s a k:Nat)(pn t:Nat)(pI rk rm:Nat):aH:=[some .arg,some (.ref s),some (.ref a),some (.ref k),none,some (.ref pn),some (ae t),some (.ref pI),some (.ref rk),some (.ref rm),none,none,none,none,none,none]
theorem JQ{H2:Z}{as:List Nat}{B:List Nd}{a pn t:Nat}{f:Row->Bool}{hp:Nat->Z}(A:JK H2 (hp 1) as B a pn t f)(hle:∀i j,i<=j->Le (hp i) (hp j))
  {pI lO oE:Nat} (wp:kK (hp 1) (hp 2) pI (.proof ()) [(0,.ref lO),(1,.ref oE),(2,.int (-1))] [(lO,.list []),(oE,.list [.int 0])])
  {tI iL gu:Nat->Nat} (ws:∀i,i<3->kK (hp (2+i)) (hp (3+i)) (tI i) .store [(3,.int 0),(4,.ref (iL i)),(0,.ref (gu i))] [(iL i,.list []),(gu i,.list [])])
  {rk:Nat} (zr:hp 5 rk=none) (hk:hp 6 rk=some (.list [.ref (tI 0),.ref (tI 1),.ref (tI 2)]))
  {mI mv mt ms mo mw:Nat->Nat} {pv:Nat->V} (Zt:∀i,i<3->pv i=if (i==2)=true then .ref pI else .none)
  (wm:∀i,i<3->kK (hp (6+i)) (hp (7+i)) (mI i) .maker [(5,.ref (gA as .kI)),(6,.ref (tI i)),(7,pv i),(8,.ref (mv i)),(9,.ref (mt i)),(10,.ref (ms i)),(11,.ref (mo i)),(12,.ref (mw i)),(13,.int 0)] [(mv i,.ax []),(mt i,.list [.int 0]),(ms i,.ax []),(mo i,.ax []),(mw i,.list [])])
  {rm:Nat} (P2:hp 9 rm=none) (hm:hp 10 rm=some (.list [.ref (mI 0),.ref (mI 1),.ref (mI 2)])):
  ∃L:Nat->Rl->Nat,j5 H2 (hp 10) L (fun _=>dp B) rk rm pn a f/\L 0 .kI=gA as .kI/\L 2 .pI=pI:=by
 have ha:=A.len;let gr:Nat->List Nat:=fun i=>[tI i,iL i,gu i]++[mI i,mv i,mt i,ms i,mo i,mw i]++[pI,lO,oE];have up:∀{i j b},i<=j->hp i b≠none->hp j b≠none:=fun{i j b} eG hb=>by rw[hle i j eG b hb fun h=>h];exact hb
 have dn:∀{i j b},i<=j->hp j b=none->hp i b=none:=fun{i j b} eG hb=>(hle i j eG).none hb fun h=>h;have pl:=wp.live;have pd:=wp.dead;have sl:=fun i hi=>(ws i hi).live;have sd:=fun i hi=>(ws i hi).dead;have ml:=fun i hi=>(wm i hi).live;have md:=fun i hi=>(wm i hi).dead;simp only[map_cons,map_nil]at pl pd sl sd ml md;let kL:Nat->Rl->Nat:=fun i r=>if idx r<9 then 0 else if idx r<12 then 2+i else if idx r<18 then 6+i else 1
 have gC:∀i r,(idx r<9/\gA (as++gr i) r∈as)\/(9<=idx r/\idx r<12/\gA (as++gr i) r∈[tI i,iL i,gu i])\/(12<=idx r/\idx r<18/\gA (as++gr i) r∈[mI i,mv i,mt i,ms i,mo i,mw i])\/(18<=idx r/\gA (as++gr i) r∈[pI,lO,oE]):=fun i r=>by
  have hr:=vU r;by_cases h1:idx r<9
  .exact .inl ⟨h1,xE ha h1⟩
  have e:gA (as++gr i) r=(gr i).getD (idx r-9) 0:=by rw[cY ha];exact zAi h1
  rw[e];by_cases h3:idx r<18
  .have e3:(gr i).getD (idx r-9) 0=([tI i,iL i,gu i]++[mI i,mv i,mt i,ms i,mo i,mw i]).getD (idx r-9) 0:=by refine(?_:([tI i,iL i,gu i]++[mI i,mv i,mt i,ms i,mo i,mw i]++[pI,lO,oE]).getD _ 0=_);rw[zBy];rw[zFy (by refine(?_:idx r-9<9);exact(aB 0x9cc1510000097002d300cb00000578016) hr h1 h3)];rw[←zBy]
   rw[e3];by_cases h2:idx r<12
   .exact .inr (.inl ⟨by exact(aB 0x99000003380160000097002d300cb00000578016) hr h1 h3 h2,h2,xE (k:=3) rfl (by exact(aB 0x3660a8800003380160000097002d300cb00000578016) hr h1 h3 h2)⟩)
   .exact .inr (.inr (.inl ⟨by exact(aB 0xce10000033801960000097002d300cb00000578016) hr h1 h3 h2,h3,tW (k:=3) rfl (by exact(aB 0x4c15690000033801960000097002d300cb00000578016) hr h1 h3 h2) (by refine(?_:_<6);exact(aB 0x106cc15a88000033801960000097002d300cb00000578016) hr h1 h3 h2)⟩))
  .exact .inr (.inr (.inr ⟨by exact(aB 0x25c200000970032d300cb00000578016) hr h1 h3,tW (k:=9) rfl (by exact(aB 0x982b3200000970032d300cb00000578016) hr h1 h3) (by refine(?_:_<3);exact(aB 0x1b3982b5100000970032d300cb00000578016) hr h1 h3)⟩))
 have rC:∀i,i<3->∀r,hp (kL i r+1) (gA (as++gr i) r)≠none/\(1<=kL i r->hp (kL i r) (gA (as++gr i) r)=none):=fun i hi r=>by
  rcases gC i r with⟨h1,h⟩ |⟨h1,h2,h⟩ |⟨h1,h2,h⟩ |⟨h1,h⟩
  .have e:kL i r=0:=zBq h1;rw[e];exact⟨A.live _ h,fun h=>absurd h (by decide)⟩
  .have e:kL i r=2+i:=by show (if _ then _ else _)=_;rw[zAi (by exact(aB 0x4c03200000ce00581326) h1 h2)];rw[zBq h2]
   rw[e];rw[show 2+i+1=3+i by exact aB 234260474176]
   exact⟨sl i hi _ h,fun _=>sd i hi _ h⟩
  .have e:kL i r=6+i:=by show (if _ then _ else _)=_;rw[zAi (by exact(aB 0x98064000025c00b00000019c26) h1 h2)];rw[zAi (by exact(aB 0xce0064000025c00b00000019c26) h1 h2)];rw[zBq h2]
   rw[e];rw[show 6+i+1=7+i by exact aB 302980016448]
   exact⟨ml i hi _ h,fun _=>md i hi _ h⟩
  .have e:kL i r=1:=by show (if _ then _ else _)=_;rw[zAi (by exact(aB 0x1300c80000025c26) h1)];rw[zAi (by exact(aB 0x19c00c80000025c26) h1)];rw[zAi (by exact(aB 0x25c00c80000025c26) h1)]
   rw[e];exact⟨pl _ h,fun _=>pd _ h⟩
 have tX:∀i r,(idx r<9/\kL i r=0)\/(9<=idx r/\idx r<12/\kL i r=2+i)\/(12<=idx r/\idx r<18/\kL i r=6+i)\/(18<=idx r/\kL i r=1):=fun i r=>by
  by_cases h1:idx r<9
  .exact .inl ⟨h1,zBq h1⟩
  .by_cases h2:idx r<12
   .exact .inr (.inl ⟨by exact(aB 0x26400000ce005a60196) h1 h2,h2,(zAi h1).trans (zBq h2)⟩)
   .by_cases h3:idx r<18
    .exact .inr (.inr (.inl ⟨by exact(aB 0x6708000025c00b000003380196) h2 h3,h3,(zAi h1).trans ((zAi h2).trans (zBq h3))⟩))
    .exact .inr (.inr (.inr ⟨by exact(aB 0x12e1000004b80196) h3,(zAi h1).trans ((zAi h2).trans (zAi h3))⟩))
 have Wo:∀i,i<3->∀r,kL i r<=8:=fun i hi r=>by rcases tX i r with h |h |h |h<;>(first |exact(aD 634577192616310) h |exact(aP 0x1211019410000003381170cc9d9a016) hi h |exact(aP 0x24220428200000097022e1000006709d9a016) hi h |exact(aD 0x4824b0800000025c276) h)
 have Zu:∀i,i<3->∀j,j<3->∀r r',kL i r≠kL j r'->gA (as++gr i) r≠gA (as++gr j) r':=fun i hi j hj r r' el e=>by
  rcases Nat.lt_or_gt_of_ne el with h |h
  .have h1:=up (j:=kL j r') (by exact(aD 184768012310) h) (rC i hi r).1
   rw[e]at h1;exact h1 ((rC j hj r').2 (cL h rfl))
  .have h1:=up (j:=kL i r) (by exact(aD 184768012310) h) (rC j hj r').1
   rw[←e]at h1;exact h1 ((rC i hi r).2 (cL h rfl))
 have pQ:∀{i j:Nat} {l l':List Nat},i<=j->(∀b∈l,hp i b≠none)->(∀b∈l',hp j b=none)->∀x∈l,∀y∈l',x≠y:=fun{i j l l'} eG h1 h2 x hx y hy e=>up eG (h1 x hx) (by rw[e];exact h2 y hy)
 have nd:∀i,i<3->(as++gr i).Nodup:=fun i hi=>by
  have n1:=(ws i hi).nd;have n2:=(wm i hi).nd;have n3:=wp.nd;simp only[map_cons,map_nil]at n1 n2 n3;refine zCi.mpr ⟨A.nd,zCi.mpr ⟨zCi.mpr ⟨n1,n2,?_⟩,n3,?_⟩,?_⟩
  .exact pQ (i:=3+i) (j:=6+i) (by exact aB 278928194) (sl i hi) (md i hi)
  .intro x hx y hy e;rcases zAu.mp hx with hx |hx
   .exact pQ (i:=2) (j:=2+i) (by exact(aB 54274924566) hi) pl (sd i hi) y hy x hx e.symm
   .exact pQ (i:=2) (j:=6+i) (by exact(aB 71454793750) hi) pl (md i hi) y hy x hx e.symm
  .intro x hx y hy e;rcases zAu.mp hy with hy |hy
   .rcases zAu.mp hy with hy |hy
    .exact pQ (i:=1) (j:=2+i) (by exact(aB 54270730262) hi) A.live (sd i hi) x hx y hy e
    .exact pQ (i:=1) (j:=6+i) (by exact(aB 71450599446) hi) A.live (md i hi) x hx y hy e
   .exact pQ (i:=1) (j:=1) (by decide) A.live pd x hx y hy e
 have hl:∀i,(gr i).length=12:=fun _=>rfl;have inj:=fun i hi=>rA (as:=as++gr i) (by simp[ha,hl]) (nd i hi)
 refine⟨fun i=>gA (as++gr i),⟨fun i hi=>⟨?_,?_⟩,fun i hi r=>?_,fun i hi j hj eG r hr r'=>?_,fun i hi r hr=>?_,fun i hi r=>?_,fun i hi r=>⟨?_,?_,?_⟩,?_,?_,?_,?_,A.tree⟩,?_,?_⟩
 .exact(A.aM (gr i) (hl i) (nd i hi)).le (hle 1 10 (by decide))
 .have us:=fun{b o}=>(hle (3+i) 10 (by exact(aB 47830585155606) hi)).at (b:=b) (o:=o)
  have um:=fun{b o}=>(hle (7+i) 10 (by exact(aB 47831122026518) hi)).at (b:=b) (o:=o)
  have TQ:=fun{b o}=>(hle 2 10 (by decide)).at (b:=b) (o:=o)
  have so:=(ws i hi).objs;have mo:=(wm i hi).objs;have po:=wp.objs;have m1:=(wm i hi).inst;rw[Zt i hi]at m1;have TR:xt (i==2) (dp B).cs.length=[]:=by unfold xt;split<;>rfl
  intro r o ho;rw[cY ha]at ho⊢;cases r with
  |tI=>obtain rfl:=zBp ho;exact us (ws i hi).inst id
  |iL=>obtain rfl:=zBp ho;exact us (cR so (i:=0) rfl) id
  |gu=>obtain rfl:=zBp ho;rw[TR];exact us (cR so (i:=1) rfl) id
  |mI=>obtain rfl:=zBp ho;exact um m1 id
  |mv=>obtain rfl:=zBp ho;exact um (cR mo (i:=0) rfl) id
  |mt=>obtain rfl:=zBp ho;exact um (cR mo (i:=1) rfl) id
  |ms=>obtain rfl:=zBp ho;exact um (cR mo (i:=2) rfl) id
  |mo=>obtain rfl:=zBp ho;exact um (cR mo (i:=3) rfl) id
  |mw=>obtain rfl:=zBp ho;exact um (cR mo (i:=4) rfl) id
  |pI=>cases hq:i==2<;>rw[hq]at ho<;>cases ho;exact TQ wp.inst id
  |lO=>cases hq:i==2<;>rw[hq]at ho<;>cases ho;exact TQ (cR po (i:=0) rfl) id
  |oE=>cases hq:i==2<;>rw[hq]at ho<;>cases ho;exact TQ (cR po (i:=1) rfl) id
  |_=>exact sn ho rfl
 .exact up (by have:=Wo i hi r;exact(aB 47876085006374) this) (rC i hi r).1
 .refine Zu i hi j hj r r' ?_;have hr:9<=idx r/\idx r<18:=by simpa[xD]using hr
  have e1:kL i r=2+i\/kL i r=6+i:=by
   show (if _ then _ else _)=_\/(if _ then _ else _)=_
   rw[zAi (by exact(aB 0x4c032000012e00413276) hr)]
   by_cases q:idx r<12
   .rw[zBq q];exact .inl rfl
   .rw[zAi q];rw[zBq hr.2];exact .inr rfl
  have e2:kL j r'=0\/kL j r'=1\/kL j r'=2+j\/kL j r'=6+j:=by
   show (if _ then _ else _)=_\/(if _ then _ else _)=_\/(if _ then _ else _)=_\/(if _ then _ else _)=_
   repeat' split
   all_goals simp
  exact(dq 0x1882430a0c02ca0c21630850c21810a0800ca082182009668459a016) hi hj eG e1 e2
 .have hr:¬(9<=idx r/\idx r<18):=by simpa[xD]using hr
  refine(?_:gA (as++gr i) r=gA (as++gr 0) r);rw[cY ha];rw[cY ha];cases r<;>first |rfl |exact absurd (by decide) hr
 .rcases Nat.eq_zero_or_pos (kL i r) with h |h
  .rcases gC i r with⟨h1,hm⟩ |⟨h1,h2,_⟩ |⟨h1,h2,_⟩ |⟨h1,_⟩
   .exact A.dead _ hm
   .exfalso;have:=tX i r;exact(aP 0x14b0808000025c270428100000097042e2000006709e00ca040000019c10b8a64f0a084c42f0c00000ce0858532650419a016) hi h h1 h2 this
   .exfalso;have:=tX i r;exact(aP 0x296101000004b84e085020000012e085c400000ce13c0194080000033821714c9e14109885e18000025c10b08000019c2650419a016) hi h h1 h2 this
   .exfalso;have:=tX i r;exact(aP 0x14b0004000025c271428000000097022e1000006709e04ca000000019c08b8664f0a004c22f0c100000970994006) h h1 this
  .have:=dn (i:=1) (cL h rfl) ((rC i hi r).2 h);exact A.le.none this fun h=>h
 .intro e;have hb:=rC i hi r;rw[e]at hb
  have ht:kL i r≠5:=by rcases tX i r with h |h |h |h<;>(first |exact(aD 8462481507090806) h |exact(aP 0xf104819410000003381170cc9d9a016) hi h |exact(aP 0x1e2090428200000097022e1000006709d9a016) hi h |exact(aD 0x3c212b0800000025c276) h)
  rcases Nat.lt_or_ge (kL i r) 5 with h |h
  .exact up (jl h rfl) hb.1 zr
  .have:=hb.2 (cL h rfl);exact up (i:=6) (j:=kL i r) (by exact(aB 283690267443350) ht h) (by rw[hk];simp) this
 .intro e;have hb:=rC i hi r;rw[e]at hb;exact up (by have:=Wo i hi r;exact(aB 2658669314086) this) hb.1 P2
 .intro e;have hb:=rC i hi r;rw[e]at hb;have hn:hp 1 pn≠none:=by rw[A.names];simp
  rcases Nat.eq_zero_or_pos (kL i r) with h |h
  .rcases gC i r with⟨h1,hm⟩ |⟨h1,h2,_⟩ |⟨h1,h2,_⟩ |⟨h1,_⟩
   .rw[e]at hm;exact A.KQ hm
   .have:=tX i r;exact(aP 0x14b0808000025c270428100000097042e2000006709e00ca040000019c10b8a64f0a084c42f0c00000ce0858532650419a016) hi h h1 h2 this
   .have:=tX i r;exact(aP 0x296101000004b84e085020000012e085c400000ce13c0194080000033821714c9e14109885e18000025c10b08000019c2650419a016) hi h h1 h2 this
   .have:=tX i r;exact(aP 0x14b0004000025c271428000000097022e1000006709e04ca000000019c08b8664f0a004c22f0c100000970994006) h h1 this
  .exact up h hn (hb.2 h)
 .rw[cY ha];rw[cY ha];rw[cY ha];exact(hle 6 10 (by decide)).at hk id
 .rw[cY ha];rw[cY ha];rw[cY ha];exact hm
 .exact(hle 1 10 (by decide)).at A.names fun h=>h
 .exact A.le.trans (hle 1 10 (by decide))
 .dsimp only;rw[cY ha];rfl
 .dsimp only;rw[cY ha];rfl
theorem C8{hp:Nat->Z}(h:∀i,Le (hp i) (hp (i+1))):∀i j,i<=j->Le (hp i) (hp j):=fun i j eG=>by
 induction j with
 |zero=>
      have:i=0:=by exact(aB 1342259238) eG
      subst this;exact Kp.refl _ _
 |succ j ih=>
  by_cases q:i=j+1
  .clear eG ih;subst q;exact Kp.refl _ _
  .exact(ih ((aD 0x202586800965868026) eG q)).trans (h j)
section
variable {c:Cy} {n:Nat} {H:Z} {Q:V->Z->Prop} {QS:SQ} {R:EQ}
theorem Fs(O:cz c)(hn:20<=n){H2:Z}{as:List Nat}{B:List Nd}{s a kI pn t:Nat}{f:Row->Bool}(A:JK H2 H as B a pn t f)(P4:gA as .kI=kI)
  (h:∀L pI rk rm H',j5 H2 H' L (fun _=>dp B) rk rm pn a f->L 0 .kI=kI->L 2 .pI=pI->wpS c n Pu (JP s a kI pn t pI rk rm) H' QS R):
  wpS c n Kv (C2 s a kI pn t) H QS R:=by
 have ag:=aJ;obtain⟨n,rfl⟩:∃m,n=m+1:=⟨n-1,by exact(aB 0xb582b40000000029c26) hn⟩
 simp[Kv,C2];intro pI Oa;refine C0 O (by exact(aB 0x164b050000029c26) hn) Oa fun lO oE H1 wp=>?_
 simp;intro t0 Py;refine nW O (by exact(aB 0x164b050000029c26) hn) Py fun c0 s0 H3 w0=>?_
 simp;intro t1 Zv;refine nW O (by exact(aB 0x164b050000029c26) hn) Zv fun c1 s1 H4 w1=>?_
 simp;intro t2 Ou;refine nW O (by exact(aB 0x164b050000029c26) hn) Ou fun c2 s2 H5 w2=>?_
 simp[ag];intro rk zr;have Ti:Le H5 (H5.set rk (.list [.ref t0,.ref t1,.ref t2])):=Le.fresh zr;have e6:(H5.set rk (.list [.ref t0,.ref t1,.ref t2])) rk=some (.list [.ref t0,.ref t1,.ref t2]):=Z.ab _ _ _;generalize H5.set rk (.list [.ref t0,.ref t1,.ref t2])=H6 at*;intro m0 Zw;refine nX O (by exact(aB 0x164b050000029c26) hn) Zw fun Zx Zy Zz ZA ZC H7 v0=>?_
 have e7:=v0.le.at e6 fun h=>h;simp[e7,ag];intro m1 TU;refine nX O (by exact(aB 0x164b050000029c26) hn) TU fun ZD ZE ZF ZG ZH H8 v1=>?_
 have e8:=v1.le.at e7 fun h=>h;simp[e8,ag];intro m2 PV;refine nX O (by exact(aB 0x164b050000029c26) hn) PV fun ZI ZJ ZK ZL ZM H9 v2=>?_
 simp[ag];intro rm P2
 let hp:Nat->Z:=fun i=>match i with
  |0=>H |1=>H |2=>H1 |3=>H3 |4=>H4 |5=>H5 |6=>H6 |7=>H7 |8=>H8 |9=>H9
  |_=>H9.set rm (.list [.ref m0,.ref m1,.ref m2])
 let pick:Nat->Nat->Nat->Nat->Nat:=fun x y z i=>match i with
  |0=>x |1=>y |_=>z
 have hle:∀i,Le (hp i) (hp (i+1)):=fun i=>by
  match i with
  |0=>exact Kp.refl _ _
  |1=>exact wp.le
  |2=>exact w0.le
  |3=>exact w1.le
  |4=>exact w2.le
  |5=>exact Ti
  |6=>exact v0.le
  |7=>exact v1.le
  |8=>exact v2.le
  |9=>exact Le.fresh P2
  |k+10=>exact Kp.refl _ _
 have i3:∀i,i<3->i=0\/i=1\/i=2:=fun i hi=>by exact(aB 0x6001600850021a016) hi
 rw[←P4]at v0 v1 v2
 obtain⟨L,AB,k1,k2⟩:=JQ (H2:=H2) (hp:=hp) (a:=a) (pn:=pn) (t:=t) (f:=f) (pI:=pI) (lO:=lO) (oE:=oE) (tI:=pick t0 t1 t2) (iL:=pick c0 c1 c2) (gu:=pick s0 s1 s2) (rk:=rk)
  (mI:=pick m0 m1 m2) (mv:=pick Zx ZD ZI) (mt:=pick Zy ZE ZJ) (ms:=pick Zz ZF ZK) (mo:=pick ZA ZG ZL) (mw:=pick ZC ZH ZM) (pv:=fun i=>if (i==2)=true then .ref pI else .none) (rm:=rm)
  A (C8 hle) wp (fun i hi=>by rcases i3 i hi with rfl |rfl |rfl<;>assumption) zr e6 (fun i _=>rfl) (fun i hi=>by rcases i3 i hi with rfl |rfl |rfl<;>assumption) P2 (Z.ab _ _ _)
 have:=h L pI rk rm _ AB (k1.trans P4) k2;exact this
end
theorem TV{b:Bool}(h:(!b)=false):b=true:=by cases b;cases h;rfl
theorem Ob(r:Rl):((og r||xu r)&&xD r)=false:=by cases r<;>rfl
theorem C9{r:Rl}(h:og r=true\/xu r=true):xD r=false:=KE (Ob r) (zEo.mpr h)
theorem TX{L:Rl->Nat}{st:St}(pf:Bool)(r:Rl):((obj L pf st r).isSome&&!(xD r||(Cq r&&pf)))=false:=by cases pf<;>cases r<;>rfl
theorem vV{L:Rl->Nat}{pf:Bool}{st:St}{r:Rl}{o:aN}(h:obj L pf st r=some o):xD r=true\/(Cq r=true/\pf=true):=by
 have:=KE (TX (L:=L) (st:=st) pf r) (by rw[h];rfl)
 exact(zEo.mp (TV this)).imp id zBu.mp
theorem TY(r:Rl):(Cq r&&xD r)=false:=by cases r<;>rfl
theorem lT{L:Rl->Nat}{x:Nat}{r:Rl}(h:r≠.mw):c9 L x r=L r:=zAi h
section
variable {H2 H H':Z} {L:Nat->Rl->Nat} {bQ:Nat->St} {rk rm pn a:Nat} {f:Row->Bool}
theorem j5.aM(A:j5 H2 H L bQ rk rm pn a f){B':List Nd}(X:av (L 0) B' H')(k:Kp (RB (L 0)) H H'):j5 H2 H' L (fun j=>{bQ j with B:=B'}) rk rm pn a f:=by
 have Wp:∀i,i<3->∀b,RB (L 0) b->RB (L i) b:=fun i hi b ⟨r,h,e⟩=>⟨r,h,by rw[A.same i hi r (C9 (.inl h))];exact e⟩
 have Xi:∀i,i<3->av (L i) B' H':=fun i hi=>X.swap (A.rep i hi).aM.inj fun r hr=>A.same i hi r (C9 hr);have GQ:∀b,(∀r,L 0 r≠b)->¬RB (L 0) b:=fun b h ⟨r,_,e⟩=>h r e;refine⟨fun i hi=>(A.rep i hi).Cr (Xi i hi) (k.weaken (Wp i hi)),fun i hi r=>?_,A.AR,A.same,A.dead,A.sep,?_,?_,?_,tU A.le k fun b ⟨r,_,e⟩=>by rw[←e];exact A.dead 0 (by decide) r,A.tree⟩
 .by_cases q:og r=true
  .exact(Xi i hi).live q
  .rewrite[k _ (A.alive i hi r) ?_]
   .exact A.alive i hi r
   .intro h;obtain⟨r',h1,h2⟩:=Wp i hi _ h;obtain rfl:=((A.rep i hi).aM.inj _ _).mp h2;exact q h1
 .exact k.at A.hk (GQ _ fun r=>(A.sep 0 (by decide) r).1)
 .exact k.at A.hm (GQ _ fun r=>(A.sep 0 (by decide) r).2.1)
 .exact k.at A.names (GQ _ fun r=>(A.sep 0 (by decide) r).2.2)
theorem vW{L:Rl->Nat}{pf:Bool}{st':St}{x:Nat}(R':Rep (c9 L x) pf st' H')(k:Kp (RM L pf) H H')(hi:∀r r',L r=L r'↔r=r')(hl:∀r,H (L r)≠none)(r:Rl):H' (c9 L x r)≠none:=
 NH r (c9 L x) pf st' R'.aM.live (fun h=>by rw[lT (by rintro rfl;rcases h with h |⟨h,_⟩<;>cases h)];rw[k _ (hl r) (GU hi h)];exact hl r) fun _=>R'.live
theorem j5.step(A:j5 H2 H L bQ rk rm pn a f){i x:Nat}(hi:i<3)(hx:H x=none){st':St}(R':Rep (c9 (L i) x) (i==2) st' H')(k:Kp (RM (L i) (i==2)) H H'):
  j5 H2 H' (fun j=>if j=i then c9 (L i) x else L j) (fun j=>if j=i then st' else{bQ j with B:=st'.B}) rk rm pn a f:=by
 have nx:∀j,j<3->∀r,L j r≠x:=fun j hj r e=>A.alive j hj r (by rw[e];exact hx)
 have inj:=fun j hj=>(A.rep j hj).aM.inj;have lu:∀r,xD r=false->c9 (L i) x r=L i r:=fun r h=>lT (by rintro rfl;cases h)
 have aU:=vW R' k (inj i hi) (A.alive i hi)
 have vM:∀j,j<3->j≠i->∀r,(xD r=true\/(Cq r=true/\(j==2)=true))->¬RM (L i) (i==2) (L j r):=fun j hj Wq r hr ⟨q,e,h1,h2⟩=>by
  rcases hr with hr |⟨hr,PZ⟩
  .exact A.AR j hj i hi Wq r hr q e.symm
  .have Wr:xD r=false:=KE (TY r) hr;rw[A.same j hj r Wr,←A.same i hi r Wr]at e;obtain rfl:=(inj i hi _ _).mp e;have:=h1 hr;simp at this PZ;exact(aD 0x2980066041820096) Wq this PZ
 have JR:∀b o,H b=some o->x≠b:=fun b o h e=>by rw[←e,hx]at h;exact sn h rfl
 have vX:∀b,(∀r,L i r≠b)->¬RM (L i) (i==2) b:=fun b h ⟨r,e,_⟩=>h r e;refine⟨fun j hj=>?_,fun j hj r=>?_,fun j hj j' oT el r hr r'=>?_,fun j hj r hr=>?_,fun j hj r=>?_,fun j hj r=>?_,?_,?_,?_,tU A.le k fun b ⟨r,e,_⟩=>by rw[←e];exact A.dead i hi r,A.tree⟩
 .by_cases q:j=i
  .clear vX vM aU lu k hi;subst q;simpa using R'
  .simp only[q,if_false];refine⟨R'.aM.swap (inj j hj) fun r hr=>?_,fun r o ho=>?_⟩
   .rw[lu r (C9 hr)];rw[A.same j hj r (C9 hr)];rw[A.same i hi r (C9 hr)]
   .rw[GS]at ho;exact k.at ((A.rep j hj).at' r o ho) (vM j hj q r (vV ho))
 .by_cases q:j=i
  .clear vX vM lu k R' hi;subst q;simp only[if_true];exact aU r
  .simp only[q,if_false];by_cases hr:RM (L i) (i==2) (L j r)
   .obtain⟨r',e,_⟩:=hr;by_cases KR:xD r=true
    .exact absurd e.symm (A.AR j hj i hi q r KR r')
    .have KR:xD r=false:=by simpa using KR
     have:L j r=c9 (L i) x r:=by rw[lu r KR];rw[A.same j hj r KR];rw[A.same i hi r KR]
     rw[this];exact aU r
   .rw[k _ (A.alive j hj r) hr];exact A.alive j hj r
 .have upd:∀r,c9 (L i) x r=L i r\/c9 (L i) x r=x:=fun r=>by unfold c9;split<;>simp
  by_cases q:j=i
  .clear vX vM aU lu k R' hi;subst q;have q':j'≠j:=zFp el;simp only[if_true,q',if_false];rcases upd r with e |e<;>rw[e]
   .exact A.AR j hj j' oT el r hr r'
   .exact zFp (nx j' oT r')
  .by_cases q':j'=i
   .clear vX vM aU lu k R' hi;subst q';simp only[if_true,q,if_false];rcases upd r' with e |e<;>rw[e]
    .exact A.AR j hj j' oT el r hr r'
    .exact nx j hj r
   .simp only[q,q',if_false];exact A.AR j hj j' oT el r hr r'
 .have e0:(if 0=i then c9 (L i) x else L 0) r=L 0 r:=by
   by_cases q:0=i
   .rw[zBq q];rw[lu r hr];rw[←q]
   .rw[zAi q]
  have e1:(if j=i then c9 (L i) x else L j) r=L j r:=by
   by_cases q:j=i
   .rw[zBq q];rw[lu r hr];rw[←q]
   .rw[zAi q]
  rw[e0];rw[e1];exact A.same j hj r hr
 .have ZN:H2 x=none:=A.le.none hx fun h=>h;by_cases q:j=i
  .simp only[q,if_true];unfold c9;split
   .exact ZN
   .exact A.dead i hi r
  .simp only[q,if_false];exact A.dead j hj r
 .by_cases q:j=i
  .simp only[q,if_true];unfold c9;split
   .exact⟨JR _ _ A.hk,JR _ _ A.hm,JR _ _ A.names⟩
   .exact A.sep i hi r
  .simp only[q,if_false];exact A.sep j hj r
 .have e:∀j,(if j=i then c9 (L i) x else L j) .tI=L j .tI:=fun j=>by
   by_cases q:j=i
   .rw[zBq q];rw[lT (by simp)];rw[q]
   .rw[zAi q]
  simp only[e];exact k.at A.hk (vX _ fun r=>(A.sep i hi r).1)
 .have e:∀j,(if j=i then c9 (L i) x else L j) .mI=L j .mI:=fun j=>by
   by_cases q:j=i
   .rw[zBq q];rw[lT (by simp)];rw[q]
   .rw[zAi q]
  simp only[e];exact k.at A.hm (vX _ fun r=>(A.sep i hi r).2.1)
 .exact k.at A.names (vX _ fun r=>(A.sep i hi r).2.2)
theorem aV.start{K tm:Nat}{pf:Bool}{P:Row->Prop}{bB sl:Nat}{B:List Nd}(g:Good B)(iJ:Dr K tm B)(h:sl<=bB):aV K tm pf P (fun _ _=>False) bB sl (dp B):=by
 refine⟨g,by simp[dp],by simp[dp],by simp[dp],by simp[dp],by simp[dp],by simp[dp],by simp[dp],by simp[dp],fun t b hb cj=>?_,?_,by simp[dp],iJ,by simp[dp],rfl⟩
 .exfalso;rcases hb with rfl |rfl<;>simp[dp,aw,aK,aT]at cj
 .simp[dp,St.pend,cv];exact h
end
structure Ft(st:St):Prop where
 oG:st.vs.Nodup
 vl:st.vs.length<=381
 cl:st.cs.length<=3600
 oi:∀c∈st.cs,c.Pairwise (fun a b=>a.natAbs<b.natAbs)/\c.length<64/\∀l∈c,l≠0/\l.natAbs<=st.vs.length
 nl:st.cQ.length=st.cs.length
theorem aV.fv{K tm:Nat}{pf:Bool}{P:Row->Prop}{X:Nat->Nat->Prop}{bB sl:Nat}{st:St}(I:aV K tm pf P X bB sl st)(hb:vL K bB):Ft st:=by obtain⟨b1,b2,b3,b4,b5⟩:=I.GV hb;exact⟨I.oG,b2,b4,I.oi,I.cQ⟩
structure vY(H2 H:Z)(L:Nat->Rl->Nat)(bQ:Nat->St)(rk rm pn a:Nat)(f:Row->Bool)(l:Int):Prop where
 env:j5 H2 H L bQ rk rm pn a f
 ok:∀i,i<3->Ft (bQ i)
 Oc:∀row m,bT (bQ 0).vs row 3 m->((∃a,rL a m/\∀c∈(bQ 0).cs,hU a c)↔f row=true)
 Od:∀row m,bT (bQ 1).vs row 3 m->((∃a,rL a m/\∀c∈(bQ 1).cs,hU a c)↔f row=false)
 Oe:∀row m,bT (bQ 2).vs row 3 m->∃a,rL a m/\∀c∈(bQ 2).cs,hU a c
 Ws:∀row m m',bT (bQ 2).vs row 3 m->Part (bQ 2).vs.length (bQ 2).cs m m'->(∀c∈(bQ 2).cs,Jv m' c)->m'.length=(bQ 2).vs.length/\aj l.natAbs m'=some (decide (0<l)==f row)
noncomputable def zb(s a k:Nat)(pn t:Nat)(pI rk rm:Nat)(l:Int):aH:=[some .arg,some (.ref s),some (.ref a),some (.ref k),none,some (.ref pn),some (ae t),some (.ref pI),some (.ref rk),some (.ref rm),some (.int l),none,none,none,none,none]
section
variable {c:Cy} {n:Nat} {H:Z} {Q:V->Z->Prop} {QS:SQ} {R:EQ}
theorem Fu(O:cz c)(hn:40<=n){H2:Z}{L:Nat->Rl->Nat}{B:List Nd}{s a kI pn t pI rk rm:Nat}{f:Row->Bool}(A:j5 H2 H L (fun _=>dp B) rk rm pn a f)(P4:L 0 .kI=kI)(Oa:L 2 .pI=pI)
  (t1:1<=t) (t2:t<B.length) (tv:∀row,val B row t=f row) (tw:wt B t<=40) (tl:B.length<=19) (g:Good B)
  (h:∀L bQ l H',vY H2 H' L bQ rk rm pn a f l->L 0 .kI=kI->L 2 .pI=pI->wpS c n Pt (zb s a kI pn t pI rk rm l) H' QS R):
  wpS c n Pu (JP s a kI pn t pI rk rm) H QS R:=by
 have ag:=aJ;have N3:=g.len;have hb:vL B.length 60:=⟨cL N3 rfl,tl,by decide⟩
 have TZ:Dr B.length t B:=⟨zAq _,fun k hk=>by rw[List.drop_length]at hk;cases hk⟩
 have R0:Rep (L 0) false (dp B) H:=A.rep 0 (by decide)
 have I0:aV B.length t false (fun row=>f row=true) (fun _ _=>False) 60 (wt B t) (dp B):=aV.start g TZ (jl tw rfl);have hm:=A.hm;simp[Pu,JP,hm,ag,R0.mI];refine fH O (cL hn rfl) R0 I0 hb (zEw _) (A.alive 0 (by decide)) t1 t2 (by refine(?_:wt B t<=60);exact jl tw rfl) (fun row hr=>by refine(?_:val B row t=true);rw[tv];exact hr) fun x0 sa Ha dn0 ZO Ra Ia wa spa T8 ka ZP ZQ=>?_
 have A1:=A.step (i:=0) (by decide) ZO Ra ka
 have ga:=Ia.good;have va:∀row,val sa.B row t=f row:=fun row=>by rw[bN g ga T8.m.gr row t t2];rw[tv]
 have Of:∀row m,bT sa.vs row 3 m->((∃a,rL a m/\∀c∈sa.cs,hU a c)↔f row=true):=fun row m V=>by rw[←va row];exact sat_iff Ia wa ZP ZQ (fun row hr=>by rw[←va row];exact hr) V
 have Og:=Ia.fv hb;obtain⟨e0,e1,e2,e3⟩:(fun j=>if j=0 then c9 (L 0) x0 else L j) 0 .kI=kI/\(fun j=>if j=0 then c9 (L 0) x0 else L j) 2 .pI=pI/\(fun j=>if j=0 then sa else{dp B with B:=sa.B}) 0=sa/\(∀j,j≠0->(fun j=>if j=0 then sa else{dp B with B:=sa.B}) j=dp sa.B):=⟨P4,Oa,rfl,fun j hj=>by simp[hj,dp]⟩
 have T9:t<sa.B.length:=by have:=T8.m.gr.len;refine(?_:t<_);exact zDu t2 this
 obtain⟨Ua,_⟩:=Ia.GV hb;have Wt:wt sa.B t<=40:=by rw[vC g ga T8.m.gr t t2];exact tw
 have Fv:=Ia.iJ;generalize (fun j=>if j=0 then c9 (L 0) x0 else L j)=L1 at A1 e0 e1
 generalize (fun j=>if j=0 then sa else{dp B with B:=sa.B})=zc at A1 e2 e3
 have Ub:Rep (L1 0) false (zc 0) Ha:=A1.rep 0 (by decide)
 rw[e2]at Ub;have ZR:Rep (L1 1) false (zc 1) Ha:=A1.rep 1 (by decide)
 have TU:=A1.hm;have be:=Ub.aM.ei;rw[e0]at be;simp[TU,ag,ZR.mI,be]
 have wn:=tA (n:=n) (L:=L1 0) (B:=sa.B) (H:=Ha) (t:=t) (Q:=fun v H'=>∃(u:Nat) (B':List Nd),v=ae u/\Made sa.B B' u (fun row=>!val sa.B row t) (wt sa.B t+1)/\(B'=sa.B\/B'=sa.B++[⟨2,[t],0⟩])/\av (L1 0) B' H'/\Kp (RB (L1 0)) Ha H') O (cL hn rfl) Ub.aM t1 T9 (zk Ua rfl)
  fun u B' H' m kY X k=>⟨u,B',rfl,m,kY,X,k⟩
 rw[e0]at wn;refine wn.mono ?_;rintro v Hb ⟨u,B',rfl,mu,ZS,Xb,kb⟩;have A2:=A1.aM Xb kb;have gb:=Xb.good
 have Uc:Dr B.length t B':=by
  clear gb A2 Xb mu;rcases ZS with rfl |rfl
  .exact Fv
  .refine⟨by have:=Fv.1;simp;exact(aD 1518808342566) this,fun k hk=>?_⟩
   rw[zGi Fv.1]at hk;rcases zAu.mp hk with hk |hk
   .exact Fv.2 k hk
   .simp at hk;exact .inl hk
 have R2:Rep (L1 1) false (dp B') Hb:=by
  have:=A2.rep 1 (by decide)
  simp only[e3 1 (by decide)]at this
  exact this
 have I2:aV B.length t false (fun row=>f row=false) (fun _ _=>False) 60 (wt B' u) (dp B'):=aV.start gb Uc (by have:=mu.wt;exact(aD 0x79c092c1409300000a38026) Wt this)
 simp;refine fH O (cL hn rfl) R2 I2 hb (zEw _) (A2.alive 1 (by decide)) mu.pos mu.lt (by refine(?_:wt B' u<=60);have:=mu.wt;exact(aD 0x79c092c1409300000a38026) Wt this) (fun row hr=>by refine(?_:val B' row u=true);rw[mu.val];rw[va];rw[hr];rfl) fun x1 sc Hc dn1 ZT Rc Ic wc spc Ud kc ZU PL=>?_
 have A3:=A2.step (i:=1) (by decide) ZT Rc kc
 have gc:=Ic.good;have vc:∀row,val sc.B row u=!f row:=fun row=>by rw[bN gb gc Ud.m.gr row u mu.lt];refine(?_:val B' row u=_);rw[mu.val];rw[va]
 have Oh:∀row m,bT sc.vs row 3 m->((∃a,rL a m/\∀c∈sc.cs,hU a c)↔f row=false):=fun row m V=>by
  rw[sat_iff Ic wc ZU PL (fun row hr=>by rw[vc row]at hr;simpa using hr) V];rw[vc row]
  simp
 have Oi:=Ic.fv hb;have Ue:=Ic.iJ
 have Wu:t<sc.B.length:=by have h1:=Ud.m.gr.len;have h2:=mu.grow.len;have:t<(dp B').B.length:=zDu T9 h2;exact(aP 37452254814246) h1 this
 have ZV:∀row,val sc.B row t=f row:=fun row=>by rw[bN ga gc (mu.grow.trans Ud.m.gr) row t T9];rw[va]
 obtain⟨f0,f1,f2,f3,f4⟩:(fun j=>if j=1 then c9 (L1 1) x1 else L1 j) 0 .kI=kI/\(fun j=>if j=1 then c9 (L1 1) x1 else L1 j) 2 .pI=pI/\(fun j=>if j=1 then sc else{({zc j with B:=B'}:St) with B:=sc.B}) 0={sa with B:=sc.B}/\(fun j=>if j=1 then sc else{({zc j with B:=B'}:St) with B:=sc.B}) 1=sc/\(fun j=>if j=1 then sc else{({zc j with B:=B'}:St) with B:=sc.B}) 2=dp sc.B:=
  ⟨e0,e1,by simp[e2],rfl,by simp[e3 2 (by decide),dp]⟩
 generalize (fun j=>if j=1 then c9 (L1 1) x1 else L1 j)=L2 at A3 f0 f1
 generalize (fun j=>if j=1 then sc else{({zc j with B:=B'}:St) with B:=sc.B})=Oj at A3 f2 f3 f4
 have R4:Rep (L2 2) true (Oj 2) Hc:=A3.rep 2 (by decide)
 rw[f4]at R4;have I4:aV B.length t true (fun _=>True) (fun _ _=>False) 60 60 (dp sc.B):=aV.start gc Ue (by decide)
 have Tv:=A3.hm;simp[Tv,ag,R4.mI];refine q6 O (cL hn rfl) R4 I4 hb (zEw _) (A3.alive 2 (by decide)) t1 Wu fun l x2 sd Hd OB Rd Id wd spd ZW kd en=>?_
 have A4:=A3.step (i:=2) (by decide) OB Rd kd
 have gd:=Id.good;have vd:∀row,val sd.B row t=f row:=fun row=>by rw[bN gc gd ZW.m.gr row t Wu];rw[ZV]
 have ZX:=Id.fv hb;simp
 have C:vY H2 Hd (fun j=>if j=2 then c9 (L2 2) x2 else L2 j) (fun j=>if j=2 then sd else{Oj j with B:=sd.B}) rk rm pn a f l:=by
  refine⟨A4,fun i hi=>?_,?_,?_,?_,?_⟩
  .have:i=0\/i=1\/i=2:=by exact(aB 0x6001600850021a016) hi
   rcases this with rfl |rfl |rfl
   .simp only[show (0:Nat)≠2 by decide,if_false,f2]
    exact⟨Og.oG,Og.vl,Og.cl,Og.oi,Og.nl⟩
   .simp only[show (1:Nat)≠2 by decide,if_false,f3]
    exact⟨Oi.oG,Oi.vl,Oi.cl,Oi.oi,Oi.nl⟩
   .exact ZX
  .simp only[show (0:Nat)≠2 by decide,if_false,f2]
   exact Of
  .simp only[show (1:Nat)≠2 by decide,if_false,f3]
   exact Oh
  .intro row m V;exact⟨_,nS Id V,Id.snd row trivial⟩
  .intro row m m' V pt fx;refine⟨vR Id wd trivial V pt fx,?_⟩;rw[←vd row];exact vS Id wd trivial V pt fx t1 en
 exact h _ _ l Hd C f0 f1
end
theorem nY(n:Nat):∀l:List Int,gH (uz n) (l.map V.int) (l.map V.int)=some true
 |[]=>rfl
 |i::l=>by rw[map_cons];rw[iC];rw[nY n l];rw[xC];simp
theorem pR(n:Nat):∀k,gH (uz n) (replicate k V.none) (replicate k V.none)=some true
 |0=>rfl
 |k+1=>by rw[List.replicate_succ];rw[iC];rw[pR n k];rw[CU];rfl
noncomputable def nZ(cs:List (List Int)):List V:=(gz cs).map fun c=>.tup [.str 16,c]
theorem xF{n:Nat}{l:List V}(h:gH (uz n) l l=some true):uz (n+1) (.tup l) (.tup l)=some true:=by
 refine(?_:(if l.length=l.length then gH (uz n) l l else none)=_)
 rw[zBq rfl,h]
theorem Fw{n k:Nat}:uz n (.str k) (.str k)=some true:=by
 have:some (k==k)=some true:=by rw[beq_self_eq_true]
 cases n<;>exact this
theorem tY:∀cs:List (List Int),gH (uz 4) (nZ cs) (nZ cs)=some true
 |[]=>rfl
 |c::cs=>by have ih:=tY cs;refine(?_:gH (uz 4) (.tup [.str 16,.tup (c.map .int)]::nZ cs) (.tup [.str 16,.tup (c.map .int)]::nZ cs)=_);rw[iC];rw[ih];rw[xF];rfl;rw[iC];rw[iC];rw[Fw];rw[xF (nY 2 c)];rfl
theorem tZ{l:List V}(h:gH (uz 4) l l=some true):xQ l l=some true:=by unfold xQ;rw[zBq rfl,h]
theorem Fx{cs:List (List Int)}{ns:List V}(h:ns.length=cs.length){k:Nat}(hk:k<cs.length):(Co cs ns)[k]?=some (.tup [.str 16,.tup (cs[k].map .int),.tup [],ns[k]'((aP 2270030209030) h hk)]):=by
 unfold Co;rw[zAe (by simp;exact(aP 0x6c21088582006) h hk)]
 simp;rfl
section
variable {c:Cy} {n:Nat} {H:Z} {Q:V->Z->Prop} {QS:SQ} {R:EQ}
theorem Dc(O:cz c)(hn:1<=n){p a b:Nat}{e:V}{cs:List (List Int)}{ns:List V}(h1:H p=some (.inst (.proof ()) [(0,.ref a),(1,.ref b),(2,e)]))(h2:H a=some (.list (Co cs ns)))(hl:ns.length=cs.length){k:Nat}(hk:k<cs.length)(hc:cs.length<5000):
  (Q (.str 16) H->aA c 6 n [.ref p,ae k] H Q)/\(Q (.tup (cs[k].map .int)) H->aA c 5 n [.ref p,ae k] H Q):=by
 have ag:=aJ;have e1:=Fx hl hk;have bk:(k:Int)<(lim:Int):=(dq 0x7916501e8481c1830004e238116088582006) hl hk hc ag;have b0:(0:Int)<(lim:Int):=(aB 0x195203d09038006) ag;have b1:(1:Int)<(lim:Int):=(aB 0x195a03d09038006) ag;constructor
 .intro h;refine aF O hn rfl ?_;simp[h1,h2,e1,bk,b0]
  first |exact h |exact⟨(aB 0xf4240e03280f4240e641946) bk,h⟩
 .intro h;refine aF O hn rfl ?_;simp[h1,h2,e1,bk,b1]
  first |exact h |exact⟨(aB 0xf4240e03280f4240e641946) bk,h⟩
theorem Fy(O:cz c)(hn:40<=n){H2:Z}{L:Nat->Rl->Nat}{bQ:Nat->St}{s a kI pn t pI rk rm:Nat}{f:Row->Bool}{l:Int}(C:vY H2 H L bQ rk rm pn a f l)(Oa:L 2 .pI=pI)
  (h:∀H',Le H H'->wpS c n Pr (zb s a kI pn t pI rk rm l) H' QS R):
  wpS c n Pt (zb s a kI pn t pI rk rm l) H QS R:=by
 have ag:=aJ;have A:=C.env;have R0:Rep (L 0) false (bQ 0) H:=A.rep 0 (by decide)
 have R1:Rep (L 1) false (bQ 1) H:=A.rep 1 (by decide)
 have R2:Rep (L 2) true (bQ 2) H:=A.rep 2 (by decide)
 have o0:=C.ok 0 (by decide)
 have o1:=C.ok 1 (by decide)
 have o2:=C.ok 2 (by decide)
 simp[Pt,zb];have hit:iter H .seq (.ref rk)=some ([.ref (L 0 .tI),.ref (L 1 .tI),.ref (L 2 .tI)],fun H'=>H' rk=some (.list [.ref (L 0 .tI),.ref (L 1 .tI),.ref (L 2 .tI)])):=bF A.hk;refine C3 hit ⟨A.hk,?_⟩;simp;refine ia O (cL hn rfl) R0.tI R0.iL o0.oi fun Ha la=>?_;have Wv:=R1.le la;have R2a:=R2.le la;refine⟨la.at A.hk fun h=>h,ia O (cL hn rfl) Wv.tI Wv.iL o1.oi fun Hb Ug=>?_⟩;have lb:=la.trans Ug;have Ww:=R2.le lb;refine⟨lb.at A.hk fun h=>h,ia O (cL hn rfl) Ww.tI Ww.iL o2.oi fun Hc Uh=>?_⟩;have lc:=lb.trans Uh;refine⟨lc.at A.hk fun h=>h,fun r hr=>?_⟩;have ld:=lc.set (o:=.list [.bool true,.bool true,.bool true]) (.inl (lc.none hr fun h=>h));have er:(Hc.set r (.list [.bool true,.bool true,.bool true])) r=some (.list [.bool true,.bool true,.bool true]):=Z.ab _ _ _;generalize Hc.set r (.list [.bool true,.bool true,.bool true])=Hd at*;have ZY:=R0.le ld;have ZZ:=ld.at A.hk fun h=>h;simp[er,ZZ,ag,ZY.tI];intro r1 uj;have y6:=ld.set (o:=.list [.none]) (.inl (ld.none uj fun h=>h));have Dw:(Hd.set r1 (.list [.none])) r1=some (.list [.none]):=Z.ab _ _ _;generalize Hd.set r1 (.list [.none])=He at*;have Wx:=R0.le y6;have Z0:=y6.at A.hk fun h=>h;have c0:=o0.cl;have bl:(gz (bQ 0).cs).length<=1000000:=by rw[jY];exact jl c0 rfl
 simp[Z0,ag,Wx.tI,Wx.iL,bl,Dw,jY];refine⟨(aB 0x1e8481c0100038438026) c0,(aB 0x3d090380ca80038438026) c0,?_⟩;refine fun r2 jz=>?_;have rK:=y6.set (o:=.list (replicate (bQ 0).cs.length V.none)) (.inl (y6.none jz fun h=>h));have Wy:=R0.le rK;have ef:=Wy.gu;have Z1:xt false (bQ 0).cs.length=replicate (bQ 0).cs.length V.none:=rfl;rw[Z1]at ef;rw[ef];clear Wy ef;generalize He.set r2 (.list (replicate (bQ 0).cs.length V.none))=Hf at*;have Ui:=R2.le rK;have Z2:=rK.at A.hk fun h=>h;have kG:xQ (replicate (bQ 0).cs.length V.none) (replicate (bQ 0).cs.length V.none)=some true:=tZ (pR _ _);simp[kG,Z2,ag,Ui.tI];have c2:=o2.cl;have Z3:=o2.nl;refine comp_map (items:=gz (bQ 2).cs) (g:=fun H'=>H' (L 2 .iL)=some (.list (gz (bQ 2).cs))) (bF Ui.iL) (by rw[jY];exact jl c2 rfl) Ui.iL (fun v=>.tup [.str 16,v]) (fun v _ K k=>k) fun r3 NZ=>?_
 have oK:=rK.set (o:=.list ((gz (bQ 2).cs).map fun v=>.tup [.str 16,v])) (.inl (rK.none NZ fun h=>h));have CM:(Hf.set r3 (.list ((gz (bQ 2).cs).map fun v=>.tup [.str 16,v]))) r3=some (.list (nZ (bQ 2).cs)):=Z.ab _ _ _;generalize Hf.set r3 (.list ((gz (bQ 2).cs).map fun v=>.tup [.str 16,v]))=Hg at*;have P5:=R2.le oK;have Z4:=oK.at A.hk fun h=>h;simp[Z4,ag,P5.tI];have cZ:xt true (bQ 2).cs.length=(List.range (bQ 2).cs.length).map ae:=rfl;have JS:=P5.gu;rw[cZ]at JS;have P6:=P5.pI;rw[Oa]at P6;refine comp_map (items:=(List.range (bQ 2).cs.length).map ae) (g:=fun H'=>H' (L 2 .gu)=some (.list ((List.range (bQ 2).cs.length).map ae))) (bF JS) (by simp;exact jl c2 rfl) JS (fun v=>match v with | .int i=>.tup [.str 16,((gz (bQ 2).cs)[i.toNat]?).getD .none] |v=>v) (fun v hv K k=>?_) fun r4 Wz=>?_
 .obtain⟨j,hj,rfl⟩:=zAt.mp hv;have hj:=List.mem_range.mp hj;have w:=fun{Q:EQ}=>Dc (Q:=Q) (n:=n) O (cL hn rfl) P6 P5.lO Z3 hj (zk c2 rfl);simp[P6];refine w.1 ?_;simp[P6];refine w.2 ?_;simp[ag]
  have:((gz (bQ 2).cs)[j]?).getD .none= .tup ((bQ 2).cs[j].map .int):=by unfold gz;rw[zHw];rw[zAe hj];rfl
  simp only[Int.toNat_natCast,this]at k;exact k
 .have e4:(((List.range (bQ 2).cs.length).map ae).map fun v=>match v with | .int i=>V.tup [.str 16,((gz (bQ 2).cs)[i.toNat]?).getD .none] |v=>v)=nZ (bQ 2).cs:=by
   refine ext_getElem (by simp[nZ,gz]) fun j h1 h2=>?_
   simp[nZ,gz]at h1 h2⊢;rw[zAe ((aD 134488086) h2)];rfl
  rw[e4];have Z5:r3≠r4:=pV CM Wz;have CR:=oK.set (o:=.list (nZ (bQ 2).cs)) (.inl (oK.none Wz fun h=>h));have Z6:xQ (nZ (bQ 2).cs) (nZ (bQ 2).cs)=some true:=tZ (tY _);simp[Z5,CM,Z6];exact h _ CR
end
noncomputable def oN(s a k:Nat)(pn t:Nat)(pI rk rm:Nat)(l:Int)(rt:Nat)(u4 Ol Dy Dz:Option V):aH:=[some .arg,some (.ref s),some (.ref a),some (.ref k),u4,some (.ref pn),some (ae t),some (.ref pI),some (.ref rk),some (.ref rm),some (.int l),some (.ref rt),Ol,Dy,Dz,none]
structure Told(H:Z)(bQ:Nat->St)(rt p0 p1 p2:Nat):Prop where
 rt:H rt=some (.list [.ref p0,.ref p1,.ref p2])
 p0:H p0=some (.list (cV (bQ 0).cs.reverse))
 p1:H p1=some (.list (cV (bQ 1).cs.reverse))
 p2:H p2=some (.list (cV (bQ 2).cs.reverse))
theorem rE(cs:List (List Int)):(gz cs).reverse=cV cs.reverse:=by simp[gz,cV]
theorem Ft.cls{st:St}(o:Ft st):Fj st.vs.length st.cs.reverse:=by
 have h1:=o.vl;have h2:=o.cl;refine⟨jl h1 rfl,by simp;exact jl h2 rfl,fun c hc=>?_⟩
 obtain⟨a1,a2,a3⟩:=o.oi c (by simpa using hc)
 repeat (refine⟨ub a2 rfl,?_⟩)
 exact a3
theorem j5.lh{H2 H H':Z}{L:Nat->Rl->Nat}{bQ:Nat->St}{rk rm pn a:Nat}{f:Row->Bool}(A:j5 H2 H L bQ rk rm pn a f)(k:Le H H'):j5 H2 H' L bQ rk rm pn a f:=
 ⟨fun i hi=>(A.rep i hi).le k,fun i hi r=>by rw[k _ (A.alive i hi r) fun h=>h];exact A.alive i hi r,A.AR,A.same,A.dead,A.sep,k.at A.hk fun h=>h,k.at A.hm fun h=>h,k.at A.names fun h=>h,A.le.trans k,A.tree⟩
noncomputable def Om(b0 b1 b2:Bool):Row:=fun j=>if j=0 then b0 else if j=1 then b1 else b2
section
variable {c:Cy} {n:Nat} {H:Z} {Q:V->Z->Prop} {QS:SQ} {R:EQ}
theorem Fz(O:cz c)(hn:40<=n){H2:Z}{L:Nat->Rl->Nat}{bQ:Nat->St}{s a kI pn t pI rk rm:Nat}{f:Row->Bool}{l:Int}(C:vY H2 H L bQ rk rm pn a f l)
  (h:∀H' rt p0 p1 p2,Le H H'->Told H' bQ rt p0 p1 p2->wpS c n Pq (oN s a kI pn t pI rk rm l rt none none none none) H' QS R):
  wpS c n Pr (zb s a kI pn t pI rk rm l) H QS R:=by
 have ag:=aJ;have A:=C.env;have rU:=fun i hi=>(C.ok i hi).cl;have bl:∀i,i<3->(gz (bQ i).cs).length<=lim:=fun i hi=>by rw[jY];have:=rU i hi;exact jl this rfl
 simp[Pr,zb];have hit:iter H .seq (.ref rk)=some ([.ref (L 0 .tI),.ref (L 1 .tI),.ref (L 2 .tI)],fun H'=>H' rk=some (.list [.ref (L 0 .tI),.ref (L 1 .tI),.ref (L 2 .tI)])):=bF A.hk;have R0:Rep (L 0) false (bQ 0) H:=A.rep 0 (by decide)
 refine C3 hit ⟨A.hk,?_⟩;simp[R0.tI,R0.iL,-length_reverse];refine⟨bl 0 (by decide),fun p0 Z7=>?_⟩
 have l1:=Le.fresh (o:=.list (gz (bQ 0).cs).reverse) Z7;have e0:(H.set p0 (.list (gz (bQ 0).cs).reverse)) p0=some (.list (cV (bQ 0).cs.reverse)):=by rw[Z.ab];rw[rE]
 generalize H.set p0 (.list (gz (bQ 0).cs).reverse)=H1 at*;have R1:Rep (L 1) false (bQ 1) H1:=(A.rep 1 (by decide)).le l1
 refine⟨l1.at A.hk fun h=>h,?_⟩;simp[R1.tI,R1.iL,-length_reverse];refine⟨bl 1 (by decide),fun p1 Z8=>?_⟩
 have WA:=Le.fresh (o:=.list (gz (bQ 1).cs).reverse) Z8;have l2:=l1.trans WA;have e1:(H1.set p1 (.list (gz (bQ 1).cs).reverse)) p1=some (.list (cV (bQ 1).cs.reverse)):=by rw[Z.ab];rw[rE]
 have e0:=WA.at e0 fun h=>h;generalize H1.set p1 (.list (gz (bQ 1).cs).reverse)=H3 at*;have R2:Rep (L 2) true (bQ 2) H3:=(A.rep 2 (by decide)).le l2
 refine⟨l2.at A.hk fun h=>h,?_⟩;simp[R2.tI,R2.iL,-length_reverse];refine⟨bl 2 (by decide),fun p2 Z9=>?_⟩
 have Uj:=Le.fresh (o:=.list (gz (bQ 2).cs).reverse) Z9;have l3:=l2.trans Uj;have e2:(H3.set p2 (.list (gz (bQ 2).cs).reverse)) p2=some (.list (cV (bQ 2).cs.reverse)):=by rw[Z.ab];rw[rE]
 have e0:=Uj.at e0 fun h=>h;have e1:=Uj.at e1 fun h=>h;generalize H3.set p2 (.list (gz (bQ 2).cs).reverse)=H4 at*;refine⟨l3.at A.hk fun h=>h,fun rt PX=>?_⟩;have P7:=Le.fresh (o:=.list [.ref p0,.ref p1,.ref p2]) PX;exact h _ rt p0 p1 p2 (l3.trans P7) ⟨Z.ab _ _ _,P7.at e0 fun h=>h,P7.at e1 fun h=>h,P7.at e2 fun h=>h⟩
theorem Told.le{H H':Z}{bQ:Nat->St}{rt p0 p1 p2:Nat}(T:Told H bQ rt p0 p1 p2)(k:Le H H'):Told H' bQ rt p0 p1 p2:=⟨k.at T.rt fun h=>h,k.at T.p0 fun h=>h,k.at T.p1 fun h=>h,k.at T.p2 fun h=>h⟩
theorem JT(O:cz c)(hn:400<=n){H2 P8:Z}{L:Nat->Rl->Nat}{bQ:Nat->St}{s a kI pn t pI rk rm rt p0 p1 p2 pr:Nat}{f:Row->Bool}{l:Int}(C:vY H2 P8 L bQ rk rm pn a f l)(A:j5 H2 H L bQ rk rm pn a f)(T:Told H bQ rt p0 p1 p2){row:Row}(y5:H pr=some (.list [.bool (row 0),.bool (row 1),.bool (row 2)])){u4 Dy Dz:Option V}
  (h:∀Dy Dz H',Le H H'->QS (oN s a kI pn t pI rk rm l rt u4 (some (.ref pr)) Dy Dz) H'):
  wpS c n Pp (oN s a kI pn t pI rk rm l rt u4 (some (.ref pr)) Dy Dz) H QS R:=by
 have ag:=aJ;have o0:=C.ok 0 (by decide)
 have o1:=C.ok 1 (by decide)
 have o2:=C.ok 2 (by decide)
 have v0:=o0.vl;have v1:=o1.vl;have v2:=o2.vl;simp[Pp,oN];refine y7 O 3 (cL hn rfl) (A.tree.mono A.le.lists) y5 fun Ha la=>?_;have Aa:=A.lh la;have Ta:=T.le la;have pra:=la.at y5 fun h=>h;simp[Ta.rt,Aa.hm,ag];refine nR O (cL hn rfl) (Aa.rep 0 (by decide)) o0.oG (jl v0 rfl) Aa.names pra fun r0 m0 Hb Ug N0 er0 V0=>?_
 have lb:=la.trans Ug;have Tb:=T.le lb;simp;refine nQ O o0.cls (bQ 0).vs.length ((aD 0xd0d080002fbc09300000321c26) hn v0) (aD 26626) Tb.p0 er0 V0.key fun b0 Hc t7 Uh=>?_;have lc:=lb.trans Uh;have Ac:=A.lh lc;have Tc:=T.le lc;have prc:=lc.at y5 fun h=>h
 have q0:b0=f row:=by have h1:=C.Oc row m0 V0;rw[Bool.eq_iff_iff];rw[t7];rw[←h1];simp
 have q0':(b0 !=f row)=false:=by rw[q0];simp
 simp[q0',Tc.rt,Ac.hm,ag];refine nR O (cL hn rfl) (Ac.rep 1 (by decide)) o1.oG (jl v1 rfl) Ac.names prc fun r1 m1 Hd ld' uj Dw V1=>?_
 have ld:=lc.trans ld';have Td:=T.le ld;simp;refine nQ O o1.cls (bQ 1).vs.length ((aD 0xd0d080002fbc09300000321c26) hn v1) (aD 26626) Td.p1 Dw V1.key fun b1 He pY lh=>?_;have le:=ld.trans lh;have Ae:=A.lh le;have Te:=T.le le;have pre:=le.at y5 fun h=>h
 have q1:b1=!f row:=by
  have h1:=C.Od row m1 V1;rw[Bool.eq_iff_iff];rw[pY];rw[show (!f row)=true↔f row=false by simp];rw[←h1]
  simp
 have q1':(b1==f row)=false:=by rw[q1];cases f row<;>rfl
 simp[q1',Te.rt,Ae.hm,ag];refine nR O (cL hn rfl) (Ae.rep 2 (by decide)) o2.oG (jl v2 rfl) Ae.names pre fun r2 m2 Hf lf' jz ju V2=>?_
 have lf:=le.trans lf';have Tf:=T.le lf;simp;refine tR O (cL hn rfl) o2.cls Tf.p2 ju V2.key (fun Bl Hg WC=>?_) fun m' r3 Hg pt fx WC NZ CM=>?_
 .exfalso;obtain⟨x,hx,hs⟩:=C.Oe row m2 V2;exact Bl x hx fun c hc=>hs c (by simpa using hc)
 .have lg:=lf.trans WC;have Ag:=A.lh lg;have CP:Part (bQ 2).vs.length (bQ 2).cs m2 m':=⟨pt.keep,fun x hx hs=>pt.sat x hx fun c hc=>hs c (by simpa using hc),pt.key,pt.len⟩
  obtain⟨f1,f2⟩:=C.Ws row m2 m' V2 CP fun c hc=>fx c (by simpa using hc)
  have R2:Rep (L 2) true (bQ 2) Hg:=Ag.rep 2 (by decide)
  have e1:((m'.length:Int) !=((bQ 2).vs.length:Int))=false:=by rw[f1];simp
  have e2:=tQ l.natAbs m';rw[f2]at e2;have bm:(gj m').length<=lim:=by rw[iB];exact(aP 0x22088180002fbc09303d09038006) ag v2 f1
  simp[CM,bm,iB,Ag.hk,ag,R2.tI,e1,e2]
  repeat (refine⟨(aD 0x7a1207024008300005f78026) v2 f1,?_⟩)
  refine ?_;exact h (some (.bool (f row))) (some (.ref r3)) Hg lg
theorem JU{a b:Int}:binI .mod a b=if 0<b then some (.int (a%b)) else none:=rfl
theorem FA{a b:Int}:binI .fdiv a b=if 0<b/\a.natAbs<1000/\b<1000 then some (.int (a/b)) else none:=rfl
theorem FC(O:cz c)(hn:400<=n){H2 P8:Z}{L:Nat->Rl->Nat}{bQ:Nat->St}{s a kI pn t pI rk rm rt p0 p1 p2:Nat}{f:Row->Bool}{l:Int}(C:vY H2 P8 L bQ rk rm pn a f l)(Tj:Le P8 H)(T:Told H bQ rt p0 p1 p2)
  (h:∀H',R (.bool true) H'):wpS c n Pq (oN s a kI pn t pI rk rm l rt none none none none) H QS R:=by
 have ag:=aJ;have A:=C.env.lh Tj;simp[Pq,oN]
 have hit:iter H .range (.int 8)=some ((List.range 8).map fun i=>V.int (i:Nat),fun _=>True):=by exact(eO ⟨by decide,by rw[ag];decide⟩).trans rfl
 refine cI hit (fun li ρ H'=>(∃is:List Nat,li=is.map ae/\∀i∈is,i<8)/\(∃u4 Ol Dy Dz,ρ=oN s a kI pn t pI rk rm l rt u4 Ol Dy Dz)/\Le H H') (fun _ _ _ _=>trivial) ⟨⟨List.range 8,rfl,fun i h=>List.mem_range.mp h⟩,⟨none,none,none,none,rfl⟩,Kp.refl _ _⟩ ?_ ?_
 .rintro v li ρ H' K ⟨⟨is,e0,hi⟩,⟨u4,Ol,Dy,Dz,rfl⟩,le⟩ kk;cases is with
  |nil=>cases e0
  |cons i is=>
   simp only[map_cons,List.cons.injEq]at e0;obtain⟨rfl,rfl⟩:=e0;have hi8:=hi i (.head _);have dj:=fun j hj=>hi j (.tail _ hj)
   have fin:∀(b0 b1 b2:Bool) (pr:Nat) (iv:V),H' pr=none->wpS c n Pp (oN s a kI pn t pI rk rm l rt (some iv) (some (.ref pr)) Dy Dz) (H'.set pr (.list [.bool b0,.bool b1,.bool b2])) K R:=fun b0 b1 b2 pr iv y5=>by have l1:=le.trans (Le.fresh (o:=.list [.bool b0,.bool b1,.bool b2]) y5);refine JT O hn C (A.lh l1) (T.le l1) (row:=Om b0 b1 b2) (Z.ab _ _ _) fun aaa aab eL l2=>?_;exact kk _ _ ⟨⟨is,rfl,dj⟩,⟨_,_,_,_,rfl⟩,l1.trans l2⟩
   have h1:i<1000:=zDu hi8 (by decide)
   simp[VE,oN,eI,eJ,JU,FA,ag,h1];exact fun r hr=>fin _ _ _ r _ hr
 .rintro ρ H' ⟨_,⟨u4,Ol,Dy,Dz,rfl⟩,le⟩;simp[oN];exact h H'
end
theorem JV{c:Cy}{n:Nat}{H:Z}{QS:SQ}{R:EQ}(O:cz c)(hn:400<=n)(h:∀H',R (.bool true) H'):wpS c n Nl (start 15 [.arg]) H QS R:=by refine Fq O (cL hn rfl) fun s a kI pn t f as B H2 H1 A hk=>?_;refine Fs O (cL hn rfl) A hk fun L pI rk rm H3 AB NW hp=>?_;refine Fu O (cL hn rfl) AB NW hp A.t1 A.t2 A.tv A.tw A.tl A.good fun L' bQ l H4 C hk3 hp3=>?_;refine Fy O (cL hn rfl) C hp3 fun H5 l5=>?_;have C5:vY H2 H5 L' bQ rk rm pn a f l:=⟨C.env.lh l5,C.ok,C.Oc,C.Od,C.Oe,C.Ws⟩;refine Fz O (cL hn rfl) C5 fun H6 rt p0 p1 p2 l6 T=>?_;exact FC O hn C5 l6 T h
section
set_option backward.match.sparseCases true
def pW(h:Heap):Prop:=∃K:Frag,K.In h/\BI K=ED/\BJ K=EE
theorem map_eq{α β:Type}{f g:α->β}:∀{l:List α},l.map f=l.map g->∀x∈l,f x=g x
 |[],_,x,h=>by cases h
 |y::l,e,x,h=>by
  obtain⟨e1,e2⟩:=List.cons.inj e;rcases zAy.mp h with rfl |h
  .exact e1
  .exact map_eq e2 x h
theorem Uk{c:Cx}{h:Heap}{x:Value}{v:V} (e:(match v with
 | .str k=>blt k strN&&Value.isStrOf (strOf k) x
 |_=>false)=true):VR c h v x:=by
 cases v with
 |str k=>
  obtain⟨e1,e2⟩:=zBu.mp e;exact⟨zCu e1,Value.isStrOf_shape e2⟩
 |_=>exact ft rfl e
theorem xG{c:Cx}{h:Heap}:∀{l:List V} {xs:List Value},strsOk l xs=true->bj c h l xs
 |[],_,e=>List.isEmpty_iff.mp e
 |_::_,[],e=>nomatch e
 |_::_,_::_,e=>⟨_,_,rfl,Uk (zBu.mp e).1,xG (zBu.mp e).2⟩
theorem any_some{α:Type}{o:Option α}{p:α->Bool}(e:o.any p=true):∃x,o=some x/\p x=true:=by
 cases o with
 |none=>exact ft rfl e
 |some x=>exact⟨x,rfl,e⟩
theorem JW{l:List V}{d:Data}(e:GI l d=true):∃xs n,d= .seq xs n/\strsOk l xs.toList=true:=by
 cases d with
 |seq xs n=>exact⟨xs,n,rfl,e⟩
 |_=>exact ft rfl e
theorem JX{c:Cx}{h:Heap}{l:List V}{a:Addr}(nb:¬c.bad a){o:Obj}(g:h.get? a=some o)(e:BH l o=true):VR c h (.tup l) (.ref a):=by
 obtain⟨e1,e⟩:=zBu.mp e;obtain⟨e2,e⟩:=zBu.mp e;obtain⟨e3,e⟩:=zBu.mp e;obtain⟨xs,n,e4,e⟩:=JW e
 have:o=⟨.type "tuple",none,.seq xs n,#[]⟩:=by rw[←eq_of_beq e1];rw[←Option.isNone_iff_eq_none.mp e2];rw[←Array.isEmpty_iff.mp e3];rw[←e4]
 exact⟨a,n,xs,rfl,nb,g.trans (zEy some this),xG e⟩
theorem Ul{c:Cx}{h:Heap}{K:Frag}(X:K.In h)(hb:∀a,¬c.bad a){v:V}{x:Value}(e:VF K x v=true):VR c h v x:=by
 cases v with
 |int i=>exact Value.isInt_shape e
 |tup l=>cases x with
  |ref a=>
   obtain⟨o,h1,h2⟩:=any_some (show (K.lookup a).any (BH l)=true from e)
   exact JX (hb a) (X _ _ h1) h2
  |_=>exact ft rfl e
 |_=>exact ft rfl e
theorem Um{c:Cx}{h:Heap}{K:Frag}(X:K.In h)(hb:∀a,¬c.bad a){mg:Str->Option Value}(G:h.Ns mainGlobals mg){p:Str×V}(e:VG K p=true):∃v,mg p.1=some v/\VR c h p.2 v:=by obtain⟨o,h1,e⟩:=any_some e;obtain⟨x,rfl,e⟩:=any_some e;exact⟨x,mg_of X G h1,Ul X hb e⟩
theorem Dd{α:Type}{b:Bool}{x y:α}(h:(bif b then some x else none)=some y):b=true:=by
 cases b with
 |false=>exact sn h rfl
 |true=>rfl
theorem JY{C:lE}{m f:Nat}(h:resolve C m=some f):m<53:=by
 have key:∀{a b:Nat},(bif ble a m&&ble m b then some m else none)=some f->b<53->m<53:=fun h k=>lt_of_le_of_lt (zCu (zBu.mp (Dd h)).2) k;cases C with
 |aM=>
  have h:(bif beq m 23 then some 53 else bif ble 35 m&&ble m 52 then some m else none)=some f:=h;cases e:beq m 23 with
  |false=>rw[e]at h;exact key h (by decide)
  |true=>rw[Nat.eq_of_beq_eq_true e];decide
 |store=>exact key h (by decide)
 |maker=>exact key h (by decide)
 |proof=>exact key h (by decide)
theorem Oo:∀m<53,∀C∈yD,(resolve C m).isSome=true->(f9.map (·.2)).contains m=true:=by decide+kernel
theorem Oq{w:World}{s:Shared}{K:Frag}{mg mb:Str->Option Value}(X:K.In s.heap)(h1:BI K=ED)(h2:BJ K=EE)(G:s.heap.Ns mainGlobals mg)(B:s.heap.Ns builtinsNs mb)(nl:s.heap.NoLimit)(bu:∀x:Str,x≠"__name__"->mb x=bootBuiltins x)
  {a:Addr} {is:List Int} {xs:Array Value} (hl:s.heap.IsList a xs) (hr:∀c:Cx,bj c s.heap (is.map .int) xs.toList) (hn:is.length<=63):
  ∃c:Cy,c.w=w/\c.base=s.heap/\c.gens=s.gens/\c.os=s.os/\c.script=a/\(∀b,¬c.bad b)/\cz c/\Ok c K mg mb/\vw K EA 1 GF Nl/\mg "law"=some (.ref EA):=by
 unfold BJ EE at h2;obtain⟨h3,h2⟩:=zBe h2;delta BI EB ED EC at h1;delta EB EC at h3
 obtain⟨f1,f2,f3,f4⟩:xK K=_/\Nm K=_/\Nn K=_/\Np K=_:=by have:=h2;exact⟨(zBe this).1,(zBe (zBe this).2).1,(zBe (zBe (zBe this).2).2).1,(zBe (zBe (zBe this).2).2).2⟩
 obtain⟨f1a,f1b⟩:=zBe f1;obtain⟨g1,r⟩:=zBe f4;obtain⟨g2,r⟩:=zBe r;obtain⟨g3,r⟩:=zBe r;obtain⟨g4,r⟩:=zBe r;obtain⟨g5,g6⟩:=zBe r;have hf:∀f,vw K (BG f) (gZ f).2.1 (gZ f).2.2.1 (gZ f).2.2.2:=fun f=>.of ((zAu.mp ((List.take_append_drop 55 rows).symm▸xg f)).elim (map_eq h1 _) (map_eq h3 _));have hM:∀C,_:=fun C=>map_eq f2 C (nA C);let c:Cy:={w:=w,base:=s.heap,gens:=s.gens,drawn:=s.drawn,os:=s.os,script:=a,ca:=BE,bad:=fun _=>False,fa:=BG}
 have ok:Ok c K mg mb:=by
  refine⟨X,G,B,nl,?_,bu,fun p hp=>?_,fun p hp=>?_,fun p hp=>?_,fun n hn=>?_,fun f=>?_,fun C=>?_,fun C=>?_,fun f=>?_,fun C=>?_,fun C=>?_,fun C=>?_,fun C=>?_,fun C n hn=>?_,fun C m f hr=>?_,⟨is,xs,hl,hr _,hn⟩,?_⟩
  .obtain⟨o,ho⟩:=zAp.mp g6;refine(?_:s.heap.get? sysModules≠none);rw[X _ _ ho];nofun
  .exact Um X (fun _=>id) G (map_eq g5 p hp)
  .exact mg_of X G (map_eq g1 p hp)
  .exact mg_of X G (map_eq g2 p hp)
  .exact mg_none_of X G (map_eq g3 n hn)
  .obtain⟨o,fd,body,ho,hd,_⟩:=(hf f).ex;exact⟨o,fd,ho,hd⟩
  .exact(zBe (hM C)).1
  .exact(zBe (zBe (hM C)).2).1
  .exact map_eq f1b _ (xg f)
  .obtain⟨cd,e1,e2⟩:=zBt.mp (zBe (zBe (zBe (hM C)).2).2).1;exact⟨cd,e1,(zBe e2).1,(zBe e2).2⟩
  .exact(zBe (zBe (zBe (zBe (hM C)).2).2).2).1
  .exact(zBe (zBe (zBe (zBe (zBe (hM C)).2).2).2).2).1
  .exact(zBe (zBe (zBe (zBe (zBe (zBe (hM C)).2).2).2).2).2).1
  .exact map_eq (zBe (zBe (zBe (zBe (zBe (zBe (hM C)).2).2).2).2).2).2 n hn
  .obtain⟨nm,hm⟩:∃nm,(nm,m)∈f9:=by
    have:(f9.map (·.2)).contains m=true:=Oo _ (JY hr) C (nA C) (by rw[hr];rfl)
    obtain⟨p,hp,rfl⟩:=zAt.mp (List.contains_iff_mem.mp this);exact⟨p.1,hp⟩
   refine⟨nm,hm,?_⟩;have:=map_eq ((fun C=>map_eq f3 C (nA C):∀C,_) C) _ hm;dsimp only at this;rw[hr]at this;exact this
  .intro C D e;cases C<;>cases D<;>first |rfl |exact absurd e (Nat.ne_of_beq_eq_false rfl)
 exact⟨c,rfl,rfl,rfl,rfl,rfl,fun _=>id,⟨K,mg,mb,ok,hf⟩,ok,.of f1a,mg_of X G g4⟩
end
theorem t5{b:Addr}:¬aQ (fun _=>none) b:=by
 rintro(h |⟨C,fs,h⟩)
 .exact h rfl
 .cases h
theorem zd{h h':Heap}(S:pW h)(k:∀b o,h.get? b=some o->h'.get? b=some o):pW h':=let ⟨K,X,a,b⟩:=S;⟨K,X.keeps k,a,b⟩
theorem FD{w:World}{s:Shared}{mg mb:Str->Option Value}(Y:pW s.heap)(G:s.heap.Ns mainGlobals mg)(B:s.heap.Ns builtinsNs mb)(nl:s.heap.NoLimit)(bu:∀x:Str,x≠"__name__"->mb x=bootBuiltins x)
  {a p:Addr} {is:List Int} {vs:List Value} (ha:mg "law"=some (.ref a)) (hl:s.heap.IsList p vs.toArray) (hi:IntsAre vs is) (hn:is.length<=63) {P:Result->Shared->Prop}
  (h:∀s':Shared,(∀b o,s.heap.get? b=some o->s'.heap.get? b=some o)->s'.os=s.os->s'.gens=s.gens->P (.ok (.ret (.bool true))) s'):
  codeAny (model prog w) callerA (.call (.ref a) ⟨[.ref p],[]⟩) P s:=by
 obtain⟨K,X,h1,h2⟩:=Y;obtain⟨c,e1,e2,e3,e4,e5,hb,O,ok,F,hm⟩:=Oq (w:=w) X h1 h2 G B nl bu hl (fun c=>gX hi) hn;rw[hm]at ha;cases ha;subst e1;have I:Inv c.toCx (fun _=>none) s:=⟨e3.symm,trivial,e4.symm,fun b o e=>by rw[←e2];exact e,nofun,fun b h=>absurd h t5,nofun,fun b h=>absurd h (hb b)⟩
 refine codeAny_mono (F.call ok (m:=401) (l:=[.arg]) (H:=fun _=>none) (Q:=fun v _=>v= .bool true) rfl (JV O (by decide) (R:=fun v _=>v= .bool true) fun _=>rfl) ⟨rfl,by decide+kernel,by decide+kernel⟩ I ⟨_,[],rfl,by refine(?_:_=Value.ref c.script);rw[e5],rfl⟩) fun res s' b=>?_
 rcases res with e |(v |_ |_ |_)<;>first |exact b.elim |skip
 obtain⟨x,H',I',S',r,rfl⟩:=b;cases (show _=Value.bool true from r)
 exact h s' (fun b o e=>S'.gG e t5) (I'.os.trans e4) (I'.gens.trans e3)
set_option tactic.hygienic true in
theorem final(De:LeftO wk q1 pX Qc (fun s=>pW s.heap) (fun _=>True) 12000):PySem.Challenge.rw_no0016_01.Holds:=by
 refine holds_law Hu fun Un=>?_;refine holds_open (r:=PySem.Challenge.rw_no0016_01.row) (XP:=fun _ _=>True) (YP:=fun _ h=>pW h) De (fun w s e=>by rw[e];trivial) (fun w h h' S k=>zd S k) (fun _ _=>trivial) (fun _ _ _ _ _=>trivial) (by rfl) (by rfl) (by rfl) (fun s e=>recFacts_of e) (by rfl) Un (by decide+kernel) ⟨rfl,rfl,rfl,rfl,rfl,by decide+kernel⟩ ?hw ?hc
 case hw=>w_witness2
 intro w yc ah mg mb G Y a o pm cd doc dV kV ho hd Gh hD hmg hg args vals as vN Uo Fo hwl Gz;clear ho hd Gh hD
 wrow_args vN Uo Fo hwl Gz
 rename_i is _ _ _ _ _ _ _ p vs _ hL _ _ _ hI _ hn _
 refine enter_call (FD Y G.T.g G.T.b G.T.nolimit G.T.builtins hmg hL hI (by omega) fun s' k os gs=>?_)
 exact⟨.inl ⟨_,.bool true,[],rfl,fun _=>rfl,.bool _,by wrow_post,fun _=>⟨.nil,nofun⟩⟩,.of_keep k,os,.of_eq (by rw[gs];rw[hg])⟩
theorem De:LeftO wk q1 pX Qc (fun s=>pW s.heap) (fun _=>True) 12000:=
 DE (out:=fun s=>BI (KT s ti)) (xK:=fun s=>BJ (KT s ti)) Hs Ht K2 rfl (fun st h1 h2=>⟨KT st ti,K1 _ _,h1,h2⟩) EF I5 I6
end Mine.Internal
end
theorem PySem.Challenge.cw_no0016_01_holds : PySem.Challenge.rw_no0016_01.Holds :=
 Mine.Internal.final Mine.Internal.De
